import PyProof.Rows.All
import Wide.All
import OpenK.AllK
import Wide.FinOn
import HandS.ForMost
import HandS.ForExc
import KE.KDictKeyed
import KE.KeyNested
import PyProof.EqAt
import PyProof.EqKinds
import PyProof.NeKinds
import HandS.IsInst
import HandS.CallSlots
import HandS.Defaults
import HandS.Head0
import HandS.Head1
import HandS.Head2
import HandS.HeadEnd
import HandS.HeadHook1
import HandS.HeadHook2
import HandS.Property
import HandS.MakeKwOnly
import HandS.ClsMeth
import HandS.WordsExc
import HandS.TryOnly
import HandS.TupAny
import KE.GoesEnum
import HandS.More
import HandS.DictComp
import HandS.TupMul
import HandS.Style
import HandS.Flow
import HandS.ExcInit
import KE.KExcSuper
import HandS.ExcField
import HandS.ExcIs
import PyProof.StrOps2
import KE.KDictDisplayH
import HandS.SortKw
import KE.DataMinMax
import KE.KDictWalk
import KE.KDictItemsList
import HandS.FStr
import HandS.Star
import HandS.Zip
import PySem.Challenge.RW_leverhouse_k67_changed_state
set_option Elab.async false
set_option linter.all false
set_option maxRecDepth 100000
set_option maxHeartbeats 4000000
namespace Gm
open PySem PySem.Spec L2
structure Df where
  loc : PySem.W.Frag → Addr
  name : Str
  qual : Str
  params : Arguments
  body : List Stmt
  scope : Scope
  dfl : PySem.W.Frag → List V
  kwd : PySem.W.Frag → List (Str × V)
  cl : List Str
abbrev FnX : Type := Option (Str × Str × Arguments × FuncBody × Scope × Addr × List Str × Addr)
def fnAt (K : PySem.W.Frag) (f : Addr) : FnX := match K.lookup f with
  | some ⟨_, _, .func d, _⟩ => some (d.name, d.qualname, d.params, d.body, d.scope, d.globals, d.closure.map (·.1), d.builtins)
  | _ => none
def Df.want (d : Df) : FnX := some (d.name, d.qual, d.params, .stmts d.body, d.scope, mainGlobals, d.cl, builtinsNs)
def Df.good (K : PySem.W.Frag) (d : Df) : Bool := PySem.W.keepIn K (.ref (d.loc K)) && (match K.lookup (d.loc K) with
  | some ⟨_, _, .func q, _⟩ => PySem.W.codeIn K q.code d.qual && (He.dflB K q.defaults (d.dfl K) && He.kwdB K q.kwdefaults (d.kwd K))
  | _ => false)
abbrev Fact : Type := PySem.W.Frag → Bool
abbrev Ob : Type := Bool × List FnX
def obF (fa : List Fact) (fn : List Df) (K : PySem.W.Frag) : Ob := ((fa.all fun f => f K) && fn.all fun d => d.good K, fn.map fun d => fnAt K (d.loc K))
def vaF (fn : List Df) : Ob := (true, fn.map Df.want)
def Told (fa : List Fact) (fn : List Df) (K : PySem.W.Frag) : Prop := obF fa fn K = vaF fn
def obFG (n : Nat) (fa : List Fact) (fn : List Df) (g : Addr → Option Obj) : Ob := obF fa fn (He.frG g (cStatics :: He.asD g n))
def hookF (n : Nat) (fa : List Fact) (fn : List Df) : PySem.W.Hook where
  α := Ob
  obs := fun s => obFG n fa fn s.heap.get?
  val := fun _ => vaF fn
  says := fun _ h => ∃ K : PySem.W.Frag, K.In h ∧ Told fa fn K
  of := fun _ _ e => ⟨_, He.frG_in, e⟩
  keeps := fun _ _ _ ⟨K, hK, c⟩ k => ⟨K, PySem.W.Frag.In.keeps hK k, c⟩
theorem obFG_eq {n : Nat} {fa : List Fact} {fn : List Df} {g : Addr → Option Obj} {s : Shared} (h : ∀ a, g a = s.heap.get? a) : obFG n fa fn g = (hookF n fa fn).obs s := by
  have e : g = s.heap.get? := funext h
  rw [e]; rfl
def recAt (K : PySem.W.Frag) (p : Addr) (T : String) : Addr := match PySem.W.recIn K p T with
  | some (.ref g :: _) => g
  | _ => 0
/-- a property's getter, a static method's def -/
abbrev propAt (K : PySem.W.Frag) (C m : Str) : Addr := recAt K (He.ma K (He.ga K C) m) "property"
abbrev statAt (K : PySem.W.Frag) (C m : Str) : Addr := recAt K (He.ma K (He.ga K C) m) "staticmethod"
abbrev methAt (K : PySem.W.Frag) (C m : Str) : Addr := He.ma K (He.ga K C) m
def fProp (C m : Str) : Fact := fun K => decide (PySem.W.findIn K (.ref (He.ga K C)) m = some (some (.ref (methAt K C m)))) && (decide (PySem.W.specialIn K (.ref (methAt K C m)) "__get__" = some (some (.builtin "property.__get__"))) &&
  (decide (PySem.W.takesIn K (.ref (methAt K C m)) = some true) && (match PySem.W.recIn K (methAt K C m) "property" with | some (.ref _ :: _) => true | _ => false)))
def fRead (C : Str) : Fact := fun K => PySem.W.readsIn K (He.ga K C) (.type "type") && decide (PySem.W.specialIn K (.ref (He.ga K C)) "__getattribute__" = some (some (.builtin "type.__getattribute__")))
/-- a whole number of a class -/
def fInt (C m : Str) (i : Int) : Fact := fun K => match PySem.W.findCls K (.ref (He.ga K C)) (.type "type") m with
  | some (.val (.int j _)) => decide (j = i)
  | _ => false
def fStat (C m : Str) : Fact := fun K => (match PySem.W.findCls K (.ref (He.ga K C)) (.type "type") m with
  | some (.get (.builtin g) (.ref p) .none (.ref D)) => decide (g = "staticmethod.__get__") && (decide (p = methAt K C m) && decide (D = He.ga K C))
  | _ => false) && ((match PySem.W.recIn K (methAt K C m) "staticmethod" with | some (.ref _ :: _) => true | _ => false) && PySem.W.keepIn K (.ref (statAt K C m)))
/-- a keyword-only default that is an object -/
def kwAt (K : PySem.W.Frag) (f : Addr) (x : Str) : Addr := match K.lookup f with
  | some ⟨_, _, .func d, _⟩ => (match d.kwdefaults with
    | .ref D => (match PySem.W.nsIn K D x with
      | some (some (.ref q)) => q
      | _ => 0)
    | _ => 0)
  | _ => 0
end Gm
set_option Elab.async false
set_option synthInstance.maxHeartbeats 2000000
set_option synthInstance.maxSize 4000
set_option linter.all false
set_option maxRecDepth 100000
set_option maxHeartbeats 4000000
namespace Lw
open PySem PySem.Spec L2 Gm
abbrev topS (i : Nat) : Stmt := PySem.Challenge.pw_leverhouse_k67_changed_state.main.body.getD i (.Pass ⟨0, 0, 0, 0⟩)
abbrev s_l_row : Stmt := topS 24
abbrev s_l_numbers : Stmt := topS 25
abbrev s_l_names : Stmt := topS 27
abbrev s_l_pick : Stmt := topS 26
abbrev s_l_loads : Stmt := topS 28
abbrev s_l_contacts : Stmt := topS 29
abbrev s_l_spec : Stmt := topS 30
abbrev s_l_two : Stmt := topS 41
abbrev s_l_reached : Stmt := topS 33
abbrev s_l_edges : Stmt := topS 32
abbrev s_l_short : Stmt := topS 35
abbrev s_g_Board_is_name : Stmt := inClass (topS 13) 6
abbrev s_g_are_names : Stmt := topS 9
abbrev s_g_is_between : Stmt := topS 10
abbrev s_g_are_loads : Stmt := topS 11
abbrev s_g_is_contact : Stmt := topS 12
abbrev s_g_Board_init : Stmt := inClass (topS 13) 5
abbrev s_l_board : Stmt := topS 31
abbrev s_g_Board_movers : Stmt := inClass (topS 13) 9
abbrev s_g_Board_minus : Stmt := inClass (topS 13) 8
abbrev s_g_reached : Stmt := topS 18
abbrev s_g_closes : Stmt := topS 15
abbrev s_g_closed_contacts : Stmt := topS 16
abbrev s_g_paths : Stmt := topS 17
abbrev s_g_Board_plus : Stmt := inClass (topS 13) 7
abbrev s_g_fed : Stmt := topS 19
abbrev s_g_is_short : Stmt := topS 20
abbrev s_g_changed_state : Stmt := topS 22
abbrev s_l_changed : Stmt := topS 42
abbrev s_l_law : Stmt := topS 43
end Lw
set_option Elab.async false
set_option synthInstance.maxHeartbeats 2000000
set_option synthInstance.maxSize 4000
set_option linter.all false
set_option maxRecDepth 100000
set_option maxHeartbeats 4000000
namespace Lw
open PySem PySem.Spec L2 Gm
def d_l_row : Df := ⟨fun K => (He.ga K "_law_row"), "_law_row", "_law_row", defArgs s_l_row, defBody s_l_row, defScope s_l_row, fun _ => [], fun K => [], []⟩
def d_l_numbers : Df := ⟨fun K => (He.ga K "_law_numbers"), "_law_numbers", "_law_numbers", defArgs s_l_numbers, defBody s_l_numbers, defScope s_l_numbers, fun _ => [], fun K => [], []⟩
def d_l_names : Df := ⟨fun K => (He.ga K "_law_names"), "_law_names", "_law_names", defArgs s_l_names, defBody s_l_names, defScope s_l_names, fun _ => [], fun K => [], []⟩
def d_l_pick : Df := ⟨fun K => (He.ga K "_law_pick"), "_law_pick", "_law_pick", defArgs s_l_pick, defBody s_l_pick, defScope s_l_pick, fun _ => [], fun K => [], []⟩
def d_l_loads : Df := ⟨fun K => (He.ga K "_law_loads"), "_law_loads", "_law_loads", defArgs s_l_loads, defBody s_l_loads, defScope s_l_loads, fun _ => [], fun K => [], []⟩
def d_l_contacts : Df := ⟨fun K => (He.ga K "_law_contacts"), "_law_contacts", "_law_contacts", defArgs s_l_contacts, defBody s_l_contacts, defScope s_l_contacts, fun _ => [], fun K => [], []⟩
def d_l_spec : Df := ⟨fun K => (He.ga K "_law_spec"), "_law_spec", "_law_spec", defArgs s_l_spec, defBody s_l_spec, defScope s_l_spec, fun _ => [], fun K => [], []⟩
def d_l_two : Df := ⟨fun K => (He.ga K "_law_two"), "_law_two", "_law_two", defArgs s_l_two, defBody s_l_two, defScope s_l_two, fun _ => [], fun K => [], []⟩
def d_l_reached : Df := ⟨fun K => (He.ga K "_law_reached"), "_law_reached", "_law_reached", defArgs s_l_reached, defBody s_l_reached, defScope s_l_reached, fun _ => [], fun K => [], []⟩
def d_l_edges : Df := ⟨fun K => (He.ga K "_law_edges"), "_law_edges", "_law_edges", defArgs s_l_edges, defBody s_l_edges, defScope s_l_edges, fun _ => [], fun K => [], []⟩
def d_l_short : Df := ⟨fun K => (He.ga K "_law_short"), "_law_short", "_law_short", defArgs s_l_short, defBody s_l_short, defScope s_l_short, fun _ => [], fun K => [], []⟩
def d_g_Board_is_name : Df := ⟨fun K => (statAt K "Board" "is_name"), "is_name", "Board.is_name", defArgs s_g_Board_is_name, defBody s_g_Board_is_name, defScope s_g_Board_is_name, fun _ => [], fun K => [], []⟩
def d_g_are_names : Df := ⟨fun K => (He.ga K "are_names"), "are_names", "are_names", defArgs s_g_are_names, defBody s_g_are_names, defScope s_g_are_names, fun _ => [], fun K => [], []⟩
def d_g_is_between : Df := ⟨fun K => (He.ga K "is_between"), "is_between", "is_between", defArgs s_g_is_between, defBody s_g_is_between, defScope s_g_is_between, fun _ => [], fun K => [], []⟩
def d_g_are_loads : Df := ⟨fun K => (He.ga K "are_loads"), "are_loads", "are_loads", defArgs s_g_are_loads, defBody s_g_are_loads, defScope s_g_are_loads, fun _ => [], fun K => [], []⟩
def d_g_is_contact : Df := ⟨fun K => (He.ga K "is_contact"), "is_contact", "is_contact", defArgs s_g_is_contact, defBody s_g_is_contact, defScope s_g_is_contact, fun _ => [], fun K => [], []⟩
def d_g_Board_init : Df := ⟨fun K => (methAt K "Board" "__init__"), "__init__", "Board.__init__", defArgs s_g_Board_init, defBody s_g_Board_init, defScope s_g_Board_init, fun _ => [], fun K => [("switches", .ref (kwAt K (methAt K "Board" "__init__") "switches")), ("relays", .ref (kwAt K (methAt K "Board" "__init__") "relays")), ("contacts", .ref (kwAt K (methAt K "Board" "__init__") "contacts"))], []⟩
def d_l_board : Df := ⟨fun K => (He.ga K "_law_board"), "_law_board", "_law_board", defArgs s_l_board, defBody s_l_board, defScope s_l_board, fun _ => [], fun K => [], []⟩
def d_g_Board_movers : Df := ⟨fun K => (propAt K "Board" "movers"), "movers", "Board.movers", defArgs s_g_Board_movers, defBody s_g_Board_movers, defScope s_g_Board_movers, fun _ => [], fun K => [], []⟩
def d_g_Board_minus : Df := ⟨fun K => (propAt K "Board" "minus"), "minus", "Board.minus", defArgs s_g_Board_minus, defBody s_g_Board_minus, defScope s_g_Board_minus, fun _ => [], fun K => [], []⟩
def d_g_reached : Df := ⟨fun K => (He.ga K "reached"), "reached", "reached", defArgs s_g_reached, defBody s_g_reached, defScope s_g_reached, fun _ => [], fun K => [], []⟩
def d_g_closes : Df := ⟨fun K => (He.ga K "closes"), "closes", "closes", defArgs s_g_closes, defBody s_g_closes, defScope s_g_closes, fun _ => [], fun K => [], []⟩
def d_g_closed_contacts : Df := ⟨fun K => (He.ga K "closed_contacts"), "closed_contacts", "closed_contacts", defArgs s_g_closed_contacts, defBody s_g_closed_contacts, defScope s_g_closed_contacts, fun _ => [], fun K => [], []⟩
def d_g_paths : Df := ⟨fun K => (He.ga K "paths"), "paths", "paths", defArgs s_g_paths, defBody s_g_paths, defScope s_g_paths, fun _ => [], fun K => [], []⟩
def d_g_Board_plus : Df := ⟨fun K => (propAt K "Board" "plus"), "plus", "Board.plus", defArgs s_g_Board_plus, defBody s_g_Board_plus, defScope s_g_Board_plus, fun _ => [], fun K => [], []⟩
def d_g_fed : Df := ⟨fun K => (He.ga K "fed"), "fed", "fed", defArgs s_g_fed, defBody s_g_fed, defScope s_g_fed, fun _ => [], fun K => [], []⟩
def d_g_is_short : Df := ⟨fun K => (He.ga K "is_short"), "is_short", "is_short", defArgs s_g_is_short, defBody s_g_is_short, defScope s_g_is_short, fun _ => [], fun K => [], []⟩
def d_g_changed_state : Df := ⟨fun K => (He.ga K "changed_state"), "changed_state", "changed_state", defArgs s_g_changed_state, defBody s_g_changed_state, defScope s_g_changed_state, fun _ => [], fun K => [], []⟩
def d_l_changed : Df := ⟨fun K => (He.ga K "_law_changed"), "_law_changed", "_law_changed", defArgs s_l_changed, defBody s_l_changed, defScope s_l_changed, fun _ => [], fun K => [], []⟩
def d_l_law : Df := ⟨fun K => (He.ga K "law"), "law", "law", defArgs s_l_law, defBody s_l_law, defScope s_l_law, fun _ => [], fun K => [], []⟩
abbrev P0 : Program := (PySem.Challenge.rw_leverhouse_k67_changed_state).prog
def fn : List Df := [d_l_row, d_l_numbers, d_l_names, d_l_pick, d_l_loads, d_l_contacts, d_l_spec, d_l_two, d_l_reached, d_l_edges, d_l_short, d_g_Board_is_name, d_g_are_names, d_g_is_between, d_g_are_loads, d_g_is_contact, d_g_Board_init, d_l_board, d_g_Board_movers, d_g_Board_minus, d_g_reached, d_g_closes, d_g_closed_contacts, d_g_paths, d_g_Board_plus, d_g_fed, d_g_is_short, d_g_changed_state, d_l_changed, d_l_law]
def fa0 : List Fact := [fun K => He.Fa.ok K (.free "abs"),
  fun K => He.Fa.ok K (.free "all"),
  fun K => He.Fa.ok K (.free "enumerate"),
  fun K => He.Fa.ok K (.free "int"),
  fun K => He.Fa.ok K (.free "isinstance"),
  fun K => He.Fa.ok K (.free "len"),
  fun K => He.Fa.ok K (.free "list"),
  fun K => He.Fa.ok K (.free "max"),
  fun K => He.Fa.ok K (.free "range"),
  fun K => He.Fa.ok K (.free "str"),
  fun K => He.Fa.ok K (.free "tuple"),
  fun K => He.Fa.ok K (.free "zip"),
  fun K => He.Fa.ok K (.glo "_law_row"),
  fun K => He.Fa.ok K (.glo "_law_numbers"),
  fun K => He.Fa.ok K (.glo "_law_pick"),
  fun K => He.Fa.ok K (.glo "_law_names"),
  fun K => He.Fa.ok K (.glo "_law_loads"),
  fun K => He.Fa.ok K (.glo "_law_contacts"),
  fun K => He.Fa.ok K (.glo "_law_spec"),
  fun K => He.Fa.ok K (.glo "_law_two"),
  fun K => He.Fa.ok K (.glo "_law_edges"),
  fun K => He.Fa.ok K (.glo "_law_reached"),
  fun K => He.Fa.ok K (.glo "_law_short"),
  fun K => He.Fa.ok K (.glo "Board"),
  fun K => He.Fa.ok K (.cls "Board"),
  fun K => He.Fa.ok K (.int "MOST_NAME_CHARS" (12)),
  fun K => He.Fa.ok K (.str "NAME_CHARS" ("abcdefghijklmnopqrstuvwxyz0123456789" : Str)),
  fRead "Board",
  fStat "Board" "is_name",
  fInt "Board" "MOST_NODES" 16]
def fa1 : List Fact := [fun K => He.Fa.ok K (.glo "are_names"),
  fInt "Board" "MOST_SWITCHES" 6,
  fun K => He.Fa.ok K (.exc "InvalidBoard"),
  fun K => He.Fa.ok K (.glo "InvalidBoard"),
  fInt "Board" "MOST_RELAYS" 8,
  fInt "Board" "MOST_LAMPS" 8,
  fun K => He.Fa.ok K (.glo "is_between"),
  fun K => He.Fa.ok K (.glo "are_loads"),
  fInt "Board" "MOST_CONTACTS" 40,
  fun K => He.tupB K "WHENS" [.str ("make" : Str), .str ("break" : Str)],
  fun K => He.Fa.ok K (.glo "WHENS"),
  fun K => He.tupB K "WAYS" [.str ("both" : Str), .str ("forward" : Str)],
  fun K => He.Fa.ok K (.glo "WAYS"),
  fun K => He.Fa.ok K (.glo "is_contact"),
  fun K => He.Fa.ok K (.noat "Board" "contacts"),
  fun K => He.Fa.ok K (.noat "Board" "lamps"),
  fun K => He.Fa.ok K (.noat "Board" "relays"),
  fun K => He.Fa.ok K (.noat "Board" "switches"),
  fun K => He.Fa.ok K (.noat "Board" "nodes"),
  fun K => He.Fa.ok K (.mkr "Board"),
  fun K => He.Fa.ok K (.glo "_law_board"),
  fProp "Board" "movers",
  fProp "Board" "minus",
  fun K => He.Fa.ok K (.glo "closes"),
  fun K => He.Fa.ok K (.glo "closed_contacts"),
  fun K => He.Fa.ok K (.glo "paths"),
  fProp "Board" "plus",
  fun K => He.Fa.ok K (.glo "reached"),
  fun K => He.Fa.ok K (.glo "fed"),
  fun K => He.Fa.ok K (.glo "is_short")]
def fa2 : List Fact := [fun K => He.Fa.ok K (.glo "changed_state"),
  fun K => He.Fa.ok K (.glo "_law_changed"),
  fun K => He.Fa.ok K (.glo "law")]
def fa : List Fact := fa0 ++ fa1 ++ fa2
abbrev R : PySem.W.OpenRow := PySem.W.OpenLaw.row PySem.Challenge.rw_leverhouse_k67_changed_state
abbrev hk : PySem.W.Hook := hookF 6 fa fn
def ob (s : PySem.W.SharedT) : Ob := obFG 6 fa fn (HandSHeadRun.getT s)
theorem ob_eq (s : PySem.W.SharedT) : ob s = hk.obs s.abs := obFG_eq (HandSHeadRun.getT_eq s)
def loose0 : List Str := ["_wall", "LeverhouseError", "InvalidBoard", "NAME_CHARS", "MOST_NAME_CHARS", "WHENS", "WAYS", "are_names", "is_between", "are_loads", "is_contact", "Board"]
def loose1 : List Str := ["closes", "closed_contacts", "paths", "reached", "fed", "is_short", "changed_state", "_law_row", "_law_numbers", "_law_pick", "_law_names", "_law_loads"]
def loose2 : List Str := ["_law_contacts", "_law_spec", "_law_board", "_law_edges", "_law_reached", "_law_live", "_law_short", "_law_due", "_law_first", "_law_step", "_law_show", "_law_moves"]
def loose3 : List Str := ["_law_two", "_law_changed"]
def loose : List Str := loose0 ++ loose1 ++ loose2 ++ loose3
theorem run (w : World) : HandSHeadRun.RunEq R (PySem.W.view R.prog [43]) hk ob 8000 loose w := by
  intro os
  kernel_rfl
end Lw
set_option Elab.async false
set_option linter.all false
set_option maxRecDepth 100000
set_option maxHeartbeats 4000000
namespace Gm
open PySem PySem.Spec L2

/-! ## dicts whose keys are nested tuples -/
abbrev NE := NestedKey × Addr × V
def nRel (p : NE) (q : NestedKey × Addr × Value) : Prop := p.1 = q.1 ∧ p.2.1 = q.2.1 ∧ RelV p.2.2 q.2.2
def DnP (P : Program) (w : World) (a : Addr) (kvs : List NE) (h : Heap) : Prop := kvs.length ≤ sizeLine ∧ (a == sysModules) = false ∧ ∃ xs : List (NestedKey × Addr × Value), Paired nRel kvs xs ∧
  ∃ o es ep, h.get? a = some o ∧ o.ExactDict ∧ o.data = .dict es ep ∧ es.toList = xs.map (entryOfKey (nestedKind P w)) ∧ (xs.map (·.1)).Nodup
/-- the dict at a, its entries: key, the key's place, value -/
def dnO (P : Program) (w : World) (a : Addr) (kvs : List NE) : HO := .ext (DnP P w a kvs)
def getN (kvs : List NE) (k : NestedKey) : Option V := (kvs.find? fun e => decide (e.1 = k)).map (·.2.2)
def putN (kvs : List NE) (k : NestedKey) (b : Addr) (v : V) : List NE := if (kvs.any fun e => decide (e.1 = k)) = true then kvs.map (fun e => if e.1 = k then (e.1, e.2.1, v) else e) else kvs ++ [(k, b, v)]
theorem putN_len {kvs : List NE} {k : NestedKey} {b : Addr} {v : V} : (putN kvs k b v).length ≤ kvs.length + 1 := by
  unfold putN; split <;> simp
section
variable {kvs : List NE} {xs : List (NestedKey × Addr × Value)}
theorem nRel.len (r : Paired nRel kvs xs) : kvs.length = xs.length := Paired.length r
theorem nRel.get (r : Paired nRel kvs xs) (k : NestedKey) : RelO (getN kvs k) ((atKey xs k).map (·.2)) := by
  induction r with
  | nil => exact True.intro
  | @cons p q ps qs h t ih =>
    obtain ⟨h1, h2, h3⟩ := h
    by_cases e : p.1 = k
    · have e2 : q.1 = k := h1.symm.trans e
      have l1 : getN (p :: ps) k = some p.2.2 := by simp [getN, List.find?_cons, e]
      have l2 : (atKey (q :: qs) k).map (·.2) = some q.2.2 := by simp [atKey, List.find?_cons, e2]
      rw [l1, l2]; exact h3
    · have e2 : ¬ q.1 = k := fun z => e (h1.trans z)
      have l1 : getN (p :: ps) k = getN ps k := by simp [getN, List.find?_cons, e]
      have l2 : (atKey (q :: qs) k).map (·.2) = (atKey qs k).map (·.2) := by simp [atKey, List.find?_cons, e2]
      rw [l1, l2]; exact ih
theorem nRel.any (r : Paired nRel kvs xs) (k : NestedKey) : (kvs.any fun e => decide (e.1 = k)) = (atKey xs k).isSome := by
  induction r with
  | nil => rfl
  | @cons p q ps qs h t ih =>
    by_cases e : p.1 = k
    · have e2 : q.1 = k := h.1.symm.trans e
      simp [atKey, List.find?_cons, e, e2]
    · have e2 : ¬ q.1 = k := fun z => e (h.1.trans z)
      have l2 : (atKey (q :: qs) k).isSome = (atKey qs k).isSome := by simp [atKey, List.find?_cons, e2]
      rw [l2, ← ih]; simp [e]
theorem nRel.set (r : Paired nRel kvs xs) (k : NestedKey) {v : V} {u : Value} (rv : RelV v u) : Paired nRel (kvs.map (fun e => if e.1 = k then (e.1, e.2.1, v) else e)) (xs.map (putAt k u)) := by
  induction r with
  | nil => exact .nil
  | @cons p q ps qs h t ih =>
    rw [List.map_cons, List.map_cons]
    refine .cons ?_ ih
    unfold putAt
    by_cases e : p.1 = k
    · have e2 : q.1 = k := h.1.symm.trans e
      rw [if_pos e, if_pos e2]; exact ⟨h.1, h.2.1, rv⟩
    · have e2 : ¬ q.1 = k := fun z => e (h.1.trans z)
      rw [if_neg e, if_neg e2]; exact h
theorem nRel.put (r : Paired nRel kvs xs) (k : NestedKey) {b : Addr} {v : V} {u : Value} (rv : RelV v u) : Paired nRel (putN kvs k b v) (storedH xs k b u) := by
  unfold putN storedH
  rw [nRel.any r k]
  split
  · exact nRel.set r k rv
  · have app : ∀ {l1 l2 : List NE} {m1 m2 : List (NestedKey × Addr × Value)}, Paired nRel l1 m1 → Paired nRel l2 m2 → Paired nRel (l1 ++ l2) (m1 ++ m2) := by
      intro l1 l2 m1 m2 a b
      induction a with
      | nil => exact b
      | cons h t ih => exact .cons h ih
    exact app r (.cons ⟨rfl, rfl, rv⟩ .nil)
end
/-- at b stands the key k -/
def NK (X : Cx) (H : Hp) (k : NestedKey) (b : Addr) : Prop := ∀ pins σ s, Inv X pins σ H s → (nestedKind X.prog X.w).is s.heap k b
section
variable {X : Cx} {pins : List (Addr × Obj)} {σ : L2.St} {H : Hp} {s : Shared} {a b : Addr} {v : V} {k : NestedKey} {kvs : List NE} {A : Around} {E : Value → Shared → Prop}
theorem dn_at (I : Inv X pins σ H s) (e : Rd H a (dnO X.prog X.w a kvs)) : DnP X.prog X.w a kvs s.heap := (Rd.ok e I.hok).1
theorem dn_of (I : Inv X pins σ H s) (e : Rd H a (dnO X.prog X.w a kvs)) (hk : ∀ p ∈ kvs, NK X H p.1 p.2.1) : kvs.length ≤ sizeLine ∧ (a == sysModules) = false ∧ ∃ xs, Paired nRel kvs xs ∧ s.heap.DictOfH (nestedKind X.prog X.w) a xs := by
  obtain ⟨z, y, xs, r, o, es, ep, h1, h2, h3, h4, h5⟩ := dn_at I e
  refine ⟨z, y, xs, r, o, es, ep, h1, h2, h3, h4, fun q hq => ?_, h5⟩
  have all : ∀ {l : List NE} {m : List (NestedKey × Addr × Value)}, Paired nRel l m → (∀ p ∈ l, NK X H p.1 p.2.1) → ∀ q ∈ m, (nestedKind X.prog X.w).is s.heap q.1 q.2.1 := by
    intro l m t
    induction t with
    | nil => intro _ q hq; exact nomatch hq
    | @cons p q ps qs hh t ih =>
      intro hl q' hq
      rcases List.mem_cons.mp hq with rfl | hq
      · have := hl p (List.mem_cons_self ..) _ _ _ I
        rw [← hh.1, ← hh.2.1]; exact this
      · exact ih (fun p hp => hl p (List.mem_cons_of_mem _ hp)) q' hq
  exact all r hk q hq
theorem dn_typeIs (I : Inv X pins σ H s) (e : Rd H a (dnO X.prog X.w a kvs)) : s.TypeIs (.ref a) "dict" := by
  obtain ⟨_, _, xs, _, o, es, ep, h1, h2, _⟩ := dn_at I e
  exact ⟨o, h1, h2.1⟩
theorem room8 (hu : A.units + 64 < cLine) {P : Program} {w : World} : (nestedKind P w).room A.in1 := by
  show A.units + 1 + 8 < cLine
  omega
theorem n_getItem {Q : Value → Shared → Prop} (hu : A.units + 64 < cLine) (I : Inv X pins σ H s) (e : Rd H a (dnO X.prog X.w a kvs)) (hk : ∀ p ∈ kvs, NK X H p.1 p.2.1) (hb : NK X H k b) (l : getN kvs k = some v) (h : ∀ w' s', Inv X pins σ H s' → RelV v w' → Q w' s') :
    wpAny (model X.prog X.w) A (getItem (.ref a) (.ref b)) Q E s := by
  obtain ⟨z, hd, xs, rel, dd⟩ := dn_of I e hk
  obtain ⟨w', hw, rw'⟩ := RelO.some_of (v := v) (o := (atKey xs k).map (·.2)) (by rw [← l]; exact nRel.get rel k)
  obtain ⟨p, hp, hp2⟩ := Option.map_eq_some_iff.mp hw
  refine wpAny_getItem_heap (room8 hu) (hb _ _ _ I) dd hp ?_
  rw [hp2]
  exact h w' _ (I.tok _) rw'
theorem n_in {Q : Value → Shared → Prop} (hu : A.units + 64 < cLine) (I : Inv X pins σ H s) (e : Rd H a (dnO X.prog X.w a kvs)) (hk : ∀ p ∈ kvs, NK X H p.1 p.2.1) (hb : NK X H k b) (h : ∀ s', Inv X pins σ H s' → Q (.bool (getN kvs k).isSome) s') :
    wpAny (model X.prog X.w) A (compareOp .In (.ref b) (.ref a)) Q E s := by
  obtain ⟨z, hd, xs, rel, dd⟩ := dn_of I e hk
  refine wpAny_in_heap (room8 hu) (hb _ _ _ I) hd dd ?_
  have q := (nRel.get rel k).isSome_eq
  rw [Option.isSome_map] at q
  rw [← q]
  exact h _ (I.tok _)
theorem n_notIn {Q : Value → Shared → Prop} (hu : A.units + 64 < cLine) (I : Inv X pins σ H s) (e : Rd H a (dnO X.prog X.w a kvs)) (hk : ∀ p ∈ kvs, NK X H p.1 p.2.1) (hb : NK X H k b) (h : ∀ s', Inv X pins σ H s' → Q (.bool (!(getN kvs k).isSome)) s') :
    wpAny (model X.prog X.w) A (compareOp .NotIn (.ref b) (.ref a)) Q E s := by
  obtain ⟨z, hd, xs, rel, dd⟩ := dn_of I e hk
  show wpAny _ _ (do return .bool (!(← contains (.ref a) (.ref b)))) Q E s
  refine wpAny_bind (wpAny_contains_heap (room8 hu) (hb _ _ _ I) hd dd (wpAny_pure ?_))
  have q := (nRel.get rel k).isSome_eq
  rw [Option.isSome_map] at q
  rw [← q]
  exact h _ (I.tok _)
theorem dnP_keep {P : Program} {w : World} {a : Addr} {kvs : List NE} : ∀ h1 h2 : Heap, DnP P w a kvs h1 → (∀ o, h1.get? a = some o → h2.get? a = some o) → DnP P w a kvs h2 :=
  fun h1 h2 ⟨z, y, xs, r, o, es, ep, e1, e2⟩ k => ⟨z, y, xs, r, o, es, ep, k _ e1, e2⟩
theorem dn_ok {P : Program} {w : World} {H : Hp} {h : Heap} (x : DnP P w a kvs h) : ObjOk P w H h a (dnO P w a kvs) := by
  obtain ⟨_, _, _, _, o, _, _, e, _⟩ := id x
  exact ⟨x, ⟨o, e⟩, dnP_keep⟩
theorem n_setItem {r : Value} {Q : Unit → Shared → Prop} (hu : A.units + 64 < cLine) (I : Inv X pins σ H s) (e : H a = some (dnO X.prog X.w a kvs)) (hk : ∀ p ∈ kvs, NK X H p.1 p.2.1) (hb : NK X H k b) (hl : kvs.length < sizeLine) (rv : RelV v r)
    (h : ∀ s', Inv X pins σ (upd H a (dnO X.prog X.w a (putN kvs k b v))) s' → Q () s') :
    wpAny (model X.prog X.w) A (setItem (.ref a) (.ref b) r) Q E s := by
  obtain ⟨z, hd, xs, rel, dd⟩ := dn_of I (.inl e) hk
  have hz : xs.length ≤ sizeLine := by rw [← nRel.len rel]; exact z
  have hl2 : (putN kvs k b v).length ≤ sizeLine := by have := putN_len (kvs := kvs) (k := k) (b := b) (v := v); omega
  refine wpAny_setItem_heap (hsz := hz) (room8 hu) (hb _ _ _ I) dd fun h' dd' hs => h _ ?_
  obtain ⟨q, es, ep, hq, h2, h3, h4, _, h5⟩ := dd'
  exact d_write I (by rw [e]; exact True.intro) hs ⟨q, hq⟩ (dn_ok ⟨hl2, hd, _, nRel.put rel k rv, q, es, ep, hq, h2, h3, h4, h5⟩)
theorem n_get2 {d : V} {r : Value} {Q : Value → Shared → Prop} (hu : A.units + 64 < cLine) (I : Inv X pins σ H s) (e : Rd H a (dnO X.prog X.w a kvs)) (hk : ∀ p ∈ kvs, NK X H p.1 p.2.1) (hb : NK X H k b) (rd : RelV d r) (h : ∀ w' s', Inv X pins σ H s' → RelV ((getN kvs k).getD d) w' → Q w' s') :
    wpAny (model X.prog X.w) A (call (.builtin "dict.get") [.ref a, .ref b, r]) Q E s := by
  obtain ⟨z, hd, xs, rel, dd⟩ := dn_of I e hk
  exact call_meetsIn PySem.F.slot_dict_get dd.typeIs PySem.F.entry_dict_get (PySem.F.args_dict_get_3 _ _ _) (meetsH_dict_get_default (nestedKind X.prog X.w) a b hd r) ⟨room8 hu, k, xs, hb _ _ _ I, dd, h _ _ (I.tok _) ((nRel.get rel k).getD rd)⟩
theorem n_len {Q : Value → Shared → Prop} (I : Inv X pins σ H s) (e : Rd H a (dnO X.prog X.w a kvs)) (hk : ∀ p ∈ kvs, NK X H p.1 p.2.1) (h : ∀ t s', Inv X pins σ H s' → Q (.int kvs.length t) s') : wpAny (model X.prog X.w) A (call (.builtin "len") [.ref a]) Q E s := by
  obtain ⟨z, hd, xs, rel, dd⟩ := dn_of I e hk
  have hm : s.heap.DictKeyed (nestedKind X.prog X.w) a (pairsH xs) := ⟨xs, dd, rfl⟩
  have hl : (pairsH xs).length = kvs.length := by rw [pairsH_length, nRel.len rel]
  refine PyProof.Rows.call_len_slot (n := (pairsH xs).length) hm.typeIs PySem.F.slot_dict_len (fun Q' hq => len_keyed hd hm hq) (by omega) (by rw [hl]; rw [sizeLine_eq] at z; omega) ?_
  rw [hl]
  exact h _ _ (I.tok _)
end
end Gm
set_option Elab.async false
set_option linter.all false
set_option maxRecDepth 100000
set_option maxHeartbeats 4000000
namespace Gm
open PySem L2

/-! ## mirror values -/
inductive Pay where
  | n | i (z : Int) | s (z : Str)
structure Exn where
  c : Str
  f : Str
  p : Pay
inductive Mx (α : Type) where
  | ok (a : α) | ex (e : Exn) | no
def Mx.bind {α β : Type} : Mx α → (α → Mx β) → Mx β
  | .ok a, f => f a
  | .ex e, _ => .ex e
  | .no, _ => .no
instance : Monad Mx where
  pure := Mx.ok
  bind := Mx.bind
theorem ok_bind {α β : Type} (a : α) (f : α → Mx β) : (Mx.ok a >>= f) = f a := rfl

/-! ## codes of data -/
inductive Ty where
  | int | bool | str | non | scr | tpl | exn
  | opt (t : Ty) | tup (fs : Ty) | vtup (t : Ty) | hl (fs : Ty) | list (t : Ty)
  | pr (a b : Ty) | nl | sum (a b : Ty) | ins (c : Str) (ns : List Str) (fs : Ty) | dic (k v : Ty) | dicN (P : Program) (w : World) (k v : Ty)
@[reducible] def Ty.den : Ty → Type
  | .int => Int
  | .bool => Bool
  | .str => Str
  | .non => Unit
  | .scr => List Int
  | .tpl => Unit
  | .exn => Addr × Addr × Exn
  | .opt t => Option t.den
  | .tup fs => fs.den
  | .vtup t => List t.den
  | .hl fs => fs.den
  | .list t => List t.den
  | .pr a b => a.den × b.den
  | .nl => Unit
  | .sum a b => Sum a.den b.den
  | .ins _ _ fs => fs.den
  | .dic k v => List (k.den × v.den)
  | .dicN _ _ k v => List (k.den × v.den)
/-- a key, as the hand layer writes it -/
def Ty.key : (t : Ty) → t.den → Key
  | .int, i => .inl i
  | .str, s => .inr s
  | _, _ => .inl 0
def Ty.flat : Ty → Bool
  | .int => true
  | .bool => true
  | .str => true
  | .non => true
  | .scr => false
  | .tpl => true
  | .exn => false
  | .opt t => t.flat
  | .tup fs => fs.flat
  | .vtup t => t.flat
  | .hl _ => false
  | .list _ => false
  | .pr a b => a.flat && b.flat
  | .nl => true
  | .sum a b => a.flat && b.flat
  | .ins _ _ _ => false
  | .dic _ _ => false
  | .dicN _ _ _ _ => false
/-- what may be a key, as the library writes it -/
def Ty.nks : (t : Ty) → t.den → List NestedKey
  | .int, i => [.num i]
  | .bool, b => [.num (if b = true then 1 else 0)]
  | .str, s => [.text s]
  | .non, _ => [.none]
  | .opt t, x => match x with
    | none => [.none]
    | some y => t.nks y
  | .tup fs, x => [.tup (fs.nks x)]
  | .vtup t, xs => [.tup (xs.flatMap t.nks)]
  | .pr a b, x => a.nks x.1 ++ b.nks x.2
  | .nl, _ => []
  | _, _ => []
def Ty.nk (t : Ty) (x : t.den) : NestedKey := (t.nks x).headD .none

def all2 {α : Type} (R : α → V → Prop) : List α → List V → Prop
  | [], [] => True
  | x :: xs, v :: vs => R x v ∧ all2 R xs vs
  | _, _ => False
theorem all2.imp {α : Type} {R S : α → V → Prop} (h : ∀ x v, R x v → S x v) : ∀ {xs : List α} {vs : List V}, all2 R xs vs → all2 S xs vs
  | [], [], _ => True.intro
  | _ :: _, _ :: _, ⟨a, b⟩ => ⟨h _ _ a, all2.imp h b⟩
  | [], _ :: _, z => z.elim
  | _ :: _, [], z => z.elim
theorem all2.len {α : Type} {R : α → V → Prop} : ∀ {xs : List α} {vs : List V}, all2 R xs vs → xs.length = vs.length
  | [], [], _ => rfl
  | _ :: _, _ :: _, ⟨_, b⟩ => congrArg (· + 1) (all2.len b)
  | [], _ :: _, z => z.elim
  | _ :: _, [], z => z.elim
theorem all2.get {α : Type} {R : α → V → Prop} : ∀ {xs : List α} {vs : List V} {i : Nat} {x : α}, all2 R xs vs → xs[i]? = some x → ∃ v, vs[i]? = some v ∧ R x v
  | [], [], _, _, _, e => by simp at e
  | a :: _, v :: _, 0, x, ⟨h, _⟩, e => by
    simp at e; subst e; exact ⟨v, rfl, h⟩
  | _ :: xs, _ :: vs, i + 1, x, ⟨_, h⟩, e => by
    obtain ⟨v, h1, h2⟩ := all2.get (i := i) h (by simpa using e)
    exact ⟨v, by simpa using h1, h2⟩
  | [], _ :: _, _, _, z, _ => z.elim
  | _ :: _, [], _, _, z, _ => z.elim
theorem all2.getV {α : Type} {R : α → V → Prop} : ∀ {xs : List α} {vs : List V} {i : Nat} {v : V}, all2 R xs vs → vs[i]? = some v → ∃ x, xs[i]? = some x ∧ R x v
  | [], [], _, _, _, e => by simp at e
  | a :: _, v :: _, 0, x, ⟨h, _⟩, e => by
    simp at e; subst e; exact ⟨a, rfl, h⟩
  | _ :: xs, _ :: vs, i + 1, x, ⟨_, h⟩, e => by
    obtain ⟨v, h1, h2⟩ := all2.getV (i := i) h (by simpa using e)
    exact ⟨v, by simpa using h1, h2⟩
  | [], _ :: _, _, _, z, _ => z.elim
  | _ :: _, [], _, _, z, _ => z.elim
theorem all2.app {α : Type} {R : α → V → Prop} : ∀ {xs ys : List α} {vs ws : List V}, all2 R xs vs → all2 R ys ws → all2 R (xs ++ ys) (vs ++ ws)
  | [], _, [], _, _, h => h
  | _ :: _, _, _ :: _, _, ⟨a, b⟩, h => ⟨a, all2.app b h⟩
  | [], _, _ :: _, _, z, _ => z.elim
  | _ :: _, _, [], _, z, _ => z.elim
theorem all2.take {α : Type} {R : α → V → Prop} : ∀ {xs : List α} {vs : List V} (n : Nat), all2 R xs vs → all2 R (xs.take n) (vs.take n)
  | [], [], n, _ => by simp [all2]
  | _ :: _, _ :: _, 0, _ => by simp [all2]
  | _ :: _, _ :: _, n + 1, ⟨a, b⟩ => ⟨a, all2.take n b⟩
  | [], _ :: _, _, z => z.elim
  | _ :: _, [], _, z => z.elim
theorem all2.drop {α : Type} {R : α → V → Prop} : ∀ {xs : List α} {vs : List V} (n : Nat), all2 R xs vs → all2 R (xs.drop n) (vs.drop n)
  | [], [], n, _ => by simp [all2]
  | _ :: _, _ :: _, 0, h => h
  | _ :: _, _ :: _, n + 1, ⟨_, b⟩ => by simpa using all2.drop n b
  | [], _ :: _, _, z => z.elim
  | _ :: _, [], _, z => z.elim
theorem all2.set {α : Type} {R : α → V → Prop} {x : α} {v : V} (hx : R x v) : ∀ {xs : List α} {vs : List V} (n : Nat), all2 R xs vs → all2 R (xs.set n x) (vs.set n v)
  | [], [], n, _ => by simp [all2]
  | _ :: _, _ :: _, 0, ⟨_, b⟩ => ⟨hx, b⟩
  | _ :: _, _ :: _, n + 1, ⟨a, b⟩ => ⟨a, all2.set hx n b⟩
  | [], _ :: _, _, z => z.elim
  | _ :: _, [], _, z => z.elim
theorem all2.rev {α : Type} {R : α → V → Prop} : ∀ {xs : List α} {vs : List V}, all2 R xs vs → all2 R xs.reverse vs.reverse
  | [], [], _ => by simp [all2]
  | x :: xs, v :: vs, ⟨a, b⟩ => by
    rw [List.reverse_cons, List.reverse_cons]
    exact all2.app (all2.rev b) ⟨a, True.intro⟩
  | [], _ :: _, z => z.elim
  | _ :: _, [], z => z.elim

/-- the entries of a dict -/
def allD {α β κ : Type} (f : α → κ) (R : β → V → Prop) : List (α × β) → List (κ × V) → Prop
  | [], [] => True
  | p :: xs, q :: kvs => (q.1 = f p.1 ∧ R p.2 q.2) ∧ allD f R xs kvs
  | _, _ => False
theorem allD.imp {α β κ : Type} {f : α → κ} {R S : β → V → Prop} (h : ∀ x v, R x v → S x v) : ∀ {xs : List (α × β)} {kvs : List (κ × V)}, allD f R xs kvs → allD f S xs kvs
  | [], [], _ => True.intro
  | _ :: _, _ :: _, ⟨⟨a, b⟩, c⟩ => ⟨⟨a, h _ _ b⟩, allD.imp h c⟩
  | [], _ :: _, z => z.elim
  | _ :: _, [], z => z.elim
/-- the entries of a dict with nested keys -/
def allN {α β : Type} (f : α → NestedKey) (Rk : α → Addr → Prop) (R : β → V → Prop) : List (α × β) → List NE → Prop
  | [], [] => True
  | p :: xs, e :: kvs => (e.1 = f p.1 ∧ Rk p.1 e.2.1 ∧ R p.2 e.2.2) ∧ allN f Rk R xs kvs
  | _, _ => False
theorem allN.imp {α β : Type} {f : α → NestedKey} {Rk Sk : α → Addr → Prop} {R S : β → V → Prop} (hk : ∀ x b, Rk x b → Sk x b) (h : ∀ x v, R x v → S x v) : ∀ {xs : List (α × β)} {kvs : List NE}, allN f Rk R xs kvs → allN f Sk S xs kvs
  | [], [], _ => True.intro
  | _ :: _, _ :: _, ⟨⟨a, b, c⟩, d⟩ => ⟨⟨a, hk _ _ b, h _ _ c⟩, allN.imp hk h d⟩
  | [], _ :: _, z => z.elim
  | _ :: _, [], z => z.elim
def allM {α β : Type} (f : α → NestedKey) (Rk : α → Addr → Prop) (R : β → V → List Addr → Prop) : List (α × β) → List NE → List (List Addr) → Prop
  | [], [], [] => True
  | p :: xs, e :: kvs, g :: gs => (e.1 = f p.1 ∧ Rk p.1 e.2.1 ∧ R p.2 e.2.2 g) ∧ allM f Rk R xs kvs gs
  | _, _, _ => False
theorem allM.imp {α β : Type} {f : α → NestedKey} {Rk Sk : α → Addr → Prop} {R S : β → V → List Addr → Prop} (hk : ∀ x b, Rk x b → Sk x b) : ∀ {xs : List (α × β)} {kvs : List NE} {gs : List (List Addr)}, (∀ x v g, g ∈ gs → R x v g → S x v g) → allM f Rk R xs kvs gs → allM f Sk S xs kvs gs
  | [], [], [], _, _ => True.intro
  | _ :: _, _ :: _, g :: gs, h, ⟨⟨a, b, c⟩, d⟩ => ⟨⟨a, hk _ _ b, h _ _ _ (List.mem_cons_self ..) c⟩, allM.imp hk (fun x v g m => h x v g (List.mem_cons_of_mem _ m)) d⟩
  | [], _ :: _, _, _, z => z.elim
  | [], [], _ :: _, _, z => z.elim
  | _ :: _, [], _, _, z => z.elim
  | _ :: _, _ :: _, [], _, z => z.elim
theorem allM.two {α β : Type} {f : α → NestedKey} {Rk Sk : α → Addr → Prop} {R : β → V → List Addr → Prop} {S : β → V → Prop} (hk : ∀ x b, Rk x b → Sk x b) : ∀ {xs : List (α × β)} {kvs : List NE} {gs : List (List Addr)}, (∀ x v g, g ∈ gs → R x v g → S x v) → allM f Rk R xs kvs gs → allN f Sk S xs kvs
  | [], [], [], _, _ => True.intro
  | _ :: _, _ :: _, g :: gs, h, ⟨⟨a, b, c⟩, d⟩ => ⟨⟨a, hk _ _ b, h _ _ _ (List.mem_cons_self ..) c⟩, allM.two hk (fun x v g m => h x v g (List.mem_cons_of_mem _ m)) d⟩
  | [], _ :: _, _, _, z => z.elim
  | [], [], _ :: _, _, z => z.elim
  | _ :: _, [], _, _, z => z.elim
  | _ :: _, _ :: _, [], _, z => z.elim
/-- the dict of an exception -/
def Exn.at_ (z : Exn) (F : Hp) (dx : Addr) : Prop := match z.p with
  | .n => True
  | .i n => F dx = some (.xd [(z.f, .int n)])
  | .s t => F dx = some (.xd [(z.f, .str t)])
theorem Exn.at_mono {z : Exn} {F F' : Hp} {dx : Addr} (h : Same F F') (q : z.at_ F dx) : z.at_ F' dx := by
  unfold Exn.at_ at q ⊢
  split at q
  · exact True.intro
  · exact h _ _ q
  · exact h _ _ q
section
variable (K : PySem.W.Frag) (mg : Str → Option Value)
/-- the values vs stand for x, over the frozen heap F -/
def rl : (t : Ty) → t.den → List V → Hp → Prop
  | .int, i, vs, _ => vs = [.int i]
  | .bool, b, vs, _ => vs = [.bl b]
  | .str, s, vs, _ => vs = [.str s]
  | .non, _, vs, _ => vs = [.non]
  | .scr, xs, vs, F => ∃ a, vs = [.ref a] ∧ SqL K F a (xs.map V.int)
  | .tpl, _, vs, F => ∃ a ws, vs = [.ref a] ∧ SqT K F a ws
  | .exn, x, vs, F => vs = [.ref x.1] ∧ x.2.2.at_ F x.2.1
  | .opt t, x, vs, F => match x with
    | none => vs = [.non]
    | some y => vs ≠ [.non] ∧ rl t y vs F
  | .tup fs, x, vs, F => ∃ a ws, vs = [.ref a] ∧ SqT K F a ws ∧ rl fs x ws F
  | .vtup t, xs, vs, F => ∃ a ws, vs = [.ref a] ∧ SqT K F a ws ∧ all2 (fun x w => rl t x [w] F) xs ws
  | .hl fs, x, vs, F => ∃ a ws, vs = [.ref a] ∧ F a = some (.lst ws) ∧ rl fs x ws F
  | .list t, xs, vs, F => ∃ a ws, vs = [.ref a] ∧ F a = some (.lst ws) ∧ all2 (fun x w => rl t x [w] F) xs ws
  | .pr a b, x, vs, F => ∃ v r, vs = v :: r ∧ rl a x.1 [v] F ∧ rl b x.2 r F
  | .nl, _, vs, _ => vs = []
  | .sum a b, x, vs, F => match x with
    | .inl y => rl a y vs F
    | .inr y => rl b y vs F
  | .ins c ns fs, x, vs, F => ∃ a C dx ws, vs = [.ref a] ∧ mg c = some (.ref C) ∧ F a = some (.ins C dx (ns.zip ws)) ∧ ns.length = ws.length ∧ rl fs x ws F
  | .dic k t, xs, vs, F => ∃ a kvs, vs = [.ref a] ∧ F a = some (.dK kvs) ∧ allD k.key (fun x w => rl t x [w] F) xs kvs
  | .dicN P w k t, xs, vs, F => ∃ a kvs, vs = [.ref a] ∧ F a = some (dnO P w a kvs) ∧ allN k.nk (fun x b => rl k x [.ref b] F) (fun x w => rl t x [w] F) xs kvs
end

theorem sqT_mono {K : PySem.W.Frag} {F F' : Hp} {a : Addr} {ws : List V} (h : ∀ b o, F b = some o → ((∃ xs, o = .tup xs) ∨ (∃ u v, o = .frz u v)) → F' b = some o) (q : SqT K F a ws) : SqT K F' a ws := by
  rcases q with (q | ⟨o, q⟩) | q
  · exact .inl (.inl (h _ _ q (.inl ⟨_, rfl⟩)))
  · exact .inl (.inr ⟨o, h _ _ q (.inr ⟨_, _, rfl⟩)⟩)
  · exact .inr q
section
variable {K : PySem.W.Frag} {mg : Str → Option Value}
theorem rl_mono {F F' : Hp} (h : Same F F') : ∀ (t : Ty) (x : t.den) (vs : List V), rl K mg t x vs F → rl K mg t x vs F' := by
  intro t
  induction t with
  | int => intro x vs q; exact q
  | bool => intro x vs q; exact q
  | str => intro x vs q; exact q
  | non => intro x vs q; exact q
  | scr => intro x vs q; obtain ⟨a, e, s⟩ := q; exact ⟨a, e, h.seq s⟩
  | tpl => intro x vs q; obtain ⟨a, ws, e, s⟩ := q; exact ⟨a, ws, e, sqT_mono (fun b o z _ => h b o z) s⟩
  | exn => intro x vs q; exact ⟨q.1, Exn.at_mono h q.2⟩
  | opt t ih =>
    intro x vs q
    cases x with
    | none => exact q
    | some y => exact ⟨q.1, ih y vs q.2⟩
  | tup fs ih =>
    intro x vs q
    obtain ⟨a, ws, e, s, r⟩ := q
    exact ⟨a, ws, e, sqT_mono (fun b o z _ => h b o z) s, ih x ws r⟩
  | vtup t ih =>
    intro x vs q
    obtain ⟨a, ws, e, s, r⟩ := q
    exact ⟨a, ws, e, sqT_mono (fun b o z _ => h b o z) s, r.imp fun y w z => ih y [w] z⟩
  | hl fs ih =>
    intro x vs q
    obtain ⟨a, ws, e, s, r⟩ := q
    exact ⟨a, ws, e, h _ _ s, ih x ws r⟩
  | list t ih =>
    intro x vs q
    obtain ⟨a, ws, e, s, r⟩ := q
    exact ⟨a, ws, e, h _ _ s, r.imp fun y w z => ih y [w] z⟩
  | pr a b iha ihb =>
    intro x vs q
    obtain ⟨v, r, e, p1, p2⟩ := q
    exact ⟨v, r, e, iha _ _ p1, ihb _ _ p2⟩
  | nl => intro x vs q; exact q
  | sum a b iha ihb =>
    intro x vs q
    cases x with
    | inl y => exact iha y vs q
    | inr y => exact ihb y vs q
  | ins c ns fs ih =>
    intro x vs q
    obtain ⟨a, C, dx, ws, e, m, g, l, r⟩ := q
    exact ⟨a, C, dx, ws, e, m, h _ _ g, l, ih x ws r⟩
  | dic k t _ ih =>
    intro x vs q
    obtain ⟨a, kvs, e, g, r⟩ := q
    exact ⟨a, kvs, e, h _ _ g, r.imp fun y w z => ih y [w] z⟩
  | dicN P w k t ihk ih =>
    intro x vs q
    obtain ⟨a, kvs, e, g, r⟩ := q
    exact ⟨a, kvs, e, h _ _ g, r.imp (fun y b z => ihk y [.ref b] z) fun y w z => ih y [w] z⟩
theorem rl_flat {F F' : Hp} (h : ∀ b o, F b = some o → ((∃ xs, o = .tup xs) ∨ (∃ u v, o = .frz u v)) → F' b = some o) :
    ∀ (t : Ty) (_ : t.flat = true) (x : t.den) (vs : List V), rl K mg t x vs F → rl K mg t x vs F' := by
  intro t
  induction t with
  | int => intro _ x vs q; exact q
  | bool => intro _ x vs q; exact q
  | str => intro _ x vs q; exact q
  | non => intro _ x vs q; exact q
  | scr => intro f; cases f
  | tpl => intro _ x vs q; obtain ⟨a, ws, e, s⟩ := q; exact ⟨a, ws, e, sqT_mono h s⟩
  | exn => intro h; cases h
  | opt t ih =>
    intro f x vs q
    cases x with
    | none => exact q
    | some y => exact ⟨q.1, ih f y vs q.2⟩
  | tup fs ih =>
    intro f x vs q
    obtain ⟨a, ws, e, s, r⟩ := q
    exact ⟨a, ws, e, sqT_mono h s, ih f x ws r⟩
  | vtup t ih =>
    intro f x vs q
    obtain ⟨a, ws, e, s, r⟩ := q
    exact ⟨a, ws, e, sqT_mono h s, r.imp fun y w z => ih f y [w] z⟩
  | hl fs ih => intro f; cases f
  | list t ih => intro f; cases f
  | pr a b iha ihb =>
    intro f x vs q
    have f' := (Bool.and_eq_true _ _).mp (show (a.flat && b.flat) = true from f)
    obtain ⟨v, r, e, p1, p2⟩ := q
    exact ⟨v, r, e, iha f'.1 _ _ p1, ihb f'.2 _ _ p2⟩
  | nl => intro _ x vs q; exact q
  | sum a b iha ihb =>
    intro f x vs q
    have f' := (Bool.and_eq_true _ _).mp (show (a.flat && b.flat) = true from f)
    cases x with
    | inl y => exact iha f'.1 y vs q
    | inr y => exact ihb f'.2 y vs q
  | ins c ns fs ih => intro f; cases f
  | dic k t _ _ => intro f; cases f
  | dicN P w k t _ _ => intro f; cases f
end

/-! ## owned things -/
inductive Ow where
  | d (t : Ty) | l (o : Ow) | ins (c : Str) (ns : List Str) (fs : Ow) | pr (a b : Ow) | nl | dic (k t : Ty) | dicN (P : Program) (w : World) (k : Ty) (o : Ow) | opt (o : Ow) | hl (fs : Ow)
@[reducible] def Ow.ty : Ow → Ty
  | .d t => t
  | .l o => .list o.ty
  | .ins c ns fs => .ins c ns fs.ty
  | .pr a b => .pr a.ty b.ty
  | .nl => .nl
  | .dic k t => .dic k t
  | .dicN P w k o => .dicN P w k o.ty
  | .opt o => .opt o.ty
  | .hl fs => .hl fs.ty
def Ow.flat : Ow → Bool
  | .d t => t.flat
  | .l o => o.flat
  | .ins _ _ fs => fs.flat
  | .pr a b => a.flat && b.flat
  | .nl => true
  | .dic _ t => t.flat
  | .dicN _ _ k o => k.flat && o.flat
  | .opt o => o.flat
  | .hl fs => fs.flat
def all3 {α : Type} (R : α → V → List Addr → Prop) : List α → List V → List (List Addr) → Prop
  | [], [], [] => True
  | x :: xs, v :: vs, f :: fs => R x v f ∧ all3 R xs vs fs
  | _, _, _ => False
theorem all3.imp {α : Type} {R S : α → V → List Addr → Prop} : ∀ {xs : List α} {vs : List V} {fs : List (List Addr)}, (∀ x v f, f ∈ fs → R x v f → S x v f) → all3 R xs vs fs → all3 S xs vs fs
  | [], [], [], _, _ => True.intro
  | _ :: _, _ :: _, f :: fs, h, ⟨a, b⟩ => ⟨h _ _ _ (List.mem_cons_self ..) a, all3.imp (fun x v f m => h x v f (List.mem_cons_of_mem _ m)) b⟩
  | [], _ :: _, _, _, z => z.elim
  | [], [], _ :: _, _, z => z.elim
  | _ :: _, [], _, _, z => z.elim
  | _ :: _, _ :: _, [], _, z => z.elim
theorem all3.two {α : Type} {R : α → V → List Addr → Prop} {S : α → V → Prop} : ∀ {xs : List α} {vs : List V} {fs : List (List Addr)}, (∀ x v f, f ∈ fs → R x v f → S x v) → all3 R xs vs fs → all2 S xs vs
  | [], [], [], _, _ => True.intro
  | _ :: _, _ :: _, f :: fs, h, ⟨a, b⟩ => ⟨h _ _ _ (List.mem_cons_self ..) a, all3.two (fun x v f m => h x v f (List.mem_cons_of_mem _ m)) b⟩
  | [], _ :: _, _, _, z => z.elim
  | [], [], _ :: _, _, z => z.elim
  | _ :: _, [], _, _, z => z.elim
  | _ :: _, _ :: _, [], _, z => z.elim
theorem all3.of2 {α : Type} {R : α → V → List Addr → Prop} {S : α → V → Prop} (h : ∀ x v, S x v → R x v []) : ∀ {xs : List α} {vs : List V}, all2 S xs vs → all3 R xs vs (xs.map fun _ => [])
  | [], [], _ => True.intro
  | _ :: _, _ :: _, ⟨a, b⟩ => ⟨h _ _ a, all3.of2 h b⟩
  | [], _ :: _, z => z.elim
  | _ :: _, [], z => z.elim
theorem flat_nil {α β : Type} : ∀ (xs : List α), (xs.map fun _ => ([] : List β)).flatten = []
  | [] => rfl
  | _ :: xs => by
    rw [List.map_cons, List.flatten_cons, flat_nil xs]; rfl

section
variable (K : PySem.W.Frag) (mg : Str → Option Value)
/-- vs stand for x; its changeable cells are fp, as H has them; its data lie in F -/
def ol : (o : Ow) → o.ty.den → List V → Hp → Hp → List Addr → Prop
  | .d t, x, vs, F, _, fp => fp = [] ∧ rl K mg t x vs F
  | .l o, xs, vs, F, H, fp => ∃ p ws fps, vs = [.ref p] ∧ fp = p :: fps.flatten ∧ H p = some (.lst ws) ∧ all3 (fun x w f => ol o x [w] F H f) xs ws fps
  | .ins c ns fs, x, vs, F, H, fp => ∃ p C dx ws fp', vs = [.ref p] ∧ fp = p :: dx :: fp' ∧ mg c = some (.ref C) ∧ H p = some (.ins C dx (ns.zip ws)) ∧ H dx = some (.own p) ∧ ns.length = ws.length ∧ ol fs x ws F H fp'
  | .pr a b, x, vs, F, H, fp => ∃ v r f1 f2, vs = v :: r ∧ fp = f1 ++ f2 ∧ ol a x.1 [v] F H f1 ∧ ol b x.2 r F H f2
  | .nl, _, vs, _, _, fp => vs = [] ∧ fp = []
  | .dic k t, xs, vs, F, H, fp => ∃ p kvs, vs = [.ref p] ∧ fp = [p] ∧ H p = some (.dK kvs) ∧ allD k.key (fun x w => rl K mg t x [w] F) xs kvs
  | .dicN P w k o, xs, vs, F, H, fp => ∃ p kvs fps, vs = [.ref p] ∧ fp = p :: fps.flatten ∧ H p = some (dnO P w p kvs) ∧ allM k.nk (fun x b => rl K mg k x [.ref b] F) (fun x v f => ol o x [v] F H f) xs kvs fps
  | .opt o, x, vs, F, H, fp => match x with
    | none => vs = [.non] ∧ fp = []
    | some y => vs ≠ [.non] ∧ ol o y vs F H fp
  | .hl fs, x, vs, F, H, fp => ∃ p ws fp', vs = [.ref p] ∧ fp = p :: fp' ∧ H p = some (.lst ws) ∧ ol fs x ws F H fp'
end
/-- no tuple and nothing frozen -/
def Cell (H : Hp) (a : Addr) : Prop := ∃ o, H a = some o ∧ (∀ xs, o ≠ .tup xs) ∧ (∀ u v, o ≠ .frz u v) ∧ ∀ fs, o ≠ .xd fs
section
variable {K : PySem.W.Frag} {mg : Str → Option Value}
theorem ol_frame {F F' H H' : Hp} (h : Same F F') : ∀ (o : Ow) (x : o.ty.den) (vs : List V) (fp : List Addr), (∀ a ∈ fp, H' a = H a) → ol K mg o x vs F H fp → ol K mg o x vs F' H' fp := by
  intro o
  induction o with
  | d t => intro x vs fp _ q; exact ⟨q.1, rl_mono h t x vs q.2⟩
  | l o ih =>
    intro xs vs fp hf q
    obtain ⟨p, ws, fps, e1, e2, e3, r⟩ := q
    subst e2
    refine ⟨p, ws, fps, e1, rfl, (hf p (List.mem_cons_self ..)).trans e3, r.imp fun x w f m z => ih x [w] f (fun a ha => hf a ?_) z⟩
    exact List.mem_cons_of_mem _ (List.mem_flatten.mpr ⟨f, m, ha⟩)
  | ins c ns fs ih =>
    intro x vs fp hf q
    obtain ⟨p, C, dx, ws, fp', e1, e2, e3, e4, e5, e6, r⟩ := q
    subst e2
    exact ⟨p, C, dx, ws, fp', e1, rfl, e3, (hf p (by simp)).trans e4, (hf dx (by simp)).trans e5, e6, ih x ws fp' (fun a ha => hf a (by simp [ha])) r⟩
  | pr a b iha ihb =>
    intro x vs fp hf q
    obtain ⟨v, r, f1, f2, e1, e2, r1, r2⟩ := q
    subst e2
    exact ⟨v, r, f1, f2, e1, rfl, iha _ _ _ (fun a ha => hf a (List.mem_append_left _ ha)) r1, ihb _ _ _ (fun a ha => hf a (List.mem_append_right _ ha)) r2⟩
  | nl => intro x vs fp _ q; exact q
  | dic k t =>
    intro xs vs fp hf q
    obtain ⟨p, kvs, e1, e2, e3, r⟩ := q
    subst e2
    exact ⟨p, kvs, e1, rfl, (hf p (List.mem_cons_self ..)).trans e3, r.imp fun x w z => rl_mono h t x [w] z⟩
  | dicN P w k o ih =>
    intro xs vs fp hf q
    obtain ⟨p, kvs, fps, e1, e2, e3, r⟩ := q
    subst e2
    refine ⟨p, kvs, fps, e1, rfl, (hf p (List.mem_cons_self ..)).trans e3, r.imp (fun x b z => rl_mono h k x [.ref b] z) fun x w f m z => ih x [w] f (fun a ha => hf a ?_) z⟩
    exact List.mem_cons_of_mem _ (List.mem_flatten.mpr ⟨f, m, ha⟩)
  | opt o ih =>
    intro x vs fp hf q
    cases x with
    | none => exact q
    | some y => exact ⟨q.1, ih y vs fp hf q.2⟩
  | hl fs ih =>
    intro x vs fp hf q
    obtain ⟨p, ws, fp', e1, e2, e3, r⟩ := q
    subst e2
    exact ⟨p, ws, fp', e1, rfl, (hf p (List.mem_cons_self ..)).trans e3, ih x ws fp' (fun a ha => hf a (List.mem_cons_of_mem _ ha)) r⟩
theorem ol_cell {F H : Hp} : ∀ (o : Ow) (x : o.ty.den) (vs : List V) (fp : List Addr), ol K mg o x vs F H fp → ∀ a ∈ fp, Cell H a := by
  intro o
  induction o with
  | d t => intro x vs fp q a ha; rw [q.1] at ha; cases ha
  | l o ih =>
    intro xs vs fp q a ha
    obtain ⟨p, ws, fps, e1, e2, e3, r⟩ := q
    subst e2
    rcases List.mem_cons.mp ha with rfl | ha
    · exact ⟨_, e3, fun _ z => (nomatch z), fun _ _ z => (nomatch z), fun _ z => (nomatch z)⟩
    · obtain ⟨f, hf, ha⟩ := List.mem_flatten.mp ha
      have : ∀ {xs : List o.ty.den} {ws : List V} {fps : List (List Addr)}, all3 (fun x w f => ol K mg o x [w] F H f) xs ws fps → f ∈ fps → Cell H a := by
        intro xs
        induction xs with
        | nil =>
          intro ws fps r m
          cases ws with
          | nil =>
            cases fps with
            | nil => cases m
            | cons _ _ => exact r.elim
          | cons _ _ => exact r.elim
        | cons x xs ihx =>
          intro ws fps r m
          cases ws with
          | nil => exact r.elim
          | cons w ws =>
            cases fps with
            | nil => exact r.elim
            | cons g fps =>
              rcases List.mem_cons.mp m with rfl | m
              · exact ih x [w] _ r.1 a ha
              · exact ihx r.2 m
      exact this r hf
  | ins c ns fs ih =>
    intro x vs fp q a ha
    obtain ⟨p, C, dx, ws, fp', e1, e2, e3, e4, e5, e6, r⟩ := q
    subst e2
    rcases List.mem_cons.mp ha with rfl | ha
    · exact ⟨_, e4, fun _ z => (nomatch z), fun _ _ z => (nomatch z), fun _ z => (nomatch z)⟩
    rcases List.mem_cons.mp ha with rfl | ha
    · exact ⟨_, e5, fun _ z => (nomatch z), fun _ _ z => (nomatch z), fun _ z => (nomatch z)⟩
    exact ih x ws fp' r a ha
  | pr a b iha ihb =>
    intro x vs fp q c hc
    obtain ⟨v, r, f1, f2, e1, e2, r1, r2⟩ := q
    subst e2
    rcases List.mem_append.mp hc with h | h
    · exact iha _ _ _ r1 c h
    · exact ihb _ _ _ r2 c h
  | nl => intro x vs fp q a ha; rw [q.2] at ha; cases ha
  | dic k t =>
    intro x vs fp q a ha
    obtain ⟨p, kvs, e1, e2, e3, r⟩ := q
    subst e2
    rw [List.mem_singleton.mp ha]
    exact ⟨_, e3, fun _ z => (nomatch z), fun _ _ z => (nomatch z), fun _ z => (nomatch z)⟩
  | dicN P w k o ih =>
    intro xs vs fp q a ha
    obtain ⟨p, kvs, fps, e1, e2, e3, r⟩ := q
    subst e2
    rcases List.mem_cons.mp ha with rfl | ha
    · exact ⟨_, e3, fun _ z => (nomatch z), fun _ _ z => (nomatch z), fun _ z => (nomatch z)⟩
    · obtain ⟨f, hf, ha⟩ := List.mem_flatten.mp ha
      have : ∀ {xs : List (k.den × o.ty.den)} {kvs : List NE} {fps : List (List Addr)}, allM k.nk (fun x b => rl K mg k x [.ref b] F) (fun x w f => ol K mg o x [w] F H f) xs kvs fps → f ∈ fps → Cell H a := by
        intro xs
        induction xs with
        | nil =>
          intro ws fps r m
          cases ws with
          | nil =>
            cases fps with
            | nil => cases m
            | cons _ _ => exact r.elim
          | cons _ _ => exact r.elim
        | cons x xs ihx =>
          intro ws fps r m
          cases ws with
          | nil => exact r.elim
          | cons w ws =>
            cases fps with
            | nil => exact r.elim
            | cons g fps =>
              rcases List.mem_cons.mp m with rfl | m
              · exact ih x.2 [w.2.2] _ r.1.2.2 a ha
              · exact ihx r.2 m
      exact this r hf
  | opt o ih =>
    intro x vs fp q a ha
    cases x with
    | none => rw [q.2] at ha; cases ha
    | some y => exact ih y vs fp q.2 a ha
  | hl fs ih =>
    intro x vs fp q a ha
    obtain ⟨p, ws, fp', e1, e2, e3, r⟩ := q
    subst e2
    rcases List.mem_cons.mp ha with rfl | ha
    · exact ⟨_, e3, fun _ z => (nomatch z), fun _ _ z => (nomatch z), fun _ z => (nomatch z)⟩
    · exact ih x ws fp' r a ha
/-- frozen: F with the cells -/
theorem ol_rl {F F' H : Hp} (h : Same F F') : ∀ (o : Ow) (x : o.ty.den) (vs : List V) (fp : List Addr), (∀ a ∈ fp, F' a = H a) → ol K mg o x vs F H fp → rl K mg o.ty x vs F' := by
  intro o
  induction o with
  | d t => intro x vs fp _ q; exact rl_mono h t x vs q.2
  | l o ih =>
    intro xs vs fp hf q
    obtain ⟨p, ws, fps, e1, e2, e3, r⟩ := q
    subst e2
    refine ⟨p, ws, e1, (hf p (List.mem_cons_self ..)).trans e3, r.two fun x w f m z => ih x [w] f (fun a ha => hf a ?_) z⟩
    exact List.mem_cons_of_mem _ (List.mem_flatten.mpr ⟨f, m, ha⟩)
  | ins c ns fs ih =>
    intro x vs fp hf q
    obtain ⟨p, C, dx, ws, fp', e1, e2, e3, e4, e5, e6, r⟩ := q
    subst e2
    exact ⟨p, C, dx, ws, e1, e3, (hf p (by simp)).trans e4, e6, ih x ws fp' (fun a ha => hf a (by simp [ha])) r⟩
  | pr a b iha ihb =>
    intro x vs fp hf q
    obtain ⟨v, r, f1, f2, e1, e2, r1, r2⟩ := q
    subst e2
    exact ⟨v, r, e1, iha _ _ _ (fun a ha => hf a (List.mem_append_left _ ha)) r1, ihb _ _ _ (fun a ha => hf a (List.mem_append_right _ ha)) r2⟩
  | nl => intro x vs fp _ q; exact q.1
  | dic k t =>
    intro xs vs fp hf q
    obtain ⟨p, kvs, e1, e2, e3, r⟩ := q
    subst e2
    exact ⟨p, kvs, e1, (hf p (List.mem_cons_self ..)).trans e3, r.imp fun x w z => rl_mono h t x [w] z⟩
  | dicN P w k o ih =>
    intro xs vs fp hf q
    obtain ⟨p, kvs, fps, e1, e2, e3, r⟩ := q
    subst e2
    refine ⟨p, kvs, e1, (hf p (List.mem_cons_self ..)).trans e3, r.two (fun x b z => rl_mono h k x [.ref b] z) fun x w f m z => ih x [w] f (fun a ha => hf a ?_) z⟩
    exact List.mem_cons_of_mem _ (List.mem_flatten.mpr ⟨f, m, ha⟩)
  | opt o ih =>
    intro x vs fp hf q
    cases x with
    | none => exact q.1
    | some y => exact ⟨q.1, ih y vs fp hf q.2⟩
  | hl fs ih =>
    intro x vs fp hf q
    obtain ⟨p, ws, fp', e1, e2, e3, r⟩ := q
    subst e2
    exact ⟨p, ws, e1, (hf p (List.mem_cons_self ..)).trans e3, ih x ws fp' (fun a ha => hf a (List.mem_cons_of_mem _ ha)) r⟩
theorem ol_flat {F F' H : Hp} (h : ∀ b o, F b = some o → ((∃ xs, o = .tup xs) ∨ (∃ u v, o = .frz u v)) → F' b = some o) :
    ∀ (o : Ow) (_ : o.flat = true) (x : o.ty.den) (vs : List V) (fp : List Addr), ol K mg o x vs F H fp → ol K mg o x vs F' H fp := by
  intro o
  induction o with
  | d t => intro f x vs fp q; exact ⟨q.1, rl_flat h t f x vs q.2⟩
  | l o ih =>
    intro f xs vs fp q
    obtain ⟨p, ws, fps, e1, e2, e3, r⟩ := q
    exact ⟨p, ws, fps, e1, e2, e3, r.imp fun x w g m z => ih f x [w] g z⟩
  | ins c ns fs ih =>
    intro f x vs fp q
    obtain ⟨p, C, dx, ws, fp', e1, e2, e3, e4, e5, e6, r⟩ := q
    exact ⟨p, C, dx, ws, fp', e1, e2, e3, e4, e5, e6, ih f x ws fp' r⟩
  | pr a b iha ihb =>
    intro f x vs fp q
    have f' := (Bool.and_eq_true _ _).mp (show (a.flat && b.flat) = true from f)
    obtain ⟨v, r, f1, f2, e1, e2, r1, r2⟩ := q
    exact ⟨v, r, f1, f2, e1, e2, iha f'.1 _ _ _ r1, ihb f'.2 _ _ _ r2⟩
  | nl => intro _ x vs fp q; exact q
  | dic k t =>
    intro f xs vs fp q
    obtain ⟨p, kvs, e1, e2, e3, r⟩ := q
    exact ⟨p, kvs, e1, e2, e3, r.imp fun x w z => rl_flat h t f x [w] z⟩
  | dicN P w k o ih =>
    intro f xs vs fp q
    have f' := (Bool.and_eq_true _ _).mp (show (k.flat && o.flat) = true from f)
    obtain ⟨p, kvs, fps, e1, e2, e3, r⟩ := q
    exact ⟨p, kvs, fps, e1, e2, e3, r.imp (fun x b z => rl_flat h k f'.1 x [.ref b] z) fun x w g m z => ih f'.2 x [w] g z⟩
  | opt o ih =>
    intro f x vs fp q
    cases x with
    | none => exact q
    | some y => exact ⟨q.1, ih f y vs fp q.2⟩
  | hl fs ih =>
    intro f x vs fp q
    obtain ⟨p, ws, fp', e1, e2, e3, r⟩ := q
    exact ⟨p, ws, fp', e1, e2, e3, ih f x ws fp' r⟩
end

/-! ## growing heaps -/
structure Ext (F H F' H' : Hp) : Prop where
  f : Same F F'
  h : Same H H'
  i : Same F' H'
  n : ∀ p, H p ≠ none → F p = none → F' p = none
theorem Ext.refl {F H : Hp} (h : Same F H) : Ext F H F H := ⟨Same.refl _, Same.refl _, h, fun _ _ q => q⟩
theorem Ext.trans {F H F1 H1 F2 H2 : Hp} (a : Ext F H F1 H1) (b : Ext F1 H1 F2 H2) : Ext F H F2 H2 :=
  ⟨a.f.trans b.f, a.h.trans b.h, b.i, fun p hp hf => b.n p (fun z => hp (a.h.free z)) (a.n p hp hf)⟩
/-- a new object, known to F -/
theorem Ext.new {F H : Hp} {p : Addr} {o : HO} (h : Same F H) (n : H p = none) : Ext F H (upd F p o) (upd H p o) := by
  have nf : F p = none := h.free n
  refine ⟨fun b u e => by rw [upd_ne (ne_of_none e nf)]; exact e, fun b u e => by rw [upd_ne (ne_of_none e n)]; exact e, fun b u e => ?_, fun q hq hf => ?_⟩
  · by_cases hb : b = p
    · subst hb; rw [upd_same] at e ⊢; exact e
    · rw [upd_ne hb] at e ⊢; exact h _ _ e
  · have : q ≠ p := fun z => hq (z ▸ n)
    rw [upd_ne this]; exact hf
/-- a new object that F does not know -/
theorem Ext.cell {F H : Hp} {p : Addr} {o : HO} (h : Same F H) (n : H p = none) : Ext F H F (upd H p o) := by
  refine ⟨Same.refl _, fun b u e => by rw [upd_ne (ne_of_none e n)]; exact e, fun b u e => ?_, fun q hq hf => hf⟩
  have e' := h _ _ e
  rw [upd_ne (ne_of_none e' n)]; exact e'
/-- a heap grows, F stands -/
theorem Ext.grow {F H H' : Hp} (h : Same F H) (g : Same H H') : Ext F H F H' := ⟨Same.refl _, g, h.trans g, fun _ _ q => q⟩

/-! ## results -/
inductive Rt where
  | d (t : Ty) | o (o : Ow)
@[reducible] def Rt.ty : Rt → Ty
  | .d t => t
  | .o u => u.ty
abbrev Rt.den (r : Rt) : Type := r.ty.den
def Rt.flat : Rt → Bool
  | .d t => t.flat
  | .o u => u.flat
section
variable (K : PySem.W.Frag) (mg : Str → Option Value)
/-- v stands for x behind; H: the heap ahead -/
def rtr : (r : Rt) → r.den → V → Hp → Hp → Hp → Prop
  | .d t, x, v, _, F', _ => rl K mg t x [v] F'
  | .o o, x, v, H, F', H' => ∃ fp, ol K mg o x [v] F' H' fp ∧ fp.Nodup ∧ ∀ a ∈ fp, F' a = none ∧ H a = none
end
/-- how an exception lies -/
def xr (mg : Str → Option Value) (e : Exn) (cls : Value) (d : Option Addr) (H : Hp) : Prop :=
  ∃ C, mg e.c = some (.ref C) ∧ cls = .ref C ∧ match e.p with
    | .n => d = none
    | .i z => ∃ dx, d = some dx ∧ H dx = some (.xd [(e.f, .int z)])
    | .s z => ∃ dx, d = some dx ∧ H dx = some (.xd [(e.f, .str z)])

/-! ## contexts -/
inductive Slot where
  | no | d (t : Ty) (x : t.den) | o (o : Ow) (x : o.ty.den)
abbrev Ctx := List Slot
@[reducible] def slotOf : (r : Rt) → r.den → Slot
  | .d t, x => .d t x
  | .o o, x => .o o x
def Slot.hide : Slot → Slot
  | .o _ _ => .no
  | s => s
def hide : Ctx → Ctx
  | [] => []
  | s :: r => s.hide :: hide r
theorem hide_get : ∀ {Γ : Ctx} {i : Nat} {s : Slot}, (hide Γ)[i]? = some s → ∃ u, Γ[i]? = some u ∧ s = u.hide
  | [], _, _, e => by simp [hide] at e
  | u :: _, 0, s, e => ⟨u, rfl, by simpa [hide] using e.symm⟩
  | _ :: Γ, i + 1, s, e => by
    have e' : (hide Γ)[i]? = some s := by simpa [hide] using e
    obtain ⟨u, h1, h2⟩ := hide_get e'
    exact ⟨u, by simpa using h1, h2⟩
section
variable (K : PySem.W.Frag) (mg : Str → Option Value)
def sd : Slot → Option V → Hp → Prop
  | .no, _, _ => True
  | .d t x, ov, F => ∃ v, ov = some v ∧ rl K mg t x [v] F
  | .o o x, ov, F => ∃ v, ov = some v ∧ rl K mg o.ty x [v] F
def so : Slot → Option V → Hp → Hp → List Addr → Prop
  | .no, _, _, _, fp => fp = []
  | .d t x, ov, F, _, fp => fp = [] ∧ ∃ v, ov = some v ∧ rl K mg t x [v] F
  | .o o x, ov, F, H, fp => ∃ v, ov = some v ∧ ol K mg o x [v] F H fp
def SD (Γ : Ctx) (σ : St) (F : Hp) : Prop := ∀ (i : Nat) (s : Slot), Γ[i]? = some s → ∃ ov, σ[i]? = some ov ∧ sd K mg s ov F
structure Own (Γ : Ctx) (σ : St) (F H B : Hp) (fps : Nat → List Addr) : Prop where
  at_ : ∀ (i : Nat) (s : Slot), Γ[i]? = some s → ∃ ov, σ[i]? = some ov ∧ so K mg s ov F H (fps i)
  out : ∀ i, Γ[i]? = none → fps i = []
  nd : ∀ i, (fps i).Nodup
  sep : ∀ i j, i ≠ j → ∀ a ∈ fps i, a ∉ fps j
  new : ∀ i, ∀ a ∈ fps i, F a = none ∧ B a = none
end
/-- the entry: the frozen heap, the heap, slots that stay (within a try), what they hold -/
structure Ent where
  F0 : Hp
  B : Hp
  hk : List Nat
  s0 : St
section
variable (K : PySem.W.Frag) (mg : Str → Option Value)
structure SG (E : Ent) (Γ : Ctx) (σ : St) (F H : Hp) : Prop where
  e0 : Ext E.F0 E.B F H
  kp : ∀ i ∈ E.hk, σ[i]? = E.s0[i]?
  ow : ∃ fps, Own K mg Γ σ F H E.B fps
end
section
variable {K : PySem.W.Frag} {mg : Str → Option Value} {Γ : Ctx} {σ : St} {F F' H H' B : Hp} {E : Ent}
theorem sd_mono (h : Same F F') : ∀ {s : Slot} {ov : Option V}, sd K mg s ov F → sd K mg s ov F'
  | .no, _, _ => True.intro
  | .d t x, _, ⟨v, e, r⟩ => ⟨v, e, rl_mono h t x _ r⟩
  | .o o x, _, ⟨v, e, r⟩ => ⟨v, e, rl_mono h o.ty x _ r⟩
theorem SD.mono (q : SD K mg Γ σ F) (h : Same F F') : SD K mg Γ σ F' := fun i s e => let ⟨ov, e1, r⟩ := q i s e; ⟨ov, e1, sd_mono h r⟩
theorem so_cell : ∀ {s : Slot} {ov : Option V} {fp : List Addr}, so K mg s ov F H fp → ∀ a ∈ fp, Cell H a
  | .no, _, _, e, a, ha => by rw [show _ = _ from e] at ha; cases ha
  | .d t x, _, _, ⟨e, _⟩, a, ha => by rw [e] at ha; cases ha
  | .o o x, _, _, ⟨_, _, r⟩, a, ha => ol_cell o x _ _ r a ha
theorem so_frame (h : Same F F') : ∀ {s : Slot} {ov : Option V} {fp : List Addr}, (∀ a ∈ fp, H' a = H a) → so K mg s ov F H fp → so K mg s ov F' H' fp
  | .no, _, _, _, e => e
  | .d t x, _, _, _, ⟨e, v, e1, r⟩ => ⟨e, v, e1, rl_mono h t x _ r⟩
  | .o o x, _, _, hf, ⟨v, e1, r⟩ => ⟨v, e1, ol_frame h o x _ _ hf r⟩
theorem Own.cell {fps : Nat → List Addr} (q : Own K mg Γ σ F H B fps) (i : Nat) : ∀ a ∈ fps i, Cell H a := fun a ha => by
  cases e : Γ[i]? with
  | none => rw [q.out i e] at ha; cases ha
  | some s =>
    obtain ⟨ov, _, r⟩ := q.at_ i s e
    exact so_cell r a ha
/-- all that is owned, frozen -/
noncomputable def frozen (F H : Hp) (fps : Nat → List Addr) : Hp := open Classical in fun a => if ∃ i, a ∈ fps i then H a else F a
theorem frozen_in {fps : Nat → List Addr} {i : Nat} {a : Addr} (h : a ∈ fps i) : frozen F H fps a = H a := by
  unfold frozen; rw [if_pos ⟨i, h⟩]
theorem frozen_out {fps : Nat → List Addr} {a : Addr} (h : ∀ i, a ∉ fps i) : frozen F H fps a = F a := by
  unfold frozen; rw [if_neg fun ⟨i, z⟩ => h i z]
theorem Own.f_frozen {fps : Nat → List Addr} (q : Own K mg Γ σ F H B fps) : Same F (frozen F H fps) := fun b o e => by
  rw [frozen_out fun i hi => by rw [(q.new i b hi).1] at e; cases e]; exact e
theorem Own.frozen_h {fps : Nat → List Addr} (q : Own K mg Γ σ F H B fps) (hs : Same F H) : Same (frozen F H fps) H := fun b o e => by
  by_cases h : ∃ i, b ∈ fps i
  · obtain ⟨i, hi⟩ := h
    rw [frozen_in hi] at e; exact e
  · rw [frozen_out fun i hi => h ⟨i, hi⟩] at e; exact hs _ _ e
theorem Own.sd {fps : Nat → List Addr} (q : Own K mg Γ σ F H B fps) : SD K mg Γ σ (frozen F H fps) := fun i s e => by
  obtain ⟨ov, e1, r⟩ := q.at_ i s e
  refine ⟨ov, e1, ?_⟩
  cases s with
  | no => exact True.intro
  | d t x => exact sd_mono q.f_frozen r.2
  | o o x =>
    obtain ⟨v, e2, r⟩ := r
    exact ⟨v, e2, ol_rl q.f_frozen o x _ _ (fun a ha => frozen_in ha) r⟩
theorem SG.sd_hide (q : SG K mg E Γ σ F H) : SD K mg (hide Γ) σ F := fun i s e => by
  obtain ⟨_, _, fps, q⟩ := q
  obtain ⟨u, e1, rfl⟩ := hide_get e
  obtain ⟨ov, e2, r⟩ := q.at_ i u e1
  refine ⟨ov, e2, ?_⟩
  cases u with
  | no => exact True.intro
  | d t x => exact r.2
  | o o x => exact True.intro
/-- F' without what is owned in F's place -/
noncomputable def unfreeze (F' : Hp) (fps : Nat → List Addr) : Hp := open Classical in fun a => if ∃ i, a ∈ fps i then none else F' a
theorem unfreeze_in {fps : Nat → List Addr} {i : Nat} {a : Addr} (h : a ∈ fps i) : unfreeze F fps a = none := by
  unfold unfreeze; rw [if_pos ⟨i, h⟩]
theorem unfreeze_out {fps : Nat → List Addr} {a : Addr} (h : ∀ i, a ∉ fps i) : unfreeze F fps a = F a := by
  unfold unfreeze; rw [if_neg fun ⟨i, z⟩ => h i z]
theorem unfreeze_le {fps : Nat → List Addr} : Same (unfreeze F fps) F := fun b o e => by
  by_cases h : ∃ i, b ∈ fps i
  · obtain ⟨i, hi⟩ := h
    rw [unfreeze_in hi] at e; cases e
  · rw [unfreeze_out fun i hi => h ⟨i, hi⟩] at e; exact e
/-- behind an evaluation under the view that all that is owned is frozen -/
theorem Own.back {fps : Nat → List Addr} (q : Own K mg Γ σ F H B fps) (hs : Same F H) (x : Ext (frozen F H fps) H F' H') :
    Ext F H (unfreeze F' fps) H' ∧ ∀ b o, F' b = some o → ((∃ xs, o = .tup xs) ∨ (∃ u v, o = .frz u v) ∨ ∃ fs, o = .xd fs) → (unfreeze F' fps) b = some o := by
  refine ⟨⟨fun b o e => ?_, x.h, fun b o e => x.i _ _ (unfreeze_le _ _ e), fun p hp hf => ?_⟩, fun b o e hk => ?_⟩
  · rw [unfreeze_out fun i hi => by rw [(q.new i b hi).1] at e; cases e]
    exact x.f _ _ (q.f_frozen _ _ e)
  · by_cases h : ∃ i, p ∈ fps i
    · obtain ⟨i, hi⟩ := h
      exact unfreeze_in hi
    · rw [unfreeze_out fun i hi => h ⟨i, hi⟩]
      exact x.n p hp (by rw [frozen_out fun i hi => h ⟨i, hi⟩]; exact hf)
  · refine (unfreeze_out fun i hi => ?_).trans e
    obtain ⟨u, h1, h2, h3, h4⟩ := q.cell i b hi
    have e1 := x.i _ _ e
    rw [x.h _ _ h1] at e1
    cases e1
    rcases hk with ⟨xs, rfl⟩ | ⟨c, d, rfl⟩ | ⟨fs, rfl⟩
    · exact h2 _ rfl
    · exact h3 _ _ rfl
    · exact h4 _ rfl
theorem rtr_flat {r : Rt} (hf : r.flat = true) {G : Hp} {x : r.den} {v : V} (h : ∀ b o, F b = some o → ((∃ xs, o = .tup xs) ∨ (∃ u v, o = .frz u v)) → G b = some o) (hg : Same G F)
    (q : rtr K mg r x v H F H') : rtr K mg r x v H G H' := by
  cases r with
  | d t => exact rl_flat h t hf x _ q
  | o u =>
    obtain ⟨fp, q, nd, nw⟩ := q
    exact ⟨fp, ol_flat h u hf x _ _ q, nd, fun a ha => ⟨hg.free (nw a ha).1, (nw a ha).2⟩⟩
/-- the central step: an evaluation of a flat result under the view -/
theorem SG.eval (q : SG K mg E Γ σ F H) {r : Rt} (hf : r.flat = true) : ∃ G, Same G H ∧ Same F G ∧ SD K mg Γ σ G ∧
    ∀ F' H', Ext G H F' H' → ∃ F2, Ext F H F2 H' ∧ Same F2 F' ∧ (∀ (x : r.den) (v : V), rtr K mg r x v H F' H' → rtr K mg r x v H F2 H') ∧ ∀ b fs, F' b = some (.xd fs) → F2 b = some (.xd fs) := by
  obtain ⟨e0, _, fps, q⟩ := q
  refine ⟨frozen F H fps, q.frozen_h e0.i, q.f_frozen, q.sd, fun F' H' x => ?_⟩
  obtain ⟨y, z⟩ := q.back e0.i x
  exact ⟨_, y, unfreeze_le, fun x v r => rtr_flat hf (fun b o e hk => z b o e (hk.imp_right .inl)) unfreeze_le r, fun b fs e => z b _ e (.inr (.inr ⟨fs, rfl⟩))⟩
theorem Own.grow {fps : Nat → List Addr} (q : Own K mg Γ σ F H B fps) (x : Ext F H F' H') : Own K mg Γ σ F' H' B fps := by
  refine ⟨fun i s e => ?_, q.out, q.nd, q.sep, fun i a ha => ⟨x.n a ?_ (q.new i a ha).1, (q.new i a ha).2⟩⟩
  · obtain ⟨ov, e1, r⟩ := q.at_ i s e
    refine ⟨ov, e1, so_frame x.f (fun a ha => ?_) r⟩
    obtain ⟨o, h1, _⟩ := so_cell r a ha
    rw [h1, x.h _ _ h1]
  · obtain ⟨o, h1, _⟩ := q.cell i a ha
    rw [h1]; exact fun z => nomatch z
/-- one slot anew -/
theorem Own.put {fps : Nat → List Addr} {i : Nat} {s : Slot} {ov : Option V} {fp : List Addr} (q : Own K mg Γ σ F H B fps) (hi : i < Γ.length) (r : so K mg s ov F H fp) (nd : fp.Nodup)
    (sep : ∀ j, j ≠ i → ∀ a ∈ fp, a ∉ fps j) (nw : ∀ a ∈ fp, F a = none ∧ B a = none) : Own K mg (Γ.set i s) (σ.set i ov) F H B (fun j => if j = i then fp else fps j) := by
  have his : i < σ.length := by
    obtain ⟨ov', e, _⟩ := q.at_ i Γ[i] (List.getElem?_eq_getElem hi)
    exact (List.getElem?_eq_some_iff.mp e).1
  refine ⟨fun j s' e => ?_, fun j e => ?_, fun j => ?_, fun j k hjk a ha => ?_, fun j a ha => ?_⟩
  · by_cases hj : j = i
    · subst hj
      rw [List.getElem?_set_self hi] at e
      cases e
      exact ⟨ov, List.getElem?_set_self his, by rw [if_pos rfl]; exact r⟩
    · rw [List.getElem?_set_ne (Ne.symm hj)] at e
      obtain ⟨ov', e1, r'⟩ := q.at_ j s' e
      exact ⟨ov', by rw [List.getElem?_set_ne (Ne.symm hj)]; exact e1, by rw [if_neg hj]; exact r'⟩
  · have hj : j ≠ i := fun z => by
      subst z
      rw [List.getElem?_set_self hi] at e; cases e
    rw [List.getElem?_set_ne (Ne.symm hj)] at e
    rw [if_neg hj]; exact q.out j e
  · by_cases hj : j = i
    · rw [if_pos hj]; exact nd
    · rw [if_neg hj]; exact q.nd j
  · by_cases hj : j = i
    · have hk : k ≠ i := fun z => hjk (hj.trans z.symm)
      rw [if_pos hj] at ha
      rw [if_neg hk]; exact sep k hk a ha
    · rw [if_neg hj] at ha
      by_cases hk : k = i
      · rw [if_pos hk]; exact fun z => sep j hj a z ha
      · rw [if_neg hk]; exact q.sep j k hjk a ha
  · by_cases hj : j = i
    · rw [if_pos hj] at ha; exact nw a ha
    · rw [if_neg hj] at ha; exact q.new j a ha
/-- the state behind a growth that leaves what is owned -/
theorem SG.grow (q : SG K mg E Γ σ F H) (x : Ext F H F' H') : SG K mg E Γ σ F' H' :=
  let ⟨e0, kp, fps, g⟩ := q
  ⟨e0.trans x, kp, fps, g.grow x⟩
/-- a slot is set to what an evaluation gave -/
theorem SG.set {r : Rt} {x : r.den} {v : V} {i : Nat} (q : SG K mg E Γ σ F H) (e : Ext F H F' H') (rr : rtr K mg r x v H F' H') (hi : i < Γ.length) (hk : i ∉ E.hk) : SG K mg E (Γ.set i (slotOf r x)) (σ.set i (some v)) F' H' := by
  obtain ⟨e0, kp, fps, g⟩ := q
  have g1 := g.grow e
  have kp' : ∀ j ∈ E.hk, (σ.set i (some v))[j]? = E.s0[j]? := fun j hj => by
    rw [List.getElem?_set_ne (show i ≠ j from fun z => hk (by rw [z]; exact hj))]; exact kp j hj
  cases r with
  | d t => exact ⟨e0.trans e, kp', _, g1.put hi (fp := []) ⟨rfl, v, rfl, rr⟩ List.nodup_nil (fun _ _ a ha => nomatch ha) (fun a ha => nomatch ha)⟩
  | o u =>
    obtain ⟨fp, o1, nd, nw⟩ := rr
    refine ⟨e0.trans e, kp', _, g1.put hi (fp := fp) ⟨v, rfl, o1⟩ nd (fun j _ a ha z => ?_) fun a ha => ⟨(nw a ha).1, e0.h.free (nw a ha).2⟩⟩
    obtain ⟨o, h1, _⟩ := g.cell j a z
    rw [(nw a ha).2] at h1; cases h1
/-- a slot is forgotten -/
theorem SG.drop {i : Nat} (q : SG K mg E Γ σ F H) (hi : i < Γ.length) : SG K mg E (Γ.set i .no) σ F H := by
  obtain ⟨e0, kp, fps, g⟩ := q
  obtain ⟨ov, e, _⟩ := g.at_ i Γ[i] (List.getElem?_eq_getElem hi)
  have h := g.put (s := .no) (ov := ov) (fp := []) hi rfl List.nodup_nil (fun _ _ a ha => nomatch ha) (fun a ha => nomatch ha)
  have es : σ.set i ov = σ := by
    obtain ⟨hl, e⟩ := List.getElem?_eq_some_iff.mp e
    rw [← e]; exact List.set_getElem_self hl
  rw [es] at h
  exact ⟨e0, kp, _, h⟩
/-- a slot's owned thing is frozen -/
theorem SG.freeze {i : Nat} {o : Ow} {x : o.ty.den} (q : SG K mg E Γ σ F H) (hi : Γ[i]? = some (.o o x)) : ∃ F', SG K mg E (Γ.set i (.d o.ty x)) σ F' H := by
  obtain ⟨e0, kp, fps, g⟩ := q
  have hil : i < Γ.length := (List.getElem?_eq_some_iff.mp hi).1
  obtain ⟨ov, e, v, rfl, r⟩ := g.at_ i _ hi
  -- F with the cells of slot i alone
  let fi : Nat → List Addr := fun j => if j = i then fps i else []
  have fin : ∀ a, a ∈ fps i → frozen F H fi a = H a := fun a ha => frozen_in (i := i) (by show a ∈ (if i = i then fps i else []); rw [if_pos rfl]; exact ha)
  have fout : ∀ a, a ∉ fps i → frozen F H fi a = F a := fun a ha => frozen_out fun j hj => by
    have hj : a ∈ (if j = i then fps i else []) := hj
    by_cases z : j = i
    · rw [if_pos z] at hj; exact ha hj
    · rw [if_neg z] at hj; cases hj
  have le : Same F (frozen F H fi) := fun b u eb => by
    rw [fout b fun hb => by rw [(g.new i b hb).1] at eb; cases eb]; exact eb
  have up : Same (frozen F H fi) H := fun b u eb => by
    by_cases hb : b ∈ fps i
    · rw [fin b hb] at eb; exact eb
    · rw [fout b hb] at eb; exact e0.i _ _ eb
  refine ⟨frozen F H fi, ⟨e0.f.trans le, e0.h, up, fun p hp hf => ?_⟩, kp, fun j => if j = i then [] else fps j, ?_⟩
  · by_cases hb : p ∈ fps i
    · exact absurd (g.new i p hb).2 hp
    · rw [fout p hb]; exact e0.n p hp hf
  · refine ⟨fun j s e1 => ?_, fun j e1 => ?_, fun j => ?_, fun j k hjk a ha => ?_, fun j a ha => ?_⟩
    · by_cases hj : j = i
      · subst hj
        rw [List.getElem?_set_self hil] at e1
        cases e1
        exact ⟨_, e, by rw [if_pos rfl], v, rfl, ol_rl le o x _ _ (fun a ha => fin a ha) r⟩
      · rw [List.getElem?_set_ne (Ne.symm hj)] at e1
        obtain ⟨ov', e2, r'⟩ := g.at_ j s e1
        exact ⟨ov', e2, by rw [if_neg hj]; exact so_frame le (fun _ _ => rfl) r'⟩
    · by_cases hj : j = i
      · rw [if_pos hj]
      · rw [List.getElem?_set_ne (Ne.symm hj)] at e1
        rw [if_neg hj]; exact g.out j e1
    · by_cases hj : j = i
      · rw [if_pos hj]; exact List.nodup_nil
      · rw [if_neg hj]; exact g.nd j
    · by_cases hj : j = i
      · rw [if_pos hj] at ha; cases ha
      · rw [if_neg hj] at ha
        by_cases hk : k = i
        · rw [if_pos hk]; exact fun z => nomatch z
        · rw [if_neg hk]; exact g.sep j k hjk a ha
    · by_cases hj : j = i
      · rw [if_pos hj] at ha; cases ha
      · rw [if_neg hj] at ha
        refine ⟨?_, (g.new j a ha).2⟩
        rw [fout a fun z => g.sep j i hj a ha z]; exact (g.new j a ha).1
end
end Gm
set_option Elab.async false
set_option linter.all false
set_option maxRecDepth 100000
set_option maxHeartbeats 4000000
namespace Gm
open PySem L2

/-! ## readings -/
section
variable (mg : Str → Option Value)
def post (W : WX) (σ : St) {α : Type} (m : Mx α) (F H : Hp) (P : α → Prop) : Prop := match m with
  | .ok x => P x
  | .ex e => ∀ cls d F' H', Ext F H F' H' → xr mg e cls d F' → W cls d σ H'
  | .no => False
variable (K : PySem.W.Frag)
def tR (W : WX) (Γ : Ctx) (r : Rt) (m : Mx r.den) : TE := fun σ H Q => ∃ F, Same F H ∧ SD K mg Γ σ F ∧
  post mg W σ m F H fun x => ∀ v F' H', Ext F H F' H' → rtr K mg r x v H F' H' → Q v H'
/-- arguments -/
def tA (W : WX) (Γ : Ctx) (ts : Ty) (m : Mx ts.den) : TA := fun σ H Q => ∃ F, Same F H ∧ SD K mg Γ σ F ∧
  post mg W σ m F H fun x => ∀ vs F' H', Ext F H F' H' → rl K mg ts x vs F' → Q vs H'
/-- a test -/
def tT (W : WX) (Γ : Ctx) (m : Mx Bool) : TT := fun σ H Q => ∃ F, Same F H ∧ SD K mg Γ σ F ∧
  post mg W σ m F H fun b => ∀ F' H', Ext F H F' H' → Q b H'
/-- a slice's end -/
def tP (W : WX) (Γ : Ctx) (m : Mx (Option Int)) : TO := fun σ H Q => ∃ F, Same F H ∧ SD K mg Γ σ F ∧
  post mg W σ m F H fun b => ∀ F' H', Ext F H F' H' → Q b H'
end
section
variable {mg : Str → Option Value} {K : PySem.W.Frag} {W : WX} {σ : St} {F H F' H' : Hp} {α β : Type}
theorem post.bind {m : Mx α} {k : α → Mx β} {P : β → Prop} (h : post mg W σ (m >>= k) F H P) : post mg W σ m F H fun x => post mg W σ (k x) F H P := by
  cases m with
  | ok a => exact h
  | ex e => exact h
  | no => exact h
theorem post.mono {m : Mx α} {P P' : α → Prop} (h : post mg W σ m F H P) (i : ∀ x, P x → P' x) : post mg W σ m F H P' := by
  cases m with
  | ok a => exact i a h
  | ex e => exact h
  | no => exact h
theorem post.ext {m : Mx α} {P P' : α → Prop} (x : Ext F H F' H') (h : post mg W σ m F H P) (i : ∀ x, P x → P' x) : post mg W σ m F' H' P' := by
  cases m with
  | ok a => exact i a h
  | ex e => exact fun cls d F2 H2 e2 r => h cls d F2 H2 (x.trans e2) r
  | no => exact h
theorem rtr_pre {r : Rt} {x : r.den} {v : V} {G : Hp} (g : Same H G) (q : rtr K mg r x v G F' H') : rtr K mg r x v H F' H' := by
  cases r with
  | d t => exact q
  | o u =>
    obtain ⟨fp, h1, h2, h3⟩ := q
    exact ⟨fp, h1, h2, fun a ha => ⟨(h3 a ha).1, g.free (h3 a ha).2⟩⟩
end
abbrev ER (X : Cx) (W : WX) (Γ : Ctx) (e : Expr) (r : Rt) (m : Mx r.den) : Prop := PE X e (tR X.mg X.K W Γ r m)
abbrev EM (X : Cx) (W : WX) (Γ : Ctx) (e : Expr) (t : Ty) (m : Mx t.den) : Prop := PE X e (tR X.mg X.K W Γ (.d t) m)
abbrev EO (X : Cx) (W : WX) (Γ : Ctx) (e : Expr) (o : Ow) (m : Mx o.ty.den) : Prop := PE X e (tR X.mg X.K W Γ (.o o) m)
abbrev EA (X : Cx) (W : WX) (Γ : Ctx) (es : List Expr) (ts : Ty) (m : Mx ts.den) : Prop := PA X es (tA X.mg X.K W Γ ts m)
abbrev ET (X : Cx) (W : WX) (Γ : Ctx) (e : Expr) (m : Mx Bool) : Prop := PT X e (tT X.mg X.K W Γ m)
abbrev EP' (X : Cx) (W : WX) (Γ : Ctx) (e : Option Expr) (m : Mx (Option Int)) : Prop := PO X e (tP X.mg X.K W Γ m)
theorem pe_imp {X : Cx} {e : Expr} {t t' : TE} (h : PE X e t) (i : ∀ σ H Q, t' σ H Q → t σ H Q) : PE X e t' := ⟨fun pins s σ H Q I q => h.run pins s σ H Q I (i σ H Q q)⟩
theorem pa_imp {X : Cx} {e : List Expr} {t t' : TA} (h : PA X e t) (i : ∀ σ H Q, t' σ H Q → t σ H Q) : PA X e t' := ⟨fun pos pins s σ H Q I q => h.run pos pins s σ H Q I (i σ H Q q)⟩
theorem pt_imp {X : Cx} {e : Expr} {t t' : TT} (h : PT X e t) (i : ∀ σ H Q, t' σ H Q → t σ H Q) : PT X e t' := ⟨fun pins s σ H Q I q => h.run pins s σ H Q I (i σ H Q q)⟩
theorem po_imp {X : Cx} {e : Option Expr} {t t' : TO} (h : PO X e t) (i : ∀ σ H Q, t' σ H Q → t σ H Q) : PO X e t' := ⟨fun pins s σ H Q I q => h.run pins s σ H Q I (i σ H Q q)⟩

def ofO {α : Type} : Option α → Mx α
  | some x => .ok x
  | none => .no

section
variable {X : Cx} {W : WX} {Γ : Ctx} {a b c e : Expr} {pos p p2 : Pos} {t t1 t2 : Ty} {r : Rt}

/-! ## parts in a row -/
theorem two_of {m1 : Mx t1.den} {m2 : Mx t2.den} {k : t1.den → t2.den → Mx r.den} {rR : R2}
    (hr : ∀ x y v w F H σ Q, Same F H → rl X.K X.mg t1 x [v] F → rl X.K X.mg t2 y [w] F → (post X.mg W σ (k x y) F H fun z => ∀ u F' H', Ext F H F' H' → rtr X.K X.mg r z u H F' H' → Q u H') → rR v w H Q) :
    ∀ σ H Q, tR X.mg X.K W Γ r (m1 >>= fun x => m2 >>= fun y => k x y) σ H Q → tOp rR (tR X.mg X.K W Γ (.d t1) m1) (tR X.mg X.K W Γ (.d t2) m2) σ H Q := by
  intro σ H Q ⟨F, s, d, p⟩
  refine ⟨F, s, d, p.bind.mono fun x px v F1 H1 e1 r1 => ⟨F1, e1.i, d.mono e1.f, post.ext (P' := _) e1 px.bind fun y py w F2 H2 e2 r2 => ?_⟩⟩
  refine hr x y v w F2 H2 σ Q e2.i (rl_mono e2.f t1 x _ r1) r2 ?_
  exact post.ext (e1.trans e2) py fun z pz u F3 H3 e3 r3 => pz u F3 H3 ((e1.trans e2).trans e3) (rtr_pre (e1.h.trans e2.h) r3)
theorem one_of {m1 : Mx t1.den} {k : t1.den → Mx r.den} {rR : V → Hp → VK → Prop}
    (hr : ∀ x v F H σ Q, Same F H → rl X.K X.mg t1 x [v] F → (post X.mg W σ (k x) F H fun z => ∀ u F' H', Ext F H F' H' → rtr X.K X.mg r z u H F' H' → Q u H') → rR v H Q) :
    ∀ σ H Q, tR X.mg X.K W Γ r (m1 >>= k) σ H Q → tUn rR (tR X.mg X.K W Γ (.d t1) m1) σ H Q := by
  intro σ H Q ⟨F, s, d, p⟩
  refine ⟨F, s, d, p.bind.mono fun x px v F1 H1 e1 r1 => ?_⟩
  exact hr x v F1 H1 σ Q e1.i r1 (post.ext e1 px fun z pz u F3 H3 e3 r3 => pz u F3 H3 (e1.trans e3) (rtr_pre e1.h r3))
theorem args_of {ts : Ty} {m1 : Mx ts.den} {k : ts.den → Mx r.den} {rR : List V → Hp → VK → Prop}
    (hr : ∀ x vs F H σ Q, Same F H → rl X.K X.mg ts x vs F → (post X.mg W σ (k x) F H fun z => ∀ u F' H', Ext F H F' H' → rtr X.K X.mg r z u H F' H' → Q u H') → rR vs H Q) :
    ∀ σ H Q, tR X.mg X.K W Γ r (m1 >>= k) σ H Q → tCB rR (tA X.mg X.K W Γ ts m1) σ H Q := by
  intro σ H Q ⟨F, s, d, p⟩
  refine ⟨F, s, d, p.bind.mono fun x px v F1 H1 e1 r1 => ?_⟩
  exact hr x v F1 H1 σ Q e1.i r1 (post.ext e1 px fun z pz u F3 H3 e3 r3 => pz u F3 H3 (e1.trans e3) (rtr_pre e1.h r3))

/-! ## arguments -/
theorem ea_nil : EA X W Γ [] .nl (.ok ()) := pa_imp pa_nil fun σ H Q ⟨F, s, d, p⟩ => p [] F H (Ext.refl s) rfl
theorem ea_cons {es : List Expr} {ts : Ty} {m : Mx t.den} {ms : Mx ts.den} (ha : EM X W Γ a t m) (hr : EA X W Γ es ts ms) (hs : starEach (a :: es) X.env = (false, eval a X.env) :: starEach es X.env := by rfl) :
    EA X W Γ (a :: es) (.pr t ts) (m >>= fun x => ms >>= fun y => .ok (x, y)) := pa_imp (pa_cons ha hr hs) fun σ H Q ⟨F, s, d, p⟩ => by
  refine ⟨F, s, d, p.bind.mono fun x px v F1 H1 e1 r1 => ⟨F1, e1.i, d.mono e1.f, post.ext e1 px.bind fun y py vs F2 H2 e2 r2 => ?_⟩⟩
  exact py (v :: vs) F2 H2 (e1.trans e2) ⟨v, vs, rfl, rl_mono e2.f t x _ r1, r2⟩
theorem ea_one {m : Mx t.den} (ha : EM X W Γ a t m) (hs : starEach [a] X.env = (false, eval a X.env) :: starEach [] X.env := by rfl) : EA X W Γ [a] t m := pa_imp (pa_cons ha pa_nil hs) fun σ H Q ⟨F, s, d, p⟩ =>
  ⟨F, s, d, p.mono fun x px v F1 H1 e1 r1 => px [v] F1 H1 e1 r1⟩

/-! ## names, constants -/
theorem e_c {v : V} {x : t.den} (h : PE X e (tC v)) (hv : ∀ F, rl X.K X.mg t x [v] F) : EM X W Γ e t (.ok x) := pe_imp h fun σ H Q ⟨F, s, d, p⟩ => p v F H (Ext.refl s) (hv F)
theorem e_int {i : Int} {j : Nat} : EM X W Γ (.Constant (.int i) j pos) .int (.ok i) := e_c pe_int fun _ => rfl
theorem e_str {i : Str} {j : Nat} : EM X W Γ (.Constant (.str i) j pos) .str (.ok i) := e_c pe_str fun _ => rfl
theorem e_bool {i : Bool} {j : Nat} : EM X W Γ (.Constant (.bool i) j pos) .bool (.ok i) := e_c pe_bl fun _ => rfl
theorem e_none {j : Nat} : EM X W Γ (.Constant .none j pos) .non (.ok ()) := e_c pe_non fun _ => rfl
theorem e_noneO {j : Nat} : EM X W Γ (.Constant .none j pos) (.opt t) (.ok none) := e_c pe_non fun _ => rfl
theorem e_var (i : Nat) {n : Str} {x : t.den} (hΓ : Γ[i]? = some (.d t x)) (hp : PE X (.Name n pos) (tVar i)) : EM X W Γ (.Name n pos) t (.ok x) := pe_imp hp fun σ H Q ⟨F, s, d, p⟩ => by
  obtain ⟨ov, e1, v, rfl, r⟩ := d i _ hΓ
  exact ⟨v, e1, p v F H (Ext.refl s) r⟩
/-- an owned thing, read -/
theorem e_own (i : Nat) {n : Str} {o : Ow} {x : o.ty.den} (hΓ : Γ[i]? = some (.o o x)) (hp : PE X (.Name n pos) (tVar i)) : EM X W Γ (.Name n pos) o.ty (.ok x) := pe_imp hp fun σ H Q ⟨F, s, d, p⟩ => by
  obtain ⟨ov, e1, v, rfl, r⟩ := d i _ hΓ
  exact ⟨v, e1, p v F H (Ext.refl s) r⟩
/-- a new owned thing, as data -/
theorem e_frz {o : Ow} {m : Mx o.ty.den} (h : EO X W Γ e o m) : EM X W Γ e o.ty m := pe_imp h fun σ H Q ⟨F, s, d, p⟩ => by
  refine ⟨F, s, d, p.mono fun x px v F' H' e1 r => ?_⟩
  obtain ⟨fp, r, nd, nw⟩ := r
  let fi : Nat → List Addr := fun j => if j = 0 then fp else []
  have fin : ∀ a, a ∈ fp → frozen F' H' fi a = H' a := fun a ha => frozen_in (i := 0) (by show a ∈ (if (0 : Nat) = 0 then fp else []); rw [if_pos rfl]; exact ha)
  have fout : ∀ a, a ∉ fp → frozen F' H' fi a = F' a := fun a ha => frozen_out fun j hj => by
    have hj : a ∈ (if j = 0 then fp else []) := hj
    by_cases z : j = 0
    · rw [if_pos z] at hj; exact ha hj
    · rw [if_neg z] at hj; cases hj
  have le : Same F' (frozen F' H' fi) := fun b u eb => by
    rw [fout b fun hb => by rw [(nw b hb).1] at eb; cases eb]; exact eb
  refine px v (frozen F' H' fi) H' ⟨e1.f.trans le, e1.h, fun b u eb => ?_, fun q hq hf => ?_⟩ (ol_rl le o x _ _ (fun a ha => fin a ha) r)
  · by_cases hb : b ∈ fp
    · rw [fin b hb] at eb; exact eb
    · rw [fout b hb] at eb; exact e1.i _ _ eb
  · by_cases hb : q ∈ fp
    · exact absurd (nw q hb).2 hq
    · rw [fout q hb]; exact e1.n q hq hf
/-- a value as an option -/
def Ty.some_ : Ty → Bool
  | .int => true
  | .bool => true
  | .str => true
  | .tup _ => true
  | .vtup _ => true
  | .hl _ => true
  | .list _ => true
  | .ins _ _ _ => true
  | .dic _ _ => true
  | .dicN _ _ _ _ => true
  | .sum a b => a.some_ && b.some_
  | _ => false
theorem rl_some {K : PySem.W.Frag} {mg : Str → Option Value} {F : Hp} : ∀ {t : Ty} {x : t.den} {vs : List V}, t.some_ = true → rl K mg t x vs F → vs ≠ [.non] := by
  intro t
  induction t with
  | sum a b iha ihb =>
    intro x vs h r
    have h' := (Bool.and_eq_true _ _).mp (show (a.some_ && b.some_) = true from h)
    cases x with
    | inl y => exact iha h'.1 r
    | inr y => exact ihb h'.2 r
  | dic _ _ _ _ => intro x vs h r; obtain ⟨_, _, e, _⟩ := r; rw [e]; exact fun z => nomatch z
  | dicN _ _ _ _ _ _ => intro x vs h r; obtain ⟨_, _, e, _⟩ := r; rw [e]; exact fun z => nomatch z
  | int => intro x vs h r; rw [show vs = _ from r]; exact fun z => nomatch z
  | bool => intro x vs h r; rw [show vs = _ from r]; exact fun z => nomatch z
  | str => intro x vs h r; rw [show vs = _ from r]; exact fun z => nomatch z
  | tup _ _ => intro x vs h r; obtain ⟨_, _, e, _⟩ := r; rw [e]; exact fun z => nomatch z
  | vtup _ _ => intro x vs h r; obtain ⟨_, _, e, _⟩ := r; rw [e]; exact fun z => nomatch z
  | hl _ _ => intro x vs h r; obtain ⟨_, _, e, _⟩ := r; rw [e]; exact fun z => nomatch z
  | list _ _ => intro x vs h r; obtain ⟨_, _, e, _⟩ := r; rw [e]; exact fun z => nomatch z
  | ins _ _ _ _ => intro x vs h r; obtain ⟨_, _, _, _, e, _⟩ := r; rw [e]; exact fun z => nomatch z
  | _ => intro x vs h; cases h
theorem e_some {m : Mx t.den} (ht : t.some_ = true) (h : EM X W Γ e t m) : EM X W Γ e (.opt t) (m >>= fun x => .ok (some x)) := pe_imp h fun σ H Q ⟨F, s, d, p⟩ =>
  ⟨F, s, d, p.bind.mono fun x px v F' H' e1 r => px v F' H' e1 ⟨rl_some ht r, r⟩⟩

/-! ## operators -/
theorem e_bin {op : Operator} {m1 : Mx t1.den} {m2 : Mx t2.den} {g : t1.den → t2.den → Option r.den} {rR : R2} (ho : OpR X (binaryOp op) rR)
    (hr : ∀ x y z, g x y = some z → ∀ v w F H Q, Same F H → rl X.K X.mg t1 x [v] F → rl X.K X.mg t2 y [w] F → (∀ u F' H', Ext F H F' H' → rtr X.K X.mg r z u H F' H' → Q u H') → rR v w H Q)
    (ha : EM X W Γ a t1 m1) (hb : EM X W Γ b t2 m2) : ER X W Γ (.BinOp a op b pos) r (m1 >>= fun x => m2 >>= fun y => ofO (g x y)) :=
  pe_imp (pe_op ho ha hb) (two_of fun x y v w F H σ Q s r1 r2 p => by
    cases e : g x y with
    | none => rw [e] at p; exact p.elim
    | some z => rw [e] at p; exact hr x y z e v w F H Q s r1 r2 p)
theorem e_cmp {op : CmpOp} {m1 : Mx t1.den} {m2 : Mx t2.den} {g : t1.den → t2.den → Option r.den} {rR : R2} (ho : OpR X (compareOp op) rR) (hm : behindInMarks op b = false)
    (hr : ∀ x y z, g x y = some z → ∀ v w F H Q, Same F H → rl X.K X.mg t1 x [v] F → rl X.K X.mg t2 y [w] F → (∀ u F' H', Ext F H F' H' → rtr X.K X.mg r z u H F' H' → Q u H') → rR v w H Q)
    (ha : EM X W Γ a t1 m1) (hb : EM X W Γ b t2 m2) : ER X W Γ (.Compare a [op] [b] pos) r (m1 >>= fun x => m2 >>= fun y => ofO (g x y)) :=
  pe_imp (pe_cmpR ho ha hb hm) (two_of fun x y v w F H σ Q s r1 r2 p => by
    cases e : g x y with
    | none => rw [e] at p; exact p.elim
    | some z => rw [e] at p; exact hr x y z e v w F H Q s r1 r2 p)
theorem e_ix {m1 : Mx t1.den} {m2 : Mx t2.den} {g : t1.den → t2.den → Option r.den} {rR : R2} (ho : IxR X rR) (hs : PlainIx b)
    (hr : ∀ x y z, g x y = some z → ∀ v w F H Q, Same F H → rl X.K X.mg t1 x [v] F → rl X.K X.mg t2 y [w] F → (∀ u F' H', Ext F H F' H' → rtr X.K X.mg r z u H F' H' → Q u H') → rR v w H Q)
    (ha : EM X W Γ a t1 m1) (hb : EM X W Γ b t2 m2) : ER X W Γ (.Subscript a b pos) r (m1 >>= fun x => m2 >>= fun y => ofO (g x y)) :=
  pe_imp (pe_ix ho ha hb hs) (two_of fun x y v w F H σ Q s r1 r2 p => by
    cases e : g x y with
    | none => rw [e] at p; exact p.elim
    | some z => rw [e] at p; exact hr x y z e v w F H Q s r1 r2 p)
end
end Gm
set_option Elab.async false
set_option linter.all false
set_option maxRecDepth 100000
set_option maxHeartbeats 4000000
namespace Gm
open PySem PySem.Spec L2

/-! ## equality of data -/
inductive Kd where
  | i | b | s | t | l
deriving DecidableEq
/-- things of these two kinds are never equal -/
def Kd.dis : Kd → Kd → Bool
  | .i, .i => false
  | .i, .b => false
  | .b, .i => false
  | .b, .b => false
  | .s, .s => false
  | .t, .t => false
  | .l, .l => false
  | _, _ => true
def Ty.kds : Ty → Option (List Kd)
  | .int => some [.i]
  | .bool => some [.b]
  | .str => some [.s]
  | .tup _ => some [.t]
  | .vtup _ => some [.t]
  | .hl _ => some [.l]
  | .list _ => some [.l]
  | .sum a b => match a.kds, b.kds with
    | some l, some l' => some (l ++ l')
    | _, _ => none
  | _ => none
def Ty.dis (a b : Ty) : Bool := match a.kds, b.kds with
  | some l, some l' => l.all fun k => l'.all fun k' => k.dis k'
  | _, _ => false
def lbeq {α : Type} (f : α → α → Bool) : List α → List α → Bool
  | [], [] => true
  | x :: xs, y :: ys => f x y && lbeq f xs ys
  | _, _ => false
def Ty.beq : (t : Ty) → t.den → t.den → Bool
  | .int, x, y => @BEq.beq Int _ x y
  | .bool, x, y => @BEq.beq Bool _ x y
  | .str, x, y => @BEq.beq Str _ x y
  | .non, _, _ => true
  | .scr, _, _ => false
  | .tpl, _, _ => false
  | .exn, _, _ => false
  | .opt t, x, y => match x, y with
    | none, none => true
    | some a, some b => t.beq a b
    | _, _ => false
  | .tup fs, x, y => fs.beq x y
  | .vtup t, x, y => lbeq t.beq x y
  | .hl fs, x, y => fs.beq x y
  | .list t, x, y => lbeq t.beq x y
  | .pr a b, x, y => a.beq x.1 y.1 && b.beq x.2 y.2
  | .nl, _, _ => true
  | .sum a b, x, y => match x, y with
    | .inl x, .inl y => a.beq x y
    | .inr x, .inr y => b.beq x y
    | _, _ => false
  | .ins _ _ _, _, _ => false
  | .dic _ _, _, _ => false
  | .dicN _ _ _ _, _, _ => false
def Ty.eqok : Ty → Bool
  | .int => true
  | .bool => true
  | .str => true
  | .non => true
  | .scr => false
  | .tpl => false
  | .exn => false
  | .opt t => t.some_ && t.eqok
  | .tup fs => fs.eqok
  | .vtup t => t.eqok
  | .hl fs => fs.eqok
  | .list t => t.eqok
  | .pr a b => a.eqok && b.eqok
  | .nl => true
  | .sum a b => (a.some_ && b.some_) && ((a.eqok && b.eqok) && a.dis b)
  | .ins _ _ _ => false
  | .dic _ _ => false
  | .dicN _ _ _ _ => false
theorem Ty.sumok {a b : Ty} (h : (Ty.sum a b).eqok = true) : a.some_ = true ∧ b.some_ = true ∧ a.eqok = true ∧ b.eqok = true ∧ a.dis b = true := by
  have h : ((a.some_ && b.some_) && ((a.eqok && b.eqok) && a.dis b)) = true := h
  simp only [Bool.and_eq_true] at h
  exact ⟨h.1.1, h.1.2, h.2.1.1, h.2.1.2, h.2.2⟩
def Ty.depth : Ty → Nat
  | .opt t => t.depth
  | .tup fs => fs.depth + 1
  | .vtup t => t.depth + 1
  | .hl fs => fs.depth + 1
  | .list t => t.depth + 1
  | .pr a b => a.depth + b.depth
  | .sum a b => a.depth + b.depth
  | _ => 0
theorem lbeq_iff {α : Type} {f : α → α → Bool} (h : ∀ x y, f x y = true ↔ x = y) : ∀ xs ys : List α, lbeq f xs ys = true ↔ xs = ys
  | [], [] => by simp [lbeq]
  | x :: xs, y :: ys => by simp [lbeq, h, lbeq_iff h xs ys]
  | [], _ :: _ => by simp [lbeq]
  | _ :: _, [] => by simp [lbeq]
theorem beq_iff : ∀ (t : Ty), t.eqok = true → ∀ x y : t.den, t.beq x y = true ↔ x = y := by
  intro t
  induction t with
  | int => intro _ x y; exact beq_iff_eq
  | bool => intro _ x y; exact beq_iff_eq
  | str => intro _ x y; exact beq_iff_eq
  | non => intro _ x y; exact ⟨fun _ => rfl, fun _ => rfl⟩
  | opt t ih =>
    intro h x y
    have h' := (Bool.and_eq_true _ _).mp (show (t.some_ && t.eqok) = true from h)
    cases x with
    | none => cases y with
      | none => exact ⟨fun _ => rfl, fun _ => rfl⟩
      | some b => exact ⟨fun z => (nomatch z), fun z => (nomatch z)⟩
    | some a => cases y with
      | none => exact ⟨fun z => (nomatch z), fun z => (nomatch z)⟩
      | some b => exact (ih h'.2 a b).trans ⟨fun z => congrArg some z, fun z => Option.some.inj z⟩
  | tup fs ih => intro h x y; exact ih h x y
  | vtup t ih => intro h x y; exact lbeq_iff (ih h) x y
  | hl fs ih => intro h x y; exact ih h x y
  | list t ih => intro h x y; exact lbeq_iff (ih h) x y
  | pr a b iha ihb =>
    intro h x y
    have h' := (Bool.and_eq_true _ _).mp (show (a.eqok && b.eqok) = true from h)
    obtain ⟨x1, x2⟩ := x
    obtain ⟨y1, y2⟩ := y
    show (a.beq x1 y1 && b.beq x2 y2) = true ↔ _
    rw [Bool.and_eq_true, iha h'.1, ihb h'.2, Prod.mk.injEq]
  | nl => intro _ x y; exact ⟨fun _ => rfl, fun _ => rfl⟩
  | scr => intro h; cases h
  | tpl => intro h; cases h
  | exn => intro h; cases h
  | sum a b iha ihb =>
    intro h x y
    obtain ⟨_, _, h1, h2, _⟩ := Ty.sumok h
    cases x with
    | inl x => cases y with
      | inl y => exact (iha h1 x y).trans ⟨fun z => congrArg Sum.inl z, fun z => Sum.inl.inj z⟩
      | inr y => exact ⟨fun z => (nomatch z), fun z => (nomatch z)⟩
    | inr x => cases y with
      | inl y => exact ⟨fun z => (nomatch z), fun z => (nomatch z)⟩
      | inr y => exact (ihb h2 x y).trans ⟨fun z => congrArg Sum.inr z, fun z => Sum.inr.inj z⟩
  | ins c ns fs => intro h; cases h
  | dicN _ _ _ _ => intro h; cases h
  | dic  _ _ => intro h; cases h
theorem beq_dec {t : Ty} (h : t.eqok = true) [d : DecidableEq t.den] (x y : t.den) : t.beq x y = decide (x = y) := by
  rw [Bool.eq_iff_iff, beq_iff t h, decide_eq_true_iff]

theorem Vals.one {v : V} {us : List Value} (r : Vals [v] us) : ∃ u, us = [u] ∧ RelV v u := by
  cases r with
  | cons a b => cases b; exact ⟨_, rfl, a⟩
theorem rl_one {K : PySem.W.Frag} {mg : Str → Option Value} {F : Hp} : ∀ {t : Ty} {x : t.den} {vs : List V}, t.some_ = true → rl K mg t x vs F → ∃ v, vs = [v] := by
  intro t
  induction t with
  | sum a b iha ihb =>
    intro x vs h r
    have h' := (Bool.and_eq_true _ _).mp (show (a.some_ && b.some_) = true from h)
    cases x with
    | inl y => exact iha h'.1 r
    | inr y => exact ihb h'.2 r
  | dic _ _ _ _ => intro x vs h r; obtain ⟨_, _, e, _⟩ := r; exact ⟨_, e⟩
  | dicN _ _ _ _ _ _ => intro x vs h r; obtain ⟨_, _, e, _⟩ := r; exact ⟨_, e⟩
  | int => intro x vs h r; exact ⟨_, r⟩
  | bool => intro x vs h r; exact ⟨_, r⟩
  | str => intro x vs h r; exact ⟨_, r⟩
  | tup _ _ => intro x vs h r; obtain ⟨_, _, e, _⟩ := r; exact ⟨_, e⟩
  | vtup _ _ => intro x vs h r; obtain ⟨_, _, e, _⟩ := r; exact ⟨_, e⟩
  | hl _ _ => intro x vs h r; obtain ⟨_, _, e, _⟩ := r; exact ⟨_, e⟩
  | list _ _ => intro x vs h r; obtain ⟨_, _, e, _⟩ := r; exact ⟨_, e⟩
  | ins _ _ _ _ => intro x vs h r; obtain ⟨_, _, _, _, e, _⟩ := r; exact ⟨_, e⟩
  | _ => intro x vs h; cases h

section
variable {X : Cx} {pins : List (Addr × Obj)} {σ : L2.St} {F H : Hp} {s : Shared} {mg : Str → Option Value}
theorem sqT_same {K : PySem.W.Frag} {F H : Hp} {a : Addr} {ws : List V} (h : Same F H) (q : SqT K F a ws) : SqT K H a ws := sqT_mono (fun b o z _ => h b o z) q
theorem all2.inj {α : Type} {R : α → V → Prop} (h : ∀ x y v, R x v → R y v → x = y) : ∀ {xs ys : List α} {vs : List V}, all2 R xs vs → all2 R ys vs → xs = ys
  | [], [], [], _, _ => rfl
  | _ :: _, _ :: _, _ :: _, ⟨a, b⟩, ⟨c, d⟩ => by rw [h _ _ _ a c, all2.inj h b d]
  | [], _, _ :: _, z, _ => z.elim
  | _ :: _, _, [], z, _ => z.elim
  | [], _ :: _, [], _, z => z.elim
  | _ :: _, [], _ :: _, _, z => z.elim
/-- the kind of a value that stands in the heap -/
inductive KW (s : Shared) : Kd → V → Prop
  | i (n : Int) : KW s .i (.int n)
  | b (n : Bool) : KW s .b (.bl n)
  | s (n : Str) : KW s .s (.str n)
  | t {a : Addr} {its : Array Value} (h : s.heap.IsTuple a its) : KW s .t (.ref a)
  | l {a : Addr} {its : Array Value} (h : s.heap.IsList a its) : KW s .l (.ref a)
theorem kw_of (I : Inv X pins σ H s) (hs : Same F H) : ∀ {t : Ty} {x : t.den} {v : V} {l : List Kd}, t.kds = some l → rl X.K mg t x [v] F → ∃ k ∈ l, KW s k v := by
  intro t
  induction t with
  | int => intro x v l h r; cases h; cases (List.cons.inj (show [v] = _ from r)).1; exact ⟨_, List.mem_singleton.mpr rfl, .i _⟩
  | bool => intro x v l h r; cases h; cases (List.cons.inj (show [v] = _ from r)).1; exact ⟨_, List.mem_singleton.mpr rfl, .b _⟩
  | str => intro x v l h r; cases h; cases (List.cons.inj (show [v] = _ from r)).1; exact ⟨_, List.mem_singleton.mpr rfl, .s _⟩
  | tup fs _ =>
    intro x v l h r
    cases h
    obtain ⟨a, ws, e, s1, _⟩ := r
    cases (List.cons.inj e).1
    obtain ⟨its, _, p, _⟩ := I.tuple (sqT_same hs s1)
    exact ⟨_, List.mem_singleton.mpr rfl, .t (show s.heap.IsTuple a its.toArray from p)⟩
  | vtup t _ =>
    intro x v l h r
    cases h
    obtain ⟨a, ws, e, s1, _⟩ := r
    cases (List.cons.inj e).1
    obtain ⟨its, _, p, _⟩ := I.tuple (sqT_same hs s1)
    exact ⟨_, List.mem_singleton.mpr rfl, .t (show s.heap.IsTuple a its.toArray from p)⟩
  | hl fs _ =>
    intro x v l h r
    cases h
    obtain ⟨a, ws, e, s1, _⟩ := r
    cases (List.cons.inj e).1
    obtain ⟨its, _, p, _⟩ := I.list (SqL.of (hs _ _ s1))
    exact ⟨_, List.mem_singleton.mpr rfl, .l p.isList⟩
  | list t _ =>
    intro x v l h r
    cases h
    obtain ⟨a, ws, e, s1, _⟩ := r
    cases (List.cons.inj e).1
    obtain ⟨its, _, p, _⟩ := I.list (SqL.of (hs _ _ s1))
    exact ⟨_, List.mem_singleton.mpr rfl, .l p.isList⟩
  | sum a b iha ihb =>
    intro x v l h r
    have h : (match a.kds, b.kds with | some l, some l' => some (l ++ l') | _, _ => none) = some l := h
    cases ea : a.kds with
    | none => rw [ea] at h; cases h
    | some la => cases eb : b.kds with
      | none => rw [ea, eb] at h; cases h
      | some lb =>
        rw [ea, eb] at h
        cases h
        cases x with
        | inl y => obtain ⟨k, m, q⟩ := iha ea r; exact ⟨k, List.mem_append_left _ m, q⟩
        | inr y => obtain ⟨k, m, q⟩ := ihb eb r; exact ⟨k, List.mem_append_right _ m, q⟩
  | _ => intro x v l h; cases h
theorem kw_false {k k' : Kd} {v : V} (h : KW s k v) (h' : KW s k' v) (d : k.dis k' = true) : False := by
  cases h <;> cases h' <;> first | exact absurd d (by decide) | exact SeqAt.ne_of_list_tuple (by assumption) (by assumption) rfl
theorem kw_ne {A : Around} {k k' : Kd} {v w : V} {u u' : Value} (hu : A.units < cLine) (h : KW s k v) (h' : KW s k' w) (d : k.dis k' = true) (r : RelV v u) (r' : RelV w u') : SeqAt.EqAt A s u u' false := by
  cases h with
  | i n =>
    obtain ⟨t, rfl⟩ := r
    cases h' with
    | i _ => cases d
    | b _ => cases d
    | s m => obtain ⟨t', rfl⟩ := r'; exact .int_str _ _ _ _
    | t h => cases r'; exact .int_tuple _ _ h hu
    | l h => cases r'; exact .int_list _ _ h hu
  | b n =>
    cases r
    cases h' with
    | i _ => cases d
    | b _ => cases d
    | s m => obtain ⟨t', rfl⟩ := r'; exact .bool_str _ _ _
    | t h => cases r'; exact .bool_tuple _ h hu
    | l h => cases r'; exact .bool_list _ h hu
  | s n =>
    obtain ⟨t, rfl⟩ := r
    cases h' with
    | i _ => obtain ⟨t', rfl⟩ := r'; exact .str_int _ _ _ _
    | b _ => cases r'; exact .str_bool _ _ _
    | s m => cases d
    | t h => cases r'; exact .str_tuple _ _ h hu
    | l h => cases r'; exact .str_list _ _ h hu
  | t h0 =>
    cases r
    cases h' with
    | i _ => obtain ⟨t', rfl⟩ := r'; exact .tuple_int _ _ h0 hu
    | b _ => cases r'; exact .tuple_bool _ h0 hu
    | s m => obtain ⟨t', rfl⟩ := r'; exact .tuple_str _ _ h0 hu
    | t h => cases d
    | l h => cases r'; exact .tuple_list h0 h hu
  | l h0 =>
    cases r
    cases h' with
    | i _ => obtain ⟨t', rfl⟩ := r'; exact .list_int _ _ h0 hu
    | b _ => cases r'; exact .list_bool _ h0 hu
    | s m => obtain ⟨t', rfl⟩ := r'; exact .list_str _ _ h0 hu
    | t h => cases r'; exact .list_tuple h0 h hu
    | l h => cases d
theorem dis_kw (I : Inv X pins σ H s) (hs : Same F H) {a b : Ty} (d : a.dis b = true) {x : a.den} {y : b.den} {v w : V} (p : rl X.K mg a x [v] F) (q : rl X.K mg b y [w] F) : ∃ k k', KW s k v ∧ KW s k' w ∧ k.dis k' = true := by
  unfold Ty.dis at d
  cases ea : a.kds with
  | none => rw [ea] at d; cases d
  | some la => cases eb : b.kds with
    | none => rw [ea, eb] at d; cases d
    | some lb =>
      rw [ea, eb] at d
      obtain ⟨k, m, q1⟩ := kw_of I hs ea p
      obtain ⟨k', m', q2⟩ := kw_of I hs eb q
      exact ⟨k, k', q1, q2, List.all_eq_true.mp (List.all_eq_true.mp d k m) k' m'⟩
theorem Kd.dis_comm (k k' : Kd) : k.dis k' = k'.dis k := by cases k <;> cases k' <;> rfl
theorem rl_inj (I : Inv X pins σ H s) (hs : Same F H) : ∀ (t : Ty), t.eqok = true → ∀ (x y : t.den) (vs : List V), rl X.K mg t x vs F → rl X.K mg t y vs F → x = y := by
  intro t
  induction t with
  | int => intro _ x y vs p q; rw [show vs = _ from p] at q; exact V.int.inj (List.cons.inj q).1
  | bool => intro _ x y vs p q; rw [show vs = _ from p] at q; exact V.bl.inj (List.cons.inj q).1
  | str => intro _ x y vs p q; rw [show vs = _ from p] at q; exact V.str.inj (List.cons.inj q).1
  | non => intro _ x y vs p q; rfl
  | opt t ih =>
    intro h x y vs p q
    have h' := (Bool.and_eq_true _ _).mp (show (t.some_ && t.eqok) = true from h)
    cases x with
    | none => cases y with
      | none => rfl
      | some b => exact absurd p q.1
    | some a => cases y with
      | none => exact absurd q p.1
      | some b => exact congrArg some (ih h'.2 a b vs p.2 q.2)
  | tup fs ih =>
    intro h x y vs p q
    obtain ⟨a, ws, e, s1, r1⟩ := p
    obtain ⟨b, zs, e', s2, r2⟩ := q
    rw [e] at e'; cases e'
    cases I.tuple_inj (sqT_same hs s1) (sqT_same hs s2)
    exact ih h x y _ r1 r2
  | vtup t ih =>
    intro h x y vs p q
    obtain ⟨a, ws, e, s1, r1⟩ := p
    obtain ⟨b, zs, e', s2, r2⟩ := q
    rw [e] at e'; cases e'
    cases I.tuple_inj (sqT_same hs s1) (sqT_same hs s2)
    exact all2.inj (fun x y v => ih h x y [v]) r1 r2
  | hl fs ih =>
    intro h x y vs p q
    obtain ⟨a, ws, e, s1, r1⟩ := p
    obtain ⟨b, zs, e', s2, r2⟩ := q
    rw [e] at e'; cases e'
    cases I.list_inj (SqL.of (hs _ _ s1)) (SqL.of (hs _ _ s2))
    exact ih h x y _ r1 r2
  | list t ih =>
    intro h x y vs p q
    obtain ⟨a, ws, e, s1, r1⟩ := p
    obtain ⟨b, zs, e', s2, r2⟩ := q
    rw [e] at e'; cases e'
    cases I.list_inj (SqL.of (hs _ _ s1)) (SqL.of (hs _ _ s2))
    exact all2.inj (fun x y v => ih h x y [v]) r1 r2
  | pr a b iha ihb =>
    intro h x y vs p q
    have h' := (Bool.and_eq_true _ _).mp (show (a.eqok && b.eqok) = true from h)
    obtain ⟨v, r, e, p1, p2⟩ := p
    obtain ⟨w, r', e', q1, q2⟩ := q
    rw [e] at e'; cases e'
    exact Prod.ext (iha h'.1 _ _ _ p1 q1) (ihb h'.2 _ _ _ p2 q2)
  | nl => intro _ x y vs p q; rfl
  | scr => intro h; cases h
  | tpl => intro h; cases h
  | exn => intro h; cases h
  | sum a b iha ihb =>
    intro h x y vs p q
    obtain ⟨h3, h4, h1, h2, h5⟩ := Ty.sumok h
    cases x with
    | inl x => cases y with
      | inl y => exact congrArg Sum.inl (iha h1 x y vs p q)
      | inr y =>
        obtain ⟨v, rfl⟩ := rl_one h3 p
        obtain ⟨k, k', k1, k2, kd⟩ := dis_kw I hs h5 p q
        exact (kw_false k1 k2 kd).elim
    | inr x => cases y with
      | inl y =>
        obtain ⟨v, rfl⟩ := rl_one h4 p
        obtain ⟨k, k', k1, k2, kd⟩ := dis_kw I hs h5 q p
        exact (kw_false k1 k2 kd).elim
      | inr y => exact congrArg Sum.inr (ihb h2 x y vs p q)
  | ins c ns fs => intro h; cases h
  | dicN _ _ _ _ => intro h; cases h
  | dic  _ _ => intro h; cases h

/-- pointwise answers of == -/
def EqL (A : Around) (s : Shared) (us ws : List Value) (b : Bool) : Prop := ∃ e : Nat → Bool, us.length = ws.length ∧ (∀ j u w, us[j]? = some u → ws[j]? = some w → SeqAt.EqAt A s u w (e j)) ∧ b = (List.range us.length).all e
theorem EqL.single {A : Around} {u w : Value} {b : Bool} (h : SeqAt.EqAt A s u w b) : EqL A s [u] [w] b := by
  refine ⟨fun _ => b, rfl, fun j u' w' e1 e2 => ?_, by simp⟩
  cases j with
  | zero => simp at e1 e2; subst e1; subst e2; exact h
  | succ j => simp at e1
theorem range_all_succ (n : Nat) (e : Nat → Bool) : (List.range (n + 1)).all e = (e 0 && (List.range n).all fun j => e (j + 1)) := by
  rw [List.range_succ_eq_map, List.all_cons, List.all_map]; rfl
theorem EqL.cons {A : Around} {u w : Value} {us ws : List Value} {b c : Bool} (h : SeqAt.EqAt A s u w b) (t : EqL A s us ws c) : EqL A s (u :: us) (w :: ws) (b && c) := by
  obtain ⟨e, h1, h2, h3⟩ := t
  refine ⟨fun j => match j with | 0 => b | j + 1 => e j, congrArg (· + 1) h1, fun j u' w' e1 e2 => ?_, ?_⟩
  · cases j with
    | zero => simp at e1 e2; subst e1; subst e2; exact h
    | succ j => exact h2 j u' w' (by simpa using e1) (by simpa using e2)
  · rw [List.length_cons, range_all_succ, h3]
theorem EqL.one {A : Around} {u w : Value} {b : Bool} (h : EqL A s [u] [w] b) : SeqAt.EqAt A s u w b := by
  obtain ⟨e, h1, h2, h3⟩ := h
  have := h2 0 u w rfl rfl
  rw [h3]; simpa using this
theorem rc_lists {A : Around} {a b : Addr} {ws zs : List V} {c : Bool} (hu : A.units < cLine) (I : Inv X pins σ H s) (h1 : SqL X.K H a ws) (h2 : SqL X.K H b zs)
    (h : ws.length = zs.length → ∀ us us', Vals ws us → Vals zs us' → EqL A.in1 s us us' c) (hn : ws.length ≠ zs.length → c = false) : SeqAt.RcAt A s (.ref a) (.ref b) c := by
  obtain ⟨its, r1, p1, z1⟩ := I.list h1
  obtain ⟨its', r2, p2, z2⟩ := I.list h2
  by_cases hl : ws.length = zs.length
  · obtain ⟨e, e1, e2, e3⟩ := h hl its its' r1 r2
    rw [e3]
    have := SeqAt.RcAt.lists (e := e) p1.isList p2.isList (by simpa using e1) hu fun j h1 h2 => e2 j _ _ (by simp at h1; simp [h1]) (by simp at h2; simp [h2])
    simpa using this
  · rw [hn hl]
    refine SeqAt.RcAt.lists_lengths p1.isList p2.isList ?_ hu
    rw [bne_iff_ne]
    simp only [List.size_toArray]
    rw [← r1.length, ← r2.length]; exact hl
theorem rc_tuples {A : Around} {a b : Addr} {ws zs : List V} {c : Bool} (hu : A.units < cLine) (I : Inv X pins σ H s) (h1 : SqT X.K H a ws) (h2 : SqT X.K H b zs)
    (h : ws.length = zs.length → ∀ us us', Vals ws us → Vals zs us' → EqL A.in1 s us us' c) (hn : ws.length ≠ zs.length → c = false)
    (hall : ∀ us us', Vals ws us → Vals zs us' → ∃ e : Nat → Bool, ∀ j u w, us[j]? = some u → us'[j]? = some w → SeqAt.EqAt A.in1 s u w (e j)) : SeqAt.RcAt A s (.ref a) (.ref b) c := by
  obtain ⟨its, r1, p1, z1⟩ := I.tuple h1
  obtain ⟨its', r2, p2, z2⟩ := I.tuple h2
  by_cases hl : ws.length = zs.length
  · obtain ⟨e, e1, e2, e3⟩ := h hl its its' r1 r2
    have := SeqAt.RcAt.tuples (e := e) (show s.heap.IsTuple a its.toArray from p1) (show s.heap.IsTuple b its'.toArray from p2) hu fun j h1 h2 => e2 j _ _ (by simp at h1; simp [h1]) (by simp at h2; simp [h2])
    rw [e3]
    simpa [e1] using this
  · obtain ⟨e, he⟩ := hall its its' r1 r2
    have := SeqAt.RcAt.tuples (e := e) (show s.heap.IsTuple a its.toArray from p1) (show s.heap.IsTuple b its'.toArray from p2) hu fun j h1 h2 => he j _ _ (by simp at h1; simp [h1]) (by simp at h2; simp [h2])
    rw [hn hl]
    have hl' : its.length ≠ its'.length := by rw [← r1.length, ← r2.length]; exact hl
    simp only [List.size_toArray] at this
    rw [show (its.length == its'.length) = false from by simp [hl'], Bool.and_false] at this
    exact this
theorem none_kw {A : Around} {u : Value} {w : V} {k : Kd} (hu : A.units < cLine) (h : KW s k w) (ru : RelV w u) : SeqAt.EqAt A s .none u false ∧ SeqAt.EqAt A s u .none false := by
  cases h with
  | i n => obtain ⟨t, rfl⟩ := ru; exact ⟨.none_int _ _, .int_none _ _⟩
  | b n => cases ru; exact ⟨.none_bool _, .bool_none _⟩
  | s n => obtain ⟨t, rfl⟩ := ru; exact ⟨.none_str _ _, .str_none _ _⟩
  | t h => cases ru; exact ⟨.none_tuple h hu, .tuple_none h hu⟩
  | l h => cases ru; exact ⟨.none_list h hu, .list_none h hu⟩
theorem eqok_kds : ∀ {t : Ty}, t.some_ = true → t.eqok = true → ∃ l, t.kds = some l := by
  intro t
  induction t with
  | sum a b iha ihb =>
    intro h1 h2
    obtain ⟨h3, h4, h5, h6, _⟩ := Ty.sumok h2
    obtain ⟨l, e⟩ := iha h3 h5
    obtain ⟨l', e'⟩ := ihb h4 h6
    exact ⟨l ++ l', by show (match a.kds, b.kds with | some l, some l' => some (l ++ l') | _, _ => none) = _; rw [e, e']⟩
  | int => intro _ _; exact ⟨_, rfl⟩
  | bool => intro _ _; exact ⟨_, rfl⟩
  | str => intro _ _; exact ⟨_, rfl⟩
  | tup _ _ => intro _ _; exact ⟨_, rfl⟩
  | vtup _ _ => intro _ _; exact ⟨_, rfl⟩
  | hl _ _ => intro _ _; exact ⟨_, rfl⟩
  | list _ _ => intro _ _; exact ⟨_, rfl⟩
  | ins _ _ _ _ => intro _ h; cases h
  | dicN _ _ _ _ _ _ => intro _ h; cases h
  | dic _ _ _ _ => intro _ h; cases h
  | _ => intro h; cases h
theorem none_eq {A : Around} {u : Value} {w : V} (hu : A.units < cLine) (I : Inv X pins σ H s) (hs : Same F H) {t : Ty} {x : t.den} (h1 : t.some_ = true) (h2 : t.eqok = true) (r : rl X.K mg t x [w] F) (ru : RelV w u) :
    SeqAt.EqAt A s .none u false ∧ SeqAt.EqAt A s u .none false := by
  obtain ⟨l, e⟩ := eqok_kds h1 h2
  obtain ⟨k, _, q⟩ := kw_of I hs e r
  exact none_kw hu q ru
theorem eqL_all {α : Type} {A : Around} {f : α → α → Bool} {R : α → V → Prop} (h : ∀ x y v w u u', R x v → R y w → RelV v u → RelV w u' → SeqAt.EqAt A s u u' (f x y)) :
    ∀ {xs ys : List α} {vs ws : List V} {us us' : List Value}, all2 R xs vs → all2 R ys ws → Vals vs us → Vals ws us' → vs.length = ws.length → EqL A s us us' (lbeq f xs ys)
  | [], [], [], [], _, _, _, _, .nil, .nil, _ => ⟨fun _ => true, rfl, fun j u w e => by simp at e, rfl⟩
  | _ :: _, _ :: _, _ :: _, _ :: _, _, _, ⟨a, b⟩, ⟨c, d⟩, .cons p q, .cons p' q', hl => (EqL.single (h _ _ _ _ _ _ a c p p')).one |> fun z => EqL.cons z (eqL_all h b d q q' (Nat.succ.inj hl))
  | [], _ :: _, [], _ :: _, _, _, _, _, _, _, hl => by cases hl
  | _ :: _, [], _ :: _, [], _, _, _, _, _, _, hl => by cases hl
  | [], _, _ :: _, _, _, _, z, _, _, _, _ => z.elim
  | _ :: _, _, [], _, _, _, z, _, _, _, _ => z.elim
  | _, [], _, _ :: _, _, _, _, z, _, _, _ => z.elim
  | _, _ :: _, _, [], _, _, _, z, _, _, _ => z.elim
theorem eqL_pts {α : Type} {A : Around} {f : α → α → Bool} {R : α → V → Prop} (h : ∀ x y v w u u', R x v → R y w → RelV v u → RelV w u' → SeqAt.EqAt A s u u' (f x y)) :
    ∀ {xs ys : List α} {vs ws : List V} {us us' : List Value}, all2 R xs vs → all2 R ys ws → Vals vs us → Vals ws us' → ∃ e : Nat → Bool, ∀ j u w, us[j]? = some u → us'[j]? = some w → SeqAt.EqAt A s u w (e j)
  | [], _, [], _, _, _, _, _, .nil, _ => ⟨fun _ => true, fun j u w e => by simp at e⟩
  | _, [], _, [], _, _, _, _, _, .nil => ⟨fun _ => true, fun j u w _ e => by simp at e⟩
  | x :: _, y :: _, _ :: _, _ :: _, _, _, ⟨a, b⟩, ⟨c, d⟩, .cons p q, .cons p' q' => by
    obtain ⟨e, he⟩ := eqL_pts h b d q q'
    refine ⟨fun j => match j with | 0 => f x y | j + 1 => e j, fun j u w e1 e2 => ?_⟩
    cases j with
    | zero => simp at e1 e2; subst e1; subst e2; exact h _ _ _ _ _ _ a c p p'
    | succ j => exact he j u w (by simpa using e1) (by simpa using e2)
  | [], _, _ :: _, _, _, _, z, _, _, _ => z.elim
  | _ :: _, _, [], _, _, _, z, _, _, _ => z.elim
  | _, [], _, _ :: _, _, _, _, z, _, _ => z.elim
  | _, _ :: _, _, [], _, _, _, z, _, _ => z.elim
theorem lbeq_len {α : Type} {f : α → α → Bool} : ∀ {xs ys : List α}, xs.length ≠ ys.length → lbeq f xs ys = false
  | [], [], h => absurd rfl h
  | [], _ :: _, _ => rfl
  | _ :: _, [], _ => rfl
  | x :: xs, y :: ys, h => by
    show (f x y && lbeq f xs ys) = false
    rw [lbeq_len fun z => h (congrArg (· + 1) z), Bool.and_false]
theorem eq_of_rc {A : Around} {a b : Addr} {c : Bool} (I : Inv X pins σ H s) (h : SeqAt.RcAt A s (.ref a) (.ref b) c) (hc : a = b → c = true) : SeqAt.EqAt A s (.ref a) (.ref b) c := by
  by_cases e : a = b
  · rw [hc e]; subst e; exact .same _
  · exact .of_refs e h
theorem eqL_ty (I : Inv X pins σ H s) (hs : Same F H) : ∀ (t : Ty), t.eqok = true → ∀ (A : Around), A.units + t.depth < cLine → ∀ (x y : t.den) (vs ws : List V), rl X.K mg t x vs F → rl X.K mg t y ws F →
    ∀ us us', Vals vs us → Vals ws us' → EqL A s us us' (t.beq x y) := by
  intro t
  induction t with
  | int =>
    intro _ A _ x y vs ws p q us us' r r'
    cases (show vs = _ from p); cases (show ws = _ from q)
    obtain ⟨u, rfl, t, rfl⟩ := Vals.one r
    obtain ⟨u', rfl, t', rfl⟩ := Vals.one r'
    exact EqL.single (.int_int _ _ _ _)
  | bool =>
    intro _ A _ x y vs ws p q us us' r r'
    cases (show vs = _ from p); cases (show ws = _ from q)
    obtain ⟨u, rfl, h1⟩ := Vals.one r
    obtain ⟨u', rfl, h2⟩ := Vals.one r'
    cases h1; cases h2
    exact EqL.single (.bool_bool _ _)
  | str =>
    intro _ A _ x y vs ws p q us us' r r'
    cases (show vs = _ from p); cases (show ws = _ from q)
    obtain ⟨u, rfl, t, rfl⟩ := Vals.one r
    obtain ⟨u', rfl, t', rfl⟩ := Vals.one r'
    exact EqL.single (.str_str _ _ _ _)
  | non =>
    intro _ A _ x y vs ws p q us us' r r'
    cases (show vs = _ from p); cases (show ws = _ from q)
    obtain ⟨u, rfl, h1⟩ := Vals.one r
    obtain ⟨u', rfl, h2⟩ := Vals.one r'
    cases h1; cases h2
    exact EqL.single (.same _)
  | opt t ih =>
    intro h A hu x y vs ws p q us us' r r'
    have h' := (Bool.and_eq_true _ _).mp (show (t.some_ && t.eqok) = true from h)
    have hu' : A.units < cLine := Nat.lt_of_le_of_lt (Nat.le_add_right _ _) hu
    cases x with
    | none =>
      cases (show vs = _ from p)
      obtain ⟨u, rfl, h1⟩ := Vals.one r
      cases h1
      cases y with
      | none =>
        cases (show ws = _ from q)
        obtain ⟨u', rfl, h2⟩ := Vals.one r'
        cases h2
        exact EqL.single (.same _)
      | some b =>
        obtain ⟨w, rfl⟩ := rl_one h'.1 q.2
        obtain ⟨u', rfl, h2⟩ := Vals.one r'
        exact EqL.single (none_eq hu' I hs h'.1 h'.2 q.2 h2).1
    | some a =>
      cases y with
      | none =>
        cases (show ws = _ from q)
        obtain ⟨u', rfl, h2⟩ := Vals.one r'
        cases h2
        obtain ⟨w, rfl⟩ := rl_one h'.1 p.2
        obtain ⟨u, rfl, h1⟩ := Vals.one r
        exact EqL.single (none_eq hu' I hs h'.1 h'.2 p.2 h1).2
      | some b => exact ih h'.2 A hu a b vs ws p.2 q.2 us us' r r'
  | tup fs ih =>
    intro h A hu x y vs ws p q us us' r r'
    have hp := p
    have hq := q
    obtain ⟨a, zs, rfl, s1, r1⟩ := p
    obtain ⟨b, zs', rfl, s2, r2⟩ := q
    obtain ⟨u, rfl, h1⟩ := Vals.one r
    obtain ⟨u', rfl, h2⟩ := Vals.one r'
    cases h1; cases h2
    have hu' : A.units + fs.depth + 1 < cLine := hu
    have go : ∀ us us', Vals zs us → Vals zs' us' → EqL A.in1 s us us' (fs.beq x y) := fun us us' v v' => ih h A.in1 (by show A.units + 1 + fs.depth < cLine; omega) x y zs zs' r1 r2 us us' v v'
    refine EqL.single (eq_of_rc I (rc_tuples (by omega) I (sqT_same hs s1) (sqT_same hs s2) (fun _ => go) (fun hn => ?_) fun us us' v v' => ?_) fun e => ?_)
    · obtain ⟨its, v1, _, _⟩ := I.tuple (sqT_same hs s1)
      obtain ⟨its', v2, _, _⟩ := I.tuple (sqT_same hs s2)
      obtain ⟨_, e1, _⟩ := go its its' v1 v2
      exact absurd (by rw [v1.length, v2.length]; exact e1) hn
    · obtain ⟨e, _, e2, _⟩ := go us us' v v'
      exact ⟨e, e2⟩
    · subst e
      exact (beq_iff _ h x y).mpr (rl_inj I hs (.tup fs) h x y _ hp hq)
  | vtup t ih =>
    intro h A hu x y vs ws p q us us' r r'
    have hp := p
    have hq := q
    obtain ⟨a, zs, rfl, s1, r1⟩ := p
    obtain ⟨b, zs', rfl, s2, r2⟩ := q
    obtain ⟨u, rfl, h1⟩ := Vals.one r
    obtain ⟨u', rfl, h2⟩ := Vals.one r'
    cases h1; cases h2
    have hu' : A.units + t.depth + 1 < cLine := hu
    have pt : ∀ x y v w u u', rl X.K mg t x [v] F → rl X.K mg t y [w] F → RelV v u → RelV w u' → SeqAt.EqAt A.in1 s u u' (t.beq x y) := fun x y v w u u' a b c d =>
      (ih h A.in1 (by show A.units + 1 + t.depth < cLine; omega) x y [v] [w] a b [u] [u'] (.cons c .nil) (.cons d .nil)).one
    refine EqL.single (eq_of_rc I (rc_tuples (by omega) I (sqT_same hs s1) (sqT_same hs s2) (fun hl us us' v v' => eqL_all (f := t.beq) pt r1 r2 v v' hl) (fun hn => lbeq_len (by rw [r1.len, r2.len]; exact hn)) fun us us' v v' => eqL_pts (f := t.beq) pt r1 r2 v v') fun e => ?_)
    subst e
    exact (beq_iff (.vtup t) h x y).mpr (rl_inj I hs (.vtup t) h x y _ hp hq)
  | hl fs ih =>
    intro h A hu x y vs ws p q us us' r r'
    have hp := p
    have hq := q
    obtain ⟨a, zs, rfl, s1, r1⟩ := p
    obtain ⟨b, zs', rfl, s2, r2⟩ := q
    obtain ⟨u, rfl, h1⟩ := Vals.one r
    obtain ⟨u', rfl, h2⟩ := Vals.one r'
    cases h1; cases h2
    have hu' : A.units + fs.depth + 1 < cLine := hu
    have go : ∀ us us', Vals zs us → Vals zs' us' → EqL A.in1 s us us' (fs.beq x y) := fun us us' v v' => ih h A.in1 (by show A.units + 1 + fs.depth < cLine; omega) x y zs zs' r1 r2 us us' v v'
    refine EqL.single (eq_of_rc I (rc_lists (by omega) I (SqL.of (hs _ _ s1)) (SqL.of (hs _ _ s2)) (fun _ => go) (fun hn => ?_)) fun e => ?_)
    · obtain ⟨its, v1, _, _⟩ := I.list (SqL.of (hs _ _ s1))
      obtain ⟨its', v2, _, _⟩ := I.list (SqL.of (hs _ _ s2))
      obtain ⟨_, e1, _⟩ := go its its' v1 v2
      exact absurd (by rw [v1.length, v2.length]; exact e1) hn
    · subst e
      exact (beq_iff _ h x y).mpr (rl_inj I hs (.hl fs) h x y _ hp hq)
  | list t ih =>
    intro h A hu x y vs ws p q us us' r r'
    have hp := p
    have hq := q
    obtain ⟨a, zs, rfl, s1, r1⟩ := p
    obtain ⟨b, zs', rfl, s2, r2⟩ := q
    obtain ⟨u, rfl, h1⟩ := Vals.one r
    obtain ⟨u', rfl, h2⟩ := Vals.one r'
    cases h1; cases h2
    have hu' : A.units + t.depth + 1 < cLine := hu
    have pt : ∀ x y v w u u', rl X.K mg t x [v] F → rl X.K mg t y [w] F → RelV v u → RelV w u' → SeqAt.EqAt A.in1 s u u' (t.beq x y) := fun x y v w u u' a b c d =>
      (ih h A.in1 (by show A.units + 1 + t.depth < cLine; omega) x y [v] [w] a b [u] [u'] (.cons c .nil) (.cons d .nil)).one
    refine EqL.single (eq_of_rc I (rc_lists (by omega) I (SqL.of (hs _ _ s1)) (SqL.of (hs _ _ s2)) (fun hl us us' v v' => eqL_all (f := t.beq) pt r1 r2 v v' hl) (fun hn => lbeq_len (by rw [r1.len, r2.len]; exact hn))) fun e => ?_)
    subst e
    exact (beq_iff (.list t) h x y).mpr (rl_inj I hs (.list t) h x y _ hp hq)
  | pr a b iha ihb =>
    intro h A hu x y vs ws p q us us' r r'
    have h' := (Bool.and_eq_true _ _).mp (show (a.eqok && b.eqok) = true from h)
    have hu' : A.units + (a.depth + b.depth) < cLine := hu
    obtain ⟨v, r1, rfl, p1, p2⟩ := p
    obtain ⟨w, r2, rfl, q1, q2⟩ := q
    cases r with
    | cons c d =>
      cases r' with
      | cons c' d' =>
        exact EqL.cons (iha h'.1 A (by omega) x.1 y.1 [v] [w] p1 q1 _ _ (.cons c .nil) (.cons c' .nil)).one (ihb h'.2 A (by omega) x.2 y.2 r1 r2 p2 q2 _ _ d d')
  | nl =>
    intro _ A _ x y vs ws p q us us' r r'
    cases (show vs = _ from p); cases (show ws = _ from q)
    cases r; cases r'
    exact ⟨fun _ => true, rfl, fun j u w e => by simp at e, rfl⟩
  | scr => intro h; cases h
  | tpl => intro h; cases h
  | exn => intro h; cases h
  | sum a b iha ihb =>
    intro h A hu x y vs ws p q us us' r r'
    obtain ⟨h3, h4, h1, h2, h5⟩ := Ty.sumok h
    have hu' : A.units + (a.depth + b.depth) < cLine := hu
    cases x with
    | inl x => cases y with
      | inl y => exact iha h1 A (by omega) x y vs ws p q us us' r r'
      | inr y =>
        obtain ⟨v, rfl⟩ := rl_one h3 p
        obtain ⟨w, rfl⟩ := rl_one h4 q
        obtain ⟨u, rfl, r1⟩ := Vals.one r
        obtain ⟨u', rfl, r2⟩ := Vals.one r'
        obtain ⟨k, k', k1, k2, kd⟩ := dis_kw I hs h5 p q
        exact EqL.single (kw_ne (by omega) k1 k2 kd r1 r2)
    | inr x => cases y with
      | inl y =>
        obtain ⟨v, rfl⟩ := rl_one h4 p
        obtain ⟨w, rfl⟩ := rl_one h3 q
        obtain ⟨u, rfl, r1⟩ := Vals.one r
        obtain ⟨u', rfl, r2⟩ := Vals.one r'
        obtain ⟨k, k', k1, k2, kd⟩ := dis_kw I hs h5 q p
        exact EqL.single (kw_ne (by omega) k2 k1 (by rw [Kd.dis_comm]; exact kd) r1 r2)
      | inr y => exact ihb h2 A (by omega) x y vs ws p q us us' r r'
  | ins c ns fs => intro h; cases h
  | dicN _ _ _ _ => intro h; cases h
  | dic  _ _ => intro h; cases h
theorem rc_ty (I : Inv X pins σ H s) (hs : Same F H) {t : Ty} (h : t.eqok = true) {A : Around} (hu : A.units + t.depth < cLine) {x y : t.den} {a b : Addr} (p : rl X.K mg t x [.ref a] F) (q : rl X.K mg t y [.ref b] F) : SeqAt.RcAt A s (.ref a) (.ref b) (t.beq x y) := by
  cases t with
  | int => cases (show [V.ref a] = _ from p)
  | bool => cases (show [V.ref a] = _ from p)
  | str => cases (show [V.ref a] = _ from p)
  | non => cases (show [V.ref a] = _ from p)
  | nl => cases (show [V.ref a] = _ from p)
  | scr => cases h
  | tpl => cases h
  | exn => cases h
  | sum t u =>
    obtain ⟨h3, h4, h1, h2, h5⟩ := Ty.sumok h
    have hu' : A.units + (t.depth + u.depth) < cLine := hu
    cases x with
    | inl x => cases y with
      | inl y => exact rc_ty I hs (t := t) h1 (by omega) p q
      | inr y =>
        obtain ⟨k, k', k1, k2, kd⟩ := dis_kw I hs h5 p q
        cases k1 <;> cases k2 <;> first | exact absurd kd (by decide) | exact .list_tuple (by assumption) (by assumption) (by omega) | exact .tuple_list (by assumption) (by assumption) (by omega)
    | inr x => cases y with
      | inl y =>
        obtain ⟨k, k', k1, k2, kd⟩ := dis_kw I hs h5 q p
        cases k1 <;> cases k2 <;> first | exact absurd kd (by decide) | exact .list_tuple (by assumption) (by assumption) (by omega) | exact .tuple_list (by assumption) (by assumption) (by omega)
      | inr y => exact rc_ty I hs (t := u) h2 (by omega) p q
  | ins _ _ _ => cases h
  | dicN _ _ _ _ => cases h
  | dic _ _ => cases h
  | opt t =>
    have h' := (Bool.and_eq_true _ _).mp (show (t.some_ && t.eqok) = true from h)
    cases x with
    | none => cases (show [V.ref a] = _ from p)
    | some x =>
      cases y with
      | none => cases (show [V.ref b] = _ from q)
      | some y => exact rc_ty I hs (t := t) h'.2 hu p.2 q.2
  | pr t u =>
    obtain ⟨v, r, e1, p1, p2⟩ := p
    obtain ⟨w, r', e2, q1, q2⟩ := q
    cases e1; cases e2
    have h' := (Bool.and_eq_true _ _).mp (show (t.eqok && u.eqok) = true from h)
    have hu' : A.units + (t.depth + u.depth) < cLine := hu
    have c1 := rc_ty I hs (t := t) h'.1 (A := A) (by omega) p1 q1
    obtain ⟨e, _, _, e3⟩ := eqL_ty I hs u h'.2 A (by omega) x.2 y.2 [] [] p2 q2 [] [] .nil .nil
    have e4 : u.beq x.2 y.2 = true := e3
    show SeqAt.RcAt A s (.ref a) (.ref b) (t.beq x.1 y.1 && u.beq x.2 y.2)
    rw [e4, Bool.and_true]; exact c1
  | tup fs =>
    obtain ⟨a', zs, e1, s1, r1⟩ := p
    obtain ⟨b', zs', e2, s2, r2⟩ := q
    cases e1; cases e2
    have hu' : A.units + fs.depth + 1 < cLine := hu
    have go : ∀ us us', Vals zs us → Vals zs' us' → EqL A.in1 s us us' (fs.beq x y) := fun us us' v v' => eqL_ty I hs fs h A.in1 (by show A.units + 1 + fs.depth < cLine; omega) x y zs zs' r1 r2 us us' v v'
    refine rc_tuples (by omega) I (sqT_same hs s1) (sqT_same hs s2) (fun _ => go) (fun hn => ?_) fun us us' v v' => ?_
    · obtain ⟨its, v1, _, _⟩ := I.tuple (sqT_same hs s1)
      obtain ⟨its', v2, _, _⟩ := I.tuple (sqT_same hs s2)
      obtain ⟨_, e1, _⟩ := go its its' v1 v2
      exact absurd (by rw [v1.length, v2.length]; exact e1) hn
    · obtain ⟨e, _, e2, _⟩ := go us us' v v'
      exact ⟨e, e2⟩
  | vtup t =>
    obtain ⟨a', zs, e1, s1, r1⟩ := p
    obtain ⟨b', zs', e2, s2, r2⟩ := q
    cases e1; cases e2
    have hu' : A.units + t.depth + 1 < cLine := hu
    have pt : ∀ x y v w u u', rl X.K mg t x [v] F → rl X.K mg t y [w] F → RelV v u → RelV w u' → SeqAt.EqAt A.in1 s u u' (t.beq x y) := fun x y v w u u' a b c d =>
      (eqL_ty I hs t h A.in1 (by show A.units + 1 + t.depth < cLine; omega) x y [v] [w] a b [u] [u'] (.cons c .nil) (.cons d .nil)).one
    exact rc_tuples (by omega) I (sqT_same hs s1) (sqT_same hs s2) (fun hl us us' v v' => eqL_all (f := t.beq) pt r1 r2 v v' hl) (fun hn => lbeq_len (by rw [r1.len, r2.len]; exact hn)) fun us us' v v' => eqL_pts (f := t.beq) pt r1 r2 v v'
  | hl fs =>
    obtain ⟨a', zs, e1, s1, r1⟩ := p
    obtain ⟨b', zs', e2, s2, r2⟩ := q
    cases e1; cases e2
    have hu' : A.units + fs.depth + 1 < cLine := hu
    have go : ∀ us us', Vals zs us → Vals zs' us' → EqL A.in1 s us us' (fs.beq x y) := fun us us' v v' => eqL_ty I hs fs h A.in1 (by show A.units + 1 + fs.depth < cLine; omega) x y zs zs' r1 r2 us us' v v'
    refine rc_lists (by omega) I (SqL.of (hs _ _ s1)) (SqL.of (hs _ _ s2)) (fun _ => go) (fun hn => ?_)
    obtain ⟨its, v1, _, _⟩ := I.list (SqL.of (hs _ _ s1))
    obtain ⟨its', v2, _, _⟩ := I.list (SqL.of (hs _ _ s2))
    obtain ⟨_, e1, _⟩ := go its its' v1 v2
    exact absurd (by rw [v1.length, v2.length]; exact e1) hn
  | list t =>
    obtain ⟨a', zs, e1, s1, r1⟩ := p
    obtain ⟨b', zs', e2, s2, r2⟩ := q
    cases e1; cases e2
    have hu' : A.units + t.depth + 1 < cLine := hu
    have pt : ∀ x y v w u u', rl X.K mg t x [v] F → rl X.K mg t y [w] F → RelV v u → RelV w u' → SeqAt.EqAt A.in1 s u u' (t.beq x y) := fun x y v w u u' a b c d =>
      (eqL_ty I hs t h A.in1 (by show A.units + 1 + t.depth < cLine; omega) x y [v] [w] a b [u] [u'] (.cons c .nil) (.cons d .nil)).one
    exact rc_lists (by omega) I (SqL.of (hs _ _ s1)) (SqL.of (hs _ _ s2)) (fun hl us us' v v' => eqL_all (f := t.beq) pt r1 r2 v v' hl) (fun hn => lbeq_len (by rw [r1.len, r2.len]; exact hn))
end
end Gm
set_option Elab.async false
set_option linter.all false
set_option maxRecDepth 100000
set_option maxHeartbeats 4000000
namespace Gm
open PySem PySem.Spec L2
section
variable {X : Cx} {pins : List (Addr × Obj)} {σ : L2.St} {F H : Hp} {s : Shared} {mg : Str → Option Value}
theorem rcn_lists {A : Around} {a b : Addr} {ws zs : List V} {c : Bool} (hu : A.units < cLine) (I : Inv X pins σ H s) (h1 : SqL X.K H a ws) (h2 : SqL X.K H b zs)
    (h : ws.length = zs.length → ∀ us us', Vals ws us → Vals zs us' → EqL A.in1 s us us' c) (hn : ws.length ≠ zs.length → c = false) : SeqAt.RcNeAt A s (.ref a) (.ref b) (!c) := by
  obtain ⟨its, r1, p1, z1⟩ := I.list h1
  obtain ⟨its', r2, p2, z2⟩ := I.list h2
  by_cases hl : ws.length = zs.length
  · obtain ⟨e, e1, e2, e3⟩ := h hl its its' r1 r2
    rw [e3]
    have := SeqAt.RcNeAt.lists (e := e) p1.isList p2.isList (by simpa using e1) hu fun j h1 h2 => e2 j _ _ (by simp at h1; simp [h1]) (by simp at h2; simp [h2])
    simpa using this
  · rw [hn hl]
    refine SeqAt.RcNeAt.lists_lengths p1.isList p2.isList ?_ hu
    rw [bne_iff_ne]
    simp only [List.size_toArray]
    rw [← r1.length, ← r2.length]; exact hl
theorem rcn_tuples {A : Around} {a b : Addr} {ws zs : List V} {c : Bool} (hu : A.units < cLine) (I : Inv X pins σ H s) (h1 : SqT X.K H a ws) (h2 : SqT X.K H b zs)
    (h : ws.length = zs.length → ∀ us us', Vals ws us → Vals zs us' → EqL A.in1 s us us' c) (hn : ws.length ≠ zs.length → c = false)
    (hall : ∀ us us', Vals ws us → Vals zs us' → ∃ e : Nat → Bool, ∀ j u w, us[j]? = some u → us'[j]? = some w → SeqAt.EqAt A.in1 s u w (e j)) : SeqAt.RcNeAt A s (.ref a) (.ref b) (!c) := by
  obtain ⟨its, r1, p1, z1⟩ := I.tuple h1
  obtain ⟨its', r2, p2, z2⟩ := I.tuple h2
  by_cases hl : ws.length = zs.length
  · obtain ⟨e, e1, e2, e3⟩ := h hl its its' r1 r2
    have := SeqAt.RcNeAt.tuples (e := e) (show s.heap.IsTuple a its.toArray from p1) (show s.heap.IsTuple b its'.toArray from p2) hu fun j h1 h2 => e2 j _ _ (by simp at h1; simp [h1]) (by simp at h2; simp [h2])
    rw [e3]
    simpa [e1] using this
  · obtain ⟨e, he⟩ := hall its its' r1 r2
    have := SeqAt.RcNeAt.tuples (e := e) (show s.heap.IsTuple a its.toArray from p1) (show s.heap.IsTuple b its'.toArray from p2) hu fun j h1 h2 => he j _ _ (by simp at h1; simp [h1]) (by simp at h2; simp [h2])
    rw [hn hl]
    have hl' : its.length ≠ its'.length := by rw [← r1.length, ← r2.length]; exact hl
    simp only [List.size_toArray] at this
    rw [show (its.length == its'.length) = false from by simp [hl'], Bool.and_false] at this
    exact this
theorem rcn_ty (I : Inv X pins σ H s) (hs : Same F H) {t : Ty} (h : t.eqok = true) {A : Around} (hu : A.units + t.depth < cLine) {x y : t.den} {a b : Addr} (p : rl X.K mg t x [.ref a] F) (q : rl X.K mg t y [.ref b] F) : SeqAt.RcNeAt A s (.ref a) (.ref b) (!t.beq x y) := by
  cases t with
  | int => cases (show [V.ref a] = _ from p)
  | bool => cases (show [V.ref a] = _ from p)
  | str => cases (show [V.ref a] = _ from p)
  | non => cases (show [V.ref a] = _ from p)
  | nl => cases (show [V.ref a] = _ from p)
  | scr => cases h
  | tpl => cases h
  | exn => cases h
  | sum t u =>
    obtain ⟨h3, h4, h1, h2, h5⟩ := Ty.sumok h
    have hu' : A.units + (t.depth + u.depth) < cLine := hu
    cases x with
    | inl x => cases y with
      | inl y => exact rcn_ty I hs (t := t) h1 (by omega) p q
      | inr y =>
        obtain ⟨k, k', k1, k2, kd⟩ := dis_kw I hs h5 p q
        cases k1 <;> cases k2 <;> first | exact absurd kd (by decide) | exact .list_tuple (by assumption) (by assumption) (by omega) | exact .tuple_list (by assumption) (by assumption) (by omega)
    | inr x => cases y with
      | inl y =>
        obtain ⟨k, k', k1, k2, kd⟩ := dis_kw I hs h5 q p
        cases k1 <;> cases k2 <;> first | exact absurd kd (by decide) | exact .list_tuple (by assumption) (by assumption) (by omega) | exact .tuple_list (by assumption) (by assumption) (by omega)
      | inr y => exact rcn_ty I hs (t := u) h2 (by omega) p q
  | ins _ _ _ => cases h
  | dicN _ _ _ _ => cases h
  | dic _ _ => cases h
  | opt t =>
    have h' := (Bool.and_eq_true _ _).mp (show (t.some_ && t.eqok) = true from h)
    cases x with
    | none => cases (show [V.ref a] = _ from p)
    | some x =>
      cases y with
      | none => cases (show [V.ref b] = _ from q)
      | some y => exact rcn_ty I hs (t := t) h'.2 hu p.2 q.2
  | pr t u =>
    obtain ⟨v, r, e1, p1, p2⟩ := p
    obtain ⟨w, r', e2, q1, q2⟩ := q
    cases e1; cases e2
    have h' := (Bool.and_eq_true _ _).mp (show (t.eqok && u.eqok) = true from h)
    have hu' : A.units + (t.depth + u.depth) < cLine := hu
    have c1 := rcn_ty I hs (t := t) h'.1 (A := A) (by omega) p1 q1
    obtain ⟨e, _, _, e3⟩ := eqL_ty I hs u h'.2 A (by omega) x.2 y.2 [] [] p2 q2 [] [] .nil .nil
    have e4 : u.beq x.2 y.2 = true := e3
    show SeqAt.RcNeAt A s (.ref a) (.ref b) (!(t.beq x.1 y.1 && u.beq x.2 y.2))
    rw [e4, Bool.and_true]; exact c1
  | tup fs =>
    obtain ⟨a', zs, e1, s1, r1⟩ := p
    obtain ⟨b', zs', e2, s2, r2⟩ := q
    cases e1; cases e2
    have hu' : A.units + fs.depth + 1 < cLine := hu
    have go : ∀ us us', Vals zs us → Vals zs' us' → EqL A.in1 s us us' (fs.beq x y) := fun us us' v v' => eqL_ty I hs fs h A.in1 (by show A.units + 1 + fs.depth < cLine; omega) x y zs zs' r1 r2 us us' v v'
    refine rcn_tuples (by omega) I (sqT_same hs s1) (sqT_same hs s2) (fun _ => go) (fun hn => ?_) fun us us' v v' => ?_
    · obtain ⟨its, v1, _, _⟩ := I.tuple (sqT_same hs s1)
      obtain ⟨its', v2, _, _⟩ := I.tuple (sqT_same hs s2)
      obtain ⟨_, e1, _⟩ := go its its' v1 v2
      exact absurd (by rw [v1.length, v2.length]; exact e1) hn
    · obtain ⟨e, _, e2, _⟩ := go us us' v v'
      exact ⟨e, e2⟩
  | vtup t =>
    obtain ⟨a', zs, e1, s1, r1⟩ := p
    obtain ⟨b', zs', e2, s2, r2⟩ := q
    cases e1; cases e2
    have hu' : A.units + t.depth + 1 < cLine := hu
    have pt : ∀ x y v w u u', rl X.K mg t x [v] F → rl X.K mg t y [w] F → RelV v u → RelV w u' → SeqAt.EqAt A.in1 s u u' (t.beq x y) := fun x y v w u u' a b c d =>
      (eqL_ty I hs t h A.in1 (by show A.units + 1 + t.depth < cLine; omega) x y [v] [w] a b [u] [u'] (.cons c .nil) (.cons d .nil)).one
    exact rcn_tuples (by omega) I (sqT_same hs s1) (sqT_same hs s2) (fun hl us us' v v' => eqL_all (f := t.beq) pt r1 r2 v v' hl) (fun hn => lbeq_len (by rw [r1.len, r2.len]; exact hn)) fun us us' v v' => eqL_pts (f := t.beq) pt r1 r2 v v'
  | hl fs =>
    obtain ⟨a', zs, e1, s1, r1⟩ := p
    obtain ⟨b', zs', e2, s2, r2⟩ := q
    cases e1; cases e2
    have hu' : A.units + fs.depth + 1 < cLine := hu
    have go : ∀ us us', Vals zs us → Vals zs' us' → EqL A.in1 s us us' (fs.beq x y) := fun us us' v v' => eqL_ty I hs fs h A.in1 (by show A.units + 1 + fs.depth < cLine; omega) x y zs zs' r1 r2 us us' v v'
    refine rcn_lists (by omega) I (SqL.of (hs _ _ s1)) (SqL.of (hs _ _ s2)) (fun _ => go) (fun hn => ?_)
    obtain ⟨its, v1, _, _⟩ := I.list (SqL.of (hs _ _ s1))
    obtain ⟨its', v2, _, _⟩ := I.list (SqL.of (hs _ _ s2))
    obtain ⟨_, e1, _⟩ := go its its' v1 v2
    exact absurd (by rw [v1.length, v2.length]; exact e1) hn
  | list t =>
    obtain ⟨a', zs, e1, s1, r1⟩ := p
    obtain ⟨b', zs', e2, s2, r2⟩ := q
    cases e1; cases e2
    have hu' : A.units + t.depth + 1 < cLine := hu
    have pt : ∀ x y v w u u', rl X.K mg t x [v] F → rl X.K mg t y [w] F → RelV v u → RelV w u' → SeqAt.EqAt A.in1 s u u' (t.beq x y) := fun x y v w u u' a b c d =>
      (eqL_ty I hs t h A.in1 (by show A.units + 1 + t.depth < cLine; omega) x y [v] [w] a b [u] [u'] (.cons c .nil) (.cons d .nil)).one
    exact rcn_lists (by omega) I (SqL.of (hs _ _ s1)) (SqL.of (hs _ _ s2)) (fun hl us us' v v' => eqL_all (f := t.beq) pt r1 r2 v v' hl) (fun hn => lbeq_len (by rw [r1.len, r2.len]; exact hn))
end

/-! ## comparisons -/
/-- == of things of one code; depth bounded -/
def Ty.top : Ty → Bool
  | .int => true
  | .bool => true
  | .str => true
  | .non => true
  | .tup fs => fs.eqok
  | .vtup t => t.eqok
  | .hl fs => fs.eqok
  | .list t => t.eqok
  | .opt .int => true
  | .opt .bool => true
  | .opt .str => true
  | _ => false
theorem top_eqok : ∀ {t : Ty}, t.top = true → t.eqok = true
  | .int, _ => rfl
  | .bool, _ => rfl
  | .str, _ => rfl
  | .non, _ => rfl
  | .tup _, h => h
  | .vtup _, h => h
  | .hl _, h => h
  | .list _, h => h
  | .opt .int, _ => rfl
  | .opt .bool, _ => rfl
  | .opt .str, _ => rfl
def rEqT (X : Cx) : R2 := fun v w H Q => ∃ F t x y, Same F H ∧ Ty.top t = true ∧ t.depth ≤ 60 ∧ rl X.K X.mg t x [v] F ∧ rl X.K X.mg t y [w] F ∧ Q (.bl (t.beq x y)) H
def rNeT (X : Cx) : R2 := fun v w H Q => ∃ F t x y, Same F H ∧ Ty.top t = true ∧ t.depth ≤ 60 ∧ rl X.K X.mg t x [v] F ∧ rl X.K X.mg t y [w] F ∧ Q (.bl (!t.beq x y)) H
/-- a scalar, or at an address -/
theorem top_kind {K : PySem.W.Frag} {mg : Str → Option Value} {F : Hp} {t : Ty} (h : t.top = true) : (∀ (x : t.den) v, rl K mg t x [v] F → ∃ a, v = .ref a) ∨
    ∀ (x y : t.den) v w, rl K mg t x [v] F → rl K mg t y [w] F → scal v w = true ∧ t.beq x y = decide (v = w) := by
  cases t with
  | int => exact .inr fun x y v w p q => by cases (List.cons.inj (show [v] = _ from p)).1; cases (List.cons.inj (show [w] = _ from q)).1; exact ⟨rfl, dec_int.symm⟩
  | bool => exact .inr fun x y v w p q => by cases (List.cons.inj (show [v] = _ from p)).1; cases (List.cons.inj (show [w] = _ from q)).1; exact ⟨rfl, dec_bl.symm⟩
  | str => exact .inr fun x y v w p q => by cases (List.cons.inj (show [v] = _ from p)).1; cases (List.cons.inj (show [w] = _ from q)).1; exact ⟨rfl, dec_str.symm⟩
  | non => exact .inr fun x y v w p q => by cases (List.cons.inj (show [v] = _ from p)).1; cases (List.cons.inj (show [w] = _ from q)).1; exact ⟨rfl, by simp [Ty.beq]⟩
  | tup fs => exact .inl fun x v p => by obtain ⟨a, _, e, _⟩ := p; exact ⟨a, (List.cons.inj e).1⟩
  | vtup fs => exact .inl fun x v p => by obtain ⟨a, _, e, _⟩ := p; exact ⟨a, (List.cons.inj e).1⟩
  | hl fs => exact .inl fun x v p => by obtain ⟨a, _, e, _⟩ := p; exact ⟨a, (List.cons.inj e).1⟩
  | list fs => exact .inl fun x v p => by obtain ⟨a, _, e, _⟩ := p; exact ⟨a, (List.cons.inj e).1⟩
  | opt t =>
    cases t with
    | int =>
      refine .inr fun x y v w p q => ?_
      cases x with
      | none => cases y with
        | none => cases (List.cons.inj (show [v] = _ from p)).1; cases (List.cons.inj (show [w] = _ from q)).1; exact ⟨rfl, by simp [Ty.beq]⟩
        | some y => cases (List.cons.inj (show [v] = _ from p)).1; cases (List.cons.inj (show [w] = _ from q.2)).1; exact ⟨rfl, by simp [Ty.beq]⟩
      | some x => cases y with
        | none => cases (List.cons.inj (show [v] = _ from p.2)).1; cases (List.cons.inj (show [w] = _ from q)).1; exact ⟨rfl, by simp [Ty.beq]⟩
        | some y => cases (List.cons.inj (show [v] = _ from p.2)).1; cases (List.cons.inj (show [w] = _ from q.2)).1; exact ⟨rfl, dec_int.symm⟩
    | bool =>
      refine .inr fun x y v w p q => ?_
      cases x with
      | none => cases y with
        | none => cases (List.cons.inj (show [v] = _ from p)).1; cases (List.cons.inj (show [w] = _ from q)).1; exact ⟨rfl, by simp [Ty.beq]⟩
        | some y => cases (List.cons.inj (show [v] = _ from p)).1; cases (List.cons.inj (show [w] = _ from q.2)).1; exact ⟨rfl, by simp [Ty.beq]⟩
      | some x => cases y with
        | none => cases (List.cons.inj (show [v] = _ from p.2)).1; cases (List.cons.inj (show [w] = _ from q)).1; exact ⟨rfl, by simp [Ty.beq]⟩
        | some y => cases (List.cons.inj (show [v] = _ from p.2)).1; cases (List.cons.inj (show [w] = _ from q.2)).1; exact ⟨rfl, dec_bl.symm⟩
    | str =>
      refine .inr fun x y v w p q => ?_
      cases x with
      | none => cases y with
        | none => cases (List.cons.inj (show [v] = _ from p)).1; cases (List.cons.inj (show [w] = _ from q)).1; exact ⟨rfl, by simp [Ty.beq]⟩
        | some y => cases (List.cons.inj (show [v] = _ from p)).1; cases (List.cons.inj (show [w] = _ from q.2)).1; exact ⟨rfl, by simp [Ty.beq]⟩
      | some x => cases y with
        | none => cases (List.cons.inj (show [v] = _ from p.2)).1; cases (List.cons.inj (show [w] = _ from q)).1; exact ⟨rfl, by simp [Ty.beq]⟩
        | some y => cases (List.cons.inj (show [v] = _ from p.2)).1; cases (List.cons.inj (show [w] = _ from q.2)).1; exact ⟨rfl, dec_str.symm⟩
    | _ => cases h
  | _ => cases h
section
variable {X : Cx} {W : WX} {Γ : Ctx} {a b c e : Expr} {pos p p2 : Pos} {t t1 t2 : Ty} {r : Rt}
theorem op_eqT (hu : X.A.units + 64 < cLine) : OpR X (compareOp .Eq) (rEqT X) := by
  intro pins s σ H v w u u' Q I rv rw' h
  obtain ⟨F, t, x, y, hs, ht, hd, p, q, hq⟩ := h
  rcases top_kind (K := X.K) (mg := X.mg) (F := F) ht with k | k
  · obtain ⟨a, rfl⟩ := k x v p
    obtain ⟨b, rfl⟩ := k y w q
    cases rv; cases rw'
    exact rc_ty I hs (top_eqok ht) (by omega) p q X.prog X.w X.xe _ ⟨.bl _, H, I, rfl, hq⟩
  · obtain ⟨k1, k2⟩ := k x y v w p q
    exact op_eq pins s σ H v w u u' Q I rv rw' ⟨k1, by rw [← k2]; exact hq⟩
theorem op_neT (hu : X.A.units + 64 < cLine) : OpR X (compareOp .NotEq) (rNeT X) := by
  intro pins s σ H v w u u' Q I rv rw' h
  obtain ⟨F, t, x, y, hs, ht, hd, p, q, hq⟩ := h
  rcases top_kind (K := X.K) (mg := X.mg) (F := F) ht with k | k
  · obtain ⟨a, rfl⟩ := k x v p
    obtain ⟨b, rfl⟩ := k y w q
    cases rv; cases rw'
    exact rcn_ty I hs (top_eqok ht) (by omega) p q X.prog X.w X.xe _ ⟨.bl _, H, I, rfl, hq⟩
  · obtain ⟨k1, k2⟩ := k x y v w p q
    exact op_ne pins s σ H v w u u' Q I rv rw' ⟨k1, by rw [← k2]; exact hq⟩
theorem pc_op {op : CmpOp} {ta tb : TE} {rR : R2} (ho : OpR X (compareOp op) rR) (ha : PE X a ta) (hb : PE X b tb) : PC X op a b (tOp rR ta tb) :=
  ⟨fun pins s σ H Q I h => bin (R := fun x y H2 => rR x y H2 Q) ha hb I h fun v u s2 x y H2 I2 rx ry q => ho pins s2 σ H2 x y v u Q I2 rx ry q⟩
theorem pc_imp {op : CmpOp} {t t' : TE} (h : PC X op a b t) (i : ∀ σ H Q, t' σ H Q → t σ H Q) : PC X op a b t' := ⟨fun pins s σ H Q I q => h.run pins s σ H Q I (i σ H Q q)⟩
/-- a comparison -/
abbrev EC (X : Cx) (W : WX) (Γ : Ctx) (op : CmpOp) (a b : Expr) (m : Mx Bool) : Prop := PC X op a b (tR X.mg X.K W Γ (.d .bool) m)
theorem e_c2 {op : CmpOp} {m : Mx Bool} (h : EC X W Γ op a b m) (hm : behindInMarks op b = false := by first | exact nomark _ | rfl) : EM X W Γ (.Compare a [op] [b] pos) .bool m := pe_cmp h hm
theorem t_c2 {op : CmpOp} {m : Mx Bool} (h : EC X W Γ op a b m) (hm : behindInMarks op b = false := by first | exact nomark _ | rfl) : ET X W Γ (.Compare a [op] [b] pos) m := pt_imp (pt_cmp h hm) fun σ H Q ⟨F, s, d, p⟩ =>
  ⟨F, s, d, p.mono fun x px v F1 H1 e1 r1 => by cases (List.cons.inj (show [v] = _ from r1)).1; exact ⟨x, rfl, px F1 H1 e1⟩⟩
theorem c_op {op : CmpOp} {m1 : Mx t1.den} {m2 : Mx t2.den} {g : t1.den → t2.den → Option Bool} {rR : R2} (ho : OpR X (compareOp op) rR)
    (hr : ∀ x y z, g x y = some z → ∀ v w F H Q, Same F H → rl X.K X.mg t1 x [v] F → rl X.K X.mg t2 y [w] F → Q (.bl z) H → rR v w H Q)
    (ha : EM X W Γ a t1 m1) (hb : EM X W Γ b t2 m2) : EC X W Γ op a b (m1 >>= fun x => m2 >>= fun y => ofO (g x y)) :=
  pc_imp (pc_op ho ha hb) (two_of (r := .d .bool) fun x y v w F H σ Q s r1 r2 p => by
    cases e : g x y with
    | none => rw [e] at p; exact p.elim
    | some z => rw [e] at p; exact hr x y z e v w F H Q s r1 r2 (p _ F H (Ext.refl s) rfl))
theorem c_eq {m1 m2 : Mx t.den} [d : DecidableEq t.den] (hu : X.A.units + 64 < cLine) (ha : EM X W Γ a t m1) (hb : EM X W Γ b t m2) (ht : t.top = true := by rfl) (hd : t.depth ≤ 60 := by decide) :
    EC X W Γ .Eq a b (m1 >>= fun x => m2 >>= fun y => .ok (decide (x = y))) :=
  c_op (g := fun x y => some (decide (x = y))) (op_eqT hu) (fun x y z e v w F H Q s r1 r2 k => by
    cases e
    exact ⟨F, t, x, y, s, ht, hd, r1, r2, by rw [beq_dec (top_eqok ht)]; exact k⟩) ha hb
theorem c_ne {m1 m2 : Mx t.den} [d : DecidableEq t.den] (hu : X.A.units + 64 < cLine) (ha : EM X W Γ a t m1) (hb : EM X W Γ b t m2) (ht : t.top = true := by rfl) (hd : t.depth ≤ 60 := by decide) :
    EC X W Γ .NotEq a b (m1 >>= fun x => m2 >>= fun y => .ok (!decide (x = y))) :=
  c_op (g := fun x y => some (!decide (x = y))) (op_neT hu) (fun x y z e v w F H Q s r1 r2 k => by
    cases e
    exact ⟨F, t, x, y, s, ht, hd, r1, r2, by rw [beq_dec (top_eqok ht)]; exact k⟩) ha hb
end
end Gm
set_option Elab.async false
set_option linter.all false
set_option maxRecDepth 100000
set_option maxHeartbeats 4000000
namespace Gm
open PySem PySem.Spec L2

section
variable {X : Cx} {W : WX} {Γ : Ctx} {a b c e : Expr} {pos p p2 : Pos} {t t1 t2 : Ty} {r : Rt} {pins : List (Addr × Obj)} {σ : L2.St} {F H : Hp} {s : Shared}

/-! ## whole numbers -/
abbrev K2 (g : Int → Int → Int) : Int → Int → Option Int := fun x y => some (g x y)
theorem r0 {g : Int → Int → V} {t : Ty} {f : Int → Int → t.den} (hg : ∀ x y F, rl X.K X.mg t (f x y) [g x y] F) : ∀ (x y : Int) z, some (f x y) = some z → ∀ v w F H Q, Same F H → rl X.K X.mg .int x [v] F → rl X.K X.mg .int y [w] F →
    (∀ u F' H', Ext F H F' H' → rtr X.K X.mg (.d t) z u H F' H' → Q u H') → rI0 g v w H Q := fun x y z e v w F H Q s r1 r2 k => by
  cases e
  cases (List.cons.inj (show [v] = _ from r1)).1
  cases (List.cons.inj (show [w] = _ from r2)).1
  exact ⟨x, y, rfl, rfl, k _ F H (Ext.refl s) (hg x y F)⟩
theorem rC {C : Int → Int → Prop} [d : ∀ x y, Decidable (C x y)] {g : Int → Int → V} {t : Ty} {f : Int → Int → t.den} (hg : ∀ x y F, rl X.K X.mg t (f x y) [g x y] F) : ∀ (x y : Int) z, (if C x y then some (f x y) else none) = some z → ∀ v w F H Q, Same F H → rl X.K X.mg .int x [v] F → rl X.K X.mg .int y [w] F →
    (∀ u F' H', Ext F H F' H' → rtr X.K X.mg (.d t) z u H F' H' → Q u H') → rI C g v w H Q := fun x y z e v w F H Q s r1 r2 k => by
  by_cases h : C x y
  · rw [if_pos h] at e
    cases e
    cases (List.cons.inj (show [v] = _ from r1)).1
    cases (List.cons.inj (show [w] = _ from r2)).1
    exact ⟨x, y, rfl, rfl, h, k _ F H (Ext.refl s) (hg x y F)⟩
  · rw [if_neg h] at e; cases e
instance (x y : Int) : Decidable (CMul x y) := by unfold CMul; infer_instance
instance (x y : Int) : Decidable (CDiv x y) := by unfold CDiv; infer_instance
instance (x y : Int) : Decidable (CPow x y) := by unfold CPow; infer_instance
def mulO (x y : Int) : Option Int := if CMul x y then some (x * y) else none
def modO (x y : Int) : Option Int := if 0 < y then some (x % y) else none
def divO (x y : Int) : Option Int := if CDiv x y then some (x / y) else none
def powO (x y : Int) : Option Int := if CPow x y then some (x ^ y.toNat) else none
variable {m1 m2 : Mx Int}
theorem e_add (ha : EM X W Γ a .int m1) (hb : EM X W Γ b .int m2) : EM X W Γ (.BinOp a .Add b pos) .int (m1 >>= fun x => m2 >>= fun y => .ok (x + y)) := e_bin (t1 := .int) (t2 := .int) (r := .d .int) (g := fun x y => some (x + y)) op_add (r0 (t := .int) (f := fun x y => x + y) fun _ _ _ => rfl) ha hb
theorem e_sub (ha : EM X W Γ a .int m1) (hb : EM X W Γ b .int m2) : EM X W Γ (.BinOp a .Sub b pos) .int (m1 >>= fun x => m2 >>= fun y => .ok (x - y)) := e_bin (t1 := .int) (t2 := .int) (r := .d .int) (g := fun x y => some (x - y)) op_sub (r0 (t := .int) (f := fun x y => x - y) fun _ _ _ => rfl) ha hb
theorem e_mul (ha : EM X W Γ a .int m1) (hb : EM X W Γ b .int m2) : EM X W Γ (.BinOp a .Mult b pos) .int (m1 >>= fun x => m2 >>= fun y => ofO (mulO x y)) := e_bin (t1 := .int) (t2 := .int) (r := .d .int) (g := mulO) op_mul (rC (t := .int) (f := fun x y => x * y) fun _ _ _ => rfl) ha hb
theorem e_mod (ha : EM X W Γ a .int m1) (hb : EM X W Γ b .int m2) : EM X W Γ (.BinOp a .Mod b pos) .int (m1 >>= fun x => m2 >>= fun y => ofO (modO x y)) := e_bin (t1 := .int) (t2 := .int) (r := .d .int) (g := modO) op_mod (rC (t := .int) (C := fun _ y => 0 < y) (f := fun x y => x % y) fun _ _ _ => rfl) ha hb
theorem e_div (ha : EM X W Γ a .int m1) (hb : EM X W Γ b .int m2) : EM X W Γ (.BinOp a .FloorDiv b pos) .int (m1 >>= fun x => m2 >>= fun y => ofO (divO x y)) := e_bin (t1 := .int) (t2 := .int) (r := .d .int) (g := divO) op_fdiv (rC (t := .int) (f := fun x y => x / y) fun _ _ _ => rfl) ha hb
theorem e_pow (ha : EM X W Γ a .int m1) (hb : EM X W Γ b .int m2) : EM X W Γ (.BinOp a .Pow b pos) .int (m1 >>= fun x => m2 >>= fun y => ofO (powO x y)) := e_bin (t1 := .int) (t2 := .int) (r := .d .int) (g := powO) op_pow (rC (t := .int) (f := fun x y => x ^ y.toNat) fun _ _ _ => rfl) ha hb
theorem c0 {p : Int → Int → Bool} : ∀ (x y : Int) z, some (p x y) = some z → ∀ v w F H Q, Same F H → rl X.K X.mg .int x [v] F → rl X.K X.mg .int y [w] F → Q (.bl z) H → rI0 (fun i j => .bl (p i j)) v w H Q := fun x y z e v w F H Q s r1 r2 k => by
  cases e
  cases (List.cons.inj (show [v] = _ from r1)).1
  cases (List.cons.inj (show [w] = _ from r2)).1
  exact ⟨x, y, rfl, rfl, k⟩
theorem c_lt (ha : EM X W Γ a .int m1) (hb : EM X W Γ b .int m2) : EC X W Γ .Lt a b (m1 >>= fun x => m2 >>= fun y => .ok (decide (x < y))) := c_op (t1 := .int) (t2 := .int) (g := fun x y => some (decide (x < y))) op_lt (c0 (p := fun x y => decide (x < y))) ha hb
theorem c_le (ha : EM X W Γ a .int m1) (hb : EM X W Γ b .int m2) : EC X W Γ .LtE a b (m1 >>= fun x => m2 >>= fun y => .ok (decide (x ≤ y))) := c_op (t1 := .int) (t2 := .int) (g := fun x y => some (decide (x ≤ y))) op_le (c0 (p := fun x y => decide (x ≤ y))) ha hb
theorem c_gt (ha : EM X W Γ a .int m1) (hb : EM X W Γ b .int m2) : EC X W Γ .Gt a b (m1 >>= fun x => m2 >>= fun y => .ok (decide (y < x))) := c_op (t1 := .int) (t2 := .int) (g := fun x y => some (decide (y < x))) op_gt (c0 (p := fun x y => decide (y < x))) ha hb
theorem c_ge (ha : EM X W Γ a .int m1) (hb : EM X W Γ b .int m2) : EC X W Γ .GtE a b (m1 >>= fun x => m2 >>= fun y => .ok (decide (y ≤ x))) := c_op (t1 := .int) (t2 := .int) (g := fun x y => some (decide (y ≤ x))) op_ge (c0 (p := fun x y => decide (y ≤ x))) ha hb
theorem e_neg (ha : EM X W Γ a .int m1) : EM X W Γ (.UnaryOp .USub a pos) .int (m1 >>= fun x => .ok (-x)) := pe_imp (pe_un un_neg ha) (one_of (t1 := .int) (r := .d .int) (k := fun x => .ok (-x)) fun x v F H σ Q s r1 k => by
  cases (List.cons.inj (show [v] = _ from r1)).1
  exact ⟨x, rfl, k _ F H (Ext.refl s) rfl⟩)
/-! ## texts -/
def catO (x y : Str) : Option Str := if x.length + y.length ≤ sizeLine then some (x ++ y) else none
theorem e_cat {m1 m2 : Mx Str} (ha : EM X W Γ a .str m1) (hb : EM X W Γ b .str m2) : EM X W Γ (.BinOp a .Add b pos) .str (m1 >>= fun x => m2 >>= fun y => ofO (catO x y)) := e_bin (t1 := .str) (t2 := .str) (r := .d .str) (g := catO) op_add_str (fun x y z e v w F H Q s r1 r2 k => by
  unfold catO at e
  by_cases h : x.length + y.length ≤ sizeLine
  · rw [if_pos h] at e
    cases e
    cases (List.cons.inj (show [v] = _ from r1)).1
    cases (List.cons.inj (show [w] = _ from r2)).1
    exact ⟨x, y, rfl, rfl, h, k _ F H (Ext.refl s) rfl⟩
  · rw [if_neg h] at e; cases e) ha hb
/-! ## None -/
theorem rl_isnone {K : PySem.W.Frag} {mg : Str → Option Value} {x : Option t.den} {v : V} (r : rl K mg (.opt t) x [v] F) : decide (v = .non) = x.isNone := by
  cases x with
  | none => cases (List.cons.inj (show [v] = _ from r)).1; rfl
  | some y => exact decide_eq_false fun z => r.1 (by rw [z])
theorem c_isN {m : Mx (Option t.den)} {j : Nat} (ha : EM X W Γ a (.opt t) m) : EC X W Γ .Is a (.Constant .none j p) (m >>= fun x => .ok x.isNone) := pc_imp (pc_isN ha) fun σ H Q ⟨F, s, d, p⟩ =>
  ⟨F, s, d, p.bind.mono fun x px v F1 H1 e1 r1 => by show Q (.bl (decide (v = .non))) H1; rw [rl_isnone r1]; exact px _ F1 H1 e1 rfl⟩
theorem c_notN {m : Mx (Option t.den)} {j : Nat} (ha : EM X W Γ a (.opt t) m) : EC X W Γ .IsNot a (.Constant .none j p) (m >>= fun x => .ok x.isSome) := pc_imp (pc_notN ha) fun σ H Q ⟨F, s, d, p⟩ =>
  ⟨F, s, d, p.bind.mono fun x px v F1 H1 e1 r1 => by show Q (.bl (!decide (v = .non))) H1; rw [rl_isnone r1, show (!x.isNone) = x.isSome by cases x <;> rfl]; exact px _ F1 H1 e1 rfl⟩
/-! ## not, and, or as values -/
theorem e_not {m : Mx Bool} (ha : EM X W Γ a .bool m) : EM X W Γ (.UnaryOp .Not a pos) .bool (m >>= fun x => .ok (!x)) := pe_imp (pe_not ha) fun σ H Q ⟨F, s, d, p⟩ =>
  ⟨F, s, d, p.bind.mono fun x px v F1 H1 e1 r1 => by cases (List.cons.inj (show [v] = _ from r1)).1; exact ⟨x, rfl, px _ F1 H1 e1 rfl⟩⟩
theorem e_b1 {m : Mx Bool} {op : BoolOp} (ha : EM X W Γ a .bool m) : EM X W Γ (.BoolOp op [a] pos) .bool m := pe_one ha
theorem e_and {m1 m2 : Mx Bool} {rest : List Expr} (ha : EM X W Γ a .bool m1) (hb : EM X W Γ (.BoolOp .And (b :: rest) pos) .bool m2) : EM X W Γ (.BoolOp .And (a :: b :: rest) pos) .bool (m1 >>= fun x => if x then m2 else .ok false) :=
  pe_imp (pe_and ha hb) fun σ H Q ⟨F, s, d, p⟩ => ⟨F, s, d, p.bind.mono fun x px v F1 H1 e1 r1 => by
    cases (List.cons.inj (show [v] = _ from r1)).1
    refine ⟨x, rfl, ?_⟩
    cases x with
    | true => exact ⟨F1, e1.i, d.mono e1.f, post.ext e1 px fun y py w F2 H2 e2 r2 => py w F2 H2 (e1.trans e2) (rtr_pre (r := .d .bool) e1.h r2)⟩
    | false => exact px _ F1 H1 e1 rfl⟩
theorem e_or {m1 m2 : Mx Bool} {rest : List Expr} (ha : EM X W Γ a .bool m1) (hb : EM X W Γ (.BoolOp .Or (b :: rest) pos) .bool m2) : EM X W Γ (.BoolOp .Or (a :: b :: rest) pos) .bool (m1 >>= fun x => if x then .ok true else m2) :=
  pe_imp (pe_or ha hb) fun σ H Q ⟨F, s, d, p⟩ => ⟨F, s, d, p.bind.mono fun x px v F1 H1 e1 r1 => by
    cases (List.cons.inj (show [v] = _ from r1)).1
    refine ⟨x, rfl, ?_⟩
    cases x with
    | false => exact ⟨F1, e1.i, d.mono e1.f, post.ext e1 px fun y py w F2 H2 e2 r2 => py w F2 H2 (e1.trans e2) (rtr_pre (r := .d .bool) e1.h r2)⟩
    | true => exact px _ F1 H1 e1 rfl⟩
/-! ## tests -/
theorem t_of {m : Mx Bool} (ha : EM X W Γ a .bool m) (he : ∀ whole, isTrue a X.env whole = (do let v ← whole; standAt a.pos; holding [v] (truthy v)) := by intro _; rfl) : ET X W Γ a m := pt_imp (pt_val ha he) fun σ H Q ⟨F, s, d, p⟩ =>
  ⟨F, s, d, p.mono fun x px v F1 H1 e1 r1 => by cases (List.cons.inj (show [v] = _ from r1)).1; exact ⟨x, rfl, px F1 H1 e1⟩⟩
theorem t_not {m : Mx Bool} (ha : ET X W Γ a m) : ET X W Γ (.UnaryOp .Not a pos) (m >>= fun x => .ok (!x)) := pt_imp (pt_not ha) fun σ H Q ⟨F, s, d, p⟩ =>
  ⟨F, s, d, p.bind.mono fun x px F1 H1 e1 => px F1 H1 e1⟩
abbrev EW (X : Cx) (W : WX) (Γ : Ctx) (e : Expr) (m : Mx Bool) : Prop := PW X e (tT X.mg X.K W Γ m)
theorem pw_imp {e : Expr} {t t' : TT} (h : PW X e t) (i : ∀ σ H Q, t' σ H Q → t σ H Q) : PW X e t' := ⟨fun wh pins s σ H Q I q => h.run wh pins s σ H Q I (i σ H Q q)⟩
theorem t_w {m : Mx Bool} (h : EW X W Γ a m) : ET X W Γ a m := PW.pt h
theorem w_and1 {m : Mx Bool} (ha : ET X W Γ a m) : EW X W Γ (.BoolOp .And [a] pos) m := pw_and1 ha
theorem w_or1 {m : Mx Bool} (ha : ET X W Γ a m) : EW X W Γ (.BoolOp .Or [a] pos) m := pw_or1 ha
theorem w_and {m1 m2 : Mx Bool} {rest : List Expr} (ha : ET X W Γ a m1) (hb : EW X W Γ (.BoolOp .And (b :: rest) pos) m2) : EW X W Γ (.BoolOp .And (a :: b :: rest) pos) (m1 >>= fun x => if x then m2 else .ok false) :=
  pw_imp (pw_and ha hb) fun σ H Q ⟨F, s, d, p⟩ => ⟨F, s, d, p.bind.mono fun x px F1 H1 e1 => by
    cases x with
    | true => exact ⟨F1, e1.i, d.mono e1.f, post.ext e1 px fun y py F2 H2 e2 => py F2 H2 (e1.trans e2)⟩
    | false => exact px F1 H1 e1⟩
theorem w_or {m1 m2 : Mx Bool} {rest : List Expr} (ha : ET X W Γ a m1) (hb : EW X W Γ (.BoolOp .Or (b :: rest) pos) m2) : EW X W Γ (.BoolOp .Or (a :: b :: rest) pos) (m1 >>= fun x => if x then .ok true else m2) :=
  pw_imp (pw_or ha hb) fun σ H Q ⟨F, s, d, p⟩ => ⟨F, s, d, p.bind.mono fun x px F1 H1 e1 => by
    cases x with
    | false => exact ⟨F1, e1.i, d.mono e1.f, post.ext e1 px fun y py F2 H2 e2 => py F2 H2 (e1.trans e2)⟩
    | true => exact px F1 H1 e1⟩
/-- a if t else b -/
theorem e_if {c : Expr} {mc : Mx Bool} {m1 m2 : Mx r.den} (hc : ET X W Γ c mc) (ha : ER X W Γ a r m1) (hb : ER X W Γ b r m2) : ER X W Γ (.IfExp c a b pos) r (mc >>= fun x => if x then m1 else m2) :=
  pe_imp (pe_ifExp hc ha hb) fun σ H Q ⟨F, s, d, p⟩ => ⟨F, s, d, p.bind.mono fun x px F1 H1 e1 => by
    cases x with
    | true => exact ⟨F1, e1.i, d.mono e1.f, post.ext e1 px fun y py w F2 H2 e2 r2 => py w F2 H2 (e1.trans e2) (rtr_pre e1.h r2)⟩
    | false => exact ⟨F1, e1.i, d.mono e1.f, post.ext e1 px fun y py w F2 H2 e2 r2 => py w F2 H2 (e1.trans e2) (rtr_pre e1.h r2)⟩⟩
/-! ## subscripts, slices -/
theorem all2_atI {α : Type} {R : α → V → Prop} {xs : List α} {vs : List V} {i : Int} {x : α} (h : all2 R xs vs) (e : atI xs i = some x) : ∃ v, atI vs i = some v ∧ R x v := by
  unfold atI at e ⊢
  rw [h.len] at e
  cases k : ixN vs.length i with
  | none => rw [k] at e; cases e
  | some j =>
    rw [k] at e
    obtain ⟨v, h1, h2⟩ := h.get (show xs[j]? = some x from e)
    exact ⟨v, h1, h2⟩
theorem e_ixL {m1 : Mx (List t.den)} {m2 : Mx Int} (ha : EM X W Γ a (.list t) m1) (hb : EM X W Γ b .int m2) (hs : PlainIx b := by intro _ _; rfl) : EM X W Γ (.Subscript a b pos) t (m1 >>= fun x => m2 >>= fun y => ofO (atI x y)) :=
  e_ix (t1 := .list t) (t2 := .int) (r := .d t) (g := fun x y => atI x y) ix_list hs (fun x y z e v w F H Q s r1 r2 k => by
    obtain ⟨p, ws, e1, sq, r⟩ := r1
    cases (List.cons.inj e1).1
    cases (List.cons.inj (show [w] = _ from r2)).1
    obtain ⟨u, h1, h2⟩ := all2_atI r e
    exact ⟨p, ws, y, u, rfl, rfl, SqL.of (s _ _ sq), h1, k u F H (Ext.refl s) h2⟩) ha hb
theorem e_ixT {m1 : Mx (List t.den)} {m2 : Mx Int} (ha : EM X W Γ a (.vtup t) m1) (hb : EM X W Γ b .int m2) (hs : PlainIx b := by intro _ _; rfl) : EM X W Γ (.Subscript a b pos) t (m1 >>= fun x => m2 >>= fun y => ofO (atI x y)) :=
  e_ix (t1 := .vtup t) (t2 := .int) (r := .d t) (g := fun x y => atI x y) ix_tup hs (fun x y z e v w F H Q s r1 r2 k => by
    obtain ⟨p, ws, e1, sq, r⟩ := r1
    cases (List.cons.inj e1).1
    cases (List.cons.inj (show [w] = _ from r2)).1
    obtain ⟨u, h1, h2⟩ := all2_atI r e
    exact ⟨p, ws, y, u, rfl, rfl, sqT_same s sq, h1, k u F H (Ext.refl s) h2⟩) ha hb
/-- a text's sign -/
def atS (x : Str) (i : Int) : Option Str := if x.length ≤ sizeLine then (atI x.cps.toList i).map fun c => ⟨#[c]⟩ else none
theorem e_ixS {m1 : Mx Str} {m2 : Mx Int} (ha : EM X W Γ a .str m1) (hb : EM X W Γ b .int m2) (hs : PlainIx b := by intro _ _; rfl) : EM X W Γ (.Subscript a b pos) .str (m1 >>= fun x => m2 >>= fun y => ofO (atS x y)) :=
  e_ix (t1 := .str) (t2 := .int) (r := .d .str) (g := fun x y => atS x y) ix_str hs (fun x y z e v w F H Q s r1 r2 k => by
    cases (List.cons.inj (show [v] = _ from r1)).1
    cases (List.cons.inj (show [w] = _ from r2)).1
    unfold atS at e
    by_cases h : x.length ≤ sizeLine
    · rw [if_pos h] at e
      cases q : atI x.cps.toList y with
      | none => rw [q] at e; cases e
      | some c =>
        rw [q] at e
        cases e
        exact ⟨x, y, c, rfl, rfl, h, q, k _ F H (Ext.refl s) rfl⟩
    · rw [if_neg h] at e; cases e) ha hb
end
end Gm
set_option Elab.async false
set_option linter.all false
set_option maxRecDepth 100000
set_option maxHeartbeats 4000000
namespace Gm
open PySem PySem.Spec L2

section
variable {X : Cx} {W : WX} {Γ : Ctx} {a b c e : Expr} {es : List Expr} {pos p p2 cpos apos : Pos} {t t1 t2 : Ty} {r : Rt} {F H : Hp} {x : Str}

/-! ## fields by place -/
def Ty.sing : Ty → Bool
  | .non => true
  | .scr => true
  | .opt t => t.some_
  | .pr _ _ => false
  | .nl => false
  | .sum a b => a.some_ && b.some_
  | _ => true
theorem rl_sing {K : PySem.W.Frag} {mg : Str → Option Value} {t : Ty} {x : t.den} {vs : List V} (h : t.sing = true) (r : rl K mg t x vs F) : ∃ v, vs = [v] := by
  cases t with
  | non => exact ⟨_, r⟩
  | scr => obtain ⟨_, e, _⟩ := r; exact ⟨_, e⟩
  | tpl => obtain ⟨_, _, e, _⟩ := r; exact ⟨_, e⟩
  | exn => exact ⟨_, r.1⟩
  | opt t =>
    cases x with
    | none => exact ⟨_, r⟩
    | some y => exact rl_one h r.2
  | int => exact rl_one (t := .int) rfl r
  | bool => exact rl_one (t := .bool) rfl r
  | str => exact rl_one (t := .str) rfl r
  | tup fs => exact rl_one (t := .tup fs) rfl r
  | vtup fs => exact rl_one (t := .vtup fs) rfl r
  | hl fs => exact rl_one (t := .hl fs) rfl r
  | list fs => exact rl_one (t := .list fs) rfl r
  | ins c ns fs => exact rl_one (t := .ins c ns fs) rfl r
  | dic k t => exact rl_one (t := .dic k t) rfl r
  | dicN P w k t => exact rl_one (t := .dicN P w k t) rfl r
  | pr _ _ => cases h
  | nl => cases h
  | sum a b => exact rl_one (t := .sum a b) h r
inductive Fl : (fs : Ty) → Nat → (t : Ty) → (fs.den → t.den) → Prop
  | hd {a b : Ty} : Fl (.pr a b) 0 a (fun x => x.1)
  | tl {a b t : Ty} {n : Nat} {π : b.den → t.den} (h : Fl b n t π) : Fl (.pr a b) (n + 1) t (fun x => π x.2)
  | last {t : Ty} (h : t.sing = true) : Fl t 0 t (fun x => x)
theorem Fl.at_ {K : PySem.W.Frag} {mg : Str → Option Value} {fs : Ty} {n : Nat} {t : Ty} {π : fs.den → t.den} (h : Fl fs n t π) : ∀ {x : fs.den} {ws : List V}, rl K mg fs x ws F → ∃ v, ws[n]? = some v ∧ rl K mg t (π x) [v] F := by
  induction h with
  | hd => intro x ws q; obtain ⟨v, r, rfl, q1, _⟩ := q; exact ⟨v, rfl, q1⟩
  | tl h ih => intro x ws q; obtain ⟨v, r, rfl, _, q2⟩ := q; obtain ⟨u, h1, h2⟩ := ih q2; exact ⟨u, by simpa using h1, h2⟩
  | last h => intro x ws q; obtain ⟨v, rfl⟩ := rl_sing h q; exact ⟨v, rfl, q⟩
/-- t[n], n written -/
theorem e_fld {fs : Ty} {i : Int} {n : Nat} {π : fs.den → t.den} {j : Nat} {m : Mx fs.den} (ha : EM X W Γ a (.tup fs) m) (hf : Fl fs n t π) (hi : i = (n : Int) := by rfl) (hs : PlainIx (.Constant (.int i) j p) := by intro _ _; rfl) :
    EM X W Γ (.Subscript a (.Constant (.int i) j p) pos) t (m >>= fun x => .ok (π x)) :=
  pe_imp (pe_ix ix_tup ha (pe_int (i := i)) hs) fun σ H Q ⟨F, s, d, q⟩ => ⟨F, s, d, q.bind.mono fun x px v F1 H1 e1 r1 => by
    subst hi
    obtain ⟨p, ws, e2, sq, rr⟩ := r1
    cases (List.cons.inj e2).1
    obtain ⟨u, h1, h2⟩ := hf.at_ rr
    exact ⟨p, ws, (n : Int), u, rfl, rfl, sqT_same e1.i sq, atI_nat h1, px u F1 H1 e1 h2⟩⟩
/-- l[n], n written, of a list of many kinds -/
theorem e_fldL {fs : Ty} {i : Int} {n : Nat} {π : fs.den → t.den} {j : Nat} {m : Mx fs.den} (ha : EM X W Γ a (.hl fs) m) (hf : Fl fs n t π) (hi : i = (n : Int) := by rfl) (hs : PlainIx (.Constant (.int i) j p) := by intro _ _; rfl) :
    EM X W Γ (.Subscript a (.Constant (.int i) j p) pos) t (m >>= fun x => .ok (π x)) :=
  pe_imp (pe_ix ix_list ha (pe_int (i := i)) hs) fun σ H Q ⟨F, s, d, q⟩ => ⟨F, s, d, q.bind.mono fun x px v F1 H1 e1 r1 => by
    subst hi
    obtain ⟨p, ws, e2, sq, rr⟩ := r1
    cases (List.cons.inj e2).1
    obtain ⟨u, h1, h2⟩ := hf.at_ rr
    exact ⟨p, ws, (n : Int), u, rfl, rfl, SqL.of (e1.i _ _ sq), atI_nat h1, px u F1 H1 e1 h2⟩⟩

/-! ## displays -/
def Ty.ar : Ty → Option Nat
  | .pr _ b => b.ar.map (· + 1)
  | .nl => some 0
  | .non => some 1
  | .scr => some 1
  | .tpl => some 1
  | .exn => some 1
  | .opt t => if t.some_ then some 1 else none
  | .sum a b => if a.some_ && b.some_ then some 1 else none
  | .dic _ _ => some 1
  | .dicN _ _ _ _ => some 1
  | .int => some 1
  | .bool => some 1
  | .str => some 1
  | .tup _ => some 1
  | .vtup _ => some 1
  | .hl _ => some 1
  | .list _ => some 1
  | .ins _ _ _ => some 1
theorem rl_ar {K : PySem.W.Frag} {mg : Str → Option Value} : ∀ {t : Ty} {n : Nat} {x : t.den} {vs : List V}, t.ar = some n → rl K mg t x vs F → vs.length = n
  | .pr a b, n, x, vs, h, r => by
    obtain ⟨v, r', rfl, _, q⟩ := r
    have h' : b.ar.map (· + 1) = some n := h
    cases e : b.ar with
    | none => rw [e] at h'; cases h'
    | some k =>
      rw [e] at h'
      have hn : k + 1 = n := Option.some.inj h'
      rw [List.length_cons, rl_ar e q, hn]
  | .nl, _, _, _, h, r => by cases h; rw [show _ = _ from r]; rfl
  | .non, _, _, _, h, r => by cases h; rw [show _ = _ from r]; rfl
  | .scr, _, _, _, h, r => by cases h; obtain ⟨_, e, _⟩ := r; rw [e]; rfl
  | .tpl, _, _, _, h, r => by cases h; obtain ⟨_, _, e, _⟩ := r; rw [e]; rfl
  | .exn, _, _, _, h, r => by cases h; rw [r.1]; rfl
  | .opt t, n, x, vs, h, r => by
    have h' : (if t.some_ then some 1 else none) = some n := h
    by_cases ht : t.some_ = true
    · rw [if_pos ht] at h'
      cases h'
      obtain ⟨v, rfl⟩ := rl_sing (t := .opt t) ht r
      rfl
    · rw [if_neg ht] at h'; cases h'
  | .int, _, _, _, h, r => by cases h; rw [show _ = _ from r]; rfl
  | .bool, _, _, _, h, r => by cases h; rw [show _ = _ from r]; rfl
  | .str, _, _, _, h, r => by cases h; rw [show _ = _ from r]; rfl
  | .tup _, _, _, _, h, r => by cases h; obtain ⟨_, _, e, _⟩ := r; rw [e]; rfl
  | .vtup _, _, _, _, h, r => by cases h; obtain ⟨_, _, e, _⟩ := r; rw [e]; rfl
  | .hl _, _, _, _, h, r => by cases h; obtain ⟨_, _, e, _⟩ := r; rw [e]; rfl
  | .list _, _, _, _, h, r => by cases h; obtain ⟨_, _, e, _⟩ := r; rw [e]; rfl
  | .ins _ _ _, _, _, _, h, r => by cases h; obtain ⟨_, _, _, _, e, _⟩ := r; rw [e]; rfl
  | .dic _ _, _, _, _, h, r => by cases h; obtain ⟨_, _, e, _⟩ := r; rw [e]; rfl
  | .dicN _ _ _ _, _, _, _, h, r => by cases h; obtain ⟨_, _, e, _⟩ := r; rw [e]; rfl
  | .sum a b, n, x, vs, h, r => by
    have h' : (if a.some_ && b.some_ then some 1 else none) = some n := h
    by_cases ht : (a.some_ && b.some_) = true
    · rw [if_pos ht] at h'
      cases h'
      obtain ⟨v, rfl⟩ := rl_one (t := .sum a b) ht r
      rfl
    · rw [if_neg ht] at h'; cases h'
def Ty.few (t : Ty) : Bool := match t.ar with
  | some n => decide (n ≤ 1000)
  | none => false
theorem rl_few {K : PySem.W.Frag} {mg : Str → Option Value} {t : Ty} {x : t.den} {vs : List V} (h : t.few = true) (r : rl K mg t x vs F) : vs.length ≤ sizeLine := by
  unfold Ty.few at h
  cases e : t.ar with
  | none => rw [e] at h; cases h
  | some n => rw [e] at h; rw [rl_ar e r]; exact len_le' (of_decide_eq_true h)
where len_le' {n : Nat} (h : n ≤ 1000) : n ≤ sizeLine := Nat.le_trans h (by decide)
/-- (a, b, ..) -/
theorem e_tup {fs : Ty} {m : Mx fs.den} {k : Nat} (h : EA X W Γ es fs m) (hl : fs.few = true := by rfl) : EM X W Γ (.Tuple es k pos) (.tup fs) m := pe_imp (pe_tup h) fun σ H Q ⟨F, s, d, q⟩ =>
  ⟨F, s, d, q.mono fun x px vs F1 H1 e1 r1 => ⟨rl_few hl r1, fun p np => by
    have e2 := Ext.new (o := .tup vs) e1.i np
    exact px (.ref p) (upd F1 p (.tup vs)) (upd H1 p (.tup vs)) (e1.trans e2) ⟨p, vs, rfl, SqT.of upd_same, rl_mono e2.f fs x vs r1⟩⟩⟩
/-- [a, b, ..] of many kinds -/
theorem e_hl {fs : Ty} {m : Mx fs.den} (h : EA X W Γ es fs m) (hl : fs.few = true := by rfl) : EM X W Γ (.List es pos) (.hl fs) m := pe_imp (pe_lst h) fun σ H Q ⟨F, s, d, q⟩ =>
  ⟨F, s, d, q.mono fun x px vs F1 H1 e1 r1 => ⟨rl_few hl r1, fun p np => by
    have e2 := Ext.new (o := .lst vs) e1.i np
    exact px (.ref p) (upd F1 p (.lst vs)) (upd H1 p (.lst vs)) (e1.trans e2) ⟨p, vs, rfl, upd_same, rl_mono e2.f fs x vs r1⟩⟩⟩
/-- items of one kind -/
def tL (mg : Str → Option Value) (K : PySem.W.Frag) (W : WX) (Γ : Ctx) (t : Ty) (n : Nat) (m : Mx (List t.den)) : TA := fun σ H Q => ∃ F, Same F H ∧ SD K mg Γ σ F ∧
  post mg W σ m F H fun x => ∀ vs F' H', Ext F H F' H' → all2 (fun y v => rl K mg t y [v] F') x vs → vs.length = n → Q vs H'
abbrev EL (X : Cx) (W : WX) (Γ : Ctx) (es : List Expr) (t : Ty) (n : Nat) (m : Mx (List t.den)) : Prop := PA X es (tL X.mg X.K W Γ t n m)
theorem el_nil : EL X W Γ [] t 0 (.ok []) := pa_imp pa_nil fun σ H Q ⟨F, s, d, p⟩ => p [] F H (Ext.refl s) True.intro rfl
theorem el_cons {n : Nat} {m : Mx t.den} {ms : Mx (List t.den)} (ha : EM X W Γ a t m) (hr : EL X W Γ es t n ms) (hs : starEach (a :: es) X.env = (false, eval a X.env) :: starEach es X.env := by rfl) :
    EL X W Γ (a :: es) t (n + 1) (m >>= fun x => ms >>= fun y => .ok (x :: y)) := pa_imp (pa_cons ha hr hs) fun σ H Q ⟨F, s, d, p⟩ => by
  refine ⟨F, s, d, p.bind.mono fun x px v F1 H1 e1 r1 => ⟨F1, e1.i, d.mono e1.f, post.ext e1 px.bind fun y py vs F2 H2 e2 r2 hn => ?_⟩⟩
  exact py (v :: vs) F2 H2 (e1.trans e2) ⟨rl_mono e2.f t x _ r1, r2⟩ (congrArg (· + 1) hn)
/-- a new list of data -/
theorem rtr_new {K : PySem.W.Frag} {mg : Str → Option Value} {xs : List t.den} {vs : List V} {p : Addr} {F' H0 : Hp} (r : all2 (fun y v => rl K mg t y [v] F') xs vs) (hF : Same F' H) (h0 : Same H0 H) (np : H p = none) :
    rtr K mg (.o (.l (.d t))) xs (.ref p) H0 F' (upd H p (.lst vs)) :=
  ⟨[p], ⟨p, vs, xs.map fun _ => [], rfl, by rw [flat_nil], upd_same, all3.of2 (fun x v q => ⟨rfl, q⟩) r⟩, by simp, fun a ha => by
    rw [List.mem_singleton.mp ha]; exact ⟨hF.free np, h0.free np⟩⟩
theorem e_lst {n : Nat} {m : Mx (List t.den)} (h : EL X W Γ es t n m) (hl : n ≤ 1000 := by decide) : EO X W Γ (.List es pos) (.l (.d t)) m := pe_imp (pe_lst h) fun σ H Q ⟨F, s, d, q⟩ =>
  ⟨F, s, d, q.mono fun x px vs F1 H1 e1 r1 hn => ⟨Nat.le_trans (by rw [hn]; exact hl) (by decide), fun p np =>
    px (.ref p) F1 _ (e1.trans (Ext.cell e1.i np)) (rtr_new r1 e1.i e1.h np)⟩⟩

/-! ## built-in functions -/
theorem e_abs {q : Pos} {m : Mx Int} (hg : Gl X "abs") (hm : X.mg "abs" = none) (ha : EM X W Γ a .int m) (hs : starEach [a] X.env = (false, eval a X.env) :: starEach [] X.env := by rfl) : EM X W Γ (.Call (.Name "abs" q) [a] [] pos) .int (m >>= fun x => .ok (if x < 0 then -x else x)) :=
  pe_imp (pe_callB call_abs hg hm (by decide +kernel) (ea_one ha hs) (he := hs)) (args_of (ts := .int) (r := .d .int) (k := fun x => .ok (if x < 0 then -x else x)) fun x vs F H σ Q s r1 k => by
    cases (show vs = _ from r1)
    exact ⟨x, rfl, k _ F H (Ext.refl s) rfl⟩)
theorem e_intI {q : Pos} {m : Mx Int} (hg : Gl X "int") (hm : X.mg "int" = none) (ha : EM X W Γ a .int m) (hs : starEach [a] X.env = (false, eval a X.env) :: starEach [] X.env := by rfl) : EM X W Γ (.Call (.Name "int" q) [a] [] pos) .int m :=
  pe_imp (pe_callTy call_int1 hg hm (by decide +kernel) (ea_one ha hs) (he := hs)) fun σ H Q ⟨F, s, d, p⟩ => ⟨F, s, d, p.mono fun x px vs F1 H1 e1 r1 => by
    cases (show vs = _ from r1)
    exact .inl ⟨x, rfl, px _ F1 H1 e1 rfl⟩⟩
theorem e_intB {q : Pos} {m : Mx Bool} (hg : Gl X "int") (hm : X.mg "int" = none) (ha : EM X W Γ a .bool m) (hs : starEach [a] X.env = (false, eval a X.env) :: starEach [] X.env := by rfl) : EM X W Γ (.Call (.Name "int" q) [a] [] pos) .int (m >>= fun x => .ok (if x then 1 else 0)) :=
  pe_imp (pe_callTy call_int1 hg hm (by decide +kernel) (ea_one ha hs) (he := hs)) (args_of (ts := .bool) (r := .d .int) (k := fun x => .ok (if x then 1 else 0)) fun x vs F H σ Q s r1 k => by
    cases (show vs = _ from r1)
    exact .inr ⟨x, rfl, k _ F H (Ext.refl s) rfl⟩)
theorem e_max2 {q : Pos} {m1 m2 : Mx Int} (hc : X.calm = true) (hg : Gl X "max") (hm : X.mg "max" = none) (ha : EM X W Γ a .int m1) (hb : EM X W Γ b .int m2) (hs : starEach [a, b] X.env = (false, eval a X.env) :: starEach [b] X.env := by rfl) (hs2 : starEach [b] X.env = (false, eval b X.env) :: starEach [] X.env := by rfl)
    (hp : (backTo pos (starEach [b] X.env)).any (·.1) = false := by rfl) : EM X W Γ (.Call (.Name "max" q) [a, b] [] pos) .int (m1 >>= fun x => m2 >>= fun y => .ok (if y > x then y else x)) :=
  pe_imp (pe_callB (call_max2 hc) hg hm (by decide +kernel) (pa_cons ha (pa_cons hb pa_nil hs2) hs) (he := hs) (hpl := hp)) (two_of (t1 := .int) (t2 := .int) (r := .d .int) (k := fun x y => .ok (if y > x then y else x)) (rR := fun v w H Q => ∃ i j, [v, w] = [V.int i, V.int j] ∧ Q (.int (if j > i then j else i)) H) fun x y v w F H σ Q s r1 r2 k => by
    cases (List.cons.inj (show [v] = _ from r1)).1
    cases (List.cons.inj (show [w] = _ from r2)).1
    exact ⟨x, y, rfl, k _ F H (Ext.refl s) rfl⟩)
theorem e_min2 {q : Pos} {m1 m2 : Mx Int} (hc : X.calm = true) (hg : Gl X "min") (hm : X.mg "min" = none) (ha : EM X W Γ a .int m1) (hb : EM X W Γ b .int m2) (hs : starEach [a, b] X.env = (false, eval a X.env) :: starEach [b] X.env := by rfl) (hs2 : starEach [b] X.env = (false, eval b X.env) :: starEach [] X.env := by rfl)
    (hp : (backTo pos (starEach [b] X.env)).any (·.1) = false := by rfl) : EM X W Γ (.Call (.Name "min" q) [a, b] [] pos) .int (m1 >>= fun x => m2 >>= fun y => .ok (if y < x then y else x)) :=
  pe_imp (pe_callB (call_min2 hc) hg hm (by decide +kernel) (pa_cons ha (pa_cons hb pa_nil hs2) hs) (he := hs) (hpl := hp)) (two_of (t1 := .int) (t2 := .int) (r := .d .int) (k := fun x y => .ok (if y < x then y else x)) (rR := fun v w H Q => ∃ i j, [v, w] = [V.int i, V.int j] ∧ Q (.int (if j < i then j else i)) H) fun x y v w F H σ Q s r1 r2 k => by
    cases (List.cons.inj (show [v] = _ from r1)).1
    cases (List.cons.inj (show [w] = _ from r2)).1
    exact ⟨x, y, rfl, k _ F H (Ext.refl s) rfl⟩)
theorem e_lenL {q : Pos} {m : Mx (List t.den)} (hg : Gl X "len") (hm : X.mg "len" = none) (ha : EM X W Γ a (.list t) m) (hs : starEach [a] X.env = (false, eval a X.env) :: starEach [] X.env := by rfl) : EM X W Γ (.Call (.Name "len" q) [a] [] pos) .int (m >>= fun x => .ok (x.length : Int)) :=
  pe_imp (pe_callB call_len_seq hg hm (by decide +kernel) (ea_one ha hs) (he := hs)) (args_of (ts := .list t) (r := .d .int) (k := fun x => .ok (x.length : Int)) fun x vs F H σ Q s r1 k => by
    obtain ⟨p, ws, rfl, sq, rr⟩ := r1
    exact ⟨p, ws, rfl, .inl (SqL.of (s _ _ sq)), k _ F H (Ext.refl s) (by show _ = _; rw [rr.len])⟩)
theorem e_lenT {q : Pos} {m : Mx (List t.den)} (hg : Gl X "len") (hm : X.mg "len" = none) (ha : EM X W Γ a (.vtup t) m) (hs : starEach [a] X.env = (false, eval a X.env) :: starEach [] X.env := by rfl) : EM X W Γ (.Call (.Name "len" q) [a] [] pos) .int (m >>= fun x => .ok (x.length : Int)) :=
  pe_imp (pe_callB call_len_seq hg hm (by decide +kernel) (ea_one ha hs) (he := hs)) (args_of (ts := .vtup t) (r := .d .int) (k := fun x => .ok (x.length : Int)) fun x vs F H σ Q s r1 k => by
    obtain ⟨p, ws, rfl, sq, rr⟩ := r1
    exact ⟨p, ws, rfl, .inr (sqT_same s sq), k _ F H (Ext.refl s) (by show _ = _; rw [rr.len])⟩)
def lenS (x : Str) : Option Int := if x.length ≤ sizeLine then some (x.length : Int) else none
theorem e_lenS {q : Pos} {m : Mx Str} (hg : Gl X "len") (hm : X.mg "len" = none) (ha : EM X W Γ a .str m) (hs : starEach [a] X.env = (false, eval a X.env) :: starEach [] X.env := by rfl) : EM X W Γ (.Call (.Name "len" q) [a] [] pos) .int (m >>= fun x => ofO (lenS x)) :=
  pe_imp (pe_callB call_len_str hg hm (by decide +kernel) (ea_one ha hs) (he := hs)) (args_of (ts := .str) (r := .d .int) (k := fun x => ofO (lenS x)) fun x vs F H σ Q s r1 k => by
    cases (show vs = _ from r1)
    unfold lenS at k
    by_cases h : x.length ≤ sizeLine
    · rw [if_pos h] at k; exact ⟨x, rfl, h, k _ F H (Ext.refl s) rfl⟩
    · rw [if_neg h] at k; exact k.elim)
theorem e_listL {q : Pos} {m : Mx (List t.den)} (hg : Gl X "list") (hm : X.mg "list" = none) (ha : EM X W Γ a (.list t) m) (hs : starEach [a] X.env = (false, eval a X.env) :: starEach [] X.env := by rfl) : EO X W Γ (.Call (.Name "list" q) [a] [] pos) (.l (.d t)) m :=
  pe_imp (pe_callTy call_list_of hg hm (by decide +kernel) (ea_one ha hs) (he := hs)) fun σ H Q ⟨F, s, d, p⟩ => ⟨F, s, d, p.mono fun x px vs F1 H1 e1 r1 => by
    obtain ⟨a', ws, rfl, sq, rr⟩ := r1
    exact ⟨a', ws, rfl, .inl (SqL.of (e1.i _ _ sq)), fun l nl => px (.ref l) F1 _ (e1.trans (Ext.cell e1.i nl)) (rtr_new rr e1.i e1.h nl)⟩⟩
theorem e_listT {q : Pos} {m : Mx (List t.den)} (hg : Gl X "list") (hm : X.mg "list" = none) (ha : EM X W Γ a (.vtup t) m) (hs : starEach [a] X.env = (false, eval a X.env) :: starEach [] X.env := by rfl) : EO X W Γ (.Call (.Name "list" q) [a] [] pos) (.l (.d t)) m :=
  pe_imp (pe_callTy call_list_of hg hm (by decide +kernel) (ea_one ha hs) (he := hs)) fun σ H Q ⟨F, s, d, p⟩ => ⟨F, s, d, p.mono fun x px vs F1 H1 e1 r1 => by
    obtain ⟨a', ws, rfl, sq, rr⟩ := r1
    exact ⟨a', ws, rfl, .inr (sqT_same e1.i sq), fun l nl => px (.ref l) F1 _ (e1.trans (Ext.cell e1.i nl)) (rtr_new rr e1.i e1.h nl)⟩⟩
theorem e_tupL {q : Pos} {m : Mx (List t.den)} (hg : Gl X "tuple") (hm : X.mg "tuple" = none) (ha : EM X W Γ a (.list t) m) (hs : starEach [a] X.env = (false, eval a X.env) :: starEach [] X.env := by rfl) : EM X W Γ (.Call (.Name "tuple" q) [a] [] pos) (.vtup t) m :=
  pe_imp (pe_callTy call_tuple_of hg hm (by decide +kernel) (ea_one ha hs) (he := hs)) fun σ H Q ⟨F, s, d, p⟩ => ⟨F, s, d, p.mono fun x px vs F1 H1 e1 r1 => by
    obtain ⟨a', ws, rfl, sq, rr⟩ := r1
    refine ⟨a', ws, rfl, .inl ⟨SqL.of (e1.i _ _ sq), fun l nl => ?_⟩⟩
    have e2 := Ext.new (o := .tup ws) e1.i nl
    exact px (.ref l) _ _ (e1.trans e2) ⟨l, ws, rfl, SqT.of upd_same, rr.imp fun y v z => rl_mono e2.f t y [v] z⟩⟩
theorem e_tupT {q : Pos} {m : Mx (List t.den)} (hg : Gl X "tuple") (hm : X.mg "tuple" = none) (ha : EM X W Γ a (.vtup t) m) (hs : starEach [a] X.env = (false, eval a X.env) :: starEach [] X.env := by rfl) : EM X W Γ (.Call (.Name "tuple" q) [a] [] pos) (.vtup t) m :=
  pe_imp (pe_callTy call_tuple_of hg hm (by decide +kernel) (ea_one ha hs) (he := hs)) fun σ H Q ⟨F, s, d, p⟩ => ⟨F, s, d, p.mono fun x px vs F1 H1 e1 r1 => by
    obtain ⟨a', ws, rfl, sq, rr⟩ := r1
    exact ⟨a', ws, rfl, .inr ⟨sqT_same e1.i sq, px (.ref a') F1 H1 e1 ⟨a', ws, rfl, sq, rr⟩⟩⟩⟩
theorem all2_bools {K : PySem.W.Frag} {mg : Str → Option Value} : ∀ {bs : List Bool} {ws : List V}, all2 (fun (y : Bool) v => rl K mg .bool y [v] F) bs ws → ws = bs.map V.bl
  | [], [], _ => rfl
  | b :: bs, w :: ws, ⟨h, r⟩ => by cases (List.cons.inj (show [w] = _ from h)).1; rw [all2_bools r]; rfl
  | [], _ :: _, z => z.elim
  | _ :: _, [], z => z.elim
theorem all2_strs {K : PySem.W.Frag} {mg : Str → Option Value} : ∀ {bs : List Str} {ws : List V}, all2 (fun (y : Str) v => rl K mg .str y [v] F) bs ws → ws = bs.map V.str
  | [], [], _ => rfl
  | b :: bs, w :: ws, ⟨h, r⟩ => by cases (List.cons.inj (show [w] = _ from h)).1; rw [all2_strs r]; rfl
  | [], _ :: _, z => z.elim
  | _ :: _, [], z => z.elim
theorem all2_ints {K : PySem.W.Frag} {mg : Str → Option Value} : ∀ {bs : List Int} {ws : List V}, all2 (fun (y : Int) v => rl K mg .int y [v] F) bs ws → ws = bs.map V.int
  | [], [], _ => rfl
  | b :: bs, w :: ws, ⟨h, r⟩ => by cases (List.cons.inj (show [w] = _ from h)).1; rw [all2_ints r]; rfl
  | [], _ :: _, z => z.elim
  | _ :: _, [], z => z.elim
theorem e_all {q : Pos} {m : Mx (List Bool)} (hc : X.calm = true) (hg : Gl X "all") (hm : X.mg "all" = none) (ha : EM X W Γ a (.list .bool) m) (hs : starEach [a] X.env = (false, eval a X.env) :: starEach [] X.env := by rfl) : EM X W Γ (.Call (.Name "all" q) [a] [] pos) .bool (m >>= fun x => .ok (x.all id)) :=
  pe_imp (pe_callB (cr_all hc) hg hm (by decide +kernel) (ea_one ha hs) (he := hs)) (args_of (ts := .list .bool) (r := .d .bool) (k := fun x => .ok (x.all id)) fun x vs F H σ Q s r1 k => by
    obtain ⟨p, ws, rfl, sq, rr⟩ := r1
    cases all2_bools rr
    exact ⟨p, x, rfl, SqL.of (s _ _ sq), k _ F H (Ext.refl s) rfl⟩)
theorem e_any {q : Pos} {m : Mx (List Bool)} (hc : X.calm = true) (hg : Gl X "any") (hm : X.mg "any" = none) (ha : EM X W Γ a (.list .bool) m) (hs : starEach [a] X.env = (false, eval a X.env) :: starEach [] X.env := by rfl) : EM X W Γ (.Call (.Name "any" q) [a] [] pos) .bool (m >>= fun x => .ok (x.any id)) :=
  pe_imp (pe_callB (cr_any hc) hg hm (by decide +kernel) (ea_one ha hs) (he := hs)) (args_of (ts := .list .bool) (r := .d .bool) (k := fun x => .ok (x.any id)) fun x vs F H σ Q s r1 k => by
    obtain ⟨p, ws, rfl, sq, rr⟩ := r1
    cases all2_bools rr
    exact ⟨p, x, rfl, SqL.of (s _ _ sq), k _ F H (Ext.refl s) rfl⟩)
theorem e_sum {q : Pos} {m : Mx (List Int)} (hc : X.calm = true) (hg : Gl X "sum") (hm : X.mg "sum" = none) (ha : EM X W Γ a (.list .int) m) (hs : starEach [a] X.env = (false, eval a X.env) :: starEach [] X.env := by rfl) : EM X W Γ (.Call (.Name "sum" q) [a] [] pos) .int (m >>= fun x => .ok x.sum) :=
  pe_imp (pe_callB (cr_sum hc) hg hm (by decide +kernel) (ea_one ha hs) (he := hs)) (args_of (ts := .list .int) (r := .d .int) (k := fun x => .ok x.sum) fun x vs F H σ Q s r1 k => by
    obtain ⟨p, ws, rfl, sq, rr⟩ := r1
    cases all2_ints rr
    exact ⟨p, x, rfl, SqL.of (s _ _ sq), k _ F H (Ext.refl s) rfl⟩)
/-- what type(x) is of a code -/
def Ty.cls : Ty → Option String
  | .int => some "int"
  | .bool => some "bool"
  | .str => some "str"
  | .non => some "NoneType"
  | .tup _ => some "tuple"
  | .vtup _ => some "tuple"
  | .tpl => some "tuple"
  | .hl _ => some "list"
  | .list _ => some "list"
  | _ => none
theorem tyx_T {K : PySem.W.Frag} {H : Hp} {a : Addr} {ws : List V} (h : SqT K H a ws) : TyX K H (.ref a) (.type "tuple") := by
  rcases h with (h | ⟨o, h⟩) | ⟨o, its, n, h, c, _⟩
  · exact .base (.tup h)
  · exact .fTuple h
  · exact .kTuple h c
theorem rl_tyx {K : PySem.W.Frag} {mg : Str → Option Value} {t : Ty} {x : t.den} {v : V} {T : String} (h : t.cls = some T) (s : Same F H) (r : rl K mg t x [v] F) : TyX K H v (.type T) := by
  cases t with
  | int => cases h; cases (List.cons.inj (show [v] = _ from r)).1; exact .base (.int _)
  | bool => cases h; cases (List.cons.inj (show [v] = _ from r)).1; exact .base (.bl _)
  | str => cases h; cases (List.cons.inj (show [v] = _ from r)).1; exact .base (.str _)
  | non => cases h; cases (List.cons.inj (show [v] = _ from r)).1; exact .base .non
  | tup fs => cases h; obtain ⟨p, ws, e, sq, _⟩ := r; cases (List.cons.inj e).1; exact tyx_T (sqT_same s sq)
  | vtup fs => cases h; obtain ⟨p, ws, e, sq, _⟩ := r; cases (List.cons.inj e).1; exact tyx_T (sqT_same s sq)
  | tpl => cases h; obtain ⟨p, ws, e, sq⟩ := r; cases (List.cons.inj e).1; exact tyx_T (sqT_same s sq)
  | hl fs => cases h; obtain ⟨p, ws, e, sq, _⟩ := r; cases (List.cons.inj e).1; exact .base (.lst (s _ _ sq))
  | list fs => cases h; obtain ⟨p, ws, e, sq, _⟩ := r; cases (List.cons.inj e).1; exact .base (.lst (s _ _ sq))
  | _ => cases h
theorem e_isi {q q2 : Pos} {m : Mx t.den} {n : Str} {T T' : String} {res : Bool} (hg : Gl X "isinstance") (hm : X.mg "isinstance" = none) (ha : EM X W Γ a t m) (ht : t.cls = some T) (hn : PE X (.Name n q2) (tC (.ty T'))) (hk : kitB T T' = some res)
    (hs : starEach [a, .Name n q2] X.env = (false, eval a X.env) :: starEach [.Name n q2] X.env := by rfl) : EM X W Γ (.Call (.Name "isinstance" q) [a, .Name n q2] [] pos) .bool (m >>= fun _ => .ok res) :=
  pe_imp (pe_callB call_isi hg hm (by decide +kernel) (pa_cons ha (pa_cons hn pa_nil) hs) (he := hs)) fun σ H Q ⟨F, s, d, p⟩ => ⟨F, s, d, p.bind.mono fun x px v F1 H1 e1 r1 =>
    ⟨v, .ty T', .type T, .type T', res, rfl, .ty T', rl_tyx ht e1.i r1, kit_ty hk, px _ F1 H1 e1 rfl⟩⟩
/-- sep.join(list of texts) -/
def joinO (a : Str) (ys : List Str) : Option Str := if (ys.map (·.length)).sum + ys.length * a.length ≤ 16777216 then some (Txt.join a ys) else none
theorem e_join {m1 : Mx Str} {m2 : Mx (List Str)} (ha : EM X W Γ a .str m1) (hb : EM X W Γ b (.list .str) m2) (hs : starEach [b] X.env = [(false, eval b X.env)] := by rfl) (hbase : attributeBase a "join" X.env (eval a X.env) = eval a X.env := by rfl) (hline : (apos.endLine == pos.line) = true := by rfl) :
    EM X W Γ (.Call (.Attribute a "join" apos) [b] [] pos) .str (m1 >>= fun x => m2 >>= fun y => ofO (joinO x y)) := pe_imp (pe_join ha hb hs hbase hline) fun σ H Q ⟨F, s, d, p⟩ =>
  ⟨F, s, d, p.bind.mono fun x px v F1 H1 e1 r1 => by
    cases (List.cons.inj (show [v] = _ from r1)).1
    refine ⟨⟨x, rfl⟩, F1, e1.i, d.mono e1.f, post.ext e1 px.bind fun y py w F2 H2 e2 r2 => ?_⟩
    obtain ⟨p, ws, e3, sq, rr⟩ := r2
    cases (List.cons.inj e3).1
    cases all2_strs rr
    unfold joinO at py
    by_cases h : (y.map (·.length)).sum + y.length * x.length ≤ 16777216
    · rw [if_pos h] at py
      exact ⟨x, p, y, rfl, rfl, .inl (SqL.of (e2.i _ _ sq)), h, py _ F2 H2 (e1.trans e2) rfl⟩
    · rw [if_neg h] at py; exact py.elim⟩
/-! ## slices -/
theorem p_none : EP' X W Γ none (.ok none) := po_imp po_none fun σ H Q ⟨F, s, d, p⟩ => p F H (Ext.refl s)
theorem p_some {m : Mx Int} (h : EM X W Γ a .int m) : EP' X W Γ (some a) (m >>= fun x => .ok (some x)) := po_imp (po_some h) fun σ H Q ⟨F, s, d, p⟩ => ⟨F, s, d, p.bind.mono fun x px v F1 H1 e1 r1 => by
  cases (List.cons.inj (show [v] = _ from r1)).1
  exact ⟨x, rfl, px F1 H1 e1⟩⟩
theorem sl_of {lo hi : Option Expr} {m1 : Mx t1.den} {ml mh : Mx (Option Int)} {k : t1.den → Option Int → Option Int → Mx r.den} {rR : V → Option Int → Option Int → Hp → VK → Prop} (ho : SlR X rR)
    (hr : ∀ x l u v F H σ Q, Same F H → rl X.K X.mg t1 x [v] F → (post X.mg W σ (k x l u) F H fun z => ∀ u F' H', Ext F H F' H' → rtr X.K X.mg r z u H F' H' → Q u H') → rR v l u H Q)
    (ha : EM X W Γ a t1 m1) (hl : EP' X W Γ lo ml) (hh : EP' X W Γ hi mh) : ER X W Γ (.Subscript a (.Slice lo hi none p2) pos) r (m1 >>= fun x => ml >>= fun l => mh >>= fun u => k x l u) :=
  pe_imp (pe_slice ho ha hl hh) fun σ H Q ⟨F, s, d, p⟩ => ⟨F, s, d, p.bind.mono fun x px v F1 H1 e1 r1 => ⟨F1, e1.i, d.mono e1.f, post.ext e1 px.bind fun l pl F2 H2 e2 => ⟨F2, e2.i, d.mono (e1.f.trans e2.f), post.ext (e1.trans e2) pl.bind fun u pu F3 H3 e3 => by
    refine hr x l u v F3 H3 σ Q e3.i (rl_mono (e2.f.trans e3.f) t1 x _ r1) ?_
    exact post.ext ((e1.trans e2).trans e3) pu fun z pz w F4 H4 e4 r4 => pz w F4 H4 (((e1.trans e2).trans e3).trans e4) (rtr_pre ((e1.h.trans e2.h).trans e3.h) r4)⟩⟩⟩
def cut {α : Type} (xs : List α) (lo hi : Option Int) : List α := (xs.drop (HT.sIx xs.length 0 lo)).take (HT.sIx xs.length xs.length hi - HT.sIx xs.length 0 lo)
theorem cut_cutV {R : t.den → V → Prop} {xs : List t.den} {vs : List V} (h : all2 R xs vs) (lo hi : Option Int) : all2 R (cut xs lo hi) (cutV vs lo hi) := by
  unfold cut cutV
  rw [h.len]
  exact (h.drop _).take _
theorem e_slL {lo hi : Option Expr} {m1 : Mx (List t.den)} {ml mh : Mx (Option Int)} (ha : EM X W Γ a (.list t) m1) (hl : EP' X W Γ lo ml) (hh : EP' X W Γ hi mh) : EO X W Γ (.Subscript a (.Slice lo hi none p2) pos) (.l (.d t)) (m1 >>= fun x => ml >>= fun l => mh >>= fun u => .ok (cut x l u)) :=
  sl_of (t1 := .list t) (r := .o (.l (.d t))) (k := fun x l u => .ok (cut x l u)) sl_list (fun x l u v F H σ Q s r1 k => by
    obtain ⟨p, ws, e, sq, rr⟩ := r1
    cases (List.cons.inj e).1
    exact ⟨p, ws, rfl, SqL.of (s _ _ sq), fun q nq => k (.ref q) F _ (Ext.cell s nq) (rtr_new (cut_cutV (R := fun y v => rl X.K X.mg t y [v] F) rr l u) s (Same.refl _) nq)⟩) ha hl hh
/-- of the script -/
theorem e_slScr {lo hi : Option Expr} {m1 : Mx (List Int)} {ml mh : Mx (Option Int)} (ha : EM X W Γ a .scr m1) (hl : EP' X W Γ lo ml) (hh : EP' X W Γ hi mh) : EO X W Γ (.Subscript a (.Slice lo hi none p2) pos) (.l (.d .int)) (m1 >>= fun x => ml >>= fun l => mh >>= fun u => .ok (cut x l u)) :=
  sl_of (t1 := .scr) (r := .o (.l (.d .int))) (k := fun x l u => .ok (cut x l u)) sl_list (fun x l u v F H σ Q s r1 k => by
    obtain ⟨p, e, sq⟩ := r1
    cases (List.cons.inj e).1
    have rr : ∀ xs : List Int, all2 (fun (y : Int) v => rl X.K X.mg .int y [v] F) xs (xs.map V.int) := fun xs => by
      induction xs with
      | nil => exact True.intro
      | cons y ys ih => exact ⟨rfl, ih⟩
    exact ⟨p, x.map V.int, rfl, s.seq sq, fun q nq => k (.ref q) F _ (Ext.cell s nq) (rtr_new (t := .int) (cut_cutV (t := .int) (R := fun y v => rl X.K X.mg .int y [v] F) (rr x) l u) s (Same.refl _) nq)⟩) ha hl hh
def slS (x : Str) (lo hi : Option Int) : Option Str := if x.length ≤ sizeLine then some (cutS x lo hi) else none
theorem e_slS {lo hi : Option Expr} {m1 : Mx Str} {ml mh : Mx (Option Int)} (ha : EM X W Γ a .str m1) (hl : EP' X W Γ lo ml) (hh : EP' X W Γ hi mh) : EM X W Γ (.Subscript a (.Slice lo hi none p2) pos) .str (m1 >>= fun x => ml >>= fun l => mh >>= fun u => ofO (slS x l u)) :=
  sl_of (t1 := .str) (r := .d .str) (k := fun x l u => ofO (slS x l u)) sl_str (fun x l u v F H σ Q s r1 k => by
    cases (List.cons.inj (show [v] = _ from r1)).1
    unfold slS at k
    by_cases h : x.length ≤ sizeLine
    · rw [if_pos h] at k; exact ⟨x, rfl, h, k _ F H (Ext.refl s) rfl⟩
    · rw [if_neg h] at k; exact k.elim) ha hl hh
/-! ## lists and tuples joined -/
def catL {α : Type} (x y : List α) : Option (List α) := if x.length + y.length ≤ sizeLine then some (x ++ y) else none
theorem e_catL {m1 m2 : Mx (List t.den)} (ha : EM X W Γ a (.list t) m1) (hb : EM X W Γ b (.list t) m2) : EO X W Γ (.BinOp a .Add b pos) (.l (.d t)) (m1 >>= fun x => m2 >>= fun y => ofO (catL x y)) := e_bin (t1 := .list t) (t2 := .list t) (r := .o (.l (.d t))) (g := catL) op_cat (fun x y z e v w F H Q s r1 r2 k => by
  unfold catL at e
  by_cases h : x.length + y.length ≤ sizeLine
  · rw [if_pos h] at e
    cases e
    obtain ⟨p, ws, e1, sq1, rr1⟩ := r1
    cases (List.cons.inj e1).1
    obtain ⟨q, zs, e2, sq2, rr2⟩ := r2
    cases (List.cons.inj e2).1
    exact ⟨p, q, ws, zs, rfl, rfl, s _ _ sq1, s _ _ sq2, by rw [← rr1.len, ← rr2.len]; exact h, fun l nl => k (.ref l) F _ (Ext.cell s nl) (rtr_new (rr1.app rr2) s (Same.refl _) nl)⟩
  · rw [if_neg h] at e; cases e) ha hb
end
end Gm
set_option Elab.async false
set_option linter.all false
set_option maxRecDepth 100000
set_option maxHeartbeats 4000000
namespace Gm
open PySem PySem.Spec L2

/-! ## several places at once -/
def setL {α : Type} : List α → List Nat → List α → List α
  | l, i :: is, a :: as => setL (l.set i a) is as
  | l, _, _ => l
theorem setL_len {α : Type} : ∀ {is : List Nat} {l as : List α}, (setL l is as).length = l.length
  | [], _, [] => rfl
  | [], _, _ :: _ => rfl
  | _ :: _, _, [] => rfl
  | i :: is, l, a :: as => by
    show (setL (l.set i a) is as).length = _
    rw [setL_len, List.length_set]
theorem setL_app {α : Type} : ∀ {is js : List Nat} {l as bs : List α}, is.length = as.length → setL l (is ++ js) (as ++ bs) = setL (setL l is as) js bs
  | [], _, _, [], _, _ => rfl
  | _ :: is, js, l, a :: as, bs, h => setL_app (is := is) (l := l.set _ a) (Nat.succ.inj h)
  | [], _, _, _ :: _, _, h => by cases h
  | _ :: _, _, _, [], _, h => by cases h
section
variable (K : PySem.W.Frag) (mg : Str → Option Value)
/-- slots and what they get -/
def bdL : List Slot → List V → Hp → Prop
  | [], [], _ => True
  | .d t x :: ss, v :: vs, F => rl K mg t x [v] F ∧ bdL ss vs F
  | _, _, _ => False
/-- a target of data of the code t: the slots is become S x -/
def gR (t : Ty) (is : List Nat) (S : t.den → List Slot) : TG := fun v σ H Q => ∃ x F, Same F H ∧ rl K mg t x [v] F ∧ ∀ ws, is.length = ws.length → bdL K mg (S x) ws F → Q (setL σ is (ws.map some)) H
/-- several targets -/
def gRs (t : Ty) (is : List Nat) (S : t.den → List Slot) : TGs := fun vs σ H Q => ∃ x F, Same F H ∧ rl K mg t x vs F ∧ ∀ ws, is.length = ws.length → bdL K mg (S x) ws F → Q (setL σ is (ws.map some)) H
end
abbrev GT (X : Cx) (tg : Expr) (t : Ty) (is : List Nat) (S : t.den → List Slot) : Prop := PG X tg (gR X.K X.mg t is S)
abbrev GTs (X : Cx) (tg : List Expr) (t : Ty) (is : List Nat) (S : t.den → List Slot) : Prop := PGs X tg (gRs X.K X.mg t is S)
section
variable {K : PySem.W.Frag} {mg : Str → Option Value} {F F' : Hp}
theorem bdL_app : ∀ {ss tt : List Slot} {vs ws : List V}, bdL K mg ss vs F → bdL K mg tt ws F → bdL K mg (ss ++ tt) (vs ++ ws) F
  | [], _, [], _, _, h => h
  | .d _ _ :: ss, _, _ :: vs, _, ⟨a, b⟩, h => ⟨a, bdL_app b h⟩
  | [], _, _ :: _, _, z, _ => z.elim
  | .d _ _ :: _, _, [], _, z, _ => z.elim
  | .no :: _, _, _, _, z, _ => z.elim
  | .o _ _ :: _, _, _, _, z, _ => z.elim
theorem bdL_mono (h : Same F F') : ∀ {ss : List Slot} {vs : List V}, bdL K mg ss vs F → bdL K mg ss vs F'
  | [], [], _ => True.intro
  | .d t x :: ss, v :: vs, ⟨a, b⟩ => ⟨rl_mono h t x _ a, bdL_mono h b⟩
  | [], _ :: _, z => z.elim
  | .d _ _ :: _, [], z => z.elim
  | .no :: _, _, z => z.elim
  | .o _ _ :: _, _, z => z.elim
theorem bdL_len : ∀ {ss : List Slot} {vs : List V}, bdL K mg ss vs F → ss.length = vs.length
  | [], [], _ => rfl
  | .d _ _ :: ss, _ :: vs, ⟨_, b⟩ => congrArg (· + 1) (bdL_len b)
  | [], _ :: _, z => z.elim
  | .d _ _ :: _, [], z => z.elim
  | .no :: _, _, z => z.elim
  | .o _ _ :: _, _, z => z.elim
end
section
variable {X : Cx} {tg e : Expr} {es : List Expr} {pos p : Pos} {t t1 t2 : Ty}
theorem pg_imp {g g' : TG} (h : PG X tg g) (i : ∀ v σ H Q, g' v σ H Q → g v σ H Q) : PG X tg g' := ⟨fun pins s σ H v u Q I r q => h.run pins s σ H v u Q I r (i v σ H Q q)⟩
theorem pgs_imp {g g' : TGs} (h : PGs X es g) (i : ∀ v σ H Q, g' v σ H Q → g v σ H Q) : PGs X es g' := ⟨fun pins s σ H v u Q I r q => h.run pins s σ H v u Q I r (i v σ H Q q)⟩
theorem g_nm (i : Nat) (h : PG X tg (gName i)) : GT X tg t [i] (fun x => [.d t x]) := pg_imp h fun v σ H Q ⟨x, F, s, r, k⟩ => k [v] rfl ⟨r, True.intro⟩
theorem gs_one {is : List Nat} {S : t.den → List Slot} (h : GT X tg t is S) (ht : t.sing = true := by rfl) (hs : (assignEach [tg] X.env).map (·.2) = assign tg X.env :: (assignEach [] X.env).map (·.2) := by rfl) : GTs X [tg] t is S :=
  pgs_imp (pgs_cons h pgs_nil hs) fun vs σ H Q ⟨x, F, s, r, k⟩ => by
    obtain ⟨v, rfl⟩ := rl_sing ht r
    exact ⟨v, [], rfl, x, F, s, r, fun ws hl hb => ⟨rfl, k ws hl hb⟩⟩
theorem gs_cons {is js : List Nat} {S : t1.den → List Slot} {T : t2.den → List Slot} (h : GT X tg t1 is S) (hr : GTs X es t2 js T) (hs : (assignEach (tg :: es) X.env).map (·.2) = assign tg X.env :: (assignEach es X.env).map (·.2) := by rfl) :
    GTs X (tg :: es) (.pr t1 t2) (is ++ js) (fun x => S x.1 ++ T x.2) := pgs_imp (pgs_cons h hr hs) fun vs σ H Q ⟨x, F, s, r, k⟩ => by
    obtain ⟨v, r', rfl, q1, q2⟩ := r
    exact ⟨v, r', rfl, x.1, F, s, q1, fun ws hl hb => ⟨x.2, F, s, q2, fun zs hl' hb' => by
      rw [← setL_app (by rw [List.length_map]; exact hl), ← List.map_append]
      exact k (ws ++ zs) (by rw [List.length_append, List.length_append, hl, hl']) (bdL_app hb hb')⟩⟩
theorem g_tup {is : List Nat} {S : t.den → List Slot} {k n : Nat} (hc : X.calm = true) (h : GTs X es t is S) (har : t.ar = some n := by rfl) (hn : (assignEach es X.env).length = n := by rfl) (hst : (assignEach es X.env).findIdx? (·.1) = none := by rfl) : GT X (.Tuple es k pos) (.tup t) is S :=
  pg_imp (pg_tup hc h hn hst) fun v σ H Q ⟨x, F, s, r, kk⟩ => by
    obtain ⟨a, ws, e, sq, rr⟩ := r
    exact ⟨a, ws, (List.cons.inj e).1, sqT_same s sq, rl_ar har rr, x, F, s, rr, kk⟩
theorem g_hl {is : List Nat} {S : t.den → List Slot} {k n : Nat} (hc : X.calm = true) (h : GTs X es t is S) (har : t.ar = some n := by rfl) (hn : (assignEach es X.env).length = n := by rfl) (hst : (assignEach es X.env).findIdx? (·.1) = none := by rfl) : GT X (.Tuple es k pos) (.hl t) is S :=
  pg_imp (pg_lst hc h hn hst) fun v σ H Q ⟨x, F, s, r, kk⟩ => by
    obtain ⟨a, ws, e, sq, rr⟩ := r
    exact ⟨a, ws, (List.cons.inj e).1, SqL.of (s _ _ sq), rl_ar har rr, x, F, s, rr, kk⟩
end

/-! ## what is walked -/
structure Wlk (K : PySem.W.Frag) (mg : Str → Option Value) (t : Ty) (J : It) (xs : List t.den) (F : Hp) : Prop where
  go : ∀ i H, Same F H → i < xs.length → J.go i H
  stop : ∀ i H, Same F H → xs.length ≤ i → J.stop i H
  yld : ∀ i H v H3, Same F H → i < xs.length → J.yld i H v H3 → ∃ x, xs[i]? = some x ∧ ∀ G, Same F G → Same G H → ∃ G', Ext G H G' H3 ∧ rl K mg t x [v] G'
def tI (mg : Str → Option Value) (K : PySem.W.Frag) (W : WX) (Γ : Ctx) (t : Ty) (m : Mx (List t.den)) : TI := fun σ H R => ∃ F, Same F H ∧ SD K mg Γ σ F ∧
  post mg W σ m F H fun xs => ∀ F' H' J, Ext F H F' H' → Wlk K mg t J xs F' → R J H'
abbrev EI (X : Cx) (W : WX) (Γ : Ctx) (tg iter : Expr) (t : Ty) (m : Mx (List t.den)) : Prop := PI X tg iter (tI X.mg X.K W Γ t m)
theorem pi_imp {X : Cx} {tg it : Expr} {w w' : TI} (h : PI X tg it w) (i : ∀ σ H R, w' σ H R → w σ H R) : PI X tg it w' := ⟨fun pins s σ H R I q => h.run pins s σ H R I (i σ H R q)⟩
section
variable {X : Cx} {W : WX} {Γ : Ctx} {tg a b : Expr} {pos p : Pos} {t : Ty}
theorem i_list {m : Mx (List t.den)} (ha : EM X W Γ a (.list t) m) : EI X W Γ tg a t m := pi_imp (pi_list ha) fun σ H R ⟨F, s, d, q⟩ => ⟨F, s, d, q.mono fun x px v F1 H1 e1 r1 => by
  obtain ⟨l, ws, e, sq, rr⟩ := r1
  refine ⟨l, (List.cons.inj e).1, ⟨ws, SqL.of (e1.i _ _ sq)⟩, px F1 H1 _ e1 ⟨fun i H s hi => ?_, fun i H s hi => ⟨ws, SqL.of (s _ _ sq), by rw [← rr.len]; exact hi⟩, fun i H v H3 s _ y => ?_⟩⟩
  · obtain ⟨v, h1, _⟩ := rr.get (List.getElem?_eq_getElem hi)
    exact ⟨ws, v, SqL.of (s _ _ sq), h1⟩
  · obtain ⟨rfl, y⟩ := y
    obtain ⟨z, h1, h2⟩ := rr.getV (y ws (SqL.of (s _ _ sq)))
    exact ⟨z, h1, fun G g1 g2 => ⟨G, Ext.refl g2, rl_mono g1 t z _ h2⟩⟩⟩
theorem i_vtup {m : Mx (List t.den)} (ha : EM X W Γ a (.vtup t) m) : EI X W Γ tg a t m := pi_imp (pi_tup ha) fun σ H R ⟨F, s, d, q⟩ => ⟨F, s, d, q.mono fun x px v F1 H1 e1 r1 => by
  obtain ⟨l, ws, e, sq, rr⟩ := r1
  refine ⟨l, (List.cons.inj e).1, ⟨ws, sqT_same e1.i sq⟩, px F1 H1 _ e1 ⟨fun i H s hi => ?_, fun i H s hi => ⟨ws, sqT_same s sq, by rw [← rr.len]; exact hi⟩, fun i H v H3 s _ y => ?_⟩⟩
  · obtain ⟨v, h1, _⟩ := rr.get (List.getElem?_eq_getElem hi)
    exact ⟨ws, v, sqT_same s sq, h1⟩
  · obtain ⟨rfl, y⟩ := y
    obtain ⟨z, h1, h2⟩ := rr.getV (y ws (sqT_same s sq))
    exact ⟨z, h1, fun G g1 g2 => ⟨G, Ext.refl g2, rl_mono g1 t z _ h2⟩⟩⟩
def iran (lo hi : Int) : List Int := (List.range (hi - lo).toNat).map fun (k : Nat) => lo + (k : Int)
def ranO (lo hi : Int) : Option (List Int) := if -(2 ^ 62) ≤ lo ∧ lo < 2 ^ 62 ∧ -(2 ^ 62) ≤ hi ∧ hi < 2 ^ 62 then some (iran lo hi) else none
theorem wlk_ran {K : PySem.W.Frag} {mg : Str → Option Value} {lo hi : Int} (F : Hp) : Wlk K mg .int (Itr lo (hi - lo).toNat) (iran lo hi) F := by
  have hl : (iran lo hi).length = (hi - lo).toNat := by simp [iran]
  refine ⟨fun i H _ h => by rw [hl] at h; exact h, fun i H _ h => by rw [hl] at h; exact h, fun i H v H3 s hi y => ?_⟩
  obtain ⟨rfl, rfl⟩ := y
  refine ⟨lo + (i : Int), ?_, fun G g1 g2 => ⟨G, Ext.refl g2, rfl⟩⟩
  rw [hl] at hi
  simp [iran, hi]
theorem i_ran1 {m : Mx Int} (hg : Gl X "range") (hm : X.mg "range" = none) (ha : EM X W Γ a .int m) (hs : starEach [a] X.env = [(false, eval a X.env)] := by rfl) : EI X W Γ tg (.Call (.Name "range" p) [a] [] pos) .int (m >>= fun n => ofO (ranO 0 n)) :=
  pi_imp (pi_range1 hg hm (ea_one ha hs) hs) fun σ H R ⟨F, s, d, q⟩ => ⟨F, s, d, q.bind.mono fun x px vs F1 H1 e1 r1 => by
    cases (show vs = _ from r1)
    unfold ranO at px
    split at px
    · rename_i h
      refine ⟨x, rfl, h.2.2.1, h.2.2.2, ?_⟩
      have := wlk_ran (K := X.K) (mg := X.mg) (lo := 0) (hi := x) F1
      rw [Int.sub_zero] at this
      exact px F1 H1 _ e1 this
    · exact px.elim⟩
theorem i_ran2 {m1 m2 : Mx Int} (hg : Gl X "range") (hm : X.mg "range" = none) (ha : EM X W Γ a .int m1) (hb : EM X W Γ b .int m2) (hs : starEach [a, b] X.env = [(false, eval a X.env), (false, eval b X.env)] := by rfl) (hs2 : starEach [b] X.env = [(false, eval b X.env)] := by rfl) :
    EI X W Γ tg (.Call (.Name "range" p) [a, b] [] pos) .int (m1 >>= fun l => m2 >>= fun n => ofO (ranO l n)) :=
  pi_imp (pi_range2 hg hm (pa_cons ha (pa_cons hb pa_nil hs2) (by rw [hs, hs2])) hs hs2) fun σ H R ⟨F, s, d, q⟩ => ⟨F, s, d, q.bind.mono fun x px v F1 H1 e1 r1 => ⟨F1, e1.i, d.mono e1.f, post.ext e1 px.bind fun y py w F2 H2 e2 r2 => by
    cases (List.cons.inj (show [v] = _ from r1)).1
    cases (List.cons.inj (show [w] = _ from r2)).1
    unfold ranO at py
    split at py
    · rename_i h
      exact ⟨x, y, rfl, ⟨h.1, h.2.1, h.2.2.1, h.2.2.2⟩, py F2 H2 _ (e1.trans e2) (wlk_ran F2)⟩
    · exact py.elim⟩⟩
end

/-! ## comprehensions -/
def optC {β : Type} (o : Option β) (r : List β) : List β := o.toList ++ r
def compL {α β : Type} : List α → (α → Mx (Option β)) → Mx (List β)
  | [], _ => .ok []
  | x :: xs, f => match f x with
    | .ok o => compL xs f >>= fun r => .ok (optC o r)
    | _ => .no
def compO {α β : Type} (xs : List α) (f : α → Mx (Option β)) : Mx (List β) := if xs.length ≤ sizeLine then compL xs f else .no
def W0 : WX := fun _ _ _ _ => False
/-- the tests of a comprehension -/
abbrev ETs (X : Cx) (W : WX) (Γ : Ctx) (es : List Expr) (m : Mx Bool) : Prop := PTs X es (tT X.mg X.K W Γ m)
section
variable {X : Cx} {W : WX} {Γ : Ctx} {tg a b : Expr} {pos p : Pos} {t t1 : Ty}
theorem pts_imp {es : List Expr} {t t' : TT} (h : PTs X es t) (i : ∀ σ H Q, t' σ H Q → t σ H Q) : PTs X es t' := ⟨fun pins s σ H Q I q => h.run pins s σ H Q I (i σ H Q q)⟩
theorem ts_nil : ETs X W Γ [] (.ok true) := pts_imp pts_nil fun σ H Q ⟨F, s, d, q⟩ => q F H (Ext.refl s)
theorem ts_one {m : Mx Bool} (h : ET X W Γ a m) : ETs X W Γ [a] m := pts_one h
theorem pe_ex {α : Type} {e : Expr} {t : α → TE} (h : ∀ x, PE X e (t x)) : PE X e (fun σ H Q => ∃ x, t x σ H Q) := ⟨fun pins s σ H Q I ⟨x, q⟩ => (h x).run pins s σ H Q I q⟩
theorem pts_ex {α : Type} {es : List Expr} {t : α → TT} (h : ∀ x, PTs X es (t x)) : PTs X es (fun σ H Q => ∃ x, t x σ H Q) := ⟨fun pins s σ H Q I ⟨x, q⟩ => (h x).run pins s σ H Q I q⟩
def wipeC (Γ : Ctx) : List Nat → Ctx
  | [] => Γ
  | v :: vs => (wipeC Γ vs).set v .no
theorem wipe_get {σ : L2.St} {j : Nat} : ∀ {vs : List Nat}, (wipe σ vs)[j]? = if j ∈ vs ∧ j < σ.length then some none else σ[j]?
  | [] => by simp [wipe]
  | v :: vs => by
    unfold wipe
    by_cases hj : v = j
    · subst hj
      by_cases hl : v < σ.length
      · rw [List.getElem?_set_self (by rw [wipe_length]; exact hl), if_pos ⟨List.mem_cons_self .., hl⟩]
      · rw [if_neg fun z => hl z.2, List.getElem?_eq_none (by rw [List.length_set, wipe_length]; omega), List.getElem?_eq_none (by omega)]
    · rw [List.getElem?_set_ne hj, wipe_get (vs := vs)]
      by_cases hm : j ∈ vs ∧ j < σ.length
      · rw [if_pos hm, if_pos ⟨List.mem_cons_of_mem _ hm.1, hm.2⟩]
      · rw [if_neg hm, if_neg fun z => hm ⟨(List.mem_cons.mp z.1).resolve_left fun q => hj q.symm, z.2⟩]
theorem setL_get_ne {α : Type} {j : Nat} : ∀ {is : List Nat} {l as : List α}, j ∉ is → (setL l is as)[j]? = l[j]?
  | [], _, [], _ => rfl
  | [], _, _ :: _, _ => rfl
  | _ :: _, _, [], _ => rfl
  | i :: is, l, a :: as, h => by
    show (setL (l.set i a) is as)[j]? = _
    rw [setL_get_ne fun z => h (List.mem_cons_of_mem _ z), List.getElem?_set_ne fun z => h (by rw [z]; exact List.mem_cons_self ..)]
theorem wipe_setL {σ : L2.St} {vs is : List Nat} {ws : List (Option V)} (h : ∀ i ∈ is, i ∈ vs) : wipe (setL (wipe σ vs) is ws) vs = wipe σ vs := by
  apply List.ext_getElem?
  intro j
  rw [wipe_get, wipe_get, setL_len, wipe_length]
  by_cases hm : j ∈ vs ∧ j < σ.length
  · rw [if_pos hm, if_pos hm]
  · rw [if_neg hm, if_neg hm]
    by_cases hj : j ∈ vs
    · have hl : ¬ j < σ.length := fun z => hm ⟨hj, z⟩
      rw [List.getElem?_eq_none (by rw [setL_len, wipe_length]; omega), List.getElem?_eq_none (by omega)]
    · rw [setL_get_ne fun z => hj (h j z), wipe_get, if_neg hm]
theorem SD.wipe {K : PySem.W.Frag} {mg : Str → Option Value} {σ : L2.St} {F : Hp} (d : SD K mg Γ σ F) : ∀ vs : List Nat, SD K mg (wipeC Γ vs) (L2.wipe σ vs) F
  | [] => d
  | v :: vs => fun i s e => by
    have e : ((wipeC Γ vs).set v .no)[i]? = some s := e
    unfold L2.wipe
    by_cases hi : v = i
    · subst hi
      have hl : v < (wipeC Γ vs).length := by
        have := (List.getElem?_eq_some_iff.mp e).1
        rw [List.length_set] at this; exact this
      obtain ⟨ov, e1, _⟩ := d.wipe vs v _ (List.getElem?_eq_getElem hl)
      rw [List.getElem?_set_self hl] at e
      cases e
      exact ⟨none, List.getElem?_set_self (List.getElem?_eq_some_iff.mp e1).1, True.intro⟩
    · rw [List.getElem?_set_ne hi] at e
      obtain ⟨ov, e1, r⟩ := d.wipe vs i s e
      exact ⟨ov, by rw [List.getElem?_set_ne hi]; exact e1, r⟩
theorem SD.set1 {K : PySem.W.Frag} {mg : Str → Option Value} {σ : L2.St} {F : Hp} (d : SD K mg Γ σ F) {i : Nat} {s : Slot} {v : V} (r : sd K mg s (some v) F) : SD K mg (Γ.set i s) (σ.set i (some v)) F := fun j s' e => by
  by_cases hj : i = j
  · subst hj
    have hl : i < Γ.length := by
      have := (List.getElem?_eq_some_iff.mp e).1
      rw [List.length_set] at this; exact this
    obtain ⟨ov, e1, _⟩ := d i _ (List.getElem?_eq_getElem hl)
    rw [List.getElem?_set_self hl] at e
    cases e
    exact ⟨some v, List.getElem?_set_self (List.getElem?_eq_some_iff.mp e1).1, r⟩
  · rw [List.getElem?_set_ne hj] at e
    obtain ⟨ov, e1, r'⟩ := d j s' e
    exact ⟨ov, by rw [List.getElem?_set_ne hj]; exact e1, r'⟩
theorem SD.setL {K : PySem.W.Frag} {mg : Str → Option Value} {F : Hp} : ∀ {is : List Nat} {ss : List Slot} {ws : List V} {Γ : Ctx} {σ : L2.St}, SD K mg Γ σ F → bdL K mg ss ws F → SD K mg (Gm.setL Γ is ss) (Gm.setL σ is (ws.map some)) F
  | [], [], [], _, _, d, _ => d
  | [], .d _ _ :: _, _ :: _, _, _, d, _ => d
  | _ :: _, [], [], _, _, d, _ => d
  | i :: is, .d t x :: ss, w :: ws, Γ, σ, d, ⟨a, b⟩ => SD.setL (is := is) (d.set1 (i := i) (s := .d t x) (v := w) ⟨w, rfl, a⟩) b
  | _, [], _ :: _, _, _, _, z => z.elim
  | _, .d _ _ :: _, [], _, _, _, z => z.elim
  | _, .no :: _, _, _, _, _, z => z.elim
  | _, .o _ _ :: _, _, _, _, _, z => z.elim
def compF {α β : Type} (mt : α → Mx Bool) (me : α → Mx β) (x : α) : Mx (Option β) := mt x >>= fun b => if b then me x >>= fun y => .ok (some y) else .ok none
theorem compL_step {α β : Type} {xs : List α} {f : α → Mx (Option β)} {i : Nat} (hi : i < xs.length) {done : List β} (h : compL xs f = (compL (xs.drop i) f >>= fun r => .ok (done ++ r))) (hn : compL xs f ≠ .no) :
    ∃ o, f xs[i] = .ok o ∧ compL xs f = (compL (xs.drop (i + 1)) f >>= fun r => .ok ((done ++ o.toList) ++ r)) := by
  rw [List.drop_eq_getElem_cons hi] at h
  have e : compL (xs[i] :: xs.drop (i + 1)) f = match f xs[i] with
    | .ok o => compL (xs.drop (i + 1)) f >>= fun r => .ok (optC o r)
    | _ => .no := rfl
  rw [e] at h
  cases q : f xs[i] with
  | ex z => rw [q] at h; exact absurd h hn
  | no => rw [q] at h; exact absurd h hn
  | ok o =>
    rw [q] at h
    refine ⟨o, rfl, h.trans ?_⟩
    show ((compL (xs.drop (i + 1)) f >>= fun r => Mx.ok (optC o r)) >>= fun r => Mx.ok (done ++ r)) = _
    cases compL (xs.drop (i + 1)) f with
    | ex z => rfl
    | no => rfl
    | ok r =>
      cases o with
      | none => show Mx.ok (done ++ r) = Mx.ok ((done ++ []) ++ r); rw [List.append_nil]
      | some y => show Mx.ok (done ++ (y :: r)) = Mx.ok ((done ++ [y]) ++ r); rw [List.append_assoc]; rfl
/-- [elt for tg in iter if ..] -/
theorem lc_read {is : List Nat} {S : t.den → List Slot} {mi : Mx (List t.den)} {mt : t.den → Mx Bool} {me : t.den → Mx t1.den} {vs : List Nat} (his : ∀ i ∈ is, i ∈ vs) :
    ∀ σ H Q, tR X.mg X.K W Γ (.o (.l (.d t1))) (mi >>= fun xs => compO xs (compF mt me)) σ H Q →
      tLc (tI X.mg X.K W Γ t mi) (gR X.K X.mg t is S) (fun σ H Q => ∃ x, tT X.mg X.K W0 (setL (wipeC Γ vs) is (S x)) (mt x) σ H Q) (fun σ H Q => ∃ x, tR X.mg X.K W0 (setL (wipeC Γ vs) is (S x)) (.d t1) (me x) σ H Q) vs σ H Q := by
  intro σ H Q ⟨F, s, d, p⟩
  refine ⟨F, s, d, p.bind.mono fun xs pxs F1 H1 J e1 w D nD => ?_⟩
  unfold compO at pxs
  by_cases hz : xs.length ≤ sizeLine
  rotate_left
  · rw [if_neg hz] at pxs; exact pxs.elim
  rw [if_pos hz] at pxs
  have hnd : compL xs (compF mt me) ≠ .no := fun z => by rw [z] at pxs; exact pxs
  have e1D : Ext F1 H1 F1 (upd H1 D (.lst [])) := Ext.cell e1.i nD
  refine ⟨fun i m H' => i ≤ xs.length ∧ m = xs.length - i ∧ ∃ G acc done, Same F1 G ∧ Ext F H G H' ∧ H' D = some (.lst acc) ∧ G D = none ∧ all2 (fun y v => rl X.K X.mg t1 y [v] G) done acc ∧ done.length ≤ i ∧
    compL xs (compF mt me) = (compL (xs.drop i) (compF mt me) >>= fun r => .ok (done ++ r)), ⟨xs.length, Nat.zero_le _, by simp, F1, [], [], Same.refl _, e1.trans e1D, upd_same, e1.i.free nD, True.intro, Nat.le_refl _, ?_⟩, ?_⟩
  · rw [List.drop_zero]
    cases compL xs (compF mt me) <;> rfl
  · rintro i m H' ⟨hi, rfl, G, acc, done, f1, e2, hD, gD, rr, hd, hc⟩
    have f1H : Same F1 H' := f1.trans e2.i
    by_cases hlt : i < xs.length
    · refine .inr ⟨w.go i H' f1H hlt, fun H'' => ∃ m', m' < xs.length - i ∧ (i + 1 ≤ xs.length ∧ m' = xs.length - (i + 1) ∧ ∃ G acc done, Same F1 G ∧ Ext F H G H'' ∧ H'' D = some (.lst acc) ∧ G D = none ∧ all2 (fun y v => rl X.K X.mg t1 y [v] G) done acc ∧ done.length ≤ i + 1 ∧
          compL xs (compF mt me) = (compL (xs.drop (i + 1)) (compF mt me) >>= fun r => .ok (done ++ r))), fun _ z => z, fun v H3 y => ?_⟩
      obtain ⟨x, hx, kx⟩ := w.yld i H' v H3 f1H hlt y
      have hxx : xs[i] = x := by rw [List.getElem?_eq_getElem hlt] at hx; exact Option.some.inj hx
      obtain ⟨G1, x1, rx⟩ := kx G f1 e2.i
      obtain ⟨o, ho, hc'⟩ := compL_step hlt hc hnd
      rw [hxx] at ho
      refine ⟨x, G1, x1.i, rx, fun ws hl hb => ⟨wipe_setL his, x, G1, x1.i, ?_, ?_⟩⟩
      · exact SD.setL (is := is) ((d.mono (e2.f.trans x1.f)).wipe vs) hb
      · cases qt : mt x with
        | ex z => unfold compF at ho; rw [qt] at ho; cases ho
        | no => unfold compF at ho; rw [qt] at ho; cases ho
        | ok b =>
          intro G2 H4 x2
          cases b with
          | false =>
            rw [if_neg Bool.false_ne_true]
            have ho' : o = none := by unfold compF at ho; rw [qt] at ho; exact (Mx.ok.inj ho).symm
            subst ho'
            refine ⟨xs.length - (i + 1), by omega, by omega, rfl, G2, acc, done, f1.trans (x1.f.trans x2.f), e2.trans (x1.trans x2), x2.h _ _ (x1.h _ _ hD), ?_, rr.imp fun y v z => rl_mono (x1.f.trans x2.f) t1 y [v] z, by omega, by rw [hc']; simp⟩
            exact x2.n D (by rw [x1.h _ _ hD]; exact fun z => nomatch z) (x1.n D (by rw [hD]; exact fun z => nomatch z) gD)
          | true =>
            rw [if_pos rfl]
            refine ⟨x, G2, x2.i, SD.setL (is := is) ((d.mono ((e2.f.trans x1.f).trans x2.f)).wipe vs) (bdL_mono x2.f hb), ?_⟩
            cases qe : me x with
            | ex z => unfold compF at ho; rw [qt] at ho; change (me x >>= fun y => Mx.ok (some y)) = _ at ho; rw [qe] at ho; cases ho
            | no => unfold compF at ho; rw [qt] at ho; change (me x >>= fun y => Mx.ok (some y)) = _ at ho; rw [qe] at ho; cases ho
            | ok z =>
              have ho' : o = some z := by unfold compF at ho; rw [qt] at ho; change (me x >>= fun y => Mx.ok (some y)) = _ at ho; rw [qe] at ho; exact (Mx.ok.inj ho).symm
              subst ho'
              intro u G3 H5 x3 r3
              have x4 := x1.trans (x2.trans x3)
              have hD5 : H5 D = some (.lst acc) := x4.h _ _ hD
              have gD3 : G3 D = none := x4.n D (by rw [hD]; exact fun z => nomatch z) gD
              have nDH : H D = none := e1.h.free nD
              refine ⟨acc, hD5, by rw [← rr.len]; omega, xs.length - (i + 1), by omega, by omega, rfl, G3, acc ++ [u], done ++ [z], f1.trans x4.f, ⟨(e2.trans x4).f, fun b o eb => ?_, fun b o eb => ?_, (e2.trans x4).n⟩, upd_same, gD3, ?_, by rw [List.length_append, List.length_singleton]; omega, by rw [hc']; rfl⟩
              · rw [upd_ne (ne_of_none eb nDH)]; exact (e2.trans x4).h _ _ eb
              · rw [upd_ne (fun z => by rw [z, gD3] at eb; cases eb)]; exact x4.i _ _ eb
              · exact (rr.imp fun y v z => rl_mono x4.f t1 y [v] z).app ⟨r3, True.intro⟩
    · have hi' : i = xs.length := by omega
      subst hi'
      refine .inl ⟨w.stop _ H' f1H (Nat.le_refl _), ?_⟩
      rw [List.drop_length] at hc
      have hc2 : compL xs (compF mt me) = .ok (done ++ []) := hc
      rw [hc2, List.append_nil] at pxs
      exact pxs (.ref D) G H' e2 ⟨[D], ⟨D, acc, done.map fun _ => [], rfl, by rw [flat_nil], hD, all3.of2 (fun x v q => ⟨rfl, q⟩) rr⟩, by simp, fun a ha => by
        rw [List.mem_singleton.mp ha]; exact ⟨gD, e1.h.free nD⟩⟩
theorem e_lc {elt iter : Expr} {ifs : List Expr} {scope : Scope} {own : List (Str × Nat)} {is : List Nat} {S : t.den → List Slot} {mi : Mx (List t.den)} {mt : t.den → Mx Bool} {me : t.den → Mx t1.den} (hc : X.calm = true) (hN : X.N.Nodup) (ok : BlkOk X.N X.env.scope scope own)
    (hi : EI X W Γ tg iter t mi) (hg : ∀ (s : Shared) (H : Hp) (C : Addr) (cl : List (Str × Addr)) (fp : List Addr), GT (X.blk s H scope (compEnvC scope cl C X.env) fp) tg t is S)
    (ht : ∀ (x : t.den) (s : Shared) (H : Hp) (C : Addr) (cl : List (Str × Addr)) (fp : List Addr), ETs (X.blk s H scope (compEnvC scope cl C X.env) fp) W0 (setL (wipeC Γ (own.map (·.2))) is (S x)) ifs (mt x))
    (he : ∀ (x : t.den) (s : Shared) (H : Hp) (C : Addr) (cl : List (Str × Addr)) (fp : List Addr), EM (X.blk s H scope (compEnvC scope cl C X.env) fp) W0 (setL (wipeC Γ (own.map (·.2))) is (S x)) elt t1 (me x))
    (his : ∀ i ∈ is, i ∈ own.map (·.2) := by decide) (hs : ∀ x, foldedSetIterable iter X.env x = pure x := by intro _; rfl) :
    EO X W Γ (.ListComp elt [⟨tg, iter, ifs, 0⟩] scope pos) (.l (.d t1)) (mi >>= fun xs => compO xs (compF mt me)) :=
  pe_imp (pe_lc hc hN hi ok hg (fun s H C cl fp => pts_ex fun x => ht x s H C cl fp) (fun s H C cl fp => pe_ex fun x => he x s H C cl fp) hs) (lc_read his)
/-- y = [elt for ..] on one line -/
theorem p_lc {i : Nat} {y : Str} {py : Pos} {spos : Pos} {elt iter : Expr} {ifs : List Expr} {scope : Scope} {own : List (Str × Nat)} {is : List Nat} {S : t.den → List Slot} {mi : Mx (List t.den)} {mt : t.den → Mx Bool} {me : t.den → Mx t1.den} (hc : X.calm = true) (hN : X.N.Nodup)
    (hy : X.N[i]? = some y) (hyl : X.env.scope.names.lookup y = some .local) (hsw : swapsWith (.ListComp elt [⟨tg, iter, ifs, 0⟩] scope pos) (some (.Name y py)) spos.line X.env = pure true) (ok : BlkOk X.N X.env.scope scope own)
    (hi : EI X W Γ tg iter t mi) (hg : ∀ (s : Shared) (H : Hp) (C : Addr) (cl : List (Str × Addr)) (fp : List Addr), GT (X.blk s H scope (compEnvC scope cl C X.env) fp) tg t is S)
    (ht : ∀ (x : t.den) (s : Shared) (H : Hp) (C : Addr) (cl : List (Str × Addr)) (fp : List Addr), ETs (X.blk s H scope (compEnvC scope cl C X.env) fp) W0 (setL (wipeC Γ (own.map (·.2))) is (S x)) ifs (mt x))
    (he : ∀ (x : t.den) (s : Shared) (H : Hp) (C : Addr) (cl : List (Str × Addr)) (fp : List Addr), EM (X.blk s H scope (compEnvC scope cl C X.env) fp) W0 (setL (wipeC Γ (own.map (·.2))) is (S x)) elt t1 (me x))
    (his : ∀ i ∈ is, i ∈ own.map (·.2) := by decide) (hs : ∀ x, foldedSetIterable iter X.env x = pure x := by intro _; rfl) :
    PS X (.Assign [.Name y py] (.ListComp elt [⟨tg, iter, ifs, 0⟩] scope pos) spos) (tAsg (tR X.mg X.K W Γ (.o (.l (.d t1))) (mi >>= fun xs => compO xs (compF mt me))) (gName i)) := by
  have h := ps_setLc (X := X) (g := gR X.K X.mg t is S) (tt := fun σ H Q => ∃ x, tT X.mg X.K W0 (setL (wipeC Γ (own.map (·.2))) is (S x)) (mt x) σ H Q) (te := fun σ H Q => ∃ x, tR X.mg X.K W0 (setL (wipeC Γ (own.map (·.2))) is (S x)) (.d t1) (me x) σ H Q) hc hN hy hyl hsw hi ok hg (fun s H C cl fp => pts_ex fun x => ht x s H C cl fp) (fun s H C cl fp => pe_ex fun x => he x s H C cl fp) hs
  exact ⟨fun pins s σ H D I q => h.run pins s σ H D I (lc_read his _ _ _ q)⟩
end
end Gm
set_option Elab.async false
set_option linter.all false
set_option maxRecDepth 100000
set_option maxHeartbeats 4000000
namespace Gm
open PySem PySem.Spec L2

/-! ## statements -/
inductive Out where
  | nx (Γ : Ctx) | rt (r : Rt) (x : r.den) | bk (Γ : Ctx) | ct (Γ : Ctx) | rs (t : Ty) (z : t.den) (o : Ow) (x : o.ty.den)
def Out.stays : Out → Bool
  | .nx _ => true
  | _ => false
section
variable (K : PySem.W.Frag) (mg : Str → Option Value)
def postS (W : WX) (E : Ent) {β : Type} (m : Mx β) (P : β → Prop) : Prop := match m with
  | .ok b => P b
  | .ex e => ∀ cls d σ F H, Ext E.F0 E.B F H → (∀ i ∈ E.hk, σ[i]? = E.s0[i]?) → xr mg e cls d F → W cls d σ H
  | .no => False
def outP (E : Ent) (D : Ends) : Out → Prop
  | .nx Γ => ∀ σ F H, SG K mg E Γ σ F H → D.nx σ H
  | .bk Γ => ∀ σ F H, SG K mg E Γ σ F H → D.bk σ H
  | .ct Γ => ∀ σ F H, SG K mg E Γ σ F H → D.ct σ H
  | .rt r x => ∀ v F H, Ext E.F0 E.B F H → rtr K mg r x v E.B F H → D.rt v H
  | .rs t z o x => ∀ v Γ σ F H, Γ[0]? = some (.o o x) → SG K mg E Γ σ F H → rl K mg t z [v] F → D.rt v H
def tS (W : WX) (hk : List Nat) (Γ : Ctx) {β : Type} (m : Mx β) (I : β → Out) : TS := fun D σ H => ∃ E F, E.hk = hk ∧ SG K mg E Γ σ F H ∧ postS mg W E m fun b => outP K mg E D (I b)
end
abbrev BS (X : Cx) (W : WX) (hk : List Nat) (Γ : Ctx) (st : List Stmt) {β : Type} (m : Mx β) (I : β → Out) : Prop := PSs X st (tS X.K X.mg W hk Γ m I)
abbrev S1 (X : Cx) (W : WX) (hk : List Nat) (Γ : Ctx) (st : Stmt) {β : Type} (m : Mx β) (I : β → Out) : Prop := PS X st (tS X.K X.mg W hk Γ m I)
theorem pss_imp {X : Cx} {st : List Stmt} {t t' : TS} (h : PSs X st t) (i : ∀ D σ H, t' D σ H → t D σ H) : PSs X st t' := ⟨fun pins s σ H D I q => h.run pins s σ H D I (i D σ H q)⟩
theorem ps_imp {X : Cx} {st : Stmt} {t t' : TS} (h : PS X st t) (i : ∀ D σ H, t' D σ H → t D σ H) : PS X st t' := ⟨fun pins s σ H D I q => h.run pins s σ H D I (i D σ H q)⟩
section
variable {mg : Str → Option Value} {K : PySem.W.Frag} {W : WX} {E : Ent} {α β : Type} {Γ Γ' : Ctx} {σ : L2.St} {F H F' H' : Hp}
theorem postS.bind {m : Mx α} {k : α → Mx β} {P : β → Prop} (h : postS mg W E (m >>= k) P) : postS mg W E m fun x => postS mg W E (k x) P := by
  cases m with
  | ok a => exact h
  | ex e => exact h
  | no => exact h
theorem postS.mono {m : Mx α} {P P' : α → Prop} (h : postS mg W E m P) (i : ∀ x, P x → P' x) : postS mg W E m P' := by
  cases m with
  | ok a => exact i a h
  | ex e => exact h
  | no => exact h
theorem xr_back {e : Exn} {cls : Value} {d : Option Addr} {F F' : Hp} (h : ∀ b fs, F' b = some (.xd fs) → F b = some (.xd fs)) (r : xr mg e cls d F') : xr mg e cls d F := by
  obtain ⟨C, h1, h2, h3⟩ := r
  refine ⟨C, h1, h2, ?_⟩
  split at h3
  · exact h3
  · obtain ⟨dx, e1, e2⟩ := h3; exact ⟨dx, e1, h _ _ e2⟩
  · obtain ⟨dx, e1, e2⟩ := h3; exact ⟨dx, e1, h _ _ e2⟩
/-- an expression's part -/
theorem postS.post {m : Mx α} {P P' : α → Prop} (g : SG K mg E Γ σ F H) {G : Hp} (back : ∀ F' H', Ext G H F' H' → ∃ F2, Ext F H F2 H' ∧ ∀ b fs, F' b = some (.xd fs) → F2 b = some (.xd fs)) (h : postS mg W E m P) (i : ∀ x, P x → P' x) : post mg W σ m G H P' := by
  cases m with
  | ok a => exact i a h
  | ex e =>
    intro cls d F' H' x r
    obtain ⟨F2, x2, bx⟩ := back F' H' x
    exact h cls d σ F2 H' (g.e0.trans x2) g.kp (xr_back bx r)
  | no => exact h
/-- how an expression may look at the state -/
inductive Vw (Γ : Ctx) (r : Rt) : Ctx → Prop
  | all (h : r.flat = true) : Vw Γ r Γ
  | hid : Vw Γ r (hide Γ)
theorem SG.look {Γv : Ctx} {r : Rt} (g : SG K mg E Γ σ F H) (v : Vw Γ r Γv) : ∃ G, Same G H ∧ SD K mg Γv σ G ∧ ∀ F' H', Ext G H F' H' → ∃ F2, Ext F H F2 H' ∧ (∀ (x : r.den) (v : V), rtr K mg r x v H F' H' → rtr K mg r x v H F2 H') ∧ ∀ b fs, F' b = some (.xd fs) → F2 b = some (.xd fs) := by
  cases v with
  | all h =>
    obtain ⟨G, g1, _, g3, g4⟩ := g.eval h
    exact ⟨G, g1, g3, fun F' H' x => let ⟨F2, a, _, c, b⟩ := g4 F' H' x; ⟨F2, a, c, b⟩⟩
  | hid => exact ⟨F, g.e0.i, g.sd_hide, fun F' H' x => ⟨F', x, fun _ _ q => q, fun _ _ q => q⟩⟩
/-- less known -/
inductive Wk : Ctx → Ctx → Prop
  | nil : Wk [] []
  | same {a b : Ctx} {s : Slot} (h : Wk a b) : Wk (s :: a) (s :: b)
  | no {a b : Ctx} {s : Slot} (h : Wk a b) : Wk (.no :: a) (s :: b)
theorem Wk.refl : ∀ {Γ : Ctx}, Wk Γ Γ
  | [] => .nil
  | _ :: _ => .same Wk.refl
theorem Wk.get {a b : Ctx} (h : Wk a b) : ∀ {i : Nat} {s : Slot}, a[i]? = some s → ∃ u, b[i]? = some u ∧ (s = u ∨ s = .no) := by
  induction h with
  | nil => intro i s e; simp at e
  | @same a b s' h ih =>
    intro i s e
    cases i with
    | zero => exact ⟨s', rfl, .inl (by simpa using e.symm)⟩
    | succ i => obtain ⟨u, h1, h2⟩ := ih (i := i) (s := s) (by simpa using e); exact ⟨u, by simpa using h1, h2⟩
  | @no a b s' h ih =>
    intro i s e
    cases i with
    | zero => exact ⟨s', rfl, .inr (by simpa using e.symm)⟩
    | succ i => obtain ⟨u, h1, h2⟩ := ih (i := i) (s := s) (by simpa using e); exact ⟨u, by simpa using h1, h2⟩
theorem Wk.len {a b : Ctx} (h : Wk a b) : a.length = b.length := by
  induction h with
  | nil => rfl
  | same h ih => exact congrArg (· + 1) ih
  | no h ih => exact congrArg (· + 1) ih
theorem SG.weak (g : SG K mg E Γ σ F H) (w : Wk Γ' Γ) : SG K mg E Γ' σ F H := by
  obtain ⟨e0, kp, fps, q⟩ := g
  refine ⟨e0, kp, fun i => match Γ'[i]? with | some Slot.no => [] | none => [] | _ => fps i, fun i s e => ?_, fun i e => ?_, fun i => ?_, fun i j hij a ha => ?_, fun i a ha => ?_⟩
  · obtain ⟨u, h1, h2⟩ := w.get e
    obtain ⟨ov, e1, r⟩ := q.at_ i u h1
    refine ⟨ov, e1, ?_⟩
    rw [e]
    rcases h2 with rfl | rfl
    · cases s with
      | no => exact rfl
      | d t x => exact r
      | o o x => exact r
    · exact rfl
  · rw [e]
  · cases e : Γ'[i]? with
    | none => exact List.nodup_nil
    | some s => cases s with
      | no => exact List.nodup_nil
      | d t x => exact q.nd i
      | o o x => exact q.nd i
  · have sub : ∀ i, ∀ a ∈ (match Γ'[i]? with | some Slot.no => [] | none => [] | _ => fps i : List Addr), a ∈ fps i := fun i a ha => by
      cases e : Γ'[i]? with
      | none => rw [e] at ha; cases ha
      | some s => rw [e] at ha; cases s with
        | no => cases ha
        | d t x => exact ha
        | o o x => exact ha
    exact fun hb => q.sep i j hij a (sub i a ha) (sub j a hb)
  · have : a ∈ fps i := by
      cases e : Γ'[i]? with
      | none => rw [e] at ha; cases ha
      | some s => rw [e] at ha; cases s with
        | no => cases ha
        | d t x => exact ha
        | o o x => exact ha
    exact q.new i a this
end
section
variable {X : Cx} {W : WX} {hk : List Nat} {Γ Γ' Γv : Ctx} {st : Stmt} {rest A B' : List Stmt} {e c tg : Expr} {pos p : Pos} {β γ : Type} {r : Rt} {t : Ty} {I : β → Out}

/-! ## blocks -/
theorem bs_nil {b : β} (hI : I b = .nx Γ') (w : Wk Γ' Γ) : BS X W hk Γ [] (.ok b) I := pss_imp pss_nil fun D σ H ⟨E, F, h, g, q⟩ => by
  have q : outP X.K X.mg E D (I b) := q
  rw [hI] at q
  exact q σ F H (g.weak w)
theorem bs_one {m : Mx β} (h : S1 X W hk Γ st m I) : BS X W hk Γ [st] m I := pss_one h
/-- a statement that goes on, the rest -/
theorem bs_seq {α : Type} {m : Mx α} {G : α → Ctx} {k : α → Mx β} (h : S1 X W hk Γ st m fun s => .nx (G s)) (hr : ∀ s, BS X W hk (G s) rest (k s) I) : BS X W hk Γ (st :: rest) (m >>= k) I :=
  have hr' : PSs X rest (fun D σ H => ∃ s, tS X.K X.mg W hk (G s) (k s) I D σ H) := ⟨fun pins s σ H D J ⟨x, q⟩ => (hr x).run pins s σ H D J q⟩
  pss_imp (pss_cons h hr') fun D σ H ⟨E, F, h, g, q⟩ => ⟨E, F, h, g, q.bind.mono fun s qs σ' F' H' g' => ⟨s, E, F', h, g', qs⟩⟩
/-- a statement that may leave -/
inductive Fw (S R : Type) where
  | go (s : S) | out (r : R)
def fwk {S R β : Type} (k : S → Mx β) (j : R → β) : Fw S R → Mx β
  | .go s => k s
  | .out r => .ok (j r)
def fwo {S R : Type} (G : S → Ctx) (O : R → Out) : Fw S R → Out
  | .go s => .nx (G s)
  | .out r => O r
theorem bs_seqF {S R : Type} {m : Mx (Fw S R)} {G : S → Ctx} {O : R → Out} {k : S → Mx β} {j : R → β} (h : S1 X W hk Γ st m (fwo G O)) (hr : ∀ s, BS X W hk (G s) rest (k s) I) (hj : ∀ x, I (j x) = O x := by intro _; rfl) (ho : ∀ x, (O x).stays = false := by intro _; rfl) :
    BS X W hk Γ (st :: rest) (m >>= fwk k j) I :=
  have hr' : PSs X rest (fun D σ H => ∃ s, tS X.K X.mg W hk (G s) (k s) I D σ H) := ⟨fun pins s σ H D J ⟨x, q⟩ => (hr x).run pins s σ H D J q⟩
  pss_imp (pss_cons h hr') fun D σ H ⟨E, F, h, g, q⟩ => ⟨E, F, h, g, q.bind.mono fun s qs => by
    cases s with
    | go s => exact fun σ' F' H' g' => ⟨s, E, F', h, g', qs⟩
    | out x =>
      have q2 : outP X.K X.mg E D (I (j x)) := qs
      rw [hj] at q2
      have hx := ho x
      show outP X.K X.mg E _ (O x)
      cases e : O x with
      | nx Γ => rw [e] at hx; cases hx
      | rt r y => rw [e] at q2; exact q2
      | bk Γ => rw [e] at q2; exact q2
      | rs t y o2 x2 => rw [e] at q2; exact q2
      | ct Γ => rw [e] at q2; exact q2⟩
theorem bs_map {m : Mx γ} {I' : γ → Out} {f : γ → β} (h : BS X W hk Γ A m I') (hI : ∀ b, I (f b) = I' b := by intro _; rfl) : BS X W hk Γ A (m >>= fun b => .ok (f b)) I := pss_imp h fun D σ H ⟨E, F, h, g, q⟩ =>
  ⟨E, F, h, g, q.bind.mono fun b qb => by have qb : outP X.K X.mg E D (I (f b)) := qb; rw [hI] at qb; exact qb⟩
theorem bs_cast {m m' : Mx β} (h : BS X W hk Γ A m I) (e : m = m') : BS X W hk Γ A m' I := e ▸ h
theorem bs_weak {m : Mx β} (h : BS X W hk Γ' A m I) (w : Wk Γ' Γ) : BS X W hk Γ A m I := pss_imp h fun D σ H ⟨E, F, h, g, q⟩ => ⟨E, F, h, g.weak w, q⟩
theorem bs_freeze (i : Nat) {o : Ow} {x : o.ty.den} {m : Mx β} (hi : Γ[i]? = some (.o o x)) (h : BS X W hk (Γ.set i (.d o.ty x)) A m I) : BS X W hk Γ A m I := pss_imp h fun D σ H ⟨E, F, h, g, q⟩ => let ⟨F', g'⟩ := g.freeze hi; ⟨E, F', h, g', q⟩

/-! ## assignments -/
theorem bs_set {i : Nat} {me : Mx r.den} {k : r.den → Mx β} (hs : PS X st (tAsg (tR X.mg X.K W Γv r me) (gName i))) (vw : Vw Γ r Γv) (hr : ∀ x, BS X W hk (Γ.set i (slotOf r x)) rest (k x) I) (hi : i < Γ.length := by decide) (hn : i ∉ hk := by decide) : BS X W hk Γ (st :: rest) (me >>= k) I :=
  have hr' : PSs X rest (fun D σ H => ∃ s, tS X.K X.mg W hk (Γ.set i (slotOf r s)) (k s) I D σ H) := ⟨fun pins s σ H D J ⟨x, q⟩ => (hr x).run pins s σ H D J q⟩
  pss_imp (pss_cons hs hr') fun D σ H ⟨E, F, h, g, q⟩ => by
    obtain ⟨G, g1, g2, g3⟩ := g.look vw
    refine ⟨G, g1, g2, q.bind.post g (fun F' H' x => let ⟨F2, a, _, b⟩ := g3 F' H' x; ⟨F2, a, b⟩) fun x px v F' H' ex rr => ?_⟩
    obtain ⟨F2, x2, back, _⟩ := g3 F' H' ex
    exact ⟨x, E, F2, h, g.set x2 (back x v rr) hi (by rw [h]; exact hn), px⟩
/-- several slots at once -/
theorem SG.setL {K : PySem.W.Frag} {mg : Str → Option Value} {E : Ent} {F H : Hp} : ∀ {is : List Nat} {ss : List Slot} {ws : List V} {Γ : Ctx} {σ : L2.St}, SG K mg E Γ σ F H → bdL K mg ss ws F → (∀ i ∈ is, i < Γ.length ∧ i ∉ E.hk) → SG K mg E (Gm.setL Γ is ss) (Gm.setL σ is (ws.map some)) F H
  | [], [], [], _, _, g, _, _ => g
  | [], .d _ _ :: _, _ :: _, _, _, g, _, _ => g
  | _ :: _, [], [], _, _, g, _, _ => g
  | i :: is, .d t x :: ss, w :: ws, Γ, σ, g, ⟨a, b⟩, hi => SG.setL (is := is) (g.set (r := .d t) (x := x) (v := w) (Ext.refl g.e0.i) a (hi i (List.mem_cons_self ..)).1 (hi i (List.mem_cons_self ..)).2) b fun j hj => by
      rw [List.length_set]; exact hi j (List.mem_cons_of_mem _ hj)
  | _, [], _ :: _, _, _, _, z, _ => z.elim
  | _, .d _ _ :: _, [], _, _, _, z, _ => z.elim
  | _, .no :: _, _, _, _, _, z, _ => z.elim
  | _, .o _ _ :: _, _, _, _, _, z, _ => z.elim
/-- target = e -/
theorem bs_asg {is : List Nat} {S : t.den → List Slot} {me : Mx t.den} {k : t.den → Mx β} (he : EM X W Γv e t me) (vw : Vw Γ (.d t) Γv) (hg : GT X tg t is S) (hr : ∀ x, BS X W hk (setL Γ is (S x)) rest (k x) I)
    (hi : ∀ i ∈ is, i < Γ.length ∧ i ∉ hk := by decide) (hs : swapsWithSole [tg] e pos.line X.env = pure false := by rfl) (hw : swappedStores [tg] e X.env = pure none := by rfl) (h1 : (assignEach [tg] X.env).map (·.2) = [assign tg X.env] := by rfl) : BS X W hk Γ (.Assign [tg] e pos :: rest) (me >>= k) I :=
  have hr' : PSs X rest (fun D σ H => ∃ s, tS X.K X.mg W hk (setL Γ is (S s)) (k s) I D σ H) := ⟨fun pins s σ H D J ⟨x, q⟩ => (hr x).run pins s σ H D J q⟩
  pss_imp (pss_cons (ps_asg he hg hs hw h1) hr') fun D σ H ⟨E, F, h, g, q⟩ => by
    obtain ⟨G, g1, g2, g3⟩ := g.look vw
    refine ⟨G, g1, g2, q.bind.post g (fun F' H' x => let ⟨F2, a, _, b⟩ := g3 F' H' x; ⟨F2, a, b⟩) fun x px v F' H' ex rr => ?_⟩
    obtain ⟨F2, x2, back, _⟩ := g3 F' H' ex
    refine ⟨x, F2, x2.i, back x v rr, fun ws hl hb => ⟨x, E, F2, h, ?_, px⟩⟩
    exact SG.setL (is := is) (g.grow x2) hb fun i hii => by rw [h]; exact hi i hii
/-- an expression whose value is dropped -/
theorem bs_expr {me : Mx r.den} {m : Mx β} (he : ER X W Γv e r me) (vw : Vw Γ r Γv) (hr : BS X W hk Γ rest m I) (hs : swapsWith e none pos.line X.env = pure false := by rfl) : BS X W hk Γ (.Expr e pos :: rest) (me >>= fun _ => m) I :=
  pss_imp (pss_cons (ps_expr he hs) hr) fun D σ H ⟨E, F, h, g, q⟩ => by
    obtain ⟨G, g1, g2, g3⟩ := g.look vw
    refine ⟨G, g1, g2, q.bind.post g (fun F' H' x => let ⟨F2, a, _, b⟩ := g3 F' H' x; ⟨F2, a, b⟩) fun x px v F' H' ex rr => ?_⟩
    obtain ⟨F2, x2, back, _⟩ := g3 F' H' ex
    exact ⟨E, F2, h, g.grow x2, px⟩
theorem bs_pass {m : Mx β} (hr : BS X W hk Γ rest m I) : BS X W hk Γ (.Pass pos :: rest) m I := pss_imp (pss_cons ps_pass hr) fun D σ H q => q

/-! ## return -/
theorem bs_ret {me : Mx r.den} {b : r.den → β} (he : ER X W Γv e r me) (vw : Vw Γ r Γv) (hI : ∀ x, I (b x) = .rt r x := by intro _; rfl) : BS X W hk Γ (.Return (some e) pos :: rest) (me >>= fun x => .ok (b x)) I :=
  pss_imp (pss_cons (ps_ret he) pss_never) fun D σ H ⟨E, F, h, g, q⟩ => by
    obtain ⟨G, g1, g2, g3⟩ := g.look vw
    refine ⟨G, g1, g2, q.bind.post g (fun F' H' x => let ⟨F2, a, _, b⟩ := g3 F' H' x; ⟨F2, a, b⟩) fun x px v F' H' ex rr => ?_⟩
    obtain ⟨F2, x2, back, _⟩ := g3 F' H' ex
    have px : outP X.K X.mg E D (I (b x)) := px
    rw [hI] at px
    exact px v F2 H' (g.e0.trans x2) (rtr_pre g.e0.h (back x v rr))
/-- an owned name is returned -/
theorem bs_retO (i : Nat) {o : Ow} {x : o.ty.den} {n : Str} {b : β} (hi : Γ[i]? = some (.o o x)) (hp : PE X (.Name n p) (tVar i)) (hI : I b = .rt (.o o) x := by rfl) : BS X W hk Γ (.Return (some (.Name n p)) pos :: rest) (.ok b) I :=
  pss_imp (pss_cons (ps_ret hp) pss_never) fun D σ H ⟨E, F, h, g, q⟩ => by
    have q : outP X.K X.mg E D (I b) := q
    rw [hI] at q
    obtain ⟨fps, w⟩ := g.ow
    obtain ⟨ov, e1, v, rfl, r⟩ := w.at_ i _ hi
    exact ⟨v, e1, q v F H g.e0 ⟨fps i, r, w.nd i, w.new i⟩⟩
theorem bs_retN {b : β} (hI : I b = .rt (.d .non) () := by rfl) : BS X W hk Γ (.Return none pos :: rest) (.ok b) I := pss_imp (pss_cons ps_retN pss_never) fun D σ H ⟨E, F, h, g, q⟩ => by
  have q : outP X.K X.mg E D (I b) := q
  rw [hI] at q
  exact q .non F H g.e0 rfl

/-! ## if -/
theorem s1_if {mc : Mx Bool} {mA mB : Mx β} (hc : ET X W Γ c mc) (hA : BS X W hk Γ A mA I) (hB : BS X W hk Γ B' mB I) : S1 X W hk Γ (.If c A B' pos) (mc >>= fun x => if x then mA else mB) I :=
  ps_imp (ps_if hc hA hB) fun D σ H ⟨E, F, h, g, q⟩ => by
    obtain ⟨G, g1, g2, g3⟩ := g.look (r := .d .bool) (.all rfl)
    refine ⟨G, g1, g2, q.bind.post g (fun F' H' x => let ⟨F2, a, _, b⟩ := g3 F' H' x; ⟨F2, a, b⟩) fun x px F' H' ex => ?_⟩
    obtain ⟨F2, x2, back, _⟩ := g3 F' H' ex
    cases x with
    | true => exact ⟨E, F2, h, g.grow x2, px⟩
    | false => exact ⟨E, F2, h, g.grow x2, px⟩
/-- if c: A (which leaves); the rest -/
theorem bs_ifR {mc : Mx Bool} {mA m : Mx β} (hc : ET X W Γ c mc) (hA : BS X W hk Γ A mA I) (hr : BS X W hk Γ rest m I) (hI : ∀ b, (I b).stays = false := by intro _; rfl) : BS X W hk Γ (.If c A [] pos :: rest) (mc >>= fun x => if x then mA else m) I :=
  pss_imp (pss_cons (ps_if hc hA pss_nil) hr) fun D σ H ⟨E, F, h, g, q⟩ => by
    obtain ⟨G, g1, g2, g3⟩ := g.look (r := .d .bool) (.all rfl)
    refine ⟨G, g1, g2, q.bind.post g (fun F' H' x => let ⟨F2, a, _, b⟩ := g3 F' H' x; ⟨F2, a, b⟩) fun x px F' H' ex => ?_⟩
    obtain ⟨F2, x2, back, _⟩ := g3 F' H' ex
    cases x with
    | true =>
      refine ⟨E, F2, h, g.grow x2, postS.mono px fun b qb => ?_⟩
      have hx := hI b
      cases e : I b with
      | nx Γ => rw [e] at hx; cases hx
      | rt r y => rw [e] at qb; exact qb
      | bk Γ => rw [e] at qb; exact qb
      | rs t y o2 x2 => rw [e] at qb; exact qb
      | ct Γ => rw [e] at qb; exact qb
    | false => exact ⟨E, F2, h, g.grow x2, px⟩
end
end Gm
set_option Elab.async false
set_option linter.all false
set_option maxRecDepth 100000
set_option maxHeartbeats 4000000
namespace Gm
open PySem PySem.Spec L2
open PyProof.Rows (envOfC)

/-! ## loops -/
def loopS {S α : Type} : List α → S → (S → α → Mx S) → Mx S
  | [], s, _ => .ok s
  | x :: r, s, f => f s x >>= fun s' => loopS r s' f
inductive Lp (S R : Type) where
  | go (s : S) | brk (s : S) | out (r : R)
def loopF {S R α : Type} : List α → S → (S → α → Mx (Lp S R)) → Mx (Fw S R)
  | [], s, _ => .ok (.go s)
  | x :: r, s, f => f s x >>= fun o => match o with
    | .go s' => loopF r s' f
    | .brk s' => .ok (.go s')
    | .out q => .ok (.out q)
def whileS {S : Type} : Nat → S → (S → Mx Bool) → (S → Mx S) → Mx S
  | 0, _, _, _ => .no
  | n + 1, s, c, f => c s >>= fun b => if b then f s >>= fun s' => whileS n s' c f else .ok s
def whileF {S R : Type} : Nat → S → (S → Mx Bool) → (S → Mx (Lp S R)) → Mx (Fw S R)
  | 0, _, _, _ => .no
  | n + 1, s, c, f => c s >>= fun b => if b then f s >>= fun o => (match o with
    | .go s' => whileF n s' c f
    | .brk s' => .ok (.go s')
    | .out q => .ok (.out q)) else .ok (.go s)
def lpo {S R : Type} (G : S → Ctx) (O : R → Out) : Lp S R → Out
  | .go s => .nx (G s)
  | .brk s => .bk (G s)
  | .out r => O r
def Out.isRt : Out → Bool
  | .rt _ _ => true
  | .rs _ _ _ _ => true
  | _ => false
section
variable {mg : Str → Option Value} {K : PySem.W.Frag} {W : WX} {E : Ent} {α β : Type} {Γ Γ' : Ctx} {σ : L2.St} {F H F' H' F2 H2 : Hp}
/-- the entry with more frozen -/
abbrev Ent.up (E : Ent) (F2 : Hp) : Ent := { E with F0 := F2 }
theorem ext_up (x : Ext E.F0 E.B F2 H2) (y : Ext F2 E.B F H) : Ext E.F0 E.B F H := ⟨x.f.trans y.f, y.h, y.i, fun p hp hf => y.n p hp (x.n p hp hf)⟩
theorem SG.down (g : SG K mg (E.up F2) Γ σ F H) (x : Ext E.F0 E.B F2 H2) : SG K mg E Γ σ F H := ⟨ext_up x g.e0, g.kp, g.ow⟩
theorem SG.up (g : SG K mg E Γ σ F H) : SG K mg (E.up F) Γ σ F H := ⟨⟨Same.refl _, g.e0.h, g.e0.i, fun p _ q => q⟩, g.kp, g.ow⟩
theorem postS.up {m : Mx α} {P P' : α → Prop} (x : Ext E.F0 E.B F2 H2) (h : postS mg W E m P) (i : ∀ a, P a → P' a) : postS mg W (E.up F2) m P' := by
  cases m with
  | ok a => exact i a h
  | ex e => exact fun cls d σ F H y k r => h cls d σ F H (ext_up x y) k r
  | no => exact h
end
def tIS (mg : Str → Option Value) (K : PySem.W.Frag) (W : WX) (hk : List Nat) (Γ : Ctx) (t : Ty) (m : Mx (List t.den)) : TI := fun σ H R => ∃ E F, E.hk = hk ∧ SG K mg E Γ σ F H ∧
  postS mg W E m fun xs => ∀ F' H' J, Ext F H F' H' → Wlk K mg t J xs F' → R J H'
abbrev IS (X : Cx) (W : WX) (hk : List Nat) (Γ : Ctx) (tg iter : Expr) (t : Ty) (m : Mx (List t.den)) : Prop := PI X tg iter (tIS X.mg X.K W hk Γ t m)
/-- what is walked, whatever is frozen -/
def tIR (mg : Str → Option Value) (K : PySem.W.Frag) (W : WX) (Γ : Ctx) (t : Ty) (m : Mx (List t.den)) : TI := fun σ H R => ∃ F, Same F H ∧ SD K mg Γ σ F ∧
  post mg W σ m F H fun xs => ∀ F' H' J, Ext F H F' H' → (∀ G, Wlk K mg t J xs G) → R J H'
abbrev EIR (X : Cx) (W : WX) (Γ : Ctx) (tg iter : Expr) (t : Ty) (m : Mx (List t.den)) : Prop := PI X tg iter (tIR X.mg X.K W Γ t m)
section
variable {X : Cx} {W : WX} {hk : List Nat} {Γ Γ' Γv : Ctx} {st : Stmt} {rest body : List Stmt} {e c tg iter a b : Expr} {pos p : Pos} {β γ : Type} {r : Rt} {t : Ty} {I : β → Out}
theorem is_hid {m : Mx (List t.den)} (h : EI X W (hide Γ) tg iter t m) : IS X W hk Γ tg iter t m := pi_imp h fun σ H R ⟨E, F, hh, g, q⟩ => ⟨F, g.e0.i, g.sd_hide, q.post g (fun F' H' x => ⟨F', x, fun _ _ q => q⟩) fun xs k => k⟩
theorem is_ran {m : Mx (List t.den)} (h : EIR X W Γ tg iter t m) : IS X W hk Γ tg iter t m := pi_imp h fun σ H R ⟨E, F, hh, g, q⟩ => by
  obtain ⟨G, g1, g2, g3⟩ := g.look (r := .d .bool) (.all rfl)
  refine ⟨G, g1, g2, q.post g (fun F' H' x => let ⟨F2, a, _, b⟩ := g3 F' H' x; ⟨F2, a, b⟩) fun xs k F' H' J x w => ?_⟩
  obtain ⟨F2, x2, _⟩ := g3 F' H' x
  exact k F2 H' J x2 (w F2)
theorem r_ran1 {m : Mx Int} (hg : Gl X "range") (hm : X.mg "range" = none) (ha : EM X W Γ a .int m) (hs : starEach [a] X.env = [(false, eval a X.env)] := by rfl) : EIR X W Γ tg (.Call (.Name "range" p) [a] [] pos) .int (m >>= fun n => ofO (ranO 0 n)) :=
  pi_imp (pi_range1 hg hm (ea_one ha hs) hs) fun σ H R ⟨F, s, d, q⟩ => ⟨F, s, d, q.bind.mono fun x px vs F1 H1 e1 r1 => by
    cases (show vs = _ from r1)
    unfold ranO at px
    split at px
    · rename_i h
      refine ⟨x, rfl, h.2.2.1, h.2.2.2, ?_⟩
      refine px F1 H1 _ e1 fun G => ?_
      have := wlk_ran (K := X.K) (mg := X.mg) (lo := 0) (hi := x) G
      rw [Int.sub_zero] at this
      exact this
    · exact px.elim⟩
theorem r_ran2 {m1 m2 : Mx Int} (hg : Gl X "range") (hm : X.mg "range" = none) (ha : EM X W Γ a .int m1) (hb : EM X W Γ b .int m2) (hs : starEach [a, b] X.env = [(false, eval a X.env), (false, eval b X.env)] := by rfl) (hs2 : starEach [b] X.env = [(false, eval b X.env)] := by rfl) :
    EIR X W Γ tg (.Call (.Name "range" p) [a, b] [] pos) .int (m1 >>= fun l => m2 >>= fun n => ofO (ranO l n)) :=
  pi_imp (pi_range2 hg hm (pa_cons ha (pa_cons hb pa_nil hs2) (by rw [hs, hs2])) hs hs2) fun σ H R ⟨F, s, d, q⟩ => ⟨F, s, d, q.bind.mono fun x px v F1 H1 e1 r1 => ⟨F1, e1.i, d.mono e1.f, post.ext e1 px.bind fun y py w F2 H2 e2 r2 => by
    cases (List.cons.inj (show [v] = _ from r1)).1
    cases (List.cons.inj (show [w] = _ from r2)).1
    unfold ranO at py
    split at py
    · rename_i h
      exact ⟨x, y, rfl, ⟨h.1, h.2.1, h.2.2.1, h.2.2.2⟩, py F2 H2 _ (e1.trans e2) fun G => wlk_ran G⟩
    · exact py.elim⟩⟩
/-- for, a turn of which always goes on -/
theorem s1_for {S : Type} {G : S → Ctx} {f : S → t.den → Mx S} {s0 : S} {mi : Mx (List t.den)} {is : List Nat} {T : t.den → List Slot} (hp : PassesOwn (model X.prog X.w) X.A X.env X.xe) (hc : X.calm = true) (hi : IS X W hk Γ tg iter t mi) (hg : GT X tg t is T)
    (hb : ∀ s x, BS X W hk (setL (G s) is (T x)) body (f s x) (fun s' => .nx (G s'))) (h0 : Wk (G s0) Γ) (hix : ∀ s, ∀ i ∈ is, i < (G s).length ∧ i ∉ hk := by intro _; decide) (hs : ∀ x, foldedSetIterable iter X.env x = pure x := by intro _; rfl) :
    S1 X W hk Γ (.For tg iter body [] pos) (mi >>= fun xs => loopS xs s0 f) (fun s => .nx (G s)) :=
  have hb' : PSs X body (fun D σ H => ∃ s x, tS X.K X.mg W hk (setL (G s) is (T x)) (f s x) (fun s' => .nx (G s')) D σ H) := ⟨fun pins σ1 σ H D J ⟨s, x, q⟩ => (hb s x).run pins σ1 σ H D J q⟩
  ps_imp (ps_for hp hc hi hg hb' hs) fun D σ H ⟨E, F, hh, g, q⟩ => by
    refine ⟨E, F, hh, g, q.bind.mono fun xs pxs F2 H2 J ex w => ?_⟩
    have xe : Ext E.F0 E.B F2 H2 := g.e0.trans ex
    refine ⟨fun i m σ' H' => i ≤ xs.length ∧ m = xs.length - i ∧ ∃ s F', SG X.K X.mg (E.up F2) (G s) σ' F' H' ∧ postS X.mg W E (loopS (xs.drop i) s f) (fun s => outP X.K X.mg E D (.nx (G s))), ⟨xs.length, Nat.zero_le _, by simp, s0, F2, ((g.grow ex).weak h0).up, pxs⟩, ?_⟩
    rintro i m σ' H' ⟨hil, rfl, s, F', g', q'⟩
    by_cases hlt : i < xs.length
    · refine .inr ⟨w.go i H' (g'.e0.f.trans g'.e0.i) hlt, fun σ'' H'' => ∃ m', m' < xs.length - i ∧ (i + 1 ≤ xs.length ∧ m' = xs.length - (i + 1) ∧ ∃ s F', SG X.K X.mg (E.up F2) (G s) σ'' F' H'' ∧ postS X.mg W E (loopS (xs.drop (i + 1)) s f) (fun s => outP X.K X.mg E D (.nx (G s)))), fun _ _ z => z, fun v H3 y => ?_⟩
      obtain ⟨x, hx, kx⟩ := w.yld i H' v H3 (g'.e0.f.trans g'.e0.i) hlt y
      obtain ⟨G1, x1, rx⟩ := kx F' g'.e0.f g'.e0.i
      rw [List.drop_eq_getElem_cons hlt] at q'
      have hxx : xs[i] = x := by rw [List.getElem?_eq_getElem hlt] at hx; exact Option.some.inj hx
      rw [hxx] at q'
      refine ⟨x, G1, x1.i, rx, fun ws hl hbd => ⟨s, x, E.up F2, G1, hh, ?_, ?_⟩⟩
      · exact SG.setL (is := is) (g'.grow x1) hbd fun j hj => by
          have := hix s j hj
          exact ⟨this.1, by show j ∉ E.hk; rw [hh]; exact this.2⟩
      · exact postS.up xe (postS.bind (k := fun s' => loopS (xs.drop (i + 1)) s' f) q') fun s' qs σ4 F4 H4 g4 => ⟨xs.length - (i + 1), by omega, by omega, rfl, s', F4, g4, qs⟩
    · have hi' : i = xs.length := by omega
      subst hi'
      refine .inl ⟨w.stop _ H' (g'.e0.f.trans g'.e0.i) (Nat.le_refl _), ?_⟩
      rw [List.drop_length] at q'
      exact q' σ' F' H' (g'.down xe)
/-- for, whose turns may leave -/
theorem s1_forF {S R : Type} {G : S → Ctx} {O : R → Out} {f : S → t.den → Mx (Lp S R)} {s0 : S} {mi : Mx (List t.den)} {is : List Nat} {T : t.den → List Slot} (hp : PassesOwn (model X.prog X.w) X.A X.env X.xe) (hc : X.calm = true) (hi : IS X W hk Γ tg iter t mi) (hg : GT X tg t is T)
    (hb : ∀ s x, BS X W hk (setL (G s) is (T x)) body (f s x) (lpo G O)) (h0 : Wk (G s0) Γ) (hO : ∀ r, (O r).isRt = true := by intro _; rfl) (hix : ∀ s, ∀ i ∈ is, i < (G s).length ∧ i ∉ hk := by intro _; decide) (hs : ∀ x, foldedSetIterable iter X.env x = pure x := by intro _; rfl) :
    S1 X W hk Γ (.For tg iter body [] pos) (mi >>= fun xs => loopF xs s0 f) (fwo G O) :=
  have hb' : PSs X body (fun D σ H => ∃ s x, tS X.K X.mg W hk (setL (G s) is (T x)) (f s x) (lpo G O) D σ H) := ⟨fun pins σ1 σ H D J ⟨s, x, q⟩ => (hb s x).run pins σ1 σ H D J q⟩
  ps_imp (ps_for hp hc hi hg hb' hs) fun D σ H ⟨E, F, hh, g, q⟩ => by
    refine ⟨E, F, hh, g, q.bind.mono fun xs pxs F2 H2 J ex w => ?_⟩
    have xe : Ext E.F0 E.B F2 H2 := g.e0.trans ex
    refine ⟨fun i m σ' H' => i ≤ xs.length ∧ m = xs.length - i ∧ ∃ s F', SG X.K X.mg (E.up F2) (G s) σ' F' H' ∧ postS X.mg W E (loopF (xs.drop i) s f) (fun s => outP X.K X.mg E D (fwo G O s)), ⟨xs.length, Nat.zero_le _, by simp, s0, F2, ((g.grow ex).weak h0).up, pxs⟩, ?_⟩
    rintro i m σ' H' ⟨hil, rfl, s, F', g', q'⟩
    by_cases hlt : i < xs.length
    · refine .inr ⟨w.go i H' (g'.e0.f.trans g'.e0.i) hlt, fun σ'' H'' => ∃ m', m' < xs.length - i ∧ (i + 1 ≤ xs.length ∧ m' = xs.length - (i + 1) ∧ ∃ s F', SG X.K X.mg (E.up F2) (G s) σ'' F' H'' ∧ postS X.mg W E (loopF (xs.drop (i + 1)) s f) (fun s => outP X.K X.mg E D (fwo G O s))), fun _ _ z => z, fun v H3 y => ?_⟩
      obtain ⟨x, hx, kx⟩ := w.yld i H' v H3 (g'.e0.f.trans g'.e0.i) hlt y
      obtain ⟨G1, x1, rx⟩ := kx F' g'.e0.f g'.e0.i
      rw [List.drop_eq_getElem_cons hlt] at q'
      have hxx : xs[i] = x := by rw [List.getElem?_eq_getElem hlt] at hx; exact Option.some.inj hx
      rw [hxx] at q'
      refine ⟨x, G1, x1.i, rx, fun ws hl hbd => ⟨s, x, E.up F2, G1, hh, ?_, ?_⟩⟩
      · exact SG.setL (is := is) (g'.grow x1) hbd fun j hj => by
          have := hix s j hj
          exact ⟨this.1, by show j ∉ E.hk; rw [hh]; exact this.2⟩
      · refine postS.up xe (postS.bind (m := f s x) q') fun o qs => ?_
        cases o with
        | go s' => exact fun σ4 F4 H4 g4 => ⟨xs.length - (i + 1), by omega, by omega, rfl, s', F4, g4, qs⟩
        | brk s' => exact fun σ4 F4 H4 g4 => qs σ4 F4 H4 (g4.down xe)
        | out z =>
          have qs : outP X.K X.mg E D (O z) := qs
          have hz := hO z
          show outP X.K X.mg (E.up F2) _ (O z)
          cases e : O z with
          | nx _ => rw [e] at hz; cases hz
          | bk _ => rw [e] at hz; cases hz
          | ct _ => rw [e] at hz; cases hz
          | rt r y => rw [e] at qs; exact fun v F H y2 r2 => qs v F H (ext_up xe y2) r2
          | rs t y o2 x2 => rw [e] at qs; exact fun v Γ1 σ1 F H e0 s1 r2 => qs v Γ1 σ1 F H e0 (s1.down xe) r2
    · have hi' : i = xs.length := by omega
      subst hi'
      refine .inl ⟨w.stop _ H' (g'.e0.f.trans g'.e0.i) (Nat.le_refl _), ?_⟩
      rw [List.drop_length] at q'
      exact q' σ' F' H' (g'.down xe)
/-- while -/
theorem s1_while {S : Type} {G : S → Ctx} {mc : S → Mx Bool} {f : S → Mx S} {s0 : S} (n : Nat) (hp : PassesOwn (model X.prog X.w) X.A X.env X.xe) (hc : ∀ s, ET X W (G s) c (mc s)) (hb : ∀ s, BS X W hk (G s) body (f s) (fun s' => .nx (G s'))) (h0 : Wk (G s0) Γ) :
    S1 X W hk Γ (.While c body [] pos) (whileS n s0 mc f) (fun s => .nx (G s)) :=
  have hc' : PT X c (fun σ H Q => ∃ s, tT X.mg X.K W (G s) (mc s) σ H Q) := ⟨fun pins s1 σ H Q J ⟨s, q⟩ => (hc s).run pins s1 σ H Q J q⟩
  have hb' : PSs X body (fun D σ H => ∃ s, tS X.K X.mg W hk (G s) (f s) (fun s' => .nx (G s')) D σ H) := ⟨fun pins s1 σ H D J ⟨s, q⟩ => (hb s).run pins s1 σ H D J q⟩
  ps_imp (ps_while hp hc' hb') fun D σ H ⟨E, F, hh, g, q⟩ => by
    refine ⟨fun m σ' H' => ∃ s F', SG X.K X.mg E (G s) σ' F' H' ∧ postS X.mg W E (whileS m s mc f) (fun s => outP X.K X.mg E D (.nx (G s))), ⟨n, s0, F, g.weak h0, q⟩, ?_⟩
    rintro m σ' H' ⟨s, F', g', q'⟩
    cases m with
    | zero => exact q'.elim
    | succ m =>
      obtain ⟨G0, g1, g2, g3⟩ := g'.look (r := .d .bool) (.all rfl)
      refine ⟨s, G0, g1, g2, (postS.bind q').post g' (fun F' H' x => let ⟨F2, a, _, b⟩ := g3 F' H' x; ⟨F2, a, b⟩) fun b pb F3 H3 ex => ?_⟩
      obtain ⟨F2, x2, _⟩ := g3 F3 H3 ex
      cases b with
      | true =>
        rw [if_pos rfl]
        exact ⟨fun σ'' H'' => ∃ m', m' < m + 1 ∧ ∃ s F', SG X.K X.mg E (G s) σ'' F' H'' ∧ postS X.mg W E (whileS m' s mc f) (fun s => outP X.K X.mg E D (.nx (G s))), fun _ _ z => z, s, E, F2, hh, g'.grow x2,
          postS.mono (postS.bind pb) fun s' qs σ4 F4 H4 g4 => ⟨m, Nat.lt_succ_self m, s', F4, g4, qs⟩⟩
      | false =>
        rw [if_neg Bool.false_ne_true]
        exact pb σ' F2 H3 (g'.grow x2)
theorem s1_whileF {S R : Type} {G : S → Ctx} {O : R → Out} {mc : S → Mx Bool} {f : S → Mx (Lp S R)} {s0 : S} (n : Nat) (hp : PassesOwn (model X.prog X.w) X.A X.env X.xe) (hc : ∀ s, ET X W (G s) c (mc s)) (hb : ∀ s, BS X W hk (G s) body (f s) (lpo G O)) (h0 : Wk (G s0) Γ) (hO : ∀ r, (O r).isRt = true := by intro _; rfl) :
    S1 X W hk Γ (.While c body [] pos) (whileF n s0 mc f) (fwo G O) :=
  have hc' : PT X c (fun σ H Q => ∃ s, tT X.mg X.K W (G s) (mc s) σ H Q) := ⟨fun pins s1 σ H Q J ⟨s, q⟩ => (hc s).run pins s1 σ H Q J q⟩
  have hb' : PSs X body (fun D σ H => ∃ s, tS X.K X.mg W hk (G s) (f s) (lpo G O) D σ H) := ⟨fun pins s1 σ H D J ⟨s, q⟩ => (hb s).run pins s1 σ H D J q⟩
  ps_imp (ps_while hp hc' hb') fun D σ H ⟨E, F, hh, g, q⟩ => by
    refine ⟨fun m σ' H' => ∃ s F', SG X.K X.mg E (G s) σ' F' H' ∧ postS X.mg W E (whileF m s mc f) (fun s => outP X.K X.mg E D (fwo G O s)), ⟨n, s0, F, g.weak h0, q⟩, ?_⟩
    rintro m σ' H' ⟨s, F', g', q'⟩
    cases m with
    | zero => exact q'.elim
    | succ m =>
      obtain ⟨G0, g1, g2, g3⟩ := g'.look (r := .d .bool) (.all rfl)
      refine ⟨s, G0, g1, g2, (postS.bind q').post g' (fun F' H' x => let ⟨F2, a, _, b⟩ := g3 F' H' x; ⟨F2, a, b⟩) fun b pb F3 H3 ex => ?_⟩
      obtain ⟨F2, x2, _⟩ := g3 F3 H3 ex
      cases b with
      | true =>
        rw [if_pos rfl]
        refine ⟨fun σ'' H'' => ∃ m', m' < m + 1 ∧ ∃ s F', SG X.K X.mg E (G s) σ'' F' H'' ∧ postS X.mg W E (whileF m' s mc f) (fun s => outP X.K X.mg E D (fwo G O s)), fun _ _ z => z, s, E, F2, hh, g'.grow x2,
          postS.mono (postS.bind pb) fun o qs => ?_⟩
        cases o with
        | go s' => exact fun σ4 F4 H4 g4 => ⟨m, Nat.lt_succ_self m, s', F4, g4, qs⟩
        | brk s' => exact fun σ4 F4 H4 g4 => qs σ4 F4 H4 g4
        | out z =>
          have qs : outP X.K X.mg E D (O z) := qs
          have hz := hO z
          show outP X.K X.mg E _ (O z)
          cases e : O z with
          | nx _ => rw [e] at hz; cases hz
          | bk _ => rw [e] at hz; cases hz
          | ct _ => rw [e] at hz; cases hz
          | rt r y => rw [e] at qs; exact qs
          | rs t y o2 x2 => rw [e] at qs; exact qs
      | false =>
        rw [if_neg Bool.false_ne_true]
        exact pb σ' F2 H3 (g'.grow x2)
/-! ## an owned list grows -/
def appO {α : Type} (xs : List α) (y : α) : Option (List α) := if xs.length < sizeLine then some (xs ++ [y]) else none
theorem own_lst {K : PySem.W.Frag} {mg : Str → Option Value} {xs : List t.den} {v : V} {F H : Hp} {fp : List Addr} (h : ol K mg (.l (.d t)) xs [v] F H fp) : ∃ q ws, v = .ref q ∧ fp = [q] ∧ H q = some (.lst ws) ∧ all2 (fun y w => rl K mg t y [w] F) xs ws := by
  obtain ⟨q, ws, fps, e1, e2, e3, r⟩ := h
  have hn : ∀ {xs : List t.den} {ws : List V} {fps : List (List Addr)}, all3 (fun x w f => ol K mg (.d t) x [w] F H f) xs ws fps → fps.flatten = [] := by
    intro xs
    induction xs with
    | nil => intro ws fps r; cases ws with
      | nil => cases fps with
        | nil => rfl
        | cons _ _ => exact r.elim
      | cons _ _ => exact r.elim
    | cons x xs ih => intro ws fps r; cases ws with
      | nil => exact r.elim
      | cons w ws => cases fps with
        | nil => exact r.elim
        | cons f fps => rw [List.flatten_cons, ih r.2, r.1.1]; rfl
  exact ⟨q, ws, (List.cons.inj e1).1, by rw [e2, hn r], e3, r.two fun x w f _ z => z.2⟩
/-- a cell of a slot is written -/
theorem SG.write {K : PySem.W.Frag} {mg : Str → Option Value} {E : Ent} {σ : L2.St} {F H : Hp} {i : Nat} {q : Addr} {ws : List V} {xs ys : List t.den} (g : SG K mg E Γ σ F H) (hi : Γ[i]? = some (.o (.l (.d t)) xs)) (hq : σ[i]? = some (some (.ref q))) (r : all2 (fun y w => rl K mg t y [w] F) ys ws) :
    SG K mg E (Γ.set i (.o (.l (.d t)) ys)) σ F (upd H q (.lst ws)) := by
  obtain ⟨e0, kp, fps, w⟩ := g
  obtain ⟨ov, e1, v, rfl, ho⟩ := w.at_ i _ hi
  rw [hq] at e1; cases e1
  obtain ⟨q', zs, e2, e3, e4, r0⟩ := own_lst ho
  cases e2
  have hil : i < Γ.length := (List.getElem?_eq_some_iff.mp hi).1
  have hqi : q ∈ fps i := by rw [e3]; exact List.mem_singleton.mpr rfl
  have nF : F q = none := (w.new i q hqi).1
  have nB : E.B q = none := (w.new i q hqi).2
  have ne : ∀ {b : Addr} {o : HO}, F b = some o → b ≠ q := fun e z => by rw [z, nF] at e; cases e
  have x0 : Ext E.F0 E.B F (upd H q (.lst ws)) := ⟨e0.f, fun b o e => by rw [upd_ne (fun z => by rw [z, nB] at e; cases e)]; exact e0.h _ _ e, fun b o e => by rw [upd_ne (ne e)]; exact e0.i _ _ e, e0.n⟩
  have w1 : Own K mg Γ σ F H E.B fps := w
  -- the other slots
  refine ⟨x0, kp, fps, fun j s e => ?_, fun j e => ?_, w.nd, w.sep, w.new⟩
  · by_cases hj : j = i
    · subst hj
      rw [List.getElem?_set_self hil] at e
      cases e
      exact ⟨_, hq, _, rfl, q, ws, ys.map fun _ => [], rfl, by rw [flat_nil, e3], upd_same, all3.of2 (fun x v z => ⟨rfl, z⟩) r⟩
    · rw [List.getElem?_set_ne (Ne.symm hj)] at e
      obtain ⟨ov, e1, r'⟩ := w.at_ j s e
      exact ⟨ov, e1, so_frame (Same.refl _) (fun a ha => upd_ne fun z => w.sep j i hj a ha (by rw [z]; exact hqi)) r'⟩
  · by_cases hj : j = i
    · subst hj
      rw [List.getElem?_set_self hil] at e; cases e
    · rw [List.getElem?_set_ne (Ne.symm hj)] at e
      exact w.out j e
/-- xs.append(e) -/
theorem bs_app (i : Nat) {xs : List t.den} {me : Mx t.den} {k : List t.den → Mx β} {n : Str} {apos cpos : Pos} (hi : Γ[i]? = some (.o (.l (.d t)) xs)) (hx : PE X (.Name n p) (tVar i)) (he : EM X W Γv e t me) (vw : Vw Γ (.d t) Γv) (hr : ∀ ys, BS X W hk (Γ.set i (.o (.l (.d t)) ys)) rest (k ys) I)
    (hbase : attributeBase (.Name n p) "append" X.env (eval (.Name n p) X.env) = eval (.Name n p) X.env := by rfl) (hfew : ((backTo cpos (starEach [e] X.env)).all (fun x => !x.1) && (backToKw cpos (keywordEach [] X.env)).all (fun x => x.1.isSome) && decide ([e].length + ([] : List Keyword).length + (if ([] : List Keyword).isEmpty then 0 else 1) < 30)) = true := by rfl)
    (hline : (apos.endLine == cpos.line) = true := by rfl) (hs : starEach [e] X.env = (false, eval e X.env) :: starEach [] X.env := by rfl) (hpl : (backTo cpos (starEach [] X.env)).any (·.1) = false := by rfl) :
    BS X W hk Γ (.Expr (.Call (.Attribute (.Name n p) "append" apos) [e] [] cpos) pos :: rest) (me >>= fun y => ofO (appO xs y) >>= k) I :=
  have hr' : PSs X rest (fun D σ H => ∃ ys, tS X.K X.mg W hk (Γ.set i (.o (.l (.d t)) ys)) (k ys) I D σ H) := ⟨fun pins s σ H D J ⟨x, q⟩ => (hr x).run pins s σ H D J q⟩
  pss_imp (pss_cons (ps_expr (pe_bm PySem.F.plainAttrs_list PySem.F.slot_list_append PySem.F.type_list_append mt_append hx (pa_cons he pa_nil hs) hbase hfew hline hs hpl)) hr') fun D σ H ⟨E, F, h, g, q⟩ => by
    obtain ⟨fps, w⟩ := g.ow
    obtain ⟨ov, e1, v, rfl, ho⟩ := w.at_ i _ hi
    obtain ⟨a, ws, rfl, e3, e4, rr⟩ := own_lst ho
    refine ⟨.ref a, e1, .inl ⟨rfl, ws, SqL.of e4⟩, ?_⟩
    obtain ⟨G, g1, g2, g3⟩ := g.look vw
    refine ⟨G, g1, g2, q.bind.post g (fun F' H' x => let ⟨F2, a, _, b⟩ := g3 F' H' x; ⟨F2, a, b⟩) fun y py u F' H' ex ru => ?_⟩
    obtain ⟨F2, x2, back, _⟩ := g3 F' H' ex
    have ru2 : rl X.K X.mg t y [u] F2 := back y u ru
    unfold appO at py
    by_cases hl : xs.length < sizeLine
    · rw [if_pos hl] at py
      refine ⟨a, ws, u, rfl, rfl, x2.h _ _ e4, by rw [← rr.len]; exact hl, xs ++ [y], E, F2, h, ?_, py⟩
      exact (g.grow x2).write hi e1 ((rr.imp fun z v q => rl_mono x2.f t z [v] q).app ⟨ru2, True.intro⟩)
    · rw [if_neg hl] at py; exact py.elim
/-! ## calls of the text's defs -/
section
variable (K : PySem.W.Frag) (mg : Str → Option Value)
/-- what a def promises: the arguments' code, the answer's, the mirror -/
def spF (ts : Ty) (r : Rt) (f : ts.den → Mx r.den) : Sp := fun vs H Q E => ∃ F x, Same F H ∧ rl K mg ts x vs F ∧ match f x with
  | .ok y => ∀ v F' H', Ext F H F' H' → rtr K mg r y v H F' H' → Q v H'
  | .ex e => ∀ cls d F' H', Ext F H F' H' → xr mg e cls d F' → E cls d H'
  | .no => False
end
theorem e_call {k : Nat} {f : Addr} {fd : FuncData} {ps : List Str} {ts : Ty} {g : ts.den → Mx r.den} {ma : Mx ts.den} {x : Str} {q : Pos} {es : List Expr} (Fn : FnOk X.prog X.w X.K X.mg X.base (L2.CX X.prog X.w) k f fd ps (spF X.K X.mg ts r g)) (hr : Room k X.A) (hg : Gl X x) (hm : X.mg x = some (.ref f)) (hkp : PySem.W.keepIn X.K (.ref f) = true)
    (hb : Binds X.K fd ps []) (tk : Takes X W) (ha : EA X W Γ (e :: es) ts ma) (hdb : (x == ("__debug__" : Str)) = false := by decide) (he : starEach (e :: es) X.env = (false, eval e X.env) :: starEach es X.env := by rfl) (hpl : (backTo pos (starEach es X.env)).any (·.1) = false := by rfl) :
    ER X W Γ (.Call (.Name x q) (e :: es) [] pos) r (ma >>= g) :=
  pe_imp (pe_callSD Fn hr hg hm hkp hb .nil (fun σ => passAt tk σ) ha hdb he hpl) fun σ H Q ⟨F, s, d, p⟩ => ⟨F, s, d, p.bind.mono fun z pz vs F1 H1 e1 r1 => by
    refine ⟨F1, z, e1.i, by rw [List.append_nil]; exact r1, ?_⟩
    cases hgz : g z with
    | no => rw [hgz] at pz; exact pz
    | ex y => rw [hgz] at pz; exact fun cls d F' H' x r => pz cls d F' H' (e1.trans x) r
    | ok y => rw [hgz] at pz; exact fun v F' H' x r => pz v F' H' (e1.trans x) (rtr_pre e1.h r)⟩
end
/-! ## a def's body -/
def ctxA : (ts : Ty) → ts.den → Ctx
  | .pr t ts, x => .d t x.1 :: ctxA ts x.2
  | _, _ => []
def Ty.args : Ty → Option Nat
  | .pr t ts => if t.sing then ts.args.map (· + 1) else none
  | .nl => some 0
  | _ => none
theorem args_len {K : PySem.W.Frag} {mg : Str → Option Value} {F : Hp} : ∀ {ts : Ty} {n : Nat} {x : ts.den} {vs : List V}, ts.args = some n → rl K mg ts x vs F → vs.length = n ∧ (ctxA ts x).length = n ∧ ∀ (i : Nat) (s : Slot), (ctxA ts x)[i]? = some s → ∃ v : V, vs[i]? = some v ∧ ∃ (t : Ty) (y : t.den), s = Slot.d t y ∧ rl K mg t y [v] F
  | .pr t ts, n, x, vs, h, r => by
    obtain ⟨v, r', rfl, p, q⟩ := r
    have h' : (if t.sing then ts.args.map (· + 1) else none) = some n := h
    by_cases ht : t.sing = true
    · rw [if_pos ht] at h'
      cases e : ts.args with
      | none => rw [e] at h'; cases h'
      | some m =>
        rw [e] at h'
        have hn : m + 1 = n := Option.some.inj h'
        obtain ⟨h1, h2, h3⟩ := args_len (ts := ts) e q
        refine ⟨by rw [List.length_cons, h1, hn], by show (ctxA ts x.2).length + 1 = n; rw [h2, hn], fun i s es => ?_⟩
        cases i with
        | zero => exact ⟨v, rfl, t, x.1, by simpa [ctxA] using es.symm, p⟩
        | succ i => exact h3 i s (by simpa [ctxA] using es)
    · rw [if_neg ht] at h'; cases h'
  | .nl, n, x, vs, h, r => by cases h; rw [show vs = _ from r]; exact ⟨rfl, rfl, fun i s e => by simp [ctxA] at e⟩
def ctx0 (ts : Ty) (x : ts.den) (n : Nat) : Ctx := ctxA ts x ++ List.replicate n .no
theorem sg_start {K : PySem.W.Frag} {mg : Str → Option Value} {F H : Hp} {ts : Ty} {n : Nat} {x : ts.den} {vs : List V} {N : List Str} (hs : Same F H) (ha : ts.args = some n) (r : rl K mg ts x vs F) : SG K mg ⟨F, H, [], L2.start N vs⟩ (ctx0 ts x (N.length - n)) (L2.start N vs) F H := by
  obtain ⟨h1, h2, h3⟩ := args_len ha r
  refine ⟨Ext.refl hs, fun i hi => (nomatch hi), fun _ => [], fun i s e => ?_, fun _ _ => rfl, fun _ => List.nodup_nil, fun _ _ _ a ha => (nomatch ha), fun _ a ha => (nomatch ha)⟩
  unfold ctx0 at e
  unfold L2.start
  by_cases hi : i < n
  · rw [List.getElem?_append_left (by rw [h2]; exact hi)] at e
    obtain ⟨v, e1, t, y, rfl, r'⟩ := h3 i s e
    exact ⟨some v, by rw [List.getElem?_append_left (by rw [List.length_map, h1]; exact hi), List.getElem?_map, e1]; rfl, rfl, v, rfl, r'⟩
  · rw [List.getElem?_append_right (by rw [h2]; omega), h2, List.getElem?_replicate] at e
    split at e
    · rename_i hlt
      cases e
      exact ⟨none, by rw [List.getElem?_append_right (by rw [List.length_map, h1]; omega), List.length_map, h1, List.getElem?_replicate, if_pos hlt], rfl⟩
    · cases e
theorem fn_body {P : Program} {w : World} {K : PySem.W.Frag} {mg : Str → Option Value} {base : Heap} {x qual : Str} {st : Stmt} {f : Addr} {fd : FuncData} {N ps : List Str} {k : Nat} {ts : Ty} {r : Rt} {g : ts.den → Mx r.den} (F : Fun K x qual st f fd) (S : FnScope N ps (defScope st)) (ha : ts.args = some ps.length)
    (hb : ∀ (cdv : Value) (A : Around) (outer : List Env) (s : Shared) (H : Hp) (E : XK), Room k (A.deeper (envOfC qual (defScope st) s.heap.objs.size f cdv)) → Takes (cxOf (L2.CX P w) P w K mg base N qual (defScope st) f cdv A outer s H E) (fun cls d _ H => E cls d H) →
      PassesOwn (model P w) (A.deeper (envOfC qual (defScope st) s.heap.objs.size f cdv)) (envOfC qual (defScope st) s.heap.objs.size f cdv) (cxOf (L2.CX P w) P w K mg base N qual (defScope st) f cdv A outer s H E).xe →
      ∀ x : ts.den, BS (cxOf (L2.CX P w) P w K mg base N qual (defScope st) f cdv A outer s H E) (fun cls d _ H => E cls d H) [] (ctx0 ts x (N.length - ps.length)) (defBody st) (g x) (fun y => .rt r y)) :
    FnOk P w K mg base (L2.CX P w) (k + 1) f fd ps (spF K mg ts r g) := by
  refine F.okX S (fun vs H Q E h => ?_) (fun cdv A outer s H vs Q E hr h => ?_)
  · obtain ⟨G, y, hs, rr, _⟩ := h
    exact (args_len ha rr).1
  · obtain ⟨G, y, hs, rr, q⟩ := h
    refine ⟨_, hb cdv A outer s H E hr (takes_of rfl rfl rfl rfl) (passes_of rfl) y, ⟨G, H, [], L2.start N vs⟩, G, rfl, sg_start hs ha rr, ?_⟩
    cases e : g y with
    | no => rw [e] at q; exact q
    | ex z => rw [e] at q; exact fun cls d σ F' H' x _ r => q cls d F' H' x r
    | ok z => rw [e] at q; exact fun v F' H' x r => q v F' H' x r
end Gm
set_option Elab.async false
set_option linter.all false
set_option maxRecDepth 100000
set_option maxHeartbeats 4000000
namespace Gm
open PySem PySem.Spec L2

theorem okb {α β : Type} (a : α) (f : α → Mx β) : (Mx.ok a >>= f) = f a := id rfl
theorem exb {α β : Type} (e : Exn) (f : α → Mx β) : (Mx.ex e >>= f) = Mx.ex e := id rfl
theorem Mx.ok_right {α : Type} (m : Mx α) : (m >>= fun x => Mx.ok x) = m := by cases m <;> rfl
section
variable {X : Cx} {W : WX} {hk : List Nat} {Γ Γv : Ctx} {st : Stmt} {rest : List Stmt} {β : Type} {r : Rt} {I : β → Out}
theorem b_setL (i : Nat) {me : Mx r.den} {k : r.den → Mx β} (hs : PS X st (tAsg (tR X.mg X.K W Γv r me) (gName i))) (vw : Vw Γ r Γv) (hr : ∀ x, BS X W hk (Γ.set i (slotOf r x)) rest (k x) I) (hb : Nat.ble (i + 1) Γ.length = true) (hn : hk.contains i = false) : BS X W hk Γ (st :: rest) (me >>= k) I :=
  bs_set (i := i) hs vw hr (Nat.le_of_ble_eq_true hb) (fun h => by rw [List.contains_iff_mem.mpr h] at hn; cases hn)
theorem b_setLF (i : Nat) {o : Ow} {me : Mx o.ty.den} {k : o.ty.den → Mx β} (hs : PS X st (tAsg (tR X.mg X.K W Γv (.o o) me) (gName i))) (vw : Vw Γ (.o o) Γv) (hr : ∀ x, BS X W hk (Γ.set i (.d o.ty x)) rest (k x) I) (hb : Nat.ble (i + 1) Γ.length = true) (hn : hk.contains i = false) : BS X W hk Γ (st :: rest) (me >>= k) I :=
  b_setL (X := X) (r := .o o) i hs vw (fun y => bs_freeze i (o := o) (x := y) (List.getElem?_set_self (Nat.le_of_ble_eq_true hb)) (by rw [List.set_set]; exact hr y)) hb hn
end
section
variable {X : Cx} {W : WX} {hk : List Nat} {Γ Γ' Γv : Ctx} {st : Stmt} {rest A B' : List Stmt} {a b e c tg : Expr} {pos p : Pos} {β γ : Type} {r : Rt} {t : Ty} {I : β → Out}
/-- the name in the i-th place -/
theorem vL (i : Nat) {x : Str} (hN : X.N[i]? = some x) (hv : X.env.scope.names.lookup x = some .local) (hd : ((x == ("__debug__" : Str)) || (x == ("__classdict__" : Str))) = false) : PE X (.Name x p) (tVar i) :=
  pv i hN (.inl hv) ((Bool.or_eq_false_iff.mp hd).1) ((Bool.or_eq_false_iff.mp hd).2)
theorem vC (i : Nat) {x : Str} (hN : X.N[i]? = some x) (hv : X.env.scope.names.lookup x = some .cell) (hd : ((x == ("__debug__" : Str)) || (x == ("__classdict__" : Str))) = false) : PE X (.Name x p) (tVar i) :=
  pv i hN (.inr (.inl hv)) ((Bool.or_eq_false_iff.mp hd).1) ((Bool.or_eq_false_iff.mp hd).2)
theorem vF (i : Nat) {x : Str} (hN : X.N[i]? = some x) (hv : X.env.scope.names.lookup x = some .free) (hd : ((x == ("__debug__" : Str)) || (x == ("__classdict__" : Str))) = false) : PE X (.Name x p) (tVar i) :=
  pv i hN (.inr (.inr hv)) ((Bool.or_eq_false_iff.mp hd).1) ((Bool.or_eq_false_iff.mp hd).2)
/-- name = e -/
theorem b_set (i : Nat) {x : Str} {me : Mx r.den} {k : r.den → Mx β} {pos' : Pos} (he : ER X W Γv e r me) (vw : Vw Γ r Γv) (hr : ∀ x, BS X W hk (Γ.set i (slotOf r x)) rest (k x) I) (hN : X.N.Nodup) (hi : X.N[i]? = some x) (hl : Loc X.env.scope x) (hf : X.fn x = true ∨ X.env.scope.names.lookup x = some .local)
    (hb : Nat.ble (i + 1) Γ.length = true) (hn : hk.contains i = false) (hs : swapsWith e (some (.Name x pos')) pos.line X.env = pure false) : BS X W hk Γ (.Assign [.Name x pos'] e pos :: rest) (me >>= k) I :=
  bs_set (i := i) (ps_set hN hi hl he hs hf) vw hr (Nat.le_of_ble_eq_true hb) (fun h => by rw [List.contains_iff_mem.mpr h] at hn; cases hn)
/-- name = a new list, from now on data -/
theorem b_setF (i : Nat) {x : Str} {o : Ow} {me : Mx o.ty.den} {k : o.ty.den → Mx β} {pos' : Pos} (he : EO X W Γv e o me) (vw : Vw Γ (.o o) Γv) (hr : ∀ x, BS X W hk (Γ.set i (.d o.ty x)) rest (k x) I) (hN : X.N.Nodup) (hi : X.N[i]? = some x) (hl : Loc X.env.scope x) (hf : X.fn x = true ∨ X.env.scope.names.lookup x = some .local)
    (hb : Nat.ble (i + 1) Γ.length = true) (hn : hk.contains i = false) (hs : swapsWith e (some (.Name x pos')) pos.line X.env = pure false) : BS X W hk Γ (.Assign [.Name x pos'] e pos :: rest) (me >>= k) I :=
  b_set (r := .o o) i he vw (fun y => bs_freeze i (o := o) (x := y) (List.getElem?_set_self (Nat.le_of_ble_eq_true hb)) (by rw [List.set_set]; exact hr y)) hN hi hl hf hb hn hs
/-- return e at the end of a def -/
theorem b_ret {me : Mx r.den} (he : ER X W Γv e r me) (vw : Vw Γ r Γv) : BS X W hk Γ (.Return (some e) pos :: rest) me (fun y => .rt r y) :=
  bs_cast (bs_ret (b := fun x => x) he vw (fun _ => rfl)) (Mx.ok_right me)
theorem all_ix {is hk : List Nat} {Γ : Ctx} (h : is.all (fun i => Nat.ble (i + 1) Γ.length && !(hk.contains i)) = true) : ∀ i ∈ is, i < Γ.length ∧ i ∉ hk := fun i hi => by
  have := List.all_eq_true.mp h i hi
  rw [Bool.and_eq_true] at this
  exact ⟨Nat.le_of_ble_eq_true this.1, fun z => by rw [List.contains_iff_mem.mpr z] at this; exact absurd this.2 (by simp)⟩
theorem mark_ne (b : Expr) : behindInMarks .NotEq b = false := nomark b
theorem mark_of {op : CmpOp} (b : Expr) (h : (match op with | .In => false | .NotIn => false | _ => true) = true) : behindInMarks op b = false := nomark b (fun z => by subst z; cases h) (fun z => by subst z; cases h)
theorem e_cast {me me' : Mx r.den} (h : ER X W Γ e r me) (q : me = me') : ER X W Γ e r me' := q ▸ h
theorem t_cast {me me' : Mx Bool} (h : ET X W Γ e me) (q : me = me') : ET X W Γ e me' := q ▸ h
theorem ts_cast {es : List Expr} {me me' : Mx Bool} (h : ETs X W Γ es me) (q : me = me') : ETs X W Γ es me' := q ▸ h
theorem bs_brk {b : β} (hI : I b = .bk Γ') (w : Wk Γ' Γ) : BS X W hk Γ (.Break pos :: rest) (.ok b) I := pss_imp (pss_cons ps_break pss_never) fun D σ H ⟨E, F, h, g, q⟩ => by
  have q : outP X.K X.mg E D (I b) := q
  rw [hI] at q
  exact q σ F H (g.weak w)
/-- if c: A (which leaves); the rest -/
theorem bs_ifL {mc : Mx Bool} {mA : Mx γ} {m : Mx β} {A : List Stmt} {I' : γ → Out} (j : γ → β) (hc : ET X W Γ c mc) (hA : BS X W hk Γ A mA I') (hr : BS X W hk Γ rest m I) (hI : ∀ b, I (j b) = I' b) (hs : ∀ b, (I' b).stays = false) : BS X W hk Γ (.If c A [] pos :: rest) (mc >>= fun x => if x then mA >>= fun r => .ok (j r) else m) I :=
  pss_imp (pss_cons (ps_if hc hA pss_nil) hr) fun D σ H ⟨E, F, h, g, q⟩ => by
    obtain ⟨G, g1, g2, g3⟩ := g.look (r := .d .bool) (.all rfl)
    refine ⟨G, g1, g2, q.bind.post g (fun F' H' x => let ⟨F2, a, _, b⟩ := g3 F' H' x; ⟨F2, a, b⟩) fun x px F' H' ex => ?_⟩
    obtain ⟨F2, x2, back, _⟩ := g3 F' H' ex
    cases x with
    | true =>
      refine ⟨E, F2, h, g.grow x2, postS.mono (postS.bind px) fun b qb => ?_⟩
      have qb : outP X.K X.mg E D (I (j b)) := qb
      rw [hI] at qb
      have hx := hs b
      cases e : I' b with
      | nx Γ => rw [e] at hx; cases hx
      | rt r y => rw [e] at qb; exact qb
      | bk Γ => rw [e] at qb; exact qb
      | rs t y o2 x2 => rw [e] at qb; exact qb
      | ct Γ => rw [e] at qb; exact qb
    | false => exact ⟨E, F2, h, g.grow x2, px⟩
/-- how often a while may turn, at most -/
@[irreducible] def fuel : Nat := 1000000
/-- the name of a built-in type -/
theorem n_ty {x : Str} {T' : String} (hg : Gl X x) (hm : X.mg x = none) (hv : bootBuiltins x = some (.type T')) (hn : x ≠ "__name__") (hd : (x == ("__debug__" : Str)) = false) : PE X (.Name x p) (tC (.ty T')) := pe_bltn hg hm hv rfl hn hd
/-- a look at a comprehension's scope -/
def blkC (N : List Str) (sc scope : Scope) (own : List (Str × Nat)) : Bool :=
  decide (scope.kind = .function) && scope.names.all (fun y => decide (scope.names.lookup y.1 = some y.2)) && own.all (fun p => decide (N[p.2]? = some p.1)) &&
  scope.names.all (fun y => !decide (y.2 = .free) || (decide (sc.names.lookup y.1 = some .cell) || decide (sc.names.lookup y.1 = some .free))) &&
  scope.names.all (fun y => !(decide (y.2 = .local) || decide (y.2 = .cell)) || (decide (y.1 ∈ own.map (·.1)) || decide (y.1 ∉ N)))
theorem blk_by (N : List Str) (sc : Scope) {scope : Scope} {own : List (Str × Nat)} (h : blkC N sc scope own = true) : BlkOk N sc scope own := by
  unfold blkC at h
  simp only [Bool.and_eq_true, decide_eq_true_eq, List.all_eq_true, Bool.or_eq_true, Bool.not_eq_true', decide_eq_false_iff_not, Bool.or_eq_false_iff] at h
  obtain ⟨⟨⟨⟨h1, h2⟩, h3⟩, h4⟩, h5⟩ := h
  refine ⟨h1, h2, h3, fun y hy e => (h4 y hy).resolve_left fun z => z e, fun y hy e => (h5 y hy).resolve_left fun z => ?_⟩
  rcases e with e | e
  · exact z.1 e
  · exact z.2 e
/-- a value that may be None, where it is none -/
def getO {α : Type} : Option α → Mx α
  | some x => .ok x
  | none => .no
theorem e_get {m : Mx (Option t.den)} (ha : EM X W Γ a (.opt t) m) : EM X W Γ a t (m >>= getO) := pe_imp ha fun σ H Q ⟨F, s, d, p⟩ => ⟨F, s, d, p.bind.mono fun x px v F1 H1 e1 r1 => by
  cases x with
  | none => exact px.elim
  | some y => exact px v F1 H1 e1 r1.2⟩
end
end Gm
namespace Gm
open PySem PySem.Spec L2
open PyProof.Rows (envOfC)
theorem fn_bodyD {P : Program} {w : World} {K : PySem.W.Frag} {mg : Str → Option Value} {base : Heap} {x qual : Str} {st : Stmt} {f : Addr} {fd : FuncData} {dvs : List V} {kws : List (Str × V)} {N ps : List Str} {k : Nat} {ts : Ty} {r : Rt} {g : ts.den → Mx r.den} (F : FunD K x qual (defArgs st) (defBody st) (defScope st) dvs kws f fd) (S : FnScope N ps (defScope st)) (ha : ts.args = some ps.length)
    (hb : ∀ (cdv : Value) (A : Around) (outer : List Env) (s : Shared) (H : Hp) (E : XK), Room k (A.deeper (envOfC qual (defScope st) s.heap.objs.size f cdv)) → Takes (cxOf (L2.CX P w) P w K mg base N qual (defScope st) f cdv A outer s H E) (fun cls d _ H => E cls d H) →
      PassesOwn (model P w) (A.deeper (envOfC qual (defScope st) s.heap.objs.size f cdv)) (envOfC qual (defScope st) s.heap.objs.size f cdv) (cxOf (L2.CX P w) P w K mg base N qual (defScope st) f cdv A outer s H E).xe →
      ∀ x : ts.den, BS (cxOf (L2.CX P w) P w K mg base N qual (defScope st) f cdv A outer s H E) (fun cls d _ H => E cls d H) [] (ctx0 ts x (N.length - ps.length)) (defBody st) (g x) (fun y => .rt r y)) :
    FnOk P w K mg base (L2.CX P w) (k + 1) f fd ps (spF K mg ts r g) := by
  refine F.ok S (fun vs H Q E h => ?_) (fun cdv A outer s H vs Q E hr h => ?_)
  · obtain ⟨G, y, hs, rr, _⟩ := h
    exact (args_len ha rr).1
  · obtain ⟨G, y, hs, rr, q⟩ := h
    refine ⟨_, hb cdv A outer s H E hr (takes_of rfl rfl rfl rfl) (passes_of rfl) y, ⟨G, H, [], L2.start N vs⟩, G, rfl, sg_start hs ha rr, ?_⟩
    cases e : g y with
    | no => rw [e] at q; exact q
    | ex z => rw [e] at q; exact fun cls d σ F' H' x _ r => q cls d F' H' x r
    | ok z => rw [e] at q; exact fun v F' H' x r => q v F' H' x r
/-- the law's promise -/
def spL (K : PySem.W.Frag) (n : Nat) : Sp := fun vs H Q _ => ∃ (a : Addr) (ns : List Int), vs = [.ref a] ∧ SqL K H a (ns.map V.int) ∧ ns.length ≤ n ∧ ∀ H', Q (.bl true) H'
theorem spL_imp {K : PySem.W.Frag} {mg : Str → Option Value} {f : List Int → Mx Bool} {n : Nat} (h : ∀ ns : List Int, ns.length ≤ n → f ns = .ok true) (vs : List V) (H : Hp) (Q : VK) (E : XK) (q : spL K n vs H Q E) : spF K mg (.pr .scr .nl) (.d .bool) (fun x => f x.1) vs H Q E := by
  obtain ⟨a, ns, rfl, hs, hl, k⟩ := q
  refine ⟨H, (ns, ()), Same.refl H, ⟨.ref a, [], rfl, ⟨a, rfl, hs⟩, rfl⟩, ?_⟩
  simp only [h ns hl]
  intro v F' H' x r
  cases (List.cons.inj (show [v] = _ from r)).1
  exact k H'
theorem cx_end {P : Program} {w : World} (H : Hp) (s : Shared) (e : Value) (s' : Shared) (h : L2.CX P w [] H s (fun _ _ _ => False) e s') : False := by
  obtain ⟨_, _, _, _, _, _, _, _, _, _, _, _, z⟩ := h
  exact z
/-- the end of a law whose promise hangs on the world -/
theorem walk_w {l : PySem.W.OpenLaw} {n k : Nat} {q : Program} {loose : List Str} {XP : (Str → Option Value) → Heap → Prop} {YP : World → Heap → Prop} {d : DefRec} {CX : World → CXT} {x : Str}
    (hn : l.most = some n) (hn2 : n ≤ sizeLine) (hdf : d.params.defaults = []) (hr : Room k PySem.callerA)
    (F : ∀ (w : World) (mg : Str → Option Value) (fa : Addr) (h : Heap), YP w h → h.Ns mainGlobals mg → mg d.name = some (.ref fa) →
      ∃ (K : PySem.W.Frag) (fd : FuncData) (sp : Sp), K.In h ∧ (∀ (s : Shared) (u : Value), BindsTo s fd ⟨[u], []⟩ [(x, u)]) ∧
        (∀ (H : Hp) (a : Addr) (ns : List Int), ns.length ≤ n → Only H → SqL K H a (ns.map V.int) → sp [.ref a] H (fun v _ => v = .bl true) fun _ _ _ => False) ∧
        ∀ base : Heap, K.In base → base.Ns mainGlobals mg → FnOk l.prog w K mg base (CX w) k fa fd [x] sp)
    (hCX : ∀ (w : World) (H : Hp) (s : Shared) (e : Value) (s' : Shared), CX w [] H s (fun _ _ _ => False) e s' → False) :
    PySem.W.WalkO q loose XP YP l.row.toRowW d [] (fun f vs => PySem.call f vs) := by
  refine Att.attach_call hn hdf fun w s0 s1 mg mb fa o pm cd doc a vs ns G Y ho hd hcd hmg hobj hints hlen hg => ?_
  obtain ⟨K, fd, sp, KX, hb, hsp, hF⟩ := F w mg fa _ Y G.T.g hmg
  exact law_call KX G.T.g G.T.b G.T.builtins G.T.nolimit hg hobj hints (Nat.le_trans hlen hn2) hr hF hb (fun H hO hS => hsp H a ns hlen hO hS) fun H e s' => hCX w H s1 e s'
end Gm
set_option Elab.async false
set_option linter.all false
set_option maxRecDepth 100000
set_option maxHeartbeats 4000000
namespace Gm
open PySem PySem.Spec L2

section
variable {X : Cx} {W : WX} {Γ : Ctx} {a b c e tg : Expr} {pos p : Pos} {t : Ty} {F H : Hp} {m1 m2 m3 : Mx Int} {op op' : CmpOp} {p1 p2 : Int → Int → Bool}
/-! ## a op1 b op2 c, of whole numbers -/
theorem chain_read : ∀ σ H Q, tR X.mg X.K W Γ (.d .bool) (m1 >>= fun x => m2 >>= fun y => if p1 x y then m3 >>= fun z => .ok (p2 y z) else .ok false) σ H Q →
    tChain (rI0 fun i j => .bl (p1 i j)) (rI0 fun i j => .bl (p2 i j)) (tR X.mg X.K W Γ (.d .int) m1) (tR X.mg X.K W Γ (.d .int) m2) (tR X.mg X.K W Γ (.d .int) m3) σ H Q := fun σ H Q ⟨F, s, d, q⟩ =>
  ⟨F, s, d, q.bind.mono fun x px v F1 H1 e1 r1 => ⟨F1, e1.i, d.mono e1.f, post.ext e1 px.bind fun y py w F2 H2 e2 r2 => by
    cases (List.cons.inj (show [v] = _ from r1)).1
    cases (List.cons.inj (show [w] = _ from r2)).1
    refine ⟨x, y, rfl, rfl, p1 x y, rfl, ?_⟩
    by_cases hp : p1 x y = true
    · rw [if_pos hp] at py ⊢
      refine ⟨F2, e2.i, d.mono (e1.f.trans e2.f), post.ext (e1.trans e2) py.bind fun z pz u F3 H3 e3 r3 => ?_⟩
      cases (List.cons.inj (show [u] = _ from r3)).1
      exact ⟨y, z, rfl, rfl, pz _ F3 H3 ((e1.trans e2).trans e3) rfl⟩
    · rw [if_neg hp] at py ⊢
      exact py _ F2 H2 (e1.trans e2) rfl⟩⟩
theorem e_chain (ho : OpR X (compareOp op) (rI0 fun i j => .bl (p1 i j))) (ho' : OpR X (compareOp op') (rI0 fun i j => .bl (p2 i j))) (hm : lastMarks [op, op'] [b, c] = false) (ha : EM X W Γ a .int m1) (hb : EM X W Γ b .int m2) (hc : EM X W Γ c .int m3) :
    EM X W Γ (.Compare a [op, op'] [b, c] pos) .bool (m1 >>= fun x => m2 >>= fun y => if p1 x y then m3 >>= fun z => .ok (p2 y z) else .ok false) := pe_imp (pe_chain ho ho' ha hb hc hm) chain_read
theorem t_chain (ho : OpR X (compareOp op) (rI0 fun i j => .bl (p1 i j))) (ho' : OpR X (compareOp op') (rI0 fun i j => .bl (p2 i j))) (hm : lastMarks [op, op'] [b, c] = false) (ha : EM X W Γ a .int m1) (hb : EM X W Γ b .int m2) (hc : EM X W Γ c .int m3) :
    ET X W Γ (.Compare a [op, op'] [b, c] pos) (m1 >>= fun x => m2 >>= fun y => if p1 x y then m3 >>= fun z => .ok (p2 y z) else .ok false) := pt_imp (pt_chain ho ho' ha hb hc hm) fun σ H Q ⟨F, s, d, q⟩ =>
  chain_read σ H _ ⟨F, s, d, q.mono fun x px v F1 H1 e1 r1 => by
    cases (List.cons.inj (show [v] = _ from r1)).1
    exact ⟨x, rfl, px F1 H1 e1⟩⟩
/-! ## in -/
def inSO (x z : Str) : Option Bool := match x.cps.toList with
  | [k] => some (decide (k ∈ z.cps.toList))
  | _ => none
theorem inSO_eq {x z : Str} {r : Bool} (h : inSO x z = some r) : ∃ k, x = ⟨#[k]⟩ ∧ r = decide (k ∈ z.cps.toList) := by
  unfold inSO at h
  split at h
  · rename_i k e
    refine ⟨k, ?_, (Option.some.inj h).symm⟩
    obtain ⟨⟨l⟩⟩ := x
    simp at e
    subst e; rfl
  · cases h
theorem c_inS {m1 m2 : Mx Str} (ha : EM X W Γ a .str m1) (hb : EM X W Γ b .str m2) : EC X W Γ .In a b (m1 >>= fun x => m2 >>= fun y => ofO (inSO x y)) := c_op (t1 := .str) (t2 := .str) (g := inSO) op_in_sign (fun x y z e v w F H Q s r1 r2 k => by
  cases (List.cons.inj (show [v] = _ from r1)).1
  cases (List.cons.inj (show [w] = _ from r2)).1
  obtain ⟨q, rfl, rfl⟩ := inSO_eq e
  exact ⟨q, y, rfl, rfl, k⟩) ha hb
theorem c_ninS {m1 m2 : Mx Str} (ha : EM X W Γ a .str m1) (hb : EM X W Γ b .str m2) : EC X W Γ .NotIn a b (m1 >>= fun x => m2 >>= fun y => ofO ((inSO x y).map fun r => !r)) := c_op (t1 := .str) (t2 := .str) (g := fun x y => (inSO x y).map fun r => !r) op_notIn_sign (fun x y z e v w F H Q s r1 r2 k => by
  cases (List.cons.inj (show [v] = _ from r1)).1
  cases (List.cons.inj (show [w] = _ from r2)).1
  cases h : inSO x y with
  | none => rw [h] at e; cases e
  | some r =>
    rw [h] at e
    cases (Option.some.inj e)
    obtain ⟨q, rfl, rfl⟩ := inSO_eq h
    exact ⟨q, y, rfl, rfl, k⟩) ha hb
theorem inV_strs {x : Str} : ∀ {xs : List Str}, inV (.str x) (xs.map V.str) = decide (x ∈ xs)
  | [] => by simp [inV]
  | y :: ys => by
    have ih := inV_strs (x := x) (xs := ys)
    unfold inV at ih ⊢
    rw [List.map_cons, List.any_cons, ih]
    show ((y == x) || decide (x ∈ ys)) = _
    by_cases h : x = y
    · subst h; simp
    · rw [show (y == x) = false from beq_eq_false_iff_ne.mpr (Ne.symm h), Bool.false_or]
      by_cases h2 : x ∈ ys
      · rw [decide_eq_true h2, decide_eq_true (List.mem_cons_of_mem _ h2)]
      · rw [decide_eq_false h2, decide_eq_false fun z => (List.mem_cons.mp z).elim h h2]
theorem inV_ints {x : Int} : ∀ {xs : List Int}, inV (.int x) (xs.map V.int) = decide (x ∈ xs)
  | [] => by simp [inV]
  | y :: ys => by
    have ih := inV_ints (x := x) (xs := ys)
    unfold inV at ih ⊢
    rw [List.map_cons, List.any_cons, ih]
    show ((y == x) || decide (x ∈ ys)) = _
    by_cases h : x = y
    · subst h; simp
    · rw [show (y == x) = false from beq_eq_false_iff_ne.mpr (Ne.symm h), Bool.false_or]
      by_cases h2 : x ∈ ys
      · rw [decide_eq_true h2, decide_eq_true (List.mem_cons_of_mem _ h2)]
      · rw [decide_eq_false h2, decide_eq_false fun z => (List.mem_cons.mp z).elim h h2]
/-- a flat item's code -/
inductive Fi : (t : Ty) → (t.den → V) → Prop
  | str : Fi .str V.str
  | int : Fi .int V.int
theorem fi_all {K : PySem.W.Frag} {mg : Str → Option Value} {f : t.den → V} (hf : Fi t f) {xs : List t.den} {ws : List V} (h : all2 (fun y v => rl K mg t y [v] F) xs ws) : ws = xs.map f ∧ ws.all flatV = true := by
  cases hf with
  | str =>
    refine ⟨all2_strs h, ?_⟩
    rw [all2_strs h, List.all_map]; exact List.all_eq_true.mpr fun _ _ => rfl
  | int =>
    refine ⟨all2_ints h, ?_⟩
    rw [all2_ints h, List.all_map]; exact List.all_eq_true.mpr fun _ _ => rfl
theorem fi_in {f : t.den → V} (hf : Fi t f) [DecidableEq t.den] {x : t.den} {xs : List t.den} : inV (f x) (xs.map f) = decide (x ∈ xs) := by
  cases hf with
  | str => rw [inV_strs]; exact decide_eq_decide.mpr Iff.rfl
  | int => rw [inV_ints]; exact decide_eq_decide.mpr Iff.rfl
theorem fi_one {K : PySem.W.Frag} {mg : Str → Option Value} {f : t.den → V} (hf : Fi t f) {x : t.den} {v : V} (r : rl K mg t x [v] F) : v = f x ∧ flatV v = true := by
  cases hf with
  | str => cases (List.cons.inj (show [v] = _ from r)).1; exact ⟨rfl, rfl⟩
  | int => cases (List.cons.inj (show [v] = _ from r)).1; exact ⟨rfl, rfl⟩
theorem c_inL [DecidableEq t.den] {f : t.den → V} {m1 : Mx t.den} {m2 : Mx (List t.den)} (hf : Fi t f) (ha : EM X W Γ a t m1) (hb : EM X W Γ b (.list t) m2) : EC X W Γ .In a b (m1 >>= fun x => m2 >>= fun y => .ok (decide (x ∈ y))) := c_op (t1 := t) (t2 := .list t) (g := fun x y => some (decide (x ∈ y))) op_in_seq (fun x y z e v w F H Q s r1 r2 k => by
  cases e
  obtain ⟨p, ws, e2, sq, rr⟩ := r2
  cases (List.cons.inj e2).1
  obtain ⟨e3, fl⟩ := fi_all hf rr
  obtain ⟨e4, fv⟩ := fi_one hf r1
  refine ⟨p, ws, rfl, .inl (SqL.of (s _ _ sq)), fv, fl, ?_⟩
  rw [e3, e4, fi_in hf]
  exact k) ha hb
theorem c_ninL [DecidableEq t.den] {f : t.den → V} {m1 : Mx t.den} {m2 : Mx (List t.den)} (hf : Fi t f) (ha : EM X W Γ a t m1) (hb : EM X W Γ b (.list t) m2) : EC X W Γ .NotIn a b (m1 >>= fun x => m2 >>= fun y => .ok (!decide (x ∈ y))) := c_op (t1 := t) (t2 := .list t) (g := fun x y => some (!decide (x ∈ y))) op_notIn_seq (fun x y z e v w F H Q s r1 r2 k => by
  cases e
  obtain ⟨p, ws, e2, sq, rr⟩ := r2
  cases (List.cons.inj e2).1
  obtain ⟨e3, fl⟩ := fi_all hf rr
  obtain ⟨e4, fv⟩ := fi_one hf r1
  refine ⟨p, ws, rfl, .inl (SqL.of (s _ _ sq)), fv, fl, ?_⟩
  rw [e3, e4, fi_in hf]
  exact k) ha hb
theorem c_inT [DecidableEq t.den] {f : t.den → V} {m1 : Mx t.den} {m2 : Mx (List t.den)} (hf : Fi t f) (ha : EM X W Γ a t m1) (hb : EM X W Γ b (.vtup t) m2) : EC X W Γ .In a b (m1 >>= fun x => m2 >>= fun y => .ok (decide (x ∈ y))) := c_op (t1 := t) (t2 := .vtup t) (g := fun x y => some (decide (x ∈ y))) op_in_seq (fun x y z e v w F H Q s r1 r2 k => by
  cases e
  obtain ⟨p, ws, e2, sq, rr⟩ := r2
  cases (List.cons.inj e2).1
  obtain ⟨e3, fl⟩ := fi_all hf rr
  obtain ⟨e4, fv⟩ := fi_one hf r1
  refine ⟨p, ws, rfl, .inr (sqT_same s sq), fv, fl, ?_⟩
  rw [e3, e4, fi_in hf]
  exact k) ha hb
theorem c_ninT [DecidableEq t.den] {f : t.den → V} {m1 : Mx t.den} {m2 : Mx (List t.den)} (hf : Fi t f) (ha : EM X W Γ a t m1) (hb : EM X W Γ b (.vtup t) m2) : EC X W Γ .NotIn a b (m1 >>= fun x => m2 >>= fun y => .ok (!decide (x ∈ y))) := c_op (t1 := t) (t2 := .vtup t) (g := fun x y => some (!decide (x ∈ y))) op_notIn_seq (fun x y z e v w F H Q s r1 r2 k => by
  cases e
  obtain ⟨p, ws, e2, sq, rr⟩ := r2
  cases (List.cons.inj e2).1
  obtain ⟨e3, fl⟩ := fi_all hf rr
  obtain ⟨e4, fv⟩ := fi_one hf r1
  refine ⟨p, ws, rfl, .inr (sqT_same s sq), fv, fl, ?_⟩
  rw [e3, e4, fi_in hf]
  exact k) ha hb
/-! ## a text walked, a list with its places -/
def signs (x : Str) : List Str := x.cps.toList.map fun k => ⟨#[k]⟩
theorem wlk_str {K : PySem.W.Frag} {mg : Str → Option Value} {x : Str} (F : Hp) : Wlk K mg .str (Its x) (signs x) F := by
  have hl : (signs x).length = x.cps.size := by simp [signs]
  refine ⟨fun i H _ h => by rw [hl] at h; exact h, fun i H _ h => by rw [hl] at h; exact h, fun i H v H3 s hi y => ?_⟩
  obtain ⟨rfl, k, hk, rfl⟩ := y
  refine ⟨⟨#[k]⟩, ?_, fun G g1 g2 => ⟨G, Ext.refl g2, rfl⟩⟩
  unfold signs
  rw [List.getElem?_map]
  have e : x.cps.toList[i]? = some k := by simpa using hk
  rw [e]; rfl
theorem i_str {m : Mx Str} (ha : EM X W Γ a .str m) : EI X W Γ tg a .str (m >>= fun x => .ok (signs x)) := pi_imp (pi_str ha) fun σ H R ⟨F, s, d, q⟩ => ⟨F, s, d, q.bind.mono fun x px v F1 H1 e1 r1 => by
  cases (List.cons.inj (show [v] = _ from r1)).1
  exact ⟨x, rfl, px F1 H1 _ e1 (wlk_str F1)⟩⟩
theorem r_str {m : Mx Str} (ha : EM X W Γ a .str m) : EIR X W Γ tg a .str (m >>= fun x => .ok (signs x)) := pi_imp (pi_str ha) fun σ H R ⟨F, s, d, q⟩ => ⟨F, s, d, q.bind.mono fun x px v F1 H1 e1 r1 => by
  cases (List.cons.inj (show [v] = _ from r1)).1
  exact ⟨x, rfl, px F1 H1 _ e1 (fun G => wlk_str G)⟩⟩
def enumL {α : Type} (xs : List α) : List (Int × α) := (List.range xs.length).zipWith (fun (i : Nat) x => ((i : Int), x)) xs
theorem enumL_len {α : Type} {xs : List α} : (enumL xs).length = xs.length := by simp [enumL]
theorem enumL_get {α : Type} {xs : List α} {i : Nat} {x : α} (h : xs[i]? = some x) : (enumL xs)[i]? = some ((i : Int), x) := by
  have hi : i < xs.length := (List.getElem?_eq_some_iff.mp h).1
  unfold enumL
  rw [List.getElem?_zipWith, List.getElem?_range hi, h]
theorem i_enumL {elts : List Expr} {kk : Nat} {tpos : Pos} {m : Mx (List t.den)} (hg : Gl X "enumerate") (hm : X.mg "enumerate" = none) (ha : EM X W Γ a (.list t) m) (ht : t.sing = true) (hs : starEach [a] X.env = [(false, eval a X.env)]) :
    EI X W Γ (.Tuple elts kk tpos) (.Call (.Name "enumerate" p) [a] [] pos) (.tup (.pr .int t)) (m >>= fun xs => .ok (enumL xs)) :=
  pi_imp (pi_enum hg hm (ea_one ha hs) hs) fun σ H R ⟨F, s, d, q⟩ => ⟨F, s, d, q.bind.mono fun x px vs F1 H1 e1 r1 => by
    obtain ⟨l, ws, e, sq, rr⟩ := r1
    refine ⟨l, ws, e, SqL.of (e1.i _ _ sq), px F1 H1 _ e1 ⟨fun i H s hi => ?_, fun i H s hi => ⟨ws, SqL.of (s _ _ sq), by rw [← rr.len, ← enumL_len]; exact hi⟩, fun i H v H3 s hi y => ?_⟩⟩
    · rw [enumL_len] at hi
      obtain ⟨v, h1, _⟩ := rr.get (List.getElem?_eq_getElem hi)
      exact ⟨ws, v, SqL.of (s _ _ sq), h1⟩
    · obtain ⟨T, z, rfl, nT, rfl, f⟩ := y
      obtain ⟨y, h1, h2⟩ := rr.getV (f ws (SqL.of (s _ _ sq)))
      refine ⟨((i : Int), y), enumL_get h1, fun G g1 g2 => ?_⟩
      have e2 := Ext.new (o := .tup [.int (i : Nat), z]) g2 nT
      exact ⟨_, e2, T, _, rfl, SqT.of upd_same, .int (i : Nat), [z], rfl, rfl, rl_mono (g1.trans e2.f) t y [z] h2⟩⟩
end
end Gm
set_option Elab.async false
set_option linter.all false
set_option maxRecDepth 100000
set_option maxHeartbeats 4000000
namespace Gm
open PySem PySem.Spec L2
open PyProof.Rows (envOfC)

/-! ## attributes -/
def fidx : List Str → Str → Option Nat
  | [], _ => none
  | g :: r, f => if f = g then some 0 else (fidx r f).map (· + 1)
theorem lookup_fidx {f : Str} {v : V} : ∀ {ns : List Str} {ws : List V} {n : Nat}, fidx ns f = some n → ws[n]? = some v → (ns.zip ws).lookup f = some v
  | [], _, _, h, _ => nomatch h
  | g :: r, [], _, _, h => by simp at h
  | g :: r, w :: ws, n, h, h2 => by
    have h : (if f = g then some 0 else (fidx r f).map (· + 1)) = some n := h
    rw [List.zip_cons_cons, List.lookup_cons]
    by_cases e : f = g
    · rw [if_pos e] at h
      cases h
      rw [show (f == g) = true from beq_iff_eq.mpr e]
      simpa using h2
    · rw [if_neg e] at h
      rw [show (f == g) = false from beq_eq_false_iff_ne.mpr e]
      cases h3 : fidx r f with
      | none => rw [h3] at h; cases h
      | some m =>
        rw [h3] at h
        cases h
        exact lookup_fidx (ns := r) h3 (by simpa using h2)
theorem putF_new {f : Str} {v : V} : ∀ {ns : List Str} {ws : List V}, fidx ns f = none → ns.length = ws.length → putF f v (ns.zip ws) = (ns ++ [f]).zip (ws ++ [v])
  | [], [], _, _ => rfl
  | [], _ :: _, _, h => by cases h
  | _ :: _, [], _, h => by cases h
  | g :: r, w :: ws, h, hl => by
    have h : (if f = g then some 0 else (fidx r f).map (· + 1)) = none := h
    have e : ¬ f = g := fun e => by rw [if_pos e] at h; cases h
    rw [if_neg e] at h
    have h3 : fidx r f = none := by
      cases h3 : fidx r f with
      | none => rfl
      | some m => rw [h3] at h; cases h
    show putF f v ((g, w) :: r.zip ws) = (g, w) :: (r ++ [f]).zip (ws ++ [v])
    rw [← putF_new h3 (Nat.succ.inj hl)]
    exact if_neg (fun z => e z.symm)
theorem putF_old {f : Str} {v : V} : ∀ {ns : List Str} {ws : List V} {n : Nat}, fidx ns f = some n → ns.length = ws.length → putF f v (ns.zip ws) = ns.zip (ws.set n v)
  | [], _, _, h, _ => nomatch h
  | _ :: _, [], _, _, h => by cases h
  | g :: r, w :: ws, n, h, hl => by
    have h : (if f = g then some 0 else (fidx r f).map (· + 1)) = some n := h
    by_cases e : f = g
    · rw [if_pos e] at h
      cases h
      subst e
      exact if_pos rfl
    · rw [if_neg e] at h
      cases h3 : fidx r f with
      | none => rw [h3] at h; cases h
      | some m =>
        rw [h3] at h
        cases h
        show putF f v ((g, w) :: r.zip ws) = (g, w) :: r.zip (ws.set m v)
        rw [← putF_old h3 (Nat.succ.inj hl)]
        exact if_neg (fun z => e z.symm)
section
variable {X : Cx} {W : WX} {hk : List Nat} {Γ Γ' Γv : Ctx} {st : Stmt} {rest : List Stmt} {a b e : Expr} {es : List Expr} {pos p p' apos : Pos} {β : Type} {r : Rt} {t : Ty} {I : β → Out} {c f : Str} {ns : List Str} {C : Addr} {n : Nat}
theorem e_attr {fs : Ty} {π : fs.den → t.den} {m : Mx fs.den} (hc : X.mg c = some (.ref C)) (cl : Cls X.K C) (na : NoAttr X.K C f) (hi : fidx ns f = some n) (hf : Fl fs n t π) (ha : EM X W Γ a (.ins c ns fs) m) (hb : attributeBase a f X.env (eval a X.env) = eval a X.env) :
    EM X W Γ (.Attribute a f pos) t (m >>= fun x => .ok (π x)) := pe_imp (pe_fld ha hb) fun σ H Q ⟨F, s, d, q⟩ => ⟨F, s, d, q.bind.mono fun x px v F1 H1 e1 r1 => by
  obtain ⟨q, C', dx, ws, e2, mc, h1, hl, rr⟩ := r1
  rw [hc] at mc; cases mc
  cases (List.cons.inj e2).1
  obtain ⟨u, h2, h3⟩ := hf.at_ rr
  exact ⟨q, C, dx, _, u, rfl, e1.i _ _ h1, cl, na, lookup_fidx hi h2, px u F1 H1 e1 h3⟩⟩
end
/-! ## a field more -/
def Ow.snoc : Ow → Ty → Ow
  | .pr a b, t => .pr a (b.snoc t)
  | .nl, t => .pr (.d t) .nl
  | o, _ => o
def snocV : (o : Ow) → (t : Ty) → o.ty.den → t.den → (o.snoc t).ty.den
  | .pr _ b, t, x, v => (x.1, snocV b t x.2 v)
  | .nl, _, _, v => (v, ())
  | .d _, _, x, _ => x
  | .l _, _, x, _ => x
  | .ins _ _ _, _, x, _ => x
  | .dic _ _, _, x, _ => x
  | .dicN _ _ _ _, _, x, _ => x
  | .opt _, _, x, _ => x
  | .hl _, _, x, _ => x
def Ow.isCh : Ow → Bool
  | .pr _ b => b.isCh
  | .nl => true
  | _ => false
section
variable {K : PySem.W.Frag} {mg : Str → Option Value} {F H : Hp} {t : Ty}
theorem ol_snoc {v : V} {y : t.den} (rv : rl K mg t y [v] F) : ∀ {o : Ow}, o.isCh = true → ∀ {x : o.ty.den} {ws : List V} {fp : List Addr}, ol K mg o x ws F H fp → ol K mg (o.snoc t) (snocV o t x y) (ws ++ [v]) F H fp
  | .nl, _, x, ws, fp, h => by
    obtain ⟨rfl, rfl⟩ := h
    exact ⟨v, [], [], [], rfl, rfl, ⟨rfl, rv⟩, rfl, rfl⟩
  | .pr a b, hc, x, ws, fp, h => by
    obtain ⟨u, r, f1, f2, rfl, rfl, h1, h2⟩ := h
    exact ⟨u, r ++ [v], f1, f2, rfl, rfl, h1, ol_snoc rv (o := b) hc h2⟩
  | .d _, hc, _, _, _, _ => nomatch hc
  | .l _, hc, _, _, _, _ => nomatch hc
  | .ins _ _ _, hc, _, _, _, _ => nomatch hc
  | .dic _ _, hc, _, _, _, _ => nomatch hc
  | .dicN _ _ _ _, hc, _, _, _, _ => nomatch hc
  | .opt _, hc, _, _, _, _ => nomatch hc
  | .hl _, hc, _, _, _, _ => nomatch hc
/-- a data field changed -/
inductive Fu : (o : Ow) → Nat → (t : Ty) → (o.ty.den → t.den → o.ty.den) → Prop
  | hd {t : Ty} {b : Ow} : Fu (.pr (.d t) b) 0 t (fun x v => (v, x.2))
  | tl {a b : Ow} {t : Ty} {n : Nat} {u : b.ty.den → t.den → b.ty.den} (h : Fu b n t u) : Fu (.pr a b) (n + 1) t (fun x v => (x.1, u x.2 v))
theorem Fu.ol_ {o : Ow} {n : Nat} {u : o.ty.den → t.den → o.ty.den} (h : Fu o n t u) {v : V} {y : t.den} (rv : rl K mg t y [v] F) : ∀ {x : o.ty.den} {ws : List V} {fp : List Addr}, ol K mg o x ws F H fp → ol K mg o (u x y) (ws.set n v) F H fp := by
  induction h with
  | hd =>
    intro x ws fp q
    obtain ⟨w, r, f1, f2, rfl, rfl, h1, h2⟩ := q
    obtain ⟨rfl, h1⟩ := h1
    exact ⟨v, r, [], f2, rfl, rfl, ⟨rfl, rv⟩, h2⟩
  | tl h ih =>
    intro x ws fp q
    obtain ⟨w, r, f1, f2, rfl, rfl, h1, h2⟩ := q
    exact ⟨w, _, f1, f2, rfl, rfl, h1, ih rv h2⟩
theorem ol_frm {o : Ow} {x : o.ty.den} {ws : List V} {fp : List Addr} {q : Addr} {ob : HO} (h : ol K mg o x ws F H fp) (nq : q ∉ fp) : ol K mg o x ws F (upd H q ob) fp :=
  ol_frame (Same.refl F) o x ws fp (fun a ha => upd_ne fun z => nq (z ▸ ha)) h
/-- what a slot owns is written -/
theorem SG.writeO {E : Ent} {Γ : Ctx} {σ : L2.St} {i : Nat} {o o' : Ow} {x : o.ty.den} {x' : o'.ty.den} {v : V} {q : Addr} {ob : HO} (g : SG K mg E Γ σ F H) (hi : Γ[i]? = some (.o o x)) (hq : σ[i]? = some (some v))
    (k : ∀ fp : List Addr, fp.Nodup → ol K mg o x [v] F H fp → q ∈ fp ∧ ol K mg o' x' [v] F (upd H q ob) fp) : SG K mg E (Γ.set i (.o o' x')) σ F (upd H q ob) := by
  obtain ⟨e0, kp, fps, w⟩ := g
  obtain ⟨ov, e1, v', rfl, ho⟩ := w.at_ i _ hi
  rw [hq] at e1; cases e1
  have hil : i < Γ.length := (List.getElem?_eq_some_iff.mp hi).1
  obtain ⟨hqi, ho'⟩ := k _ (w.nd i) ho
  have nF : F q = none := (w.new i q hqi).1
  have nB : E.B q = none := (w.new i q hqi).2
  refine ⟨⟨e0.f, fun b z eb => ?_, fun b z eb => ?_, e0.n⟩, kp, fps, fun j s ej => ?_, fun j ej => ?_, w.nd, w.sep, w.new⟩
  · rw [upd_ne (fun y => by rw [y, nB] at eb; cases eb)]; exact e0.h _ _ eb
  · rw [upd_ne (fun y => by rw [y, nF] at eb; cases eb)]; exact e0.i _ _ eb
  · by_cases hj : j = i
    · subst hj
      rw [List.getElem?_set_self hil] at ej
      cases ej
      exact ⟨_, hq, _, rfl, ho'⟩
    · rw [List.getElem?_set_ne (Ne.symm hj)] at ej
      obtain ⟨ov, e1, r'⟩ := w.at_ j s ej
      exact ⟨ov, e1, so_frame (Same.refl _) (fun a ha => upd_ne fun z => w.sep j i hj a ha (by rw [z]; exact hqi)) r'⟩
  · by_cases hj : j = i
    · subst hj
      rw [List.getElem?_set_self hil] at ej; cases ej
    · rw [List.getElem?_set_ne (Ne.symm hj)] at ej
      exact w.out j ej
end
section
variable {X : Cx} {W : WX} {hk : List Nat} {Γ Γ' Γv : Ctx} {st : Stmt} {rest : List Stmt} {a b e : Expr} {es : List Expr} {pos p p' apos : Pos} {β : Type} {r : Rt} {t : Ty} {I : β → Out} {c f x : Str} {ns : List Str} {C : Addr} {n : Nat} {fs : Ow}
/-- self.f = e, a new field -/
theorem b_fld (i : Nat) {y : fs.ty.den} {me : Mx t.den} {k : t.den → Mx β} (hi : Γ[i]? = some (.o (.ins c ns fs) y)) (hx : PE X (.Name x p) (tVar i)) (hc : X.mg c = some (.ref C)) (cl : Cls X.K C) (na : NoAttr X.K C f) (hn : fidx ns f = none) (hch : fs.isCh = true) (hlen : Nat.ble (ns.length + 1) 1000 = true)
    (he : EM X W Γv e t me) (vw : Vw Γ (.d t) Γv) (hr : ∀ v, BS X W hk (Γ.set i (.o (.ins c (ns ++ [f]) (fs.snoc t)) (snocV fs t y v))) rest (k v) I) (hs : swapsWith e (some (.Attribute (.Name x p) f p')) pos.line X.env = pure false) :
    BS X W hk Γ (.Assign [.Attribute (.Name x p) f p'] e pos :: rest) (me >>= k) I :=
  have hr' : PSs X rest (fun D σ H => ∃ v, tS X.K X.mg W hk (Γ.set i (.o (.ins c (ns ++ [f]) (fs.snoc t)) (snocV fs t y v))) (k v) I D σ H) := ⟨fun pins s σ H D J ⟨v, q⟩ => (hr v).run pins s σ H D J q⟩
  pss_imp (pss_cons (ps_fld hx he hs) hr') fun D σ H ⟨E, F, h, g, q⟩ => by
    obtain ⟨fps, w⟩ := g.ow
    obtain ⟨ov, e1, v0, rfl, ho⟩ := w.at_ i _ hi
    obtain ⟨G, g1, g2, g3⟩ := g.look vw
    refine ⟨G, g1, g2, q.bind.post g (fun F' H' x => let ⟨F2, a, _, b⟩ := g3 F' H' x; ⟨F2, a, b⟩) fun z pz u F' H' ex ru => ?_⟩
    obtain ⟨F2, x2, back, _⟩ := g3 F' H' ex
    have ru2 : rl X.K X.mg t z [u] F2 := back z u ru
    obtain ⟨q, C', dx, ws, fp', e2, e3, mc, h1, h2, hl, oo⟩ := ho
    rw [hc] at mc; cases mc
    cases (List.cons.inj e2).1
    refine ⟨.ref q, e1, q, C, dx, ns.zip ws, rfl, x2.h _ _ h1, cl, na, ?_, z, E, F2, h, ?_, pz⟩
    · have := Nat.le_of_ble_eq_true hlen
      rw [List.length_zip, ← hl]; omega
    · rw [putF_new hn hl]
      refine (g.grow x2).writeO hi e1 fun fp nd ho => ?_
      obtain ⟨q', C', dx', ws', fp2, e4, rfl, mc, h3, h4, hl', oo'⟩ := ho
      cases (List.cons.inj e4).1
      rw [hc] at mc; cases mc
      rw [x2.h _ _ h1] at h3
      obtain ⟨_, ed, e5⟩ := HO.ins.inj (Option.some.inj h3)
      subst ed
      have nq : q ∉ dx :: fp2 := (List.nodup_cons.mp nd).1
      have ew : ws = ws' := by
        have := congrArg (List.map Prod.snd) e5
        rwa [List.map_snd_zip (by omega), List.map_snd_zip (by omega)] at this
      subst ew
      refine ⟨List.mem_cons_self .., q, C, dx, ws ++ [u], fp2, rfl, rfl, hc, upd_same, ?_, by rw [List.length_append, List.length_append, hl]; rfl, ol_frm (ol_snoc ru2 hch oo') fun z => nq (List.mem_cons_of_mem _ z)⟩
      rw [upd_ne (fun z => nq (by rw [z]; exact List.mem_cons_self ..))]; exact h4
/-- self.f = e, a field of before -/
theorem b_fldW (i : Nat) {y : fs.ty.den} {u : fs.ty.den → t.den → fs.ty.den} {me : Mx t.den} {k : t.den → Mx β} (hi : Γ[i]? = some (.o (.ins c ns fs) y)) (hx : PE X (.Name x p) (tVar i)) (hc : X.mg c = some (.ref C)) (cl : Cls X.K C) (na : NoAttr X.K C f) (hn : fidx ns f = some n) (hu : Fu fs n t u) (hlen : Nat.ble (ns.length + 1) 1000 = true)
    (he : EM X W Γv e t me) (vw : Vw Γ (.d t) Γv) (hr : ∀ v, BS X W hk (Γ.set i (.o (.ins c ns fs) (u y v))) rest (k v) I) (hs : swapsWith e (some (.Attribute (.Name x p) f p')) pos.line X.env = pure false) :
    BS X W hk Γ (.Assign [.Attribute (.Name x p) f p'] e pos :: rest) (me >>= k) I :=
  have hr' : PSs X rest (fun D σ H => ∃ v, tS X.K X.mg W hk (Γ.set i (.o (.ins c ns fs) (u y v))) (k v) I D σ H) := ⟨fun pins s σ H D J ⟨v, q⟩ => (hr v).run pins s σ H D J q⟩
  pss_imp (pss_cons (ps_fld hx he hs) hr') fun D σ H ⟨E, F, h, g, q⟩ => by
    obtain ⟨fps, w⟩ := g.ow
    obtain ⟨ov, e1, v0, rfl, ho⟩ := w.at_ i _ hi
    obtain ⟨G, g1, g2, g3⟩ := g.look vw
    refine ⟨G, g1, g2, q.bind.post g (fun F' H' x => let ⟨F2, a, _, b⟩ := g3 F' H' x; ⟨F2, a, b⟩) fun z pz v F' H' ex ru => ?_⟩
    obtain ⟨F2, x2, back, _⟩ := g3 F' H' ex
    have ru2 : rl X.K X.mg t z [v] F2 := back z v ru
    obtain ⟨q, C', dx, ws, fp', e2, e3, mc, h1, h2, hl, oo⟩ := ho
    rw [hc] at mc; cases mc
    cases (List.cons.inj e2).1
    refine ⟨.ref q, e1, q, C, dx, ns.zip ws, rfl, x2.h _ _ h1, cl, na, ?_, z, E, F2, h, ?_, pz⟩
    · have := Nat.le_of_ble_eq_true hlen
      rw [List.length_zip, ← hl]; omega
    · rw [putF_old hn hl]
      refine (g.grow x2).writeO hi e1 fun fp nd ho => ?_
      obtain ⟨q', C', dx', ws', fp2, e4, rfl, mc, h3, h4, hl', oo'⟩ := ho
      cases (List.cons.inj e4).1
      rw [hc] at mc; cases mc
      rw [x2.h _ _ h1] at h3
      obtain ⟨_, ed, e5⟩ := HO.ins.inj (Option.some.inj h3)
      subst ed
      have nq : q ∉ dx :: fp2 := (List.nodup_cons.mp nd).1
      have ew : ws = ws' := by
        have := congrArg (List.map Prod.snd) e5
        rwa [List.map_snd_zip (by omega), List.map_snd_zip (by omega)] at this
      subst ew
      refine ⟨List.mem_cons_self .., q, C, dx, ws.set n v, fp2, rfl, rfl, hc, upd_same, ?_, by rw [List.length_set, hl], ol_frm (hu.ol_ ru2 oo') fun z => nq (List.mem_cons_of_mem _ z)⟩
      rw [upd_ne (fun z => nq (by rw [z]; exact List.mem_cons_self ..))]; exact h4
end
/-! ## an instance made -/
section
variable (K : PySem.W.Frag) (mg : Str → Option Value)
/-- what an __init__ promises -/
def spI (c : Str) (ts : Ty) (ns : List Str) (fs : Ow) (f : ts.den → Mx fs.ty.den) : Sp := fun vs H Q E => ∃ (F B : Hp) (x : ts.den) (p dx C : Addr) (vs' : List V), vs = .ref p :: vs' ∧ mg c = some (.ref C) ∧ H = upd (upd B dx (.own p)) p (.ins C dx []) ∧ B p = none ∧ B dx = none ∧ dx ≠ p ∧ Same F B ∧ rl K mg ts x vs' F ∧
  match f x with
  | .ok y => ∀ F' H', Ext F B F' H' → rtr K mg (.o (.ins c ns fs)) y (.ref p) B F' H' → Q .non H'
  | .ex e => ∀ cls d F' H', Ext F B F' H' → xr mg e cls d F' → E cls d H'
  | .no => False
end
section
variable {P : Program} {w : World} {K : PySem.W.Frag} {mg : Str → Option Value} {base : Heap}
def ctxI (c : Str) (ts : Ty) (x : ts.den) (n : Nat) : Ctx := .o (.ins c [] .nl) () :: ctx0 ts x n
def endI (c : Str) (ns : List Str) (fs : Ow) (y : fs.ty.den) (n : Nat) : Ctx := .o (.ins c ns fs) y :: List.replicate n .no
theorem sg_init {F B : Hp} {ts : Ty} {n : Nat} {x : ts.den} {vs : List V} {N : List Str} {c : Str} {p dx C : Addr} (hc : mg c = some (.ref C)) (hs : Same F B) (np : B p = none) (nd : B dx = none) (ne : dx ≠ p) (ha : ts.args = some n) (hN : 1 ≤ N.length) (r : rl K mg ts x vs F) :
    SG K mg ⟨F, B, [0], L2.start N (.ref p :: vs)⟩ (ctxI c ts x (N.length - (n + 1))) (L2.start N (.ref p :: vs)) F (upd (upd B dx (.own p)) p (.ins C dx [])) := by
  obtain ⟨h1, h2, h3⟩ := args_len ha r
  have sB : Same B (upd (upd B dx (.own p)) p (.ins C dx [])) := fun b o e => by
    rw [upd_ne (fun z => by rw [z, np] at e; cases e), upd_ne (fun z => by rw [z, nd] at e; cases e)]; exact e
  refine ⟨⟨Same.refl F, sB, hs.trans sB, fun q _ h => h⟩, fun i hi => rfl, fun j => if j = 0 then [p, dx] else [], fun i s e => ?_, fun i e => ?_, fun i => ?_, fun i j hij a ha => ?_, fun i a ha => ?_⟩
  · cases i with
    | zero =>
      have e : some (Slot.o (.ins c [] .nl) ()) = some s := e
      cases e
      refine ⟨some (.ref p), rfl, .ref p, rfl, p, C, dx, [], [], rfl, rfl, hc, upd_same, ?_, rfl, rfl, rfl⟩
      rw [upd_ne ne, upd_same]
    | succ i =>
      have e : (ctx0 ts x (N.length - (n + 1)))[i]? = some s := e
      unfold ctx0 at e
      by_cases hi : i < n
      · rw [List.getElem?_append_left (by rw [h2]; exact hi)] at e
        obtain ⟨v, e1, t, y, rfl, r'⟩ := h3 i s e
        refine ⟨some v, ?_, by rw [if_neg (Nat.succ_ne_zero i)], v, rfl, r'⟩
        unfold L2.start
        rw [List.map_cons, List.cons_append, List.getElem?_cons_succ, List.getElem?_append_left (by rw [List.length_map, h1]; exact hi), List.getElem?_map, e1]; rfl
      · rw [List.getElem?_append_right (by rw [h2]; omega), h2, List.getElem?_replicate] at e
        split at e
        · rename_i hlt
          cases e
          refine ⟨none, ?_, by rw [if_neg (Nat.succ_ne_zero i)]; exact rfl⟩
          unfold L2.start
          rw [List.map_cons, List.cons_append, List.getElem?_cons_succ, List.getElem?_append_right (by rw [List.length_map, h1]; omega), List.length_map, h1, List.getElem?_replicate, if_pos (by rw [List.length_cons, h1]; omega)]
        · cases e
  · cases i with
    | zero => cases e
    | succ i => exact if_neg (Nat.succ_ne_zero i)
  · by_cases h : i = 0
    · rw [if_pos h]
      exact List.nodup_cons.mpr ⟨fun z => ne (List.mem_singleton.mp z).symm, List.nodup_cons.mpr ⟨List.not_mem_nil, List.nodup_nil⟩⟩
    · rw [if_neg h]; exact List.nodup_nil
  · by_cases h : i = 0
    · rw [if_neg (fun z => hij (h.trans z.symm))]; exact fun z => nomatch z
    · rw [if_neg h] at ha; cases ha
  · by_cases h : i = 0
    · rw [if_pos h] at ha
      rcases List.mem_cons.mp ha with rfl | ha
      · exact ⟨hs.free np, np⟩
      · rw [List.mem_singleton.mp ha]; exact ⟨hs.free nd, nd⟩
    · rw [if_neg h] at ha; cases ha
theorem fn_bodyI {x qual : Str} {st : Stmt} {f : Addr} {fd : FuncData} {dvs : List V} {kws : List (Str × V)} {N ps : List Str} {k : Nat} {ts : Ty} {c : Str} {ns : List Str} {fs : Ow} {g : ts.den → Mx fs.ty.den} {n : Nat} (F : FunD K x qual (defArgs st) (defBody st) (defScope st) dvs kws f fd) (S : FnScope N ps (defScope st)) (hp : ps.length = n + 1) (ha : ts.args = some n) (hN : 1 ≤ N.length)
    (hb : ∀ (cdv : Value) (A : Around) (outer : List Env) (s : Shared) (H : Hp) (E : XK), Room k (A.deeper (envOfC qual (defScope st) s.heap.objs.size f cdv)) → Takes (cxOf (L2.CX P w) P w K mg base N qual (defScope st) f cdv A outer s H E) (fun cls d _ H => E cls d H) →
      PassesOwn (model P w) (A.deeper (envOfC qual (defScope st) s.heap.objs.size f cdv)) (envOfC qual (defScope st) s.heap.objs.size f cdv) (cxOf (L2.CX P w) P w K mg base N qual (defScope st) f cdv A outer s H E).xe →
      ∀ x : ts.den, BS (cxOf (L2.CX P w) P w K mg base N qual (defScope st) f cdv A outer s H E) (fun cls d _ H => E cls d H) [0] (ctxI c ts x (N.length - (n + 1))) (defBody st) (g x) (fun y => .nx (endI c ns fs y (N.length - 1)))) :
    FnOk P w K mg base (L2.CX P w) (k + 1) f fd ps (spI K mg c ts ns fs g) := by
  refine F.ok S (fun vs H Q E h => ?_) (fun cdv A outer s H vs Q E hr h => ?_)
  · obtain ⟨G, B, y, p, dx, C, vs', rfl, _, _, _, _, _, _, rr, _⟩ := h
    rw [List.length_cons, (args_len ha rr).1, hp]
  · obtain ⟨G, B, y, p, dx, C, vs', rfl, hc, rfl, np, nd, ne, hs, rr, q⟩ := h
    refine ⟨_, hb cdv A outer s _ E hr (takes_of rfl rfl rfl rfl) (passes_of rfl) y, ⟨G, B, [0], L2.start N (.ref p :: vs')⟩, G, rfl, sg_init hc hs np nd ne ha hN rr, ?_⟩
    cases e : g y with
    | no => rw [e] at q; exact q
    | ex z => rw [e] at q; exact fun cls d σ F' H' x _ r => q cls d F' H' x r
    | ok z =>
      rw [e] at q
      intro σ F' H' sg
      obtain ⟨fps, w⟩ := sg.ow
      obtain ⟨ov, e1, v, rfl, ho⟩ := w.at_ 0 _ rfl
      have e2 := sg.kp 0 (List.mem_singleton.mpr rfl)
      have e3 : (L2.start N (.ref p :: vs'))[0]? = some (some (.ref p)) := rfl
      rw [e1, e3] at e2
      cases e2
      exact q F' H' sg.e0 ⟨fps 0, ho, w.nd 0, w.new 0⟩
end
end Gm
set_option Elab.async false
set_option linter.all false
set_option maxRecDepth 100000
set_option maxHeartbeats 4000000
namespace Gm
open PySem PySem.Spec L2

section
variable {X : Cx} {W : WX} {Γ : Ctx} {a b e : Expr} {es : List Expr} {kws : List Keyword} {pos p p' apos : Pos} {r : Rt} {t : Ty} {c f x m : Str} {ns ps ks : List Str} {C fI g : Addr} {n k : Nat} {fd : FuncData} {fs : Ow}
/-! ## C(..): the run of a new instance -/
theorem run_new {pins : List (Addr × Obj)} {σ : L2.St} {H : Hp} {s : Shared} {Q : VK} {sp : Sp} {E : XK} {us : List Value} {kw : List (Str × Value)} {gv : Addr → List V} (M : Mk X.K C fI) (Fn : FnOk X.prog X.w X.K X.mg X.base (L2.CX X.prog X.w) k fI fd ps sp) (hr : Room (k + 1) X.A) (hx : PassesAt (L2.CX X.prog X.w) X σ E)
    (J : Inv X pins σ H s) (hb : ∀ (s' : Shared) (q : Addr), X.K.In s'.heap → (gv q).length = ps.length → ∃ zs : List Value, BindsTo s' fd ⟨.ref q :: us, kw⟩ (ps.zip zs) ∧ Vals (gv q) zs)
    (h : ∀ q dx, H q = none → H dx = none → dx ≠ q → sp (gv q) (upd (upd H dx (.own q)) q (.ins C dx [])) (fun v H2 => v = .non ∧ Q (.ref q) H2) E) :
    wpAny (model X.prog X.w) X.A (call (.ref C) us kw) (EP X pins σ Q) X.xe s := by
  have nw : s.heap.objs.size ≠ s.heap.objs.size + 1 := Nat.ne_of_lt (Nat.lt_succ_self _)
  have hq := h (s.heap.objs.size + 1) s.heap.objs.size (J.hok.fresh (Nat.le_succ _)) (J.hok.fresh (Nat.le_refl _)) nw
  have J2 := Inv.made (C := C) J
  obtain ⟨zs, b1, b2⟩ := hb _ (s.heap.objs.size + 1) J2.kIn (Fn.len _ _ _ _ hq)
  have run := Fn.run _ X.stack _ _ ⟨.ref (s.heap.objs.size + 1) :: us, kw⟩ zs (gv (s.heap.objs.size + 1)) _ E (hr.make C us kw) (J2.env0.make C us kw) b1 b2 hq
  refine wpAny_call (make_map (f := fI) J.kIn M.makes M.init (beq_iff_eq.mp M.fn) (codeAny_mono run fun res s' z => ?_))
  cases res with
  | error er => exact hx pins _ _ er s' J2 z
  | ok fl =>
    cases fl with
    | next => exact z.elim
    | brk => exact z.elim
    | cont => exact z.elim
    | ret u =>
      obtain ⟨v, H', J3, rv, ev, q3⟩ := J2.after z
      subst ev
      exact ⟨rv, .ref (s.heap.objs.size + 1), H', J3, rfl, q3⟩
/-- the reading of a new instance -/
def tNew (C : Addr) (sp : Sp) (gv : List V → Addr → List V) (E : L2.St → XK) (ta : TA) : TE := fun σ H Q => ta σ H fun vs H1 => ∀ q dx, H1 q = none → H1 dx = none → dx ≠ q →
  sp (gv vs q) (upd (upd H1 dx (.own q)) q (.ins C dx [])) (fun v H2 => v = .non ∧ Q (.ref q) H2) (E σ)
theorem pe_new {sp : Sp} {ta : TA} (M : Mk X.K C fI) (Fn : FnOk X.prog X.w X.K X.mg X.base (L2.CX X.prog X.w) k fI fd ps sp) (hr : Room (k + 1) X.A) (hg : Gl X x) (hm : X.mg x = some (.ref C)) (hb : Binds X.K fd ps []) (tk : Takes X W) (ha : PA X (e :: es) ta)
    (hdb : (x == ("__debug__" : Str)) = false) (he : starEach (e :: es) X.env = (false, eval e X.env) :: starEach es X.env) (hpl : (backTo pos (starEach es X.env)).any (·.1) = false) :
    PE X (.Call (.Name x p) (e :: es) [] pos) (tNew C sp (fun vs q => .ref q :: vs) (WE W) ta) := ⟨fun pins s σ H Q J h => by
  refine wpAny_Call_Name_kw (ld_glob J hg hm ?_ hdb)
  refine PySem.W.callWith_K (h₀ := X.base) J.ok.mod.kin M.kp (thn (ha.run pos pins s σ H _ J h) fun us s1 ⟨vs, H1, J1, rv, q⟩ => ⟨J1.kIn, ?_⟩) he hpl
  refine run_new (gv := fun q => .ref q :: vs) M Fn hr (passAt tk σ) J1 (fun s' q' kin hl => ⟨.ref q' :: us, ?_, .cons rfl rv⟩) q
  have := hb s' (.ref q' :: us) kin (by rw [List.append_nil, List.length_cons, ← rv.length]; exact hl)
  rw [List.append_nil] at this
  exact this⟩
theorem pe_new0 {sp : Sp} (M : Mk X.K C fI) (Fn : FnOk X.prog X.w X.K X.mg X.base (L2.CX X.prog X.w) k fI fd ps sp) (hr : Room (k + 1) X.A) (hg : Gl X x) (hm : X.mg x = some (.ref C)) (hb : Binds X.K fd ps []) (tk : Takes X W) (hdb : (x == ("__debug__" : Str)) = false) :
    PE X (.Call (.Name x p) [] [] pos) (tNew C sp (fun vs q => .ref q :: vs) (WE W) tNil) := ⟨fun pins s σ H Q J h => by
  refine wpAny_Call_Name_kw (ld_glob J hg hm ?_ hdb)
  refine PySem.W.callWith_K0 J.kIn M.kp (run_new (us := []) (gv := fun q => [.ref q]) M Fn hr (passAt tk σ) J (fun s' q' kin hl => ⟨[.ref q'], ?_, .cons rfl .nil⟩) h)
  exact hb s' [.ref q'] kin hl⟩
/-- C(k = v, ..) -/
theorem pe_newK {sp : Sp} {tk' : TA} {gA : List Value → List Value → List Value} {gV : List V → List V → List V} (M : Mk X.K C fI) (Fn : FnOk X.prog X.w X.K X.mg X.base (L2.CX X.prog X.w) k fI fd ps sp) (hr : Room (k + 1) X.A) (hg : Gl X x) (hm : X.mg x = some (.ref C)) (hb : KBn X.K fd ps 1 ks gA gV) (tk : Takes X W) (hkw : PK X kws tk')
    (hall : (backToKw pos (keywordEach kws X.env)).all (·.1.isSome) = true) (hks : (backToKw pos (keywordEach kws X.env)).filterMap (·.1) = ks) (hdb : (x == ("__debug__" : Str)) = false) (hlen : ∀ σ H Q, tk' σ H Q → tk' σ H fun zs H1 => zs.length = ks.length ∧ Q zs H1)
    (hpl : ((backTo pos (starEach [] X.env)).any (·.1) || (backToKw pos (keywordEach kws X.env)).any (·.1.isNone)) = false) :
    PE X (.Call (.Name x p) [] kws pos) (tNew C sp (fun zs q => gV [.ref q] zs) (WE W) tk') := ⟨fun pins s σ H Q J h => by
  refine wpAny_Call_Name_kw (ld_glob J hg hm ?_ hdb)
  refine PySem.W.callWith_KW0 (h₀ := X.base) J.ok.mod.kin M.kp hall ?_ hpl
  refine thn (hkw.run pos pins s σ H _ J (hlen _ _ _ h)) fun ws s2 ⟨zs, H2, J2, rz, l2, q⟩ => ⟨J2.kIn, ?_⟩
  rw [hks]
  refine run_new (us := []) (gv := fun q => gV [.ref q] zs) M Fn hr (passAt tk σ) J2 (fun s' q' kin hl => ⟨gA [.ref q'] ws, hb.to s' [.ref q'] ws kin rfl (rz.length.symm.trans l2), hb.rel (.cons rfl .nil) rz⟩) q⟩
/-! ## typed -/
abbrev EK (X : Cx) (W : WX) (Γ : Ctx) (kws : List Keyword) (ts : Ty) (m : Mx ts.den) : Prop := PK X kws (tA X.mg X.K W Γ ts m)
theorem pk_imp {t t' : TA} (h : PK X kws t) (i : ∀ σ H Q, t' σ H Q → t σ H Q) : PK X kws t' := ⟨fun pos pins s σ H Q I q => h.run pos pins s σ H Q I (i σ H Q q)⟩
theorem ek_nil : EK X W Γ [] .nl (.ok ()) := pk_imp pk_nil fun σ H Q ⟨F, s, d, p⟩ => p [] F H (Ext.refl s) rfl
theorem ek_cons {nm : Option Str} {kpos : Pos} {ts : Ty} {m : Mx t.den} {ms : Mx ts.den} (ha : EM X W Γ a t m) (hr : EK X W Γ kws ts ms) : EK X W Γ (⟨nm, a, kpos⟩ :: kws) (.pr t ts) (m >>= fun x => ms >>= fun y => .ok (x, y)) := pk_imp (pk_cons ha hr) fun σ H Q ⟨F, s, d, p⟩ => by
  refine ⟨F, s, d, p.bind.mono fun x px v F1 H1 e1 r1 => ⟨F1, e1.i, d.mono e1.f, post.ext e1 px.bind fun y py vs F2 H2 e2 r2 => ?_⟩⟩
  exact py (v :: vs) F2 H2 (e1.trans e2) ⟨v, vs, rfl, rl_mono e2.f t x _ r1, r2⟩
theorem new_read {ts us : Ty} {π : us.den → ts.den} {gv : List V → Addr → List V} {h : ts.den → Mx fs.ty.den} {ma : Mx us.den} (hm : X.mg c = some (.ref C)) (hg : ∀ (F : Hp) (y : us.den) (zs : List V) (q : Addr), rl X.K X.mg us y zs F → ∃ vs', gv zs q = .ref q :: vs' ∧ rl X.K X.mg ts (π y) vs' F) :
    ∀ σ H Q, tR X.mg X.K W Γ (.o (.ins c ns fs)) (ma >>= fun y => h (π y)) σ H Q → tNew C (spI X.K X.mg c ts ns fs h) gv (WE W) (tA X.mg X.K W Γ us ma) σ H Q := fun σ H Q ⟨F, s, d, pp⟩ => ⟨F, s, d, pp.bind.mono fun y py zs F1 H1 e1 r1 q dx nq nd ne => by
  obtain ⟨vs', e2, r2⟩ := hg F1 y zs q r1
  refine ⟨F1, H1, π y, q, dx, C, vs', e2, hm, rfl, nq, nd, ne, e1.i, r2, ?_⟩
  cases hh : h (π y) with
  | no => rw [hh] at py; exact py
  | ex z => rw [hh] at py; exact fun cls d F' H' x r => py cls d F' H' (e1.trans x) r
  | ok z => rw [hh] at py; exact fun F' H' x r => ⟨rfl, py (.ref q) F' H' (e1.trans x) (rtr_pre (r := .o (.ins c ns fs)) e1.h r)⟩⟩
theorem e_new {ts : Ty} {h : ts.den → Mx fs.ty.den} {ma : Mx ts.den} (M : Mk X.K C fI) (Fn : FnOk X.prog X.w X.K X.mg X.base (L2.CX X.prog X.w) k fI fd ps (spI X.K X.mg x ts ns fs h)) (hr : Room (k + 1) X.A) (hg : Gl X x) (hm : X.mg x = some (.ref C)) (hb : Binds X.K fd ps []) (tk : Takes X W) (ha : EA X W Γ (e :: es) ts ma)
    (hdb : (x == ("__debug__" : Str)) = false) (he : starEach (e :: es) X.env = (false, eval e X.env) :: starEach es X.env) (hpl : (backTo pos (starEach es X.env)).any (·.1) = false) :
    EO X W Γ (.Call (.Name x p) (e :: es) [] pos) (.ins x ns fs) (ma >>= h) := pe_imp (pe_new M Fn hr hg hm hb tk ha hdb he hpl) (new_read (π := fun y => y) hm fun F y zs q r => ⟨zs, rfl, r⟩)
theorem e_newK {ts us : Ty} {π : us.den → ts.den} {h : ts.den → Mx fs.ty.den} {ma : Mx us.den} {gA : List Value → List Value → List Value} {gV : List V → List V → List V} (M : Mk X.K C fI) (Fn : FnOk X.prog X.w X.K X.mg X.base (L2.CX X.prog X.w) k fI fd ps (spI X.K X.mg x ts ns fs h)) (hr : Room (k + 1) X.A) (hg : Gl X x) (hm : X.mg x = some (.ref C)) (hb : KBn X.K fd ps 1 ks gA gV) (tk : Takes X W)
    (hgv : ∀ (F : Hp) (y : us.den) (zs : List V) (q : Addr), rl X.K X.mg us y zs F → ∃ vs', gV [.ref q] zs = .ref q :: vs' ∧ rl X.K X.mg ts (π y) vs' F) (hus : us.args = some ks.length) (hkw : EK X W Γ kws us ma)
    (hall : (backToKw pos (keywordEach kws X.env)).all (·.1.isSome) = true) (hks : (backToKw pos (keywordEach kws X.env)).filterMap (·.1) = ks) (hdb : (x == ("__debug__" : Str)) = false)
    (hpl : ((backTo pos (starEach [] X.env)).any (·.1) || (backToKw pos (keywordEach kws X.env)).any (·.1.isNone)) = false) :
    EO X W Γ (.Call (.Name x p) [] kws pos) (.ins x ns fs) (ma >>= fun y => h (π y)) :=
  pe_imp (pe_newK M Fn hr hg hm hb tk hkw hall hks hdb (fun σ H Q ⟨F, s, d, pp⟩ => ⟨F, s, d, pp.mono fun y py zs F1 H1 e1 r1 => ⟨(args_len hus r1).1, py zs F1 H1 e1 r1⟩⟩) hpl) (new_read hm hgv)
/-! ## methods -/
theorem run_fnA {pins : List (Addr × Obj)} {σ : L2.St} {H : Hp} {s : Shared} {Q : VK} {sp : Sp} {E : XK} {us : List Value} {vs : List V} (Fn : FnOk X.prog X.w X.K X.mg X.base (L2.CX X.prog X.w) k g fd ps sp) (hr : Room k X.A) (hb : Binds X.K fd ps []) (hx : PassesAt (L2.CX X.prog X.w) X σ E) (J : Inv X pins σ H s) (rv : Vals vs us) (h : sp vs H Q E) :
    wpAny (model X.prog X.w) X.A (call (.ref g) us) (EP X pins σ Q) X.xe s := run_fnSD (E := fun _ => E) (dvs := []) (ds := []) Fn hr hb .nil hx J rv (by rw [List.append_nil]; exact h)
def tMet (C : Addr) (m : Str) (sp : Sp) (E : L2.St → XK) (ta : TE) (t : TA) : TE := fun σ H Q => ta σ H fun x H1 => ∃ a dx fs, x = .ref a ∧ H1 a = some (.ins C dx fs) ∧ fs.lookup m = none ∧ t σ H1 fun vs H2 => sp (x :: vs) H2 Q (E σ)
theorem pe_met {pl : Sem Bool} {sp : Sp} {ta : TE} {t : TA} {o : Expr} (ho : PE X o ta) (cl : Cls X.K C) (hm : Meth X.K C m g) (Fn : FnOk X.prog X.w X.K X.mg X.base (L2.CX X.prog X.w) k g fd ps sp) (hr : Room k X.A) (hb : Binds X.K fd ps []) (tk : Takes X W) (ha : PA X (e :: es) t)
    (hst : starEach (e :: es) X.env = (false, eval e X.env) :: starEach es X.env) (hpl : (backTo pos (starEach es X.env)).any (·.1) = false)
    (ht : eval (.Call (.Attribute o m apos) (e :: es) [] pos) X.env = (eval o X.env >>= fun ov => standAt apos.atName >>= fun _ => holding [ov] (getMethod ov m pl) >>= fun q => callWith pos q.1 q.2 (backTo pos (starEach (e :: es) X.env)) (backToKw pos (keywordEach [] X.env)))) :
    PE X (.Call (.Attribute o m apos) (e :: es) [] pos) (tMet C m sp (WE W) ta t) := ⟨fun pins s σ H Q J h => by
  refine PySem.W.methodCall_KW (pl := pl) (thn (ho.run pins s σ H _ J h) fun u s1 ⟨z, H1, J1, rz, a, dx, fs, ez, ea, l, q⟩ => ?_) ht
  subst ez
  cases (show u = Value.ref a from rz)
  refine getmeth_ok J1 ea cl hm l (PySem.W.callWith_K (first := [.ref a]) (h₀ := X.base) J1.ok.mod.kin hm.kp (thn (ha.run pos pins s1 σ H1 _ J1 q) fun us s2 ⟨vs, H2, J2, rv, q2⟩ => ⟨J2.kIn, ?_⟩) hst hpl)
  exact run_fnA (us := .ref a :: us) (vs := .ref a :: vs) Fn hr hb (passAt tk σ) J2 (.cons rfl rv) q2⟩
theorem pe_met0 {pl : Sem Bool} {sp : Sp} {ta : TE} {o : Expr} (ho : PE X o ta) (cl : Cls X.K C) (hm : Meth X.K C m g) (Fn : FnOk X.prog X.w X.K X.mg X.base (L2.CX X.prog X.w) k g fd ps sp) (hr : Room k X.A) (hb : Binds X.K fd ps []) (tk : Takes X W)
    (ht : eval (.Call (.Attribute o m apos) [] [] pos) X.env = (eval o X.env >>= fun ov => standAt apos.atName >>= fun _ => holding [ov] (getMethod ov m pl) >>= fun q => callWith pos q.1 q.2 (backTo pos (starEach [] X.env)) (backToKw pos (keywordEach [] X.env)))) :
    PE X (.Call (.Attribute o m apos) [] [] pos) (tMet C m sp (WE W) ta tNil) := ⟨fun pins s σ H Q J h => by
  refine PySem.W.methodCall_KW (pl := pl) (thn (ho.run pins s σ H _ J h) fun u s1 ⟨z, H1, J1, rz, a, dx, fs, ez, ea, l, q⟩ => ?_) ht
  subst ez
  cases (show u = Value.ref a from rz)
  refine getmeth_ok J1 ea cl hm l (PySem.W.callWith_K0 (first := [.ref a]) J1.kIn hm.kp ?_)
  exact run_fnA (us := [.ref a]) (vs := [.ref a]) Fn hr hb (passAt tk σ) J1 (.cons rfl .nil) q⟩
theorem fidx_none {f : Str} {v : List V} : ∀ {ns : List Str}, fidx ns f = none → (ns.zip v).lookup f = none
  | [], _ => rfl
  | gg :: rr, h => by
    cases v with
    | nil => rfl
    | cons w ws =>
      have h : (if f = gg then some 0 else (fidx rr f).map (· + 1)) = none := h
      by_cases e : f = gg
      · rw [if_pos e] at h; cases h
      · rw [if_neg e] at h
        have h3 : fidx rr f = none := by
          cases h3 : fidx rr f with
          | none => rfl
          | some m => rw [h3] at h; cases h
        rw [List.zip_cons_cons, List.lookup_cons, show (f == gg) = false from beq_eq_false_iff_ne.mpr e]
        exact fidx_none h3
theorem met_read {ts fd' : Ty} {h : (Ty.pr (.ins c ns fd') ts).den → Mx r.den} {mo : Mx fd'.den} {ma : Mx ts.den} (hc : X.mg c = some (.ref C)) (hn : fidx ns m = none) :
    ∀ σ H Q, tR X.mg X.K W Γ r (mo >>= fun x => ma >>= fun y => h (x, y)) σ H Q → tMet C m (spF X.K X.mg (.pr (.ins c ns fd') ts) r h) (WE W) (tR X.mg X.K W Γ (.d (.ins c ns fd')) mo) (tA X.mg X.K W Γ ts ma) σ H Q := fun σ H Q ⟨F, s, d, pp⟩ =>
  ⟨F, s, d, pp.bind.mono fun x px v F1 H1 e1 r1 => by
    obtain ⟨q, C', dx, ws, e2, mc, h1, hl, rr⟩ := id r1
    rw [hc] at mc; cases mc
    cases (List.cons.inj e2).1
    refine ⟨q, dx, _, rfl, e1.i _ _ h1, fidx_none hn, F1, e1.i, d.mono e1.f, post.ext e1 px.bind fun y py vs F2 H2 e2 r2 => ?_⟩
    refine ⟨F2, (x, y), e2.i, ⟨_, vs, rfl, rl_mono e2.f (.ins c ns fd') x _ r1, r2⟩, ?_⟩
    cases hh : h (x, y) with
    | no => rw [hh] at py; exact py
    | ex z => rw [hh] at py; exact fun cls d F' H' x r => py cls d F' H' ((e1.trans e2).trans x) r
    | ok z => rw [hh] at py; exact fun v F' H' x r => py v F' H' ((e1.trans e2).trans x) (rtr_pre (e1.h.trans e2.h) r)⟩
theorem e_met {pl : Sem Bool} {ts fd' : Ty} {o : Expr} {h : (Ty.pr (.ins c ns fd') ts).den → Mx r.den} {mo : Mx fd'.den} {ma : Mx ts.den} (hc : X.mg c = some (.ref C)) (cl : Cls X.K C) (hm : Meth X.K C m g) (Fn : FnOk X.prog X.w X.K X.mg X.base (L2.CX X.prog X.w) k g fd ps (spF X.K X.mg (.pr (.ins c ns fd') ts) r h)) (hr : Room k X.A) (hb : Binds X.K fd ps []) (tk : Takes X W) (hn : fidx ns m = none)
    (ho : EM X W Γ o (.ins c ns fd') mo) (ha : EA X W Γ (e :: es) ts ma) (hst : starEach (e :: es) X.env = (false, eval e X.env) :: starEach es X.env) (hpl : (backTo pos (starEach es X.env)).any (·.1) = false)
    (ht : eval (.Call (.Attribute o m apos) (e :: es) [] pos) X.env = (eval o X.env >>= fun ov => standAt apos.atName >>= fun _ => holding [ov] (getMethod ov m pl) >>= fun q => callWith pos q.1 q.2 (backTo pos (starEach (e :: es) X.env)) (backToKw pos (keywordEach [] X.env)))) :
    ER X W Γ (.Call (.Attribute o m apos) (e :: es) [] pos) r (mo >>= fun x => ma >>= fun y => h (x, y)) := pe_imp (pe_met ho cl hm Fn hr hb tk ha hst hpl ht) (met_read hc hn)
theorem e_met0 {pl : Sem Bool} {fd' : Ty} {o : Expr} {h : (Ty.pr (.ins c ns fd') .nl).den → Mx r.den} {mo : Mx fd'.den} (hc : X.mg c = some (.ref C)) (cl : Cls X.K C) (hm : Meth X.K C m g) (Fn : FnOk X.prog X.w X.K X.mg X.base (L2.CX X.prog X.w) k g fd ps (spF X.K X.mg (.pr (.ins c ns fd') .nl) r h)) (hr : Room k X.A) (hb : Binds X.K fd ps []) (tk : Takes X W) (hn : fidx ns m = none)
    (ho : EM X W Γ o (.ins c ns fd') mo) (ht : eval (.Call (.Attribute o m apos) [] [] pos) X.env = (eval o X.env >>= fun ov => standAt apos.atName >>= fun _ => holding [ov] (getMethod ov m pl) >>= fun q => callWith pos q.1 q.2 (backTo pos (starEach [] X.env)) (backToKw pos (keywordEach [] X.env)))) :
    ER X W Γ (.Call (.Attribute o m apos) [] [] pos) r (mo >>= fun x => h (x, ())) := pe_imp (pe_met0 ho cl hm Fn hr hb tk ht) fun σ H Q q => by
  obtain ⟨F, s, d, pp⟩ := met_read (W := W) (Γ := Γ) (ts := .nl) (ma := .ok ()) (h := h) hc hn σ H Q q
  exact ⟨F, s, d, pp.mono fun x px v F1 H1 e1 r1 => by
    obtain ⟨a, dx, fs, ea, h1, h2, F2, s2, d2, p2⟩ := px v F1 H1 e1 r1
    exact ⟨a, dx, fs, ea, h1, h2, p2 [] F2 _ (Ext.refl s2) rfl⟩⟩
/-! ## properties -/
def noEx {α : Type} : Mx α → Mx α
  | .ok x => .ok x
  | _ => .no
theorem e_prop {fd' : Ty} {o : Expr} {q : Addr} {h : (Ty.pr (.ins c ns fd') .nl).den → Mx r.den} {mo : Mx fd'.den} (hc : X.mg c = some (.ref C)) (cl : Cls X.K C) (hp : PropOf X.K C f q g) (Fn : FnOk X.prog X.w X.K X.mg X.base (L2.CX X.prog X.w) k g fd ps (spF X.K X.mg (.pr (.ins c ns fd') .nl) r h)) (hr : Room (k + 1) X.A) (hb : Binds X.K fd ps [])
    (ho : EM X W Γ o (.ins c ns fd') mo) (hab : attributeBase o f X.env (eval o X.env) = eval o X.env) : ER X W Γ (.Attribute o f pos) r (mo >>= fun x => noEx (h (x, ()))) :=
  pe_imp (pe_prop (dvs := []) (ds := []) (E := E0) ho cl hp Fn hr hb .nil passL hab) fun σ H Q ⟨F, s, d, pp⟩ => ⟨F, s, d, pp.bind.mono fun x px v F1 H1 e1 r1 => by
    obtain ⟨q, C', dx, ws, e2, mc, h1, hl, rr⟩ := id r1
    rw [hc] at mc; cases mc
    cases (List.cons.inj e2).1
    refine ⟨q, dx, _, rfl, e1.i _ _ h1, F1, (x, ()), e1.i, ⟨_, [], rfl, r1, rfl⟩, ?_⟩
    cases hh : h (x, ()) with
    | no => rw [hh] at px; exact px
    | ex z => rw [hh] at px; exact px.elim
    | ok z => rw [hh] at px; exact fun v F' H' x r => px v F' H' (e1.trans x) (rtr_pre e1.h r)⟩
/-! ## a class's constants, static methods -/
theorem e_gref {v : V} {u : Value} {z : t.den} (hg : Gl X x) (hm : X.mg x = some u) (rv : RelV v u) (hd : (x == ("__debug__" : Str)) = false) (hv : ∀ F, rl X.K X.mg t z [v] F) : EM X W Γ (.Name x p) t (.ok z) :=
  e_c (v := v) ⟨fun _ _ _ H _ J h => ld_glob J hg hm ⟨v, H, J, rv, h⟩ hd⟩ hv
theorem e_cval {v : V} {u mc : Value} {z : t.den} (hg : Gl X x) (hm : X.mg x = some (.ref C)) (cr : ClX.CRead X.K C mc) (cv : ClX.CVal X.K C mc f v u) (hd : (x == ("__debug__" : Str)) = false) (hv : ∀ F, rl X.K X.mg t z [v] F) (hab : attributeBase (.Name x p) f X.env (eval (.Name x p) X.env) = eval (.Name x p) X.env) :
    EM X W Γ (.Attribute (.Name x p) f pos) t (.ok z) :=
  pe_imp (ClX.pe_cval (ta := tC (.ref C)) ⟨fun _ _ _ H _ J h => ld_glob J hg hm ⟨.ref C, H, J, rfl, h⟩ hd⟩ hab) fun σ H Q ⟨F, s, d, pp⟩ => ⟨C, mc, v, u, rfl, cr, cv, pp v F H (Ext.refl s) (hv F)⟩
structure SMet (K : PySem.W.Frag) (C : Addr) (mc : Value) (m : Str) (q g : Addr) : Prop where
  at_ : PySem.W.findCls K (.ref C) mc m = some (.get (.builtin "staticmethod.__get__") (.ref q) .none (.ref C))
  rc : ∃ rest, PySem.W.recIn K q "staticmethod" = some (.ref g :: rest)
  kp : PySem.W.keepIn K (.ref g) = true
theorem e_smet {pl : Sem Bool} {mc : Value} {q : Addr} {ts : Ty} {h : ts.den → Mx r.den} {ma : Mx ts.den} (hg : Gl X x) (hmg : X.mg x = some (.ref C)) (cr : ClX.CRead X.K C mc) (sm : SMet X.K C mc m q g) (Fn : FnOk X.prog X.w X.K X.mg X.base (L2.CX X.prog X.w) k g fd ps (spF X.K X.mg ts r h)) (hr : Room k X.A) (hb : Binds X.K fd ps []) (tk : Takes X W) (hd : (x == ("__debug__" : Str)) = false)
    (ha : EA X W Γ (e :: es) ts ma) (hst : starEach (e :: es) X.env = (false, eval e X.env) :: starEach es X.env) (hpl : (backTo pos (starEach es X.env)).any (·.1) = false)
    (ht : eval (.Call (.Attribute (.Name x p) m apos) (e :: es) [] pos) X.env = (eval (.Name x p) X.env >>= fun ov => standAt apos.atName >>= fun _ => holding [ov] (getMethod ov m pl) >>= fun q => callWith pos q.1 q.2 (backTo pos (starEach (e :: es) X.env)) (backToKw pos (keywordEach [] X.env)))) :
    ER X W Γ (.Call (.Attribute (.Name x p) m apos) (e :: es) [] pos) r (ma >>= h) := ⟨fun pins s σ H Q J ⟨F, sm1, d, pp⟩ => by
  obtain ⟨rest, hrec⟩ := sm.rc
  refine PySem.W.methodCall_KW (pl := pl) (ld_glob J hg hmg ?_ hd) ht
  refine PySem.W.method_cls J.kIn cr.ga (PySem.W.cls_bind J.kIn cr.rd sm.at_ (wpAny_call (PySem.W.sm_get (s := { s with toks := s.toks + 1 }) J.kIn hrec (PySem.W.handed_on rfl ?_))))
  have J1 : Inv X pins σ H { s with toks := s.toks + 1 } := J.tok _
  have hq : tA X.mg X.K W Γ ts ma σ H fun vs H1 => spF X.K X.mg ts r h vs H1 Q (WE W σ) := ⟨F, sm1, d, pp.bind.mono fun z pz vs F1 H1 e1 r1 => by
    refine ⟨F1, z, e1.i, r1, ?_⟩
    cases hgz : h z with
    | no => rw [hgz] at pz; exact pz
    | ex y => rw [hgz] at pz; exact fun cls d F' H' x r => pz cls d F' H' (e1.trans x) r
    | ok y => rw [hgz] at pz; exact fun v F' H' x r => pz v F' H' (e1.trans x) (rtr_pre e1.h r)⟩
  refine PySem.W.callWith_K (first := []) (h₀ := X.base) J1.ok.mod.kin sm.kp (thn (ha.run pos pins _ σ H _ J1 hq) fun us s2 ⟨vs, H2, J2, rv, q2⟩ => ⟨J2.kIn, ?_⟩) hst hpl
  exact run_fnA Fn hr hb (passAt tk σ) J2 rv q2⟩
end
end Gm
set_option Elab.async false
set_option linter.all false
set_option maxRecDepth 100000
set_option maxHeartbeats 4000000
namespace Gm
open PySem PySem.Spec L2
open PyProof.Rows (envOfC)

/-! ## a def without a return -/
theorem fn_bodyN {P : Program} {w : World} {K : PySem.W.Frag} {mg : Str → Option Value} {base : Heap} {x qual : Str} {st : Stmt} {f : Addr} {fd : FuncData} {dvs : List V} {kws : List (Str × V)} {N ps : List Str} {k : Nat} {ts : Ty} {g : ts.den → Mx Unit} (F : FunD K x qual (defArgs st) (defBody st) (defScope st) dvs kws f fd) (S : FnScope N ps (defScope st)) (ha : ts.args = some ps.length)
    (hb : ∀ (cdv : Value) (A : Around) (outer : List Env) (s : Shared) (H : Hp) (E : XK), Room k (A.deeper (envOfC qual (defScope st) s.heap.objs.size f cdv)) → Takes (cxOf (L2.CX P w) P w K mg base N qual (defScope st) f cdv A outer s H E) (fun cls d _ H => E cls d H) →
      PassesOwn (model P w) (A.deeper (envOfC qual (defScope st) s.heap.objs.size f cdv)) (envOfC qual (defScope st) s.heap.objs.size f cdv) (cxOf (L2.CX P w) P w K mg base N qual (defScope st) f cdv A outer s H E).xe →
      ∀ x : ts.den, BS (cxOf (L2.CX P w) P w K mg base N qual (defScope st) f cdv A outer s H E) (fun cls d _ H => E cls d H) [] (ctx0 ts x (N.length - ps.length)) (defBody st) (g x) (fun _ => .nx (List.replicate N.length .no))) :
    FnOk P w K mg base (L2.CX P w) (k + 1) f fd ps (spF K mg ts (.d .non) g) := by
  refine F.ok S (fun vs H Q E h => ?_) (fun cdv A outer s H vs Q E hr h => ?_)
  · obtain ⟨G, y, hs, rr, _⟩ := h
    exact (args_len ha rr).1
  · obtain ⟨G, y, hs, rr, q⟩ := h
    refine ⟨_, hb cdv A outer s H E hr (takes_of rfl rfl rfl rfl) (passes_of rfl) y, ⟨G, H, [], L2.start N vs⟩, G, rfl, sg_start hs ha rr, ?_⟩
    cases e : g y with
    | no => rw [e] at q; exact q
    | ex z => rw [e] at q; exact fun cls d σ F' H' x _ r => q cls d F' H' x r
    | ok z => rw [e] at q; exact fun σ F' H' sg => q .non F' H' sg.e0 rfl

section
variable {X : Cx} {W : WX} {hk : List Nat} {Γ Γ' Γv : Ctx} {st : Stmt} {rest body suite : List Stmt} {b0 : Stmt} {e : Expr} {pos np pos' : Pos} {β : Type} {I : β → Out} {c x : Str} {C : Addr}
/-! ## raise -/
theorem b_raise (x : Str) (hc : X.calm = true) (tk : Takes X W) (hm : X.mg x = some (.ref C)) (he : PMk X e (fun _ H Q => Q (.ref C) none H)) : BS X W hk Γ (.Raise (some e) none pos :: rest) (.ex ⟨x, "", .n⟩) I :=
  pss_imp (pss_cons (ps_raise hc tk he) pss_never) fun D σ H ⟨E, F, h, g, q⟩ => q (.ref C) none σ F H g.e0 g.kp ⟨C, hm, rfl, rfl⟩
/-! ## try: A; except C: B -/
def subs (l : List (Str × Bool)) (c : Str) : Option Bool := l.lookup c
def tryM {α : Type} (l : List (Str × Bool)) (m h : Mx α) : Mx α := match m with
  | .ok a => .ok a
  | .ex e => (match subs l e.c with
    | some true => h
    | some false => .ex e
    | none => .no)
  | .no => .no
/-- what is known in the suite: the slots that the body leaves -/
def kept : Ctx → List Nat → Nat → Ctx
  | [], _, _ => []
  | s :: r, js, i => (if js.contains i then s else .no) :: kept r js (i + 1)
theorem kept_get {js : List Nat} : ∀ {Γ : Ctx} {n i : Nat} {s : Slot}, (kept Γ js n)[i]? = some s → ∃ u, Γ[i]? = some u ∧ (s = .no ∨ (s = u ∧ n + i ∈ js))
  | [], _, _, _, e => by simp [kept] at e
  | u :: r, n, 0, s, e => by
    refine ⟨u, rfl, ?_⟩
    have e : (if js.contains n then u else Slot.no) = s := by simpa [kept] using e
    by_cases h : js.contains n = true
    · rw [if_pos h] at e; exact .inr ⟨e.symm, by simpa using h⟩
    · rw [if_neg h] at e; exact .inl e.symm
  | u :: r, n, i + 1, s, e => by
    obtain ⟨v, h1, h2⟩ := kept_get (Γ := r) (n := n + 1) (i := i) (s := s) (by simpa [kept] using e)
    refine ⟨v, by simpa using h1, h2.imp_right fun ⟨a, b⟩ => ⟨a, by rw [show n + (i + 1) = n + 1 + i by omega]; exact b⟩⟩
def Slot.isO : Slot → Bool
  | .o _ _ => true
  | _ => false
def Ctx.noOwn (Γ : Ctx) : Bool := Γ.all fun s => !s.isO
theorem noOwn_at {i : Nat} {s : Slot} (h : Ctx.noOwn Γ = true) (e : Γ[i]? = some s) : ∀ o y, s ≠ .o o y := fun o y z => by
  have := List.all_eq_true.mp h s (List.mem_iff_getElem?.mpr ⟨i, e⟩)
  subst z
  cases this
theorem lookup_in {c : Str} {b : Bool} : ∀ {l : List (Str × Bool)}, l.lookup c = some b → (c, b) ∈ l
  | [], h => nomatch h
  | (y, b2) :: r, h => by
    rw [List.lookup_cons] at h
    by_cases hz : c = y
    · rw [show (c == y) = true from beq_iff_eq.mpr hz] at h
      cases h
      rw [hz]; exact List.mem_cons_self ..
    · rw [show (c == y) = false from beq_eq_false_iff_ne.mpr hz] at h
      exact List.mem_cons_of_mem _ (lookup_in h)
theorem sg_data {K : PySem.W.Frag} {mg : Str → Option Value} {E : Ent} {σ : L2.St} {F H : Hp} (e0 : Ext E.F0 E.B F H) (kp : ∀ i ∈ E.hk, σ[i]? = E.s0[i]?) (h : Ctx.noOwn Γ = true) (d : SD K mg Γ σ F) : SG K mg E Γ σ F H := by
  refine ⟨e0, kp, fun _ => [], fun i s e => ?_, fun _ _ => rfl, fun _ => List.nodup_nil, fun _ _ _ a ha => (nomatch ha), fun _ a ha => (nomatch ha)⟩
  obtain ⟨ov, e1, r⟩ := d i s e
  refine ⟨ov, e1, ?_⟩
  cases s with
  | no => exact rfl
  | d t y => exact ⟨rfl, r⟩
  | o o y => exact absurd rfl (noOwn_at h e o y)
theorem SG.sdn {K : PySem.W.Frag} {mg : Str → Option Value} {E : Ent} {σ : L2.St} {F H : Hp} (g : SG K mg E Γ σ F H) (h : Ctx.noOwn Γ = true) : SD K mg Γ σ F := fun i s e => by
  obtain ⟨_, _, fps, q⟩ := g
  obtain ⟨ov, e1, r⟩ := q.at_ i s e
  refine ⟨ov, e1, ?_⟩
  cases s with
  | no => exact True.intro
  | d t y => exact r.2
  | o o y => exact absurd rfl (noOwn_at h e o y)
theorem noOwn_kept {js : List Nat} : ∀ {Γ : Ctx} {n : Nat}, Ctx.noOwn Γ = true → Ctx.noOwn (kept Γ js n) = true
  | [], _, _ => rfl
  | s :: r, n, h => by
    have h' : (!s.isO && Ctx.noOwn r) = true := h
    rw [Bool.and_eq_true] at h'
    show (!(if js.contains n then s else Slot.no).isO && Ctx.noOwn (kept r js (n + 1))) = true
    rw [noOwn_kept h'.2, Bool.and_true]
    by_cases hc : js.contains n = true
    · rw [if_pos hc]; exact h'.1
    · rw [if_neg hc]; rfl
/-- the classes of exceptions that may come, and whether the clause takes them -/
def SubOk (X : Cx) (l : List (Str × Bool)) (C : Addr) : Prop := ∀ (y : Str) (b : Bool), (y, b) ∈ l → ∃ D, X.mg y = some (.ref D) ∧ PySem.W.exmOne X.K (.ref D) (.ref C) = some b
theorem sub_nil : SubOk X [] C := fun _ _ h => nomatch h
theorem sub_cons {y : Str} {b : Bool} {D : Addr} {l : List (Str × Bool)} (h1 : X.mg y = some (.ref D)) (h2 : PySem.W.exmOne X.K (.ref D) (.ref C) = some b) (h : SubOk X l C) : SubOk X ((y, b) :: l) C := fun z c hz => by
  rcases List.mem_cons.mp hz with e | hz
  · cases e; exact ⟨D, h1, h2⟩
  · exact h z c hz
/-- the body's results go into the statement's surroundings -/
theorem s1_try {l : List (Str × Bool)} {mb mh : Mx β} (js : List Nat) (hs : X.stack = X.env :: X.outer) (hf : X.env.frame = some X.env.locals) (hn : Names X c (.ref C)) (tk : Takes X W) (hno : Ctx.noOwn Γ = true) (hjs0 : ∀ j ∈ hk, j ∈ js) (hlast0 : js.contains (Γ.length - 1) = true) (hsub : SubOk X l C)
    (hb : ∀ (W' : WX) (pn : List (Addr × Obj)) (xe : Value → Shared → Prop), Takes (X.tr pn xe) W' → PassesOwn (model X.prog X.w) X.A X.env xe → BS (X.tr pn xe) W' js Γ body mb I)
    (hh : ∀ (a : Addr) (oe : Obj) (pn : List (Addr × Obj)), BS (X.suite a ((a, oe) :: pn)) W hk (kept Γ js 0) (b0 :: suite) mh I) :
    S1 X W hk Γ (.Try body [.ExceptHandler (some (.Name c np)) none (b0 :: suite) pos'] [] [] pos) (tryM l mb mh) I :=
  ps_imp (ps_try_only (Wout := W) (c := .ref C) (tb := fun W' => tS X.K X.mg W' js Γ mb I) (ts := fun a cls d => tS X.K X.mg W hk (kept Γ js 0) mh I) hs hf hn tk (fun W' pn xe t p => hb W' pn xe t p) (fun a oe cls d pn _ _ => hh a oe pn)) fun D σ H ⟨E, F, h, g, q⟩ => by
    have hjs := hjs0
    have hlast : Γ.length - 1 ∈ js := List.contains_iff_mem.mp hlast0
    have gd := g.sdn hno
    refine ⟨⟨F, H, js, σ⟩, F, rfl, sg_data (Ext.refl g.e0.i) (fun _ _ => rfl) hno gd, ?_⟩
    have up : ∀ (Γ1 : Ctx) (σ' : L2.St) (F' H' : Hp), SG X.K X.mg ⟨F, H, js, σ⟩ Γ1 σ' F' H' → SG X.K X.mg E Γ1 σ' F' H' := fun Γ1 σ' F' H' s => by
      obtain ⟨e1, k1, fps, w⟩ := s
      refine ⟨g.e0.trans e1, fun i hi => (k1 i (hjs i (by rw [← h]; exact hi))).trans (g.kp i hi), fps, w.at_, w.out, w.nd, w.sep, fun i a ha => ⟨(w.new i a ha).1, ?_⟩⟩
      cases eb : E.B a with
      | none => rfl
      | some o => have := g.e0.h _ _ eb; rw [show H a = none from (w.new i a ha).2] at this; cases this
    cases hm : mb with
    | no => rw [hm] at q; exact q
    | ok b =>
      rw [hm] at q
      have q : outP X.K X.mg E D (I b) := q
      show outP X.K X.mg ⟨F, H, js, σ⟩ D (I b)
      cases ei : I b with
      | nx Γ1 => rw [ei] at q; exact fun σ' F' H' s => q σ' F' H' (up _ _ _ _ s)
      | bk Γ1 => rw [ei] at q; exact fun σ' F' H' s => q σ' F' H' (up _ _ _ _ s)
      | ct Γ1 => rw [ei] at q; exact fun σ' F' H' s => q σ' F' H' (up _ _ _ _ s)
      | rt r y => rw [ei] at q; exact fun v F' H' x rr => q v F' H' (g.e0.trans x) (rtr_pre g.e0.h rr)
      | rs t y o2 x2 => rw [ei] at q; exact fun v Γ1 σ' F' H' e0 s rr => q v Γ1 σ' F' H' e0 (up _ _ _ _ s) rr
    | ex z =>
      rw [hm] at q
      intro cls d σ' F' H' x kp xz
      obtain ⟨Dz, m1, rfl, m2⟩ := id xz
      unfold tryM at q
      simp only at q
      cases eb : subs l z.c with
      | none => rw [eb] at q; exact q.elim
      | some b =>
        rw [eb] at q
        have hin : (z.c, b) ∈ l := lookup_in eb
        obtain ⟨D1, m3, m4⟩ := hsub _ _ hin
        rw [m1] at m3; cases m3
        refine ⟨b, m4, fun hb2 a _ => ?_, fun hb2 => ?_⟩
        · subst hb2
          refine ⟨E, F', h, ?_, q⟩
          refine sg_data (g.e0.trans x) (fun i hi => (kp i (hjs i (by rw [← h]; exact hi))).trans (g.kp i hi)) (noOwn_kept hno) fun i s e => ?_
          obtain ⟨u, h1, h2⟩ := kept_get e
          obtain ⟨ov, e1, r⟩ := gd i u h1
          rcases h2 with rfl | ⟨rfl, hj⟩
          · have hi : i < Γ.length := (List.getElem?_eq_some_iff.mp h1).1
            obtain ⟨ov2, e2, _⟩ := gd (Γ.length - 1) _ (List.getElem?_eq_getElem (by omega))
            have e3 := (kp (Γ.length - 1) hlast).trans e2
            have := (List.getElem?_eq_some_iff.mp e3).1
            exact ⟨_, List.getElem?_eq_getElem (by omega), True.intro⟩
          · rw [Nat.zero_add] at hj
            exact ⟨ov, (kp i hj).trans e1, sd_mono x.f r⟩
        · subst hb2
          exact q (.ref Dz) d σ' F' H' (g.e0.trans x) (fun i hi => (kp i (hjs i (by rw [← h]; exact hi))).trans (g.kp i hi)) xz
end
end Gm
set_option Elab.async false
set_option linter.all false
set_option maxRecDepth 100000
set_option maxHeartbeats 4000000
namespace Gm
open PySem PySem.Spec L2

section
variable {X : Cx} {W : WX} {Γ : Ctx} {a b c e : Expr} {pos p p2 q : Pos} {t : Ty} {F H : Hp}
/-! ## tuples joined, cut -/
theorem e_catT {m1 m2 : Mx (List t.den)} (ha : EM X W Γ a (.vtup t) m1) (hb : EM X W Γ b (.vtup t) m2) : EM X W Γ (.BinOp a .Add b pos) (.vtup t) (m1 >>= fun x => m2 >>= fun y => ofO (catL x y)) := e_bin (t1 := .vtup t) (t2 := .vtup t) (r := .d (.vtup t)) (g := catL) op_catA (fun x y z e v w F H Q s r1 r2 k => by
  unfold catL at e
  by_cases h : x.length + y.length ≤ sizeLine
  · rw [if_pos h] at e
    cases e
    obtain ⟨p, ws, e1, sq1, rr1⟩ := r1
    cases (List.cons.inj e1).1
    obtain ⟨q, zs, e2, sq2, rr2⟩ := r2
    cases (List.cons.inj e2).1
    refine ⟨p, q, ws, zs, rfl, rfl, sqT_same s sq1, sqT_same s sq2, by rw [← rr1.len, ← rr2.len]; exact h, fun e => ?_, fun _ e => ?_, fun _ _ l nl => ?_⟩
    · subst e
      refine k (.ref q) F H (Ext.refl s) ⟨q, zs, rfl, sq2, ?_⟩
      cases x with
      | nil => exact rr2
      | cons _ _ => exact rr1.elim
    · subst e
      refine k (.ref p) F H (Ext.refl s) ⟨p, ws, rfl, sq1, ?_⟩
      cases y with
      | nil => rw [List.append_nil]; exact rr1
      | cons _ _ => exact rr2.elim
    · have e2 := Ext.new (o := .tup (ws ++ zs)) s nl
      exact k (.ref l) _ _ e2 ⟨l, ws ++ zs, rfl, SqT.of upd_same, (rr1.app rr2).imp fun y v z => rl_mono e2.f t y [v] z⟩
  · rw [if_neg h] at e; cases e) ha hb
theorem e_slT {lo hi : Option Expr} {m1 : Mx (List t.den)} {ml mh : Mx (Option Int)} (ha : EM X W Γ a (.vtup t) m1) (hl : EP' X W Γ lo ml) (hh : EP' X W Γ hi mh) : EM X W Γ (.Subscript a (.Slice lo hi none p2) pos) (.vtup t) (m1 >>= fun x => ml >>= fun l => mh >>= fun u => .ok (cut x l u)) :=
  sl_of (t1 := .vtup t) (r := .d (.vtup t)) (k := fun x l u => .ok (cut x l u)) sl_tupA (fun x l u v F H σ Q s r1 k => by
    obtain ⟨p, ws, e, sq, rr⟩ := r1
    cases (List.cons.inj e).1
    refine ⟨p, ws, rfl, sqT_same s sq, fun hw => ?_, fun _ n nn => ?_⟩
    · refine k (.ref p) F H (Ext.refl s) ⟨p, ws, rfl, sq, ?_⟩
      have e1 : cut x l u = x := by
        unfold cut
        rw [rr.len, hw.1, hw.2, List.drop_zero, Nat.sub_zero, ← rr.len, List.take_length]
      rw [e1]; exact rr
    · have e2 := Ext.new (o := .tup (cutV ws l u)) s nn
      exact k (.ref n) _ _ e2 ⟨n, _, rfl, SqT.of upd_same, (cut_cutV (R := fun y v => rl X.K X.mg t y [v] F) rr l u).imp fun y v z => rl_mono e2.f t y [v] z⟩) ha hl hh
theorem e_tupU {fs : Ty} {m : Mx fs.den} (hg : Gl X "tuple") (hm : X.mg "tuple" = none) (ha : EM X W Γ a (.tup fs) m) (hs : starEach [a] X.env = (false, eval a X.env) :: starEach [] X.env := by rfl) : EM X W Γ (.Call (.Name "tuple" q) [a] [] pos) (.tup fs) m :=
  pe_imp (pe_callTy call_tuple_of hg hm (by decide +kernel) (ea_one ha hs) (he := hs)) fun σ H Q ⟨F, s, d, p⟩ => ⟨F, s, d, p.mono fun x px vs F1 H1 e1 r1 => by
    obtain ⟨a', ws, rfl, sq, rr⟩ := r1
    exact ⟨a', ws, rfl, .inr ⟨sqT_same e1.i sq, px (.ref a') F1 H1 e1 ⟨a', ws, rfl, sq, rr⟩⟩⟩⟩
/-- (a, b, ..) as a tuple of one kind -/
theorem e_vt {es : List Expr} {n k : Nat} {m : Mx (List t.den)} (h : EL X W Γ es t n m) (hl : Nat.ble n 1000 = true) : EM X W Γ (.Tuple es k pos) (.vtup t) m := pe_imp (pe_tup h) fun σ H Q ⟨F, s, d, q⟩ =>
  ⟨F, s, d, q.mono fun x px vs F1 H1 e1 r1 hn => ⟨Nat.le_trans (by rw [hn]; exact Nat.le_of_ble_eq_true hl) (by decide : 1000 ≤ sizeLine), fun p np => by
    have e2 := Ext.new (o := .tup vs) e1.i np
    exact px (.ref p) _ _ (e1.trans e2) ⟨p, vs, rfl, SqT.of upd_same, r1.imp fun y v z => rl_mono e2.f t y [v] z⟩⟩⟩
/-- some tuple -/
theorem e_tplV {m : Mx (List t.den)} (h : EM X W Γ a (.vtup t) m) : EM X W Γ a .tpl (m >>= fun _ => .ok ()) := pe_imp h fun σ H Q ⟨F, s, d, q⟩ => ⟨F, s, d, q.bind.mono fun x px v F1 H1 e1 r1 => by
  obtain ⟨p, ws, e, sq, _⟩ := r1
  exact px v F1 H1 e1 ⟨p, ws, e, sq⟩⟩
theorem e_tplT {fs : Ty} {m : Mx fs.den} (h : EM X W Γ a (.tup fs) m) : EM X W Γ a .tpl (m >>= fun _ => .ok ()) := pe_imp h fun σ H Q ⟨F, s, d, q⟩ => ⟨F, s, d, q.bind.mono fun x px v F1 H1 e1 r1 => by
  obtain ⟨p, ws, e, sq, _⟩ := r1
  exact px v F1 H1 e1 ⟨p, ws, e, sq⟩⟩
end
end Gm
set_option Elab.async false
set_option linter.all false
set_option maxRecDepth 100000
set_option maxHeartbeats 4000000
namespace Gm
open PySem PySem.Spec L2
open PyProof.Rows (Call_ boot_enumerate)

/-! ## enumerate of a list or a tuple, from a start -/
theorem meets_en1 {v : Value} {o : Obj} {G : Heap → Prop} (B : Begins v o G) :
    Meets (Builtin.«enumerate.__new__» ⟨[.type "enumerate", v], []⟩) (fun _ R z => G z.heap ∧
      R (.ok (.ret (.ref (z.heap.push o).objs.size))) { z with heap := (z.heap.push o).push { cls := .type "enumerate", data := .fields #[.none, .bool false, .ref z.heap.objs.size, rawInt 0, .none, .none] } }) :=
  .of_wp fun P w A R z h => by
    obtain ⟨hp, g, d, tk, os⟩ := z
    obtain ⟨h1, h⟩ := h
    have hsub := sub_enumerate
    have q1 : ∀ {A' : Around} {E Q : Value → Shared → Prop}, Q (.ref hp.objs.size) ⟨hp.push o, g, d, tk, os⟩ → wpAny (model P w) A' (pyIter v) Q E ⟨hp, g, d, tk, os⟩ := fun q => B.iter P w _ _ ⟨hp, g, d, tk, os⟩ _ h1 q
    wp_walk using q1
    refine wpAny_stack_any fun st => ?_; refine wpAny_pure ?_
    split
    · rename_i c _ _ _ _ _
      cases (c == Value.type "enumerate") <;> (wp_walk using q1; exact ⟨_, rfl, h⟩)
    · wp_walk using q1; exact ⟨_, rfl, h⟩
section
variable {P : Program} {w : World} {A : Around} {E : Value → Shared → Prop} {s : Shared}
theorem en1_begins {v : Value} {o : Obj} {G : Heap → Prop} {Q : Value → Shared → Prop} (B : Begins v o G) (h1 : G s.heap)
    (h : ∀ h', IsEnum h' (s.heap.objs.size + 1) s.heap.objs.size 0 .none → h'.get? s.heap.objs.size = some o → (∀ b u, s.heap.get? b = some u → h'.get? b = some u) → Q (.ref (s.heap.objs.size + 1)) { s with heap := h' }) :
    wpAny (model P w) A (call (.type "enumerate") [v]) Q E s := by
  refine callType_new F.called_enumerate (by decide) (F.typeCall_enumerate_1 _) (F.newCall_enumerate_1 _) (fun ob => F.args_object_init_2 ob _) F.entry_enumerate_new (meets_en1 B) ⟨h1, ?_⟩
  have hz : (s.heap.push o).objs.size = s.heap.objs.size + 1 := Heap.size_push ..
  show _ ∧ _
  rw [hz]
  have he : IsEnum ((s.heap.push o).push { cls := .type "enumerate", data := .fields #[.none, .bool false, .ref s.heap.objs.size, rawInt 0, .none, .none] }) (s.heap.objs.size + 1) s.heap.objs.size 0 .none := by
    have e1 := Heap.get?_push_size (s.heap.push o) (o := { cls := .type "enumerate", data := .fields #[.none, .bool false, .ref s.heap.objs.size, rawInt 0, .none, .none] }) rfl
    rw [hz] at e1; exact e1
  exact ⟨⟨_, he, rfl⟩, h _ he (Heap.get?_push_of_some _ (Heap.get?_push_size _ B.free)) fun b u x => Heap.get?_push_of_some _ (Heap.get?_push_of_some _ x)⟩
end
/-- what is walked by its places: a list or a tuple at a -/
structure Sq2 (P : Program) (w : World) (K : PySem.W.Frag) (a : Addr) (Q : Hp → List V → Prop) (S : Addr → Nat → Heap → Prop) (G : List Value → Heap → Prop) (ob : Obj) : Prop where
  get : ∀ {X : Cx} {pins : List (Addr × Obj)} {σ : L2.St} {H : Hp} {s : Shared} {xs : List V}, X.prog = P → X.w = w → X.K = K → Inv X pins σ H s → Q H xs → ∃ its, Vals xs its ∧ G its s.heap
  inj : ∀ {X : Cx} {pins : List (Addr × Obj)} {σ : L2.St} {H : Hp} {s : Shared} {xs ys : List V}, X.prog = P → X.w = w → X.K = K → Inv X pins σ H s → Q H xs → Q H ys → xs = ys
  dr : ∀ {A : Around} (it : Addr) (its : List Value), A.handled = none → a ≠ it → Draws P w A it [it, a] its.toArray.size (fun i v => its.toArray[i]? = some v) (fun i h => S it i h ∧ G its h)
  en : ∀ {A : Around} (it : Addr) (its : List Value) (i : Nat) (s : Shared) (Q E : Value → Shared → Prop), A.handled = none → its.length ≤ i → S it i s.heap → G its s.heap →
    (∀ h' e, Heap.ExtBut it s.heap h' → (∃ o, h'.get? e = some o ∧ o.cls = .type "StopIteration") → E (.ref e) { s with heap := h' }) → wpAny (model P w) A (Builtin.SmallTypes.nextOf (.ref it)) Q E s
  gat : ∀ {its : List Value} {h h' : Heap}, G its h → (∀ o, h.get? a = some o → h'.get? a = some o) → G its h'
  at_ : ∀ {it : Addr} {i : Nat} {h h' : Heap}, S it i h → (∀ o, h.get? it = some o → h'.get? it = some o) → S it i h'
  own : ∀ {it : Addr} {i : Nat} {h : Heap}, S it i h → ∃ o, h.get? it = some o ∧ ∀ v, o.data ≠ .cell v
  new : ∀ {it : Addr} {h : Heap}, h.get? it = some ob → S it 0 h
  bg : ∀ its, Begins (.ref a) ob (G its)
  lt : ∀ {its : List Value} {h : Heap}, G its h → a < h.objs.size
theorem sq_list (P : Program) (w : World) (K : PySem.W.Frag) (a : Addr) : Sq2 P w K a (fun H xs => SqL K H a xs) (fun it i h => h.IsListIter it a i) (fun its h => h.IsList a its.toArray) { cls := .type "list_iterator", data := .fields #[.ref a, .int 0 0] } where
  get := fun {X} _ _ _ _ _ e1 e2 e3 I q => by
    subst e1 e2 e3
    obtain ⟨its, r, p, _⟩ := I.list q
    exact ⟨its, r, p.isList⟩
  inj := fun e1 e2 e3 I q q' => by subst e1 e2 e3; exact I.list_inj q q'
  dr := fun it its hh hne => Draws.list hh it a hne its.toArray
  en := fun it its i s Q E hh hl h1 h2 hE => wpAny_nextOf_list_end hh h1 h2 (by simp; omega) hE
  gat := fun st k => st.at fun o e => k o e
  at_ := fun st k => st.at fun o e => k o e
  own := fun st => by obtain ⟨o, ho, hc, hd⟩ := st; exact ⟨o, ho, fun v q => by rw [hd] at q; cases q⟩
  new := fun e => ⟨_, e, rfl, rfl⟩
  bg := fun its => begins_list a its.toArray
  lt := fun ⟨_, e, _⟩ => Heap.lt_size e
theorem sq_tup (P : Program) (w : World) (K : PySem.W.Frag) (a : Addr) : Sq2 P w K a (fun H xs => SqT K H a xs) (fun it i h => h.IsTupleIter it a i) (fun its h => h.IsTuple a its.toArray) { cls := .type "tuple_iterator", data := .fields #[.ref a, .int 0 0] } where
  get := fun {X} _ _ _ _ _ e1 e2 e3 I q => by
    subst e1 e2 e3
    obtain ⟨its, r, p, _⟩ := I.tuple q
    exact ⟨its, r, p⟩
  inj := fun e1 e2 e3 I q q' => by subst e1 e2 e3; exact I.tuple_inj q q'
  dr := fun it its hh hne => Draws.tuple hh it a hne its.toArray
  en := fun it its i s Q E hh hl h1 h2 hE => wpAny_nextOf_tuple_end hh h1 h2 (by simp; omega) hE
  gat := fun st k => st.at fun o e => k o e
  at_ := fun st k => st.at fun o e => k o e
  own := fun st => by obtain ⟨o, ho, hc, hd⟩ := st; exact ⟨o, ho, fun v q => by rw [hd] at q; cases q⟩
  new := fun e => ⟨_, e, rfl, rfl⟩
  bg := fun its => begins_tuple a its.toArray
  lt := fun ⟨_, e, _⟩ => Heap.lt_size e
def Itn (Q : Hp → List V → Prop) (c : Int) : It :=
  ⟨fun i H => ∃ (xs : List V) (x : V), Q H xs ∧ xs[i]? = some x, fun i H v H' => ∃ T x, v = .ref T ∧ H T = none ∧ H' = upd H T (.tup [.int (c + (i : Nat)), x]) ∧ ∀ xs, Q H xs → xs[i]? = some x, fun i H => ∃ xs : List V, Q H xs ∧ xs.length ≤ i⟩
section
variable {P : Program} {w : World} {K : PySem.W.Frag} {a : Addr} {Q : Hp → List V → Prop} {S : Addr → Nat → Heap → Prop} {G : List Value → Heap → Prop} {ob : Obj} {elts : List Expr} {kk : Nat} {tpos : Pos}
/-- at the end nothing more is drawn -/
theorem Sq2.stop (D : Sq2 P w K a Q S G ob) {A : Around} (it : Addr) (its : List Value) (i : Nat) (hh : A.handled = none) (hl : its.length ≤ i) : Draws P w A it [it, a] i (fun _ _ => False) (fun j h => j = i ∧ S it i h ∧ G its h) where
  live := fun _ _ st => let ⟨o, ho, _⟩ := D.own st.2.1; ⟨o, ho⟩
  frame := fun _ _ _ st hk => ⟨st.1, D.at_ st.2.1 fun o e => hk it (by simp) o e, D.gat st.2.2 fun o e => hk a (by simp) o e⟩
  item := fun j s Q E hj st _ => absurd st.1 (Nat.ne_of_lt hj)
  done := fun s Q E st hE => D.en it its i s Q E hh hl st.2.1 st.2.2 hE
theorem turn_en (D : Sq2 P w K a Q S G ob) (c : Int) (e it : Addr) : Turn P w K (.Tuple elts kk tpos) (Itn Q c) [e, it] e (fun i h => (∃ old, IsEnum h e it (c + ((i : Nat) : Int)) old) ∧ S it i h ∧ e ≠ it ∧ a ≠ it ∧ a ≠ e) where
  mem := by simp
  obj := fun i h st b hb => by
    obtain ⟨⟨old, he⟩, hi, _⟩ := st
    have e' : b = e ∨ b = it := by simpa using hb
    rcases e' with z | z
    · rw [z]; exact ⟨_, he, fun v q => nomatch q⟩
    · rw [z]; exact D.own hi
  keep := fun i h h' st k => let ⟨⟨old, he⟩, hi, hne⟩ := st; ⟨⟨old, k e (by simp) _ he⟩, D.at_ hi fun o q => k it (by simp) o q, hne⟩
  item := by
    intro X hP hw hK hc i pins s σ H E I hf st hg
    obtain ⟨⟨old, he⟩, hit, hne, hai, hae⟩ := st
    obtain ⟨xs, x, hq, hx⟩ := hg
    obtain ⟨its, rv, p⟩ := D.get hP hw hK I hq
    obtain ⟨u, hu, ru⟩ := rv.get hx
    have hel : e < s.heap.objs.size := Heap.lt_size he
    have hil : it < s.heap.objs.size := by obtain ⟨_, q, _⟩ := D.own hit; exact Heap.lt_size q
    have hlt : i < its.toArray.size := by rw [List.size_toArray]; exact (List.getElem?_eq_some_iff.mp hu).1
    refine wpAny_pyNext_enum_itemC (D.dr (A := X.A.in1) it its (I.ok.hd hc) hai) he ⟨hit, p⟩ hlt hne (by simp [hne, Ne.symm hae]) fun y h' tk hP' ho hs' hT hsz hk => ?_
    have ey : y = u := by
      have hP2 : its[i]? = some y := by simpa using hP'
      rw [hu] at hP2; exact (Option.some.inj hP2).symm
    subst ey
    refine ⟨_, rfl, wpAny_letOwnedTupleGo_enum (s := { s with heap := h', toks := tk + 1 }) ho fun h'' he' sb => ?_⟩
    have hT2 : h''.get? s.heap.objs.size = some { cls := .type "tuple", data := .seq #[.int (c + ((i : Nat) : Int)) tk, y] } := (sb.2 _ (Nat.ne_of_gt hel)).trans hT
    have new : ObjOk X.prog X.w (upd H s.heap.objs.size (.tup [.int (c + (i : Nat)), x])) h'' s.heap.objs.size (.tup [.int (c + (i : Nat)), x]) :=
      ⟨by show 2 ≤ sizeLine; decide, [.int (c + ((i : Nat) : Int)) tk, y], .cons ⟨_, rfl⟩ (.cons ru .nil), ⟨_, hT2, rfl, _, rfl⟩⟩
    have I1 : Inv X pins σ (upd H s.heap.objs.size (.tup [.int (c + (i : Nat)), x])) { s with heap := h'', toks := tk + 1 } :=
      I.turnedNew (ch := [e, it]) (fun b ob hb q => (sb.2 b (fun z => hb (by simp [z]))).trans (hk b ob (fun z => hb (by simp [z])) (fun z => hb (by simp [z])) q)) hf (Nat.le_refl _) new
    refine ⟨.ref s.heap.objs.size, _, I1, rfl, ⟨_, x, rfl, I.hok.fresh (Nat.le_refl _), rfl, fun ys hy => by rw [D.inj hP hw hK I hy hq]; exact hx⟩, ⟨⟨y, ?_⟩, D.at_ hs'.1 (fun o q => (sb.2 it (Ne.symm hne)).trans q), hne, hai, hae⟩, fun b hb => ?_⟩
    · have e1 : c + ((i + 1 : Nat) : Int) = c + (i : Int) + 1 := by omega
      rw [e1]; exact he'
    · have hb' : b < s.heap.objs.size := by
        have e' : b = e ∨ b = it := by simpa using hb
        rcases e' with z | z
        · rw [z]; exact hel
        · rw [z]; exact hil
      rw [upd_ne (Nat.ne_of_lt hb')]
      exact (hf b hb).1
  done := by
    intro X hP hw hK hc i pins s σ H E I hf st hg
    obtain ⟨⟨old, he⟩, hit, hne, hai, hae⟩ := st
    obtain ⟨xs, hq, hx⟩ := hg
    obtain ⟨its, rv, p⟩ := D.get hP hw hK I hq
    obtain ⟨f0, f1, f2, f3, f4, f5⟩ := hf it (by simp)
    have hl : its.length ≤ i := by rw [← rv.length]; exact hx
    exact wpAny_pyNext_enum_endD (D.stop (A := X.A.in1) it its i (I.ok.hd hc) hl) he ⟨rfl, hit, p⟩ fun h' eb => ⟨rfl, I.turned (t' := s.toks) (fun b o hb q => eb b o hb q) f0 f1 f3 f4 f5⟩
  self := fun A i s Q E st h => let ⟨⟨_, he⟩, _⟩ := st; wpAny_pyIter_enum he h
end
def iEn (Sq : Addr → Hp → List V → Prop) (ta : TA) : TI := fun σ H R => ta σ H fun vs H1 => ∃ (a : Addr) (xs : List V), vs = [.ref a] ∧ Sq a H1 xs ∧ R (Itn (Sq a) 0) H1
def iEn2 (Sq : Addr → Hp → List V → Prop) (ta : TA) : TI := fun σ H R => ta σ H fun vs H1 => ∃ (a : Addr) (xs : List V) (c : Int), vs = [.ref a, .int c] ∧ -(2 ^ 63) ≤ c ∧ c < 2 ^ 63 ∧ Sq a H1 xs ∧ R (Itn (Sq a) c) H1
section
variable {X : Cx} {e e2 : Expr} {ta : TA} {p pos tpos : Pos} {elts : List Expr} {kk : Nat} {Sq : Addr → Hp → List V → Prop} {S : Addr → Addr → Nat → Heap → Prop} {G : Addr → List Value → Heap → Prop} {ob : Addr → Obj}
theorem en_fp {pins : List (Addr × Obj)} {σ : L2.St} {H : Hp} {s : Shared} (I : Inv X pins σ H s) : ∀ b ∈ [s.heap.objs.size + 1, s.heap.objs.size], FpOk X pins H b := fun b hb => by
  have e' : b = s.heap.objs.size + 1 ∨ b = s.heap.objs.size := by simpa using hb
  have hle : s.heap.objs.size ≤ b := by
    rcases e' with z | z
    · rw [z]; exact Nat.le_add_right _ _
    · rw [z]; exact Nat.le_refl _
  exact I.fpOk hle (I.hok.fresh hle)
theorem pi_en (D : ∀ a, Sq2 X.prog X.w X.K a (Sq a) (S a) (G a) (ob a)) (hg : Gl X "enumerate") (hm : X.mg "enumerate" = none) (ha : PA X [e] ta) (hs : starEach [e] X.env = [(false, eval e X.env)]) : PI X (.Tuple elts kk tpos) (.Call (.Name "enumerate" p) [e] [] pos) (iEn Sq ta) := by
  refine ⟨fun pins s σ H R I h => ?_⟩
  refine Call_ (ld_blt I hg hm boot_enumerate (PyProof.Rows.callWith_type1 (thn (ha.run pos pins s σ H _ I h) fun us s1 ⟨vs, H1, I1, r1, q1⟩ => ?_) hs rfl))
  obtain ⟨a, xs, ex, hq, q⟩ := q1
  subst ex
  cases r1 with
  | cons r rr =>
    cases rr
    cases r
    obtain ⟨its, rv, p'⟩ := (D a).get rfl rfl rfl I1 hq
    have hlt := (D a).lt p'
    refine en1_begins ((D a).bg its) p' fun h' he hit hk => wpAny_pyIter_enum he ?_
    have I2 : Inv X pins σ H1 { s1 with heap := h' } := I1.kept (t' := s1.toks) hk
    exact ⟨s1.heap.objs.size + 1, [s1.heap.objs.size + 1, s1.heap.objs.size], _, _, H1, rfl, I2, turn_en (D a) 0 (s1.heap.objs.size + 1) s1.heap.objs.size,
      ⟨⟨.none, he⟩, (D a).new hit, Nat.succ_ne_self _, Nat.ne_of_lt hlt, Nat.ne_of_lt (Nat.lt_succ_of_lt hlt)⟩, fun b hb => en_fp I1 b hb, q⟩
theorem pi_en2 (D : ∀ a, Sq2 X.prog X.w X.K a (Sq a) (S a) (G a) (ob a)) (hg : Gl X "enumerate") (hm : X.mg "enumerate" = none) (ha : PA X [e, e2] ta) (hs : starEach [e, e2] X.env = [(false, eval e X.env), (false, eval e2 X.env)]) (hs2 : starEach [e2] X.env = [(false, eval e2 X.env)]) : PI X (.Tuple elts kk tpos) (.Call (.Name "enumerate" p) [e, e2] [] pos) (iEn2 Sq ta) := by
  refine ⟨fun pins s σ H R I h => ?_⟩
  refine Call_ (ld_blt I hg hm boot_enumerate (PyProof.Rows.callWith_type1 (thn (ha.run pos pins s σ H _ I h) fun us s1 ⟨vs, H1, I1, r1, q1⟩ => ?_) (by rw [hs, hs2]) (by rw [hs2]; rfl)))
  obtain ⟨a, xs, c, ex, c0, c1, hq, q⟩ := q1
  subst ex
  cases r1 with
  | cons r rr =>
    cases rr with
    | cons r' rr =>
      cases rr
      cases r
      obtain ⟨t, rfl⟩ := r'
      obtain ⟨its, rv, p'⟩ := (D a).get rfl rfl rfl I1 hq
      have hlt := (D a).lt p'
      refine enum_begins ((D a).bg its) p' c0 c1 fun h' he hit hsz hk => wpAny_pyIter_enum he ?_
      have I2 : Inv X pins σ H1 { s1 with heap := h' } := I1.kept (t' := s1.toks) hk
      exact ⟨s1.heap.objs.size + 1, [s1.heap.objs.size + 1, s1.heap.objs.size], _, _, H1, rfl, I2, turn_en (D a) c (s1.heap.objs.size + 1) s1.heap.objs.size,
        ⟨⟨.none, by rw [show c + ((0 : Nat) : Int) = c by simp]; exact he⟩, (D a).new hit, Nat.succ_ne_self _, Nat.ne_of_lt hlt, Nat.ne_of_lt (Nat.lt_succ_of_lt hlt)⟩, fun b hb => en_fp I1 b hb, q⟩
end
def enumN {α : Type} (c : Int) (xs : List α) : List (Int × α) := (enumL xs).map fun p => (c + p.1, p.2)
theorem enumN_len {α : Type} {c : Int} {xs : List α} : (enumN c xs).length = xs.length := by simp [enumN, enumL_len]
theorem enumN_get {α : Type} {c : Int} {xs : List α} {i : Nat} {x : α} (h : xs[i]? = some x) : (enumN c xs)[i]? = some (c + (i : Int), x) := by
  unfold enumN; rw [List.getElem?_map, enumL_get h]; rfl
theorem enumN_zero {α : Type} {xs : List α} : enumN 0 xs = enumL xs := by
  unfold enumN
  have : (fun p : Int × α => ((0 : Int) + p.1, p.2)) = id := by funext p; simp
  rw [this, List.map_id]
section
variable {X : Cx} {W : WX} {Γ : Ctx} {tg a b e : Expr} {pos p q tpos : Pos} {t : Ty} {elts : List Expr} {kk : Nat}
theorem wlk_en {K : PySem.W.Frag} {mg : Str → Option Value} {F : Hp} {Q : Hp → List V → Prop} {c : Int} {xs : List t.den} {ws : List V} (hq : ∀ H, Same F H → Q H ws) (rr : all2 (fun y w => rl K mg t y [w] F) xs ws) :
    Wlk K mg (.tup (.pr .int t)) (Itn Q c) (enumN c xs) F := by
  refine ⟨fun i H s hi => ?_, fun i H s hi => ⟨ws, hq H s, by rw [← rr.len, ← enumN_len (c := c)]; exact hi⟩, fun i H v H3 s hi y => ?_⟩
  · rw [enumN_len] at hi
    obtain ⟨v, h1, _⟩ := rr.get (List.getElem?_eq_getElem hi)
    exact ⟨ws, v, hq H s, h1⟩
  · obtain ⟨T, z, rfl, nT, rfl, f⟩ := y
    obtain ⟨y, h1, h2⟩ := rr.getV (f ws (hq H s))
    refine ⟨(c + (i : Int), y), enumN_get h1, fun G g1 g2 => ?_⟩
    have e2 := Ext.new (o := .tup [.int (c + (i : Nat)), z]) g2 nT
    exact ⟨_, e2, T, _, rfl, SqT.of upd_same, .int (c + (i : Nat)), [z], rfl, rfl, rl_mono (g1.trans e2.f) t y [z] h2⟩
theorem i_enumT {m : Mx (List t.den)} (hg : Gl X "enumerate") (hm : X.mg "enumerate" = none) (ha : EM X W Γ a (.vtup t) m) (hs : starEach [a] X.env = [(false, eval a X.env)]) :
    EI X W Γ (.Tuple elts kk tpos) (.Call (.Name "enumerate" p) [a] [] pos) (.tup (.pr .int t)) (m >>= fun xs => .ok (enumL xs)) :=
  pi_imp (pi_en (fun a => sq_tup X.prog X.w X.K a) hg hm (ea_one ha hs) hs) fun σ H R ⟨F, s, d, q⟩ => ⟨F, s, d, q.bind.mono fun x px vs F1 H1 e1 r1 => by
    obtain ⟨l, ws, e, sq, rr⟩ := r1
    have hw := wlk_en (t := t) (K := X.K) (mg := X.mg) (F := F1) (Q := fun H xs => SqT X.K H l xs) (c := 0) (fun H s => sqT_same s sq) rr
    rw [enumN_zero] at hw
    exact ⟨l, ws, e, sqT_same e1.i sq, px F1 H1 _ e1 hw⟩⟩
theorem i_en2T {m : Mx (List t.den)} {mc : Mx Int} (hg : Gl X "enumerate") (hm : X.mg "enumerate" = none) (ha : EM X W Γ a (.vtup t) m) (hb : EM X W Γ b .int mc) (hs : starEach [a, b] X.env = [(false, eval a X.env), (false, eval b X.env)]) (hs2 : starEach [b] X.env = [(false, eval b X.env)]) :
    EI X W Γ (.Tuple elts kk tpos) (.Call (.Name "enumerate" p) [a, b] [] pos) (.tup (.pr .int t)) (m >>= fun xs => mc >>= fun c => if -(2 ^ 63) ≤ c ∧ c < 2 ^ 63 then .ok (enumN c xs) else .no) :=
  pi_imp (pi_en2 (fun a => sq_tup X.prog X.w X.K a) hg hm (pa_cons ha (pa_cons hb pa_nil hs2) (by rw [hs, hs2])) hs hs2) fun σ H R ⟨F, s, d, q⟩ => ⟨F, s, d, q.bind.mono fun x px v F1 H1 e1 r1 => ⟨F1, e1.i, d.mono e1.f, post.ext e1 px.bind fun c pc w F2 H2 e2 r2 => by
    obtain ⟨l, ws, e, sq, rr⟩ := r1
    cases (List.cons.inj e).1
    cases (List.cons.inj (show [w] = _ from r2)).1
    by_cases hc : -(2 ^ 63) ≤ c ∧ c < 2 ^ 63
    · rw [if_pos hc] at pc
      have sq2 := sqT_mono (fun b o z _ => e2.f b o z) sq
      have hw := wlk_en (t := t) (K := X.K) (mg := X.mg) (F := F2) (Q := fun H xs => SqT X.K H l xs) (c := c) (fun H s => sqT_same s sq2) (rr.imp fun y u z => rl_mono e2.f t y [u] z)
      exact ⟨l, ws, c, rfl, hc.1, hc.2, sqT_same e2.i sq2, pc F2 H2 _ (e1.trans e2) hw⟩
    · rw [if_neg hc] at pc; exact pc.elim⟩⟩
theorem i_en2L {m : Mx (List t.den)} {mc : Mx Int} (hg : Gl X "enumerate") (hm : X.mg "enumerate" = none) (ha : EM X W Γ a (.list t) m) (hb : EM X W Γ b .int mc) (hs : starEach [a, b] X.env = [(false, eval a X.env), (false, eval b X.env)]) (hs2 : starEach [b] X.env = [(false, eval b X.env)]) :
    EI X W Γ (.Tuple elts kk tpos) (.Call (.Name "enumerate" p) [a, b] [] pos) (.tup (.pr .int t)) (m >>= fun xs => mc >>= fun c => if -(2 ^ 63) ≤ c ∧ c < 2 ^ 63 then .ok (enumN c xs) else .no) :=
  pi_imp (pi_en2 (fun a => sq_list X.prog X.w X.K a) hg hm (pa_cons ha (pa_cons hb pa_nil hs2) (by rw [hs, hs2])) hs hs2) fun σ H R ⟨F, s, d, q⟩ => ⟨F, s, d, q.bind.mono fun x px v F1 H1 e1 r1 => ⟨F1, e1.i, d.mono e1.f, post.ext e1 px.bind fun c pc w F2 H2 e2 r2 => by
    obtain ⟨l, ws, e, sq, rr⟩ := r1
    cases (List.cons.inj e).1
    cases (List.cons.inj (show [w] = _ from r2)).1
    by_cases hc : -(2 ^ 63) ≤ c ∧ c < 2 ^ 63
    · rw [if_pos hc] at pc
      have sq2 := e2.f _ _ sq
      have hw := wlk_en (t := t) (K := X.K) (mg := X.mg) (F := F2) (Q := fun H xs => SqL X.K H l xs) (c := c) (fun H s => SqL.of (s _ _ sq2)) (rr.imp fun y u z => rl_mono e2.f t y [u] z)
      exact ⟨l, ws, c, rfl, hc.1, hc.2, SqL.of (e2.i _ _ sq2), pc F2 H2 _ (e1.trans e2) hw⟩
    · rw [if_neg hc] at pc; exact pc.elim⟩⟩
end
end Gm
set_option Elab.async false
set_option linter.all false
set_option maxRecDepth 100000
set_option maxHeartbeats 4000000
namespace Gm
open PySem PySem.Spec L2

/-! ## entries -/
section
variable {α β : Type} [DecidableEq α]
def dget (xs : List (α × β)) (x : α) : Option β := (xs.find? fun p => decide (p.1 = x)).map (·.2)
def dput (xs : List (α × β)) (x : α) (y : β) : List (α × β) := if (xs.any fun p => decide (p.1 = x)) = true then xs.map (fun p => if p.1 = x then (p.1, y) else p) else xs ++ [(x, y)]
def ddrop (xs : List (α × β)) (x : α) : List (α × β) := xs.filter fun p => decide (p.1 ≠ x)
def dmerge (ps : List (α × β)) : List (α × β) := ps.foldl (fun acc p => dput acc p.1 p.2) []
theorem dget_nil {x : α} : dget ([] : List (α × β)) x = none := rfl
theorem dget_pos {p : α × β} {r : List (α × β)} {x : α} (e : p.1 = x) : dget (p :: r) x = some p.2 := by simp [dget, List.find?_cons, e]
theorem dget_neg {p : α × β} {r : List (α × β)} {x : α} (e : ¬ p.1 = x) : dget (p :: r) x = dget r x := by simp [dget, List.find?_cons, e]
variable {κ : Type} [DecidableEq κ] {f : α → κ} {R : β → V → Prop}
theorem allD.len {α β κ : Type} {f : α → κ} {R : β → V → Prop} : ∀ {xs : List (α × β)} {kvs : List (κ × V)}, allD f R xs kvs → xs.length = kvs.length
  | [], [], _ => rfl
  | _ :: _, _ :: _, ⟨_, c⟩ => congrArg (· + 1) (allD.len c)
  | [], _ :: _, z => z.elim
  | _ :: _, [], z => z.elim
theorem allD.val (hf : ∀ a b, f a = f b → a = b) (x : α) : ∀ {xs : List (α × β)} {kvs : List (κ × V)}, allD f R xs kvs → (dget xs x = none ∧ valV kvs (f x) = none) ∨ ∃ y v, dget xs x = some y ∧ valV kvs (f x) = some v ∧ R y v
  | [], [], _ => .inl ⟨rfl, rfl⟩
  | p :: xs, q :: kvs, ⟨⟨a, b⟩, c⟩ => by
    by_cases h : p.1 = x
    · have hq : q.1 = f x := by rw [a, h]
      exact .inr ⟨p.2, q.2, dget_pos h, valV_pos hq, b⟩
    · have hq : ¬ q.1 = f x := fun z => h (hf _ _ (a.symm.trans z))
      rw [dget_neg h, valV_neg hq]
      exact allD.val hf x c
  | [], _ :: _, z => z.elim
  | _ :: _, [], z => z.elim
theorem allD.any (hf : ∀ a b, f a = f b → a = b) (x : α) : ∀ {xs : List (α × β)} {kvs : List (κ × V)}, allD f R xs kvs → (kvs.any fun kv => decide (kv.1 = f x)) = xs.any fun p => decide (p.1 = x)
  | [], [], _ => rfl
  | p :: xs, q :: kvs, ⟨⟨a, _⟩, c⟩ => by
    rw [List.any_cons, List.any_cons, allD.any hf x c, a, decide_eq_decide.mpr ⟨fun z => hf _ _ z, fun z => congrArg f z⟩]
  | [], _ :: _, z => z.elim
  | _ :: _, [], z => z.elim
theorem allD.app {α β κ : Type} {f : α → κ} {R : β → V → Prop} : ∀ {xs ys : List (α × β)} {kvs ls : List (κ × V)}, allD f R xs kvs → allD f R ys ls → allD f R (xs ++ ys) (kvs ++ ls)
  | [], _, [], _, _, h => h
  | _ :: _, _, _ :: _, _, ⟨a, b⟩, h => ⟨a, allD.app b h⟩
  | [], _, _ :: _, _, z, _ => z.elim
  | _ :: _, _, [], _, z, _ => z.elim
theorem allD.set (hf : ∀ a b, f a = f b → a = b) (x : α) {y : β} {v : V} (r : R y v) : ∀ {xs : List (α × β)} {kvs : List (κ × V)}, allD f R xs kvs → allD f R (xs.map fun p => if p.1 = x then (p.1, y) else p) (kvs.map fun kv => if kv.1 = f x then (kv.1, v) else kv)
  | [], [], _ => True.intro
  | p :: xs, q :: kvs, ⟨⟨a, b⟩, c⟩ => by
    rw [List.map_cons, List.map_cons]
    refine ⟨?_, allD.set hf x r c⟩
    by_cases h : p.1 = x
    · have hq : q.1 = f x := by rw [a, h]
      rw [if_pos h, if_pos hq]; exact ⟨a, r⟩
    · have hq : ¬ q.1 = f x := fun z => h (hf _ _ (a.symm.trans z))
      rw [if_neg h, if_neg hq]; exact ⟨a, b⟩
  | [], _ :: _, z => z.elim
  | _ :: _, [], z => z.elim
theorem allD.put (hf : ∀ a b, f a = f b → a = b) (x : α) {y : β} {v : V} (r : R y v) {xs : List (α × β)} {kvs : List (κ × V)} (h : allD f R xs kvs) : allD f R (dput xs x y) (putK kvs (f x) v) := by
  unfold dput putK
  rw [allD.any hf x h]
  split
  · exact allD.set hf x r h
  · exact allD.app h ⟨⟨rfl, r⟩, True.intro⟩
end
/-- a code whose things may be keys -/
def Ky (k : Ty) : Prop := (∀ x y, k.key x = k.key y → x = y) ∧ ∀ (K : PySem.W.Frag) (mg : Str → Option Value) (F : Hp) (x : k.den) (v : V), rl K mg k x [v] F → v = kV (k.key x)
theorem ky_int : Ky .int := ⟨fun x y h => Sum.inl.inj h, fun K mg F x v r => (List.cons.inj (show [v] = [V.int x] from r)).1⟩
theorem ky_str : Ky .str := ⟨fun x y h => Sum.inr.inj h, fun K mg F x v r => (List.cons.inj (show [v] = [V.str x] from r)).1⟩

section
variable {X : Cx} {W : WX} {hk : List Nat} {Γ Γv Γi : Ctx} {st : Stmt} {rest : List Stmt} {a b c e : Expr} {pos p p2 apos cpos : Pos} {t t1 k : Ty} {β : Type} {I : β → Out}
/-! ## dicts read -/
theorem e_dget [DecidableEq k.den] {m1 : Mx (List (k.den × t.den))} {m2 : Mx k.den} (hk : Ky k) (hu : X.A.units + 64 < cLine) (ha : EM X W Γ a (.dic k t) m1) (hb : EM X W Γ b k m2) (hs : NoSl b) : EM X W Γ (.Subscript a b pos) t (m1 >>= fun d => m2 >>= fun x => ofO (dget d x)) :=
  pe_imp (pe_dget (by omega) ha hb hs) fun σ H Q ⟨F, s, d, q⟩ => ⟨F, s, d, q.bind.mono fun x px v F1 H1 e1 r1 => ⟨F1, e1.i, d.mono e1.f, post.ext e1 px.bind fun y py w F2 H2 e2 r2 => by
    obtain ⟨l, kvs, e, g, rr⟩ := r1
    cases (List.cons.inj e).1
    cases hk.2 _ _ _ _ _ r2
    have g2 : H2 l = some (.dK kvs) := e2.i _ _ (e2.f _ _ g)
    rcases rr.val hk.1 y with ⟨n1, n2⟩ | ⟨z, u, n1, n2, r⟩
    · rw [n1] at py; exact py.elim
    · rw [n1] at py
      refine ⟨l, u, rfl, ?_, py u F2 H2 (e1.trans e2) (rl_mono e2.f t z [u] r)⟩
      rw [← n2]; exact DGet.k g2⟩⟩
theorem c_dIn [DecidableEq k.den] {m1 : Mx k.den} {m2 : Mx (List (k.den × t.den))} (hk : Ky k) (hu : X.A.units + 64 < cLine) (ha : EM X W Γ a k m1) (hb : EM X W Γ b (.dic k t) m2) : EC X W Γ .In a b (m1 >>= fun x => m2 >>= fun d => .ok (dget d x).isSome) :=
  pc_imp (pc_din (by omega) ha hb) fun σ H Q ⟨F, s, d, q⟩ => ⟨F, s, d, q.bind.mono fun x px v F1 H1 e1 r1 => ⟨F1, e1.i, d.mono e1.f, post.ext e1 px.bind fun y py w F2 H2 e2 r2 => by
    obtain ⟨l, kvs, e, g, rr⟩ := r2
    cases (List.cons.inj e).1
    cases hk.2 _ _ _ _ _ r1
    have g2 : H2 l = some (.dK kvs) := e2.i _ _ g
    refine ⟨l, _, rfl, DGet.k g2, ?_⟩
    rcases rr.val hk.1 x with ⟨n1, n2⟩ | ⟨z, u, n1, n2, r⟩
    · rw [n1] at py; rw [n2]; exact py _ F2 H2 (e1.trans e2) rfl
    · rw [n1] at py; rw [n2]; exact py _ F2 H2 (e1.trans e2) rfl⟩⟩
theorem c_dNin [DecidableEq k.den] {m1 : Mx k.den} {m2 : Mx (List (k.den × t.den))} (hk : Ky k) (hu : X.A.units + 64 < cLine) (ha : EM X W Γ a k m1) (hb : EM X W Γ b (.dic k t) m2) : EC X W Γ .NotIn a b (m1 >>= fun x => m2 >>= fun d => .ok (!(dget d x).isSome)) :=
  pc_imp (pc_dnotin (by omega) ha hb) fun σ H Q ⟨F, s, d, q⟩ => ⟨F, s, d, q.bind.mono fun x px v F1 H1 e1 r1 => ⟨F1, e1.i, d.mono e1.f, post.ext e1 px.bind fun y py w F2 H2 e2 r2 => by
    obtain ⟨l, kvs, e, g, rr⟩ := r2
    cases (List.cons.inj e).1
    cases hk.2 _ _ _ _ _ r1
    have g2 : H2 l = some (.dK kvs) := e2.i _ _ g
    refine ⟨l, _, rfl, DGet.k g2, ?_⟩
    rcases rr.val hk.1 x with ⟨n1, n2⟩ | ⟨z, u, n1, n2, r⟩
    · rw [n1] at py; rw [n2]; exact py _ F2 H2 (e1.trans e2) rfl
    · rw [n1] at py; rw [n2]; exact py _ F2 H2 (e1.trans e2) rfl⟩⟩
/-- d.get(x, y) -/
theorem e_dgetD [DecidableEq k.den] {m1 : Mx (List (k.den × t.den))} {m2 : Mx k.den} {m3 : Mx t.den} (hk : Ky k) (hu : X.A.units + 64 < cLine) (ha : EM X W Γ a (.dic k t) m1) (hb : EM X W Γ b k m2) (hc : EM X W Γ c t m3) (hm : M2 X a "get" apos b c cpos) : EM X W Γ (.Call (.Attribute a "get" apos) [b, c] [] cpos) t (m1 >>= fun d => m2 >>= fun x => m3 >>= fun y => .ok ((dget d x).getD y)) :=
  pe_imp (pe_dget2 (by omega) ha hb hc hm) fun σ H Q ⟨F, s, d, q⟩ => ⟨F, s, d, q.bind.mono fun x px v F1 H1 e1 r1 => by
    obtain ⟨l, kvs, e, g, rr⟩ := r1
    cases (List.cons.inj e).1
    have g1 : H1 l = some (.dK kvs) := e1.i _ _ g
    refine ⟨l, rfl, .inl ⟨_, .inl g1⟩, F1, e1.i, d.mono e1.f, post.ext e1 px.bind fun y py w F2 H2 e2 r2 => ⟨F2, e2.i, d.mono (e1.f.trans e2.f), post.ext (e1.trans e2) py.bind fun z pz u F3 H3 e3 r3 => ?_⟩⟩
    cases hk.2 _ _ _ _ _ r2
    have g3 : H3 l = some (.dK kvs) := e3.i _ _ (e3.f _ _ (e2.f _ _ g))
    refine ⟨_, DGet.k g3, ?_⟩
    rcases rr.val hk.1 y with ⟨n1, n2⟩ | ⟨z', u', n1, n2, r⟩
    · rw [n1] at pz; rw [n2]; exact pz u F3 H3 ((e1.trans e2).trans e3) r3
    · rw [n1] at pz; rw [n2]; exact pz u' F3 H3 ((e1.trans e2).trans e3) (rl_mono (e2.f.trans e3.f) t z' [u'] r)⟩
/-! ## d[x] = y on an owned dict -/
def dputO [DecidableEq k.den] (d : List (k.den × t.den)) (x : k.den) (y : t.den) : Option (List (k.den × t.den)) := if d.length < sizeLine then some (dput d x y) else none
theorem e_dnil : EO X W Γ (.Dict [] [] pos) (.dic k t) (.ok []) := pe_imp pe_dnewK fun σ H Q ⟨F, s, d, q⟩ => fun p np =>
  q (.ref p) F _ (Ext.cell s np) ⟨[p], ⟨p, [], rfl, rfl, upd_same, True.intro⟩, by simp, fun a ha => by rw [List.mem_singleton.mp ha]; exact ⟨s.free np, np⟩⟩
theorem bs_dput (i : Nat) [DecidableEq k.den] {xs : List (k.den × t.den)} {me : Mx t.den} {mx : Mx k.den} {kk : List (k.den × t.den) → Mx β} {n : Str} (hk2 : Ky k) (hu : X.A.units + 64 < cLine) (hi : Γ[i]? = some (.o (.dic k t) xs)) (hx : PE X (.Name n p) (tVar i)) (he : EM X W Γv e t me) (vw : Vw Γ (.d t) Γv)
    (hj : EM X W Γi b k mx) (vi : Vw Γ (.d k) Γi) (hr : ∀ ys, BS X W hk (Γ.set i (.o (.dic k t) ys)) rest (kk ys) I) (hs : swapsWith e (some (.Subscript (.Name n p) b p2)) pos.line X.env = pure false) :
    BS X W hk Γ (.Assign [.Subscript (.Name n p) b p2] e pos :: rest) (me >>= fun y => mx >>= fun x => ofO (dputO xs x y) >>= kk) I :=
  have hr' : PSs X rest (fun D σ H => ∃ ys, tS X.K X.mg W hk (Γ.set i (.o (.dic k t) ys)) (kk ys) I D σ H) := ⟨fun pins s σ H D J ⟨x, q⟩ => (hr x).run pins s σ H D J q⟩
  pss_imp (pss_cons (ps_dput (by omega) hx hj he hs) hr') fun D σ H ⟨E, F, h, g, q⟩ => by
    obtain ⟨G, g1, g2, g3⟩ := g.look vw
    refine ⟨G, g1, g2, q.bind.post g (fun F' H' x => let ⟨F2, a, _, b⟩ := g3 F' H' x; ⟨F2, a, b⟩) fun y py u F' H' ex ru => ?_⟩
    obtain ⟨F2, x2, back, _⟩ := g3 F' H' ex
    have ru2 : rl X.K X.mg t y [u] F2 := back y u ru
    have gg := g.grow x2
    obtain ⟨fps, w⟩ := id gg.ow
    obtain ⟨ov, e1, v, rfl, ho⟩ := w.at_ i _ hi
    obtain ⟨l, kvs, ev, efp, hl, rr⟩ := id ho
    cases (List.cons.inj ev).1
    refine ⟨.ref l, e1, ?_⟩
    obtain ⟨G2, k1, k2, k3⟩ := gg.look vi
    refine ⟨G2, k1, k2, py.bind.post gg (fun F' H' x => let ⟨F3, a, _, b⟩ := k3 F' H' x; ⟨F3, a, b⟩) fun x px v2 F'' H'' ex2 rx => ?_⟩
    obtain ⟨F3, x3, back3, _⟩ := k3 F'' H'' ex2
    have rx2 : rl X.K X.mg k x [v2] F3 := back3 x v2 rx
    cases hk2.2 _ _ _ _ _ rx2
    unfold dputO at px
    by_cases hz : xs.length < sizeLine
    · rw [if_pos hz] at px
      have ru3 : rl X.K X.mg t y [u] F3 := rl_mono x3.f t y [u] ru2
      have hl3 : H'' l = some (.dK kvs) := x3.h _ _ hl
      refine ⟨l, upd H'' l (.dK (putK kvs (k.key x) u)), rfl, .inl ⟨kvs, k.key x, hl3, rfl, by rw [← rr.len]; exact hz, rfl⟩, dput xs x y, E, F3, h, ?_, px⟩
      refine (gg.grow x3).writeO hi e1 fun fp nd hol => ?_
      obtain ⟨l', kvs', ev', efp', hl', rr'⟩ := hol
      cases (List.cons.inj ev').1
      rw [hl3] at hl'
      cases hl'
      exact ⟨by rw [efp']; exact List.mem_singleton.mpr rfl, l, _, rfl, efp', upd_same, rr'.put hk2.1 x ru3⟩
    · rw [if_neg hz] at px; exact px.elim
/-! ## dict comprehensions -/
theorem dmerge_snoc [DecidableEq k.den] {done : List (k.den × t.den)} {q : k.den × t.den} : dmerge (done ++ [q]) = dput (dmerge done) q.1 q.2 := by simp [dmerge, List.foldl_append]
theorem dput_len {α β : Type} [DecidableEq α] {xs : List (α × β)} {x : α} {y : β} : (dput xs x y).length ≤ xs.length + 1 := by
  unfold dput; split <;> simp
theorem dmerge_len [DecidableEq k.den] : ∀ {ps : List (k.den × t.den)}, (dmerge ps).length ≤ ps.length := by
  intro ps
  have h : ∀ (ps acc : List (k.den × t.den)), (ps.foldl (fun acc p => dput acc p.1 p.2) acc).length ≤ acc.length + ps.length := by
    intro ps
    induction ps with
    | nil => intro acc; exact Nat.le_refl _
    | cons q ps ih =>
      intro acc
      have h1 := ih (dput acc q.1 q.2)
      have h2 := dput_len (xs := acc) (x := q.1) (y := q.2)
      rw [List.foldl_cons, List.length_cons]; omega
  have h1 := h ps []
  rw [List.length_nil, Nat.zero_add] at h1
  exact h1
end
section
variable {X : Cx} {W : WX} {Γ : Ctx} {tg : Expr} {pos : Pos} {t k t1 : Ty}
/-- the entries of {a: b for ..} -/
def dcE {α κ β : Type} (mk : α → Mx κ) (mv : α → Mx β) (x : α) : Mx (κ × β) := mk x >>= fun a => mv x >>= fun b => .ok (a, b)
theorem dc_read {is : List Nat} {S : t.den → List Slot} [DecidableEq k.den] {mi : Mx (List t.den)} {mt : t.den → Mx Bool} {mk : t.den → Mx k.den} {mv : t.den → Mx t1.den} {vs : List Nat} (hk : Ky k) (his : ∀ i ∈ is, i ∈ vs) :
    ∀ σ H Q, tR X.mg X.K W Γ (.d (.dic k t1)) (mi >>= fun xs => compO xs (compF mt (dcE mk mv)) >>= fun ps => .ok (dmerge ps)) σ H Q →
      tDc (tI X.mg X.K W Γ t mi) (gR X.K X.mg t is S) (fun σ H Q => ∃ x, tT X.mg X.K W0 (setL (wipeC Γ vs) is (S x)) (mt x) σ H Q) (fun σ H Q => ∃ x, tR X.mg X.K W0 (setL (wipeC Γ vs) is (S x)) (.d k) (mk x) σ H Q) (fun σ H Q => ∃ x, tR X.mg X.K W0 (setL (wipeC Γ vs) is (S x)) (.d t1) (mv x) σ H Q) vs σ H Q := by
  intro σ H Q ⟨F, s, d, p⟩
  refine ⟨F, s, d, p.bind.mono fun xs pxs F1 H1 J e1 w D nD => ?_⟩
  unfold compO at pxs
  by_cases hz : xs.length ≤ sizeLine
  rotate_left
  · rw [if_neg hz] at pxs; exact pxs.elim
  rw [if_pos hz] at pxs
  have hnd : compL xs (compF mt (dcE mk mv)) ≠ .no := fun z => by rw [z] at pxs; exact pxs
  have e1D : Ext F1 H1 F1 (upd H1 D (.dK [])) := Ext.cell e1.i nD
  refine ⟨fun i m H' => i ≤ xs.length ∧ m = xs.length - i ∧ ∃ G kvs done, Same F1 G ∧ Ext F H G H' ∧ H' D = some (.dK kvs) ∧ G D = none ∧ allD k.key (fun y v => rl X.K X.mg t1 y [v] G) (dmerge done) kvs ∧ done.length ≤ i ∧
    compL xs (compF mt (dcE mk mv)) = (compL (xs.drop i) (compF mt (dcE mk mv)) >>= fun r => .ok (done ++ r)), ⟨xs.length, Nat.zero_le _, by simp, F1, [], [], Same.refl _, e1.trans e1D, upd_same, e1.i.free nD, True.intro, Nat.le_refl _, ?_⟩, ?_⟩
  · rw [List.drop_zero]
    cases compL xs (compF mt (dcE mk mv)) <;> rfl
  · rintro i m H' ⟨hi, rfl, G, kvs, done, f1, e2, hD, gD, rr, hd, hc⟩
    have f1H : Same F1 H' := f1.trans e2.i
    by_cases hlt : i < xs.length
    · refine .inr ⟨w.go i H' f1H hlt, fun H'' => ∃ m', m' < xs.length - i ∧ (i + 1 ≤ xs.length ∧ m' = xs.length - (i + 1) ∧ ∃ G kvs done, Same F1 G ∧ Ext F H G H'' ∧ H'' D = some (.dK kvs) ∧ G D = none ∧ allD k.key (fun y v => rl X.K X.mg t1 y [v] G) (dmerge done) kvs ∧ done.length ≤ i + 1 ∧
          compL xs (compF mt (dcE mk mv)) = (compL (xs.drop (i + 1)) (compF mt (dcE mk mv)) >>= fun r => .ok (done ++ r))), fun _ z => z, fun v H3 y => ?_⟩
      obtain ⟨x, hx, kx⟩ := w.yld i H' v H3 f1H hlt y
      have hxx : xs[i] = x := by rw [List.getElem?_eq_getElem hlt] at hx; exact Option.some.inj hx
      obtain ⟨G1, x1, rx⟩ := kx G f1 e2.i
      obtain ⟨o, ho, hc'⟩ := compL_step hlt hc hnd
      rw [hxx] at ho
      refine ⟨x, G1, x1.i, rx, fun ws hl hb => ⟨wipe_setL his, x, G1, x1.i, ?_, ?_⟩⟩
      · exact SD.setL (is := is) ((d.mono (e2.f.trans x1.f)).wipe vs) hb
      · cases qt : mt x with
        | ex z => unfold compF at ho; rw [qt] at ho; cases ho
        | no => unfold compF at ho; rw [qt] at ho; cases ho
        | ok b =>
          intro G2 H4 x2
          cases b with
          | false =>
            rw [if_neg Bool.false_ne_true]
            have ho' : o = none := by unfold compF at ho; rw [qt] at ho; exact (Mx.ok.inj ho).symm
            subst ho'
            refine ⟨xs.length - (i + 1), by omega, by omega, rfl, G2, kvs, done, f1.trans (x1.f.trans x2.f), e2.trans (x1.trans x2), x2.h _ _ (x1.h _ _ hD), ?_, rr.imp fun y v z => rl_mono (x1.f.trans x2.f) t1 y [v] z, by omega, by rw [hc']; simp⟩
            exact x2.n D (by rw [x1.h _ _ hD]; exact fun z => nomatch z) (x1.n D (by rw [hD]; exact fun z => nomatch z) gD)
          | true =>
            rw [if_pos rfl]
            have ho2 : (dcE mk mv x >>= fun y => Mx.ok (some y)) = .ok o := by unfold compF at ho; rw [qt] at ho; exact ho
            refine ⟨x, G2, x2.i, SD.setL (is := is) ((d.mono ((e2.f.trans x1.f).trans x2.f)).wipe vs) (bdL_mono x2.f hb), ?_⟩
            unfold dcE at ho2
            cases qk : mk x with
            | ex z => rw [qk] at ho2; cases ho2
            | no => rw [qk] at ho2; cases ho2
            | ok a =>
              intro u0 G3 H5 x3 r3
              refine ⟨x, G3, x3.i, SD.setL (is := is) ((d.mono (((e2.f.trans x1.f).trans x2.f).trans x3.f)).wipe vs) (bdL_mono (x2.f.trans x3.f) hb), ?_⟩
              cases qe : mv x with
              | ex z => rw [qk] at ho2; change (mv x >>= _ ) >>= _ = _ at ho2; rw [qe] at ho2; cases ho2
              | no => rw [qk] at ho2; change (mv x >>= _) >>= _ = _ at ho2; rw [qe] at ho2; cases ho2
              | ok z =>
                have ho' : o = some (a, z) := by rw [qk] at ho2; change (mv x >>= _) >>= _ = _ at ho2; rw [qe] at ho2; exact (Mx.ok.inj ho2).symm
                subst ho'
                intro u G4 H6 x4 r4
                have x5 := x1.trans (x2.trans (x3.trans x4))
                have hD5 : H6 D = some (.dK kvs) := x5.h _ _ hD
                have gD3 : G4 D = none := x5.n D (by rw [hD]; exact fun z => nomatch z) gD
                have nDH : H D = none := e1.h.free nD
                cases hk.2 _ _ _ _ _ r3
                refine ⟨kvs, k.key a, rfl, hD5, ?_, xs.length - (i + 1), by omega, by omega, rfl, G4, putK kvs (k.key a) u, done ++ [(a, z)], f1.trans x5.f, ⟨(e2.trans x5).f, fun b o eb => ?_, fun b o eb => ?_, (e2.trans x5).n⟩, upd_same, gD3, ?_, by rw [List.length_append, List.length_singleton]; omega, by rw [hc']; rfl⟩
                · have := rr.len; have := dmerge_len (ps := done); omega
                · rw [upd_ne (ne_of_none eb nDH)]; exact (e2.trans x5).h _ _ eb
                · rw [upd_ne (fun z => by rw [z, gD3] at eb; cases eb)]; exact x5.i _ _ eb
                · rw [dmerge_snoc]
                  exact (rr.imp fun y v z => rl_mono x5.f t1 y [v] z).put hk.1 a r4
    · have hi' : i = xs.length := by omega
      subst hi'
      refine .inl ⟨w.stop _ H' f1H (Nat.le_refl _), ?_⟩
      rw [List.drop_length] at hc
      have hc2 : compL xs (compF mt (dcE mk mv)) = .ok (done ++ []) := hc
      rw [hc2, List.append_nil] at pxs
      -- the dict is known from now on
      have nDH : H D = none := e1.h.free nD
      have le : Same G (upd G D (.dK kvs)) := fun b o eb => by rw [upd_ne (fun z => by rw [z, gD] at eb; cases eb)]; exact eb
      refine pxs (.ref D) (upd G D (.dK kvs)) H' ⟨e2.f.trans le, e2.h, fun b o eb => ?_, fun b hb hf => ?_⟩ ⟨D, kvs, rfl, upd_same, rr.imp fun y v z => rl_mono le t1 y [v] z⟩
      · by_cases hbD : b = D
        · subst hbD; rw [upd_same] at eb; cases eb; exact hD
        · rw [upd_ne hbD] at eb; exact e2.i _ _ eb
      · rw [upd_ne (fun z => hb (by rw [z]; exact nDH))]; exact e2.n b hb hf
theorem e_dc {kx vx iter : Expr} {ifs : List Expr} {scope : Scope} {own : List (Str × Nat)} {is : List Nat} {S : t.den → List Slot} [DecidableEq k.den] {mi : Mx (List t.den)} {mt : t.den → Mx Bool} {mk : t.den → Mx k.den} {mv : t.den → Mx t1.den} (hky : Ky k) (hc : X.calm = true) (hN : X.N.Nodup) (ok : BlkOk X.N X.env.scope scope own)
    (hi : EI X W Γ tg iter t mi) (hg : ∀ (s : Shared) (H : Hp) (C : Addr) (cl : List (Str × Addr)) (fp : List Addr), GT (X.blk s H scope (compEnvC scope cl C X.env) fp) tg t is S)
    (ht : ∀ (x : t.den) (s : Shared) (H : Hp) (C : Addr) (cl : List (Str × Addr)) (fp : List Addr), ETs (X.blk s H scope (compEnvC scope cl C X.env) fp) W0 (setL (wipeC Γ (own.map (·.2))) is (S x)) ifs (mt x))
    (hkx : ∀ (x : t.den) (s : Shared) (H : Hp) (C : Addr) (cl : List (Str × Addr)) (fp : List Addr), EM (X.blk s H scope (compEnvC scope cl C X.env) fp) W0 (setL (wipeC Γ (own.map (·.2))) is (S x)) kx k (mk x))
    (he : ∀ (x : t.den) (s : Shared) (H : Hp) (C : Addr) (cl : List (Str × Addr)) (fp : List Addr), EM (X.blk s H scope (compEnvC scope cl C X.env) fp) W0 (setL (wipeC Γ (own.map (·.2))) is (S x)) vx t1 (mv x))
    (his : ∀ i ∈ is, i ∈ own.map (·.2)) (hs : ∀ x, foldedSetIterable iter X.env x = pure x) :
    EM X W Γ (.DictComp kx vx [⟨tg, iter, ifs, 0⟩] scope pos) (.dic k t1) (mi >>= fun xs => compO xs (compF mt (dcE mk mv)) >>= fun ps => .ok (dmerge ps)) :=
  pe_imp (pe_dc hc hN hi ok hg (fun s H C cl fp => pts_ex fun x => ht x s H C cl fp) (fun s H C cl fp => pe_ex fun x => hkx x s H C cl fp) (fun s H C cl fp => pe_ex fun x => he x s H C cl fp) hs) (dc_read hky his)
/-- y = {a: b for ..} on one line -/
theorem ps_setDc {i : Nat} {y : Str} {py : Pos} {kx vx iter : Expr} {ifs : List Expr} {scope : Scope} {own : List (Str × Nat)} {spos : Pos} {wi : TI} {g : TG} {tt : TT} {tk tv : TE} (hc : X.calm = true) (hN : X.N.Nodup) (hy : X.N[i]? = some y) (hyl : X.env.scope.names.lookup y = some .local)
    (hsw : swapsWith (.DictComp kx vx [⟨tg, iter, ifs, 0⟩] scope pos) (some (.Name y py)) spos.line X.env = pure true) (hi : PI X tg iter wi) (ok : BlkOk X.N X.env.scope scope own)
    (hg : ∀ (z : Shared) (H : Hp) (C : Addr) (cl : List (Str × Addr)) (fp : List Addr), PG (X.blk z H scope (compEnvC scope cl C X.env) fp) tg g) (ht : ∀ (z : Shared) (H : Hp) (C : Addr) (cl : List (Str × Addr)) (fp : List Addr), PTs (X.blk z H scope (compEnvC scope cl C X.env) fp) ifs tt)
    (hk : ∀ (z : Shared) (H : Hp) (C : Addr) (cl : List (Str × Addr)) (fp : List Addr), PE (X.blk z H scope (compEnvC scope cl C X.env) fp) kx tk) (he : ∀ (z : Shared) (H : Hp) (C : Addr) (cl : List (Str × Addr)) (fp : List Addr), PE (X.blk z H scope (compEnvC scope cl C X.env) fp) vx tv)
    (hs : ∀ x, foldedSetIterable iter X.env x = pure x) : PS X (.Assign [.Name y py] (.DictComp kx vx [⟨tg, iter, ifs, 0⟩] scope pos) spos) (tAsg (tDc wi g tt tk tv (own.map (·.2))) (gName i)) := by
  refine ⟨fun pins s σ H D J h => ?_⟩
  rw [exec_Assign_Name_used _ _ _ _ hsw]
  refine wpAny_bind (wpAny_standAt ?_); refine wpAny_bind ?_
  show wpAny _ X.A (do let _ ← comprehension (.DictComp kx vx [⟨tg, iter, ifs, 0⟩] scope pos) scope X.env (firstIterPos [⟨tg, iter, ifs, 0⟩] pos) newDict false (eval iter X.env) (some (assign (.Name y py) X.env))) _ _ s
  have h : tDc wi g tt tk tv (own.map (·.2)) σ H (fun x H1 => gName i x σ H1 D.nx) := h
  refine wpAny_bind (thn (dc_core (Qf := fun _ z => SP X pins D .next z) hc hN J hi ok hg ht hk he hs h fun L C z m H' J' q hn f => ?_) fun _ z hq => wpAny_pure (wpAny_pure hq))
  show wpAny _ _ (assign (.Name y py) X.env (.ref L)) _ _ _
  obtain ⟨f0, f1, f2, f3, f4, f5⟩ := f
  refine wpAny_assign_Name (store_ok2 (v := V.ref L) J' hN hy (.inl hyl) rfl (fun z2 J2 ⟨a, sb, ha⟩ => ?_) (.inr hyl))
  have hne : C ≠ a := ha.elim (fun e => by rw [e]; exact f1) fun e e' => f4 y a e e'.symm
  refine ⟨m, hn.sameBut sb hne, fun h3 sb3 => ⟨_, H', ?_, q⟩⟩
  exact J2.turned (t' := z2.toks) (fun b o hb e => (sb3.2 b hb).trans e) f0 f1 f3 f4 f5
theorem p_dc {i : Nat} {y : Str} {py : Pos} {spos : Pos} {kx vx iter : Expr} {ifs : List Expr} {scope : Scope} {own : List (Str × Nat)} {is : List Nat} {S : t.den → List Slot} [DecidableEq k.den] {mi : Mx (List t.den)} {mt : t.den → Mx Bool} {mk : t.den → Mx k.den} {mv : t.den → Mx t1.den} (hky : Ky k) (hc : X.calm = true) (hN : X.N.Nodup)
    (hy : X.N[i]? = some y) (hyl : X.env.scope.names.lookup y = some .local) (hsw : swapsWith (.DictComp kx vx [⟨tg, iter, ifs, 0⟩] scope pos) (some (.Name y py)) spos.line X.env = pure true) (ok : BlkOk X.N X.env.scope scope own)
    (hi : EI X W Γ tg iter t mi) (hg : ∀ (s : Shared) (H : Hp) (C : Addr) (cl : List (Str × Addr)) (fp : List Addr), GT (X.blk s H scope (compEnvC scope cl C X.env) fp) tg t is S)
    (ht : ∀ (x : t.den) (s : Shared) (H : Hp) (C : Addr) (cl : List (Str × Addr)) (fp : List Addr), ETs (X.blk s H scope (compEnvC scope cl C X.env) fp) W0 (setL (wipeC Γ (own.map (·.2))) is (S x)) ifs (mt x))
    (hkx : ∀ (x : t.den) (s : Shared) (H : Hp) (C : Addr) (cl : List (Str × Addr)) (fp : List Addr), EM (X.blk s H scope (compEnvC scope cl C X.env) fp) W0 (setL (wipeC Γ (own.map (·.2))) is (S x)) kx k (mk x))
    (he : ∀ (x : t.den) (s : Shared) (H : Hp) (C : Addr) (cl : List (Str × Addr)) (fp : List Addr), EM (X.blk s H scope (compEnvC scope cl C X.env) fp) W0 (setL (wipeC Γ (own.map (·.2))) is (S x)) vx t1 (mv x))
    (his : ∀ i ∈ is, i ∈ own.map (·.2)) (hs : ∀ x, foldedSetIterable iter X.env x = pure x) :
    PS X (.Assign [.Name y py] (.DictComp kx vx [⟨tg, iter, ifs, 0⟩] scope pos) spos) (tAsg (tR X.mg X.K W Γ (.d (.dic k t1)) (mi >>= fun xs => compO xs (compF mt (dcE mk mv)) >>= fun ps => .ok (dmerge ps))) (gName i)) := by
  have h := ps_setDc (X := X) (g := gR X.K X.mg t is S) (tt := fun σ H Q => ∃ x, tT X.mg X.K W0 (setL (wipeC Γ (own.map (·.2))) is (S x)) (mt x) σ H Q) (tk := fun σ H Q => ∃ x, tR X.mg X.K W0 (setL (wipeC Γ (own.map (·.2))) is (S x)) (.d k) (mk x) σ H Q) (tv := fun σ H Q => ∃ x, tR X.mg X.K W0 (setL (wipeC Γ (own.map (·.2))) is (S x)) (.d t1) (mv x) σ H Q) hc hN hy hyl hsw hi ok hg (fun s H C cl fp => pts_ex fun x => ht x s H C cl fp) (fun s H C cl fp => pe_ex fun x => hkx x s H C cl fp) (fun s H C cl fp => pe_ex fun x => he x s H C cl fp) hs
  exact ⟨fun pins s σ H D I q => h.run pins s σ H D I (dc_read hky his _ _ _ q)⟩
end
end Gm
set_option Elab.async false
set_option linter.all false
set_option maxRecDepth 100000
set_option maxHeartbeats 4000000
namespace Gm
open PySem PySem.Spec L2

/-! ## x in xs, xs.index(x), for things of any code -/
section
variable {X : Cx} {pins : List (Addr × Obj)} {σ : L2.St} {F H : Hp} {s : Shared} {mg : Str → Option Value} {t : Ty}
/-- does u stand for x? -/
noncomputable def isX (K : PySem.W.Frag) (mg : Str → Option Value) (t : Ty) (F : Hp) (x : t.den) (u : Value) : Bool := open Classical in if ∃ w, rl K mg t x [w] F ∧ RelV w u then true else false
theorem isX_eq (I : Inv X pins σ H s) (hs : Same F H) (h : t.eqok = true) {x y : t.den} {w : V} {u : Value} (r : rl X.K mg t y [w] F) (ru : RelV w u) : isX X.K mg t F x u = t.beq y x := by
  unfold isX
  by_cases e : y = x
  · subst e
    rw [if_pos ⟨w, r, ru⟩, (beq_iff t h y y).mpr rfl]
  · have hb : t.beq y x = false := by
      cases hb : t.beq y x with
      | false => rfl
      | true => exact absurd ((beq_iff t h y x).mp hb) e
    rw [hb, if_neg]
    rintro ⟨w', r', ru'⟩
    have : w' = w := RelV.inj ru' ru
    subst this
    exact e (rl_inj I hs t h y x _ r r')
theorem eqAt_ty (I : Inv X pins σ H s) (hs : Same F H) (h : t.eqok = true) {A : Around} (hu : A.units + t.depth < cLine) {x y : t.den} {v w : V} {u u' : Value} (p : rl X.K mg t x [v] F) (q : rl X.K mg t y [w] F) (ru : RelV v u) (ru' : RelV w u') : SeqAt.EqAt A s u u' (t.beq x y) :=
  (eqL_ty I hs t h A hu x y [v] [w] p q [u] [u'] (.cons ru .nil) (.cons ru' .nil)).one
theorem isX_mem (I : Inv X pins σ H s) (hs : Same F H) (h : t.eqok = true) {A : Around} (hu : A.units + t.depth < cLine) {x : t.den} {v : V} {u : Value} (p : rl X.K mg t x [v] F) (ru : RelV v u) :
    ∀ {xs : List t.den} {ws : List V} {us : List Value}, all2 (fun y w => rl X.K mg t y [w] F) xs ws → Vals ws us → ∀ z ∈ us, SeqAt.EqAt A s z u (isX X.K mg t F x z)
  | [], [], _, _, .nil, z, hz => nomatch hz
  | y :: xs, w :: ws, _, ⟨a, b⟩, .cons r rr, z, hz => by
    rcases List.mem_cons.mp hz with rfl | hz
    · rw [isX_eq I hs h a r]; exact eqAt_ty I hs h hu a p r ru
    · exact isX_mem I hs h hu p ru b rr z hz
  | [], _ :: _, _, z, _, _, _ => z.elim
  | _ :: _, [], _, z, _, _, _ => z.elim
theorem isX_any (I : Inv X pins σ H s) (hs : Same F H) (h : t.eqok = true) [DecidableEq t.den] {x : t.den} : ∀ {xs : List t.den} {ws : List V} {us : List Value}, all2 (fun y w => rl X.K mg t y [w] F) xs ws → Vals ws us → us.any (isX X.K mg t F x) = decide (x ∈ xs)
  | [], [], _, _, .nil => by simp
  | y :: xs, w :: ws, _, ⟨a, b⟩, .cons r rr => by
    rw [List.any_cons, isX_any I hs h b rr, isX_eq I hs h a r, beq_dec h]
    by_cases e : y = x
    · subst e; simp
    · rw [decide_eq_false e, Bool.false_or]
      exact decide_eq_decide.mpr ⟨fun z => List.mem_cons_of_mem _ z, fun z => (List.mem_cons.mp z).resolve_left fun q => e q.symm⟩
  | [], _ :: _, _, z, _ => z.elim
  | _ :: _, [], _, z, _ => z.elim
theorem isX_at (I : Inv X pins σ H s) (hs : Same F H) (h : t.eqok = true) {x : t.den} : ∀ {xs : List t.den} {ws : List V} {us : List Value}, all2 (fun y w => rl X.K mg t y [w] F) xs ws → Vals ws us → ∀ (j : Nat) (z : Value), us[j]? = some z → ∃ y, xs[j]? = some y ∧ isX X.K mg t F x z = t.beq y x
  | [], [], _, _, .nil, j, z, hz => by simp at hz
  | y :: xs, w :: ws, _, ⟨a, b⟩, .cons r rr, j, z, hz => by
    cases j with
    | zero => simp at hz; subst hz; exact ⟨y, rfl, isX_eq I hs h a r⟩
    | succ j => obtain ⟨y', h1, h2⟩ := isX_at I hs h b rr j z (by simpa using hz); exact ⟨y', by simpa using h1, h2⟩
  | [], _ :: _, _, z, _, _, _, _ => z.elim
  | _ :: _, [], _, z, _, _, _, _ => z.elim
end
section
variable {X : Cx} {W : WX} {hk : List Nat} {Γ Γv Γi : Ctx} {st : Stmt} {rest : List Stmt} {a b c e : Expr} {pos p p2 apos cpos : Pos} {t t1 t2 k : Ty} {β : Type} {I : β → Out}
def rMem (X : Cx) (neg : Bool) : R2 := fun v w H Q => ∃ (F : Hp) (t : Ty) (d : DecidableEq t.den) (x : t.den) (xs : List t.den), Same F H ∧ t.eqok = true ∧ t.depth ≤ 60 ∧ rl X.K X.mg t x [v] F ∧ (rl X.K X.mg (.list t) xs [w] F ∨ rl X.K X.mg (.vtup t) xs [w] F) ∧ Q (.bl (if neg then !decide (x ∈ xs) else decide (x ∈ xs))) H
theorem op_mem (hu : X.A.units + 64 < cLine) : OpR X (compareOp .In) (rMem X false) := by
  intro pins s σ H v w u u' Q I rv rw' h
  obtain ⟨F, t, d, x, xs, hs, he, hd, p, hq, q⟩ := h
  have hu2 : X.A.in1.units + t.depth < cLine := by show X.A.units + 1 + t.depth < cLine; omega
  rcases hq with hq | hq
  · obtain ⟨l, ws, e, sq, rr⟩ := hq
    cases (List.cons.inj e).1
    cases rw'
    obtain ⟨its, r, pl, _⟩ := I.list (SqL.of (hs _ _ sq))
    refine SeqAt.in_listAt (isX X.K X.mg t F x) pl.isList (fun z hz => isX_mem I hs he hu2 p rv rr r z (by simpa using hz)) ⟨.bl _, H, I, rfl, ?_⟩
    rw [show its.toArray.any (isX X.K X.mg t F x) = its.any (isX X.K X.mg t F x) by simp, isX_any I hs he rr r]
    exact q
  · obtain ⟨l, ws, e, sq, rr⟩ := hq
    cases (List.cons.inj e).1
    cases rw'
    obtain ⟨its, r, pl, _⟩ := I.tuple (sqT_same hs sq)
    refine SeqAt.in_tupleAt (isX X.K X.mg t F x) pl (fun z hz => isX_mem I hs he hu2 p rv rr r z (by simpa using hz)) ⟨.bl _, H, I, rfl, ?_⟩
    rw [show its.toArray.any (isX X.K X.mg t F x) = its.any (isX X.K X.mg t F x) by simp, isX_any I hs he rr r]
    exact q
theorem op_nmem (hu : X.A.units + 64 < cLine) : OpR X (compareOp .NotIn) (rMem X true) := by
  intro pins s σ H v w u u' Q I rv rw' h
  obtain ⟨F, t, d, x, xs, hs, he, hd, p, hq, q⟩ := h
  have hu2 : X.A.in1.units + t.depth < cLine := by show X.A.units + 1 + t.depth < cLine; omega
  rcases hq with hq | hq
  · obtain ⟨l, ws, e, sq, rr⟩ := hq
    cases (List.cons.inj e).1
    cases rw'
    obtain ⟨its, r, pl, _⟩ := I.list (SqL.of (hs _ _ sq))
    refine SeqAt.notIn_listAt (isX X.K X.mg t F x) pl.isList (fun z hz => isX_mem I hs he hu2 p rv rr r z (by simpa using hz)) ⟨.bl _, H, I, rfl, ?_⟩
    rw [show its.toArray.any (isX X.K X.mg t F x) = its.any (isX X.K X.mg t F x) by simp, isX_any I hs he rr r]
    exact q
  · obtain ⟨l, ws, e, sq, rr⟩ := hq
    cases (List.cons.inj e).1
    cases rw'
    obtain ⟨its, r, pl, _⟩ := I.tuple (sqT_same hs sq)
    refine SeqAt.notIn_tupleAt (isX X.K X.mg t F x) pl (fun z hz => isX_mem I hs he hu2 p rv rr r z (by simpa using hz)) ⟨.bl _, H, I, rfl, ?_⟩
    rw [show its.toArray.any (isX X.K X.mg t F x) = its.any (isX X.K X.mg t F x) by simp, isX_any I hs he rr r]
    exact q
variable [d : DecidableEq t.den] {m1 : Mx t.den} {m2 : Mx (List t.den)}
theorem c_memL (hu : X.A.units + 64 < cLine) (ht : t.eqok = true) (hd : t.depth ≤ 60) (ha : EM X W Γ a t m1) (hb : EM X W Γ b (.list t) m2) : EC X W Γ .In a b (m1 >>= fun x => m2 >>= fun y => .ok (decide (x ∈ y))) :=
  c_op (t1 := t) (t2 := .list t) (g := fun x y => some (decide (x ∈ y))) (op_mem hu) (fun x y z e v w F H Q s r1 r2 k => by cases e; exact ⟨F, t, d, x, y, s, ht, hd, r1, .inl r2, k⟩) ha hb
theorem c_nmemL (hu : X.A.units + 64 < cLine) (ht : t.eqok = true) (hd : t.depth ≤ 60) (ha : EM X W Γ a t m1) (hb : EM X W Γ b (.list t) m2) : EC X W Γ .NotIn a b (m1 >>= fun x => m2 >>= fun y => .ok (!decide (x ∈ y))) :=
  c_op (t1 := t) (t2 := .list t) (g := fun x y => some (!decide (x ∈ y))) (op_nmem hu) (fun x y z e v w F H Q s r1 r2 k => by cases e; exact ⟨F, t, d, x, y, s, ht, hd, r1, .inl r2, k⟩) ha hb
theorem c_memT (hu : X.A.units + 64 < cLine) (ht : t.eqok = true) (hd : t.depth ≤ 60) (ha : EM X W Γ a t m1) (hb : EM X W Γ b (.vtup t) m2) : EC X W Γ .In a b (m1 >>= fun x => m2 >>= fun y => .ok (decide (x ∈ y))) :=
  c_op (t1 := t) (t2 := .vtup t) (g := fun x y => some (decide (x ∈ y))) (op_mem hu) (fun x y z e v w F H Q s r1 r2 k => by cases e; exact ⟨F, t, d, x, y, s, ht, hd, r1, .inr r2, k⟩) ha hb
theorem c_nmemT (hu : X.A.units + 64 < cLine) (ht : t.eqok = true) (hd : t.depth ≤ 60) (ha : EM X W Γ a t m1) (hb : EM X W Γ b (.vtup t) m2) : EC X W Γ .NotIn a b (m1 >>= fun x => m2 >>= fun y => .ok (!decide (x ∈ y))) :=
  c_op (t1 := t) (t2 := .vtup t) (g := fun x y => some (!decide (x ∈ y))) (op_nmem hu) (fun x y z e v w F H Q s r1 r2 k => by cases e; exact ⟨F, t, d, x, y, s, ht, hd, r1, .inr r2, k⟩) ha hb
/-- xs.index(x) -/
def idxO {α : Type} [DecidableEq α] (xs : List α) (x : α) : Option Int := (xs.findIdx? fun y => decide (y = x)).map fun (i : Nat) => (i : Int)
def rIdx (X : Cx) : V → List V → Hp → VK → Prop := fun w vs H Q => ∃ (F : Hp) (t : Ty) (d : DecidableEq t.den) (x : t.den) (xs : List t.den) (v : V) (j : Nat), vs = [v] ∧ Same F H ∧ t.eqok = true ∧ t.depth ≤ 60 ∧ rl X.K X.mg t x [v] F ∧ rl X.K X.mg (.list t) xs [w] F ∧ (xs.findIdx? fun y => decide (y = x)) = some j ∧ Q (.int (j : Nat)) H
theorem mt_idx (hu : X.A.units + 64 < cLine) : MtR X "list.index" (rIdx X) := by
  intro pins s σ H w vs v us Q I rx rxs h
  obtain ⟨F, t, d, x, xs, v', j, rfl, hs, he, hd, p, hq, hj, q⟩ := h
  obtain ⟨l, ws, e, sq, rr⟩ := hq
  cases (List.cons.inj e).1
  cases rx
  obtain ⟨uy, rfl, ry⟩ := Vals.one rxs
  have hu2 : X.A.in1.units + t.depth < cLine := by show X.A.units + 1 + t.depth < cLine; omega
  obtain ⟨its, rv, ⟨⟨cls, dd, data, sl⟩, n, ho, hc, hdn, hdt⟩, hlen⟩ := I.list (SqL.of (hs _ _ sq))
  simp only at hc hdt
  subst hc hdt
  have hwl := rr.len
  have hvl := rv.length
  have hsl := sizeLine_eq
  rw [List.findIdx?_eq_some_iff_getElem] at hj
  obtain ⟨hjl, hjx, hno⟩ := hj
  have hj' : j < its.toArray.size := by rw [List.size_toArray]; omega
  have at_ : ∀ (m : Nat) (hm : m < its.toArray.size), isX X.K X.mg t F x its.toArray[m] = decide (xs[m]'(by rw [List.size_toArray] at hm; omega) = x) := fun m hm => by
    have hm' : m < its.length := by rw [List.size_toArray] at hm; exact hm
    obtain ⟨y, h1, h2⟩ := isX_at (x := x) I hs he rr rv m its[m] (List.getElem?_eq_getElem hm')
    have h3 := (List.getElem?_eq_some_iff.mp h1).2
    rw [show its.toArray[m] = its[m] by simp, h2, beq_dec he, h3]
  refine call_meets PySem.F.slot_list_index ⟨_, ho, rfl⟩ PySem.F.entry_list_index (PySem.F.args_list_index_2 _ _)
    (SeqAt.list_indexAt l its.toArray n dd sl uy (isX X.K X.mg t F x) j hj' (by omega) ?_ ?_) ⟨ho, fun z hz => isX_mem I hs he hu2 p ry rr rv z (by simpa using hz), ?_⟩
  · rw [at_ j hj']; exact hjx
  · intro m hm hmj
    rw [at_ m hm]
    have := hno m hmj
    simpa using this
  · exact ⟨.int (j : Nat), H, I.tok _, ⟨_, rfl⟩, q⟩
theorem e_index (hu : X.A.units + 64 < cLine) (ht : t.eqok = true) (hd : t.depth ≤ 60) (hb : EM X W Γ b (.list t) m2) (ha : EM X W Γ a t m1) (hbase : attributeBase b "index" X.env (eval b X.env) = eval b X.env)
    (hfew : ((backTo cpos (starEach [a] X.env)).all (fun x => !x.1) && (backToKw cpos (keywordEach [] X.env)).all (fun x => x.1.isSome) && decide ([a].length + ([] : List Keyword).length + (if ([] : List Keyword).isEmpty then 0 else 1) < 30)) = true)
    (hline : (apos.endLine == cpos.line) = true) (hs : starEach [a] X.env = (false, eval a X.env) :: starEach [] X.env) (hpl : (backTo cpos (starEach [] X.env)).any (·.1) = false) :
    EM X W Γ (.Call (.Attribute b "index" apos) [a] [] cpos) .int (m2 >>= fun y => m1 >>= fun x => ofO (idxO y x)) :=
  pe_imp (pe_bm PySem.F.plainAttrs_list PySem.F.slot_list_index PySem.F.type_list_index (mt_idx hu) hb (pa_cons ha pa_nil hs) hbase hfew hline hs hpl) fun σ H Q ⟨F, s, dd, q⟩ => ⟨F, s, dd, q.bind.mono fun y py w F1 H1 e1 r1 => by
    obtain ⟨l, ws, e, sq, rr⟩ := id r1
    cases (List.cons.inj e).1
    refine ⟨.inl ⟨rfl, ws, SqL.of (e1.i _ _ sq)⟩, F1, e1.i, dd.mono e1.f, post.ext e1 py.bind fun x px v F2 H2 e2 r2 => ?_⟩
    unfold idxO at px
    cases hj : y.findIdx? fun z => decide (z = x) with
    | none => rw [hj] at px; exact px.elim
    | some j =>
      rw [hj] at px
      exact ⟨F2, t, d, x, y, v, j, rfl, e2.i, ht, hd, r2, rl_mono e2.f (.list t) y _ r1, hj, px _ F2 H2 (e1.trans e2) rfl⟩⟩
end
section
variable {X : Cx} {W : WX} {hk : List Nat} {Γ Γv Γi : Ctx} {st : Stmt} {rest : List Stmt} {a b c e : Expr} {pos p p2 apos cpos : Pos} {t t1 t2 k : Ty} {β : Type} {I : β → Out}
/-! ## sums -/
theorem e_inl {m : Mx t1.den} (h : EM X W Γ e t1 m) : EM X W Γ e (.sum t1 t2) (m >>= fun x => .ok (Sum.inl x)) := pe_imp h fun σ H Q ⟨F, s, d, q⟩ => ⟨F, s, d, q.bind.mono fun x px v F1 H1 e1 r1 => px v F1 H1 e1 r1⟩
theorem e_inr {m : Mx t2.den} (h : EM X W Γ e t2 m) : EM X W Γ e (.sum t1 t2) (m >>= fun x => .ok (Sum.inr x)) := pe_imp h fun σ H Q ⟨F, s, d, q⟩ => ⟨F, s, d, q.bind.mono fun x px v F1 H1 e1 r1 => px v F1 H1 e1 r1⟩
def getL {α β : Type} : Sum α β → Mx α
  | .inl x => .ok x
  | .inr _ => .no
def getR {α β : Type} : Sum α β → Mx β
  | .inl _ => .no
  | .inr x => .ok x
theorem e_getL {m : Mx (Sum t1.den t2.den)} (h : EM X W Γ e (.sum t1 t2) m) : EM X W Γ e t1 (m >>= getL) := pe_imp h fun σ H Q ⟨F, s, d, q⟩ => ⟨F, s, d, q.bind.mono fun x px v F1 H1 e1 r1 => by
  cases x with
  | inl y => exact px v F1 H1 e1 r1
  | inr y => exact px.elim⟩
theorem e_getR {m : Mx (Sum t1.den t2.den)} (h : EM X W Γ e (.sum t1 t2) m) : EM X W Γ e t2 (m >>= getR) := pe_imp h fun σ H Q ⟨F, s, d, q⟩ => ⟨F, s, d, q.bind.mono fun x px v F1 H1 e1 r1 => by
  cases x with
  | inl y => exact px.elim
  | inr y => exact px v F1 H1 e1 r1⟩
/-! ## statements on an owned list -/
theorem Vw.flatI (h : t.flat = true) : Vw Γ (.d t) Γ := .all h
def insO {α : Type} (xs : List α) (i : Int) (y : α) : Option (List α) := if xs.length < sizeLine ∧ 0 ≤ i ∧ i < 2 ^ 63 then some (xs.take i.toNat ++ [y] ++ xs.drop i.toNat) else none
theorem bs_ins (i : Nat) {xs : List t.den} {mj : Mx Int} {me : Mx t.den} {kk : List t.den → Mx β} {n : Str} {ej : Expr} (hi : Γ[i]? = some (.o (.l (.d t)) xs)) (hx : PE X (.Name n p) (tVar i)) (hj : EM X W Γi ej .int mj) (vi : Vw Γ (.d .int) Γi) (he : EM X W Γv e t me) (vw : Vw Γ (.d t) Γv) (hr : ∀ ys, BS X W hk (Γ.set i (.o (.l (.d t)) ys)) rest (kk ys) I)
    (hbase : attributeBase (.Name n p) "insert" X.env (eval (.Name n p) X.env) = eval (.Name n p) X.env) (hfew : ((backTo cpos (starEach [ej, e] X.env)).all (fun x => !x.1) && (backToKw cpos (keywordEach [] X.env)).all (fun x => x.1.isSome) && decide ([ej, e].length + ([] : List Keyword).length + (if ([] : List Keyword).isEmpty then 0 else 1) < 30)) = true)
    (hline : (apos.endLine == cpos.line) = true) (hs : starEach [ej, e] X.env = (false, eval ej X.env) :: starEach [e] X.env) (hs2 : starEach [e] X.env = (false, eval e X.env) :: starEach [] X.env) (hpl : (backTo cpos (starEach [e] X.env)).any (·.1) = false) :
    BS X W hk Γ (.Expr (.Call (.Attribute (.Name n p) "insert" apos) [ej, e] [] cpos) pos :: rest) (mj >>= fun j => me >>= fun y => ofO (insO xs j y) >>= kk) I :=
  have hr' : PSs X rest (fun D σ H => ∃ ys, tS X.K X.mg W hk (Γ.set i (.o (.l (.d t)) ys)) (kk ys) I D σ H) := ⟨fun pins s σ H D J ⟨x, q⟩ => (hr x).run pins s σ H D J q⟩
  pss_imp (pss_cons (ps_expr (pe_bm PySem.F.plainAttrs_list PySem.F.slot_list_insert PySem.F.type_list_insert mt_insert hx (pa_cons hj (pa_cons he pa_nil hs2) hs) hbase hfew hline hs hpl)) hr') fun D σ H ⟨E, F, h, g, q⟩ => by
    obtain ⟨fps, w⟩ := g.ow
    obtain ⟨ov, e1, v, rfl, ho⟩ := w.at_ i _ hi
    obtain ⟨l, ws, rfl, e3, e4, rr⟩ := own_lst ho
    refine ⟨.ref l, e1, .inl ⟨rfl, ws, SqL.of e4⟩, ?_⟩
    obtain ⟨G, g1, g2, g3⟩ := g.look vi
    refine ⟨G, g1, g2, q.bind.post g (fun F' H' x => let ⟨F2, a, _, b⟩ := g3 F' H' x; ⟨F2, a, b⟩) fun j pj uj F' H' ex rj => ?_⟩
    obtain ⟨F2, x2, back, _⟩ := g3 F' H' ex
    cases (List.cons.inj (show [uj] = _ from rj)).1
    have gg := g.grow x2
    obtain ⟨G2, k1, k2, k3⟩ := gg.look vw
    refine ⟨G2, k1, k2, pj.bind.post gg (fun F' H' x => let ⟨F3, a, _, b⟩ := k3 F' H' x; ⟨F3, a, b⟩) fun y py u F'' H'' ex2 ru => ?_⟩
    obtain ⟨F3, x3, back3, _⟩ := k3 F'' H'' ex2
    have ru2 : rl X.K X.mg t y [u] F3 := back3 y u ru
    unfold insO at py
    by_cases hl : xs.length < sizeLine ∧ 0 ≤ j ∧ j < 2 ^ 63
    · rw [if_pos hl] at py
      have rr3 : all2 (fun z v => rl X.K X.mg t z [v] F3) xs ws := rr.imp fun z v q => rl_mono (x2.f.trans x3.f) t z [v] q
      refine ⟨l, ws, j, u, rfl, rfl, x3.h _ _ (x2.h _ _ e4), by rw [← rr.len]; exact hl.1, hl.2.1, hl.2.2, _, E, F3, h, ?_, py⟩
      have one : all2 (fun z v => rl X.K X.mg t z [v] F3) [y] [u] := ⟨ru2, True.intro⟩
      exact (gg.grow x3).write hi e1 (((rr3.take j.toNat).app one).app (rr3.drop j.toNat))
    · rw [if_neg hl] at py; exact py.elim
theorem bs_clear (i : Nat) {xs : List t.den} {kk : List t.den → Mx β} {n : Str} (hi : Γ[i]? = some (.o (.l (.d t)) xs)) (hx : PE X (.Name n p) (tVar i)) (hr : ∀ ys, BS X W hk (Γ.set i (.o (.l (.d t)) ys)) rest (kk ys) I)
    (hbase : attributeBase (.Name n p) "clear" X.env (eval (.Name n p) X.env) = eval (.Name n p) X.env) (hline : (apos.endLine == cpos.line) = true) :
    BS X W hk Γ (.Expr (.Call (.Attribute (.Name n p) "clear" apos) [] [] cpos) pos :: rest) (kk []) I :=
  have hr' : PSs X rest (fun D σ H => ∃ ys, tS X.K X.mg W hk (Γ.set i (.o (.l (.d t)) ys)) (kk ys) I D σ H) := ⟨fun pins s σ H D J ⟨x, q⟩ => (hr x).run pins s σ H D J q⟩
  pss_imp (pss_cons (ps_expr (pe_bm0 PySem.F.plainAttrs_list PySem.F.slot_list_clear PySem.F.type_list_clear mt_clear hx hbase hline)) hr') fun D σ H ⟨E, F, h, g, q⟩ => by
    obtain ⟨fps, w⟩ := g.ow
    obtain ⟨ov, e1, v, rfl, ho⟩ := w.at_ i _ hi
    obtain ⟨l, ws, rfl, e3, e4, rr⟩ := own_lst ho
    exact ⟨.ref l, e1, .inl ⟨rfl, ws, SqL.of e4⟩, l, ws, rfl, rfl, e4, [], E, F, h, g.write hi e1 True.intro, q⟩
def setO {α : Type} (xs : List α) (i : Int) (y : α) : Option (List α) := (ixN xs.length i).map fun j => xs.set j y
theorem bs_setI (i : Nat) {xs : List t.den} {mj : Mx Int} {me : Mx t.den} {kk : List t.den → Mx β} {n : Str} {ej : Expr} (hi : Γ[i]? = some (.o (.l (.d t)) xs)) (hx : PE X (.Name n p) (tVar i)) (he : EM X W Γv e t me) (vw : Vw Γ (.d t) Γv) (hj : EM X W Γi ej .int mj) (vi : Vw Γ (.d .int) Γi) (hr : ∀ ys, BS X W hk (Γ.set i (.o (.l (.d t)) ys)) rest (kk ys) I)
    (ha : ∀ v, assign (.Subscript (.Name n p) ej p2) X.env v = (do
      let ov ← holding [v] (eval (.Name n p) X.env)
      let iv ← holding [v, ov] (eval ej X.env)
      standAt p2
      holding [v, ov, iv] (setItem ov iv v)
      release [v, ov, iv] []))
    (hs : swapsWithSole [.Subscript (.Name n p) ej p2] e pos.line X.env = pure false) (hw : swappedStores [.Subscript (.Name n p) ej p2] e X.env = pure none) (h1 : (assignEach [.Subscript (.Name n p) ej p2] X.env).map (·.2) = [assign (.Subscript (.Name n p) ej p2) X.env]) :
    BS X W hk Γ (.Assign [.Subscript (.Name n p) ej p2] e pos :: rest) (me >>= fun y => mj >>= fun j => ofO (setO xs j y) >>= kk) I :=
  have hr' : PSs X rest (fun D σ H => ∃ ys, tS X.K X.mg W hk (Γ.set i (.o (.l (.d t)) ys)) (kk ys) I D σ H) := ⟨fun pins s σ H D J ⟨x, q⟩ => (hr x).run pins s σ H D J q⟩
  pss_imp (pss_cons (ps_asg he (pg_sub hx hj set_list ha) hs hw h1) hr') fun D σ H ⟨E, F, h, g, q⟩ => by
    obtain ⟨G, g1, g2, g3⟩ := g.look vw
    refine ⟨G, g1, g2, q.bind.post g (fun F' H' x => let ⟨F2, a, _, b⟩ := g3 F' H' x; ⟨F2, a, b⟩) fun y py u F' H' ex ru => ?_⟩
    obtain ⟨F2, x2, back, _⟩ := g3 F' H' ex
    have ru2 : rl X.K X.mg t y [u] F2 := back y u ru
    have gg := g.grow x2
    obtain ⟨fps, w⟩ := id gg.ow
    obtain ⟨ov, e1, v, rfl, ho⟩ := w.at_ i _ hi
    obtain ⟨l, ws, rfl, e3, e4, rr⟩ := own_lst ho
    refine ⟨.ref l, e1, ?_⟩
    obtain ⟨G2, k1, k2, k3⟩ := gg.look vi
    refine ⟨G2, k1, k2, py.bind.post gg (fun F' H' x => let ⟨F3, a, _, b⟩ := k3 F' H' x; ⟨F3, a, b⟩) fun j pj uj F'' H'' ex2 rj => ?_⟩
    obtain ⟨F3, x3, back3, _⟩ := k3 F'' H'' ex2
    cases (List.cons.inj (show [uj] = _ from rj)).1
    unfold setO at pj
    cases hn : ixN xs.length j with
    | none => rw [hn] at pj; exact pj.elim
    | some n =>
      rw [hn] at pj
      refine ⟨l, ws, j, n, rfl, rfl, x3.h _ _ e4, by rw [← rr.len]; exact hn, _, E, F3, h, ?_, pj⟩
      exact (gg.grow x3).write hi e1 ((rr.imp fun z v q => rl_mono x3.f t z [v] q).set (rl_mono x3.f t y [u] ru2) n)
/-- xs[::-1] -/
theorem e_revL {m : Mx (List t.den)} {kz : Nat} {q1 q2 q3 : Pos} (ha : EM X W Γ a (.list t) m) : EO X W Γ (.Subscript a (.Slice none none (some (.UnaryOp .USub (.Constant (.int 1) kz q1) q2)) q3) pos) (.l (.d t)) (m >>= fun x => .ok x.reverse) :=
  pe_imp (pe_revL ha) fun σ H Q ⟨F, s, d, q⟩ => ⟨F, s, d, q.bind.mono fun x px v F1 H1 e1 r1 => by
    obtain ⟨l, ws, e, sq, rr⟩ := r1
    cases (List.cons.inj e).1
    exact ⟨l, ws, rfl, SqL.of (e1.i _ _ sq), fun p np => px (.ref p) F1 _ (e1.trans (Ext.cell e1.i np)) (rtr_new rr.rev e1.i e1.h np)⟩⟩
/-- str(n) -/
def strO (n : Int) : Option Str := if n.natAbs.log2 < 1920 then some (Str.ofString (toString n)) else none
theorem e_strI {q : Pos} {m : Mx Int} (hg : Gl X "str") (hm : X.mg "str" = none) (ha : EM X W Γ a .int m) (hs : starEach [a] X.env = (false, eval a X.env) :: starEach [] X.env) : EM X W Γ (.Call (.Name "str" q) [a] [] pos) .str (m >>= fun x => ofO (strO x)) :=
  pe_imp (pe_callTy call_str_int hg hm (by decide +kernel) (ea_one ha hs) (he := hs)) (args_of (ts := .int) (r := .d .str) (k := fun x => ofO (strO x)) fun x vs F H σ Q s r1 k => by
    cases (show vs = _ from r1)
    unfold strO at k
    by_cases h : x.natAbs.log2 < 1920
    · rw [if_pos h] at k; exact ⟨x, rfl, h, k _ F H (Ext.refl s) rfl⟩
    · rw [if_neg h] at k; exact k.elim)
end
end Gm
namespace Gm
open PySem PySem.Spec L2
/-! ## data read as data of a wider code -/
structure Cv (a b : Ty) (g : a.den → b.den) : Prop where
  h : ∀ (K : PySem.W.Frag) (mg : Str → Option Value) (F : Hp) (x : a.den) (vs : List V), rl K mg a x vs F → rl K mg b (g x) vs F
theorem Cv.id {a : Ty} : Cv a a (fun x => x) := ⟨fun _ _ _ _ _ r => r⟩
theorem Cv.inl {a b c : Ty} {g : a.den → b.den} (h : Cv a b g) : Cv a (.sum b c) (fun x => Sum.inl (g x)) := ⟨fun K mg F x vs r => h.h K mg F x vs r⟩
theorem Cv.inr {a b c : Ty} {g : a.den → c.den} (h : Cv a c g) : Cv a (.sum b c) (fun x => Sum.inr (g x)) := ⟨fun K mg F x vs r => h.h K mg F x vs r⟩
theorem Cv.some {a b : Ty} {g : a.den → b.den} (hb : b.some_ = true) (h : Cv a b g) : Cv a (.opt b) (fun x => Option.some (g x)) := ⟨fun K mg F x vs r => ⟨rl_some hb (h.h K mg F x vs r), h.h K mg F x vs r⟩⟩
theorem Cv.none {b : Ty} : Cv .non (.opt b) (fun _ => Option.none) := ⟨fun K mg F x vs r => r⟩
theorem Cv.opt {a b : Ty} {g : a.den → b.den} (hb : b.some_ = true) (h : Cv a b g) : Cv (.opt a) (.opt b) (fun x => x.map g) := ⟨fun K mg F x vs r => by
  cases x with
  | none => exact r
  | some y => exact ⟨r.1, h.h K mg F y vs r.2⟩⟩
theorem Cv.pr {a b c d : Ty} {g : a.den → c.den} {f : b.den → d.den} (h : Cv a c g) (k : Cv b d f) : Cv (.pr a b) (.pr c d) (fun x => (g x.1, f x.2)) := ⟨fun K mg F x vs r => by
  obtain ⟨v, r', e, p, q⟩ := r
  exact ⟨v, r', e, h.h K mg F _ _ p, k.h K mg F _ _ q⟩⟩
theorem Cv.tup {a b : Ty} {g : a.den → b.den} (h : Cv a b g) : Cv (.tup a) (.tup b) g := ⟨fun K mg F x vs r => by
  obtain ⟨l, ws, e, s, q⟩ := r
  exact ⟨l, ws, e, s, h.h K mg F _ _ q⟩⟩
theorem Cv.hl {a b : Ty} {g : a.den → b.den} (h : Cv a b g) : Cv (.hl a) (.hl b) g := ⟨fun K mg F x vs r => by
  obtain ⟨l, ws, e, s, q⟩ := r
  exact ⟨l, ws, e, s, h.h K mg F _ _ q⟩⟩
theorem all2.mapl {α β : Type} {R : α → V → Prop} {S : β → V → Prop} {g : α → β} (h : ∀ x v, R x v → S (g x) v) : ∀ {xs : List α} {vs : List V}, all2 R xs vs → all2 S (xs.map g) vs
  | [], [], _ => True.intro
  | _ :: _, _ :: _, ⟨a, b⟩ => ⟨h _ _ a, all2.mapl h b⟩
  | [], _ :: _, z => z.elim
  | _ :: _, [], z => z.elim
theorem Cv.list {a b : Ty} {g : a.den → b.den} (h : Cv a b g) : Cv (.list a) (.list b) (fun x => x.map g) := ⟨fun K mg F x vs r => by
  obtain ⟨l, ws, e, s, q⟩ := r
  exact ⟨l, ws, e, s, q.mapl fun y w z => h.h K mg F y [w] z⟩⟩
theorem Cv.vtup {a b : Ty} {g : a.den → b.den} (h : Cv a b g) : Cv (.vtup a) (.vtup b) (fun x => x.map g) := ⟨fun K mg F x vs r => by
  obtain ⟨l, ws, e, s, q⟩ := r
  exact ⟨l, ws, e, s, q.mapl fun y w z => h.h K mg F y [w] z⟩⟩
/-- the parts of a tuple in a row -/
structure Cw (a b : Ty) (g : a.den → List b.den) : Prop where
  h : ∀ (K : PySem.W.Frag) (mg : Str → Option Value) (F : Hp) (x : a.den) (vs : List V), rl K mg a x vs F → all2 (fun y w => rl K mg b y [w] F) (g x) vs
theorem Cw.nil {b : Ty} : Cw .nl b (fun _ => []) := ⟨fun K mg F x vs r => by cases (show vs = [] from r); exact True.intro⟩
theorem Cw.one {a b : Ty} {g : a.den → b.den} (hs : a.sing = true) (h : Cv a b g) : Cw a b (fun x => [g x]) := ⟨fun K mg F x vs r => by
  obtain ⟨v, rfl⟩ := rl_sing hs r
  exact ⟨h.h K mg F _ _ r, True.intro⟩⟩
theorem Cw.cons {a b c : Ty} {g : a.den → b.den} {f : c.den → List b.den} (h : Cv a b g) (k : Cw c b f) : Cw (.pr a c) b (fun x => g x.1 :: f x.2) := ⟨fun K mg F x vs r => by
  obtain ⟨v, r', rfl, p, q⟩ := r
  exact ⟨h.h K mg F _ _ p, k.h K mg F _ _ q⟩⟩
theorem Cv.tupV {a b : Ty} {g : a.den → List b.den} (h : Cw a b g) : Cv (.tup a) (.vtup b) g := ⟨fun K mg F x vs r => by
  obtain ⟨l, ws, e, s, q⟩ := r
  exact ⟨l, ws, e, s, h.h K mg F _ _ q⟩⟩
theorem Cv.hlL {a b : Ty} {g : a.den → List b.den} (h : Cw a b g) : Cv (.hl a) (.list b) g := ⟨fun K mg F x vs r => by
  obtain ⟨l, ws, e, s, q⟩ := r
  exact ⟨l, ws, e, s, h.h K mg F _ _ q⟩⟩
section
variable {X : Cx} {W : WX} {hk : List Nat} {Γ : Ctx} {e : Expr} {st : List Stmt} {β : Type} {I : β → Out}
theorem e_cv {a b : Ty} {g : a.den → b.den} {m : Mx a.den} (c : Cv a b g) (h : EM X W Γ e a m) : EM X W Γ e b (m >>= fun x => .ok (g x)) := pe_imp h fun σ H Q ⟨F, s, d, q⟩ => ⟨F, s, d, q.bind.mono fun x px v F1 H1 e1 r1 => px v F1 H1 e1 (c.h X.K X.mg F1 x [v] r1)⟩
/-- a way that is never taken -/
theorem bs_no : BS X W hk Γ st (.no : Mx β) I := pss_imp pss_never fun D σ H ⟨E, F, h, g, q⟩ => q
end
end Gm
set_option Elab.async false
set_option linter.all false
set_option maxRecDepth 100000
set_option maxHeartbeats 4000000
namespace Gm
open PySem PySem.Spec L2
section
variable {X : Cx} {W : WX} {hk : List Nat} {Γ Γv Γi : Ctx} {rest : List Stmt} {a b c e : Expr} {pos p p2 apos cpos : Pos} {t t1 t2 k : Ty} {β : Type} {I : β → Out}
theorem tk0 : Takes X W0 := takes0
/-- name += e, name -= e (whole numbers) -/
theorem b_aug {op : Operator} {g : Int → Int → Int} (i : Nat) {x : Str} {z : Int} {me : Mx Int} {kk : Int → Mx β} {pos' : Pos} (ho : PIp X op (ipI g)) (hΓ : Γ[i]? = some (.d .int z)) (he : EM X W Γv e .int me) (vw : Vw Γ (.d .int) Γv) (hr : ∀ y : Int, BS X W hk (Γ.set i (.d .int y)) rest (kk y) I)
    (hN : X.N.Nodup) (hi : X.N[i]? = some x) (hl : Loc X.env.scope x) (hf : X.fn x = true ∨ X.env.scope.names.lookup x = some .local) (hn : hk.contains i = false) :
    BS X W hk Γ (.AugAssign (.Name x pos') op e pos :: rest) (me >>= fun y => kk (g z y)) I :=
  have hr' : PSs X rest (fun D σ H => ∃ y : Int, tS X.K X.mg W hk (Γ.set i (.d .int y)) (kk y) I D σ H) := ⟨fun pins s σ H D J ⟨x, q⟩ => (hr x).run pins s σ H D J q⟩
  pss_imp (pss_cons (ps_aug hN hi hl he ho hf) hr') fun D σ H ⟨E, F, h, g0, q⟩ => by
    obtain ⟨fps, w⟩ := id g0.ow
    obtain ⟨ov, e1, _, v, rfl, r⟩ := w.at_ i _ hΓ
    cases (List.cons.inj (show [v] = _ from r)).1
    obtain ⟨G, g1, g2, g3⟩ := g0.look vw
    refine ⟨.int z, e1, G, g1, g2, q.bind.post g0 (fun F' H' x => let ⟨F2, a, _, b⟩ := g3 F' H' x; ⟨F2, a, b⟩) fun y py u F' H' ex ru => ?_⟩
    obtain ⟨F2, x2, back, _⟩ := g3 F' H' ex
    cases (List.cons.inj (show [u] = _ from ru)).1
    have hil : i < Γ.length := (List.getElem?_eq_some_iff.mp hΓ).1
    have hni : i ∉ E.hk := fun z => by rw [h] at z; rw [List.contains_iff_mem.mpr z] at hn; cases hn
    exact ⟨z, y, rfl, rfl, g z y, E, F2, h, g0.set (r := .d .int) (x := g z y) (v := .int (g z y)) x2 rfl hil hni, py⟩
/-- a name is returned -/
theorem bs_retV (i : Nat) {x : t.den} {n : Str} {bb : β} (hi : Γ[i]? = some (.d t x)) (hp : PE X (.Name n p) (tVar i)) (hI : I bb = .rt (.d t) x) : BS X W hk Γ (.Return (some (.Name n p)) pos :: rest) (.ok bb) I :=
  pss_imp (pss_cons (ps_ret hp) pss_never) fun D σ H ⟨E, F, h, g, q⟩ => by
    have q : outP X.K X.mg E D (I bb) := q
    rw [hI] at q
    obtain ⟨fps, w⟩ := g.ow
    obtain ⟨ov, e1, _, v, rfl, r⟩ := w.at_ i _ hi
    exact ⟨v, e1, q v F H g.e0 r⟩
/-! ## truth -/
theorem t_truL {m : Mx (List t.den)} (ha : EM X W Γ a (.list t) m) (he : ∀ whole, isTrue a X.env whole = (do let v ← whole; standAt a.pos; holding [v] (truthy v))) : ET X W Γ a (m >>= fun x => .ok (!x.isEmpty)) :=
  pt_imp (pt_truth ha he) fun σ H Q ⟨F, s, d, q⟩ => ⟨F, s, d, q.bind.mono fun x px v F1 H1 e1 r1 => by
    obtain ⟨l, ws, e, sq, rr⟩ := r1
    cases (List.cons.inj e).1
    refine ⟨!ws.isEmpty, .inl ⟨ws, SqL.of (e1.i _ _ sq), rfl⟩, ?_⟩
    have hl := rr.len
    have hx : x.isEmpty = ws.isEmpty := by cases x <;> cases ws <;> first | rfl | cases hl
    rw [← hx]; exact px F1 H1 e1⟩
theorem e_notL {m : Mx (List t.den)} (ha : EM X W Γ a (.list t) m) : EM X W Γ (.UnaryOp .Not a pos) .bool (m >>= fun x => .ok x.isEmpty) :=
  pe_imp (pe_notT ha) fun σ H Q ⟨F, s, d, q⟩ => ⟨F, s, d, q.bind.mono fun x px v F1 H1 e1 r1 => by
    obtain ⟨l, ws, e, sq, rr⟩ := r1
    cases (List.cons.inj e).1
    refine ⟨!ws.isEmpty, .inl ⟨ws, SqL.of (e1.i _ _ sq), rfl⟩, ?_⟩
    have hl := rr.len
    have hx : x.isEmpty = ws.isEmpty := by cases x <;> cases ws <;> first | rfl | cases hl
    rw [Bool.not_not, ← hx]; exact px _ F1 H1 e1 rfl⟩
end
end Gm
set_option Elab.async false
set_option linter.all false
set_option maxRecDepth 100000
set_option maxHeartbeats 4000000
namespace Gm
open PySem PySem.Spec L2
section
variable {X : Cx} {W : WX} {Γ : Ctx} {a b e : Expr} {es : List Expr} {kws : List Keyword} {pos p p' apos : Pos} {r : Rt} {t : Ty} {c f x m : Str} {ns ps ks : List Str} {C fI g : Addr} {n k : Nat} {fd : FuncData} {fs : Ow}
/-! ## calls that leave keyword-only arguments out -/
theorem e_callD {ts us : Ty} {π : us.den → ts.den} {h : ts.den → Mx r.den} {ma : Mx us.den} {dvs : List V} {ds : List Value} (Fn : FnOk X.prog X.w X.K X.mg X.base (L2.CX X.prog X.w) k g fd ps (spF X.K X.mg ts r h)) (hr : Room k X.A) (hg : Gl X x) (hm : X.mg x = some (.ref g)) (hkp : PySem.W.keepIn X.K (.ref g) = true)
    (hb : Binds X.K fd ps ds) (hd : Vals dvs ds) (hgv : ∀ (F : Hp) (y : us.den) (zs : List V), rl X.K X.mg us y zs F → rl X.K X.mg ts (π y) (zs ++ dvs) F) (tk : Takes X W) (ha : EA X W Γ (e :: es) us ma) (hdb : (x == ("__debug__" : Str)) = false) (he : starEach (e :: es) X.env = (false, eval e X.env) :: starEach es X.env) (hpl : (backTo pos (starEach es X.env)).any (·.1) = false) :
    ER X W Γ (.Call (.Name x p) (e :: es) [] pos) r (ma >>= fun y => h (π y)) :=
  pe_imp (pe_callSD Fn hr hg hm hkp hb hd (fun σ => passAt tk σ) ha hdb he hpl) fun σ H Q ⟨F, s, d, pp⟩ => ⟨F, s, d, pp.bind.mono fun z pz vs F1 H1 e1 r1 => by
    refine ⟨F1, π z, e1.i, hgv F1 z vs r1, ?_⟩
    cases hgz : h (π z) with
    | no => rw [hgz] at pz; exact pz
    | ex y => rw [hgz] at pz; exact fun cls d F' H' x r => pz cls d F' H' (e1.trans x) r
    | ok y => rw [hgz] at pz; exact fun v F' H' x r => pz v F' H' (e1.trans x) (rtr_pre e1.h r)⟩
theorem run_fnNA {pins : List (Addr × Obj)} {σ : L2.St} {H : Hp} {s : Shared} {Q : VK} {sp : Sp} {E : XK} {us ws : List Value} {vs zs : List V} {gA : List Value → List Value → List Value} {gV : List V → List V → List V} (Fn : FnOk X.prog X.w X.K X.mg X.base (L2.CX X.prog X.w) k g fd ps sp) (hr : Room k X.A) (hb : KBn X.K fd ps n ks gA gV) (hx : PassesAt (L2.CX X.prog X.w) X σ E)
    (I : Inv X pins σ H s) (r : Vals vs us) (rz : Vals zs ws) (l1 : vs.length = n) (l2 : zs.length = ks.length) (h : sp (gV vs zs) H Q E) : wpAny (model X.prog X.w) X.A (call (.ref g) us (ks.zip ws)) (EP X pins σ Q) X.xe s := by
  have r2 := hb.rel r rz
  refine wpAny_call (codeAny_mono (Fn.run X.A X.stack s H ⟨us, ks.zip ws⟩ (gA us ws) (gV vs zs) Q E hr I.env0 (hb.to s us ws I.kIn (r.length.symm.trans l1) (rz.length.symm.trans l2)) r2 h) fun r s' hq => ?_)
  cases r with
  | error e => exact hx pins _ _ e s' I hq
  | ok fl =>
    cases fl with
    | ret u => exact I.after hq
    | next => exact False.elim hq
    | brk => exact False.elim hq
    | cont => exact False.elim hq
def tCallM (n m : Nat) (sp : Sp) (gV : List V → List V → List V) (E : L2.St → XK) (t tk : TA) : TE := fun σ H Q => t σ H fun vs H1 => tk σ H1 fun zs H2 => vs.length = n ∧ zs.length = m ∧ sp (gV vs zs) H2 Q (E σ)
theorem pe_callM {sp : Sp} {ta tk' : TA} {gA : List Value → List Value → List Value} {gV : List V → List V → List V} (Fn : FnOk X.prog X.w X.K X.mg X.base (L2.CX X.prog X.w) k g fd ps sp) (hr : Room k X.A) (hg : Gl X x) (hm : X.mg x = some (.ref g)) (hk : PySem.W.keepIn X.K (.ref g) = true) (hb : KBn X.K fd ps n ks gA gV) (tk : Takes X W)
    (ha : PA X (e :: es) ta) (hkw : PK X kws tk') (hall : (backToKw pos (keywordEach kws X.env)).all (·.1.isSome) = true) (hks : (backToKw pos (keywordEach kws X.env)).filterMap (·.1) = ks)
    (hdb : (x == ("__debug__" : Str)) = false) (he : starEach (e :: es) X.env = (false, eval e X.env) :: starEach es X.env)
    (hpl : ((backTo pos (starEach (e :: es) X.env)).any (·.1) || (backToKw pos (keywordEach kws X.env)).any (·.1.isNone)) = false) :
    PE X (.Call (.Name x p) (e :: es) kws pos) (tCallM n ks.length sp gV (WE W) ta tk') := ⟨fun pins s σ H Q I h => by
  refine wpAny_Call_Name_kw (ld_glob I hg hm ?_ hdb)
  refine PySem.W.callWith_KW (h₀ := X.base) I.ok.mod.kin hk hall (thn (ha.run pos pins s σ H _ I h) fun us s1 ⟨vs, H1, I1, r, q⟩ => ?_) hpl he
  refine thn (hkw.run pos pins s1 σ H1 _ I1 q) fun ws s2 ⟨zs, H2, I2, rz, l1, l2, q2⟩ => ⟨I2.kIn, ?_⟩
  rw [hks]
  exact run_fnNA Fn hr hb (passAt tk σ) I2 r rz l1 l2 q2⟩
/-- f(e, .., k = v, ..) -/
theorem e_callK {ts us vs : Ty} {π : us.den → vs.den → ts.den} {h : ts.den → Mx r.den} {ma : Mx us.den} {mk : Mx vs.den} {gA : List Value → List Value → List Value} {gV : List V → List V → List V} (Fn : FnOk X.prog X.w X.K X.mg X.base (L2.CX X.prog X.w) k g fd ps (spF X.K X.mg ts r h)) (hr : Room k X.A) (hg : Gl X x) (hm : X.mg x = some (.ref g)) (hkp : PySem.W.keepIn X.K (.ref g) = true)
    (hb : KBn X.K fd ps n ks gA gV) (hgv : ∀ (F : Hp) (y : us.den) (z : vs.den) (ys zs : List V), rl X.K X.mg us y ys F → rl X.K X.mg vs z zs F → rl X.K X.mg ts (π y z) (gV ys zs) F) (tk : Takes X W) (ha : EA X W Γ (e :: es) us ma) (hkw : EK X W Γ kws vs mk) (hus : us.args = some n) (hvs : vs.args = some ks.length)
    (hall : (backToKw pos (keywordEach kws X.env)).all (·.1.isSome) = true) (hks : (backToKw pos (keywordEach kws X.env)).filterMap (·.1) = ks) (hdb : (x == ("__debug__" : Str)) = false) (he : starEach (e :: es) X.env = (false, eval e X.env) :: starEach es X.env)
    (hpl : ((backTo pos (starEach (e :: es) X.env)).any (·.1) || (backToKw pos (keywordEach kws X.env)).any (·.1.isNone)) = false) :
    ER X W Γ (.Call (.Name x p) (e :: es) kws pos) r (ma >>= fun y => mk >>= fun z => h (π y z)) :=
  pe_imp (pe_callM Fn hr hg hm hkp hb tk ha hkw hall hks hdb he hpl) fun σ H Q ⟨F, s, d, pp⟩ => ⟨F, s, d, pp.bind.mono fun y py ys F1 H1 e1 r1 =>
    ⟨F1, e1.i, d.mono e1.f, post.ext e1 py.bind fun z pz zs F2 H2 e2 r2 => by
      have r3 := rl_mono e2.f us y ys r1
      refine ⟨(args_len hus r3).1, (args_len hvs r2).1, F2, π y z, e2.i, hgv F2 y z ys zs r3 r2, ?_⟩
      cases hh : h (π y z) with
      | no => rw [hh] at pz; exact pz
      | ex w => rw [hh] at pz; exact fun cls d F' H' x r => pz cls d F' H' ((e1.trans e2).trans x) r
      | ok w => rw [hh] at pz; exact fun v F' H' x r => pz v F' H' ((e1.trans e2).trans x) (rtr_pre (e1.h.trans e2.h) r)⟩⟩
end
section
variable {K : PySem.W.Frag} {x qual : Str} {params : Arguments} {body : List Stmt} {scope : Scope} {f : Addr} {fd : FuncData} {ps : List Str}
/-- every keyword-only parameter is written -/
theorem kbindsA (F : FunD K x qual params body scope [] [] f fd) (n : Nat) (ks : List Str) (g : {α : Type} → List α → List α → List α)
    (hrel : ∀ {vs zs : List V} {us ws : List Value}, Vals vs us → Vals zs ws → Vals (g vs zs) (g us ws))
    (h : ∀ (kV doc pm : Value) (an : Option Addr) (cdv ct : Value) (us ws : List Value), us.length = n → ws.length = ks.length → bindArgs (PySem.W.fnOf x qual params body scope .none kV doc pm an cdv ct) ⟨us, ks.zip ws⟩ = pure (ps.zip (g us ws))) :
    KBn K fd ps n ks (fun us ws => g us ws) (fun vs zs => g vs zs) := by
  obtain ⟨oc, od, dV, kV, doc, pm, an, cdv, ct, osl, rfl, lk, hcd, hD, hK⟩ := F.ex
  rcases hD with ⟨_, rfl⟩ | ⟨e, _⟩
  · exact ⟨fun s us ws X l1 l2 => .of_eq (h kV doc pm an cdv ct us ws l1 l2), fun r1 r2 => hrel r1 r2⟩
  · exact absurd rfl e
end
end Gm
set_option Elab.async false
set_option linter.all false
set_option maxRecDepth 100000
set_option maxHeartbeats 4000000
namespace Gm
open PySem PySem.Spec PySem.W PySem.Calls PyProof.Rows
/-! ## an own exception whose __init__ says super().__init__('..'); self.f = p -/
/-- what the written part says of such a class and its __init__ -/
structure SupK (P : Program) (K : Frag) (C fI cc cda : Addr) (nm qual par f : Str) (params : Arguments) (body : List Stmt) (scope : Scope) : Prop where
  cls : ∃ nm q N bs bm sn sub ab col dd k0 k1 k2 k3 k5, K.lookup C = some (excClassObj nm q C N bs bm true sn sub ab col dd k0 k1 k2 k3 k5 "ValueError.__new__") ∧ PySem.HandSPX.refsVE bm = true ∧ alongIn K "__init__" bm = some (some (.builtin "ValueError.__init__"))
  sa : findIn K (.ref C) "__setattr__" = some (some (.builtin "object.__setattr__"))
  exC : subIn K (.ref C) (.type "BaseException") = some true
  veC : subIn K (.ref C) (.type "ValueError") = some true
  tyC : typeIn K (.ref C) = some (.type "type")
  kC : keepIn K (.ref C) = true
  noF : findIn K (.ref C) f = some none
  iC : findIn K (.ref C) "__init__" = some (some (.ref fI))
  tI : typeIn K (.ref fI) = some (.type "function")
  self : mroIn K C (.ref C) = some true
  opq : nsIn K cStatics "thirdparty.any" = some none
  lk : ∃ oc od kV doc pm an ct osl, K.lookup fI = some ⟨oc, od, .func (fnX nm qual params body scope [("__class__", cc)] .none kV doc pm an (.ref cda) ct), osl⟩
  cdi : codeIn K (.ref cda) qual = true
  code : ∃ ccl cdd vs ccs file tf, K.lookup cda = some ⟨ccl, cdd, .fields vs, ccs⟩ ∧ vs[2]? = some (.str file tf) ∧ ((P.main.file : Str) == file) = true
  cell : ∃ cl cld csl, K.lookup cc = some ⟨cl, cld, .cell (some (.ref C)), csl⟩
  top : (P.main.scope.names.lookup ("super" : Str)).isSome = false
/-- what its text says -/
structure SupS (par f : Str) (params : Arguments) (body : List Stmt) (scope : Scope) : Prop where
  txt : ∃ txt p0 p1 p2 p3 p4 p5 p6 p7 p8 p9 j, body = [.Expr (.Call (.Attribute (.Call (.Name "super" p0) [] [] p1) "__init__" p2) [.Constant (.str txt) j p3] [] p4) p5, .Assign [.Attribute (.Name "self" p6) f p7] (.Name par p8) p9] ∧
    ∀ (L gl bl : Addr) (cells : List (Str × Addr)) (q : Str) (fn : Option Addr) (code : Value), ∃ pl : Sem Bool, eval (.Call (.Attribute (.Call (.Name "super" p0) [] [] p1) "__init__" p2) [.Constant (.str txt) j p3] [] p4) (newEnv scope L gl cells q fn code none bl) = (do
      let ov ← attributeBase (.Call (.Name "super" p0) [] [] p1) "__init__" (newEnv scope L gl cells q fn code none bl) (eval (.Call (.Name "super" p0) [] [] p1) (newEnv scope L gl cells q fn code none bl))
      standAt p2.atName
      let (f, first) ← holding [ov] (getMethod ov "__init__" pl)
      callWith p4 f first (backTo p4 (starEach [.Constant (.str txt) j p3] (newEnv scope L gl cells q fn code none bl))) [])
  head : ∃ ar, (params.posonlyargs ++ params.args).head? = some ar ∧ ar.arg = ("self" : Str)
  kind : scope.kind = .function
  co : scope.isCoroutine = false
  gen : scope.isGenerator = false
  nocell : ∀ x ∈ scope.names, x.2 ≠ .cell
  s1 : scope.names.lookup ("self" : Str) = some .local
  s2 : scope.names.lookup par = some .local
  s3 : scope.names.lookup ("super" : Str) = some .globalImplicit
  s4 : scope.names.lookup ("__class__" : Str) = some .free
  ne : par ≠ ("self" : Str)
  nd : (par == ("__debug__" : Str)) = false
  bind : ∀ (nm qual : Str) (cl : List (Str × Addr)) (kV doc pm : Value) (an : Option Addr) (cdv ct u v : Value) (s : Shared), BindsTo s (fnX nm qual params body scope cl .none kV doc pm an cdv ct) ⟨[u, v], []⟩ [("self", u), (par, v)]

section
variable {prog : Program} {w : World} {A : Around} {R : Result → Shared → Prop} {K : Frag} {hp : Heap} {g : Array GenState} {d : Drawn} {t : Nat} {os : OsState}
/-- super().__init__(..) called on the bound word -/
theorem sup_call {E : Value → Shared → Prop} {nm q : Str} {C N : Addr} {bs bm : List Value} {hdct : Bool} {sn : List Str} {sub : List Value} {ab : Bool} {col : Option Bool} {dd : Option Addr} {k0 k1 k2 k3 k5 : Option Value} {u e t0 : Addr} {rest : List Value} {Q : Value → Shared → Prop}
    (hC : hp.get? C = some (excClassObj nm q C N bs bm hdct sn sub ab col dd k0 k1 k2 k3 k5 "ValueError.__new__")) (he : hp.get? e = some (PySem.HandSPX.excO C t0)) (hu : hp.get? u = some (kxs_mw "ValueError.__init__" e)) (hrest : rest.length ≤ sizeLine)
    (hq : ∀ h' t1, (∀ b o, b ≠ e → hp.get? b = some o → h'.get? b = some o) → h'.get? e = some (PySem.HandSPX.excO C t1) → Q .none ⟨h', g, d, t, os⟩) :
    wpAny (model prog w) A (call (.ref u) rest) Q E ⟨hp, g, d, t, os⟩ := by
  refine wpAny_call (codeAny_of_tree ?_)
  show wpAny _ A.in1 (callAny (.ref u) ⟨rest, []⟩) _ _ _
  simp only [callAny]
  refine wpAny_bind (wpAny_load hu ?_)
  simp only [kxs_mw, show (Value.type "method-wrapper" == Value.type "method" || Value.type "method-wrapper" == Value.type "builtin_function_or_method" || Value.type "method-wrapper" == Value.type "method-wrapper") = true by decide, if_true]
  refine KFB.if_so (by decide) ?_
  refine wpAny_bind (check_bound_init F.excBase_ValueError.toExcCallFacts hC he rfl ?_)
  refine wpAny_bind (wpAny_pure (wpAny_pure ?_))
  refine ⟨plainId_quiet F.excBase_ValueError.init.plain _, codeAny_builtin F.excBase_ValueError.initEntry ?_⟩
  rw [Around.under_plainId F.excBase_ValueError.init.plain _]
  wp_walk
  refine hq _ hp.objs.size (fun b o hb ho => ?_) ?_
  · rw [Heap.get?_update_other _ _ (Ne.symm hb)]
    exact Heap.get?_push_of_some _ ho
  · rw [Heap.get?_update_self _ (Heap.get?_push_of_some _ he) rfl]
    rfl
theorem sup_callWith {M : Model} {E : Value → Shared → Prop} {s : Shared} {i : String} {u x : Addr} {pos : Pos} {env : Env} {e : Expr} {rest : List Expr} {Q : Value → Shared → Prop}
    (h : wpAny M A (spliced (backTo pos (starEach (e :: rest) env))) (fun vs s₁ => KxsAt i u x s₁.heap ∧ wpAny M A (call (.ref u) vs) Q E s₁) E s)
    (he : starEach (e :: rest) env = (false, eval e env) :: starEach rest env := by rfl) (hplain : (backTo pos (starEach rest env)).any (·.1) = false := by rfl) :
    wpAny M A (callWith pos (.ref u) [] (backTo pos (starEach (e :: rest) env)) []) Q E s := by
  rw [he] at h ⊢
  refine kxs_callWith (i := i) (x := x) (by show (false || (backTo pos (starEach rest env)).any (·.1)) = false; rw [hplain]; rfl) ?_
  exact evalArgs_plain h
theorem sup_init {C fI cc cda x t0 : Addr} {u : Value} {nm qual par f : Str} {params : Arguments} {body : List Stmt} {scope : Scope} {mg mb : Str → Option Value} (T : SupK prog K C fI cc cda nm qual par f params body scope) (S : SupS par f params body scope)
    (X : K.In hp) (lim : hp.NoLimit) (room : A.depth < recursionLimit) (hmg : hp.Ns mainGlobals mg) (hms : mg "super" = none) (hmb : hp.Ns builtinsNs mb) (hbs : mb "super" = some (.type "super"))
    (he : hp.get? x = some (PySem.HandSPX.excO C t0)) (hxK : K.lookup x = none)
    (hq : ∀ h' t1 dx tk', (∀ b o, b ≠ x → hp.get? b = some o → h'.get? b = some o) → hp.objs.size ≤ dx → dx ≠ x → h'.get? x = some { cls := .ref C, dict := some dx, data := .fields #[.ref t1, .none, .none, .none, .bool false, .none] } →
      h'.Ns1 dx (fun y => if y = f then some u else none) → R (.ok (.ret .none)) ⟨h', g, d, tk', os⟩) :
    codeAny (model prog w) A (.call (.ref fI) ⟨[.ref x, u], []⟩) R ⟨hp, g, d, t, os⟩ := by
  obtain ⟨cnm, q, N, bs, bm, sn, sub, ab, col, dd, k0, k1, k2, k3, k5, hC, hbm, hal⟩ := T.cls
  obtain ⟨oc, od, kV, doc, pm, an, ct, osl, lk⟩ := T.lk
  obtain ⟨ccl, cdd, vs, ccs, file, tf, hco, hvs, hfile⟩ := T.code
  obtain ⟨cl, cld, csl, hcell⟩ := T.cell
  obtain ⟨txt, p0, p1, p2, p3, p4, p5, p6, p7, p8, p9, j, rfl, hev⟩ := S.txt
  obtain ⟨ar, har, hself⟩ := S.head
  have hcl : clsIn K C = some { name := cnm, bases := bs, mro := .ref C :: bm, ns := N, qualname := q, hasDict := true, slotNames := sn, subclasses := sub, abstract := ab, collection := col, hasDel := false } := by unfold clsIn; rw [hC] <;> rfl
  refine ks_codeAny_call_defAt (binds := [("self", .ref x), (par, u)]) room (X _ _ lk) rfl lim (codeRec_of X T.cdi) rfl (S.bind nm qual _ kV doc pm an (.ref cda) ct (.ref x) u _) S.nocell (fun y hy => ?_) (fun h0 hns k0' => ?_) S.co S.gen S.kind
  · rcases List.mem_cons.mp hy with e | hy
    · rw [e]; exact S.s1
    · rw [List.mem_singleton.mp hy]; exact S.s2
  have X0 := X.keeps k0'
  have he0 := k0' _ _ he
  have hv1 : (fun y => ([("self", Value.ref x), (par, u)] : List (Str × Value)).reverse.lookup y) ("self" : Str) = some (.ref x) := by
    show List.lookup ("self" : Str) [(par, u), ("self", Value.ref x)] = _
    rw [List.lookup_cons, show (("self" : Str) == par) = false from beq_eq_false_iff_ne.mpr (Ne.symm S.ne)]
    rfl
  have hv2 : (fun y => ([("self", Value.ref x), (par, u)] : List (Str × Value)).reverse.lookup y) par = some u := by
    show List.lookup par [(par, u), ("self", Value.ref x)] = _
    rw [List.lookup_cons, show (par == par) = true from beq_iff_eq.mpr rfl]
  generalize hm0 : (fun y => ([("self", Value.ref x), (par, u)] : List (Str × Value)).reverse.lookup y) = m0 at hns hv1 hv2
  have I0 : InstAt h0 x (PySem.HandSPX.excO C t0) C none := ⟨he0, rfl, rfl, trivial⟩
  have hCh := X0 _ _ hC
  obtain ⟨pl, hpl⟩ := hev hp.objs.size mainGlobals builtinsNs [("__class__", cc)] (qual ++ ".<locals>.") (some fI) (.ref cda)
  refine ks_wpAt_execs_cons (ks_wpAt_Expr_any (ks_wpAt_MethodCall (pl := pl) ?_ hpl) (by show (scope.kind == .module && _) = false; rw [S.kind]; rfl) rfl)
  refine ks_wpAt_super_base S.s3 S.s4 (by decide) rfl (X0 _ _ lk) rfl har rfl (X0 _ _ hco) rfl hvs hfile T.top ?_
  refine ks_loadName_global S.kind S.s3 (loadGlobal_builtin (hmg.keeps k0') hms (hmb.keeps k0') hbs ⟨rfl, ?_⟩)
  refine wpAny_loadName_free S.kind S.s4 rfl ⟨_, X0 _ _ hcell, rfl⟩ ?_
  rw [hself]
  refine wpAny_loadName_local S.kind S.s1 hns hv1 ?_
  refine ks_wpAny_isType_cls hCh rfl ⟨rfl, ?_⟩
  refine ks_wpAny_call_super hCh rfl he0 rfl (fun c e => by cases e) (looks_mroIn X0 T.self) (fun h1 so k1 => ?_)
  have X1 := X0.keeps k1
  have I1 : InstAt h1 x (PySem.HandSPX.excO C t0) C none := ⟨k1 _ _ he0, rfl, rfl, trivial⟩
  refine kxs_getMethod kxs_ValueError so (looks_opaque X1 T.opq) (l₀ := .ref C :: bm) (fun A Q E s k q => wpAny_bind ((looks_clsIn X1 hcl) A _ E s k (wpAny_pure q))) ?_ X1 hal (I1.type.andThen (looks_subIn X1 T.veC)) (ks_ne X1 I1 hcl) (by decide) ?_
  · simp [List.dropWhile_cons]
  have hu1 : (h1.push (kxs_mw "ValueError.__init__" x)).get? h1.objs.size = some (kxs_mw "ValueError.__init__" x) := Heap.get?_push_at rfl rfl
  have k2 : ∀ b o, h1.get? b = some o → (h1.push (kxs_mw "ValueError.__init__" x)).get? b = some o := fun b o e => Heap.get?_push_of_some _ e
  refine sup_callWith (i := "ValueError.__init__") (x := x) (PyProof.Rows.spliced_more (Calls.Constant_str (PyProof.Rows.spliced_none ⟨hu1, ?_⟩)))
  refine sup_call (C := C) (t0 := t0) (k2 _ _ (k1 _ _ hCh)) (k2 _ _ (k1 _ _ he0)) hu1 (show 1 ≤ sizeLine from by rw [sizeLine_eq]; omega) fun h2 t1 k3 hx => ?_
  have kk : ∀ b o, b ≠ x → h0.get? b = some o → h2.get? b = some o := fun b o hb e => k3 b o hb (k2 _ _ (k1 _ _ e))
  have X2 : K.In h2 := fun b o e => kk b o (fun z => by rw [z, hxK] at e; cases e) (X0 b o e)
  have hLx : hp.objs.size ≠ x := Ne.symm (Nat.ne_of_lt (Heap.lt_size he))
  have hns2 : h2.Ns hp.objs.size m0 := by
    obtain ⟨oL, es, ep, hL, r⟩ := hns
    exact ⟨oL, es, ep, kk _ _ hLx hL, r⟩
  refine ks_wpAt_execs_cons (ks_wpAt_Assign_Attr ?_ rfl)
  refine wpAt_of_wpAny (wpAny_Name (wpAny_loadName_local S.kind S.s2 hns2 hv2 ?_) S.nd)
  refine wpAny_Name (wpAny_loadName_local S.kind S.s1 hns2 hv1 ?_) (by decide)
  refine set_plain X2 (ox := PySem.HandSPX.excO C t1) (od := none) ⟨hx, rfl, rfl, trivial⟩ T.sa ?_
  refine PySem.HandSPX.exc_osa X2 hx hcl (show PySem.HandSPX.refsVE (.ref C :: bm) = true from hbm) rfl T.noF (fun h' tk' dx k dn dne hx' hn => ?_)
  refine wpAt_of_wpAny (wpAny_execs_nil ?_)
  refine hq h' t1 dx tk' (fun b o hb e => k b o hb (kk b o hb (k0' b o e))) ?_ dne hx' hn
  obtain ⟨oL, es, ep, hL, r⟩ := hns2
  exact Nat.le_trans (Nat.le_of_lt (Heap.lt_size hL)) dn
end
open L2
def tMkS (C : Addr) (f : Str) (ta : TA) : L2.St → Hp → XK → Prop := fun σ H Q => ta σ H fun vs H1 => ∃ y, vs = [y] ∧ ∀ dx, H1 dx = none → Q (.ref C) (some dx) (upd H1 dx (.xd [(f, y)]))
theorem pmk_sup {X : Cx} {x : Str} {C fI cc cda : Addr} {k : Nat} {nm qual par f : Str} {params : Arguments} {body : List Stmt} {scope : Scope} {e : Expr} {ta : TA} {p pos : Pos} (T : SupK X.prog X.K C fI cc cda nm qual par f params body scope) (S : SupS par f params body scope)
    (hr : Room (k + 1) X.A) (hg : Gl X x) (hm : X.mg x = some (.ref C)) (hms : X.mg "super" = none) (ha : PA X [e] ta)
    (hdb : (x == ("__debug__" : Str)) = false := by decide) (he : starEach [e] X.env = (false, eval e X.env) :: starEach [] X.env := by rfl) (hpl : (backTo pos (starEach [] X.env)).any (·.1) = false := by rfl) :
    PMk X (.Call (.Name x p) [e] [] pos) (tMkS C f ta) := by
  intro pins s σ H Q I h
  obtain ⟨cnm, q, N, bs, bm, sn, sub, ab, col, dd, k0, k1, k2, k3, k5, hC, hbm, hal⟩ := T.cls
  refine wpAny_Call_Name_kw (ld_glob I hg hm ?_ hdb)
  refine PySem.W.callWith_K (h₀ := X.base) I.ok.mod.kin T.kC (thn (ha.run pos pins s σ H _ I h) fun us s1 ⟨vs, H1, I1, r1, y, ev, q1⟩ => ⟨I1.kIn, ?_⟩) he hpl
  subst ev
  cases r1 with
  | @cons _ u _ us ry rn =>
  cases rn
  show wpAny _ _ (call (.ref C) [u]) _ _ _
  obtain ⟨hp, g, dr, tk, os⟩ := s1
  have kk : ∀ b o, hp.get? b = some o → ((hp.push (PySem.W.kdv_tup [u])).push (PySem.HandSPX.excO C hp.objs.size)).get? b = some o := fun b o e => Heap.get?_push_of_some _ (Heap.get?_push_of_some _ e)
  have hget : ((hp.push (PySem.W.kdv_tup [u])).push (PySem.HandSPX.excO C hp.objs.size)).get? (hp.objs.size + 1) = some (PySem.HandSPX.excO C hp.objs.size) := by heap_get
  have hbk : ∀ b o, X.base.get? b = some o → hp.get? b = some o := I1.bk
  obtain ⟨mb, hb1, hb2⟩ := I1.mod.blt
  have hxK : X.K.lookup (hp.objs.size + 1) = none := by
    cases z : X.K.lookup (hp.objs.size + 1) with
    | none => rfl
    | some o => exact absurd (Heap.lt_size (I1.kIn _ _ z)) (by show ¬ (hp.objs.size + 1 < hp.objs.size); omega)
  refine wpAny_call (PySem.HandSPX.call_own F.excBase_ValueError (fun Y => PySem.HandSPX.refsVE_contains Y bm hbm) (I1.kIn _ _ hC) (PySem.W.looks_findIn I1.kIn T.iC) (fun self => PySem.W.bind_fn I1.kIn self T.tI) (by show 1 ≤ sizeLine; rw [sizeLine_eq]; omega)
    (sup_init (mg := X.mg) (mb := mb) T S (I1.kIn.keeps kk) (I1.mod.nolimit.keeps fun b o z => kk b o (hbk b o z)) (hr.make C [u] []).depth ((I1.mod.glob.keeps hbk).keeps kk) hms ((hb1.keeps hbk).keeps kk) ((hb2 "super" (by decide)).trans (by first | rfl | kernel_rfl)) hget hxK
      fun h' t1 dx tk' kx dn dne hx hn => ?_))
  have dn0 : hp.objs.size ≤ dx := Nat.le_trans (by rw [Heap.size_push, Heap.size_push]; exact Nat.le_add_right _ 2) dn
  obtain ⟨G, g1, g2⟩ := restrict h' fun b => decide (b ≠ hp.objs.size + 1)
  have gk : ∀ b, b ≠ hp.objs.size + 1 → G.get? b = h'.get? b := fun b hb => g1 b (decide_eq_true hb)
  have ge : G.get? (hp.objs.size + 1) = none := g2 _ (by simp)
  have nea : ∀ {b : Addr} {o : Obj}, hp.get? b = some o → b ≠ hp.objs.size + 1 := fun {b o} z e => absurd e (Nat.ne_of_lt (Nat.lt_succ_of_lt (Heap.lt_size z)))
  have J : Inv X pins σ (upd H1 dx (.xd [(f, y)])) ⟨G, g, dr, tk', os⟩ := I1.laid (t' := tk') (a := dx) (o := .xd [(f, y)]) (h' := G) (fun b o z => by rw [gk b (nea z)]; exact kx b o (nea z) (kk b o z)) dn0
    ⟨_, hn.at fun o z => (gk dx dne).trans z, fun g => by
      show RelO (([(f, y)] : List (Str × V)).lookup g) (if g = f then some u else none)
      rw [lookup_put]
      by_cases hgf : g = f
      · rw [if_pos hgf, if_pos hgf]; exact ry
      · rw [if_neg hgf, if_neg hgf]; exact True.intro⟩
  refine ⟨rfl, hp.objs.size + 1, _, _, ⟨G, g, dr, tk', os⟩, _, .ref C, some dx, rfl, J, fun b o z => ?_, ge, hx, ⟨rfl, rfl⟩, rfl, rfl, ?_, rfl, I1.bare, raises_own T.exC T.tyC, q1 dx (I1.hok.fresh dn0)⟩
  · by_cases hba : b = hp.objs.size + 1
    · rw [hba, ge] at z; cases z
    · exact (gk b hba).symm.trans z
  · rw [upd_ne (Ne.symm dne)]
    exact I1.hok.fresh (Nat.le_succ _)
end Gm
set_option Elab.async false
set_option linter.all false
set_option maxRecDepth 100000
set_option maxHeartbeats 4000000
namespace Gm
open PySem PySem.Spec L2

/-! ## what the top has written: defs by where they stand, facts as tests -/
theorem Df.fun_ {K : PySem.W.Frag} {d : Df} (hcl : d.cl = []) (e : fnAt K (d.loc K) = d.want) (c : d.good K = true) : ∃ fd, FunD K d.name d.qual d.params d.body d.scope (d.dfl K) (d.kwd K) (d.loc K) fd := by
  unfold Df.good at c
  rw [Bool.and_eq_true] at c
  obtain ⟨kp, c⟩ := c
  unfold fnAt Df.want at e
  cases hq : K.lookup (d.loc K) with
  | none => rw [hq] at c; cases c
  | some ob =>
    obtain ⟨oc, od, dt, sl⟩ := ob
    rw [hq] at c e
    cases dt with
    | func q =>
      have c : (PySem.W.codeIn K q.code d.qual && (He.dflB K q.defaults (d.dfl K) && He.kwdB K q.kwdefaults (d.kwd K))) = true := c
      rw [Bool.and_eq_true, Bool.and_eq_true] at c
      obtain ⟨k1, k2, k3⟩ := c
      obtain ⟨n1, n2, n3, n4, n5, n6, n7, n8, n9, n10, n11, n12, n13, n14, n15⟩ := q
      have e : (some (n1, n2, n3, n4, n5, n6, n7.map (·.1), n15) : FnX) = some (d.name, d.qual, d.params, .stmts d.body, d.scope, mainGlobals, d.cl, builtinsNs) := e
      have e := Option.some.inj e
      simp only [Prod.mk.injEq] at e
      obtain ⟨h1, h2, h3, h4, h5, h6, h7, h8⟩ := e
      rw [hcl] at h7
      have h7 : n7 = [] := List.map_eq_nil_iff.mp h7
      subst h1 h2 h3 h4 h5 h6 h7 h8
      exact ⟨_, ⟨oc, od, n8, n9, n10, n11, n12, n13, n14, sl, rfl, hq, k1, He.dflB_ok k2, He.kwdB_ok k3⟩, kp⟩
    | _ => cases c
section
variable {fa : List Fact} {fn : List Df} {K : PySem.W.Frag}
theorem Told.fact (c : Told fa fn K) (i : Nat) {f : Fact} (h : fa[i]? = some f) : f K = true := by
  have e := congrArg Prod.fst c
  have e : ((fa.all fun f => f K) && fn.all fun d => d.good K) = true := e
  rw [Bool.and_eq_true] at e
  exact List.all_eq_true.mp e.1 f (List.mem_iff_getElem?.mpr ⟨i, h⟩)
theorem Told.at_ (c : Told fa fn K) (i : Nat) {d : Df} (h : fn[i]? = some d) : fnAt K (d.loc K) = d.want ∧ d.good K = true := by
  have e := congrArg Prod.fst c
  have e : ((fa.all fun f => f K) && fn.all fun d => d.good K) = true := e
  rw [Bool.and_eq_true] at e
  have e2 := congrArg Prod.snd c
  have e2 : fn.map (fun d => fnAt K (d.loc K)) = fn.map Df.want := e2
  refine ⟨?_, List.all_eq_true.mp e.2 d (List.mem_iff_getElem?.mpr ⟨i, h⟩)⟩
  have e3 := congrArg (fun l => l[i]?) e2
  simp only [List.getElem?_map, h, Option.map_some, Option.some.injEq] at e3
  exact e3
theorem Told.def_ (c : Told fa fn K) (i : Nat) {d : Df} (h : fn[i]? = some d) (hcl : d.cl = [] := by rfl) : ∃ fd, FunD K d.name d.qual d.params d.body d.scope (d.dfl K) (d.kwd K) (d.loc K) fd := by
  have e := congrArg Prod.fst c
  have e : ((fa.all fun f => f K) && fn.all fun d => d.good K) = true := e
  rw [Bool.and_eq_true] at e
  have e2 := congrArg Prod.snd c
  have e2 : fn.map (fun d => fnAt K (d.loc K)) = fn.map Df.want := e2
  refine Df.fun_ hcl ?_ (List.all_eq_true.mp e.2 d (List.mem_iff_getElem?.mpr ⟨i, h⟩))
  have e3 := congrArg (fun l => l[i]?) e2
  simp only [List.getElem?_map, h, Option.map_some, Option.some.injEq] at e3
  exact e3
end
/-! ## places -/
theorem recAt_ok {K : PySem.W.Frag} {p : Addr} {T : String} (h : (match PySem.W.recIn K p T with | some (.ref _ :: _) => true | _ => false) = true) : ∃ rest, PySem.W.recIn K p T = some (.ref (recAt K p T) :: rest) := by
  unfold recAt
  split at h
  · rename_i g r e; exact ⟨r, by rw [e]⟩
  · cases h
/-! ## facts -/
theorem fProp_ok {K : PySem.W.Frag} {C m : Str} (h : fProp C m K = true) : PropOf K (He.ga K C) m (methAt K C m) (propAt K C m) := by
  unfold fProp at h
  rw [Bool.and_eq_true, Bool.and_eq_true, Bool.and_eq_true] at h
  exact ⟨of_decide_eq_true h.1, of_decide_eq_true h.2.1, of_decide_eq_true h.2.2.1, recAt_ok h.2.2.2⟩
theorem fRead_ok {K : PySem.W.Frag} {C : Str} (h : fRead C K = true) : ClX.CRead K (He.ga K C) (.type "type") := by
  unfold fRead at h
  rw [Bool.and_eq_true] at h
  exact ⟨h.1, of_decide_eq_true h.2⟩
theorem fInt_ok {K : PySem.W.Frag} {C m : Str} {i : Int} (h : fInt C m i K = true) : ∃ u, ClX.CVal K (He.ga K C) (.type "type") m (.int i) u := by
  unfold fInt at h
  split at h
  · rename_i j t e
    have := of_decide_eq_true h
    subst this
    exact ⟨_, e, ⟨_, rfl⟩⟩
  · cases h
theorem fStat_ok {K : PySem.W.Frag} {C m : Str} (h : fStat C m K = true) : SMet K (He.ga K C) (.type "type") m (methAt K C m) (statAt K C m) := by
  unfold fStat at h
  rw [Bool.and_eq_true, Bool.and_eq_true] at h
  obtain ⟨h1, h2, h3⟩ := h
  refine ⟨?_, recAt_ok h2, h3⟩
  split at h1
  · rename_i g p D e
    rw [Bool.and_eq_true, Bool.and_eq_true] at h1
    rw [e, of_decide_eq_true h1.1, of_decide_eq_true h1.2.1, of_decide_eq_true h1.2.2]
  · cases h1
/-- the empty tuple -/
def fTup0 (p : PySem.W.Frag → Addr) : Fact := fun K => match K.lookup (p K) with
  | some ⟨.type c, _, .seq its _, _⟩ => decide (c = "tuple") && decide (its.size = 0)
  | _ => false
theorem fTup0_ok {K : PySem.W.Frag} {p : PySem.W.Frag → Addr} (h : fTup0 p K = true) : ∀ H, SqT K H (p K) [] := by
  unfold fTup0 at h
  cases hq : K.lookup (p K) with
  | none => rw [hq] at h; cases h
  | some o =>
    obtain ⟨oc, od, dt, sl⟩ := o
    rw [hq] at h
    cases oc with
    | type c =>
      cases dt with
      | seq its n =>
        have h : (decide (c = "tuple") && decide (its.size = 0)) = true := h
        rw [Bool.and_eq_true] at h
        have e : its = #[] := Array.size_eq_zero_iff.mp (of_decide_eq_true h.2)
        subst e
        exact fun H => .inr ⟨_, #[], n, hq, congrArg Value.type (of_decide_eq_true h.1), rfl, by decide, .nil⟩
      | _ => cases h
    | _ => cases dt <;> cases h
/-! ## keywords' places -/
def pick {α : Type} (l : List (Nat × Nat)) (us mv ws : List α) : List α := l.filterMap fun p => match p.1 with
  | 0 => us[p.2]?
  | 1 => mv[p.2]?
  | _ => ws[p.2]?
theorem vals_at {xs : List V} {us : List Value} (r : Vals xs us) : ∀ i : Nat, (xs[i]? = none ∧ us[i]? = none) ∨ ∃ v u, xs[i]? = some v ∧ us[i]? = some u ∧ RelV v u := by
  induction r with
  | nil => exact fun i => .inl ⟨rfl, rfl⟩
  | cons h t ih =>
    intro i
    cases i with
    | zero => exact .inr ⟨_, _, rfl, rfl, h⟩
    | succ i => simpa using ih i
theorem pick_rel {l : List (Nat × Nat)} {vs mz zs : List V} {us mv ws : List Value} (h1 : Vals vs us) (h2 : Vals mz mv) (h3 : Vals zs ws) : Vals (pick l vs mz zs) (pick l us mv ws) := by
  induction l with
  | nil => exact .nil
  | cons p l ih =>
    unfold pick at ih ⊢
    rw [List.filterMap_cons, List.filterMap_cons]
    obtain ⟨a, b⟩ := p
    match a with
    | 0 =>
      rcases vals_at h1 b with ⟨e1, e2⟩ | ⟨v, u, e1, e2, r⟩
      · simp only [e1, e2]; exact ih
      · simp only [e1, e2]; exact .cons r ih
    | 1 =>
      rcases vals_at h2 b with ⟨e1, e2⟩ | ⟨v, u, e1, e2, r⟩
      · simp only [e1, e2]; exact ih
      · simp only [e1, e2]; exact .cons r ih
    | a + 2 =>
      rcases vals_at h3 b with ⟨e1, e2⟩ | ⟨v, u, e1, e2, r⟩
      · simp only [e1, e2]; exact ih
      · simp only [e1, e2]; exact .cons r ih
end Gm
set_option Elab.async false
set_option linter.all false
set_option maxRecDepth 100000
set_option maxHeartbeats 4000000
namespace Gm
open PySem PySem.Spec L2

section
variable {X : Cx} {W : WX} {hk : List Nat} {Γ Γ' Γv : Ctx} {st : Stmt} {rest body suite : List Stmt} {b0 : Stmt} {e : Expr} {pos p np pos' : Pos} {β : Type} {I : β → Out} {c x : Str} {C : Addr} {t : Ty} {k : Nat}
/-! ## raise X(e), X's __init__ being super().__init__('..'); self.f = e -/
def Pay.is : Pay → V → Prop
  | .n, _ => False
  | .i z, v => v = .int z
  | .s z, v => v = .str z
theorem b_raiseX {fI cc cda : Addr} {nm qual par f : Str} {params : Arguments} {bd : List Stmt} {scope : Scope} {me : Mx t.den} {cpos : Pos} (x : Str) (T : SupK X.prog X.K C fI cc cda nm qual par f params bd scope) (S : SupS par f params bd scope) (hc : X.calm = true) (tk : Takes X W) (hm : X.mg x = some (.ref C)) (hms : X.mg "super" = none)
    (hr : Room (k + 1) X.A) (hg : Gl X x) (he : EM X W Γv e t me) (vw : Vw Γ (.d t) Γv) (pay : t.den → Pay) (hp : ∀ (y : t.den) (v : V) (F : Hp), rl X.K X.mg t y [v] F → (pay y).is v)
    (hdb : (x == ("__debug__" : Str)) = false) (hs : starEach [e] X.env = (false, eval e X.env) :: starEach [] X.env) (hpl : (backTo cpos (starEach [] X.env)).any (·.1) = false) :
    BS X W hk Γ (.Raise (some (.Call (.Name x p) [e] [] cpos)) none pos :: rest) (me >>= fun z => .ex ⟨x, f, pay z⟩) I :=
  pss_imp (pss_cons (ps_raise hc tk (pmk_sup T S hr hg hm hms (pa_cons he pa_nil hs) hdb hs hpl)) pss_never) fun D σ H ⟨E, F, h, g, q⟩ => by
    obtain ⟨G, g1, g2, g3⟩ := g.look vw
    refine ⟨G, g1, g2, q.bind.post g (fun F' H' x => let ⟨F2, a, _, b⟩ := g3 F' H' x; ⟨F2, a, b⟩) fun z pz v F' H' ex rr => ?_⟩
    obtain ⟨F2, x2, back, _⟩ := g3 F' H' ex
    refine ⟨v, rfl, fun dx hdx => ?_⟩
    have r2 : rl X.K X.mg t z [v] F2 := back z v rr
    have pz : ∀ cls d σ F H, Ext E.F0 E.B F H → (∀ i ∈ E.hk, σ[i]? = E.s0[i]?) → xr X.mg ⟨x, f, pay z⟩ cls d F → W cls d σ H := pz
    refine pz (.ref C) (some dx) σ (upd F2 dx (.xd [(f, v)])) (upd H' dx (.xd [(f, v)])) ((g.e0.trans x2).trans (Ext.new x2.i hdx)) g.kp ⟨C, hm, rfl, ?_⟩
    have hv := hp z v F2 r2
    show match pay z with
      | .n => (some dx) = none
      | .i n => ∃ d, some dx = some d ∧ upd F2 dx (.xd [(f, v)]) d = some (.xd [(f, .int n)])
      | .s n => ∃ d, some dx = some d ∧ upd F2 dx (.xd [(f, v)]) d = some (.xd [(f, .str n)])
    cases hpz : pay z with
    | n => rw [hpz] at hv; exact hv.elim
    | i n => rw [hpz] at hv; rw [show v = .int n from hv]; exact ⟨dx, rfl, upd_same⟩
    | s n => rw [hpz] at hv; rw [show v = .str n from hv]; exact ⟨dx, rfl, upd_same⟩
end
/-! ## the class's facts as a test -/
def cellAt (K : PySem.W.Frag) (f : Addr) : Addr := match K.lookup f with
  | some ⟨_, _, .func d, _⟩ => (match d.closure with | [(_, c)] => c | _ => 0)
  | _ => 0
def codeAt (K : PySem.W.Frag) (f : Addr) : Addr := match K.lookup f with
  | some ⟨_, _, .func d, _⟩ => (match d.code with | .ref a => a | _ => 0)
  | _ => 0
def codeB (K : PySem.W.Frag) (f : Addr) : Bool := match K.lookup f with
  | some ⟨_, _, .func d, _⟩ => (match d.code with | .ref _ => true | _ => false)
  | _ => false
def supCls (K : PySem.W.Frag) (C : Addr) : Bool := match K.lookup C with
  | some ⟨oc, _, .cls cd, sl⟩ => (match cd.mro, sl.toList with
    | .ref C' :: bm, [_, _, _, _, some (.builtin n), _] => decide (oc = .type "type") && (decide (C' = C) && (cd.hasDict && (!cd.hasDel && (decide (n = "ValueError.__new__") && (PySem.HandSPX.refsVE bm && decide (PySem.W.alongIn K "__init__" bm = some (some (.builtin "ValueError.__init__"))))))))
    | _, _ => false)
  | _ => false
theorem supCls_ok {K : PySem.W.Frag} {C : Addr} (h : supCls K C = true) : ∃ nm q N bs bm sn sub ab col dd k0 k1 k2 k3 k5, K.lookup C = some (excClassObj nm q C N bs bm true sn sub ab col dd k0 k1 k2 k3 k5 "ValueError.__new__") ∧ PySem.HandSPX.refsVE bm = true ∧ PySem.W.alongIn K "__init__" bm = some (some (.builtin "ValueError.__init__")) := by
  unfold supCls at h
  split at h
  · rename_i oc dd cd sl ho
    split at h
    · rename_i C' bm k0 k1 k2 k3 n k5 hm hs
      simp only [Bool.and_eq_true, decide_eq_true_eq, Bool.not_eq_true'] at h
      obtain ⟨rfl, rfl, hd, hdel, rfl, hv, ha⟩ := h
      obtain ⟨nm, bs, mro, ns, qn, hdd, sn, sub, ab, col, del⟩ := cd
      dsimp only at hm hd hdel
      subst hm hd hdel
      have hsl : sl = #[k0, k1, k2, k3, some (.builtin "ValueError.__new__"), k5] := by
        obtain ⟨l⟩ := sl
        simp only at hs
        rw [hs]
      subst hsl
      exact ⟨nm, qn, ns, bs, bm, sn, sub, ab, col, dd, k0, k1, k2, k3, k5, ho, hv, ha⟩
    · cases h
  · cases h
def fSup (P : Program) (C f : Str) : Fact := fun K => supCls K (He.ga K C) && (decide (PySem.W.findIn K (.ref (He.ga K C)) "__setattr__" = some (some (.builtin "object.__setattr__"))) && (decide (PySem.W.subIn K (.ref (He.ga K C)) (.type "BaseException") = some true) &&
  (decide (PySem.W.subIn K (.ref (He.ga K C)) (.type "ValueError") = some true) && (decide (PySem.W.typeIn K (.ref (He.ga K C)) = some (.type "type")) && (PySem.W.keepIn K (.ref (He.ga K C)) && (decide (PySem.W.findIn K (.ref (He.ga K C)) f = some none) &&
  (decide (PySem.W.findIn K (.ref (He.ga K C)) "__init__" = some (some (.ref (methAt K C "__init__")))) && (decide (PySem.W.typeIn K (.ref (methAt K C "__init__")) = some (.type "function")) && (decide (PySem.W.mroIn K (He.ga K C) (.ref (He.ga K C)) = some true) &&
  (decide (PySem.W.nsIn K cStatics "thirdparty.any" = some none) && (codeB K (methAt K C "__init__") &&
  ((match K.lookup (codeAt K (methAt K C "__init__")) with | some ⟨_, _, .fields vs, _⟩ => (match (vs[2]? : Option Value) with | some (Value.str file _) => ((P.main.file : Str) == file) | _ => false) | _ => false) &&
  ((match K.lookup (cellAt K (methAt K C "__init__")) with | some ⟨_, _, .cell (some (.ref D)), _⟩ => decide (D = He.ga K C) | _ => false) && !(P.main.scope.names.lookup ("super" : Str)).isSome)))))))))))))
theorem fSup_ok {P : Program} {C f par : Str} {K : PySem.W.Frag} {d : Df} (h : fSup P C f K = true) (hd : fnAt K (d.loc K) = d.want ∧ d.good K = true) (hl : d.loc K = methAt K C "__init__") (hcl : d.cl = [("__class__" : Str)]) (hdf : d.dfl K = []) :
    SupK P K (He.ga K C) (methAt K C "__init__") (cellAt K (methAt K C "__init__")) (codeAt K (methAt K C "__init__")) d.name d.qual par f d.params d.body d.scope := by
  unfold fSup at h
  simp only [Bool.and_eq_true, decide_eq_true_eq, Bool.not_eq_true'] at h
  obtain ⟨h1, h2, h3, h4, h5, h6, h7, h8, h9, h10, h11, h12, h13, h14, h15⟩ := h
  obtain ⟨e, gd⟩ := hd
  rw [hl] at e
  unfold Df.good at gd
  rw [Bool.and_eq_true, hl] at gd
  obtain ⟨_, gd⟩ := gd
  have key : (∃ oc od kV doc pm an ct osl, K.lookup (methAt K C "__init__") = some ⟨oc, od, .func (PySem.W.fnX d.name d.qual d.params d.body d.scope [("__class__", cellAt K (methAt K C "__init__"))] .none kV doc pm an (.ref (codeAt K (methAt K C "__init__"))) ct), osl⟩) ∧ PySem.W.codeIn K (.ref (codeAt K (methAt K C "__init__"))) d.qual = true := by
    generalize hce : cellAt K (methAt K C "__init__") = ce
    generalize hco : codeAt K (methAt K C "__init__") = co
    unfold cellAt at hce
    unfold codeAt at hco
    unfold codeB at h12
    unfold fnAt Df.want at e
    cases hq : K.lookup (methAt K C "__init__") with
    | none => rw [hq] at gd; cases gd
    | some ob =>
      obtain ⟨oc, od, dt, sl⟩ := ob
      rw [hq] at gd e hce hco h12
      cases dt with
      | func q =>
        have gd : (PySem.W.codeIn K q.code d.qual && (He.dflB K q.defaults (d.dfl K) && He.kwdB K q.kwdefaults (d.kwd K))) = true := gd
        rw [Bool.and_eq_true] at gd
        obtain ⟨n1, n2, n3, n4, n5, n6, n7, n8, n9, n10, n11, n12, n13, n14, n15⟩ := q
        have e : (some (n1, n2, n3, n4, n5, n6, n7.map (·.1), n15) : FnX) = some (d.name, d.qual, d.params, .stmts d.body, d.scope, mainGlobals, d.cl, builtinsNs) := e
        have e := Option.some.inj e
        simp only [Prod.mk.injEq] at e
        obtain ⟨e1, e2, e3, e4, e5, e6, e7, e8⟩ := e
        rw [hcl] at e7
        subst e1 e2 e3 e4 e5 e6 e8
        cases n7 with
        | nil => cases e7
        | cons pr rs =>
          cases rs with
          | cons _ _ => cases (List.cons.inj e7).2
          | nil =>
            obtain ⟨cn, cv⟩ := pr
            have ecn : cn = ("__class__" : Str) := (List.cons.inj e7).1
            subst ecn
            have ec : cv = ce := hce
            subst ec
            cases n13 with
            | ref a =>
              have ea : a = co := hco
              subst ea
              rw [Bool.and_eq_true] at gd
              have hd0 := He.dflB_ok gd.2.1
              rw [hdf] at hd0
              rcases hd0 with ⟨_, e8⟩ | ⟨e8, _⟩
              · subst e8; exact ⟨⟨oc, od, n9, n10, n11, n12, n14, sl, rfl⟩, gd.1⟩
              · exact absurd rfl e8
            | _ => cases h12
      | _ => cases gd
  refine ⟨supCls_ok h1, h2, h3, h4, h5, h6, h7, h8, h9, h10, h11, key.1, key.2, ?_, ?_, h15⟩
  · split at h13
    · rename_i ccl cdd vs ccs ho
      split at h13
      · rename_i file tf hv
        exact ⟨ccl, cdd, vs, ccs, file, tf, ho, hv, h13⟩
      · cases h13
    · cases h13
  · split at h14
    · rename_i cl cld D csl ho
      have := of_decide_eq_true h14
      subst this
      exact ⟨cl, cld, csl, ho⟩
    · cases h14
end Gm
set_option Elab.async false
set_option linter.all false
set_option maxRecDepth 100000
set_option maxHeartbeats 4000000
namespace Gm
open PySem PySem.Spec L2
/-! ## try: A; except C as e: B -/
def tryA {α : Type} (l : List (Str × Bool)) (c : Str) (m : Mx α) (h : Exn → Mx α) : Mx α := match m with
  | .ok a => .ok a
  | .ex e => (match subs l e.c with
    | some true => if e.c = c then h e else .no
    | some false => .ex e
    | none => .no)
  | .no => .no
def payI (f : Str) (z : Exn) : Mx Int := match z.p with
  | .i n => if z.f = f then .ok n else .no
  | _ => .no
def payS (f : Str) (z : Exn) : Mx Str := match z.p with
  | .s n => if z.f = f then .ok n else .no
  | _ => .no
/-- the dict of the caught exception -/
def PF (z : Exn) (d : Option Addr) (dx : Addr) : Prop := match z.p with
  | .n => d = none
  | _ => d = some dx
section
variable {X : Cx} {W : WX} {hk : List Nat} {Γ Γ' Γv : Ctx} {st : Stmt} {rest body suite : List Stmt} {b0 : Stmt} {e : Expr} {pos p np pos' : Pos} {β : Type} {I : β → Out} {c x n : Str} {C : Addr} {t : Ty} {k i : Nat}
theorem SG.unset {K : PySem.W.Frag} {mg : Str → Option Value} {E : Ent} {σ : L2.St} {F H : Hp} (g : SG K mg E Γ σ F H) (hi : Γ[i]? = some .no) (hk : i ∉ E.hk) : SG K mg E Γ (σ.set i none) F H := by
  obtain ⟨e0, kp, fps, w⟩ := g
  have hl : i < Γ.length := (List.getElem?_eq_some_iff.mp hi).1
  have hs : Γ.set i .no = Γ := by
    apply List.ext_getElem?
    intro j
    by_cases hj : j = i
    · subst hj; rw [List.getElem?_set_self hl, hi]
    · rw [List.getElem?_set_ne (Ne.symm hj)]
  have kp' : ∀ j ∈ E.hk, (σ.set i none)[j]? = E.s0[j]? := fun j hj => by
    rw [List.getElem?_set_ne (show i ≠ j from fun z => hk (by rw [z]; exact hj))]; exact kp j hj
  have w2 := w.put (s := .no) (ov := none) (fp := []) hl rfl List.nodup_nil (fun _ _ a ha => nomatch ha) (fun a ha => nomatch ha)
  rw [hs] at w2
  exact ⟨e0, kp', _, w2⟩
theorem s1_tryA {l : List (Str × Bool)} {mb : Mx β} {h : Exn → Mx β} (js : List Nat) (hs : X.stack = X.env :: X.outer) (hf : X.env.frame = some X.env.locals) (hN : X.N.Nodup) (hi : X.N[i]? = some n) (hln : X.env.kindOf n = some .local) (hn : Names X c (.ref C)) (tk : Takes X W) (hno : Ctx.noOwn Γ = true) (hjs0 : ∀ j ∈ hk, j ∈ js) (hlast0 : js.contains (Γ.length - 1) = true) (hsub : SubOk X l C)
    (hm : X.mg c = some (.ref C)) (hil : Nat.ble (i + 1) Γ.length = true) (hik : hk.contains i = false)
    (hI : ∀ b Γ1, (I b = .nx Γ1 ∨ I b = .bk Γ1 ∨ I b = .ct Γ1) → Γ1[i]? = some .no)
    (hb : ∀ (W' : WX) (pn : List (Addr × Obj)) (xe : Value → Shared → Prop), Takes (X.tr pn xe) W' → PassesOwn (model X.prog X.w) X.A X.env xe → BS (X.tr pn xe) W' js Γ body mb I)
    (hh : ∀ (a : Addr) (oe : Obj) (d : Option Addr) (dx : Addr) (pn : List (Addr × Obj)) (z : Exn), Zc (.ref C) d oe → (∃ vs, oe.data = .fields vs) → PF z d dx → BS (X.suite a ((a, oe) :: pn)) W hk ((kept Γ js 0).set i (.d .exn (a, dx, z))) (b0 :: suite) (h z) I) :
    S1 X W hk Γ (.Try body [.ExceptHandler (some (.Name c np)) (some n) (b0 :: suite) pos'] [] [] pos) (tryA l c mb h) I :=
  ps_imp (ps_try_as (Wout := W) (c := .ref C) (i := i) (tb := fun W' => tS X.K X.mg W' js Γ mb I) (ts := fun a cls d => fun D σ H => ∃ z dx, (cls = .ref C ∧ PF z d dx) ∧ tS X.K X.mg W hk ((kept Γ js 0).set i (.d .exn (a, dx, z))) (h z) I D σ H) hs hf hN hi hln hn tk (fun W' pn xe t p => hb W' pn xe t p)
    (fun a oe cls d pn hz hv => ⟨fun pins s σ H D J ⟨z, dx, ⟨e1, e2⟩, q⟩ => by subst e1; exact (hh a oe d dx pn z hz hv e2).run pins s σ H D J q⟩)) fun D σ H ⟨E, F, h0, g, q⟩ => by
    have hjs := hjs0
    have hlast : Γ.length - 1 ∈ js := List.contains_iff_mem.mp hlast0
    have gd := g.sdn hno
    have hik' : i ∉ E.hk := by rw [h0]; exact fun z => by rw [List.contains_iff_mem.mpr z] at hik; cases hik
    refine ⟨⟨F, H, js, σ⟩, F, rfl, sg_data (Ext.refl g.e0.i) (fun _ _ => rfl) hno gd, ?_⟩
    have up : ∀ (Γ1 : Ctx) (σ' : L2.St) (F' H' : Hp), SG X.K X.mg ⟨F, H, js, σ⟩ Γ1 σ' F' H' → SG X.K X.mg E Γ1 σ' F' H' := fun Γ1 σ' F' H' s => by
      obtain ⟨e1, k1, fps, w⟩ := s
      refine ⟨g.e0.trans e1, fun i hi => (k1 i (hjs i (by rw [← h0]; exact hi))).trans (g.kp i hi), fps, w.at_, w.out, w.nd, w.sep, fun i a ha => ⟨(w.new i a ha).1, ?_⟩⟩
      cases eb : E.B a with
      | none => rfl
      | some o => have := g.e0.h _ _ eb; rw [show H a = none from (w.new i a ha).2] at this; cases this
    cases hmb : mb with
    | no => rw [hmb] at q; exact q
    | ok b =>
      rw [hmb] at q
      have q : outP X.K X.mg E D (I b) := q
      show outP X.K X.mg ⟨F, H, js, σ⟩ D (I b)
      cases ei : I b with
      | nx Γ1 => rw [ei] at q; exact fun σ' F' H' s => q σ' F' H' (up _ _ _ _ s)
      | bk Γ1 => rw [ei] at q; exact fun σ' F' H' s => q σ' F' H' (up _ _ _ _ s)
      | ct Γ1 => rw [ei] at q; exact fun σ' F' H' s => q σ' F' H' (up _ _ _ _ s)
      | rt r y => rw [ei] at q; exact fun v F' H' x rr => q v F' H' (g.e0.trans x) (rtr_pre g.e0.h rr)
      | rs t y o2 x2 => rw [ei] at q; exact fun v Γ1 σ' F' H' e0 s rr => q v Γ1 σ' F' H' e0 (up _ _ _ _ s) rr
    | ex z =>
      rw [hmb] at q
      intro cls d σ' F' H' x kp xz
      obtain ⟨Dz, m1, rfl, m2⟩ := id xz
      unfold tryA at q
      simp only at q
      cases eb : subs l z.c with
      | none => rw [eb] at q; exact q.elim
      | some b =>
        rw [eb] at q
        have hin : (z.c, b) ∈ l := lookup_in eb
        obtain ⟨D1, m3, m4⟩ := hsub _ _ hin
        rw [m1] at m3; cases m3
        refine ⟨b, m4, fun hb2 a _ => ?_, fun hb2 => ?_⟩
        · subst hb2
          have q : postS X.mg W E (if z.c = c then h z else .no) (fun b => outP X.K X.mg E D (I b)) := q
          by_cases hzc : z.c = c
          · rw [if_pos hzc] at q
            have eC : Dz = C := by rw [hzc, hm] at m1; cases m1; rfl
            subst eC
            obtain ⟨dx, hpf, hat⟩ : ∃ dx, PF z d dx ∧ z.at_ F' dx := by
              unfold PF Exn.at_
              cases hp : z.p with
              | n => rw [hp] at m2; exact ⟨0, m2, True.intro⟩
              | i n => rw [hp] at m2; obtain ⟨dx, e1, e2⟩ := m2; exact ⟨dx, e1, e2⟩
              | s n => rw [hp] at m2; obtain ⟨dx, e1, e2⟩ := m2; exact ⟨dx, e1, e2⟩
            refine ⟨z, dx, ⟨rfl, hpf⟩, E, F', h0, ?_, q.mono fun b qb => ?_⟩
            · have hno2 : Ctx.noOwn ((kept Γ js 0).set i (.d .exn (a, dx, z))) = true := by
                unfold Ctx.noOwn
                rw [List.all_eq_true]
                intro s hs
                rcases List.mem_or_eq_of_mem_set hs with h1 | h1
                · have := noOwn_kept (js := js) (n := 0) hno
                  unfold Ctx.noOwn at this
                  exact List.all_eq_true.mp this s h1
                · subst h1; rfl
              refine sg_data (g.e0.trans x) (fun j hj => ?_) hno2 fun j s e => ?_
              · rw [List.getElem?_set_ne (show i ≠ j from fun z => hik' (by rw [z]; exact hj))]
                exact (kp j (hjs j (by rw [← h0]; exact hj))).trans (g.kp j hj)
              · have hll : Γ.length ≤ σ'.length := by
                  obtain ⟨ov2, e2, _⟩ := gd (Γ.length - 1) _ (List.getElem?_eq_getElem (by have := Nat.le_of_ble_eq_true hil; omega))
                  have e3 := (kp (Γ.length - 1) hlast).trans e2
                  have := (List.getElem?_eq_some_iff.mp e3).1
                  omega
                have hil' : i < σ'.length := by have := Nat.le_of_ble_eq_true hil; omega
                by_cases hj : j = i
                · subst hj
                  have hkl : j < (kept Γ js 0).length := by
                    have := (List.getElem?_eq_some_iff.mp e).1
                    rwa [List.length_set] at this
                  rw [List.getElem?_set_self hkl] at e
                  cases e
                  exact ⟨some (.ref a), List.getElem?_set_self hil', .ref a, rfl, rfl, hat⟩
                · rw [List.getElem?_set_ne (Ne.symm hj)] at e
                  rw [List.getElem?_set_ne (Ne.symm hj)]
                  obtain ⟨u, h1, h2⟩ := kept_get e
                  obtain ⟨ov, e1, r⟩ := gd j u h1
                  rcases h2 with rfl | ⟨rfl, hjj⟩
                  · have hi : j < Γ.length := (List.getElem?_eq_some_iff.mp h1).1
                    exact ⟨_, List.getElem?_eq_getElem (by omega), True.intro⟩
                  · rw [Nat.zero_add] at hjj
                    exact ⟨ov, (kp j hjj).trans e1, sd_mono x.f r⟩
            · cases ei : I b with
              | nx Γ1 => rw [ei] at qb; exact fun σ' F' H' s => qb (σ'.set i none) F' H' (s.unset (hI b Γ1 (.inl ei)) hik')
              | bk Γ1 => rw [ei] at qb; exact fun σ' F' H' s => qb (σ'.set i none) F' H' (s.unset (hI b Γ1 (.inr (.inl ei))) hik')
              | ct Γ1 => rw [ei] at qb; exact fun σ' F' H' s => qb (σ'.set i none) F' H' (s.unset (hI b Γ1 (.inr (.inr ei))) hik')
              | rt r y => rw [ei] at qb; exact qb
              | rs t y o2 x2 => rw [ei] at qb; exact qb
          · rw [if_neg hzc] at q; exact q.elim
        · subst hb2
          exact q (.ref Dz) d σ' F' H' (g.e0.trans x) (fun i hi => (kp i (hjs i (by rw [← h0]; exact hi))).trans (g.kp i hi)) xz
end
end Gm
set_option Elab.async false
set_option linter.all false
set_option maxRecDepth 100000
set_option maxHeartbeats 4000000
namespace Gm
open PySem PySem.Spec PySem.W PySem.Calls PyProof.Rows
section
variable {prog : Program} {w : World} {A : Around} {E : Value → Shared → Prop} {s : Shared} {K : Frag} {x D : Addr} {ox : Obj} {od : Option Obj}
theorem findObj_dat {C : Addr} {name : Str} {a g : Value} (hc : (clsIn K C).isSome = true) (ha : findIn K (.ref C) name = some (some a)) (hg : specialIn K a "__get__" = some (some g)) (ht : takesIn K a = some true) : findObj K C od name = some (.bind g a) := by
  obtain ⟨cd, hc⟩ := Option.isSome_iff_exists.mp hc
  unfold findObj
  rw [hc, Option.bind_some, ha, Option.bind_some]
  simp [hg, ht]
theorem exc_class {Q : Option Value → Shared → Prop} (T : L2.ExcC K D) (X : K.In s.heap) (I : InstAt s.heap x ox D od) (h : Q (some (.ref D)) { s with toks := s.toks + 1 }) : wpAny (model prog w) A (getAttr? (.ref x) "__class__") Q E s := by
  have hf : findObj K D od "__class__" = some (.bind (.builtin "getset_descriptor.__get__") (.builtin "object.__class__")) := findObj_dat (by obtain ⟨cd, hc, _⟩ := any_some T.hd; rw [hc]; rfl) T.ha T.hn T.ht
  obtain ⟨hp, g, d, t, os⟩ := s
  have L0 := I.type (M := model prog w)
  have L1 := looks_findIn (M := model prog w) X T.hg
  have L2 := looks_findIn (M := model prog w) X T.hk
  have L3 := looks_find (M := model prog w) X I hf
  have sub : Looks (model prog w) hp (isInstance (.ref x) (.type "BaseException")) true := L0.andThen (looks_subIn X T.hs)
  have hx0 : (false && onTheHeap (Value.builtin "BaseException.__getattribute__")) = false := rfl
  have hx2 : (Value.builtin "BaseException.__getattribute__" == Value.builtin "object.__getattribute__") = false := by decide +kernel
  have hx1 : (onTheHeap (Value.ref D) && Value.builtin "BaseException.__getattribute__" == Value.builtin "object.__getattribute__") = false := by rw [hx2]; rfl
  unfold getAttr? getAttrBy? getAttrBy
  refine wpAny_bind (wpAny_mkText (wpAny_bind (wpAny_attempt (wpAny_holding (wpAny_bind (L0.at (wpAny_bind (L1.at ?_))))))))
  show wpAny _ _ (if (onTheHeap (Value.ref D) && Value.builtin "BaseException.__getattribute__" == Value.builtin "object.__getattribute__") = true then _ else _) _ _ _
  rw [hx1, if_neg Bool.false_ne_true]
  unfold getAttrByItsOwn hookBefore
  refine wpAny_bind ?_
  rw [if_pos (show onTheHeap (Value.ref D) = true from rfl)]
  refine L2.at ?_
  refine wpAny_bind (wpAny_attempt (wpAny_holding ?_))
  unfold callGetattribute
  rw [hx0, if_neg Bool.false_ne_true]
  unfold boundAndCalled
  rw [PySem.F.excAttr_ValueError.ga.bind (.ref x)]
  refine wpAny_bind (wpAny_pure ?_)
  show wpAny _ _ (call (.builtin "BaseException.__getattribute__") [.ref x, .str "__class__" t]) _ _ _
  refine wpAny_call (codeAny_call_builtin PySem.F.excAttr_ValueError.ga.plain PySem.F.entry_bexc_ga ?_)
  refine @check_slot (model prog w) _ _ ⟨hp, g, d, t + 1, os⟩ "BaseException.__getattribute__" "BaseException" "__getattribute__" (.ref x) [.str "__class__" t] [] _ (by decide +kernel) (by decide +kernel) sub (PySem.F.args_bexc_ga (.ref x) (.str "__class__" t)) ?_
  unfold Builtin.«object.__getattribute__»
  refine wpAny_bind (wpAny_of_eq (a := ((Value.ref x : Value), [Value.str "__class__" t])) (by first | rfl | (simp only [slotArgs]; rfl)) ?_)
  refine wpAny_bind (wpAny_pure (wpAny_bind (L0.at (wpAny_bind (L3.at ?_)))))
  show wpAny _ _ (holding [Value.builtin "object.__class__"] (call (.builtin "getset_descriptor.__get__") [.builtin "object.__class__", .ref x, .ref D]) >>= ret) _ _ _
  refine wpAny_bind (wpAny_holding (wpAny_call (class_get (s := ⟨hp, g, d, t + 1, os⟩) (ox := ox) (od := od) X I T.hm ?_)))
  refine wpAny_pure ?_
  show wpAny _ _ (handedOut (.ref D)) _ _ _
  rw [handedOut_of (v := .ref D) rfl]
  first
    | exact wpAny_pure (wpAny_pure h)
    | exact wpAny_pure h
    | exact wpAny_pure (wpAny_bind (wpAny_pure (wpAny_pure h)))
theorem kitx_e (T : L2.ExcC K D) : KitX K (.ref x) (.ref D) (fun h => InstAt h x ox D od) where
  ty := fun _ _ _ I => I.type
  it := fun _ _ X _ => by
    obtain ⟨cdD, hcD, _⟩ := any_some T.hd
    unfold clsIn at hcD
    split at hcD
    · rename_i c' d' cd' sl' ho
      intro A' Q' E' s' k q
      unfold isType loadHead
      exact wpAny_bind (wpAny_loadPart (k _ _ (X _ _ ho)) (wpAny_pure q))
    · cases hcD
  ne := fun h tp dd its n sl X htp => by
    obtain ⟨cdD, hcD, _⟩ := any_some T.hd
    refine Bool.eq_false_iff.mpr fun q => ?_
    have e : D = tp := Value.ref.inj (beq_iff_eq.mp q)
    subst e
    unfold clsIn at hcD
    split at hcD
    · rename_i c' d' cd' sl' ho
      have z := (X _ _ ho).symm.trans htp
      cases z
    · cases hcD
  ca := fun X I k => exc_class T X I k
end
open L2
/-- the caught exception stands so -/
theorem inst_of {X : Cx} {pins : List (Addr × Obj)} {σ : L2.St} {H F : Hp} {s : Shared} {a C dx : Addr} {oe : Obj} {d : Option Addr} {pn : List (Addr × Obj)} {z : Exn} (I : Inv (X.suite a ((a, oe) :: pn)) pins σ H s) (hz : Zc (.ref C) d oe) (hf : ∃ vs, oe.data = .fields vs) (hd : PF z d dx) (hs : Same F H) (hat : z.at_ F dx) : ∃ od, PySem.W.InstAt s.heap a oe C od := by
  obtain ⟨ha, _⟩ := I.pin (a, oe) (List.mem_append_left _ List.mem_cons_self)
  obtain ⟨vs, hv⟩ := hf
  have nc : PySem.W.notCls oe := by unfold PySem.W.notCls; rw [hv] <;> rfl
  have look : ∀ fs, F dx = some (.xd fs) → d = some dx → ∃ od, PySem.W.InstAt s.heap a oe C od := fun fs e hd2 => by
    have hx : ObjOk X.prog X.w H s.heap dx (.xd fs) := I.hok dx _ (hs _ _ e)
    obtain ⟨mA, hns, hr⟩ := hx
    obtain ⟨od, ho, hl⟩ := lookIn_ns hns
    exact ⟨some od, ha, hz.1, nc, by rw [hz.2, hd2]; exact ho⟩
  unfold PF at hd
  unfold Exn.at_ at hat
  cases hp : z.p with
  | n => rw [hp] at hd; exact ⟨none, ha, hz.1, nc, by rw [hz.2, show d = none from hd]; exact True.intro⟩
  | i n => rw [hp] at hd hat; exact look _ hat hd
  | s n => rw [hp] at hd hat; exact look _ hat hd
section
variable {X : Cx} {W : WX} {Γ : Ctx} {a C dx : Addr} {oe : Obj} {d : Option Addr} {pn : List (Addr × Obj)} {z : Exn} {e : Expr} {pos q q2 : Pos} {n f : Str}
/-- isinstance(e, T) of the caught exception -/
theorem e_isE {cv : Value} {c : V} {b : Bool} (T : ExcC X.K C) (hz : Zc (.ref C) d oe) (hf : ∃ vs, oe.data = .fields vs) (hd : PF z d dx) (he : EM (X.suite a ((a, oe) :: pn)) W Γ e .exn (.ok (a, dx, z))) (hg : Gl X "isinstance") (hm : X.mg "isinstance" = none)
    (hn : PE (X.suite a ((a, oe) :: pn)) (.Name n q2) (tC c)) (hcv : ∀ u, RelV c u → u = cv) (hk : PySem.W.kitOne X.K (.ref C) cv = some b) (hs : starEach [e, .Name n q2] X.env = (false, eval e X.env) :: starEach [.Name n q2] X.env := by rfl) :
    EM (X.suite a ((a, oe) :: pn)) W Γ (.Call (.Name "isinstance" q) [e, .Name n q2] [] pos) .bool (.ok b) :=
  pe_imp (pe_callB (X := X.suite a ((a, oe) :: pn)) (r := fun xs H Q => ∃ F, Same F H ∧ z.at_ F dx ∧ xs = [.ref a, c] ∧ Q (.bl b) H) (fun pins s σ H xs us Q I r h => by
      obtain ⟨F, sF, hat, rfl, q⟩ := h
      obtain ⟨od, J⟩ := inst_of I hz hf hd sF hat
      cases r with
      | cons rx rr =>
        cases rr with
        | cons rt rr =>
          cases rr
          cases rx
          have ec := hcv _ rt
          subst ec
          exact PySem.W.kia_one (kitx_e T) I.kIn J hk (fun z => nomatch z) fun tk => ⟨.bl b, H, I.kept (t' := tk) fun _ _ z => z, rfl, q⟩) hg hm (by decide +kernel) (pa_cons he (pa_cons hn pa_nil) hs) (he := hs)) fun σ H Q ⟨F, s, d', pp⟩ =>
    ⟨F, s, d', fun v F1 H1 e1 r1 => by
      have r1 : [v] = [V.ref a] ∧ z.at_ F1 dx := r1
      cases (List.cons.inj r1.1).1
      exact ⟨F1, e1.i, r1.2, rfl, pp (.bl b) F1 H1 e1 rfl⟩⟩
/-- e.f of the caught exception -/
theorem e_xfI (T : XfC X.K C) (hno : PySem.W.findIn X.K (.ref C) f = some none) (hz : Zc (.ref C) d oe) (hf : ∃ vs, oe.data = .fields vs) (hd : PF z d dx) (he : EM (X.suite a ((a, oe) :: pn)) W Γ e .exn (.ok (a, dx, z))) (hb : attributeBase e f X.env (eval e X.env) = eval e X.env := by rfl) :
    EM (X.suite a ((a, oe) :: pn)) W Γ (.Attribute e f pos) .int (payI f z) :=
  pe_imp (pe_xf T hno hz hf he hb) fun σ H Q ⟨F, s, d', pp⟩ => ⟨F, s, d', fun v F1 H1 e1 r1 => by
    have r1 : [v] = [V.ref a] ∧ z.at_ F1 dx := r1
    cases (List.cons.inj r1.1).1
    have hat := r1.2
    refine ⟨rfl, rfl, ?_⟩
    unfold payI at pp
    unfold Exn.at_ at hat
    unfold PF at hd
    cases hp : z.p with
    | n => rw [hp] at pp; exact pp.elim
    | s n => rw [hp] at pp; exact pp.elim
    | i n =>
      rw [hp] at pp hat hd
      have pp : post X.mg W σ (if z.f = f then Mx.ok n else .no) F H fun x => ∀ v F' H', Ext F H F' H' → rtr X.K X.mg (.d .int) x v H F' H' → Q v H' := pp
      by_cases hzf : z.f = f
      · rw [if_pos hzf] at pp
        exact ⟨dx, _, .int n, hd, e1.i _ _ hat, by rw [hzf]; simp, pp (.int n) F1 H1 e1 rfl⟩
      · rw [if_neg hzf] at pp; exact pp.elim⟩
theorem e_xfS (T : XfC X.K C) (hno : PySem.W.findIn X.K (.ref C) f = some none) (hz : Zc (.ref C) d oe) (hf : ∃ vs, oe.data = .fields vs) (hd : PF z d dx) (he : EM (X.suite a ((a, oe) :: pn)) W Γ e .exn (.ok (a, dx, z))) (hb : attributeBase e f X.env (eval e X.env) = eval e X.env := by rfl) :
    EM (X.suite a ((a, oe) :: pn)) W Γ (.Attribute e f pos) .str (payS f z) :=
  pe_imp (pe_xf T hno hz hf he hb) fun σ H Q ⟨F, s, d', pp⟩ => ⟨F, s, d', fun v F1 H1 e1 r1 => by
    have r1 : [v] = [V.ref a] ∧ z.at_ F1 dx := r1
    cases (List.cons.inj r1.1).1
    have hat := r1.2
    refine ⟨rfl, rfl, ?_⟩
    unfold payS at pp
    unfold Exn.at_ at hat
    unfold PF at hd
    cases hp : z.p with
    | n => rw [hp] at pp; exact pp.elim
    | i n => rw [hp] at pp; exact pp.elim
    | s n =>
      rw [hp] at pp hat hd
      have pp : post X.mg W σ (if z.f = f then Mx.ok n else .no) F H fun x => ∀ v F' H', Ext F H F' H' → rtr X.K X.mg (.d .str) x v H F' H' → Q v H' := pp
      by_cases hzf : z.f = f
      · rw [if_pos hzf] at pp
        exact ⟨dx, _, .str n, hd, e1.i _ _ hat, by rw [hzf]; simp, pp (.str n) F1 H1 e1 rfl⟩
      · rw [if_neg hzf] at pp; exact pp.elim⟩
end
/-- the facts as tests -/
def fXf (C : Str) : Fact := fun K => xfB K (He.ga K C)
theorem fXf_ok {C : Str} {K : PySem.W.Frag} (h : fXf C K = true) : XfC K (He.ga K C) := xfB_ok h
def fExcC (C : Str) : Fact := fun K => decide (PySem.W.findIn K (.ref (He.ga K C)) "__getattribute__" = some (some (.builtin "BaseException.__getattribute__"))) && (decide (PySem.W.findIn K (.ref (He.ga K C)) "__getattr__" = some none) &&
  (decide (PySem.W.subIn K (.ref (He.ga K C)) (.type "BaseException") = some true) && (PySem.W.hasDictIn K (He.ga K C) && (decide (PySem.W.findIn K (.ref (He.ga K C)) "__class__" = some (some (.builtin "object.__class__"))) &&
  (decide (PySem.W.specialIn K (.builtin "object.__class__") "__get__" = some (some (.builtin "getset_descriptor.__get__"))) && (decide (PySem.W.takesIn K (.builtin "object.__class__") = some true) && decide (PySem.W.mroIn K (He.ga K C) (.type "object") = some true)))))))
theorem fExcC_ok {C : Str} {K : PySem.W.Frag} (h : fExcC C K = true) : ExcC K (He.ga K C) := by
  unfold fExcC at h
  simp only [Bool.and_eq_true, decide_eq_true_eq] at h
  obtain ⟨h1, h2, h3, h4, h5, h6, h7, h8⟩ := h
  exact ⟨h1, h2, h3, h4, h5, h6, h7, h8⟩
def fKit (C D : Str) (b : Bool) : Fact := fun K => decide (PySem.W.kitOne K (.ref (He.ga K C)) (.ref (He.ga K D)) = some b)
def fKitB (C : Str) (D : String) (b : Bool) : Fact := fun K => decide (PySem.W.kitOne K (.ref (He.ga K C)) (.type D) = some b)
def fNoF (C f : Str) : Fact := fun K => decide (PySem.W.findIn K (.ref (He.ga K C)) f = some none)
end Gm
set_option Elab.async false
set_option linter.all false
set_option maxRecDepth 100000
set_option maxHeartbeats 4000000
namespace Gm
open PySem PySem.Spec L2
/-! ## tuple * int, any int -/
theorem tuple_mul1 (l : Addr) (items : Array Value) (n : Nat) (dd : Option Addr) (sl : Array (Option Value)) (u : Tok) :
    Meets (Builtin.«tuple.__mul__» ⟨[.ref l, .int 1 u], []⟩) (fun _ R s => s.heap.get? l = some { cls := .type "tuple", dict := dd, data := .seq items n, slots := sl } ∧ R (.ok (.ret (Value.ref l))) s) :=
  .of_wp fun prog w A R s h => by
    obtain ⟨hp, g, d, tk, os⟩ := s
    obtain ⟨hl, h⟩ := h
    have f1 := AutoSeq1.idx_int
    wp_walk using wpAny_loadPart' hl
    repeat (first
      | (refine wpAny_ite_false (decide_eq_false (by decide)) ?_; wp_walk using wpAny_loadPart' hl)
      | (refine wpAny_ite_true (decide_eq_true (by rw [show ((1 : Int) == 1) = true from rfl, Bool.or_true])) ?_; wp_walk using wpAny_loadPart' hl))
    all_goals exact ⟨_, rfl, h⟩
theorem tuple_mul0 (l : Addr) (items : Array Value) (n : Nat) (dd : Option Addr) (sl : Array (Option Value)) (x : Int) (u : Tok) (c0 : (decide (x < -(2 ^ 63)) || decide (x ≥ 2 ^ 63)) = false) (c1 : (items.isEmpty || x == 1) = false) (c2 : (decide (x ≤ 0) || items.isEmpty) = true) :
    Meets (Builtin.«tuple.__mul__» ⟨[.ref l, .int x u], []⟩) (fun _ R s => s.heap.get? l = some { cls := .type "tuple", dict := dd, data := .seq items n, slots := sl } ∧
      R (.ok (.ret (Value.ref s.heap.objs.size))) { s with heap := s.heap.push { cls := Value.type "tuple", data := Data.seq #[] }, toks := s.toks }) :=
  .of_wp fun prog w A R s h => by
    obtain ⟨hp, g, d, tk, os⟩ := s
    obtain ⟨hl, h⟩ := h
    have f1 := AutoSeq1.idx_int
    wp_walk using wpAny_loadPart' hl
    repeat (first
      | (refine wpAny_ite_false (decide_eq_false (by rw [c0]; exact Bool.false_ne_true)) ?_; wp_walk using wpAny_loadPart' hl)
      | (refine wpAny_ite_false (decide_eq_false (by rw [c1]; exact Bool.false_ne_true)) ?_; wp_walk using wpAny_loadPart' hl)
      | (refine wpAny_ite_true (decide_eq_true c2) ?_; wp_walk using wpAny_loadPart' hl))
    all_goals exact ⟨_, rfl, h⟩
def rRepA (K : PySem.W.Frag) : R2 := fun x y H Q => ∃ l k xs, x = .ref l ∧ y = .int k ∧ SqT K H l xs ∧ xs ≠ [] ∧ -1000 ≤ k ∧ k ≤ 1000 ∧ xs.length ≤ 1000 ∧ (k = 1 → Q (.ref l) H) ∧ (k ≠ 1 → ∀ p, H p = none → Q (.ref p) (upd H p (.tup (List.replicate k.toNat xs).flatten)))
theorem op_repA {X : Cx} : OpR X (binaryOp .Mult) (rRepA X.K) := by
  intro pins s σ H x y v u Q I rx ry h
  obtain ⟨l, k, xs, ex, ey, hT, hne, h0, h2, hz, q1, q2⟩ := h
  by_cases hk : 2 ≤ k
  · exact op_repT pins s σ H x y v u Q I rx ry ⟨l, k, xs, ex, ey, hT, hne, hk, h2, hz, q2 (by omega)⟩
  subst ex ey
  cases rx
  obtain ⟨t, rfl⟩ := ry
  obtain ⟨its, r, ⟨⟨cls, dd, data, sl⟩, ho, hc, n, hd⟩, hs⟩ := I.tuple hT
  simp only at hc hd
  subst hc hd
  have hle : its.length = xs.length := r.length.symm
  have hn : its ≠ [] := fun e => hne (by
    rw [e] at hle
    exact List.eq_nil_of_length_eq_zero hle.symm)
  have hi : its.toArray.isEmpty = false := by
    cases its with
    | nil => exact absurd rfl hn
    | cons a b => rfl
  by_cases h1 : k = 1
  · subst h1
    refine PySem.wpAny_binaryOp_repeat_ref (T := "tuple") (U := "int") (by decide) ⟨_, ho, rfl⟩ (fun s' => typeIs_int s' 1 t) noFill_tuple_mul F.fills_int_mul F.slot_int_rmul repeat_tuple F.slot_int_index.lookup
      (call_meets F.slot_int_rmul (typeIs_int s 1 t) F.entry_int_rmul (F.args_int_rmul_2 _ _) (int_rmul_tuple 1 t l its.toArray n dd sl)
        ⟨ho, rfl, ⟨_, ho, rfl⟩, call_meets F.slot_tuple_mul ⟨_, ho, rfl⟩ F.entry_tuple_mul (F.args_tuple_mul_2 _ _) (tuple_mul1 l its.toArray n dd sl t) ⟨ho, ?_⟩⟩)
    exact ⟨.ref l, H, I, rfl, q1 rfl⟩
  · have hk0 : k ≤ 0 := by omega
    have c0 : (decide (k < -(2 ^ 63)) || decide (k ≥ 2 ^ 63)) = false := by
      rw [decide_eq_false (by omega), decide_eq_false (by omega)] <;> rfl
    have c1 : (its.toArray.isEmpty || k == 1) = false := by
      rw [hi, Bool.false_or]
      exact beq_eq_false_iff_ne.mpr h1
    have c2 : (decide (k ≤ 0) || its.toArray.isEmpty) = true := by
      rw [decide_eq_true hk0, Bool.true_or]
    have e0 : (List.replicate k.toNat xs).flatten = [] := by
      rw [show k.toNat = 0 by omega]; rfl
    have q2' := q2 h1
    rw [e0] at q2'
    refine PySem.wpAny_binaryOp_repeat_ref (T := "tuple") (U := "int") (by decide) ⟨_, ho, rfl⟩ (fun s' => typeIs_int s' k t) noFill_tuple_mul F.fills_int_mul F.slot_int_rmul repeat_tuple F.slot_int_index.lookup
      (call_meets F.slot_int_rmul (typeIs_int s k t) F.entry_int_rmul (F.args_int_rmul_2 _ _) (int_rmul_tuple k t l its.toArray n dd sl)
        ⟨ho, rfl, ⟨_, ho, rfl⟩, call_meets F.slot_tuple_mul ⟨_, ho, rfl⟩ F.entry_tuple_mul (F.args_tuple_mul_2 _ _) (tuple_mul0 l its.toArray n dd sl k t c0 c1 c2) ⟨ho, ?_⟩⟩)
    refine ⟨.ref s.heap.objs.size, _, I.laid (t' := s.toks) (o := .tup []) (fun b ob q => Heap.get?_push_of_some _ q) (Nat.le_refl _) ?_, rfl, q2' _ (I.hok.fresh (Nat.le_refl _))⟩
    exact ⟨by rw [sizeLine_eq]; decide, [], .nil, PyProof.Rows.IsTup.new _ _⟩
theorem all2.repl {α : Type} {R : α → V → Prop} {xs : List α} {vs : List V} (h : all2 R xs vs) : ∀ n : Nat, all2 R (List.replicate n xs).flatten (List.replicate n vs).flatten
  | 0 => True.intro
  | n + 1 => by
    rw [List.replicate_succ, List.replicate_succ, List.flatten_cons, List.flatten_cons]
    exact h.app (all2.repl h n)
def repO {α : Type} (xs : List α) (k : Int) : Option (List α) := if xs ≠ [] ∧ -1000 ≤ k ∧ k ≤ 1000 ∧ xs.length ≤ 1000 then some (List.replicate k.toNat xs).flatten else none
section
variable {X : Cx} {W : WX} {Γ : Ctx} {a b c e : Expr} {pos p p2 q : Pos} {t : Ty} {F H : Hp}
theorem e_repT {m1 : Mx (List t.den)} {m2 : Mx Int} (ha : EM X W Γ a (.vtup t) m1) (hb : EM X W Γ b .int m2) : EM X W Γ (.BinOp a .Mult b pos) (.vtup t) (m1 >>= fun x => m2 >>= fun y => ofO (repO x y)) := e_bin (t1 := .vtup t) (t2 := .int) (r := .d (.vtup t)) (g := repO) op_repA (fun x y z e v w F H Q s r1 r2 k => by
  unfold repO at e
  by_cases h : x ≠ [] ∧ -1000 ≤ y ∧ y ≤ 1000 ∧ x.length ≤ 1000
  · rw [if_pos h] at e
    cases e
    obtain ⟨p, ws, e1, sq1, rr1⟩ := r1
    cases (List.cons.inj e1).1
    cases (List.cons.inj (show [w] = [V.int y] from r2)).1
    obtain ⟨h1, h2, h3, h4⟩ := h
    refine ⟨p, y, ws, rfl, rfl, sqT_same s sq1, fun e => ?_, h2, h3, by rw [← rr1.len]; exact h4, fun e => ?_, fun _ l nl => ?_⟩
    · subst e
      cases x with
      | nil => exact h1 rfl
      | cons _ _ => exact rr1.elim
    · subst e
      refine k (.ref p) F H (Ext.refl s) ⟨p, ws, rfl, sq1, ?_⟩
      rw [show (List.replicate (1 : Int).toNat x).flatten = x from by simp]
      exact rr1
    · have e2 := Ext.new (o := .tup (List.replicate y.toNat ws).flatten) s nl
      exact k (.ref l) _ _ e2 ⟨l, _, rfl, SqT.of upd_same, (rr1.repl y.toNat).imp fun y v z => rl_mono e2.f t y [v] z⟩
  · rw [if_neg h] at e; cases e) ha hb
theorem e_lenU {fs : Ty} {n : Nat} {j : Int} {q : Pos} {m : Mx fs.den} (hg : Gl X "len") (hm : X.mg "len" = none) (ha : EM X W Γ a (.tup fs) m) (hn : fs.ar = some n) (hj : (n : Int) = j) (hs : starEach [a] X.env = (false, eval a X.env) :: starEach [] X.env) : EM X W Γ (.Call (.Name "len" q) [a] [] pos) .int (m >>= fun _ => .ok j) :=
  pe_imp (pe_callB call_len_seq hg hm (by decide +kernel) (ea_one ha hs) (he := hs)) (args_of (ts := .tup fs) (r := .d .int) (k := fun _ => .ok j) fun x vs F H σ Q s r1 k => by
    subst hj
    obtain ⟨p, ws, rfl, sq, rr⟩ := r1
    exact ⟨p, ws, rfl, .inr (sqT_same s sq), k _ F H (Ext.refl s) (by show _ = _; rw [rl_ar hn rr])⟩)
end
/-! ## isinstance of an own instance -/
def fObjC (C : Str) : Fact := fun K => decide (PySem.W.findIn K (.ref (He.ga K C)) "__class__" = some (some (.builtin "object.__class__"))) && (decide (PySem.W.specialIn K (.builtin "object.__class__") "__get__" = some (some (.builtin "getset_descriptor.__get__"))) &&
  (decide (PySem.W.takesIn K (.builtin "object.__class__") = some true) && decide (PySem.W.mroIn K (He.ga K C) (.type "object") = some true)))
structure ObjC (K : PySem.W.Frag) (C : Addr) : Prop where
  ha : PySem.W.findIn K (.ref C) "__class__" = some (some (.builtin "object.__class__"))
  hn : PySem.W.specialIn K (.builtin "object.__class__") "__get__" = some (some (.builtin "getset_descriptor.__get__"))
  ht : PySem.W.takesIn K (.builtin "object.__class__") = some true
  hm : PySem.W.mroIn K C (.type "object") = some true
theorem fObjC_ok {C : Str} {K : PySem.W.Frag} (h : fObjC C K = true) : ObjC K (He.ga K C) := by
  unfold fObjC at h
  simp only [Bool.and_eq_true, decide_eq_true_eq] at h
  exact ⟨h.1, h.2.1, h.2.2.1, h.2.2.2⟩
theorem e_isiO {X : Cx} {W : WX} {Γ : Ctx} {a : Expr} {pos : Pos} {c n : Str} {ns : List Str} {fs : Ty} {C D : Addr} {q q2 : Pos} {m : Mx fs.den} {res : Bool} (hg : Gl X "isinstance") (hm : X.mg "isinstance" = none) (hc : X.mg c = some (.ref C)) (cl : Cls X.K C) (T : ObjC X.K C) (ha : EM X W Γ a (.ins c ns fs) m)
    (hn : PE X (.Name n q2) (tC (.ref D))) (hk : PySem.W.kitOne X.K (.ref C) (.ref D) = some res)
    (hs : starEach [a, .Name n q2] X.env = (false, eval a X.env) :: starEach [.Name n q2] X.env) : EM X W Γ (.Call (.Name "isinstance" q) [a, .Name n q2] [] pos) .bool (m >>= fun _ => .ok res) :=
  pe_imp (pe_callB call_isi hg hm (by decide +kernel) (pa_cons ha (pa_cons hn pa_nil) hs) (he := hs)) fun σ H Q ⟨F, s, d, p⟩ => ⟨F, s, d, p.bind.mono fun x px v F1 H1 e1 r1 => by
    obtain ⟨b, C', dx, ws, ev, mc, h1, hl, rr⟩ := id r1
    rw [hc] at mc; cases mc
    cases (List.cons.inj ev).1
    exact ⟨.ref b, .ref D, .ref C, .ref D, res, rfl, .own D, .base (.ins (e1.i _ _ h1) cl T.ha T.hn T.ht T.hm), hk, px _ F1 H1 e1 rfl⟩⟩
/-! ## a written part of a fixed tuple -/
theorem cutV_to (ws : List V) (k : Nat) : cutV ws none (some (k : Int)) = ws.take k := by
  unfold cutV
  rw [HT.sIx_none, HT.sIx_nat, List.drop_zero, Nat.sub_zero]
  by_cases h : k ≤ ws.length
  · rw [Nat.min_eq_left h]
  · rw [Nat.min_eq_right (by omega), List.take_length, List.take_of_length_le (by omega)]
theorem cutV_fr (ws : List V) (k : Nat) : cutV ws (some (k : Int)) none = ws.drop k := by
  unfold cutV
  rw [HT.sIx_none, HT.sIx_nat]
  by_cases h : k ≤ ws.length
  · rw [Nat.min_eq_left h, List.take_of_length_le (by rw [List.length_drop]; exact Nat.le_refl _)]
  · rw [Nat.min_eq_right (by omega), List.drop_of_length_le (by omega), List.drop_of_length_le (by omega)]; simp
theorem e_slU {X : Cx} {W : WX} {Γ : Ctx} {a : Expr} {pos p2 : Pos} {fs gs : Ty} {π : fs.den → gs.den} {l0 u0 : Option Int} {lo hi : Option Expr} {m1 : Mx fs.den} (ha : EM X W Γ a (.tup fs) m1) (hl : EP' X W Γ lo (.ok l0)) (hh : EP' X W Γ hi (.ok u0))
    (hP : ∀ (x : fs.den) (ws : List V) (F : Hp), rl X.K X.mg fs x ws F → rl X.K X.mg gs (π x) (cutV ws l0 u0) F) : EM X W Γ (.Subscript a (.Slice lo hi none p2) pos) (.tup gs) (m1 >>= fun x => .ok (π x)) :=
  e_cast (sl_of (t1 := .tup fs) (r := .d (.tup gs)) (k := fun x l u => if l = l0 ∧ u = u0 then .ok (π x) else .no) sl_tupA (fun x l u v F H σ Q s r1 k => by
    by_cases hc : l = l0 ∧ u = u0
    · rw [if_pos hc] at k
      obtain ⟨rfl, rfl⟩ := hc
      obtain ⟨p, ws, e, sq, rr⟩ := r1
      cases (List.cons.inj e).1
      refine ⟨p, ws, rfl, sqT_same s sq, fun hw => ?_, fun _ n nn => ?_⟩
      · refine k (.ref p) F H (Ext.refl s) ⟨p, ws, rfl, sq, ?_⟩
        have e1 : cutV ws l u = ws := by
          unfold cutV
          rw [hw.1, hw.2, List.drop_zero, Nat.sub_zero, List.take_length]
        have := hP x ws F rr
        rwa [e1] at this
      · have e2 := Ext.new (o := .tup (cutV ws l u)) s nn
        exact k (.ref n) _ _ e2 ⟨n, _, rfl, SqT.of upd_same, rl_mono e2.f gs (π x) _ (hP x ws F rr)⟩
    · rw [if_neg hc] at k; exact k.elim) ha hl hh) (by
      congr 1; funext x
      show (if l0 = l0 ∧ u0 = u0 then Mx.ok (π x) else .no) = _
      rw [if_pos ⟨rfl, rfl⟩])
/-! ## fixed tuples joined -/
theorem e_catU {X : Cx} {W : WX} {Γ : Ctx} {a b : Expr} {pos : Pos} {fs gs hs : Ty} {n k : Nat} {π : fs.den → gs.den → hs.den} {m1 : Mx fs.den} {m2 : Mx gs.den} (ha : EM X W Γ a (.tup fs) m1) (hb : EM X W Γ b (.tup gs) m2) (hn : fs.ar = some n) (hk : gs.ar = some k) (hl : Nat.ble (n + k) 1000 = true)
    (hP : ∀ (x : fs.den) (y : gs.den) (ws zs : List V) (F : Hp), rl X.K X.mg fs x ws F → rl X.K X.mg gs y zs F → rl X.K X.mg hs (π x y) (ws ++ zs) F) : EM X W Γ (.BinOp a .Add b pos) (.tup hs) (m1 >>= fun x => m2 >>= fun y => .ok (π x y)) :=
  e_cast (e_bin (t1 := .tup fs) (t2 := .tup gs) (r := .d (.tup hs)) (g := fun x y => some (π x y)) op_catA (fun x y z e v w F H Q s r1 r2 k' => by
    cases e
    obtain ⟨p, ws, e1, sq1, rr1⟩ := r1
    cases (List.cons.inj e1).1
    obtain ⟨q, zs, e2, sq2, rr2⟩ := r2
    cases (List.cons.inj e2).1
    have hz := hP x y ws zs F rr1 rr2
    have lw := rl_ar hn rr1
    have lz := rl_ar hk rr2
    have hle := Nat.le_of_ble_eq_true hl
    refine ⟨p, q, ws, zs, rfl, rfl, sqT_same s sq1, sqT_same s sq2, by rw [lw, lz]; exact Nat.le_trans hle (by decide), fun e => ?_, fun _ e => ?_, fun _ _ l nl => ?_⟩
    · subst e
      exact k' (.ref q) F H (Ext.refl s) ⟨q, zs, rfl, sq2, hz⟩
    · subst e
      rw [List.append_nil] at hz
      exact k' (.ref p) F H (Ext.refl s) ⟨p, ws, rfl, sq1, hz⟩
    · have e2 := Ext.new (o := .tup (ws ++ zs)) s nl
      exact k' (.ref l) _ _ e2 ⟨l, ws ++ zs, rfl, SqT.of upd_same, rl_mono e2.f hs _ _ hz⟩) ha hb) (by rfl)
end Gm
set_option Elab.async false
set_option linter.all false
set_option maxRecDepth 100000
set_option maxHeartbeats 4000000
namespace Gm
open PySem PySem.Spec L2
open PyProof.Rows (envOfC)
/-! ## a def whose first argument is handed over: it may change it -/
def spO (K : PySem.W.Frag) (mg : Str → Option Value) (o : Ow) (ts : Ty) (r : Rt) (h : o.ty.den → ts.den → Mx r.den) : Sp := fun vs H Q E => ∃ (F B : Hp) (x : o.ty.den) (y : ts.den) (v : V) (ws : List V) (fp : List Addr), vs = v :: ws ∧ Same F H ∧ Same B H ∧ ol K mg o x [v] F H fp ∧ fp.Nodup ∧ (∀ a ∈ fp, F a = none ∧ B a = none) ∧ rl K mg ts y ws F ∧ match h x y with
  | .ok z => ∀ v F' H', Ext F B F' H' → rtr K mg r z v B F' H' → Q v H'
  | .ex e => ∀ cls d F' H', Ext F B F' H' → xr mg e cls d F' → E cls d H'
  | .no => False
theorem sg_startO {K : PySem.W.Frag} {mg : Str → Option Value} {F B H : Hp} {o : Ow} {ts : Ty} {n : Nat} {x : o.ty.den} {y : ts.den} {v : V} {ws : List V} {fp : List Addr} {N : List Str} (hs : Same F H) (hB : Same B H) (ho : ol K mg o x [v] F H fp) (nd : fp.Nodup) (nw : ∀ a ∈ fp, F a = none ∧ B a = none) (ha : ts.args = some n) (r : rl K mg ts y ws F) :
    SG K mg ⟨F, B, [], L2.start N (v :: ws)⟩ (.o o x :: ctx0 ts y (N.length - (n + 1))) (L2.start N (v :: ws)) F H := by
  obtain ⟨h1, h2, h3⟩ := args_len ha r
  refine ⟨⟨Same.refl _, hB, hs, fun p _ q => q⟩, fun i hi => (nomatch hi), fun i => if i = 0 then fp else [], fun i s e => ?_, fun i e => ?_, fun i => ?_, fun i j hij a ha => ?_, fun i a ha => ?_⟩
  · cases i with
    | zero =>
      cases e
      exact ⟨some v, rfl, v, rfl, by rw [if_pos rfl]; exact ho⟩
    | succ i =>
      have e : (ctx0 ts y (N.length - (n + 1)))[i]? = some s := e
      rw [if_neg (Nat.succ_ne_zero i)]
      unfold ctx0 at e
      unfold L2.start
      by_cases hi : i < n
      · rw [List.getElem?_append_left (by rw [h2]; exact hi)] at e
        obtain ⟨u, e1, t, z, rfl, r'⟩ := h3 i s e
        exact ⟨some u, by rw [List.getElem?_append_left (by rw [List.length_map, List.length_cons, h1]; omega), List.getElem?_map, List.getElem?_cons_succ, e1]; rfl, rfl, u, rfl, r'⟩
      · rw [List.getElem?_append_right (by rw [h2]; omega), h2, List.getElem?_replicate] at e
        split at e
        · rename_i hlt
          cases e
          refine ⟨none, ?_, rfl⟩
          rw [List.getElem?_append_right (by rw [List.length_map, List.length_cons, h1]; omega), List.length_map, List.length_cons, h1, List.getElem?_replicate, if_pos (by omega)]
        · cases e
  · cases i with
    | zero => cases e
    | succ i => exact if_neg (Nat.succ_ne_zero i)
  · show (if i = 0 then fp else []).Nodup
    split
    · exact nd
    · exact List.nodup_nil
  · have ha : a ∈ (if i = 0 then fp else []) := ha
    show a ∉ (if j = 0 then fp else [])
    by_cases hi : i = 0
    · rw [if_neg (fun hj => hij (hi.trans hj.symm))]; exact fun z => nomatch z
    · rw [if_neg hi] at ha; cases ha
  · have ha : a ∈ (if i = 0 then fp else []) := ha
    by_cases hi : i = 0
    · rw [if_pos hi] at ha; exact nw a ha
    · rw [if_neg hi] at ha; cases ha
theorem fn_bodyO {P : Program} {w : World} {K : PySem.W.Frag} {mg : Str → Option Value} {base : Heap} {x qual : Str} {st : Stmt} {f : Addr} {fd : FuncData} {dvs : List V} {kws : List (Str × V)} {N ps : List Str} {k n : Nat} {o : Ow} {ts : Ty} {r : Rt} {h : o.ty.den → ts.den → Mx r.den} (F : FunD K x qual (defArgs st) (defBody st) (defScope st) dvs kws f fd) (S : FnScope N ps (defScope st)) (hp : ps.length = n + 1) (ha : ts.args = some n)
    (hb : ∀ (cdv : Value) (A : Around) (outer : List Env) (s : Shared) (H : Hp) (E : XK), Room k (A.deeper (envOfC qual (defScope st) s.heap.objs.size f cdv)) → Takes (cxOf (L2.CX P w) P w K mg base N qual (defScope st) f cdv A outer s H E) (fun cls d _ H => E cls d H) →
      PassesOwn (model P w) (A.deeper (envOfC qual (defScope st) s.heap.objs.size f cdv)) (envOfC qual (defScope st) s.heap.objs.size f cdv) (cxOf (L2.CX P w) P w K mg base N qual (defScope st) f cdv A outer s H E).xe →
      ∀ (x : o.ty.den) (y : ts.den), BS (cxOf (L2.CX P w) P w K mg base N qual (defScope st) f cdv A outer s H E) (fun cls d _ H => E cls d H) [] (.o o x :: ctx0 ts y (N.length - (n + 1))) (defBody st) (h x y) (fun z => .rt r z)) :
    FnOk P w K mg base (L2.CX P w) (k + 1) f fd ps (spO K mg o ts r h) := by
  refine F.ok S (fun vs H Q E hh => ?_) (fun cdv A outer s H vs Q E hr hh => ?_)
  · obtain ⟨G, B, x, y, v, ws, fp, rfl, hs, hB, ho, nd, nw, rr, _⟩ := hh
    rw [List.length_cons, (args_len ha rr).1, hp]
  · obtain ⟨G, B, x, y, v, ws, fp, rfl, hs, hB, ho, nd, nw, rr, q⟩ := hh
    refine ⟨_, hb cdv A outer s H E hr (takes_of rfl rfl rfl rfl) (passes_of rfl) x y, ⟨G, B, [], L2.start N (v :: ws)⟩, G, rfl, sg_startO hs hB ho nd nw ha rr, ?_⟩
    cases e : h x y with
    | no => rw [e] at q; exact q
    | ex z => rw [e] at q; exact fun cls d σ F' H' x _ r => q cls d F' H' x r
    | ok z => rw [e] at q; exact fun v F' H' x r => q v F' H' x r
section
variable {X : Cx} {W : WX} {Γ : Ctx} {e1 : Expr} {es : List Expr} {pos q : Pos} {x : Str} {f : Addr} {fd : FuncData} {ps : List Str} {k : Nat}
/-- f(fresh, ..): the first argument is handed over -/
theorem e_callO {o : Ow} {ts : Ty} {r : Rt} {h : o.ty.den → ts.den → Mx r.den} {mo : Mx o.ty.den} {ma : Mx ts.den} (Fn : FnOk X.prog X.w X.K X.mg X.base (L2.CX X.prog X.w) k f fd ps (spO X.K X.mg o ts r h)) (hr : Room k X.A) (hg : Gl X x) (hm : X.mg x = some (.ref f)) (hkp : PySem.W.keepIn X.K (.ref f) = true)
    (hb : Binds X.K fd ps []) (tk : Takes X W) (h1 : EO X W Γ e1 o mo) (ha : EA X W Γ es ts ma) (hdb : (x == ("__debug__" : Str)) = false) (hs : starEach (e1 :: es) X.env = (false, eval e1 X.env) :: starEach es X.env) (hpl : (backTo pos (starEach es X.env)).any (·.1) = false) :
    ER X W Γ (.Call (.Name x q) (e1 :: es) [] pos) r (mo >>= fun x => ma >>= fun y => h x y) :=
  pe_imp (pe_callSD Fn hr hg hm hkp hb .nil (fun σ => passAt tk σ) (pa_cons h1 ha hs) hdb hs hpl) fun σ H Q ⟨F, s, d, p⟩ => ⟨F, s, d, p.bind.mono fun x px v F1 H1 x1 r1 =>
    ⟨F1, x1.i, d.mono x1.f, post.ext x1 px.bind fun y py ws F2 H2 x2 r2 => by
      obtain ⟨fp, ro, nd, nw⟩ := id r1
      have cell : ∀ a ∈ fp, H1 a ≠ none := fun a ha z => by
        obtain ⟨u, e, _⟩ := ol_cell o x _ _ ro a ha
        rw [e] at z; cases z
      have hB : ∃ B : Hp, (∀ a, a ∈ fp → B a = none) ∧ ∀ a, a ∉ fp → B a = H2 a := by
        classical
        exact ⟨fun a => if a ∈ fp then none else H2 a, fun a ha => if_pos ha, fun a ha => if_neg ha⟩
      obtain ⟨B, b1, b2⟩ := hB
      have sB : Same B H2 := fun a u e => by
        by_cases ha : a ∈ fp
        · rw [b1 a ha] at e; cases e
        · rw [b2 a ha] at e; exact e
      have sHB : Same H B := fun a u e => by
        have ha : a ∉ fp := fun ha => by rw [(nw a ha).2] at e; cases e
        rw [b2 a ha]; exact (x1.trans x2).h _ _ e
      have ext : ∀ F' H', Ext F2 B F' H' → Ext F H F' H' := fun F' H' z => ⟨(x1.trans x2).f.trans z.f, sHB.trans z.h, z.i, fun p hp hf => z.n p (fun w => hp (sHB.free w)) ((x1.trans x2).n p hp hf)⟩
      refine ⟨F2, B, x, y, v, ws, fp, by simp, x2.i, sB, ol_frame x2.f o x [v] fp (fun a ha => ?_) ro, nd, fun a ha => ⟨x2.n a (cell a ha) (nw a ha).1, b1 a ha⟩, r2, ?_⟩
      · cases e : H1 a with
        | none => exact absurd e (cell a ha)
        | some u => exact x2.h _ _ e
      · cases hh : h x y with
        | no => rw [hh] at py; exact py
        | ex z => rw [hh] at py; exact fun cls d F' H' e r => py cls d F' H' (ext F' H' e) r
        | ok z => rw [hh] at py; exact fun v F' H' e r => py v F' H' (ext F' H' e) (rtr_pre sHB r)⟩⟩
end
end Gm
set_option Elab.async false
set_option linter.all false
set_option maxRecDepth 100000
set_option maxHeartbeats 4000000
namespace Gm
open PySem PySem.Spec L2
open PyProof.Rows (envOfC)
/-! ## the rest of a def's block, said by itself -/
/-- the statements of a def from the n-th on, over any call of it -/
def CutB (P : Program) (w : World) (K : PySem.W.Frag) (mg : Str → Option Value) (base : Heap) (N : List Str) (qual : Str) (st : Stmt) (f : Addr) (k : Nat) (hk : List Nat) (Γ : Ctx) (n : Nat) {β : Type} (m : Mx β) (I : β → Out) : Prop :=
  ∀ (cdv : Value) (A : Around) (outer : List Env) (s : Shared) (H : Hp) (E : XK), Room k (A.deeper (envOfC qual (defScope st) s.heap.objs.size f cdv)) → Takes (cxOf (L2.CX P w) P w K mg base N qual (defScope st) f cdv A outer s H E) (fun cls d _ H => E cls d H) →
      PassesOwn (model P w) (A.deeper (envOfC qual (defScope st) s.heap.objs.size f cdv)) (envOfC qual (defScope st) s.heap.objs.size f cdv) (cxOf (L2.CX P w) P w K mg base N qual (defScope st) f cdv A outer s H E).xe →
      BS (cxOf (L2.CX P w) P w K mg base N qual (defScope st) f cdv A outer s H E) (fun cls d _ H => E cls d H) hk Γ ((defBody st).drop n) m I
end Gm
set_option Elab.async false
set_option linter.all false
set_option maxRecDepth 100000
set_option maxHeartbeats 4000000
namespace Gm
open PySem PySem.Spec L2

/-! ## nested keys by their codes -/
def Ty.keyok : Ty → Bool
  | .int => true
  | .bool => true
  | .str => true
  | .non => true
  | .opt t => t.keyok
  | .tup fs => fs.keyok
  | .vtup t => t.keyok
  | .pr a b => a.keyok && b.keyok
  | .nl => true
  | _ => false
/-- one key, not None -/
def Ty.key1 : Ty → Bool
  | .int => true
  | .bool => true
  | .str => true
  | .tup _ => true
  | .vtup _ => true
  | _ => false
def Ty.keyinj : Ty → Bool
  | .int => true
  | .bool => true
  | .str => true
  | .non => true
  | .opt t => t.key1 && t.keyinj
  | .tup fs => fs.keyinj
  | .vtup t => t.key1 && t.keyinj
  | .pr a b => a.keyinj && b.keyinj
  | .nl => true
  | _ => false
theorem key1_of : ∀ {t : Ty}, t.key1 = true → ∀ x : t.den, ∃ k, t.nks x = [k] ∧ k ≠ .none
  | .int, _, i => ⟨_, rfl, fun z => nomatch z⟩
  | .bool, _, b => ⟨_, rfl, fun z => nomatch z⟩
  | .str, _, s => ⟨_, rfl, fun z => nomatch z⟩
  | .tup fs, _, x => ⟨_, rfl, fun z => nomatch z⟩
  | .vtup t, _, x => ⟨_, rfl, fun z => nomatch z⟩
  | .non, h, _ => nomatch h
  | .scr, h, _ => nomatch h
  | .tpl, h, _ => nomatch h
  | .exn, h, _ => nomatch h
  | .opt _, h, _ => nomatch h
  | .hl _, h, _ => nomatch h
  | .list _, h, _ => nomatch h
  | .pr _ _, h, _ => nomatch h
  | .nl, h, _ => nomatch h
  | .sum _ _, h, _ => nomatch h
  | .ins _ _ _, h, _ => nomatch h
  | .dic _ _, h, _ => nomatch h
  | .dicN _ _ _ _, h, _ => nomatch h
theorem nks_inj : ∀ (t : Ty), t.keyinj = true → ∀ (x y : t.den) (r r' : List NestedKey), t.nks x ++ r = t.nks y ++ r' → x = y ∧ r = r' := by
  intro t
  induction t with
  | int => intro _ x y r r' e; have e := List.cons.inj e; exact ⟨NestedKey.num.inj e.1, e.2⟩
  | bool =>
    intro _ x y r r' e
    have e := List.cons.inj e
    refine ⟨?_, e.2⟩
    have e1 := NestedKey.num.inj e.1
    cases x <;> cases y <;> simp_all
  | str => intro _ x y r r' e; have e := List.cons.inj e; exact ⟨NestedKey.text.inj e.1, e.2⟩
  | non => intro _ x y r r' e; have e := List.cons.inj e; exact ⟨rfl, e.2⟩
  | opt t ih =>
    intro h x y r r' e
    have h' := (Bool.and_eq_true _ _).mp (show (t.key1 && t.keyinj) = true from h)
    cases x with
    | none => cases y with
      | none => exact ⟨rfl, (List.cons.inj e).2⟩
      | some b =>
        obtain ⟨k, hk, hn⟩ := key1_of h'.1 b
        have e : NestedKey.none :: r = t.nks b ++ r' := e
        rw [hk] at e
        exact absurd (List.cons.inj e).1.symm hn
    | some a => cases y with
      | none =>
        obtain ⟨k, hk, hn⟩ := key1_of h'.1 a
        have e : t.nks a ++ r = NestedKey.none :: r' := e
        rw [hk] at e
        exact absurd (List.cons.inj e).1 hn
      | some b => obtain ⟨e1, e2⟩ := ih h'.2 a b r r' e; exact ⟨congrArg some e1, e2⟩
  | tup fs ih =>
    intro h x y r r' e
    have e := List.cons.inj e
    have e1 : fs.nks x = fs.nks y := NestedKey.tup.inj e.1
    exact ⟨(ih h x y [] [] (by rw [List.append_nil, List.append_nil]; exact e1)).1, e.2⟩
  | vtup t ih =>
    intro h x y r r' e
    have h' := (Bool.and_eq_true _ _).mp (show (t.key1 && t.keyinj) = true from h)
    have e := List.cons.inj e
    have e1 : x.flatMap t.nks = y.flatMap t.nks := NestedKey.tup.inj e.1
    refine ⟨?_, e.2⟩
    have : ∀ (x y : List t.den), x.flatMap t.nks = y.flatMap t.nks → x = y := by
      intro x
      induction x with
      | nil =>
        intro y e
        cases y with
        | nil => rfl
        | cons b y =>
          obtain ⟨k, hk, _⟩ := key1_of h'.1 b
          rw [List.flatMap_cons, hk] at e
          cases e
      | cons a x ihx =>
        intro y e
        cases y with
        | nil =>
          obtain ⟨k, hk, _⟩ := key1_of h'.1 a
          rw [List.flatMap_cons, hk] at e
          cases e
        | cons b y =>
          rw [List.flatMap_cons, List.flatMap_cons] at e
          obtain ⟨e1, e2⟩ := ih h'.2 a b _ _ e
          rw [e1, ihx y e2]
    exact this x y e1
  | pr a b iha ihb =>
    intro h x y r r' e
    have h' := (Bool.and_eq_true _ _).mp (show (a.keyinj && b.keyinj) = true from h)
    obtain ⟨x1, x2⟩ := x
    obtain ⟨y1, y2⟩ := y
    have e : (a.nks x1 ++ b.nks x2) ++ r = (a.nks y1 ++ b.nks y2) ++ r' := e
    rw [List.append_assoc, List.append_assoc] at e
    obtain ⟨e1, e2⟩ := iha h'.1 x1 y1 _ _ e
    obtain ⟨e3, e4⟩ := ihb h'.2 x2 y2 _ _ e2
    exact ⟨by rw [e1, e3], e4⟩
  | nl => intro _ x y r r' e; exact ⟨rfl, e⟩
  | scr => intro h; cases h
  | tpl => intro h; cases h
  | exn => intro h; cases h
  | hl _ _ => intro h; cases h
  | list _ _ => intro h; cases h
  | sum _ _ _ _ => intro h; cases h
  | ins _ _ _ _ => intro h; cases h
  | dic _ _ _ _ => intro h; cases h
  | dicN _ _ _ _ _ _ => intro h; cases h
theorem depthAll_app : ∀ (a b : List NestedKey), NestedKey.depthAll (a ++ b) ≤ max (NestedKey.depthAll a) (NestedKey.depthAll b)
  | [], b => by
    rw [List.nil_append]; exact Nat.le_max_right _ _
  | k :: a, b => by
    have := depthAll_app a b
    rw [List.cons_append, NestedKey.depthAll, NestedKey.depthAll]
    omega
theorem nks_depth : ∀ (t : Ty) (x : t.den), NestedKey.depthAll (t.nks x) ≤ t.depth := by
  intro t
  induction t with
  | int => intro x; exact Nat.le_of_eq rfl
  | bool => intro x; exact Nat.le_of_eq rfl
  | str => intro x; exact Nat.le_of_eq rfl
  | non => intro x; exact Nat.le_of_eq rfl
  | opt t ih =>
    intro x
    cases x with
    | none => exact Nat.zero_le _
    | some y => exact ih y
  | tup fs ih =>
    intro x
    have := ih x
    show max (NestedKey.depthAll (fs.nks x) + 1) 0 ≤ fs.depth + 1
    omega
  | vtup t ih =>
    intro x
    have h : ∀ xs : List t.den, NestedKey.depthAll (xs.flatMap t.nks) ≤ t.depth := by
      intro xs
      induction xs with
      | nil => exact Nat.zero_le _
      | cons a xs ihx =>
        rw [List.flatMap_cons]
        have h1 := depthAll_app (t.nks a) (xs.flatMap t.nks)
        have h2 := ih a
        omega
    have := h x
    show max (NestedKey.depthAll (x.flatMap t.nks) + 1) 0 ≤ t.depth + 1
    omega
  | pr a b iha ihb =>
    intro x
    have h1 := depthAll_app (a.nks x.1) (b.nks x.2)
    have h2 := iha x.1
    have h3 := ihb x.2
    show NestedKey.depthAll (a.nks x.1 ++ b.nks x.2) ≤ a.depth + b.depth
    omega
  | nl => intro x; exact Nat.zero_le _
  | _ => intros; exact Nat.zero_le _
theorem nestedAll_app {h : Heap} : ∀ {a b : List NestedKey} {us ws : List Value}, NestedAll h a us → NestedAll h b ws → NestedAll h (a ++ b) (us ++ ws)
  | _, _, _, _, .nil, y => y
  | _, _, _, _, .cons x r, y => .cons x (nestedAll_app r y)
section
variable {X : Cx} {pins : List (Addr × Obj)} {σ : L2.St} {F H : Hp} {s : Shared} {mg : Str → Option Value}
theorem nested_of (I : Inv X pins σ H s) (hs : Same F H) : ∀ (t : Ty), t.keyok = true → ∀ (x : t.den) (vs : List V) (us : List Value), rl X.K mg t x vs F → Vals vs us → NestedAll s.heap (t.nks x) us := by
  have sq : ∀ {a : Addr} {ws : List V} {us : List Value} {ks : List NestedKey}, SqT X.K F a ws → Vals [V.ref a] us → (∀ its, Vals ws its → NestedAll s.heap ks its) → NestedAll s.heap [.tup ks] us := by
    intro a ws us ks st rv h
    cases rv with
    | cons r rr =>
      cases rr
      cases (show _ = Value.ref a from r)
      obtain ⟨its, rw', p, _⟩ := I.tuple (sqT_same hs st)
      obtain ⟨ob, h1, h2, n, h3⟩ := p
      exact .cons (.tup h1 h2 h3 (by simpa using h its rw')) .nil
  intro t
  induction t with
  | int =>
    intro _ x vs us r rv
    cases (show vs = _ from r)
    cases rv with
    | cons r rr => cases rr; obtain ⟨t, rfl⟩ := r; exact .cons (.int x t) .nil
  | bool =>
    intro _ x vs us r rv
    cases (show vs = _ from r)
    cases rv with
    | cons r rr => cases rr; cases r; exact .cons (.bool rfl) .nil
  | str =>
    intro _ x vs us r rv
    cases (show vs = _ from r)
    cases rv with
    | cons r rr => cases rr; obtain ⟨t, rfl⟩ := r; exact .cons (.text x t) .nil
  | non =>
    intro _ x vs us r rv
    cases (show vs = _ from r)
    cases rv with
    | cons r rr => cases rr; cases r; exact .cons .none .nil
  | opt t ih =>
    intro h x vs us r rv
    cases x with
    | none =>
      cases (show vs = _ from r)
      cases rv with
      | cons r rr => cases rr; cases r; exact .cons .none .nil
    | some y => exact ih h y vs us r.2 rv
  | tup fs ih =>
    intro h x vs us r rv
    obtain ⟨a, ws, e, st, r⟩ := r
    subst e
    exact sq st rv fun its q => ih h x ws its r q
  | vtup t ih =>
    intro h x vs us r rv
    obtain ⟨a, ws, e, st, r⟩ := r
    subst e
    refine sq st rv fun its q => ?_
    have : ∀ {xs : List t.den} {ws : List V} {its : List Value}, all2 (fun x w => rl X.K mg t x [w] F) xs ws → Vals ws its → NestedAll s.heap (xs.flatMap t.nks) its := by
      intro xs
      induction xs with
      | nil =>
        intro ws its r q
        cases ws with
        | nil => cases q; exact .nil
        | cons _ _ => exact r.elim
      | cons x xs ihx =>
        intro ws its r q
        cases ws with
        | nil => exact r.elim
        | cons w ws =>
          cases q with
          | cons q1 q2 =>
            rw [List.flatMap_cons]
            exact nestedAll_app (us := [_]) (ih h x [w] [_] r.1 (.cons q1 .nil)) (ihx r.2 q2)
    exact this r q
  | pr a b iha ihb =>
    intro h x vs us r rv
    have h' := (Bool.and_eq_true _ _).mp (show (a.keyok && b.keyok) = true from h)
    obtain ⟨v, w, e, r1, r2⟩ := r
    subst e
    cases rv with
    | cons q1 q2 => exact nestedAll_app (us := [_]) (iha h'.1 x.1 [v] [_] r1 (.cons q1 .nil)) (ihb h'.2 x.2 w _ r2 q2)
  | nl =>
    intro _ x vs us r rv
    cases (show vs = _ from r)
    cases rv
    exact .nil
  | scr => intro h; cases h
  | tpl => intro h; cases h
  | exn => intro h; cases h
  | hl _ _ => intro h; cases h
  | list _ _ => intro h; cases h
  | sum _ _ _ _ => intro h; cases h
  | ins _ _ _ _ => intro h; cases h
  | dic _ _ _ _ => intro h; cases h
  | dicN _ _ _ _ _ _ => intro h; cases h
end
def Ty.isTup : Ty → Bool
  | .tup _ => true
  | .vtup _ => true
  | _ => false
/-- a code whose things may be nested keys -/
def Ty.kyN (k : Ty) : Bool := ((k.keyok && k.keyinj) && (decide (k.depth ≤ 8) && k.isTup))
structure KyN (k : Ty) : Prop where
  inj : ∀ x y : k.den, k.nk x = k.nk y → x = y
  ref : ∀ {K : PySem.W.Frag} {mg : Str → Option Value} {F : Hp} {x : k.den} {v : V}, rl K mg k x [v] F → ∃ b, v = .ref b
  nk : ∀ {X : Cx} {F H : Hp} {x : k.den} {b : Addr}, Same F H → rl X.K X.mg k x [.ref b] F → NK X H (k.nk x) b
theorem kyN_of {k : Ty} (h : k.kyN = true) : KyN k := by
  have h : ((k.keyok && k.keyinj) && (decide (k.depth ≤ 8) && k.isTup)) = true := h
  simp only [Bool.and_eq_true, decide_eq_true_eq] at h
  obtain ⟨⟨h1, h2⟩, h3, h4⟩ := h
  have one : ∀ x : k.den, k.nks x = [k.nk x] := by
    intro x
    cases k with
    | tup fs => rfl
    | vtup t => rfl
    | _ => cases h4
  refine ⟨fun x y e => (nks_inj k h2 x y [] [] (by rw [one, one, e])).1, fun {K mg F x v} r => ?_, fun {X F H x b} hs r pins σ s I => ⟨?_, ?_⟩⟩
  · cases k with
    | tup fs => obtain ⟨a, ws, e, _⟩ := r; exact ⟨a, (List.cons.inj e).1⟩
    | vtup t => obtain ⟨a, ws, e, _⟩ := r; exact ⟨a, (List.cons.inj e).1⟩
    | _ => cases h4
  · have := nested_of I hs k h1 x _ [.ref b] r (.cons rfl .nil)
    rw [one] at this
    cases this with
    | cons a _ => exact a
  · have := nks_depth k x
    rw [one] at this
    have e : NestedKey.depthAll [k.nk x] = max (k.nk x).depth 0 := rfl
    rw [e] at this
    omega
/-! ## entries -/
section
variable {α β : Type} [DecidableEq α] {f : α → NestedKey} {Rk : α → Addr → Prop} {R : β → V → Prop}
theorem allN.len {α β : Type} {f : α → NestedKey} {Rk : α → Addr → Prop} {R : β → V → Prop} : ∀ {xs : List (α × β)} {kvs : List NE}, allN f Rk R xs kvs → xs.length = kvs.length
  | [], [], _ => rfl
  | _ :: _, _ :: _, ⟨_, c⟩ => congrArg (· + 1) (allN.len c)
  | [], _ :: _, z => z.elim
  | _ :: _, [], z => z.elim
theorem allN.keys {α β : Type} {f : α → NestedKey} {Rk : α → Addr → Prop} {R : β → V → Prop} {P : NestedKey → Addr → Prop} (h : ∀ x b, Rk x b → P (f x) b) : ∀ {xs : List (α × β)} {kvs : List NE}, allN f Rk R xs kvs → ∀ p ∈ kvs, P p.1 p.2.1
  | [], [], _, _, m => nomatch m
  | p :: _, e :: _, ⟨⟨a, b, _⟩, d⟩, q, m => by
    rcases List.mem_cons.mp m with rfl | m
    · rw [a]; exact h _ _ b
    · exact allN.keys h d q m
  | [], _ :: _, z, _, _ => z.elim
  | _ :: _, [], z, _, _ => z.elim
theorem getN_pos {e : NE} {r : List NE} {k : NestedKey} (h : e.1 = k) : getN (e :: r) k = some e.2.2 := by simp [getN, List.find?_cons, h]
theorem getN_neg {e : NE} {r : List NE} {k : NestedKey} (h : ¬ e.1 = k) : getN (e :: r) k = getN r k := by simp [getN, List.find?_cons, h]
theorem allN.val (hf : ∀ a b, f a = f b → a = b) (x : α) : ∀ {xs : List (α × β)} {kvs : List NE}, allN f Rk R xs kvs → (dget xs x = none ∧ getN kvs (f x) = none) ∨ ∃ y v, dget xs x = some y ∧ getN kvs (f x) = some v ∧ R y v
  | [], [], _ => .inl ⟨rfl, rfl⟩
  | p :: xs, q :: kvs, ⟨⟨a, _, b⟩, c⟩ => by
    by_cases h : p.1 = x
    · have hq : q.1 = f x := by rw [a, h]
      exact .inr ⟨p.2, q.2.2, dget_pos h, getN_pos hq, b⟩
    · have hq : ¬ q.1 = f x := fun z => h (hf _ _ (a.symm.trans z))
      rw [dget_neg h, getN_neg hq]
      exact allN.val hf x c
  | [], _ :: _, z => z.elim
  | _ :: _, [], z => z.elim
theorem allN.any (hf : ∀ a b, f a = f b → a = b) (x : α) : ∀ {xs : List (α × β)} {kvs : List NE}, allN f Rk R xs kvs → (kvs.any fun e => decide (e.1 = f x)) = xs.any fun p => decide (p.1 = x)
  | [], [], _ => rfl
  | p :: xs, q :: kvs, ⟨⟨a, _⟩, c⟩ => by
    rw [List.any_cons, List.any_cons, allN.any hf x c, a, decide_eq_decide.mpr ⟨fun z => hf _ _ z, fun z => congrArg f z⟩]
  | [], _ :: _, z => z.elim
  | _ :: _, [], z => z.elim
theorem allN.app {α β : Type} {f : α → NestedKey} {Rk : α → Addr → Prop} {R : β → V → Prop} : ∀ {xs ys : List (α × β)} {kvs ls : List NE}, allN f Rk R xs kvs → allN f Rk R ys ls → allN f Rk R (xs ++ ys) (kvs ++ ls)
  | [], _, [], _, _, h => h
  | _ :: _, _, _ :: _, _, ⟨a, b⟩, h => ⟨a, allN.app b h⟩
  | [], _, _ :: _, _, z, _ => z.elim
  | _ :: _, _, [], _, z, _ => z.elim
theorem allN.set (hf : ∀ a b, f a = f b → a = b) (x : α) {y : β} {v : V} (r : R y v) : ∀ {xs : List (α × β)} {kvs : List NE}, allN f Rk R xs kvs → allN f Rk R (xs.map fun p => if p.1 = x then (p.1, y) else p) (kvs.map fun e => if e.1 = f x then (e.1, e.2.1, v) else e)
  | [], [], _ => True.intro
  | p :: xs, q :: kvs, ⟨⟨a, b, b'⟩, c⟩ => by
    rw [List.map_cons, List.map_cons]
    refine ⟨?_, allN.set hf x r c⟩
    by_cases h : p.1 = x
    · have hq : q.1 = f x := by rw [a, h]
      rw [if_pos h, if_pos hq]; exact ⟨a, b, r⟩
    · have hq : ¬ q.1 = f x := fun z => h (hf _ _ (a.symm.trans z))
      rw [if_neg h, if_neg hq]; exact ⟨a, b, b'⟩
  | [], _ :: _, z => z.elim
  | _ :: _, [], z => z.elim
theorem allN.put (hf : ∀ a b, f a = f b → a = b) (x : α) {b : Addr} (rb : Rk x b) {y : β} {v : V} (r : R y v) {xs : List (α × β)} {kvs : List NE} (h : allN f Rk R xs kvs) : allN f Rk R (dput xs x y) (putN kvs (f x) b v) := by
  unfold dput putN
  rw [allN.any hf x h]
  split
  · exact allN.set hf x r h
  · exact allN.app h ⟨⟨rfl, rb, r⟩, True.intro⟩
end
/-! ## reading nested dicts -/
section
variable {X : Cx} {o i e : Expr} {pos apos cpos : Pos} {td ty tx : TE}
def tNGet (X : Cx) (td ty : TE) : TE := fun σ H Q => td σ H fun x H1 => ty σ H1 fun y H2 => ∃ a b kvs k v, x = .ref a ∧ y = .ref b ∧ Rd H2 a (dnO X.prog X.w a kvs) ∧ (∀ p ∈ kvs, NK X H2 p.1 p.2.1) ∧ NK X H2 k b ∧ getN kvs k = some v ∧ Q v H2
def tNIn (X : Cx) (g : Bool → Bool) (ty td : TE) : TE := fun σ H Q => ty σ H fun y H1 => td σ H1 fun x H2 => ∃ a b kvs k, x = .ref a ∧ y = .ref b ∧ Rd H2 a (dnO X.prog X.w a kvs) ∧ (∀ p ∈ kvs, NK X H2 p.1 p.2.1) ∧ NK X H2 k b ∧ Q (.bl (g (getN kvs k).isSome)) H2
def tNGet2 (X : Cx) (td ty tx : TE) : TE := fun σ H Q => td σ H fun x H1 => ∃ a kvs, x = .ref a ∧ Rd H1 a (dnO X.prog X.w a kvs) ∧ ty σ H1 fun y H2 => tx σ H2 fun z H3 => ∃ b k kvs', y = .ref b ∧ Rd H3 a (dnO X.prog X.w a kvs') ∧ (∀ p ∈ kvs', NK X H3 p.1 p.2.1) ∧ NK X H3 k b ∧ Q ((getN kvs' k).getD z) H3
theorem pe_nget (hu : X.A.units + 64 < cLine) (ho : PE X o td) (hi : PE X i ty) (hs : NoSl i) : PE X (.Subscript o i pos) (tNGet X td ty) := by
  refine ⟨fun pins s σ H Q I h => ?_⟩
  refine subD_of PySem.F.slot_dict_getitem.lookup hs (thn (ho.run pins s σ H _ I h) fun u s1 ⟨x, H1, I1, rx, q1⟩ => thn (hi.run pins s1 σ H1 _ I1 q1) fun iv s2 ⟨y, H2, I2, ry, a, b, kvs, k, v, ex, ey, e1, e2, e3, e4, q2⟩ => ?_)
  subst ex ey
  cases (show u = Value.ref a from rx)
  cases (show iv = Value.ref b from ry)
  exact ⟨dn_typeIs I2 e1, n_getItem hu I2 e1 e2 e3 e4 fun w' s3 I3 rw' => ⟨v, H2, I3, rw', q2⟩⟩
theorem pc_nin (hu : X.A.units + 64 < cLine) (hi : PE X i ty) (ho : PE X o td) : PC X .In i o (tNIn X id ty td) := by
  refine ⟨fun pins s σ H Q I h => ?_⟩
  refine thn (hi.run pins s σ H _ I h) fun iv s1 ⟨y, H1, I1, ry, q1⟩ => thn (ho.run pins s1 σ H1 _ I1 q1) fun u s2 ⟨x, H2, I2, rx, a, b, kvs, k, ex, ey, e1, e2, e3, q2⟩ => ?_
  subst ex ey
  cases (show u = Value.ref a from rx)
  cases (show iv = Value.ref b from ry)
  exact n_in hu I2 e1 e2 e3 fun s3 I3 => ⟨.bl (getN kvs k).isSome, H2, I3, rfl, q2⟩
theorem pc_nnotin (hu : X.A.units + 64 < cLine) (hi : PE X i ty) (ho : PE X o td) : PC X .NotIn i o (tNIn X not ty td) := by
  refine ⟨fun pins s σ H Q I h => ?_⟩
  refine thn (hi.run pins s σ H _ I h) fun iv s1 ⟨y, H1, I1, ry, q1⟩ => thn (ho.run pins s1 σ H1 _ I1 q1) fun u s2 ⟨x, H2, I2, rx, a, b, kvs, k, ex, ey, e1, e2, e3, q2⟩ => ?_
  subst ex ey
  cases (show u = Value.ref a from rx)
  cases (show iv = Value.ref b from ry)
  exact n_notIn hu I2 e1 e2 e3 fun s3 I3 => ⟨.bl (!(getN kvs k).isSome), H2, I3, rfl, q2⟩
theorem pe_nget2 {f : Expr} (hu : X.A.units + 64 < cLine) (ho : PE X o td) (he : PE X e ty) (hf : PE X f tx) (m : M2 X o "get" apos e f cpos) : PE X (.Call (.Attribute o "get" apos) [e, f] [] cpos) (tNGet2 X td ty tx) := by
  refine ⟨fun pins s σ H Q I h => ?_⟩
  refine wpAny_Call_method m.base m.few m.line PySem.F.plainAttrs_dict PySem.F.slot_dict_get PySem.F.type_dict_get (thn (ho.run pins s σ H _ I h) fun u s1 ⟨x, H1, I1, rx, a, kvs, ex, d, q1⟩ => ?_)
  subst ex
  cases (show u = Value.ref a from rx)
  refine ⟨dn_typeIs I1 d, fun b q => ?_, ?_⟩
  · cases q
    obtain ⟨_, _, _, _, ob, _, _, h1, h2, _⟩ := dn_at I1 d
    exact ⟨ob, h1, h2.2.1⟩
  rw [m.trees]
  refine Calls.callWith_builtin rfl (Calls.evalArgs_plain (Calls.spliced_cons (thn (he.run pins s1 σ H1 _ I1 q1) fun iv s2 ⟨y, H2, I2, ry, q2⟩ =>
    Calls.spliced_cons (thn (hf.run pins s2 σ H2 _ I2 q2) fun fv s3 ⟨z, H3, I3, rz, b, k, kvs', ey, e1, e2, e3, q3⟩ => Calls.spliced_nil ?_))))
  subst ey
  cases (show iv = Value.ref b from ry)
  exact n_get2 hu I3 e1 e2 e3 rz fun w' s4 I4 rw' => ⟨_, H3, I4, rw', q3⟩
end
section
variable {X : Cx} {W : WX} {hk : List Nat} {Γ Γv Γi : Ctx} {st : Stmt} {rest : List Stmt} {a b c e : Expr} {pos p p2 apos cpos : Pos} {t t1 k : Ty} {β : Type} {I : β → Out}
/-- the entries over a heap, as a reading wants them -/
theorem allN.nks {F H : Hp} (hk : KyN k) (hs : Same F H) {xs : List (k.den × t.den)} {kvs : List NE} {R : t.den → V → Prop} (r : allN k.nk (fun x b => rl X.K X.mg k x [.ref b] F) R xs kvs) : ∀ q ∈ kvs, NK X H q.1 q.2.1 :=
  allN.keys (P := fun n b => NK X H n b) (fun x b q => hk.nk hs q) r
theorem e_nget [DecidableEq k.den] {m1 : Mx (List (k.den × t.den))} {m2 : Mx k.den} (hk : k.kyN = true) (hu : X.A.units + 64 < cLine) (ha : EM X W Γ a (.dicN X.prog X.w k t) m1) (hb : EM X W Γ b k m2) (hs : NoSl b) : EM X W Γ (.Subscript a b pos) t (m1 >>= fun d => m2 >>= fun x => ofO (dget d x)) :=
  have hk := kyN_of hk
  pe_imp (pe_nget hu ha hb hs) fun σ H Q ⟨F, s, d, q⟩ => ⟨F, s, d, q.bind.mono fun x px v F1 H1 e1 r1 => ⟨F1, e1.i, d.mono e1.f, post.ext e1 px.bind fun y py w F2 H2 e2 r2 => by
    obtain ⟨l, kvs, e, g, rr⟩ := r1
    cases (List.cons.inj e).1
    obtain ⟨bb, rfl⟩ := hk.ref r2
    have rr2 := rr.imp (fun y b z => rl_mono e2.f k y [.ref b] z) (fun y w z => rl_mono e2.f t y [w] z)
    rcases rr2.val hk.inj y with ⟨n1, n2⟩ | ⟨z, u, n1, n2, r⟩
    · rw [n1] at py; exact py.elim
    · rw [n1] at py
      exact ⟨l, bb, kvs, k.nk y, u, rfl, rfl, .inl (e2.i _ _ (e2.f _ _ g)), rr2.nks hk e2.i, hk.nk e2.i r2, n2, py u F2 H2 (e1.trans e2) r⟩⟩⟩
theorem c_nIn [DecidableEq k.den] {m1 : Mx k.den} {m2 : Mx (List (k.den × t.den))} (hk : k.kyN = true) (hu : X.A.units + 64 < cLine) (ha : EM X W Γ a k m1) (hb : EM X W Γ b (.dicN X.prog X.w k t) m2) : EC X W Γ .In a b (m1 >>= fun x => m2 >>= fun d => .ok (dget d x).isSome) :=
  have hk := kyN_of hk
  pc_imp (pc_nin hu ha hb) fun σ H Q ⟨F, s, d, q⟩ => ⟨F, s, d, q.bind.mono fun x px v F1 H1 e1 r1 => ⟨F1, e1.i, d.mono e1.f, post.ext e1 px.bind fun y py w F2 H2 e2 r2 => by
    obtain ⟨l, kvs, e, g, rr⟩ := r2
    cases (List.cons.inj e).1
    obtain ⟨bb, rfl⟩ := hk.ref r1
    refine ⟨l, bb, kvs, k.nk x, rfl, rfl, .inl (e2.i _ _ g), rr.nks hk e2.i, hk.nk e2.i (rl_mono e2.f k x _ r1), ?_⟩
    rcases rr.val hk.inj x with ⟨n1, n2⟩ | ⟨z, u, n1, n2, r⟩
    · rw [n1] at py; rw [n2]; exact py _ F2 H2 (e1.trans e2) rfl
    · rw [n1] at py; rw [n2]; exact py _ F2 H2 (e1.trans e2) rfl⟩⟩
theorem c_nNin [DecidableEq k.den] {m1 : Mx k.den} {m2 : Mx (List (k.den × t.den))} (hk : k.kyN = true) (hu : X.A.units + 64 < cLine) (ha : EM X W Γ a k m1) (hb : EM X W Γ b (.dicN X.prog X.w k t) m2) : EC X W Γ .NotIn a b (m1 >>= fun x => m2 >>= fun d => .ok (!(dget d x).isSome)) :=
  have hk := kyN_of hk
  pc_imp (pc_nnotin hu ha hb) fun σ H Q ⟨F, s, d, q⟩ => ⟨F, s, d, q.bind.mono fun x px v F1 H1 e1 r1 => ⟨F1, e1.i, d.mono e1.f, post.ext e1 px.bind fun y py w F2 H2 e2 r2 => by
    obtain ⟨l, kvs, e, g, rr⟩ := r2
    cases (List.cons.inj e).1
    obtain ⟨bb, rfl⟩ := hk.ref r1
    refine ⟨l, bb, kvs, k.nk x, rfl, rfl, .inl (e2.i _ _ g), rr.nks hk e2.i, hk.nk e2.i (rl_mono e2.f k x _ r1), ?_⟩
    rcases rr.val hk.inj x with ⟨n1, n2⟩ | ⟨z, u, n1, n2, r⟩
    · rw [n1] at py; rw [n2]; exact py _ F2 H2 (e1.trans e2) rfl
    · rw [n1] at py; rw [n2]; exact py _ F2 H2 (e1.trans e2) rfl⟩⟩
/-- d.get(x, y) -/
theorem e_ngetD [DecidableEq k.den] {m1 : Mx (List (k.den × t.den))} {m2 : Mx k.den} {m3 : Mx t.den} (hk : k.kyN = true) (hu : X.A.units + 64 < cLine) (ha : EM X W Γ a (.dicN X.prog X.w k t) m1) (hb : EM X W Γ b k m2) (hc : EM X W Γ c t m3) (hm : M2 X a "get" apos b c cpos) :
    EM X W Γ (.Call (.Attribute a "get" apos) [b, c] [] cpos) t (m1 >>= fun d => m2 >>= fun x => m3 >>= fun y => .ok ((dget d x).getD y)) :=
  have hk := kyN_of hk
  pe_imp (pe_nget2 hu ha hb hc hm) fun σ H Q ⟨F, s, d, q⟩ => ⟨F, s, d, q.bind.mono fun x px v F1 H1 e1 r1 => by
    obtain ⟨l, kvs, e, g, rr⟩ := r1
    cases (List.cons.inj e).1
    refine ⟨l, kvs, rfl, .inl (e1.i _ _ g), F1, e1.i, d.mono e1.f, post.ext e1 px.bind fun y py w F2 H2 e2 r2 => ⟨F2, e2.i, d.mono (e1.f.trans e2.f), post.ext (e1.trans e2) py.bind fun z pz u F3 H3 e3 r3 => ?_⟩⟩
    obtain ⟨bb, rfl⟩ := hk.ref r2
    have g3 : F3 l = some (dnO X.prog X.w l kvs) := e3.f _ _ (e2.f _ _ g)
    have rr3 := rr.imp (fun y b z => rl_mono (e2.f.trans e3.f) k y [.ref b] z) (fun y w z => rl_mono (e2.f.trans e3.f) t y [w] z)
    refine ⟨bb, k.nk y, kvs, rfl, .inl (e3.i _ _ g3), rr3.nks hk e3.i, hk.nk e3.i (rl_mono e3.f k y _ r2), ?_⟩
    rcases rr3.val hk.inj y with ⟨n1, n2⟩ | ⟨z', u', n1, n2, r⟩
    · rw [n1] at pz; rw [n2]; exact pz u F3 H3 ((e1.trans e2).trans e3) r3
    · rw [n1] at pz; rw [n2]; exact pz u' F3 H3 ((e1.trans e2).trans e3) r⟩
/-- {} -/
theorem e_nnil {o : Ow} : EO X W Γ (.Dict [] [] pos) (.dicN X.prog X.w k o) (.ok []) := ⟨fun pins s σ H Q J ⟨F, hs, d, q⟩ => by
  have np : H s.heap.objs.size = none := J.hok.fresh (Nat.le_refl _)
  refine wpAny_Dict_empty ⟨.ref s.heap.objs.size, _, J.laid (a := s.heap.objs.size) (o := dnO X.prog X.w s.heap.objs.size []) (t' := s.toks) (fun _ _ q => Heap.get?_push_of_some _ q) (Nat.le_refl _) (dn_ok ?_), rfl, q (.ref s.heap.objs.size) F _ (Ext.cell hs np) ⟨[s.heap.objs.size], ⟨_, [], [], rfl, rfl, upd_same, True.intro⟩, by simp, fun a ha => by rw [List.mem_singleton.mp ha]; exact ⟨hs.free np, np⟩⟩⟩
  exact ⟨Nat.zero_le _, beq_eq_false_iff_ne.mpr (Ne.symm (Nat.ne_of_lt J.big)), [], .nil, _, #[], 0, Heap.get?_push_size _ rfl, ⟨rfl, rfl, rfl⟩, rfl, rfl, List.nodup_nil⟩⟩
end
end Gm
set_option Elab.async false
set_option linter.all false
set_option maxRecDepth 100000
set_option maxHeartbeats 4000000
namespace Gm
open PySem PySem.Spec L2

/-! ## an owned thing within an owned thing -/
def SubAt (K : PySem.W.Frag) (mg : Str → Option Value) (o : Ow) (o' : Ow) (y : o'.ty.den) (put : o'.ty.den → o.ty.den) (F H : Hp) (v : V) (fp : List Addr) (u : V) : Prop :=
  ∃ fa fb : List Addr, (∀ a ∈ fa, a ∈ fp) ∧ (∀ a ∈ fb, a ∈ fp) ∧ (∀ a ∈ fa, a ∉ fb) ∧ fb.Nodup ∧ ol K mg o' y [u] F H fb ∧
    ∀ (F' H' : Hp) (y' : o'.ty.den) (fb' : List Addr), Same F F' → (∀ a ∈ fa, H' a = H a) → ol K mg o' y' [u] F' H' fb' → fb'.Nodup → (∀ a ∈ fb', a ∉ fa) → ∃ fp', fp'.Nodup ∧ (∀ a ∈ fp', a ∈ fa ∨ a ∈ fb') ∧ ol K mg o (put y') [v] F' H' fp'
/-- the o in the n-th place of a row -/
inductive FlO : (fs : Ow) → Nat → (o : Ow) → (fs.ty.den → o.ty.den) → (fs.ty.den → o.ty.den → fs.ty.den) → Prop
  | hd {a b : Ow} : FlO (.pr a b) 0 a (fun x => x.1) (fun x z => (z, x.2))
  | tl {a b o : Ow} {n : Nat} {π : b.ty.den → o.ty.den} {up : b.ty.den → o.ty.den → b.ty.den} (h : FlO b n o π up) : FlO (.pr a b) (n + 1) o (fun x => π x.2) (fun x z => (x.1, up x.2 z))
section
variable {K : PySem.W.Frag} {mg : Str → Option Value} {F H F' H' : Hp} {o o' : Ow} {x : o.ty.den} {v u : V}
theorem SubAt.refl {fp : List Addr} (nd : fp.Nodup) (h : ol K mg o x [v] F H fp) : SubAt K mg o o x id F H v fp v := ⟨[], fp, fun _ z => (nomatch z), fun _ z => z, fun _ z => (nomatch z), nd, h, fun F' H' y' fb' _ _ h' nd' _ => ⟨fb', nd', fun _ z => .inr z, h'⟩⟩
theorem FlO.split {fs : Ow} {n : Nat} {π : fs.ty.den → o.ty.den} {up : fs.ty.den → o.ty.den → fs.ty.den} (h : FlO fs n o π up) : ∀ {y : fs.ty.den} {ws : List V} {fp : List Addr}, ol K mg fs y ws F H fp → ∃ w f1 f2 f3, ws[n]? = some w ∧ fp = f1 ++ (f2 ++ f3) ∧ ol K mg o (π y) [w] F H f2 ∧
    ∀ (F' H' : Hp) (z : o.ty.den) (w' : V) (f2' : List Addr), Same F F' → (∀ a, a ∈ f1 ∨ a ∈ f3 → H' a = H a) → ol K mg o z [w'] F' H' f2' → ol K mg fs (up y z) (ws.set n w') F' H' (f1 ++ (f2' ++ f3)) := by
  induction h with
  | hd =>
    intro y ws fp q
    obtain ⟨w, r, f1, f2, rfl, rfl, h1, h2⟩ := q
    exact ⟨w, [], f1, f2, rfl, rfl, h1, fun F' H' z w' f2' hs hH hz => ⟨w', r, f2', f2, rfl, rfl, hz, ol_frame hs _ _ _ _ (fun a ha => hH a (.inr ha)) h2⟩⟩
  | tl h ih =>
    intro y ws fp q
    obtain ⟨w, r, f1, f2, rfl, rfl, h1, h2⟩ := q
    obtain ⟨w2, g1, g2, g3, e1, rfl, e3, e4⟩ := ih h2
    refine ⟨w2, f1 ++ g1, g2, g3, e1, by rw [List.append_assoc], e3, fun F' H' z w' f2' hs hH hz => ?_⟩
    have := e4 F' H' z w' f2' hs (fun a ha => hH a (ha.imp_left fun z => List.mem_append_right _ z)) hz
    exact ⟨w, _, f1, _, rfl, by rw [List.append_assoc], ol_frame hs _ _ _ _ (fun a ha => hH a (.inl (List.mem_append_left _ ha))) h1, this⟩
theorem nd_app3 {f1 f2 f3 : List Addr} (h : (f1 ++ (f2 ++ f3)).Nodup) : f1.Nodup ∧ f2.Nodup ∧ f3.Nodup ∧ (∀ a ∈ f1, a ∉ f2) ∧ (∀ a ∈ f1, a ∉ f3) ∧ ∀ a ∈ f2, a ∉ f3 := by
  rw [List.nodup_append, List.nodup_append] at h
  obtain ⟨h1, ⟨h2, h3, h4⟩, h5⟩ := h
  exact ⟨h1, h2, h3, fun a ha hb => h5 a ha a (List.mem_append_left _ hb) rfl, fun a ha hb => h5 a ha a (List.mem_append_right _ hb) rfl, fun a ha hb => h4 a ha a hb rfl⟩
theorem app3_nd {f1 f2 f3 : List Addr} (h1 : f1.Nodup) (h2 : f2.Nodup) (h3 : f3.Nodup) (a1 : ∀ a ∈ f1, a ∉ f2) (a2 : ∀ a ∈ f1, a ∉ f3) (a3 : ∀ a ∈ f2, a ∉ f3) : (f1 ++ (f2 ++ f3)).Nodup := by
  rw [List.nodup_append, List.nodup_append]
  refine ⟨h1, ⟨h2, h3, fun a ha b hb e => a3 a ha (e ▸ hb)⟩, fun a ha b hb e => ?_⟩
  subst e
  rcases List.mem_append.mp hb with z | z
  · exact a1 a ha z
  · exact a2 a ha z
/-- a field -/
theorem SubAt.fld {c : Str} {ns : List Str} {fs : Ow} {y : fs.ty.den} {put : fs.ty.den → o.ty.den} {fp : List Addr} {n : Nat} {π : fs.ty.den → o'.ty.den} {up : fs.ty.den → o'.ty.den → fs.ty.den}
    (S : SubAt K mg o (.ins c ns fs) y put F H v fp u) (hf : FlO fs n o' π up) : ∃ q C dx ws w, u = .ref q ∧ mg c = some (.ref C) ∧ H q = some (.ins C dx (ns.zip ws)) ∧ ns.length = ws.length ∧ ws[n]? = some w ∧ SubAt K mg o o' (π y) (fun z => put (up y z)) F H v fp w := by
  obtain ⟨fa, fb, s1, s2, s3, s4, oi, rb⟩ := S
  obtain ⟨q, C, dx, ws, fp2, e1, rfl, e3, hq, e5, e6, e7⟩ := oi
  cases (List.cons.inj e1).1
  obtain ⟨w, f1, f2, f3, hw, rfl, g3, g4⟩ := hf.split e7
  refine ⟨q, C, dx, ws, w, rfl, e3, hq, e6, hw, ?_⟩
  have nq := List.nodup_cons.mp s4
  have ndx := List.nodup_cons.mp nq.2
  obtain ⟨n1, n2, n3, n4, n5, n6⟩ := nd_app3 ndx.2
  refine ⟨fa ++ (q :: dx :: (f1 ++ f3)), f2, fun a ha => ?_, fun a ha => s2 a (by simp [ha]), fun a ha hb => ?_, n2, g3, fun F' H' y' fb' hs hH hy nd' hd => ?_⟩
  · rcases List.mem_append.mp ha with z | z
    · exact s1 a z
    · refine s2 a ?_
      simp only [List.mem_cons, List.mem_append] at z ⊢
      rcases z with z | z | z | z
      · exact .inl z
      · exact .inr (.inl z)
      · exact .inr (.inr (.inl z))
      · exact .inr (.inr (.inr (.inr z)))
  · rcases List.mem_append.mp ha with z | z
    · exact s3 a z (by simp [hb])
    · simp only [List.mem_cons, List.mem_append] at z
      rcases z with rfl | rfl | z | z
      · exact nq.1 (by simp [hb])
      · exact ndx.1 (by simp [hb])
      · exact n4 a z hb
      · exact n6 a hb z
  · have hin : ∀ a, a ∈ q :: dx :: (f1 ++ f3) → H' a = H a := fun a ha => hH a (List.mem_append_right _ ha)
    have hdis : ∀ a, a ∈ q :: dx :: (f1 ++ f3) → a ∉ fb' := fun a ha hb => hd a hb (List.mem_append_right _ ha)
    have o1 := g4 F' H' y' w fb' hs (fun a ha => hin a (by simp only [List.mem_cons, List.mem_append]; exact .inr (.inr ha))) hy
    have es : ws.set n w = ws := by
      obtain ⟨hn, e⟩ := List.getElem?_eq_some_iff.mp hw
      rw [← e]; exact List.set_getElem_self hn
    rw [es] at o1
    have ndn : (f1 ++ (fb' ++ f3)).Nodup := app3_nd n1 nd' n3 (fun a ha hb => hdis a (by simp [ha]) hb) n5 (fun a ha hb => hdis a (by simp [hb]) ha)
    have ndd : (dx :: (f1 ++ (fb' ++ f3))).Nodup := by
      refine List.nodup_cons.mpr ⟨fun z => ?_, ndn⟩
      simp only [List.mem_append] at z
      rcases z with z | z | z
      · exact ndx.1 (by simp [z])
      · exact hdis dx (by simp) z
      · exact ndx.1 (by simp [z])
    have ndq : (q :: dx :: (f1 ++ (fb' ++ f3))).Nodup := by
      refine List.nodup_cons.mpr ⟨fun z => ?_, ndd⟩
      simp only [List.mem_cons, List.mem_append] at z
      rcases z with z | z | z | z
      · exact nq.1 (by simp [z])
      · exact nq.1 (by simp [z])
      · exact hdis q (by simp) z
      · exact nq.1 (by simp [z])
    obtain ⟨fp', m1, m2, m3⟩ := rb F' H' (up y y') (q :: dx :: (f1 ++ (fb' ++ f3))) hs (fun a ha => hH a (List.mem_append_left _ ha))
      ⟨q, C, dx, ws, _, rfl, rfl, e3, (hin q (by simp)).trans hq, (hin dx (by simp)).trans e5, e6, o1⟩ ndq (fun a ha hb => by
        simp only [List.mem_cons, List.mem_append] at ha
        rcases ha with rfl | rfl | ha | ha | ha
        · exact s3 _ hb (by simp)
        · exact s3 _ hb (by simp)
        · exact s3 _ hb (by simp [ha])
        · exact hd a ha (List.mem_append_left _ hb)
        · exact s3 _ hb (by simp [ha]))
    refine ⟨fp', m1, fun a ha => ?_, m3⟩
    rcases m2 a ha with z | z
    · exact .inl (List.mem_append_left _ z)
    · simp only [List.mem_cons, List.mem_append] at z ⊢
      rcases z with z | z | z | z | z
      · exact .inl (.inr (.inl z))
      · exact .inl (.inr (.inr (.inl z)))
      · exact .inl (.inr (.inr (.inr (.inl z))))
      · exact .inr z
      · exact .inl (.inr (.inr (.inr (.inr z))))
/-! ## the entry of a dict -/
def dset {α β : Type} [DecidableEq α] : List (α × β) → α → β → List (α × β)
  | [], _, _ => []
  | p :: r, x, y => if p.1 = x then (p.1, y) :: r else p :: dset r x y
theorem allM.split {α β : Type} [DecidableEq α] {f : α → NestedKey} {Rk : α → Addr → Prop} {R : β → V → List Addr → Prop} (hf : ∀ a b, f a = f b → a = b) (x : α) : ∀ {xs : List (α × β)} {kvs : List NE} {gs : List (List Addr)} {y : β}, allM f Rk R xs kvs gs → dget xs x = some y →
    ∃ v g1 g2 g3, getN kvs (f x) = some v ∧ gs.flatten = g1 ++ (g2 ++ g3) ∧ R y v g2 ∧ ∀ (Rk' : α → Addr → Prop) (R' : β → V → List Addr → Prop) (y' : β) (g2' : List Addr), (∀ a b, Rk a b → Rk' a b) → (∀ z w g, (∀ a ∈ g, a ∈ g1 ∨ a ∈ g3) → R z w g → R' z w g) → R' y' v g2' →
      ∃ gs', allM f Rk' R' (dset xs x y') kvs gs' ∧ gs'.flatten = g1 ++ (g2' ++ g3)
  | [], _, _, _, _, e => nomatch e
  | p :: xs, q :: kvs, g :: gs, y, ⟨⟨a, b, c⟩, d⟩, e => by
    by_cases h : p.1 = x
    · have hq : q.1 = f x := by rw [a, h]
      rw [dget_pos h] at e
      cases e
      refine ⟨q.2.2, [], g, gs.flatten, getN_pos hq, rfl, c, fun Rk' R' y' g2' hk hR hy => ⟨g2' :: gs, ?_, rfl⟩⟩
      have es : dset (p :: xs) x y' = (p.1, y') :: xs := if_pos h
      rw [es]
      exact ⟨⟨a, hk _ _ b, hy⟩, d.imp (fun x b z => hk _ _ z) fun z w g m r => hR z w g (fun a ha => .inr (List.mem_flatten.mpr ⟨g, m, ha⟩)) r⟩
    · have hq : ¬ q.1 = f x := fun z => h (hf _ _ (a.symm.trans z))
      rw [dget_neg h] at e
      obtain ⟨v, g1, g2, g3, i1, i2, i3, i4⟩ := allM.split hf x d e
      refine ⟨v, g ++ g1, g2, g3, by rw [getN_neg hq]; exact i1, by rw [List.flatten_cons, i2, List.append_assoc], i3, fun Rk' R' y' g2' hk hR hy => ?_⟩
      obtain ⟨gs', j1, j2⟩ := i4 Rk' R' y' g2' hk (fun z w g' hg r => hR z w g' (fun a ha => (hg a ha).imp_left fun z => List.mem_append_right _ z) r) hy
      refine ⟨g :: gs', ?_, by rw [List.flatten_cons, j2, List.append_assoc]⟩
      have es : dset (p :: xs) x y' = p :: dset xs x y' := if_neg h
      rw [es]
      exact ⟨⟨a, hk _ _ b, hR _ _ _ (fun a ha => .inl (List.mem_append_left _ ha)) c⟩, j1⟩
  | _ :: _, [], _, _, z, _ => z.elim
  | _ :: _, _ :: _, [], _, z, _ => z.elim
/-- an entry's thing -/
theorem SubAt.nget {P : Program} {w : World} {k : Ty} [DecidableEq k.den] {d : List (k.den × o'.ty.den)} {xk : k.den} {y : o'.ty.den} {put : List (k.den × o'.ty.den) → o.ty.den} {fp : List Addr} (hk : KyN k) (S : SubAt K mg o (.dicN P w k o') d put F H v fp u) (hy : dget d xk = some y) :
    ∃ q kvs z, u = .ref q ∧ H q = some (dnO P w q kvs) ∧ (∀ e ∈ kvs, ∃ x, e.1 = k.nk x ∧ rl K mg k x [.ref e.2.1] F) ∧ getN kvs (k.nk xk) = some z ∧ SubAt K mg o o' y (fun z => put (dset d xk z)) F H v fp z := by
  obtain ⟨fa, fb, s1, s2, s3, s4, oi, rb⟩ := S
  obtain ⟨q, kvs, fps', e1, rfl, e3, am⟩ := oi
  cases (List.cons.inj e1).1
  obtain ⟨z, g1, g2, g3, i1, i2, i3, i4⟩ := am.split hk.inj xk hy
  have an := am.two (Sk := fun x b => rl K mg k x [.ref b] F) (S := fun _ _ => True) (fun _ _ z => z) (fun _ _ _ _ _ => True.intro)
  have ks : ∀ {xs : List (k.den × o'.ty.den)} {kvs : List NE}, allN k.nk (fun x b => rl K mg k x [.ref b] F) (fun _ _ => True) xs kvs → ∀ e ∈ kvs, ∃ x, e.1 = k.nk x ∧ rl K mg k x [.ref e.2.1] F := by
    intro xs
    induction xs with
    | nil =>
      intro kvs r e he
      cases kvs with
      | nil => cases he
      | cons _ _ => exact r.elim
    | cons x xs ih =>
      intro kvs r e he
      cases kvs with
      | nil => exact r.elim
      | cons e' kvs =>
        rcases List.mem_cons.mp he with rfl | he
        · exact ⟨x.1, r.1.1, r.1.2.1⟩
        · exact ih r.2 e he
  rw [i2] at s2 s3 s4
  have nq := List.nodup_cons.mp s4
  obtain ⟨n1, n2, n3, n4, n5, n6⟩ := nd_app3 nq.2
  refine ⟨q, kvs, z, rfl, e3, ks an, i1, fa ++ (q :: (g1 ++ g3)), g2, fun a ha => ?_, fun a ha => s2 a (by simp [ha]), fun a ha hb => ?_, n2, i3, fun F' H' y' fb' hs hH hy' nd' hd => ?_⟩
  · rcases List.mem_append.mp ha with z | z
    · exact s1 a z
    · refine s2 a ?_
      simp only [List.mem_cons, List.mem_append] at z ⊢
      rcases z with z | z | z
      · exact .inl z
      · exact .inr (.inl z)
      · exact .inr (.inr (.inr z))
  · rcases List.mem_append.mp ha with z | z
    · exact s3 a z (by simp [hb])
    · simp only [List.mem_cons, List.mem_append] at z
      rcases z with rfl | z | z
      · exact nq.1 (by simp [hb])
      · exact n4 a z hb
      · exact n6 a hb z
  · have hin : ∀ a, a ∈ q :: (g1 ++ g3) → H' a = H a := fun a ha => hH a (List.mem_append_right _ ha)
    have hdis : ∀ a, a ∈ q :: (g1 ++ g3) → a ∉ fb' := fun a ha hb => hd a hb (List.mem_append_right _ ha)
    obtain ⟨gs', j1, j2⟩ := i4 (fun x b => rl K mg k x [.ref b] F') (fun x v f => ol K mg o' x [v] F' H' f) y' fb' (fun a b r => rl_mono hs k a _ r)
      (fun z w g hg r => ol_frame hs _ _ _ _ (fun a ha => hin a (by simp only [List.mem_cons, List.mem_append]; exact .inr (hg a ha))) r) hy'
    have ndn : (g1 ++ (fb' ++ g3)).Nodup := app3_nd n1 nd' n3 (fun a ha hb => hdis a (by simp [ha]) hb) n5 (fun a ha hb => hdis a (by simp [hb]) ha)
    have ndq : (q :: (g1 ++ (fb' ++ g3))).Nodup := by
      refine List.nodup_cons.mpr ⟨fun z => ?_, ndn⟩
      simp only [List.mem_append] at z
      rcases z with z | z | z
      · exact nq.1 (by simp [z])
      · exact hdis q (by simp) z
      · exact nq.1 (by simp [z])
    obtain ⟨fp', m1, m2, m3⟩ := rb F' H' (dset d xk y') (q :: (g1 ++ (fb' ++ g3))) hs (fun a ha => hH a (List.mem_append_left _ ha))
      ⟨q, kvs, gs', rfl, by rw [j2], (hin q (by simp)).trans e3, j1⟩ ndq (fun a ha hb => by
        simp only [List.mem_cons, List.mem_append] at ha
        rcases ha with rfl | ha | ha | ha
        · exact s3 _ hb (by simp)
        · exact s3 _ hb (by simp [ha])
        · exact hd a ha (List.mem_append_left _ hb)
        · exact s3 _ hb (by simp [ha]))
    refine ⟨fp', m1, fun a ha => ?_, m3⟩
    rcases m2 a ha with z | z
    · exact .inl (List.mem_append_left _ z)
    · simp only [List.mem_cons, List.mem_append] at z ⊢
      rcases z with z | z | z | z
      · exact .inl (.inr (.inl z))
      · exact .inl (.inr (.inr (.inl z)))
      · exact .inr z
      · exact .inl (.inr (.inr (.inr z)))
end
/-! ## a slot's thing anew -/
/-- the state, with its footprints -/
structure SGf (K : PySem.W.Frag) (mg : Str → Option Value) (E : Ent) (Γ : Ctx) (σ : L2.St) (F H : Hp) (fps : Nat → List Addr) : Prop where
  e0 : Ext E.F0 E.B F H
  kp : ∀ i ∈ E.hk, σ[i]? = E.s0[i]?
  ow : Own K mg Γ σ F H E.B fps
theorem SGf.sg {K : PySem.W.Frag} {mg : Str → Option Value} {E : Ent} {Γ : Ctx} {σ : L2.St} {F H : Hp} {fps : Nat → List Addr} (g : SGf K mg E Γ σ F H fps) : SG K mg E Γ σ F H := ⟨g.e0, g.kp, fps, g.ow⟩
theorem SG.f {K : PySem.W.Frag} {mg : Str → Option Value} {E : Ent} {Γ : Ctx} {σ : L2.St} {F H : Hp} (g : SG K mg E Γ σ F H) : ∃ fps, SGf K mg E Γ σ F H fps := let ⟨a, b, fps, c⟩ := g; ⟨fps, a, b, c⟩
theorem SGf.renew {K : PySem.W.Frag} {mg : Str → Option Value} {E : Ent} {Γ : Ctx} {σ : L2.St} {F H F' H' : Hp} {fps : Nat → List Addr} {i : Nat} {o o' : Ow} {x : o.ty.den} {x' : o'.ty.den} {v : V} {fp' : List Addr} (g : SGf K mg E Γ σ F H fps) (hi : Γ[i]? = some (.o o x)) (hv : σ[i]? = some (some v)) (f1 : Same F F') (f2 : Same F' H')
    (k1 : fp'.Nodup) (k2 : ∀ a ∈ fp', F' a = none ∧ (a ∈ fps i ∨ H a = none)) (k3 : ∀ a, a ∉ fps i → H a ≠ none → H' a = H a ∧ (F a = none → F' a = none)) (k4 : ol K mg o' x' [v] F' H' fp') : SG K mg E (Γ.set i (.o o' x')) σ F' H' := by
  obtain ⟨e0, kp, w⟩ := g
  obtain ⟨ov, e1, v', rfl, ho⟩ := w.at_ i _ hi
  rw [hv] at e1
  cases e1
  have hil : i < Γ.length := (List.getElem?_eq_some_iff.mp hi).1
  have nB : ∀ a ∈ fps i, E.B a = none := fun a ha => (w.new i a ha).2
  have cell : ∀ j, ∀ a ∈ fps j, H a ≠ none := fun j a ha z => by
    obtain ⟨ob, h1, _⟩ := w.cell j a ha
    rw [h1] at z; cases z
  refine ⟨⟨e0.f.trans f1, fun b ob eb => ?_, f2, fun p hp hf => ?_⟩, kp, fun j => if j = i then fp' else fps j, fun j s e => ?_, fun j e => ?_, fun j => ?_, fun j l hjl a ha => ?_, fun j a ha => ?_⟩
  · have hb : b ∉ fps i := fun z => by rw [nB b z] at eb; cases eb
    have hH := e0.h _ _ eb
    rw [(k3 b hb (by rw [hH]; exact fun z => nomatch z)).1]; exact hH
  · have hb : p ∉ fps i := fun z => hp (nB p z)
    exact (k3 p hb (fun z => hp (e0.h.free z))).2 (e0.n p hp hf)
  · by_cases hj : j = i
    · subst hj
      rw [List.getElem?_set_self hil] at e
      cases e
      exact ⟨_, hv, v, rfl, by rw [if_pos rfl]; exact k4⟩
    · rw [List.getElem?_set_ne (Ne.symm hj)] at e
      obtain ⟨ov, e1, r⟩ := w.at_ j s e
      refine ⟨ov, e1, ?_⟩
      rw [if_neg hj]
      exact so_frame f1 (fun a ha => (k3 a (fun z => w.sep j i hj a ha z) (cell j a ha)).1) r
  · have hj : j ≠ i := fun z => by
      subst z
      rw [List.getElem?_set_self hil] at e; cases e
    rw [List.getElem?_set_ne (Ne.symm hj)] at e
    rw [if_neg hj]; exact w.out j e
  · by_cases hj : j = i
    · rw [if_pos hj]; exact k1
    · rw [if_neg hj]; exact w.nd j
  · by_cases hj : j = i
    · have hl : l ≠ i := fun z => hjl (hj.trans z.symm)
      rw [if_pos hj] at ha
      rw [if_neg hl]
      rcases (k2 a ha).2 with z | z
      · exact fun y => w.sep l i hl a y z
      · exact fun y => cell l a y z
    · rw [if_neg hj] at ha
      by_cases hl : l = i
      · rw [if_pos hl]
        intro y
        rcases (k2 a y).2 with z | z
        · exact w.sep j i hj a ha z
        · exact cell j a ha z
      · rw [if_neg hl]; exact w.sep j l hjl a ha
  · by_cases hj : j = i
    · rw [if_pos hj] at ha
      refine ⟨(k2 a ha).1, ?_⟩
      rcases (k2 a ha).2 with z | z
      · exact nB a z
      · exact e0.h.free z
    · rw [if_neg hj] at ha
      refine ⟨?_, (w.new j a ha).2⟩
      exact (k3 a (fun z => w.sep j i hj a ha z) (cell j a ha)).2 (w.new j a ha).1
/-- the thing within is changed -/
theorem SGf.sub {K : PySem.W.Frag} {mg : Str → Option Value} {E : Ent} {Γ : Ctx} {σ : L2.St} {F H : Hp} {fps : Nat → List Addr} {i : Nat} {o o' : Ow} {x : o.ty.den} {y : o'.ty.den} {put : o'.ty.den → o.ty.den} {v u : V} (g : SGf K mg E Γ σ F H fps) (hi : Γ[i]? = some (.o o x)) (hv : σ[i]? = some (some v))
    (S : SubAt K mg o o' y put F H v (fps i) u) : ∃ fb : List Addr, fb.Nodup ∧ (∀ a ∈ fb, F a = none) ∧ ol K mg o' y [u] F H fb ∧
    ∀ {F2 H2 H3 : Hp} {y' : o'.ty.den} {fb' : List Addr}, Ext F H F2 H2 → fb'.Nodup → (∀ a ∈ fb', a ∈ fb ∨ (H a = none ∧ F2 a = none)) → (∀ a, a ∉ fb → H2 a ≠ none → H3 a = H2 a) → Same F2 H3 → ol K mg o' y' [u] F2 H3 fb' → SG K mg E (Γ.set i (.o o (put y'))) σ F2 H3 := by
  obtain ⟨fa, fb, s1, s2, s3, s4, oi, rb⟩ := S
  have nF : ∀ a ∈ fps i, F a = none := fun a ha => (g.ow.new i a ha).1
  have cell : ∀ a ∈ fps i, H a ≠ none := fun a ha z => by
    obtain ⟨ob, h1, _⟩ := g.ow.cell i a ha
    rw [h1] at z; cases z
  refine ⟨fb, s4, fun a ha => nF a (s2 a ha), oi, fun {F2 H2 H3 y' fb'} ex k1 k2 k3 k4 k5 => ?_⟩
  have up : ∀ a, H a ≠ none → H2 a = H a := fun a h => by
    cases e : H a with
    | none => exact absurd e h
    | some z => exact ex.h _ _ e
  have fresh : ∀ a ∈ fb', a ∉ fa := fun a ha hb => by
    rcases k2 a ha with z | z
    · exact s3 a hb z
    · exact cell a (s1 a hb) z.1
  have faH : ∀ a ∈ fa, H3 a = H a := fun a ha => by
    have c := cell a (s1 a ha)
    rw [k3 a (s3 a ha) (by rw [up a c]; exact c), up a c]
  obtain ⟨fp', m1, m2, m3⟩ := rb F2 H3 y' fb' ex.f faH k5 k1 fresh
  refine g.renew hi hv ex.f k4 m1 (fun a ha => ?_) (fun a ha hn => ⟨?_, fun hf => ex.n a hn hf⟩) m3
  · rcases m2 a ha with z | z
    · exact ⟨ex.n a (cell a (s1 a z)) (nF a (s1 a z)), .inl (s1 a z)⟩
    · rcases k2 a z with z | z
      · exact ⟨ex.n a (cell a (s2 a z)) (nF a (s2 a z)), .inl (s2 a z)⟩
      · exact ⟨z.2, .inr z.1⟩
  · have hb : a ∉ fb := fun z => ha (s2 a z)
    rw [k3 a hb (by rw [up a hn]; exact hn), up a hn]
/-! ## places -/
def tPl (K : PySem.W.Frag) (mg : Str → Option Value) (E : Ent) (Γ : Ctx) (i : Nat) (o : Ow) (o' : Ow) (y : o'.ty.den) (put : o'.ty.den → o.ty.den) : TE := fun σ H Q => ∃ F v fps, SGf K mg E Γ σ F H fps ∧ σ[i]? = some (some v) ∧
  ∀ u, SubAt K mg o o' y put F H v (fps i) u → Q u H
abbrev PLc (X : Cx) (Γ : Ctx) (e : Expr) (i : Nat) (o o' : Ow) (y : o'.ty.den) (put : o'.ty.den → o.ty.den) : Prop := ∀ E : Ent, PE X e (tPl X.K X.mg E Γ i o o' y put)
section
variable {X : Cx} {W : WX} {hk : List Nat} {Γ Γ' Γv Γi : Ctx} {st : Stmt} {rest : List Stmt} {a b e : Expr} {es : List Expr} {pos p p' p2 apos cpos : Pos} {β : Type} {r : Rt} {t k : Ty} {I : β → Out} {c f n m : Str} {ns : List Str} {C : Addr} {fs o o' : Ow} {x : o.ty.den}
theorem pl_name (i : Nat) (hi : Γ[i]? = some (.o o x)) (hp : PE X (.Name n p) (tVar i)) : PLc X Γ (.Name n p) i o o x id := fun E => pe_imp hp fun σ H Q ⟨F, v, fps, g, e, k⟩ => ⟨v, e, by
  obtain ⟨ov, e1, v', rfl, ho⟩ := g.ow.at_ i _ hi
  rw [e] at e1
  cases e1
  exact k v (SubAt.refl (g.ow.nd i) ho)⟩
theorem pl_fld {i j : Nat} {y : fs.ty.den} {put : fs.ty.den → o.ty.den} {π : fs.ty.den → o'.ty.den} {up : fs.ty.den → o'.ty.den → fs.ty.den} (h : PLc X Γ a i o (.ins c ns fs) y put) (hc : X.mg c = some (.ref C)) (cl : Cls X.K C) (na : NoAttr X.K C f) (hn : fidx ns f = some j) (hf : FlO fs j o' π up)
    (hb : attributeBase a f X.env (eval a X.env) = eval a X.env) : PLc X Γ (.Attribute a f pos) i o o' (π y) (fun z => put (up y z)) := fun E => pe_imp (pe_fld (h E) hb) fun σ H Q ⟨F, v, fps, g, e, k⟩ => ⟨F, v, fps, g, e, fun u0 S0 => by
  obtain ⟨q, C', dx, ws, w, rfl, e3, e4, e5, e6, S⟩ := S0.fld hf
  rw [hc] at e3
  cases e3
  exact ⟨q, C, dx, _, w, rfl, e4, cl, na, lookup_fidx hn e6, k w S⟩⟩
theorem pl_nget {i j : Nat} [DecidableEq k.den] {d : List (k.den × o'.ty.den)} {xk : k.den} {y : o'.ty.den} {put : List (k.den × o'.ty.den) → o.ty.den} (hk : k.kyN = true) (hu : X.A.units + 64 < cLine) (h : PLc X Γ a i o (.dicN X.prog X.w k o') d put) (hj : Γ[j]? = some (.d k xk)) (hb : PE X b (tVar j)) (hs : NoSl b)
    (hy : dget d xk = some y) : PLc X Γ (.Subscript a b pos) i o o' y (fun z => put (dset d xk z)) := fun E =>
  have hk := kyN_of hk
  pe_imp (pe_nget hu (h E) hb hs) fun σ H Q ⟨F, v, fps, g, e, kk⟩ => ⟨F, v, fps, g, e, fun u0 S0 => by
    obtain ⟨ovk, ek, _, vk, rfl, rk⟩ := g.ow.at_ j _ hj
    obtain ⟨bb, rfl⟩ := hk.ref rk
    obtain ⟨q, kvs, z, rfl, e3, ks, i1, S⟩ := S0.nget hk hy
    refine ⟨_, ek, q, bb, kvs, k.nk xk, z, rfl, rfl, .inl e3, fun e he => ?_, hk.nk g.e0.i rk, i1, kk z S⟩
    obtain ⟨x, e1, e2⟩ := ks e he
    rw [e1]
    exact hk.nk g.e0.i e2⟩
end
end Gm
set_option Elab.async false
set_option linter.all false
set_option maxRecDepth 100000
set_option maxHeartbeats 4000000
namespace Gm
open PySem PySem.Spec L2
open PyProof.Rows (envOfC)
/-! ## statements on places -/
theorem upd_other {H : Hp} {q : Addr} {ob : HO} {fb : List Addr} (hq : q ∈ fb) : ∀ a, a ∉ fb → H a ≠ none → upd H q ob a = H a := fun a ha _ => upd_ne (fun z => ha (by rw [z]; exact hq))
theorem same_upd {F H : Hp} {q : Addr} {ob : HO} (h : Same F H) (nq : F q = none) : Same F (upd H q ob) := fun b z e => by
  rw [upd_ne (fun y => by rw [y, nq] at e; cases e)]; exact h _ _ e
section
variable {X : Cx} {W : WX} {hk : List Nat} {Γ Γ' Γv Γi : Ctx} {st : Stmt} {rest : List Stmt} {a b e : Expr} {es : List Expr} {pos p p' p2 apos cpos : Pos} {β : Type} {r : Rt} {t k : Ty} {I : β → Out} {c f n m : Str} {ns : List Str} {C : Addr} {fs o o' : Ow} {x : o.ty.den}
theorem lst_own {K : PySem.W.Frag} {mg : Str → Option Value} {F H : Hp} {q : Addr} : ∀ {xs : List t.den} {ws : List V}, all2 (fun y w => rl K mg t y [w] F) xs ws → H q = some (.lst ws) → ol K mg (.l (.d t)) xs [.ref q] F H [q] := by
  intro xs ws r h
  refine ⟨q, ws, xs.map fun _ => [], rfl, ?_, h, all3.of2 (S := fun y w => rl K mg t y [w] F) (fun x v z => ⟨rfl, z⟩) r⟩
  rw [flat_nil]
/-- place.append(e) -/
theorem bs_appP (i : Nat) {xs : List t.den} {put : List t.den → o.ty.den} {me : Mx t.den} {k : List t.den → Mx β} (hi : Γ[i]? = some (.o o x)) (hp : PLc X Γ a i o (.l (.d t)) xs put) (he : EM X W Γv e t me) (vw : Vw Γ (.d t) Γv) (hr : ∀ ys, BS X W hk (Γ.set i (.o o (put ys))) rest (k ys) I)
    (hbase : attributeBase a "append" X.env (eval a X.env) = eval a X.env) (hfew : ((backTo cpos (starEach [e] X.env)).all (fun x => !x.1) && (backToKw cpos (keywordEach [] X.env)).all (fun x => x.1.isSome) && decide ([e].length + ([] : List Keyword).length + (if ([] : List Keyword).isEmpty then 0 else 1) < 30)) = true)
    (hline : (apos.endLine == cpos.line) = true) (hs : starEach [e] X.env = (false, eval e X.env) :: starEach [] X.env) (hpl : (backTo cpos (starEach [] X.env)).any (·.1) = false) :
    BS X W hk Γ (.Expr (.Call (.Attribute a "append" apos) [e] [] cpos) pos :: rest) (me >>= fun y => ofO (appO xs y) >>= k) I :=
  have hr' : PSs X rest (fun D σ H => ∃ ys, tS X.K X.mg W hk (Γ.set i (.o o (put ys))) (k ys) I D σ H) := ⟨fun pins s σ H D J ⟨x, q⟩ => (hr x).run pins s σ H D J q⟩
  pss_imp (pss_cons (ps_expr (pe_bm PySem.F.plainAttrs_list PySem.F.slot_list_append PySem.F.type_list_append mt_append (pe_ex hp) (pa_cons he pa_nil hs) hbase hfew hline hs hpl)) hr') fun D σ H ⟨E, F, h, g, q⟩ => by
    obtain ⟨fps, g⟩ := g.f
    obtain ⟨ov, e1, v, rfl, ho⟩ := g.ow.at_ i _ hi
    refine ⟨E, F, v, fps, g, e1, fun u S => ?_⟩
    obtain ⟨fb, nd, nF, ob, fin⟩ := g.sub hi e1 S
    obtain ⟨q0, ws, rfl, e3, e4, rr⟩ := own_lst ob
    refine ⟨.inl ⟨rfl, ws, SqL.of e4⟩, ?_⟩
    obtain ⟨G, g1, g2, g3⟩ := g.sg.look vw
    refine ⟨G, g1, g2, q.bind.post g.sg (fun F' H' x => let ⟨F2, a, _, b⟩ := g3 F' H' x; ⟨F2, a, b⟩) fun y py u F' H' ex ru => ?_⟩
    obtain ⟨F2, x2, back, _⟩ := g3 F' H' ex
    have ru2 : rl X.K X.mg t y [u] F2 := back y u ru
    unfold appO at py
    by_cases hl : xs.length < sizeLine
    · rw [if_pos hl] at py
      have hq : q0 ∈ fb := by rw [e3]; exact List.mem_singleton.mpr rfl
      have nF2 : F2 q0 = none := x2.n q0 (by rw [e4]; exact fun z => nomatch z) (nF q0 hq)
      refine ⟨q0, ws, u, rfl, rfl, x2.h _ _ e4, by rw [← rr.len]; exact hl, xs ++ [y], E, F2, h, ?_, py⟩
      exact fin x2 nd (fun a ha => .inl ha) (upd_other hq) (same_upd x2.i nF2) (by rw [e3]; exact lst_own (all2.app (ys := [y]) (ws := [u]) (rr.imp fun z v q => rl_mono x2.f t z [v] q) ⟨ru2, True.intro⟩) upd_same)
    · rw [if_neg hl] at py; exact py.elim
/-! ## place[x] = y on a dict of nested keys -/
def sNPut (X : Cx) (td ty tv : TE) : TS := fun D σ H => tv σ H fun v H1 => td σ H1 fun x H2 => ty σ H2 fun y H3 => ∃ a b kvs k, x = .ref a ∧ y = .ref b ∧ H3 a = some (dnO X.prog X.w a kvs) ∧ (∀ p ∈ kvs, NK X H3 p.1 p.2.1) ∧ NK X H3 k b ∧ kvs.length < sizeLine ∧ D.nx σ (upd H3 a (dnO X.prog X.w a (putN kvs k b v)))
theorem ps_nput {td ty tv : TE} {value i : Expr} (hu : X.A.units + 64 < cLine) (ho : PE X a td) (hi : PE X i ty) (hv : PE X value tv) (hs : swapsWith value (some (.Subscript a i p2)) pos.line X.env = pure false) : PS X (.Assign [.Subscript a i p2] value pos) (sNPut X td ty tv) := by
  refine ⟨fun pins s σ H D I h => ?_⟩
  refine wpAny_Assign_Subscript (thn (hv.run pins s σ H _ I h) fun r s1 ⟨v, H1, I1, rv, q1⟩ => thn (ho.run pins s1 σ H1 _ I1 q1) fun u s2 ⟨x, H2, I2, rx, q2⟩ => thn (hi.run pins s2 σ H2 _ I2 q2) fun iv s3 ⟨y, H3, I3, ry, c, b, kvs, k, ex, ey, z1, z2, z3, z4, q3⟩ => ?_) hs
  subst ex ey
  cases (show u = Value.ref c from rx)
  cases (show iv = Value.ref b from ry)
  exact n_setItem hu I3 z1 z2 z3 z4 rv fun s4 I4 => ⟨σ, _, I4, q3⟩
/-- the entries with the values' footprints all empty -/
theorem allM.of_d {K : PySem.W.Frag} {mg : Str → Option Value} {F H : Hp} {α : Type} {f : α → NestedKey} {Rk : α → Addr → Prop} : ∀ {xs : List (α × t.den)} {kvs : List NE}, allN f Rk (fun x v => rl K mg t x [v] F) xs kvs → allM f Rk (fun x v g => ol K mg (.d t) x [v] F H g) xs kvs (xs.map fun _ => [])
  | [], [], _ => True.intro
  | _ :: _, _ :: _, ⟨⟨a, b, c⟩, d⟩ => ⟨⟨a, b, rfl, c⟩, allM.of_d d⟩
  | [], _ :: _, z => z.elim
  | _ :: _, [], z => z.elim
theorem own_dn {P : Program} {w : World} {K : PySem.W.Frag} {mg : Str → Option Value} {xs : List (k.den × t.den)} {v : V} {F H : Hp} {fp : List Addr} (h : ol K mg (.dicN P w k (.d t)) xs [v] F H fp) : ∃ q kvs, v = .ref q ∧ fp = [q] ∧ H q = some (dnO P w q kvs) ∧ allN k.nk (fun x b => rl K mg k x [.ref b] F) (fun y u => rl K mg t y [u] F) xs kvs := by
  obtain ⟨q, kvs, fps, e1, e2, e3, r⟩ := h
  have hn : ∀ {xs : List (k.den × t.den)} {kvs : List NE} {fps : List (List Addr)}, allM k.nk (fun x b => rl K mg k x [.ref b] F) (fun x w f => ol K mg (.d t) x [w] F H f) xs kvs fps → fps.flatten = [] := by
    intro xs
    induction xs with
    | nil => intro ws fps r; cases ws with
      | nil => cases fps with
        | nil => rfl
        | cons _ _ => exact r.elim
      | cons _ _ => exact r.elim
    | cons x xs ih => intro ws fps r; cases ws with
      | nil => exact r.elim
      | cons w ws => cases fps with
        | nil => exact r.elim
        | cons f fps => rw [List.flatten_cons, ih r.2, r.1.2.2.1]; rfl
  refine ⟨q, kvs, (List.cons.inj e1).1, by rw [e2, hn r], e3, r.two (fun _ _ z => z) fun x v g _ z => z.2⟩
theorem dn_own {P : Program} {w : World} {K : PySem.W.Frag} {mg : Str → Option Value} {F H : Hp} {q : Addr} {xs : List (k.den × t.den)} {kvs : List NE} (r : allN k.nk (fun x b => rl K mg k x [.ref b] F) (fun y u => rl K mg t y [u] F) xs kvs) (h : H q = some (dnO P w q kvs)) : ol K mg (.dicN P w k (.d t)) xs [.ref q] F H [q] :=
  ⟨q, kvs, xs.map fun _ => [], rfl, by rw [flat_nil], h, allM.of_d r⟩
theorem bs_nput (i : Nat) [DecidableEq k.den] {xs : List (k.den × t.den)} {put : List (k.den × t.den) → o.ty.den} {me : Mx t.den} {mx : Mx k.den} {kk : List (k.den × t.den) → Mx β} (hk2 : k.kyN = true) (hu : X.A.units + 64 < cLine) (hi : Γ[i]? = some (.o o x)) (hp : PLc X Γ a i o (.dicN X.prog X.w k (.d t)) xs put) (he : EM X W Γv e t me) (vw : Vw Γ (.d t) Γv)
    (hj : EM X W Γi b k mx) (vi : Vw Γ (.d k) Γi) (hr : ∀ ys, BS X W hk (Γ.set i (.o o (put ys))) rest (kk ys) I) (hs : swapsWith e (some (.Subscript a b p2)) pos.line X.env = pure false) :
    BS X W hk Γ (.Assign [.Subscript a b p2] e pos :: rest) (me >>= fun y => mx >>= fun x => ofO (dputO xs x y) >>= kk) I :=
  have hk2 := kyN_of hk2
  have hr' : PSs X rest (fun D σ H => ∃ ys, tS X.K X.mg W hk (Γ.set i (.o o (put ys))) (kk ys) I D σ H) := ⟨fun pins s σ H D J ⟨x, q⟩ => (hr x).run pins s σ H D J q⟩
  pss_imp (pss_cons (ps_nput hu (pe_ex hp) hj he hs) hr') fun D σ H ⟨E, F, h, g, q⟩ => by
    obtain ⟨G, g1, g2, g3⟩ := g.look vw
    refine ⟨G, g1, g2, q.bind.post g (fun F' H' x => let ⟨F2, a, _, b⟩ := g3 F' H' x; ⟨F2, a, b⟩) fun y py u F' H' ex ru => ?_⟩
    obtain ⟨F2, x2, back, _⟩ := g3 F' H' ex
    have ru2 : rl X.K X.mg t y [u] F2 := back y u ru
    obtain ⟨fps, gg⟩ := (g.grow x2).f
    obtain ⟨ov, e1, v, rfl, ho⟩ := gg.ow.at_ i _ hi
    refine ⟨E, F2, v, fps, gg, e1, fun u0 S => ?_⟩
    obtain ⟨fb, nd, nF, ob, fin⟩ := gg.sub hi e1 S
    obtain ⟨q0, kvs, rfl, e3, e4, rr⟩ := own_dn ob
    obtain ⟨G2, k1, k2, k3⟩ := gg.sg.look vi
    refine ⟨G2, k1, k2, py.bind.post gg.sg (fun F' H' x => let ⟨F3, a, _, b⟩ := k3 F' H' x; ⟨F3, a, b⟩) fun x px v2 F'' H'' ex2 rx => ?_⟩
    obtain ⟨F3, x3, back3, _⟩ := k3 F'' H'' ex2
    have rx2 : rl X.K X.mg k x [v2] F3 := back3 x v2 rx
    obtain ⟨bb, rfl⟩ := hk2.ref rx2
    unfold dputO at px
    by_cases hz : xs.length < sizeLine
    · rw [if_pos hz] at px
      have ru3 : rl X.K X.mg t y [u] F3 := rl_mono x3.f t y [u] ru2
      have hl3 := x3.h _ _ e4
      have rr3 := rr.imp (fun z b q => rl_mono x3.f k z [.ref b] q) (fun z w q => rl_mono x3.f t z [w] q)
      have hq : q0 ∈ fb := by rw [e3]; exact List.mem_singleton.mpr rfl
      have nF3 : F3 q0 = none := x3.n q0 (by rw [e4]; exact fun z => nomatch z) (nF q0 hq)
      refine ⟨q0, bb, kvs, k.nk x, rfl, rfl, hl3, rr3.nks hk2 x3.i, hk2.nk x3.i rx2, by rw [← rr.len]; exact hz, dput xs x y, E, F3, h, ?_, px⟩
      exact fin x3 nd (fun a ha => .inl ha) (upd_other hq) (same_upd x3.i nF3) (by rw [e3]; exact dn_own (rr3.put hk2.inj x rx2 ru3) upd_same)
    · rw [if_neg hz] at px; exact px.elim
/-! ## place[x] += y -/
def sNAug (X : Cx) (td ty tv : TE) (rd : V → V → Hp → VK → Prop) : TS := fun D σ H => td σ H fun x H1 => ty σ H1 fun y H2 => ∃ a b kvs k v, x = .ref a ∧ y = .ref b ∧ Rd H2 a (dnO X.prog X.w a kvs) ∧ (∀ p ∈ kvs, NK X H2 p.1 p.2.1) ∧ NK X H2 k b ∧ getN kvs k = some v ∧
  tv σ H2 fun y2 H3 => rd v y2 H3 fun z H4 => ∃ kvs', H4 a = some (dnO X.prog X.w a kvs') ∧ (∀ p ∈ kvs', NK X H4 p.1 p.2.1) ∧ NK X H4 k b ∧ kvs'.length < sizeLine ∧ D.nx σ (upd H4 a (dnO X.prog X.w a (putN kvs' k b z)))
theorem ps_naug {td ty tv : TE} {value i : Expr} {op : Operator} {rd : V → V → Hp → VK → Prop} (hu : X.A.units + 64 < cLine) (ho : PE X a td) (hi : PE X i ty) (hv : PE X value tv) (hop : InOp X op rd)
    (ha : ∀ ov iv new, augStore i ov iv new = (do holding [new, ov, iv] (setItem ov iv new); release [new, ov, iv] []; pure .next)) : PS X (.AugAssign (.Subscript a i p2) op value pos) (sNAug X td ty tv rd) := by
  refine ⟨fun pins s σ H D I h => ?_⟩
  refine wpAny_AugAssign_SubscriptAny (thn (ho.run pins s σ H _ I h) fun u s1 ⟨x, H1, I1, rx, q1⟩ => thn (hi.run pins s1 σ H1 _ I1 q1) fun iv s2 ⟨y, H2, I2, ry, c, b, kvs, k, v, ex, ey, z1, z2, z3, z4, q2⟩ => ?_) ha
  subst ex ey
  cases (show u = Value.ref c from rx)
  cases (show iv = Value.ref b from ry)
  refine n_getItem hu I2 z1 z2 z3 z4 fun w' s3 I3 rw' => thn (hv.run pins s3 σ H2 _ I3 q2) fun w2 s4 ⟨y2, H3, I4, ry2, q3⟩ => thn (hop pins s4 σ H3 v y2 w' w2 _ I4 rw' ry2 q3) fun w3 s5 ⟨z, H4, I5, rz, kvs', g1, g2, g3, g4, q4⟩ => ?_
  exact n_setItem hu I5 g1 g2 g3 g4 rz fun s6 I6 => ⟨σ, _, I6, q4⟩
def rI2 (gf : Int → Int → Int) : V → V → Hp → VK → Prop := fun v w H Q => ∃ i j, v = .int i ∧ w = .int j ∧ Q (.int (gf i j)) H
theorem in_addI : InOp X .Add (rI2 fun i j => i + j) := in_add
theorem in_subI : InOp X .Sub (rI2 fun i j => i - j) := in_sub
theorem bs_naug (i : Nat) {op : Operator} {gf : Int → Int → Int} [DecidableEq k.den] {xs : List (k.den × Int)} {put : List (k.den × Int) → o.ty.den} {me : Mx Int} {mx : Mx k.den} {kk : List (k.den × Int) → Mx β} (hop : InOp X op (rI2 gf)) (hk2 : k.kyN = true) (hu : X.A.units + 64 < cLine) (hi : Γ[i]? = some (.o o x)) (hp : PLc X Γ a i o (.dicN X.prog X.w k (.d .int)) xs put)
    (hj : EM X W Γi b k mx) (vi : Vw Γ (.d k) Γi) (he : EM X W Γv e .int me) (vw : Vw Γ (.d .int) Γv) (hr : ∀ ys, BS X W hk (Γ.set i (.o o (put ys))) rest (kk ys) I)
    (ha : ∀ ov iv new, augStore b ov iv new = (do holding [new, ov, iv] (setItem ov iv new); release [new, ov, iv] []; pure .next)) :
    BS X W hk Γ (.AugAssign (.Subscript a b p2) op e pos :: rest) (mx >>= fun x => ofO (dget xs x) >>= fun z => me >>= fun y => ofO (dputO (k := k) (t := .int) xs x (gf z y)) >>= kk) I :=
  have hk2 := kyN_of hk2
  have hr' : PSs X rest (fun D σ H => ∃ ys, tS X.K X.mg W hk (Γ.set i (.o o (put ys))) (kk ys) I D σ H) := ⟨fun pins s σ H D J ⟨x, q⟩ => (hr x).run pins s σ H D J q⟩
  pss_imp (pss_cons (ps_naug hu (pe_ex hp) hj he hop ha) hr') fun D σ H ⟨E, F, h, g, q⟩ => by
    obtain ⟨fps, g⟩ := g.f
    obtain ⟨ov, e1, v, rfl, ho⟩ := g.ow.at_ i _ hi
    refine ⟨E, F, v, fps, g, e1, fun u0 S => ?_⟩
    obtain ⟨fb, nd, nF, ob, fin⟩ := g.sub hi e1 S
    obtain ⟨q0, kvs, rfl, e3, e4, rr⟩ := own_dn ob
    obtain ⟨G2, k1, k2, k3⟩ := g.sg.look vi
    refine ⟨G2, k1, k2, q.bind.post g.sg (fun F' H' x => let ⟨F3, a, _, b⟩ := k3 F' H' x; ⟨F3, a, b⟩) fun x px v2 F1 H1 ex1 rx => ?_⟩
    obtain ⟨F2, x2, back2, _⟩ := k3 F1 H1 ex1
    have rx2 : rl X.K X.mg k x [v2] F2 := back2 x v2 rx
    obtain ⟨bb, rfl⟩ := hk2.ref rx2
    have rr2 := rr.imp (fun z b q => rl_mono x2.f k z [.ref b] q) (fun z w q => rl_mono x2.f .int z [w] q)
    rcases rr2.val hk2.inj x with ⟨n1, n2⟩ | ⟨z, u, n1, n2, ru⟩
    · rw [n1] at px; exact px.elim
    rw [n1] at px
    cases (List.cons.inj (show [u] = [V.int z] from ru)).1
    have gg := g.sg.grow x2
    refine ⟨q0, bb, kvs, k.nk x, .int z, rfl, rfl, .inl (x2.h _ _ e4), rr2.nks hk2 x2.i, hk2.nk x2.i rx2, n2, ?_⟩
    obtain ⟨G, g1, g2, g3⟩ := gg.look vw
    have px : postS X.mg W E (me >>= fun y => ofO (dputO (k := k) (t := .int) xs x (gf z y)) >>= kk) fun b => outP X.K X.mg E D (I b) := px
    refine ⟨G, g1, g2, px.bind.post gg (fun F' H' x => let ⟨F2, a, _, b⟩ := g3 F' H' x; ⟨F2, a, b⟩) fun y py u F' H' ex ru => ?_⟩
    obtain ⟨F3, x3, back, _⟩ := g3 F' H' ex
    cases (List.cons.inj (show [u] = [V.int y] from back y u ru)).1
    refine ⟨z, y, rfl, rfl, ?_⟩
    unfold dputO at py
    by_cases hz : xs.length < sizeLine
    · rw [if_pos hz] at py
      have x23 := x2.trans x3
      have hl3 := x23.h _ _ e4
      have rr3 := rr2.imp (fun z b q => rl_mono x3.f k z [.ref b] q) (fun z w q => rl_mono x3.f .int z [w] q)
      have hq : q0 ∈ fb := by rw [e3]; exact List.mem_singleton.mpr rfl
      have nF3 : F3 q0 = none := x23.n q0 (by rw [e4]; exact fun z => nomatch z) (nF q0 hq)
      refine ⟨kvs, hl3, rr3.nks hk2 x3.i, hk2.nk x3.i (rl_mono x3.f k x _ rx2), by rw [← rr.len]; exact hz, dput xs x (gf z y), E, F3, h, ?_, py⟩
      exact fin x23 nd (fun a ha => .inl ha) (upd_other hq) (same_upd x3.i nF3) (by rw [e3]; exact dn_own (t := .int) (rr3.put hk2.inj x (rl_mono x3.f k x _ rx2) (show rl X.K X.mg .int (gf z y) [.int (gf z y)] F3 from rfl)) upd_same)
    · rw [if_neg hz] at py; exact py.elim
end
end Gm
set_option Elab.async false
set_option linter.all false
set_option maxRecDepth 100000
set_option maxHeartbeats 4000000
namespace Gm
open PySem PySem.Spec L2
open PyProof.Rows (envOfC)
/-! ## owned fields -/
def Ow.snocO : Ow → Ow → Ow
  | .pr a b, t => .pr a (b.snocO t)
  | .nl, t => .pr t .nl
  | o, _ => o
def snocW : (o : Ow) → (t : Ow) → o.ty.den → t.ty.den → (o.snocO t).ty.den
  | .pr _ b, t, x, v => (x.1, snocW b t x.2 v)
  | .nl, _, _, v => (v, ())
  | .d _, _, x, _ => x
  | .l _, _, x, _ => x
  | .ins _ _ _, _, x, _ => x
  | .dic _ _, _, x, _ => x
  | .dicN _ _ _ _, _, x, _ => x
  | .opt _, _, x, _ => x
  | .hl _, _, x, _ => x
section
variable {K : PySem.W.Frag} {mg : Str → Option Value} {F H : Hp} {o2 : Ow}
theorem ol_snocO {v : V} {y : o2.ty.den} {fn : List Addr} (rv : ol K mg o2 y [v] F H fn) : ∀ {o : Ow}, o.isCh = true → ∀ {x : o.ty.den} {ws : List V} {fp : List Addr}, ol K mg o x ws F H fp → ol K mg (o.snocO o2) (snocW o o2 x y) (ws ++ [v]) F H (fp ++ fn)
  | .nl, _, x, ws, fp, h => by
    obtain ⟨rfl, rfl⟩ := h
    exact ⟨v, [], fn, [], rfl, (List.append_nil fn).symm, rv, rfl, rfl⟩
  | .pr a b, hc, x, ws, fp, h => by
    obtain ⟨u, r, f1, f2, rfl, rfl, h1, h2⟩ := h
    exact ⟨u, r ++ [v], f1, f2 ++ fn, rfl, List.append_assoc .., h1, ol_snocO rv (o := b) hc h2⟩
  | .d _, hc, _, _, _, _ => nomatch hc
  | .l _, hc, _, _, _, _ => nomatch hc
  | .ins _ _ _, hc, _, _, _, _ => nomatch hc
  | .dic _ _, hc, _, _, _, _ => nomatch hc
  | .dicN _ _ _ _, hc, _, _, _, _ => nomatch hc
  | .opt _, hc, _, _, _, _ => nomatch hc
  | .hl _, hc, _, _, _, _ => nomatch hc
end
section
variable {X : Cx} {W : WX} {hk : List Nat} {Γ Γ' Γv Γi : Ctx} {st : Stmt} {rest : List Stmt} {a b e : Expr} {es : List Expr} {pos p p' p2 apos cpos : Pos} {β : Type} {r : Rt} {t k : Ty} {I : β → Out} {c f n m x : Str} {ns : List Str} {C : Addr} {fs o o2 : Ow}
/-- self.f = e, a new field, owned -/
theorem b_fldO (i : Nat) {y : fs.ty.den} {me : Mx o2.ty.den} {k : o2.ty.den → Mx β} (hi : Γ[i]? = some (.o (.ins c ns fs) y)) (hx : PE X (.Name x p) (tVar i)) (hc : X.mg c = some (.ref C)) (cl : Cls X.K C) (na : NoAttr X.K C f) (hn : fidx ns f = none) (hch : fs.isCh = true) (hlen : Nat.ble (ns.length + 1) 1000 = true)
    (he : EO X W Γv e o2 me) (vw : Vw Γ (.o o2) Γv) (hr : ∀ v, BS X W hk (Γ.set i (.o (.ins c (ns ++ [f]) (fs.snocO o2)) (snocW fs o2 y v))) rest (k v) I) (hs : swapsWith e (some (.Attribute (.Name x p) f p')) pos.line X.env = pure false) :
    BS X W hk Γ (.Assign [.Attribute (.Name x p) f p'] e pos :: rest) (me >>= k) I :=
  have hr' : PSs X rest (fun D σ H => ∃ v, tS X.K X.mg W hk (Γ.set i (.o (.ins c (ns ++ [f]) (fs.snocO o2)) (snocW fs o2 y v))) (k v) I D σ H) := ⟨fun pins s σ H D J ⟨v, q⟩ => (hr v).run pins s σ H D J q⟩
  pss_imp (pss_cons (ps_fld hx he hs) hr') fun D σ H ⟨E, F, h, g, q⟩ => by
    obtain ⟨fps, g⟩ := g.f
    obtain ⟨ov, e1, v0, rfl, ho⟩ := g.ow.at_ i _ hi
    obtain ⟨G, g1, g2, g3⟩ := g.sg.look vw
    refine ⟨G, g1, g2, q.bind.post g.sg (fun F' H' x => let ⟨F2, a, _, b⟩ := g3 F' H' x; ⟨F2, a, b⟩) fun z pz u F' H' ex ru => ?_⟩
    obtain ⟨F2, x2, back, _⟩ := g3 F' H' ex
    obtain ⟨fn, on, ndn, nwn⟩ := back z u ru
    have cell : ∀ a ∈ fps i, H a ≠ none := fun a ha z => by
      obtain ⟨ob, h1, _⟩ := g.ow.cell i a ha
      rw [h1] at z; cases z
    have nF : ∀ a ∈ fps i, F a = none := fun a ha => (g.ow.new i a ha).1
    have nd := g.ow.nd i
    obtain ⟨q, C', dx, ws, fp', e2, e3, mc, h1, h2, hl, oo⟩ := ho
    rw [hc] at mc; cases mc
    cases (List.cons.inj e2).1
    rw [e3] at nd cell nF
    have nq : q ∉ dx :: fp' := (List.nodup_cons.mp nd).1
    have ndx := List.nodup_cons.mp (List.nodup_cons.mp nd).2
    have dis : ∀ a ∈ fn, a ∉ q :: dx :: fp' := fun a ha hb => cell a hb (nwn a ha).2
    refine ⟨.ref q, e1, q, C, dx, ns.zip ws, rfl, x2.h _ _ h1, cl, na, ?_, z, E, F2, h, ?_, pz⟩
    · have := Nat.le_of_ble_eq_true hlen
      rw [List.length_zip, ← hl]; omega
    · rw [putF_new hn hl]
      have hup : ∀ a, H a ≠ none → H' a = H a := fun a h => by
        cases e : H a with
        | none => exact absurd e h
        | some z => exact x2.h _ _ e
      have nF2 : ∀ a ∈ q :: dx :: fp', F2 a = none := fun a ha => x2.n a (cell a ha) (nF a ha)
      have o3 : ol X.K X.mg fs y ws F2 H' fp' := ol_frame x2.f _ _ _ _ (fun a ha => hup a (cell a (by simp [ha]))) oo
      have o4 : ol X.K X.mg (fs.snocO o2) (snocW fs o2 y z) (ws ++ [u]) F2 H' (fp' ++ fn) := ol_snocO on hch o3
      have nq2 : q ∉ fp' ++ fn := fun z => by
        rcases List.mem_append.mp z with z | z
        · exact nq (by simp [z])
        · exact dis q z (by simp)
      refine g.renew (fp' := q :: dx :: (fp' ++ fn)) hi e1 x2.f (same_upd x2.i (nF2 q (by simp))) ?_ (fun a ha => ?_) (fun a ha hn => ⟨?_, fun hf => x2.n a hn hf⟩) ⟨q, C, dx, ws ++ [u], _, rfl, rfl, hc, upd_same, ?_, by rw [List.length_append, List.length_append, hl]; rfl, ol_frm o4 nq2⟩
      · refine List.nodup_cons.mpr ⟨fun z => ?_, List.nodup_cons.mpr ⟨fun z => ?_, List.nodup_append.mpr ⟨ndx.2, ndn, fun a ha b hb e => dis b hb (by rw [← e]; simp [ha])⟩⟩⟩
        · rcases List.mem_cons.mp z with z | z
          · exact nq (by rw [z]; exact List.mem_cons_self ..)
          · exact nq2 z
        · rcases List.mem_append.mp z with z | z
          · exact ndx.1 z
          · exact dis dx z (by simp)
      · simp only [List.mem_cons, List.mem_append] at ha
        rw [e3]
        rcases ha with rfl | rfl | ha | ha
        · exact ⟨nF2 _ (by simp), .inl (by simp)⟩
        · exact ⟨nF2 _ (by simp), .inl (by simp)⟩
        · exact ⟨nF2 _ (by simp [ha]), .inl (by simp [ha])⟩
        · exact ⟨(nwn a ha).1, .inr (nwn a ha).2⟩
      · rw [e3] at ha
        rw [upd_ne (fun z => ha (by rw [z]; simp)), hup a hn]
      · rw [upd_ne (fun z => nq (by rw [z]; simp)), hup dx (cell dx (by simp))]; exact h2
end
/-! ## methods that change their self -/
def spM (K : PySem.W.Frag) (mg : Str → Option Value) (o : Ow) (ts : Ty) (t : Ty) (h : o.ty.den → ts.den → Mx (t.den × o.ty.den)) : Sp := fun vs H Q E => ∃ (F B : Hp) (x : o.ty.den) (y : ts.den) (v : V) (ws : List V) (fp : List Addr), vs = v :: ws ∧ Same F H ∧ Same B H ∧ ol K mg o x [v] F H fp ∧ fp.Nodup ∧ (∀ a ∈ fp, F a = none ∧ B a = none) ∧ rl K mg ts y ws F ∧ match h x y with
  | .ok z => ∀ u F' H' fp', Ext F B F' H' → rl K mg t z.1 [u] F' → ol K mg o z.2 [v] F' H' fp' → fp'.Nodup → (∀ a ∈ fp', F' a = none ∧ B a = none) → Q u H'
  | .ex e => ∀ cls d F' H', Ext F B F' H' → xr mg e cls d F' → E cls d H'
  | .no => False
section
variable {P : Program} {w : World} {K : PySem.W.Frag} {mg : Str → Option Value} {base : Heap} {x qual : Str} {st : Stmt} {f : Addr} {fd : FuncData} {dvs : List V} {kws : List (Str × V)} {N ps : List Str} {k n : Nat} {o : Ow} {ts t : Ty}
theorem sg_startM {F B H : Hp} {n : Nat} {x : o.ty.den} {y : ts.den} {v : V} {ws : List V} {fp : List Addr} (hs : Same F H) (hB : Same B H) (ho : ol K mg o x [v] F H fp) (nd : fp.Nodup) (nw : ∀ a ∈ fp, F a = none ∧ B a = none) (ha : ts.args = some n) (r : rl K mg ts y ws F) :
    SG K mg ⟨F, B, [0], L2.start N (v :: ws)⟩ (.o o x :: ctx0 ts y (N.length - (n + 1))) (L2.start N (v :: ws)) F H := by
  obtain ⟨a, b, c⟩ := sg_startO (N := N) hs hB ho nd nw ha r
  exact ⟨a, fun i _ => rfl, c⟩
theorem end_M {F B F' H' : Hp} {s0 : L2.St} {v : V} {o : Ow} {x : o.ty.den} {Γ : Ctx} {σ : L2.St} (h0 : s0[0]? = some (some v)) (hΓ : Γ[0]? = some (.o o x)) (g : SG K mg ⟨F, B, [0], s0⟩ Γ σ F' H') : Ext F B F' H' ∧ ∃ fp', ol K mg o x [v] F' H' fp' ∧ fp'.Nodup ∧ ∀ a ∈ fp', F' a = none ∧ B a = none := by
  obtain ⟨e0, kp, fps, w⟩ := g
  obtain ⟨ov, e1, v', rfl, ho⟩ := w.at_ 0 _ hΓ
  have := kp 0 (List.mem_singleton.mpr rfl)
  rw [e1] at this
  have e2 : (some (some v') : Option (Option V)) = some (some v) := this.trans h0
  cases e2
  exact ⟨e0, fps 0, ho, w.nd 0, w.new 0⟩
/-- a def whose self is changed, without a return -/
theorem fn_bodyM {h : o.ty.den → ts.den → Mx o.ty.den} (F : FunD K x qual (defArgs st) (defBody st) (defScope st) dvs kws f fd) (S : FnScope N ps (defScope st)) (hp : ps.length = n + 1) (ha : ts.args = some n)
    (hb : ∀ (cdv : Value) (A : Around) (outer : List Env) (s : Shared) (H : Hp) (E : XK), Room k (A.deeper (envOfC qual (defScope st) s.heap.objs.size f cdv)) → Takes (cxOf (L2.CX P w) P w K mg base N qual (defScope st) f cdv A outer s H E) (fun cls d _ H => E cls d H) →
      PassesOwn (model P w) (A.deeper (envOfC qual (defScope st) s.heap.objs.size f cdv)) (envOfC qual (defScope st) s.heap.objs.size f cdv) (cxOf (L2.CX P w) P w K mg base N qual (defScope st) f cdv A outer s H E).xe →
      ∀ (x : o.ty.den) (y : ts.den), BS (cxOf (L2.CX P w) P w K mg base N qual (defScope st) f cdv A outer s H E) (fun cls d _ H => E cls d H) [0] (.o o x :: ctx0 ts y (N.length - (n + 1))) (defBody st) (h x y) (fun z => .nx (.o o z :: List.replicate (N.length - 1) .no))) :
    FnOk P w K mg base (L2.CX P w) (k + 1) f fd ps (spM K mg o ts .non fun x y => h x y >>= fun z => .ok ((), z)) := by
  refine F.ok S (fun vs H Q E hh => ?_) (fun cdv A outer s H vs Q E hr hh => ?_)
  · obtain ⟨G, B, x, y, v, ws, fp, rfl, hs, hB, ho, nd, nw, rr, _⟩ := hh
    rw [List.length_cons, (args_len ha rr).1, hp]
  · obtain ⟨G, B, x, y, v, ws, fp, rfl, hs, hB, ho, nd, nw, rr, q⟩ := hh
    refine ⟨_, hb cdv A outer s H E hr (takes_of rfl rfl rfl rfl) (passes_of rfl) x y, ⟨G, B, [0], L2.start N (v :: ws)⟩, G, rfl, sg_startM hs hB ho nd nw ha rr, ?_⟩
    dsimp only at q
    cases e : h x y with
    | no => rw [e] at q; exact q
    | ex z => rw [e] at q; exact fun cls d σ F' H' x _ r => q cls d F' H' x r
    | ok z =>
      rw [e] at q
      intro σ F' H' sg
      obtain ⟨e0, fp', m1, m2, m3⟩ := end_M (v := v) rfl rfl sg
      exact q .non F' H' fp' e0 rfl m1 m2 m3
/-- .. with returns -/
theorem fn_bodyR {h : o.ty.den → ts.den → Mx (t.den × o.ty.den)} (F : FunD K x qual (defArgs st) (defBody st) (defScope st) dvs kws f fd) (S : FnScope N ps (defScope st)) (hp : ps.length = n + 1) (ha : ts.args = some n)
    (hb : ∀ (cdv : Value) (A : Around) (outer : List Env) (s : Shared) (H : Hp) (E : XK), Room k (A.deeper (envOfC qual (defScope st) s.heap.objs.size f cdv)) → Takes (cxOf (L2.CX P w) P w K mg base N qual (defScope st) f cdv A outer s H E) (fun cls d _ H => E cls d H) →
      PassesOwn (model P w) (A.deeper (envOfC qual (defScope st) s.heap.objs.size f cdv)) (envOfC qual (defScope st) s.heap.objs.size f cdv) (cxOf (L2.CX P w) P w K mg base N qual (defScope st) f cdv A outer s H E).xe →
      ∀ (x : o.ty.den) (y : ts.den), BS (cxOf (L2.CX P w) P w K mg base N qual (defScope st) f cdv A outer s H E) (fun cls d _ H => E cls d H) [0] (.o o x :: ctx0 ts y (N.length - (n + 1))) (defBody st) (h x y) (fun z => .rs t z.1 o z.2)) :
    FnOk P w K mg base (L2.CX P w) (k + 1) f fd ps (spM K mg o ts t h) := by
  refine F.ok S (fun vs H Q E hh => ?_) (fun cdv A outer s H vs Q E hr hh => ?_)
  · obtain ⟨G, B, x, y, v, ws, fp, rfl, hs, hB, ho, nd, nw, rr, _⟩ := hh
    rw [List.length_cons, (args_len ha rr).1, hp]
  · obtain ⟨G, B, x, y, v, ws, fp, rfl, hs, hB, ho, nd, nw, rr, q⟩ := hh
    refine ⟨_, hb cdv A outer s H E hr (takes_of rfl rfl rfl rfl) (passes_of rfl) x y, ⟨G, B, [0], L2.start N (v :: ws)⟩, G, rfl, sg_startM hs hB ho nd nw ha rr, ?_⟩
    cases e : h x y with
    | no => rw [e] at q; exact q
    | ex z => rw [e] at q; exact fun cls d σ F' H' x _ r => q cls d F' H' x r
    | ok z =>
      rw [e] at q
      intro u Γ1 σ F' H' hΓ sg ru
      obtain ⟨e0, fp', m1, m2, m3⟩ := end_M (v := v) rfl hΓ sg
      exact q u F' H' fp' e0 ru m1 m2 m3
end
section
variable {X : Cx} {W : WX} {hk : List Nat} {Γ Γ' Γv Γi : Ctx} {st : Stmt} {rest : List Stmt} {a b e o1 : Expr} {es : List Expr} {pos p p' p2 apos cpos : Pos} {β : Type} {r : Rt} {t : Ty} {I : β → Out} {c f n m : Str} {ns ps : List Str} {C fI g : Addr} {fs o : Ow} {x : o.ty.den} {fd : FuncData} {k : Nat}
/-- an expression that changes slot i's thing -/
def tMu (K : PySem.W.Frag) (mg : Str → Option Value) (W : WX) (E : Ent) (Γ : Ctx) (i : Nat) (o : Ow) (t : Ty) (M : Mx (t.den × o.ty.den)) : TE := fun σ H Q => ∃ F, SG K mg E Γ σ F H ∧ postS mg W E M fun z => ∀ u F' H', SG K mg E (Γ.set i (.o o z.2)) σ F' H' → rl K mg t z.1 [u] F' → Q u H'
abbrev EMu (X : Cx) (W : WX) (Γ : Ctx) (e : Expr) (i : Nat) (o : Ow) (t : Ty) (M : Mx (t.den × o.ty.den)) : Prop := ∀ E : Ent, PE X e (tMu X.K X.mg W E Γ i o t M)
theorem SG.lookA {K : PySem.W.Frag} {mg : Str → Option Value} {E : Ent} {σ : L2.St} {F H : Hp} {ts : Ty} (g : SG K mg E Γ σ F H) (v : Vw Γ (.d ts) Γv) : ∃ G, Same G H ∧ SD K mg Γv σ G ∧ ∀ F' H', Ext G H F' H' → ∃ F2, Ext F H F2 H' ∧ (∀ (x : ts.den) (vs : List V), rl K mg ts x vs F' → rl K mg ts x vs F2) ∧ ∀ b fs, F' b = some (.xd fs) → F2 b = some (.xd fs) := by
  cases v with
  | all h =>
    obtain ⟨e0, _, fps, q⟩ := g
    refine ⟨frozen F H fps, q.frozen_h e0.i, q.sd, fun F' H' x => ?_⟩
    obtain ⟨y, z⟩ := q.back e0.i x
    exact ⟨_, y, fun x vs r => rl_flat (fun b o e hk => z b o e (hk.imp_right .inl)) ts h x vs r, fun b fs e => z b _ e (.inr (.inr ⟨fs, rfl⟩))⟩
  | hid => exact ⟨F, g.e0.i, g.sd_hide, fun F' H' x => ⟨F', x, fun _ _ r => r, fun _ _ q => q⟩⟩
theorem SGf.subM {K : PySem.W.Frag} {mg : Str → Option Value} {E : Ent} {σ : L2.St} {F H : Hp} {fps : Nat → List Addr} {i : Nat} {o' : Ow} {y : o'.ty.den} {put : o'.ty.den → o.ty.den} {v u : V} (g : SGf K mg E Γ σ F H fps) (hi : Γ[i]? = some (.o o x)) (hv : σ[i]? = some (some v))
    (S : SubAt K mg o o' y put F H v (fps i) u) : ∃ fb : List Addr, fb.Nodup ∧ (∀ a ∈ fb, F a = none ∧ E.B a = none ∧ H a ≠ none) ∧ ol K mg o' y [u] F H fb ∧
    ∀ {F2 H3 : Hp} {y' : o'.ty.den} {fb' : List Addr}, Same F F2 → Same F2 H3 → fb'.Nodup → (∀ a ∈ fb', F2 a = none ∧ (a ∈ fb ∨ H a = none)) → (∀ a, a ∉ fb → H a ≠ none → H3 a = H a ∧ (F a = none → F2 a = none)) → ol K mg o' y' [u] F2 H3 fb' → SG K mg E (Γ.set i (.o o (put y'))) σ F2 H3 := by
  obtain ⟨fa, fb, s1, s2, s3, s4, oi, rb⟩ := S
  have nF : ∀ a ∈ fps i, F a = none := fun a ha => (g.ow.new i a ha).1
  have cell : ∀ a ∈ fps i, H a ≠ none := fun a ha z => by
    obtain ⟨ob, h1, _⟩ := g.ow.cell i a ha
    rw [h1] at z; cases z
  refine ⟨fb, s4, fun a ha => ⟨nF a (s2 a ha), (g.ow.new i a (s2 a ha)).2, cell a (s2 a ha)⟩, oi, fun {F2 H3 y' fb'} f1 f2 k1 k2 k3 k5 => ?_⟩
  have fresh : ∀ a ∈ fb', a ∉ fa := fun a ha hb => by
    rcases (k2 a ha).2 with z | z
    · exact s3 a hb z
    · exact cell a (s1 a hb) z
  obtain ⟨fp', m1, m2, m3⟩ := rb F2 H3 y' fb' f1 (fun a ha => (k3 a (s3 a ha) (cell a (s1 a ha))).1) k5 k1 fresh
  refine g.renew hi hv f1 f2 m1 (fun a ha => ?_) (fun a ha hn => k3 a (fun z => ha (s2 a z)) hn) m3
  rcases m2 a ha with z | z
  · exact ⟨(k3 a (s3 a z) (cell a (s1 a z))).2 (nF a (s1 a z)), .inl (s1 a z)⟩
  · rcases (k2 a z).2 with y | y
    · exact ⟨(k2 a z).1, .inl (s2 a y)⟩
    · exact ⟨(k2 a z).1, .inr y⟩
theorem mu_read {i : Nat} {ts : Ty} {E : Ent} {y : fs.ty.den} {put : fs.ty.den → o.ty.den} {h : fs.ty.den → ts.den → Mx (t.den × fs.ty.den)} {ma : Mx ts.den} (hi : Γ[i]? = some (.o o x)) (hc : X.mg c = some (.ref C)) (hn : fidx ns m = none) (vw : Vw Γ (.d ts) Γv) :
    ∀ σ H Q, tMu X.K X.mg W E Γ i o t (ma >>= fun a => h y a >>= fun z => .ok (z.1, put z.2)) σ H Q → tMet C m (spM X.K X.mg (.ins c ns fs) ts t h) (WE W) (tPl X.K X.mg E Γ i o (.ins c ns fs) y put) (tA X.mg X.K W Γv ts ma) σ H Q := fun σ H Q ⟨F, g, q⟩ => by
  obtain ⟨fps, g⟩ := g.f
  obtain ⟨ov, e1, v, rfl, ho⟩ := g.ow.at_ i _ hi
  refine ⟨F, v, fps, g, e1, fun u S => ?_⟩
  obtain ⟨fb, nd, nF, ob, fin⟩ := g.subM hi e1 S
  obtain ⟨q0, C', dx, ws, fp2, e2, e3, mc, h1, h2, hl, oo⟩ := id ob
  rw [hc] at mc
  cases mc
  cases (List.cons.inj e2).1
  refine ⟨q0, dx, _, rfl, h1, fidx_none hn, ?_⟩
  obtain ⟨G, g1, g2, g3⟩ := g.sg.lookA vw
  refine ⟨G, g1, g2, q.bind.post g.sg (fun F' H' x => let ⟨F2, a, _, b⟩ := g3 F' H' x; ⟨F2, a, b⟩) fun ya py vs F' H' ex r1 => ?_⟩
  obtain ⟨F2, x2, back, _⟩ := g3 F' H' ex
  have r2 := back ya vs r1
  have hup : ∀ a, H a ≠ none → H' a = H a := fun a h => by
    cases e : H a with
    | none => exact absurd e h
    | some z => exact x2.h _ _ e
  have hB : ∃ B : Hp, (∀ a, a ∈ fb → B a = none) ∧ ∀ a, a ∉ fb → B a = H' a := by
    classical
    exact ⟨fun a => if a ∈ fb then none else H' a, fun a ha => if_pos ha, fun a ha => if_neg ha⟩
  obtain ⟨B, b1, b2⟩ := hB
  have sB : Same B H' := fun a z e => by
    by_cases ha : a ∈ fb
    · rw [b1 a ha] at e; cases e
    · rw [b2 a ha] at e; exact e
  have nF2 : ∀ a ∈ fb, F2 a = none := fun a ha => x2.n a (nF a ha).2.2 (nF a ha).1
  refine ⟨F2, B, y, ya, .ref q0, vs, fb, rfl, x2.i, sB, ol_frame x2.f _ _ _ _ (fun a ha => hup a (nF a ha).2.2) ob, nd, fun a ha => ⟨nF2 a ha, b1 a ha⟩, r2, ?_⟩
  have py : postS X.mg W E (h y ya >>= fun z => .ok (z.1, put z.2)) fun z => ∀ u F' H', SG X.K X.mg E (Γ.set i (.o o z.2)) σ F' H' → rl X.K X.mg t z.1 [u] F' → Q u H' := py
  cases hh : h y ya with
  | no => rw [hh] at py; exact py
  | ex z =>
    rw [hh] at py
    refine fun cls d F3 H3 x3 r => py cls d σ F3 H3 ⟨(g.e0.f.trans x2.f).trans x3.f, fun b ob eb => x3.h _ _ ?_, x3.i, fun p hp hf => ?_⟩ g.kp r
    · have hb : b ∉ fb := fun z => by rw [(nF b z).2.1] at eb; cases eb
      rw [b2 b hb]
      exact x2.h _ _ (g.e0.h _ _ eb)
    · have hb : p ∉ fb := fun z => hp (nF p z).2.1
      have hH : H p ≠ none := fun z => hp (g.e0.h.free z)
      exact x3.n p (by rw [b2 p hb, hup p hH]; exact hH) (x2.n p hH (g.e0.n p hp hf))
  | ok z =>
    rw [hh] at py
    refine fun u F3 H3 fp' x3 r o3 nd3 nw3 => py u F3 H3 (fin (x2.f.trans x3.f) x3.i nd3 (fun a ha => ⟨(nw3 a ha).1, ?_⟩) (fun a ha hn => ⟨?_, fun hf => x3.n a (by rw [b2 a ha, hup a hn]; exact hn) (x2.n a hn hf)⟩) o3) r
    · by_cases hb : a ∈ fb
      · exact .inl hb
      · right
        have := (nw3 a ha).2
        rw [b2 a hb] at this
        exact x2.h.free this
    · cases e : H a with
      | none => exact absurd e hn
      | some w =>
        refine x3.h _ _ ?_
        rw [b2 a ha]
        exact x2.h _ _ e
/-- place.m(..), m changes its self -/
theorem mu_met {pl : Sem Bool} {i : Nat} {ts : Ty} {y : fs.ty.den} {put : fs.ty.den → o.ty.den} {h : fs.ty.den → ts.den → Mx (t.den × fs.ty.den)} {ma : Mx ts.den} (hi : Γ[i]? = some (.o o x)) (hp : PLc X Γ o1 i o (.ins c ns fs) y put) (hc : X.mg c = some (.ref C)) (cl : Cls X.K C) (hm : Meth X.K C m g)
    (Fn : FnOk X.prog X.w X.K X.mg X.base (L2.CX X.prog X.w) k g fd ps (spM X.K X.mg (.ins c ns fs) ts t h)) (hr : Room k X.A) (hb : Binds X.K fd ps []) (tk : Takes X W) (hn : fidx ns m = none) (ha : EA X W Γv (e :: es) ts ma) (vw : Vw Γ (.d ts) Γv)
    (hst : starEach (e :: es) X.env = (false, eval e X.env) :: starEach es X.env) (hpl : (backTo pos (starEach es X.env)).any (·.1) = false)
    (ht : eval (.Call (.Attribute o1 m apos) (e :: es) [] pos) X.env = (eval o1 X.env >>= fun ov => standAt apos.atName >>= fun _ => holding [ov] (getMethod ov m pl) >>= fun q => callWith pos q.1 q.2 (backTo pos (starEach (e :: es) X.env)) (backToKw pos (keywordEach [] X.env)))) :
    EMu X W Γ (.Call (.Attribute o1 m apos) (e :: es) [] pos) i o t (ma >>= fun a => h y a >>= fun z => .ok (z.1, put z.2)) := fun E => pe_imp (pe_met (hp E) cl hm Fn hr hb tk ha hst hpl ht) (mu_read hi hc hn vw)
theorem mu_met0 {pl : Sem Bool} {i : Nat} {y : fs.ty.den} {put : fs.ty.den → o.ty.den} {h : fs.ty.den → Ty.nl.den → Mx (t.den × fs.ty.den)} (hi : Γ[i]? = some (.o o x)) (hp : PLc X Γ o1 i o (.ins c ns fs) y put) (hc : X.mg c = some (.ref C)) (cl : Cls X.K C) (hm : Meth X.K C m g)
    (Fn : FnOk X.prog X.w X.K X.mg X.base (L2.CX X.prog X.w) k g fd ps (spM X.K X.mg (.ins c ns fs) .nl t h)) (hr : Room k X.A) (hb : Binds X.K fd ps []) (tk : Takes X W) (hn : fidx ns m = none)
    (ht : eval (.Call (.Attribute o1 m apos) [] [] pos) X.env = (eval o1 X.env >>= fun ov => standAt apos.atName >>= fun _ => holding [ov] (getMethod ov m pl) >>= fun q => callWith pos q.1 q.2 (backTo pos (starEach [] X.env)) (backToKw pos (keywordEach [] X.env)))) :
    EMu X W Γ (.Call (.Attribute o1 m apos) [] [] pos) i o t (h y () >>= fun z => .ok (z.1, put z.2)) := fun E => pe_imp (pe_met0 (hp E) cl hm Fn hr hb tk ht) fun σ H Q q => by
  obtain ⟨F, v, fps, g, e1, kk⟩ := mu_read (ts := .nl) (Γv := hide Γ) (ma := .ok ()) (h := h) hi hc hn .hid σ H Q q
  refine ⟨F, v, fps, g, e1, fun u S => ?_⟩
  obtain ⟨a, dx, fs', ea, h1, h2, G, g1, g2, p2⟩ := kk u S
  exact ⟨a, dx, fs', ea, h1, h2, p2 [] G _ (Ext.refl g1) rfl⟩
/-- the statement e, e changes slot i's thing -/
theorem bs_exprM (i : Nat) {M : Mx (t.den × o.ty.den)} {kk : o.ty.den → Mx β} (he : EMu X W Γ e i o t M) (hr : ∀ y, BS X W hk (Γ.set i (.o o y)) rest (kk y) I) (hs : swapsWith e none pos.line X.env = pure false) :
    BS X W hk Γ (.Expr e pos :: rest) (M >>= fun z => kk z.2) I :=
  have hr' : PSs X rest (fun D σ H => ∃ y, tS X.K X.mg W hk (Γ.set i (.o o y)) (kk y) I D σ H) := ⟨fun pins s σ H D J ⟨x, q⟩ => (hr x).run pins s σ H D J q⟩
  pss_imp (pss_cons (ps_expr (pe_ex he) hs) hr') fun D σ H ⟨E, F, h, g, q⟩ => ⟨E, F, g, q.bind.mono fun z pz u F' H' g' ru => ⟨z.2, E, F', h, g', pz⟩⟩
/-- x = e, e changes slot i's thing -/
theorem bs_setM (i j : Nat) {x : Str} {M : Mx (t.den × o.ty.den)} {kk : t.den → o.ty.den → Mx β} {pos' : Pos} (he : EMu X W Γ e i o t M) (hr : ∀ z y, BS X W hk ((Γ.set i (.o o y)).set j (.d t z)) rest (kk z y) I) (hN : X.N.Nodup) (hj : X.N[j]? = some x) (hl : Loc X.env.scope x) (hf : X.fn x = true ∨ X.env.scope.names.lookup x = some .local)
    (hb : Nat.ble (j + 1) Γ.length = true) (hn : hk.contains j = false) (hs : swapsWith e (some (.Name x pos')) pos.line X.env = pure false) : BS X W hk Γ (.Assign [.Name x pos'] e pos :: rest) (M >>= fun z => kk z.1 z.2) I :=
  have hr' : PSs X rest (fun D σ H => ∃ p : t.den × o.ty.den, tS X.K X.mg W hk ((Γ.set i (.o o p.2)).set j (.d t p.1)) (kk p.1 p.2) I D σ H) := ⟨fun pins s σ H D J ⟨x, q⟩ => (hr x.1 x.2).run pins s σ H D J q⟩
  pss_imp (pss_cons (ps_set hN hj hl (pe_ex he) hs hf) hr') fun D σ H ⟨E, F, h, g, q⟩ => ⟨E, F, g, q.bind.mono fun z pz u F' H' g' ru => ⟨z, E, F', h, g'.set (r := .d t) (Ext.refl g'.e0.i) ru (by rw [List.length_set]; exact Nat.le_of_ble_eq_true hb) (fun hh => by rw [h] at hh; rw [List.contains_iff_mem.mpr hh] at hn; cases hn), pz⟩⟩
/-- return e in a method that changes its self -/
theorem bs_retS {me : Mx t.den} {bb : t.den → β} {y : o.ty.den} (h0 : Γ[0]? = some (.o o y)) (he : EM X W Γv e t me) (vw : Vw Γ (.d t) Γv) (hI : ∀ z, I (bb z) = .rs t z o y) : BS X W hk Γ (.Return (some e) pos :: rest) (me >>= fun z => .ok (bb z)) I :=
  pss_imp (pss_cons (ps_ret he) pss_never) fun D σ H ⟨E, F, h, g, q⟩ => by
    obtain ⟨G, g1, g2, g3⟩ := g.look vw
    refine ⟨G, g1, g2, q.bind.post g (fun F' H' x => let ⟨F2, a, _, b⟩ := g3 F' H' x; ⟨F2, a, b⟩) fun z pz v F' H' ex rr => ?_⟩
    obtain ⟨F2, x2, back, _⟩ := g3 F' H' ex
    have pz : outP X.K X.mg E D (I (bb z)) := pz
    rw [hI] at pz
    exact pz v Γ σ F2 H' h0 (g.grow x2) (back z v rr)
/-- return m(..), m changes self -/
theorem bs_retM {M : Mx (t.den × o.ty.den)} {bb : t.den → o.ty.den → β} (h0 : 0 < Γ.length) (he : EMu X W Γ e 0 o t M) (hI : ∀ z y, I (bb z y) = .rs t z o y) : BS X W hk Γ (.Return (some e) pos :: rest) (M >>= fun z => .ok (bb z.1 z.2)) I :=
  pss_imp (pss_cons (ps_ret (pe_ex he)) pss_never) fun D σ H ⟨E, F, h, g, q⟩ => ⟨E, F, g, q.bind.mono fun z pz u F' H' g' ru => by
    have pz : outP X.K X.mg E D (I (bb z.1 z.2)) := pz
    rw [hI] at pz
    exact pz u _ σ F' H' (List.getElem?_set_self h0) g' ru⟩
end
end Gm
set_option Elab.async false
set_option linter.all false
set_option maxRecDepth 100000
set_option maxHeartbeats 4000000
namespace Gm
open PySem PySem.Spec L2
/-- d[x] = y, by the things alone -/
def dputP {α β : Type} [DecidableEq α] (d : List (α × β)) (x : α) (y : β) : Option (List (α × β)) := if d.length < sizeLine then some (dput d x y) else none
theorem dputO_eq {k t : Ty} [DecidableEq k.den] (d : List (k.den × t.den)) (x : k.den) (y : t.den) : dputO (k := k) (t := t) d x y = dputP d x y := id rfl
section
variable {X : Cx} {W : WX} {hk : List Nat} {Γ Γ' Γv Γi : Ctx} {st : Stmt} {rest : List Stmt} {a b e : Expr} {pos p p' p2 apos cpos : Pos} {β : Type} {t : Ty} {I : β → Out} {n m : Str} {o : Ow} {α : Type}
/-- place.m(..), m without a return -/
theorem bs_metN (i : Nat) {ts : Type} {D : Type} {ma : Mx ts} {h : ts → Mx D} {put : D → o.ty.den} {kk : o.ty.den → Mx β} (he : EMu X W Γ e i o .non (ma >>= fun a => (h a >>= fun z => .ok ((), z)) >>= fun z => .ok (z.1, put z.2))) (hr : ∀ y, BS X W hk (Γ.set i (.o o (put y))) rest (kk (put y)) I) (hs : swapsWith e none pos.line X.env = pure false) :
    BS X W hk Γ (.Expr e pos :: rest) (ma >>= fun a => h a >>= fun y => kk (put y)) I :=
  have hr' : PSs X rest (fun D1 σ H => ∃ y, tS X.K X.mg W hk (Γ.set i (.o o (put y))) (kk (put y)) I D1 σ H) := ⟨fun pins s σ H D J ⟨x, q⟩ => (hr x).run pins s σ H D J q⟩
  pss_imp (pss_cons (ps_expr (pe_ex he) hs) hr') fun D σ H ⟨E, F, h0, g, q⟩ => ⟨E, F, g, by
    cases ma with
    | no => exact q
    | ex z => exact q
    | ok a =>
      have q : postS X.mg W E (h a >>= fun y => kk (put y)) (fun b => outP X.K X.mg E D (I b)) := q
      show postS X.mg W E ((h a >>= fun z => Mx.ok ((), z)) >>= fun z => Mx.ok (z.1, put z.2)) _
      cases hh : h a with
      | no => rw [hh] at q; exact q
      | ex z => rw [hh] at q; exact q
      | ok y => rw [hh] at q; exact fun u F' H' g' ru => ⟨y, E, F', h0, g', q⟩⟩
/-- the same, the rest asks for the part -/
theorem bs_metP (i : Nat) {ts : Type} {D : Type} {ma : Mx ts} {h : ts → Mx D} {put : D → o.ty.den} {kk : D → Mx β} (he : EMu X W Γ e i o .non (ma >>= fun a => (h a >>= fun z => .ok ((), z)) >>= fun z => .ok (z.1, put z.2))) (hr : ∀ y, BS X W hk (Γ.set i (.o o (put y))) rest (kk y) I) (hs : swapsWith e none pos.line X.env = pure false) :
    BS X W hk Γ (.Expr e pos :: rest) (ma >>= fun a => h a >>= kk) I :=
  have hr' : PSs X rest (fun D1 σ H => ∃ y, tS X.K X.mg W hk (Γ.set i (.o o (put y))) (kk y) I D1 σ H) := ⟨fun pins s σ H D J ⟨x, q⟩ => (hr x).run pins s σ H D J q⟩
  pss_imp (pss_cons (ps_expr (pe_ex he) hs) hr') fun D σ H ⟨E, F, h0, g, q⟩ => ⟨E, F, g, by
    cases ma with
    | no => exact q
    | ex z => exact q
    | ok a =>
      have q : postS X.mg W E (h a >>= kk) (fun b => outP X.K X.mg E D (I b)) := q
      show postS X.mg W E ((h a >>= fun z => Mx.ok ((), z)) >>= fun z => Mx.ok (z.1, put z.2)) _
      cases hh : h a with
      | no => rw [hh] at q; exact q
      | ex z => rw [hh] at q; exact q
      | ok y => rw [hh] at q; exact fun u F' H' g' ru => ⟨y, E, F', h0, g', q⟩⟩
/-- the statement place.m(..), m gives a value that is dropped -/
theorem bs_metV (i : Nat) {ts : Type} {D : Type} {ma : Mx ts} {h : ts → Mx (t.den × D)} {put : D → o.ty.den} {kk : D → Mx β} (he : EMu X W Γ e i o t (ma >>= fun a => h a >>= fun z => .ok (z.1, put z.2))) (hr : ∀ y, BS X W hk (Γ.set i (.o o (put y))) rest (kk y) I) (hs : swapsWith e none pos.line X.env = pure false) :
    BS X W hk Γ (.Expr e pos :: rest) (ma >>= fun a => h a >>= fun z => kk z.2) I :=
  have hr' : PSs X rest (fun D1 σ H => ∃ y, tS X.K X.mg W hk (Γ.set i (.o o (put y))) (kk y) I D1 σ H) := ⟨fun pins s σ H D J ⟨x, q⟩ => (hr x).run pins s σ H D J q⟩
  pss_imp (pss_cons (ps_expr (pe_ex he) hs) hr') fun D σ H ⟨E, F, h0, g, q⟩ => ⟨E, F, g, by
    cases ma with
    | no => exact q
    | ex z => exact q
    | ok a =>
      have q : postS X.mg W E (h a >>= fun z => kk z.2) (fun b => outP X.K X.mg E D (I b)) := q
      show postS X.mg W E (h a >>= fun z => Mx.ok (z.1, put z.2)) _
      cases hh : h a with
      | no => rw [hh] at q; exact q
      | ex z => rw [hh] at q; exact q
      | ok y => rw [hh] at q; exact fun u F' H' g' ru => ⟨y.2, E, F', h0, g', q⟩⟩
/-- x = place.m(..) -/
theorem bs_metR (i j : Nat) {x : Str} {ts : Type} {D : Type} {ma : Mx ts} {h : ts → Mx (t.den × D)} {put : D → o.ty.den} {kk : t.den → D → Mx β} {pos' : Pos} (he : EMu X W Γ e i o t (ma >>= fun a => h a >>= fun z => .ok (z.1, put z.2))) (hr : ∀ z y, BS X W hk ((Γ.set i (.o o (put y))).set j (.d t z)) rest (kk z y) I)
    (hN : X.N.Nodup) (hj : X.N[j]? = some x) (hl : Loc X.env.scope x) (hf : X.fn x = true ∨ X.env.scope.names.lookup x = some .local) (hb : Nat.ble (j + 1) Γ.length = true) (hn : hk.contains j = false) (hs : swapsWith e (some (.Name x pos')) pos.line X.env = pure false) :
    BS X W hk Γ (.Assign [.Name x pos'] e pos :: rest) (ma >>= fun a => h a >>= fun z => kk z.1 z.2) I :=
  have hr' : PSs X rest (fun D1 σ H => ∃ p : t.den × D, tS X.K X.mg W hk ((Γ.set i (.o o (put p.2))).set j (.d t p.1)) (kk p.1 p.2) I D1 σ H) := ⟨fun pins s σ H D J ⟨x, q⟩ => (hr x.1 x.2).run pins s σ H D J q⟩
  pss_imp (pss_cons (ps_set hN hj hl (pe_ex he) hs hf) hr') fun D σ H ⟨E, F, h0, g, q⟩ => ⟨E, F, g, by
    cases ma with
    | no => exact q
    | ex z => exact q
    | ok a =>
      have q : postS X.mg W E (h a >>= fun z => kk z.1 z.2) (fun b => outP X.K X.mg E D (I b)) := q
      show postS X.mg W E (h a >>= fun z => Mx.ok (z.1, put z.2)) _
      cases hh : h a with
      | no => rw [hh] at q; exact q
      | ex z => rw [hh] at q; exact q
      | ok y =>
        rw [hh] at q
        exact fun u F' H' g' ru => ⟨y, E, F', h0, g'.set (r := .d t) (Ext.refl g'.e0.i) ru (by rw [List.length_set]; exact Nat.le_of_ble_eq_true hb) (fun hh => by rw [h0] at hh; rw [List.contains_iff_mem.mpr hh] at hn; cases hn), q⟩⟩
/-- return self.m(..) -/
theorem bs_retR {ts : Type} {D : Type} {ma : Mx ts} {h : ts → Mx (t.den × D)} {put : D → o.ty.den} {bb : t.den → D → β} (h0 : Nat.ble 1 Γ.length = true) (he : EMu X W Γ e 0 o t (ma >>= fun a => h a >>= fun z => .ok (z.1, put z.2))) (hI : ∀ z y, I (bb z y) = .rs t z o (put y)) :
    BS X W hk Γ (.Return (some e) pos :: rest) (ma >>= fun a => h a >>= fun z => .ok (bb z.1 z.2)) I :=
  pss_imp (pss_cons (ps_ret (pe_ex he)) pss_never) fun D σ H ⟨E, F, h1, g, q⟩ => ⟨E, F, g, by
    cases ma with
    | no => exact q
    | ex z => exact q
    | ok a =>
      have q : postS X.mg W E (h a >>= fun z => .ok (bb z.1 z.2)) (fun b => outP X.K X.mg E D (I b)) := q
      show postS X.mg W E (h a >>= fun z => Mx.ok (z.1, put z.2)) _
      cases hh : h a with
      | no => rw [hh] at q; exact q
      | ex z => rw [hh] at q; exact q
      | ok y =>
        rw [hh] at q
        have q : outP X.K X.mg E D (I (bb y.1 y.2)) := q
        rw [hI] at q
        exact fun u F' H' g' ru => q u _ σ F' H' (List.getElem?_set_self (Nat.le_of_ble_eq_true h0)) g' ru⟩
theorem bs_opt {oo : Option α} {kk : α → Mx β} (h : ∀ y, oo = some y → BS X W hk Γ rest (kk y) I) : BS X W hk Γ rest (ofO oo >>= kk) I := by
  cases oo with
  | none => exact bs_no
  | some y => exact h y rfl
/-! ## text * int -/
def repS (x : Str) (n : Int) : Option Str := if -1000 ≤ n ∧ n ≤ 1000 ∧ x.length ≤ 1000 then some (if n < 1 then Str.empty else if (n == 1 || x.length == 0) = true then x else ⟨(List.replicate n.toNat x.cps).foldl (· ++ ·) #[]⟩) else none
theorem rep_size {α : Type} (a : Array α) : ∀ (k : Nat) (b : Array α), ((List.replicate k a).foldl (fun x y => x ++ y) b).size = b.size + k * a.size
  | 0, b => by simp
  | k + 1, b => by
    rw [List.replicate_succ, List.foldl_cons, rep_size a k, Array.size_append, Nat.succ_mul]
    omega
def rRepS : R2 := fun x y H Q => ∃ s n z, x = .str s ∧ y = .int n ∧ repS s n = some z ∧ Q (.str z) H
theorem op_repS : OpR X (binaryOp .Mult) rRepS := by
  intro pins s σ H x y v u Q I rx ry h
  obtain ⟨z, n, w, rfl, rfl, hz, q⟩ := h
  obtain ⟨tk, rfl⟩ := rx
  obtain ⟨tu, rfl⟩ := ry
  unfold repS at hz
  by_cases hc : -1000 ≤ n ∧ n ≤ 1000 ∧ z.length ≤ 1000
  rotate_left
  · rw [if_neg hc] at hz; cases hz
  rw [if_pos hc] at hz
  obtain ⟨c1, c2, c3⟩ := hc
  have hb : ¬ n < 1 → (n == 1 || z.length == 0) = false → ¬ ((z.length : Int) > (2 ^ 63 - 1) / n) := fun h1 _ => by
    have : (1000 : Int) ≤ (2 ^ 63 - 1) / n := by
      rw [Int.le_ediv_iff_mul_le (by omega)]; omega
    omega
  have hl : ¬ n < 1 → (n == 1 || z.length == 0) = false → Builtin.Str.tooLong (z.length * n.toNat) = false := fun h1 _ => by
    have h2 : n.toNat ≤ 1000 := by omega
    have h3 : z.length * n.toNat ≤ 1000 * 1000 := Nat.mul_le_mul c3 h2
    unfold Builtin.Str.tooLong
    rw [decide_eq_false]
    rw [sizeLine_eq]
    omega
  refine PySem.P.mul_str (by rw [decide_eq_false (by omega), decide_eq_false (by omega)]; rfl) hb hl ?_
  by_cases h1 : n < 1
  · rw [if_pos h1] at hz ⊢
    cases hz
    exact ⟨by decide, .str Str.empty, H, I.tok _, ⟨_, rfl⟩, q⟩
  · rw [if_neg h1] at hz ⊢
    cases h2 : (n == 1 || z.length == 0) with
    | true =>
      rw [h2, if_pos rfl] at hz
      rw [if_pos rfl]
      cases hz
      exact ⟨.str z, H, I, ⟨_, rfl⟩, q⟩
    | false =>
      rw [h2, if_neg Bool.false_ne_true] at hz
      rw [if_neg Bool.false_ne_true]
      cases hz
      refine ⟨?_, .str _, H, I.tok _, ⟨_, rfl⟩, q⟩
      have := hl h1 h2
      unfold Builtin.Str.tooLong at this
      have h3 := of_decide_eq_false this
      show (List.foldl (fun x1 x2 => x1 ++ x2) #[] (List.replicate n.toNat z.cps)).size ≤ sizeLine
      rw [rep_size]
      have h4 : z.length = z.cps.size := rfl
      have h5 : (#[] : Array Nat).size = 0 := rfl
      rw [h4, Nat.mul_comm] at h3
      simp only [Array.size_empty]
      omega
theorem e_repS {m1 : Mx Str} {m2 : Mx Int} (ha : EM X W Γ a .str m1) (hb : EM X W Γ b .int m2) : EM X W Γ (.BinOp a .Mult b pos) .str (m1 >>= fun x => m2 >>= fun y => ofO (repS x y)) :=
  e_bin op_repS (fun x y z e v w F H Q s r1 r2 k => by
    cases (List.cons.inj (show [v] = [V.str x] from r1)).1
    cases (List.cons.inj (show [w] = [V.int y] from r2)).1
    exact ⟨x, y, z, rfl, rfl, e, k (.str z) F H (Ext.refl s) rfl⟩) ha hb
end
end Gm
set_option Elab.async false
set_option linter.all false
set_option maxRecDepth 100000
set_option maxHeartbeats 4000000
namespace Gm
open PySem PySem.Spec L2
section
variable {X : Cx} {W : WX} {hk : List Nat} {Γ Γ' Γv Γi : Ctx} {st : Stmt} {rest : List Stmt} {a b e : Expr} {pos p p' p2 apos cpos : Pos} {β : Type} {t t1 k : Ty} {I : β → Out} {n m : Str} {o : Ow}
/-! ## t[i] of a fixed tuple, i = 0 or 1 -/
def at01 {α β : Type} (x : α × α × β) (i : Int) : Option α := if i = 0 then some x.1 else if i = 1 then some x.2.1 else none
theorem e_ix01 {fs : Ty} {m1 : Mx (t.den × t.den × fs.den)} {m2 : Mx Int} (ha : EM X W Γ a (.tup (.pr t (.pr t fs))) m1) (hb : EM X W Γ b .int m2) (hs : PlainIx b := by intro _ _; rfl) : EM X W Γ (.Subscript a b pos) t (m1 >>= fun x => m2 >>= fun y => ofO (at01 x y)) :=
  e_ix (t1 := .tup (.pr t (.pr t fs))) (t2 := .int) (r := .d t) (g := fun x y => at01 x y) ix_tup hs (fun x y z e v w F H Q s r1 r2 k => by
    obtain ⟨p, ws, e1, sq, v1, r1, rfl, h1, v2, r2', rfl, h2, _⟩ := r1
    cases (List.cons.inj e1).1
    cases (List.cons.inj (show [w] = _ from r2)).1
    unfold at01 at e
    by_cases h : y = 0
    · rw [if_pos h] at e
      cases e
      subst h
      exact ⟨p, _, 0, v1, rfl, rfl, sqT_same s sq, atI_nat (xs := v1 :: v2 :: r2') (j := 0) rfl, k v1 F H (Ext.refl s) h1⟩
    · rw [if_neg h] at e
      by_cases h3 : y = 1
      · rw [if_pos h3] at e
        cases e
        subst h3
        exact ⟨p, _, 1, v2, rfl, rfl, sqT_same s sq, atI_nat (xs := v1 :: v2 :: r2') (j := 1) rfl, k v2 F H (Ext.refl s) h2⟩
      · rw [if_neg h3] at e; cases e) ha hb
/-! ## is, is not of truth values -/
theorem c_isB {m1 m2 : Mx Bool} (ha : EM X W Γ a .bool m1) (hb : EM X W Γ b .bool m2) : EM X W Γ (.Compare a [.Is] [b] pos) .bool (m1 >>= fun x => m2 >>= fun y => ofO (some (decide (x = y)))) :=
  e_cmp (r := .d .bool) (g := fun (x y : Bool) => some (decide (x = y))) op_isBl (nomark b) (fun x y z e v w F H Q s r1 r2 k => by
    cases e
    cases (List.cons.inj (show [v] = [V.bl x] from r1)).1
    cases (List.cons.inj (show [w] = [V.bl y] from r2)).1
    exact ⟨x, y, rfl, rfl, k (.bl (decide (x = y))) F H (Ext.refl s) rfl⟩) ha hb
theorem c_isnB {m1 m2 : Mx Bool} (ha : EM X W Γ a .bool m1) (hb : EM X W Γ b .bool m2) : EM X W Γ (.Compare a [.IsNot] [b] pos) .bool (m1 >>= fun x => m2 >>= fun y => ofO (some (!decide (x = y)))) :=
  e_cmp (r := .d .bool) (g := fun (x y : Bool) => some (!decide (x = y))) op_notBl (nomark b) (fun x y z e v w F H Q s r1 r2 k => by
    cases e
    cases (List.cons.inj (show [v] = [V.bl x] from r1)).1
    cases (List.cons.inj (show [w] = [V.bl y] from r2)).1
    exact ⟨x, y, rfl, rfl, k (.bl (!decide (x = y))) F H (Ext.refl s) rfl⟩) ha hb
/-! ## an owned list's items seen otherwise -/
theorem e_cvO {g : t.den → t1.den} {m : Mx (List t.den)} (c : Cv t t1 g) (h : EO X W Γ e (.l (.d t)) m) : EO X W Γ e (.l (.d t1)) (m >>= fun x => .ok (x.map g)) :=
  pe_imp h fun σ H Q ⟨F, s, d, q⟩ => ⟨F, s, d, q.bind.mono fun x px v F1 H1 e1 r1 => by
    obtain ⟨fp, r1, nd, nw⟩ := r1
    obtain ⟨q0, ws, rfl, e3, e4, rr⟩ := own_lst r1
    subst e3
    exact px (.ref q0) F1 H1 e1 ⟨[q0], lst_own (rr.mapl fun x v z => c.h _ _ _ x [v] z) e4, nd, nw⟩⟩
/-! ## {k: v} -/
def tNDisp (X : Cx) (tk tv : TE) : TE := fun σ H Q => ∀ p, H p = none → tk σ (upd H p (dnO X.prog X.w p [])) fun x H1 => tv σ H1 fun y H2 => ∃ b k, x = .ref b ∧ NK X H2 k b ∧ H2 p = some (dnO X.prog X.w p []) ∧ Q (.ref p) (upd H2 p (dnO X.prog X.w p [(k, b, y)]))
theorem dn_empty {P : Program} {w : World} {H : Hp} (h : Heap) (hb : sysModules < h.objs.size) : ObjOk P w H (h.push { cls := .type "dict", data := .dict #[] }) h.objs.size (dnO P w h.objs.size []) :=
  dn_ok ⟨Nat.zero_le _, beq_eq_false_iff_ne.mpr (Ne.symm (Nat.ne_of_lt hb)), [], .nil, _, #[], 0, Heap.get?_push_size _ rfl, ⟨rfl, rfl, rfl⟩, rfl, rfl, List.nodup_nil⟩
theorem pe_ndisp {kx vx : Expr} {tk tv : TE} (hu : X.A.units + 64 < cLine) (hk : PE X kx tk) (hv : PE X vx tv) : PE X (.Dict [some kx] [vx] pos) (tNDisp X tk tv) := by
  refine ⟨fun pins s σ H Q I q => ?_⟩
  have hn := I.hok.fresh (Nat.le_refl s.heap.objs.size)
  have I1 := I.laid (a := s.heap.objs.size) (o := dnO X.prog X.w s.heap.objs.size []) (h' := s.heap.push { cls := .type "dict", data := .dict #[] }) (t' := s.toks) (fun _ _ q => Heap.get?_push_of_some _ q) (Nat.le_refl _) (dn_empty s.heap I.big)
  have hl := pairTrees_length [some kx] [vx] X.env pos rfl rfl
  have hl1 : (pairTrees [some kx] [vx] X.env pos).length = 1 := hl
  have hne : pairTrees [some kx] [vx] X.env pos ≠ [] := fun he => by rw [he] at hl1; cases hl1
  rw [arm_eval_Dict, zip_pairTrees [some kx] [vx] X.env pos rfl rfl, dictDisplay_pairs _ hne (by omega)]
  refine wpAny_bind (wpAny_standAt (wpAny_bind ?_))
  refine wpAny_subDictH (knd := nestedKind X.prog X.w) (show X.A.units + 8 < cLine by omega) (by omega) ?_
  refine pairTrees_cons_walk (thn (hk.run pins _ σ _ _ I1 (q _ hn)) fun u s1 ⟨x, H1, J1, rx, q1⟩ => thn (hv.run pins s1 σ H1 _ J1 q1) fun w2 s2 ⟨y, H2, J2, ry, b, k, ex, kb, e2, q2⟩ => pairTrees_nil_walk ?_)
  subst ex
  cases (show u = Value.ref b from rx)
  obtain ⟨z, hd, xs, rel, dd⟩ := dn_of J2 (.inl e2) (fun _ m => nomatch m)
  cases rel
  refine ⟨[(k, b, w2)], ⟨rfl, rfl, kb _ _ _ J2, True.intro⟩, dd, fun h' tk' hm hs => wpAny_pure ⟨.ref s.heap.objs.size, _, ?_, rfl, q2⟩⟩
  obtain ⟨ob, es, ep, h1, h2, h3, h4, h5, h6⟩ := hm
  exact d_write J2 (by rw [e2]; exact True.intro) hs ⟨ob, h1⟩ (dn_ok ⟨by rw [sizeLine_eq, List.length_singleton]; decide, hd, [(k, b, w2)], .cons ⟨rfl, rfl, ry⟩ .nil, ob, es, ep, h1, h2, h3, h4, h6⟩)
theorem e_ndisp [DecidableEq k.den] {kx vx : Expr} {m1 : Mx k.den} {m2 : Mx t.den} (hk : k.kyN = true) (hu : X.A.units + 64 < cLine) (ha : EM X W Γ kx k m1) (hb : EM X W Γ vx t m2) : EO X W Γ (.Dict [some kx] [vx] pos) (.dicN X.prog X.w k (.d t)) (m1 >>= fun x => m2 >>= fun y => .ok [(x, y)]) :=
  have hk := kyN_of hk
  pe_imp (pe_ndisp hu ha hb) fun σ H Q ⟨F, s, d, q⟩ => fun p np => by
    have nF : F p = none := s.free np
    have e0 : Ext F H F (upd H p (dnO X.prog X.w p [])) := Ext.cell s np
    refine ⟨F, e0.i, d, post.ext e0 q.bind fun x px v F1 H1 e1 r1 => ⟨F1, e1.i, d.mono e1.f, post.ext (e0.trans e1) px.bind fun y py u F2 H2 e2 r2 => ?_⟩⟩
    obtain ⟨bb, rfl⟩ := hk.ref r1
    have e12 := e1.trans e2
    have h2 : H2 p = some (dnO X.prog X.w p []) := e12.h _ _ upd_same
    have nF2 : F2 p = none := e12.n p (by rw [upd_same]; exact fun z => nomatch z) nF
    refine ⟨bb, k.nk x, rfl, hk.nk e2.i (rl_mono e2.f k x _ r1), h2, ?_⟩
    have hup : Ext F H F2 (upd H2 p (dnO X.prog X.w p [(k.nk x, bb, u)])) := ⟨e12.f, fun b o eb => ?_, same_upd e12.i nF2, fun b hb hf => e12.n b (fun z => hb (e0.h.free z)) hf⟩
    · exact py (.ref p) F2 _ hup ⟨[p], dn_own (xs := [(x, y)]) (kvs := [(k.nk x, bb, u)]) ⟨⟨rfl, rl_mono e2.f k x _ r1, r2⟩, True.intro⟩ upd_same, by simp, fun a ha => by rw [List.mem_singleton.mp ha]; exact ⟨nF2, np⟩⟩
    · have ne : b ≠ p := fun z => by rw [z, np] at eb; cases eb
      rw [upd_ne ne]
      exact e12.h _ _ (by rw [upd_ne ne]; exact eb)
end
end Gm
set_option Elab.async false
set_option linter.all false
set_option maxRecDepth 100000
set_option maxHeartbeats 4000000
namespace Gm
open PySem PySem.Spec L2
/-! ## try: A; except C as e: B, where C has subclasses: one suite text for each class that may be caught -/
def tryC {α : Type} (l : List (Str × Bool)) (m : Mx α) (h : Exn → Mx α) : Mx α := match m with
  | .ok a => .ok a
  | .ex e => (match subs l e.c with
    | some true => h e
    | some false => .ex e
    | none => .no)
  | .no => .no
section
variable {X : Cx} {W : WX} {hk : List Nat} {Γ Γ' Γv : Ctx} {st : Stmt} {rest body suite : List Stmt} {b0 : Stmt} {e : Expr} {pos p np pos' : Pos} {β : Type} {I : β → Out} {c x n : Str} {C : Addr} {t : Ty} {k i : Nat}
/-- the suite runs for each class of the list that is caught -/
def HH (X : Cx) (W : WX) (hk : List Nat) (Γ : Ctx) (i : Nat) (suite : List Stmt) (I : β → Out) (h : Exn → Mx β) (l : List (Str × Bool)) : Prop :=
  ∀ (c : Str) (C : Addr), (c, true) ∈ l → X.mg c = some (.ref C) → ∀ (a : Addr) (oe : Obj) (d : Option Addr) (dx : Addr) (pn : List (Addr × Obj)) (z : Exn), z.c = c → Zc (.ref C) d oe → (∃ vs, oe.data = .fields vs) → PF z d dx → BS (X.suite a ((a, oe) :: pn)) W hk (Γ.set i (.d .exn (a, dx, z))) suite (h z) I
theorem hh_nil : HH X W hk Γ i suite I (fun _ => .no) [] := fun _ _ h => nomatch h
theorem hh_no {h : Exn → Mx β} {l : List (Str × Bool)} (k : HH X W hk Γ i suite I h l) : HH X W hk Γ i suite I h ((c, false) :: l) := fun c' C' hm => k c' C' (by
  rcases List.mem_cons.mp hm with h1 | h1
  · exact nomatch (Prod.mk.inj h1).2
  · exact h1)
theorem hh_yes {hA h : Exn → Mx β} {l : List (Str × Bool)} (hm : X.mg c = some (.ref C))
    (hb : ∀ (a : Addr) (oe : Obj) (d : Option Addr) (dx : Addr) (pn : List (Addr × Obj)) (z : Exn), Zc (.ref C) d oe → (∃ vs, oe.data = .fields vs) → PF z d dx → BS (X.suite a ((a, oe) :: pn)) W hk (Γ.set i (.d .exn (a, dx, z))) suite (hA z) I)
    (k : HH X W hk Γ i suite I h l) : HH X W hk Γ i suite I (fun z => if z.c = c then hA z else h z) ((c, true) :: l) := fun c' C' hin hC' a oe d dx pn z hz h1 h2 h3 => by
  by_cases hc : z.c = c
  · have e1 : c' = c := by rw [← hz, hc]
    subst e1
    have e2 : C' = C := by rw [hm] at hC'; cases hC'; rfl
    subst e2
    have := hb a oe d dx pn z h1 h2 h3
    simp only [if_pos hc]
    exact this
  · simp only [if_neg hc]
    refine k c' C' ?_ hC' a oe d dx pn z hz h1 h2 h3
    rcases List.mem_cons.mp hin with h4 | h4
    · exact absurd (hz.trans (Prod.mk.inj h4).1) hc
    · exact h4
theorem s1_tryC {l : List (Str × Bool)} {mb : Mx β} {h : Exn → Mx β} (js : List Nat) (hs : X.stack = X.env :: X.outer) (hf : X.env.frame = some X.env.locals) (hN : X.N.Nodup) (hi : X.N[i]? = some n) (hln : X.env.kindOf n = some .local) (hn : Names X c (.ref C)) (tk : Takes X W) (hno : Ctx.noOwn Γ = true) (hjs0 : ∀ j ∈ hk, j ∈ js) (hlast0 : js.contains (Γ.length - 1) = true) (hsub : SubOk X l C)
    (hil : Nat.ble (i + 1) Γ.length = true) (hik : hk.contains i = false)
    (hI : ∀ b Γ1, (I b = .nx Γ1 ∨ I b = .bk Γ1 ∨ I b = .ct Γ1) → Γ1[i]? = some .no)
    (hb : ∀ (W' : WX) (pn : List (Addr × Obj)) (xe : Value → Shared → Prop), Takes (X.tr pn xe) W' → PassesOwn (model X.prog X.w) X.A X.env xe → BS (X.tr pn xe) W' js Γ body mb I)
    (hh : HH X W hk (kept Γ js 0) i (b0 :: suite) I h l) :
    S1 X W hk Γ (.Try body [.ExceptHandler (some (.Name c np)) (some n) (b0 :: suite) pos'] [] [] pos) (tryC l mb h) I :=
  ps_imp (ps_try_as (Wout := W) (c := .ref C) (i := i) (tb := fun W' => tS X.K X.mg W' js Γ mb I) (ts := fun a cls d => fun D σ H => ∃ c1 C1 z dx, ((c1, true) ∈ l ∧ X.mg c1 = some (.ref C1) ∧ z.c = c1 ∧ cls = .ref C1 ∧ PF z d dx) ∧ tS X.K X.mg W hk ((kept Γ js 0).set i (.d .exn (a, dx, z))) (h z) I D σ H) hs hf hN hi hln hn tk (fun W' pn xe t p => hb W' pn xe t p)
    (fun a oe cls d pn hz hv => ⟨fun pins s σ H D J ⟨c1, C1, z, dx, ⟨e0, e3, e4, e1, e2⟩, q⟩ => by subst e1; exact (hh c1 C1 e0 e3 a oe d dx pn z e4 hz hv e2).run pins s σ H D J q⟩)) fun D σ H ⟨E, F, h0, g, q⟩ => by
    have hjs := hjs0
    have hlast : Γ.length - 1 ∈ js := List.contains_iff_mem.mp hlast0
    have gd := g.sdn hno
    have hik' : i ∉ E.hk := by rw [h0]; exact fun z => by rw [List.contains_iff_mem.mpr z] at hik; cases hik
    refine ⟨⟨F, H, js, σ⟩, F, rfl, sg_data (Ext.refl g.e0.i) (fun _ _ => rfl) hno gd, ?_⟩
    have up : ∀ (Γ1 : Ctx) (σ' : L2.St) (F' H' : Hp), SG X.K X.mg ⟨F, H, js, σ⟩ Γ1 σ' F' H' → SG X.K X.mg E Γ1 σ' F' H' := fun Γ1 σ' F' H' s => by
      obtain ⟨e1, k1, fps, w⟩ := s
      refine ⟨g.e0.trans e1, fun i hi => (k1 i (hjs i (by rw [← h0]; exact hi))).trans (g.kp i hi), fps, w.at_, w.out, w.nd, w.sep, fun i a ha => ⟨(w.new i a ha).1, ?_⟩⟩
      cases eb : E.B a with
      | none => rfl
      | some o => have := g.e0.h _ _ eb; rw [show H a = none from (w.new i a ha).2] at this; cases this
    cases hmb : mb with
    | no => rw [hmb] at q; exact q
    | ok b =>
      rw [hmb] at q
      have q : outP X.K X.mg E D (I b) := q
      show outP X.K X.mg ⟨F, H, js, σ⟩ D (I b)
      cases ei : I b with
      | nx Γ1 => rw [ei] at q; exact fun σ' F' H' s => q σ' F' H' (up _ _ _ _ s)
      | bk Γ1 => rw [ei] at q; exact fun σ' F' H' s => q σ' F' H' (up _ _ _ _ s)
      | ct Γ1 => rw [ei] at q; exact fun σ' F' H' s => q σ' F' H' (up _ _ _ _ s)
      | rt r y => rw [ei] at q; exact fun v F' H' x rr => q v F' H' (g.e0.trans x) (rtr_pre g.e0.h rr)
      | rs t y o2 x2 => rw [ei] at q; exact fun v Γ1 σ' F' H' e0 s rr => q v Γ1 σ' F' H' e0 (up _ _ _ _ s) rr
    | ex z =>
      rw [hmb] at q
      intro cls d σ' F' H' x kp xz
      obtain ⟨Dz, m1, rfl, m2⟩ := id xz
      unfold tryC at q
      simp only at q
      cases eb : subs l z.c with
      | none => rw [eb] at q; exact q.elim
      | some b =>
        rw [eb] at q
        have hin : (z.c, b) ∈ l := lookup_in eb
        obtain ⟨D1, m3, m4⟩ := hsub _ _ hin
        rw [m1] at m3; cases m3
        refine ⟨b, m4, fun hb2 a _ => ?_, fun hb2 => ?_⟩
        · subst hb2
          have q : postS X.mg W E (h z) (fun b => outP X.K X.mg E D (I b)) := q
          obtain ⟨dx, hpf, hat⟩ : ∃ dx, PF z d dx ∧ z.at_ F' dx := by
            unfold PF Exn.at_
            cases hp : z.p with
            | n => rw [hp] at m2; exact ⟨0, m2, True.intro⟩
            | i n => rw [hp] at m2; obtain ⟨dx, e1, e2⟩ := m2; exact ⟨dx, e1, e2⟩
            | s n => rw [hp] at m2; obtain ⟨dx, e1, e2⟩ := m2; exact ⟨dx, e1, e2⟩
          refine ⟨z.c, Dz, z, dx, ⟨hin, m1, rfl, rfl, hpf⟩, E, F', h0, ?_, q.mono fun b qb => ?_⟩
          · have hno2 : Ctx.noOwn ((kept Γ js 0).set i (.d .exn (a, dx, z))) = true := by
              unfold Ctx.noOwn
              rw [List.all_eq_true]
              intro s hs
              rcases List.mem_or_eq_of_mem_set hs with h1 | h1
              · have := noOwn_kept (js := js) (n := 0) hno
                unfold Ctx.noOwn at this
                exact List.all_eq_true.mp this s h1
              · subst h1; rfl
            refine sg_data (g.e0.trans x) (fun j hj => ?_) hno2 fun j s e => ?_
            · rw [List.getElem?_set_ne (show i ≠ j from fun z => hik' (by rw [z]; exact hj))]
              exact (kp j (hjs j (by rw [← h0]; exact hj))).trans (g.kp j hj)
            · have hll : Γ.length ≤ σ'.length := by
                obtain ⟨ov2, e2, _⟩ := gd (Γ.length - 1) _ (List.getElem?_eq_getElem (by have := Nat.le_of_ble_eq_true hil; omega))
                have e3 := (kp (Γ.length - 1) hlast).trans e2
                have := (List.getElem?_eq_some_iff.mp e3).1
                omega
              have hil' : i < σ'.length := by have := Nat.le_of_ble_eq_true hil; omega
              by_cases hj : j = i
              · subst hj
                have hkl : j < (kept Γ js 0).length := by
                  have := (List.getElem?_eq_some_iff.mp e).1
                  rwa [List.length_set] at this
                rw [List.getElem?_set_self hkl] at e
                cases e
                exact ⟨some (.ref a), List.getElem?_set_self hil', .ref a, rfl, rfl, hat⟩
              · rw [List.getElem?_set_ne (Ne.symm hj)] at e
                rw [List.getElem?_set_ne (Ne.symm hj)]
                obtain ⟨u, h1, h2⟩ := kept_get e
                obtain ⟨ov, e1, r⟩ := gd j u h1
                rcases h2 with rfl | ⟨rfl, hjj⟩
                · have hi : j < Γ.length := (List.getElem?_eq_some_iff.mp h1).1
                  exact ⟨_, List.getElem?_eq_getElem (by omega), True.intro⟩
                · rw [Nat.zero_add] at hjj
                  exact ⟨ov, (kp j hjj).trans e1, sd_mono x.f r⟩
          · cases ei : I b with
            | nx Γ1 => rw [ei] at qb; exact fun σ' F' H' s => qb (σ'.set i none) F' H' (s.unset (hI b Γ1 (.inl ei)) hik')
            | bk Γ1 => rw [ei] at qb; exact fun σ' F' H' s => qb (σ'.set i none) F' H' (s.unset (hI b Γ1 (.inr (.inl ei))) hik')
            | ct Γ1 => rw [ei] at qb; exact fun σ' F' H' s => qb (σ'.set i none) F' H' (s.unset (hI b Γ1 (.inr (.inr ei))) hik')
            | rt r y => rw [ei] at qb; exact qb
            | rs t y o2 x2 => rw [ei] at qb; exact qb
        · subst hb2
          exact q (.ref Dz) d σ' F' H' (g.e0.trans x) (fun i hi => (kp i (hjs i (by rw [← h0]; exact hi))).trans (g.kp i hi)) xz
end
section
variable {X : Cx} {W : WX} {Γ : Ctx} {a : Expr} {pos : Pos} {t : Ty} {F H : Hp}
/-- isinstance of what may be None -/
theorem e_isiP {q q2 : Pos} {m : Mx (Option t.den)} {n : Str} {T T' : String} {res : Bool} (hg : Gl X "isinstance") (hm : X.mg "isinstance" = none) (ha : EM X W Γ a (.opt t) m) (ht : t.cls = some T) (hn : PE X (.Name n q2) (tC (.ty T'))) (hk : kitB T T' = some res) (h0 : kitB "NoneType" T' = some false)
    (hs : starEach [a, .Name n q2] X.env = (false, eval a X.env) :: starEach [.Name n q2] X.env := by rfl) : EM X W Γ (.Call (.Name "isinstance" q) [a, .Name n q2] [] pos) .bool (m >>= fun x => .ok (if x.isSome then res else false)) :=
  pe_imp (pe_callB call_isi hg hm (by decide +kernel) (pa_cons ha (pa_cons hn pa_nil) hs) (he := hs)) fun σ H Q ⟨F, s, d, p⟩ => ⟨F, s, d, p.bind.mono fun x px v F1 H1 e1 r1 => by
    cases x with
    | none =>
      cases (List.cons.inj (show [v] = _ from r1)).1
      exact ⟨.non, .ty T', .type "NoneType", .type T', false, rfl, .ty T', .base .non, kit_ty h0, px _ F1 H1 e1 rfl⟩
    | some y => exact ⟨v, .ty T', .type T, .type T', res, rfl, .ty T', rl_tyx ht e1.i (show [v] ≠ [.non] ∧ rl X.K X.mg t y [v] F1 from r1).2, kit_ty hk, px _ F1 H1 e1 rfl⟩⟩
end
end Gm
set_option Elab.async false
set_option linter.all false
set_option maxRecDepth 100000
set_option maxHeartbeats 4000000
namespace Gm
open PySem PySem.Spec L2
/-- membership, by the deciding of equality -/
abbrev memD {α : Type} [DecidableEq α] (x : α) (l : List α) : Bool := decide (x ∈ l)
/-! ## a new list goes into an owned thing -/
theorem frz_ext {K : PySem.W.Frag} {mg : Str → Option Value} {o : Ow} {F H F' H' : Hp} {x : o.ty.den} {v : V} (e1 : Ext F H F' H') (r : rtr K mg (.o o) x v H F' H') : ∃ F2, Ext F H F2 H' ∧ rl K mg o.ty x [v] F2 := by
  obtain ⟨fp, r, nd, nw⟩ := r
  let fi : Nat → List Addr := fun j => if j = 0 then fp else []
  have fin : ∀ a, a ∈ fp → frozen F' H' fi a = H' a := fun a ha => frozen_in (i := 0) (by show a ∈ (if (0 : Nat) = 0 then fp else []); rw [if_pos rfl]; exact ha)
  have fout : ∀ a, a ∉ fp → frozen F' H' fi a = F' a := fun a ha => frozen_out fun j hj => by
    have hj : a ∈ (if j = 0 then fp else []) := hj
    by_cases z : j = 0
    · rw [if_pos z] at hj; exact ha hj
    · rw [if_neg z] at hj; cases hj
  have le : Same F' (frozen F' H' fi) := fun b u eb => by
    rw [fout b fun hb => by rw [(nw b hb).1] at eb; cases eb]; exact eb
  refine ⟨frozen F' H' fi, ⟨e1.f.trans le, e1.h, fun b u eb => ?_, fun q hq hf => ?_⟩, ol_rl le o x _ _ (fun a ha => fin a ha) r⟩
  · by_cases hb : b ∈ fp
    · rw [fin b hb] at eb; exact eb
    · rw [fout b hb] at eb; exact e1.i _ _ eb
  · by_cases hb : q ∈ fp
    · exact absurd (nw q hb).2 hq
    · rw [fout q hb]; exact e1.n q hq hf
section
variable {X : Cx} {W : WX} {hk : List Nat} {Γ Γ' Γv Γi : Ctx} {st : Stmt} {rest body : List Stmt} {a b e : Expr} {pos p p2 cpos apos : Pos} {β : Type} {I : β → Out} {k s2 : Ty} {o : Ow}
theorem bs_appO (i : Nat) {xs : List (Ty.list s2).den} {me : Mx (Ty.list s2).den} {k : List (Ty.list s2).den → Mx β} {n : Str} {apos cpos : Pos} (hi : Γ[i]? = some (.o (.l (.d (Ty.list s2))) xs)) (hx : PE X (.Name n p) (tVar i)) (he : EO X W Γv e (.l (.d s2)) me) (vw : Vw Γ (.o (.l (.d s2))) Γv) (hr : ∀ ys, BS X W hk (Γ.set i (.o (.l (.d (Ty.list s2))) ys)) rest (k ys) I)
    (hbase : attributeBase (.Name n p) "append" X.env (eval (.Name n p) X.env) = eval (.Name n p) X.env := by rfl) (hfew : ((backTo cpos (starEach [e] X.env)).all (fun x => !x.1) && (backToKw cpos (keywordEach [] X.env)).all (fun x => x.1.isSome) && decide ([e].length + ([] : List Keyword).length + (if ([] : List Keyword).isEmpty then 0 else 1) < 30)) = true := by rfl)
    (hline : (apos.endLine == cpos.line) = true := by rfl) (hs : starEach [e] X.env = (false, eval e X.env) :: starEach [] X.env := by rfl) (hpl : (backTo cpos (starEach [] X.env)).any (·.1) = false := by rfl) :
    BS X W hk Γ (.Expr (.Call (.Attribute (.Name n p) "append" apos) [e] [] cpos) pos :: rest) (me >>= fun y => ofO (appO xs y) >>= k) I :=
  have hr' : PSs X rest (fun D σ H => ∃ ys, tS X.K X.mg W hk (Γ.set i (.o (.l (.d (Ty.list s2))) ys)) (k ys) I D σ H) := ⟨fun pins s σ H D J ⟨x, q⟩ => (hr x).run pins s σ H D J q⟩
  pss_imp (pss_cons (ps_expr (pe_bm PySem.F.plainAttrs_list PySem.F.slot_list_append PySem.F.type_list_append mt_append hx (pa_cons he pa_nil hs) hbase hfew hline hs hpl)) hr') fun D σ H ⟨E, F, h, g, q⟩ => by
    obtain ⟨fps, w⟩ := g.ow
    obtain ⟨ov, e1, v, rfl, ho⟩ := w.at_ i _ hi
    obtain ⟨a, ws, rfl, e3, e4, rr⟩ := own_lst ho
    refine ⟨.ref a, e1, .inl ⟨rfl, ws, SqL.of e4⟩, ?_⟩
    obtain ⟨G, g1, g2, g3⟩ := g.look vw
    refine ⟨G, g1, g2, q.bind.post g (fun F' H' x => let ⟨F2, a, _, b⟩ := g3 F' H' x; ⟨F2, a, b⟩) fun y py u F' H' ex ru => ?_⟩
    obtain ⟨F2', x2', back, _⟩ := g3 F' H' ex
    obtain ⟨F2, x2, ru2⟩ := frz_ext x2' (back y u ru)
    unfold appO at py
    by_cases hl : xs.length < sizeLine
    · rw [if_pos hl] at py
      refine ⟨a, ws, u, rfl, rfl, x2.h _ _ e4, by rw [← rr.len]; exact hl, xs ++ [y], E, F2, h, ?_, py⟩
      exact (g.grow x2).write hi e1 ((rr.imp fun z v q => rl_mono x2.f (Ty.list s2) z [v] q).app ⟨ru2, True.intro⟩)
    · rw [if_neg hl] at py; exact py.elim
theorem bs_appPO (i : Nat) {x : o.ty.den} {xs : List (Ty.list s2).den} {put : List (Ty.list s2).den → o.ty.den} {me : Mx (Ty.list s2).den} {k : List (Ty.list s2).den → Mx β} (hi : Γ[i]? = some (.o o x)) (hp : PLc X Γ a i o (.l (.d (Ty.list s2))) xs put) (he : EO X W Γv e (.l (.d s2)) me) (vw : Vw Γ (.o (.l (.d s2))) Γv) (hr : ∀ ys, BS X W hk (Γ.set i (.o o (put ys))) rest (k ys) I)
    (hbase : attributeBase a "append" X.env (eval a X.env) = eval a X.env) (hfew : ((backTo cpos (starEach [e] X.env)).all (fun x => !x.1) && (backToKw cpos (keywordEach [] X.env)).all (fun x => x.1.isSome) && decide ([e].length + ([] : List Keyword).length + (if ([] : List Keyword).isEmpty then 0 else 1) < 30)) = true)
    (hline : (apos.endLine == cpos.line) = true) (hs : starEach [e] X.env = (false, eval e X.env) :: starEach [] X.env) (hpl : (backTo cpos (starEach [] X.env)).any (·.1) = false) :
    BS X W hk Γ (.Expr (.Call (.Attribute a "append" apos) [e] [] cpos) pos :: rest) (me >>= fun y => ofO (appO xs y) >>= k) I :=
  have hr' : PSs X rest (fun D σ H => ∃ ys, tS X.K X.mg W hk (Γ.set i (.o o (put ys))) (k ys) I D σ H) := ⟨fun pins s σ H D J ⟨x, q⟩ => (hr x).run pins s σ H D J q⟩
  pss_imp (pss_cons (ps_expr (pe_bm PySem.F.plainAttrs_list PySem.F.slot_list_append PySem.F.type_list_append mt_append (pe_ex hp) (pa_cons he pa_nil hs) hbase hfew hline hs hpl)) hr') fun D σ H ⟨E, F, h, g, q⟩ => by
    obtain ⟨fps, g⟩ := g.f
    obtain ⟨ov, e1, v, rfl, ho⟩ := g.ow.at_ i _ hi
    refine ⟨E, F, v, fps, g, e1, fun u S => ?_⟩
    obtain ⟨fb, nd, nF, ob, fin⟩ := g.sub hi e1 S
    obtain ⟨q0, ws, rfl, e3, e4, rr⟩ := own_lst ob
    refine ⟨.inl ⟨rfl, ws, SqL.of e4⟩, ?_⟩
    obtain ⟨G, g1, g2, g3⟩ := g.sg.look vw
    refine ⟨G, g1, g2, q.bind.post g.sg (fun F' H' x => let ⟨F2, a, _, b⟩ := g3 F' H' x; ⟨F2, a, b⟩) fun y py u F' H' ex ru => ?_⟩
    obtain ⟨F2', x2', back, _⟩ := g3 F' H' ex
    obtain ⟨F2, x2, ru2⟩ := frz_ext x2' (back y u ru)
    unfold appO at py
    by_cases hl : xs.length < sizeLine
    · rw [if_pos hl] at py
      have hq : q0 ∈ fb := by rw [e3]; exact List.mem_singleton.mpr rfl
      have nF2 : F2 q0 = none := x2.n q0 (by rw [e4]; exact fun z => nomatch z) (nF q0 hq)
      refine ⟨q0, ws, u, rfl, rfl, x2.h _ _ e4, by rw [← rr.len]; exact hl, xs ++ [y], E, F2, h, ?_, py⟩
      exact fin x2 nd (fun a ha => .inl ha) (upd_other hq) (same_upd x2.i nF2) (by rw [e3]; exact lst_own (all2.app (ys := [y]) (ws := [u]) (rr.imp fun z v q => rl_mono x2.f (Ty.list s2) z [v] q) ⟨ru2, True.intro⟩) upd_same)
    · rw [if_neg hl] at py; exact py.elim
theorem bs_nputO (i : Nat) {x : o.ty.den} [DecidableEq k.den] {xs : List (k.den × (Ty.list s2).den)} {put : List (k.den × (Ty.list s2).den) → o.ty.den} {me : Mx (Ty.list s2).den} {mx : Mx k.den} {kk : List (k.den × (Ty.list s2).den) → Mx β} (hk2 : k.kyN = true) (hu : X.A.units + 64 < cLine) (hi : Γ[i]? = some (.o o x)) (hp : PLc X Γ a i o (.dicN X.prog X.w k (.d (Ty.list s2))) xs put) (he : EO X W Γv e (.l (.d s2)) me) (vw : Vw Γ (.o (.l (.d s2))) Γv)
    (hj : EM X W Γi b k mx) (vi : Vw Γ (.d k) Γi) (hr : ∀ ys, BS X W hk (Γ.set i (.o o (put ys))) rest (kk ys) I) (hs : swapsWith e (some (.Subscript a b p2)) pos.line X.env = pure false) :
    BS X W hk Γ (.Assign [.Subscript a b p2] e pos :: rest) (me >>= fun y => mx >>= fun x => ofO (dputO xs x y) >>= kk) I :=
  have hk2 := kyN_of hk2
  have hr' : PSs X rest (fun D σ H => ∃ ys, tS X.K X.mg W hk (Γ.set i (.o o (put ys))) (kk ys) I D σ H) := ⟨fun pins s σ H D J ⟨x, q⟩ => (hr x).run pins s σ H D J q⟩
  pss_imp (pss_cons (ps_nput hu (pe_ex hp) hj he hs) hr') fun D σ H ⟨E, F, h, g, q⟩ => by
    obtain ⟨G, g1, g2, g3⟩ := g.look vw
    refine ⟨G, g1, g2, q.bind.post g (fun F' H' x => let ⟨F2, a, _, b⟩ := g3 F' H' x; ⟨F2, a, b⟩) fun y py u F' H' ex ru => ?_⟩
    obtain ⟨F2', x2', back, _⟩ := g3 F' H' ex
    obtain ⟨F2, x2, ru2⟩ := frz_ext x2' (back y u ru)
    obtain ⟨fps, gg⟩ := (g.grow x2).f
    obtain ⟨ov, e1, v, rfl, ho⟩ := gg.ow.at_ i _ hi
    refine ⟨E, F2, v, fps, gg, e1, fun u0 S => ?_⟩
    obtain ⟨fb, nd, nF, ob, fin⟩ := gg.sub hi e1 S
    obtain ⟨q0, kvs, rfl, e3, e4, rr⟩ := own_dn ob
    obtain ⟨G2, k1, k2, k3⟩ := gg.sg.look vi
    refine ⟨G2, k1, k2, py.bind.post gg.sg (fun F' H' x => let ⟨F3, a, _, b⟩ := k3 F' H' x; ⟨F3, a, b⟩) fun x px v2 F'' H'' ex2 rx => ?_⟩
    obtain ⟨F3, x3, back3, _⟩ := k3 F'' H'' ex2
    have rx2 : rl X.K X.mg k x [v2] F3 := back3 x v2 rx
    obtain ⟨bb, rfl⟩ := hk2.ref rx2
    unfold dputO at px
    by_cases hz : xs.length < sizeLine
    · rw [if_pos hz] at px
      have ru3 : rl X.K X.mg (Ty.list s2) y [u] F3 := rl_mono x3.f (Ty.list s2) y [u] ru2
      have hl3 := x3.h _ _ e4
      have rr3 := rr.imp (fun z b q => rl_mono x3.f k z [.ref b] q) (fun z w q => rl_mono x3.f (Ty.list s2) z [w] q)
      have hq : q0 ∈ fb := by rw [e3]; exact List.mem_singleton.mpr rfl
      have nF3 : F3 q0 = none := x3.n q0 (by rw [e4]; exact fun z => nomatch z) (nF q0 hq)
      refine ⟨q0, bb, kvs, k.nk x, rfl, rfl, hl3, rr3.nks hk2 x3.i, hk2.nk x3.i rx2, by rw [← rr.len]; exact hz, dput xs x y, E, F3, h, ?_, px⟩
      exact fin x3 nd (fun a ha => .inl ha) (upd_other hq) (same_upd x3.i nF3) (by rw [e3]; exact dn_own (rr3.put hk2.inj x rx2 ru3) upd_same)
    · rw [if_neg hz] at px; exact px.elim
theorem bs_dputO (i : Nat) [DecidableEq k.den] {xs : List (k.den × (Ty.list s2).den)} {me : Mx (Ty.list s2).den} {mx : Mx k.den} {kk : List (k.den × (Ty.list s2).den) → Mx β} {n : Str} (hk2 : Ky k) (hu : X.A.units + 64 < cLine) (hi : Γ[i]? = some (.o (.dic k (Ty.list s2)) xs)) (hx : PE X (.Name n p) (tVar i)) (he : EO X W Γv e (.l (.d s2)) me) (vw : Vw Γ (.o (.l (.d s2))) Γv)
    (hj : EM X W Γi b k mx) (vi : Vw Γ (.d k) Γi) (hr : ∀ ys, BS X W hk (Γ.set i (.o (.dic k (Ty.list s2)) ys)) rest (kk ys) I) (hs : swapsWith e (some (.Subscript (.Name n p) b p2)) pos.line X.env = pure false) :
    BS X W hk Γ (.Assign [.Subscript (.Name n p) b p2] e pos :: rest) (me >>= fun y => mx >>= fun x => ofO (dputO xs x y) >>= kk) I :=
  have hr' : PSs X rest (fun D σ H => ∃ ys, tS X.K X.mg W hk (Γ.set i (.o (.dic k (Ty.list s2)) ys)) (kk ys) I D σ H) := ⟨fun pins s σ H D J ⟨x, q⟩ => (hr x).run pins s σ H D J q⟩
  pss_imp (pss_cons (ps_dput (by omega) hx hj he hs) hr') fun D σ H ⟨E, F, h, g, q⟩ => by
    obtain ⟨G, g1, g2, g3⟩ := g.look vw
    refine ⟨G, g1, g2, q.bind.post g (fun F' H' x => let ⟨F2, a, _, b⟩ := g3 F' H' x; ⟨F2, a, b⟩) fun y py u F' H' ex ru => ?_⟩
    obtain ⟨F2', x2', back, _⟩ := g3 F' H' ex
    obtain ⟨F2, x2, ru2⟩ := frz_ext x2' (back y u ru)
    have gg := g.grow x2
    obtain ⟨fps, w⟩ := id gg.ow
    obtain ⟨ov, e1, v, rfl, ho⟩ := w.at_ i _ hi
    obtain ⟨l, kvs, ev, efp, hl, rr⟩ := id ho
    cases (List.cons.inj ev).1
    refine ⟨.ref l, e1, ?_⟩
    obtain ⟨G2, k1, k2, k3⟩ := gg.look vi
    refine ⟨G2, k1, k2, py.bind.post gg (fun F' H' x => let ⟨F3, a, _, b⟩ := k3 F' H' x; ⟨F3, a, b⟩) fun x px v2 F'' H'' ex2 rx => ?_⟩
    obtain ⟨F3, x3, back3, _⟩ := k3 F'' H'' ex2
    have rx2 : rl X.K X.mg k x [v2] F3 := back3 x v2 rx
    cases hk2.2 _ _ _ _ _ rx2
    unfold dputO at px
    by_cases hz : xs.length < sizeLine
    · rw [if_pos hz] at px
      have ru3 : rl X.K X.mg (Ty.list s2) y [u] F3 := rl_mono x3.f (Ty.list s2) y [u] ru2
      have hl3 : H'' l = some (.dK kvs) := x3.h _ _ hl
      refine ⟨l, upd H'' l (.dK (putK kvs (k.key x) u)), rfl, .inl ⟨kvs, k.key x, hl3, rfl, by rw [← rr.len]; exact hz, rfl⟩, dput xs x y, E, F3, h, ?_, px⟩
      refine (gg.grow x3).writeO hi e1 fun fp nd hol => ?_
      obtain ⟨l', kvs', ev', efp', hl', rr'⟩ := hol
      cases (List.cons.inj ev').1
      rw [hl3] at hl'
      cases hl'
      exact ⟨by rw [efp']; exact List.mem_singleton.mpr rfl, l, _, rfl, efp', upd_same, rr'.put hk2.1 x ru3⟩
    · rw [if_neg hz] at px; exact px.elim
end
section
variable {X : Cx} {W : WX} {hk : List Nat} {Γ : Ctx} {tg a : Expr} {t : Ty}
/-- a new list is walked -/
theorem is_own {m : Mx (List t.den)} (hf : t.flat = true) (ha : EO X W Γ a (.l (.d t)) m) : IS X W hk Γ tg a t m := pi_imp (pi_list ha) fun σ H R ⟨E, F, hh, g, q⟩ => by
  obtain ⟨G, g1, g2, g3⟩ := g.look (r := .o (.l (.d t))) (.all hf)
  refine ⟨G, g1, g2, q.post g (fun F' H' x => let ⟨F2, a, _, b⟩ := g3 F' H' x; ⟨F2, a, b⟩) fun x px v F' H' ex ru => ?_⟩
  obtain ⟨F2', x2', back, _⟩ := g3 F' H' ex
  obtain ⟨F1, e1, r1⟩ := frz_ext x2' (back x v ru)
  obtain ⟨l, ws, e, sq, rr⟩ := r1
  refine ⟨l, (List.cons.inj e).1, ⟨ws, SqL.of (e1.i _ _ sq)⟩, px F1 H' _ e1 ⟨fun i H s hi => ?_, fun i H s hi => ⟨ws, SqL.of (s _ _ sq), by rw [← rr.len]; exact hi⟩, fun i H v H3 s _ y => ?_⟩⟩
  · obtain ⟨v, h1, _⟩ := rr.get (List.getElem?_eq_getElem hi)
    exact ⟨ws, v, SqL.of (s _ _ sq), h1⟩
  · obtain ⟨rfl, y⟩ := y
    obtain ⟨z, h1, h2⟩ := rr.getV (y ws (SqL.of (s _ _ sq)))
    exact ⟨z, h1, fun G g1 g2 => ⟨G, Ext.refl g2, rl_mono g1 t z _ h2⟩⟩
end
/-! ## comparing what may be None -/
def rEqP (X : Cx) : R2 := fun v w H Q => ∃ (F : Hp) (t : Ty) (x y : Option t.den), Same F H ∧ Ty.top t = true ∧ t.some_ = true ∧ t.depth ≤ 60 ∧ rl X.K X.mg (.opt t) x [v] F ∧ rl X.K X.mg (.opt t) y [w] F ∧ Q (.bl ((Ty.opt t).beq x y)) H
theorem op_eqP {X : Cx} (hu : X.A.units + 64 < cLine) : OpR X (compareOp .Eq) (rEqP X) := by
  intro pins s σ H v w u u' Q I rv rw' h
  obtain ⟨F, t, x, y, hs, ht, h1, hd, p, q, hq⟩ := h
  obtain ⟨l, el⟩ := eqok_kds h1 (top_eqok ht)
  cases x with
  | none =>
    cases (List.cons.inj (show [v] = [V.non] from p)).1
    cases y with
    | none =>
      cases (List.cons.inj (show [w] = [V.non] from q)).1
      exact op_eq pins s σ H .non .non u u' Q I rv rw' ⟨rfl, hq⟩
    | some y =>
      obtain ⟨k, _, kw⟩ := kw_of I hs el (show [w] ≠ [.non] ∧ rl X.K X.mg t y [w] F from q).2
      cases kw with
      | i n => exact op_eq pins s σ H _ _ u u' Q I rv rw' ⟨rfl, hq⟩
      | b n => exact op_eq pins s σ H _ _ u u' Q I rv rw' ⟨rfl, hq⟩
      | s n => exact op_eq pins s σ H _ _ u u' Q I rv rw' ⟨rfl, hq⟩
      | t h => cases rv; cases rw'; exact SeqAt.RcAt.none_tuple h (by omega) X.prog X.w X.xe _ ⟨.bl _, H, I, rfl, hq⟩
      | l h => cases rv; cases rw'; exact SeqAt.RcAt.none_list h (by omega) X.prog X.w X.xe _ ⟨.bl _, H, I, rfl, hq⟩
  | some x =>
    cases y with
    | none =>
      cases (List.cons.inj (show [w] = [V.non] from q)).1
      obtain ⟨k, _, kw⟩ := kw_of I hs el (show [v] ≠ [.non] ∧ rl X.K X.mg t x [v] F from p).2
      cases kw with
      | i n => exact op_eq pins s σ H _ _ u u' Q I rv rw' ⟨rfl, hq⟩
      | b n => exact op_eq pins s σ H _ _ u u' Q I rv rw' ⟨rfl, hq⟩
      | s n => exact op_eq pins s σ H _ _ u u' Q I rv rw' ⟨rfl, hq⟩
      | t h => cases rv; cases rw'; exact SeqAt.RcAt.tuple_none h (by omega) X.prog X.w X.xe _ ⟨.bl _, H, I, rfl, hq⟩
      | l h => cases rv; cases rw'; exact SeqAt.RcAt.list_none h (by omega) X.prog X.w X.xe _ ⟨.bl _, H, I, rfl, hq⟩
    | some y => exact op_eqT hu pins s σ H v w u u' Q I rv rw' ⟨F, t, x, y, hs, ht, hd, (show [v] ≠ [.non] ∧ rl X.K X.mg t x [v] F from p).2, (show [w] ≠ [.non] ∧ rl X.K X.mg t y [w] F from q).2, hq⟩
def rNeP (X : Cx) : R2 := fun v w H Q => ∃ (F : Hp) (t : Ty) (x y : Option t.den), Same F H ∧ Ty.top t = true ∧ t.some_ = true ∧ t.depth ≤ 60 ∧ rl X.K X.mg (.opt t) x [v] F ∧ rl X.K X.mg (.opt t) y [w] F ∧ Q (.bl (!(Ty.opt t).beq x y)) H
theorem op_neP {X : Cx} (hu : X.A.units + 64 < cLine) : OpR X (compareOp .NotEq) (rNeP X) := by
  intro pins s σ H v w u u' Q I rv rw' h
  obtain ⟨F, t, x, y, hs, ht, h1, hd, p, q, hq⟩ := h
  obtain ⟨l, el⟩ := eqok_kds h1 (top_eqok ht)
  cases x with
  | none =>
    cases (List.cons.inj (show [v] = [V.non] from p)).1
    cases y with
    | none =>
      cases (List.cons.inj (show [w] = [V.non] from q)).1
      exact op_ne pins s σ H .non .non u u' Q I rv rw' ⟨rfl, hq⟩
    | some y =>
      obtain ⟨k, _, kw⟩ := kw_of I hs el (show [w] ≠ [.non] ∧ rl X.K X.mg t y [w] F from q).2
      cases kw with
      | i n => exact op_ne pins s σ H _ _ u u' Q I rv rw' ⟨rfl, hq⟩
      | b n => exact op_ne pins s σ H _ _ u u' Q I rv rw' ⟨rfl, hq⟩
      | s n => exact op_ne pins s σ H _ _ u u' Q I rv rw' ⟨rfl, hq⟩
      | t h => cases rv; cases rw'; exact SeqAt.RcNeAt.none_tuple h (by omega) X.prog X.w X.xe _ ⟨.bl _, H, I, rfl, hq⟩
      | l h => cases rv; cases rw'; exact SeqAt.RcNeAt.none_list h (by omega) X.prog X.w X.xe _ ⟨.bl _, H, I, rfl, hq⟩
  | some x =>
    cases y with
    | none =>
      cases (List.cons.inj (show [w] = [V.non] from q)).1
      obtain ⟨k, _, kw⟩ := kw_of I hs el (show [v] ≠ [.non] ∧ rl X.K X.mg t x [v] F from p).2
      cases kw with
      | i n => exact op_ne pins s σ H _ _ u u' Q I rv rw' ⟨rfl, hq⟩
      | b n => exact op_ne pins s σ H _ _ u u' Q I rv rw' ⟨rfl, hq⟩
      | s n => exact op_ne pins s σ H _ _ u u' Q I rv rw' ⟨rfl, hq⟩
      | t h => cases rv; cases rw'; exact SeqAt.RcNeAt.tuple_none h (by omega) X.prog X.w X.xe _ ⟨.bl _, H, I, rfl, hq⟩
      | l h => cases rv; cases rw'; exact SeqAt.RcNeAt.list_none h (by omega) X.prog X.w X.xe _ ⟨.bl _, H, I, rfl, hq⟩
    | some y => exact op_neT hu pins s σ H v w u u' Q I rv rw' ⟨F, t, x, y, hs, ht, hd, (show [v] ≠ [.non] ∧ rl X.K X.mg t x [v] F from p).2, (show [w] ≠ [.non] ∧ rl X.K X.mg t y [w] F from q).2, hq⟩
theorem c_eqP {X : Cx} {W : WX} {Γ : Ctx} {a b : Expr} {t : Ty} {m1 m2 : Mx (Option t.den)} [d : DecidableEq (Option t.den)] (hu : X.A.units + 64 < cLine) (ha : EM X W Γ a (.opt t) m1) (hb : EM X W Γ b (.opt t) m2) (ht : t.top = true) (h1 : t.some_ = true) (hd : t.depth ≤ 60) :
    EC X W Γ .Eq a b (m1 >>= fun x => m2 >>= fun y => .ok (decide (x = y))) :=
  c_op (t1 := .opt t) (t2 := .opt t) (g := fun x y => some (decide (x = y))) (op_eqP hu) (fun x y z e v w F H Q s r1 r2 k => by
    cases e
    have he : (Ty.opt t).eqok = true := by show (t.some_ && t.eqok) = true; rw [h1, top_eqok ht]; rfl
    exact ⟨F, t, x, y, s, ht, h1, hd, r1, r2, by rw [beq_dec (t := .opt t) he]; exact k⟩) ha hb
theorem c_neP {X : Cx} {W : WX} {Γ : Ctx} {a b : Expr} {t : Ty} {m1 m2 : Mx (Option t.den)} [d : DecidableEq (Option t.den)] (hu : X.A.units + 64 < cLine) (ha : EM X W Γ a (.opt t) m1) (hb : EM X W Γ b (.opt t) m2) (ht : t.top = true) (h1 : t.some_ = true) (hd : t.depth ≤ 60) :
    EC X W Γ .NotEq a b (m1 >>= fun x => m2 >>= fun y => .ok (!decide (x = y))) :=
  c_op (t1 := .opt t) (t2 := .opt t) (g := fun x y => some (!decide (x = y))) (op_neP hu) (fun x y z e v w F H Q s r1 r2 k => by
    cases e
    have he : (Ty.opt t).eqok = true := by show (t.some_ && t.eqok) = true; rw [h1, top_eqok ht]; rfl
    exact ⟨F, t, x, y, s, ht, h1, hd, r1, r2, by rw [beq_dec (t := .opt t) he]; exact k⟩) ha hb
end Gm
set_option Elab.async false
set_option linter.all false
set_option maxRecDepth 100000
set_option maxHeartbeats 4000000
namespace Gm
open PySem PySem.Spec L2 PyProof.Rows
/-! ## max and min of a list of ints -/
def mxL : List Int → Option Int
  | [] => none
  | x :: xs => some (xs.foldl max x)
def mnL : List Int → Option Int
  | [] => none
  | x :: xs => some (xs.foldl min x)
theorem foldmax : ∀ (xs : List Int) (x : Int), xs.foldl max x ∈ x :: xs ∧ ∀ y ∈ x :: xs, y ≤ xs.foldl max x
  | [], x => ⟨List.mem_cons_self .., fun y hy => by rw [List.mem_singleton.mp hy]; exact Int.le_refl _⟩
  | z :: xs, x => by
    obtain ⟨h1, h2⟩ := foldmax xs (max x z)
    rw [List.foldl_cons]
    refine ⟨?_, fun y hy => ?_⟩
    · rcases List.mem_cons.mp h1 with h | h
      · rw [h]
        by_cases hz : x ≤ z
        · rw [Int.max_eq_right hz]; simp
        · rw [Int.max_eq_left (by omega)]; simp
      · exact List.mem_cons_of_mem _ (List.mem_cons_of_mem _ h)
    · have h3 := h2 _ (List.mem_cons_self ..)
      rcases List.mem_cons.mp hy with rfl | hy
      · omega
      · rcases List.mem_cons.mp hy with rfl | hy
        · omega
        · exact h2 y (List.mem_cons_of_mem _ hy)
theorem foldmin : ∀ (xs : List Int) (x : Int), xs.foldl min x ∈ x :: xs ∧ ∀ y ∈ x :: xs, xs.foldl min x ≤ y
  | [], x => ⟨List.mem_cons_self .., fun y hy => by rw [List.mem_singleton.mp hy]; exact Int.le_refl _⟩
  | z :: xs, x => by
    obtain ⟨h1, h2⟩ := foldmin xs (min x z)
    rw [List.foldl_cons]
    refine ⟨?_, fun y hy => ?_⟩
    · rcases List.mem_cons.mp h1 with h | h
      · rw [h]
        by_cases hz : x ≤ z
        · rw [Int.min_eq_left hz]; simp
        · rw [Int.min_eq_right (by omega)]; simp
      · exact List.mem_cons_of_mem _ (List.mem_cons_of_mem _ h)
    · have h3 := h2 _ (List.mem_cons_self ..)
      rcases List.mem_cons.mp hy with rfl | hy
      · omega
      · rcases List.mem_cons.mp hy with rfl | hy
        · omega
        · exact h2 y (List.mem_cons_of_mem _ hy)
theorem mxL_spec {xs : List Int} {m : Int} (h : mxL xs = some m) : m ∈ xs ∧ ∀ y ∈ xs, y ≤ m := by
  cases xs with
  | nil => cases h
  | cons x xs => cases h; exact foldmax xs x
theorem mnL_spec {xs : List Int} {m : Int} (h : mnL xs = some m) : m ∈ xs ∧ ∀ y ∈ xs, m ≤ y := by
  cases xs with
  | nil => cases h
  | cons x xs => cases h; exact foldmin xs x
theorem int_all2 {K : PySem.W.Frag} {mg : Str → Option Value} {F : Hp} : ∀ {xs : List Int} {ws : List V}, all2 (fun (x : Int) w => rl K mg .int x [w] F) xs ws → ws = xs.map V.int
  | [], [], _ => rfl
  | x :: xs, w :: ws, ⟨a, b⟩ => by
    rw [List.map_cons, int_all2 b, (List.cons.inj (show [w] = _ from a)).1]
  | [], _ :: _, h => h.elim
  | _ :: _, [], h => h.elim
section
variable {X : Cx} {W : WX} {Γ : Ctx} {a b : Expr} {pos kp : Pos}
theorem e_maxL {q : Pos} {m : Mx (List Int)} (hc : X.calm = true) (hg : Gl X "max") (hm : X.mg "max" = none) (ha : EM X W Γ a (.list .int) m) (hs : starEach [a] X.env = (false, eval a X.env) :: starEach [] X.env := by rfl) :
    EM X W Γ (.Call (.Name "max" q) [a] [] pos) .int (m >>= fun x => ofO (mxL x)) :=
  pe_imp (pe_callB (cr_max hc) hg hm (by decide +kernel) (pa_cons ha pa_nil hs) (he := hs)) fun σ H Q ⟨F, s, d, p⟩ => ⟨F, s, d, p.bind.mono fun x px v F1 H1 e1 r1 => by
    obtain ⟨p, ws, e, sq, rr⟩ := r1
    cases (List.cons.inj e).1
    rw [int_all2 rr] at sq
    cases hx : mxL x with
    | none => rw [hx] at px; exact px.elim
    | some m =>
      rw [hx] at px
      obtain ⟨h1, h2⟩ := mxL_spec hx
      refine ⟨p, x, rfl, SqL.of (e1.i _ _ sq), List.length_pos_of_mem h1, fun m' h3 h4 => ?_⟩
      have : m' = m := Int.le_antisymm (h2 _ h3) (h4 _ h1)
      rw [this]
      exact px _ F1 H1 e1 rfl⟩
theorem e_minL {q : Pos} {m : Mx (List Int)} (hc : X.calm = true) (hg : Gl X "min") (hm : X.mg "min" = none) (ha : EM X W Γ a (.list .int) m) (hs : starEach [a] X.env = (false, eval a X.env) :: starEach [] X.env := by rfl) :
    EM X W Γ (.Call (.Name "min" q) [a] [] pos) .int (m >>= fun x => ofO (mnL x)) :=
  pe_imp (pe_callB (cr_min hc) hg hm (by decide +kernel) (pa_cons ha pa_nil hs) (he := hs)) fun σ H Q ⟨F, s, d, p⟩ => ⟨F, s, d, p.bind.mono fun x px v F1 H1 e1 r1 => by
    obtain ⟨p, ws, e, sq, rr⟩ := r1
    cases (List.cons.inj e).1
    rw [int_all2 rr] at sq
    cases hx : mnL x with
    | none => rw [hx] at px; exact px.elim
    | some m =>
      rw [hx] at px
      obtain ⟨h1, h2⟩ := mnL_spec hx
      refine ⟨p, x, rfl, SqL.of (e1.i _ _ sq), List.length_pos_of_mem h1, fun m' h3 h4 => ?_⟩
      have : m' = m := Int.le_antisymm (h4 _ h1) (h2 _ h3)
      rw [this]
      exact px _ F1 H1 e1 rfl⟩
/-- max(list, default=d) -/
def rMaxD (K : PySem.W.Frag) : List V → List V → Hp → VK → Prop := fun vs zs H Q => ∃ (l : Addr) (ns : List Int) (d : Int), vs = [V.ref l] ∧ zs = [V.int d] ∧ SqL K H l (ns.map V.int) ∧ Q (.int ((mxL ns).getD d)) H
theorem reads_ints {h : Heap} : ∀ {ns : List Int} {us : List Value}, Vals (ns.map V.int) us → ReadsAll h us (ns.map PyData.int) []
  | [], _, r => by cases r; exact .nil
  | n :: ns, _, r => by
    cases r with
    | cons r rs =>
      obtain ⟨t, rfl⟩ := r
      exact .cons (.int n t) (reads_ints rs)
theorem depth_ints : ∀ ns : List Int, PyData.depthAll (ns.map PyData.int) = 0
  | [] => rfl
  | n :: ns => by
    show max (PyData.depth (.int n)) (PyData.depthAll (ns.map PyData.int)) = 0
    rw [depth_ints ns]; rfl
theorem cr_maxD (hc : X.calm = true) (hu : X.A.units + 64 < cLine) : CallRK X (.builtin "max") [("default" : Str)] (rMaxD X.K) := by
  intro pins s σ H vs zs us ws Q I r rz h
  obtain ⟨l, ns, d, rfl, rfl, hs, q⟩ := h
  obtain ⟨its, rv, hl, _⟩ := I.list hs
  rw [Vals.ref1 r]
  cases rz with
  | cons rd rz =>
    cases rz
    obtain ⟨t, rfl⟩ := rd
    refine PySem.W.max_list_default (xs := ns.map PyData.int) (as := []) (d := .int d t) (I.ok.hd hc) hl.isList (by simpa using reads_ints rv) ⟨fun x hx y hy => ?_, fun x hx => ?_⟩ (by rw [depth_ints]; omega) (fun h0 h' tk k => ?_) fun y ys i v h' tk bs e hv rd k => ?_
    · obtain ⟨n, _, rfl⟩ := List.mem_map.mp hx
      obtain ⟨m, _, rfl⟩ := List.mem_map.mp hy
      rfl
    · obtain ⟨n, _, rfl⟩ := List.mem_map.mp hx
      exact fun z => nomatch z
    · have hn : ns = [] := List.map_eq_nil_iff.mp h0
      subst hn
      exact ⟨.int d, H, I.kept (t' := tk) k, ⟨t, rfl⟩, q⟩
    · cases ns with
      | nil => cases e
      | cons n ns =>
        cases e
        rw [PySem.W.maxD_ints] at rd
        cases rd with
        | int _ t2 => exact ⟨.int _, H, I.kept (t' := tk) k, ⟨t2, rfl⟩, q⟩
theorem e_maxD {q : Pos} {m1 : Mx (List Int)} {m2 : Mx Int} (hc : X.calm = true) (hu : X.A.units + 64 < cLine) (hg : Gl X "max") (hm : X.mg "max" = none) (ha : EM X W Γ a (.list .int) m1) (hb : EM X W Γ b .int m2) (hs : starEach [a] X.env = (false, eval a X.env) :: starEach [] X.env) (he : backTo pos (starEach [a] X.env) = (false, eval a X.env) :: backTo pos (starEach [] X.env)) (hpl : (backTo pos (starEach [a] X.env)).any (·.1) = false)
    (hall : (backToKw pos (keywordEach [⟨some ("default" : Str), b, kp⟩] X.env)).all (·.1.isSome) = true) (hnone : (backToKw pos (keywordEach [⟨some ("default" : Str), b, kp⟩] X.env)).any (·.1.isNone) = false) (hks : (backToKw pos (keywordEach [⟨some ("default" : Str), b, kp⟩] X.env)).filterMap (·.1) = [("default" : Str)]) :
    EM X W Γ (.Call (.Name "max" q) [a] [⟨some ("default" : Str), b, kp⟩] pos) .int (m1 >>= fun x => m2 >>= fun y => .ok ((mxL x).getD y)) :=
  pe_imp (pe_callBK (cr_maxD hc hu) hg hm (by decide +kernel) (pa_cons ha pa_nil hs) (pk_cons hb pk_nil) (he := he) (hpl := hpl) (hall := hall) (hnone := hnone) (hks := hks)) (two_of (t1 := .list .int) (t2 := .int) (r := .d .int) (k := fun x y => .ok ((mxL x).getD y)) (rR := fun v w H Q => rMaxD X.K [v] [w] H Q) fun x y v w F H σ Q s r1 r2 k => by
    obtain ⟨p, ws, e, sq, rr⟩ := r1
    cases (List.cons.inj e).1
    cases (List.cons.inj (show [w] = _ from r2)).1
    rw [int_all2 rr] at sq
    exact ⟨p, x, y, rfl, rfl, SqL.of (s _ _ sq), k _ F H (Ext.refl s) rfl⟩)
end
section
variable {X : Cx} {W : WX} {Γ : Ctx} {a : Expr} {t : Ty}
/-- a list without None -/
def allG {α : Type} : List (Option α) → Option (List α)
  | [] => some []
  | none :: _ => none
  | some x :: r => (allG r).map (x :: ·)
theorem allG_all2 {K : PySem.W.Frag} {mg : Str → Option Value} {F : Hp} : ∀ {xs : List (Option t.den)} {ys : List t.den} {ws : List V}, allG xs = some ys → all2 (fun (x : (Ty.opt t).den) w => rl K mg (.opt t) x [w] F) xs ws → all2 (fun x w => rl K mg t x [w] F) ys ws
  | [], ys, [], h, _ => by cases h; exact True.intro
  | none :: _, _, _, h, _ => nomatch h
  | some x :: r, ys, w :: ws, h, ⟨h1, h2⟩ => by
    obtain ⟨zs, hz, rfl⟩ := Option.map_eq_some_iff.mp (show (allG r).map (x :: ·) = some ys from h)
    exact ⟨(show [w] ≠ [.non] ∧ rl K mg t x [w] F from h1).2, allG_all2 hz h2⟩
  | [], _, _ :: _, _, h => h.elim
  | some _ :: _, _, [], _, h => h.elim
theorem e_allG {m : Mx (List (Option t.den))} (ha : EM X W Γ a (.list (.opt t)) m) : EM X W Γ a (.list t) (m >>= fun x => ofO (allG x)) := pe_imp ha fun σ H Q ⟨F, s, d, p⟩ => ⟨F, s, d, p.bind.mono fun x px v F1 H1 e1 r1 => by
  cases hx : allG x with
  | none => rw [hx] at px; exact px.elim
  | some ys =>
    rw [hx] at px
    obtain ⟨q, ws, e, sq, rr⟩ := r1
    exact px v F1 H1 e1 ⟨q, ws, e, sq, allG_all2 hx rr⟩⟩
end
section
variable {X : Cx} {W : WX} {Γ : Ctx} {a b : Expr}
/-- is, is not of truth values, as tests -/
theorem k_isB {m1 m2 : Mx Bool} (ha : EM X W Γ a .bool m1) (hb : EM X W Γ b .bool m2) : EC X W Γ .Is a b (m1 >>= fun x => m2 >>= fun y => ofO (some (decide (x = y)))) :=
  c_op (t1 := .bool) (t2 := .bool) (g := fun (x y : Bool) => some (decide (x = y))) op_isBl (fun x y z e v w F H Q s r1 r2 k => by
    cases e
    cases (List.cons.inj (show [v] = [V.bl x] from r1)).1
    cases (List.cons.inj (show [w] = [V.bl y] from r2)).1
    exact ⟨x, y, rfl, rfl, k⟩) ha hb
theorem k_isnB {m1 m2 : Mx Bool} (ha : EM X W Γ a .bool m1) (hb : EM X W Γ b .bool m2) : EC X W Γ .IsNot a b (m1 >>= fun x => m2 >>= fun y => ofO (some (!decide (x = y)))) :=
  c_op (t1 := .bool) (t2 := .bool) (g := fun (x y : Bool) => some (!decide (x = y))) op_notBl (fun x y z e v w F H Q s r1 r2 k => by
    cases e
    cases (List.cons.inj (show [v] = [V.bl x] from r1)).1
    cases (List.cons.inj (show [w] = [V.bl y] from r2)).1
    exact ⟨x, y, rfl, rfl, k⟩) ha hb
end
section
variable {X : Cx} {W : WX} {hk : List Nat} {Γ Γj : Ctx} {rest : List Stmt} {j tg : Expr} {pos p p2 : Pos} {β : Type} {I : β → Out} {t : Ty} {n : Str}
/-- target = xs[j], xs a list that is owned here -/
theorem bs_asgI (i : Nat) {xs : List t.den} {is : List Nat} {S : t.den → List Slot} {mj : Mx Int} {k : t.den → Mx β} (hi0 : Γ[i]? = some (.o (.l (.d t)) xs)) (hx : PE X (.Name n p) (tVar i)) (hj : EM X W Γj j .int mj) (vj : Vw Γ (.d .int) Γj) (hg : GT X tg t is S) (hr : ∀ x, BS X W hk (setL Γ is (S x)) rest (k x) I)
    (hpl : PlainIx j) (hi : ∀ i ∈ is, i < Γ.length ∧ i ∉ hk) (hs : swapsWithSole [tg] (.Subscript (.Name n p) j p2) pos.line X.env = pure false) (hw : swappedStores [tg] (.Subscript (.Name n p) j p2) X.env = pure none) (h1 : (assignEach [tg] X.env).map (·.2) = [assign tg X.env]) :
    BS X W hk Γ (.Assign [tg] (.Subscript (.Name n p) j p2) pos :: rest) (mj >>= fun q => ofO (atI xs q) >>= k) I :=
  have hr' : PSs X rest (fun D σ H => ∃ s, tS X.K X.mg W hk (setL Γ is (S s)) (k s) I D σ H) := ⟨fun pins s σ H D J ⟨x, q⟩ => (hr x).run pins s σ H D J q⟩
  pss_imp (pss_cons (ps_asg (pe_ix ix_list hx hj hpl) hg hs hw h1) hr') fun D σ H ⟨E, F, h, g, q⟩ => by
    obtain ⟨fps, w⟩ := id g.ow
    obtain ⟨ov, e1, v, rfl, ho⟩ := w.at_ i _ hi0
    obtain ⟨a, ws, rfl, e3, e4, rr⟩ := own_lst ho
    refine ⟨.ref a, e1, ?_⟩
    obtain ⟨G, g1, g2, g3⟩ := g.look vj
    refine ⟨G, g1, g2, q.bind.post g (fun F' H' x => let ⟨F2, a, _, b⟩ := g3 F' H' x; ⟨F2, a, b⟩) fun y py u F' H' ex ru => ?_⟩
    obtain ⟨F2, x2, back, _⟩ := g3 F' H' ex
    cases (List.cons.inj (show [u] = [V.int y] from ru)).1
    cases hz : atI xs y with
    | none => rw [hz] at py; exact py.elim
    | some x =>
      rw [hz] at py
      obtain ⟨u, k1, k2⟩ := all2_atI rr hz
      exact ⟨a, ws, y, u, rfl, rfl, SqL.of (x2.h _ _ e4), k1, x, F2, x2.i, rl_mono x2.f t x [u] k2, fun ws hl hb => ⟨x, E, F2, h, SG.setL (is := is) (g.grow x2) hb fun i hii => by rw [h]; exact hi i hii, py⟩⟩
end
end Gm
set_option Elab.async false
set_option linter.all false
set_option maxRecDepth 100000
set_option maxHeartbeats 4000000
namespace Gm
open PySem PySem.Spec L2
open PyProof.Rows (envOfC)
/-! ## owned options -/
section
variable {X : Cx} {W : WX} {hk : List Nat} {Γ Γ' Γv Γi : Ctx} {st : Stmt} {rest body : List Stmt} {a b e tg : Expr} {es : List Expr} {pos p p' p2 apos cpos : Pos} {β : Type} {r : Rt} {t k : Ty} {I : β → Out} {c f n m : Str} {ns : List Str} {C : Addr} {fs o o' : Ow} {x : o.ty.den}
theorem e_noneP {j : Nat} : EO X W Γ (.Constant .none j pos) (.opt o) (.ok none) := pe_imp pe_non fun σ H Q ⟨F, s, d, p⟩ => p .non F H (Ext.refl s) ⟨[], ⟨rfl, rfl⟩, List.nodup_nil, fun _ z => nomatch z⟩
theorem ol_some {K : PySem.W.Frag} {mg : Str → Option Value} {F H : Hp} : ∀ {o : Ow}, o.ty.some_ = true → ∀ {x : o.ty.den} {vs : List V} {fp : List Addr}, ol K mg o x vs F H fp → vs ≠ [.non] := by
  intro o
  cases o with
  | d t => intro h x vs fp r; exact rl_some h r.2
  | l o => intro h x vs fp r; obtain ⟨_, _, _, e, _⟩ := r; rw [e]; exact fun z => nomatch z
  | ins c ns fs => intro h x vs fp r; obtain ⟨_, _, _, _, _, e, _⟩ := r; rw [e]; exact fun z => nomatch z
  | pr a b => intro h; cases h
  | nl => intro h; cases h
  | dic k t => intro h x vs fp r; obtain ⟨_, _, e, _⟩ := r; rw [e]; exact fun z => nomatch z
  | dicN P w k o => intro h x vs fp r; obtain ⟨_, _, _, e, _⟩ := r; rw [e]; exact fun z => nomatch z
  | opt o => intro h; cases h
  | hl fs => intro h x vs fp r; obtain ⟨_, _, _, e, _⟩ := r; rw [e]; exact fun z => nomatch z
theorem e_someP {m : Mx o.ty.den} (ht : o.ty.some_ = true) (h : EO X W Γ e o m) : EO X W Γ e (.opt o) (m >>= fun x => .ok (some x)) := pe_imp h fun σ H Q ⟨F, s, d, p⟩ =>
  ⟨F, s, d, p.bind.mono fun x px v F' H' e1 r => px v F' H' e1 (by
    obtain ⟨fp, r, nd, nw⟩ := r
    exact ⟨fp, ⟨ol_some ht r, r⟩, nd, nw⟩)⟩
theorem SubAt.some {K : PySem.W.Frag} {mg : Str → Option Value} {F H : Hp} {v u : V} {fp : List Addr} {z : o'.ty.den} {put : Option o'.ty.den → o.ty.den} (S : SubAt K mg o (.opt o') (Option.some z) put F H v fp u) : SubAt K mg o o' z (fun z => put (Option.some z)) F H v fp u := by
  obtain ⟨fa, fb, s1, s2, s3, s4, oi, rb⟩ := S
  exact ⟨fa, fb, s1, s2, s3, s4, oi.2, fun F' H' y' fb' h1 h2 h3 h4 h5 => rb F' H' (Option.some y') fb' h1 h2 ⟨oi.1, h3⟩ h4 h5⟩
theorem pl_some {i : Nat} {y : Option o'.ty.den} {z : o'.ty.den} {put : Option o'.ty.den → o.ty.den} (h : PLc X Γ a i o (.opt o') y put) (hy : y = Option.some z) : PLc X Γ a i o o' z (fun z => put (Option.some z)) := fun E => by
  subst hy
  exact pe_imp (h E) fun σ H Q ⟨F, v, fps, g, e, k⟩ => ⟨F, v, fps, g, e, fun u S => k u S.some⟩
/-! ## an owned list is walked, which stands -/
theorem SG.at_l {K : PySem.W.Frag} {mg : Str → Option Value} {E : Ent} {σ : L2.St} {F H : Hp} {i : Nat} {xs : List t.den} (g : SG K mg E Γ σ F H) (hi : Γ[i]? = some (.o (.l (.d t)) xs)) : ∃ q ws, σ[i]? = some (some (.ref q)) ∧ H q = some (.lst ws) ∧ all2 (fun y w => rl K mg t y [w] F) xs ws := by
  obtain ⟨_, _, fps, w⟩ := g
  obtain ⟨ov, e1, v, rfl, ho⟩ := w.at_ i _ hi
  obtain ⟨q, ws, rfl, _, e4, rr⟩ := own_lst ho
  exact ⟨q, ws, e1, e4, rr⟩
abbrev Ent.held (E : Ent) (F : Hp) (i : Nat) (σ : L2.St) : Ent := ⟨F, E.B, i :: E.hk, σ⟩
theorem SG.hold {K : PySem.W.Frag} {mg : Str → Option Value} {E : Ent} {σ : L2.St} {F H : Hp} (i : Nat) (g : SG K mg E Γ σ F H) : SG K mg (E.held F i σ) Γ σ F H := ⟨⟨Same.refl _, g.e0.h, g.e0.i, fun _ _ q => q⟩, fun _ _ => rfl, g.ow⟩
theorem SG.unhold {K : PySem.W.Frag} {mg : Str → Option Value} {E : Ent} {σ σ' : L2.St} {F H F' H' : Hp} {i : Nat} (g : SG K mg E Γ σ F H) (g' : SG K mg (E.held F i σ) Γ' σ' F' H') : SG K mg E Γ' σ' F' H' :=
  ⟨ext_up g.e0 g'.e0, fun j hj => (g'.kp j (List.mem_cons_of_mem _ hj)).trans (g.kp j hj), g'.ow⟩
theorem postS.hold {K : PySem.W.Frag} {mg : Str → Option Value} {E : Ent} {σ : L2.St} {F H : Hp} {α : Type} {m : Mx α} {P P' : α → Prop} {i : Nat} (g : SG K mg E Γ σ F H) (h : postS mg W E m P) (k : ∀ a, P a → P' a) : postS mg W (E.held F i σ) m P' := by
  cases m with
  | ok a => exact k a h
  | ex e => exact fun cls d σ' F' H' y kp r => h cls d σ' F' H' (ext_up g.e0 y) (fun j hj => (kp j (List.mem_cons_of_mem _ hj)).trans (g.kp j hj)) r
  | no => exact h
theorem s1_forN {S : Type} (i : Nat) {xs : List t.den} {G : S → Ctx} {f : S → t.den → Mx S} {s0 : S} {is : List Nat} {T : t.den → List Slot} (hp : PassesOwn (model X.prog X.w) X.A X.env X.xe) (hc : X.calm = true) (hΓ : Γ[i]? = some (.o (.l (.d t)) xs)) (hn : PE X (.Name n p) (tVar i)) (hG : ∀ s, (G s)[i]? = some (.o (.l (.d t)) xs)) (hg : GT X tg t is T)
    (hb : ∀ s x, BS X W (i :: hk) (setL (G s) is (T x)) body (f s x) (fun s' => .nx (G s'))) (h0 : Wk (G s0) Γ) (hix : ∀ s, ∀ j ∈ is, j < (G s).length ∧ j ∉ i :: hk := by intro _; decide) (hs : ∀ x, foldedSetIterable (.Name n p) X.env x = pure x := by intro _; rfl) :
    S1 X W hk Γ (.For tg (.Name n p) body [] pos) (loopS xs s0 f) (fun s => .nx (G s)) :=
  have hb' : PSs X body (fun D σ H => ∃ s x, tS X.K X.mg W (i :: hk) (setL (G s) is (T x)) (f s x) (fun s' => .nx (G s')) D σ H) := ⟨fun pins σ1 σ H D J ⟨s, x, q⟩ => (hb s x).run pins σ1 σ H D J q⟩
  ps_imp (ps_for hp hc (pi_list hn) hg hb' hs) fun D σ H ⟨E, F, hh, g, q⟩ => by
    obtain ⟨l, ws, e1, e2, rr⟩ := g.at_l hΓ
    refine ⟨.ref l, e1, l, rfl, ⟨ws, SqL.of e2⟩, fun j m σ' H' => j ≤ xs.length ∧ m = xs.length - j ∧ ∃ s F', SG X.K X.mg (E.held F i σ) (G s) σ' F' H' ∧ postS X.mg W E (loopS (xs.drop j) s f) (fun s => outP X.K X.mg E D (.nx (G s))), ⟨xs.length, Nat.zero_le _, by simp, s0, F, (g.weak h0).hold i, q⟩, ?_⟩
    rintro j m σ' H' ⟨hil, rfl, s, F', g', q'⟩
    obtain ⟨l', ws', e1', e2', rr'⟩ := g'.at_l (hG s)
    have el : l' = l := by
      have := (g'.kp i (List.mem_cons_self ..)).trans e1
      rw [e1'] at this
      cases this; rfl
    subst el
    by_cases hlt : j < xs.length
    · obtain ⟨w, hw, _⟩ := rr'.get (List.getElem?_eq_getElem hlt)
      refine .inr ⟨⟨ws', w, SqL.of e2', hw⟩, fun σ'' H'' => ∃ m', m' < xs.length - j ∧ (j + 1 ≤ xs.length ∧ m' = xs.length - (j + 1) ∧ ∃ s F', SG X.K X.mg (E.held F i σ) (G s) σ'' F' H'' ∧ postS X.mg W E (loopS (xs.drop (j + 1)) s f) (fun s => outP X.K X.mg E D (.nx (G s)))), fun _ _ z => z, fun v H3 y => ?_⟩
      obtain ⟨rfl, y⟩ := y
      obtain ⟨x, hx, rx⟩ := rr'.getV (y ws' (SqL.of e2'))
      rw [List.drop_eq_getElem_cons hlt] at q'
      have hxx : xs[j] = x := by rw [List.getElem?_eq_getElem hlt] at hx; exact Option.some.inj hx
      rw [hxx] at q'
      refine ⟨x, F', g'.e0.i, rx, fun ws hl hbd => ⟨s, x, E.held F i σ, F', by show i :: E.hk = i :: hk; rw [hh], ?_, ?_⟩⟩
      · exact SG.setL (is := is) g' hbd fun k hk' => by
          have := hix s k hk'
          exact ⟨this.1, by show k ∉ i :: E.hk; rw [hh]; exact this.2⟩
      · exact postS.hold g (postS.bind (k := fun s' => loopS (xs.drop (j + 1)) s' f) q') fun s' qs σ4 F4 H4 g4 => ⟨xs.length - (j + 1), by omega, by omega, rfl, s', F4, g4, qs⟩
    · have hi' : j = xs.length := by omega
      subst hi'
      refine .inl ⟨⟨ws', SqL.of e2', by rw [← rr'.len]; exact Nat.le_refl _⟩, ?_⟩
      rw [List.drop_length] at q'
      exact q' σ' F' H' (g.unhold g')
theorem s1_forFN {S R : Type} (i : Nat) {xs : List t.den} {G : S → Ctx} {O : R → Out} {f : S → t.den → Mx (Lp S R)} {s0 : S} {is : List Nat} {T : t.den → List Slot} (hp : PassesOwn (model X.prog X.w) X.A X.env X.xe) (hc : X.calm = true) (hΓ : Γ[i]? = some (.o (.l (.d t)) xs)) (hn : PE X (.Name n p) (tVar i)) (hG : ∀ s, (G s)[i]? = some (.o (.l (.d t)) xs)) (hg : GT X tg t is T)
    (hb : ∀ s x, BS X W (i :: hk) (setL (G s) is (T x)) body (f s x) (lpo G O)) (h0 : Wk (G s0) Γ) (hO : ∀ r, (O r).isRt = true := by intro _; rfl) (hix : ∀ s, ∀ j ∈ is, j < (G s).length ∧ j ∉ i :: hk := by intro _; decide) (hs : ∀ x, foldedSetIterable (.Name n p) X.env x = pure x := by intro _; rfl) :
    S1 X W hk Γ (.For tg (.Name n p) body [] pos) (loopF xs s0 f) (fwo G O) :=
  have hb' : PSs X body (fun D σ H => ∃ s x, tS X.K X.mg W (i :: hk) (setL (G s) is (T x)) (f s x) (lpo G O) D σ H) := ⟨fun pins σ1 σ H D J ⟨s, x, q⟩ => (hb s x).run pins σ1 σ H D J q⟩
  ps_imp (ps_for hp hc (pi_list hn) hg hb' hs) fun D σ H ⟨E, F, hh, g, q⟩ => by
    obtain ⟨l, ws, e1, e2, rr⟩ := g.at_l hΓ
    refine ⟨.ref l, e1, l, rfl, ⟨ws, SqL.of e2⟩, fun j m σ' H' => j ≤ xs.length ∧ m = xs.length - j ∧ ∃ s F', SG X.K X.mg (E.held F i σ) (G s) σ' F' H' ∧ postS X.mg W E (loopF (xs.drop j) s f) (fun s => outP X.K X.mg E D (fwo G O s)), ⟨xs.length, Nat.zero_le _, by simp, s0, F, (g.weak h0).hold i, q⟩, ?_⟩
    rintro j m σ' H' ⟨hil, rfl, s, F', g', q'⟩
    obtain ⟨l', ws', e1', e2', rr'⟩ := g'.at_l (hG s)
    have el : l' = l := by
      have := (g'.kp i (List.mem_cons_self ..)).trans e1
      rw [e1'] at this
      cases this; rfl
    subst el
    by_cases hlt : j < xs.length
    · obtain ⟨w, hw, _⟩ := rr'.get (List.getElem?_eq_getElem hlt)
      refine .inr ⟨⟨ws', w, SqL.of e2', hw⟩, fun σ'' H'' => ∃ m', m' < xs.length - j ∧ (j + 1 ≤ xs.length ∧ m' = xs.length - (j + 1) ∧ ∃ s F', SG X.K X.mg (E.held F i σ) (G s) σ'' F' H'' ∧ postS X.mg W E (loopF (xs.drop (j + 1)) s f) (fun s => outP X.K X.mg E D (fwo G O s))), fun _ _ z => z, fun v H3 y => ?_⟩
      obtain ⟨rfl, y⟩ := y
      obtain ⟨x, hx, rx⟩ := rr'.getV (y ws' (SqL.of e2'))
      rw [List.drop_eq_getElem_cons hlt] at q'
      have hxx : xs[j] = x := by rw [List.getElem?_eq_getElem hlt] at hx; exact Option.some.inj hx
      rw [hxx] at q'
      refine ⟨x, F', g'.e0.i, rx, fun ws hl hbd => ⟨s, x, E.held F i σ, F', by show i :: E.hk = i :: hk; rw [hh], ?_, ?_⟩⟩
      · exact SG.setL (is := is) g' hbd fun k hk' => by
          have := hix s k hk'
          exact ⟨this.1, by show k ∉ i :: E.hk; rw [hh]; exact this.2⟩
      · refine postS.hold g (postS.bind (m := f s x) q') fun o qs => ?_
        cases o with
        | go s' => exact fun σ4 F4 H4 g4 => ⟨xs.length - (j + 1), by omega, by omega, rfl, s', F4, g4, qs⟩
        | brk s' => exact fun σ4 F4 H4 g4 => qs σ4 F4 H4 (g.unhold g4)
        | out z =>
          have qs : outP X.K X.mg E D (O z) := qs
          have hz := hO z
          show outP X.K X.mg (E.held F i σ) _ (O z)
          cases e : O z with
          | nx _ => rw [e] at hz; cases hz
          | bk _ => rw [e] at hz; cases hz
          | ct _ => rw [e] at hz; cases hz
          | rt r y => rw [e] at qs; exact fun v F H y2 r2 => qs v F H (ext_up g.e0 y2) r2
          | rs t y o2 x2 => rw [e] at qs; exact fun v Γ1 σ1 F H e0 s1 r2 => qs v Γ1 σ1 F H e0 (g.unhold s1) r2
    · have hi' : j = xs.length := by omega
      subst hi'
      refine .inl ⟨⟨ws', SqL.of e2', by rw [← rr'.len]; exact Nat.le_refl _⟩, ?_⟩
      rw [List.drop_length] at q'
      exact q' σ' F' H' (g.unhold g')
/-- isinstance of a sum -/
theorem e_isiS {t1 t2 : Ty} {q q2 : Pos} {m : Mx (Sum t1.den t2.den)} {n : Str} {T1 T2 T' : String} {r1 r2 : Bool} (hg : Gl X "isinstance") (hm : X.mg "isinstance" = none) (ha : EM X W Γ a (.sum t1 t2) m) (ht1 : t1.cls = Option.some T1) (ht2 : t2.cls = Option.some T2) (hn : PE X (.Name n q2) (tC (.ty T'))) (hk1 : kitB T1 T' = Option.some r1) (hk2 : kitB T2 T' = Option.some r2)
    (hs : starEach [a, .Name n q2] X.env = (false, eval a X.env) :: starEach [.Name n q2] X.env := by rfl) : EM X W Γ (.Call (.Name "isinstance" q) [a, .Name n q2] [] pos) .bool (m >>= fun x => .ok (Sum.elim (fun _ => r1) (fun _ => r2) x)) :=
  pe_imp (pe_callB call_isi hg hm (by decide +kernel) (pa_cons ha (pa_cons hn pa_nil) hs) (he := hs)) fun σ H Q ⟨F, s, d, p⟩ => ⟨F, s, d, p.bind.mono fun x px v F1 H1 e1 rr => by
    cases x with
    | inl y => exact ⟨v, .ty T', .type T1, .type T', r1, rfl, .ty T', rl_tyx ht1 e1.i (show rl X.K X.mg t1 y [v] F1 from rr), kit_ty hk1, px _ F1 H1 e1 rfl⟩
    | inr y => exact ⟨v, .ty T', .type T2, .type T', r2, rfl, .ty T', rl_tyx ht2 e1.i (show rl X.K X.mg t2 y [v] F1 from rr), kit_ty hk2, px _ F1 H1 e1 rfl⟩⟩
end
theorem Cv.sum2 {a b c : Ty} {g : a.den → c.den} {f : b.den → c.den} (h : Cv a c g) (k : Cv b c f) : Cv (.sum a b) c (fun x => Sum.elim g f x) := ⟨fun K mg F x vs r => by
  cases x with
  | inl y => exact h.h K mg F y vs r
  | inr y => exact k.h K mg F y vs r⟩
end Gm
set_option Elab.async false
set_option linter.all false
set_option maxRecDepth 100000
set_option maxHeartbeats 4000000
namespace Gm
open PySem PySem.Spec L2
/-! ## owned lists of many kinds -/
inductive FlW : (fs : Ow) → Nat → (o : Ow) → (fs.ty.den → o.ty.den) → (fs.ty.den → o.ty.den → fs.ty.den) → Prop
  | hd {a b : Ow} : FlW (.pr a b) 0 a (fun x => x.1) (fun x z => (z, x.2))
  | tl {a b o : Ow} {n : Nat} {π : b.ty.den → o.ty.den} {up : b.ty.den → o.ty.den → b.ty.den} (h : FlW b n o π up) : FlW (.pr a b) (n + 1) o (fun x => π x.2) (fun x z => (x.1, up x.2 z))
  | one {o : Ow} : FlW (.l o) 0 (.l o) (fun x => x) (fun _ z => z)
section
variable {K : PySem.W.Frag} {mg : Str → Option Value} {F H F' H' : Hp} {o o' : Ow} {x : o.ty.den} {v u : V}
theorem FlW.split {fs : Ow} {n : Nat} {π : fs.ty.den → o.ty.den} {up : fs.ty.den → o.ty.den → fs.ty.den} (h : FlW fs n o π up) : ∀ {y : fs.ty.den} {ws : List V} {fp : List Addr}, ol K mg fs y ws F H fp → ∃ w f1 f2 f3, ws[n]? = some w ∧ fp = f1 ++ (f2 ++ f3) ∧ ol K mg o (π y) [w] F H f2 ∧
    ∀ (F' H' : Hp) (z : o.ty.den) (f2' : List Addr), Same F F' → (∀ a, a ∈ f1 ∨ a ∈ f3 → H' a = H a) → ol K mg o z [w] F' H' f2' → ol K mg fs (up y z) ws F' H' (f1 ++ (f2' ++ f3)) := by
  induction h with
  | hd =>
    intro y ws fp q
    obtain ⟨w, r, f1, f2, rfl, rfl, h1, h2⟩ := q
    exact ⟨w, [], f1, f2, rfl, rfl, h1, fun F' H' z f2' hs hH hz => ⟨w, r, f2', f2, rfl, rfl, hz, ol_frame hs _ _ _ _ (fun a ha => hH a (.inr ha)) h2⟩⟩
  | tl h ih =>
    intro y ws fp q
    obtain ⟨w, r, f1, f2, rfl, rfl, h1, h2⟩ := q
    obtain ⟨w2, g1, g2, g3, e1, rfl, e3, e4⟩ := ih h2
    refine ⟨w2, f1 ++ g1, g2, g3, e1, by rw [List.append_assoc], e3, fun F' H' z f2' hs hH hz => ?_⟩
    have := e4 F' H' z f2' hs (fun a ha => hH a (ha.imp_left fun z => List.mem_append_right _ z)) hz
    exact ⟨w, r, f1, g1 ++ (f2' ++ g3), rfl, by rw [List.append_assoc], ol_frame hs _ _ _ _ (fun a ha => hH a (.inl (List.mem_append_left _ ha))) h1, this⟩
  | one =>
    intro y ws fp q
    obtain ⟨p, ws', fps, rfl, rfl, e3, e4⟩ := q
    refine ⟨.ref p, [], p :: fps.flatten, [], rfl, by simp, ⟨p, ws', fps, rfl, rfl, e3, e4⟩, fun F' H' z f2' hs hH hz => ?_⟩
    rw [List.nil_append, List.append_nil]; exact hz
theorem SubAt.hidx {fs : Ow} {y : fs.ty.den} {put : fs.ty.den → o.ty.den} {fp : List Addr} {n : Nat} {π : fs.ty.den → o'.ty.den} {up : fs.ty.den → o'.ty.den → fs.ty.den}
    (S : SubAt K mg o (.hl fs) y put F H v fp u) (hf : FlW fs n o' π up) : ∃ q ws w, u = .ref q ∧ H q = Option.some (.lst ws) ∧ ws[n]? = Option.some w ∧ SubAt K mg o o' (π y) (fun z => put (up y z)) F H v fp w := by
  obtain ⟨fa, fb, s1, s2, s3, s4, oi, rb⟩ := S
  obtain ⟨q, ws, fp2, e1, rfl, e3, e7⟩ := oi
  cases (List.cons.inj e1).1
  obtain ⟨w, f1, f2, f3, hw, rfl, g3, g4⟩ := hf.split e7
  refine ⟨q, ws, w, rfl, e3, hw, ?_⟩
  have nq := List.nodup_cons.mp s4
  obtain ⟨n1, n2, n3, n4, n5, n6⟩ := nd_app3 nq.2
  refine ⟨fa ++ (q :: (f1 ++ f3)), f2, fun a ha => ?_, fun a ha => s2 a (by simp [ha]), fun a ha hb => ?_, n2, g3, fun F' H' y' fb' hs hH hy nd' hd => ?_⟩
  · rcases List.mem_append.mp ha with z | z
    · exact s1 a z
    · refine s2 a ?_
      simp only [List.mem_cons, List.mem_append] at z ⊢
      rcases z with z | z | z
      · exact .inl z
      · exact .inr (.inl z)
      · exact .inr (.inr (.inr z))
  · rcases List.mem_append.mp ha with z | z
    · exact s3 a z (by simp [hb])
    · simp only [List.mem_cons, List.mem_append] at z
      rcases z with rfl | z | z
      · exact nq.1 (by simp [hb])
      · exact n4 a z hb
      · exact n6 a hb z
  · have hin : ∀ a, a ∈ q :: (f1 ++ f3) → H' a = H a := fun a ha => hH a (List.mem_append_right _ ha)
    have hdis : ∀ a, a ∈ q :: (f1 ++ f3) → a ∉ fb' := fun a ha hb => hd a hb (List.mem_append_right _ ha)
    have o1 := g4 F' H' y' fb' hs (fun a ha => hin a (by simp only [List.mem_cons, List.mem_append]; exact .inr ha)) hy
    have ndn : (f1 ++ (fb' ++ f3)).Nodup := app3_nd n1 nd' n3 (fun a ha hb => hdis a (by simp [ha]) hb) n5 (fun a ha hb => hdis a (by simp [hb]) ha)
    have ndq : (q :: (f1 ++ (fb' ++ f3))).Nodup := by
      refine List.nodup_cons.mpr ⟨fun z => ?_, ndn⟩
      simp only [List.mem_append] at z
      rcases z with z | z | z
      · exact nq.1 (by simp [z])
      · exact hdis q (by simp) z
      · exact nq.1 (by simp [z])
    obtain ⟨fp', m1, m2, m3⟩ := rb F' H' (up y y') (q :: (f1 ++ (fb' ++ f3))) hs (fun a ha => hH a (List.mem_append_left _ ha))
      ⟨q, ws, _, rfl, rfl, (hin q (by simp)).trans e3, o1⟩ ndq (fun a ha hb => by
        simp only [List.mem_cons, List.mem_append] at ha
        rcases ha with rfl | ha | ha | ha
        · exact s3 _ hb (by simp)
        · exact s3 _ hb (by simp [ha])
        · exact hd a ha (List.mem_append_left _ hb)
        · exact s3 _ hb (by simp [ha]))
    refine ⟨fp', m1, fun a ha => ?_, m3⟩
    rcases m2 a ha with z | z
    · exact .inl (List.mem_append_left _ z)
    · simp only [List.mem_cons, List.mem_append] at z ⊢
      rcases z with z | z | z | z
      · exact .inl (.inr (.inl z))
      · exact .inl (.inr (.inr (.inl z)))
      · exact .inr z
      · exact .inl (.inr (.inr (.inr z)))
end
section
variable {X : Cx} {W : WX} {hk : List Nat} {Γ Γ' Γv Γi : Ctx} {st : Stmt} {rest : List Stmt} {a b e : Expr} {es : List Expr} {pos p p' p2 apos cpos : Pos} {β : Type} {r : Rt} {t k : Ty} {I : β → Out} {c f n m : Str} {ns : List Str} {C : Addr} {fs o o' : Ow} {x : o.ty.den}
theorem pl_hidx {i nn : Nat} {ii : Int} {j : Nat} {y : fs.ty.den} {put : fs.ty.den → o.ty.den} {π : fs.ty.den → o'.ty.den} {up : fs.ty.den → o'.ty.den → fs.ty.den} (h : PLc X Γ a i o (.hl fs) y put) (hf : FlW fs nn o' π up) (hi : ii = (nn : Int) := by rfl)
    (hs : PlainIx (.Constant (.int ii) j p) := by intro _ _; rfl) : PLc X Γ (.Subscript a (.Constant (.int ii) j p) pos) i o o' (π y) (fun z => put (up y z)) := fun E => pe_imp (pe_ix ix_list (h E) (pe_int (i := ii)) hs) fun σ H Q ⟨F, v, fps, g, e, k⟩ => ⟨F, v, fps, g, e, fun u0 S0 => by
  subst hi
  obtain ⟨q, ws, w, rfl, e4, hw, S⟩ := S0.hidx hf
  exact ⟨q, ws, (nn : Int), w, rfl, rfl, SqL.of e4, atI_nat hw, k w S⟩⟩
/-- parts, of which the last is an owned name -/
def tHO (mg : Str → Option Value) (K : PySem.W.Frag) (W : WX) (Γ : Ctx) (i : Nat) (o : Ow) (x0 : o.ty.den) (fs : Ow) (n : Nat) (m : Mx fs.ty.den) : TA := fun σ H Q => ∃ F v fp, Same F H ∧ SD K mg Γ σ F ∧ σ[i]? = some (some v) ∧ ol K mg o x0 [v] F H fp ∧
  post mg W σ m F H fun y => ∀ vs F' H', Ext F H F' H' → ol K mg fs y vs F' H' fp → vs.length = n → Q vs H'
theorem ho_last (i : Nat) (hp : PE X (.Name n p) (tVar i)) (hs : starEach [.Name n p] X.env = (false, eval (.Name n p) X.env) :: starEach [] X.env := by rfl) : PA X [.Name n p] (tHO X.mg X.K W Γ i o x o 1 (.ok x)) :=
  pa_imp (pa_cons hp pa_nil hs) fun σ H Q ⟨F, v, fp, s, d, e, r, q⟩ => ⟨v, e, q [v] F H (Ext.refl s) r rfl⟩
theorem ho_cons {i nn : Nat} {me : Mx t.den} {ms : Mx fs.ty.den} (ha : EM X W Γ a t me) (hr : PA X es (tHO X.mg X.K W Γ i o x fs nn ms)) (hs : starEach (a :: es) X.env = (false, eval a X.env) :: starEach es X.env := by rfl) :
    PA X (a :: es) (tHO X.mg X.K W Γ i o x (.pr (.d t) fs) (nn + 1) (me >>= fun x => ms >>= fun y => .ok (x, y))) := pa_imp (pa_cons ha hr hs) fun σ H Q ⟨F, v0, fp, s, d, e0, r0, q⟩ =>
  ⟨F, s, d, q.bind.mono fun x px v F1 H1 e1 r1 => ⟨F1, v0, fp, e1.i, d.mono e1.f, e0, ol_frame e1.f _ _ _ _ (fun a ha => by
    obtain ⟨u, hu, _⟩ := ol_cell _ _ _ _ r0 a ha
    rw [hu]; exact e1.h _ _ hu) r0, post.ext e1 px.bind fun y py vs F2 H2 e2 r2 hn => py (v :: vs) F2 H2 (e1.trans e2) ⟨v, vs, [], fp, rfl, rfl, ⟨rfl, rl_mono e2.f t x _ r1⟩, r2⟩ (congrArg (· + 1) hn)⟩⟩
/-- return [a, b, .., n], n owned -/
theorem bs_retHL (i : Nat) {nn : Nat} {me : Mx fs.ty.den} {b : fs.ty.den → β} (hi : Γ[i]? = some (.o o x)) (he : PA X es (tHO X.mg X.K W (hide Γ) i o x fs nn me)) (hl : nn ≤ 1000 := by decide) (hI : ∀ y, I (b y) = .rt (.o (.hl fs)) y := by intro _; rfl) :
    BS X W hk Γ (.Return (some (.List es p)) pos :: rest) (me >>= fun y => .ok (b y)) I :=
  pss_imp (pss_cons (ps_ret (pe_lst he)) pss_never) fun D σ H ⟨E, F, h, g, q⟩ => by
    obtain ⟨fps, w⟩ := id g.ow
    obtain ⟨ov, e1, v, rfl, r⟩ := w.at_ i _ hi
    refine ⟨F, v, fps i, g.e0.i, g.sd_hide, e1, r, q.bind.post g (fun F' H' x => ⟨F', x, fun _ _ q => q⟩) fun y py vs F' H' ex rr hn => ⟨Nat.le_trans (by rw [hn]; exact hl) (by decide), fun np nnp => ?_⟩⟩
    have py : outP X.K X.mg E D (I (b y)) := py
    rw [hI] at py
    have cell : ∀ a ∈ fps i, H a ≠ none := fun a ha z => by
      obtain ⟨u, hu, _⟩ := ol_cell _ _ _ _ r a ha
      rw [z] at hu; cases hu
    have pn : np ∉ fps i := fun z => cell np z (ex.h.free nnp)
    refine py (.ref np) F' (upd H' np (.lst vs)) (g.e0.trans (ex.trans (Ext.cell ex.i nnp))) ⟨np :: fps i, ⟨np, vs, fps i, rfl, rfl, upd_same, ol_frame (Same.refl _) _ _ _ _ (fun a ha => ?_) rr⟩, List.nodup_cons.mpr ⟨pn, w.nd i⟩, fun a ha => ?_⟩
    · unfold upd; rw [if_neg]; intro z; exact pn (z ▸ ha)
    · rcases List.mem_cons.mp ha with rfl | ha
      · exact ⟨ex.i.free nnp, (g.e0.h.trans ex.h).free nnp⟩
      · exact ⟨ex.n a (cell a ha) (w.new i a ha).1, (w.new i a ha).2⟩
end
end Gm
set_option Elab.async false
set_option linter.all false
set_option maxRecDepth 100000
set_option maxHeartbeats 4000000
namespace Gm
open PySem PySem.Spec L2
/-! ## list(d.items()), d's keys nested tuples -/
theorem paired_at {α β : Type} {R : α → β → Prop} : ∀ {xs : List α} {ys : List β}, Paired R xs ys → ∀ {i : Nat} {x : α}, xs[i]? = some x → ∃ y, ys[i]? = some y ∧ R x y
  | _, _, .nil, i, x, h => by cases h
  | _, _, .cons r t, 0, x, h => by cases h; exact ⟨_, rfl, r⟩
  | _, _, .cons r t, i + 1, x, h => paired_at t h
theorem paired_mk {α β : Type} {R : α → β → Prop} : ∀ {xs : List α} {ys : List β}, xs.length = ys.length → (∀ (i : Nat) x y, xs[i]? = some x → ys[i]? = some y → R x y) → Paired R xs ys
  | [], [], _, _ => .nil
  | [], _ :: _, h, _ => by cases h
  | _ :: _, [], h, _ => by cases h
  | x :: xs, y :: ys, h, k => .cons (k 0 x y rfl rfl) (paired_mk (Nat.succ.inj h) fun i x y e1 e2 => k (i + 1) x y e1 e2)
/-- a list at S, its tuples at the places as -/
def laidN (H : Hp) (S : Addr) (as : List Addr) (kvs : List NE) : Hp := fun b => if b = S then some (.lst (as.map V.ref)) else match (as.zip kvs).find? (fun z => decide (z.1 = b)) with
  | some z => some (.tup [.ref z.2.2.1, z.2.2.2])
  | none => H b
section
variable {H : Hp} {S : Addr} {as : List Addr} {kvs : List NE}
theorem laidN_S : laidN H S as kvs S = some (.lst (as.map V.ref)) := if_pos rfl
theorem laidN_off {b : Addr} (h : b ∉ as) (hS : b ≠ S) : laidN H S as kvs b = H b := by
  unfold laidN
  rw [if_neg hS]
  have : (as.zip kvs).find? (fun z => decide (z.1 = b)) = none := by
    rw [List.find?_eq_none]
    intro z hz hd
    exact h (of_decide_eq_true hd ▸ (List.of_mem_zip hz).1)
  rw [this]
theorem laidN_at (nd : as.Nodup) (hS : S ∉ as) {j : Nat} {b : Addr} {q : NE} (h1 : as[j]? = some b) (h2 : kvs[j]? = some q) : laidN H S as kvs b = some (.tup [.ref q.2.1, q.2.2]) := by
  unfold laidN
  rw [if_neg (show ¬ b = S from fun z => hS (z ▸ List.mem_of_getElem? h1))]
  have hm : (as.zip kvs)[j]? = some (b, q) := List.getElem?_zip_eq_some.mpr ⟨h1, h2⟩
  cases hf : (as.zip kvs).find? (fun z => decide (z.1 = b)) with
  | none =>
    rw [List.find?_eq_none] at hf
    exact absurd (decide_eq_true rfl) (hf _ (List.mem_of_getElem? hm))
  | some z =>
    have hz : z.1 = b := by have := List.find?_some hf; exact of_decide_eq_true this
    obtain ⟨i, hi⟩ := List.mem_iff_getElem?.mp (List.mem_of_find?_eq_some hf)
    obtain ⟨i1, i2⟩ := List.getElem?_zip_eq_some.mp hi
    rw [hz] at i1
    obtain ⟨ha, ea⟩ := List.getElem?_eq_some_iff.mp i1
    obtain ⟨hb, eb⟩ := List.getElem?_eq_some_iff.mp h1
    have hij : i = j := (List.getElem_inj nd).mp (ea.trans eb.symm)
    subst hij
    rw [h2] at i2
    cases i2
    rfl
end
def rItemsN (P : Program) (w : World) : V → Hp → VK → Prop := fun x H Q => ∃ (d : Addr) (kvs : List NE), x = .ref d ∧ H d = some (dnO P w d kvs) ∧
  ∀ (H' : Hp) (p : Addr) (ts : List Addr), Same H H' → H p = none → (∀ t ∈ ts, H t = none) → p ∉ ts → ts.Nodup → kvs.length ≤ sizeLine → H' p = some (.lst (ts.map V.ref)) → Paired (fun (t : Addr) (q : NE) => H' t = some (.tup [.ref q.2.1, q.2.2])) ts kvs →
    (∀ b, b ∉ ts → b ≠ p → H' b = H b) → Q (.ref p) H'
def tItemsN (X : Cx) (te : TE) : TE := fun σ H Q => te σ H fun x H1 => rItemsN X.prog X.w x H1 Q
section
variable {X : Cx} {W : WX} {Γ : Ctx} {a e : Expr} {te : TE} {p apos cpos pos : Pos} {t k : Ty}
theorem laidN_inv {pins : List (Addr × Obj)} {σ : L2.St} {H : Hp} {s : Shared} {h' : Heap} {tk : Nat} {kvs : List NE} {xs : List (NestedKey × Addr × Value)} {es : Array DictEntry} {acc : Array Value} {c : Nat} {as : List Addr} (I : Inv X pins σ H s) (hz : kvs.length ≤ sizeLine) (rel : Paired nRel kvs xs)
    (he : es.toList = xs.map (entryOfKey (nestedKind X.prog X.w))) (hk : ∀ b o, s.heap.get? b = some o → h'.get? b = some o) (hS : h'.get? s.heap.objs.size = some { cls := .type "list", dict := none, data := .seq acc c, slots := #[] }) (hl : as.length = es.size)
    (hG : PySem.W.DilG es s.heap.objs.size h' as) (hacc : acc.toList = as.map Value.ref) : ∃ H' : Hp, Same H H' ∧ H s.heap.objs.size = none ∧ (∀ t ∈ as, H t = none) ∧ s.heap.objs.size ∉ as ∧ as.Nodup ∧ H' s.heap.objs.size = some (.lst (as.map V.ref)) ∧
      Paired (fun (t : Addr) (q : NE) => H' t = some (.tup [.ref q.2.1, q.2.2])) as kvs ∧ (∀ b, b ∉ as → b ≠ s.heap.objs.size → H' b = H b) ∧ Inv X pins σ H' { s with heap := h', toks := tk } := by
  have lk : kvs.length = xs.length := Paired.length rel
  have le : es.size = kvs.length := by rw [lk, ← List.length_map (f := entryOfKey (nestedKind X.prog X.w)), ← he]; simp
  have hSn : s.heap.objs.size ∉ as := fun z => Nat.lt_irrefl _ (hG.above _ z)
  have nd : as.Nodup := List.Pairwise.imp (fun {a b} (h : a < b) => Nat.ne_of_lt h) hG.rise
  have new : ∀ t ∈ as, H t = none := fun t ht => I.hok.fresh (Nat.le_of_lt (hG.above t ht))
  have newS : H s.heap.objs.size = none := I.hok.fresh (Nat.le_refl _)
  have atP : Paired (fun (t : Addr) (q : NE) => laidN H s.heap.objs.size as kvs t = some (.tup [.ref q.2.1, q.2.2])) as kvs := paired_mk (by omega) fun i x y e1 e2 => laidN_at nd hSn e1 e2
  have kp : Same H (laidN H s.heap.objs.size as kvs) := fun b u e => by
    rw [laidN_off (fun z => by rw [new b z] at e; cases e) (fun z => by rw [z, newS] at e; cases e)]
    exact e
  have low : ∀ b o, s.heap.get? b = some o → b ∉ as ∧ b ≠ s.heap.objs.size := fun b o e => ⟨fun z => absurd (Heap.lt_size e) (Nat.not_lt.mpr (Nat.le_of_lt (hG.above b z))), Nat.ne_of_lt (Heap.lt_size e)⟩
  refine ⟨laidN H s.heap.objs.size as kvs, kp, newS, new, hSn, nd, laidN_S, atP, fun b h1 h2 => laidN_off h1 h2, ?_⟩
  refine I.call' (ch := []) rfl ⟨fun b o q _ _ _ => hk b o q, fun b o q _ _ _ => ⟨o.slots, hk b o q⟩, fun b o q n _ => ?_, fun b o q _ => ⟨o, hk b o q⟩, fun b xs q => kp b _ q, fun b o u q => kp b _ q, fun b ps q => ⟨#[], by rw [kp b _ q]; simp⟩⟩ (fun b u q => ?_) I.bare fun b z => by simp at z
  · obtain ⟨z1, z2⟩ := low b o q
    rw [laidN_off z1 z2]; exact n
  · by_cases hb : b ∈ as
    · obtain ⟨j, hj⟩ := List.mem_iff_getElem?.mp hb
      obtain ⟨y, hy, e3⟩ := paired_at atP hj
      rw [e3] at q
      cases q
      obtain ⟨xq, g1, g2, g3, g4⟩ := paired_at rel hy
      obtain ⟨hjj, f3⟩ := hG.pairs j b hj
      have hent : es[j] = entryOfKey (nestedKind X.prog X.w) xq := by
        have : es.toList[j]? = some es[j] := by simp
        rw [he, List.getElem?_map, g1] at this
        exact (Option.some.inj this).symm
      rw [hent] at f3
      exact ⟨by show 2 ≤ sizeLine; decide, [.ref xq.2.1, xq.2.2], .cons (by show _ = _; rw [g3]) (.cons g4 .nil), ⟨_, f3, rfl, _, rfl⟩⟩
    · by_cases hb2 : b = s.heap.objs.size
      · rw [hb2] at q ⊢
        rw [laidN_S] at q
        cases q
        refine ⟨by rw [List.length_map]; omega, acc.toList, c, ?_, ?_⟩
        · rw [hacc]
          have : ∀ l : List Addr, Vals (l.map V.ref) (l.map Value.ref) := fun l => by
            induction l with
            | nil => exact .nil
            | cons x l ih => exact .cons rfl ih
          exact this as
        · rw [Array.toArray_toList]; exact hS
      · rw [laidN_off hb hb2] at q
        exact (I.hok b u q).stay (fun d v _ y => hk d v y) (fun d y => kp d _ y) fun d xs y => kp d _ y
theorem pe_itemsN (hc : X.calm = true) (he : PE X e te) (hg : Gl X "list") (hm : X.mg "list" = none) (hbase : attributeBase e "items" X.env (eval e X.env) = eval e X.env := by rfl) (hline : (apos.endLine == cpos.line) = true := by rfl)
    (hs : starEach [.Call (.Attribute e "items" apos) [] [] cpos] X.env = (false, eval (.Call (.Attribute e "items" apos) [] [] cpos) X.env) :: starEach [] X.env := by rfl) :
    PE X (.Call (.Name "list" p) [.Call (.Attribute e "items" apos) [] [] cpos] [] pos) (tItemsN X te) := by
  refine ⟨fun pins s σ H Q I hq => ?_⟩
  refine wpAny_Call_Name_kw (ld_blt (u := .type "list") I hg hm rfl ?_)
  refine PyProof.Rows.callWith_type1 ?_ hs rfl
  rw [hs]
  show wpAny _ _ (spliced ((false, eval (.Call (.Attribute e "items" apos) [] [] cpos) X.env) :: backTo pos (starEach [] X.env))) _ _ s
  refine Calls.spliced_cons ?_
  refine wpAny_Call_method (T := "dict") (id := "dict.items") hbase rfl hline PySem.F.plainAttrs_dict PySem.F.slot_dict_items PySem.F.type_dict_items (thn (he.run pins s σ H _ I hq) fun u s1 ⟨x, H1, I1, rx, d, kvs, ex, hd, q⟩ => ?_)
  subst ex
  obtain rfl : u = Value.ref d := rx
  obtain ⟨z, hy, xs, rel, o, es, ep, h1, h2, h3, h4, h5⟩ := dn_at I1 (.inl hd)
  have hraw : s1.heap.DictRaw d es ep := ⟨o, h1, h2, h3⟩
  have lk : kvs.length = xs.length := Paired.length rel
  have le : es.size = kvs.length := by rw [lk, ← List.length_map (f := entryOfKey (nestedKind X.prog X.w)), ← h4]; simp
  have I2 : Inv X pins σ H1 { s1 with heap := s1.heap.push { cls := .type "dict_items", data := .fields #[.ref d] } } := I1.kept (t' := s1.toks) fun b ob q => Heap.get?_push_of_some _ q
  refine ⟨hraw.typeIs, fun b q => ?_, ?_⟩
  · cases q
    exact ⟨o, h1, h2.2.1⟩
  show wpAny _ _ (callWith cpos (.builtin "dict.items") [.ref d] [] []) _ X.xe s1
  refine method_meetsIn PySem.F.slot_dict_items PySem.F.entry_dict_items rfl (PySem.evalArgs_none ⟨rfl, hraw.typeIs, PySem.F.args_dict_items_1 _, _, meets_dict_items_raw d hy, ⟨es, ep, hraw⟩, ?_⟩)
  refine Calls.spliced_nil ?_
  refine PySem.W.dil_call (es := es) (ep := ep) (I1.ok.hd hc) ⟨_, Heap.get?_push_size _ rfl, rfl, rfl⟩ (hraw.push _) (by omega) fun h' tk acc c as hk hS hl hG hacc => ?_
  obtain ⟨H', k1, k2, k3, k4, k5, k6, k7, k8, J⟩ := laidN_inv (tk := tk) I2 z rel h4 hk hS hl hG hacc
  exact ⟨.ref _, H', J, rfl, q H' _ as k1 k2 k3 k4 k5 z k6 k7 k8⟩
/-- list(d.items()) -/
theorem e_itemsN {m : Mx (List (k.den × t.den))} (hk : k.kyN = true) (hc : X.calm = true) (hg : Gl X "list") (hm : X.mg "list" = none) (ha : EM X W Γ a (.dicN X.prog X.w k t) m) (hbase : attributeBase a "items" X.env (eval a X.env) = eval a X.env := by rfl) (hline : (apos.endLine == cpos.line) = true := by rfl)
    (hs : starEach [.Call (.Attribute a "items" apos) [] [] cpos] X.env = (false, eval (.Call (.Attribute a "items" apos) [] [] cpos) X.env) :: starEach [] X.env := by rfl) :
    EO X W Γ (.Call (.Name "list" p) [.Call (.Attribute a "items" apos) [] [] cpos] [] pos) (.l (.d (.tup (.pr k t)))) m :=
  pe_imp (pe_itemsN hc ha hg hm hbase hline hs) fun σ H Q ⟨F, s, d, q⟩ => ⟨F, s, d, q.mono fun x px v F1 H1 e1 r1 => by
    obtain ⟨l, kvs, e, g, rr⟩ := r1
    cases (List.cons.inj e).1
    refine ⟨l, kvs, rfl, e1.i _ _ g, fun H' p ts h1 h2 h3 h4 h5 h6 h7 h8 h9 => ?_⟩
    have nF1 : ∀ b, H1 b = none → F1 b = none := fun b z => e1.i.free z
    let F2 : Hp := fun b => if b ∈ ts then H' b else F1 b
    have f1 : Same F1 F2 := fun b u eu => by
      show (if b ∈ ts then H' b else F1 b) = some u
      rw [if_neg fun z => by rw [nF1 b (h3 b z)] at eu; cases eu]; exact eu
    have f2 : Same F2 H' := fun b u eu => by
      have eu : (if b ∈ ts then H' b else F1 b) = some u := eu
      by_cases hb : b ∈ ts
      · rw [if_pos hb] at eu; exact eu
      · rw [if_neg hb] at eu; exact h1 _ _ (e1.i _ _ eu)
    have ex2 : Ext F1 H1 F2 H' := ⟨f1, h1, f2, fun b hb hf => by
      show (if b ∈ ts then H' b else F1 b) = none
      rw [if_neg fun z => hb (h3 b z)]; exact hf⟩
    refine px (.ref p) F2 H' (e1.trans ex2) ⟨[p], ⟨p, ts.map V.ref, (ts.map V.ref).map fun _ => [], rfl, by rw [flat_nil], h7, ?_⟩, by simp, fun b hb => ?_⟩
    · have key : ∀ {xs : List (k.den × t.den)} {kvs : List NE} {ts' : List Addr}, (∀ u ∈ ts', u ∈ ts) → allN k.nk (fun x b => rl X.K X.mg k x [.ref b] F1) (fun x w => rl X.K X.mg t x [w] F1) xs kvs → Paired (fun (t : Addr) (q : NE) => H' t = some (.tup [.ref q.2.1, q.2.2])) ts' kvs →
          all3 (fun (x : k.den × t.den) w f => ol X.K X.mg (.d (.tup (.pr k t))) x [w] F2 H' f) xs (ts'.map V.ref) ((ts'.map V.ref).map fun _ => []) := by
        intro xs
        induction xs with
        | nil =>
          intro kvs ts' _ a b
          cases kvs with
          | nil => cases b; exact True.intro
          | cons _ _ => exact a.elim
        | cons x xs ih =>
          intro kvs ts' ht a b
          cases kvs with
          | nil => exact a.elim
          | cons q kvs =>
            cases b with
            | @cons t0 _ ts0 _ b1 b2 =>
              obtain ⟨⟨a1, a2, a3⟩, a4⟩ := a
              refine ⟨⟨rfl, t0, [.ref q.2.1, q.2.2], rfl, SqT.of (by show (if t0 ∈ ts then H' t0 else F1 t0) = _; rw [if_pos (ht _ (List.mem_cons_self ..))]; exact b1), .ref q.2.1, [q.2.2], rfl, rl_mono f1 k x.1 _ a2, rl_mono f1 t x.2 _ a3⟩, ih (fun u hu => ht u (List.mem_cons_of_mem _ hu)) a4 b2⟩
      exact key (fun _ z => z) rr h8
    · rw [List.mem_singleton.mp hb]
      refine ⟨?_, e1.h.free h2⟩
      show (if p ∈ ts then H' p else F1 p) = none
      rw [if_neg h4]; exact nF1 p h2⟩
/-! ## an owned list, its items seen otherwise -/
theorem SG.see {K : PySem.W.Frag} {mg : Str → Option Value} {E : Ent} {σ : L2.St} {F H : Hp} {i : Nat} {u u' : Slot} (g : SG K mg E Γ σ F H) (hi : Γ[i]? = some u) (hs : ∀ ov fp, so K mg u ov F H fp → so K mg u' ov F H fp) : SG K mg E (Γ.set i u') σ F H := by
  obtain ⟨e0, kp, fps, w⟩ := g
  refine ⟨e0, kp, fps, fun j v e => ?_, fun j e => w.out j ?_, w.nd, w.sep, w.new⟩
  · by_cases hj : j = i
    · subst hj
      rw [List.getElem?_set_self (List.getElem?_eq_some_iff.mp hi).1] at e
      cases e
      obtain ⟨ov, e1, r⟩ := w.at_ _ _ hi
      exact ⟨ov, e1, hs _ _ r⟩
    · rw [List.getElem?_set_ne (Ne.symm hj)] at e
      exact w.at_ j v e
  · rw [List.getElem?_eq_none_iff] at e ⊢
    rwa [List.length_set] at e
theorem bs_see {hk : List Nat} {A : List Stmt} {β : Type} {I : β → Out} {t1 : Ty} (i : Nat) {f : t.den → t1.den} {xs : List t.den} {m : Mx β} (c : Cv t t1 f) (hi : Γ[i]? = some (.o (.l (.d t)) xs)) (h : BS X W hk (Γ.set i (.o (.l (.d t1)) (xs.map f))) A m I) : BS X W hk Γ A m I :=
  pss_imp h fun D σ H ⟨E, F, h, g, q⟩ => ⟨E, F, h, g.see hi fun ov fp ⟨v, e, r⟩ => by
    obtain ⟨q0, ws, rfl, e3, e4, rr⟩ := own_lst r
    subst e3
    exact ⟨_, e, lst_own (rr.mapl fun x v z => c.h _ _ _ x [v] z) e4⟩, q⟩
theorem bs_drop {hk : List Nat} {A : List Stmt} {β : Type} {I : β → Out} (i : Nat) {m : Mx β} (h : BS X W hk (Γ.set i .no) A m I) (hb : Nat.ble (i + 1) Γ.length = true) : BS X W hk Γ A m I :=
  pss_imp h fun D σ H ⟨E, F, h, g, q⟩ => ⟨E, F, h, g.drop (Nat.le_of_ble_eq_true hb), q⟩
end
end Gm
set_option Elab.async false
set_option linter.all false
set_option maxRecDepth 100000
set_option maxHeartbeats 4000000
namespace Gm
open PySem PySem.Spec L2
/-! ## a list of many kinds, its parts new and owned -/
section
variable {X : Cx} {W : WX} {Γ : Ctx} {a b e : Expr} {es : List Expr} {pos p : Pos} {fs o : Ow}
def tOO (mg : Str → Option Value) (K : PySem.W.Frag) (W : WX) (Γ : Ctx) (fs : Ow) (n : Nat) (m : Mx fs.ty.den) : TA := fun σ H Q => ∃ F, Same F H ∧ SD K mg Γ σ F ∧
  post mg W σ m F H fun y => ∀ vs F' H' fp, Ext F H F' H' → ol K mg fs y vs F' H' fp → fp.Nodup → (∀ u ∈ fp, F' u = none ∧ H u = none) → vs.length = n → Q vs H'
theorem oo_one {m : Mx o.ty.den} (ha : EO X W Γ a o m) (hs : starEach [a] X.env = (false, eval a X.env) :: starEach [] X.env := by rfl) : PA X [a] (tOO X.mg X.K W Γ o 1 m) :=
  pa_imp (pa_cons ha pa_nil hs) fun σ H Q ⟨F, s, d, q⟩ => ⟨F, s, d, q.mono fun x px v F' H' ex ⟨fp, r, nd, nw⟩ => px [v] F' H' fp ex r nd nw rfl⟩
theorem oo_cons {nn : Nat} {me : Mx o.ty.den} {ms : Mx fs.ty.den} (ha : EO X W Γ a o me) (hr : PA X es (tOO X.mg X.K W Γ fs nn ms)) (hs : starEach (a :: es) X.env = (false, eval a X.env) :: starEach es X.env := by rfl) :
    PA X (a :: es) (tOO X.mg X.K W Γ (.pr o fs) (nn + 1) (me >>= fun x => ms >>= fun y => .ok (x, y))) := pa_imp (pa_cons ha hr hs) fun σ H Q ⟨F, s, d, q⟩ =>
  ⟨F, s, d, q.bind.mono fun x px v F1 H1 e1 ⟨fp1, r1, nd1, nw1⟩ => ⟨F1, e1.i, d.mono e1.f, post.ext e1 px.bind fun y py vs F2 H2 fp2 e2 r2 nd2 nw2 hn => by
    have c1 : ∀ u ∈ fp1, H1 u ≠ none := fun u hu z => by
      obtain ⟨w, hw, _⟩ := ol_cell _ _ _ _ r1 u hu
      rw [z] at hw; cases hw
    refine py (v :: vs) F2 H2 (fp1 ++ fp2) (e1.trans e2) ⟨v, vs, fp1, fp2, rfl, rfl, ol_frame e2.f _ _ _ _ (fun u hu => ?_) r1, r2⟩ ?_ (fun u hu => ?_) (congrArg (· + 1) hn)
    · obtain ⟨w, hw, _⟩ := ol_cell _ _ _ _ r1 u hu
      rw [hw]; exact e2.h _ _ hw
    · rw [List.nodup_append]
      exact ⟨nd1, nd2, fun u hu w hw z => c1 u hu (z ▸ (nw2 w hw).2)⟩
    · rcases List.mem_append.mp hu with hu | hu
      · exact ⟨e2.n u (c1 u hu) (nw1 u hu).1, (nw1 u hu).2⟩
      · exact ⟨(nw2 u hu).1, e1.h.free (nw2 u hu).2⟩⟩⟩
theorem e_hlO {nn : Nat} {m : Mx fs.ty.den} (h : PA X es (tOO X.mg X.K W Γ fs nn m)) (hl : nn ≤ 1000 := by decide) : EO X W Γ (.List es pos) (.hl fs) m :=
  pe_imp (pe_lst h) fun σ H Q ⟨F, s, d, q⟩ => ⟨F, s, d, q.mono fun x px vs F1 H1 fp e1 r1 nd nw hn => ⟨Nat.le_trans (by rw [hn]; exact hl) (by decide), fun p np => by
    have pn : p ∉ fp := fun z => by
      obtain ⟨w, hw, _⟩ := ol_cell _ _ _ _ r1 p z
      rw [np] at hw; cases hw
    refine px (.ref p) F1 (upd H1 p (.lst vs)) (e1.trans (Ext.cell e1.i np)) ⟨p :: fp, ⟨p, vs, fp, rfl, rfl, upd_same, ol_frame (Same.refl _) _ _ _ _ (fun u hu => ?_) r1⟩, List.nodup_cons.mpr ⟨pn, nd⟩, fun u hu => ?_⟩
    · unfold upd; rw [if_neg]; intro z; exact pn (z ▸ hu)
    · rcases List.mem_cons.mp hu with rfl | hu
      · exact ⟨e1.i.free np, e1.h.free np⟩
      · exact nw u hu⟩⟩
end
end Gm
set_option Elab.async false
set_option linter.all false
set_option maxRecDepth 100000
set_option maxHeartbeats 4000000
namespace Gm
open PySem PySem.Spec L2
section
variable {X : Cx} {W : WX} {Γ : Ctx} {a b e v1 v2 : Expr} {es : List Expr} {pos p p2 : Pos} {t : Ty}
/-! ## f-strings of texts -/
def EJ (X : Cx) (W : WX) (Γ : Ctx) (es : List Expr) (k : Str → Mx Str) : Prop := ∃ ts, PJ X es ts ∧ ∀ (acc : Str) σ H (Q : Str → Hp → Prop), (∃ F, Same F H ∧ SD X.K X.mg Γ σ F ∧ post X.mg W σ (k acc) F H fun out => ∀ F' H', Ext F H F' H' → Q out H') → tJs ts acc σ H Q
theorem ej_nil : EJ X W Γ [] (fun acc => .ok acc) := ⟨[], .nil, fun acc σ H Q ⟨F, s, d, q⟩ => q F H (Ext.refl s)⟩
theorem ej_con {m : Mx Str} {k : Str → Mx Str} (ha : EM X W Γ e .str m) (hr : EJ X W Γ es k) : EJ X W Γ (e :: es) (fun acc => m >>= fun y => ofO (catO acc y) >>= k) := by
  obtain ⟨ts, hp, hk⟩ := hr
  refine ⟨_ :: ts, .cons ha hp, fun acc σ H Q ⟨F, s, d, q⟩ => ⟨F, s, d, q.bind.mono fun y py v F1 H1 e1 r1 => ?_⟩⟩
  cases (List.cons.inj (show [v] = [V.str y] from r1)).1
  unfold catO at py
  by_cases hz : acc.length + y.length ≤ sizeLine
  · rw [if_pos hz] at py
    refine ⟨y, rfl, by rw [Str.length_append]; exact hz, hk (acc ++ y) σ H1 Q ⟨F1, e1.i, d.mono e1.f, post.ext e1 py fun out po F2 H2 e2 => po F2 H2 (e1.trans e2)⟩⟩
  · rw [if_neg hz] at py; exact py.elim
theorem ej_val {m : Mx Str} {k : Str → Mx Str} (ha : EM X W Γ e .str m) (hr : EJ X W Γ es k) : EJ X W Γ (.FormattedValue e (-1) none p :: es) (fun acc => m >>= fun y => ofO (catO acc y) >>= k) := by
  obtain ⟨ts, hp, hk⟩ := hr
  refine ⟨_ :: ts, .cons (pe_fmt ha) hp, fun acc σ H Q ⟨F, s, d, q⟩ => ⟨F, s, d, q.bind.mono fun y py v F1 H1 e1 r1 => ?_⟩⟩
  cases (List.cons.inj (show [v] = [V.str y] from r1)).1
  unfold catO at py
  by_cases hz : acc.length + y.length ≤ sizeLine
  · rw [if_pos hz] at py
    refine .inl ⟨y, rfl, Nat.le_trans (Nat.le_add_left _ _) hz, y, rfl, by rw [Str.length_append]; exact hz, hk (acc ++ y) σ H1 Q ⟨F1, e1.i, d.mono e1.f, post.ext e1 py fun out po F2 H2 e2 => po F2 H2 (e1.trans e2)⟩⟩
  · rw [if_neg hz] at py; exact py.elim
theorem e_fs {k : Str → Mx Str} (h : EJ X W Γ (v1 :: v2 :: es) k) : EM X W Γ (.JoinedStr (v1 :: v2 :: es) pos) .str (k Str.empty) := by
  obtain ⟨ts, hp, hk⟩ := h
  exact pe_imp (pe_joined hp) fun σ H Q ⟨F, s, d, q⟩ => hk Str.empty σ H _ ⟨F, s, d, q.mono fun out po F' H' ex => po (.str out) F' H' ex rfl⟩
/-! ## [x, *t] -/
def fitL {α : Type} (l : List α) : Option (List α) := if l.length ≤ sizeLine then some l else none
theorem e_star {m1 : Mx t.den} {m2 : Mx (List t.den)} (ha : EM X W Γ a t m1) (hb : EM X W Γ b (.vtup t) m2) (hs : starEach [a, .Starred b p2] X.env = (false, eval a X.env) :: starEach [.Starred b p2] X.env := by rfl) (hs2 : starEach [.Starred b p2] X.env = (true, eval b X.env) :: starEach [] X.env := by rfl) :
    EO X W Γ (.List [a, .Starred b p2] pos) (.l (.d t)) (m1 >>= fun x => m2 >>= fun xs => ofO (fitL (x :: xs))) :=
  pe_imp (pe_lst (pa_cons ha (StX.pa_star hb pa_nil hs2) hs)) fun σ H Q ⟨F, s, d, q⟩ => ⟨F, s, d, q.bind.mono fun x px v F1 H1 e1 r1 => ⟨F1, e1.i, d.mono e1.f, post.ext e1 px.bind fun xs pxs w F2 H2 e2 r2 => by
    obtain ⟨l, ws, e, sq, rr⟩ := r2
    cases (List.cons.inj e).1
    refine ⟨l, ws, rfl, .inl (sqT_same e2.i sq), ?_⟩
    show (v :: (ws ++ [])).length ≤ sizeLine ∧ ∀ (p : Addr), H2 p = none → Q (V.ref p) (upd H2 p (HO.lst (v :: (ws ++ []))))
    rw [List.append_nil]
    unfold fitL at pxs
    by_cases hz : (x :: xs).length ≤ sizeLine
    · rw [if_pos hz] at pxs
      have r3 : all2 (fun y u => rl X.K X.mg t y [u] F2) (x :: xs) (v :: ws) := ⟨rl_mono e2.f t x _ r1, rr⟩
      refine ⟨by rw [← r3.len]; exact hz, fun np nnp => ?_⟩
      exact pxs (.ref np) F2 _ (e1.trans (e2.trans (Ext.cell e2.i nnp))) (rtr_new r3 e2.i (e1.h.trans e2.h) nnp)
    · rw [if_neg hz] at pxs; exact pxs.elim⟩⟩
end
end Gm
set_option Elab.async false
set_option linter.all false
set_option maxRecDepth 100000
set_option maxHeartbeats 4000000
namespace Gm
open PySem PySem.Spec L2
/-! ## a tuple of data and of new lists made from owned ones -/
section
variable {X : Cx} {W : WX} {hk : List Nat} {Γ : Ctx} {a b e : Expr} {es : List Expr} {rest : List Stmt} {pos p : Pos} {t ts : Ty} {o : Ow} {β : Type} {I : β → Out}
def tXA (K : PySem.W.Frag) (mg : Str → Option Value) (W : WX) (E : Ent) (Γ : Ctx) (ts : Ty) (m : Mx ts.den) : TA := fun σ H Q => ∃ F, SG K mg E Γ σ F H ∧ postS mg W E m fun y => ∀ vs F' H', Ext F H F' H' → SG K mg E Γ σ F' H' → rl K mg ts y vs F' → Q vs H'
def tX (K : PySem.W.Frag) (mg : Str → Option Value) (W : WX) (E : Ent) (Γ : Ctx) (t : Ty) (m : Mx t.den) : TE := fun σ H Q => ∃ F, SG K mg E Γ σ F H ∧ postS mg W E m fun y => ∀ v F' H', Ext F H F' H' → SG K mg E Γ σ F' H' → rl K mg t y [v] F' → Q v H'
abbrev XA (X : Cx) (W : WX) (Γ : Ctx) (es : List Expr) (ts : Ty) (m : Mx ts.den) : Prop := ∀ E : Ent, PA X es (tXA X.K X.mg W E Γ ts m)
theorem xa_oneD {m : Mx t.den} (ha : EM X W (hide Γ) a t m) (hs : starEach [a] X.env = (false, eval a X.env) :: starEach [] X.env := by rfl) : XA X W Γ [a] t m := fun E =>
  pa_imp (pa_cons ha pa_nil hs) fun σ H Q ⟨F, g, q⟩ => ⟨F, g.e0.i, g.sd_hide, q.post g (fun F' H' x => ⟨F', x, fun _ _ z => z⟩) fun x px v F1 H1 e1 r1 => px [v] F1 H1 e1 (g.grow e1) r1⟩
theorem xa_oneO {m : Mx o.ty.den} (ho : Rt.flat (.o o) = true) (ha : EO X W Γ a o m) (hs : starEach [a] X.env = (false, eval a X.env) :: starEach [] X.env := by rfl) : XA X W Γ [a] o.ty m := fun E =>
  pa_imp (pa_cons ha pa_nil hs) fun σ H Q ⟨F, g, q⟩ => by
    obtain ⟨G, g1, g2, g3⟩ := g.look (.all ho)
    refine ⟨G, g1, g2, q.post g (fun F' H' x => let ⟨F2, a, _, b⟩ := g3 F' H' x; ⟨F2, a, b⟩) fun x px v F' H' ex rr => ?_⟩
    obtain ⟨F2, x2, back, _⟩ := g3 F' H' ex
    obtain ⟨F3, x3, r3⟩ := frz_ext x2 (back x v rr)
    exact px [v] F3 H' x3 (g.grow x3) r3
theorem xa_consD {m : Mx t.den} {ms : Mx ts.den} (ha : EM X W (hide Γ) a t m) (hr : XA X W Γ es ts ms) (hs : starEach (a :: es) X.env = (false, eval a X.env) :: starEach es X.env := by rfl) :
    XA X W Γ (a :: es) (.pr t ts) (m >>= fun x => ms >>= fun y => .ok (x, y)) := fun E => pa_imp (pa_cons ha (hr E) hs) fun σ H Q ⟨F, g, q⟩ =>
  ⟨F, g.e0.i, g.sd_hide, q.bind.post g (fun F' H' x => ⟨F', x, fun _ _ z => z⟩) fun x px v F1 H1 e1 r1 => ⟨F1, g.grow e1, px.bind.mono fun y py vs F2 H2 e2 g2 r2 => py (v :: vs) F2 H2 (e1.trans e2) g2 ⟨v, vs, rfl, rl_mono e2.f t x _ r1, r2⟩⟩⟩
theorem xa_consO {m : Mx o.ty.den} {ms : Mx ts.den} (ho : Rt.flat (.o o) = true) (ha : EO X W Γ a o m) (hr : XA X W Γ es ts ms) (hs : starEach (a :: es) X.env = (false, eval a X.env) :: starEach es X.env := by rfl) :
    XA X W Γ (a :: es) (.pr o.ty ts) (m >>= fun x => ms >>= fun y => .ok (x, y)) := fun E => pa_imp (pa_cons ha (hr E) hs) fun σ H Q ⟨F, g, q⟩ => by
    obtain ⟨G, g1, g2, g3⟩ := g.look (.all ho)
    refine ⟨G, g1, g2, q.bind.post g (fun F' H' x => let ⟨F2, a, _, b⟩ := g3 F' H' x; ⟨F2, a, b⟩) fun x px v F' H' ex rr => ?_⟩
    obtain ⟨F2, x2, back, _⟩ := g3 F' H' ex
    obtain ⟨F3, x3, r3⟩ := frz_ext x2 (back x v rr)
    exact ⟨F3, g.grow x3, px.bind.mono fun y py vs F4 H4 e4 g4 r4 => py (v :: vs) F4 H4 (x3.trans e4) g4 ⟨v, vs, rfl, rl_mono e4.f o.ty x _ r3, r4⟩⟩
theorem x_tup {m : Mx ts.den} {k : Nat} (h : XA X W Γ es ts m) (hl : ts.few = true) : ∀ E : Ent, PE X (.Tuple es k pos) (tX X.K X.mg W E Γ (.tup ts) m) := fun E =>
  pe_imp (pe_tup (h E)) fun σ H Q ⟨F, g, q⟩ => ⟨F, g, q.mono fun x px vs F1 H1 e1 g1 r1 => ⟨rl_few hl r1, fun p np => by
    have e2 := Ext.new (o := .tup vs) e1.i np
    exact px (.ref p) (upd F1 p (.tup vs)) (upd H1 p (.tup vs)) (e1.trans e2) (g1.grow e2) ⟨p, vs, rfl, SqT.of upd_same, rl_mono e2.f ts x vs r1⟩⟩⟩
theorem bs_setX (j : Nat) {x : Str} {m : Mx t.den} {kk : t.den → Mx β} {pos' : Pos} (he : ∀ E : Ent, PE X e (tX X.K X.mg W E Γ t m)) (hr : ∀ z, BS X W hk (Γ.set j (.d t z)) rest (kk z) I) (hN : X.N.Nodup) (hj : X.N[j]? = some x) (hl : Loc X.env.scope x) (hf : X.fn x = true ∨ X.env.scope.names.lookup x = some .local)
    (hb : Nat.ble (j + 1) Γ.length = true) (hn : hk.contains j = false) (hs : swapsWith e (some (.Name x pos')) pos.line X.env = pure false) : BS X W hk Γ (.Assign [.Name x pos'] e pos :: rest) (m >>= kk) I :=
  have hr' : PSs X rest (fun D σ H => ∃ z : t.den, tS X.K X.mg W hk (Γ.set j (.d t z)) (kk z) I D σ H) := ⟨fun pins s σ H D J ⟨x, q⟩ => (hr x).run pins s σ H D J q⟩
  pss_imp (pss_cons (ps_set hN hj hl (pe_ex he) hs hf) hr') fun D σ H ⟨E, F, h, g, q⟩ => ⟨E, F, g, q.bind.mono fun z pz u F' H' ex g' ru => ⟨z, E, F', h, g'.set (r := .d t) (Ext.refl g'.e0.i) ru (Nat.le_of_ble_eq_true hb) (fun hh => by rw [h] at hh; rw [List.contains_iff_mem.mpr hh] at hn; cases hn), pz⟩⟩
/-- xs += ys -/
theorem bs_ext (i : Nat) {x : Str} {xs : List t.den} {me : Mx (List t.den)} {kk : List t.den → Mx β} {pos' : Pos} (hΓ : Γ[i]? = some (.o (.l (.d t)) xs)) (he : EM X W (hide Γ) e (.list t) me) (hr : ∀ ys, BS X W hk (Γ.set i (.o (.l (.d t)) ys)) rest (kk ys) I)
    (hN : X.N.Nodup) (hi : X.N[i]? = some x) (hl : Loc X.env.scope x) (hf : X.fn x = true ∨ X.env.scope.names.lookup x = some .local) : BS X W hk Γ (.AugAssign (.Name x pos') .Add e pos :: rest) (me >>= fun ys => ofO (catL xs ys) >>= kk) I :=
  have hr' : PSs X rest (fun D σ H => ∃ ys, tS X.K X.mg W hk (Γ.set i (.o (.l (.d t)) ys)) (kk ys) I D σ H) := ⟨fun pins s σ H D J ⟨x, q⟩ => (hr x).run pins s σ H D J q⟩
  pss_imp (pss_cons (ps_aug (ti := rExt2) hN hi hl he iop_ext hf) hr') fun D σ H ⟨E, F, h, g, q⟩ => by
    obtain ⟨fps, w⟩ := g.ow
    obtain ⟨ov, e1, v, rfl, ho⟩ := w.at_ i _ hΓ
    obtain ⟨a, ws, rfl, e3, e4, rr⟩ := own_lst ho
    refine ⟨.ref a, e1, F, g.e0.i, g.sd_hide, q.bind.post g (fun F' H' x => ⟨F', x, fun _ _ z => z⟩) fun ys py u F' H' ex ru => ?_⟩
    obtain ⟨b, zs, e, hb, r2⟩ := ru
    cases (List.cons.inj e).1
    have py : postS X.mg W E (ofO (catL xs ys) >>= kk) fun b => outP X.K X.mg E D (I b) := py
    unfold catL at py
    by_cases hz : xs.length + ys.length ≤ sizeLine
    · rw [if_pos hz] at py
      have es : σ.set i (some (.ref a)) = σ := by
        obtain ⟨hn, e⟩ := List.getElem?_eq_some_iff.mp e1
        rw [← e]; exact List.set_getElem_self hn
      refine ⟨a, b, ws, zs, rfl, rfl, ex.h _ _ e4, ex.i _ _ hb, by rw [← rr.len, ← r2.len]; exact hz, xs ++ ys, E, F', h, ?_, py⟩
      rw [es]
      exact (g.grow ex).write hΓ e1 ((rr.imp fun z v q => rl_mono ex.f t z [v] q).app r2)
    · rw [if_neg hz] at py; exact py.elim
end
end Gm
set_option Elab.async false
set_option linter.all false
set_option maxRecDepth 100000
set_option maxHeartbeats 4000000
namespace Gm
open PySem PySem.Spec L2
/-! ## zip of two tuples -/
section
variable {X : Cx} {W : WX} {Γ : Ctx} {a b : Expr} {pos p : Pos} {t1 t2 : Ty}
theorem i_zipT {elts : List Expr} {kk : Nat} {tpos : Pos} {m1 : Mx (List t1.den)} {m2 : Mx (List t2.den)} (hg : Gl X "zip") (hm : X.mg "zip" = none) (ha : EM X W Γ a (.vtup t1) m1) (hb : EM X W Γ b (.vtup t2) m2)
    (hs : starEach [a, b] X.env = (false, eval a X.env) :: starEach [b] X.env) (hs2 : starEach [b] X.env = (false, eval b X.env) :: starEach [] X.env) (hpl : (backTo pos (starEach [b] X.env)).any (·.1) = false) :
    EI X W Γ (.Tuple elts kk tpos) (.Call (.Name "zip" p) [a, b] [] pos) (.tup (.pr t1 t2)) (m1 >>= fun xs => m2 >>= fun ys => .ok (xs.zip ys)) :=
  pi_imp (RZ.pi_zipA hg hm (pa_cons ha (pa_cons hb pa_nil hs2) hs) hs hpl) fun σ H R ⟨F, s, d, q⟩ => ⟨F, s, d, q.bind.mono fun xs px v F1 H1 e1 r1 => ⟨F1, e1.i, d.mono e1.f, post.ext e1 px.bind fun ys py w F2 H2 e2 r2 => by
    obtain ⟨l, ws, e, sq, rr⟩ := r1
    cases (List.cons.inj e).1
    obtain ⟨l2, ws2, e', sq2, rr2⟩ := r2
    cases (List.cons.inj e').1
    have sq' : SqT X.K F2 l ws := sqT_mono (fun b o z _ => e2.f b o z) sq
    have rr' := rr.imp (fun y u z => rl_mono e2.f t1 y [u] z)
    refine ⟨l, l2, ws, ws2, rfl, .inr ⟨sqT_same e2.i sq', sqT_same e2.i sq2, py F2 H2 _ (e1.trans e2) ⟨fun i H s hi => ?_, fun i H s hi => ⟨ws, ws2, sqT_same s sq', sqT_same s sq2, ?_⟩, fun i H v H3 s hi y => ?_⟩⟩⟩
    · rw [List.length_zip] at hi
      obtain ⟨v, h1, _⟩ := rr'.get (List.getElem?_eq_getElem (show i < xs.length by omega))
      obtain ⟨u, h2, _⟩ := rr2.get (List.getElem?_eq_getElem (show i < ys.length by omega))
      exact ⟨ws, ws2, v, u, sqT_same s sq', sqT_same s sq2, h1, h2⟩
    · rw [List.length_zip] at hi
      have l1 := rr'.len
      have l2 := rr2.len
      omega
    · obtain ⟨T, z, u, rfl, nT, rfl, f1, f2⟩ := y
      obtain ⟨x', h1, h2⟩ := rr'.getV (f1 ws (sqT_same s sq'))
      obtain ⟨y', h3, h4⟩ := rr2.getV (f2 ws2 (sqT_same s sq2))
      refine ⟨(x', y'), List.getElem?_zip_eq_some.mpr ⟨h1, h3⟩, fun G g1 g2 => ?_⟩
      have e3 := Ext.new (o := .tup [z, u]) g2 nT
      exact ⟨_, e3, T, _, rfl, SqT.of upd_same, z, [u], rfl, rl_mono (g1.trans e3.f) t1 x' [z] h2, rl_mono (g1.trans e3.f) t2 y' [u] h4⟩⟩⟩
end
end Gm
set_option Elab.async false
set_option linter.all false
set_option maxRecDepth 100000
set_option maxHeartbeats 1000000
namespace Gm
open PySem PySem.Spec L2

/-! ## plain words: a mirror that ends well -/
def Sat {α : Type} (m : Mx α) (P : α → Prop) : Prop := ∃ x, m = .ok x ∧ P x
section
variable {α β S R : Type}
theorem Sat.ok {x : α} {P : α → Prop} (h : P x) : Sat (.ok x) P := ⟨x, rfl, h⟩
theorem Sat.ok_inv {x : α} {P : α → Prop} (h : Sat (.ok x) P) : P x := by obtain ⟨y, e, h⟩ := h; cases e; exact h
theorem Sat.bind {m : Mx α} {f : α → Mx β} {P : α → Prop} {Q : β → Prop} (h : Sat m P) (k : ∀ x, P x → Sat (f x) Q) : Sat (m >>= f) Q := by
  obtain ⟨x, rfl, h⟩ := h
  exact k x h
theorem Sat.mono {m : Mx α} {P Q : α → Prop} (h : Sat m P) (k : ∀ x, P x → Q x) : Sat m Q := by
  obtain ⟨x, e, h⟩ := h
  exact ⟨x, e, k x h⟩
theorem Sat.eq {m : Mx α} {x : α} (h : Sat m (fun y => y = x)) : m = .ok x := by
  obtain ⟨y, e, rfl⟩ := h
  exact e
theorem Sat.of {m : Mx α} {x : α} {P : α → Prop} (e : m = .ok x) (h : P x) : Sat m P := ⟨x, e, h⟩
theorem Sat.and {m : Mx α} {P Q : α → Prop} (h : Sat m P) (k : Sat m Q) : Sat m (fun x => P x ∧ Q x) := by
  obtain ⟨x, e, h⟩ := h
  obtain ⟨y, e2, k⟩ := k
  rw [e] at e2; cases e2
  exact ⟨x, e, h, k⟩
theorem Sat.ite {c : Prop} [Decidable c] {a b : Mx α} {P : α → Prop} (h1 : c → Sat a P) (h2 : ¬c → Sat b P) : Sat (if c then a else b) P := by
  by_cases h : c
  · rw [if_pos h]; exact h1 h
  · rw [if_neg h]; exact h2 h
theorem ok_okb (x : α) (f : α → Mx β) : (Mx.ok x >>= f) = f x := rfl
theorem Mx.assoc {γ : Type} (m : Mx α) (f : α → Mx β) (g : β → Mx γ) : ((m >>= f) >>= g) = (m >>= fun x => f x >>= g) := by cases m <;> rfl
/-! ### loops -/
theorem sat_loop_aux {I : Nat → S → Prop} {f : S → α → Mx S} : ∀ (xs : List α) (n : Nat) (s0 : S), I n s0 → (∀ i s x, xs[i]? = some x → I (n + i) s → Sat (f s x) (I (n + i + 1))) → Sat (loopS xs s0 f) (I (n + xs.length))
  | [], n, s0, h, _ => ⟨s0, rfl, h⟩
  | x :: xs, n, s0, h, st => by
    refine (st 0 s0 x rfl h).bind fun s1 h1 => ?_
    have := sat_loop_aux xs (n + 1) s1 h1 fun i s y hy hi => by
      have := st (i + 1) s y (by simpa using hy) (by rw [show n + (i + 1) = n + 1 + i by omega]; exact hi)
      rw [show n + 1 + i + 1 = n + (i + 1) + 1 by omega]; exact this
    rw [List.length_cons, show n + (xs.length + 1) = n + 1 + xs.length by omega]
    exact this
theorem sat_loop (I : Nat → S → Prop) {f : S → α → Mx S} {xs : List α} {s0 : S} (h0 : I 0 s0) (st : ∀ i s x, xs[i]? = some x → I i s → Sat (f s x) (I (i + 1))) : Sat (loopS xs s0 f) (I xs.length) := by
  have := sat_loop_aux (I := I) (f := f) xs 0 s0 h0 (by intro i s x e h; rw [Nat.zero_add] at h ⊢; exact st i s x e h)
  rw [Nat.zero_add] at this; exact this
theorem sat_loopF_aux {I : Nat → S → Prop} {Q : Fw S R → Prop} {f : S → α → Mx (Lp S R)} : ∀ (xs : List α) (n : Nat) (s0 : S), I n s0 → (∀ i s x, xs[i]? = some x → I (n + i) s → Sat (f s x) fun o => match o with
      | .go s' => I (n + i + 1) s'
      | .brk s' => Q (.go s')
      | .out r => Q (.out r)) → (∀ s, I (n + xs.length) s → Q (.go s)) → Sat (loopF xs s0 f) Q
  | [], n, s0, h, _, q => ⟨.go s0, rfl, q s0 h⟩
  | x :: xs, n, s0, h, st, q => by
    refine (st 0 s0 x rfl h).bind fun o ho => ?_
    cases o with
    | go s1 =>
      refine sat_loopF_aux xs (n + 1) s1 ho (fun i s y hy hi => ?_) fun s hs => q s (by rw [List.length_cons, show n + (xs.length + 1) = n + 1 + xs.length by omega]; exact hs)
      have := st (i + 1) s y (by simpa using hy) (by rw [show n + (i + 1) = n + 1 + i by omega]; exact hi)
      rw [show n + 1 + i + 1 = n + (i + 1) + 1 by omega]; exact this
    | brk s1 => exact ⟨.go s1, rfl, ho⟩
    | out r => exact ⟨.out r, rfl, ho⟩
theorem sat_loopF (I : Nat → S → Prop) {Q : Fw S R → Prop} {f : S → α → Mx (Lp S R)} {xs : List α} {s0 : S} (h0 : I 0 s0) (st : ∀ i s x, xs[i]? = some x → I i s → Sat (f s x) fun o => match o with
      | .go s' => I (i + 1) s'
      | .brk s' => Q (.go s')
      | .out r => Q (.out r)) (q : ∀ s, I xs.length s → Q (.go s)) : Sat (loopF xs s0 f) Q :=
  sat_loopF_aux (I := I) xs 0 s0 h0 (by intro i s x e h; rw [Nat.zero_add] at h ⊢; exact st i s x e h) (by rw [Nat.zero_add]; exact q)
theorem sat_fwk {m : Mx (Fw S R)} {k : S → Mx β} {j : R → β} {P : Fw S R → Prop} {Q : β → Prop} (h : Sat m P) (h1 : ∀ s, P (.go s) → Sat (k s) Q) (h2 : ∀ r, P (.out r) → Q (j r)) : Sat (m >>= fwk k j) Q := by
  refine h.bind fun o ho => ?_
  cases o with
  | go s => exact h1 s ho
  | out r => exact ⟨j r, rfl, h2 r ho⟩
/-- while: each turn takes from the measure -/
theorem sat_while (I : S → Prop) (μ : S → Nat) {c : S → Mx Bool} {f : S → Mx S} (Q : S → Prop) (st : ∀ s, I s → Sat (c s) fun b => if b = true then Sat (f s) (fun s' => I s' ∧ μ s' < μ s) else Q s) :
    ∀ (n : Nat) (s0 : S), I s0 → μ s0 < n → Sat (whileS n s0 c f) Q
  | 0, s0, _, h => absurd h (Nat.not_lt_zero _)
  | n + 1, s0, h0, h => by
    refine (st s0 h0).bind fun b hb => ?_
    cases b with
    | false => exact ⟨s0, rfl, hb⟩
    | true =>
      rw [if_pos rfl] at hb ⊢
      exact hb.bind fun s1 h1 => sat_while I μ Q st n s1 h1.1 (by omega)
theorem fuel_eq : fuel = 1000000 := by unfold fuel; rfl
/-! ### comprehensions -/
theorem compL_eq {g : α → Option β} {f : α → Mx (Option β)} : ∀ {xs : List α}, (∀ x ∈ xs, f x = .ok (g x)) → compL xs f = .ok (xs.filterMap g)
  | [], _ => rfl
  | x :: xs, h => by
    have e : compL (x :: xs) f = match f x with
      | .ok o => compL xs f >>= fun r => .ok (optC o r)
      | _ => .no := rfl
    rw [e, h x (List.mem_cons_self ..), compL_eq fun y hy => h y (List.mem_cons_of_mem _ hy), List.filterMap_cons]
    cases g x <;> rfl
theorem comp_eq {g : α → Option β} {f : α → Mx (Option β)} {xs : List α} (hl : xs.length ≤ sizeLine) (h : ∀ x ∈ xs, f x = .ok (g x)) : compO xs f = .ok (xs.filterMap g) := by
  unfold compO; rw [if_pos hl]; exact compL_eq h
theorem comp_map {g : α → β} {mt : α → Mx Bool} {me : α → Mx β} {xs : List α} (hl : xs.length ≤ sizeLine) (h : ∀ x ∈ xs, mt x = .ok true ∧ me x = .ok (g x)) : compO xs (compF mt me) = .ok (xs.map g) := by
  rw [comp_eq (g := fun x => some (g x)) hl fun x hx => by unfold compF; rw [(h x hx).1, ok_okb, if_pos rfl, (h x hx).2]; rfl]
  simp
theorem comp_filter {c : α → Bool} {g : α → β} {mt : α → Mx Bool} {me : α → Mx β} {xs : List α} (hl : xs.length ≤ sizeLine) (h : ∀ x ∈ xs, mt x = .ok (c x) ∧ (c x = true → me x = .ok (g x))) : compO xs (compF mt me) = .ok ((xs.filter c).map g) := by
  rw [comp_eq (g := fun x => if c x = true then some (g x) else none) hl fun x hx => by
    unfold compF
    rw [(h x hx).1, ok_okb]
    by_cases hc : c x = true
    · rw [if_pos hc, if_pos hc, (h x hx).2 hc]; rfl
    · rw [if_neg hc, if_neg hc]]
  congr 1
  induction xs with
  | nil => rfl
  | cons x xs ih =>
    rw [List.filterMap_cons, List.filter_cons]
    have ih' := ih (by rw [List.length_cons] at hl; omega) fun y hy => h y (List.mem_cons_of_mem _ hy)
    by_cases hc : c x = true
    · rw [if_pos hc, if_pos hc, List.map_cons]; simp only; rw [ih']
    · rw [if_neg hc, if_neg hc]; simp only; rw [ih']
/-- each element by a promise -/
theorem sat_comp {P : α → β → Prop} {mt : α → Mx Bool} {me : α → Mx β} : ∀ {xs : List α}, xs.length ≤ sizeLine → (∀ x ∈ xs, mt x = .ok true ∧ Sat (me x) (P x)) → Sat (compO xs (compF mt me)) fun ys => ys.length = xs.length ∧ ∀ (i : Nat) (x : α) (y : β), xs[i]? = some x → ys[i]? = some y → P x y := by
  intro xs hl h
  unfold compO; rw [if_pos hl]; clear hl
  induction xs with
  | nil => exact ⟨[], rfl, rfl, fun i x y e => by simp at e⟩
  | cons x xs ih =>
    obtain ⟨h1, y, h2, h3⟩ := h x (List.mem_cons_self ..)
    obtain ⟨ys, h4, h5, h6⟩ := ih fun y hy => h y (List.mem_cons_of_mem _ hy)
    refine ⟨y :: ys, ?_, by rw [List.length_cons, List.length_cons, h5], fun i a b ha hb => ?_⟩
    · have e : compL (x :: xs) (compF mt me) = match compF mt me x with
        | .ok o => compL xs (compF mt me) >>= fun r => .ok (optC o r)
        | _ => .no := rfl
      have e2 : compF mt me x = .ok (some y) := by unfold compF; rw [h1, ok_okb, if_pos rfl, h2]; rfl
      rw [e, e2, h4]; rfl
    · cases i with
      | zero => simp at ha hb; subst ha; subst hb; exact h3
      | succ i => exact h6 i a b (by simpa using ha) (by simpa using hb)
end
/-! ### operators -/
theorem mod_ok {x y : Int} (h : 0 < y) : ofO (modO x y) = .ok (x % y) := by unfold modO; rw [if_pos h]; rfl
theorem div_ok {x y : Int} (h : 0 < y) (h2 : y < 1073741824) : ofO (divO x y) = .ok (x / y) := by unfold divO; rw [if_pos ⟨h, h2⟩]; rfl
theorem mul_l {x y : Int} (h : -18446744073709551616 < x) (h2 : x < 18446744073709551616) : ofO (mulO x y) = .ok (x * y) := by unfold mulO; rw [if_pos (.inl ⟨h, h2⟩)]; rfl
theorem mul_r {x y : Int} (h : -18446744073709551616 < y) (h2 : y < 18446744073709551616) : ofO (mulO x y) = .ok (x * y) := by unfold mulO; rw [if_pos (.inr ⟨h, h2⟩)]; rfl
theorem pow_ok {x y : Int} (h : 0 ≤ y) (h2 : y ≤ 1000000) (h3 : x.natAbs < 18446744073709551616) : ofO (powO x y) = .ok (x ^ y.toNat) := by unfold powO; rw [if_pos ⟨h, h2, h3⟩]; rfl
theorem size_eq : sizeLine = 16777216 := rfl
theorem app_ok {α : Type} {xs : List α} {y : α} (h : xs.length < 16777216) : ofO (appO xs y) = .ok (xs ++ [y]) := by unfold appO; rw [if_pos (by rw [size_eq]; exact h)]; rfl
theorem cat_ok {α : Type} {xs ys : List α} (h : xs.length + ys.length ≤ 16777216) : ofO (catL xs ys) = .ok (xs ++ ys) := by unfold catL; rw [if_pos (by rw [size_eq]; exact h)]; rfl
theorem ran_ok {n : Int} (h : n < 4611686018427387904) (h0 : -4611686018427387904 ≤ n := by omega) : ofO (ranO 0 n) = .ok (iran 0 n) := by unfold ranO; rw [if_pos ⟨by decide, by decide, h0, h⟩]; rfl
theorem ran2_ok {l n : Int} (h1 : -4611686018427387904 ≤ l) (h2 : l < 4611686018427387904) (h3 : -4611686018427387904 ≤ n) (h4 : n < 4611686018427387904) : ofO (ranO l n) = .ok (iran l n) := by unfold ranO; rw [if_pos ⟨h1, h2, h3, h4⟩]; rfl
theorem iran_len {l n : Int} : (iran l n).length = (n - l).toNat := by simp [iran]
theorem iran_get {l n : Int} {i : Nat} {x : Int} (h : (iran l n)[i]? = some x) : x = l + (i : Int) ∧ l ≤ x ∧ x < n := by
  have hi : i < (iran l n).length := (List.getElem?_eq_some_iff.mp h).1
  rw [iran_len] at hi
  simp only [iran, List.getElem?_map, List.getElem?_range hi, Option.map_some, Option.some.injEq] at h
  omega
theorem iran_mem {l n x : Int} (h : x ∈ iran l n) : l ≤ x ∧ x < n := by
  obtain ⟨i, hi⟩ := List.mem_iff_getElem?.mp h
  exact ⟨(iran_get hi).2.1, (iran_get hi).2.2⟩
theorem at_some {α : Type} {xs : List α} {i : Int} (h0 : 0 ≤ i) (h : i < (xs.length : Int)) : ∃ x, xs[i.toNat]? = some x ∧ atI xs i = some x := by
  have hi : i.toNat < xs.length := by omega
  refine ⟨xs[i.toNat], List.getElem?_eq_getElem hi, ?_⟩
  have := atI_nat (xs := xs) (j := i.toNat) (v := xs[i.toNat]) (List.getElem?_eq_getElem hi)
  rw [show ((i.toNat : Nat) : Int) = i by omega] at this
  exact this
theorem sat_at {α : Type} {xs : List α} {i : Int} {P : α → Prop} (h0 : 0 ≤ i) (h : i < (xs.length : Int)) (hP : ∀ x ∈ xs, P x) : Sat (ofO (atI xs i)) P := by
  obtain ⟨x, h1, h2⟩ := at_some h0 h
  rw [h2]
  exact ⟨x, rfl, hP x (List.mem_iff_getElem?.mpr ⟨_, h1⟩)⟩
theorem sat_atI {α : Type} {xs : List α} {i : Int} (h0 : 0 ≤ i) (h : i < (xs.length : Int)) : Sat (ofO (atI xs i)) fun x => xs[i.toNat]? = some x := by
  obtain ⟨x, h1, h2⟩ := at_some h0 h
  rw [h2]
  exact ⟨x, rfl, h1⟩
/-! ### texts -/
theorem len_mk (l : List Nat) : (⟨l.toArray⟩ : Str).length = l.length := by show l.toArray.size = _; simp
theorem slen (s : Str) : s.length = s.cps.toList.length := by show s.cps.size = _; simp
theorem sat_atS {x : Str} {i : Int} (h0 : 0 ≤ i) (h : i < (x.length : Int)) (hl : x.length ≤ 16777216) : Sat (ofO (atS x i)) fun y => ∃ c, x.cps.toList[i.toNat]? = some c ∧ y = ⟨#[c]⟩ := by
  unfold atS
  rw [if_pos (by rw [size_eq]; exact hl)]
  obtain ⟨c, h1, h2⟩ := at_some (xs := x.cps.toList) h0 (by rw [← slen]; exact h)
  rw [h2]
  exact ⟨⟨#[c]⟩, rfl, c, h1, rfl⟩
theorem catS_ok {x y : Str} (h : x.length + y.length ≤ 16777216) : ofO (catO x y) = .ok (x ++ y) := by unfold catO; rw [if_pos (by rw [size_eq]; exact h)]; rfl
theorem len_app (x y : Str) : (x ++ y).length = x.length + y.length := Str.length_append x y
theorem slS_ok {x : Str} {l h : Option Int} (hl : x.length ≤ 16777216) : ofO (slS x l h) = .ok (cutS x l h) := by unfold slS; rw [if_pos (by rw [size_eq]; exact hl)]; rfl
theorem cutS_len (x : Str) (l h : Option Int) : (cutS x l h).length ≤ x.length := by
  unfold cutS
  rw [len_mk, List.length_take, List.length_drop, ← slen]
  omega
theorem lenS_ok {x : Str} (hl : x.length ≤ 16777216) : ofO (lenS x) = .ok (x.length : Int) := by unfold lenS; rw [if_pos (by rw [size_eq]; exact hl)]; rfl
theorem join_ok {a : Str} {ys : List Str} (h : (ys.map (·.length)).sum + ys.length * a.length ≤ 16777216) : ofO (joinO a ys) = .ok (Txt.join a ys) := by unfold joinO; rw [if_pos h]; rfl
theorem sum_le {xs : List Nat} {b : Nat} (h : ∀ x ∈ xs, x ≤ b) : xs.sum ≤ xs.length * b := by
  induction xs with
  | nil => simp
  | cons x xs ih =>
    rw [List.sum_cons, List.length_cons, Nat.add_mul]
    have := h x (List.mem_cons_self ..)
    have := ih fun y hy => h y (List.mem_cons_of_mem _ hy)
    omega
end Gm
set_option Elab.async false
set_option linter.all false
set_option maxRecDepth 100000
set_option maxHeartbeats 1000000
namespace Gm
open PySem PySem.Spec
open L2 hiding app_ok
/-! ## texts as lists of codes -/
abbrev cs (t : Str) : List Nat := t.cps.toList
theorem cs_ext {x y : Str} (h : cs x = cs y) : x = y := by
  obtain ⟨⟨a⟩⟩ := x
  obtain ⟨⟨b⟩⟩ := y
  have h' : a = b := h
  rw [h']
theorem cs_app (x y : Str) : cs (x ++ y) = cs x ++ cs y := by show (x.cps ++ y.cps).toList = _; simp
theorem cs_mk (l : List Nat) : cs ⟨l.toArray⟩ = l := rfl
theorem cs_one (c : Nat) : cs ⟨#[c]⟩ = [c] := rfl
theorem cs_len (t : Str) : t.length = (cs t).length := slen t
theorem cs_join (a : Str) (ys : List Str) : cs (Txt.join a ys) = TL.joinL (cs a) (ys.map cs) := by
  show TL.tl (Builtin.Str.glued a ys) = _
  rw [StrLaws.glued_eq_join]
  exact TL.tl_join a ys
theorem joinL_nil : ∀ (l : List (List Nat)), TL.joinL [] l = l.flatten
  | [] => rfl
  | [p] => by simp [TL.joinL]
  | p :: q :: r => by
    show p ++ ([] ++ TL.joinL [] (q :: r)) = _
    rw [joinL_nil (q :: r)]; rfl
theorem cs_join0 (ys : List Str) : cs (Txt.join ("" : Str) ys) = (ys.map cs).flatten := by
  rw [cs_join]
  have : cs ("" : Str) = [] := by decide +kernel
  rw [this, joinL_nil]
theorem sIx_to {n : Nat} {p : Int} (h : 0 ≤ p) (h2 : p ≤ (n : Int)) : HT.sIx n n (some p) = p.toNat := by
  have e : p = ((p.toNat : Nat) : Int) := by omega
  rw [e, HT.sIx_nat]
  rw [show ((p.toNat : Nat) : Int).toNat = p.toNat by omega]
  exact Nat.min_eq_left (by omega)
theorem sIx_fr {n : Nat} {p : Int} (h : 0 ≤ p) (h2 : p ≤ (n : Int)) : HT.sIx n 0 (some p) = p.toNat := by
  have e : p = ((p.toNat : Nat) : Int) := by omega
  rw [e, HT.sIx_nat]
  rw [show ((p.toNat : Nat) : Int).toNat = p.toNat by omega]
  exact Nat.min_eq_left (by omega)
theorem cs_to {x : Str} {p : Int} (h : 0 ≤ p) (h2 : p ≤ (x.length : Int)) : cs (cutS x none (some p)) = (cs x).take p.toNat := by
  unfold L2.cutS
  rw [HT.sIx_none, sIx_to h h2]
  show ((cs x).drop 0).take (p.toNat - 0) = _
  simp
theorem cs_fr {x : Str} {p : Int} (h : 0 ≤ p) (h2 : p ≤ (x.length : Int)) : cs (cutS x (some p) none) = (cs x).drop p.toNat := by
  unfold L2.cutS
  rw [HT.sIx_none, sIx_fr h h2]
  show ((cs x).drop p.toNat).take (x.length - p.toNat) = _
  rw [List.take_of_length_le]
  rw [List.length_drop, ← cs_len]; exact Nat.le_refl _
theorem cut_to {α : Type} (xs : List α) {n : Int} (h : 0 ≤ n) : cut xs none (some n) = xs.take n.toNat := by
  unfold cut
  have e : n = ((n.toNat : Nat) : Int) := by omega
  rw [HT.sIx_none, e, HT.sIx_nat, List.drop_zero, Nat.sub_zero]
  rw [show ((n.toNat : Nat) : Int).toNat = n.toNat by omega]
  rw [Nat.min_def]
  split
  · rfl
  · rw [List.take_of_length_le (by omega), List.take_of_length_le (by omega)]
theorem cut_fr {α : Type} (xs : List α) {n : Int} (h : 0 ≤ n) : cut xs (some n) none = xs.drop n.toNat := by
  unfold cut
  have e : n = ((n.toNat : Nat) : Int) := by omega
  rw [HT.sIx_none, e, HT.sIx_nat]
  rw [show ((n.toNat : Nat) : Int).toNat = n.toNat by omega]
  rw [Nat.min_def]
  split
  · rw [List.take_of_length_le]; rw [List.length_drop]; exact Nat.le_refl _
  · rw [List.drop_of_length_le (Nat.le_refl _), List.drop_of_length_le (by omega)]; simp
/-- a value of a list at an index, told -/
theorem at_ok {α : Type} {xs : List α} {i : Int} {x : α} (h0 : 0 ≤ i) (h : xs[i.toNat]? = some x) : ofO (atI xs i) = .ok x := by
  have := atI_nat (xs := xs) (j := i.toNat) (v := x) h
  rw [show ((i.toNat : Nat) : Int) = i by omega] at this
  rw [this]; rfl
/-! ## indices -/
theorem idx_ok {α : Type} [DecidableEq α] {xs : List α} {x : α} (h : x ∈ xs) : ofO (idxO xs x) = .ok ((xs.idxOf x : Nat) : Int) := by
  unfold idxO
  have e : xs.findIdx? (fun y => decide (y = x)) = some (xs.idxOf x) := by
    rw [List.findIdx?_eq_some_iff_getElem]
    have hl := List.idxOf_lt_length_of_mem h
    refine ⟨hl, by simp, fun j hj => ?_⟩
    have hne : ¬ xs[j] = x := fun z => by
      have h3 : xs.idxOf x ≤ j := by
        have hjl : j < xs.length := Nat.lt_trans hj hl
        rcases Nat.lt_or_ge j (xs.idxOf x) with h4 | h4
        · exfalso
          have h5 := List.not_of_lt_findIdx (p := (· == x)) (xs := xs) (i := j) (by simpa [List.idxOf] using h4)
          simp [z] at h5
        · exact h4
      omega
    simpa using hne
  rw [e]; rfl
end Gm
set_option Elab.async false
set_option linter.all false
set_option maxRecDepth 100000
set_option maxHeartbeats 1000000
namespace Gm
open PySem PySem.Spec
open L2 hiding app_ok
/-! ## plain words about graphs and lists -/
theorem nodup_le {α : Type} [DecidableEq α] : ∀ {l m : List α}, l.Nodup → (∀ x ∈ l, x ∈ m) → l.length ≤ m.length
  | [], _, _, _ => Nat.zero_le _
  | a :: l, m, h, s => by
    have ha := s a (List.mem_cons_self ..)
    obtain ⟨h1, h2⟩ := List.nodup_cons.mp h
    have := nodup_le (l := l) (m := m.erase a) h2 fun x hx => by
      have hne : x ≠ a := fun e => h1 (e ▸ hx)
      exact (List.mem_erase_of_ne hne).mpr (s x (List.mem_cons_of_mem _ hx))
    rw [List.length_erase_of_mem ha] at this
    have := List.length_pos_of_mem ha
    rw [List.length_cons]; omega
theorem nodup_snoc {α : Type} {l : List α} {a : α} (h : l.Nodup) (ha : a ∉ l) : (l ++ [a]).Nodup := by
  rw [List.nodup_append]
  refine ⟨h, by simp, fun x hx y hy => ?_⟩
  rw [List.mem_singleton.mp hy]
  exact fun e => ha (e ▸ hx)
inductive Rch (ps : List (Str × Str)) (a : Str) : Str → Prop
  | refl : Rch ps a a
  | step {x y : Str} (h : Rch ps a x) (hp : (x, y) ∈ ps) : Rch ps a y
theorem Rch.trans {ps : List (Str × Str)} {a b c : Str} (h : Rch ps a b) (k : Rch ps b c) : Rch ps a c := by
  induction k with
  | refl => exact h
  | step _ hp ih => exact .step ih hp
theorem Rch.rev {ps : List (Str × Str)} {a b : Str} (h : Rch ps a b) : Rch (ps.map fun p => (p.2, p.1)) b a := by
  induction h with
  | refl => exact .refl
  | @step x y h hp ih =>
    have : Rch (ps.map fun p => (p.2, p.1)) y x := .step .refl (List.mem_map.mpr ⟨(x, y), hp, rfl⟩)
    exact this.trans ih
theorem rch_rev {ps : List (Str × Str)} {a b : Str} : Rch (ps.map fun p => (p.2, p.1)) b a ↔ Rch ps a b := by
  refine ⟨fun h => ?_, Rch.rev⟩
  have := h.rev
  rw [List.map_map] at this
  have e : ((fun p : Str × Str => (p.2, p.1)) ∘ fun p : Str × Str => (p.2, p.1)) = id := by funext p; rfl
  rw [e, List.map_id] at this
  exact this
/-- closed under the pairs: all that is reached -/
theorem rch_mem {ps : List (Str × Str)} {a : Str} {f : List Str} (h0 : a ∈ f) (h : ∀ p ∈ ps, p.1 ∈ f → p.2 ∈ f) {x : Str} (r : Rch ps a x) : x ∈ f := by
  induction r with
  | refl => exact h0
  | step _ hp ih => exact h _ hp ih
theorem rch_in {ps : List (Str × Str)} {a : Str} {ns : List Str} (h0 : a ∈ ns) (h : ∀ p ∈ ps, p.2 ∈ ns) {x : Str} (r : Rch ps a x) : x ∈ ns := by
  cases r with
  | refl => exact h0
  | step _ hp => exact h _ hp
theorem filter_congr' {α : Type} {p q : α → Bool} : ∀ {l : List α}, (∀ x ∈ l, p x = q x) → l.filter p = l.filter q
  | [], _ => rfl
  | a :: l, h => by
    rw [List.filter_cons, List.filter_cons, h a (List.mem_cons_self ..), filter_congr' fun x hx => h x (List.mem_cons_of_mem _ hx)]
/-! ## dicts from distinct keys -/
theorem dput_new {α β : Type} [DecidableEq α] {xs : List (α × β)} {x : α} {y : β} (h : x ∉ xs.map (·.1)) : dput xs x y = xs ++ [(x, y)] := by
  unfold dput
  rw [if_neg]
  intro hz
  obtain ⟨p, hp, e⟩ := List.any_eq_true.mp hz
  exact h (List.mem_map.mpr ⟨p, hp, of_decide_eq_true e⟩)
theorem dmerge_aux {α β : Type} [DecidableEq α] : ∀ {ps acc : List (α × β)}, ((acc ++ ps).map (·.1)).Nodup → ps.foldl (fun acc p => dput acc p.1 p.2) acc = acc ++ ps
  | [], acc, _ => by simp
  | p :: ps, acc, h => by
    rw [List.foldl_cons, dput_new, dmerge_aux]
    · simp
    · simpa using h
    · intro hz
      rw [List.map_append, List.nodup_append] at h
      exact h.2.2 _ hz _ (List.mem_map.mpr ⟨p, List.mem_cons_self .., rfl⟩) rfl
theorem dmerge_nd {α β : Type} [DecidableEq α] {ps : List (α × β)} (h : (ps.map (·.1)).Nodup) : dmerge ps = ps := by
  unfold dmerge
  rw [dmerge_aux (by simpa using h)]; rfl
theorem dget_mem {α β : Type} [DecidableEq α] : ∀ {ps : List (α × β)} {x : α} {y : β}, (ps.map (·.1)).Nodup → (x, y) ∈ ps → dget ps x = some y
  | p :: ps, x, y, h, hm => by
    rw [List.map_cons, List.nodup_cons] at h
    rcases List.mem_cons.mp hm with rfl | hm
    · exact dget_pos rfl
    · rw [dget_neg, dget_mem h.2 hm]
      intro e
      exact h.1 (List.mem_map.mpr ⟨_, hm, e.symm⟩)
theorem enum_idx {ms : List Str} {m : Str} (nd : ms.Nodup) (h : m ∈ ms) : dget (dmerge ((enumL ms).map fun p => (p.2, p.1))) m = some ((ms.idxOf m : Nat) : Int) := by
  have e : ((enumL ms).map fun p : Int × Str => (p.2, p.1)).map (·.1) = ms := by
    rw [List.map_map]
    apply List.ext_getElem?
    intro i
    rw [List.getElem?_map]
    cases hi : ms[i]? with
    | none =>
      have : (enumL ms)[i]? = none := by
        rw [List.getElem?_eq_none_iff, enumL_len]
        exact List.getElem?_eq_none_iff.mp hi
      rw [this]; rfl
    | some x => rw [enumL_get hi]; rfl
  rw [dmerge_nd (by rw [e]; exact nd)]
  refine dget_mem (by rw [e]; exact nd) (List.mem_map.mpr ⟨((ms.idxOf m : Nat), m), ?_, rfl⟩)
  have hl := List.idxOf_lt_length_of_mem h
  have : ms[ms.idxOf m]? = some m := by
    rw [List.getElem?_eq_getElem hl]; simp
  exact List.mem_of_getElem? (enumL_get this)
theorem loopF_go {α R : Type} {f : Unit → α → Mx (Lp Unit R)} : ∀ {xs : List α}, (∀ x ∈ xs, f () x = .ok (.go ())) → loopF xs () f = .ok (.go ())
  | [], _ => rfl
  | x :: xs, h => by
    simp only [loopF]
    rw [h x (List.mem_cons_self ..), okb]
    exact loopF_go fun y hy => h y (List.mem_cons_of_mem _ hy)
end Gm
set_option Elab.async false
set_option linter.all false
set_option maxRecDepth 100000
set_option maxHeartbeats 1000000
namespace Lw
open Gm
theorem memD_true {α : Type} [DecidableEq α] {x : α} {l : List α} (h : x ∈ l) : memD x l = true := decide_eq_true h
theorem memD_false {α : Type} [DecidableEq α] {x : α} {l : List α} (h : x ∉ l) : memD x l = false := decide_eq_false h
/-! ## breadth first search, by entries -/
section
variable {σ ε δ : Type} [DecidableEq σ]
def note (l : List (σ × ε)) (x : σ × ε) : List (σ × ε) := if x.1 ∈ l.map (·.1) then l else l ++ [x]
inductive Bfs (f : σ × ε → List (σ × ε)) : List (σ × ε) → Nat → List (σ × ε) → Prop
  | done {l : List (σ × ε)} {i : Nat} (h : l.length ≤ i) : Bfs f l i l
  | step {l out : List (σ × ε)} {i : Nat} {x : σ × ε} (h : l[i]? = some x) (r : Bfs f ((f x).foldl note l) (i + 1) out) : Bfs f l i out
theorem Bfs.det {f : σ × ε → List (σ × ε)} {l a b : List (σ × ε)} {i : Nat} (h : Bfs f l i a) : Bfs f l i b → a = b := by
  induction h with
  | done h =>
    intro k
    cases k with
    | done _ => rfl
    | step h2 _ => have := (List.getElem?_eq_some_iff.mp h2).1; omega
  | step h r ih =>
    intro k
    cases k with
    | done h2 => have := (List.getElem?_eq_some_iff.mp h).1; omega
    | step h2 r2 =>
      rw [h] at h2
      cases h2
      exact ih r2
theorem note_old {l : List (σ × ε)} {x : σ × ε} (h : x.1 ∈ l.map (·.1)) : note l x = l := if_pos h
theorem note_new {l : List (σ × ε)} {x : σ × ε} (h : x.1 ∉ l.map (·.1)) : note l x = l ++ [x] := if_neg h
theorem notes_pre : ∀ (xs : List (σ × ε)) (l : List (σ × ε)), ∃ t, xs.foldl note l = l ++ t ∧ ∀ y ∈ t, y ∈ xs
  | [], l => ⟨[], by simp, by simp⟩
  | x :: xs, l => by
    obtain ⟨t, e, ht⟩ := notes_pre xs (note l x)
    rw [List.foldl_cons, e]
    by_cases h : x.1 ∈ l.map (·.1)
    · rw [note_old h]
      exact ⟨t, rfl, fun y hy => List.mem_cons_of_mem _ (ht y hy)⟩
    · rw [note_new h]
      refine ⟨x :: t, by simp, fun y hy => ?_⟩
      rcases List.mem_cons.mp hy with rfl | hy
      · exact List.mem_cons_self ..
      · exact List.mem_cons_of_mem _ (ht y hy)
theorem notes_le (xs : List (σ × ε)) (l : List (σ × ε)) : l.length ≤ (xs.foldl note l).length := by
  obtain ⟨t, e, _⟩ := notes_pre xs l
  rw [e, List.length_append]; omega
theorem notes_nodup : ∀ (xs : List (σ × ε)) (l : List (σ × ε)), (l.map (·.1)).Nodup → ((xs.foldl note l).map (·.1)).Nodup
  | [], _, h => h
  | x :: xs, l, h => by
    rw [List.foldl_cons]
    refine notes_nodup xs _ ?_
    by_cases hx : x.1 ∈ l.map (·.1)
    · rw [note_old hx]; exact h
    · rw [note_new hx, List.map_append]; exact nodup_snoc h hx
theorem notes_mem : ∀ (xs : List (σ × ε)) (l : List (σ × ε)), ∀ y ∈ xs, y.1 ∈ (xs.foldl note l).map (·.1)
  | x :: xs, l, y, hy => by
    rw [List.foldl_cons]
    rcases List.mem_cons.mp hy with rfl | hy
    · obtain ⟨t, e, _⟩ := notes_pre xs (note l y)
      rw [e, List.map_append]
      refine List.mem_append_left _ ?_
      by_cases hx : y.1 ∈ l.map (·.1)
      · rw [note_old hx]; exact hx
      · rw [note_new hx, List.map_append]; simp
    · exact notes_mem xs _ y hy
/-- the entries found come from entries -/
theorem Bfs.pre {f : σ × ε → List (σ × ε)} {l out : List (σ × ε)} {i : Nat} (b : Bfs f l i out) : ∃ t, out = l ++ t := by
  induction b with
  | done _ => exact ⟨[], by simp⟩
  | step h r ih =>
    obtain ⟨t, e⟩ := ih
    obtain ⟨u, e2, _⟩ := notes_pre (f _) _
    rw [e, e2]
    exact ⟨u ++ t, by simp⟩
theorem Bfs.inv {f : σ × ε → List (σ × ε)} {P : σ × ε → Prop} (hf : ∀ x, P x → ∀ y ∈ f x, P y) {l out : List (σ × ε)} {i : Nat} (b : Bfs f l i out) : (∀ x ∈ l, P x) → ∀ x ∈ out, P x := by
  induction b with
  | done _ => exact fun h => h
  | step h r ih =>
    intro hl
    refine ih fun y hy => ?_
    obtain ⟨u, e2, h2⟩ := notes_pre (f _) _
    rw [e2] at hy
    rcases List.mem_append.mp hy with hy | hy
    · exact hl y hy
    · exact hf _ (hl _ (List.mem_of_getElem? h)) y (h2 y hy)
theorem Bfs.nodup {f : σ × ε → List (σ × ε)} {l out : List (σ × ε)} {i : Nat} (b : Bfs f l i out) : (l.map (·.1)).Nodup → (out.map (·.1)).Nodup := by
  induction b with
  | done _ => exact fun h => h
  | step h r ih => exact fun hl => ih (notes_nodup _ _ hl)
/-- where an entry comes from: it was there, or an earlier entry leads to it -/
theorem Bfs.src {f : σ × ε → List (σ × ε)} {l out : List (σ × ε)} {i : Nat} (b : Bfs f l i out) : ∀ y ∈ out, y ∈ l ∨ ∃ x ∈ out, y ∈ f x := by
  induction b with
  | done _ => exact fun y hy => .inl hy
  | @step l out i x h r ih =>
    intro y hy
    rcases ih y hy with h1 | h1
    · obtain ⟨u, e2, h2⟩ := notes_pre (f x) l
      rw [e2] at h1
      rcases List.mem_append.mp h1 with h1 | h1
      · exact .inl h1
      · obtain ⟨t, e⟩ := r.pre
        refine .inr ⟨x, ?_, h2 y h1⟩
        rw [e, e2]
        exact List.mem_append_left _ (List.mem_append_left _ (List.mem_of_getElem? h))
    · exact .inr h1
/-- what an entry leads to is found, and no later than it must -/
theorem Bfs.best {f : σ × ε → List (σ × ε)} {len : ε → Nat} (hf : ∀ x, ∀ y ∈ f x, len y.2 = len x.2 + 1) {l out : List (σ × ε)} {i : Nat} (b : Bfs f l i out) :
    l.Pairwise (fun a c => len a.2 ≤ len c.2) → (∀ x y, l[i]? = some x → y ∈ l → len y.2 ≤ len x.2 + 1) → (∀ (j : Nat) x, j < i → l[j]? = some x → ∀ y ∈ f x, ∃ z ∈ l, z.1 = y.1 ∧ len z.2 ≤ len x.2 + 1) →
    ∀ x ∈ out, ∀ y ∈ f x, ∃ z ∈ out, z.1 = y.1 ∧ len z.2 ≤ len x.2 + 1 := by
  induction b with
  | @done l i h =>
    intro _ _ h3 x hx y hy
    obtain ⟨j, hj⟩ := List.mem_iff_getElem?.mp hx
    exact h3 j x (by have := (List.getElem?_eq_some_iff.mp hj).1; omega) hj y hy
  | @step l out i x h r ih =>
    intro h1 h2 h3
    obtain ⟨u, e2, hu⟩ := notes_pre (f x) l
    have le1 : ∀ z ∈ (f x).foldl note l, len z.2 ≤ len x.2 + 1 := fun z hz => by
      rw [e2] at hz
      rcases List.mem_append.mp hz with hz | hz
      · exact h2 x z h hz
      · rw [hf x z (hu z hz)]; exact Nat.le_refl _
    have hx : x ∈ l := List.mem_of_getElem? h
    have old : ∀ (j : Nat) z, l[j]? = some z → ((f x).foldl note l)[j]? = some z := fun j z hz => by
      rw [e2, List.getElem?_append_left (List.getElem?_eq_some_iff.mp hz).1]; exact hz
    have srt : ((f x).foldl note l).Pairwise (fun a c => len a.2 ≤ len c.2) := by
      rw [e2, List.pairwise_append]
      refine ⟨h1, ?_, fun a ha c hc => by rw [hf x c (hu c hc)]; exact h2 x a h ha⟩
      rw [List.pairwise_iff_forall_sublist]
      intro a c s
      have ha := s.subset (List.mem_cons_self ..)
      have hc := s.subset (List.mem_cons_of_mem _ (List.mem_cons_self ..))
      rw [hf x a (hu a ha), hf x c (hu c hc)]; exact Nat.le_refl _
    refine ih srt (fun x' y hx' hy => ?_) fun j z hj hz y hy => ?_
    · have := le1 y hy
      have hxx := List.pairwise_iff_getElem.mp srt i (i + 1) (List.getElem?_eq_some_iff.mp (old i x h)).1 (List.getElem?_eq_some_iff.mp hx').1 (by omega)
      rw [(List.getElem?_eq_some_iff.mp (old i x h)).2, (List.getElem?_eq_some_iff.mp hx').2] at hxx
      omega
    · by_cases hji : j < i
      · have hl : j < l.length := by have := (List.getElem?_eq_some_iff.mp h).1; omega
        have hz2 : l[j]? = some z := by
          have e := old j _ (List.getElem?_eq_getElem hl)
          rw [hz] at e
          rw [List.getElem?_eq_getElem hl, ← e]
        obtain ⟨w, hw, h5, h6⟩ := h3 j z hji hz2 y hy
        exact ⟨w, by rw [e2]; exact List.mem_append_left _ hw, h5, h6⟩
      · have : j = i := by omega
        subst this
        have e := old j x h
        have e : z = x := Option.some.inj (hz.symm.trans e)
        rw [e] at hy ⊢
        obtain ⟨w, hw, h5⟩ := List.mem_map.mp (notes_mem (f x) l y hy)
        exact ⟨w, hw, h5, le1 w hw⟩
/-- what every entry leads to is found -/
theorem Bfs.closed {f : σ × ε → List (σ × ε)} {l out : List (σ × ε)} (b : Bfs f l 0 out) : ∀ x ∈ out, ∀ y ∈ f x, y.1 ∈ out.map (·.1) := by
  have gen : ∀ {l out : List (σ × ε)} {i : Nat}, Bfs f l i out → (∀ (j : Nat) x, j < i → l[j]? = some x → ∀ y ∈ f x, y.1 ∈ l.map (·.1)) → ∀ x ∈ out, ∀ y ∈ f x, y.1 ∈ out.map (·.1) := by
    intro l out i b
    induction b with
    | @done l i h =>
      intro h3 x hx y hy
      obtain ⟨j, hj⟩ := List.mem_iff_getElem?.mp hx
      exact h3 j x (by have := (List.getElem?_eq_some_iff.mp hj).1; omega) hj y hy
    | @step l out i x h r ih =>
      intro h3
      obtain ⟨u, e2, hu⟩ := notes_pre (f x) l
      refine ih fun j z hj hz y hy => ?_
      by_cases hji : j < i
      · have hl : j < l.length := by have := (List.getElem?_eq_some_iff.mp h).1; omega
        have hz2 : l[j]? = some z := by
          rw [e2, List.getElem?_append_left hl] at hz; exact hz
        rw [e2, List.map_append]
        exact List.mem_append_left _ (h3 j z hji hz2 y hy)
      · have : j = i := by omega
        subst this
        rw [e2, List.getElem?_append_left (List.getElem?_eq_some_iff.mp h).1] at hz
        have e : z = x := Option.some.inj (hz.symm.trans h)
        rw [e] at hy
        exact notes_mem (f x) l y hy
  exact gen b fun j x hj => by omega
theorem Bfs.len_le {f : σ × ε → List (σ × ε)} {len : ε → Nat} (hf : ∀ x, ∀ y ∈ f x, len y.2 = len x.2 + 1) {l out : List (σ × ε)} {i : Nat} (b : Bfs f l i out) : i ≤ l.length → (∀ y ∈ l, len y.2 ≤ i) → ∀ y ∈ out, len y.2 ≤ out.length := by
  induction b with
  | done h => exact fun h1 h2 y hy => Nat.le_trans (h2 y hy) h1
  | @step l out i x h r ih =>
    intro h1 h2
    have hl := (List.getElem?_eq_some_iff.mp h).1
    refine ih (Nat.le_trans hl (notes_le _ _)) fun y hy => ?_
    obtain ⟨u, e2, hu⟩ := notes_pre (f x) l
    rw [e2] at hy
    rcases List.mem_append.mp hy with hy | hy
    · exact Nat.le_succ_of_le (h2 y hy)
    · rw [hf x y (hu y hy)]
      have := h2 x (List.mem_of_getElem? h)
      omega
/-- the same search with less in the entries -/
theorem note_map (p : ε → δ) (l : List (σ × ε)) (x : σ × ε) : (note l x).map (fun z => (z.1, p z.2)) = note (l.map fun z => (z.1, p z.2)) (x.1, p x.2) := by
  have e : (l.map fun z => (z.1, p z.2)).map (·.1) = l.map (·.1) := by rw [List.map_map]; rfl
  by_cases h : x.1 ∈ l.map (·.1)
  · rw [note_old h, note_old (by rw [e]; exact h)]
  · rw [note_new h, note_new (by rw [e]; exact h), List.map_append]; rfl
theorem notes_map (p : ε → δ) : ∀ (xs l : List (σ × ε)), (xs.foldl note l).map (fun z => (z.1, p z.2)) = (xs.map fun z => (z.1, p z.2)).foldl note (l.map fun z => (z.1, p z.2))
  | [], l => rfl
  | x :: xs, l => by rw [List.foldl_cons, notes_map p xs, note_map, List.map_cons, List.foldl_cons]
theorem Bfs.lift {f : σ × ε → List (σ × ε)} {g : σ × δ → List (σ × δ)} {p : ε → δ} (hg : ∀ x : σ × ε, g (x.1, p x.2) = (f x).map fun z => (z.1, p z.2)) {l1 out1 : List (σ × δ)} {i : Nat} (b : Bfs g l1 i out1) :
    ∀ {l : List (σ × ε)}, l1 = l.map (fun z => (z.1, p z.2)) → ∃ out, Bfs f l i out ∧ out1 = out.map fun z => (z.1, p z.2) := by
  induction b with
  | @done l1 i h => intro l e; exact ⟨l, .done (by rw [e, List.length_map] at h; exact h), e⟩
  | @step l1 out1 i x1 h r ih =>
    intro l e
    rw [e, List.getElem?_map] at h
    cases hx : l[i]? with
    | none => rw [hx] at h; cases h
    | some x =>
      rw [hx] at h
      have h : x1 = (x.1, p x.2) := (Option.some.inj h).symm
      subst h
      obtain ⟨out, b2, e2⟩ := ih (l := (f x).foldl note l) (by rw [hg, e, notes_map])
      exact ⟨out, .step hx b2, e2⟩
theorem Bfs.proj {f : σ × ε → List (σ × ε)} {g : σ × δ → List (σ × δ)} {p : ε → δ} (hg : ∀ x : σ × ε, g (x.1, p x.2) = (f x).map fun z => (z.1, p z.2)) {l out : List (σ × ε)} {i : Nat} (b : Bfs f l i out) :
    Bfs g (l.map fun z => (z.1, p z.2)) i (out.map fun z => (z.1, p z.2)) := by
  induction b with
  | done h => exact .done (by rw [List.length_map]; exact h)
  | step h r ih =>
    rw [notes_map, ← hg] at ih
    exact .step (by rw [List.getElem?_map, h]; rfl) ih
end
/-! ### how many states there are -/
def allB : Nat → List (List Bool)
  | 0 => [[]]
  | n + 1 => (allB n).map (false :: ·) ++ (allB n).map (true :: ·)
theorem allB_len : ∀ n, (allB n).length = 2 ^ n
  | 0 => rfl
  | n + 1 => by
    show ((allB n).map (false :: ·) ++ (allB n).map (true :: ·)).length = _
    rw [List.length_append, List.length_map, List.length_map, allB_len n, Nat.pow_succ]; omega
theorem allB_mem : ∀ (n : Nat) (l : List Bool), l.length = n → l ∈ allB n
  | 0, [], _ => List.mem_singleton.mpr rfl
  | n + 1, b :: l, h => by
    have := allB_mem n l (by simpa using h)
    show _ ∈ (allB n).map (false :: ·) ++ (allB n).map (true :: ·)
    cases b
    · exact List.mem_append_left _ (List.mem_map.mpr ⟨l, this, rfl⟩)
    · exact List.mem_append_right _ (List.mem_map.mpr ⟨l, this, rfl⟩)
theorem states_le {n : Nat} {ss : List (List Bool × Bool)} (nd : ss.Nodup) (h : ∀ s ∈ ss, s.1.length = n) : ss.length ≤ 2 ^ (n + 1) := by
  have := nodup_le (m := (allB n).map (fun l => (l, false)) ++ (allB n).map fun l => (l, true)) nd fun s hs => by
    have hm := allB_mem n s.1 (h s hs)
    obtain ⟨l, b⟩ := s
    cases b
    · exact List.mem_append_left _ (List.mem_map.mpr ⟨l, hm, rfl⟩)
    · exact List.mem_append_right _ (List.mem_map.mpr ⟨l, hm, rfl⟩)
  rw [List.length_append, List.length_map, List.length_map, allB_len] at this
  rw [Nat.pow_succ]; omega
end Lw
set_option Elab.async false
set_option synthInstance.maxHeartbeats 2000000
set_option synthInstance.maxSize 4000
set_option linter.all false
set_option maxRecDepth 100000
set_option maxHeartbeats 4000000
namespace Lw
open PySem PySem.Spec L2 Gm
abbrev ns_Board : List Str := ["nodes", "switches", "relays", "lamps", "contacts"]
abbrev fo_Board : Ow := (.pr (.d (.vtup .str)) (.pr (.d (.vtup .str)) (.pr (.d (.vtup (.tup (.pr .str (.pr .str .str))))) (.pr (.d (.vtup (.tup (.pr .str (.pr .str .str))))) (.pr (.d (.vtup (.tup (.pr .str (.pr .str (.pr (.opt .str) (.pr .str .str))))))) .nl)))))
abbrev D_Board : Type := (List Str) × (List Str) × (List (Str × Str × Str)) × (List (Str × Str × Str)) × (List (Str × Str × (Option Str) × Str × Str)) × Unit
def l_row_b1 (a_cell : Int) (s9 : ((List Int) × Int)) (k10 : Int) : Mx ((List Int) × Int) :=
  ((ofO (powO (10 : Int) (18 : Int))) >>= fun v11 => .ok (decide (v11 ≤ (if a_cell < 0 then -a_cell else a_cell)))) >>= fun v25 => if v25 then (ofO (modO s9.2 (1009 : Int))) >>= fun v14 => ofO (appO s9.1 v14) >>= fun row_here_12 => (ofO (divO s9.2 (1009 : Int))) >>= fun rest_13 => .ok (row_here_12, rest_13) else (((ofO (mulO s9.2 (48271 : Int))) >>= fun v15 => (ofO (mulO (k10 + (1 : Int)) (69621 : Int))) >>= fun v16 => .ok (v15 + v16)) >>= fun v17 => ofO (modO v17 (2147483647 : Int))) >>= fun mixed_18 => (((ofO (mulO mixed_18 (16807 : Int))) >>= fun v19 => (ofO (mulO (271 : Int) (k10 + (3 : Int)))) >>= fun v20 => .ok (v19 + v20)) >>= fun v21 => ofO (modO v21 (2147483629 : Int))) >>= fun mixed_22 => (ofO (modO mixed_22 (1009 : Int))) >>= fun v24 => ofO (appO s9.1 v24) >>= fun row_here_23 => .ok (row_here_23, s9.2)
def l_row (a_cell : Int) (a_many : Int) : Mx (List Int) :=
  (.ok ([] : List Int)) >>= fun row_here_7 => (.ok (if a_cell < 0 then -a_cell else a_cell)) >>= fun rest_8 => ((ofO (ranO 0 a_many)) >>= fun v27 => loopS v27 (row_here_7, rest_8) (l_row_b1 a_cell)) >>= fun s26 => .ok s26.1
def l_numbers_b2 (s28 : (List Int)) (number29 : Int) : Mx (List Int) :=
  ofO (appO s28 number29) >>= fun numbers_here_30 => .ok numbers_here_30
def l_numbers_b1 (each_3 : Int) (s5 : (List Int)) (cell6 : Int) : Mx (List Int) :=
  ((l_row cell6 each_3) >>= fun v32 => loopS v32 s5 l_numbers_b2) >>= fun s31 => .ok s31
def l_numbers_b3 (s34 : (List Int)) : Mx (List Int) :=
  ofO (appO s34 (0 : Int)) >>= fun numbers_here_35 => .ok numbers_here_35
def l_numbers_b3c (a_many : Int) (s34 : (List Int)) : Mx Bool :=
  .ok (decide ((s34.length : Int) < a_many))
def l_numbers (a_script : (List Int)) (a_many : Int) : Mx (List Int) :=
  (.ok (cut a_script none (some (63 : Int)))) >>= fun cells_1 => ((ofO (divO a_many (if (cells_1.length : Int) > (1 : Int) then (cells_1.length : Int) else (1 : Int)))) >>= fun v2 => .ok ((1 : Int) + v2)) >>= fun each_3 => (.ok ([] : List Int)) >>= fun numbers_here_4 => (loopS cells_1 numbers_here_4 (l_numbers_b1 each_3)) >>= fun s33 => whileS fuel s33 (l_numbers_b3c a_many) l_numbers_b3 >>= fun s36 => .ok (cut s36 none (some a_many))
def l_names_b1 (a_number : Int) (a_turn : Int) (prefix__42 : Str) (s44 : (List Str)) (k45 : Int) : Mx (List Str) :=
  ((ofO (modO (k45 + a_turn) (26 : Int))) >>= fun v46 => ofO (atS ("abcdefghijklmnopqrstuvwxyz" : Str) v46)) >>= fun letter_47 => (((ofO (divO a_number (11 : Int))) >>= fun v48 => ofO (modO v48 (2 : Int))) >>= fun v49 => .ok (decide (v49 = (0 : Int)))) >>= fun v54 => if v54 then (ofO (catO letter_47 prefix__42)) >>= fun v51 => ofO (appO s44 v51) >>= fun names_here_50 => .ok names_here_50 else (ofO (catO prefix__42 letter_47)) >>= fun v53 => ofO (appO s44 v53) >>= fun names_here_52 => .ok names_here_52
def l_names (a_number : Int) (a_many : Int) (a_turn : Int) : Mx (List Str) :=
  (((ofO (modO a_number (97 : Int))) >>= fun v38 => ofO (strO v38)) >>= fun v40 => ((ofO (divO a_number (97 : Int))) >>= fun v39 => ofO (modO v39 (6 : Int))) >>= fun v41 => ofO (repS v40 v41)) >>= fun prefix__42 => (.ok ([] : List Str)) >>= fun names_here_43 => ((ofO (ranO 0 a_many)) >>= fun v59 => loopS v59 names_here_43 (l_names_b1 a_number a_turn prefix__42)) >>= fun s55 => (((ofO (divO a_number (3 : Int))) >>= fun v56 => ofO (modO v56 (2 : Int))) >>= fun v57 => .ok (decide (v57 = (1 : Int)))) >>= fun v58 => if v58 then .ok s55.reverse else .ok s55
def l_pick (a_numbers_here : (List Int)) (a_at_ : Int) (a_most : Int) : Mx Int :=
  (ofO (atI a_numbers_here a_at_)) >>= fun v60 => ofO (modO v60 a_most)
def l_loads_b1 (a_numbers_here : (List Int)) (a_at_ : Int) (a_names_here : (List Str)) (a_nodes : (List Str)) (s84 : (List (Str × Str × Str))) (k85 : Int) : Mx (List (Str × Str × Str)) :=
  (ofO (atI a_numbers_here (a_at_ + k85))) >>= fun number_86 => (((ofO (modO number_86 ((a_nodes.length : Int) - (2 : Int)))) >>= fun v87 => .ok ((2 : Int) + v87)) >>= fun v88 => ofO (atI a_nodes v88)) >>= fun near_89 => ((((((ofO (divO number_86 (6 : Int))) >>= fun v90 => ofO (modO v90 (6 : Int))) >>= fun v91 => .ok (decide (v91 = (1 : Int)))) >>= fun v92 => .ok (if v92 then (1 : Int) else 0)) >>= fun v93 => .ok ((1 : Int) - v93)) >>= fun v94 => ofO (atI a_nodes v94)) >>= fun far_95 => ((((ofO (divO number_86 (108 : Int))) >>= fun v96 => ofO (modO v96 (4 : Int))) >>= fun v97 => .ok (decide (v97 = (1 : Int)))) >>= fun v103 => if v103 then ((((ofO (modO number_86 ((a_nodes.length : Int) - (2 : Int)))) >>= fun v98 => .ok ((3 : Int) + v98)) >>= fun v99 => ofO (modO v99 (a_nodes.length : Int))) >>= fun v100 => ofO (atI a_nodes v100)) >>= fun far_101 => .ok far_101 else .ok far_95 : Mx Str) >>= fun s102 => (((ofO (divO number_86 (36 : Int))) >>= fun v104 => ofO (modO v104 (3 : Int))) >>= fun v105 => .ok (decide (v105 = (1 : Int)))) >>= fun v112 => if v112 then ((ofO (atI a_names_here k85)) >>= fun v106 => .ok (v106, (s102, near_89))) >>= fun v108 => ofO (appO s84 v108) >>= fun loads_here_107 => .ok loads_here_107 else ((ofO (atI a_names_here k85)) >>= fun v109 => .ok (v109, (near_89, s102))) >>= fun v111 => ofO (appO s84 v111) >>= fun loads_here_110 => .ok loads_here_110
def l_loads (a_numbers_here : (List Int)) (a_at_ : Int) (a_names_here : (List Str)) (a_nodes : (List Str)) : Mx (List (Str × Str × Str)) :=
  (.ok ([] : List (Str × Str × Str))) >>= fun loads_here_83 => ((ofO (ranO 0 (a_names_here.length : Int))) >>= fun v114 => loopS v114 loads_here_83 (l_loads_b1 a_numbers_here a_at_ a_names_here a_nodes)) >>= fun s113 => .ok s113
def l_contacts_b1 (a_numbers_here : (List Int)) (a_at_ : Int) (a_nodes : (List Str)) (a_movers : (List Str)) (s119 : (List (Str × Str × (Option Str) × Str × Str))) (k120 : Int) : Mx (List (Str × Str × (Option Str) × Str × Str)) :=
  (((ofO (mulO (2 : Int) k120)) >>= fun v121 => .ok (a_at_ + v121)) >>= fun v122 => ofO (atI a_numbers_here v122)) >>= fun number_123 => (.ok (0 : Int)) >>= fun place_124 => ((((ofO (divO number_123 (2 : Int))) >>= fun v125 => ofO (modO v125 (2 : Int))) >>= fun v126 => .ok (decide (v126 = (1 : Int)))) >>= fun v130 => if v130 then ((ofO (divO number_123 (4 : Int))) >>= fun v127 => ofO (modO v127 (a_nodes.length : Int))) >>= fun place_128 => .ok place_128 else .ok place_124 : Mx Int) >>= fun s129 => ((((ofO (divO number_123 (24 : Int))) >>= fun v131 => ofO (modO v131 ((a_nodes.length : Int) - (1 : Int)))) >>= fun v132 => .ok ((s129 + (1 : Int)) + v132)) >>= fun v133 => ofO (modO v133 (a_nodes.length : Int))) >>= fun other_134 => ((((ofO (mulO (2 : Int) k120)) >>= fun v135 => .ok (a_at_ + v135)) >>= fun v136 => .ok (v136 + (1 : Int))) >>= fun v137 => ofO (atI a_numbers_here v137)) >>= fun choice_138 => (.ok none) >>= fun mover_139 => (.ok ("make" : Str)) >>= fun when_140 => ((if (decide ((0 : Int) < (a_movers.length : Int))) then (ofO (modO choice_138 (11 : Int))) >>= fun v141 => .ok (decide ((0 : Int) < v141)) else .ok false) >>= fun v149 => if v149 then (((ofO (modO choice_138 (a_movers.length : Int))) >>= fun v142 => ofO (atI a_movers v142)) >>= fun v143 => .ok (some v143)) >>= fun mover_144 => (((ofO (divO choice_138 (17 : Int))) >>= fun v145 => ofO (modO v145 (2 : Int))) >>= fun v146 => ofO (atI (("make" : Str) :: (("break" : Str) :: ([] : List Str))) v146)) >>= fun when_147 => .ok (mover_144, when_147) else .ok (mover_139, when_140) : Mx ((Option Str) × Str)) >>= fun s148 => (((ofO (divO choice_138 (34 : Int))) >>= fun v150 => ofO (modO v150 (3 : Int))) >>= fun v151 => ofO (atI (("both" : Str) :: (("both" : Str) :: (("forward" : Str) :: ([] : List Str)))) v151)) >>= fun way_152 => ((ofO (atI a_nodes s129)) >>= fun v154 => ((ofO (atI a_nodes other_134)) >>= fun v153 => .ok (v153, (s148.1, (s148.2, way_152)))) >>= fun v155 => .ok (v154, v155)) >>= fun v157 => ofO (appO s119 v157) >>= fun contacts_here_156 => .ok contacts_here_156
def l_contacts (a_numbers_here : (List Int)) (a_at_ : Int) (a_many : Int) (a_nodes : (List Str)) (a_movers : (List Str)) : Mx (List (Str × Str × (Option Str) × Str × Str)) :=
  (.ok ([] : List (Str × Str × (Option Str) × Str × Str))) >>= fun contacts_here_118 => ((ofO (ranO 0 a_many)) >>= fun v159 => loopS v159 contacts_here_118 (l_contacts_b1 a_numbers_here a_at_ a_nodes a_movers)) >>= fun s158 => .ok s158
def l_spec (a_numbers_here : (List Int)) (a_at_ : Int) (a_switches : (List Str)) (a_lamps : (List Str)) (a_most : Int) : Mx ((List Str) × (List Str) × (List (Str × Str × Str)) × (List (Str × Str × Str)) × (List (Str × Str × (Option Str) × Str × Str))) :=
  (((ofO (atI a_numbers_here a_at_)) >>= fun v74 => (((l_pick a_numbers_here (a_at_ + (1 : Int)) (3 : Int)) >>= fun v72 => .ok ((3 : Int) + v72)) >>= fun v73 => .ok (v73, (0 : Int), ())) >>= fun v75 => .ok (v74, v75)) >>= fun v76 => l_names v76.1 v76.2.1 v76.2.2.1) >>= fun nodes_77 => (((ofO (atI a_numbers_here (a_at_ + (2 : Int)))) >>= fun v79 => ((l_pick a_numbers_here (a_at_ + (3 : Int)) (a_most + (1 : Int))) >>= fun v78 => .ok (v78, (16 : Int), ())) >>= fun v80 => .ok (v79, v80)) >>= fun v81 => l_names v81.1 v81.2.1 v81.2.2.1) >>= fun relays_82 => (l_loads a_numbers_here (a_at_ + (4 : Int)) relays_82 nodes_77) >>= fun loads_here_115 => (l_loads a_numbers_here (a_at_ + (8 : Int)) a_lamps nodes_77) >>= fun shown_116 => (l_pick a_numbers_here (a_at_ + (12 : Int)) (8 : Int)) >>= fun many_117 => (((((((ofO (catL a_switches relays_82)) >>= fun v160 => .ok (v160, ())) >>= fun v161 => .ok (nodes_77, v161)) >>= fun v162 => .ok (many_117, v162)) >>= fun v163 => .ok ((a_at_ + (13 : Int)), v163)) >>= fun v164 => .ok (a_numbers_here, v164)) >>= fun v165 => l_contacts v165.1 v165.2.1 v165.2.2.1 v165.2.2.2.1 v165.2.2.2.2.1) >>= fun contacts_here_166 => .ok (nodes_77, (a_switches, (loads_here_115, (shown_116, contacts_here_166))))
def l_two_b1 (one_167 : ((List Str) × (List Str) × (List (Str × Str × Str)) × (List (Str × Str × Str)) × (List (Str × Str × (Option Str) × Str × Str)))) (s201 : ((List Str) × (List Str) × (List (Str × Str × Str)) × (List (Str × Str × Str)) × (List (Str × Str × (Option Str) × Str × Str)))) (s214 : (List (Str × Str × (Option Str) × Str × Str))) (row_here215 : (Str × Str × (Option Str) × Str × Str)) : Mx (List (Str × Str × (Option Str) × Str × Str)) :=
  (.ok row_here215.2.2.1) >>= fun mover_216 => (((((ofO (atI s201.2.2.1 (0 : Int))) >>= fun v217 => .ok v217.1) >>= fun v218 => .ok (some v218)) >>= fun v219 => .ok (decide (mover_216 = v219))) >>= fun v224 => if v224 then (((ofO (atI one_167.2.2.1 (0 : Int))) >>= fun v220 => .ok v220.1) >>= fun v221 => .ok (some v221)) >>= fun mover_222 => .ok mover_222 else .ok mover_216 : Mx (Option Str)) >>= fun s223 => ofO (appO s214 (row_here215.1, (row_here215.2.1, (s223, (row_here215.2.2.2.1, row_here215.2.2.2.2))))) >>= fun moved_225 => .ok moved_225
def l_two (a_numbers_here : (List Int)) : Mx (((List Str) × (List Str) × (List (Str × Str × Str)) × (List (Str × Str × Str)) × (List (Str × Str × (Option Str) × Str × Str))) × ((List Str) × (List Str) × (List (Str × Str × Str)) × (List (Str × Str × Str)) × (List (Str × Str × (Option Str) × Str × Str)))) :=
  (((ofO (atI a_numbers_here (60 : Int))) >>= fun v62 => ((l_pick a_numbers_here (61 : Int) (3 : Int)) >>= fun v61 => .ok (v61, (3 : Int), ())) >>= fun v63 => .ok (v62, v63)) >>= fun v64 => l_names v64.1 v64.2.1 v64.2.2.1) >>= fun switches_65 => (((ofO (atI a_numbers_here (62 : Int))) >>= fun v68 => (((l_pick a_numbers_here (63 : Int) (2 : Int)) >>= fun v66 => .ok ((1 : Int) + v66)) >>= fun v67 => .ok (v67, (9 : Int), ())) >>= fun v69 => .ok (v68, v69)) >>= fun v70 => l_names v70.1 v70.2.1 v70.2.2.1) >>= fun lamps_71 => (l_spec a_numbers_here (0 : Int) switches_65 lamps_71 (2 : Int)) >>= fun one_167 => (l_spec a_numbers_here (30 : Int) switches_65 lamps_71 (2 : Int)) >>= fun other_168 => (l_pick a_numbers_here (64 : Int) (5 : Int)) >>= fun choice_169 => (.ok one_167.2.2.2.2) >>= fun contacts_here_170 => (l_pick a_numbers_here (65 : Int) ((contacts_here_170.length : Int) + (1 : Int))) >>= fun place_171 => ((if (decide (choice_169 = (1 : Int))) then (.ok (one_167.1, (one_167.2.1, (one_167.2.2.1.reverse, (one_167.2.2.2.1, contacts_here_170.reverse))))) >>= fun other_172 => .ok other_172 else .ok other_168 : Mx ((List Str) × (List Str) × (List (Str × Str × Str)) × (List (Str × Str × Str)) × (List (Str × Str × (Option Str) × Str × Str)))) >>= fun s173 => (if (decide (choice_169 = (2 : Int))) then (((((ofO (catL (cut contacts_here_170 none (some place_171)) (cut contacts_here_170 (some (place_171 + (1 : Int))) none))) >>= fun v174 => .ok (one_167.2.2.2.1, v174)) >>= fun v175 => .ok (one_167.2.2.1, v175)) >>= fun v176 => .ok (one_167.2.1, v176)) >>= fun v177 => .ok (one_167.1, v177)) >>= fun other_178 => .ok other_178 else .ok s173 : Mx ((List Str) × (List Str) × (List (Str × Str × Str)) × (List (Str × Str × Str)) × (List (Str × Str × (Option Str) × Str × Str)))) >>= fun s179 => ((if (decide (choice_169 = (3 : Int))) then if (decide (place_171 < (contacts_here_170.length : Int))) then ((ofO (atI contacts_here_170 place_171)) >>= fun v180 => .ok v180.2.2.1) >>= fun v181 => .ok v181.isSome else .ok false else .ok false) >>= fun v202 => if v202 then (((((ofO (atI contacts_here_170 place_171)) >>= fun v182 => .ok v182.2.2.2.1) >>= fun v183 => .ok (decide (v183 = ("break" : Str)))) >>= fun v184 => .ok (if v184 then (1 : Int) else 0)) >>= fun v185 => ofO (atI (("break" : Str) :: (("make" : Str) :: ([] : List Str))) v185)) >>= fun when_186 => (((ofO (atI contacts_here_170 place_171)) >>= fun v187 => .ok v187.1) >>= fun v196 => (((ofO (atI contacts_here_170 place_171)) >>= fun v188 => .ok v188.2.1) >>= fun v194 => (((ofO (atI contacts_here_170 place_171)) >>= fun v189 => .ok v189.2.2.1) >>= fun v192 => (((ofO (atI contacts_here_170 place_171)) >>= fun v190 => .ok v190.2.2.2.2) >>= fun v191 => .ok (when_186, v191)) >>= fun v193 => .ok (v192, v193)) >>= fun v195 => .ok (v194, v195)) >>= fun v197 => .ok (v196, v197)) >>= fun v200 => ofO (setO contacts_here_170 place_171 v200) >>= fun contacts_here_198 => (.ok (one_167.1, (one_167.2.1, (one_167.2.2.1, (one_167.2.2.2.1, contacts_here_198))))) >>= fun other_199 => .ok other_199 else .ok s179 : Mx ((List Str) × (List Str) × (List (Str × Str × Str)) × (List (Str × Str × Str)) × (List (Str × Str × (Option Str) × Str × Str)))) >>= fun s201 => (((if (decide (choice_169 = (4 : Int))) then if (decide ((0 : Int) < (one_167.2.2.1.length : Int))) then .ok (decide ((0 : Int) < (s201.2.2.1.length : Int))) else .ok false else .ok false) >>= fun v235 => if v235 then (((((ofO (atI one_167.2.2.1 (0 : Int))) >>= fun v203 => .ok v203.1) >>= fun v208 => (((ofO (atI s201.2.2.1 (0 : Int))) >>= fun v204 => .ok v204.2.1) >>= fun v206 => ((ofO (atI s201.2.2.1 (0 : Int))) >>= fun v205 => .ok v205.2.2) >>= fun v207 => .ok (v206, v207)) >>= fun v209 => .ok (v208, v209)) >>= fun v210 => .ok (v210 :: ([] : List (Str × Str × Str)))) >>= fun v211 => ofO (catL v211 (cut s201.2.2.1 (some (1 : Int)) none))) >>= fun relays_212 => (.ok ([] : List (Str × Str × (Option Str) × Str × Str))) >>= fun moved_213 => (loopS s201.2.2.2.2 moved_213 (l_two_b1 one_167 s201)) >>= fun s226 => (((ofO (atI one_167.2.2.1 (0 : Int))) >>= fun v227 => .ok v227.1) >>= fun v230 => ((compO (cut s201.2.2.1 (some (1 : Int)) none) (compF (fun relay228 => .ok true) (fun relay228 => .ok relay228.1))) >>= fun v229 => ofO (catL v229 s201.2.1)) >>= fun v231 => .ok (!decide (v230 ∈ v231))) >>= fun v233 => if v233 then (.ok (s201.1, (s201.2.1, (relays_212, (s201.2.2.2.1, s226))))) >>= fun other_232 => .ok other_232 else .ok s201 else .ok s201 : Mx ((List Str) × (List Str) × (List (Str × Str × Str)) × (List (Str × Str × Str)) × (List (Str × Str × (Option Str) × Str × Str)))) >>= fun s234 => .ok (one_167, s234)))
def l_reached_b2 (s246 : ((List Str) × Bool)) (edge247 : (Str × Str)) : Mx ((List Str) × Bool) :=
  (if (decide (edge247.1 ∈ s246.1)) then .ok (!decide (edge247.2 ∈ s246.1)) else .ok false) >>= fun v250 => if v250 then ofO (appO s246.1 edge247.2) >>= fun found_248 => (.ok true) >>= fun grown_249 => .ok (found_248, grown_249) else .ok (s246.1, s246.2)
def l_reached_b1 (a_edges_here : (List (Str × Str))) (s243 : (Bool × (List Str))) (turn244 : Int) : Mx (Bool × (List Str)) :=
  if s243.1 then (.ok false) >>= fun grown_245 => (loopS a_edges_here (s243.2, grown_245) l_reached_b2) >>= fun s251 => .ok (s251.2, s251.1) else .ok (s243.1, s243.2)
def l_reached (a_edges_here : (List (Str × Str))) (a_start : Str) : Mx (List Str) :=
  (.ok (a_start :: ([] : List Str))) >>= fun found_241 => (.ok true) >>= fun grown_242 => ((ofO (ranO 0 ((a_edges_here.length : Int) + (1 : Int)))) >>= fun v253 => loopS v253 (grown_242, found_241) (l_reached_b1 a_edges_here)) >>= fun s252 => .ok s252.2
def l_edges_b1 (a_movers : (List Bool)) (names_here_256 : (List Str)) (s258 : (List (Str × Str))) (contact259 : (Str × Str × (Option Str) × Str × Str)) : Mx (List (Str × Str)) :=
  (.ok true) >>= fun closed_260 => (if contact259.2.2.1.isSome then ((((getO contact259.2.2.1) >>= fun v261 => ofO (idxO names_here_256 v261)) >>= fun v262 => ofO (atI a_movers v262)) >>= fun v263 => .ok (decide (v263 = (decide (contact259.2.2.2.1 = ("make" : Str)))))) >>= fun closed_264 => .ok closed_264 else .ok closed_260 : Mx Bool) >>= fun s265 => if s265 then ofO (appO s258 (contact259.1, contact259.2.1)) >>= fun edges_here_266 => if (decide (contact259.2.2.2.2 = ("both" : Str))) then ofO (appO edges_here_266 (contact259.2.1, contact259.1)) >>= fun edges_here_267 => .ok edges_here_267 else .ok edges_here_266 else .ok s258
def l_edges (a_spec_here : ((List Str) × (List Str) × (List (Str × Str × Str)) × (List (Str × Str × Str)) × (List (Str × Str × (Option Str) × Str × Str)))) (a_movers : (List Bool)) : Mx (List (Str × Str)) :=
  ((compO a_spec_here.2.2.1 (compF (fun relay254 => .ok true) (fun relay254 => .ok relay254.1))) >>= fun v255 => ofO (catL a_spec_here.2.1 v255)) >>= fun names_here_256 => (.ok ([] : List (Str × Str))) >>= fun edges_here_257 => (loopS a_spec_here.2.2.2.2 edges_here_257 (l_edges_b1 a_movers names_here_256)) >>= fun s268 => .ok s268
def l_short (a_spec_here : ((List Str) × (List Str) × (List (Str × Str × Str)) × (List (Str × Str × Str)) × (List (Str × Str × (Option Str) × Str × Str)))) (a_movers : (List Bool)) : Mx Bool :=
  (ofO (atI a_spec_here.1 (1 : Int))) >>= fun v273 => (((l_edges a_spec_here a_movers) >>= fun v270 => ((ofO (atI a_spec_here.1 (0 : Int))) >>= fun v269 => .ok (v269, ())) >>= fun v271 => .ok (v270, v271)) >>= fun v272 => l_reached v272.1 v272.2.1) >>= fun v274 => .ok (decide (v273 ∈ v274))
def g_Board_is_name (a_text : Str) : Mx Bool :=
  (((ofO (lenS a_text)) >>= fun v282 => if (decide ((1 : Int) ≤ v282)) then .ok (decide (v282 ≤ (12 : Int))) else .ok false) >>= fun v283 => .ok (!v283)) >>= fun v286 => if v286 then .ok false else (compO (signs a_text) (compF (fun char284 => .ok true) (fun char284 => ofO (inSO char284 ("abcdefghijklmnopqrstuvwxyz0123456789" : Str))))) >>= fun v285 => .ok (v285.all id)
def g_are_names_b1 (a_names_ : (List Str)) (s280 : Unit) (p281 : (Int × Str)) : Mx (Lp Unit Bool) :=
  (((g_Board_is_name p281.2) >>= fun v287 => .ok (!v287)) >>= fun v288 => if v288 then .ok true else .ok (decide (p281.2 ∈ (cut a_names_ none (some p281.1))))) >>= fun v290 => if v290 then .ok (Lp.out false) else .ok (Lp.go ())
def g_are_names (a_names_ : (List Str)) (a_least : Int) (a_most : Int) : Mx Bool :=
  ((if (decide (a_least ≤ (a_names_.length : Int))) then .ok (decide ((a_names_.length : Int) ≤ a_most)) else .ok false) >>= fun v279 => .ok (!v279)) >>= fun v293 => if v293 then .ok false else (loopF (enumL a_names_) () (g_are_names_b1 a_names_)) >>= fwk (fun s291 => .ok true) (fun y292 => y292)
def g_is_between (a_one : Str) (a_other : Str) (a_nodes : (List Str)) : Mx Bool :=
  if (decide (a_one ∈ a_nodes)) then if (decide (a_other ∈ a_nodes)) then .ok (!decide (a_one = a_other)) else .ok false else .ok false
def g_are_loads_b1 (a_nodes : (List Str)) (s305 : Unit) (p306 : (Str × Str × Str)) : Mx (Lp Unit Bool) :=
  ((g_is_between p306.2.1 p306.2.2 a_nodes) >>= fun v307 => .ok (!v307)) >>= fun v309 => if v309 then .ok (Lp.out false) else .ok (Lp.go ())
def g_are_loads (a_loads : (List (Str × Str × Str))) (a_nodes : (List Str)) : Mx Bool :=
  (loopF a_loads () (g_are_loads_b1 a_nodes)) >>= fwk (fun s310 => .ok true) (fun y311 => y311)
def g_is_contact (a_contact : (Str × Str × (Option Str) × Str × Str)) (a_nodes : (List Str)) (a_movers : (List Str)) : Mx Bool :=
  (.ok a_contact) >>= fun p317 => (((g_is_between p317.1 p317.2.1 a_nodes) >>= fun v318 => .ok (!v318)) >>= fun v319 => if v319 then .ok true else if (!decide (p317.2.2.2.1 ∈ [("make" : Str), ("break" : Str)])) then .ok true else .ok (!decide (p317.2.2.2.2 ∈ [("both" : Str), ("forward" : Str)]))) >>= fun v321 => if v321 then .ok false else if p317.2.2.1.isNone then .ok (decide (p317.2.2.2.1 = ("make" : Str))) else (getO p317.2.2.1) >>= fun v320 => .ok (decide (v320 ∈ a_movers))
def g_Board_init_b1 (a_nodes : (List Str)) (movers_298 : (List Str)) (s315 : Unit) (contact316 : (Str × Str × (Option Str) × Str × Str)) : Mx Unit :=
  ((g_is_contact contact316 a_nodes movers_298) >>= fun v322 => .ok (!v322)) >>= fun v323 => if v323 then .ex ⟨"InvalidBoard", "", .n⟩ else .ok ()
def g_Board_init (a_nodes : (List Str)) (a_lamps : (List (Str × Str × Str))) (a_switches : (List Str)) (a_relays : (List (Str × Str × Str))) (a_contacts : (List (Str × Str × (Option Str) × Str × Str))) : Mx D_Board :=
  (((g_are_names a_nodes (2 : Int) (16 : Int)) >>= fun v294 => .ok (!v294)) >>= fun v295 => if v295 then .ok true else .ok (decide ((6 : Int) < (a_switches.length : Int)))) >>= fun v336 => if v336 then .ex ⟨"InvalidBoard", "", .n⟩ else ((compO a_relays (compF (fun relay296 => .ok true) (fun relay296 => .ok relay296.1))) >>= fun v297 => ofO (catL a_switches v297)) >>= fun movers_298 => (((g_are_names movers_298 (0 : Int) ((6 : Int) + (8 : Int))) >>= fun v299 => .ok (!v299)) >>= fun v300 => if v300 then .ok true else .ok (decide ((8 : Int) < (a_relays.length : Int)))) >>= fun v335 => if v335 then .ex ⟨"InvalidBoard", "", .n⟩ else ((((compO a_lamps (compF (fun lamp301 => .ok true) (fun lamp301 => .ok lamp301.1))) >>= fun v302 => .ok (v302, (1 : Int), (8 : Int), ())) >>= fun v303 => g_are_names v303.1 v303.2.1 v303.2.2.1) >>= fun v304 => .ok (!v304)) >>= fun v334 => if v334 then .ex ⟨"InvalidBoard", "", .n⟩ else (((g_are_loads a_relays a_nodes) >>= fun v312 => .ok (!v312)) >>= fun v314 => if v314 then .ok true else (g_are_loads a_lamps a_nodes) >>= fun v313 => .ok (!v313)) >>= fun v333 => if v333 then .ex ⟨"InvalidBoard", "", .n⟩ else if (decide ((40 : Int) < (a_contacts.length : Int))) then .ex ⟨"InvalidBoard", "", .n⟩ else (loopS a_contacts () (g_Board_init_b1 a_nodes movers_298)) >>= fun s324 => (.ok a_nodes) >>= fun nodes_325 => (.ok a_switches) >>= fun switches_326 => (compO a_relays (compF (fun relay327 => .ok true) (fun relay327 => .ok relay327))) >>= fun relays_328 => (compO a_lamps (compF (fun lamp329 => .ok true) (fun lamp329 => .ok lamp329))) >>= fun lamps_330 => (compO a_contacts (compF (fun contact331 => .ok true) (fun contact331 => .ok contact331))) >>= fun contacts_332 => .ok (nodes_325, switches_326, relays_328, lamps_330, contacts_332, ())
def l_board (a_spec_here : ((List Str) × (List Str) × (List (Str × Str × Str)) × (List (Str × Str × Str)) × (List (Str × Str × (Option Str) × Str × Str)))) : Mx D_Board :=
  g_Board_init a_spec_here.1 a_spec_here.2.2.2.1 a_spec_here.2.1 a_spec_here.2.2.1 a_spec_here.2.2.2.2
def g_Board_movers (a_self : D_Board) : Mx (List Str) :=
  (compO a_self.2.2.1 (compF (fun relay341 => .ok true) (fun relay341 => .ok relay341.1))) >>= fun v342 => ofO (catL a_self.2.1 v342)
def g_Board_minus (a_self : D_Board) : Mx Str :=
  ofO (atI a_self.1 (1 : Int))
def g_reached_b2 (s353 : ((List Str) × Int)) (s354 : (List Str)) (p355 : (Str × Str)) : Mx (List Str) :=
  (((ofO (atI s354 s353.2)) >>= fun v356 => .ok (decide (p355.1 = v356))) >>= fun v357 => if v357 then .ok (!decide (p355.2 ∈ s354)) else .ok false) >>= fun v359 => if v359 then ofO (appO s354 p355.2) >>= fun found_358 => .ok found_358 else .ok s354
def g_reached_b1 (a_pairs : (List (Str × Str))) (s353 : ((List Str) × Int)) : Mx ((List Str) × Int) :=
  (loopS a_pairs s353.1 (g_reached_b2 s353)) >>= fun s360 => (.ok (s353.2 + (1 : Int))) >>= fun place_361 => .ok (s360, place_361)
def g_reached_b1c (s353 : ((List Str) × Int)) : Mx Bool :=
  .ok (decide (s353.2 < (s353.1.length : Int)))
def g_reached (a_pairs : (List (Str × Str))) (a_start : Str) : Mx (List Str) :=
  (.ok (a_start :: ([] : List Str))) >>= fun found_351 => (.ok (0 : Int)) >>= fun place_352 => whileS fuel (found_351, place_352) g_reached_b1c (g_reached_b1 a_pairs) >>= fun s362 => .ok s362.1
def g_closes (a_contact : (Str × Str × (Option Str) × Str × Str)) (a_on : Bool) : Mx Bool :=
  if a_contact.2.2.1.isNone then .ok true else .ok (decide (a_on = (decide (a_contact.2.2.2.1 = ("make" : Str)))))
def g_closed_contacts_b1 (a_state : ((List Bool) × Bool)) (numbers_367 : (List (Str × Int))) (s369 : (List Int)) (p370 : (Int × (Str × Str × (Option Str) × Str × Str))) : Mx (List Int) :=
  (if p370.2.2.2.1.isNone then .ok true else (((((getO p370.2.2.2.1) >>= fun v371 => ofO (dget numbers_367 v371)) >>= fun v372 => ofO (atI a_state.1 v372)) >>= fun v373 => .ok (v373, ())) >>= fun v374 => .ok (p370.2, v374)) >>= fun v375 => g_closes v375.1 v375.2.1) >>= fun v377 => if v377 then ofO (appO s369 p370.1) >>= fun found_376 => .ok found_376 else .ok s369
def g_closed_contacts (a_board : D_Board) (a_state : ((List Bool) × Bool)) : Mx (List Int) :=
  (((noEx (g_Board_movers a_board)) >>= fun v364 => .ok (enumL v364)) >>= fun v366 => compO v366 (compF (fun p365 => .ok true) (dcE (fun p365 => .ok p365.2) (fun p365 => .ok p365.1))) >>= fun ps => .ok (dmerge ps)) >>= fun numbers_367 => (.ok ([] : List Int)) >>= fun found_368 => (loopS (enumL a_board.2.2.2.2.1) found_368 (g_closed_contacts_b1 a_state numbers_367)) >>= fun s378 => .ok s378
def g_paths_b1 (a_board : D_Board) (s379 : (List (Str × Str))) (number380 : Int) : Mx (List (Str × Str)) :=
  (ofO (atI a_board.2.2.2.2.1 number380)) >>= fun p381 => ofO (appO s379 (p381.1, p381.2.1)) >>= fun pairs_382 => if (decide (p381.2.2.2.2 = ("both" : Str))) then ofO (appO pairs_382 (p381.2.1, p381.1)) >>= fun pairs_383 => .ok pairs_383 else .ok pairs_382
def g_paths (a_board : D_Board) (a_state : ((List Bool) × Bool)) : Mx (List (Str × Str)) :=
  (.ok ([] : List (Str × Str))) >>= fun pairs_363 => ((g_closed_contacts a_board a_state) >>= fun v385 => loopS v385 pairs_363 (g_paths_b1 a_board)) >>= fun s384 => .ok s384
def g_Board_plus (a_self : D_Board) : Mx Str :=
  ofO (atI a_self.1 (0 : Int))
def g_fed (a_board : D_Board) (a_state : ((List Bool) × Bool)) : Mx (List Str) :=
  (((g_paths a_board a_state) >>= fun v387 => ((noEx (g_Board_plus a_board)) >>= fun v386 => .ok (v386, ())) >>= fun v388 => .ok (v387, v388)) >>= fun v389 => g_reached v389.1 v389.2.1) >>= fun found_390 => compO a_board.1 (compF (fun node391 => .ok (decide (node391 ∈ found_390))) (fun node391 => .ok node391))
def g_is_short (a_board : D_Board) (a_state : ((List Bool) × Bool)) : Mx Bool :=
  (noEx (g_Board_minus a_board)) >>= fun v392 => (g_fed a_board a_state) >>= fun v393 => .ok (decide (v392 ∈ v393))
def g_changed_state_b1 (s344 : (List (Str × Bool))) (p345 : (Str × Bool)) : Mx (List (Str × Bool)) :=
  ofO (dputO (k := .str) (t := .bool) s344 p345.1 p345.2) >>= fun raised_346 => .ok raised_346
def g_changed_state (a_one : D_Board) (a_other : D_Board) (a_state : ((List Bool) × Bool)) : Mx ((List Bool) × Bool) :=
  (.ok a_state) >>= fun p339 => (.ok ([] : List (Str × Bool))) >>= fun raised_340 => (((noEx (g_Board_movers a_one)) >>= fun v343 => .ok (v343.zip p339.1)) >>= fun v395 => loopS v395 raised_340 g_changed_state_b1) >>= fun s347 => ((noEx (g_Board_movers a_other)) >>= fun v349 => compO v349 (compF (fun name348 => .ok true) (fun name348 => .ok ((dget s347 name348).getD false)))) >>= fun taken_350 => (if p339.2 then .ok true else g_is_short a_other (taken_350, p339.2)) >>= fun v394 => .ok (taken_350, v394)
def l_changed_b1 (a_state : ((List Bool) × Bool)) (names_here_399 : (List Str)) (s403 : (List Bool)) (name404 : Str) : Mx (List Bool) :=
  (if (decide (name404 ∈ names_here_399)) then (ofO (idxO names_here_399 name404)) >>= fun v405 => ofO (atI a_state.1 v405) else .ok false) >>= fun v407 => ofO (appO s403 v407) >>= fun movers_406 => .ok movers_406
def l_changed (a_one : ((List Str) × (List Str) × (List (Str × Str × Str)) × (List (Str × Str × Str)) × (List (Str × Str × (Option Str) × Str × Str)))) (a_other : ((List Str) × (List Str) × (List (Str × Str × Str)) × (List (Str × Str × Str)) × (List (Str × Str × (Option Str) × Str × Str)))) (a_state : ((List Bool) × Bool)) : Mx ((List Bool) × Bool) :=
  ((compO a_one.2.2.1 (compF (fun relay397 => .ok true) (fun relay397 => .ok relay397.1))) >>= fun v398 => ofO (catL a_one.2.1 v398)) >>= fun names_here_399 => (.ok ([] : List Bool)) >>= fun movers_400 => (((compO a_other.2.2.1 (compF (fun relay401 => .ok true) (fun relay401 => .ok relay401.1))) >>= fun v402 => ofO (catL a_other.2.1 v402)) >>= fun v410 => loopS v410 movers_400 (l_changed_b1 a_state names_here_399)) >>= fun s408 => (if a_state.2 then .ok true else l_short a_other s408) >>= fun v409 => .ok (s408, v409)
def l_law (a_script : (List Int)) : Mx Bool :=
  (l_numbers a_script (90 : Int)) >>= fun numbers_here_37 => (l_two numbers_here_37) >>= fun p236 => ((ofO (ranO 0 ((p236.1.2.1.length : Int) + (p236.1.2.2.1.length : Int)))) >>= fun v239 => compO v239 (compF (fun k237 => .ok true) (fun k237 => (l_pick numbers_here_37 ((70 : Int) + k237) (2 : Int)) >>= fun v238 => .ok (decide (v238 = (1 : Int)))))) >>= fun movers_240 => (((l_short p236.1 movers_240) >>= fun v276 => if v276 then .ok true else (l_pick numbers_here_37 (76 : Int) (5 : Int)) >>= fun v275 => .ok (decide (v275 = (1 : Int)))) >>= fun v277 => .ok (movers_240, v277)) >>= fun state_278 => (l_board p236.1) >>= fun first_here_337 => (l_board p236.2) >>= fun second_338 => (g_changed_state first_here_337 second_338 state_278) >>= fun actual_396 => ((if (!true) then .ok true else .ok (!true)) >>= fun v417 => if v417 then .ok false else (((l_changed p236.1 p236.2 state_278) >>= fun v411 => .ok (!decide (actual_396 = v411))) >>= fun v413 => if v413 then .ok true else (g_changed_state first_here_337 first_here_337 state_278) >>= fun v412 => .ok (!decide (v412 = state_278))) >>= fun v416 => if v416 then .ok false else (g_changed_state second_338 first_here_337 actual_396) >>= fun v414 => (l_changed p236.2 p236.1 actual_396) >>= fun v415 => .ok (decide (v414 = v415)))
end Lw
set_option Elab.async false
set_option synthInstance.maxHeartbeats 2000000
set_option synthInstance.maxSize 4000
set_option linter.all false
set_option maxRecDepth 100000
set_option maxHeartbeats 4000000
namespace Lw
open PySem PySem.Spec L2 Gm
structure Fs where
  l_rowD : FuncData
  l_numbersD : FuncData
  l_namesD : FuncData
  l_pickD : FuncData
  l_loadsD : FuncData
  l_contactsD : FuncData
  l_specD : FuncData
  l_twoD : FuncData
  l_reachedD : FuncData
  l_edgesD : FuncData
  l_shortD : FuncData
  g_Board_is_nameD : FuncData
  g_are_namesD : FuncData
  g_is_betweenD : FuncData
  g_are_loadsD : FuncData
  g_is_contactD : FuncData
  g_Board_initD : FuncData
  l_boardD : FuncData
  g_Board_moversD : FuncData
  g_Board_minusD : FuncData
  g_reachedD : FuncData
  g_closesD : FuncData
  g_closed_contactsD : FuncData
  g_pathsD : FuncData
  g_Board_plusD : FuncData
  g_fedD : FuncData
  g_is_shortD : FuncData
  g_changed_stateD : FuncData
  l_changedD : FuncData
  l_lawD : FuncData
abbrev N_l_row : List Str := ["_law_cell", "_law_many", "_law_row_here", "_law_rest", "_law_k", "_law_mixed"]
theorem sc_l_row : FnScope N_l_row ["_law_cell", "_law_many"] (defScope s_l_row) := ⟨rfl, rfl, rfl, by decide +kernel, rfl, by decide +kernel, by decide +kernel⟩
abbrev N_l_numbers : List Str := ["_law_script", "_law_many", "_law_cells", "_law_each", "_law_numbers_here", "_law_cell", "_law_number"]
theorem sc_l_numbers : FnScope N_l_numbers ["_law_script", "_law_many"] (defScope s_l_numbers) := ⟨rfl, rfl, rfl, by decide +kernel, rfl, by decide +kernel, by decide +kernel⟩
abbrev N_l_names : List Str := ["_law_number", "_law_many", "_law_turn", "_law_prefix", "_law_names_here", "_law_k", "_law_letter"]
theorem sc_l_names : FnScope N_l_names ["_law_number", "_law_many", "_law_turn"] (defScope s_l_names) := ⟨rfl, rfl, rfl, by decide +kernel, rfl, by decide +kernel, by decide +kernel⟩
abbrev N_l_pick : List Str := ["_law_numbers_here", "_law_at", "_law_most"]
theorem sc_l_pick : FnScope N_l_pick ["_law_numbers_here", "_law_at", "_law_most"] (defScope s_l_pick) := ⟨rfl, rfl, rfl, by decide +kernel, rfl, by decide +kernel, by decide +kernel⟩
abbrev N_l_loads : List Str := ["_law_numbers_here", "_law_at", "_law_names_here", "_law_nodes", "_law_loads_here", "_law_k", "_law_number", "_law_near", "_law_far"]
theorem sc_l_loads : FnScope N_l_loads ["_law_numbers_here", "_law_at", "_law_names_here", "_law_nodes"] (defScope s_l_loads) := ⟨rfl, rfl, rfl, by decide +kernel, rfl, by decide +kernel, by decide +kernel⟩
abbrev N_l_contacts : List Str := ["_law_numbers_here", "_law_at", "_law_many", "_law_nodes", "_law_movers", "_law_contacts_here", "_law_k", "_law_number", "_law_place", "_law_other", "_law_choice", "_law_mover", "_law_when", "_law_way"]
theorem sc_l_contacts : FnScope N_l_contacts ["_law_numbers_here", "_law_at", "_law_many", "_law_nodes", "_law_movers"] (defScope s_l_contacts) := ⟨rfl, rfl, rfl, by decide +kernel, rfl, by decide +kernel, by decide +kernel⟩
abbrev N_l_spec : List Str := ["_law_numbers_here", "_law_at", "_law_switches", "_law_lamps", "_law_most", "_law_nodes", "_law_relays", "_law_loads_here", "_law_shown", "_law_many", "_law_contacts_here"]
theorem sc_l_spec : FnScope N_l_spec ["_law_numbers_here", "_law_at", "_law_switches", "_law_lamps", "_law_most"] (defScope s_l_spec) := ⟨rfl, rfl, rfl, by decide +kernel, rfl, by decide +kernel, by decide +kernel⟩
abbrev N_l_two : List Str := ["_law_numbers_here", "_law_switches", "_law_lamps", "_law_one", "_law_other", "_law_choice", "_law_contacts_here", "_law_place", "_law_when", "_law_relays", "_law_moved", "_law_row_here", "_law_mover", "_law_relay"]
theorem sc_l_two : FnScope N_l_two ["_law_numbers_here"] (defScope s_l_two) := ⟨rfl, rfl, rfl, by decide +kernel, rfl, by decide +kernel, by decide +kernel⟩
abbrev N_l_reached : List Str := ["_law_edges_here", "_law_start", "_law_found", "_law_grown", "_law_turn", "_law_edge"]
theorem sc_l_reached : FnScope N_l_reached ["_law_edges_here", "_law_start"] (defScope s_l_reached) := ⟨rfl, rfl, rfl, by decide +kernel, rfl, by decide +kernel, by decide +kernel⟩
abbrev N_l_edges : List Str := ["_law_spec_here", "_law_movers", "_law_names_here", "_law_edges_here", "_law_contact", "_law_closed", "_law_relay"]
theorem sc_l_edges : FnScope N_l_edges ["_law_spec_here", "_law_movers"] (defScope s_l_edges) := ⟨rfl, rfl, rfl, by decide +kernel, rfl, by decide +kernel, by decide +kernel⟩
abbrev N_l_short : List Str := ["_law_spec_here", "_law_movers"]
theorem sc_l_short : FnScope N_l_short ["_law_spec_here", "_law_movers"] (defScope s_l_short) := ⟨rfl, rfl, rfl, by decide +kernel, rfl, by decide +kernel, by decide +kernel⟩
abbrev N_g_Board_is_name : List Str := ["text", "char"]
theorem sc_g_Board_is_name : FnScope N_g_Board_is_name ["text"] (defScope s_g_Board_is_name) := ⟨rfl, rfl, rfl, by decide +kernel, rfl, by decide +kernel, by decide +kernel⟩
abbrev N_g_are_names : List Str := ["names", "least", "most", "number", "name"]
theorem sc_g_are_names : FnScope N_g_are_names ["names", "least", "most"] (defScope s_g_are_names) := ⟨rfl, rfl, rfl, by decide +kernel, rfl, by decide +kernel, by decide +kernel⟩
abbrev N_g_is_between : List Str := ["one", "other", "nodes"]
theorem sc_g_is_between : FnScope N_g_is_between ["one", "other", "nodes"] (defScope s_g_is_between) := ⟨rfl, rfl, rfl, by decide +kernel, rfl, by decide +kernel, by decide +kernel⟩
abbrev N_g_are_loads : List Str := ["loads", "nodes", "name", "one", "other"]
theorem sc_g_are_loads : FnScope N_g_are_loads ["loads", "nodes"] (defScope s_g_are_loads) := ⟨rfl, rfl, rfl, by decide +kernel, rfl, by decide +kernel, by decide +kernel⟩
abbrev N_g_is_contact : List Str := ["contact", "nodes", "movers", "one", "other", "mover", "when", "way"]
theorem sc_g_is_contact : FnScope N_g_is_contact ["contact", "nodes", "movers"] (defScope s_g_is_contact) := ⟨rfl, rfl, rfl, by decide +kernel, rfl, by decide +kernel, by decide +kernel⟩
abbrev N_g_Board_init : List Str := ["self", "nodes", "lamps", "switches", "relays", "contacts", "movers", "contact", "relay", "lamp"]
theorem sc_g_Board_init : FnScope N_g_Board_init ["self", "nodes", "lamps", "switches", "relays", "contacts"] (defScope s_g_Board_init) := ⟨rfl, rfl, rfl, by decide +kernel, rfl, by decide +kernel, by decide +kernel⟩
abbrev N_l_board : List Str := ["_law_spec_here"]
theorem sc_l_board : FnScope N_l_board ["_law_spec_here"] (defScope s_l_board) := ⟨rfl, rfl, rfl, by decide +kernel, rfl, by decide +kernel, by decide +kernel⟩
abbrev N_g_Board_movers : List Str := ["self", "relay"]
theorem sc_g_Board_movers : FnScope N_g_Board_movers ["self"] (defScope s_g_Board_movers) := ⟨rfl, rfl, rfl, by decide +kernel, rfl, by decide +kernel, by decide +kernel⟩
abbrev N_g_Board_minus : List Str := ["self"]
theorem sc_g_Board_minus : FnScope N_g_Board_minus ["self"] (defScope s_g_Board_minus) := ⟨rfl, rfl, rfl, by decide +kernel, rfl, by decide +kernel, by decide +kernel⟩
abbrev N_g_reached : List Str := ["pairs", "start", "found", "place", "source", "target"]
theorem sc_g_reached : FnScope N_g_reached ["pairs", "start"] (defScope s_g_reached) := ⟨rfl, rfl, rfl, by decide +kernel, rfl, by decide +kernel, by decide +kernel⟩
abbrev N_g_closes : List Str := ["contact", "on"]
theorem sc_g_closes : FnScope N_g_closes ["contact", "on"] (defScope s_g_closes) := ⟨rfl, rfl, rfl, by decide +kernel, rfl, by decide +kernel, by decide +kernel⟩
abbrev N_g_closed_contacts : List Str := ["board", "state", "numbers", "found", "number", "contact", "name"]
theorem sc_g_closed_contacts : FnScope N_g_closed_contacts ["board", "state"] (defScope s_g_closed_contacts) := ⟨rfl, rfl, rfl, by decide +kernel, rfl, by decide +kernel, by decide +kernel⟩
abbrev N_g_paths : List Str := ["board", "state", "pairs", "number", "one", "other", "_", "way"]
theorem sc_g_paths : FnScope N_g_paths ["board", "state"] (defScope s_g_paths) := ⟨rfl, rfl, rfl, by decide +kernel, rfl, by decide +kernel, by decide +kernel⟩
abbrev N_g_Board_plus : List Str := ["self"]
theorem sc_g_Board_plus : FnScope N_g_Board_plus ["self"] (defScope s_g_Board_plus) := ⟨rfl, rfl, rfl, by decide +kernel, rfl, by decide +kernel, by decide +kernel⟩
abbrev N_g_fed : List Str := ["board", "state", "found", "node"]
theorem sc_g_fed : FnScope N_g_fed ["board", "state"] (defScope s_g_fed) := ⟨rfl, rfl, rfl, by decide +kernel, rfl, by decide +kernel, by decide +kernel⟩
abbrev N_g_is_short : List Str := ["board", "state"]
theorem sc_g_is_short : FnScope N_g_is_short ["board", "state"] (defScope s_g_is_short) := ⟨rfl, rfl, rfl, by decide +kernel, rfl, by decide +kernel, by decide +kernel⟩
abbrev N_g_changed_state : List Str := ["one", "other", "state", "movers", "blown", "raised", "name", "is_on", "taken"]
theorem sc_g_changed_state : FnScope N_g_changed_state ["one", "other", "state"] (defScope s_g_changed_state) := ⟨rfl, rfl, rfl, by decide +kernel, rfl, by decide +kernel, by decide +kernel⟩
abbrev N_l_changed : List Str := ["_law_one", "_law_other", "_law_state", "_law_names_here", "_law_movers", "_law_name", "_law_relay"]
theorem sc_l_changed : FnScope N_l_changed ["_law_one", "_law_other", "_law_state"] (defScope s_l_changed) := ⟨rfl, rfl, rfl, by decide +kernel, rfl, by decide +kernel, by decide +kernel⟩
abbrev N_l_law : List Str := ["_law_script", "_law_numbers_here", "_law_one", "_law_other", "_law_movers", "_law_state", "_law_first_here", "_law_second", "_law_actual", "_law_k"]
theorem sc_l_law : FnScope N_l_law ["_law_script"] (defScope s_l_law) := ⟨rfl, rfl, rfl, by decide +kernel, rfl, by decide +kernel, by decide +kernel⟩
structure Tx (P : Program) (K : PySem.W.Frag) (mg : Str → Option Value) (a : Fs) : Prop where
  l_row : FunD K "_law_row" "_law_row" (defArgs s_l_row) (defBody s_l_row) (defScope s_l_row) [] [] (He.ga K "_law_row") a.l_rowD
  l_row_b : Binds K a.l_rowD ["_law_cell", "_law_many"] []
  l_numbers : FunD K "_law_numbers" "_law_numbers" (defArgs s_l_numbers) (defBody s_l_numbers) (defScope s_l_numbers) [] [] (He.ga K "_law_numbers") a.l_numbersD
  l_numbers_b : Binds K a.l_numbersD ["_law_script", "_law_many"] []
  l_names : FunD K "_law_names" "_law_names" (defArgs s_l_names) (defBody s_l_names) (defScope s_l_names) [] [] (He.ga K "_law_names") a.l_namesD
  l_names_b : Binds K a.l_namesD ["_law_number", "_law_many", "_law_turn"] []
  l_pick : FunD K "_law_pick" "_law_pick" (defArgs s_l_pick) (defBody s_l_pick) (defScope s_l_pick) [] [] (He.ga K "_law_pick") a.l_pickD
  l_pick_b : Binds K a.l_pickD ["_law_numbers_here", "_law_at", "_law_most"] []
  l_loads : FunD K "_law_loads" "_law_loads" (defArgs s_l_loads) (defBody s_l_loads) (defScope s_l_loads) [] [] (He.ga K "_law_loads") a.l_loadsD
  l_loads_b : Binds K a.l_loadsD ["_law_numbers_here", "_law_at", "_law_names_here", "_law_nodes"] []
  l_contacts : FunD K "_law_contacts" "_law_contacts" (defArgs s_l_contacts) (defBody s_l_contacts) (defScope s_l_contacts) [] [] (He.ga K "_law_contacts") a.l_contactsD
  l_contacts_b : Binds K a.l_contactsD ["_law_numbers_here", "_law_at", "_law_many", "_law_nodes", "_law_movers"] []
  l_spec : FunD K "_law_spec" "_law_spec" (defArgs s_l_spec) (defBody s_l_spec) (defScope s_l_spec) [] [] (He.ga K "_law_spec") a.l_specD
  l_spec_b : Binds K a.l_specD ["_law_numbers_here", "_law_at", "_law_switches", "_law_lamps", "_law_most"] []
  l_two : FunD K "_law_two" "_law_two" (defArgs s_l_two) (defBody s_l_two) (defScope s_l_two) [] [] (He.ga K "_law_two") a.l_twoD
  l_two_b : Binds K a.l_twoD ["_law_numbers_here"] []
  l_reached : FunD K "_law_reached" "_law_reached" (defArgs s_l_reached) (defBody s_l_reached) (defScope s_l_reached) [] [] (He.ga K "_law_reached") a.l_reachedD
  l_reached_b : Binds K a.l_reachedD ["_law_edges_here", "_law_start"] []
  l_edges : FunD K "_law_edges" "_law_edges" (defArgs s_l_edges) (defBody s_l_edges) (defScope s_l_edges) [] [] (He.ga K "_law_edges") a.l_edgesD
  l_edges_b : Binds K a.l_edgesD ["_law_spec_here", "_law_movers"] []
  l_short : FunD K "_law_short" "_law_short" (defArgs s_l_short) (defBody s_l_short) (defScope s_l_short) [] [] (He.ga K "_law_short") a.l_shortD
  l_short_b : Binds K a.l_shortD ["_law_spec_here", "_law_movers"] []
  g_Board_is_name : FunD K "is_name" "Board.is_name" (defArgs s_g_Board_is_name) (defBody s_g_Board_is_name) (defScope s_g_Board_is_name) [] [] (statAt K "Board" "is_name") a.g_Board_is_nameD
  g_Board_is_name_b : Binds K a.g_Board_is_nameD ["text"] []
  g_are_names : FunD K "are_names" "are_names" (defArgs s_g_are_names) (defBody s_g_are_names) (defScope s_g_are_names) [] [] (He.ga K "are_names") a.g_are_namesD
  g_are_names_b : Binds K a.g_are_namesD ["names", "least", "most"] []
  g_is_between : FunD K "is_between" "is_between" (defArgs s_g_is_between) (defBody s_g_is_between) (defScope s_g_is_between) [] [] (He.ga K "is_between") a.g_is_betweenD
  g_is_between_b : Binds K a.g_is_betweenD ["one", "other", "nodes"] []
  g_are_loads : FunD K "are_loads" "are_loads" (defArgs s_g_are_loads) (defBody s_g_are_loads) (defScope s_g_are_loads) [] [] (He.ga K "are_loads") a.g_are_loadsD
  g_are_loads_b : Binds K a.g_are_loadsD ["loads", "nodes"] []
  g_is_contact : FunD K "is_contact" "is_contact" (defArgs s_g_is_contact) (defBody s_g_is_contact) (defScope s_g_is_contact) [] [] (He.ga K "is_contact") a.g_is_contactD
  g_is_contact_b : Binds K a.g_is_contactD ["contact", "nodes", "movers"] []
  g_Board_init : FunD K "__init__" "Board.__init__" (defArgs s_g_Board_init) (defBody s_g_Board_init) (defScope s_g_Board_init) [] [("switches", .ref (kwAt K (methAt K "Board" "__init__") "switches")), ("relays", .ref (kwAt K (methAt K "Board" "__init__") "relays")), ("contacts", .ref (kwAt K (methAt K "Board" "__init__") "contacts"))] (methAt K "Board" "__init__") a.g_Board_initD
  l_board : FunD K "_law_board" "_law_board" (defArgs s_l_board) (defBody s_l_board) (defScope s_l_board) [] [] (He.ga K "_law_board") a.l_boardD
  l_board_b : Binds K a.l_boardD ["_law_spec_here"] []
  g_Board_movers : FunD K "movers" "Board.movers" (defArgs s_g_Board_movers) (defBody s_g_Board_movers) (defScope s_g_Board_movers) [] [] (propAt K "Board" "movers") a.g_Board_moversD
  g_Board_movers_b : Binds K a.g_Board_moversD ["self"] []
  g_Board_minus : FunD K "minus" "Board.minus" (defArgs s_g_Board_minus) (defBody s_g_Board_minus) (defScope s_g_Board_minus) [] [] (propAt K "Board" "minus") a.g_Board_minusD
  g_Board_minus_b : Binds K a.g_Board_minusD ["self"] []
  g_reached : FunD K "reached" "reached" (defArgs s_g_reached) (defBody s_g_reached) (defScope s_g_reached) [] [] (He.ga K "reached") a.g_reachedD
  g_reached_b : Binds K a.g_reachedD ["pairs", "start"] []
  g_closes : FunD K "closes" "closes" (defArgs s_g_closes) (defBody s_g_closes) (defScope s_g_closes) [] [] (He.ga K "closes") a.g_closesD
  g_closes_b : Binds K a.g_closesD ["contact", "on"] []
  g_closed_contacts : FunD K "closed_contacts" "closed_contacts" (defArgs s_g_closed_contacts) (defBody s_g_closed_contacts) (defScope s_g_closed_contacts) [] [] (He.ga K "closed_contacts") a.g_closed_contactsD
  g_closed_contacts_b : Binds K a.g_closed_contactsD ["board", "state"] []
  g_paths : FunD K "paths" "paths" (defArgs s_g_paths) (defBody s_g_paths) (defScope s_g_paths) [] [] (He.ga K "paths") a.g_pathsD
  g_paths_b : Binds K a.g_pathsD ["board", "state"] []
  g_Board_plus : FunD K "plus" "Board.plus" (defArgs s_g_Board_plus) (defBody s_g_Board_plus) (defScope s_g_Board_plus) [] [] (propAt K "Board" "plus") a.g_Board_plusD
  g_Board_plus_b : Binds K a.g_Board_plusD ["self"] []
  g_fed : FunD K "fed" "fed" (defArgs s_g_fed) (defBody s_g_fed) (defScope s_g_fed) [] [] (He.ga K "fed") a.g_fedD
  g_fed_b : Binds K a.g_fedD ["board", "state"] []
  g_is_short : FunD K "is_short" "is_short" (defArgs s_g_is_short) (defBody s_g_is_short) (defScope s_g_is_short) [] [] (He.ga K "is_short") a.g_is_shortD
  g_is_short_b : Binds K a.g_is_shortD ["board", "state"] []
  g_changed_state : FunD K "changed_state" "changed_state" (defArgs s_g_changed_state) (defBody s_g_changed_state) (defScope s_g_changed_state) [] [] (He.ga K "changed_state") a.g_changed_stateD
  g_changed_state_b : Binds K a.g_changed_stateD ["one", "other", "state"] []
  l_changed : FunD K "_law_changed" "_law_changed" (defArgs s_l_changed) (defBody s_l_changed) (defScope s_l_changed) [] [] (He.ga K "_law_changed") a.l_changedD
  l_changed_b : Binds K a.l_changedD ["_law_one", "_law_other", "_law_state"] []
  l_law : FunD K "law" "law" (defArgs s_l_law) (defBody s_l_law) (defScope s_l_law) [] [] (He.ga K "law") a.l_lawD
  l_law_b : Binds K a.l_lawD ["_law_script"] []
  b_abs : mg "abs" = none
  b_all : mg "all" = none
  b_enumerate : mg "enumerate" = none
  b_int : mg "int" = none
  b_isinstance : mg "isinstance" = none
  b_len : mg "len" = none
  b_list : mg "list" = none
  b_max : mg "max" = none
  b_range : mg "range" = none
  b_str : mg "str" = none
  b_tuple : mg "tuple" = none
  b_zip : mg "zip" = none
  glo__law_row : mg "_law_row" = some (.ref (He.ga K "_law_row"))
  glo__law_numbers : mg "_law_numbers" = some (.ref (He.ga K "_law_numbers"))
  glo__law_pick : mg "_law_pick" = some (.ref (He.ga K "_law_pick"))
  glo__law_names : mg "_law_names" = some (.ref (He.ga K "_law_names"))
  glo__law_loads : mg "_law_loads" = some (.ref (He.ga K "_law_loads"))
  glo__law_contacts : mg "_law_contacts" = some (.ref (He.ga K "_law_contacts"))
  glo__law_spec : mg "_law_spec" = some (.ref (He.ga K "_law_spec"))
  glo__law_two : mg "_law_two" = some (.ref (He.ga K "_law_two"))
  glo__law_edges : mg "_law_edges" = some (.ref (He.ga K "_law_edges"))
  glo__law_reached : mg "_law_reached" = some (.ref (He.ga K "_law_reached"))
  glo__law_short : mg "_law_short" = some (.ref (He.ga K "_law_short"))
  glo_Board : mg "Board" = some (.ref (He.ga K "Board"))
  c_Board : Cls K (He.ga K "Board")
  i_MOST_NAME_CHARS : ∃ t, mg "MOST_NAME_CHARS" = some (.int (12) t)
  s_NAME_CHARS : ∃ t, mg "NAME_CHARS" = some (.str ("abcdefghijklmnopqrstuvwxyz0123456789" : Str) t)
  rd_Board : ClX.CRead K (He.ga K "Board") (.type "type")
  st_Board_is_name : SMet K (He.ga K "Board") (.type "type") "is_name" (methAt K "Board" "is_name") (statAt K "Board" "is_name")
  cv_Board_MOST_NODES : ∃ u, ClX.CVal K (He.ga K "Board") (.type "type") "MOST_NODES" (.int 16) u
  glo_are_names : mg "are_names" = some (.ref (He.ga K "are_names"))
  cv_Board_MOST_SWITCHES : ∃ u, ClX.CVal K (He.ga K "Board") (.type "type") "MOST_SWITCHES" (.int 6) u
  ex_InvalidBoard : PySem.W.excIn K (He.ga K "InvalidBoard") He.veBase "ValueError.__new__" = true ∧ PySem.W.keepIn K (.ref (He.ga K "InvalidBoard")) = true ∧ PySem.W.subIn K (.ref (He.ga K "InvalidBoard")) (.type "BaseException") = some true ∧ PySem.W.typeIn K (.ref (He.ga K "InvalidBoard")) = some (.type "type")
  glo_InvalidBoard : mg "InvalidBoard" = some (.ref (He.ga K "InvalidBoard"))
  cv_Board_MOST_RELAYS : ∃ u, ClX.CVal K (He.ga K "Board") (.type "type") "MOST_RELAYS" (.int 8) u
  cv_Board_MOST_LAMPS : ∃ u, ClX.CVal K (He.ga K "Board") (.type "type") "MOST_LAMPS" (.int 8) u
  glo_is_between : mg "is_between" = some (.ref (He.ga K "is_between"))
  glo_are_loads : mg "are_loads" = some (.ref (He.ga K "are_loads"))
  cv_Board_MOST_CONTACTS : ∃ u, ClX.CVal K (He.ga K "Board") (.type "type") "MOST_CONTACTS" (.int 40) u
  t_WHENS : ∀ H, SqT K H (He.ga K "WHENS") [.str ("make" : Str), .str ("break" : Str)]
  glo_WHENS : mg "WHENS" = some (.ref (He.ga K "WHENS"))
  t_WAYS : ∀ H, SqT K H (He.ga K "WAYS") [.str ("both" : Str), .str ("forward" : Str)]
  glo_WAYS : mg "WAYS" = some (.ref (He.ga K "WAYS"))
  glo_is_contact : mg "is_contact" = some (.ref (He.ga K "is_contact"))
  na_Board_contacts : NoAttr K (He.ga K "Board") "contacts"
  na_Board_lamps : NoAttr K (He.ga K "Board") "lamps"
  na_Board_relays : NoAttr K (He.ga K "Board") "relays"
  na_Board_switches : NoAttr K (He.ga K "Board") "switches"
  na_Board_nodes : NoAttr K (He.ga K "Board") "nodes"
  mk_Board : Mk K (He.ga K "Board") (methAt K "Board" "__init__")
  glo__law_board : mg "_law_board" = some (.ref (He.ga K "_law_board"))
  pr_Board_movers : PropOf K (He.ga K "Board") "movers" (methAt K "Board" "movers") (propAt K "Board" "movers")
  pr_Board_minus : PropOf K (He.ga K "Board") "minus" (methAt K "Board" "minus") (propAt K "Board" "minus")
  glo_closes : mg "closes" = some (.ref (He.ga K "closes"))
  glo_closed_contacts : mg "closed_contacts" = some (.ref (He.ga K "closed_contacts"))
  glo_paths : mg "paths" = some (.ref (He.ga K "paths"))
  pr_Board_plus : PropOf K (He.ga K "Board") "plus" (methAt K "Board" "plus") (propAt K "Board" "plus")
  glo_reached : mg "reached" = some (.ref (He.ga K "reached"))
  glo_fed : mg "fed" = some (.ref (He.ga K "fed"))
  glo_is_short : mg "is_short" = some (.ref (He.ga K "is_short"))
  glo_changed_state : mg "changed_state" = some (.ref (He.ga K "changed_state"))
  glo__law_changed : mg "_law_changed" = some (.ref (He.ga K "_law_changed"))
  glo_law : mg "law" = some (.ref (He.ga K "law"))
variable {P : Program} {w : World} {K : PySem.W.Frag} {mg : Str → Option Value} {base : Heap} {a : Fs}
theorem kb_g_Board_init_1 (T : Tx P K mg a) : ∃ mv : List Value, KBn K a.g_Board_initD ["self", "nodes", "lamps", "switches", "relays", "contacts"] 1 ["nodes", "switches", "relays", "lamps", "contacts"] (fun us ws => pick [(0, 0), (2, 0), (2, 3), (2, 1), (2, 2), (2, 4)] us mv ws) (fun vs zs => pick [(0, 0), (2, 0), (2, 3), (2, 1), (2, 2), (2, 4)] vs (([] : List (Str × V)).map (·.2)) zs) :=
  FunD.kbinds0 T.g_Board_init 1 ["nodes", "switches", "relays", "lamps", "contacts"] [] (pick [(0, 0), (2, 0), (2, 3), (2, 1), (2, 2), (2, 4)]) (by simp) (by simp) (fun h1 h2 h3 => pick_rel h1 h2 h3) (fun D doc pm an cdv ct us mv ws l1 l2 l3 => match us, mv, ws, l1, l2, l3 with
    | [_], [], [_, _, _, _, _], _, _, _ => rfl)
set_option maxHeartbeats 8000000 in
theorem ok_l_row (T : Tx P K mg a) : FnOk P w K mg base (L2.CX P w) 1 (He.ga K "_law_row") a.l_rowD ["_law_cell", "_law_many"] (spF K mg (.pr .int (.pr .int .nl)) (.o (.l (.d .int))) fun x => l_row x.1 x.2.1) := by
  refine fn_bodyD T.l_row sc_l_row rfl fun cdv A outer s H E hr tk po x => ?_
  have hN := sc_l_row.nd
  have hu := hr.units
  exact bs_cast (b_set (r := .o (.l (.d .int))) 2 (e_lst (n := 0) (hl := by decide) (el_nil (t := .int))) (.all rfl) (fun row_here_7 => b_set (r := .d .int) 3 (e_abs (hs := rfl) rfl T.b_abs (e_var 0 rfl (vL 0 rfl rfl rfl))) (.all rfl) (fun rest_8 => bs_seq (G := fun (s : ((List Int) × Int)) => [.d .int x.1, .d .int x.2.1, .o (.l (.d .int)) s.1, .d .int s.2, .no, .no]) (s1_for (hix := fun _ => all_ix rfl) (hs := fun _ => rfl) (t := .int) (G := fun (s : ((List Int) × Int)) => [.d .int x.1, .d .int x.2.1, .o (.l (.d .int)) s.1, .d .int s.2, .no, .no]) (s0 := (row_here_7, rest_8)) (f := (l_row_b1 x.1)) po rfl (is_ran (r_ran1 (hs := rfl) rfl T.b_range (e_var 1 rfl (vL 1 rfl rfl rfl)))) (g_nm 4 (pg_name hN rfl (.inl rfl) (.inr rfl))) (fun s9 k10 => bs_cast (bs_one (s1_if (t_c2 (hm := mark_of _ rfl) (c_ge (e_abs (hs := rfl) rfl T.b_abs (e_var 0 rfl (vL 0 rfl rfl rfl))) (e_pow e_int e_int))) (bs_app 2 (t := .int) (hbase := rfl) (hfew := rfl) (hline := rfl) (hs := rfl) (hpl := rfl) rfl (vL 2 rfl rfl rfl) (e_mod (e_intI (hs := rfl) rfl T.b_int (e_var 3 rfl (vL 3 rfl rfl rfl))) e_int) (.all rfl) (fun row_here_12 => b_set (r := .d .int) 3 (e_div (e_var 3 rfl (vL 3 rfl rfl rfl)) e_int) (.all rfl) (fun rest_13 => bs_nil (b := (row_here_12, rest_13)) rfl (.same (.same (.same (.same (.no (.same .nil))))))) hN rfl (.inl rfl) (.inr rfl) rfl rfl rfl)) (b_set (r := .d .int) 5 (e_mod (e_intI (hs := rfl) rfl T.b_int (e_add (e_mul (e_var 3 rfl (vL 3 rfl rfl rfl)) e_int) (e_mul (e_add (e_var 4 rfl (vL 4 rfl rfl rfl)) e_int) e_int))) e_int) (.all rfl) (fun mixed_18 => b_set (r := .d .int) 5 (e_mod (e_intI (hs := rfl) rfl T.b_int (e_add (e_mul (e_var 5 rfl (vL 5 rfl rfl rfl)) e_int) (e_mul e_int (e_add (e_var 4 rfl (vL 4 rfl rfl rfl)) e_int)))) e_int) (.all rfl) (fun mixed_22 => bs_app 2 (t := .int) (hbase := rfl) (hfew := rfl) (hline := rfl) (hs := rfl) (hpl := rfl) rfl (vL 2 rfl rfl rfl) (e_mod (e_intI (hs := rfl) rfl T.b_int (e_var 5 rfl (vL 5 rfl rfl rfl))) e_int) (.all rfl) (fun row_here_23 => bs_nil (b := (row_here_23, s9.2)) rfl (.same (.same (.same (.same (.no (.no .nil)))))))) hN rfl (.inl rfl) (.inr rfl) rfl rfl rfl) hN rfl (.inl rfl) (.inr rfl) rfl rfl rfl))) (by simp only [okb, exb, dputO_eq, l_row_b1] <;> rfl)) (.same (.same (.same (.same (.same (.same .nil))))))) (fun s26 => bs_retO 2 (b := s26.1) (hI := rfl) rfl (vL 2 rfl rfl rfl))) hN rfl (.inl rfl) (.inr rfl) rfl rfl rfl) hN rfl (.inl rfl) (.inr rfl) rfl rfl rfl) (by simp only [okb, exb, dputO_eq, l_row] <;> rfl)
set_option maxHeartbeats 8000000 in
theorem ok_l_numbers (T : Tx P K mg a) : FnOk P w K mg base (L2.CX P w) 2 (He.ga K "_law_numbers") a.l_numbersD ["_law_script", "_law_many"] (spF K mg (.pr .scr (.pr .int .nl)) (.o (.l (.d .int))) fun x => l_numbers x.1 x.2.1) := by
  refine fn_bodyD T.l_numbers sc_l_numbers rfl fun cdv A outer s H E hr tk po x => ?_
  have hN := sc_l_numbers.nd
  have hu := hr.units
  exact bs_cast (b_setF (o := .l (.d .int)) 2 (e_slScr (e_var 0 rfl (vL 0 rfl rfl rfl)) p_none (p_some e_int)) (.all rfl) (fun cells_1 => b_set (r := .d .int) 3 (e_add e_int (e_div (e_var 1 rfl (vL 1 rfl rfl rfl)) (e_max2 (hs := rfl) (hs2 := rfl) (hp := rfl) rfl rfl T.b_max e_int (e_lenL (hs := rfl) rfl T.b_len (e_var 2 rfl (vL 2 rfl rfl rfl)))))) (.all rfl) (fun each_3 => b_set (r := .o (.l (.d .int))) 4 (e_lst (n := 0) (hl := by decide) (el_nil (t := .int))) (.all rfl) (fun numbers_here_4 => bs_seq (G := fun (s : (List Int)) => [.d .scr x.1, .d .int x.2.1, .d (.list .int) cells_1, .d .int each_3, .o (.l (.d .int)) s, .no, .no]) (s1_for (hix := fun _ => all_ix rfl) (hs := fun _ => rfl) (t := .int) (G := fun (s : (List Int)) => [.d .scr x.1, .d .int x.2.1, .d (.list .int) cells_1, .d .int each_3, .o (.l (.d .int)) s, .no, .no]) (s0 := numbers_here_4) (f := (l_numbers_b1 each_3)) po rfl (is_hid (i_list (e_var 2 rfl (vL 2 rfl rfl rfl)))) (g_nm 5 (pg_name hN rfl (.inl rfl) (.inr rfl))) (fun s5 cell6 => bs_cast (bs_seq (G := fun (s : (List Int)) => [.d .scr x.1, .d .int x.2.1, .d (.list .int) cells_1, .d .int each_3, .o (.l (.d .int)) s, .d .int cell6, .no]) (s1_for (hix := fun _ => all_ix rfl) (hs := fun _ => rfl) (t := .int) (G := fun (s : (List Int)) => [.d .scr x.1, .d .int x.2.1, .d (.list .int) cells_1, .d .int each_3, .o (.l (.d .int)) s, .d .int cell6, .no]) (s0 := s5) (f := l_numbers_b2) po rfl (is_hid (i_list (e_frz (o := .l (.d .int)) (e_call (x := "_law_row") (hdb := rfl) (he := by rfl) (hpl := by rfl) (ok_l_row T) (hr.mono (by decide)) rfl T.glo__law_row T.l_row.kp T.l_row_b tk (ea_cons (hs := rfl) (e_var 5 rfl (vL 5 rfl rfl rfl)) (ea_cons (hs := rfl) (e_var 3 rfl (vL 3 rfl rfl rfl)) ea_nil)))))) (g_nm 6 (pg_name hN rfl (.inl rfl) (.inr rfl))) (fun s28 number29 => bs_cast (bs_app 4 (t := .int) (hbase := rfl) (hfew := rfl) (hline := rfl) (hs := rfl) (hpl := rfl) rfl (vL 4 rfl rfl rfl) (e_var 6 rfl (vL 6 rfl rfl rfl)) (.all rfl) (fun numbers_here_30 => bs_nil (b := numbers_here_30) rfl (.same (.same (.same (.same (.same (.same (.no .nil))))))))) (by simp only [okb, exb, dputO_eq, l_numbers_b2] <;> rfl)) (.same (.same (.same (.same (.same (.same (.same .nil)))))))) (fun s31 => bs_nil (b := s31) rfl (.same (.same (.same (.same (.same (.no (.same .nil))))))))) (by simp only [okb, exb, dputO_eq, l_numbers_b1] <;> rfl)) (.same (.same (.same (.same (.same (.same (.same .nil)))))))) (fun s33 => bs_seq (G := fun (s : (List Int)) => [.d .scr x.1, .d .int x.2.1, .d (.list .int) cells_1, .d .int each_3, .o (.l (.d .int)) s, .no, .no]) (s1_while (G := fun (s : (List Int)) => [.d .scr x.1, .d .int x.2.1, .d (.list .int) cells_1, .d .int each_3, .o (.l (.d .int)) s, .no, .no]) (s0 := s33) (mc := (l_numbers_b3c x.2.1)) (f := l_numbers_b3) fuel po (fun s34 => t_cast (t_c2 (hm := mark_of _ rfl) (c_lt (e_lenL (hs := rfl) rfl T.b_len (e_own 4 (o := .l (.d .int)) rfl (vL 4 rfl rfl rfl))) (e_var 1 rfl (vL 1 rfl rfl rfl)))) (by simp only [okb, exb, l_numbers_b3c] <;> rfl)) (fun s34 => bs_cast (bs_app 4 (t := .int) (hbase := rfl) (hfew := rfl) (hline := rfl) (hs := rfl) (hpl := rfl) rfl (vL 4 rfl rfl rfl) e_int (.all rfl) (fun numbers_here_35 => bs_nil (b := numbers_here_35) rfl (.same (.same (.same (.same (.same (.same (.same .nil))))))))) (by simp only [okb, exb, dputO_eq, l_numbers_b3] <;> rfl)) (.same (.same (.same (.same (.same (.same (.same .nil)))))))) (fun s36 => b_ret (r := .o (.l (.d .int))) (e_slL (e_own 4 (o := .l (.d .int)) rfl (vL 4 rfl rfl rfl)) p_none (p_some (e_var 1 rfl (vL 1 rfl rfl rfl)))) (.all rfl)))) hN rfl (.inl rfl) (.inr rfl) rfl rfl rfl) hN rfl (.inl rfl) (.inr rfl) rfl rfl rfl) hN rfl (.inl rfl) (.inr rfl) rfl rfl rfl) (by simp only [okb, exb, dputO_eq, l_numbers] <;> rfl)
set_option maxHeartbeats 8000000 in
theorem ok_l_names (T : Tx P K mg a) : FnOk P w K mg base (L2.CX P w) 1 (He.ga K "_law_names") a.l_namesD ["_law_number", "_law_many", "_law_turn"] (spF K mg (.pr .int (.pr .int (.pr .int .nl))) (.o (.l (.d .str))) fun x => l_names x.1 x.2.1 x.2.2.1) := by
  refine fn_bodyD T.l_names sc_l_names rfl fun cdv A outer s H E hr tk po x => ?_
  have hN := sc_l_names.nd
  have hu := hr.units
  exact bs_cast (b_set (r := .d .str) 3 (e_repS (e_strI rfl T.b_str (e_mod (e_intI (hs := rfl) rfl T.b_int (e_var 0 rfl (vL 0 rfl rfl rfl))) e_int) rfl) (e_intI (hs := rfl) rfl T.b_int (e_mod (e_div (e_var 0 rfl (vL 0 rfl rfl rfl)) e_int) e_int))) (.all rfl) (fun prefix__42 => b_set (r := .o (.l (.d .str))) 4 (e_lst (n := 0) (hl := by decide) (el_nil (t := .str))) (.all rfl) (fun names_here_43 => bs_seq (G := fun (s : (List Str)) => [.d .int x.1, .d .int x.2.1, .d .int x.2.2.1, .d .str prefix__42, .o (.l (.d .str)) s, .no, .no]) (s1_for (hix := fun _ => all_ix rfl) (hs := fun _ => rfl) (t := .int) (G := fun (s : (List Str)) => [.d .int x.1, .d .int x.2.1, .d .int x.2.2.1, .d .str prefix__42, .o (.l (.d .str)) s, .no, .no]) (s0 := names_here_43) (f := (l_names_b1 x.1 x.2.2.1 prefix__42)) po rfl (is_ran (r_ran1 (hs := rfl) rfl T.b_range (e_var 1 rfl (vL 1 rfl rfl rfl)))) (g_nm 5 (pg_name hN rfl (.inl rfl) (.inr rfl))) (fun s44 k45 => bs_cast (b_set (r := .d .str) 6 (e_ixS (hs := fun _ _ => rfl) e_str (e_mod (e_intI (hs := rfl) rfl T.b_int (e_add (e_var 5 rfl (vL 5 rfl rfl rfl)) (e_var 2 rfl (vL 2 rfl rfl rfl)))) e_int)) (.all rfl) (fun letter_47 => bs_one (s1_if (t_c2 (hm := mark_of _ rfl) (c_eq (t := .int) (ht := rfl) (hd := by decide) hu (e_mod (e_div (e_var 0 rfl (vL 0 rfl rfl rfl)) e_int) e_int) e_int)) (bs_app 4 (t := .str) (hbase := rfl) (hfew := rfl) (hline := rfl) (hs := rfl) (hpl := rfl) rfl (vL 4 rfl rfl rfl) (e_cat (e_var 6 rfl (vL 6 rfl rfl rfl)) (e_var 3 rfl (vL 3 rfl rfl rfl))) (.all rfl) (fun names_here_50 => bs_nil (b := names_here_50) rfl (.same (.same (.same (.same (.same (.no (.no .nil))))))))) (bs_app 4 (t := .str) (hbase := rfl) (hfew := rfl) (hline := rfl) (hs := rfl) (hpl := rfl) rfl (vL 4 rfl rfl rfl) (e_cat (e_var 3 rfl (vL 3 rfl rfl rfl)) (e_var 6 rfl (vL 6 rfl rfl rfl))) (.all rfl) (fun names_here_52 => bs_nil (b := names_here_52) rfl (.same (.same (.same (.same (.same (.no (.no .nil))))))))))) hN rfl (.inl rfl) (.inr rfl) rfl rfl rfl) (by simp only [okb, exb, dputO_eq, l_names_b1] <;> rfl)) (.same (.same (.same (.same (.same (.same (.same .nil)))))))) (fun s55 => bs_ifR (hI := fun _ => rfl) (t_c2 (hm := mark_of _ rfl) (c_eq (t := .int) (ht := rfl) (hd := by decide) hu (e_mod (e_intI (hs := rfl) rfl T.b_int (e_div (e_var 0 rfl (vL 0 rfl rfl rfl)) e_int)) e_int) e_int)) (b_ret (r := .o (.l (.d .str))) (e_revL (e_own 4 (o := .l (.d .str)) rfl (vL 4 rfl rfl rfl))) (.all rfl)) (bs_retO 4 (b := s55) (hI := rfl) rfl (vL 4 rfl rfl rfl)))) hN rfl (.inl rfl) (.inr rfl) rfl rfl rfl) hN rfl (.inl rfl) (.inr rfl) rfl rfl rfl) (by simp only [okb, exb, dputO_eq, l_names] <;> rfl)
set_option maxHeartbeats 8000000 in
theorem ok_l_pick (T : Tx P K mg a) : FnOk P w K mg base (L2.CX P w) 1 (He.ga K "_law_pick") a.l_pickD ["_law_numbers_here", "_law_at", "_law_most"] (spF K mg (.pr (.list .int) (.pr .int (.pr .int .nl))) (.d .int) fun x => l_pick x.1 x.2.1 x.2.2.1) := by
  refine fn_bodyD T.l_pick sc_l_pick rfl fun cdv A outer s H E hr tk po x => ?_
  have hN := sc_l_pick.nd
  have hu := hr.units
  exact bs_cast (b_ret (r := .d .int) (e_mod (e_intI (hs := rfl) rfl T.b_int (e_ixL (hs := fun _ _ => rfl) (e_var 0 rfl (vL 0 rfl rfl rfl)) (e_var 1 rfl (vL 1 rfl rfl rfl)))) (e_var 2 rfl (vL 2 rfl rfl rfl))) (.all rfl)) (by simp only [okb, exb, dputO_eq, l_pick] <;> rfl)
set_option maxHeartbeats 8000000 in
theorem ok_l_loads (T : Tx P K mg a) : FnOk P w K mg base (L2.CX P w) 1 (He.ga K "_law_loads") a.l_loadsD ["_law_numbers_here", "_law_at", "_law_names_here", "_law_nodes"] (spF K mg (.pr (.list .int) (.pr .int (.pr (.list .str) (.pr (.list .str) .nl)))) (.o (.l (.d (.tup (.pr .str (.pr .str .str)))))) fun x => l_loads x.1 x.2.1 x.2.2.1 x.2.2.2.1) := by
  refine fn_bodyD T.l_loads sc_l_loads rfl fun cdv A outer s H E hr tk po x => ?_
  have hN := sc_l_loads.nd
  have hu := hr.units
  exact bs_cast (b_set (r := .o (.l (.d (.tup (.pr .str (.pr .str .str)))))) 4 (e_lst (n := 0) (hl := by decide) (el_nil (t := (.tup (.pr .str (.pr .str .str)))))) (.all rfl) (fun loads_here_83 => bs_seq (G := fun (s : (List (Str × Str × Str))) => [.d (.list .int) x.1, .d .int x.2.1, .d (.list .str) x.2.2.1, .d (.list .str) x.2.2.2.1, .o (.l (.d (.tup (.pr .str (.pr .str .str))))) s, .no, .no, .no, .no]) (s1_for (hix := fun _ => all_ix rfl) (hs := fun _ => rfl) (t := .int) (G := fun (s : (List (Str × Str × Str))) => [.d (.list .int) x.1, .d .int x.2.1, .d (.list .str) x.2.2.1, .d (.list .str) x.2.2.2.1, .o (.l (.d (.tup (.pr .str (.pr .str .str))))) s, .no, .no, .no, .no]) (s0 := loads_here_83) (f := (l_loads_b1 x.1 x.2.1 x.2.2.1 x.2.2.2.1)) po rfl (is_ran (r_ran1 (hs := rfl) rfl T.b_range (e_lenL (hs := rfl) rfl T.b_len (e_var 2 rfl (vL 2 rfl rfl rfl))))) (g_nm 5 (pg_name hN rfl (.inl rfl) (.inr rfl))) (fun s84 k85 => bs_cast (b_set (r := .d .int) 6 (e_ixL (hs := fun _ _ => rfl) (e_var 0 rfl (vL 0 rfl rfl rfl)) (e_add (e_var 1 rfl (vL 1 rfl rfl rfl)) (e_var 5 rfl (vL 5 rfl rfl rfl)))) (.all rfl) (fun number_86 => b_set (r := .d .str) 7 (e_ixL (hs := fun _ _ => rfl) (e_var 3 rfl (vL 3 rfl rfl rfl)) (e_add e_int (e_mod (e_intI (hs := rfl) rfl T.b_int (e_var 6 rfl (vL 6 rfl rfl rfl))) (e_sub (e_lenL (hs := rfl) rfl T.b_len (e_var 3 rfl (vL 3 rfl rfl rfl))) e_int)))) (.all rfl) (fun near_89 => b_set (r := .d .str) 8 (e_ixL (hs := fun _ _ => rfl) (e_var 3 rfl (vL 3 rfl rfl rfl)) (e_sub e_int (e_intB (hs := rfl) rfl T.b_int (e_c2 (hm := mark_of _ rfl) (c_eq (t := .int) (ht := rfl) (hd := by decide) hu (e_mod (e_div (e_var 6 rfl (vL 6 rfl rfl rfl)) e_int) e_int) e_int))))) (.all rfl) (fun far_95 => bs_seq (G := fun (s : Str) => [.d (.list .int) x.1, .d .int x.2.1, .d (.list .str) x.2.2.1, .d (.list .str) x.2.2.2.1, .o (.l (.d (.tup (.pr .str (.pr .str .str))))) s84, .d .int k85, .d .int number_86, .d .str near_89, .d .str s]) (s1_if (t_c2 (hm := mark_of _ rfl) (c_eq (t := .int) (ht := rfl) (hd := by decide) hu (e_mod (e_div (e_var 6 rfl (vL 6 rfl rfl rfl)) e_int) e_int) e_int)) (b_set (r := .d .str) 8 (e_ixL (hs := fun _ _ => rfl) (e_var 3 rfl (vL 3 rfl rfl rfl)) (e_mod (e_intI (hs := rfl) rfl T.b_int (e_add e_int (e_mod (e_intI (hs := rfl) rfl T.b_int (e_var 6 rfl (vL 6 rfl rfl rfl))) (e_sub (e_lenL (hs := rfl) rfl T.b_len (e_var 3 rfl (vL 3 rfl rfl rfl))) e_int)))) (e_lenL (hs := rfl) rfl T.b_len (e_var 3 rfl (vL 3 rfl rfl rfl))))) (.all rfl) (fun far_101 => bs_nil (b := far_101) rfl (.same (.same (.same (.same (.same (.same (.same (.same (.same .nil)))))))))) hN rfl (.inl rfl) (.inr rfl) rfl rfl rfl) (bs_nil (b := far_95) rfl (.same (.same (.same (.same (.same (.same (.same (.same (.same .nil))))))))))) (fun s102 => bs_one (s1_if (t_c2 (hm := mark_of _ rfl) (c_eq (t := .int) (ht := rfl) (hd := by decide) hu (e_mod (e_div (e_var 6 rfl (vL 6 rfl rfl rfl)) e_int) e_int) e_int)) (bs_app 4 (t := (.tup (.pr .str (.pr .str .str)))) (hbase := rfl) (hfew := rfl) (hline := rfl) (hs := rfl) (hpl := rfl) rfl (vL 4 rfl rfl rfl) (e_tup (hl := rfl) (ea_cons (hs := rfl) (e_ixL (hs := fun _ _ => rfl) (e_var 2 rfl (vL 2 rfl rfl rfl)) (e_var 5 rfl (vL 5 rfl rfl rfl))) (ea_cons (hs := rfl) (e_var 8 rfl (vL 8 rfl rfl rfl)) (ea_one (hs := rfl) (e_var 7 rfl (vL 7 rfl rfl rfl)))))) (.all rfl) (fun loads_here_107 => bs_nil (b := loads_here_107) rfl (.same (.same (.same (.same (.same (.no (.no (.no (.no .nil))))))))))) (bs_app 4 (t := (.tup (.pr .str (.pr .str .str)))) (hbase := rfl) (hfew := rfl) (hline := rfl) (hs := rfl) (hpl := rfl) rfl (vL 4 rfl rfl rfl) (e_tup (hl := rfl) (ea_cons (hs := rfl) (e_ixL (hs := fun _ _ => rfl) (e_var 2 rfl (vL 2 rfl rfl rfl)) (e_var 5 rfl (vL 5 rfl rfl rfl))) (ea_cons (hs := rfl) (e_var 7 rfl (vL 7 rfl rfl rfl)) (ea_one (hs := rfl) (e_var 8 rfl (vL 8 rfl rfl rfl)))))) (.all rfl) (fun loads_here_110 => bs_nil (b := loads_here_110) rfl (.same (.same (.same (.same (.same (.no (.no (.no (.no .nil)))))))))))))) hN rfl (.inl rfl) (.inr rfl) rfl rfl rfl) hN rfl (.inl rfl) (.inr rfl) rfl rfl rfl) hN rfl (.inl rfl) (.inr rfl) rfl rfl rfl) (by simp only [okb, exb, dputO_eq, l_loads_b1] <;> rfl)) (.same (.same (.same (.same (.same (.same (.same (.same (.same .nil)))))))))) (fun s113 => bs_retO 4 (b := s113) (hI := rfl) rfl (vL 4 rfl rfl rfl))) hN rfl (.inl rfl) (.inr rfl) rfl rfl rfl) (by simp only [okb, exb, dputO_eq, l_loads] <;> rfl)
set_option maxHeartbeats 8000000 in
theorem ok_l_contacts (T : Tx P K mg a) : FnOk P w K mg base (L2.CX P w) 1 (He.ga K "_law_contacts") a.l_contactsD ["_law_numbers_here", "_law_at", "_law_many", "_law_nodes", "_law_movers"] (spF K mg (.pr (.list .int) (.pr .int (.pr .int (.pr (.list .str) (.pr (.list .str) .nl))))) (.o (.l (.d (.tup (.pr .str (.pr .str (.pr (.opt .str) (.pr .str .str)))))))) fun x => l_contacts x.1 x.2.1 x.2.2.1 x.2.2.2.1 x.2.2.2.2.1) := by
  refine fn_bodyD T.l_contacts sc_l_contacts rfl fun cdv A outer s H E hr tk po x => ?_
  have hN := sc_l_contacts.nd
  have hu := hr.units
  exact bs_cast (b_set (r := .o (.l (.d (.tup (.pr .str (.pr .str (.pr (.opt .str) (.pr .str .str)))))))) 5 (e_lst (n := 0) (hl := by decide) (el_nil (t := (.tup (.pr .str (.pr .str (.pr (.opt .str) (.pr .str .str)))))))) (.all rfl) (fun contacts_here_118 => bs_seq (G := fun (s : (List (Str × Str × (Option Str) × Str × Str))) => [.d (.list .int) x.1, .d .int x.2.1, .d .int x.2.2.1, .d (.list .str) x.2.2.2.1, .d (.list .str) x.2.2.2.2.1, .o (.l (.d (.tup (.pr .str (.pr .str (.pr (.opt .str) (.pr .str .str))))))) s, .no, .no, .no, .no, .no, .no, .no, .no]) (s1_for (hix := fun _ => all_ix rfl) (hs := fun _ => rfl) (t := .int) (G := fun (s : (List (Str × Str × (Option Str) × Str × Str))) => [.d (.list .int) x.1, .d .int x.2.1, .d .int x.2.2.1, .d (.list .str) x.2.2.2.1, .d (.list .str) x.2.2.2.2.1, .o (.l (.d (.tup (.pr .str (.pr .str (.pr (.opt .str) (.pr .str .str))))))) s, .no, .no, .no, .no, .no, .no, .no, .no]) (s0 := contacts_here_118) (f := (l_contacts_b1 x.1 x.2.1 x.2.2.2.1 x.2.2.2.2.1)) po rfl (is_ran (r_ran1 (hs := rfl) rfl T.b_range (e_var 2 rfl (vL 2 rfl rfl rfl)))) (g_nm 6 (pg_name hN rfl (.inl rfl) (.inr rfl))) (fun s119 k120 => bs_cast (b_set (r := .d .int) 7 (e_ixL (hs := fun _ _ => rfl) (e_var 0 rfl (vL 0 rfl rfl rfl)) (e_add (e_var 1 rfl (vL 1 rfl rfl rfl)) (e_mul e_int (e_var 6 rfl (vL 6 rfl rfl rfl))))) (.all rfl) (fun number_123 => b_set (r := .d .int) 8 e_int (.all rfl) (fun place_124 => bs_seq (G := fun (s : Int) => [.d (.list .int) x.1, .d .int x.2.1, .d .int x.2.2.1, .d (.list .str) x.2.2.2.1, .d (.list .str) x.2.2.2.2.1, .o (.l (.d (.tup (.pr .str (.pr .str (.pr (.opt .str) (.pr .str .str))))))) s119, .d .int k120, .d .int number_123, .d .int s, .no, .no, .no, .no, .no]) (s1_if (t_c2 (hm := mark_of _ rfl) (c_eq (t := .int) (ht := rfl) (hd := by decide) hu (e_mod (e_div (e_var 7 rfl (vL 7 rfl rfl rfl)) e_int) e_int) e_int)) (b_set (r := .d .int) 8 (e_mod (e_intI (hs := rfl) rfl T.b_int (e_div (e_var 7 rfl (vL 7 rfl rfl rfl)) e_int)) (e_lenL (hs := rfl) rfl T.b_len (e_var 3 rfl (vL 3 rfl rfl rfl)))) (.all rfl) (fun place_128 => bs_nil (b := place_128) rfl (.same (.same (.same (.same (.same (.same (.same (.same (.same (.same (.same (.same (.same (.same .nil))))))))))))))) hN rfl (.inl rfl) (.inr rfl) rfl rfl rfl) (bs_nil (b := place_124) rfl (.same (.same (.same (.same (.same (.same (.same (.same (.same (.same (.same (.same (.same (.same .nil)))))))))))))))) (fun s129 => b_set (r := .d .int) 9 (e_mod (e_intI (hs := rfl) rfl T.b_int (e_add (e_add (e_var 8 rfl (vL 8 rfl rfl rfl)) e_int) (e_mod (e_div (e_var 7 rfl (vL 7 rfl rfl rfl)) e_int) (e_sub (e_lenL (hs := rfl) rfl T.b_len (e_var 3 rfl (vL 3 rfl rfl rfl))) e_int)))) (e_lenL (hs := rfl) rfl T.b_len (e_var 3 rfl (vL 3 rfl rfl rfl)))) (.all rfl) (fun other_134 => b_set (r := .d .int) 10 (e_ixL (hs := fun _ _ => rfl) (e_var 0 rfl (vL 0 rfl rfl rfl)) (e_add (e_add (e_var 1 rfl (vL 1 rfl rfl rfl)) (e_mul e_int (e_var 6 rfl (vL 6 rfl rfl rfl)))) e_int)) (.all rfl) (fun choice_138 => b_set (r := .d (.opt .str)) 11 e_noneO (.all rfl) (fun mover_139 => b_set (r := .d .str) 12 e_str (.all rfl) (fun when_140 => bs_seq (G := fun (s : ((Option Str) × Str)) => [.d (.list .int) x.1, .d .int x.2.1, .d .int x.2.2.1, .d (.list .str) x.2.2.2.1, .d (.list .str) x.2.2.2.2.1, .o (.l (.d (.tup (.pr .str (.pr .str (.pr (.opt .str) (.pr .str .str))))))) s119, .d .int k120, .d .int number_123, .d .int s129, .d .int other_134, .d .int choice_138, .d (.opt .str) s.1, .d .str s.2, .no]) (s1_if (t_w (w_and (t_c2 (hm := mark_of _ rfl) (c_gt (e_lenL (hs := rfl) rfl T.b_len (e_var 4 rfl (vL 4 rfl rfl rfl))) e_int)) (w_and1 (t_c2 (hm := mark_of _ rfl) (c_gt (e_mod (e_var 10 rfl (vL 10 rfl rfl rfl)) e_int) e_int))))) (b_set (r := .d (.opt .str)) 11 (e_some rfl (e_ixL (hs := fun _ _ => rfl) (e_var 4 rfl (vL 4 rfl rfl rfl)) (e_mod (e_intI (hs := rfl) rfl T.b_int (e_var 10 rfl (vL 10 rfl rfl rfl))) (e_lenL (hs := rfl) rfl T.b_len (e_var 4 rfl (vL 4 rfl rfl rfl)))))) (.all rfl) (fun mover_144 => b_set (r := .d .str) 12 (by exact e_ixL (hs := fun _ _ => rfl) (e_frz (o := .l (.d .str)) (e_lst (n := 2) (hl := by decide) (el_cons (hs := rfl) e_str (el_cons (hs := rfl) e_str (el_nil (t := .str)))))) (e_mod (e_intI (hs := rfl) rfl T.b_int (e_div (e_var 10 rfl (vL 10 rfl rfl rfl)) e_int)) e_int)) (.all rfl) (fun when_147 => bs_nil (b := (mover_144, when_147)) rfl (.same (.same (.same (.same (.same (.same (.same (.same (.same (.same (.same (.same (.same (.same .nil))))))))))))))) hN rfl (.inl rfl) (.inr rfl) rfl rfl rfl) hN rfl (.inl rfl) (.inr rfl) rfl rfl rfl) (bs_nil (b := (mover_139, when_140)) rfl (.same (.same (.same (.same (.same (.same (.same (.same (.same (.same (.same (.same (.same (.same .nil)))))))))))))))) (fun s148 => b_set (r := .d .str) 13 (by exact e_ixL (hs := fun _ _ => rfl) (e_frz (o := .l (.d .str)) (e_lst (n := 3) (hl := by decide) (el_cons (hs := rfl) e_str (el_cons (hs := rfl) e_str (el_cons (hs := rfl) e_str (el_nil (t := .str))))))) (e_mod (e_intI (hs := rfl) rfl T.b_int (e_div (e_var 10 rfl (vL 10 rfl rfl rfl)) e_int)) e_int)) (.all rfl) (fun way_152 => bs_app 5 (t := (.tup (.pr .str (.pr .str (.pr (.opt .str) (.pr .str .str)))))) (hbase := rfl) (hfew := rfl) (hline := rfl) (hs := rfl) (hpl := rfl) rfl (vL 5 rfl rfl rfl) (e_tup (hl := rfl) (ea_cons (hs := rfl) (e_ixL (hs := fun _ _ => rfl) (e_var 3 rfl (vL 3 rfl rfl rfl)) (e_var 8 rfl (vL 8 rfl rfl rfl))) (ea_cons (hs := rfl) (e_ixL (hs := fun _ _ => rfl) (e_var 3 rfl (vL 3 rfl rfl rfl)) (e_var 9 rfl (vL 9 rfl rfl rfl))) (ea_cons (hs := rfl) (e_var 11 rfl (vL 11 rfl rfl rfl)) (ea_cons (hs := rfl) (e_var 12 rfl (vL 12 rfl rfl rfl)) (ea_one (hs := rfl) (e_var 13 rfl (vL 13 rfl rfl rfl)))))))) (.all rfl) (fun contacts_here_156 => bs_nil (b := contacts_here_156) rfl (.same (.same (.same (.same (.same (.same (.no (.no (.no (.no (.no (.no (.no (.no .nil)))))))))))))))) hN rfl (.inl rfl) (.inr rfl) rfl rfl rfl)) hN rfl (.inl rfl) (.inr rfl) rfl rfl rfl) hN rfl (.inl rfl) (.inr rfl) rfl rfl rfl) hN rfl (.inl rfl) (.inr rfl) rfl rfl rfl) hN rfl (.inl rfl) (.inr rfl) rfl rfl rfl)) hN rfl (.inl rfl) (.inr rfl) rfl rfl rfl) hN rfl (.inl rfl) (.inr rfl) rfl rfl rfl) (by simp only [okb, exb, dputO_eq, l_contacts_b1] <;> rfl)) (.same (.same (.same (.same (.same (.same (.same (.same (.same (.same (.same (.same (.same (.same .nil))))))))))))))) (fun s158 => bs_retO 5 (b := s158) (hI := rfl) rfl (vL 5 rfl rfl rfl))) hN rfl (.inl rfl) (.inr rfl) rfl rfl rfl) (by simp only [okb, exb, dputO_eq, l_contacts] <;> rfl)
set_option maxHeartbeats 8000000 in
theorem ok_l_spec (T : Tx P K mg a) : FnOk P w K mg base (L2.CX P w) 2 (He.ga K "_law_spec") a.l_specD ["_law_numbers_here", "_law_at", "_law_switches", "_law_lamps", "_law_most"] (spF K mg (.pr (.list .int) (.pr .int (.pr (.list .str) (.pr (.list .str) (.pr .int .nl))))) (.d (.tup (.pr (.list .str) (.pr (.list .str) (.pr (.list (.tup (.pr .str (.pr .str .str)))) (.pr (.list (.tup (.pr .str (.pr .str .str)))) (.list (.tup (.pr .str (.pr .str (.pr (.opt .str) (.pr .str .str)))))))))))) fun x => l_spec x.1 x.2.1 x.2.2.1 x.2.2.2.1 x.2.2.2.2.1) := by
  refine fn_bodyD T.l_spec sc_l_spec rfl fun cdv A outer s H E hr tk po x => ?_
  have hN := sc_l_spec.nd
  have hu := hr.units
  exact bs_cast (b_setF (o := .l (.d .str)) 5 (e_call (x := "_law_names") (hdb := rfl) (he := by rfl) (hpl := by rfl) (ok_l_names T) (hr.mono (by decide)) rfl T.glo__law_names T.l_names.kp T.l_names_b tk (ea_cons (hs := rfl) (e_ixL (hs := fun _ _ => rfl) (e_var 0 rfl (vL 0 rfl rfl rfl)) (e_var 1 rfl (vL 1 rfl rfl rfl))) (ea_cons (hs := rfl) (e_add e_int (e_call (x := "_law_pick") (hdb := rfl) (he := by rfl) (hpl := by rfl) (ok_l_pick T) (hr.mono (by decide)) rfl T.glo__law_pick T.l_pick.kp T.l_pick_b tk (ea_cons (hs := rfl) (e_var 0 rfl (vL 0 rfl rfl rfl)) (ea_cons (hs := rfl) (e_add (e_var 1 rfl (vL 1 rfl rfl rfl)) e_int) (ea_cons (hs := rfl) e_int ea_nil))))) (ea_cons (hs := rfl) e_int ea_nil)))) (.all rfl) (fun nodes_77 => b_setF (o := .l (.d .str)) 6 (e_call (x := "_law_names") (hdb := rfl) (he := by rfl) (hpl := by rfl) (ok_l_names T) (hr.mono (by decide)) rfl T.glo__law_names T.l_names.kp T.l_names_b tk (ea_cons (hs := rfl) (e_ixL (hs := fun _ _ => rfl) (e_var 0 rfl (vL 0 rfl rfl rfl)) (e_add (e_var 1 rfl (vL 1 rfl rfl rfl)) e_int)) (ea_cons (hs := rfl) (e_call (x := "_law_pick") (hdb := rfl) (he := by rfl) (hpl := by rfl) (ok_l_pick T) (hr.mono (by decide)) rfl T.glo__law_pick T.l_pick.kp T.l_pick_b tk (ea_cons (hs := rfl) (e_var 0 rfl (vL 0 rfl rfl rfl)) (ea_cons (hs := rfl) (e_add (e_var 1 rfl (vL 1 rfl rfl rfl)) e_int) (ea_cons (hs := rfl) (e_add (e_var 4 rfl (vL 4 rfl rfl rfl)) e_int) ea_nil)))) (ea_cons (hs := rfl) e_int ea_nil)))) (.all rfl) (fun relays_82 => b_setF (o := .l (.d (.tup (.pr .str (.pr .str .str))))) 7 (e_call (x := "_law_loads") (hdb := rfl) (he := by rfl) (hpl := by rfl) (ok_l_loads T) (hr.mono (by decide)) rfl T.glo__law_loads T.l_loads.kp T.l_loads_b tk (ea_cons (hs := rfl) (e_var 0 rfl (vL 0 rfl rfl rfl)) (ea_cons (hs := rfl) (e_add (e_var 1 rfl (vL 1 rfl rfl rfl)) e_int) (ea_cons (hs := rfl) (e_var 6 rfl (vL 6 rfl rfl rfl)) (ea_cons (hs := rfl) (e_var 5 rfl (vL 5 rfl rfl rfl)) ea_nil))))) (.all rfl) (fun loads_here_115 => b_setF (o := .l (.d (.tup (.pr .str (.pr .str .str))))) 8 (e_call (x := "_law_loads") (hdb := rfl) (he := by rfl) (hpl := by rfl) (ok_l_loads T) (hr.mono (by decide)) rfl T.glo__law_loads T.l_loads.kp T.l_loads_b tk (ea_cons (hs := rfl) (e_var 0 rfl (vL 0 rfl rfl rfl)) (ea_cons (hs := rfl) (e_add (e_var 1 rfl (vL 1 rfl rfl rfl)) e_int) (ea_cons (hs := rfl) (e_var 3 rfl (vL 3 rfl rfl rfl)) (ea_cons (hs := rfl) (e_var 5 rfl (vL 5 rfl rfl rfl)) ea_nil))))) (.all rfl) (fun shown_116 => b_set (r := .d .int) 9 (e_call (x := "_law_pick") (hdb := rfl) (he := by rfl) (hpl := by rfl) (ok_l_pick T) (hr.mono (by decide)) rfl T.glo__law_pick T.l_pick.kp T.l_pick_b tk (ea_cons (hs := rfl) (e_var 0 rfl (vL 0 rfl rfl rfl)) (ea_cons (hs := rfl) (e_add (e_var 1 rfl (vL 1 rfl rfl rfl)) e_int) (ea_cons (hs := rfl) e_int ea_nil)))) (.all rfl) (fun many_117 => b_setF (o := .l (.d (.tup (.pr .str (.pr .str (.pr (.opt .str) (.pr .str .str))))))) 10 (e_call (x := "_law_contacts") (hdb := rfl) (he := by rfl) (hpl := by rfl) (ok_l_contacts T) (hr.mono (by decide)) rfl T.glo__law_contacts T.l_contacts.kp T.l_contacts_b tk (ea_cons (hs := rfl) (e_var 0 rfl (vL 0 rfl rfl rfl)) (ea_cons (hs := rfl) (e_add (e_var 1 rfl (vL 1 rfl rfl rfl)) e_int) (ea_cons (hs := rfl) (e_var 9 rfl (vL 9 rfl rfl rfl)) (ea_cons (hs := rfl) (e_var 5 rfl (vL 5 rfl rfl rfl)) (ea_cons (hs := rfl) (e_frz (o := .l (.d .str)) (e_catL (e_var 2 rfl (vL 2 rfl rfl rfl)) (e_var 6 rfl (vL 6 rfl rfl rfl)))) ea_nil)))))) (.all rfl) (fun contacts_here_166 => b_ret (r := .d (.tup (.pr (.list .str) (.pr (.list .str) (.pr (.list (.tup (.pr .str (.pr .str .str)))) (.pr (.list (.tup (.pr .str (.pr .str .str)))) (.list (.tup (.pr .str (.pr .str (.pr (.opt .str) (.pr .str .str)))))))))))) (e_tup (hl := rfl) (ea_cons (hs := rfl) (e_var 5 rfl (vL 5 rfl rfl rfl)) (ea_cons (hs := rfl) (e_frz (o := .l (.d .str)) (e_listL (t := .str) (hs := rfl) rfl T.b_list (e_var 2 rfl (vL 2 rfl rfl rfl)))) (ea_cons (hs := rfl) (e_var 7 rfl (vL 7 rfl rfl rfl)) (ea_cons (hs := rfl) (e_var 8 rfl (vL 8 rfl rfl rfl)) (ea_one (hs := rfl) (e_var 10 rfl (vL 10 rfl rfl rfl)))))))) .hid) hN rfl (.inl rfl) (.inr rfl) rfl rfl rfl) hN rfl (.inl rfl) (.inr rfl) rfl rfl rfl) hN rfl (.inl rfl) (.inr rfl) rfl rfl rfl) hN rfl (.inl rfl) (.inr rfl) rfl rfl rfl) hN rfl (.inl rfl) (.inr rfl) rfl rfl rfl) hN rfl (.inl rfl) (.inr rfl) rfl rfl rfl) (by simp only [okb, exb, dputO_eq, l_spec] <;> rfl)
def l_two_c10 (a_numbers_here : (List Int)) (switches_65 : (List Str)) (lamps_71 : (List Str)) (one_167 : ((List Str) × (List Str) × (List (Str × Str × Str)) × (List (Str × Str × Str)) × (List (Str × Str × (Option Str) × Str × Str)))) (choice_169 : Int) (place_171 : Int) (s201 : ((List Str) × (List Str) × (List (Str × Str × Str)) × (List (Str × Str × Str)) × (List (Str × Str × (Option Str) × Str × Str)))) : Mx (((List Str) × (List Str) × (List (Str × Str × Str)) × (List (Str × Str × Str)) × (List (Str × Str × (Option Str) × Str × Str))) × ((List Str) × (List Str) × (List (Str × Str × Str)) × (List (Str × Str × Str)) × (List (Str × Str × (Option Str) × Str × Str)))) :=
  ((if (decide (choice_169 = (4 : Int))) then if (decide ((0 : Int) < (one_167.2.2.1.length : Int))) then .ok (decide ((0 : Int) < (s201.2.2.1.length : Int))) else .ok false else .ok false) >>= fun v235 => if v235 then (((((ofO (atI one_167.2.2.1 (0 : Int))) >>= fun v203 => .ok v203.1) >>= fun v208 => (((ofO (atI s201.2.2.1 (0 : Int))) >>= fun v204 => .ok v204.2.1) >>= fun v206 => ((ofO (atI s201.2.2.1 (0 : Int))) >>= fun v205 => .ok v205.2.2) >>= fun v207 => .ok (v206, v207)) >>= fun v209 => .ok (v208, v209)) >>= fun v210 => .ok (v210 :: ([] : List (Str × Str × Str)))) >>= fun v211 => ofO (catL v211 (cut s201.2.2.1 (some (1 : Int)) none))) >>= fun relays_212 => (.ok ([] : List (Str × Str × (Option Str) × Str × Str))) >>= fun moved_213 => (loopS s201.2.2.2.2 moved_213 (l_two_b1 one_167 s201)) >>= fun s226 => (((ofO (atI one_167.2.2.1 (0 : Int))) >>= fun v227 => .ok v227.1) >>= fun v230 => ((compO (cut s201.2.2.1 (some (1 : Int)) none) (compF (fun relay228 => .ok true) (fun relay228 => .ok relay228.1))) >>= fun v229 => ofO (catL v229 s201.2.1)) >>= fun v231 => .ok (!decide (v230 ∈ v231))) >>= fun v233 => if v233 then (.ok (s201.1, (s201.2.1, (relays_212, (s201.2.2.2.1, s226))))) >>= fun other_232 => .ok other_232 else .ok s201 else .ok s201 : Mx ((List Str) × (List Str) × (List (Str × Str × Str)) × (List (Str × Str × Str)) × (List (Str × Str × (Option Str) × Str × Str)))) >>= fun s234 => .ok (one_167, s234)
set_option maxHeartbeats 8000000 in
theorem cut_l_two_c10 (T : Tx P K mg a) (a_numbers_here : (List Int)) (switches_65 : (List Str)) (lamps_71 : (List Str)) (one_167 : ((List Str) × (List Str) × (List (Str × Str × Str)) × (List (Str × Str × Str)) × (List (Str × Str × (Option Str) × Str × Str)))) (choice_169 : Int) (place_171 : Int) (s201 : ((List Str) × (List Str) × (List (Str × Str × Str)) × (List (Str × Str × Str)) × (List (Str × Str × (Option Str) × Str × Str)))) : CutB P w K mg base N_l_two "_law_two" s_l_two (He.ga K "_law_two") 2 [] [.d (.list .int) a_numbers_here, .d (.list .str) switches_65, .d (.list .str) lamps_71, .d (.tup (.pr (.list .str) (.pr (.list .str) (.pr (.list (.tup (.pr .str (.pr .str .str)))) (.pr (.list (.tup (.pr .str (.pr .str .str)))) (.list (.tup (.pr .str (.pr .str (.pr (.opt .str) (.pr .str .str))))))))))) one_167, .d (.tup (.pr (.list .str) (.pr (.list .str) (.pr (.list (.tup (.pr .str (.pr .str .str)))) (.pr (.list (.tup (.pr .str (.pr .str .str)))) (.list (.tup (.pr .str (.pr .str (.pr (.opt .str) (.pr .str .str))))))))))) s201, .d .int choice_169, .no, .d .int place_171, .no, .no, .no, .no, .no, .no] 10 (l_two_c10 a_numbers_here switches_65 lamps_71 one_167 choice_169 place_171 s201) (fun y => .rt (.d (.tup (.pr (.tup (.pr (.list .str) (.pr (.list .str) (.pr (.list (.tup (.pr .str (.pr .str .str)))) (.pr (.list (.tup (.pr .str (.pr .str .str)))) (.list (.tup (.pr .str (.pr .str (.pr (.opt .str) (.pr .str .str))))))))))) (.tup (.pr (.list .str) (.pr (.list .str) (.pr (.list (.tup (.pr .str (.pr .str .str)))) (.pr (.list (.tup (.pr .str (.pr .str .str)))) (.list (.tup (.pr .str (.pr .str (.pr (.opt .str) (.pr .str .str)))))))))))))) y) := by
  intro cdv A outer s H E hr tk po
  have hN := sc_l_two.nd
  have hu := hr.units
  exact bs_cast (bs_seq (G := fun (s : ((List Str) × (List Str) × (List (Str × Str × Str)) × (List (Str × Str × Str)) × (List (Str × Str × (Option Str) × Str × Str)))) => [.d (.list .int) a_numbers_here, .d (.list .str) switches_65, .d (.list .str) lamps_71, .d (.tup (.pr (.list .str) (.pr (.list .str) (.pr (.list (.tup (.pr .str (.pr .str .str)))) (.pr (.list (.tup (.pr .str (.pr .str .str)))) (.list (.tup (.pr .str (.pr .str (.pr (.opt .str) (.pr .str .str))))))))))) one_167, .d (.tup (.pr (.list .str) (.pr (.list .str) (.pr (.list (.tup (.pr .str (.pr .str .str)))) (.pr (.list (.tup (.pr .str (.pr .str .str)))) (.list (.tup (.pr .str (.pr .str (.pr (.opt .str) (.pr .str .str))))))))))) s, .d .int choice_169, .no, .d .int place_171, .no, .no, .no, .no, .no, .no]) (s1_if (t_w (w_and (t_c2 (hm := mark_of _ rfl) (c_eq (t := .int) (ht := rfl) (hd := by decide) hu (e_var 5 rfl (vL 5 rfl rfl rfl)) e_int)) (w_and (t_c2 (hm := mark_of _ rfl) (c_gt (e_lenL (hs := rfl) rfl T.b_len (e_fld (hi := rfl) (hs := fun _ _ => rfl) (e_var 3 rfl (vL 3 rfl rfl rfl)) (.tl (.tl .hd)))) e_int)) (w_and1 (t_c2 (hm := mark_of _ rfl) (c_gt (e_lenL (hs := rfl) rfl T.b_len (e_fld (hi := rfl) (hs := fun _ _ => rfl) (e_var 4 rfl (vL 4 rfl rfl rfl)) (.tl (.tl .hd)))) e_int)))))) (b_setF (o := .l (.d (.tup (.pr .str (.pr .str .str))))) 9 (e_catL (e_frz (o := .l (.d (.tup (.pr .str (.pr .str .str))))) (e_lst (n := 1) (hl := by decide) (el_cons (hs := rfl) (e_tup (hl := rfl) (ea_cons (hs := rfl) (e_fld (hi := rfl) (hs := fun _ _ => rfl) (e_ixL (hs := fun _ _ => rfl) (e_fld (hi := rfl) (hs := fun _ _ => rfl) (e_var 3 rfl (vL 3 rfl rfl rfl)) (.tl (.tl .hd))) e_int) .hd) (ea_cons (hs := rfl) (e_fld (hi := rfl) (hs := fun _ _ => rfl) (e_ixL (hs := fun _ _ => rfl) (e_fld (hi := rfl) (hs := fun _ _ => rfl) (e_var 4 rfl (vL 4 rfl rfl rfl)) (.tl (.tl .hd))) e_int) (.tl .hd)) (ea_one (hs := rfl) (e_fld (hi := rfl) (hs := fun _ _ => rfl) (e_ixL (hs := fun _ _ => rfl) (e_fld (hi := rfl) (hs := fun _ _ => rfl) (e_var 4 rfl (vL 4 rfl rfl rfl)) (.tl (.tl .hd))) e_int) (.tl (.tl (.last rfl)))))))) (el_nil (t := (.tup (.pr .str (.pr .str .str)))))))) (e_frz (o := .l (.d (.tup (.pr .str (.pr .str .str))))) (e_slL (e_fld (hi := rfl) (hs := fun _ _ => rfl) (e_var 4 rfl (vL 4 rfl rfl rfl)) (.tl (.tl .hd))) (p_some e_int) p_none))) (.all rfl) (fun relays_212 => b_set (r := .o (.l (.d (.tup (.pr .str (.pr .str (.pr (.opt .str) (.pr .str .str)))))))) 10 (e_lst (n := 0) (hl := by decide) (el_nil (t := (.tup (.pr .str (.pr .str (.pr (.opt .str) (.pr .str .str)))))))) (.all rfl) (fun moved_213 => bs_seq (G := fun (s : (List (Str × Str × (Option Str) × Str × Str))) => [.d (.list .int) a_numbers_here, .d (.list .str) switches_65, .d (.list .str) lamps_71, .d (.tup (.pr (.list .str) (.pr (.list .str) (.pr (.list (.tup (.pr .str (.pr .str .str)))) (.pr (.list (.tup (.pr .str (.pr .str .str)))) (.list (.tup (.pr .str (.pr .str (.pr (.opt .str) (.pr .str .str))))))))))) one_167, .d (.tup (.pr (.list .str) (.pr (.list .str) (.pr (.list (.tup (.pr .str (.pr .str .str)))) (.pr (.list (.tup (.pr .str (.pr .str .str)))) (.list (.tup (.pr .str (.pr .str (.pr (.opt .str) (.pr .str .str))))))))))) s201, .d .int choice_169, .no, .d .int place_171, .no, .d (.list (.tup (.pr .str (.pr .str .str)))) relays_212, .o (.l (.d (.tup (.pr .str (.pr .str (.pr (.opt .str) (.pr .str .str))))))) s, .no, .no, .no]) (s1_for (hix := fun _ => all_ix rfl) (hs := fun _ => rfl) (t := (.tup (.pr .str (.pr .str (.pr (.opt .str) (.pr .str .str)))))) (G := fun (s : (List (Str × Str × (Option Str) × Str × Str))) => [.d (.list .int) a_numbers_here, .d (.list .str) switches_65, .d (.list .str) lamps_71, .d (.tup (.pr (.list .str) (.pr (.list .str) (.pr (.list (.tup (.pr .str (.pr .str .str)))) (.pr (.list (.tup (.pr .str (.pr .str .str)))) (.list (.tup (.pr .str (.pr .str (.pr (.opt .str) (.pr .str .str))))))))))) one_167, .d (.tup (.pr (.list .str) (.pr (.list .str) (.pr (.list (.tup (.pr .str (.pr .str .str)))) (.pr (.list (.tup (.pr .str (.pr .str .str)))) (.list (.tup (.pr .str (.pr .str (.pr (.opt .str) (.pr .str .str))))))))))) s201, .d .int choice_169, .no, .d .int place_171, .no, .d (.list (.tup (.pr .str (.pr .str .str)))) relays_212, .o (.l (.d (.tup (.pr .str (.pr .str (.pr (.opt .str) (.pr .str .str))))))) s, .no, .no, .no]) (s0 := moved_213) (f := (l_two_b1 one_167 s201)) po rfl (is_hid (i_list (e_fld (hi := rfl) (hs := fun _ _ => rfl) (e_var 4 rfl (vL 4 rfl rfl rfl)) (.tl (.tl (.tl (.tl (.last rfl)))))))) (g_nm 11 (pg_name hN rfl (.inl rfl) (.inr rfl))) (fun s214 row_here215 => bs_cast (b_set (r := .d (.opt .str)) 12 (e_fld (hi := rfl) (hs := fun _ _ => rfl) (e_var 11 rfl (vL 11 rfl rfl rfl)) (.tl (.tl .hd))) (.all rfl) (fun mover_216 => bs_seq (G := fun (s : (Option Str)) => [.d (.list .int) a_numbers_here, .d (.list .str) switches_65, .d (.list .str) lamps_71, .d (.tup (.pr (.list .str) (.pr (.list .str) (.pr (.list (.tup (.pr .str (.pr .str .str)))) (.pr (.list (.tup (.pr .str (.pr .str .str)))) (.list (.tup (.pr .str (.pr .str (.pr (.opt .str) (.pr .str .str))))))))))) one_167, .d (.tup (.pr (.list .str) (.pr (.list .str) (.pr (.list (.tup (.pr .str (.pr .str .str)))) (.pr (.list (.tup (.pr .str (.pr .str .str)))) (.list (.tup (.pr .str (.pr .str (.pr (.opt .str) (.pr .str .str))))))))))) s201, .d .int choice_169, .no, .d .int place_171, .no, .d (.list (.tup (.pr .str (.pr .str .str)))) relays_212, .o (.l (.d (.tup (.pr .str (.pr .str (.pr (.opt .str) (.pr .str .str))))))) s214, .d (.tup (.pr .str (.pr .str (.pr (.opt .str) (.pr .str .str))))) row_here215, .d (.opt .str) s, .no]) (s1_if (t_c2 (hm := mark_of _ rfl) (c_eq (t := (.opt .str)) (ht := rfl) (hd := by decide) hu (e_var 12 rfl (vL 12 rfl rfl rfl)) (e_some rfl (e_fld (hi := rfl) (hs := fun _ _ => rfl) (e_ixL (hs := fun _ _ => rfl) (e_fld (hi := rfl) (hs := fun _ _ => rfl) (e_var 4 rfl (vL 4 rfl rfl rfl)) (.tl (.tl .hd))) e_int) .hd)))) (b_set (r := .d (.opt .str)) 12 (e_some rfl (e_fld (hi := rfl) (hs := fun _ _ => rfl) (e_ixL (hs := fun _ _ => rfl) (e_fld (hi := rfl) (hs := fun _ _ => rfl) (e_var 3 rfl (vL 3 rfl rfl rfl)) (.tl (.tl .hd))) e_int) .hd)) (.all rfl) (fun mover_222 => bs_nil (b := mover_222) rfl (.same (.same (.same (.same (.same (.same (.same (.same (.same (.same (.same (.same (.same (.same .nil))))))))))))))) hN rfl (.inl rfl) (.inr rfl) rfl rfl rfl) (bs_nil (b := mover_216) rfl (.same (.same (.same (.same (.same (.same (.same (.same (.same (.same (.same (.same (.same (.same .nil)))))))))))))))) (fun s223 => bs_app 10 (t := (.tup (.pr .str (.pr .str (.pr (.opt .str) (.pr .str .str)))))) (hbase := rfl) (hfew := rfl) (hline := rfl) (hs := rfl) (hpl := rfl) rfl (vL 10 rfl rfl rfl) (e_tup (hl := rfl) (ea_cons (hs := rfl) (e_fld (hi := rfl) (hs := fun _ _ => rfl) (e_var 11 rfl (vL 11 rfl rfl rfl)) .hd) (ea_cons (hs := rfl) (e_fld (hi := rfl) (hs := fun _ _ => rfl) (e_var 11 rfl (vL 11 rfl rfl rfl)) (.tl .hd)) (ea_cons (hs := rfl) (e_var 12 rfl (vL 12 rfl rfl rfl)) (ea_cons (hs := rfl) (e_fld (hi := rfl) (hs := fun _ _ => rfl) (e_var 11 rfl (vL 11 rfl rfl rfl)) (.tl (.tl (.tl .hd)))) (ea_one (hs := rfl) (e_fld (hi := rfl) (hs := fun _ _ => rfl) (e_var 11 rfl (vL 11 rfl rfl rfl)) (.tl (.tl (.tl (.tl (.last rfl)))))))))))) (.all rfl) (fun moved_225 => bs_nil (b := moved_225) rfl (.same (.same (.same (.same (.same (.same (.same (.same (.same (.same (.same (.no (.no (.same .nil))))))))))))))))) hN rfl (.inl rfl) (.inr rfl) rfl rfl rfl) (by simp only [okb, exb, dputO_eq, l_two_b1] <;> rfl)) (.same (.same (.same (.same (.same (.same (.same (.same (.same (.same (.same (.same (.same (.same .nil))))))))))))))) (fun s226 => bs_one (s1_if (t_c2 (hm := by with_unfolding_all rfl) (c_ninL .str (e_fld (hi := rfl) (hs := fun _ _ => rfl) (e_ixL (hs := fun _ _ => rfl) (e_fld (hi := rfl) (hs := fun _ _ => rfl) (e_var 3 rfl (vL 3 rfl rfl rfl)) (.tl (.tl .hd))) e_int) .hd) (e_frz (o := .l (.d .str)) (e_catL (e_frz (o := .l (.d .str)) (e_lc (hs := fun _ => rfl) (his := by decide) rfl hN (own := [("_law_relay", 13)]) (blk_by N_l_two (defScope s_l_two) (by decide +kernel)) (i_list (e_frz (o := .l (.d (.tup (.pr .str (.pr .str .str))))) (e_slL (e_fld (hi := rfl) (hs := fun _ _ => rfl) (e_var 4 rfl (vL 4 rfl rfl rfl)) (.tl (.tl .hd))) (p_some e_int) p_none))) (fun _ _ _ _ _ => (g_nm 13 (pg_name hN rfl (.inl rfl) (.inr rfl)))) (fun relay228 _ _ _ _ _ => ts_nil) (fun relay228 _ _ _ _ _ => (e_fld (hi := rfl) (hs := fun _ _ => rfl) (e_var 13 rfl (vL 13 rfl rfl rfl)) .hd)))) (e_fld (hi := rfl) (hs := fun _ _ => rfl) (e_var 4 rfl (vL 4 rfl rfl rfl)) (.tl .hd)))))) (bs_freeze 10 (o := .l (.d (.tup (.pr .str (.pr .str (.pr (.opt .str) (.pr .str .str))))))) rfl (b_set (r := .d (.tup (.pr (.list .str) (.pr (.list .str) (.pr (.list (.tup (.pr .str (.pr .str .str)))) (.pr (.list (.tup (.pr .str (.pr .str .str)))) (.list (.tup (.pr .str (.pr .str (.pr (.opt .str) (.pr .str .str)))))))))))) 4 (e_tup (hl := rfl) (ea_cons (hs := rfl) (e_fld (hi := rfl) (hs := fun _ _ => rfl) (e_var 4 rfl (vL 4 rfl rfl rfl)) .hd) (ea_cons (hs := rfl) (e_fld (hi := rfl) (hs := fun _ _ => rfl) (e_var 4 rfl (vL 4 rfl rfl rfl)) (.tl .hd)) (ea_cons (hs := rfl) (e_var 9 rfl (vL 9 rfl rfl rfl)) (ea_cons (hs := rfl) (e_fld (hi := rfl) (hs := fun _ _ => rfl) (e_var 4 rfl (vL 4 rfl rfl rfl)) (.tl (.tl (.tl .hd)))) (ea_one (hs := rfl) (e_var 10 rfl (vL 10 rfl rfl rfl)))))))) .hid (fun other_232 => bs_nil (b := other_232) rfl (.same (.same (.same (.same (.same (.same (.same (.same (.same (.no (.no (.same (.same (.same .nil))))))))))))))) hN rfl (.inl rfl) (.inr rfl) rfl rfl rfl)) (bs_nil (b := s201) rfl (.same (.same (.same (.same (.same (.same (.same (.same (.same (.no (.no (.same (.same (.same .nil)))))))))))))))))) hN rfl (.inl rfl) (.inr rfl) rfl rfl rfl) hN rfl (.inl rfl) (.inr rfl) rfl rfl rfl) (bs_nil (b := s201) rfl (.same (.same (.same (.same (.same (.same (.same (.same (.same (.same (.same (.same (.same (.same .nil)))))))))))))))) (fun s234 => b_ret (r := .d (.tup (.pr (.tup (.pr (.list .str) (.pr (.list .str) (.pr (.list (.tup (.pr .str (.pr .str .str)))) (.pr (.list (.tup (.pr .str (.pr .str .str)))) (.list (.tup (.pr .str (.pr .str (.pr (.opt .str) (.pr .str .str))))))))))) (.tup (.pr (.list .str) (.pr (.list .str) (.pr (.list (.tup (.pr .str (.pr .str .str)))) (.pr (.list (.tup (.pr .str (.pr .str .str)))) (.list (.tup (.pr .str (.pr .str (.pr (.opt .str) (.pr .str .str)))))))))))))) (e_tup (hl := rfl) (ea_cons (hs := rfl) (e_var 3 rfl (vL 3 rfl rfl rfl)) (ea_one (hs := rfl) (e_var 4 rfl (vL 4 rfl rfl rfl))))) .hid)) (by simp only [okb, exb, dputO_eq, l_two_c10] <;> rfl)
def l_two_c7 (a_numbers_here : (List Int)) (switches_65 : (List Str)) (lamps_71 : (List Str)) (one_167 : ((List Str) × (List Str) × (List (Str × Str × Str)) × (List (Str × Str × Str)) × (List (Str × Str × (Option Str) × Str × Str)))) (other_168 : ((List Str) × (List Str) × (List (Str × Str × Str)) × (List (Str × Str × Str)) × (List (Str × Str × (Option Str) × Str × Str)))) (choice_169 : Int) (contacts_here_170 : (List (Str × Str × (Option Str) × Str × Str))) (place_171 : Int) : Mx (((List Str) × (List Str) × (List (Str × Str × Str)) × (List (Str × Str × Str)) × (List (Str × Str × (Option Str) × Str × Str))) × ((List Str) × (List Str) × (List (Str × Str × Str)) × (List (Str × Str × Str)) × (List (Str × Str × (Option Str) × Str × Str)))) :=
  (if (decide (choice_169 = (1 : Int))) then (.ok (one_167.1, (one_167.2.1, (one_167.2.2.1.reverse, (one_167.2.2.2.1, contacts_here_170.reverse))))) >>= fun other_172 => .ok other_172 else .ok other_168 : Mx ((List Str) × (List Str) × (List (Str × Str × Str)) × (List (Str × Str × Str)) × (List (Str × Str × (Option Str) × Str × Str)))) >>= fun s173 => (if (decide (choice_169 = (2 : Int))) then (((((ofO (catL (cut contacts_here_170 none (some place_171)) (cut contacts_here_170 (some (place_171 + (1 : Int))) none))) >>= fun v174 => .ok (one_167.2.2.2.1, v174)) >>= fun v175 => .ok (one_167.2.2.1, v175)) >>= fun v176 => .ok (one_167.2.1, v176)) >>= fun v177 => .ok (one_167.1, v177)) >>= fun other_178 => .ok other_178 else .ok s173 : Mx ((List Str) × (List Str) × (List (Str × Str × Str)) × (List (Str × Str × Str)) × (List (Str × Str × (Option Str) × Str × Str)))) >>= fun s179 => ((if (decide (choice_169 = (3 : Int))) then if (decide (place_171 < (contacts_here_170.length : Int))) then ((ofO (atI contacts_here_170 place_171)) >>= fun v180 => .ok v180.2.2.1) >>= fun v181 => .ok v181.isSome else .ok false else .ok false) >>= fun v202 => if v202 then (((((ofO (atI contacts_here_170 place_171)) >>= fun v182 => .ok v182.2.2.2.1) >>= fun v183 => .ok (decide (v183 = ("break" : Str)))) >>= fun v184 => .ok (if v184 then (1 : Int) else 0)) >>= fun v185 => ofO (atI (("break" : Str) :: (("make" : Str) :: ([] : List Str))) v185)) >>= fun when_186 => (((ofO (atI contacts_here_170 place_171)) >>= fun v187 => .ok v187.1) >>= fun v196 => (((ofO (atI contacts_here_170 place_171)) >>= fun v188 => .ok v188.2.1) >>= fun v194 => (((ofO (atI contacts_here_170 place_171)) >>= fun v189 => .ok v189.2.2.1) >>= fun v192 => (((ofO (atI contacts_here_170 place_171)) >>= fun v190 => .ok v190.2.2.2.2) >>= fun v191 => .ok (when_186, v191)) >>= fun v193 => .ok (v192, v193)) >>= fun v195 => .ok (v194, v195)) >>= fun v197 => .ok (v196, v197)) >>= fun v200 => ofO (setO contacts_here_170 place_171 v200) >>= fun contacts_here_198 => (.ok (one_167.1, (one_167.2.1, (one_167.2.2.1, (one_167.2.2.2.1, contacts_here_198))))) >>= fun other_199 => .ok other_199 else .ok s179 : Mx ((List Str) × (List Str) × (List (Str × Str × Str)) × (List (Str × Str × Str)) × (List (Str × Str × (Option Str) × Str × Str)))) >>= fun s201 => (l_two_c10 a_numbers_here switches_65 lamps_71 one_167 choice_169 place_171 s201)
set_option maxHeartbeats 8000000 in
theorem cut_l_two_c7 (T : Tx P K mg a) (a_numbers_here : (List Int)) (switches_65 : (List Str)) (lamps_71 : (List Str)) (one_167 : ((List Str) × (List Str) × (List (Str × Str × Str)) × (List (Str × Str × Str)) × (List (Str × Str × (Option Str) × Str × Str)))) (other_168 : ((List Str) × (List Str) × (List (Str × Str × Str)) × (List (Str × Str × Str)) × (List (Str × Str × (Option Str) × Str × Str)))) (choice_169 : Int) (contacts_here_170 : (List (Str × Str × (Option Str) × Str × Str))) (place_171 : Int) : CutB P w K mg base N_l_two "_law_two" s_l_two (He.ga K "_law_two") 2 [] [.d (.list .int) a_numbers_here, .d (.list .str) switches_65, .d (.list .str) lamps_71, .d (.tup (.pr (.list .str) (.pr (.list .str) (.pr (.list (.tup (.pr .str (.pr .str .str)))) (.pr (.list (.tup (.pr .str (.pr .str .str)))) (.list (.tup (.pr .str (.pr .str (.pr (.opt .str) (.pr .str .str))))))))))) one_167, .d (.tup (.pr (.list .str) (.pr (.list .str) (.pr (.list (.tup (.pr .str (.pr .str .str)))) (.pr (.list (.tup (.pr .str (.pr .str .str)))) (.list (.tup (.pr .str (.pr .str (.pr (.opt .str) (.pr .str .str))))))))))) other_168, .d .int choice_169, .o (.l (.d (.tup (.pr .str (.pr .str (.pr (.opt .str) (.pr .str .str))))))) contacts_here_170, .d .int place_171, .no, .no, .no, .no, .no, .no] 7 (l_two_c7 a_numbers_here switches_65 lamps_71 one_167 other_168 choice_169 contacts_here_170 place_171) (fun y => .rt (.d (.tup (.pr (.tup (.pr (.list .str) (.pr (.list .str) (.pr (.list (.tup (.pr .str (.pr .str .str)))) (.pr (.list (.tup (.pr .str (.pr .str .str)))) (.list (.tup (.pr .str (.pr .str (.pr (.opt .str) (.pr .str .str))))))))))) (.tup (.pr (.list .str) (.pr (.list .str) (.pr (.list (.tup (.pr .str (.pr .str .str)))) (.pr (.list (.tup (.pr .str (.pr .str .str)))) (.list (.tup (.pr .str (.pr .str (.pr (.opt .str) (.pr .str .str)))))))))))))) y) := by
  intro cdv A outer s H E hr tk po
  have hN := sc_l_two.nd
  have hu := hr.units
  exact bs_cast (bs_seq (G := fun (s : ((List Str) × (List Str) × (List (Str × Str × Str)) × (List (Str × Str × Str)) × (List (Str × Str × (Option Str) × Str × Str)))) => [.d (.list .int) a_numbers_here, .d (.list .str) switches_65, .d (.list .str) lamps_71, .d (.tup (.pr (.list .str) (.pr (.list .str) (.pr (.list (.tup (.pr .str (.pr .str .str)))) (.pr (.list (.tup (.pr .str (.pr .str .str)))) (.list (.tup (.pr .str (.pr .str (.pr (.opt .str) (.pr .str .str))))))))))) one_167, .d (.tup (.pr (.list .str) (.pr (.list .str) (.pr (.list (.tup (.pr .str (.pr .str .str)))) (.pr (.list (.tup (.pr .str (.pr .str .str)))) (.list (.tup (.pr .str (.pr .str (.pr (.opt .str) (.pr .str .str))))))))))) s, .d .int choice_169, .o (.l (.d (.tup (.pr .str (.pr .str (.pr (.opt .str) (.pr .str .str))))))) contacts_here_170, .d .int place_171, .no, .no, .no, .no, .no, .no]) (s1_if (t_c2 (hm := mark_of _ rfl) (c_eq (t := .int) (ht := rfl) (hd := by decide) hu (e_var 5 rfl (vL 5 rfl rfl rfl)) e_int)) (bs_setX 4 (t := (.tup (.pr (.list .str) (.pr (.list .str) (.pr (.list (.tup (.pr .str (.pr .str .str)))) (.pr (.list (.tup (.pr .str (.pr .str .str)))) (.list (.tup (.pr .str (.pr .str (.pr (.opt .str) (.pr .str .str)))))))))))) (x_tup (hl := rfl) (xa_consD (t := (.list .str)) (hs := rfl) (e_fld (hi := rfl) (hs := fun _ _ => rfl) (e_var 3 rfl (vL 3 rfl rfl rfl)) .hd) (xa_consD (t := (.list .str)) (hs := rfl) (e_fld (hi := rfl) (hs := fun _ _ => rfl) (e_var 3 rfl (vL 3 rfl rfl rfl)) (.tl .hd)) (xa_consD (t := (.list (.tup (.pr .str (.pr .str .str))))) (hs := rfl) (e_frz (o := .l (.d (.tup (.pr .str (.pr .str .str))))) (e_revL (e_fld (hi := rfl) (hs := fun _ _ => rfl) (e_var 3 rfl (vL 3 rfl rfl rfl)) (.tl (.tl .hd))))) (xa_consD (t := (.list (.tup (.pr .str (.pr .str .str))))) (hs := rfl) (e_fld (hi := rfl) (hs := fun _ _ => rfl) (e_var 3 rfl (vL 3 rfl rfl rfl)) (.tl (.tl (.tl .hd)))) (xa_oneO (o := .l (.d (.tup (.pr .str (.pr .str (.pr (.opt .str) (.pr .str .str))))))) (hs := rfl) rfl (e_revL (e_own 6 (o := .l (.d (.tup (.pr .str (.pr .str (.pr (.opt .str) (.pr .str .str))))))) rfl (vL 6 rfl rfl rfl))))))))) (fun other_172 => bs_nil (b := other_172) rfl (.same (.same (.same (.same (.same (.same (.same (.same (.same (.same (.same (.same (.same (.same .nil))))))))))))))) hN rfl (.inl rfl) (.inr rfl) rfl rfl rfl) (bs_nil (b := other_168) rfl (.same (.same (.same (.same (.same (.same (.same (.same (.same (.same (.same (.same (.same (.same .nil)))))))))))))))) (fun s173 => bs_seq (G := fun (s : ((List Str) × (List Str) × (List (Str × Str × Str)) × (List (Str × Str × Str)) × (List (Str × Str × (Option Str) × Str × Str)))) => [.d (.list .int) a_numbers_here, .d (.list .str) switches_65, .d (.list .str) lamps_71, .d (.tup (.pr (.list .str) (.pr (.list .str) (.pr (.list (.tup (.pr .str (.pr .str .str)))) (.pr (.list (.tup (.pr .str (.pr .str .str)))) (.list (.tup (.pr .str (.pr .str (.pr (.opt .str) (.pr .str .str))))))))))) one_167, .d (.tup (.pr (.list .str) (.pr (.list .str) (.pr (.list (.tup (.pr .str (.pr .str .str)))) (.pr (.list (.tup (.pr .str (.pr .str .str)))) (.list (.tup (.pr .str (.pr .str (.pr (.opt .str) (.pr .str .str))))))))))) s, .d .int choice_169, .o (.l (.d (.tup (.pr .str (.pr .str (.pr (.opt .str) (.pr .str .str))))))) contacts_here_170, .d .int place_171, .no, .no, .no, .no, .no, .no]) (s1_if (t_c2 (hm := mark_of _ rfl) (c_eq (t := .int) (ht := rfl) (hd := by decide) hu (e_var 5 rfl (vL 5 rfl rfl rfl)) e_int)) (bs_setX 4 (t := (.tup (.pr (.list .str) (.pr (.list .str) (.pr (.list (.tup (.pr .str (.pr .str .str)))) (.pr (.list (.tup (.pr .str (.pr .str .str)))) (.list (.tup (.pr .str (.pr .str (.pr (.opt .str) (.pr .str .str)))))))))))) (x_tup (hl := rfl) (xa_consD (t := (.list .str)) (hs := rfl) (e_fld (hi := rfl) (hs := fun _ _ => rfl) (e_var 3 rfl (vL 3 rfl rfl rfl)) .hd) (xa_consD (t := (.list .str)) (hs := rfl) (e_fld (hi := rfl) (hs := fun _ _ => rfl) (e_var 3 rfl (vL 3 rfl rfl rfl)) (.tl .hd)) (xa_consD (t := (.list (.tup (.pr .str (.pr .str .str))))) (hs := rfl) (e_fld (hi := rfl) (hs := fun _ _ => rfl) (e_var 3 rfl (vL 3 rfl rfl rfl)) (.tl (.tl .hd))) (xa_consD (t := (.list (.tup (.pr .str (.pr .str .str))))) (hs := rfl) (e_fld (hi := rfl) (hs := fun _ _ => rfl) (e_var 3 rfl (vL 3 rfl rfl rfl)) (.tl (.tl (.tl .hd)))) (xa_oneO (o := .l (.d (.tup (.pr .str (.pr .str (.pr (.opt .str) (.pr .str .str))))))) (hs := rfl) rfl (e_catL (e_frz (o := .l (.d (.tup (.pr .str (.pr .str (.pr (.opt .str) (.pr .str .str))))))) (e_slL (e_own 6 (o := .l (.d (.tup (.pr .str (.pr .str (.pr (.opt .str) (.pr .str .str))))))) rfl (vL 6 rfl rfl rfl)) p_none (p_some (e_var 7 rfl (vL 7 rfl rfl rfl))))) (e_frz (o := .l (.d (.tup (.pr .str (.pr .str (.pr (.opt .str) (.pr .str .str))))))) (e_slL (e_own 6 (o := .l (.d (.tup (.pr .str (.pr .str (.pr (.opt .str) (.pr .str .str))))))) rfl (vL 6 rfl rfl rfl)) (p_some (e_add (e_var 7 rfl (vL 7 rfl rfl rfl)) e_int)) p_none))))))))) (fun other_178 => bs_nil (b := other_178) rfl (.same (.same (.same (.same (.same (.same (.same (.same (.same (.same (.same (.same (.same (.same .nil))))))))))))))) hN rfl (.inl rfl) (.inr rfl) rfl rfl rfl) (bs_nil (b := s173) rfl (.same (.same (.same (.same (.same (.same (.same (.same (.same (.same (.same (.same (.same (.same .nil)))))))))))))))) (fun s179 => bs_seq (G := fun (s : ((List Str) × (List Str) × (List (Str × Str × Str)) × (List (Str × Str × Str)) × (List (Str × Str × (Option Str) × Str × Str)))) => [.d (.list .int) a_numbers_here, .d (.list .str) switches_65, .d (.list .str) lamps_71, .d (.tup (.pr (.list .str) (.pr (.list .str) (.pr (.list (.tup (.pr .str (.pr .str .str)))) (.pr (.list (.tup (.pr .str (.pr .str .str)))) (.list (.tup (.pr .str (.pr .str (.pr (.opt .str) (.pr .str .str))))))))))) one_167, .d (.tup (.pr (.list .str) (.pr (.list .str) (.pr (.list (.tup (.pr .str (.pr .str .str)))) (.pr (.list (.tup (.pr .str (.pr .str .str)))) (.list (.tup (.pr .str (.pr .str (.pr (.opt .str) (.pr .str .str))))))))))) s, .d .int choice_169, .no, .d .int place_171, .no, .no, .no, .no, .no, .no]) (s1_if (t_w (w_and (t_c2 (hm := mark_of _ rfl) (c_eq (t := .int) (ht := rfl) (hd := by decide) hu (e_var 5 rfl (vL 5 rfl rfl rfl)) e_int)) (w_and (t_c2 (hm := mark_of _ rfl) (c_lt (e_var 7 rfl (vL 7 rfl rfl rfl)) (e_lenL (hs := rfl) rfl T.b_len (e_own 6 (o := .l (.d (.tup (.pr .str (.pr .str (.pr (.opt .str) (.pr .str .str))))))) rfl (vL 6 rfl rfl rfl))))) (w_and1 (t_c2 (hm := mark_of _ rfl) (c_notN (e_fld (hi := rfl) (hs := fun _ _ => rfl) (e_ixL (hs := fun _ _ => rfl) (e_own 6 (o := .l (.d (.tup (.pr .str (.pr .str (.pr (.opt .str) (.pr .str .str))))))) rfl (vL 6 rfl rfl rfl)) (e_var 7 rfl (vL 7 rfl rfl rfl))) (.tl (.tl .hd))))))))) (b_set (r := .d .str) 8 (by exact e_ixL (hs := fun _ _ => rfl) (e_frz (o := .l (.d .str)) (e_lst (n := 2) (hl := by decide) (el_cons (hs := rfl) e_str (el_cons (hs := rfl) e_str (el_nil (t := .str)))))) (e_intB (hs := rfl) rfl T.b_int (e_c2 (hm := mark_of _ rfl) (c_eq (t := .str) (ht := rfl) (hd := by decide) hu (e_fld (hi := rfl) (hs := fun _ _ => rfl) (e_ixL (hs := fun _ _ => rfl) (e_own 6 (o := .l (.d (.tup (.pr .str (.pr .str (.pr (.opt .str) (.pr .str .str))))))) rfl (vL 6 rfl rfl rfl)) (e_var 7 rfl (vL 7 rfl rfl rfl))) (.tl (.tl (.tl .hd)))) e_str)))) (.all rfl) (fun when_186 => bs_setI 6 (t := (.tup (.pr .str (.pr .str (.pr (.opt .str) (.pr .str .str)))))) rfl (vL 6 rfl rfl rfl) (e_tup (hl := rfl) (ea_cons (hs := rfl) (e_fld (hi := rfl) (hs := fun _ _ => rfl) (e_ixL (hs := fun _ _ => rfl) (e_own 6 (o := .l (.d (.tup (.pr .str (.pr .str (.pr (.opt .str) (.pr .str .str))))))) rfl (vL 6 rfl rfl rfl)) (e_var 7 rfl (vL 7 rfl rfl rfl))) .hd) (ea_cons (hs := rfl) (e_fld (hi := rfl) (hs := fun _ _ => rfl) (e_ixL (hs := fun _ _ => rfl) (e_own 6 (o := .l (.d (.tup (.pr .str (.pr .str (.pr (.opt .str) (.pr .str .str))))))) rfl (vL 6 rfl rfl rfl)) (e_var 7 rfl (vL 7 rfl rfl rfl))) (.tl .hd)) (ea_cons (hs := rfl) (e_fld (hi := rfl) (hs := fun _ _ => rfl) (e_ixL (hs := fun _ _ => rfl) (e_own 6 (o := .l (.d (.tup (.pr .str (.pr .str (.pr (.opt .str) (.pr .str .str))))))) rfl (vL 6 rfl rfl rfl)) (e_var 7 rfl (vL 7 rfl rfl rfl))) (.tl (.tl .hd))) (ea_cons (hs := rfl) (e_var 8 rfl (vL 8 rfl rfl rfl)) (ea_one (hs := rfl) (e_fld (hi := rfl) (hs := fun _ _ => rfl) (e_ixL (hs := fun _ _ => rfl) (e_own 6 (o := .l (.d (.tup (.pr .str (.pr .str (.pr (.opt .str) (.pr .str .str))))))) rfl (vL 6 rfl rfl rfl)) (e_var 7 rfl (vL 7 rfl rfl rfl))) (.tl (.tl (.tl (.tl (.last rfl)))))))))))) (.all rfl) (e_var 7 rfl (vL 7 rfl rfl rfl)) (.all rfl) (fun contacts_here_198 => bs_freeze 6 (o := .l (.d (.tup (.pr .str (.pr .str (.pr (.opt .str) (.pr .str .str))))))) rfl (b_set (r := .d (.tup (.pr (.list .str) (.pr (.list .str) (.pr (.list (.tup (.pr .str (.pr .str .str)))) (.pr (.list (.tup (.pr .str (.pr .str .str)))) (.list (.tup (.pr .str (.pr .str (.pr (.opt .str) (.pr .str .str)))))))))))) 4 (e_tup (hl := rfl) (ea_cons (hs := rfl) (e_fld (hi := rfl) (hs := fun _ _ => rfl) (e_var 3 rfl (vL 3 rfl rfl rfl)) .hd) (ea_cons (hs := rfl) (e_fld (hi := rfl) (hs := fun _ _ => rfl) (e_var 3 rfl (vL 3 rfl rfl rfl)) (.tl .hd)) (ea_cons (hs := rfl) (e_fld (hi := rfl) (hs := fun _ _ => rfl) (e_var 3 rfl (vL 3 rfl rfl rfl)) (.tl (.tl .hd))) (ea_cons (hs := rfl) (e_fld (hi := rfl) (hs := fun _ _ => rfl) (e_var 3 rfl (vL 3 rfl rfl rfl)) (.tl (.tl (.tl .hd)))) (ea_one (hs := rfl) (e_var 6 rfl (vL 6 rfl rfl rfl)))))))) .hid (fun other_199 => bs_nil (b := other_199) rfl (.same (.same (.same (.same (.same (.same (.no (.same (.no (.same (.same (.same (.same (.same .nil))))))))))))))) hN rfl (.inl rfl) (.inr rfl) rfl rfl rfl)) (fun _ => rfl) rfl rfl rfl) hN rfl (.inl rfl) (.inr rfl) rfl rfl rfl) (bs_nil (b := s179) rfl (.same (.same (.same (.same (.same (.same (.no (.same (.same (.same (.same (.same (.same (.same .nil)))))))))))))))) (fun s201 => (cut_l_two_c10 T a_numbers_here switches_65 lamps_71 one_167 choice_169 place_171 s201 cdv A outer s H E hr tk po))))) (by simp only [okb, exb, dputO_eq, l_two_c7] <;> rfl)
set_option maxHeartbeats 8000000 in
theorem ok_l_two (T : Tx P K mg a) : FnOk P w K mg base (L2.CX P w) 3 (He.ga K "_law_two") a.l_twoD ["_law_numbers_here"] (spF K mg (.pr (.list .int) .nl) (.d (.tup (.pr (.tup (.pr (.list .str) (.pr (.list .str) (.pr (.list (.tup (.pr .str (.pr .str .str)))) (.pr (.list (.tup (.pr .str (.pr .str .str)))) (.list (.tup (.pr .str (.pr .str (.pr (.opt .str) (.pr .str .str))))))))))) (.tup (.pr (.list .str) (.pr (.list .str) (.pr (.list (.tup (.pr .str (.pr .str .str)))) (.pr (.list (.tup (.pr .str (.pr .str .str)))) (.list (.tup (.pr .str (.pr .str (.pr (.opt .str) (.pr .str .str)))))))))))))) fun x => l_two x.1) := by
  refine fn_bodyD T.l_two sc_l_two rfl fun cdv A outer s H E hr tk po x => ?_
  have hN := sc_l_two.nd
  have hu := hr.units
  exact bs_cast (b_setF (o := .l (.d .str)) 1 (e_call (x := "_law_names") (hdb := rfl) (he := by rfl) (hpl := by rfl) (ok_l_names T) (hr.mono (by decide)) rfl T.glo__law_names T.l_names.kp T.l_names_b tk (ea_cons (hs := rfl) (e_ixL (hs := fun _ _ => rfl) (e_var 0 rfl (vL 0 rfl rfl rfl)) e_int) (ea_cons (hs := rfl) (e_call (x := "_law_pick") (hdb := rfl) (he := by rfl) (hpl := by rfl) (ok_l_pick T) (hr.mono (by decide)) rfl T.glo__law_pick T.l_pick.kp T.l_pick_b tk (ea_cons (hs := rfl) (e_var 0 rfl (vL 0 rfl rfl rfl)) (ea_cons (hs := rfl) e_int (ea_cons (hs := rfl) e_int ea_nil)))) (ea_cons (hs := rfl) e_int ea_nil)))) (.all rfl) (fun switches_65 => b_setF (o := .l (.d .str)) 2 (e_call (x := "_law_names") (hdb := rfl) (he := by rfl) (hpl := by rfl) (ok_l_names T) (hr.mono (by decide)) rfl T.glo__law_names T.l_names.kp T.l_names_b tk (ea_cons (hs := rfl) (e_ixL (hs := fun _ _ => rfl) (e_var 0 rfl (vL 0 rfl rfl rfl)) e_int) (ea_cons (hs := rfl) (e_add e_int (e_call (x := "_law_pick") (hdb := rfl) (he := by rfl) (hpl := by rfl) (ok_l_pick T) (hr.mono (by decide)) rfl T.glo__law_pick T.l_pick.kp T.l_pick_b tk (ea_cons (hs := rfl) (e_var 0 rfl (vL 0 rfl rfl rfl)) (ea_cons (hs := rfl) e_int (ea_cons (hs := rfl) e_int ea_nil))))) (ea_cons (hs := rfl) e_int ea_nil)))) (.all rfl) (fun lamps_71 => b_set (r := .d (.tup (.pr (.list .str) (.pr (.list .str) (.pr (.list (.tup (.pr .str (.pr .str .str)))) (.pr (.list (.tup (.pr .str (.pr .str .str)))) (.list (.tup (.pr .str (.pr .str (.pr (.opt .str) (.pr .str .str)))))))))))) 3 (e_call (x := "_law_spec") (hdb := rfl) (he := by rfl) (hpl := by rfl) (ok_l_spec T) (hr.mono (by decide)) rfl T.glo__law_spec T.l_spec.kp T.l_spec_b tk (ea_cons (hs := rfl) (e_var 0 rfl (vL 0 rfl rfl rfl)) (ea_cons (hs := rfl) e_int (ea_cons (hs := rfl) (e_var 1 rfl (vL 1 rfl rfl rfl)) (ea_cons (hs := rfl) (e_var 2 rfl (vL 2 rfl rfl rfl)) (ea_cons (hs := rfl) e_int ea_nil)))))) .hid (fun one_167 => b_set (r := .d (.tup (.pr (.list .str) (.pr (.list .str) (.pr (.list (.tup (.pr .str (.pr .str .str)))) (.pr (.list (.tup (.pr .str (.pr .str .str)))) (.list (.tup (.pr .str (.pr .str (.pr (.opt .str) (.pr .str .str)))))))))))) 4 (e_call (x := "_law_spec") (hdb := rfl) (he := by rfl) (hpl := by rfl) (ok_l_spec T) (hr.mono (by decide)) rfl T.glo__law_spec T.l_spec.kp T.l_spec_b tk (ea_cons (hs := rfl) (e_var 0 rfl (vL 0 rfl rfl rfl)) (ea_cons (hs := rfl) e_int (ea_cons (hs := rfl) (e_var 1 rfl (vL 1 rfl rfl rfl)) (ea_cons (hs := rfl) (e_var 2 rfl (vL 2 rfl rfl rfl)) (ea_cons (hs := rfl) e_int ea_nil)))))) .hid (fun other_168 => b_set (r := .d .int) 5 (e_call (x := "_law_pick") (hdb := rfl) (he := by rfl) (hpl := by rfl) (ok_l_pick T) (hr.mono (by decide)) rfl T.glo__law_pick T.l_pick.kp T.l_pick_b tk (ea_cons (hs := rfl) (e_var 0 rfl (vL 0 rfl rfl rfl)) (ea_cons (hs := rfl) e_int (ea_cons (hs := rfl) e_int ea_nil)))) (.all rfl) (fun choice_169 => b_set (r := .o (.l (.d (.tup (.pr .str (.pr .str (.pr (.opt .str) (.pr .str .str)))))))) 6 (e_listL (t := (.tup (.pr .str (.pr .str (.pr (.opt .str) (.pr .str .str)))))) (hs := rfl) rfl T.b_list (e_fld (hi := rfl) (hs := fun _ _ => rfl) (e_var 3 rfl (vL 3 rfl rfl rfl)) (.tl (.tl (.tl (.tl (.last rfl))))))) (.all rfl) (fun contacts_here_170 => b_set (r := .d .int) 7 (e_call (x := "_law_pick") (hdb := rfl) (he := by rfl) (hpl := by rfl) (ok_l_pick T) (hr.mono (by decide)) rfl T.glo__law_pick T.l_pick.kp T.l_pick_b tk (ea_cons (hs := rfl) (e_var 0 rfl (vL 0 rfl rfl rfl)) (ea_cons (hs := rfl) e_int (ea_cons (hs := rfl) (e_add (e_lenL (hs := rfl) rfl T.b_len (e_own 6 (o := .l (.d (.tup (.pr .str (.pr .str (.pr (.opt .str) (.pr .str .str))))))) rfl (vL 6 rfl rfl rfl))) e_int) ea_nil)))) (.all rfl) (fun place_171 => (cut_l_two_c7 T x.1 switches_65 lamps_71 one_167 other_168 choice_169 contacts_here_170 place_171 cdv A outer s H E hr tk po)) hN rfl (.inl rfl) (.inr rfl) rfl rfl rfl) hN rfl (.inl rfl) (.inr rfl) rfl rfl rfl) hN rfl (.inl rfl) (.inr rfl) rfl rfl rfl) hN rfl (.inl rfl) (.inr rfl) rfl rfl rfl) hN rfl (.inl rfl) (.inr rfl) rfl rfl rfl) hN rfl (.inl rfl) (.inr rfl) rfl rfl rfl) hN rfl (.inl rfl) (.inr rfl) rfl rfl rfl) (by simp only [okb, exb, dputO_eq, l_two, l_two_c10, l_two_c7] <;> ((try delta l_two_c7); (try delta l_two_c10); (try simp only [okb, exb, dputO_eq]) <;> (first | with_reducible rfl | rfl)))
set_option maxHeartbeats 8000000 in
theorem ok_l_reached (T : Tx P K mg a) : FnOk P w K mg base (L2.CX P w) 1 (He.ga K "_law_reached") a.l_reachedD ["_law_edges_here", "_law_start"] (spF K mg (.pr (.list (.tup (.pr .str .str))) (.pr .str .nl)) (.o (.l (.d .str))) fun x => l_reached x.1 x.2.1) := by
  refine fn_bodyD T.l_reached sc_l_reached rfl fun cdv A outer s H E hr tk po x => ?_
  have hN := sc_l_reached.nd
  have hu := hr.units
  exact bs_cast (b_set (r := .o (.l (.d .str))) 2 (e_lst (n := 1) (hl := by decide) (el_cons (hs := rfl) (e_var 1 rfl (vL 1 rfl rfl rfl)) (el_nil (t := .str)))) (.all rfl) (fun found_241 => b_set (r := .d .bool) 3 e_bool (.all rfl) (fun grown_242 => bs_seq (G := fun (s : (Bool × (List Str))) => [.d (.list (.tup (.pr .str .str))) x.1, .d .str x.2.1, .o (.l (.d .str)) s.2, .d .bool s.1, .no, .no]) (s1_for (hix := fun _ => all_ix rfl) (hs := fun _ => rfl) (t := .int) (G := fun (s : (Bool × (List Str))) => [.d (.list (.tup (.pr .str .str))) x.1, .d .str x.2.1, .o (.l (.d .str)) s.2, .d .bool s.1, .no, .no]) (s0 := (grown_242, found_241)) (f := (l_reached_b1 x.1)) po rfl (is_ran (r_ran1 (hs := rfl) rfl T.b_range (e_add (e_lenL (hs := rfl) rfl T.b_len (e_var 0 rfl (vL 0 rfl rfl rfl))) e_int))) (g_nm 4 (pg_name hN rfl (.inl rfl) (.inr rfl))) (fun s243 turn244 => bs_cast (bs_one (s1_if (t_of (he := fun _ => rfl) (e_var 3 rfl (vL 3 rfl rfl rfl))) (b_set (r := .d .bool) 3 e_bool (.all rfl) (fun grown_245 => bs_seq (G := fun (s : ((List Str) × Bool)) => [.d (.list (.tup (.pr .str .str))) x.1, .d .str x.2.1, .o (.l (.d .str)) s.1, .d .bool s.2, .d .int turn244, .no]) (s1_for (hix := fun _ => all_ix rfl) (hs := fun _ => rfl) (t := (.tup (.pr .str .str))) (G := fun (s : ((List Str) × Bool)) => [.d (.list (.tup (.pr .str .str))) x.1, .d .str x.2.1, .o (.l (.d .str)) s.1, .d .bool s.2, .d .int turn244, .no]) (s0 := (s243.2, grown_245)) (f := l_reached_b2) po rfl (is_hid (i_list (e_var 0 rfl (vL 0 rfl rfl rfl)))) (g_nm 5 (pg_name hN rfl (.inl rfl) (.inr rfl))) (fun s246 edge247 => bs_cast (bs_one (s1_if (t_w (w_and (t_c2 (hm := by with_unfolding_all rfl) (c_inL .str (e_fld (hi := rfl) (hs := fun _ _ => rfl) (e_var 5 rfl (vL 5 rfl rfl rfl)) .hd) (e_own 2 (o := .l (.d .str)) rfl (vL 2 rfl rfl rfl)))) (w_and1 (t_c2 (hm := by with_unfolding_all rfl) (c_ninL .str (e_fld (hi := rfl) (hs := fun _ _ => rfl) (e_var 5 rfl (vL 5 rfl rfl rfl)) (.tl (.last rfl))) (e_own 2 (o := .l (.d .str)) rfl (vL 2 rfl rfl rfl))))))) (bs_app 2 (t := .str) (hbase := rfl) (hfew := rfl) (hline := rfl) (hs := rfl) (hpl := rfl) rfl (vL 2 rfl rfl rfl) (e_fld (hi := rfl) (hs := fun _ _ => rfl) (e_var 5 rfl (vL 5 rfl rfl rfl)) (.tl (.last rfl))) (.all rfl) (fun found_248 => b_set (r := .d .bool) 3 e_bool (.all rfl) (fun grown_249 => bs_nil (b := (found_248, grown_249)) rfl (.same (.same (.same (.same (.same (.no .nil))))))) hN rfl (.inl rfl) (.inr rfl) rfl rfl rfl)) (bs_nil (b := (s246.1, s246.2)) rfl (.same (.same (.same (.same (.same (.no .nil))))))))) (by simp only [okb, exb, dputO_eq, l_reached_b2] <;> rfl)) (.same (.same (.same (.same (.same (.same .nil))))))) (fun s251 => bs_nil (b := (s251.2, s251.1)) rfl (.same (.same (.same (.same (.no (.same .nil)))))))) hN rfl (.inl rfl) (.inr rfl) rfl rfl rfl) (bs_nil (b := (s243.1, s243.2)) rfl (.same (.same (.same (.same (.no (.same .nil))))))))) (by simp only [okb, exb, dputO_eq, l_reached_b1] <;> rfl)) (.same (.same (.same (.same (.same (.same .nil))))))) (fun s252 => bs_retO 2 (b := s252.2) (hI := rfl) rfl (vL 2 rfl rfl rfl))) hN rfl (.inl rfl) (.inr rfl) rfl rfl rfl) hN rfl (.inl rfl) (.inr rfl) rfl rfl rfl) (by simp only [okb, exb, dputO_eq, l_reached] <;> rfl)
set_option maxHeartbeats 8000000 in
theorem ok_l_edges (T : Tx P K mg a) : FnOk P w K mg base (L2.CX P w) 1 (He.ga K "_law_edges") a.l_edgesD ["_law_spec_here", "_law_movers"] (spF K mg (.pr (.tup (.pr (.list .str) (.pr (.list .str) (.pr (.list (.tup (.pr .str (.pr .str .str)))) (.pr (.list (.tup (.pr .str (.pr .str .str)))) (.list (.tup (.pr .str (.pr .str (.pr (.opt .str) (.pr .str .str))))))))))) (.pr (.vtup .bool) .nl)) (.o (.l (.d (.tup (.pr .str .str))))) fun x => l_edges x.1 x.2.1) := by
  refine fn_bodyD T.l_edges sc_l_edges rfl fun cdv A outer s H E hr tk po x => ?_
  have hN := sc_l_edges.nd
  have hu := hr.units
  exact bs_cast (b_setF (o := .l (.d .str)) 2 (e_catL (e_fld (hi := rfl) (hs := fun _ _ => rfl) (e_var 0 rfl (vL 0 rfl rfl rfl)) (.tl .hd)) (e_frz (o := .l (.d .str)) (e_lc (hs := fun _ => rfl) (his := by decide) rfl hN (own := [("_law_relay", 6)]) (blk_by N_l_edges (defScope s_l_edges) (by decide +kernel)) (i_list (e_fld (hi := rfl) (hs := fun _ _ => rfl) (e_var 0 rfl (vL 0 rfl rfl rfl)) (.tl (.tl .hd)))) (fun _ _ _ _ _ => (g_nm 6 (pg_name hN rfl (.inl rfl) (.inr rfl)))) (fun relay254 _ _ _ _ _ => ts_nil) (fun relay254 _ _ _ _ _ => (e_fld (hi := rfl) (hs := fun _ _ => rfl) (e_var 6 rfl (vL 6 rfl rfl rfl)) .hd))))) (.all rfl) (fun names_here_256 => b_set (r := .o (.l (.d (.tup (.pr .str .str))))) 3 (e_lst (n := 0) (hl := by decide) (el_nil (t := (.tup (.pr .str .str))))) (.all rfl) (fun edges_here_257 => bs_seq (G := fun (s : (List (Str × Str))) => [.d (.tup (.pr (.list .str) (.pr (.list .str) (.pr (.list (.tup (.pr .str (.pr .str .str)))) (.pr (.list (.tup (.pr .str (.pr .str .str)))) (.list (.tup (.pr .str (.pr .str (.pr (.opt .str) (.pr .str .str))))))))))) x.1, .d (.vtup .bool) x.2.1, .d (.list .str) names_here_256, .o (.l (.d (.tup (.pr .str .str)))) s, .no, .no, .no]) (s1_for (hix := fun _ => all_ix rfl) (hs := fun _ => rfl) (t := (.tup (.pr .str (.pr .str (.pr (.opt .str) (.pr .str .str)))))) (G := fun (s : (List (Str × Str))) => [.d (.tup (.pr (.list .str) (.pr (.list .str) (.pr (.list (.tup (.pr .str (.pr .str .str)))) (.pr (.list (.tup (.pr .str (.pr .str .str)))) (.list (.tup (.pr .str (.pr .str (.pr (.opt .str) (.pr .str .str))))))))))) x.1, .d (.vtup .bool) x.2.1, .d (.list .str) names_here_256, .o (.l (.d (.tup (.pr .str .str)))) s, .no, .no, .no]) (s0 := edges_here_257) (f := (l_edges_b1 x.2.1 names_here_256)) po rfl (is_hid (i_list (e_fld (hi := rfl) (hs := fun _ _ => rfl) (e_var 0 rfl (vL 0 rfl rfl rfl)) (.tl (.tl (.tl (.tl (.last rfl)))))))) (g_nm 4 (pg_name hN rfl (.inl rfl) (.inr rfl))) (fun s258 contact259 => bs_cast (b_set (r := .d .bool) 5 e_bool (.all rfl) (fun closed_260 => bs_seq (G := fun (s : Bool) => [.d (.tup (.pr (.list .str) (.pr (.list .str) (.pr (.list (.tup (.pr .str (.pr .str .str)))) (.pr (.list (.tup (.pr .str (.pr .str .str)))) (.list (.tup (.pr .str (.pr .str (.pr (.opt .str) (.pr .str .str))))))))))) x.1, .d (.vtup .bool) x.2.1, .d (.list .str) names_here_256, .o (.l (.d (.tup (.pr .str .str)))) s258, .d (.tup (.pr .str (.pr .str (.pr (.opt .str) (.pr .str .str))))) contact259, .d .bool s, .no]) (s1_if (t_c2 (hm := mark_of _ rfl) (c_notN (e_fld (hi := rfl) (hs := fun _ _ => rfl) (e_var 4 rfl (vL 4 rfl rfl rfl)) (.tl (.tl .hd))))) (b_set (r := .d .bool) 5 (e_c2 (hm := mark_of _ rfl) (c_eq (t := .bool) (ht := rfl) (hd := by decide) hu (e_ixT (hs := fun _ _ => rfl) (e_var 1 rfl (vL 1 rfl rfl rfl)) (e_index (t := .str) hu rfl (by decide) (e_var 2 rfl (vL 2 rfl rfl rfl)) (e_get (e_fld (hi := rfl) (hs := fun _ _ => rfl) (e_var 4 rfl (vL 4 rfl rfl rfl)) (.tl (.tl .hd)))) rfl rfl rfl rfl rfl)) (e_c2 (hm := mark_of _ rfl) (c_eq (t := .str) (ht := rfl) (hd := by decide) hu (e_fld (hi := rfl) (hs := fun _ _ => rfl) (e_var 4 rfl (vL 4 rfl rfl rfl)) (.tl (.tl (.tl .hd)))) e_str)))) (.all rfl) (fun closed_264 => bs_nil (b := closed_264) rfl (.same (.same (.same (.same (.same (.same (.same .nil)))))))) hN rfl (.inl rfl) (.inr rfl) rfl rfl rfl) (bs_nil (b := closed_260) rfl (.same (.same (.same (.same (.same (.same (.same .nil))))))))) (fun s265 => bs_one (s1_if (t_of (he := fun _ => rfl) (e_var 5 rfl (vL 5 rfl rfl rfl))) (bs_app 3 (t := (.tup (.pr .str .str))) (hbase := rfl) (hfew := rfl) (hline := rfl) (hs := rfl) (hpl := rfl) rfl (vL 3 rfl rfl rfl) (e_tup (hl := rfl) (ea_cons (hs := rfl) (e_fld (hi := rfl) (hs := fun _ _ => rfl) (e_var 4 rfl (vL 4 rfl rfl rfl)) .hd) (ea_one (hs := rfl) (e_fld (hi := rfl) (hs := fun _ _ => rfl) (e_var 4 rfl (vL 4 rfl rfl rfl)) (.tl .hd))))) (.all rfl) (fun edges_here_266 => bs_one (s1_if (t_c2 (hm := mark_of _ rfl) (c_eq (t := .str) (ht := rfl) (hd := by decide) hu (e_fld (hi := rfl) (hs := fun _ _ => rfl) (e_var 4 rfl (vL 4 rfl rfl rfl)) (.tl (.tl (.tl (.tl (.last rfl)))))) e_str)) (bs_app 3 (t := (.tup (.pr .str .str))) (hbase := rfl) (hfew := rfl) (hline := rfl) (hs := rfl) (hpl := rfl) rfl (vL 3 rfl rfl rfl) (e_tup (hl := rfl) (ea_cons (hs := rfl) (e_fld (hi := rfl) (hs := fun _ _ => rfl) (e_var 4 rfl (vL 4 rfl rfl rfl)) (.tl .hd)) (ea_one (hs := rfl) (e_fld (hi := rfl) (hs := fun _ _ => rfl) (e_var 4 rfl (vL 4 rfl rfl rfl)) .hd)))) (.all rfl) (fun edges_here_267 => bs_nil (b := edges_here_267) rfl (.same (.same (.same (.same (.no (.no (.same .nil))))))))) (bs_nil (b := edges_here_266) rfl (.same (.same (.same (.same (.no (.no (.same .nil))))))))))) (bs_nil (b := s258) rfl (.same (.same (.same (.same (.no (.no (.same .nil))))))))))) hN rfl (.inl rfl) (.inr rfl) rfl rfl rfl) (by simp only [okb, exb, dputO_eq, l_edges_b1] <;> rfl)) (.same (.same (.same (.same (.same (.same (.same .nil)))))))) (fun s268 => bs_retO 3 (b := s268) (hI := rfl) rfl (vL 3 rfl rfl rfl))) hN rfl (.inl rfl) (.inr rfl) rfl rfl rfl) hN rfl (.inl rfl) (.inr rfl) rfl rfl rfl) (by simp only [okb, exb, dputO_eq, l_edges] <;> rfl)
set_option maxHeartbeats 8000000 in
theorem ok_l_short (T : Tx P K mg a) : FnOk P w K mg base (L2.CX P w) 2 (He.ga K "_law_short") a.l_shortD ["_law_spec_here", "_law_movers"] (spF K mg (.pr (.tup (.pr (.list .str) (.pr (.list .str) (.pr (.list (.tup (.pr .str (.pr .str .str)))) (.pr (.list (.tup (.pr .str (.pr .str .str)))) (.list (.tup (.pr .str (.pr .str (.pr (.opt .str) (.pr .str .str))))))))))) (.pr (.vtup .bool) .nl)) (.d .bool) fun x => l_short x.1 x.2.1) := by
  refine fn_bodyD T.l_short sc_l_short rfl fun cdv A outer s H E hr tk po x => ?_
  have hN := sc_l_short.nd
  have hu := hr.units
  exact bs_cast (b_ret (r := .d .bool) (e_c2 (hm := by with_unfolding_all rfl) (c_inL .str (e_ixL (hs := fun _ _ => rfl) (e_fld (hi := rfl) (hs := fun _ _ => rfl) (e_var 0 rfl (vL 0 rfl rfl rfl)) .hd) e_int) (e_frz (o := .l (.d .str)) (e_call (x := "_law_reached") (hdb := rfl) (he := by rfl) (hpl := by rfl) (ok_l_reached T) (hr.mono (by decide)) rfl T.glo__law_reached T.l_reached.kp T.l_reached_b tk (ea_cons (hs := rfl) (e_frz (o := .l (.d (.tup (.pr .str .str)))) (e_call (x := "_law_edges") (hdb := rfl) (he := by rfl) (hpl := by rfl) (ok_l_edges T) (hr.mono (by decide)) rfl T.glo__law_edges T.l_edges.kp T.l_edges_b tk (ea_cons (hs := rfl) (e_var 0 rfl (vL 0 rfl rfl rfl)) (ea_cons (hs := rfl) (e_var 1 rfl (vL 1 rfl rfl rfl)) ea_nil)))) (ea_cons (hs := rfl) (e_ixL (hs := fun _ _ => rfl) (e_fld (hi := rfl) (hs := fun _ _ => rfl) (e_var 0 rfl (vL 0 rfl rfl rfl)) .hd) e_int) ea_nil)))))) (.all rfl)) (by simp only [okb, exb, dputO_eq, l_short] <;> rfl)
set_option maxHeartbeats 8000000 in
theorem ok_g_Board_is_name (T : Tx P K mg a) : FnOk P w K mg base (L2.CX P w) 1 (statAt K "Board" "is_name") a.g_Board_is_nameD ["text"] (spF K mg (.pr .str .nl) (.d .bool) fun x => g_Board_is_name x.1) := by
  refine fn_bodyD T.g_Board_is_name sc_g_Board_is_name rfl fun cdv A outer s H E hr tk po x => ?_
  have hN := sc_g_Board_is_name.nd
  have hu := hr.units
  exact bs_cast (bs_ifR (hI := fun _ => rfl) (t_not (t_chain (p1 := fun i j => decide (i ≤ j)) (p2 := fun i j => decide (i ≤ j)) op_le op_le (by with_unfolding_all rfl) e_int (e_lenS (hs := rfl) rfl T.b_len (e_var 0 rfl (vL 0 rfl rfl rfl))) (e_gref (x := "MOST_NAME_CHARS") (t := .int) (z := (12 : Int)) (v := .int (12)) rfl (Classical.choose_spec T.i_MOST_NAME_CHARS) ⟨_, rfl⟩ rfl (fun _ => rfl)))) (b_ret (r := .d .bool) e_bool (.all rfl)) (b_ret (r := .d .bool) (e_all (hs := rfl) rfl rfl T.b_all (e_frz (o := .l (.d .bool)) (e_lc (hs := fun _ => rfl) (his := by decide) rfl hN (own := [("char", 1)]) (blk_by N_g_Board_is_name (defScope s_g_Board_is_name) (by decide +kernel)) (i_str (e_var 0 rfl (vL 0 rfl rfl rfl))) (fun _ _ _ _ _ => (g_nm 1 (pg_name hN rfl (.inl rfl) (.inr rfl)))) (fun char284 _ _ _ _ _ => ts_nil) (fun char284 _ _ _ _ _ => (e_c2 (hm := by with_unfolding_all rfl) (c_inS (e_var 1 rfl (vL 1 rfl rfl rfl)) (e_gref (x := "NAME_CHARS") (t := .str) (z := ("abcdefghijklmnopqrstuvwxyz0123456789" : Str)) (v := .str ("abcdefghijklmnopqrstuvwxyz0123456789" : Str)) rfl (Classical.choose_spec T.s_NAME_CHARS) ⟨_, rfl⟩ rfl (fun _ => rfl)))))))) (.all rfl))) (by simp only [okb, exb, dputO_eq, g_Board_is_name] <;> rfl)
set_option maxHeartbeats 8000000 in
theorem ok_g_are_names (T : Tx P K mg a) : FnOk P w K mg base (L2.CX P w) 2 (He.ga K "are_names") a.g_are_namesD ["names", "least", "most"] (spF K mg (.pr (.list .str) (.pr .int (.pr .int .nl))) (.d .bool) fun x => g_are_names x.1 x.2.1 x.2.2.1) := by
  refine fn_bodyD T.g_are_names sc_g_are_names rfl fun cdv A outer s H E hr tk po x => ?_
  have hN := sc_g_are_names.nd
  have hu := hr.units
  exact bs_cast (bs_ifR (hI := fun _ => rfl) (t_not (t_chain (p1 := fun i j => decide (i ≤ j)) (p2 := fun i j => decide (i ≤ j)) op_le op_le (by with_unfolding_all rfl) (e_var 1 rfl (vL 1 rfl rfl rfl)) (e_lenL (hs := rfl) rfl T.b_len (e_var 0 rfl (vL 0 rfl rfl rfl))) (e_var 2 rfl (vL 2 rfl rfl rfl)))) (b_ret (r := .d .bool) e_bool (.all rfl)) (bs_seqF (G := fun (s : Unit) => [.d (.list .str) x.1, .d .int x.2.1, .d .int x.2.2.1, .no, .no]) (O := fun (y : Bool) => .rt (.d .bool) y) (j := fun y292 => y292) (hj := fun _ => rfl) (ho := fun _ => rfl) (s1_forF (hO := fun _ => rfl) (hix := fun _ => all_ix rfl) (hs := fun _ => rfl) (t := (.tup (.pr .int .str))) (G := fun (s : Unit) => [.d (.list .str) x.1, .d .int x.2.1, .d .int x.2.2.1, .no, .no]) (s0 := ()) (O := fun (y : Bool) => .rt (.d .bool) y) (f := (g_are_names_b1 x.1)) po rfl (is_hid (i_enumL rfl T.b_enumerate (e_var 0 rfl (vL 0 rfl rfl rfl)) rfl rfl)) (g_tup (har := rfl) (hn := rfl) (hst := rfl) rfl (gs_cons (hs := rfl) (g_nm 3 (pg_name hN rfl (.inl rfl) (.inr rfl))) (gs_one (ht := rfl) (hs := rfl) (g_nm 4 (pg_name hN rfl (.inl rfl) (.inr rfl)))))) (fun s280 p281 => bs_cast (bs_one (s1_if (t_w (w_or (t_not (t_of (he := fun _ => rfl) (e_smet rfl T.glo_Board T.rd_Board T.st_Board_is_name (ok_g_Board_is_name T) (hr.mono (by decide)) T.g_Board_is_name_b tk rfl (ea_cons (hs := rfl) (e_var 4 rfl (vL 4 rfl rfl rfl)) ea_nil) rfl rfl rfl))) (w_or1 (t_c2 (hm := by with_unfolding_all rfl) (c_inL .str (e_var 4 rfl (vL 4 rfl rfl rfl)) (e_frz (o := .l (.d .str)) (e_slL (e_var 0 rfl (vL 0 rfl rfl rfl)) p_none (p_some (e_var 3 rfl (vL 3 rfl rfl rfl)))))))))) (bs_ret (r := .d .bool) (b := fun y289 => (Lp.out y289)) e_bool (.all rfl) (hI := fun _ => rfl)) (bs_nil (b := (Lp.go ())) rfl (.same (.same (.same (.no (.no .nil)))))))) (by simp only [okb, exb, dputO_eq, g_are_names_b1] <;> rfl)) (.same (.same (.same (.same (.same .nil)))))) (fun s291 => b_ret (r := .d .bool) e_bool (.all rfl)))) (by simp only [okb, exb, dputO_eq, g_are_names] <;> rfl)
set_option maxHeartbeats 8000000 in
theorem ok_g_is_between (T : Tx P K mg a) : FnOk P w K mg base (L2.CX P w) 1 (He.ga K "is_between") a.g_is_betweenD ["one", "other", "nodes"] (spF K mg (.pr .str (.pr .str (.pr (.list .str) .nl))) (.d .bool) fun x => g_is_between x.1 x.2.1 x.2.2.1) := by
  refine fn_bodyD T.g_is_between sc_g_is_between rfl fun cdv A outer s H E hr tk po x => ?_
  have hN := sc_g_is_between.nd
  have hu := hr.units
  exact bs_cast (b_ret (r := .d .bool) (e_and (e_c2 (hm := by with_unfolding_all rfl) (c_inL .str (e_var 0 rfl (vL 0 rfl rfl rfl)) (e_var 2 rfl (vL 2 rfl rfl rfl)))) (e_and (e_c2 (hm := by with_unfolding_all rfl) (c_inL .str (e_var 1 rfl (vL 1 rfl rfl rfl)) (e_var 2 rfl (vL 2 rfl rfl rfl)))) (e_b1 (e_c2 (hm := mark_of _ rfl) (c_ne (t := .str) (ht := rfl) (hd := by decide) hu (e_var 0 rfl (vL 0 rfl rfl rfl)) (e_var 1 rfl (vL 1 rfl rfl rfl))))))) (.all rfl)) (by simp only [okb, exb, dputO_eq, g_is_between] <;> rfl)
set_option maxHeartbeats 8000000 in
theorem ok_g_are_loads (T : Tx P K mg a) : FnOk P w K mg base (L2.CX P w) 2 (He.ga K "are_loads") a.g_are_loadsD ["loads", "nodes"] (spF K mg (.pr (.list (.tup (.pr .str (.pr .str .str)))) (.pr (.list .str) .nl)) (.d .bool) fun x => g_are_loads x.1 x.2.1) := by
  refine fn_bodyD T.g_are_loads sc_g_are_loads rfl fun cdv A outer s H E hr tk po x => ?_
  have hN := sc_g_are_loads.nd
  have hu := hr.units
  exact bs_cast (bs_seqF (G := fun (s : Unit) => [.d (.list (.tup (.pr .str (.pr .str .str)))) x.1, .d (.list .str) x.2.1, .no, .no, .no]) (O := fun (y : Bool) => .rt (.d .bool) y) (j := fun y311 => y311) (hj := fun _ => rfl) (ho := fun _ => rfl) (s1_forF (hO := fun _ => rfl) (hix := fun _ => all_ix rfl) (hs := fun _ => rfl) (t := (.tup (.pr .str (.pr .str .str)))) (G := fun (s : Unit) => [.d (.list (.tup (.pr .str (.pr .str .str)))) x.1, .d (.list .str) x.2.1, .no, .no, .no]) (s0 := ()) (O := fun (y : Bool) => .rt (.d .bool) y) (f := (g_are_loads_b1 x.2.1)) po rfl (is_hid (i_list (e_var 0 rfl (vL 0 rfl rfl rfl)))) (g_tup (har := rfl) (hn := rfl) (hst := rfl) rfl (gs_cons (hs := rfl) (g_nm 2 (pg_name hN rfl (.inl rfl) (.inr rfl))) (gs_cons (hs := rfl) (g_nm 3 (pg_name hN rfl (.inl rfl) (.inr rfl))) (gs_one (ht := rfl) (hs := rfl) (g_nm 4 (pg_name hN rfl (.inl rfl) (.inr rfl))))))) (fun s305 p306 => bs_cast (bs_one (s1_if (t_not (t_of (he := fun _ => rfl) (e_call (x := "is_between") (hdb := rfl) (he := by rfl) (hpl := by rfl) (ok_g_is_between T) (hr.mono (by decide)) rfl T.glo_is_between T.g_is_between.kp T.g_is_between_b tk (ea_cons (hs := rfl) (e_var 3 rfl (vL 3 rfl rfl rfl)) (ea_cons (hs := rfl) (e_var 4 rfl (vL 4 rfl rfl rfl)) (ea_cons (hs := rfl) (e_var 1 rfl (vL 1 rfl rfl rfl)) ea_nil)))))) (bs_ret (r := .d .bool) (b := fun y308 => (Lp.out y308)) e_bool (.all rfl) (hI := fun _ => rfl)) (bs_nil (b := (Lp.go ())) rfl (.same (.same (.no (.no (.no .nil)))))))) (by simp only [okb, exb, dputO_eq, g_are_loads_b1] <;> rfl)) (.same (.same (.same (.same (.same .nil)))))) (fun s310 => b_ret (r := .d .bool) e_bool (.all rfl))) (by simp only [okb, exb, dputO_eq, g_are_loads] <;> rfl)
set_option maxHeartbeats 8000000 in
theorem ok_g_is_contact (T : Tx P K mg a) : FnOk P w K mg base (L2.CX P w) 2 (He.ga K "is_contact") a.g_is_contactD ["contact", "nodes", "movers"] (spF K mg (.pr (.tup (.pr .str (.pr .str (.pr (.opt .str) (.pr .str .str))))) (.pr (.list .str) (.pr (.list .str) .nl))) (.d .bool) fun x => g_is_contact x.1 x.2.1 x.2.2.1) := by
  refine fn_bodyD T.g_is_contact sc_g_is_contact rfl fun cdv A outer s H E hr tk po x => ?_
  have hN := sc_g_is_contact.nd
  have hu := hr.units
  exact bs_cast (bs_asg (t := (.tup (.pr .str (.pr .str (.pr (.opt .str) (.pr .str .str)))))) (hi := all_ix rfl) (hs := rfl) (hw := rfl) (h1 := rfl) (e_var 0 rfl (vL 0 rfl rfl rfl)) (.all rfl) (g_tup (har := rfl) (hn := rfl) (hst := rfl) rfl (gs_cons (hs := rfl) (g_nm 3 (pg_name hN rfl (.inl rfl) (.inr rfl))) (gs_cons (hs := rfl) (g_nm 4 (pg_name hN rfl (.inl rfl) (.inr rfl))) (gs_cons (hs := rfl) (g_nm 5 (pg_name hN rfl (.inl rfl) (.inr rfl))) (gs_cons (hs := rfl) (g_nm 6 (pg_name hN rfl (.inl rfl) (.inr rfl))) (gs_one (ht := rfl) (hs := rfl) (g_nm 7 (pg_name hN rfl (.inl rfl) (.inr rfl))))))))) (fun p317 => bs_ifR (hI := fun _ => rfl) (t_w (w_or (t_not (t_of (he := fun _ => rfl) (e_call (x := "is_between") (hdb := rfl) (he := by rfl) (hpl := by rfl) (ok_g_is_between T) (hr.mono (by decide)) rfl T.glo_is_between T.g_is_between.kp T.g_is_between_b tk (ea_cons (hs := rfl) (e_var 3 rfl (vL 3 rfl rfl rfl)) (ea_cons (hs := rfl) (e_var 4 rfl (vL 4 rfl rfl rfl)) (ea_cons (hs := rfl) (e_var 1 rfl (vL 1 rfl rfl rfl)) ea_nil)))))) (w_or (t_c2 (hm := by with_unfolding_all rfl) (c_ninT .str (e_var 6 rfl (vL 6 rfl rfl rfl)) (e_gref (t := .vtup .str) (z := ([("make" : Str), ("break" : Str)] : List Str)) (v := .ref (He.ga _ "WHENS")) rfl T.glo_WHENS rfl rfl (fun H => ⟨_, _, rfl, T.t_WHENS H, ⟨rfl, ⟨rfl, True.intro⟩⟩⟩)))) (w_or1 (t_c2 (hm := by with_unfolding_all rfl) (c_ninT .str (e_var 7 rfl (vL 7 rfl rfl rfl)) (e_gref (t := .vtup .str) (z := ([("both" : Str), ("forward" : Str)] : List Str)) (v := .ref (He.ga _ "WAYS")) rfl T.glo_WAYS rfl rfl (fun H => ⟨_, _, rfl, T.t_WAYS H, ⟨rfl, ⟨rfl, True.intro⟩⟩⟩)))))))) (b_ret (r := .d .bool) e_bool (.all rfl)) (bs_ifR (hI := fun _ => rfl) (t_c2 (hm := mark_of _ rfl) (c_isN (e_var 5 rfl (vL 5 rfl rfl rfl)))) (b_ret (r := .d .bool) (e_c2 (hm := mark_of _ rfl) (c_eq (t := .str) (ht := rfl) (hd := by decide) hu (e_var 6 rfl (vL 6 rfl rfl rfl)) e_str)) (.all rfl)) (b_ret (r := .d .bool) (e_c2 (hm := by with_unfolding_all rfl) (c_inL .str (e_get (e_var 5 rfl (vL 5 rfl rfl rfl))) (e_var 2 rfl (vL 2 rfl rfl rfl)))) (.all rfl))))) (by simp only [okb, exb, dputO_eq, g_is_contact] <;> rfl)
set_option maxHeartbeats 8000000 in
theorem ok_g_Board_init (T : Tx P K mg a) : FnOk P w K mg base (L2.CX P w) 3 (methAt K "Board" "__init__") a.g_Board_initD ["self", "nodes", "lamps", "switches", "relays", "contacts"] (spI K mg "Board" (.pr (.list .str) (.pr (.list (.tup (.pr .str (.pr .str .str)))) (.pr (.list .str) (.pr (.list (.tup (.pr .str (.pr .str .str)))) (.pr (.list (.tup (.pr .str (.pr .str (.pr (.opt .str) (.pr .str .str)))))) .nl))))) ns_Board fo_Board fun x => g_Board_init x.1 x.2.1 x.2.2.1 x.2.2.2.1 x.2.2.2.2.1) := by
  refine fn_bodyI (n := 5) T.g_Board_init sc_g_Board_init rfl rfl (by decide) fun cdv A outer s H E hr tk po x => ?_
  have hN := sc_g_Board_init.nd
  have hu := hr.units
  exact bs_cast (bs_ifL (γ := Empty) (I' := fun z => nomatch z) (fun z => nomatch z) (t_w (w_or (t_not (t_of (he := fun _ => rfl) (e_call (x := "are_names") (hdb := rfl) (he := by rfl) (hpl := by rfl) (ok_g_are_names T) (hr.mono (by decide)) rfl T.glo_are_names T.g_are_names.kp T.g_are_names_b tk (ea_cons (hs := rfl) (e_var 1 rfl (vL 1 rfl rfl rfl)) (ea_cons (hs := rfl) e_int (ea_cons (hs := rfl) (e_cval (t := .int) rfl T.glo_Board T.rd_Board (Classical.choose_spec T.cv_Board_MOST_NODES) rfl (fun _ => rfl) rfl) ea_nil)))))) (w_or1 (t_c2 (hm := mark_of _ rfl) (c_gt (e_lenL (hs := rfl) rfl T.b_len (e_var 3 rfl (vL 3 rfl rfl rfl))) (e_cval (t := .int) rfl T.glo_Board T.rd_Board (Classical.choose_spec T.cv_Board_MOST_SWITCHES) rfl (fun _ => rfl) rfl)))))) (b_raise "InvalidBoard" rfl tk T.glo_InvalidBoard (pmk_own PySem.F.excBase_ValueError T.ex_InvalidBoard.1 T.glo_InvalidBoard T.ex_InvalidBoard.2.1 (raises_own T.ex_InvalidBoard.2.2.1 T.ex_InvalidBoard.2.2.2) rfl rfl)) (b_setF (o := .l (.d .str)) 6 (e_catL (e_frz (o := .l (.d .str)) (e_listL (t := .str) (hs := rfl) rfl T.b_list (e_var 3 rfl (vL 3 rfl rfl rfl)))) (e_frz (o := .l (.d .str)) (e_lc (hs := fun _ => rfl) (his := by decide) rfl hN (own := [("relay", 8)]) (blk_by N_g_Board_init (defScope s_g_Board_init) (by decide +kernel)) (i_list (e_var 4 rfl (vL 4 rfl rfl rfl))) (fun _ _ _ _ _ => (g_nm 8 (pg_name hN rfl (.inl rfl) (.inr rfl)))) (fun relay296 _ _ _ _ _ => ts_nil) (fun relay296 _ _ _ _ _ => (e_fld (hi := rfl) (hs := fun _ _ => rfl) (e_var 8 rfl (vL 8 rfl rfl rfl)) .hd))))) (.all rfl) (fun movers_298 => bs_ifL (γ := Empty) (I' := fun z => nomatch z) (fun z => nomatch z) (t_w (w_or (t_not (t_of (he := fun _ => rfl) (e_call (x := "are_names") (hdb := rfl) (he := by rfl) (hpl := by rfl) (ok_g_are_names T) (hr.mono (by decide)) rfl T.glo_are_names T.g_are_names.kp T.g_are_names_b tk (ea_cons (hs := rfl) (e_var 6 rfl (vL 6 rfl rfl rfl)) (ea_cons (hs := rfl) e_int (ea_cons (hs := rfl) (e_add (e_cval (t := .int) rfl T.glo_Board T.rd_Board (Classical.choose_spec T.cv_Board_MOST_SWITCHES) rfl (fun _ => rfl) rfl) (e_cval (t := .int) rfl T.glo_Board T.rd_Board (Classical.choose_spec T.cv_Board_MOST_RELAYS) rfl (fun _ => rfl) rfl)) ea_nil)))))) (w_or1 (t_c2 (hm := mark_of _ rfl) (c_gt (e_lenL (hs := rfl) rfl T.b_len (e_var 4 rfl (vL 4 rfl rfl rfl))) (e_cval (t := .int) rfl T.glo_Board T.rd_Board (Classical.choose_spec T.cv_Board_MOST_RELAYS) rfl (fun _ => rfl) rfl)))))) (b_raise "InvalidBoard" rfl tk T.glo_InvalidBoard (pmk_own PySem.F.excBase_ValueError T.ex_InvalidBoard.1 T.glo_InvalidBoard T.ex_InvalidBoard.2.1 (raises_own T.ex_InvalidBoard.2.2.1 T.ex_InvalidBoard.2.2.2) rfl rfl)) (bs_ifL (γ := Empty) (I' := fun z => nomatch z) (fun z => nomatch z) (t_not (t_of (he := fun _ => rfl) (e_call (x := "are_names") (hdb := rfl) (he := by rfl) (hpl := by rfl) (ok_g_are_names T) (hr.mono (by decide)) rfl T.glo_are_names T.g_are_names.kp T.g_are_names_b tk (ea_cons (hs := rfl) (e_frz (o := .l (.d .str)) (e_lc (hs := fun _ => rfl) (his := by decide) rfl hN (own := [("lamp", 9)]) (blk_by N_g_Board_init (defScope s_g_Board_init) (by decide +kernel)) (i_list (e_var 2 rfl (vL 2 rfl rfl rfl))) (fun _ _ _ _ _ => (g_nm 9 (pg_name hN rfl (.inl rfl) (.inr rfl)))) (fun lamp301 _ _ _ _ _ => ts_nil) (fun lamp301 _ _ _ _ _ => (e_fld (hi := rfl) (hs := fun _ _ => rfl) (e_var 9 rfl (vL 9 rfl rfl rfl)) .hd)))) (ea_cons (hs := rfl) e_int (ea_cons (hs := rfl) (e_cval (t := .int) rfl T.glo_Board T.rd_Board (Classical.choose_spec T.cv_Board_MOST_LAMPS) rfl (fun _ => rfl) rfl) ea_nil)))))) (b_raise "InvalidBoard" rfl tk T.glo_InvalidBoard (pmk_own PySem.F.excBase_ValueError T.ex_InvalidBoard.1 T.glo_InvalidBoard T.ex_InvalidBoard.2.1 (raises_own T.ex_InvalidBoard.2.2.1 T.ex_InvalidBoard.2.2.2) rfl rfl)) (bs_ifL (γ := Empty) (I' := fun z => nomatch z) (fun z => nomatch z) (t_w (w_or (t_not (t_of (he := fun _ => rfl) (e_call (x := "are_loads") (hdb := rfl) (he := by rfl) (hpl := by rfl) (ok_g_are_loads T) (hr.mono (by decide)) rfl T.glo_are_loads T.g_are_loads.kp T.g_are_loads_b tk (ea_cons (hs := rfl) (e_var 4 rfl (vL 4 rfl rfl rfl)) (ea_cons (hs := rfl) (e_var 1 rfl (vL 1 rfl rfl rfl)) ea_nil))))) (w_or1 (t_not (t_of (he := fun _ => rfl) (e_call (x := "are_loads") (hdb := rfl) (he := by rfl) (hpl := by rfl) (ok_g_are_loads T) (hr.mono (by decide)) rfl T.glo_are_loads T.g_are_loads.kp T.g_are_loads_b tk (ea_cons (hs := rfl) (e_var 2 rfl (vL 2 rfl rfl rfl)) (ea_cons (hs := rfl) (e_var 1 rfl (vL 1 rfl rfl rfl)) ea_nil)))))))) (b_raise "InvalidBoard" rfl tk T.glo_InvalidBoard (pmk_own PySem.F.excBase_ValueError T.ex_InvalidBoard.1 T.glo_InvalidBoard T.ex_InvalidBoard.2.1 (raises_own T.ex_InvalidBoard.2.2.1 T.ex_InvalidBoard.2.2.2) rfl rfl)) (bs_ifL (γ := Empty) (I' := fun z => nomatch z) (fun z => nomatch z) (t_c2 (hm := mark_of _ rfl) (c_gt (e_lenL (hs := rfl) rfl T.b_len (e_var 5 rfl (vL 5 rfl rfl rfl))) (e_cval (t := .int) rfl T.glo_Board T.rd_Board (Classical.choose_spec T.cv_Board_MOST_CONTACTS) rfl (fun _ => rfl) rfl))) (b_raise "InvalidBoard" rfl tk T.glo_InvalidBoard (pmk_own PySem.F.excBase_ValueError T.ex_InvalidBoard.1 T.glo_InvalidBoard T.ex_InvalidBoard.2.1 (raises_own T.ex_InvalidBoard.2.2.1 T.ex_InvalidBoard.2.2.2) rfl rfl)) (bs_seq (G := fun (s : Unit) => [.o (.ins "Board" [] .nl) (), .d (.list .str) x.1, .d (.list (.tup (.pr .str (.pr .str .str)))) x.2.1, .d (.list .str) x.2.2.1, .d (.list (.tup (.pr .str (.pr .str .str)))) x.2.2.2.1, .d (.list (.tup (.pr .str (.pr .str (.pr (.opt .str) (.pr .str .str)))))) x.2.2.2.2.1, .d (.list .str) movers_298, .no, .no, .no]) (s1_for (hix := fun _ => all_ix rfl) (hs := fun _ => rfl) (t := (.tup (.pr .str (.pr .str (.pr (.opt .str) (.pr .str .str)))))) (G := fun (s : Unit) => [.o (.ins "Board" [] .nl) (), .d (.list .str) x.1, .d (.list (.tup (.pr .str (.pr .str .str)))) x.2.1, .d (.list .str) x.2.2.1, .d (.list (.tup (.pr .str (.pr .str .str)))) x.2.2.2.1, .d (.list (.tup (.pr .str (.pr .str (.pr (.opt .str) (.pr .str .str)))))) x.2.2.2.2.1, .d (.list .str) movers_298, .no, .no, .no]) (s0 := ()) (f := (g_Board_init_b1 x.1 movers_298)) po rfl (is_hid (i_list (e_var 5 rfl (vL 5 rfl rfl rfl)))) (g_nm 7 (pg_name hN rfl (.inl rfl) (.inr rfl))) (fun s315 contact316 => bs_cast (bs_one (s1_if (t_not (t_of (he := fun _ => rfl) (e_call (x := "is_contact") (hdb := rfl) (he := by rfl) (hpl := by rfl) (ok_g_is_contact T) (hr.mono (by decide)) rfl T.glo_is_contact T.g_is_contact.kp T.g_is_contact_b tk (ea_cons (hs := rfl) (e_var 7 rfl (vL 7 rfl rfl rfl)) (ea_cons (hs := rfl) (e_var 1 rfl (vL 1 rfl rfl rfl)) (ea_cons (hs := rfl) (e_var 6 rfl (vL 6 rfl rfl rfl)) ea_nil)))))) (b_raise "InvalidBoard" rfl tk T.glo_InvalidBoard (pmk_own PySem.F.excBase_ValueError T.ex_InvalidBoard.1 T.glo_InvalidBoard T.ex_InvalidBoard.2.1 (raises_own T.ex_InvalidBoard.2.2.1 T.ex_InvalidBoard.2.2.2) rfl rfl)) (bs_nil (b := ()) rfl (.same (.same (.same (.same (.same (.same (.same (.no (.same (.same .nil))))))))))))) (by simp only [okb, exb, dputO_eq, g_Board_init_b1] <;> rfl)) (.same (.same (.same (.same (.same (.same (.same (.same (.same (.same .nil))))))))))) (fun s324 => b_fld (t := (.vtup .str)) 0 rfl (vL 0 rfl rfl rfl) T.glo_Board T.c_Board T.na_Board_nodes rfl rfl rfl (by exact e_tupL (t := .str) (hs := rfl) rfl T.b_tuple (e_var 1 rfl (vL 1 rfl rfl rfl))) (.all rfl) (fun nodes_325 => b_fld (t := (.vtup .str)) 0 rfl (vL 0 rfl rfl rfl) T.glo_Board T.c_Board T.na_Board_switches rfl rfl rfl (by exact e_tupL (t := .str) (hs := rfl) rfl T.b_tuple (e_var 3 rfl (vL 3 rfl rfl rfl))) (.all rfl) (fun switches_326 => b_fld (t := (.vtup (.tup (.pr .str (.pr .str .str))))) 0 rfl (vL 0 rfl rfl rfl) T.glo_Board T.c_Board T.na_Board_relays rfl rfl rfl (by exact e_tupL (t := (.tup (.pr .str (.pr .str .str)))) (hs := rfl) rfl T.b_tuple (e_frz (o := .l (.d (.tup (.pr .str (.pr .str .str))))) (e_lc (hs := fun _ => rfl) (his := by decide) rfl hN (own := [("relay", 8)]) (blk_by N_g_Board_init (defScope s_g_Board_init) (by decide +kernel)) (i_list (e_var 4 rfl (vL 4 rfl rfl rfl))) (fun _ _ _ _ _ => (g_nm 8 (pg_name hN rfl (.inl rfl) (.inr rfl)))) (fun relay327 _ _ _ _ _ => ts_nil) (fun relay327 _ _ _ _ _ => (e_tupU (hs := rfl) rfl T.b_tuple (e_var 8 rfl (vL 8 rfl rfl rfl))))))) (.all rfl) (fun relays_328 => b_fld (t := (.vtup (.tup (.pr .str (.pr .str .str))))) 0 rfl (vL 0 rfl rfl rfl) T.glo_Board T.c_Board T.na_Board_lamps rfl rfl rfl (by exact e_tupL (t := (.tup (.pr .str (.pr .str .str)))) (hs := rfl) rfl T.b_tuple (e_frz (o := .l (.d (.tup (.pr .str (.pr .str .str))))) (e_lc (hs := fun _ => rfl) (his := by decide) rfl hN (own := [("lamp", 9)]) (blk_by N_g_Board_init (defScope s_g_Board_init) (by decide +kernel)) (i_list (e_var 2 rfl (vL 2 rfl rfl rfl))) (fun _ _ _ _ _ => (g_nm 9 (pg_name hN rfl (.inl rfl) (.inr rfl)))) (fun lamp329 _ _ _ _ _ => ts_nil) (fun lamp329 _ _ _ _ _ => (e_tupU (hs := rfl) rfl T.b_tuple (e_var 9 rfl (vL 9 rfl rfl rfl))))))) (.all rfl) (fun lamps_330 => b_fld (t := (.vtup (.tup (.pr .str (.pr .str (.pr (.opt .str) (.pr .str .str))))))) 0 rfl (vL 0 rfl rfl rfl) T.glo_Board T.c_Board T.na_Board_contacts rfl rfl rfl (by exact e_tupL (t := (.tup (.pr .str (.pr .str (.pr (.opt .str) (.pr .str .str)))))) (hs := rfl) rfl T.b_tuple (e_frz (o := .l (.d (.tup (.pr .str (.pr .str (.pr (.opt .str) (.pr .str .str))))))) (e_lc (hs := fun _ => rfl) (his := by decide) rfl hN (own := [("contact", 7)]) (blk_by N_g_Board_init (defScope s_g_Board_init) (by decide +kernel)) (i_list (e_var 5 rfl (vL 5 rfl rfl rfl))) (fun _ _ _ _ _ => (g_nm 7 (pg_name hN rfl (.inl rfl) (.inr rfl)))) (fun contact331 _ _ _ _ _ => ts_nil) (fun contact331 _ _ _ _ _ => (e_tupU (hs := rfl) rfl T.b_tuple (e_var 7 rfl (vL 7 rfl rfl rfl))))))) (.all rfl) (fun contacts_332 => bs_nil (b := (nodes_325, switches_326, relays_328, lamps_330, contacts_332, ())) rfl (.same (.no (.no (.no (.no (.no (.no (.same (.same (.same .nil))))))))))) rfl) rfl) rfl) rfl) rfl)) (fun z => nomatch z) (fun z => nomatch z)) (fun z => nomatch z) (fun z => nomatch z)) (fun z => nomatch z) (fun z => nomatch z)) (fun z => nomatch z) (fun z => nomatch z)) hN rfl (.inl rfl) (.inr rfl) rfl rfl rfl) (fun z => nomatch z) (fun z => nomatch z)) (by simp only [okb, exb, dputO_eq, g_Board_init] <;> rfl)
set_option maxHeartbeats 8000000 in
theorem ok_l_board (T : Tx P K mg a) : FnOk P w K mg base (L2.CX P w) 5 (He.ga K "_law_board") a.l_boardD ["_law_spec_here"] (spF K mg (.pr (.tup (.pr (.list .str) (.pr (.list .str) (.pr (.list (.tup (.pr .str (.pr .str .str)))) (.pr (.list (.tup (.pr .str (.pr .str .str)))) (.list (.tup (.pr .str (.pr .str (.pr (.opt .str) (.pr .str .str))))))))))) .nl) (.o (.ins "Board" ns_Board fo_Board)) fun x => l_board x.1) := by
  refine fn_bodyD T.l_board sc_l_board rfl fun cdv A outer s H E hr tk po x => ?_
  have hN := sc_l_board.nd
  have hu := hr.units
  exact bs_cast (b_ret (r := .o (.ins "Board" ns_Board fo_Board)) (e_newK (ts := (.pr (.list .str) (.pr (.list (.tup (.pr .str (.pr .str .str)))) (.pr (.list .str) (.pr (.list (.tup (.pr .str (.pr .str .str)))) (.pr (.list (.tup (.pr .str (.pr .str (.pr (.opt .str) (.pr .str .str)))))) .nl)))))) (us := (.pr (.list .str) (.pr (.list .str) (.pr (.list (.tup (.pr .str (.pr .str .str)))) (.pr (.list (.tup (.pr .str (.pr .str .str)))) (.pr (.list (.tup (.pr .str (.pr .str (.pr (.opt .str) (.pr .str .str)))))) .nl)))))) (π := fun y => (y.1, y.2.2.2.1, y.2.1, y.2.2.1, y.2.2.2.2.1, ())) T.mk_Board (ok_g_Board_init T) (hr.mono (by decide)) rfl T.glo_Board (Classical.choose_spec (kb_g_Board_init_1 T)) tk (fun F y zs q h => by
    obtain ⟨w0, r0, rfl, h0, w1, r1, rfl, h1, w2, r2, rfl, h2, w3, r3, rfl, h3, w4, r4, rfl, h4, rfl⟩ := h
    exact ⟨_, rfl, _, _, rfl, h0, _, _, rfl, h3, _, _, rfl, h1, _, _, rfl, h2, _, _, rfl, h4, rfl⟩) rfl (ek_cons (e_frz (o := .l (.d .str)) (e_listL (t := .str) (hs := rfl) rfl T.b_list (e_fld (hi := rfl) (hs := fun _ _ => rfl) (e_var 0 rfl (vL 0 rfl rfl rfl)) .hd))) (ek_cons (e_frz (o := .l (.d .str)) (e_listL (t := .str) (hs := rfl) rfl T.b_list (e_fld (hi := rfl) (hs := fun _ _ => rfl) (e_var 0 rfl (vL 0 rfl rfl rfl)) (.tl .hd)))) (ek_cons (e_frz (o := .l (.d (.tup (.pr .str (.pr .str .str))))) (e_listL (t := (.tup (.pr .str (.pr .str .str)))) (hs := rfl) rfl T.b_list (e_fld (hi := rfl) (hs := fun _ _ => rfl) (e_var 0 rfl (vL 0 rfl rfl rfl)) (.tl (.tl .hd))))) (ek_cons (e_frz (o := .l (.d (.tup (.pr .str (.pr .str .str))))) (e_listL (t := (.tup (.pr .str (.pr .str .str)))) (hs := rfl) rfl T.b_list (e_fld (hi := rfl) (hs := fun _ _ => rfl) (e_var 0 rfl (vL 0 rfl rfl rfl)) (.tl (.tl (.tl .hd)))))) (ek_cons (e_frz (o := .l (.d (.tup (.pr .str (.pr .str (.pr (.opt .str) (.pr .str .str))))))) (e_listL (t := (.tup (.pr .str (.pr .str (.pr (.opt .str) (.pr .str .str)))))) (hs := rfl) rfl T.b_list (e_fld (hi := rfl) (hs := fun _ _ => rfl) (e_var 0 rfl (vL 0 rfl rfl rfl)) (.tl (.tl (.tl (.tl (.last rfl)))))))) ek_nil))))) rfl rfl rfl rfl) (.all rfl)) (by simp only [okb, exb, dputO_eq, l_board] <;> rfl)
set_option maxHeartbeats 8000000 in
theorem ok_g_Board_movers (T : Tx P K mg a) : FnOk P w K mg base (L2.CX P w) 1 (propAt K "Board" "movers") a.g_Board_moversD ["self"] (spF K mg (.pr (.ins "Board" ns_Board fo_Board.ty) .nl) (.d (.vtup .str)) fun x => g_Board_movers x.1) := by
  refine fn_bodyD T.g_Board_movers sc_g_Board_movers rfl fun cdv A outer s H E hr tk po x => ?_
  have hN := sc_g_Board_movers.nd
  have hu := hr.units
  exact bs_cast (b_ret (r := .d (.vtup .str)) (e_catT (e_attr (t := (.vtup .str)) (n := 1) T.glo_Board T.c_Board T.na_Board_switches rfl (.tl .hd) (e_var 0 rfl (vL 0 rfl rfl rfl)) rfl) (by exact e_tupL (t := .str) (hs := rfl) rfl T.b_tuple (e_frz (o := .l (.d .str)) (e_lc (hs := fun _ => rfl) (his := by decide) rfl hN (own := [("relay", 1)]) (blk_by N_g_Board_movers (defScope s_g_Board_movers) (by decide +kernel)) (i_vtup (e_attr (t := (.vtup (.tup (.pr .str (.pr .str .str))))) (n := 2) T.glo_Board T.c_Board T.na_Board_relays rfl (.tl (.tl .hd)) (e_var 0 rfl (vL 0 rfl rfl rfl)) rfl)) (fun _ _ _ _ _ => (g_nm 1 (pg_name hN rfl (.inl rfl) (.inr rfl)))) (fun relay341 _ _ _ _ _ => ts_nil) (fun relay341 _ _ _ _ _ => (e_fld (hi := rfl) (hs := fun _ _ => rfl) (e_var 1 rfl (vL 1 rfl rfl rfl)) .hd)))))) (.all rfl)) (by simp only [okb, exb, dputO_eq, g_Board_movers] <;> rfl)
set_option maxHeartbeats 8000000 in
theorem ok_g_Board_minus (T : Tx P K mg a) : FnOk P w K mg base (L2.CX P w) 1 (propAt K "Board" "minus") a.g_Board_minusD ["self"] (spF K mg (.pr (.ins "Board" ns_Board fo_Board.ty) .nl) (.d .str) fun x => g_Board_minus x.1) := by
  refine fn_bodyD T.g_Board_minus sc_g_Board_minus rfl fun cdv A outer s H E hr tk po x => ?_
  have hN := sc_g_Board_minus.nd
  have hu := hr.units
  exact bs_cast (b_ret (r := .d .str) (e_ixT (hs := fun _ _ => rfl) (e_attr (t := (.vtup .str)) (n := 0) T.glo_Board T.c_Board T.na_Board_nodes rfl .hd (e_var 0 rfl (vL 0 rfl rfl rfl)) rfl) e_int) (.all rfl)) (by simp only [okb, exb, dputO_eq, g_Board_minus] <;> rfl)
set_option maxHeartbeats 8000000 in
theorem ok_g_reached (T : Tx P K mg a) : FnOk P w K mg base (L2.CX P w) 1 (He.ga K "reached") a.g_reachedD ["pairs", "start"] (spF K mg (.pr (.list (.tup (.pr .str .str))) (.pr .str .nl)) (.o (.l (.d .str))) fun x => g_reached x.1 x.2.1) := by
  refine fn_bodyD T.g_reached sc_g_reached rfl fun cdv A outer s H E hr tk po x => ?_
  have hN := sc_g_reached.nd
  have hu := hr.units
  exact bs_cast (b_set (r := .o (.l (.d .str))) 2 (e_lst (n := 1) (hl := by decide) (el_cons (hs := rfl) (e_var 1 rfl (vL 1 rfl rfl rfl)) (el_nil (t := .str)))) (.all rfl) (fun found_351 => b_set (r := .d .int) 3 e_int (.all rfl) (fun place_352 => bs_seq (G := fun (s : ((List Str) × Int)) => [.d (.list (.tup (.pr .str .str))) x.1, .d .str x.2.1, .o (.l (.d .str)) s.1, .d .int s.2, .no, .no]) (s1_while (G := fun (s : ((List Str) × Int)) => [.d (.list (.tup (.pr .str .str))) x.1, .d .str x.2.1, .o (.l (.d .str)) s.1, .d .int s.2, .no, .no]) (s0 := (found_351, place_352)) (mc := g_reached_b1c) (f := (g_reached_b1 x.1)) fuel po (fun s353 => t_cast (t_c2 (hm := mark_of _ rfl) (c_lt (e_var 3 rfl (vL 3 rfl rfl rfl)) (e_lenL (hs := rfl) rfl T.b_len (e_own 2 (o := .l (.d .str)) rfl (vL 2 rfl rfl rfl))))) (by simp only [okb, exb, g_reached_b1c] <;> rfl)) (fun s353 => bs_cast (bs_seq (G := fun (s : (List Str)) => [.d (.list (.tup (.pr .str .str))) x.1, .d .str x.2.1, .o (.l (.d .str)) s, .d .int s353.2, .no, .no]) (s1_for (hix := fun _ => all_ix rfl) (hs := fun _ => rfl) (t := (.tup (.pr .str .str))) (G := fun (s : (List Str)) => [.d (.list (.tup (.pr .str .str))) x.1, .d .str x.2.1, .o (.l (.d .str)) s, .d .int s353.2, .no, .no]) (s0 := s353.1) (f := (g_reached_b2 s353)) po rfl (is_hid (i_list (e_var 0 rfl (vL 0 rfl rfl rfl)))) (g_tup (har := rfl) (hn := rfl) (hst := rfl) rfl (gs_cons (hs := rfl) (g_nm 4 (pg_name hN rfl (.inl rfl) (.inr rfl))) (gs_one (ht := rfl) (hs := rfl) (g_nm 5 (pg_name hN rfl (.inl rfl) (.inr rfl)))))) (fun s354 p355 => bs_cast (bs_one (s1_if (t_w (w_and (t_c2 (hm := mark_of _ rfl) (c_eq (t := .str) (ht := rfl) (hd := by decide) hu (e_var 4 rfl (vL 4 rfl rfl rfl)) (e_ixL (hs := fun _ _ => rfl) (e_own 2 (o := .l (.d .str)) rfl (vL 2 rfl rfl rfl)) (e_var 3 rfl (vL 3 rfl rfl rfl))))) (w_and1 (t_c2 (hm := by with_unfolding_all rfl) (c_ninL .str (e_var 5 rfl (vL 5 rfl rfl rfl)) (e_own 2 (o := .l (.d .str)) rfl (vL 2 rfl rfl rfl))))))) (bs_app 2 (t := .str) (hbase := rfl) (hfew := rfl) (hline := rfl) (hs := rfl) (hpl := rfl) rfl (vL 2 rfl rfl rfl) (e_var 5 rfl (vL 5 rfl rfl rfl)) (.all rfl) (fun found_358 => bs_nil (b := found_358) rfl (.same (.same (.same (.same (.no (.no .nil)))))))) (bs_nil (b := s354) rfl (.same (.same (.same (.same (.no (.no .nil))))))))) (by simp only [okb, exb, dputO_eq, g_reached_b2] <;> rfl)) (.same (.same (.same (.same (.same (.same .nil))))))) (fun s360 => b_aug (g := fun i j => i + j) 3 ip_add rfl e_int (.all rfl) (fun place_361 => bs_nil (b := (s360, place_361)) rfl (.same (.same (.same (.same (.same (.same .nil))))))) hN rfl (.inl rfl) (.inr rfl) rfl)) (by simp only [okb, exb, dputO_eq, g_reached_b1] <;> rfl)) (.same (.same (.same (.same (.same (.same .nil))))))) (fun s362 => bs_retO 2 (b := s362.1) (hI := rfl) rfl (vL 2 rfl rfl rfl))) hN rfl (.inl rfl) (.inr rfl) rfl rfl rfl) hN rfl (.inl rfl) (.inr rfl) rfl rfl rfl) (by simp only [okb, exb, dputO_eq, g_reached] <;> rfl)
set_option maxHeartbeats 8000000 in
theorem ok_g_closes (T : Tx P K mg a) : FnOk P w K mg base (L2.CX P w) 1 (He.ga K "closes") a.g_closesD ["contact", "on"] (spF K mg (.pr (.tup (.pr .str (.pr .str (.pr (.opt .str) (.pr .str .str))))) (.pr .bool .nl)) (.d .bool) fun x => g_closes x.1 x.2.1) := by
  refine fn_bodyD T.g_closes sc_g_closes rfl fun cdv A outer s H E hr tk po x => ?_
  have hN := sc_g_closes.nd
  have hu := hr.units
  exact bs_cast (bs_ifR (hI := fun _ => rfl) (t_c2 (hm := mark_of _ rfl) (c_isN (e_fld (hi := rfl) (hs := fun _ _ => rfl) (e_var 0 rfl (vL 0 rfl rfl rfl)) (.tl (.tl .hd))))) (b_ret (r := .d .bool) e_bool (.all rfl)) (b_ret (r := .d .bool) (e_c2 (hm := mark_of _ rfl) (c_eq (t := .bool) (ht := rfl) (hd := by decide) hu (e_var 1 rfl (vL 1 rfl rfl rfl)) (e_c2 (hm := mark_of _ rfl) (c_eq (t := .str) (ht := rfl) (hd := by decide) hu (e_fld (hi := rfl) (hs := fun _ _ => rfl) (e_var 0 rfl (vL 0 rfl rfl rfl)) (.tl (.tl (.tl .hd)))) e_str)))) (.all rfl))) (by simp only [okb, exb, dputO_eq, g_closes] <;> rfl)
set_option maxHeartbeats 8000000 in
theorem ok_g_closed_contacts (T : Tx P K mg a) : FnOk P w K mg base (L2.CX P w) 3 (He.ga K "closed_contacts") a.g_closed_contactsD ["board", "state"] (spF K mg (.pr (.ins "Board" ns_Board fo_Board.ty) (.pr (.tup (.pr (.vtup .bool) .bool)) .nl)) (.o (.l (.d .int))) fun x => g_closed_contacts x.1 x.2.1) := by
  refine fn_bodyD T.g_closed_contacts sc_g_closed_contacts rfl fun cdv A outer s H E hr tk po x => ?_
  have hN := sc_g_closed_contacts.nd
  have hu := hr.units
  exact bs_cast (b_setL (r := .d (.dic .str .int)) 2 (p_dc (i := 2) (k := .str) (t1 := .int) (own := [("number", 4), ("name", 6)]) ky_str rfl hN rfl rfl rfl (blk_by N_g_closed_contacts (defScope s_g_closed_contacts) (by decide +kernel)) (i_enumT rfl T.b_enumerate (e_prop T.glo_Board T.c_Board T.pr_Board_movers (ok_g_Board_movers T) (hr.mono (by decide)) T.g_Board_movers_b (e_var 0 rfl (vL 0 rfl rfl rfl)) rfl) rfl) (fun _ _ _ _ _ => (g_tup (har := rfl) (hn := rfl) (hst := rfl) rfl (gs_cons (hs := rfl) (g_nm 4 (pg_name hN rfl (.inl rfl) (.inr rfl))) (gs_one (ht := rfl) (hs := rfl) (g_nm 6 (pg_name hN rfl (.inl rfl) (.inr rfl))))))) (fun p365 _ _ _ _ _ => ts_nil) (fun p365 _ _ _ _ _ => (e_var 6 rfl (vL 6 rfl rfl rfl))) (fun p365 _ _ _ _ _ => (e_var 4 rfl (vL 4 rfl rfl rfl))) (by decide) (fun _ => rfl)) .hid (fun numbers_367 => b_set (r := .o (.l (.d .int))) 3 (e_lst (n := 0) (hl := by decide) (el_nil (t := .int))) (.all rfl) (fun found_368 => bs_seq (G := fun (s : (List Int)) => [.d (.ins "Board" ns_Board fo_Board.ty) x.1, .d (.tup (.pr (.vtup .bool) .bool)) x.2.1, .d (.dic .str .int) numbers_367, .o (.l (.d .int)) s, .no, .no, .no]) (s1_for (hix := fun _ => all_ix rfl) (hs := fun _ => rfl) (t := (.tup (.pr .int (.tup (.pr .str (.pr .str (.pr (.opt .str) (.pr .str .str)))))))) (G := fun (s : (List Int)) => [.d (.ins "Board" ns_Board fo_Board.ty) x.1, .d (.tup (.pr (.vtup .bool) .bool)) x.2.1, .d (.dic .str .int) numbers_367, .o (.l (.d .int)) s, .no, .no, .no]) (s0 := found_368) (f := (g_closed_contacts_b1 x.2.1 numbers_367)) po rfl (is_hid (i_enumT rfl T.b_enumerate (e_attr (t := (.vtup (.tup (.pr .str (.pr .str (.pr (.opt .str) (.pr .str .str))))))) (n := 4) T.glo_Board T.c_Board T.na_Board_contacts rfl (.tl (.tl (.tl (.tl .hd)))) (e_var 0 rfl (vL 0 rfl rfl rfl)) rfl) rfl)) (g_tup (har := rfl) (hn := rfl) (hst := rfl) rfl (gs_cons (hs := rfl) (g_nm 4 (pg_name hN rfl (.inl rfl) (.inr rfl))) (gs_one (ht := rfl) (hs := rfl) (g_nm 5 (pg_name hN rfl (.inl rfl) (.inr rfl)))))) (fun s369 p370 => bs_cast (bs_one (s1_if (t_w (w_or (t_c2 (hm := mark_of _ rfl) (c_isN (e_fld (hi := rfl) (hs := fun _ _ => rfl) (e_var 5 rfl (vL 5 rfl rfl rfl)) (.tl (.tl .hd))))) (w_or1 (t_of (he := fun _ => rfl) (e_call (x := "closes") (hdb := rfl) (he := by rfl) (hpl := by rfl) (ok_g_closes T) (hr.mono (by decide)) rfl T.glo_closes T.g_closes.kp T.g_closes_b tk (ea_cons (hs := rfl) (e_var 5 rfl (vL 5 rfl rfl rfl)) (ea_cons (hs := rfl) (e_ixT (hs := fun _ _ => rfl) (e_fld (hi := rfl) (hs := fun _ _ => rfl) (e_var 1 rfl (vL 1 rfl rfl rfl)) .hd) (e_dget ky_str hu (e_var 2 rfl (vL 2 rfl rfl rfl)) (e_get (e_fld (hi := rfl) (hs := fun _ _ => rfl) (e_var 5 rfl (vL 5 rfl rfl rfl)) (.tl (.tl .hd)))) (fun _ _ => rfl))) ea_nil))))))) (bs_app 3 (t := .int) (hbase := rfl) (hfew := rfl) (hline := rfl) (hs := rfl) (hpl := rfl) rfl (vL 3 rfl rfl rfl) (e_var 4 rfl (vL 4 rfl rfl rfl)) (.all rfl) (fun found_376 => bs_nil (b := found_376) rfl (.same (.same (.same (.same (.no (.no (.same .nil))))))))) (bs_nil (b := s369) rfl (.same (.same (.same (.same (.no (.no (.same .nil)))))))))) (by simp only [okb, exb, dputO_eq, g_closed_contacts_b1] <;> rfl)) (.same (.same (.same (.same (.same (.same (.same .nil)))))))) (fun s378 => bs_retO 3 (b := s378) (hI := rfl) rfl (vL 3 rfl rfl rfl))) hN rfl (.inl rfl) (.inr rfl) rfl rfl rfl) rfl rfl) (by simp only [okb, exb, dputO_eq, g_closed_contacts] <;> rfl)
set_option maxHeartbeats 8000000 in
theorem ok_g_paths (T : Tx P K mg a) : FnOk P w K mg base (L2.CX P w) 4 (He.ga K "paths") a.g_pathsD ["board", "state"] (spF K mg (.pr (.ins "Board" ns_Board fo_Board.ty) (.pr (.tup (.pr (.vtup .bool) .bool)) .nl)) (.o (.l (.d (.tup (.pr .str .str))))) fun x => g_paths x.1 x.2.1) := by
  refine fn_bodyD T.g_paths sc_g_paths rfl fun cdv A outer s H E hr tk po x => ?_
  have hN := sc_g_paths.nd
  have hu := hr.units
  exact bs_cast (b_set (r := .o (.l (.d (.tup (.pr .str .str))))) 2 (e_lst (n := 0) (hl := by decide) (el_nil (t := (.tup (.pr .str .str))))) (.all rfl) (fun pairs_363 => bs_seq (G := fun (s : (List (Str × Str))) => [.d (.ins "Board" ns_Board fo_Board.ty) x.1, .d (.tup (.pr (.vtup .bool) .bool)) x.2.1, .o (.l (.d (.tup (.pr .str .str)))) s, .no, .no, .no, .no, .no]) (s1_for (hix := fun _ => all_ix rfl) (hs := fun _ => rfl) (t := .int) (G := fun (s : (List (Str × Str))) => [.d (.ins "Board" ns_Board fo_Board.ty) x.1, .d (.tup (.pr (.vtup .bool) .bool)) x.2.1, .o (.l (.d (.tup (.pr .str .str)))) s, .no, .no, .no, .no, .no]) (s0 := pairs_363) (f := (g_paths_b1 x.1)) po rfl (is_hid (i_list (e_frz (o := .l (.d .int)) (e_call (x := "closed_contacts") (hdb := rfl) (he := by rfl) (hpl := by rfl) (ok_g_closed_contacts T) (hr.mono (by decide)) rfl T.glo_closed_contacts T.g_closed_contacts.kp T.g_closed_contacts_b tk (ea_cons (hs := rfl) (e_var 0 rfl (vL 0 rfl rfl rfl)) (ea_cons (hs := rfl) (e_var 1 rfl (vL 1 rfl rfl rfl)) ea_nil)))))) (g_nm 3 (pg_name hN rfl (.inl rfl) (.inr rfl))) (fun s379 number380 => bs_cast (bs_asg (t := (.tup (.pr .str (.pr .str (.pr (.opt .str) (.pr .str .str)))))) (hi := all_ix rfl) (hs := rfl) (hw := rfl) (h1 := rfl) (e_ixT (hs := fun _ _ => rfl) (e_attr (t := (.vtup (.tup (.pr .str (.pr .str (.pr (.opt .str) (.pr .str .str))))))) (n := 4) T.glo_Board T.c_Board T.na_Board_contacts rfl (.tl (.tl (.tl (.tl .hd)))) (e_var 0 rfl (vL 0 rfl rfl rfl)) rfl) (e_var 3 rfl (vL 3 rfl rfl rfl))) (.all rfl) (g_tup (har := rfl) (hn := rfl) (hst := rfl) rfl (gs_cons (hs := rfl) (g_nm 4 (pg_name hN rfl (.inl rfl) (.inr rfl))) (gs_cons (hs := rfl) (g_nm 5 (pg_name hN rfl (.inl rfl) (.inr rfl))) (gs_cons (hs := rfl) (g_nm 6 (pg_name hN rfl (.inl rfl) (.inr rfl))) (gs_cons (hs := rfl) (g_nm 6 (pg_name hN rfl (.inl rfl) (.inr rfl))) (gs_one (ht := rfl) (hs := rfl) (g_nm 7 (pg_name hN rfl (.inl rfl) (.inr rfl))))))))) (fun p381 => bs_app 2 (t := (.tup (.pr .str .str))) (hbase := rfl) (hfew := rfl) (hline := rfl) (hs := rfl) (hpl := rfl) rfl (vL 2 rfl rfl rfl) (e_tup (hl := rfl) (ea_cons (hs := rfl) (e_var 4 rfl (vL 4 rfl rfl rfl)) (ea_one (hs := rfl) (e_var 5 rfl (vL 5 rfl rfl rfl))))) (.all rfl) (fun pairs_382 => bs_one (s1_if (t_c2 (hm := mark_of _ rfl) (c_eq (t := .str) (ht := rfl) (hd := by decide) hu (e_var 7 rfl (vL 7 rfl rfl rfl)) e_str)) (bs_app 2 (t := (.tup (.pr .str .str))) (hbase := rfl) (hfew := rfl) (hline := rfl) (hs := rfl) (hpl := rfl) rfl (vL 2 rfl rfl rfl) (e_tup (hl := rfl) (ea_cons (hs := rfl) (e_var 5 rfl (vL 5 rfl rfl rfl)) (ea_one (hs := rfl) (e_var 4 rfl (vL 4 rfl rfl rfl))))) (.all rfl) (fun pairs_383 => bs_nil (b := pairs_383) rfl (.same (.same (.same (.no (.no (.no (.no (.no .nil)))))))))) (bs_nil (b := pairs_382) rfl (.same (.same (.same (.no (.no (.no (.no (.no .nil))))))))))))) (by simp only [okb, exb, dputO_eq, g_paths_b1] <;> rfl)) (.same (.same (.same (.same (.same (.same (.same (.same .nil))))))))) (fun s384 => bs_retO 2 (b := s384) (hI := rfl) rfl (vL 2 rfl rfl rfl))) hN rfl (.inl rfl) (.inr rfl) rfl rfl rfl) (by simp only [okb, exb, dputO_eq, g_paths] <;> rfl)
set_option maxHeartbeats 8000000 in
theorem ok_g_Board_plus (T : Tx P K mg a) : FnOk P w K mg base (L2.CX P w) 1 (propAt K "Board" "plus") a.g_Board_plusD ["self"] (spF K mg (.pr (.ins "Board" ns_Board fo_Board.ty) .nl) (.d .str) fun x => g_Board_plus x.1) := by
  refine fn_bodyD T.g_Board_plus sc_g_Board_plus rfl fun cdv A outer s H E hr tk po x => ?_
  have hN := sc_g_Board_plus.nd
  have hu := hr.units
  exact bs_cast (b_ret (r := .d .str) (e_ixT (hs := fun _ _ => rfl) (e_attr (t := (.vtup .str)) (n := 0) T.glo_Board T.c_Board T.na_Board_nodes rfl .hd (e_var 0 rfl (vL 0 rfl rfl rfl)) rfl) e_int) (.all rfl)) (by simp only [okb, exb, dputO_eq, g_Board_plus] <;> rfl)
set_option maxHeartbeats 8000000 in
theorem ok_g_fed (T : Tx P K mg a) : FnOk P w K mg base (L2.CX P w) 5 (He.ga K "fed") a.g_fedD ["board", "state"] (spF K mg (.pr (.ins "Board" ns_Board fo_Board.ty) (.pr (.tup (.pr (.vtup .bool) .bool)) .nl)) (.o (.l (.d .str))) fun x => g_fed x.1 x.2.1) := by
  refine fn_bodyD T.g_fed sc_g_fed rfl fun cdv A outer s H E hr tk po x => ?_
  have hN := sc_g_fed.nd
  have hu := hr.units
  exact bs_cast (b_setF (o := .l (.d .str)) 2 (e_call (x := "reached") (hdb := rfl) (he := by rfl) (hpl := by rfl) (ok_g_reached T) (hr.mono (by decide)) rfl T.glo_reached T.g_reached.kp T.g_reached_b tk (ea_cons (hs := rfl) (e_frz (o := .l (.d (.tup (.pr .str .str)))) (e_call (x := "paths") (hdb := rfl) (he := by rfl) (hpl := by rfl) (ok_g_paths T) (hr.mono (by decide)) rfl T.glo_paths T.g_paths.kp T.g_paths_b tk (ea_cons (hs := rfl) (e_var 0 rfl (vL 0 rfl rfl rfl)) (ea_cons (hs := rfl) (e_var 1 rfl (vL 1 rfl rfl rfl)) ea_nil)))) (ea_cons (hs := rfl) (e_prop T.glo_Board T.c_Board T.pr_Board_plus (ok_g_Board_plus T) (hr.mono (by decide)) T.g_Board_plus_b (e_var 0 rfl (vL 0 rfl rfl rfl)) rfl) ea_nil))) (.all rfl) (fun found_390 => b_ret (r := .o (.l (.d .str))) (e_lc (hs := fun _ => rfl) (his := by decide) rfl hN (own := [("node", 3)]) (blk_by N_g_fed (defScope s_g_fed) (by decide +kernel)) (i_vtup (e_attr (t := (.vtup .str)) (n := 0) T.glo_Board T.c_Board T.na_Board_nodes rfl .hd (e_var 0 rfl (vL 0 rfl rfl rfl)) rfl)) (fun _ _ _ _ _ => (g_nm 3 (pg_name hN rfl (.inl rfl) (.inr rfl)))) (fun node391 _ _ _ _ _ => (ts_one (t_c2 (hm := by with_unfolding_all rfl) (c_inL .str (e_var 3 rfl (vL 3 rfl rfl rfl)) (e_var 2 rfl (vC 2 rfl rfl rfl)))))) (fun node391 _ _ _ _ _ => (e_var 3 rfl (vL 3 rfl rfl rfl)))) (.all rfl)) hN rfl (.inr rfl) (.inl rfl) rfl rfl rfl) (by simp only [okb, exb, dputO_eq, g_fed] <;> rfl)
set_option maxHeartbeats 8000000 in
theorem ok_g_is_short (T : Tx P K mg a) : FnOk P w K mg base (L2.CX P w) 6 (He.ga K "is_short") a.g_is_shortD ["board", "state"] (spF K mg (.pr (.ins "Board" ns_Board fo_Board.ty) (.pr (.tup (.pr (.vtup .bool) .bool)) .nl)) (.d .bool) fun x => g_is_short x.1 x.2.1) := by
  refine fn_bodyD T.g_is_short sc_g_is_short rfl fun cdv A outer s H E hr tk po x => ?_
  have hN := sc_g_is_short.nd
  have hu := hr.units
  exact bs_cast (b_ret (r := .d .bool) (e_c2 (hm := by with_unfolding_all rfl) (c_inL .str (e_prop T.glo_Board T.c_Board T.pr_Board_minus (ok_g_Board_minus T) (hr.mono (by decide)) T.g_Board_minus_b (e_var 0 rfl (vL 0 rfl rfl rfl)) rfl) (e_frz (o := .l (.d .str)) (e_call (x := "fed") (hdb := rfl) (he := by rfl) (hpl := by rfl) (ok_g_fed T) (hr.mono (by decide)) rfl T.glo_fed T.g_fed.kp T.g_fed_b tk (ea_cons (hs := rfl) (e_var 0 rfl (vL 0 rfl rfl rfl)) (ea_cons (hs := rfl) (e_var 1 rfl (vL 1 rfl rfl rfl)) ea_nil)))))) (.all rfl)) (by simp only [okb, exb, dputO_eq, g_is_short] <;> rfl)
set_option maxHeartbeats 8000000 in
theorem ok_g_changed_state (T : Tx P K mg a) : FnOk P w K mg base (L2.CX P w) 7 (He.ga K "changed_state") a.g_changed_stateD ["one", "other", "state"] (spF K mg (.pr (.ins "Board" ns_Board fo_Board.ty) (.pr (.ins "Board" ns_Board fo_Board.ty) (.pr (.tup (.pr (.vtup .bool) .bool)) .nl))) (.d (.tup (.pr (.vtup .bool) .bool))) fun x => g_changed_state x.1 x.2.1 x.2.2.1) := by
  refine fn_bodyD T.g_changed_state sc_g_changed_state rfl fun cdv A outer s H E hr tk po x => ?_
  have hN := sc_g_changed_state.nd
  have hu := hr.units
  exact bs_cast (bs_asg (t := (.tup (.pr (.vtup .bool) .bool))) (hi := all_ix rfl) (hs := rfl) (hw := rfl) (h1 := rfl) (e_var 2 rfl (vL 2 rfl rfl rfl)) (.all rfl) (g_tup (har := rfl) (hn := rfl) (hst := rfl) rfl (gs_cons (hs := rfl) (g_nm 3 (pg_name hN rfl (.inl rfl) (.inr rfl))) (gs_one (ht := rfl) (hs := rfl) (g_nm 4 (pg_name hN rfl (.inl rfl) (.inr rfl)))))) (fun p339 => b_set (r := .o (.dic .str .bool)) 5 (e_dnil (k := .str) (t := .bool)) .hid (fun raised_340 => bs_seq (G := fun (s : (List (Str × Bool))) => [.d (.ins "Board" ns_Board fo_Board.ty) x.1, .d (.ins "Board" ns_Board fo_Board.ty) x.2.1, .d (.tup (.pr (.vtup .bool) .bool)) x.2.2.1, .d (.vtup .bool) p339.1, .d .bool p339.2, .o (.dic .str .bool) s, .no, .no, .no]) (s1_for (hix := fun _ => all_ix rfl) (hs := fun _ => rfl) (t := (.tup (.pr .str .bool))) (G := fun (s : (List (Str × Bool))) => [.d (.ins "Board" ns_Board fo_Board.ty) x.1, .d (.ins "Board" ns_Board fo_Board.ty) x.2.1, .d (.tup (.pr (.vtup .bool) .bool)) x.2.2.1, .d (.vtup .bool) p339.1, .d .bool p339.2, .o (.dic .str .bool) s, .no, .no, .no]) (s0 := raised_340) (f := g_changed_state_b1) po rfl (is_hid (i_zipT rfl T.b_zip (e_prop T.glo_Board T.c_Board T.pr_Board_movers (ok_g_Board_movers T) (hr.mono (by decide)) T.g_Board_movers_b (e_var 0 rfl (vL 0 rfl rfl rfl)) rfl) (e_var 3 rfl (vL 3 rfl rfl rfl)) rfl rfl rfl)) (g_tup (har := rfl) (hn := rfl) (hst := rfl) rfl (gs_cons (hs := rfl) (g_nm 6 (pg_name hN rfl (.inl rfl) (.inr rfl))) (gs_one (ht := rfl) (hs := rfl) (g_nm 7 (pg_name hN rfl (.inl rfl) (.inr rfl)))))) (fun s344 p345 => bs_cast (bs_dput 5 (k := .str) (t := .bool) ky_str hu rfl (vC 5 rfl rfl rfl) (e_var 7 rfl (vL 7 rfl rfl rfl)) (.all rfl) (e_var 6 rfl (vL 6 rfl rfl rfl)) (.all rfl) (fun raised_346 => bs_nil (b := raised_346) rfl (.same (.same (.same (.same (.same (.same (.no (.no (.same .nil)))))))))) rfl) (by simp only [okb, exb, dputO_eq, g_changed_state_b1] <;> rfl)) (.same (.same (.same (.same (.same (.same (.same (.same (.same .nil)))))))))) (fun s347 => b_set (r := .d (.vtup .bool)) 8 (by exact e_tupL (t := .bool) (hs := rfl) rfl T.b_tuple (e_frz (o := .l (.d .bool)) (e_lc (hs := fun _ => rfl) (his := by decide) rfl hN (own := [("name", 6)]) (blk_by N_g_changed_state (defScope s_g_changed_state) (by decide +kernel)) (i_vtup (e_prop T.glo_Board T.c_Board T.pr_Board_movers (ok_g_Board_movers T) (hr.mono (by decide)) T.g_Board_movers_b (e_var 1 rfl (vL 1 rfl rfl rfl)) rfl)) (fun _ _ _ _ _ => (g_nm 6 (pg_name hN rfl (.inl rfl) (.inr rfl)))) (fun name348 _ _ _ _ _ => ts_nil) (fun name348 _ _ _ _ _ => (e_dgetD ky_str hu (e_own 5 (o := .dic .str .bool) rfl (vC 5 rfl rfl rfl)) (e_var 6 rfl (vL 6 rfl rfl rfl)) e_bool ⟨rfl, rfl, rfl, rfl⟩))))) (.all rfl) (fun taken_350 => b_ret (r := .d (.tup (.pr (.vtup .bool) .bool))) (e_tup (hl := rfl) (ea_cons (hs := rfl) (e_var 8 rfl (vL 8 rfl rfl rfl)) (ea_one (hs := rfl) (e_or (e_var 4 rfl (vL 4 rfl rfl rfl)) (e_b1 (e_call (x := "is_short") (hdb := rfl) (he := by rfl) (hpl := by rfl) (ok_g_is_short T) (hr.mono (by decide)) rfl T.glo_is_short T.g_is_short.kp T.g_is_short_b tk (ea_cons (hs := rfl) (e_var 1 rfl (vL 1 rfl rfl rfl)) (ea_cons (hs := rfl) (e_tup (hl := rfl) (ea_cons (hs := rfl) (e_var 8 rfl (vL 8 rfl rfl rfl)) (ea_one (hs := rfl) (e_var 4 rfl (vL 4 rfl rfl rfl))))) ea_nil)))))))) (.all rfl)) hN rfl (.inl rfl) (.inr rfl) rfl rfl rfl)) hN rfl (.inr rfl) (.inl rfl) rfl rfl rfl)) (by simp only [okb, exb, dputO_eq, g_changed_state] <;> rfl)
set_option maxHeartbeats 8000000 in
theorem ok_l_changed (T : Tx P K mg a) : FnOk P w K mg base (L2.CX P w) 3 (He.ga K "_law_changed") a.l_changedD ["_law_one", "_law_other", "_law_state"] (spF K mg (.pr (.tup (.pr (.list .str) (.pr (.list .str) (.pr (.list (.tup (.pr .str (.pr .str .str)))) (.pr (.list (.tup (.pr .str (.pr .str .str)))) (.list (.tup (.pr .str (.pr .str (.pr (.opt .str) (.pr .str .str))))))))))) (.pr (.tup (.pr (.list .str) (.pr (.list .str) (.pr (.list (.tup (.pr .str (.pr .str .str)))) (.pr (.list (.tup (.pr .str (.pr .str .str)))) (.list (.tup (.pr .str (.pr .str (.pr (.opt .str) (.pr .str .str))))))))))) (.pr (.tup (.pr (.vtup .bool) .bool)) .nl))) (.d (.tup (.pr (.vtup .bool) .bool))) fun x => l_changed x.1 x.2.1 x.2.2.1) := by
  refine fn_bodyD T.l_changed sc_l_changed rfl fun cdv A outer s H E hr tk po x => ?_
  have hN := sc_l_changed.nd
  have hu := hr.units
  exact bs_cast (b_setF (o := .l (.d .str)) 3 (e_catL (e_fld (hi := rfl) (hs := fun _ _ => rfl) (e_var 0 rfl (vL 0 rfl rfl rfl)) (.tl .hd)) (e_frz (o := .l (.d .str)) (e_lc (hs := fun _ => rfl) (his := by decide) rfl hN (own := [("_law_relay", 6)]) (blk_by N_l_changed (defScope s_l_changed) (by decide +kernel)) (i_list (e_fld (hi := rfl) (hs := fun _ _ => rfl) (e_var 0 rfl (vL 0 rfl rfl rfl)) (.tl (.tl .hd)))) (fun _ _ _ _ _ => (g_nm 6 (pg_name hN rfl (.inl rfl) (.inr rfl)))) (fun relay397 _ _ _ _ _ => ts_nil) (fun relay397 _ _ _ _ _ => (e_fld (hi := rfl) (hs := fun _ _ => rfl) (e_var 6 rfl (vL 6 rfl rfl rfl)) .hd))))) (.all rfl) (fun names_here_399 => b_set (r := .o (.l (.d .bool))) 4 (e_lst (n := 0) (hl := by decide) (el_nil (t := .bool))) (.all rfl) (fun movers_400 => bs_seq (G := fun (s : (List Bool)) => [.d (.tup (.pr (.list .str) (.pr (.list .str) (.pr (.list (.tup (.pr .str (.pr .str .str)))) (.pr (.list (.tup (.pr .str (.pr .str .str)))) (.list (.tup (.pr .str (.pr .str (.pr (.opt .str) (.pr .str .str))))))))))) x.1, .d (.tup (.pr (.list .str) (.pr (.list .str) (.pr (.list (.tup (.pr .str (.pr .str .str)))) (.pr (.list (.tup (.pr .str (.pr .str .str)))) (.list (.tup (.pr .str (.pr .str (.pr (.opt .str) (.pr .str .str))))))))))) x.2.1, .d (.tup (.pr (.vtup .bool) .bool)) x.2.2.1, .d (.list .str) names_here_399, .o (.l (.d .bool)) s, .no, .no]) (s1_for (hix := fun _ => all_ix rfl) (hs := fun _ => rfl) (t := .str) (G := fun (s : (List Bool)) => [.d (.tup (.pr (.list .str) (.pr (.list .str) (.pr (.list (.tup (.pr .str (.pr .str .str)))) (.pr (.list (.tup (.pr .str (.pr .str .str)))) (.list (.tup (.pr .str (.pr .str (.pr (.opt .str) (.pr .str .str))))))))))) x.1, .d (.tup (.pr (.list .str) (.pr (.list .str) (.pr (.list (.tup (.pr .str (.pr .str .str)))) (.pr (.list (.tup (.pr .str (.pr .str .str)))) (.list (.tup (.pr .str (.pr .str (.pr (.opt .str) (.pr .str .str))))))))))) x.2.1, .d (.tup (.pr (.vtup .bool) .bool)) x.2.2.1, .d (.list .str) names_here_399, .o (.l (.d .bool)) s, .no, .no]) (s0 := movers_400) (f := (l_changed_b1 x.2.2.1 names_here_399)) po rfl (is_hid (i_list (e_frz (o := .l (.d .str)) (e_catL (e_fld (hi := rfl) (hs := fun _ _ => rfl) (e_var 1 rfl (vL 1 rfl rfl rfl)) (.tl .hd)) (e_frz (o := .l (.d .str)) (e_lc (hs := fun _ => rfl) (his := by decide) rfl hN (own := [("_law_relay", 6)]) (blk_by N_l_changed (defScope s_l_changed) (by decide +kernel)) (i_list (e_fld (hi := rfl) (hs := fun _ _ => rfl) (e_var 1 rfl (vL 1 rfl rfl rfl)) (.tl (.tl .hd)))) (fun _ _ _ _ _ => (g_nm 6 (pg_name hN rfl (.inl rfl) (.inr rfl)))) (fun relay401 _ _ _ _ _ => ts_nil) (fun relay401 _ _ _ _ _ => (e_fld (hi := rfl) (hs := fun _ _ => rfl) (e_var 6 rfl (vL 6 rfl rfl rfl)) .hd)))))))) (g_nm 5 (pg_name hN rfl (.inl rfl) (.inr rfl))) (fun s403 name404 => bs_cast (bs_app 4 (t := .bool) (hbase := rfl) (hfew := rfl) (hline := rfl) (hs := rfl) (hpl := rfl) rfl (vL 4 rfl rfl rfl) (e_and (e_c2 (hm := by with_unfolding_all rfl) (c_inL .str (e_var 5 rfl (vL 5 rfl rfl rfl)) (e_var 3 rfl (vL 3 rfl rfl rfl)))) (e_b1 (e_ixT (hs := fun _ _ => rfl) (e_fld (hi := rfl) (hs := fun _ _ => rfl) (e_var 2 rfl (vL 2 rfl rfl rfl)) .hd) (e_index (t := .str) hu rfl (by decide) (e_var 3 rfl (vL 3 rfl rfl rfl)) (e_var 5 rfl (vL 5 rfl rfl rfl)) rfl rfl rfl rfl rfl)))) (.all rfl) (fun movers_406 => bs_nil (b := movers_406) rfl (.same (.same (.same (.same (.same (.no (.same .nil))))))))) (by simp only [okb, exb, dputO_eq, l_changed_b1] <;> rfl)) (.same (.same (.same (.same (.same (.same (.same .nil)))))))) (fun s408 => b_ret (r := .d (.tup (.pr (.vtup .bool) .bool))) (e_tup (hl := rfl) (ea_cons (hs := rfl) (by exact e_tupL (t := .bool) (hs := rfl) rfl T.b_tuple (e_own 4 (o := .l (.d .bool)) rfl (vL 4 rfl rfl rfl))) (ea_one (hs := rfl) (e_or (e_fld (hi := rfl) (hs := fun _ _ => rfl) (e_var 2 rfl (vL 2 rfl rfl rfl)) (.tl (.last rfl))) (e_b1 (e_call (x := "_law_short") (hdb := rfl) (he := by rfl) (hpl := by rfl) (ok_l_short T) (hr.mono (by decide)) rfl T.glo__law_short T.l_short.kp T.l_short_b tk (ea_cons (hs := rfl) (e_var 1 rfl (vL 1 rfl rfl rfl)) (ea_cons (hs := rfl) (by exact e_tupL (t := .bool) (hs := rfl) rfl T.b_tuple (e_own 4 (o := .l (.d .bool)) rfl (vL 4 rfl rfl rfl))) ea_nil)))))))) (.all rfl))) hN rfl (.inl rfl) (.inr rfl) rfl rfl rfl) hN rfl (.inl rfl) (.inr rfl) rfl rfl rfl) (by simp only [okb, exb, dputO_eq, l_changed] <;> rfl)
def l_law_c7 (a_script : (List Int)) (numbers_here_37 : (List Int)) (p236 : (((List Str) × (List Str) × (List (Str × Str × Str)) × (List (Str × Str × Str)) × (List (Str × Str × (Option Str) × Str × Str))) × ((List Str) × (List Str) × (List (Str × Str × Str)) × (List (Str × Str × Str)) × (List (Str × Str × (Option Str) × Str × Str))))) (movers_240 : (List Bool)) (state_278 : ((List Bool) × Bool)) (first_here_337 : D_Board) (second_338 : D_Board) (actual_396 : ((List Bool) × Bool)) : Mx Bool :=
  (if (!true) then .ok true else .ok (!true)) >>= fun v417 => if v417 then .ok false else (((l_changed p236.1 p236.2 state_278) >>= fun v411 => .ok (!decide (actual_396 = v411))) >>= fun v413 => if v413 then .ok true else (g_changed_state first_here_337 first_here_337 state_278) >>= fun v412 => .ok (!decide (v412 = state_278))) >>= fun v416 => if v416 then .ok false else (g_changed_state second_338 first_here_337 actual_396) >>= fun v414 => (l_changed p236.2 p236.1 actual_396) >>= fun v415 => .ok (decide (v414 = v415))
set_option maxHeartbeats 8000000 in
theorem cut_l_law_c7 (T : Tx P K mg a) (a_script : (List Int)) (numbers_here_37 : (List Int)) (p236 : (((List Str) × (List Str) × (List (Str × Str × Str)) × (List (Str × Str × Str)) × (List (Str × Str × (Option Str) × Str × Str))) × ((List Str) × (List Str) × (List (Str × Str × Str)) × (List (Str × Str × Str)) × (List (Str × Str × (Option Str) × Str × Str))))) (movers_240 : (List Bool)) (state_278 : ((List Bool) × Bool)) (first_here_337 : D_Board) (second_338 : D_Board) (actual_396 : ((List Bool) × Bool)) : CutB P w K mg base N_l_law "law" s_l_law (He.ga K "law") 7 [] [.d .scr a_script, .d (.list .int) numbers_here_37, .d (.tup (.pr (.list .str) (.pr (.list .str) (.pr (.list (.tup (.pr .str (.pr .str .str)))) (.pr (.list (.tup (.pr .str (.pr .str .str)))) (.list (.tup (.pr .str (.pr .str (.pr (.opt .str) (.pr .str .str))))))))))) p236.1, .d (.tup (.pr (.list .str) (.pr (.list .str) (.pr (.list (.tup (.pr .str (.pr .str .str)))) (.pr (.list (.tup (.pr .str (.pr .str .str)))) (.list (.tup (.pr .str (.pr .str (.pr (.opt .str) (.pr .str .str))))))))))) p236.2, .d (.vtup .bool) movers_240, .d (.tup (.pr (.vtup .bool) .bool)) state_278, .d (.ins "Board" ns_Board fo_Board.ty) first_here_337, .d (.ins "Board" ns_Board fo_Board.ty) second_338, .d (.tup (.pr (.vtup .bool) .bool)) actual_396, .no] 7 (l_law_c7 a_script numbers_here_37 p236 movers_240 state_278 first_here_337 second_338 actual_396) (fun y => .rt (.d .bool) y) := by
  intro cdv A outer s H E hr tk po
  have hN := sc_l_law.nd
  have hu := hr.units
  exact bs_cast (bs_ifR (hI := fun _ => rfl) (t_w (w_or (t_not (t_of (he := fun _ => rfl) (e_isi (T := "tuple") (T' := "tuple") (res := true) (hs := rfl) rfl T.b_isinstance (e_var 8 rfl (vL 8 rfl rfl rfl)) rfl (n_ty rfl T.b_tuple (by decide +kernel) (by decide) rfl) rfl))) (w_or1 (t_not (t_of (he := fun _ => rfl) (e_isi (T := "tuple") (T' := "tuple") (res := true) (hs := rfl) rfl T.b_isinstance (e_fld (hi := rfl) (hs := fun _ _ => rfl) (e_var 8 rfl (vL 8 rfl rfl rfl)) .hd) rfl (n_ty rfl T.b_tuple (by decide +kernel) (by decide) rfl) rfl)))))) (b_ret (r := .d .bool) e_bool (.all rfl)) (bs_ifR (hI := fun _ => rfl) (t_w (w_or (t_c2 (hm := mark_of _ rfl) (c_ne (t := (.tup (.pr (.vtup .bool) .bool))) (ht := rfl) (hd := by decide) hu (e_var 8 rfl (vL 8 rfl rfl rfl)) (e_call (x := "_law_changed") (hdb := rfl) (he := by rfl) (hpl := by rfl) (ok_l_changed T) (hr.mono (by decide)) rfl T.glo__law_changed T.l_changed.kp T.l_changed_b tk (ea_cons (hs := rfl) (e_var 2 rfl (vL 2 rfl rfl rfl)) (ea_cons (hs := rfl) (e_var 3 rfl (vL 3 rfl rfl rfl)) (ea_cons (hs := rfl) (e_var 5 rfl (vL 5 rfl rfl rfl)) ea_nil)))))) (w_or1 (t_c2 (hm := mark_of _ rfl) (c_ne (t := (.tup (.pr (.vtup .bool) .bool))) (ht := rfl) (hd := by decide) hu (e_call (x := "changed_state") (hdb := rfl) (he := by rfl) (hpl := by rfl) (ok_g_changed_state T) (hr.mono (by decide)) rfl T.glo_changed_state T.g_changed_state.kp T.g_changed_state_b tk (ea_cons (hs := rfl) (e_var 6 rfl (vL 6 rfl rfl rfl)) (ea_cons (hs := rfl) (e_var 6 rfl (vL 6 rfl rfl rfl)) (ea_cons (hs := rfl) (e_var 5 rfl (vL 5 rfl rfl rfl)) ea_nil)))) (e_var 5 rfl (vL 5 rfl rfl rfl))))))) (b_ret (r := .d .bool) e_bool (.all rfl)) (b_ret (r := .d .bool) (e_c2 (hm := mark_of _ rfl) (c_eq (t := (.tup (.pr (.vtup .bool) .bool))) (ht := rfl) (hd := by decide) hu (e_call (x := "changed_state") (hdb := rfl) (he := by rfl) (hpl := by rfl) (ok_g_changed_state T) (hr.mono (by decide)) rfl T.glo_changed_state T.g_changed_state.kp T.g_changed_state_b tk (ea_cons (hs := rfl) (e_var 7 rfl (vL 7 rfl rfl rfl)) (ea_cons (hs := rfl) (e_var 6 rfl (vL 6 rfl rfl rfl)) (ea_cons (hs := rfl) (e_var 8 rfl (vL 8 rfl rfl rfl)) ea_nil)))) (e_call (x := "_law_changed") (hdb := rfl) (he := by rfl) (hpl := by rfl) (ok_l_changed T) (hr.mono (by decide)) rfl T.glo__law_changed T.l_changed.kp T.l_changed_b tk (ea_cons (hs := rfl) (e_var 3 rfl (vL 3 rfl rfl rfl)) (ea_cons (hs := rfl) (e_var 2 rfl (vL 2 rfl rfl rfl)) (ea_cons (hs := rfl) (e_var 8 rfl (vL 8 rfl rfl rfl)) ea_nil)))))) (.all rfl)))) (by simp only [okb, exb, dputO_eq, l_law_c7] <;> rfl)
set_option maxHeartbeats 8000000 in
theorem ok_l_law (T : Tx P K mg a) : FnOk P w K mg base (L2.CX P w) 8 (He.ga K "law") a.l_lawD ["_law_script"] (spF K mg (.pr .scr .nl) (.d .bool) fun x => l_law x.1) := by
  refine fn_bodyD T.l_law sc_l_law rfl fun cdv A outer s H E hr tk po x => ?_
  have hN := sc_l_law.nd
  have hu := hr.units
  exact bs_cast (b_setF (o := .l (.d .int)) 1 (e_call (x := "_law_numbers") (hdb := rfl) (he := by rfl) (hpl := by rfl) (ok_l_numbers T) (hr.mono (by decide)) rfl T.glo__law_numbers T.l_numbers.kp T.l_numbers_b tk (ea_cons (hs := rfl) (e_var 0 rfl (vL 0 rfl rfl rfl)) (ea_cons (hs := rfl) e_int ea_nil))) (.all rfl) (fun numbers_here_37 => bs_asg (t := (.tup (.pr (.tup (.pr (.list .str) (.pr (.list .str) (.pr (.list (.tup (.pr .str (.pr .str .str)))) (.pr (.list (.tup (.pr .str (.pr .str .str)))) (.list (.tup (.pr .str (.pr .str (.pr (.opt .str) (.pr .str .str))))))))))) (.tup (.pr (.list .str) (.pr (.list .str) (.pr (.list (.tup (.pr .str (.pr .str .str)))) (.pr (.list (.tup (.pr .str (.pr .str .str)))) (.list (.tup (.pr .str (.pr .str (.pr (.opt .str) (.pr .str .str)))))))))))))) (hi := all_ix rfl) (hs := rfl) (hw := rfl) (h1 := rfl) (e_call (x := "_law_two") (hdb := rfl) (he := by rfl) (hpl := by rfl) (ok_l_two T) (hr.mono (by decide)) rfl T.glo__law_two T.l_two.kp T.l_two_b tk (ea_cons (hs := rfl) (e_var 1 rfl (vC 1 rfl rfl rfl)) ea_nil)) .hid (g_tup (har := rfl) (hn := rfl) (hst := rfl) rfl (gs_cons (hs := rfl) (g_nm 2 (pg_name hN rfl (.inl rfl) (.inr rfl))) (gs_one (ht := rfl) (hs := rfl) (g_nm 3 (pg_name hN rfl (.inl rfl) (.inr rfl)))))) (fun p236 => b_set (r := .d (.vtup .bool)) 4 (by exact e_tupL (t := .bool) (hs := rfl) rfl T.b_tuple (e_frz (o := .l (.d .bool)) (e_lc (hs := fun _ => rfl) (his := by decide) rfl hN (own := [("_law_k", 9)]) (blk_by N_l_law (defScope s_l_law) (by decide +kernel)) (i_ran1 (hs := rfl) rfl T.b_range (e_add (e_lenL (hs := rfl) rfl T.b_len (e_fld (hi := rfl) (hs := fun _ _ => rfl) (e_var 2 rfl (vL 2 rfl rfl rfl)) (.tl .hd))) (e_lenL (hs := rfl) rfl T.b_len (e_fld (hi := rfl) (hs := fun _ _ => rfl) (e_var 2 rfl (vL 2 rfl rfl rfl)) (.tl (.tl .hd)))))) (fun _ _ _ _ _ => (g_nm 9 (pg_name hN rfl (.inl rfl) (.inr rfl)))) (fun k237 _ _ _ _ _ => ts_nil) (fun k237 _ _ _ _ _ => (e_c2 (hm := mark_of _ rfl) (c_eq (t := .int) (ht := rfl) (hd := by decide) hu (e_call (x := "_law_pick") (hdb := rfl) (he := by rfl) (hpl := by rfl) (ok_l_pick T) (hr.mono (by decide)) rfl T.glo__law_pick T.l_pick.kp T.l_pick_b (tk0) (ea_cons (hs := rfl) (e_var 1 rfl (vC 1 rfl rfl rfl)) (ea_cons (hs := rfl) (e_add e_int (e_var 9 rfl (vL 9 rfl rfl rfl))) (ea_cons (hs := rfl) e_int ea_nil)))) e_int)))))) (.all rfl) (fun movers_240 => b_set (r := .d (.tup (.pr (.vtup .bool) .bool))) 5 (e_tup (hl := rfl) (ea_cons (hs := rfl) (e_var 4 rfl (vL 4 rfl rfl rfl)) (ea_one (hs := rfl) (e_or (e_call (x := "_law_short") (hdb := rfl) (he := by rfl) (hpl := by rfl) (ok_l_short T) (hr.mono (by decide)) rfl T.glo__law_short T.l_short.kp T.l_short_b tk (ea_cons (hs := rfl) (e_var 2 rfl (vL 2 rfl rfl rfl)) (ea_cons (hs := rfl) (e_var 4 rfl (vL 4 rfl rfl rfl)) ea_nil))) (e_b1 (e_c2 (hm := mark_of _ rfl) (c_eq (t := .int) (ht := rfl) (hd := by decide) hu (e_call (x := "_law_pick") (hdb := rfl) (he := by rfl) (hpl := by rfl) (ok_l_pick T) (hr.mono (by decide)) rfl T.glo__law_pick T.l_pick.kp T.l_pick_b tk (ea_cons (hs := rfl) (e_var 1 rfl (vC 1 rfl rfl rfl)) (ea_cons (hs := rfl) e_int (ea_cons (hs := rfl) e_int ea_nil)))) e_int))))))) (.all rfl) (fun state_278 => b_setF (o := .ins "Board" ns_Board fo_Board) 6 (e_call (x := "_law_board") (hdb := rfl) (he := by rfl) (hpl := by rfl) (ok_l_board T) (hr.mono (by decide)) rfl T.glo__law_board T.l_board.kp T.l_board_b tk (ea_cons (hs := rfl) (e_var 2 rfl (vL 2 rfl rfl rfl)) ea_nil)) (.all rfl) (fun first_here_337 => b_setF (o := .ins "Board" ns_Board fo_Board) 7 (e_call (x := "_law_board") (hdb := rfl) (he := by rfl) (hpl := by rfl) (ok_l_board T) (hr.mono (by decide)) rfl T.glo__law_board T.l_board.kp T.l_board_b tk (ea_cons (hs := rfl) (e_var 3 rfl (vL 3 rfl rfl rfl)) ea_nil)) (.all rfl) (fun second_338 => b_set (r := .d (.tup (.pr (.vtup .bool) .bool))) 8 (e_call (x := "changed_state") (hdb := rfl) (he := by rfl) (hpl := by rfl) (ok_g_changed_state T) (hr.mono (by decide)) rfl T.glo_changed_state T.g_changed_state.kp T.g_changed_state_b tk (ea_cons (hs := rfl) (e_var 6 rfl (vL 6 rfl rfl rfl)) (ea_cons (hs := rfl) (e_var 7 rfl (vL 7 rfl rfl rfl)) (ea_cons (hs := rfl) (e_var 5 rfl (vL 5 rfl rfl rfl)) ea_nil)))) (.all rfl) (fun actual_396 => (cut_l_law_c7 T x.1 numbers_here_37 p236 movers_240 state_278 first_here_337 second_338 actual_396 cdv A outer s H E hr tk po)) hN rfl (.inl rfl) (.inr rfl) rfl rfl rfl) hN rfl (.inl rfl) (.inr rfl) rfl rfl rfl) hN rfl (.inl rfl) (.inr rfl) rfl rfl rfl) hN rfl (.inl rfl) (.inr rfl) rfl rfl rfl) hN rfl (.inl rfl) (.inr rfl) rfl rfl rfl)) hN rfl (.inr rfl) (.inl rfl) rfl rfl rfl) (by simp only [okb, exb, dputO_eq, l_law, l_law_c7] <;> ((try delta l_law_c7); (try simp only [okb, exb, dputO_eq]) <;> (first | with_reducible rfl | rfl)))
end Lw
set_option Elab.async false
set_option linter.all false
set_option maxRecDepth 100000
set_option maxHeartbeats 1000000
namespace Lw
open PySem Gm
open L2 hiding app_ok
theorem mem_app1 {xs : List Int} {y : Int} (h : ∀ x ∈ xs, 0 ≤ x ∧ x < 1009) (hy : 0 ≤ y ∧ y < 1009) : ∀ x ∈ xs ++ [y], 0 ≤ x ∧ x < 1009 := fun x hx => by
  rcases List.mem_append.mp hx with hx | hx
  · exact h x hx
  · rw [List.mem_singleton.mp hx]; exact hy
theorem sat_row {c n : Int} (h0 : 0 ≤ n) (h1 : n ≤ 100000) : Sat (l_row c n) (fun l => l.length = n.toNat ∧ ∀ x ∈ l, 0 ≤ x ∧ x < 1009) := by
  unfold l_row
  simp only [okb, Mx.assoc]
  rw [ran_ok (by omega), okb]
  refine Sat.bind (sat_loop (fun i s => s.1.length = i ∧ ∀ x ∈ s.1, 0 ≤ x ∧ x < 1009) ⟨rfl, by simp⟩ fun i s x hx hs => ?_) fun s hs => Sat.ok ⟨by rw [hs.1, iran_len]; omega, hs.2⟩
  obtain ⟨e, hx0, hx1⟩ := iran_get hx
  obtain ⟨hl, hm⟩ := hs
  unfold l_row_b1
  simp only [okb, Mx.assoc]
  rw [pow_ok (by decide) (by decide) (by decide), okb]
  refine Sat.ite (fun _ => ?_) (fun _ => ?_)
  · rw [mod_ok (by decide), okb, app_ok (by omega), okb, div_ok (by decide) (by decide), okb]
    exact Sat.ok ⟨by simp [hl], mem_app1 hm ⟨Int.emod_nonneg _ (by decide), Int.emod_lt_of_pos _ (by decide)⟩⟩
  · rw [mul_r (by decide) (by decide), okb, mul_r (by decide) (by decide), okb, mod_ok (by decide), okb, mul_r (by decide) (by decide), okb, mul_l (by decide) (by decide), okb, mod_ok (by decide), okb, mod_ok (by decide), okb, app_ok (by omega), okb]
    exact Sat.ok ⟨by simp [hl], mem_app1 hm ⟨Int.emod_nonneg _ (by decide), Int.emod_lt_of_pos _ (by decide)⟩⟩
theorem sat_numbers {ns : List Int} {n : Int} (h0 : 0 ≤ n) (h1 : n ≤ 10000) : Sat (l_numbers ns n) (fun l => l.length = n.toNat ∧ ∀ x ∈ l, 0 ≤ x ∧ x < 1009) := by
  unfold l_numbers
  simp only [okb, Mx.assoc]
  rw [cut_to _ (by decide)]
  generalize hc : ns.take (63 : Int).toNat = cs
  have hcl : cs.length ≤ 63 := by rw [← hc, List.length_take]; exact Nat.min_le_left _ _
  generalize hm : (if (cs.length : Int) > 1 then (cs.length : Int) else 1) = m
  have hm1 : 1 ≤ m ∧ m ≤ 63 := by rw [← hm]; split <;> omega
  rw [div_ok (by omega) (by omega), okb]
  generalize he : 1 + n / m = each
  have hdiv : 0 ≤ n / m ∧ n / m ≤ n := ⟨Int.ediv_nonneg h0 (by omega), Int.ediv_le_self _ h0⟩
  refine Sat.bind (sat_loop (fun i s => s.length ≤ i * 10001 ∧ ∀ x ∈ s, 0 ≤ x ∧ x < 1009) ⟨by simp, by simp⟩ fun i s x hx hs => ?_) fun s hs => ?_
  · have hi : i < cs.length := (List.getElem?_eq_some_iff.mp hx).1
    unfold l_numbers_b1
    simp only [okb, Mx.assoc]
    refine (sat_row (by omega) (by omega)).bind fun row hr => ?_
    have hrl : row.length ≤ 10001 := by omega
    refine Sat.bind (sat_loop (fun j s' => s'.length = s.length + j ∧ ∀ x ∈ s', 0 ≤ x ∧ x < 1009) ⟨rfl, hs.2⟩ fun j s' y hy hs' => ?_) fun s' hs' => Sat.ok ⟨?_, hs'.2⟩
    · have hj : j < row.length := (List.getElem?_eq_some_iff.mp hy).1
      unfold l_numbers_b2
      have : i * 10001 ≤ 63 * 10001 := Nat.mul_le_mul_right _ (by omega)
      rw [app_ok (by omega), okb]
      exact Sat.ok ⟨by simp [hs'.1]; omega, mem_app1 hs'.2 (hr.2 y (List.mem_iff_getElem?.mpr ⟨_, hy⟩))⟩
    · rw [Nat.add_mul]; omega
  · have hsl : s.length ≤ 63 * 10001 := Nat.le_trans hs.1 (Nat.mul_le_mul_right _ hcl)
    refine Sat.bind (sat_while (fun s => s.length ≤ 700000 ∧ ∀ x ∈ s, 0 ≤ x ∧ x < 1009) (fun s => n.toNat - s.length) (fun s => n.toNat ≤ s.length ∧ ∀ x ∈ s, 0 ≤ x ∧ x < 1009) (fun s hs => ?_) fuel s ⟨by omega, hs.2⟩ (by rw [fuel_eq]; omega)) fun s hs => ?_
    · unfold l_numbers_b3c
      refine Sat.ok ?_
      by_cases hlt : (s.length : Int) < n
      · rw [decide_eq_true hlt, if_pos rfl]
        unfold l_numbers_b3
        rw [app_ok (by omega), okb]
        exact Sat.ok ⟨⟨by simp; omega, mem_app1 hs.2 (by decide)⟩, by simp; omega⟩
      · rw [decide_eq_false hlt, if_neg Bool.false_ne_true]
        exact ⟨by omega, hs.2⟩
    · rw [cut_to _ h0]
      exact Sat.ok ⟨by rw [List.length_take]; omega, fun x hx => hs.2 x (List.mem_of_mem_take hx)⟩
end Lw
set_option Elab.async false
set_option linter.all false
set_option maxRecDepth 100000
set_option maxHeartbeats 1000000
namespace Lw
open PySem Gm
open L2 hiding app_ok
/-! ### names -/
abbrev al : Str := ("abcdefghijklmnopqrstuvwxyz0123456789" : Str)
def okName (t : Str) : Bool := (decide (1 ≤ t.length) && decide (t.length ≤ 12)) && (t.cps.toList.all fun c => decide (c ∈ al.cps.toList))
theorem inSO_one (c : Nat) (z : Str) : inSO ⟨#[c]⟩ z = some (decide (c ∈ z.cps.toList)) := rfl
theorem is_name_eq {t : Str} (h : t.length ≤ 16777216) : g_Board_is_name t = .ok (okName t) := by
  unfold g_Board_is_name okName
  simp only [okb, Mx.assoc]
  rw [lenS_ok h, okb]
  by_cases h1 : (1 : Int) ≤ (t.length : Int)
  · rw [if_pos (decide_eq_true h1), okb]
    by_cases h2 : (t.length : Int) ≤ 12
    · rw [decide_eq_true h2, Bool.not_true, if_neg Bool.false_ne_true]
      rw [Gm.comp_map (g := fun x => decide (∀ c ∈ x.cps.toList, c ∈ al.cps.toList)) (by simp [signs, size_eq]; exact h) fun x hx => ⟨rfl, ?_⟩, okb]
      · rw [decide_eq_true (by omega : 1 ≤ t.length), decide_eq_true (by omega : t.length ≤ 12)]
        congr 1
        simp [signs, List.all_map, Function.comp_def]
      · unfold signs at hx
        obtain ⟨c, _, rfl⟩ := List.mem_map.mp hx
        show ofO (inSO ⟨#[c]⟩ al) = _
        rw [inSO_one]
        show Mx.ok _ = Mx.ok _
        congr 1
        simp
    · rw [decide_eq_false h2, Bool.not_false, if_pos rfl, decide_eq_false (by omega : ¬ t.length ≤ 12)]
      simp
  · rw [decide_eq_false h1, if_neg Bool.false_ne_true, okb, Bool.not_false, if_pos rfl, decide_eq_false (by omega : ¬ 1 ≤ t.length)]
    simp
/-! ### a loop that only looks -/
theorem loopF_all {α : Type} {p : α → Bool} {f : Unit → α → Mx (Lp Unit Bool)} : ∀ {xs : List α}, (∀ x ∈ xs, f () x = .ok (if p x = true then .go () else .out false)) → (loopF xs () f >>= fwk (fun _ => Mx.ok true) (fun y => y)) = .ok (xs.all p)
  | [], _ => rfl
  | x :: xs, h => by
    unfold loopF
    rw [h x (List.mem_cons_self ..), okb]
    by_cases hp : p x = true
    · rw [if_pos hp, List.all_cons, hp, Bool.true_and]
      exact loopF_all fun y hy => h y (List.mem_cons_of_mem _ hy)
    · rw [if_neg hp, List.all_cons, show p x = false by simpa using hp, Bool.false_and]
      rfl
/-- a list without a repeat -/
def noRep (xs : List Str) : Bool := decide xs.Nodup
def okNames (xs : List Str) (lo hi : Int) : Bool := (decide (lo ≤ (xs.length : Int)) && decide ((xs.length : Int) ≤ hi)) && (xs.all okName && noRep xs)
theorem enum_all {xs : List Str} : ((enumL xs).all fun p => okName p.2 && !decide (p.2 ∈ cut xs none (some p.1))) = (xs.all okName && noRep xs) := by
  rw [Bool.eq_iff_iff]
  simp only [List.all_eq_true, Bool.and_eq_true, Bool.not_eq_true', decide_eq_false_iff_not, noRep, decide_eq_true_eq]
  constructor
  · intro h
    have at_ : ∀ (i : Nat) (x : Str), xs[i]? = some x → okName x = true ∧ x ∉ xs.take i := fun i x hx => by
      have := h _ (List.mem_iff_getElem?.mpr ⟨i, enumL_get hx⟩)
      rw [cut_to _ (by simp : (0 : Int) ≤ (i : Int))] at this
      exact ⟨this.1, by simpa using this.2⟩
    refine ⟨fun x hx => ?_, ?_⟩
    · obtain ⟨i, hi⟩ := List.mem_iff_getElem?.mp hx
      exact (at_ i x hi).1
    · rw [List.nodup_iff_pairwise_ne, List.pairwise_iff_getElem]
      intro i j hi hj hij e
      refine (at_ j xs[j] (List.getElem?_eq_getElem hj)).2 ?_
      rw [← e]
      exact List.mem_iff_getElem?.mpr ⟨i, by rw [List.getElem?_take_of_lt hij]; exact List.getElem?_eq_getElem hi⟩
  · intro ⟨h1, h2⟩ p hp
    obtain ⟨i, hi⟩ := List.mem_iff_getElem?.mp hp
    have hil : i < xs.length := by
      have := (List.getElem?_eq_some_iff.mp hi).1
      rwa [enumL_len] at this
    have e := (enumL_get (List.getElem?_eq_getElem hil)).symm.trans hi
    cases e
    refine ⟨h1 _ (List.getElem_mem hil), ?_⟩
    rw [cut_to _ (by simp : (0 : Int) ≤ (i : Int))]
    intro hm
    obtain ⟨j, hj⟩ := List.mem_iff_getElem?.mp hm
    have hji : j < i := by
      have := (List.getElem?_eq_some_iff.mp hj).1
      rw [List.length_take] at this
      simp at this; omega
    rw [show ((i : Nat) : Int).toNat = i by simp, List.getElem?_take_of_lt hji, List.getElem?_eq_getElem (by omega)] at hj
    rw [List.nodup_iff_pairwise_ne, List.pairwise_iff_getElem] at h2
    exact h2 j i (by omega) hil hji (Option.some.inj hj)
theorem are_names_eq {xs : List Str} {lo hi : Int} (hx : ∀ x ∈ xs, x.length ≤ 16777216) : g_are_names xs lo hi = .ok (okNames xs lo hi) := by
  unfold g_are_names okNames
  have body : ∀ p ∈ enumL xs, g_are_names_b1 xs () p = .ok (if (okName p.2 && !decide (p.2 ∈ cut xs none (some p.1))) = true then .go () else .out false) := fun p hp => by
    have hm : p.2 ∈ xs := by
      obtain ⟨i, hi⟩ := List.mem_iff_getElem?.mp hp
      have hil : i < xs.length := by
        have := (List.getElem?_eq_some_iff.mp hi).1
        rwa [enumL_len] at this
      have e := (enumL_get (List.getElem?_eq_getElem hil)).symm.trans hi
      cases e
      exact List.getElem_mem hil
    unfold g_are_names_b1
    simp only [okb, Mx.assoc]
    rw [is_name_eq (hx _ hm), okb]
    cases okName p.2 <;> cases decide (p.2 ∈ cut xs none (some p.1)) <;> rfl
  have e2 := loopF_all body
  rw [enum_all] at e2
  simp only [okb, Mx.assoc]
  by_cases h1 : lo ≤ (xs.length : Int)
  · rw [if_pos (decide_eq_true h1), okb]
    by_cases h2 : (xs.length : Int) ≤ hi
    · rw [decide_eq_true h2, Bool.not_true, if_neg Bool.false_ne_true, e2, decide_eq_true h1]
      rfl
    · rw [decide_eq_false h2, Bool.not_false, if_pos rfl, Bool.and_false, Bool.false_and]
  · rw [decide_eq_false h1, if_neg Bool.false_ne_true, okb, Bool.not_false, if_pos rfl, Bool.false_and, Bool.false_and]
end Lw
set_option Elab.async false
set_option linter.all false
set_option maxRecDepth 100000
set_option maxHeartbeats 1000000
namespace Lw
open PySem Gm
open L2 hiding app_ok
/-! ### parts of a board -/
def okEnds (a b : Str) (n : List Str) : Bool := decide (a ∈ n) && (decide (b ∈ n) && !decide (a = b))
theorem between_eq {a b : Str} {n : List Str} : g_is_between a b n = .ok (okEnds a b n) := by
  unfold g_is_between okEnds
  cases decide (a ∈ n) <;> cases decide (b ∈ n) <;> rfl
theorem loads_eq {l : List (Str × Str × Str)} {n : List Str} : g_are_loads l n = .ok (l.all fun x => okEnds x.2.1 x.2.2 n) := by
  unfold g_are_loads
  refine loopF_all fun x _ => ?_
  unfold g_are_loads_b1
  simp only [okb, Mx.assoc]
  rw [between_eq, okb]
  cases okEnds x.2.1 x.2.2 n <;> rfl
abbrev Con : Type := Str × Str × (Option Str) × Str × Str
def okCon (c : Con) (n m : List Str) : Bool := okEnds c.1 c.2.1 n && (decide (c.2.2.2.1 ∈ [("make" : Str), ("break" : Str)]) && (decide (c.2.2.2.2 ∈ [("both" : Str), ("forward" : Str)]) &&
  (match c.2.2.1 with
  | none => decide (c.2.2.2.1 = ("make" : Str))
  | some x => decide (x ∈ m))))
theorem contact_eq {c : Con} {n m : List Str} : g_is_contact c n m = .ok (okCon c n m) := by
  unfold g_is_contact okCon
  simp only [okb, Mx.assoc]
  rw [between_eq, okb]
  obtain ⟨c1, c2, c3, c4, c5⟩ := c
  simp only
  cases okEnds c1 c2 n
  · rfl
  · simp only [Bool.not_true, Bool.false_eq_true, if_false, Bool.true_and]
    cases decide (c4 ∈ [("make" : Str), ("break" : Str)])
    · rfl
    · simp only [Bool.not_true, Bool.false_eq_true, if_false, Bool.true_and, okb]
      cases decide (c5 ∈ [("both" : Str), ("forward" : Str)])
      · rfl
      · cases c3 <;> rfl
def bad : Exn := ⟨"InvalidBoard", "", .n⟩
theorem loop_chk {α : Type} {p : α → Bool} {f : Unit → α → Mx Unit} : ∀ {xs : List α}, (∀ x ∈ xs, f () x = if p x = true then .ok () else .ex bad) → loopS xs () f = if xs.all p = true then .ok () else .ex bad
  | [], _ => rfl
  | x :: xs, h => by
    unfold loopS
    rw [h x (List.mem_cons_self ..), List.all_cons]
    by_cases hp : p x = true
    · rw [if_pos hp, okb, hp, Bool.true_and]
      exact loop_chk fun y hy => h y (List.mem_cons_of_mem _ hy)
    · rw [if_neg hp, exb, show p x = false by simpa using hp, Bool.false_and, if_neg Bool.false_ne_true]
theorem cons_eq {cs : List Con} {n m : List Str} : loopS cs () (g_Board_init_b1 n m) = if (cs.all fun c => okCon c n m) = true then .ok () else .ex bad := by
  refine loop_chk fun c _ => ?_
  unfold g_Board_init_b1
  rw [contact_eq, okb, okb]
  cases okCon c n m <;> rfl
end Lw
set_option Elab.async false
set_option linter.all false
set_option maxRecDepth 100000
set_option maxHeartbeats 1000000
namespace Lw
open PySem Gm
open L2 hiding app_ok
def mvs (s : List Str) (r : List (Str × Str × Str)) : List Str := s ++ r.map (·.1)
def okBoard (n : List Str) (l : List (Str × Str × Str)) (s : List Str) (r : List (Str × Str × Str)) (c : List Con) : Bool :=
  okNames n 2 16 && (decide (s.length ≤ 6) && (okNames (mvs s r) 0 14 && (decide (r.length ≤ 8) && (okNames (l.map (·.1)) 1 8 && ((r.all fun x => okEnds x.2.1 x.2.2 n) && ((l.all fun x => okEnds x.2.1 x.2.2 n) && (decide (c.length ≤ 40) && c.all fun x => okCon x n (mvs s r))))))))
theorem mapid {α : Type} {xs : List α} (h : xs.length ≤ 16777216) : compO xs (compF (fun _ => .ok true) (fun x => .ok x)) = .ok xs := by
  rw [Gm.comp_map (g := fun x => x) (by rw [size_eq]; exact h) fun x _ => ⟨rfl, rfl⟩]; simp
theorem init_eq {n : List Str} {l : List (Str × Str × Str)} {s : List Str} {r : List (Str × Str × Str)} {c : List Con} (hn : ∀ x ∈ n, x.length ≤ 16777216) (hm : ∀ x ∈ mvs s r, x.length ≤ 16777216) (hl : ∀ x ∈ l.map (·.1), x.length ≤ 16777216)
    (z1 : s.length + r.length ≤ 1000000) (z2 : l.length ≤ 1000000) (z3 : c.length ≤ 1000000) : g_Board_init n l s r c = if okBoard n l s r c = true then .ok (n, s, r, l, c, ()) else .ex bad := by
  unfold g_Board_init okBoard
  simp only [okb, Mx.assoc]
  rw [are_names_eq hn, okb]
  cases okNames n 2 16 with
  | false => rfl
  | true =>
    simp only [Bool.not_true, Bool.false_eq_true, if_false, okb, Bool.true_and]
    by_cases h2 : s.length ≤ 6
    · rw [decide_eq_false (by omega : ¬ (6 : Int) < (s.length : Int)), decide_eq_true h2]
      simp only [Bool.false_eq_true, if_false, Bool.true_and]
      rw [Gm.comp_map (g := fun x : Str × Str × Str => x.1) (by rw [size_eq]; omega) fun x _ => ⟨rfl, rfl⟩, okb, cat_ok (by rw [List.length_map]; omega), okb]
      change (g_are_names (mvs s r) 0 (6 + 8) >>= _) = _
      rw [are_names_eq hm, okb, show ((6 : Int) + 8) = 14 from rfl]
      cases okNames (mvs s r) 0 14 with
      | false => rfl
      | true =>
        simp only [Bool.not_true, Bool.false_eq_true, if_false, okb, Bool.true_and]
        by_cases h4 : r.length ≤ 8
        · rw [decide_eq_false (by omega : ¬ (8 : Int) < (r.length : Int)), decide_eq_true h4]
          simp only [Bool.false_eq_true, if_false, Bool.true_and]
          rw [Gm.comp_map (g := fun x : Str × Str × Str => x.1) (by rw [size_eq]; omega) fun x _ => ⟨rfl, rfl⟩, okb, are_names_eq hl, okb]
          cases okNames (l.map (·.1)) 1 8 with
          | false => rfl
          | true =>
            simp only [Bool.not_true, Bool.false_eq_true, if_false, okb, Bool.true_and]
            rw [loads_eq, okb]
            cases (r.all fun x => okEnds x.2.1 x.2.2 n) with
            | false => rfl
            | true =>
              simp only [Bool.not_true, Bool.false_eq_true, if_false, okb, Bool.true_and]
              rw [loads_eq, okb]
              cases (l.all fun x => okEnds x.2.1 x.2.2 n) with
              | false => rfl
              | true =>
                simp only [Bool.not_true, Bool.false_eq_true, if_false, okb, Bool.true_and]
                by_cases h8 : c.length ≤ 40
                · rw [decide_eq_false (by omega : ¬ (40 : Int) < (c.length : Int)), decide_eq_true h8]
                  simp only [Bool.false_eq_true, if_false, Bool.true_and]
                  rw [cons_eq, show s ++ List.map (fun x => x.fst) r = mvs s r from rfl]
                  cases (c.all fun x => okCon x n (mvs s r)) with
                  | false => rfl
                  | true =>
                    simp only [if_true, okb]
                    rw [mapid (by omega), okb, mapid (by omega), okb, mapid (by omega), okb]
                · rw [decide_eq_true (by omega : (40 : Int) < (c.length : Int)), decide_eq_false h8]; rfl
        · rw [decide_eq_true (by omega : (8 : Int) < (r.length : Int)), decide_eq_false h4]; rfl
    · rw [decide_eq_true (by omega : (6 : Int) < (s.length : Int)), decide_eq_false h2]; rfl
end Lw
set_option Elab.async false
set_option linter.all false
set_option maxRecDepth 100000
set_option maxHeartbeats 1000000
namespace Lw
open PySem Gm
open L2 hiding app_ok
/-! ### the law's drawn board -/
abbrev Load : Type := Str × Str × Str
abbrev Spec : Type := List Str × List Str × List Load × List Load × List Con
def okSpec (sp : Spec) : Bool := okBoard sp.1 sp.2.2.2.1 sp.2.1 sp.2.2.1 sp.2.2.2.2
theorem okNames_of {xs : List Str} {lo hi : Int} (h1 : lo ≤ (xs.length : Int)) (h2 : (xs.length : Int) ≤ hi) (h3 : ∀ x ∈ xs, okName x = true) (h4 : xs.Nodup) : okNames xs lo hi = true := by
  unfold okNames noRep
  rw [decide_eq_true h1, decide_eq_true h2, decide_eq_true h4, List.all_eq_true.mpr h3]; rfl
/-- the board is made -/
theorem okNames_len {xs : List Str} {lo hi : Int} (h : okNames xs lo hi = true) : lo ≤ (xs.length : Int) ∧ (xs.length : Int) ≤ hi ∧ (∀ x ∈ xs, x.length ≤ 12) ∧ xs.Nodup := by
  unfold okNames noRep at h
  simp only [Bool.and_eq_true, decide_eq_true_eq, List.all_eq_true] at h
  refine ⟨h.1.1, h.1.2, fun x hx => ?_, h.2.2⟩
  have := h.2.1 x hx
  unfold okName at this
  simp only [Bool.and_eq_true, decide_eq_true_eq] at this
  exact this.1.2
structure Wf (sp : Spec) : Prop where
  nd : sp.1.Nodup
  n2 : 2 ≤ sp.1.length
  n16 : sp.1.length ≤ 16
  nl : ∀ x ∈ sp.1, x.length ≤ 12
  s6 : sp.2.1.length ≤ 6
  md : (mvs sp.2.1 sp.2.2.1).Nodup
  ml : ∀ x ∈ mvs sp.2.1 sp.2.2.1, x.length ≤ 12
  r8 : sp.2.2.1.length ≤ 8
  l1 : 1 ≤ sp.2.2.2.1.length
  l8 : sp.2.2.2.1.length ≤ 8
  ll : ∀ x ∈ sp.2.2.2.1.map (·.1), x.length ≤ 12
  ld : (sp.2.2.2.1.map (·.1)).Nodup
  re : ∀ x ∈ sp.2.2.1, okEnds x.2.1 x.2.2 sp.1 = true
  le : ∀ x ∈ sp.2.2.2.1, okEnds x.2.1 x.2.2 sp.1 = true
  c40 : sp.2.2.2.2.length ≤ 40
  ce : ∀ x ∈ sp.2.2.2.2, okCon x sp.1 (mvs sp.2.1 sp.2.2.1) = true
theorem wf_of {sp : Spec} (h : okSpec sp = true) : Wf sp := by
  unfold okSpec okBoard at h
  simp only [Bool.and_eq_true, decide_eq_true_eq, List.all_eq_true] at h
  obtain ⟨h1, h2, h3, h4, h5, h6, h7, h8, h9⟩ := h
  have a := okNames_len h1
  have b := okNames_len h3
  have c := okNames_len h5
  rw [List.length_map] at c
  exact ⟨a.2.2.2, by omega, by omega, a.2.2.1, h2, b.2.2.2, b.2.2.1, h4, by omega, by omega, c.2.2.1, c.2.2.2, h6, h7, h8, h9⟩
abbrev bd (sp : Spec) : D_Board := (sp.1, sp.2.1, sp.2.2.1, sp.2.2.2.1, sp.2.2.2.2, ())
theorem init_ok {sp : Spec} (h : okSpec sp = true) : g_Board_init sp.1 sp.2.2.2.1 sp.2.1 sp.2.2.1 sp.2.2.2.2 = .ok (bd sp) := by
  have w := wf_of h
  have r8 := w.r8
  have s6 := w.s6
  have l8 := w.l8
  have c40 := w.c40
  rw [init_eq (fun x hx => Nat.le_trans (w.nl x hx) (by decide)) (fun x hx => Nat.le_trans (w.ml x hx) (by decide)) (fun x hx => Nat.le_trans (w.ll x hx) (by decide)) (by omega) (by omega) (by omega)]
  unfold okSpec at h
  rw [h, if_pos rfl]
/-! ### contacts that are closed, the pairs that they join -/
def opn (ms : List Str) (on : List Bool) (c : Con) : Bool := match c.2.2.1 with
  | none => true
  | some m => decide (on[ms.idxOf m]?.getD false = decide (c.2.2.2.1 = ("make" : Str)))
def prC (c : Con) : List (Str × Str) := (c.1, c.2.1) :: (if c.2.2.2.2 = ("both" : Str) then [(c.2.1, c.1)] else [])
def prsOf (ms : List Str) (on : List Bool) (l : List Con) : List (Str × Str) := ((l.filter (opn ms on)).map prC).flatten
abbrev mvS (sp : Spec) : List Str := mvs sp.2.1 sp.2.2.1
abbrev prS (sp : Spec) (on : List Bool) : List (Str × Str) := prsOf (mvS sp) on sp.2.2.2.2
theorem prC_len (c : Con) : (prC c).length ≤ 2 := by unfold prC; split <;> simp
theorem flat_le {l : List Con} : ((l.map prC).flatten).length ≤ 2 * l.length := by
  induction l with
  | nil => simp
  | cons c l ih =>
    rw [List.map_cons, List.flatten_cons, List.length_append, List.length_cons]
    have := prC_len c
    omega
theorem prS_len {sp : Spec} (w : Wf sp) (on : List Bool) : (prS sp on).length ≤ 80 := by
  have := flat_le (l := sp.2.2.2.2.filter (opn (mvS sp) on))
  have h2 := List.length_filter_le (opn (mvS sp) on) sp.2.2.2.2
  have h3 := w.c40
  unfold prS prsOf; omega
theorem okEnds_mem {a b : Str} {n : List Str} (h : okEnds a b n = true) : a ∈ n ∧ b ∈ n ∧ a ≠ b := by
  unfold okEnds at h
  simp only [Bool.and_eq_true, decide_eq_true_eq, Bool.not_eq_true', decide_eq_false_iff_not] at h
  exact ⟨h.1, h.2.1, h.2.2⟩
theorem okCon_mem {c : Con} {n ms : List Str} (h : okCon c n ms = true) : okEnds c.1 c.2.1 n = true ∧ ∀ m, c.2.2.1 = some m → m ∈ ms := by
  unfold okCon at h
  simp only [Bool.and_eq_true, decide_eq_true_eq] at h
  refine ⟨h.1, fun m e => ?_⟩
  have := h.2.2.2
  rw [e] at this
  exact of_decide_eq_true this
theorem prS_mem {sp : Spec} (w : Wf sp) {on : List Bool} {p : Str × Str} (h : p ∈ prS sp on) : p.1 ∈ sp.1 ∧ p.2 ∈ sp.1 := by
  unfold prS prsOf at h
  obtain ⟨l, hl, hp⟩ := List.mem_flatten.mp h
  obtain ⟨c, hc, rfl⟩ := List.mem_map.mp hl
  have := okEnds_mem (okCon_mem (w.ce c (List.mem_filter.mp hc).1)).1
  unfold prC at hp
  rcases List.mem_cons.mp hp with rfl | hp
  · exact ⟨this.1, this.2.1⟩
  · split at hp
    · rw [List.mem_singleton.mp hp]; exact ⟨this.2.1, this.1⟩
    · cases hp
theorem mvs_len {sp : Spec} (w : Wf sp) : (mvS sp).length ≤ 14 := by
  have := w.s6; have := w.r8
  unfold mvS mvs; rw [List.length_append, List.length_map]; omega
theorem gmovers_eq {sp : Spec} (w : Wf sp) : g_Board_movers (bd sp) = .ok (mvS sp) := by
  have s6 := w.s6; have r8 := w.r8
  unfold g_Board_movers
  have e1 : (bd sp).2.2.1.length ≤ 8 := r8
  have e2 : (bd sp).2.1.length ≤ 6 := s6
  rw [Gm.comp_map (g := fun x : Str × Str × Str => x.1) (by rw [size_eq]; omega) fun x _ => ⟨rfl, rfl⟩, okb, cat_ok (by rw [List.length_map]; omega)]
  rfl
theorem on_at {ms : List Str} {on : List Bool} {m : Str} (h : m ∈ ms) (hl : on.length = ms.length) : ofO (atI on ((ms.idxOf m : Nat) : Int)) = .ok (on[ms.idxOf m]?.getD false) := by
  have hi := List.idxOf_lt_length_of_mem h
  have e : on[ms.idxOf m]? = some on[ms.idxOf m] := List.getElem?_eq_getElem (by omega)
  rw [at_ok (by omega) (show on[((ms.idxOf m : Nat) : Int).toNat]? = some on[ms.idxOf m] from e), e]; rfl
/-! ### what is reached -/
theorem sat_reached {ps : List (Str × Str)} {a : Str} (hp : ps.length ≤ 1000) : Sat (g_reached ps a) fun f => ∀ x, x ∈ f ↔ Rch ps a x := by
  unfold g_reached
  simp only [okb, Mx.assoc]
  have bound : ∀ {f : List Str}, f.Nodup → (∀ x ∈ f, Rch ps a x) → f.length ≤ ps.length + 1 := fun {f} nd h => by
    have := nodup_le (m := a :: ps.map (·.2)) nd fun x hx => by
      cases h x hx with
      | refl => exact List.mem_cons_self ..
      | step _ hq => exact List.mem_cons_of_mem _ (List.mem_map.mpr ⟨_, hq, rfl⟩)
    simpa using this
  refine Sat.bind (sat_while (fun s => s.1.Nodup ∧ a ∈ s.1 ∧ (∀ x ∈ s.1, Rch ps a x) ∧ 0 ≤ s.2 ∧ s.2 ≤ (s.1.length : Int) ∧ ∀ (i : Nat) (x : Str), (i : Int) < s.2 → s.1[i]? = some x → ∀ p ∈ ps, p.1 = x → p.2 ∈ s.1)
    (fun s => ps.length + 1 - s.2.toNat) (fun s => ∀ x, x ∈ s.1 ↔ Rch ps a x) (fun s hs => ?_) fuel ([a], 0) ⟨by simp, by simp, by simp; exact .refl, Int.le_refl 0, by simp, fun i x hi => by simp at hi; omega⟩ (by rw [fuel_eq]; omega)) fun s hs => Sat.ok hs
  obtain ⟨nd, ha, hr, p0, p1, hc⟩ := hs
  have hb := bound nd hr
  unfold g_reached_b1c
  refine Sat.ok ?_
  by_cases hlt : s.2 < (s.1.length : Int)
  · rw [decide_eq_true hlt, if_pos rfl]
    unfold g_reached_b1
    have hx : s.1[s.2.toNat]? = some (s.1[s.2.toNat]'(by omega)) := List.getElem?_eq_getElem (by omega)
    generalize s.1[s.2.toNat]'(by omega) = cur at hx
    refine Sat.bind (sat_loop (fun j f => f.Nodup ∧ (∀ x ∈ f, Rch ps a x) ∧ (∀ (i : Nat) (x : Str), s.1[i]? = some x → f[i]? = some x) ∧ ∀ p ∈ ps.take j, p.1 = cur → p.2 ∈ f) ⟨nd, hr, fun i x e => e, by simp⟩ fun j f p hp hf => ?_) fun f hf => ?_
    · obtain ⟨f1, f2, f3, f4⟩ := hf
      have hfb := bound f1 f2
      unfold g_reached_b2
      rw [at_ok p0 (f3 _ _ hx), okb]
      have hps : p ∈ ps := List.mem_of_getElem? hp
      have hpj : ps.take (j + 1) = ps.take j ++ [p] := by rw [List.take_succ, hp]; rfl
      have sub : ∀ x ∈ s.1, x ∈ f := fun x hx => by
        obtain ⟨i, hi⟩ := List.mem_iff_getElem?.mp hx
        exact List.mem_of_getElem? (f3 i x hi)
      by_cases e1 : p.1 = cur
      · by_cases e2 : p.2 ∈ f
        · simp only [okb, e1, e2, decide_true, Bool.not_true, if_true, Bool.false_eq_true, if_false]
          exact Sat.ok ⟨f1, f2, f3, fun q hq hqc => by
            rw [hpj] at hq
            rcases List.mem_append.mp hq with hq | hq
            · exact f4 q hq hqc
            · rw [List.mem_singleton.mp hq]; exact e2⟩
        · simp only [okb, e1, e2, decide_true, decide_false, Bool.not_false, if_true]
          rw [app_ok (by omega), okb]
          refine Sat.ok ⟨nodup_snoc f1 e2, fun x hx' => ?_, fun i x e => ?_, fun q hq hqc => ?_⟩
          · rcases List.mem_append.mp hx' with hx' | hx'
            · exact f2 x hx'
            · rw [List.mem_singleton.mp hx']
              have : Rch ps a cur := hr _ (List.mem_of_getElem? hx)
              exact .step (x := cur) this (by rw [← e1]; exact hps)
          · have := f3 i x e
            rw [List.getElem?_append_left (List.getElem?_eq_some_iff.mp this).1]; exact this
          · rw [hpj] at hq
            rcases List.mem_append.mp hq with hq | hq
            · exact List.mem_append_left _ (f4 q hq hqc)
            · rw [List.mem_singleton.mp hq]; simp
      · simp only [okb, e1, decide_false, Bool.false_eq_true, if_false]
        exact Sat.ok ⟨f1, f2, f3, fun q hq hqc => by
          rw [hpj] at hq
          rcases List.mem_append.mp hq with hq | hq
          · exact f4 q hq hqc
          · rw [List.mem_singleton.mp hq] at hqc; exact absurd hqc e1⟩
    · obtain ⟨f1, f2, f3, f4⟩ := hf
      have hfb := bound f1 f2
      rw [List.take_length] at f4
      have sub : ∀ x ∈ s.1, x ∈ f := fun x hx => by
        obtain ⟨i, hi⟩ := List.mem_iff_getElem?.mp hx
        exact List.mem_of_getElem? (f3 i x hi)
      have hlen : s.1.length ≤ f.length := nodup_le nd sub
      rw [okb]
      refine Sat.ok ⟨⟨f1, sub a ha, f2, by simp only; omega, by simp only; omega, fun i x hi hix p hp e => ?_⟩, by simp only; omega⟩
      simp only at hi hix
      have hil : i < s.1.length := by omega
      have h1 := f3 i _ (List.getElem?_eq_getElem hil)
      rw [hix] at h1
      have h2 : s.1[i]? = some x := by rw [List.getElem?_eq_getElem hil]; exact h1.symm
      by_cases hii : (i : Int) < s.2
      · exact sub _ (hc i x hii h2 p hp e)
      · have : i = s.2.toNat := by omega
        subst this
        rw [hx] at h2
        exact f4 p hp (e.trans (Option.some.inj h2).symm)
  · rw [decide_eq_false hlt, if_neg Bool.false_ne_true]
    refine fun x => ⟨fun hx => hr x hx, fun r => rch_mem ha (fun p hp h1 => ?_) r⟩
    obtain ⟨i, hi⟩ := List.mem_iff_getElem?.mp h1
    have hil := (List.getElem?_eq_some_iff.mp hi).1
    exact hc i _ (by omega) hi p hp rfl
/-! ### the program's words on current -/
theorem closes_eq {c : Con} {on : Bool} : g_closes c on = .ok (match c.2.2.1 with | none => true | some _ => decide (on = decide (c.2.2.2.1 = ("make" : Str)))) := by
  unfold g_closes
  cases c.2.2.1 <;> rfl
def closN (ms : List Str) (on : List Bool) (l : List Con) : List Int := ((enumL l).filter fun p => opn ms on p.2).map (·.1)
theorem enumL_mem {α : Type} {l : List α} {p : Int × α} (h : p ∈ enumL l) : ∃ i : Nat, p.1 = (i : Int) ∧ l[i]? = some p.2 := by
  obtain ⟨i, hi⟩ := List.mem_iff_getElem?.mp h
  have hil : i < l.length := by
    have := (List.getElem?_eq_some_iff.mp hi).1
    rwa [enumL_len] at this
  have e := (enumL_get (List.getElem?_eq_getElem hil)).symm.trans hi
  cases e
  exact ⟨i, rfl, List.getElem?_eq_getElem hil⟩
theorem clos_eq {sp : Spec} (w : Wf sp) {on : List Bool} (hl : on.length = (mvS sp).length) (bl : Bool) : g_closed_contacts (bd sp) (on, bl) = .ok (closN (mvS sp) on sp.2.2.2.2) := by
  have c40 := w.c40
  have m14 := mvs_len w
  unfold g_closed_contacts
  rw [gmovers_eq w]
  simp only [noEx, okb, Mx.assoc]
  rw [Gm.comp_map (mt := fun _ => .ok true) (me := dcE (fun p => .ok p.2) (fun p => .ok p.1)) (g := fun p : Int × Str => (p.2, p.1)) (by rw [enumL_len, size_eq]; omega) fun p _ => ⟨rfl, rfl⟩]
  simp only [okb]
  have key : ∀ (l : List (Int × Con)) (s : List Int), (∀ p ∈ l, p.2 ∈ sp.2.2.2.2) → s.length + l.length ≤ 1000 → loopS l s (g_closed_contacts_b1 (on, bl) (dmerge ((enumL (mvS sp)).map fun p => (p.2, p.1)))) = .ok (s ++ (l.filter fun p => opn (mvS sp) on p.2).map (·.1)) := by
    intro l
    induction l with
    | nil => intro s _ _; simp [loopS]
    | cons p l ih =>
      intro s hm hs
      rw [List.length_cons] at hs
      unfold loopS
      have e : g_closed_contacts_b1 (on, bl) (dmerge ((enumL (mvS sp)).map fun p => (p.2, p.1))) s p = .ok (s ++ (if opn (mvS sp) on p.2 = true then [p.1] else [])) := by
        have hmv := (okCon_mem (w.ce p.2 (hm p (List.mem_cons_self ..)))).2
        unfold g_closed_contacts_b1
        have e2 : (if p.2.2.2.1.isNone then Mx.ok true else (((((getO p.2.2.2.1) >>= fun v => ofO (dget (dmerge ((enumL (mvS sp)).map fun p => (p.2, p.1))) v)) >>= fun v => ofO (atI on v)) >>= fun v => .ok (v, ())) >>= fun v => .ok (p.2, v)) >>= fun v => g_closes v.1 v.2.1) = .ok (opn (mvS sp) on p.2) := by
          unfold opn
          cases e : p.2.2.2.1 with
          | none => rfl
          | some m =>
            simp only [Option.isNone_some, Bool.false_eq_true, if_false, getO, okb, Mx.assoc]
            rw [enum_idx w.md (hmv m e)]
            rw [show ofO (some ((List.idxOf m (mvs sp.2.1 sp.2.2.1) : Nat) : Int)) = .ok ((List.idxOf m (mvs sp.2.1 sp.2.2.1) : Nat) : Int) from rfl, okb]
            rw [on_at (hmv m e) hl, okb, closes_eq, e]
        rw [e2, okb]
        cases opn (mvS sp) on p.2 with
        | false => simp
        | true => simp only [if_true]; rw [app_ok (by omega), okb]
      rw [e, okb, ih _ (fun q hq => hm q (List.mem_cons_of_mem _ hq))]
      · rw [List.filter_cons]
        cases opn (mvS sp) on p.2 <;> simp
      · rw [List.length_append]; split <;> simp <;> omega
  rw [key _ _ (fun p hp => by obtain ⟨i, _, hi⟩ := enumL_mem hp; exact List.mem_of_getElem? hi) (by rw [enumL_len]; simp; omega), okb]
  simp [closN]
theorem paths_eq {sp : Spec} (w : Wf sp) {on : List Bool} (hl : on.length = (mvS sp).length) (bl : Bool) : g_paths (bd sp) (on, bl) = .ok (prS sp on) := by
  have c40 := w.c40
  unfold g_paths
  rw [okb, clos_eq w hl, okb]
  have key : ∀ (l : List (Int × Con)) (s : List (Str × Str)), (∀ p ∈ l, ∃ i : Nat, p.1 = (i : Int) ∧ sp.2.2.2.2[i]? = some p.2) → s.length + 2 * l.length ≤ 1000 → loopS (l.map (·.1)) s (g_paths_b1 (bd sp)) = .ok (s ++ (l.map fun p => prC p.2).flatten) := by
    intro l
    induction l with
    | nil => intro s _ _; simp [loopS]
    | cons p l ih =>
      intro s hm hs
      rw [List.length_cons] at hs
      rw [List.map_cons]
      unfold loopS
      obtain ⟨i, e1, e2⟩ := hm p (List.mem_cons_self ..)
      have e : g_paths_b1 (bd sp) s p.1 = .ok (s ++ prC p.2) := by
        unfold g_paths_b1
        rw [at_ok (x := p.2) (by omega) (by rw [e1]; exact e2), okb, app_ok (by omega), okb]
        unfold prC
        by_cases hb : p.2.2.2.2.2 = ("both" : Str)
        · rw [decide_eq_true hb, if_pos rfl, app_ok (by rw [List.length_append, List.length_singleton]; omega), okb, if_pos hb]; simp
        · rw [decide_eq_false hb, if_neg Bool.false_ne_true, if_neg hb]
      rw [e, okb, ih _ (fun q hq => hm q (List.mem_cons_of_mem _ hq)) (by rw [List.length_append]; have := prC_len p.2; omega)]
      simp
  unfold closN
  rw [key _ _ (fun p hp => enumL_mem (List.mem_filter.mp hp).1) (by have h1 := List.length_filter_le (fun p => opn (mvS sp) on p.2) (enumL sp.2.2.2.2); rw [enumL_len] at h1; simp; omega), okb]
  have e : ∀ l : List Con, ((enumL l).filter fun p => opn (mvS sp) on p.2).map (·.2) = l.filter (opn (mvS sp) on) := fun l => by
    have : (enumL l).map (·.2) = l := by
      apply List.ext_getElem?
      intro i
      rw [List.getElem?_map]
      cases h : l[i]? with
      | none => have h1 : (enumL l)[i]? = none := by rw [List.getElem?_eq_none_iff, enumL_len]; exact List.getElem?_eq_none_iff.mp h
                rw [h1]; rfl
      | some y => rw [enumL_get h]; rfl
    conv => rhs; rw [← this, List.filter_map]
    rfl
  unfold prS prsOf
  rw [← e, List.map_map, List.nil_append]; rfl
theorem plus_at {sp : Spec} (w : Wf sp) : ∃ a b, sp.1[0]? = some a ∧ sp.1[1]? = some b ∧ a ∈ sp.1 ∧ b ∈ sp.1 := by
  have := w.n2
  exact ⟨_, _, List.getElem?_eq_getElem (by omega), List.getElem?_eq_getElem (by omega), List.getElem_mem _, List.getElem_mem _⟩
open Classical in
noncomputable def fedS (sp : Spec) (on : List Bool) (a : Str) : List Str := sp.1.filter fun x => decide (Rch (prS sp on) a x)
open Classical in
noncomputable def feedsS (sp : Spec) (on : List Bool) (b : Str) : List Str := sp.1.filter fun x => decide (Rch (prS sp on) x b)
open Classical in
theorem pick_eq {ns f : List Str} {P : Str → Prop} (hz : ns.length ≤ 1000) (h : ∀ x, x ∈ f ↔ P x) : compO ns (compF (fun x => .ok (decide (x ∈ f))) (fun x => .ok x)) = .ok (ns.filter fun x => decide (P x)) := by
  rw [Gm.comp_filter (c := fun x => decide (x ∈ f)) (g := fun x => x) (by rw [size_eq]; omega) fun x _ => ⟨rfl, fun _ => rfl⟩, List.map_id']
  congr 1
  exact filter_congr' fun x _ => decide_eq_decide.mpr (h x)
theorem fed_eq {sp : Spec} (w : Wf sp) {on : List Bool} (hl : on.length = (mvS sp).length) (bl : Bool) {a : Str} (ha : sp.1[0]? = some a) : g_fed (bd sp) (on, bl) = .ok (fedS sp on a) := by
  have hn := w.n16
  unfold g_fed g_Board_plus
  rw [paths_eq w hl]
  simp only [okb, Mx.assoc]
  rw [at_ok (x := a) (by decide) ha]
  simp only [noEx, okb]
  obtain ⟨f, e, hf⟩ := sat_reached (ps := prS sp on) (a := a) (Nat.le_trans (prS_len w on) (by decide))
  rw [e, okb]
  exact pick_eq (ns := sp.1) (Nat.le_trans hn (by decide)) hf
theorem mem_fedS {sp : Spec} {on : List Bool} {a x : Str} (hx : x ∈ sp.1) : x ∈ fedS sp on a ↔ Rch (prS sp on) a x := by
  unfold fedS; rw [List.mem_filter]; simp [hx]
theorem mem_feedsS {sp : Spec} {on : List Bool} {b x : Str} (hx : x ∈ sp.1) : x ∈ feedsS sp on b ↔ Rch (prS sp on) x b := by
  unfold feedsS; rw [List.mem_filter]; simp [hx]
end Lw
set_option Elab.async false
set_option linter.all false
set_option maxRecDepth 100000
set_option maxHeartbeats 1000000
namespace Lw
open PySem Gm
open L2 hiding app_ok
theorem short_eq {sp : Spec} (w : Wf sp) {on : List Bool} (hl : on.length = (mvS sp).length) (bl : Bool) {a b : Str} (ha : sp.1[0]? = some a) (hb : sp.1[1]? = some b) : g_is_short (bd sp) (on, bl) = .ok (decide (b ∈ fedS sp on a)) := by
  unfold g_is_short g_Board_minus
  rw [at_ok (x := b) (by decide) hb]
  simp only [noEx, okb]
  rw [fed_eq w hl bl ha, okb]
end Lw
set_option Elab.async false
set_option linter.all false
set_option maxRecDepth 100000
set_option maxHeartbeats 1000000
namespace Lw
open PySem Gm
open L2 hiding app_ok
/-! ### family A: the drawn board -/
structure Nu (nu : List Int) (k : Nat) : Prop where
  len : nu.length = k
  rng : ∀ x ∈ nu, 0 ≤ x ∧ x < 1009
theorem Nu.at_ {nu : List Int} {k : Nat} (h : Nu nu k) {i : Int} (h0 : 0 ≤ i) (h1 : i < (k : Int)) : Sat (ofO (atI nu i)) fun x => 0 ≤ x ∧ x < 1009 := sat_at h0 (by rw [h.len]; exact h1) h.rng
theorem sat_pick {nu : List Int} {k : Nat} (h : Nu nu k) {i c : Int} (h0 : 0 ≤ i) (h1 : i < (k : Int)) (hc : 0 < c) : Sat (l_pick nu i c) fun x => 0 ≤ x ∧ x < c := by
  unfold l_pick
  refine (h.at_ h0 h1).bind fun v hv => ?_
  rw [mod_ok hc]
  exact Sat.ok ⟨Int.emod_nonneg _ (by omega), Int.emod_lt_of_pos _ hc⟩
theorem pre_all : ((List.range 97).all fun v => (List.range 6).all fun n => match (strO (v : Int)).bind (fun t => repS t (n : Int)) with | some p => decide ((cs p).length ≤ 10) && (cs p).all fun c => decide (c ∈ cs al) && decide (c < 97) | none => false) = true := by decide +kernel
theorem sat_pre {v n : Int} (v0 : 0 ≤ v) (v1 : v < 97) (n0 : 0 ≤ n) (n1 : n < 6) : Sat (ofO (strO v) >>= fun t => ofO (repS t n)) fun p => (cs p).length ≤ 10 ∧ ∀ c ∈ cs p, c ∈ cs al ∧ c < 97 := by
  have h1 := List.all_eq_true.mp pre_all v.toNat (List.mem_range.mpr (by omega))
  have h2 := List.all_eq_true.mp h1 n.toNat (List.mem_range.mpr (by omega))
  rw [show ((v.toNat : Nat) : Int) = v by omega, show ((n.toNat : Nat) : Int) = n by omega] at h2
  cases e1 : strO v with
  | none => rw [e1] at h2; cases h2
  | some t =>
    rw [e1, Option.bind_some] at h2
    show Sat (ofO (repS t n)) _
    cases e2 : repS t n with
    | none => rw [e2] at h2; cases h2
    | some p =>
      rw [e2] at h2
      simp only [Bool.and_eq_true, decide_eq_true_eq, List.all_eq_true] at h2
      exact Sat.ok h2
def isL (c : Nat) : Bool := decide (97 ≤ c)
abbrev a26 : Str := ("abcdefghijklmnopqrstuvwxyz" : Str)
theorem a26_all : ((List.range 26).all fun j => decide ((cs a26)[j]? = some (97 + j)) && decide (97 + j ∈ cs al)) = true := by decide +kernel
theorem a26_len : a26.length = 26 := by decide +kernel
theorem a26_at {j : Nat} (h : j < 26) : (cs a26)[j]? = some (97 + j) ∧ 97 + j ∈ cs al := by
  have := List.all_eq_true.mp a26_all j (List.mem_range.mpr h)
  simp only [Bool.and_eq_true, decide_eq_true_eq] at this
  exact this
theorem okName_of {t : Str} (h1 : 1 ≤ (cs t).length) (h2 : (cs t).length ≤ 12) (h3 : ∀ c ∈ cs t, c ∈ cs al) : okName t = true := by
  unfold okName
  rw [Bool.and_eq_true, Bool.and_eq_true, decide_eq_true_iff, decide_eq_true_iff, List.all_eq_true, cs_len]
  exact ⟨⟨h1, h2⟩, fun c hc => decide_eq_true (h3 c hc)⟩
/-- a name of the row that begins at letter t -/
def Nm (t i : Nat) (x : Str) : Prop := okName x = true ∧ (cs x).filter isL = [97 + t + i]
theorem nm_inj {t i u j : Nat} {x : Str} (h : Nm t i x) (k : Nm u j x) : t + i = u + j := by
  have := h.2.symm.trans k.2
  have := (List.cons.inj this).1
  omega
theorem sat_namesA {s m : Int} {t : Nat} (hs0 : 0 ≤ s) (hs : s < 100000) (hm0 : 0 ≤ m) (hm : m + (t : Int) ≤ 26) : Sat (l_names s m (t : Int)) fun l => l.length = m.toNat ∧ (∀ x ∈ l, ∃ i : Nat, i < m.toNat ∧ Nm t i x) ∧ l.Nodup := by
  unfold l_names
  simp only [okb, Mx.assoc]
  rw [mod_ok (by decide), okb]
  have a0 : 0 ≤ s % 97 := Int.emod_nonneg _ (by decide)
  have a1 : s % 97 < 97 := Int.emod_lt_of_pos _ (by decide)
  have b0 : 0 ≤ s / 97 % 6 := Int.emod_nonneg _ (by decide)
  have b1 : s / 97 % 6 < 6 := Int.emod_lt_of_pos _ (by decide)
  obtain ⟨p, hp, p10, pal⟩ := sat_pre a0 a1 b0 b1
  cases e1 : strO (s % 97) with
  | none => rw [e1] at hp; cases hp
  | some q =>
    rw [e1] at hp
    have hp : ofO (repS q (s / 97 % 6)) = .ok p := hp
    rw [show ofO (some q) = Mx.ok q from rfl, okb, div_ok (by decide) (by decide), okb, mod_ok (by decide), okb, hp, okb]
    have np : ∀ l : List Nat, (∀ c ∈ l, c < 97) → l.filter isL = [] := fun l hl => by
      rw [List.filter_eq_nil_iff]
      intro c hc
      have := hl c hc
      unfold isL
      simp; omega
    rw [ran_ok (by omega), okb]
    refine Sat.bind (sat_loop (fun i (l : List Str) => l.length = i ∧ ∀ (j : Nat) (x : Str), l[j]? = some x → Nm t j x) ⟨rfl, fun j x h => by simp at h⟩ fun i l x hx hl => ?_) fun l hl => ?_
    · obtain ⟨ex, x0, x1⟩ := iran_get hx
      obtain ⟨ll, lp⟩ := hl
      unfold l_names_b1
      simp only [okb, Mx.assoc]
      rw [mod_ok (by decide), okb]
      have hlt : t + i < 26 := by omega
      obtain ⟨c1, c2⟩ := a26_at hlt
      have em : (x + (t : Int)) % 26 = ((t + i : Nat) : Int) := by omega
      rw [em]
      obtain ⟨y, e, c, hc, rfl⟩ := sat_atS (x := a26) (i := ((t + i : Nat) : Int)) (by omega) (by rw [a26_len]; omega) (by rw [a26_len]; decide)
      have hcc : c = 97 + (t + i) := by
        have h1 : (cs a26)[t + i]? = some c := hc
        rw [c1] at h1
        exact (Option.some.inj h1).symm
      subst hcc
      rw [e, okb, div_ok (by decide) (by decide), okb, mod_ok (by decide), okb]
      have e1 : (⟨#[97 + (t + i)]⟩ : Str).length = 1 := rfl
      have fl : ∀ y : Str, (cs y).length = (cs p).length + 1 → (∀ c ∈ cs y, c = 97 + (t + i) ∨ c ∈ cs p) → (cs y).filter isL = [97 + (t + i)] → Nm t i y := fun y h1 h2 h3 => ⟨okName_of (by omega) (by omega) fun c hc => by
        rcases h2 c hc with rfl | h
        · exact c2
        · exact (pal c h).1, by rw [h3, Nat.add_assoc]⟩
      have fin : ∀ y : Str, Nm t i y → (l ++ [y]).length = i + 1 ∧ ∀ (j : Nat) (x : Str), (l ++ [y])[j]? = some x → Nm t j x := fun y hy => ⟨by simp [ll], fun j z hz => by
        by_cases hj : j < l.length
        · rw [List.getElem?_append_left hj] at hz; exact lp j z hz
        · rw [List.getElem?_append_right (by omega)] at hz
          have hj2 : j - l.length = 0 := by
            have := (List.getElem?_eq_some_iff.mp hz).1
            simp at this; omega
          rw [hj2] at hz
          cases hz
          rw [show j = i by omega]; exact hy⟩
      have isl : isL (97 + (t + i)) = true := by unfold isL; exact decide_eq_true (by omega)
      have hpl : p.length ≤ 10 := by rw [cs_len]; exact p10
      refine Sat.ite (fun _ => ?_) fun _ => ?_
      · rw [catS_ok (by rw [e1]; omega), okb, app_ok (by omega), okb]
        refine Sat.ok (fin _ (fl _ ?_ ?_ ?_))
        · rw [cs_app, cs_one]; simp
        · rw [cs_app, cs_one]
          intro c hc
          rcases List.mem_append.mp hc with hc | hc
          · exact .inl (List.mem_singleton.mp hc)
          · exact .inr hc
        · rw [cs_app, cs_one, List.filter_append, np _ fun c hc => (pal c hc).2, List.append_nil, List.filter_cons, isl]; rfl
      · rw [catS_ok (by rw [e1]; omega), okb, app_ok (by omega), okb]
        refine Sat.ok (fin _ (fl _ ?_ ?_ ?_))
        · rw [cs_app, cs_one]; simp
        · rw [cs_app, cs_one]
          intro c hc
          rcases List.mem_append.mp hc with hc | hc
          · exact .inr hc
          · exact .inl (List.mem_singleton.mp hc)
        · rw [cs_app, cs_one, List.filter_append, np _ fun c hc => (pal c hc).2, List.nil_append, List.filter_cons, isl]; rfl
    · obtain ⟨ll, lp⟩ := hl
      rw [iran_len] at ll
      have mem : ∀ x ∈ l, ∃ i : Nat, i < m.toNat ∧ Nm t i x := fun x hx => by
        obtain ⟨i, hi⟩ := List.mem_iff_getElem?.mp hx
        exact ⟨i, by have := (List.getElem?_eq_some_iff.mp hi).1; omega, lp i x hi⟩
      have nd : l.Nodup := by
        rw [List.nodup_iff_pairwise_ne, List.pairwise_iff_getElem]
        intro i j hi hj hij e
        have h1 := lp i _ (List.getElem?_eq_getElem hi)
        have h2 := lp j _ (List.getElem?_eq_getElem hj)
        rw [e] at h1
        have := nm_inj h1 h2
        omega
      rw [div_ok (by decide) (by decide), okb, mod_ok (by decide), okb]
      refine Sat.ite (fun _ => Sat.ok ⟨by rw [List.length_reverse]; omega, fun x hx => mem x (List.mem_reverse.mp hx), by rw [List.nodup_iff_pairwise_ne, List.pairwise_reverse]; exact (List.nodup_iff_pairwise_ne.mp nd).imp fun h => Ne.symm h⟩) fun _ => Sat.ok ⟨by omega, mem, nd⟩
end Lw
set_option Elab.async false
set_option linter.all false
set_option maxRecDepth 100000
set_option maxHeartbeats 1000000
namespace Lw
open PySem Gm
open L2 hiding app_ok
theorem okEnds_at {ns : List Str} (nd : ns.Nodup) {i j : Nat} {x y : Str} (h1 : ns[i]? = some x) (h2 : ns[j]? = some y) (hij : i ≠ j) : okEnds x y ns = true ∧ okEnds y x ns = true := by
  have m1 := List.mem_of_getElem? h1
  have m2 := List.mem_of_getElem? h2
  have ne : x ≠ y := fun e => hij (by
    obtain ⟨a1, a2⟩ := List.getElem?_eq_some_iff.mp h1
    obtain ⟨b1, b2⟩ := List.getElem?_eq_some_iff.mp h2
    exact (List.getElem_inj nd).mp (a2.trans (e.trans b2.symm)))
  unfold okEnds
  rw [decide_eq_true m1, decide_eq_true m2, decide_eq_false ne, decide_eq_false (Ne.symm ne)]
  exact ⟨rfl, rfl⟩
theorem sat_loadsA {nu : List Int} {k : Nat} (h : Nu nu k) {a : Int} {names nodes : List Str} (a0 : 0 ≤ a) (ak : a + (names.length : Int) ≤ (k : Int)) (n3 : 3 ≤ nodes.length) (n5 : nodes.length ≤ 100) (hl : names.length ≤ 1000) (nd : nodes.Nodup) :
    Sat (l_loads nu a names nodes) fun l => l.map (·.1) = names ∧ ∀ x ∈ l, okEnds x.2.1 x.2.2 nodes = true := by
  unfold l_loads
  rw [okb, ran_ok (by omega)]
  simp only [okb]
  refine Sat.bind (sat_loop (fun i (s : List Load) => s.length = i ∧ s.map (·.1) = names.take i ∧ ∀ x ∈ s, okEnds x.2.1 x.2.2 nodes = true) ⟨rfl, rfl, by simp⟩ fun i s x hx hs => ?_) fun l hl2 => Sat.ok ⟨by have := hl2.2.1; rw [iran_len] at this; rw [this, List.take_of_length_le (by omega)], hl2.2.2⟩
  obtain ⟨ex, x0, x1⟩ := iran_get hx
  obtain ⟨sl, sm, se⟩ := hs
  unfold l_loads_b1
  simp only [Mx.assoc]
  refine (h.at_ (by omega) (by omega)).bind fun v hv => ?_
  rw [mod_ok (by omega)]
  simp only [okb]
  have r0 : 0 ≤ v % ((nodes.length : Int) - 2) := Int.emod_nonneg _ (by omega)
  have r1 : v % ((nodes.length : Int) - 2) < (nodes.length : Int) - 2 := Int.emod_lt_of_pos _ (by omega)
  generalize hr : v % ((nodes.length : Int) - 2) = r at r0 r1
  refine (sat_atI (xs := nodes) (i := 2 + r) (by omega) (by omega)).bind fun near hnear => ?_
  rw [div_ok (by decide) (by decide)]
  simp only [okb]
  rw [mod_ok (by decide)]
  simp only [okb]
  refine (sat_atI (xs := nodes) (i := 1 - (if decide (v / 6 % 6 = 1) = true then (1 : Int) else 0)) (by split <;> omega) (by split <;> omega)).bind fun far0 hfar0 => ?_
  rw [div_ok (by decide) (by decide)]
  simp only [okb]
  rw [mod_ok (by decide)]
  simp only [okb]
  have fin : ∀ far j : _, nodes[j]? = some far → j ≠ (2 + r).toNat → Sat ((ofO (divO v (36 : Int))) >>= fun v113 => (ofO (modO v113 (3 : Int))) >>= fun v114 => if decide (v114 = 1) = true then (ofO (atI names x)) >>= fun v115 => ofO (appO s (v115, (far, near))) >>= fun loads_here_116 => .ok loads_here_116 else (ofO (atI names x)) >>= fun v118 => ofO (appO s (v118, (near, far))) >>= fun loads_here_119 => .ok loads_here_119) fun s' => s'.length = i + 1 ∧ s'.map (·.1) = names.take (i + 1) ∧ ∀ x ∈ s', okEnds x.2.1 x.2.2 nodes = true := fun far j hj hne => by
    rw [div_ok (by decide) (by decide), okb, mod_ok (by decide), okb]
    have ok := okEnds_at nd hj hnear hne
    refine Sat.ite (fun _ => ?_) fun _ => ?_
    all_goals
      refine (sat_atI (xs := names) (i := x) (by omega) (by omega)).bind fun nm hnm => ?_
      rw [app_ok (by omega), okb]
      refine Sat.ok ⟨by simp [sl], ?_, fun z hz => ?_⟩
      · rw [List.map_append, sm, List.take_succ, show names[i]? = some nm by rw [show i = x.toNat by omega]; exact hnm]; rfl
      · rcases List.mem_append.mp hz with hz | hz
        · exact se z hz
        · rw [List.mem_singleton.mp hz]; first | exact ok.1 | exact ok.2
  by_cases hc : decide (v / 108 % 4 = 1) = true
  · rw [if_pos hc]
    rw [mod_ok (by omega)]
    simp only [okb]
    have q0 : 0 ≤ (3 + r) % (nodes.length : Int) := Int.emod_nonneg _ (by omega)
    have q1 : (3 + r) % (nodes.length : Int) < (nodes.length : Int) := Int.emod_lt_of_pos _ (by omega)
    have q2 : (3 + r) % (nodes.length : Int) ≠ 2 + r := by
      by_cases h3 : 3 + r < (nodes.length : Int)
      · rw [Int.emod_eq_of_lt (by omega) h3]; omega
      · rw [show 3 + r = (nodes.length : Int) by omega, Int.emod_self]; omega
    generalize (3 + r) % (nodes.length : Int) = q at q0 q1 q2
    simp only [Mx.assoc, okb]
    refine (sat_atI (xs := nodes) (i := q) q0 q1).bind fun far hfar => ?_
    exact fin far _ hfar (by omega)
  · rw [if_neg hc]
    simp only [okb]
    exact fin far0 _ hfar0 (by split <;> omega)
theorem sat_consA {nu : List Int} {k : Nat} (h : Nu nu k) {a m : Int} {nodes movers : List Str} (a0 : 0 ≤ a) (m0 : 0 ≤ m) (m1 : m ≤ 1000) (ak : a + 2 * m ≤ (k : Int)) (n3 : 3 ≤ nodes.length) (n5 : nodes.length ≤ 100) (nd : nodes.Nodup) (ml : movers.length ≤ 1000) :
    Sat (l_contacts nu a m nodes movers) fun l => l.length = m.toNat ∧ ∀ c ∈ l, okCon c nodes movers = true := by
  unfold l_contacts
  rw [okb, ran_ok (by omega)]
  simp only [okb]
  refine Sat.bind (sat_loop (fun i (s : List Con) => s.length = i ∧ ∀ c ∈ s, okCon c nodes movers = true) ⟨rfl, by simp⟩ fun i s x hx hs => ?_) fun l hl => Sat.ok ⟨by rw [hl.1, iran_len, Int.sub_zero], hl.2⟩
  obtain ⟨ex, x0, x1⟩ := iran_get hx
  obtain ⟨sl, se⟩ := hs
  unfold l_contacts_b1
  simp only [Mx.assoc]
  rw [mul_l (by decide) (by decide)]
  simp only [okb]
  refine (h.at_ (by omega) (by omega)).bind fun v hv => ?_
  rw [div_ok (by decide) (by decide)]
  simp only [okb]
  rw [mod_ok (by decide)]
  simp only [okb]
  refine Sat.bind (P := fun p : Int => 0 ≤ p ∧ p < (nodes.length : Int)) (Sat.ite (fun _ => ?_) fun _ => Sat.ok ⟨by omega, by omega⟩) fun p hp => ?_
  · rw [div_ok (by decide) (by decide)]
    simp only [okb]
    rw [mod_ok (by omega)]
    exact Sat.ok ⟨Int.emod_nonneg _ (by omega), Int.emod_lt_of_pos _ (by omega)⟩
  obtain ⟨p0, p1⟩ := hp
  rw [div_ok (by decide) (by decide)]
  simp only [okb]
  rw [mod_ok (by omega)]
  simp only [okb]
  have r0 : 0 ≤ v / 24 % ((nodes.length : Int) - 1) := Int.emod_nonneg _ (by omega)
  have r1 : v / 24 % ((nodes.length : Int) - 1) < (nodes.length : Int) - 1 := Int.emod_lt_of_pos _ (by omega)
  generalize v / 24 % ((nodes.length : Int) - 1) = r at r0 r1
  rw [mod_ok (by omega)]
  simp only [okb]
  have q0 : 0 ≤ (p + 1 + r) % (nodes.length : Int) := Int.emod_nonneg _ (by omega)
  have q1 : (p + 1 + r) % (nodes.length : Int) < (nodes.length : Int) := Int.emod_lt_of_pos _ (by omega)
  have q2 : (p + 1 + r) % (nodes.length : Int) ≠ p := by
    by_cases h3 : p + 1 + r < (nodes.length : Int)
    · rw [Int.emod_eq_of_lt (by omega) h3]; omega
    · have e := Int.sub_emod_right (p + 1 + r) (nodes.length : Int)
      rw [← e, Int.emod_eq_of_lt (by omega) (by omega)]; omega
  generalize (p + 1 + r) % (nodes.length : Int) = q at q0 q1 q2
  refine (h.at_ (by omega) (by omega)).bind fun c hc => ?_
  refine Sat.bind (P := fun b : Bool => b = true → 0 < movers.length) (Sat.ite (fun hz => ?_) fun _ => Sat.ok fun z => by cases z) fun b hb => ?_
  · rw [mod_ok (by decide)]
    simp only [okb]
    exact Sat.ok fun _ => by have := of_decide_eq_true hz; omega
  refine Sat.bind (P := fun mw : Option Str × Str => mw.2 ∈ [("make" : Str), ("break" : Str)] ∧ (match mw.1 with | none => mw.2 = ("make" : Str) | some m => m ∈ movers)) (Sat.ite (fun hz => ?_) fun _ => Sat.ok ⟨by simp, rfl⟩) fun mw hmw => ?_
  · have hm := hb hz
    rw [mod_ok (by omega)]
    simp only [okb]
    have g0 : 0 ≤ c % (movers.length : Int) := Int.emod_nonneg _ (by omega)
    have g1 : c % (movers.length : Int) < (movers.length : Int) := Int.emod_lt_of_pos _ (by omega)
    refine (sat_atI g0 g1).bind fun mo hmo => ?_
    rw [div_ok (by decide) (by decide)]
    simp only [okb]
    rw [mod_ok (by decide)]
    simp only [okb]
    refine (sat_at (xs := [("make" : Str), ("break" : Str)]) (P := fun w => w ∈ [("make" : Str), ("break" : Str)]) (Int.emod_nonneg _ (by decide)) (by show _ < (2 : Int); exact Int.emod_lt_of_pos _ (by decide)) fun _ h => h).bind fun w hw => ?_
    exact Sat.ok ⟨hw, List.mem_of_getElem? hmo⟩
  · rw [div_ok (by decide) (by decide)]
    simp only [okb]
    rw [mod_ok (by decide)]
    simp only [okb]
    refine (sat_at (xs := [("both" : Str), ("both" : Str), ("forward" : Str)]) (P := fun w => w ∈ [("both" : Str), ("forward" : Str)]) (Int.emod_nonneg _ (by decide)) (by show _ < (3 : Int); exact Int.emod_lt_of_pos _ (by decide)) (by simp)).bind fun w hw => ?_
    refine (sat_atI (xs := nodes) (i := p) p0 p1).bind fun n1 hn1 => ?_
    refine (sat_atI (xs := nodes) (i := q) q0 q1).bind fun n2 hn2 => ?_
    rw [app_ok (by omega)]
    simp only [okb]
    refine Sat.ok ⟨by simp [sl], fun z hz => ?_⟩
    rcases List.mem_append.mp hz with hz | hz
    · exact se z hz
    · rw [List.mem_singleton.mp hz]
      have ok := (okEnds_at nd hn1 hn2 (by omega)).1
      obtain ⟨h1, h2⟩ := hmw
      unfold okCon
      simp only [ok, Bool.true_and]
      rw [decide_eq_true h1, decide_eq_true hw, Bool.true_and, Bool.true_and]
      obtain ⟨mo, wh⟩ := mw
      cases mo with
      | none => exact decide_eq_true h2
      | some m => exact decide_eq_true h2
end Lw
set_option Elab.async false
set_option linter.all false
set_option maxRecDepth 100000
set_option maxHeartbeats 1000000
namespace Lw
open PySem Gm
open L2 hiding app_ok
/-! ### family A: the law's words -/
theorem relNames {sp : Spec} (w : Wf sp) : compO sp.2.2.1 (compF (fun _ => .ok true) (fun r => .ok r.1)) = .ok (sp.2.2.1.map (·.1)) := by
  have := w.r8
  exact Gm.comp_map (g := fun x : Str × Str × Str => x.1) (by rw [size_eq]; omega) fun x _ => ⟨rfl, rfl⟩
theorem edges_eq {sp : Spec} (w : Wf sp) {on : List Bool} (hl : on.length = (mvS sp).length) : l_edges sp on = .ok (prS sp on) := by
  have c40 := w.c40
  have s6 := w.s6
  have r8 := w.r8
  unfold l_edges
  rw [relNames w, okb, cat_ok (by rw [List.length_map]; omega), okb, okb]
  rw [show sp.2.1 ++ sp.2.2.1.map (·.1) = mvS sp from rfl]
  have key : ∀ (l : List Con) (s : List (Str × Str)), (∀ c ∈ l, c ∈ sp.2.2.2.2) → s.length + 2 * l.length ≤ 1000 → loopS l s (l_edges_b1 on (mvS sp)) = .ok (s ++ ((l.filter (opn (mvS sp) on)).map prC).flatten) := by
    intro l
    induction l with
    | nil => intro s _ _; simp [loopS]
    | cons c l ih =>
      intro s hm hs
      rw [List.length_cons] at hs
      have hmv := (okCon_mem (w.ce c (hm c (List.mem_cons_self ..)))).2
      have e : l_edges_b1 on (mvS sp) s c = .ok (s ++ if opn (mvS sp) on c = true then prC c else []) := by
        unfold l_edges_b1
        rw [okb]
        have e2 : (if c.2.2.1.isSome then ((((getO c.2.2.1) >>= fun v260 => ofO (idxO (mvS sp) v260)) >>= fun v261 => ofO (atI on v261)) >>= fun v262 => .ok (decide (v262 = (decide (c.2.2.2.1 = ("make" : Str)))))) >>= fun closed_263 => Mx.ok closed_263 else .ok true : Mx Bool) = .ok (opn (mvS sp) on c) := by
          unfold opn
          cases e : c.2.2.1 with
          | none => rfl
          | some m =>
            simp only [Option.isSome_some, if_true, getO, okb, Mx.assoc]
            rw [idx_ok (hmv m e), okb, on_at (hmv m e) hl, okb]
        rw [e2, okb]
        cases opn (mvS sp) on c with
        | false => simp
        | true =>
          simp only [if_true]
          unfold prC
          rw [app_ok (by omega), okb]
          by_cases hb : c.2.2.2.2 = ("both" : Str)
          · rw [decide_eq_true hb, if_pos rfl, app_ok (by rw [List.length_append, List.length_singleton]; omega), okb, if_pos hb]; simp
          · rw [decide_eq_false hb, if_neg Bool.false_ne_true, if_neg hb]
      unfold loopS
      rw [e, okb, ih _ (fun q hq => hm q (List.mem_cons_of_mem _ hq)) (by rw [List.length_append]; have := prC_len c; split <;> simp <;> omega), List.filter_cons]
      cases opn (mvS sp) on c <;> simp
  rw [key _ _ (fun _ h => h) (by simp; omega), okb, List.nil_append]
  rfl
/-- the law's own search -/
theorem sat_reachA {ps : List (Str × Str)} {a : Str} (hp : ps.length ≤ 1000) : Sat (l_reached ps a) fun f => ∀ x, x ∈ f ↔ Rch ps a x := by
  unfold l_reached
  rw [okb, okb, ran_ok (by omega), okb]
  have bound : ∀ {f : List Str}, f.Nodup → (∀ x ∈ f, Rch ps a x) → f.length ≤ ps.length + 1 := fun {f} nd h => by
    have := nodup_le (m := a :: ps.map (·.2)) nd fun x hx => by
      cases h x hx with
      | refl => exact List.mem_cons_self ..
      | step _ hq => exact List.mem_cons_of_mem _ (List.mem_map.mpr ⟨_, hq, rfl⟩)
    simpa using this
  refine Sat.bind (sat_loop (fun t (s : Bool × List Str) => (s.2.Nodup ∧ a ∈ s.2 ∧ ∀ x ∈ s.2, Rch ps a x) ∧ (if s.1 = true then t + 1 ≤ s.2.length else ∀ p ∈ ps, p.1 ∈ s.2 → p.2 ∈ s.2)) ⟨⟨by simp, by simp, by simp; exact .refl⟩, by simp⟩ fun t s x hx hs => ?_) fun s hs => ?_
  · obtain ⟨⟨nd, ha, hr⟩, hg⟩ := hs
    unfold l_reached_b1
    cases hs1 : s.1 with
    | false =>
      rw [hs1] at hg
      exact Sat.ok ⟨⟨nd, ha, hr⟩, hg⟩
    | true =>
      rw [hs1, if_pos rfl] at hg
      rw [if_pos rfl, okb]
      refine Sat.bind (sat_loop (fun i (u : List Str × Bool) => (u.1.Nodup ∧ a ∈ u.1 ∧ ∀ x ∈ u.1, Rch ps a x) ∧ (∀ x ∈ s.2, x ∈ u.1) ∧ s.2.length ≤ u.1.length ∧ (if u.2 = true then s.2.length < u.1.length else u.1 = s.2 ∧ ∀ p ∈ ps.take i, p.1 ∈ s.2 → p.2 ∈ s.2)) ⟨⟨nd, ha, hr⟩, fun _ h => h, Nat.le_refl _, by simp⟩ fun i u p hp2 hu => ?_) fun u hu => ?_
      · obtain ⟨⟨n1, a1, r1⟩, sub, hle, hgu⟩ := hu
        have hps : p ∈ ps := List.mem_of_getElem? hp2
        have hpj : ps.take (i + 1) = ps.take i ++ [p] := by rw [List.take_succ, hp2]; rfl
        have hb := bound n1 r1
        unfold l_reached_b2
        by_cases h1 : p.1 ∈ u.1
        · by_cases h2 : p.2 ∈ u.1
          · simp only [h1, h2, decide_true, if_true, Bool.not_true, okb, Bool.false_eq_true, if_false]
            refine Sat.ok ⟨⟨n1, a1, r1⟩, sub, hle, ?_⟩
            cases hu2 : u.2 with
            | true => rw [hu2] at hgu; simpa using hgu
            | false =>
              rw [hu2] at hgu
              simp only [Bool.false_eq_true, if_false] at hgu ⊢
              refine ⟨hgu.1, fun q hq hq1 => ?_⟩
              rw [hpj] at hq
              rcases List.mem_append.mp hq with hq | hq
              · exact hgu.2 q hq hq1
              · rw [List.mem_singleton.mp hq, ← hgu.1]; exact h2
          · simp only [h1, h2, decide_true, decide_false, if_true, Bool.not_false, okb]
            rw [app_ok (by omega)]
            simp only [okb]
            refine Sat.ok ⟨⟨nodup_snoc n1 h2, List.mem_append_left _ a1, fun x hx' => ?_⟩, fun x hx' => List.mem_append_left _ (sub x hx'), by simp; omega, by simp; omega⟩
            rcases List.mem_append.mp hx' with hx' | hx'
            · exact r1 x hx'
            · rw [List.mem_singleton.mp hx']
              exact .step (r1 _ h1) hps
        · simp only [h1, decide_false, okb, Bool.false_eq_true, if_false]
          refine Sat.ok ⟨⟨n1, a1, r1⟩, sub, hle, ?_⟩
          cases hu2 : u.2 with
          | true => rw [hu2] at hgu; simpa using hgu
          | false =>
            rw [hu2] at hgu
            simp only [Bool.false_eq_true, if_false] at hgu ⊢
            refine ⟨hgu.1, fun q hq hq1 => ?_⟩
            rw [hpj] at hq
            rcases List.mem_append.mp hq with hq | hq
            · exact hgu.2 q hq hq1
            · rw [List.mem_singleton.mp hq, ← hgu.1] at hq1; exact absurd hq1 h1
      · obtain ⟨h1, sub, hle, hgu⟩ := hu
        rw [List.take_length] at hgu
        refine Sat.ok ⟨h1, ?_⟩
        show if u.2 = true then _ else _
        cases hu2 : u.2 with
        | true => rw [hu2] at hgu; simp only [if_true] at hgu ⊢; show t + 1 + 1 ≤ u.1.length; omega
        | false =>
          rw [hu2] at hgu
          simp only [Bool.false_eq_true, if_false] at hgu ⊢
          show ∀ p ∈ ps, p.1 ∈ u.1 → p.2 ∈ u.1
          rw [hgu.1]; exact hgu.2
  · obtain ⟨⟨nd, ha, hr⟩, hg⟩ := hs
    rw [iran_len] at hg
    have hb := bound nd hr
    cases hs1 : s.1 with
    | true => rw [hs1, if_pos rfl] at hg; omega
    | false =>
      rw [hs1] at hg
      simp only [Bool.false_eq_true, if_false] at hg
      exact Sat.ok fun x => ⟨fun hx => hr x hx, fun r => rch_mem ha hg r⟩
theorem shortA_eq {sp : Spec} (w : Wf sp) {on : List Bool} (hl : on.length = (mvS sp).length) {a b : Str} (ha : sp.1[0]? = some a) (hb : sp.1[1]? = some b) : l_short sp on = .ok (decide (b ∈ fedS sp on a)) := by
  unfold l_short
  rw [at_ok (x := b) (by decide) hb, okb, edges_eq w hl]
  simp only [okb]
  rw [at_ok (x := a) (by decide) ha]
  simp only [okb]
  obtain ⟨f, e, hf⟩ := sat_reachA (ps := prS sp on) (a := a) (Nat.le_trans (prS_len w on) (by decide))
  rw [e, okb]
  exact congrArg Mx.ok (decide_eq_decide.mpr ((hf b).trans (mem_fedS (List.mem_of_getElem? hb)).symm))
end Lw
set_option Elab.async false
set_option linter.all false
set_option maxRecDepth 100000
set_option maxHeartbeats 1000000
namespace Lw
open PySem Gm
open L2 hiding app_ok
/-! ### two boards with the same switches and lamps -/
theorem sat_specA {nu : List Int} {k : Nat} (h : Nu nu k) {a : Int} (a0 : 0 ≤ a) (ak : a + 30 ≤ (k : Int)) {sw la : List Str} (hsw : sw.length ≤ 2 ∧ (∀ x ∈ sw, ∃ i : Nat, i < 2 ∧ Nm 3 i x) ∧ sw.Nodup) (hla : (1 ≤ la.length ∧ la.length ≤ 2) ∧ (∀ x ∈ la, ∃ i : Nat, i < 2 ∧ Nm 9 i x) ∧ la.Nodup) :
    Sat (l_spec nu a sw la 2) fun sp => okSpec sp = true ∧ sp.2.1 = sw ∧ (mvS sp).length ≤ 6 ∧ sp.2.2.2.2.length ≤ 8 := by
  unfold l_spec
  simp only [Mx.assoc]
  refine (h.at_ a0 (by omega)).bind fun v0 hv0 => ?_
  refine (sat_pick h (by omega) (by omega) (by decide)).bind fun n0 hn0 => ?_
  try simp only [okb]
  refine (sat_namesA (t := 0) (by omega) (by omega) (by omega) (by omega)).bind fun nodes hnodes => ?_
  refine (h.at_ (by omega) (by omega)).bind fun v2 hv2 => ?_
  refine (sat_pick h (by omega) (by omega) (by omega)).bind fun r0 hr0 => ?_
  try simp only [okb]
  refine (sat_namesA (t := 16) (by omega) (by omega) (by omega) (by omega)).bind fun rel hrel => ?_
  obtain ⟨nl, nm, nnd⟩ := hnodes
  obtain ⟨rl, rm, rnd⟩ := hrel
  obtain ⟨sl, sm, snd'⟩ := hsw
  obtain ⟨ll, lm, lnd⟩ := hla
  refine (sat_loadsA h (by omega) (by omega) (by omega) (by omega) (by omega) nnd).bind fun loads hloads => ?_
  refine (sat_loadsA h (by omega) (by omega) (by omega) (by omega) (by omega) nnd).bind fun lamps hlamps => ?_
  refine (sat_pick h (by omega) (by omega) (by decide)).bind fun mc hmc => ?_
  rw [cat_ok (by omega)]
  try simp only [okb]
  refine (sat_consA h (by omega) (by omega) (by omega) (by omega) (by omega) (by omega) nnd (by rw [List.length_append]; omega)).bind fun cons hcons => Sat.ok ?_
  have hll := congrArg List.length hloads.1
  have hpl := congrArg List.length hlamps.1
  rw [List.length_map] at hll hpl
  have hmv : mvs sw loads = sw ++ rel := by unfold mvs; rw [hloads.1]
  refine ⟨?_, rfl, by show (mvs sw loads).length ≤ 6; rw [hmv, List.length_append]; omega, by show cons.length ≤ 8; omega⟩
  unfold okSpec okBoard
  simp only
  rw [hmv, hlamps.1]
  rw [okNames_of (xs := nodes) (by omega) (by omega) (fun x hx => (nm x hx).choose_spec.2.1) nnd]
  rw [okNames_of (xs := la) (by omega) (by omega) (fun x hx => (lm x hx).choose_spec.2.1) lnd]
  rw [okNames_of (xs := sw ++ rel) (by rw [List.length_append]; omega) (by rw [List.length_append]; omega) (fun x hx => by
    rcases List.mem_append.mp hx with hx | hx
    · exact (sm x hx).choose_spec.2.1
    · exact (rm x hx).choose_spec.2.1) (by
    rw [List.nodup_append]
    refine ⟨snd', rnd, fun x hx y hy e => ?_⟩
    subst e
    obtain ⟨i, i1, i2⟩ := sm x hx
    obtain ⟨j, j1, j2⟩ := rm x hy
    have := nm_inj i2 j2
    omega)]
  rw [decide_eq_true (by omega : sw.length ≤ 6), decide_eq_true (by omega : loads.length ≤ 8), decide_eq_true (by omega : cons.length ≤ 40), List.all_eq_true.mpr hloads.2, List.all_eq_true.mpr hlamps.2, List.all_eq_true.mpr hcons.2]
  rfl
theorem okNames_rev {xs : List Str} {lo hi : Int} (h : okNames xs lo hi = true) {ys : List Str} (hp : ys.Perm xs) : okNames ys lo hi = true := by
  unfold okNames noRep at h ⊢
  simp only [Bool.and_eq_true, decide_eq_true_eq, List.all_eq_true] at h ⊢
  refine ⟨⟨by rw [hp.length_eq]; exact h.1.1, by rw [hp.length_eq]; exact h.1.2⟩, fun x hx => h.2.1 x (hp.mem_iff.mp hx), hp.nodup_iff.mpr h.2.2⟩
theorem okCon_sub {c : Con} {n m m' : List Str} (h : okCon c n m = true) (hm : ∀ x ∈ m, x ∈ m') : okCon c n m' = true := by
  unfold okCon at h ⊢
  simp only [Bool.and_eq_true] at h ⊢
  refine ⟨h.1, h.2.1, h.2.2.1, ?_⟩
  have h4 := h.2.2.2
  cases hc : c.2.2.1 with
  | none => rw [hc] at h4; exact h4
  | some x => rw [hc] at h4; exact decide_eq_true (hm x (of_decide_eq_true h4))
theorem ok_rev {sp : Spec} (h : okSpec sp = true) : okSpec (sp.1, sp.2.1, sp.2.2.1.reverse, sp.2.2.2.1, sp.2.2.2.2.reverse) = true := by
  unfold okSpec okBoard at h ⊢
  simp only [Bool.and_eq_true, List.all_eq_true] at h ⊢
  obtain ⟨h1, h2, h3, h4, h5, h6, h7, h8, h9⟩ := h
  have hp : (mvs sp.2.1 sp.2.2.1.reverse).Perm (mvs sp.2.1 sp.2.2.1) := by
    unfold mvs
    rw [List.map_reverse]
    exact List.Perm.append_left _ (List.reverse_perm _)
  exact ⟨h1, h2, okNames_rev h3 hp, by rw [List.length_reverse]; exact h4, h5, fun x hx => h6 x (List.mem_reverse.mp hx), h7, by rw [List.length_reverse]; exact h8, fun x hx => okCon_sub (h9 x (List.mem_reverse.mp hx)) fun y hy => hp.mem_iff.mpr hy⟩
theorem ok_cons {sp : Spec} (h : okSpec sp = true) {cs : List Con} (hl : cs.length ≤ 40) (hc : ∀ x ∈ cs, okCon x sp.1 (mvs sp.2.1 sp.2.2.1) = true) : okSpec (sp.1, sp.2.1, sp.2.2.1, sp.2.2.2.1, cs) = true := by
  unfold okSpec okBoard at h ⊢
  simp only [Bool.and_eq_true, List.all_eq_true] at h ⊢
  obtain ⟨h1, h2, h3, h4, h5, h6, h7, h8, h9⟩ := h
  exact ⟨h1, h2, h3, h4, h5, h6, h7, decide_eq_true (by omega), hc⟩
theorem set_okI {α : Type} {xs : List α} {i : Int} {y : α} (h0 : 0 ≤ i) (h : i < (xs.length : Int)) : ofO (setO xs i y) = .ok (xs.set i.toNat y) := by
  unfold setO ixN
  rw [if_pos h0, if_pos h]
  rfl
end Lw
set_option Elab.async false
set_option linter.all false
set_option maxRecDepth 100000
set_option maxHeartbeats 1000000
namespace Lw
open PySem Gm
open L2 hiding app_ok
/-! ### a relay gets another name -/
def renC (old nw : Str) (c : Con) : Con := (c.1, c.2.1, if c.2.2.1 = some old then some nw else c.2.2.1, c.2.2.2.1, c.2.2.2.2)
theorem ok_ren {sp : Spec} (h : okSpec sp = true) {nw : Str} (hn : okName nw = true) {r : Load} {rs : List Load} (hr : sp.2.2.1 = r :: rs) (hnot : nw ∉ rs.map (·.1) ++ sp.2.1) : okSpec (sp.1, sp.2.1, (nw, r.2.1, r.2.2) :: rs, sp.2.2.2.1, sp.2.2.2.2.map (renC r.1 nw)) = true := by
  unfold okSpec okBoard at h ⊢
  simp only [Bool.and_eq_true, List.all_eq_true] at h ⊢
  obtain ⟨h1, h2, h3, h4, h5, h6, h7, h8, h9⟩ := h
  have em : mvs sp.2.1 sp.2.2.1 = sp.2.1 ++ r.1 :: rs.map (·.1) := by unfold mvs; rw [hr]; rfl
  have em2 : mvs sp.2.1 ((nw, r.2.1, r.2.2) :: rs) = sp.2.1 ++ nw :: rs.map (·.1) := rfl
  rw [em] at h3 h9
  rw [em2]
  have hx : nw ∉ rs.map (·.1) ∧ nw ∉ sp.2.1 := ⟨fun z => hnot (List.mem_append_left _ z), fun z => hnot (List.mem_append_right _ z)⟩
  refine ⟨h1, h2, ?_, by rw [hr] at h4; exact h4, h5, fun x hx => ?_, h7, by rw [List.length_map]; exact h8, fun x hx2 => ?_⟩
  · unfold okNames noRep at h3 ⊢
    simp only [Bool.and_eq_true, decide_eq_true_eq, List.all_eq_true] at h3 ⊢
    obtain ⟨⟨a1, a2⟩, a3, a4⟩ := h3
    refine ⟨⟨by rw [List.length_append, List.length_cons] at a1 ⊢; exact a1, by rw [List.length_append, List.length_cons] at a2 ⊢; exact a2⟩, fun x hx => ?_, ?_⟩
    · rcases List.mem_append.mp hx with hx | hx
      · exact a3 x (List.mem_append_left _ hx)
      · rcases List.mem_cons.mp hx with rfl | hx
        · exact hn
        · exact a3 x (List.mem_append_right _ (List.mem_cons_of_mem _ hx))
    · rw [List.nodup_append] at a4 ⊢
      obtain ⟨b1, b2, b3⟩ := a4
      have b2 := List.nodup_cons.mp b2
      refine ⟨b1, List.nodup_cons.mpr ⟨hx.1, b2.2⟩, fun x hx1 y hy e => ?_⟩
      subst e
      rcases List.mem_cons.mp hy with rfl | hy
      · exact hx.2 hx1
      · exact b3 x hx1 x (List.mem_cons_of_mem _ hy) rfl
  · rcases List.mem_cons.mp hx with rfl | hx
    · exact h6 r (by rw [hr]; exact List.mem_cons_self ..)
    · exact h6 x (by rw [hr]; exact List.mem_cons_of_mem _ hx)
  · obtain ⟨c, hc, rfl⟩ := List.mem_map.mp hx2
    have h := h9 c hc
    unfold okCon at h ⊢
    simp only [Bool.and_eq_true] at h ⊢
    refine ⟨h.1, h.2.1, h.2.2.1, ?_⟩
    have h4 := h.2.2.2
    show (match (if c.2.2.1 = some r.1 then some nw else c.2.2.1) with | none => _ | some x => _) = true
    by_cases he : c.2.2.1 = some r.1
    · rw [if_pos he]
      exact decide_eq_true (List.mem_append_right _ (List.mem_cons_self ..))
    · rw [if_neg he]
      cases hq : c.2.2.1 with
      | none => rw [hq] at h4; exact h4
      | some x =>
        rw [hq] at h4
        have hm := of_decide_eq_true h4
        refine decide_eq_true ?_
        rcases List.mem_append.mp hm with hm | hm
        · exact List.mem_append_left _ hm
        · rcases List.mem_cons.mp hm with rfl | hm
          · exact absurd hq he
          · exact List.mem_append_right _ (List.mem_cons_of_mem _ hm)
theorem loop_rowsC {f : List Con → Con → Mx (List Con)} {g : Con → Con} : ∀ (l : List Con) (s : List Con), (∀ x ∈ l, ∀ s : List Con, s.length ≤ 1000 → f s x = .ok (s ++ [g x])) → s.length + l.length ≤ 1000 → loopS l s f = .ok (s ++ l.map g)
  | [], s, _, _ => by rw [List.map_nil, List.append_nil]; rfl
  | x :: l, s, h, hn => by
    rw [List.length_cons] at hn
    unfold loopS
    rw [h x (List.mem_cons_self ..) s (by omega), okb, loop_rowsC l _ (fun y hy => h y (List.mem_cons_of_mem _ hy)) (by rw [List.length_append, List.length_singleton]; omega), List.map_cons, List.append_assoc]
    rfl
theorem okName_mv {sp : Spec} (h : okSpec sp = true) {x : Str} (hx : x ∈ mvS sp) : okName x = true := by
  unfold okSpec okBoard at h
  simp only [Bool.and_eq_true] at h
  have h3 := h.2.2.1
  unfold okNames at h3
  simp only [Bool.and_eq_true, List.all_eq_true] at h3
  exact h3.2.1 x hx
theorem sat_two {nu : List Int} {k : Nat} (h : Nu nu k) (hk : 66 ≤ k) : Sat (l_two nu) fun p => (okSpec p.1 = true ∧ (mvS p.1).length ≤ 6) ∧ (okSpec p.2 = true ∧ (mvS p.2).length ≤ 6) ∧ p.1.2.1 = p.2.2.1 := by
  unfold l_two
  simp only [Mx.assoc]
  refine (h.at_ (by decide) (by omega)).bind fun v60 hv60 => ?_
  refine (sat_pick h (by decide) (by omega) (by decide)).bind fun n hn => ?_
  try simp only [okb]
  refine (sat_namesA (t := 3) (by omega) (by omega) (by omega) (by omega)).bind fun sw hsw => ?_
  refine (h.at_ (by decide) (by omega)).bind fun v62 hv62 => ?_
  refine (sat_pick h (by decide) (by omega) (by decide)).bind fun l hl => ?_
  try simp only [okb]
  refine (sat_namesA (t := 9) (by omega) (by omega) (by omega) (by omega)).bind fun la hla => ?_
  obtain ⟨s1, s2, s3⟩ := hsw
  obtain ⟨l1, l2, l3⟩ := hla
  have hs : sw.length ≤ 2 ∧ (∀ x ∈ sw, ∃ i : Nat, i < 2 ∧ Nm 3 i x) ∧ sw.Nodup := ⟨by omega, fun x hx => by obtain ⟨i, i1, i2⟩ := s2 x hx; exact ⟨i, by omega, i2⟩, s3⟩
  have hla : (1 ≤ la.length ∧ la.length ≤ 2) ∧ (∀ x ∈ la, ∃ i : Nat, i < 2 ∧ Nm 9 i x) ∧ la.Nodup := ⟨⟨by omega, by omega⟩, fun x hx => by obtain ⟨i, i1, i2⟩ := l2 x hx; exact ⟨i, by omega, i2⟩, l3⟩
  refine (sat_specA h (a := 0) (by decide) (by omega) hs hla).bind fun one ⟨o1, o2, o3, o4⟩ => ?_
  refine (sat_specA h (a := 30) (by decide) (by omega) hs hla).bind fun oth ⟨t1, t2, t3, t4⟩ => ?_
  refine (sat_pick h (by decide) (by omega) (by decide)).bind fun ch hch => ?_
  refine (sat_pick h (by decide) (by omega) (by omega)).bind fun pl hpl => ?_
  have w := wf_of o1
  have Q0 : (okSpec oth = true ∧ (mvS oth).length ≤ 6) ∧ one.2.1 = oth.2.1 := ⟨⟨t1, t3⟩, o2.trans t2.symm⟩
  refine Sat.bind (P := fun o : Spec => (okSpec o = true ∧ (mvS o).length ≤ 6) ∧ one.2.1 = o.2.1) (Sat.ite (fun _ => Sat.ok ⟨⟨ok_rev o1, ?_⟩, rfl⟩) fun _ => Sat.ok Q0) fun oa ha => ?_
  · show (mvs one.2.1 one.2.2.1.reverse).length ≤ 6
    have : (mvs one.2.1 one.2.2.1.reverse).length = (mvS one).length := by unfold mvS mvs; simp
    omega
  refine Sat.bind (P := fun o : Spec => (okSpec o = true ∧ (mvS o).length ≤ 6) ∧ one.2.1 = o.2.1) (Sat.ite (fun _ => ?_) fun _ => Sat.ok ha) fun ob hb => ?_
  · rw [cut_to _ hpl.1, cut_fr _ (by omega), cat_ok (by rw [List.length_take, List.length_drop]; omega)]
    try simp only [okb]
    refine Sat.ok ⟨⟨ok_cons o1 (by rw [List.length_append, List.length_take, List.length_drop]; omega) fun x hx => ?_, o3⟩, rfl⟩
    rcases List.mem_append.mp hx with hx | hx
    · exact w.ce x (List.mem_of_mem_take hx)
    · exact w.ce x (List.mem_of_mem_drop hx)
  refine Sat.bind (P := fun b : Bool => b = true → pl < (one.2.2.2.2.length : Int) ∧ ∀ c, one.2.2.2.2[pl.toNat]? = some c → c.2.2.1.isSome = true) ?_ fun b hbb => ?_
  · refine Sat.ite (fun _ => ?_) fun _ => Sat.ok fun z => nomatch z
    by_cases hlt : pl < (one.2.2.2.2.length : Int)
    · have hg : one.2.2.2.2[pl.toNat]? = some (one.2.2.2.2[pl.toNat]'(by omega)) := List.getElem?_eq_getElem (by omega)
      rw [decide_eq_true hlt, if_pos rfl, at_ok hpl.1 hg]
      try simp only [okb]
      exact Sat.ok fun z => ⟨hlt, fun c hc => by rw [hg] at hc; cases hc; exact z⟩
    · rw [decide_eq_false hlt, if_neg Bool.false_ne_true]
      exact Sat.ok fun z => nomatch z
  · refine Sat.bind (P := fun o : Spec => (okSpec o = true ∧ (mvS o).length ≤ 6) ∧ one.2.1 = o.2.1) (Sat.ite (fun hz => ?_) fun _ => Sat.ok hb) fun oc hc => ?_
    · obtain ⟨hlt, hsome⟩ := hbb hz
      have hg : one.2.2.2.2[pl.toNat]? = some (one.2.2.2.2[pl.toNat]'(by omega)) := List.getElem?_eq_getElem (by omega)
      have hs2 := hsome _ hg
      have hce := w.ce _ (List.mem_of_getElem? hg)
      generalize one.2.2.2.2[pl.toNat]'(by omega) = c at hg hs2 hce
      rw [at_ok hpl.1 hg]
      try simp only [okb]
      refine (sat_at (P := fun z => z ∈ [("make" : Str), ("break" : Str)]) (by split <;> decide) (by split <;> decide) (fun z hz => ?_)).bind fun wh hwh => ?_
      · simp only [List.mem_cons, List.not_mem_nil, or_false] at hz ⊢
        exact hz.symm
      rw [set_okI hpl.1 hlt]
      try simp only [okb]
      refine Sat.ok ⟨⟨ok_cons o1 (by rw [List.length_set]; omega) fun x hx => ?_, o3⟩, rfl⟩
      rcases List.mem_or_eq_of_mem_set hx with hx | rfl
      · exact w.ce x hx
      · unfold okCon at hce ⊢
        simp only [Bool.and_eq_true] at hce ⊢
        refine ⟨hce.1, decide_eq_true hwh, hce.2.2.1, ?_⟩
        have h4 := hce.2.2.2
        cases hq : c.2.2.1 with
        | none => rw [hq] at hs2; cases hs2
        | some m => rw [hq] at h4; exact h4
    · have w' := wf_of hc.1.1
      have c40 := w'.c40
      have r8 := w'.r8
      have s6 := w'.s6
      refine Sat.bind (P := fun b : Bool => b = true → 0 < one.2.2.1.length ∧ 0 < oc.2.2.1.length) ?_ fun b hb4 => ?_
      · refine Sat.ite (fun _ => ?_) fun _ => Sat.ok fun z => nomatch z
        by_cases hl1 : (0 : Int) < (one.2.2.1.length : Int)
        · rw [decide_eq_true hl1, if_pos rfl]
          exact Sat.ok fun z => ⟨by omega, by have := of_decide_eq_true z; omega⟩
        · rw [decide_eq_false hl1, if_neg Bool.false_ne_true]
          exact Sat.ok fun z => nomatch z
      · refine Sat.bind (P := fun o : Spec => (okSpec o = true ∧ (mvS o).length ≤ 6) ∧ one.2.1 = o.2.1) (Sat.ite (fun hz4 => ?_) fun _ => Sat.ok hc) fun od hd => Sat.ok ⟨⟨o1, o3⟩, hd⟩
        obtain ⟨l1, l2⟩ := hb4 hz4
        obtain ⟨q, qs, eq⟩ : ∃ q qs, one.2.2.1 = q :: qs := by
          cases hq : one.2.2.1 with
          | nil => rw [hq] at l1; cases l1
          | cons q qs => exact ⟨q, qs, rfl⟩
        obtain ⟨r, rs, er⟩ : ∃ r rs, oc.2.2.1 = r :: rs := by
          cases hq : oc.2.2.1 with
          | nil => rw [hq] at l2; cases l2
          | cons q qs => exact ⟨q, qs, rfl⟩
        have a1 : ofO (atI one.2.2.1 (0 : Int)) = .ok q := at_ok (by decide) (by rw [eq]; rfl)
        have a2 : ofO (atI oc.2.2.1 (0 : Int)) = .ok r := at_ok (by decide) (by rw [er]; rfl)
        have ec : cut oc.2.2.1 (some (1 : Int)) none = rs := by rw [cut_fr _ (by decide), er]; rfl
        have rl : rs.length ≤ 8 := by rw [er, List.length_cons] at r8; omega
        rw [a1, a2, ec]
        try simp only [okb]
        rw [cat_ok (by rw [List.length_singleton]; omega)]
        try simp only [okb]
        rw [loop_rowsC (g := renC r.1 q.1) _ _ (fun x _ s hs => by
          unfold l_two_b1
          rw [a1, a2]
          simp only [okb]
          unfold renC
          by_cases he : x.2.2.1 = some r.1
          · rw [decide_eq_true he, if_pos rfl, if_pos he, okb, app_ok (by omega), okb]
          · rw [decide_eq_false he, if_neg Bool.false_ne_true, if_neg he, okb, app_ok (by omega), okb]) (by simp; omega)]
        try simp only [okb]
        rw [Gm.comp_map (g := fun x : Load => x.1) (by rw [size_eq]; omega) fun _ _ => ⟨rfl, rfl⟩]
        try simp only [okb]
        rw [cat_ok (by rw [List.length_map]; omega)]
        try simp only [okb]
        refine Sat.ite (fun hz5 => ?_) fun _ => Sat.ok hc
        have hnot : q.1 ∉ rs.map (·.1) ++ oc.2.1 := by simpa using hz5
        refine Sat.ok ⟨⟨ok_ren hc.1.1 (okName_mv o1 (List.mem_append_right _ (by rw [eq]; exact List.mem_cons_self ..))) er hnot, ?_⟩, hc.2⟩
        have hm := hc.1.2
        show (mvs oc.2.1 ((q.1, r.2.1, r.2.2) :: rs)).length ≤ 6
        have : (mvS oc).length = (mvs oc.2.1 ((q.1, r.2.1, r.2.2) :: rs)).length := by unfold mvS mvs; rw [er]; simp
        omega
end Lw
set_option Elab.async false
set_option linter.all false
set_option maxRecDepth 100000
set_option maxHeartbeats 1000000
namespace Lw
open PySem Gm
open L2 hiding app_ok
theorem boardA_eq {sp : Spec} (h : okSpec sp = true) : l_board sp = .ok (bd sp) := init_ok h
theorem dget_none {α β : Type} [DecidableEq α] : ∀ {ps : List (α × β)} {x : α}, x ∉ ps.map (·.1) → dget ps x = none
  | [], _, _ => rfl
  | p :: ps, x, h => by
    rw [List.map_cons, List.mem_cons, not_or] at h
    rw [dget_neg fun e => h.1 e.symm, dget_none h.2]
theorem zip_keys {α β : Type} : ∀ {xs : List α} {ys : List β}, ys.length = xs.length → (xs.zip ys).map (·.1) = xs
  | [], [], _ => rfl
  | x :: xs, y :: ys, h => by
    rw [List.zip_cons_cons, List.map_cons, zip_keys (by simpa using h)]
theorem dget_zip {ms : List Str} {on : List Bool} (nd : ms.Nodup) (hl : on.length = ms.length) (n : Str) : (dget (ms.zip on) n).getD false = if n ∈ ms then (on[ms.idxOf n]?).getD false else false := by
  by_cases h : n ∈ ms
  · rw [if_pos h]
    have hi := List.idxOf_lt_length_of_mem h
    have e : on[ms.idxOf n]? = some on[ms.idxOf n] := List.getElem?_eq_getElem (by omega)
    have hm : ms[ms.idxOf n]? = some n := by rw [List.getElem?_eq_getElem hi, List.getElem_idxOf]
    rw [dget_mem (by rw [zip_keys hl]; exact nd) (List.mem_of_getElem? (List.getElem?_zip_eq_some.mpr ⟨hm, e⟩)), e]
  · rw [if_neg h, dget_none (by rw [zip_keys hl]; exact h)]; rfl
def onS (s1 s2 : Spec) (on : List Bool) : List Bool := (mvS s2).map fun n => if n ∈ mvS s1 then (on[(mvS s1).idxOf n]?).getD false else false
noncomputable def chS (s1 s2 : Spec) (a b : Str) (st : List Bool × Bool) : List Bool × Bool := (onS s1 s2 st.1, if st.2 then true else decide (b ∈ fedS s2 (onS s1 s2 st.1) a))
theorem onS_len {s1 s2 : Spec} {on : List Bool} : (onS s1 s2 on).length = (mvS s2).length := List.length_map ..
theorem onS_self {s : Spec} (w : Wf s) {on : List Bool} (hl : on.length = (mvS s).length) : onS s s on = on := by
  unfold onS
  apply List.ext_getElem?
  intro i
  rw [List.getElem?_map]
  by_cases hi : i < (mvS s).length
  · rw [List.getElem?_eq_getElem hi, Option.map_some, if_pos (List.getElem_mem hi), w.md.idxOf_getElem i hi, List.getElem?_eq_getElem (show i < on.length by omega)]
    rfl
  · rw [List.getElem?_eq_none_iff.mpr (by omega), List.getElem?_eq_none_iff.mpr (by omega)]; rfl
theorem put_loop : ∀ (l : List (Str × Bool)) (d : List (Str × Bool)), ((d ++ l).map (·.1)).Nodup → d.length + l.length ≤ 1000 → loopS l d g_changed_state_b1 = .ok (d ++ l)
  | [], d, _, _ => by rw [List.append_nil]; rfl
  | p :: l, d, h, hn => by
    rw [List.length_cons] at hn
    have e : g_changed_state_b1 d p = .ok (d ++ [p]) := by
      unfold g_changed_state_b1 dputO
      rw [if_pos (by rw [size_eq]; omega), dput_new (fun hz => by
        rw [List.map_append, List.nodup_append] at h
        exact h.2.2 _ hz _ (List.mem_map.mpr ⟨p, List.mem_cons_self .., rfl⟩) rfl)]
      rfl
    unfold loopS
    rw [e, okb, put_loop l _ (by rw [List.append_assoc]; exact h) (by rw [List.length_append, List.length_singleton]; omega), List.append_assoc]
    rfl
theorem gchanged_eq {s1 s2 : Spec} (w1 : Wf s1) (w2 : Wf s2) {a b : Str} (ha : s2.1[0]? = some a) (hb : s2.1[1]? = some b) {st : List Bool × Bool} (hl : st.1.length = (mvS s1).length) : g_changed_state (bd s1) (bd s2) st = .ok (chS s1 s2 a b st) := by
  have m1 := mvs_len w1
  have m2 := mvs_len w2
  unfold g_changed_state
  rw [okb, okb, gmovers_eq w1, gmovers_eq w2]
  simp only [noEx, okb]
  rw [put_loop _ _ (by rw [List.nil_append, zip_keys hl]; exact w1.md) (by rw [List.length_zip]; simp; omega), okb, List.nil_append]
  rw [Gm.comp_map (g := fun n => if n ∈ mvS s1 then (st.1[(mvS s1).idxOf n]?).getD false else false) (by rw [size_eq]; omega) fun n _ => ⟨rfl, by rw [dget_zip w1.md hl]⟩, okb]
  show ((if st.2 = true then .ok true else g_is_short (bd s2) (onS s1 s2 st.1, st.2)) >>= fun v => Mx.ok (onS s1 s2 st.1, v)) = _
  rw [short_eq w2 onS_len st.2 ha hb]
  unfold chS
  cases st.2 <;> rfl
theorem ch_loop {ms : List Str} {st : List Bool × Bool} (hl : st.1.length = ms.length) : ∀ (l : List Str) (s : List Bool), s.length + l.length ≤ 1000 → loopS l s (l_changed_b1 st ms) = .ok (s ++ l.map fun n => if n ∈ ms then (st.1[ms.idxOf n]?).getD false else false)
  | [], s, _ => by rw [List.map_nil, List.append_nil]; rfl
  | n :: l, s, hn => by
    rw [List.length_cons] at hn
    have e : l_changed_b1 st ms s n = .ok (s ++ [if n ∈ ms then (st.1[ms.idxOf n]?).getD false else false]) := by
      unfold l_changed_b1
      by_cases h : n ∈ ms
      · rw [decide_eq_true h, if_pos rfl, if_pos h, idx_ok h, okb, on_at h hl, okb, app_ok (by omega), okb]
      · rw [decide_eq_false h, if_neg Bool.false_ne_true, if_neg h, okb, app_ok (by omega), okb]
    unfold loopS
    rw [e, okb, ch_loop hl l _ (by rw [List.length_append, List.length_singleton]; omega), List.map_cons, List.append_assoc]
    rfl
theorem lchanged_eq {s1 s2 : Spec} (w1 : Wf s1) (w2 : Wf s2) {a b : Str} (ha : s2.1[0]? = some a) (hb : s2.1[1]? = some b) {st : List Bool × Bool} (hl : st.1.length = (mvS s1).length) : l_changed s1 s2 st = .ok (chS s1 s2 a b st) := by
  have m2 := mvs_len w2
  have s6 := w1.s6; have r8 := w1.r8; have s62 := w2.s6; have r82 := w2.r8
  unfold l_changed
  rw [relNames w1, okb, cat_ok (by rw [List.length_map]; omega), okb, okb, relNames w2, okb, cat_ok (by rw [List.length_map]; omega), okb]
  rw [show s1.2.1 ++ s1.2.2.1.map (·.1) = mvS s1 from rfl, show s2.2.1 ++ s2.2.2.1.map (·.1) = mvS s2 from rfl, ch_loop hl _ _ (by simp; omega), okb, List.nil_append]
  show ((if st.2 = true then .ok true else l_short s2 (onS s1 s2 st.1)) >>= fun v => Mx.ok (onS s1 s2 st.1, v)) = _
  rw [shortA_eq w2 onS_len ha hb]
  unfold chS
  cases st.2 <;> rfl
theorem law_true (ns : List Int) (hns : ns.length ≤ 63) : l_law ns = .ok true := by
  refine Sat.eq ?_
  unfold l_law
  refine (sat_numbers (by decide) (by decide)).bind fun nu hn => ?_
  have hnu : Nu nu 90 := ⟨hn.1, hn.2⟩
  refine (sat_two hnu (by decide)).bind fun p ⟨⟨p1, m1⟩, ⟨p2, m2⟩, psw⟩ => ?_
  obtain ⟨s1, s2⟩ := p
  have p1 : okSpec s1 = true := p1
  have p2 : okSpec s2 = true := p2
  have m1 : (mvS s1).length ≤ 6 := m1
  have w1 : Wf s1 := wf_of p1
  have w2 : Wf s2 := wf_of p2
  obtain ⟨a1, b1, ha1, hb1, _, _⟩ := plus_at w1
  obtain ⟨a2, b2, ha2, hb2, _, _⟩ := plus_at w2
  have hm : (mvS s1).length = s1.2.1.length + s1.2.2.1.length := by unfold mvS mvs; simp
  simp only [Mx.assoc]
  rw [ran_ok (by omega), okb]
  refine Sat.bind (Gm.sat_comp (P := fun (_ : Int) (_ : Bool) => True) (by rw [iran_len, size_eq]; omega) fun i hi => ⟨rfl, ?_⟩) fun on ⟨hl, _⟩ => ?_
  · obtain ⟨i0, i1⟩ := iran_mem hi
    refine (sat_pick hnu (by omega) (by omega) (by decide)).bind fun v hv => Sat.ok True.intro
  rw [iran_len] at hl
  have hl2 : on.length = (mvS s1).length := by omega
  rw [shortA_eq w1 hl2 ha1 hb1, okb]
  refine Sat.bind (P := fun bl : Bool => bl = false → decide (b1 ∈ fedS s1 on a1) = false) ?_ fun bl hbl => ?_
  · cases hd : decide (b1 ∈ fedS s1 on a1) with
    | true => exact Sat.ok fun z => nomatch z
    | false =>
      show Sat (l_pick nu 76 5 >>= _) _
      exact (sat_pick hnu (by decide) (by decide) (by decide)).bind fun v hv => Sat.ok fun _ => rfl
  try simp only [okb]
  rw [boardA_eq p1, boardA_eq p2]
  try simp only [okb]
  have hst : ((on, bl) : List Bool × Bool).1.length = (mvS s1).length := hl2
  have hst2 : (chS s1 s2 a2 b2 (on, bl)).1.length = (mvS s2).length := onS_len
  have es : chS s1 s1 a1 b1 (on, bl) = (on, bl) := by
    unfold chS
    rw [onS_self w1 hl2]
    cases bl with
    | true => rfl
    | false => show (on, decide (b1 ∈ fedS s1 on a1)) = _; rw [hbl rfl]
  rw [gchanged_eq w1 w2 ha2 hb2 hst]
  simp only [okb, Bool.not_true, Bool.false_eq_true, if_false]
  rw [lchanged_eq w1 w2 ha2 hb2 hst]
  simp only [okb, decide_true, Bool.not_true, Bool.false_eq_true, if_false]
  rw [gchanged_eq w1 w1 ha1 hb1 hst, es]
  simp only [okb, decide_true, Bool.not_true, Bool.false_eq_true, if_false]
  rw [gchanged_eq w2 w1 ha1 hb1 hst2, okb, lchanged_eq w2 w1 ha1 hb1 hst2]
  simp only [okb, decide_true]
  exact Sat.ok rfl
end Lw
set_option Elab.async false
set_option synthInstance.maxHeartbeats 2000000
set_option synthInstance.maxSize 4000
set_option linter.all false
set_option maxRecDepth 100000
set_option maxHeartbeats 4000000
namespace Lw
open PySem PySem.Spec L2 Gm
theorem facts (hlaw : ∀ ns : List Int, ns.length ≤ 63 → l_law ns = .ok true) {w : World} {K : PySem.W.Frag} {h : Heap} {mg : Str → Option Value} {f : Addr} (X : K.In h) (G : h.Ns mainGlobals mg) (hfa : mg ("law" : Str) = some (.ref f)) (c : Told fa fn K) :
    ∃ fd : FuncData, (∀ (s : Shared) (v : Value), BindsTo s fd ⟨[v], []⟩ [("_law_script", v)]) ∧ ∀ base : Heap, K.In base → base.Ns mainGlobals mg → FnOk P0 w K mg base (L2.CX P0 w) 8 f fd ["_law_script"] (spL K 63) := by
  obtain ⟨f0, F0⟩ := c.def_ 0 (d := d_l_row) rfl
  have b0 : Binds K f0 ["_law_cell", "_law_many"] [] := FunD.bindsN (ps := ["_law_cell", "_law_many"]) F0 fun _ _ _ _ _ _ us hl => match us, hl with | [_, _], _ => rfl
  obtain ⟨f1, F1⟩ := c.def_ 1 (d := d_l_numbers) rfl
  have b1 : Binds K f1 ["_law_script", "_law_many"] [] := FunD.bindsN (ps := ["_law_script", "_law_many"]) F1 fun _ _ _ _ _ _ us hl => match us, hl with | [_, _], _ => rfl
  obtain ⟨f2, F2⟩ := c.def_ 2 (d := d_l_names) rfl
  have b2 : Binds K f2 ["_law_number", "_law_many", "_law_turn"] [] := FunD.bindsN (ps := ["_law_number", "_law_many", "_law_turn"]) F2 fun _ _ _ _ _ _ us hl => match us, hl with | [_, _, _], _ => rfl
  obtain ⟨f3, F3⟩ := c.def_ 3 (d := d_l_pick) rfl
  have b3 : Binds K f3 ["_law_numbers_here", "_law_at", "_law_most"] [] := FunD.bindsN (ps := ["_law_numbers_here", "_law_at", "_law_most"]) F3 fun _ _ _ _ _ _ us hl => match us, hl with | [_, _, _], _ => rfl
  obtain ⟨f4, F4⟩ := c.def_ 4 (d := d_l_loads) rfl
  have b4 : Binds K f4 ["_law_numbers_here", "_law_at", "_law_names_here", "_law_nodes"] [] := FunD.bindsN (ps := ["_law_numbers_here", "_law_at", "_law_names_here", "_law_nodes"]) F4 fun _ _ _ _ _ _ us hl => match us, hl with | [_, _, _, _], _ => rfl
  obtain ⟨f5, F5⟩ := c.def_ 5 (d := d_l_contacts) rfl
  have b5 : Binds K f5 ["_law_numbers_here", "_law_at", "_law_many", "_law_nodes", "_law_movers"] [] := FunD.bindsN (ps := ["_law_numbers_here", "_law_at", "_law_many", "_law_nodes", "_law_movers"]) F5 fun _ _ _ _ _ _ us hl => match us, hl with | [_, _, _, _, _], _ => rfl
  obtain ⟨f6, F6⟩ := c.def_ 6 (d := d_l_spec) rfl
  have b6 : Binds K f6 ["_law_numbers_here", "_law_at", "_law_switches", "_law_lamps", "_law_most"] [] := FunD.bindsN (ps := ["_law_numbers_here", "_law_at", "_law_switches", "_law_lamps", "_law_most"]) F6 fun _ _ _ _ _ _ us hl => match us, hl with | [_, _, _, _, _], _ => rfl
  obtain ⟨f7, F7⟩ := c.def_ 7 (d := d_l_two) rfl
  have b7 : Binds K f7 ["_law_numbers_here"] [] := FunD.bindsN (ps := ["_law_numbers_here"]) F7 fun _ _ _ _ _ _ us hl => match us, hl with | [_], _ => rfl
  obtain ⟨f8, F8⟩ := c.def_ 8 (d := d_l_reached) rfl
  have b8 : Binds K f8 ["_law_edges_here", "_law_start"] [] := FunD.bindsN (ps := ["_law_edges_here", "_law_start"]) F8 fun _ _ _ _ _ _ us hl => match us, hl with | [_, _], _ => rfl
  obtain ⟨f9, F9⟩ := c.def_ 9 (d := d_l_edges) rfl
  have b9 : Binds K f9 ["_law_spec_here", "_law_movers"] [] := FunD.bindsN (ps := ["_law_spec_here", "_law_movers"]) F9 fun _ _ _ _ _ _ us hl => match us, hl with | [_, _], _ => rfl
  obtain ⟨f10, F10⟩ := c.def_ 10 (d := d_l_short) rfl
  have b10 : Binds K f10 ["_law_spec_here", "_law_movers"] [] := FunD.bindsN (ps := ["_law_spec_here", "_law_movers"]) F10 fun _ _ _ _ _ _ us hl => match us, hl with | [_, _], _ => rfl
  obtain ⟨f11, F11⟩ := c.def_ 11 (d := d_g_Board_is_name) rfl
  have b11 : Binds K f11 ["text"] [] := FunD.bindsN (ps := ["text"]) F11 fun _ _ _ _ _ _ us hl => match us, hl with | [_], _ => rfl
  obtain ⟨f12, F12⟩ := c.def_ 12 (d := d_g_are_names) rfl
  have b12 : Binds K f12 ["names", "least", "most"] [] := FunD.bindsN (ps := ["names", "least", "most"]) F12 fun _ _ _ _ _ _ us hl => match us, hl with | [_, _, _], _ => rfl
  obtain ⟨f13, F13⟩ := c.def_ 13 (d := d_g_is_between) rfl
  have b13 : Binds K f13 ["one", "other", "nodes"] [] := FunD.bindsN (ps := ["one", "other", "nodes"]) F13 fun _ _ _ _ _ _ us hl => match us, hl with | [_, _, _], _ => rfl
  obtain ⟨f14, F14⟩ := c.def_ 14 (d := d_g_are_loads) rfl
  have b14 : Binds K f14 ["loads", "nodes"] [] := FunD.bindsN (ps := ["loads", "nodes"]) F14 fun _ _ _ _ _ _ us hl => match us, hl with | [_, _], _ => rfl
  obtain ⟨f15, F15⟩ := c.def_ 15 (d := d_g_is_contact) rfl
  have b15 : Binds K f15 ["contact", "nodes", "movers"] [] := FunD.bindsN (ps := ["contact", "nodes", "movers"]) F15 fun _ _ _ _ _ _ us hl => match us, hl with | [_, _, _], _ => rfl
  obtain ⟨f16, F16⟩ := c.def_ 16 (d := d_g_Board_init) rfl
  obtain ⟨f17, F17⟩ := c.def_ 17 (d := d_l_board) rfl
  have b17 : Binds K f17 ["_law_spec_here"] [] := FunD.bindsN (ps := ["_law_spec_here"]) F17 fun _ _ _ _ _ _ us hl => match us, hl with | [_], _ => rfl
  obtain ⟨f18, F18⟩ := c.def_ 18 (d := d_g_Board_movers) rfl
  have b18 : Binds K f18 ["self"] [] := FunD.bindsN (ps := ["self"]) F18 fun _ _ _ _ _ _ us hl => match us, hl with | [_], _ => rfl
  obtain ⟨f19, F19⟩ := c.def_ 19 (d := d_g_Board_minus) rfl
  have b19 : Binds K f19 ["self"] [] := FunD.bindsN (ps := ["self"]) F19 fun _ _ _ _ _ _ us hl => match us, hl with | [_], _ => rfl
  obtain ⟨f20, F20⟩ := c.def_ 20 (d := d_g_reached) rfl
  have b20 : Binds K f20 ["pairs", "start"] [] := FunD.bindsN (ps := ["pairs", "start"]) F20 fun _ _ _ _ _ _ us hl => match us, hl with | [_, _], _ => rfl
  obtain ⟨f21, F21⟩ := c.def_ 21 (d := d_g_closes) rfl
  have b21 : Binds K f21 ["contact", "on"] [] := FunD.bindsN (ps := ["contact", "on"]) F21 fun _ _ _ _ _ _ us hl => match us, hl with | [_, _], _ => rfl
  obtain ⟨f22, F22⟩ := c.def_ 22 (d := d_g_closed_contacts) rfl
  have b22 : Binds K f22 ["board", "state"] [] := FunD.bindsN (ps := ["board", "state"]) F22 fun _ _ _ _ _ _ us hl => match us, hl with | [_, _], _ => rfl
  obtain ⟨f23, F23⟩ := c.def_ 23 (d := d_g_paths) rfl
  have b23 : Binds K f23 ["board", "state"] [] := FunD.bindsN (ps := ["board", "state"]) F23 fun _ _ _ _ _ _ us hl => match us, hl with | [_, _], _ => rfl
  obtain ⟨f24, F24⟩ := c.def_ 24 (d := d_g_Board_plus) rfl
  have b24 : Binds K f24 ["self"] [] := FunD.bindsN (ps := ["self"]) F24 fun _ _ _ _ _ _ us hl => match us, hl with | [_], _ => rfl
  obtain ⟨f25, F25⟩ := c.def_ 25 (d := d_g_fed) rfl
  have b25 : Binds K f25 ["board", "state"] [] := FunD.bindsN (ps := ["board", "state"]) F25 fun _ _ _ _ _ _ us hl => match us, hl with | [_, _], _ => rfl
  obtain ⟨f26, F26⟩ := c.def_ 26 (d := d_g_is_short) rfl
  have b26 : Binds K f26 ["board", "state"] [] := FunD.bindsN (ps := ["board", "state"]) F26 fun _ _ _ _ _ _ us hl => match us, hl with | [_, _], _ => rfl
  obtain ⟨f27, F27⟩ := c.def_ 27 (d := d_g_changed_state) rfl
  have b27 : Binds K f27 ["one", "other", "state"] [] := FunD.bindsN (ps := ["one", "other", "state"]) F27 fun _ _ _ _ _ _ us hl => match us, hl with | [_, _, _], _ => rfl
  obtain ⟨f28, F28⟩ := c.def_ 28 (d := d_l_changed) rfl
  have b28 : Binds K f28 ["_law_one", "_law_other", "_law_state"] [] := FunD.bindsN (ps := ["_law_one", "_law_other", "_law_state"]) F28 fun _ _ _ _ _ _ us hl => match us, hl with | [_, _, _], _ => rfl
  obtain ⟨f29, F29⟩ := c.def_ 29 (d := d_l_law) rfl
  have b29 : Binds K f29 ["_law_script"] [] := FunD.bindsN (ps := ["_law_script"]) F29 fun _ _ _ _ _ _ us hl => match us, hl with | [_], _ => rfl
  have e := hfa.symm.trans (He.glo_ok X G (x := "law") (c.fact 62 rfl))
  cases e
  have bl := FunD.bindsA (ps := ["_law_script"]) F29 fun _ _ _ _ _ _ us hl => match us, hl with | [_], _ => rfl
  have T : Tx P0 K mg ⟨f0, f1, f2, f3, f4, f5, f6, f7, f8, f9, f10, f11, f12, f13, f14, f15, f16, f17, f18, f19, f20, f21, f22, f23, f24, f25, f26, f27, f28, f29⟩ := ⟨F0,
    b0,
    F1,
    b1,
    F2,
    b2,
    F3,
    b3,
    F4,
    b4,
    F5,
    b5,
    F6,
    b6,
    F7,
    b7,
    F8,
    b8,
    F9,
    b9,
    F10,
    b10,
    F11,
    b11,
    F12,
    b12,
    F13,
    b13,
    F14,
    b14,
    F15,
    b15,
    F16,
    F17,
    b17,
    F18,
    b18,
    F19,
    b19,
    F20,
    b20,
    F21,
    b21,
    F22,
    b22,
    F23,
    b23,
    F24,
    b24,
    F25,
    b25,
    F26,
    b26,
    F27,
    b27,
    F28,
    b28,
    F29,
    b29,
    He.free_ok X G (c.fact 0 rfl),
    He.free_ok X G (c.fact 1 rfl),
    He.free_ok X G (c.fact 2 rfl),
    He.free_ok X G (c.fact 3 rfl),
    He.free_ok X G (c.fact 4 rfl),
    He.free_ok X G (c.fact 5 rfl),
    He.free_ok X G (c.fact 6 rfl),
    He.free_ok X G (c.fact 7 rfl),
    He.free_ok X G (c.fact 8 rfl),
    He.free_ok X G (c.fact 9 rfl),
    He.free_ok X G (c.fact 10 rfl),
    He.free_ok X G (c.fact 11 rfl),
    He.glo_ok X G (c.fact 12 rfl),
    He.glo_ok X G (c.fact 13 rfl),
    He.glo_ok X G (c.fact 14 rfl),
    He.glo_ok X G (c.fact 15 rfl),
    He.glo_ok X G (c.fact 16 rfl),
    He.glo_ok X G (c.fact 17 rfl),
    He.glo_ok X G (c.fact 18 rfl),
    He.glo_ok X G (c.fact 19 rfl),
    He.glo_ok X G (c.fact 20 rfl),
    He.glo_ok X G (c.fact 21 rfl),
    He.glo_ok X G (c.fact 22 rfl),
    He.glo_ok X G (c.fact 23 rfl),
    He.cls_ok (c.fact 24 rfl),
    He.int_ok X G (c.fact 25 rfl),
    He.str_ok X G (c.fact 26 rfl),
    fRead_ok (c.fact 27 rfl),
    fStat_ok (c.fact 28 rfl),
    fInt_ok (c.fact 29 rfl),
    He.glo_ok X G (c.fact 30 rfl),
    fInt_ok (c.fact 31 rfl),
    He.exc_ok (c.fact 32 rfl),
    He.glo_ok X G (c.fact 33 rfl),
    fInt_ok (c.fact 34 rfl),
    fInt_ok (c.fact 35 rfl),
    He.glo_ok X G (c.fact 36 rfl),
    He.glo_ok X G (c.fact 37 rfl),
    fInt_ok (c.fact 38 rfl),
    He.tupB_ok (c.fact 39 rfl),
    He.glo_ok X G (c.fact 40 rfl),
    He.tupB_ok (c.fact 41 rfl),
    He.glo_ok X G (c.fact 42 rfl),
    He.glo_ok X G (c.fact 43 rfl),
    He.noat_ok (c.fact 44 rfl),
    He.noat_ok (c.fact 45 rfl),
    He.noat_ok (c.fact 46 rfl),
    He.noat_ok (c.fact 47 rfl),
    He.noat_ok (c.fact 48 rfl),
    He.mkr_ok (c.fact 49 rfl),
    He.glo_ok X G (c.fact 50 rfl),
    fProp_ok (c.fact 51 rfl),
    fProp_ok (c.fact 52 rfl),
    He.glo_ok X G (c.fact 53 rfl),
    He.glo_ok X G (c.fact 54 rfl),
    He.glo_ok X G (c.fact 55 rfl),
    fProp_ok (c.fact 56 rfl),
    He.glo_ok X G (c.fact 57 rfl),
    He.glo_ok X G (c.fact 58 rfl),
    He.glo_ok X G (c.fact 59 rfl),
    He.glo_ok X G (c.fact 60 rfl),
    He.glo_ok X G (c.fact 61 rfl),
    He.glo_ok X G (c.fact 62 rfl)⟩
  exact ⟨f29, fun s v => bl s [v] rfl, fun base _ _ => (ok_l_law T).imp fun vs H Q E q => spL_imp hlaw vs H Q E q⟩
end Lw
open PySem PySem.W PySem.Calls PyProof.Rows
theorem PySem.Challenge.cw_leverhouse_k67_changed_state_holds : PySem.Challenge.rw_leverhouse_k67_changed_state.Holds := by
  w_on; o_law
  refine HandSHeadRun.head_any (r := OpenLaw.row PySem.Challenge.rw_leverhouse_k67_changed_state) (q := view (OpenLaw.row PySem.Challenge.rw_leverhouse_k67_changed_state).prog [43]) (H := Lw.hk) (ob := Lw.ob) (M := 8000) (loose := Lw.loose) (d := HandSHeadRun.topDef (OpenLaw.row PySem.Challenge.rw_leverhouse_k67_changed_state).prog 43) (kwd := []) Lw.ob_eq
    (by kernel_rfl) (fun s => by kernel_rfl) Lw.run (by kernel_rfl) (by kernel_rfl) (by kernel_rfl) (by rfl) (by first | assumption | decide +kernel) (by decide +kernel) ⟨rfl, rfl, rfl, rfl, rfl, by decide +kernel⟩ ?hw ?hc
  case hw => w_witness2
  case hc =>
    refine Gm.walk_w (l := PySem.Challenge.rw_leverhouse_k67_changed_state) (n := 63) (k := 8) (x := "_law_script") (CX := fun w => L2.CX (PySem.Challenge.rw_leverhouse_k67_changed_state).prog w) rfl (by decide) (by kernel_rfl) ⟨rfl, by decide, by decide⟩ ?F (fun w H s e s' h => Gm.cx_end H s e s' h)
    intro w mg fa h Y G hmg0
    obtain ⟨K, KX, c⟩ := Y
    have hmg : mg ("law" : PySem.Str) = some (.ref fa) := by
      have e : (HandSHeadRun.topDef (OpenLaw.row PySem.Challenge.rw_leverhouse_k67_changed_state).prog 43).name = ("law" : PySem.Str) := by kernel_rfl
      rw [← e]
      exact hmg0
    obtain ⟨fd, hb, hF⟩ := Lw.facts Lw.law_true (w := w) KX G hmg c
    exact ⟨K, fd, Gm.spL K 63, KX, hb, fun H a ns hl _ hS => ⟨a, ns, rfl, hS, hl, fun _ => rfl⟩, hF⟩
