import PyProof.Rows.All
import Wide.All
import OpenK.AllK
import Wide.FinOn
import HandS.ForMost
import HandS.ForExc
import KE.KDictKeyed
import KE.KeyNested
import PyProof.EqAt
import PyProof.EqKinds
import PyProof.NeKinds
import HandS.IsInst
import HandS.CallSlots
import HandS.Defaults
import HandS.Head0
import HandS.Head1
import HandS.Head2
import HandS.HeadEnd
import HandS.HeadHook1
import HandS.HeadHook2
import HandS.Property
import HandS.MakeKwOnly
import HandS.ClsMeth
import HandS.WordsExc
import HandS.TryOnly
import HandS.TupAny
import KE.GoesEnum
import HandS.More
import HandS.DictComp
import HandS.TupMul
import HandS.Style
import HandS.Flow
import HandS.ExcInit
import KE.KExcSuper
import HandS.ExcField
import HandS.ExcIs
import PyProof.StrOps2
import KE.KDictDisplayH
import HandS.SortKw
import KE.DataMinMax
import KE.KDictWalk
import KE.KDictItemsList
import HandS.FStr
import HandS.Star
import PySem.Challenge.RW_leverhouse_k06_written_form
set_option Elab.async false
set_option linter.all false
set_option maxRecDepth 100000
set_option maxHeartbeats 4000000
namespace Gm
open PySem PySem.Spec L2
structure Df where
  loc : PySem.W.Frag → Addr
  name : Str
  qual : Str
  params : Arguments
  body : List Stmt
  scope : Scope
  dfl : PySem.W.Frag → List V
  kwd : PySem.W.Frag → List (Str × V)
  cl : List Str
abbrev FnX : Type := Option (Str × Str × Arguments × FuncBody × Scope × Addr × List Str × Addr)
def fnAt (K : PySem.W.Frag) (f : Addr) : FnX := match K.lookup f with
  | some ⟨_, _, .func d, _⟩ => some (d.name, d.qualname, d.params, d.body, d.scope, d.globals, d.closure.map (·.1), d.builtins)
  | _ => none
def Df.want (d : Df) : FnX := some (d.name, d.qual, d.params, .stmts d.body, d.scope, mainGlobals, d.cl, builtinsNs)
def Df.good (K : PySem.W.Frag) (d : Df) : Bool := PySem.W.keepIn K (.ref (d.loc K)) && (match K.lookup (d.loc K) with
  | some ⟨_, _, .func q, _⟩ => PySem.W.codeIn K q.code d.qual && (He.dflB K q.defaults (d.dfl K) && He.kwdB K q.kwdefaults (d.kwd K))
  | _ => false)
abbrev Fact : Type := PySem.W.Frag → Bool
abbrev Ob : Type := Bool × List FnX
def obF (fa : List Fact) (fn : List Df) (K : PySem.W.Frag) : Ob := ((fa.all fun f => f K) && fn.all fun d => d.good K, fn.map fun d => fnAt K (d.loc K))
def vaF (fn : List Df) : Ob := (true, fn.map Df.want)
def Told (fa : List Fact) (fn : List Df) (K : PySem.W.Frag) : Prop := obF fa fn K = vaF fn
def obFG (n : Nat) (fa : List Fact) (fn : List Df) (g : Addr → Option Obj) : Ob := obF fa fn (He.frG g (cStatics :: He.asD g n))
def hookF (n : Nat) (fa : List Fact) (fn : List Df) : PySem.W.Hook where
  α := Ob
  obs := fun s => obFG n fa fn s.heap.get?
  val := fun _ => vaF fn
  says := fun _ h => ∃ K : PySem.W.Frag, K.In h ∧ Told fa fn K
  of := fun _ _ e => ⟨_, He.frG_in, e⟩
  keeps := fun _ _ _ ⟨K, hK, c⟩ k => ⟨K, PySem.W.Frag.In.keeps hK k, c⟩
theorem obFG_eq {n : Nat} {fa : List Fact} {fn : List Df} {g : Addr → Option Obj} {s : Shared} (h : ∀ a, g a = s.heap.get? a) : obFG n fa fn g = (hookF n fa fn).obs s := by
  have e : g = s.heap.get? := funext h
  rw [e]; rfl
def recAt (K : PySem.W.Frag) (p : Addr) (T : String) : Addr := match PySem.W.recIn K p T with
  | some (.ref g :: _) => g
  | _ => 0
abbrev statAt (K : PySem.W.Frag) (C m : Str) : Addr := recAt K (He.ma K (He.ga K C) m) "staticmethod"
abbrev methAt (K : PySem.W.Frag) (C m : Str) : Addr := He.ma K (He.ga K C) m
def fRead (C : Str) : Fact := fun K => PySem.W.readsIn K (He.ga K C) (.type "type") && decide (PySem.W.specialIn K (.ref (He.ga K C)) "__getattribute__" = some (some (.builtin "type.__getattribute__")))
/-- a whole number of a class -/
def fInt (C m : Str) (i : Int) : Fact := fun K => match PySem.W.findCls K (.ref (He.ga K C)) (.type "type") m with
  | some (.val (.int j _)) => decide (j = i)
  | _ => false
def fStat (C m : Str) : Fact := fun K => (match PySem.W.findCls K (.ref (He.ga K C)) (.type "type") m with
  | some (.get (.builtin g) (.ref p) .none (.ref D)) => decide (g = "staticmethod.__get__") && (decide (p = methAt K C m) && decide (D = He.ga K C))
  | _ => false) && ((match PySem.W.recIn K (methAt K C m) "staticmethod" with | some (.ref _ :: _) => true | _ => false) && PySem.W.keepIn K (.ref (statAt K C m)))
/-- a keyword-only default that is an object -/
def kwAt (K : PySem.W.Frag) (f : Addr) (x : Str) : Addr := match K.lookup f with
  | some ⟨_, _, .func d, _⟩ => (match d.kwdefaults with
    | .ref D => (match PySem.W.nsIn K D x with
      | some (some (.ref q)) => q
      | _ => 0)
    | _ => 0)
  | _ => 0
def cellAt (K : PySem.W.Frag) (f : Addr) : Addr := match K.lookup f with
  | some ⟨_, _, .func d, _⟩ => (match d.closure with | [(_, c)] => c | _ => 0)
  | _ => 0
def codeAt (K : PySem.W.Frag) (f : Addr) : Addr := match K.lookup f with
  | some ⟨_, _, .func d, _⟩ => (match d.code with | .ref a => a | _ => 0)
  | _ => 0
def codeB (K : PySem.W.Frag) (f : Addr) : Bool := match K.lookup f with
  | some ⟨_, _, .func d, _⟩ => (match d.code with | .ref _ => true | _ => false)
  | _ => false
def supCls (K : PySem.W.Frag) (C : Addr) : Bool := match K.lookup C with
  | some ⟨oc, _, .cls cd, sl⟩ => (match cd.mro, sl.toList with
    | .ref C' :: bm, [_, _, _, _, some (.builtin n), _] => decide (oc = .type "type") && (decide (C' = C) && (cd.hasDict && (!cd.hasDel && (decide (n = "ValueError.__new__") && (PySem.HandSPX.refsVE bm && decide (PySem.W.alongIn K "__init__" bm = some (some (.builtin "ValueError.__init__"))))))))
    | _, _ => false)
  | _ => false
def fSup (P : Program) (C f : Str) : Fact := fun K => supCls K (He.ga K C) && (decide (PySem.W.findIn K (.ref (He.ga K C)) "__setattr__" = some (some (.builtin "object.__setattr__"))) && (decide (PySem.W.subIn K (.ref (He.ga K C)) (.type "BaseException") = some true) &&
  (decide (PySem.W.subIn K (.ref (He.ga K C)) (.type "ValueError") = some true) && (decide (PySem.W.typeIn K (.ref (He.ga K C)) = some (.type "type")) && (PySem.W.keepIn K (.ref (He.ga K C)) && (decide (PySem.W.findIn K (.ref (He.ga K C)) f = some none) &&
  (decide (PySem.W.findIn K (.ref (He.ga K C)) "__init__" = some (some (.ref (methAt K C "__init__")))) && (decide (PySem.W.typeIn K (.ref (methAt K C "__init__")) = some (.type "function")) && (decide (PySem.W.mroIn K (He.ga K C) (.ref (He.ga K C)) = some true) &&
  (decide (PySem.W.nsIn K cStatics "thirdparty.any" = some none) && (codeB K (methAt K C "__init__") &&
  ((match K.lookup (codeAt K (methAt K C "__init__")) with | some ⟨_, _, .fields vs, _⟩ => (match (vs[2]? : Option Value) with | some (Value.str file _) => ((P.main.file : Str) == file) | _ => false) | _ => false) &&
  ((match K.lookup (cellAt K (methAt K C "__init__")) with | some ⟨_, _, .cell (some (.ref D)), _⟩ => decide (D = He.ga K C) | _ => false) && !(P.main.scope.names.lookup ("super" : Str)).isSome)))))))))))))
end Gm
set_option Elab.async false
set_option synthInstance.maxHeartbeats 2000000
set_option synthInstance.maxSize 4000
set_option linter.all false
set_option maxRecDepth 100000
set_option maxHeartbeats 4000000
namespace Lw
open PySem PySem.Spec L2 Gm
abbrev topS (i : Nat) : Stmt := PySem.Challenge.pw_leverhouse_k06_written_form.main.body.getD i (.Pass ⟨0, 0, 0, 0⟩)
abbrev s_l_row : Stmt := topS 18
abbrev s_l_numbers : Stmt := topS 19
abbrev s_l_names : Stmt := topS 20
abbrev s_l_count : Stmt := topS 21
abbrev s_l_two : Stmt := topS 22
abbrev s_l_loads : Stmt := topS 24
abbrev s_l_contact : Stmt := topS 23
abbrev s_l_parts : Stmt := topS 25
abbrev s_g_Board_is_name : Stmt := inClass (topS 14) 6
abbrev s_g_are_names : Stmt := topS 10
abbrev s_g_is_between : Stmt := topS 11
abbrev s_g_are_loads : Stmt := topS 12
abbrev s_g_is_contact : Stmt := topS 13
abbrev s_g_Board_init : Stmt := inClass (topS 14) 5
abbrev s_l_made : Stmt := topS 26
abbrev s_l_lines : Stmt := topS 28
abbrev s_g_format_board : Stmt := topS 16
abbrev s_g_Board_with_contacts : Stmt := inClass (topS 14) 15
abbrev s_g_Board_other_contacts : Stmt := inClass (topS 14) 19
abbrev s_g_Board_without_contact : Stmt := inClass (topS 14) 18
abbrev s_l_same : Stmt := topS 27
abbrev s_l_law : Stmt := topS 29
abbrev s_g_UnknownNumber_init : Stmt := inClass (topS 4) 0
end Lw
set_option Elab.async false
set_option synthInstance.maxHeartbeats 2000000
set_option synthInstance.maxSize 4000
set_option linter.all false
set_option maxRecDepth 100000
set_option maxHeartbeats 4000000
namespace Lw
open PySem PySem.Spec L2 Gm
def d_l_row : Df := ⟨fun K => (He.ga K "_law_row"), "_law_row", "_law_row", defArgs s_l_row, defBody s_l_row, defScope s_l_row, fun _ => [], fun K => [], []⟩
def d_l_numbers : Df := ⟨fun K => (He.ga K "_law_numbers"), "_law_numbers", "_law_numbers", defArgs s_l_numbers, defBody s_l_numbers, defScope s_l_numbers, fun _ => [], fun K => [], []⟩
def d_l_names : Df := ⟨fun K => (He.ga K "_law_names"), "_law_names", "_law_names", defArgs s_l_names, defBody s_l_names, defScope s_l_names, fun _ => [], fun K => [], []⟩
def d_l_count : Df := ⟨fun K => (He.ga K "_law_count"), "_law_count", "_law_count", defArgs s_l_count, defBody s_l_count, defScope s_l_count, fun _ => [], fun K => [], []⟩
def d_l_two : Df := ⟨fun K => (He.ga K "_law_two"), "_law_two", "_law_two", defArgs s_l_two, defBody s_l_two, defScope s_l_two, fun _ => [], fun K => [], []⟩
def d_l_loads : Df := ⟨fun K => (He.ga K "_law_loads"), "_law_loads", "_law_loads", defArgs s_l_loads, defBody s_l_loads, defScope s_l_loads, fun _ => [], fun K => [], []⟩
def d_l_contact : Df := ⟨fun K => (He.ga K "_law_contact"), "_law_contact", "_law_contact", defArgs s_l_contact, defBody s_l_contact, defScope s_l_contact, fun _ => [], fun K => [], []⟩
def d_l_parts : Df := ⟨fun K => (He.ga K "_law_parts"), "_law_parts", "_law_parts", defArgs s_l_parts, defBody s_l_parts, defScope s_l_parts, fun _ => [], fun K => [], []⟩
def d_g_Board_is_name : Df := ⟨fun K => (statAt K "Board" "is_name"), "is_name", "Board.is_name", defArgs s_g_Board_is_name, defBody s_g_Board_is_name, defScope s_g_Board_is_name, fun _ => [], fun K => [], []⟩
def d_g_are_names : Df := ⟨fun K => (He.ga K "are_names"), "are_names", "are_names", defArgs s_g_are_names, defBody s_g_are_names, defScope s_g_are_names, fun _ => [], fun K => [], []⟩
def d_g_is_between : Df := ⟨fun K => (He.ga K "is_between"), "is_between", "is_between", defArgs s_g_is_between, defBody s_g_is_between, defScope s_g_is_between, fun _ => [], fun K => [], []⟩
def d_g_are_loads : Df := ⟨fun K => (He.ga K "are_loads"), "are_loads", "are_loads", defArgs s_g_are_loads, defBody s_g_are_loads, defScope s_g_are_loads, fun _ => [], fun K => [], []⟩
def d_g_is_contact : Df := ⟨fun K => (He.ga K "is_contact"), "is_contact", "is_contact", defArgs s_g_is_contact, defBody s_g_is_contact, defScope s_g_is_contact, fun _ => [], fun K => [], []⟩
def d_g_Board_init : Df := ⟨fun K => (methAt K "Board" "__init__"), "__init__", "Board.__init__", defArgs s_g_Board_init, defBody s_g_Board_init, defScope s_g_Board_init, fun _ => [], fun K => [("switches", .ref (kwAt K (methAt K "Board" "__init__") "switches")), ("relays", .ref (kwAt K (methAt K "Board" "__init__") "relays")), ("contacts", .ref (kwAt K (methAt K "Board" "__init__") "contacts"))], []⟩
def d_l_made : Df := ⟨fun K => (He.ga K "_law_made"), "_law_made", "_law_made", defArgs s_l_made, defBody s_l_made, defScope s_l_made, fun _ => [], fun K => [], []⟩
def d_l_lines : Df := ⟨fun K => (He.ga K "_law_lines"), "_law_lines", "_law_lines", defArgs s_l_lines, defBody s_l_lines, defScope s_l_lines, fun _ => [], fun K => [], []⟩
def d_g_format_board : Df := ⟨fun K => (He.ga K "format_board"), "format_board", "format_board", defArgs s_g_format_board, defBody s_g_format_board, defScope s_g_format_board, fun _ => [], fun K => [], []⟩
def d_g_Board_with_contacts : Df := ⟨fun K => (methAt K "Board" "with_contacts"), "with_contacts", "Board.with_contacts", defArgs s_g_Board_with_contacts, defBody s_g_Board_with_contacts, defScope s_g_Board_with_contacts, fun _ => [], fun K => [], []⟩
def d_g_Board_other_contacts : Df := ⟨fun K => (methAt K "Board" "other_contacts"), "other_contacts", "Board.other_contacts", defArgs s_g_Board_other_contacts, defBody s_g_Board_other_contacts, defScope s_g_Board_other_contacts, fun _ => [], fun K => [], []⟩
def d_g_Board_without_contact : Df := ⟨fun K => (methAt K "Board" "without_contact"), "without_contact", "Board.without_contact", defArgs s_g_Board_without_contact, defBody s_g_Board_without_contact, defScope s_g_Board_without_contact, fun _ => [], fun K => [], []⟩
def d_l_same : Df := ⟨fun K => (He.ga K "_law_same"), "_law_same", "_law_same", defArgs s_l_same, defBody s_l_same, defScope s_l_same, fun _ => [], fun K => [], []⟩
def d_l_law : Df := ⟨fun K => (He.ga K "law"), "law", "law", defArgs s_l_law, defBody s_l_law, defScope s_l_law, fun _ => [], fun K => [], []⟩
def d_g_UnknownNumber_init : Df := ⟨fun K => (methAt K "UnknownNumber" "__init__"), "__init__", "UnknownNumber.__init__", defArgs s_g_UnknownNumber_init, defBody s_g_UnknownNumber_init, defScope s_g_UnknownNumber_init, fun _ => [], fun K => [], [("__class__" : Str)]⟩
abbrev P0 : Program := (PySem.Challenge.rw_leverhouse_k06_written_form).prog
def fn : List Df := [d_l_row, d_l_numbers, d_l_names, d_l_count, d_l_two, d_l_loads, d_l_contact, d_l_parts, d_g_Board_is_name, d_g_are_names, d_g_is_between, d_g_are_loads, d_g_is_contact, d_g_Board_init, d_l_made, d_l_lines, d_g_format_board, d_g_Board_with_contacts, d_g_Board_other_contacts, d_g_Board_without_contact, d_l_same, d_l_law, d_g_UnknownNumber_init]
def fa0 : List Fact := [fun K => He.Fa.ok K (.free "abs"),
  fun K => He.Fa.ok K (.free "all"),
  fun K => He.Fa.ok K (.free "enumerate"),
  fun K => He.Fa.ok K (.free "int"),
  fun K => He.Fa.ok K (.free "isinstance"),
  fun K => He.Fa.ok K (.free "len"),
  fun K => He.Fa.ok K (.free "list"),
  fun K => He.Fa.ok K (.free "max"),
  fun K => He.Fa.ok K (.free "min"),
  fun K => He.Fa.ok K (.free "range"),
  fun K => He.Fa.ok K (.free "str"),
  fun K => He.Fa.ok K (.free "super"),
  fun K => He.Fa.ok K (.free "tuple"),
  fun K => He.Fa.ok K (.glo "_law_row"),
  fun K => He.Fa.ok K (.glo "_law_numbers"),
  fun K => He.Fa.ok K (.glo "_law_count"),
  fun K => He.Fa.ok K (.glo "_law_names"),
  fun K => He.Fa.ok K (.glo "_law_two"),
  fun K => He.Fa.ok K (.glo "_law_loads"),
  fun K => He.Fa.ok K (.glo "_law_contact"),
  fun K => He.Fa.ok K (.glo "_law_parts"),
  fun K => He.Fa.ok K (.glo "Board"),
  fun K => He.Fa.ok K (.cls "Board"),
  fun K => He.Fa.ok K (.int "MOST_NAME_CHARS" (12)),
  fun K => He.Fa.ok K (.str "NAME_CHARS" ("abcdefghijklmnopqrstuvwxyz0123456789" : Str)),
  fRead "Board",
  fStat "Board" "is_name",
  fInt "Board" "MOST_NODES" 16,
  fun K => He.Fa.ok K (.glo "are_names"),
  fInt "Board" "MOST_SWITCHES" 6]
def fa1 : List Fact := [fun K => He.Fa.ok K (.exc "InvalidBoard"),
  fun K => He.Fa.ok K (.glo "InvalidBoard"),
  fInt "Board" "MOST_RELAYS" 8,
  fInt "Board" "MOST_LAMPS" 8,
  fun K => He.Fa.ok K (.glo "is_between"),
  fun K => He.Fa.ok K (.glo "are_loads"),
  fInt "Board" "MOST_CONTACTS" 40,
  fun K => He.tupB K "WHENS" [.str ("make" : Str), .str ("break" : Str)],
  fun K => He.Fa.ok K (.glo "WHENS"),
  fun K => He.tupB K "WAYS" [.str ("both" : Str), .str ("forward" : Str)],
  fun K => He.Fa.ok K (.glo "WAYS"),
  fun K => He.Fa.ok K (.glo "is_contact"),
  fun K => He.Fa.ok K (.noat "Board" "contacts"),
  fun K => He.Fa.ok K (.noat "Board" "lamps"),
  fun K => He.Fa.ok K (.noat "Board" "relays"),
  fun K => He.Fa.ok K (.noat "Board" "switches"),
  fun K => He.Fa.ok K (.noat "Board" "nodes"),
  fun K => He.Fa.ok K (.mkr "Board"),
  fun K => He.Fa.ok K (.glo "_law_made"),
  fun K => He.Fa.ok K (.glo "_law_lines"),
  fun K => He.Fa.ok K (.glo "format_board"),
  fun K => He.Fa.ok K (.glo "UnknownNumber"),
  fSup P0 "UnknownNumber" "number",
  fun K => He.Fa.ok K (.meth "Board" "other_contacts"),
  fun K => He.Fa.ok K (.meth "Board" "with_contacts"),
  fun K => He.Fa.ok K (.meth "Board" "without_contact"),
  fun K => He.Fa.ok K (.glo "_law_same"),
  fun K => He.Fa.ok K (.glo "law")]
def fa : List Fact := fa0 ++ fa1
abbrev R : PySem.W.OpenRow := PySem.W.OpenLaw.row PySem.Challenge.rw_leverhouse_k06_written_form
abbrev hk : PySem.W.Hook := hookF 6 fa fn
def ob (s : PySem.W.SharedT) : Ob := obFG 6 fa fn (HandSHeadRun.getT s)
theorem ob_eq (s : PySem.W.SharedT) : ob s = hk.obs s.abs := obFG_eq (HandSHeadRun.getT_eq s)
def loose0 : List Str := ["_wall", "LeverhouseError", "InvalidBoard", "UnknownNumber", "NAME_CHARS", "MOST_NAME_CHARS", "WHENS", "WAYS", "are_names", "is_between", "are_loads", "is_contact"]
def loose1 : List Str := ["Board", "format_board", "_law_row", "_law_numbers", "_law_names", "_law_count", "_law_two", "_law_contact", "_law_loads", "_law_parts", "_law_made", "_law_same"]
def loose2 : List Str := ["_law_lines"]
def loose : List Str := loose0 ++ loose1 ++ loose2
theorem run (w : World) : HandSHeadRun.RunEq R (PySem.W.view R.prog [29]) hk ob 8000 loose w := by
  intro os
  kernel_rfl
end Lw
set_option Elab.async false
set_option linter.all false
set_option maxRecDepth 100000
set_option maxHeartbeats 4000000
namespace Gm
open PySem PySem.Spec L2

/-! ## dicts whose keys are nested tuples -/
abbrev NE := NestedKey × Addr × V
def nRel (p : NE) (q : NestedKey × Addr × Value) : Prop := p.1 = q.1 ∧ p.2.1 = q.2.1 ∧ RelV p.2.2 q.2.2
def DnP (P : Program) (w : World) (a : Addr) (kvs : List NE) (h : Heap) : Prop := kvs.length ≤ sizeLine ∧ (a == sysModules) = false ∧ ∃ xs : List (NestedKey × Addr × Value), Paired nRel kvs xs ∧
  ∃ o es ep, h.get? a = some o ∧ o.ExactDict ∧ o.data = .dict es ep ∧ es.toList = xs.map (entryOfKey (nestedKind P w)) ∧ (xs.map (·.1)).Nodup
/-- the dict at a, its entries: key, the key's place, value -/
def dnO (P : Program) (w : World) (a : Addr) (kvs : List NE) : HO := .ext (DnP P w a kvs)
def getN (kvs : List NE) (k : NestedKey) : Option V := (kvs.find? fun e => decide (e.1 = k)).map (·.2.2)
def putN (kvs : List NE) (k : NestedKey) (b : Addr) (v : V) : List NE := if (kvs.any fun e => decide (e.1 = k)) = true then kvs.map (fun e => if e.1 = k then (e.1, e.2.1, v) else e) else kvs ++ [(k, b, v)]
theorem putN_len {kvs : List NE} {k : NestedKey} {b : Addr} {v : V} : (putN kvs k b v).length ≤ kvs.length + 1 := by
  unfold putN; split <;> simp
section
variable {kvs : List NE} {xs : List (NestedKey × Addr × Value)}
theorem nRel.len (r : Paired nRel kvs xs) : kvs.length = xs.length := Paired.length r
theorem nRel.get (r : Paired nRel kvs xs) (k : NestedKey) : RelO (getN kvs k) ((atKey xs k).map (·.2)) := by
  induction r with
  | nil => exact True.intro
  | @cons p q ps qs h t ih =>
    obtain ⟨h1, h2, h3⟩ := h
    by_cases e : p.1 = k
    · have e2 : q.1 = k := h1.symm.trans e
      have l1 : getN (p :: ps) k = some p.2.2 := by simp [getN, List.find?_cons, e]
      have l2 : (atKey (q :: qs) k).map (·.2) = some q.2.2 := by simp [atKey, List.find?_cons, e2]
      rw [l1, l2]; exact h3
    · have e2 : ¬ q.1 = k := fun z => e (h1.trans z)
      have l1 : getN (p :: ps) k = getN ps k := by simp [getN, List.find?_cons, e]
      have l2 : (atKey (q :: qs) k).map (·.2) = (atKey qs k).map (·.2) := by simp [atKey, List.find?_cons, e2]
      rw [l1, l2]; exact ih
theorem nRel.any (r : Paired nRel kvs xs) (k : NestedKey) : (kvs.any fun e => decide (e.1 = k)) = (atKey xs k).isSome := by
  induction r with
  | nil => rfl
  | @cons p q ps qs h t ih =>
    by_cases e : p.1 = k
    · have e2 : q.1 = k := h.1.symm.trans e
      simp [atKey, List.find?_cons, e, e2]
    · have e2 : ¬ q.1 = k := fun z => e (h.1.trans z)
      have l2 : (atKey (q :: qs) k).isSome = (atKey qs k).isSome := by simp [atKey, List.find?_cons, e2]
      rw [l2, ← ih]; simp [e]
theorem nRel.set (r : Paired nRel kvs xs) (k : NestedKey) {v : V} {u : Value} (rv : RelV v u) : Paired nRel (kvs.map (fun e => if e.1 = k then (e.1, e.2.1, v) else e)) (xs.map (putAt k u)) := by
  induction r with
  | nil => exact .nil
  | @cons p q ps qs h t ih =>
    rw [List.map_cons, List.map_cons]
    refine .cons ?_ ih
    unfold putAt
    by_cases e : p.1 = k
    · have e2 : q.1 = k := h.1.symm.trans e
      rw [if_pos e, if_pos e2]; exact ⟨h.1, h.2.1, rv⟩
    · have e2 : ¬ q.1 = k := fun z => e (h.1.trans z)
      rw [if_neg e, if_neg e2]; exact h
theorem nRel.put (r : Paired nRel kvs xs) (k : NestedKey) {b : Addr} {v : V} {u : Value} (rv : RelV v u) : Paired nRel (putN kvs k b v) (storedH xs k b u) := by
  unfold putN storedH
  rw [nRel.any r k]
  split
  · exact nRel.set r k rv
  · have app : ∀ {l1 l2 : List NE} {m1 m2 : List (NestedKey × Addr × Value)}, Paired nRel l1 m1 → Paired nRel l2 m2 → Paired nRel (l1 ++ l2) (m1 ++ m2) := by
      intro l1 l2 m1 m2 a b
      induction a with
      | nil => exact b
      | cons h t ih => exact .cons h ih
    exact app r (.cons ⟨rfl, rfl, rv⟩ .nil)
end
/-- at b stands the key k -/
def NK (X : Cx) (H : Hp) (k : NestedKey) (b : Addr) : Prop := ∀ pins σ s, Inv X pins σ H s → (nestedKind X.prog X.w).is s.heap k b
section
variable {X : Cx} {pins : List (Addr × Obj)} {σ : L2.St} {H : Hp} {s : Shared} {a b : Addr} {v : V} {k : NestedKey} {kvs : List NE} {A : Around} {E : Value → Shared → Prop}
theorem dn_at (I : Inv X pins σ H s) (e : Rd H a (dnO X.prog X.w a kvs)) : DnP X.prog X.w a kvs s.heap := (Rd.ok e I.hok).1
theorem dn_of (I : Inv X pins σ H s) (e : Rd H a (dnO X.prog X.w a kvs)) (hk : ∀ p ∈ kvs, NK X H p.1 p.2.1) : kvs.length ≤ sizeLine ∧ (a == sysModules) = false ∧ ∃ xs, Paired nRel kvs xs ∧ s.heap.DictOfH (nestedKind X.prog X.w) a xs := by
  obtain ⟨z, y, xs, r, o, es, ep, h1, h2, h3, h4, h5⟩ := dn_at I e
  refine ⟨z, y, xs, r, o, es, ep, h1, h2, h3, h4, fun q hq => ?_, h5⟩
  have all : ∀ {l : List NE} {m : List (NestedKey × Addr × Value)}, Paired nRel l m → (∀ p ∈ l, NK X H p.1 p.2.1) → ∀ q ∈ m, (nestedKind X.prog X.w).is s.heap q.1 q.2.1 := by
    intro l m t
    induction t with
    | nil => intro _ q hq; exact nomatch hq
    | @cons p q ps qs hh t ih =>
      intro hl q' hq
      rcases List.mem_cons.mp hq with rfl | hq
      · have := hl p (List.mem_cons_self ..) _ _ _ I
        rw [← hh.1, ← hh.2.1]; exact this
      · exact ih (fun p hp => hl p (List.mem_cons_of_mem _ hp)) q' hq
  exact all r hk q hq
theorem dn_typeIs (I : Inv X pins σ H s) (e : Rd H a (dnO X.prog X.w a kvs)) : s.TypeIs (.ref a) "dict" := by
  obtain ⟨_, _, xs, _, o, es, ep, h1, h2, _⟩ := dn_at I e
  exact ⟨o, h1, h2.1⟩
theorem room8 (hu : A.units + 64 < cLine) {P : Program} {w : World} : (nestedKind P w).room A.in1 := by
  show A.units + 1 + 8 < cLine
  omega
theorem n_getItem {Q : Value → Shared → Prop} (hu : A.units + 64 < cLine) (I : Inv X pins σ H s) (e : Rd H a (dnO X.prog X.w a kvs)) (hk : ∀ p ∈ kvs, NK X H p.1 p.2.1) (hb : NK X H k b) (l : getN kvs k = some v) (h : ∀ w' s', Inv X pins σ H s' → RelV v w' → Q w' s') :
    wpAny (model X.prog X.w) A (getItem (.ref a) (.ref b)) Q E s := by
  obtain ⟨z, hd, xs, rel, dd⟩ := dn_of I e hk
  obtain ⟨w', hw, rw'⟩ := RelO.some_of (v := v) (o := (atKey xs k).map (·.2)) (by rw [← l]; exact nRel.get rel k)
  obtain ⟨p, hp, hp2⟩ := Option.map_eq_some_iff.mp hw
  refine wpAny_getItem_heap (room8 hu) (hb _ _ _ I) dd hp ?_
  rw [hp2]
  exact h w' _ (I.tok _) rw'
theorem n_in {Q : Value → Shared → Prop} (hu : A.units + 64 < cLine) (I : Inv X pins σ H s) (e : Rd H a (dnO X.prog X.w a kvs)) (hk : ∀ p ∈ kvs, NK X H p.1 p.2.1) (hb : NK X H k b) (h : ∀ s', Inv X pins σ H s' → Q (.bool (getN kvs k).isSome) s') :
    wpAny (model X.prog X.w) A (compareOp .In (.ref b) (.ref a)) Q E s := by
  obtain ⟨z, hd, xs, rel, dd⟩ := dn_of I e hk
  refine wpAny_in_heap (room8 hu) (hb _ _ _ I) hd dd ?_
  have q := (nRel.get rel k).isSome_eq
  rw [Option.isSome_map] at q
  rw [← q]
  exact h _ (I.tok _)
theorem n_notIn {Q : Value → Shared → Prop} (hu : A.units + 64 < cLine) (I : Inv X pins σ H s) (e : Rd H a (dnO X.prog X.w a kvs)) (hk : ∀ p ∈ kvs, NK X H p.1 p.2.1) (hb : NK X H k b) (h : ∀ s', Inv X pins σ H s' → Q (.bool (!(getN kvs k).isSome)) s') :
    wpAny (model X.prog X.w) A (compareOp .NotIn (.ref b) (.ref a)) Q E s := by
  obtain ⟨z, hd, xs, rel, dd⟩ := dn_of I e hk
  show wpAny _ _ (do return .bool (!(← contains (.ref a) (.ref b)))) Q E s
  refine wpAny_bind (wpAny_contains_heap (room8 hu) (hb _ _ _ I) hd dd (wpAny_pure ?_))
  have q := (nRel.get rel k).isSome_eq
  rw [Option.isSome_map] at q
  rw [← q]
  exact h _ (I.tok _)
theorem dnP_keep {P : Program} {w : World} {a : Addr} {kvs : List NE} : ∀ h1 h2 : Heap, DnP P w a kvs h1 → (∀ o, h1.get? a = some o → h2.get? a = some o) → DnP P w a kvs h2 :=
  fun h1 h2 ⟨z, y, xs, r, o, es, ep, e1, e2⟩ k => ⟨z, y, xs, r, o, es, ep, k _ e1, e2⟩
theorem dn_ok {P : Program} {w : World} {H : Hp} {h : Heap} (x : DnP P w a kvs h) : ObjOk P w H h a (dnO P w a kvs) := by
  obtain ⟨_, _, _, _, o, _, _, e, _⟩ := id x
  exact ⟨x, ⟨o, e⟩, dnP_keep⟩
theorem n_setItem {r : Value} {Q : Unit → Shared → Prop} (hu : A.units + 64 < cLine) (I : Inv X pins σ H s) (e : H a = some (dnO X.prog X.w a kvs)) (hk : ∀ p ∈ kvs, NK X H p.1 p.2.1) (hb : NK X H k b) (hl : kvs.length < sizeLine) (rv : RelV v r)
    (h : ∀ s', Inv X pins σ (upd H a (dnO X.prog X.w a (putN kvs k b v))) s' → Q () s') :
    wpAny (model X.prog X.w) A (setItem (.ref a) (.ref b) r) Q E s := by
  obtain ⟨z, hd, xs, rel, dd⟩ := dn_of I (.inl e) hk
  have hz : xs.length ≤ sizeLine := by rw [← nRel.len rel]; exact z
  have hl2 : (putN kvs k b v).length ≤ sizeLine := by have := putN_len (kvs := kvs) (k := k) (b := b) (v := v); omega
  refine wpAny_setItem_heap (hsz := hz) (room8 hu) (hb _ _ _ I) dd fun h' dd' hs => h _ ?_
  obtain ⟨q, es, ep, hq, h2, h3, h4, _, h5⟩ := dd'
  exact d_write I (by rw [e]; exact True.intro) hs ⟨q, hq⟩ (dn_ok ⟨hl2, hd, _, nRel.put rel k rv, q, es, ep, hq, h2, h3, h4, h5⟩)
theorem n_get2 {d : V} {r : Value} {Q : Value → Shared → Prop} (hu : A.units + 64 < cLine) (I : Inv X pins σ H s) (e : Rd H a (dnO X.prog X.w a kvs)) (hk : ∀ p ∈ kvs, NK X H p.1 p.2.1) (hb : NK X H k b) (rd : RelV d r) (h : ∀ w' s', Inv X pins σ H s' → RelV ((getN kvs k).getD d) w' → Q w' s') :
    wpAny (model X.prog X.w) A (call (.builtin "dict.get") [.ref a, .ref b, r]) Q E s := by
  obtain ⟨z, hd, xs, rel, dd⟩ := dn_of I e hk
  exact call_meetsIn PySem.F.slot_dict_get dd.typeIs PySem.F.entry_dict_get (PySem.F.args_dict_get_3 _ _ _) (meetsH_dict_get_default (nestedKind X.prog X.w) a b hd r) ⟨room8 hu, k, xs, hb _ _ _ I, dd, h _ _ (I.tok _) ((nRel.get rel k).getD rd)⟩
theorem n_len {Q : Value → Shared → Prop} (I : Inv X pins σ H s) (e : Rd H a (dnO X.prog X.w a kvs)) (hk : ∀ p ∈ kvs, NK X H p.1 p.2.1) (h : ∀ t s', Inv X pins σ H s' → Q (.int kvs.length t) s') : wpAny (model X.prog X.w) A (call (.builtin "len") [.ref a]) Q E s := by
  obtain ⟨z, hd, xs, rel, dd⟩ := dn_of I e hk
  have hm : s.heap.DictKeyed (nestedKind X.prog X.w) a (pairsH xs) := ⟨xs, dd, rfl⟩
  have hl : (pairsH xs).length = kvs.length := by rw [pairsH_length, nRel.len rel]
  refine PyProof.Rows.call_len_slot (n := (pairsH xs).length) hm.typeIs PySem.F.slot_dict_len (fun Q' hq => len_keyed hd hm hq) (by omega) (by rw [hl]; rw [sizeLine_eq] at z; omega) ?_
  rw [hl]
  exact h _ _ (I.tok _)
end
end Gm
set_option Elab.async false
set_option linter.all false
set_option maxRecDepth 100000
set_option maxHeartbeats 4000000
namespace Gm
open PySem L2

/-! ## mirror values -/
inductive Pay where
  | n | i (z : Int) | s (z : Str)
structure Exn where
  c : Str
  f : Str
  p : Pay
inductive Mx (α : Type) where
  | ok (a : α) | ex (e : Exn) | no
def Mx.bind {α β : Type} : Mx α → (α → Mx β) → Mx β
  | .ok a, f => f a
  | .ex e, _ => .ex e
  | .no, _ => .no
instance : Monad Mx where
  pure := Mx.ok
  bind := Mx.bind
theorem ok_bind {α β : Type} (a : α) (f : α → Mx β) : (Mx.ok a >>= f) = f a := rfl

/-! ## codes of data -/
inductive Ty where
  | int | bool | str | non | scr | tpl | exn
  | opt (t : Ty) | tup (fs : Ty) | vtup (t : Ty) | hl (fs : Ty) | list (t : Ty)
  | pr (a b : Ty) | nl | sum (a b : Ty) | ins (c : Str) (ns : List Str) (fs : Ty) | dic (k v : Ty) | dicN (P : Program) (w : World) (k v : Ty)
@[reducible] def Ty.den : Ty → Type
  | .int => Int
  | .bool => Bool
  | .str => Str
  | .non => Unit
  | .scr => List Int
  | .tpl => Unit
  | .exn => Addr × Addr × Exn
  | .opt t => Option t.den
  | .tup fs => fs.den
  | .vtup t => List t.den
  | .hl fs => fs.den
  | .list t => List t.den
  | .pr a b => a.den × b.den
  | .nl => Unit
  | .sum a b => Sum a.den b.den
  | .ins _ _ fs => fs.den
  | .dic k v => List (k.den × v.den)
  | .dicN _ _ k v => List (k.den × v.den)
/-- a key, as the hand layer writes it -/
def Ty.key : (t : Ty) → t.den → Key
  | .int, i => .inl i
  | .str, s => .inr s
  | _, _ => .inl 0
def Ty.flat : Ty → Bool
  | .int => true
  | .bool => true
  | .str => true
  | .non => true
  | .scr => false
  | .tpl => true
  | .exn => false
  | .opt t => t.flat
  | .tup fs => fs.flat
  | .vtup t => t.flat
  | .hl _ => false
  | .list _ => false
  | .pr a b => a.flat && b.flat
  | .nl => true
  | .sum a b => a.flat && b.flat
  | .ins _ _ _ => false
  | .dic _ _ => false
  | .dicN _ _ _ _ => false
/-- what may be a key, as the library writes it -/
def Ty.nks : (t : Ty) → t.den → List NestedKey
  | .int, i => [.num i]
  | .bool, b => [.num (if b = true then 1 else 0)]
  | .str, s => [.text s]
  | .non, _ => [.none]
  | .opt t, x => match x with
    | none => [.none]
    | some y => t.nks y
  | .tup fs, x => [.tup (fs.nks x)]
  | .vtup t, xs => [.tup (xs.flatMap t.nks)]
  | .pr a b, x => a.nks x.1 ++ b.nks x.2
  | .nl, _ => []
  | _, _ => []
def Ty.nk (t : Ty) (x : t.den) : NestedKey := (t.nks x).headD .none

def all2 {α : Type} (R : α → V → Prop) : List α → List V → Prop
  | [], [] => True
  | x :: xs, v :: vs => R x v ∧ all2 R xs vs
  | _, _ => False
theorem all2.imp {α : Type} {R S : α → V → Prop} (h : ∀ x v, R x v → S x v) : ∀ {xs : List α} {vs : List V}, all2 R xs vs → all2 S xs vs
  | [], [], _ => True.intro
  | _ :: _, _ :: _, ⟨a, b⟩ => ⟨h _ _ a, all2.imp h b⟩
  | [], _ :: _, z => z.elim
  | _ :: _, [], z => z.elim
theorem all2.len {α : Type} {R : α → V → Prop} : ∀ {xs : List α} {vs : List V}, all2 R xs vs → xs.length = vs.length
  | [], [], _ => rfl
  | _ :: _, _ :: _, ⟨_, b⟩ => congrArg (· + 1) (all2.len b)
  | [], _ :: _, z => z.elim
  | _ :: _, [], z => z.elim
theorem all2.get {α : Type} {R : α → V → Prop} : ∀ {xs : List α} {vs : List V} {i : Nat} {x : α}, all2 R xs vs → xs[i]? = some x → ∃ v, vs[i]? = some v ∧ R x v
  | [], [], _, _, _, e => by simp at e
  | a :: _, v :: _, 0, x, ⟨h, _⟩, e => by
    simp at e; subst e; exact ⟨v, rfl, h⟩
  | _ :: xs, _ :: vs, i + 1, x, ⟨_, h⟩, e => by
    obtain ⟨v, h1, h2⟩ := all2.get (i := i) h (by simpa using e)
    exact ⟨v, by simpa using h1, h2⟩
  | [], _ :: _, _, _, z, _ => z.elim
  | _ :: _, [], _, _, z, _ => z.elim
theorem all2.getV {α : Type} {R : α → V → Prop} : ∀ {xs : List α} {vs : List V} {i : Nat} {v : V}, all2 R xs vs → vs[i]? = some v → ∃ x, xs[i]? = some x ∧ R x v
  | [], [], _, _, _, e => by simp at e
  | a :: _, v :: _, 0, x, ⟨h, _⟩, e => by
    simp at e; subst e; exact ⟨a, rfl, h⟩
  | _ :: xs, _ :: vs, i + 1, x, ⟨_, h⟩, e => by
    obtain ⟨v, h1, h2⟩ := all2.getV (i := i) h (by simpa using e)
    exact ⟨v, by simpa using h1, h2⟩
  | [], _ :: _, _, _, z, _ => z.elim
  | _ :: _, [], _, _, z, _ => z.elim
theorem all2.app {α : Type} {R : α → V → Prop} : ∀ {xs ys : List α} {vs ws : List V}, all2 R xs vs → all2 R ys ws → all2 R (xs ++ ys) (vs ++ ws)
  | [], _, [], _, _, h => h
  | _ :: _, _, _ :: _, _, ⟨a, b⟩, h => ⟨a, all2.app b h⟩
  | [], _, _ :: _, _, z, _ => z.elim
  | _ :: _, _, [], _, z, _ => z.elim
theorem all2.take {α : Type} {R : α → V → Prop} : ∀ {xs : List α} {vs : List V} (n : Nat), all2 R xs vs → all2 R (xs.take n) (vs.take n)
  | [], [], n, _ => by simp [all2]
  | _ :: _, _ :: _, 0, _ => by simp [all2]
  | _ :: _, _ :: _, n + 1, ⟨a, b⟩ => ⟨a, all2.take n b⟩
  | [], _ :: _, _, z => z.elim
  | _ :: _, [], _, z => z.elim
theorem all2.drop {α : Type} {R : α → V → Prop} : ∀ {xs : List α} {vs : List V} (n : Nat), all2 R xs vs → all2 R (xs.drop n) (vs.drop n)
  | [], [], n, _ => by simp [all2]
  | _ :: _, _ :: _, 0, h => h
  | _ :: _, _ :: _, n + 1, ⟨_, b⟩ => by simpa using all2.drop n b
  | [], _ :: _, _, z => z.elim
  | _ :: _, [], _, z => z.elim
theorem all2.set {α : Type} {R : α → V → Prop} {x : α} {v : V} (hx : R x v) : ∀ {xs : List α} {vs : List V} (n : Nat), all2 R xs vs → all2 R (xs.set n x) (vs.set n v)
  | [], [], n, _ => by simp [all2]
  | _ :: _, _ :: _, 0, ⟨_, b⟩ => ⟨hx, b⟩
  | _ :: _, _ :: _, n + 1, ⟨a, b⟩ => ⟨a, all2.set hx n b⟩
  | [], _ :: _, _, z => z.elim
  | _ :: _, [], _, z => z.elim
theorem all2.rev {α : Type} {R : α → V → Prop} : ∀ {xs : List α} {vs : List V}, all2 R xs vs → all2 R xs.reverse vs.reverse
  | [], [], _ => by simp [all2]
  | x :: xs, v :: vs, ⟨a, b⟩ => by
    rw [List.reverse_cons, List.reverse_cons]
    exact all2.app (all2.rev b) ⟨a, True.intro⟩
  | [], _ :: _, z => z.elim
  | _ :: _, [], z => z.elim

/-- the entries of a dict -/
def allD {α β κ : Type} (f : α → κ) (R : β → V → Prop) : List (α × β) → List (κ × V) → Prop
  | [], [] => True
  | p :: xs, q :: kvs => (q.1 = f p.1 ∧ R p.2 q.2) ∧ allD f R xs kvs
  | _, _ => False
theorem allD.imp {α β κ : Type} {f : α → κ} {R S : β → V → Prop} (h : ∀ x v, R x v → S x v) : ∀ {xs : List (α × β)} {kvs : List (κ × V)}, allD f R xs kvs → allD f S xs kvs
  | [], [], _ => True.intro
  | _ :: _, _ :: _, ⟨⟨a, b⟩, c⟩ => ⟨⟨a, h _ _ b⟩, allD.imp h c⟩
  | [], _ :: _, z => z.elim
  | _ :: _, [], z => z.elim
/-- the entries of a dict with nested keys -/
def allN {α β : Type} (f : α → NestedKey) (Rk : α → Addr → Prop) (R : β → V → Prop) : List (α × β) → List NE → Prop
  | [], [] => True
  | p :: xs, e :: kvs => (e.1 = f p.1 ∧ Rk p.1 e.2.1 ∧ R p.2 e.2.2) ∧ allN f Rk R xs kvs
  | _, _ => False
theorem allN.imp {α β : Type} {f : α → NestedKey} {Rk Sk : α → Addr → Prop} {R S : β → V → Prop} (hk : ∀ x b, Rk x b → Sk x b) (h : ∀ x v, R x v → S x v) : ∀ {xs : List (α × β)} {kvs : List NE}, allN f Rk R xs kvs → allN f Sk S xs kvs
  | [], [], _ => True.intro
  | _ :: _, _ :: _, ⟨⟨a, b, c⟩, d⟩ => ⟨⟨a, hk _ _ b, h _ _ c⟩, allN.imp hk h d⟩
  | [], _ :: _, z => z.elim
  | _ :: _, [], z => z.elim
def allM {α β : Type} (f : α → NestedKey) (Rk : α → Addr → Prop) (R : β → V → List Addr → Prop) : List (α × β) → List NE → List (List Addr) → Prop
  | [], [], [] => True
  | p :: xs, e :: kvs, g :: gs => (e.1 = f p.1 ∧ Rk p.1 e.2.1 ∧ R p.2 e.2.2 g) ∧ allM f Rk R xs kvs gs
  | _, _, _ => False
theorem allM.imp {α β : Type} {f : α → NestedKey} {Rk Sk : α → Addr → Prop} {R S : β → V → List Addr → Prop} (hk : ∀ x b, Rk x b → Sk x b) : ∀ {xs : List (α × β)} {kvs : List NE} {gs : List (List Addr)}, (∀ x v g, g ∈ gs → R x v g → S x v g) → allM f Rk R xs kvs gs → allM f Sk S xs kvs gs
  | [], [], [], _, _ => True.intro
  | _ :: _, _ :: _, g :: gs, h, ⟨⟨a, b, c⟩, d⟩ => ⟨⟨a, hk _ _ b, h _ _ _ (List.mem_cons_self ..) c⟩, allM.imp hk (fun x v g m => h x v g (List.mem_cons_of_mem _ m)) d⟩
  | [], _ :: _, _, _, z => z.elim
  | [], [], _ :: _, _, z => z.elim
  | _ :: _, [], _, _, z => z.elim
  | _ :: _, _ :: _, [], _, z => z.elim
theorem allM.two {α β : Type} {f : α → NestedKey} {Rk Sk : α → Addr → Prop} {R : β → V → List Addr → Prop} {S : β → V → Prop} (hk : ∀ x b, Rk x b → Sk x b) : ∀ {xs : List (α × β)} {kvs : List NE} {gs : List (List Addr)}, (∀ x v g, g ∈ gs → R x v g → S x v) → allM f Rk R xs kvs gs → allN f Sk S xs kvs
  | [], [], [], _, _ => True.intro
  | _ :: _, _ :: _, g :: gs, h, ⟨⟨a, b, c⟩, d⟩ => ⟨⟨a, hk _ _ b, h _ _ _ (List.mem_cons_self ..) c⟩, allM.two hk (fun x v g m => h x v g (List.mem_cons_of_mem _ m)) d⟩
  | [], _ :: _, _, _, z => z.elim
  | [], [], _ :: _, _, z => z.elim
  | _ :: _, [], _, _, z => z.elim
  | _ :: _, _ :: _, [], _, z => z.elim
/-- the dict of an exception -/
def Exn.at_ (z : Exn) (F : Hp) (dx : Addr) : Prop := match z.p with
  | .n => True
  | .i n => F dx = some (.xd [(z.f, .int n)])
  | .s t => F dx = some (.xd [(z.f, .str t)])
theorem Exn.at_mono {z : Exn} {F F' : Hp} {dx : Addr} (h : Same F F') (q : z.at_ F dx) : z.at_ F' dx := by
  unfold Exn.at_ at q ⊢
  split at q
  · exact True.intro
  · exact h _ _ q
  · exact h _ _ q
section
variable (K : PySem.W.Frag) (mg : Str → Option Value)
/-- the values vs stand for x, over the frozen heap F -/
def rl : (t : Ty) → t.den → List V → Hp → Prop
  | .int, i, vs, _ => vs = [.int i]
  | .bool, b, vs, _ => vs = [.bl b]
  | .str, s, vs, _ => vs = [.str s]
  | .non, _, vs, _ => vs = [.non]
  | .scr, xs, vs, F => ∃ a, vs = [.ref a] ∧ SqL K F a (xs.map V.int)
  | .tpl, _, vs, F => ∃ a ws, vs = [.ref a] ∧ SqT K F a ws
  | .exn, x, vs, F => vs = [.ref x.1] ∧ x.2.2.at_ F x.2.1
  | .opt t, x, vs, F => match x with
    | none => vs = [.non]
    | some y => vs ≠ [.non] ∧ rl t y vs F
  | .tup fs, x, vs, F => ∃ a ws, vs = [.ref a] ∧ SqT K F a ws ∧ rl fs x ws F
  | .vtup t, xs, vs, F => ∃ a ws, vs = [.ref a] ∧ SqT K F a ws ∧ all2 (fun x w => rl t x [w] F) xs ws
  | .hl fs, x, vs, F => ∃ a ws, vs = [.ref a] ∧ F a = some (.lst ws) ∧ rl fs x ws F
  | .list t, xs, vs, F => ∃ a ws, vs = [.ref a] ∧ F a = some (.lst ws) ∧ all2 (fun x w => rl t x [w] F) xs ws
  | .pr a b, x, vs, F => ∃ v r, vs = v :: r ∧ rl a x.1 [v] F ∧ rl b x.2 r F
  | .nl, _, vs, _ => vs = []
  | .sum a b, x, vs, F => match x with
    | .inl y => rl a y vs F
    | .inr y => rl b y vs F
  | .ins c ns fs, x, vs, F => ∃ a C dx ws, vs = [.ref a] ∧ mg c = some (.ref C) ∧ F a = some (.ins C dx (ns.zip ws)) ∧ ns.length = ws.length ∧ rl fs x ws F
  | .dic k t, xs, vs, F => ∃ a kvs, vs = [.ref a] ∧ F a = some (.dK kvs) ∧ allD k.key (fun x w => rl t x [w] F) xs kvs
  | .dicN P w k t, xs, vs, F => ∃ a kvs, vs = [.ref a] ∧ F a = some (dnO P w a kvs) ∧ allN k.nk (fun x b => rl k x [.ref b] F) (fun x w => rl t x [w] F) xs kvs
end

theorem sqT_mono {K : PySem.W.Frag} {F F' : Hp} {a : Addr} {ws : List V} (h : ∀ b o, F b = some o → ((∃ xs, o = .tup xs) ∨ (∃ u v, o = .frz u v)) → F' b = some o) (q : SqT K F a ws) : SqT K F' a ws := by
  rcases q with (q | ⟨o, q⟩) | q
  · exact .inl (.inl (h _ _ q (.inl ⟨_, rfl⟩)))
  · exact .inl (.inr ⟨o, h _ _ q (.inr ⟨_, _, rfl⟩)⟩)
  · exact .inr q
section
variable {K : PySem.W.Frag} {mg : Str → Option Value}
theorem rl_mono {F F' : Hp} (h : Same F F') : ∀ (t : Ty) (x : t.den) (vs : List V), rl K mg t x vs F → rl K mg t x vs F' := by
  intro t
  induction t with
  | int => intro x vs q; exact q
  | bool => intro x vs q; exact q
  | str => intro x vs q; exact q
  | non => intro x vs q; exact q
  | scr => intro x vs q; obtain ⟨a, e, s⟩ := q; exact ⟨a, e, h.seq s⟩
  | tpl => intro x vs q; obtain ⟨a, ws, e, s⟩ := q; exact ⟨a, ws, e, sqT_mono (fun b o z _ => h b o z) s⟩
  | exn => intro x vs q; exact ⟨q.1, Exn.at_mono h q.2⟩
  | opt t ih =>
    intro x vs q
    cases x with
    | none => exact q
    | some y => exact ⟨q.1, ih y vs q.2⟩
  | tup fs ih =>
    intro x vs q
    obtain ⟨a, ws, e, s, r⟩ := q
    exact ⟨a, ws, e, sqT_mono (fun b o z _ => h b o z) s, ih x ws r⟩
  | vtup t ih =>
    intro x vs q
    obtain ⟨a, ws, e, s, r⟩ := q
    exact ⟨a, ws, e, sqT_mono (fun b o z _ => h b o z) s, r.imp fun y w z => ih y [w] z⟩
  | hl fs ih =>
    intro x vs q
    obtain ⟨a, ws, e, s, r⟩ := q
    exact ⟨a, ws, e, h _ _ s, ih x ws r⟩
  | list t ih =>
    intro x vs q
    obtain ⟨a, ws, e, s, r⟩ := q
    exact ⟨a, ws, e, h _ _ s, r.imp fun y w z => ih y [w] z⟩
  | pr a b iha ihb =>
    intro x vs q
    obtain ⟨v, r, e, p1, p2⟩ := q
    exact ⟨v, r, e, iha _ _ p1, ihb _ _ p2⟩
  | nl => intro x vs q; exact q
  | sum a b iha ihb =>
    intro x vs q
    cases x with
    | inl y => exact iha y vs q
    | inr y => exact ihb y vs q
  | ins c ns fs ih =>
    intro x vs q
    obtain ⟨a, C, dx, ws, e, m, g, l, r⟩ := q
    exact ⟨a, C, dx, ws, e, m, h _ _ g, l, ih x ws r⟩
  | dic k t _ ih =>
    intro x vs q
    obtain ⟨a, kvs, e, g, r⟩ := q
    exact ⟨a, kvs, e, h _ _ g, r.imp fun y w z => ih y [w] z⟩
  | dicN P w k t ihk ih =>
    intro x vs q
    obtain ⟨a, kvs, e, g, r⟩ := q
    exact ⟨a, kvs, e, h _ _ g, r.imp (fun y b z => ihk y [.ref b] z) fun y w z => ih y [w] z⟩
theorem rl_flat {F F' : Hp} (h : ∀ b o, F b = some o → ((∃ xs, o = .tup xs) ∨ (∃ u v, o = .frz u v)) → F' b = some o) :
    ∀ (t : Ty) (_ : t.flat = true) (x : t.den) (vs : List V), rl K mg t x vs F → rl K mg t x vs F' := by
  intro t
  induction t with
  | int => intro _ x vs q; exact q
  | bool => intro _ x vs q; exact q
  | str => intro _ x vs q; exact q
  | non => intro _ x vs q; exact q
  | scr => intro f; cases f
  | tpl => intro _ x vs q; obtain ⟨a, ws, e, s⟩ := q; exact ⟨a, ws, e, sqT_mono h s⟩
  | exn => intro h; cases h
  | opt t ih =>
    intro f x vs q
    cases x with
    | none => exact q
    | some y => exact ⟨q.1, ih f y vs q.2⟩
  | tup fs ih =>
    intro f x vs q
    obtain ⟨a, ws, e, s, r⟩ := q
    exact ⟨a, ws, e, sqT_mono h s, ih f x ws r⟩
  | vtup t ih =>
    intro f x vs q
    obtain ⟨a, ws, e, s, r⟩ := q
    exact ⟨a, ws, e, sqT_mono h s, r.imp fun y w z => ih f y [w] z⟩
  | hl fs ih => intro f; cases f
  | list t ih => intro f; cases f
  | pr a b iha ihb =>
    intro f x vs q
    have f' := (Bool.and_eq_true _ _).mp (show (a.flat && b.flat) = true from f)
    obtain ⟨v, r, e, p1, p2⟩ := q
    exact ⟨v, r, e, iha f'.1 _ _ p1, ihb f'.2 _ _ p2⟩
  | nl => intro _ x vs q; exact q
  | sum a b iha ihb =>
    intro f x vs q
    have f' := (Bool.and_eq_true _ _).mp (show (a.flat && b.flat) = true from f)
    cases x with
    | inl y => exact iha f'.1 y vs q
    | inr y => exact ihb f'.2 y vs q
  | ins c ns fs ih => intro f; cases f
  | dic k t _ _ => intro f; cases f
  | dicN P w k t _ _ => intro f; cases f
end

/-! ## owned things -/
inductive Ow where
  | d (t : Ty) | l (o : Ow) | ins (c : Str) (ns : List Str) (fs : Ow) | pr (a b : Ow) | nl | dic (k t : Ty) | dicN (P : Program) (w : World) (k : Ty) (o : Ow) | opt (o : Ow) | hl (fs : Ow)
@[reducible] def Ow.ty : Ow → Ty
  | .d t => t
  | .l o => .list o.ty
  | .ins c ns fs => .ins c ns fs.ty
  | .pr a b => .pr a.ty b.ty
  | .nl => .nl
  | .dic k t => .dic k t
  | .dicN P w k o => .dicN P w k o.ty
  | .opt o => .opt o.ty
  | .hl fs => .hl fs.ty
def Ow.flat : Ow → Bool
  | .d t => t.flat
  | .l o => o.flat
  | .ins _ _ fs => fs.flat
  | .pr a b => a.flat && b.flat
  | .nl => true
  | .dic _ t => t.flat
  | .dicN _ _ k o => k.flat && o.flat
  | .opt o => o.flat
  | .hl fs => fs.flat
def all3 {α : Type} (R : α → V → List Addr → Prop) : List α → List V → List (List Addr) → Prop
  | [], [], [] => True
  | x :: xs, v :: vs, f :: fs => R x v f ∧ all3 R xs vs fs
  | _, _, _ => False
theorem all3.imp {α : Type} {R S : α → V → List Addr → Prop} : ∀ {xs : List α} {vs : List V} {fs : List (List Addr)}, (∀ x v f, f ∈ fs → R x v f → S x v f) → all3 R xs vs fs → all3 S xs vs fs
  | [], [], [], _, _ => True.intro
  | _ :: _, _ :: _, f :: fs, h, ⟨a, b⟩ => ⟨h _ _ _ (List.mem_cons_self ..) a, all3.imp (fun x v f m => h x v f (List.mem_cons_of_mem _ m)) b⟩
  | [], _ :: _, _, _, z => z.elim
  | [], [], _ :: _, _, z => z.elim
  | _ :: _, [], _, _, z => z.elim
  | _ :: _, _ :: _, [], _, z => z.elim
theorem all3.two {α : Type} {R : α → V → List Addr → Prop} {S : α → V → Prop} : ∀ {xs : List α} {vs : List V} {fs : List (List Addr)}, (∀ x v f, f ∈ fs → R x v f → S x v) → all3 R xs vs fs → all2 S xs vs
  | [], [], [], _, _ => True.intro
  | _ :: _, _ :: _, f :: fs, h, ⟨a, b⟩ => ⟨h _ _ _ (List.mem_cons_self ..) a, all3.two (fun x v f m => h x v f (List.mem_cons_of_mem _ m)) b⟩
  | [], _ :: _, _, _, z => z.elim
  | [], [], _ :: _, _, z => z.elim
  | _ :: _, [], _, _, z => z.elim
  | _ :: _, _ :: _, [], _, z => z.elim
theorem all3.of2 {α : Type} {R : α → V → List Addr → Prop} {S : α → V → Prop} (h : ∀ x v, S x v → R x v []) : ∀ {xs : List α} {vs : List V}, all2 S xs vs → all3 R xs vs (xs.map fun _ => [])
  | [], [], _ => True.intro
  | _ :: _, _ :: _, ⟨a, b⟩ => ⟨h _ _ a, all3.of2 h b⟩
  | [], _ :: _, z => z.elim
  | _ :: _, [], z => z.elim
theorem flat_nil {α β : Type} : ∀ (xs : List α), (xs.map fun _ => ([] : List β)).flatten = []
  | [] => rfl
  | _ :: xs => by
    rw [List.map_cons, List.flatten_cons, flat_nil xs]; rfl

section
variable (K : PySem.W.Frag) (mg : Str → Option Value)
/-- vs stand for x; its changeable cells are fp, as H has them; its data lie in F -/
def ol : (o : Ow) → o.ty.den → List V → Hp → Hp → List Addr → Prop
  | .d t, x, vs, F, _, fp => fp = [] ∧ rl K mg t x vs F
  | .l o, xs, vs, F, H, fp => ∃ p ws fps, vs = [.ref p] ∧ fp = p :: fps.flatten ∧ H p = some (.lst ws) ∧ all3 (fun x w f => ol o x [w] F H f) xs ws fps
  | .ins c ns fs, x, vs, F, H, fp => ∃ p C dx ws fp', vs = [.ref p] ∧ fp = p :: dx :: fp' ∧ mg c = some (.ref C) ∧ H p = some (.ins C dx (ns.zip ws)) ∧ H dx = some (.own p) ∧ ns.length = ws.length ∧ ol fs x ws F H fp'
  | .pr a b, x, vs, F, H, fp => ∃ v r f1 f2, vs = v :: r ∧ fp = f1 ++ f2 ∧ ol a x.1 [v] F H f1 ∧ ol b x.2 r F H f2
  | .nl, _, vs, _, _, fp => vs = [] ∧ fp = []
  | .dic k t, xs, vs, F, H, fp => ∃ p kvs, vs = [.ref p] ∧ fp = [p] ∧ H p = some (.dK kvs) ∧ allD k.key (fun x w => rl K mg t x [w] F) xs kvs
  | .dicN P w k o, xs, vs, F, H, fp => ∃ p kvs fps, vs = [.ref p] ∧ fp = p :: fps.flatten ∧ H p = some (dnO P w p kvs) ∧ allM k.nk (fun x b => rl K mg k x [.ref b] F) (fun x v f => ol o x [v] F H f) xs kvs fps
  | .opt o, x, vs, F, H, fp => match x with
    | none => vs = [.non] ∧ fp = []
    | some y => vs ≠ [.non] ∧ ol o y vs F H fp
  | .hl fs, x, vs, F, H, fp => ∃ p ws fp', vs = [.ref p] ∧ fp = p :: fp' ∧ H p = some (.lst ws) ∧ ol fs x ws F H fp'
end
/-- no tuple and nothing frozen -/
def Cell (H : Hp) (a : Addr) : Prop := ∃ o, H a = some o ∧ (∀ xs, o ≠ .tup xs) ∧ (∀ u v, o ≠ .frz u v) ∧ ∀ fs, o ≠ .xd fs
section
variable {K : PySem.W.Frag} {mg : Str → Option Value}
theorem ol_frame {F F' H H' : Hp} (h : Same F F') : ∀ (o : Ow) (x : o.ty.den) (vs : List V) (fp : List Addr), (∀ a ∈ fp, H' a = H a) → ol K mg o x vs F H fp → ol K mg o x vs F' H' fp := by
  intro o
  induction o with
  | d t => intro x vs fp _ q; exact ⟨q.1, rl_mono h t x vs q.2⟩
  | l o ih =>
    intro xs vs fp hf q
    obtain ⟨p, ws, fps, e1, e2, e3, r⟩ := q
    subst e2
    refine ⟨p, ws, fps, e1, rfl, (hf p (List.mem_cons_self ..)).trans e3, r.imp fun x w f m z => ih x [w] f (fun a ha => hf a ?_) z⟩
    exact List.mem_cons_of_mem _ (List.mem_flatten.mpr ⟨f, m, ha⟩)
  | ins c ns fs ih =>
    intro x vs fp hf q
    obtain ⟨p, C, dx, ws, fp', e1, e2, e3, e4, e5, e6, r⟩ := q
    subst e2
    exact ⟨p, C, dx, ws, fp', e1, rfl, e3, (hf p (by simp)).trans e4, (hf dx (by simp)).trans e5, e6, ih x ws fp' (fun a ha => hf a (by simp [ha])) r⟩
  | pr a b iha ihb =>
    intro x vs fp hf q
    obtain ⟨v, r, f1, f2, e1, e2, r1, r2⟩ := q
    subst e2
    exact ⟨v, r, f1, f2, e1, rfl, iha _ _ _ (fun a ha => hf a (List.mem_append_left _ ha)) r1, ihb _ _ _ (fun a ha => hf a (List.mem_append_right _ ha)) r2⟩
  | nl => intro x vs fp _ q; exact q
  | dic k t =>
    intro xs vs fp hf q
    obtain ⟨p, kvs, e1, e2, e3, r⟩ := q
    subst e2
    exact ⟨p, kvs, e1, rfl, (hf p (List.mem_cons_self ..)).trans e3, r.imp fun x w z => rl_mono h t x [w] z⟩
  | dicN P w k o ih =>
    intro xs vs fp hf q
    obtain ⟨p, kvs, fps, e1, e2, e3, r⟩ := q
    subst e2
    refine ⟨p, kvs, fps, e1, rfl, (hf p (List.mem_cons_self ..)).trans e3, r.imp (fun x b z => rl_mono h k x [.ref b] z) fun x w f m z => ih x [w] f (fun a ha => hf a ?_) z⟩
    exact List.mem_cons_of_mem _ (List.mem_flatten.mpr ⟨f, m, ha⟩)
  | opt o ih =>
    intro x vs fp hf q
    cases x with
    | none => exact q
    | some y => exact ⟨q.1, ih y vs fp hf q.2⟩
  | hl fs ih =>
    intro x vs fp hf q
    obtain ⟨p, ws, fp', e1, e2, e3, r⟩ := q
    subst e2
    exact ⟨p, ws, fp', e1, rfl, (hf p (List.mem_cons_self ..)).trans e3, ih x ws fp' (fun a ha => hf a (List.mem_cons_of_mem _ ha)) r⟩
theorem ol_cell {F H : Hp} : ∀ (o : Ow) (x : o.ty.den) (vs : List V) (fp : List Addr), ol K mg o x vs F H fp → ∀ a ∈ fp, Cell H a := by
  intro o
  induction o with
  | d t => intro x vs fp q a ha; rw [q.1] at ha; cases ha
  | l o ih =>
    intro xs vs fp q a ha
    obtain ⟨p, ws, fps, e1, e2, e3, r⟩ := q
    subst e2
    rcases List.mem_cons.mp ha with rfl | ha
    · exact ⟨_, e3, fun _ z => (nomatch z), fun _ _ z => (nomatch z), fun _ z => (nomatch z)⟩
    · obtain ⟨f, hf, ha⟩ := List.mem_flatten.mp ha
      have : ∀ {xs : List o.ty.den} {ws : List V} {fps : List (List Addr)}, all3 (fun x w f => ol K mg o x [w] F H f) xs ws fps → f ∈ fps → Cell H a := by
        intro xs
        induction xs with
        | nil =>
          intro ws fps r m
          cases ws with
          | nil =>
            cases fps with
            | nil => cases m
            | cons _ _ => exact r.elim
          | cons _ _ => exact r.elim
        | cons x xs ihx =>
          intro ws fps r m
          cases ws with
          | nil => exact r.elim
          | cons w ws =>
            cases fps with
            | nil => exact r.elim
            | cons g fps =>
              rcases List.mem_cons.mp m with rfl | m
              · exact ih x [w] _ r.1 a ha
              · exact ihx r.2 m
      exact this r hf
  | ins c ns fs ih =>
    intro x vs fp q a ha
    obtain ⟨p, C, dx, ws, fp', e1, e2, e3, e4, e5, e6, r⟩ := q
    subst e2
    rcases List.mem_cons.mp ha with rfl | ha
    · exact ⟨_, e4, fun _ z => (nomatch z), fun _ _ z => (nomatch z), fun _ z => (nomatch z)⟩
    rcases List.mem_cons.mp ha with rfl | ha
    · exact ⟨_, e5, fun _ z => (nomatch z), fun _ _ z => (nomatch z), fun _ z => (nomatch z)⟩
    exact ih x ws fp' r a ha
  | pr a b iha ihb =>
    intro x vs fp q c hc
    obtain ⟨v, r, f1, f2, e1, e2, r1, r2⟩ := q
    subst e2
    rcases List.mem_append.mp hc with h | h
    · exact iha _ _ _ r1 c h
    · exact ihb _ _ _ r2 c h
  | nl => intro x vs fp q a ha; rw [q.2] at ha; cases ha
  | dic k t =>
    intro x vs fp q a ha
    obtain ⟨p, kvs, e1, e2, e3, r⟩ := q
    subst e2
    rw [List.mem_singleton.mp ha]
    exact ⟨_, e3, fun _ z => (nomatch z), fun _ _ z => (nomatch z), fun _ z => (nomatch z)⟩
  | dicN P w k o ih =>
    intro xs vs fp q a ha
    obtain ⟨p, kvs, fps, e1, e2, e3, r⟩ := q
    subst e2
    rcases List.mem_cons.mp ha with rfl | ha
    · exact ⟨_, e3, fun _ z => (nomatch z), fun _ _ z => (nomatch z), fun _ z => (nomatch z)⟩
    · obtain ⟨f, hf, ha⟩ := List.mem_flatten.mp ha
      have : ∀ {xs : List (k.den × o.ty.den)} {kvs : List NE} {fps : List (List Addr)}, allM k.nk (fun x b => rl K mg k x [.ref b] F) (fun x w f => ol K mg o x [w] F H f) xs kvs fps → f ∈ fps → Cell H a := by
        intro xs
        induction xs with
        | nil =>
          intro ws fps r m
          cases ws with
          | nil =>
            cases fps with
            | nil => cases m
            | cons _ _ => exact r.elim
          | cons _ _ => exact r.elim
        | cons x xs ihx =>
          intro ws fps r m
          cases ws with
          | nil => exact r.elim
          | cons w ws =>
            cases fps with
            | nil => exact r.elim
            | cons g fps =>
              rcases List.mem_cons.mp m with rfl | m
              · exact ih x.2 [w.2.2] _ r.1.2.2 a ha
              · exact ihx r.2 m
      exact this r hf
  | opt o ih =>
    intro x vs fp q a ha
    cases x with
    | none => rw [q.2] at ha; cases ha
    | some y => exact ih y vs fp q.2 a ha
  | hl fs ih =>
    intro x vs fp q a ha
    obtain ⟨p, ws, fp', e1, e2, e3, r⟩ := q
    subst e2
    rcases List.mem_cons.mp ha with rfl | ha
    · exact ⟨_, e3, fun _ z => (nomatch z), fun _ _ z => (nomatch z), fun _ z => (nomatch z)⟩
    · exact ih x ws fp' r a ha
/-- frozen: F with the cells -/
theorem ol_rl {F F' H : Hp} (h : Same F F') : ∀ (o : Ow) (x : o.ty.den) (vs : List V) (fp : List Addr), (∀ a ∈ fp, F' a = H a) → ol K mg o x vs F H fp → rl K mg o.ty x vs F' := by
  intro o
  induction o with
  | d t => intro x vs fp _ q; exact rl_mono h t x vs q.2
  | l o ih =>
    intro xs vs fp hf q
    obtain ⟨p, ws, fps, e1, e2, e3, r⟩ := q
    subst e2
    refine ⟨p, ws, e1, (hf p (List.mem_cons_self ..)).trans e3, r.two fun x w f m z => ih x [w] f (fun a ha => hf a ?_) z⟩
    exact List.mem_cons_of_mem _ (List.mem_flatten.mpr ⟨f, m, ha⟩)
  | ins c ns fs ih =>
    intro x vs fp hf q
    obtain ⟨p, C, dx, ws, fp', e1, e2, e3, e4, e5, e6, r⟩ := q
    subst e2
    exact ⟨p, C, dx, ws, e1, e3, (hf p (by simp)).trans e4, e6, ih x ws fp' (fun a ha => hf a (by simp [ha])) r⟩
  | pr a b iha ihb =>
    intro x vs fp hf q
    obtain ⟨v, r, f1, f2, e1, e2, r1, r2⟩ := q
    subst e2
    exact ⟨v, r, e1, iha _ _ _ (fun a ha => hf a (List.mem_append_left _ ha)) r1, ihb _ _ _ (fun a ha => hf a (List.mem_append_right _ ha)) r2⟩
  | nl => intro x vs fp _ q; exact q.1
  | dic k t =>
    intro xs vs fp hf q
    obtain ⟨p, kvs, e1, e2, e3, r⟩ := q
    subst e2
    exact ⟨p, kvs, e1, (hf p (List.mem_cons_self ..)).trans e3, r.imp fun x w z => rl_mono h t x [w] z⟩
  | dicN P w k o ih =>
    intro xs vs fp hf q
    obtain ⟨p, kvs, fps, e1, e2, e3, r⟩ := q
    subst e2
    refine ⟨p, kvs, e1, (hf p (List.mem_cons_self ..)).trans e3, r.two (fun x b z => rl_mono h k x [.ref b] z) fun x w f m z => ih x [w] f (fun a ha => hf a ?_) z⟩
    exact List.mem_cons_of_mem _ (List.mem_flatten.mpr ⟨f, m, ha⟩)
  | opt o ih =>
    intro x vs fp hf q
    cases x with
    | none => exact q.1
    | some y => exact ⟨q.1, ih y vs fp hf q.2⟩
  | hl fs ih =>
    intro x vs fp hf q
    obtain ⟨p, ws, fp', e1, e2, e3, r⟩ := q
    subst e2
    exact ⟨p, ws, e1, (hf p (List.mem_cons_self ..)).trans e3, ih x ws fp' (fun a ha => hf a (List.mem_cons_of_mem _ ha)) r⟩
theorem ol_flat {F F' H : Hp} (h : ∀ b o, F b = some o → ((∃ xs, o = .tup xs) ∨ (∃ u v, o = .frz u v)) → F' b = some o) :
    ∀ (o : Ow) (_ : o.flat = true) (x : o.ty.den) (vs : List V) (fp : List Addr), ol K mg o x vs F H fp → ol K mg o x vs F' H fp := by
  intro o
  induction o with
  | d t => intro f x vs fp q; exact ⟨q.1, rl_flat h t f x vs q.2⟩
  | l o ih =>
    intro f xs vs fp q
    obtain ⟨p, ws, fps, e1, e2, e3, r⟩ := q
    exact ⟨p, ws, fps, e1, e2, e3, r.imp fun x w g m z => ih f x [w] g z⟩
  | ins c ns fs ih =>
    intro f x vs fp q
    obtain ⟨p, C, dx, ws, fp', e1, e2, e3, e4, e5, e6, r⟩ := q
    exact ⟨p, C, dx, ws, fp', e1, e2, e3, e4, e5, e6, ih f x ws fp' r⟩
  | pr a b iha ihb =>
    intro f x vs fp q
    have f' := (Bool.and_eq_true _ _).mp (show (a.flat && b.flat) = true from f)
    obtain ⟨v, r, f1, f2, e1, e2, r1, r2⟩ := q
    exact ⟨v, r, f1, f2, e1, e2, iha f'.1 _ _ _ r1, ihb f'.2 _ _ _ r2⟩
  | nl => intro _ x vs fp q; exact q
  | dic k t =>
    intro f xs vs fp q
    obtain ⟨p, kvs, e1, e2, e3, r⟩ := q
    exact ⟨p, kvs, e1, e2, e3, r.imp fun x w z => rl_flat h t f x [w] z⟩
  | dicN P w k o ih =>
    intro f xs vs fp q
    have f' := (Bool.and_eq_true _ _).mp (show (k.flat && o.flat) = true from f)
    obtain ⟨p, kvs, fps, e1, e2, e3, r⟩ := q
    exact ⟨p, kvs, fps, e1, e2, e3, r.imp (fun x b z => rl_flat h k f'.1 x [.ref b] z) fun x w g m z => ih f'.2 x [w] g z⟩
  | opt o ih =>
    intro f x vs fp q
    cases x with
    | none => exact q
    | some y => exact ⟨q.1, ih f y vs fp q.2⟩
  | hl fs ih =>
    intro f x vs fp q
    obtain ⟨p, ws, fp', e1, e2, e3, r⟩ := q
    exact ⟨p, ws, fp', e1, e2, e3, ih f x ws fp' r⟩
end

/-! ## growing heaps -/
structure Ext (F H F' H' : Hp) : Prop where
  f : Same F F'
  h : Same H H'
  i : Same F' H'
  n : ∀ p, H p ≠ none → F p = none → F' p = none
theorem Ext.refl {F H : Hp} (h : Same F H) : Ext F H F H := ⟨Same.refl _, Same.refl _, h, fun _ _ q => q⟩
theorem Ext.trans {F H F1 H1 F2 H2 : Hp} (a : Ext F H F1 H1) (b : Ext F1 H1 F2 H2) : Ext F H F2 H2 :=
  ⟨a.f.trans b.f, a.h.trans b.h, b.i, fun p hp hf => b.n p (fun z => hp (a.h.free z)) (a.n p hp hf)⟩
/-- a new object, known to F -/
theorem Ext.new {F H : Hp} {p : Addr} {o : HO} (h : Same F H) (n : H p = none) : Ext F H (upd F p o) (upd H p o) := by
  have nf : F p = none := h.free n
  refine ⟨fun b u e => by rw [upd_ne (ne_of_none e nf)]; exact e, fun b u e => by rw [upd_ne (ne_of_none e n)]; exact e, fun b u e => ?_, fun q hq hf => ?_⟩
  · by_cases hb : b = p
    · subst hb; rw [upd_same] at e ⊢; exact e
    · rw [upd_ne hb] at e ⊢; exact h _ _ e
  · have : q ≠ p := fun z => hq (z ▸ n)
    rw [upd_ne this]; exact hf
/-- a new object that F does not know -/
theorem Ext.cell {F H : Hp} {p : Addr} {o : HO} (h : Same F H) (n : H p = none) : Ext F H F (upd H p o) := by
  refine ⟨Same.refl _, fun b u e => by rw [upd_ne (ne_of_none e n)]; exact e, fun b u e => ?_, fun q hq hf => hf⟩
  have e' := h _ _ e
  rw [upd_ne (ne_of_none e' n)]; exact e'
/-- a heap grows, F stands -/
theorem Ext.grow {F H H' : Hp} (h : Same F H) (g : Same H H') : Ext F H F H' := ⟨Same.refl _, g, h.trans g, fun _ _ q => q⟩

/-! ## results -/
inductive Rt where
  | d (t : Ty) | o (o : Ow)
@[reducible] def Rt.ty : Rt → Ty
  | .d t => t
  | .o u => u.ty
abbrev Rt.den (r : Rt) : Type := r.ty.den
def Rt.flat : Rt → Bool
  | .d t => t.flat
  | .o u => u.flat
section
variable (K : PySem.W.Frag) (mg : Str → Option Value)
/-- v stands for x behind; H: the heap ahead -/
def rtr : (r : Rt) → r.den → V → Hp → Hp → Hp → Prop
  | .d t, x, v, _, F', _ => rl K mg t x [v] F'
  | .o o, x, v, H, F', H' => ∃ fp, ol K mg o x [v] F' H' fp ∧ fp.Nodup ∧ ∀ a ∈ fp, F' a = none ∧ H a = none
end
/-- how an exception lies -/
def xr (mg : Str → Option Value) (e : Exn) (cls : Value) (d : Option Addr) (H : Hp) : Prop :=
  ∃ C, mg e.c = some (.ref C) ∧ cls = .ref C ∧ match e.p with
    | .n => d = none
    | .i z => ∃ dx, d = some dx ∧ H dx = some (.xd [(e.f, .int z)])
    | .s z => ∃ dx, d = some dx ∧ H dx = some (.xd [(e.f, .str z)])

/-! ## contexts -/
inductive Slot where
  | no | d (t : Ty) (x : t.den) | o (o : Ow) (x : o.ty.den)
abbrev Ctx := List Slot
@[reducible] def slotOf : (r : Rt) → r.den → Slot
  | .d t, x => .d t x
  | .o o, x => .o o x
def Slot.hide : Slot → Slot
  | .o _ _ => .no
  | s => s
def hide : Ctx → Ctx
  | [] => []
  | s :: r => s.hide :: hide r
theorem hide_get : ∀ {Γ : Ctx} {i : Nat} {s : Slot}, (hide Γ)[i]? = some s → ∃ u, Γ[i]? = some u ∧ s = u.hide
  | [], _, _, e => by simp [hide] at e
  | u :: _, 0, s, e => ⟨u, rfl, by simpa [hide] using e.symm⟩
  | _ :: Γ, i + 1, s, e => by
    have e' : (hide Γ)[i]? = some s := by simpa [hide] using e
    obtain ⟨u, h1, h2⟩ := hide_get e'
    exact ⟨u, by simpa using h1, h2⟩
section
variable (K : PySem.W.Frag) (mg : Str → Option Value)
def sd : Slot → Option V → Hp → Prop
  | .no, _, _ => True
  | .d t x, ov, F => ∃ v, ov = some v ∧ rl K mg t x [v] F
  | .o o x, ov, F => ∃ v, ov = some v ∧ rl K mg o.ty x [v] F
def so : Slot → Option V → Hp → Hp → List Addr → Prop
  | .no, _, _, _, fp => fp = []
  | .d t x, ov, F, _, fp => fp = [] ∧ ∃ v, ov = some v ∧ rl K mg t x [v] F
  | .o o x, ov, F, H, fp => ∃ v, ov = some v ∧ ol K mg o x [v] F H fp
def SD (Γ : Ctx) (σ : St) (F : Hp) : Prop := ∀ (i : Nat) (s : Slot), Γ[i]? = some s → ∃ ov, σ[i]? = some ov ∧ sd K mg s ov F
structure Own (Γ : Ctx) (σ : St) (F H B : Hp) (fps : Nat → List Addr) : Prop where
  at_ : ∀ (i : Nat) (s : Slot), Γ[i]? = some s → ∃ ov, σ[i]? = some ov ∧ so K mg s ov F H (fps i)
  out : ∀ i, Γ[i]? = none → fps i = []
  nd : ∀ i, (fps i).Nodup
  sep : ∀ i j, i ≠ j → ∀ a ∈ fps i, a ∉ fps j
  new : ∀ i, ∀ a ∈ fps i, F a = none ∧ B a = none
end
/-- the entry: the frozen heap, the heap, slots that stay (within a try), what they hold -/
structure Ent where
  F0 : Hp
  B : Hp
  hk : List Nat
  s0 : St
section
variable (K : PySem.W.Frag) (mg : Str → Option Value)
structure SG (E : Ent) (Γ : Ctx) (σ : St) (F H : Hp) : Prop where
  e0 : Ext E.F0 E.B F H
  kp : ∀ i ∈ E.hk, σ[i]? = E.s0[i]?
  ow : ∃ fps, Own K mg Γ σ F H E.B fps
end
section
variable {K : PySem.W.Frag} {mg : Str → Option Value} {Γ : Ctx} {σ : St} {F F' H H' B : Hp} {E : Ent}
theorem sd_mono (h : Same F F') : ∀ {s : Slot} {ov : Option V}, sd K mg s ov F → sd K mg s ov F'
  | .no, _, _ => True.intro
  | .d t x, _, ⟨v, e, r⟩ => ⟨v, e, rl_mono h t x _ r⟩
  | .o o x, _, ⟨v, e, r⟩ => ⟨v, e, rl_mono h o.ty x _ r⟩
theorem SD.mono (q : SD K mg Γ σ F) (h : Same F F') : SD K mg Γ σ F' := fun i s e => let ⟨ov, e1, r⟩ := q i s e; ⟨ov, e1, sd_mono h r⟩
theorem so_cell : ∀ {s : Slot} {ov : Option V} {fp : List Addr}, so K mg s ov F H fp → ∀ a ∈ fp, Cell H a
  | .no, _, _, e, a, ha => by rw [show _ = _ from e] at ha; cases ha
  | .d t x, _, _, ⟨e, _⟩, a, ha => by rw [e] at ha; cases ha
  | .o o x, _, _, ⟨_, _, r⟩, a, ha => ol_cell o x _ _ r a ha
theorem so_frame (h : Same F F') : ∀ {s : Slot} {ov : Option V} {fp : List Addr}, (∀ a ∈ fp, H' a = H a) → so K mg s ov F H fp → so K mg s ov F' H' fp
  | .no, _, _, _, e => e
  | .d t x, _, _, _, ⟨e, v, e1, r⟩ => ⟨e, v, e1, rl_mono h t x _ r⟩
  | .o o x, _, _, hf, ⟨v, e1, r⟩ => ⟨v, e1, ol_frame h o x _ _ hf r⟩
theorem Own.cell {fps : Nat → List Addr} (q : Own K mg Γ σ F H B fps) (i : Nat) : ∀ a ∈ fps i, Cell H a := fun a ha => by
  cases e : Γ[i]? with
  | none => rw [q.out i e] at ha; cases ha
  | some s =>
    obtain ⟨ov, _, r⟩ := q.at_ i s e
    exact so_cell r a ha
/-- all that is owned, frozen -/
noncomputable def frozen (F H : Hp) (fps : Nat → List Addr) : Hp := open Classical in fun a => if ∃ i, a ∈ fps i then H a else F a
theorem frozen_in {fps : Nat → List Addr} {i : Nat} {a : Addr} (h : a ∈ fps i) : frozen F H fps a = H a := by
  unfold frozen; rw [if_pos ⟨i, h⟩]
theorem frozen_out {fps : Nat → List Addr} {a : Addr} (h : ∀ i, a ∉ fps i) : frozen F H fps a = F a := by
  unfold frozen; rw [if_neg fun ⟨i, z⟩ => h i z]
theorem Own.f_frozen {fps : Nat → List Addr} (q : Own K mg Γ σ F H B fps) : Same F (frozen F H fps) := fun b o e => by
  rw [frozen_out fun i hi => by rw [(q.new i b hi).1] at e; cases e]; exact e
theorem Own.frozen_h {fps : Nat → List Addr} (q : Own K mg Γ σ F H B fps) (hs : Same F H) : Same (frozen F H fps) H := fun b o e => by
  by_cases h : ∃ i, b ∈ fps i
  · obtain ⟨i, hi⟩ := h
    rw [frozen_in hi] at e; exact e
  · rw [frozen_out fun i hi => h ⟨i, hi⟩] at e; exact hs _ _ e
theorem Own.sd {fps : Nat → List Addr} (q : Own K mg Γ σ F H B fps) : SD K mg Γ σ (frozen F H fps) := fun i s e => by
  obtain ⟨ov, e1, r⟩ := q.at_ i s e
  refine ⟨ov, e1, ?_⟩
  cases s with
  | no => exact True.intro
  | d t x => exact sd_mono q.f_frozen r.2
  | o o x =>
    obtain ⟨v, e2, r⟩ := r
    exact ⟨v, e2, ol_rl q.f_frozen o x _ _ (fun a ha => frozen_in ha) r⟩
theorem SG.sd_hide (q : SG K mg E Γ σ F H) : SD K mg (hide Γ) σ F := fun i s e => by
  obtain ⟨_, _, fps, q⟩ := q
  obtain ⟨u, e1, rfl⟩ := hide_get e
  obtain ⟨ov, e2, r⟩ := q.at_ i u e1
  refine ⟨ov, e2, ?_⟩
  cases u with
  | no => exact True.intro
  | d t x => exact r.2
  | o o x => exact True.intro
/-- F' without what is owned in F's place -/
noncomputable def unfreeze (F' : Hp) (fps : Nat → List Addr) : Hp := open Classical in fun a => if ∃ i, a ∈ fps i then none else F' a
theorem unfreeze_in {fps : Nat → List Addr} {i : Nat} {a : Addr} (h : a ∈ fps i) : unfreeze F fps a = none := by
  unfold unfreeze; rw [if_pos ⟨i, h⟩]
theorem unfreeze_out {fps : Nat → List Addr} {a : Addr} (h : ∀ i, a ∉ fps i) : unfreeze F fps a = F a := by
  unfold unfreeze; rw [if_neg fun ⟨i, z⟩ => h i z]
theorem unfreeze_le {fps : Nat → List Addr} : Same (unfreeze F fps) F := fun b o e => by
  by_cases h : ∃ i, b ∈ fps i
  · obtain ⟨i, hi⟩ := h
    rw [unfreeze_in hi] at e; cases e
  · rw [unfreeze_out fun i hi => h ⟨i, hi⟩] at e; exact e
/-- behind an evaluation under the view that all that is owned is frozen -/
theorem Own.back {fps : Nat → List Addr} (q : Own K mg Γ σ F H B fps) (hs : Same F H) (x : Ext (frozen F H fps) H F' H') :
    Ext F H (unfreeze F' fps) H' ∧ ∀ b o, F' b = some o → ((∃ xs, o = .tup xs) ∨ (∃ u v, o = .frz u v) ∨ ∃ fs, o = .xd fs) → (unfreeze F' fps) b = some o := by
  refine ⟨⟨fun b o e => ?_, x.h, fun b o e => x.i _ _ (unfreeze_le _ _ e), fun p hp hf => ?_⟩, fun b o e hk => ?_⟩
  · rw [unfreeze_out fun i hi => by rw [(q.new i b hi).1] at e; cases e]
    exact x.f _ _ (q.f_frozen _ _ e)
  · by_cases h : ∃ i, p ∈ fps i
    · obtain ⟨i, hi⟩ := h
      exact unfreeze_in hi
    · rw [unfreeze_out fun i hi => h ⟨i, hi⟩]
      exact x.n p hp (by rw [frozen_out fun i hi => h ⟨i, hi⟩]; exact hf)
  · refine (unfreeze_out fun i hi => ?_).trans e
    obtain ⟨u, h1, h2, h3, h4⟩ := q.cell i b hi
    have e1 := x.i _ _ e
    rw [x.h _ _ h1] at e1
    cases e1
    rcases hk with ⟨xs, rfl⟩ | ⟨c, d, rfl⟩ | ⟨fs, rfl⟩
    · exact h2 _ rfl
    · exact h3 _ _ rfl
    · exact h4 _ rfl
theorem rtr_flat {r : Rt} (hf : r.flat = true) {G : Hp} {x : r.den} {v : V} (h : ∀ b o, F b = some o → ((∃ xs, o = .tup xs) ∨ (∃ u v, o = .frz u v)) → G b = some o) (hg : Same G F)
    (q : rtr K mg r x v H F H') : rtr K mg r x v H G H' := by
  cases r with
  | d t => exact rl_flat h t hf x _ q
  | o u =>
    obtain ⟨fp, q, nd, nw⟩ := q
    exact ⟨fp, ol_flat h u hf x _ _ q, nd, fun a ha => ⟨hg.free (nw a ha).1, (nw a ha).2⟩⟩
/-- the central step: an evaluation of a flat result under the view -/
theorem SG.eval (q : SG K mg E Γ σ F H) {r : Rt} (hf : r.flat = true) : ∃ G, Same G H ∧ Same F G ∧ SD K mg Γ σ G ∧
    ∀ F' H', Ext G H F' H' → ∃ F2, Ext F H F2 H' ∧ Same F2 F' ∧ (∀ (x : r.den) (v : V), rtr K mg r x v H F' H' → rtr K mg r x v H F2 H') ∧ ∀ b fs, F' b = some (.xd fs) → F2 b = some (.xd fs) := by
  obtain ⟨e0, _, fps, q⟩ := q
  refine ⟨frozen F H fps, q.frozen_h e0.i, q.f_frozen, q.sd, fun F' H' x => ?_⟩
  obtain ⟨y, z⟩ := q.back e0.i x
  exact ⟨_, y, unfreeze_le, fun x v r => rtr_flat hf (fun b o e hk => z b o e (hk.imp_right .inl)) unfreeze_le r, fun b fs e => z b _ e (.inr (.inr ⟨fs, rfl⟩))⟩
theorem Own.grow {fps : Nat → List Addr} (q : Own K mg Γ σ F H B fps) (x : Ext F H F' H') : Own K mg Γ σ F' H' B fps := by
  refine ⟨fun i s e => ?_, q.out, q.nd, q.sep, fun i a ha => ⟨x.n a ?_ (q.new i a ha).1, (q.new i a ha).2⟩⟩
  · obtain ⟨ov, e1, r⟩ := q.at_ i s e
    refine ⟨ov, e1, so_frame x.f (fun a ha => ?_) r⟩
    obtain ⟨o, h1, _⟩ := so_cell r a ha
    rw [h1, x.h _ _ h1]
  · obtain ⟨o, h1, _⟩ := q.cell i a ha
    rw [h1]; exact fun z => nomatch z
/-- one slot anew -/
theorem Own.put {fps : Nat → List Addr} {i : Nat} {s : Slot} {ov : Option V} {fp : List Addr} (q : Own K mg Γ σ F H B fps) (hi : i < Γ.length) (r : so K mg s ov F H fp) (nd : fp.Nodup)
    (sep : ∀ j, j ≠ i → ∀ a ∈ fp, a ∉ fps j) (nw : ∀ a ∈ fp, F a = none ∧ B a = none) : Own K mg (Γ.set i s) (σ.set i ov) F H B (fun j => if j = i then fp else fps j) := by
  have his : i < σ.length := by
    obtain ⟨ov', e, _⟩ := q.at_ i Γ[i] (List.getElem?_eq_getElem hi)
    exact (List.getElem?_eq_some_iff.mp e).1
  refine ⟨fun j s' e => ?_, fun j e => ?_, fun j => ?_, fun j k hjk a ha => ?_, fun j a ha => ?_⟩
  · by_cases hj : j = i
    · subst hj
      rw [List.getElem?_set_self hi] at e
      cases e
      exact ⟨ov, List.getElem?_set_self his, by rw [if_pos rfl]; exact r⟩
    · rw [List.getElem?_set_ne (Ne.symm hj)] at e
      obtain ⟨ov', e1, r'⟩ := q.at_ j s' e
      exact ⟨ov', by rw [List.getElem?_set_ne (Ne.symm hj)]; exact e1, by rw [if_neg hj]; exact r'⟩
  · have hj : j ≠ i := fun z => by
      subst z
      rw [List.getElem?_set_self hi] at e; cases e
    rw [List.getElem?_set_ne (Ne.symm hj)] at e
    rw [if_neg hj]; exact q.out j e
  · by_cases hj : j = i
    · rw [if_pos hj]; exact nd
    · rw [if_neg hj]; exact q.nd j
  · by_cases hj : j = i
    · have hk : k ≠ i := fun z => hjk (hj.trans z.symm)
      rw [if_pos hj] at ha
      rw [if_neg hk]; exact sep k hk a ha
    · rw [if_neg hj] at ha
      by_cases hk : k = i
      · rw [if_pos hk]; exact fun z => sep j hj a z ha
      · rw [if_neg hk]; exact q.sep j k hjk a ha
  · by_cases hj : j = i
    · rw [if_pos hj] at ha; exact nw a ha
    · rw [if_neg hj] at ha; exact q.new j a ha
/-- the state behind a growth that leaves what is owned -/
theorem SG.grow (q : SG K mg E Γ σ F H) (x : Ext F H F' H') : SG K mg E Γ σ F' H' :=
  let ⟨e0, kp, fps, g⟩ := q
  ⟨e0.trans x, kp, fps, g.grow x⟩
/-- a slot is set to what an evaluation gave -/
theorem SG.set {r : Rt} {x : r.den} {v : V} {i : Nat} (q : SG K mg E Γ σ F H) (e : Ext F H F' H') (rr : rtr K mg r x v H F' H') (hi : i < Γ.length) (hk : i ∉ E.hk) : SG K mg E (Γ.set i (slotOf r x)) (σ.set i (some v)) F' H' := by
  obtain ⟨e0, kp, fps, g⟩ := q
  have g1 := g.grow e
  have kp' : ∀ j ∈ E.hk, (σ.set i (some v))[j]? = E.s0[j]? := fun j hj => by
    rw [List.getElem?_set_ne (show i ≠ j from fun z => hk (by rw [z]; exact hj))]; exact kp j hj
  cases r with
  | d t => exact ⟨e0.trans e, kp', _, g1.put hi (fp := []) ⟨rfl, v, rfl, rr⟩ List.nodup_nil (fun _ _ a ha => nomatch ha) (fun a ha => nomatch ha)⟩
  | o u =>
    obtain ⟨fp, o1, nd, nw⟩ := rr
    refine ⟨e0.trans e, kp', _, g1.put hi (fp := fp) ⟨v, rfl, o1⟩ nd (fun j _ a ha z => ?_) fun a ha => ⟨(nw a ha).1, e0.h.free (nw a ha).2⟩⟩
    obtain ⟨o, h1, _⟩ := g.cell j a z
    rw [(nw a ha).2] at h1; cases h1
/-- a slot is forgotten -/
theorem SG.drop {i : Nat} (q : SG K mg E Γ σ F H) (hi : i < Γ.length) : SG K mg E (Γ.set i .no) σ F H := by
  obtain ⟨e0, kp, fps, g⟩ := q
  obtain ⟨ov, e, _⟩ := g.at_ i Γ[i] (List.getElem?_eq_getElem hi)
  have h := g.put (s := .no) (ov := ov) (fp := []) hi rfl List.nodup_nil (fun _ _ a ha => nomatch ha) (fun a ha => nomatch ha)
  have es : σ.set i ov = σ := by
    obtain ⟨hl, e⟩ := List.getElem?_eq_some_iff.mp e
    rw [← e]; exact List.set_getElem_self hl
  rw [es] at h
  exact ⟨e0, kp, _, h⟩
/-- a slot's owned thing is frozen -/
theorem SG.freeze {i : Nat} {o : Ow} {x : o.ty.den} (q : SG K mg E Γ σ F H) (hi : Γ[i]? = some (.o o x)) : ∃ F', SG K mg E (Γ.set i (.d o.ty x)) σ F' H := by
  obtain ⟨e0, kp, fps, g⟩ := q
  have hil : i < Γ.length := (List.getElem?_eq_some_iff.mp hi).1
  obtain ⟨ov, e, v, rfl, r⟩ := g.at_ i _ hi
  -- F with the cells of slot i alone
  let fi : Nat → List Addr := fun j => if j = i then fps i else []
  have fin : ∀ a, a ∈ fps i → frozen F H fi a = H a := fun a ha => frozen_in (i := i) (by show a ∈ (if i = i then fps i else []); rw [if_pos rfl]; exact ha)
  have fout : ∀ a, a ∉ fps i → frozen F H fi a = F a := fun a ha => frozen_out fun j hj => by
    have hj : a ∈ (if j = i then fps i else []) := hj
    by_cases z : j = i
    · rw [if_pos z] at hj; exact ha hj
    · rw [if_neg z] at hj; cases hj
  have le : Same F (frozen F H fi) := fun b u eb => by
    rw [fout b fun hb => by rw [(g.new i b hb).1] at eb; cases eb]; exact eb
  have up : Same (frozen F H fi) H := fun b u eb => by
    by_cases hb : b ∈ fps i
    · rw [fin b hb] at eb; exact eb
    · rw [fout b hb] at eb; exact e0.i _ _ eb
  refine ⟨frozen F H fi, ⟨e0.f.trans le, e0.h, up, fun p hp hf => ?_⟩, kp, fun j => if j = i then [] else fps j, ?_⟩
  · by_cases hb : p ∈ fps i
    · exact absurd (g.new i p hb).2 hp
    · rw [fout p hb]; exact e0.n p hp hf
  · refine ⟨fun j s e1 => ?_, fun j e1 => ?_, fun j => ?_, fun j k hjk a ha => ?_, fun j a ha => ?_⟩
    · by_cases hj : j = i
      · subst hj
        rw [List.getElem?_set_self hil] at e1
        cases e1
        exact ⟨_, e, by rw [if_pos rfl], v, rfl, ol_rl le o x _ _ (fun a ha => fin a ha) r⟩
      · rw [List.getElem?_set_ne (Ne.symm hj)] at e1
        obtain ⟨ov', e2, r'⟩ := g.at_ j s e1
        exact ⟨ov', e2, by rw [if_neg hj]; exact so_frame le (fun _ _ => rfl) r'⟩
    · by_cases hj : j = i
      · rw [if_pos hj]
      · rw [List.getElem?_set_ne (Ne.symm hj)] at e1
        rw [if_neg hj]; exact g.out j e1
    · by_cases hj : j = i
      · rw [if_pos hj]; exact List.nodup_nil
      · rw [if_neg hj]; exact g.nd j
    · by_cases hj : j = i
      · rw [if_pos hj] at ha; cases ha
      · rw [if_neg hj] at ha
        by_cases hk : k = i
        · rw [if_pos hk]; exact fun z => nomatch z
        · rw [if_neg hk]; exact g.sep j k hjk a ha
    · by_cases hj : j = i
      · rw [if_pos hj] at ha; cases ha
      · rw [if_neg hj] at ha
        refine ⟨?_, (g.new j a ha).2⟩
        rw [fout a fun z => g.sep j i hj a ha z]; exact (g.new j a ha).1
end
end Gm
set_option Elab.async false
set_option linter.all false
set_option maxRecDepth 100000
set_option maxHeartbeats 4000000
namespace Gm
open PySem L2

/-! ## readings -/
section
variable (mg : Str → Option Value)
def post (W : WX) (σ : St) {α : Type} (m : Mx α) (F H : Hp) (P : α → Prop) : Prop := match m with
  | .ok x => P x
  | .ex e => ∀ cls d F' H', Ext F H F' H' → xr mg e cls d F' → W cls d σ H'
  | .no => False
variable (K : PySem.W.Frag)
def tR (W : WX) (Γ : Ctx) (r : Rt) (m : Mx r.den) : TE := fun σ H Q => ∃ F, Same F H ∧ SD K mg Γ σ F ∧
  post mg W σ m F H fun x => ∀ v F' H', Ext F H F' H' → rtr K mg r x v H F' H' → Q v H'
/-- arguments -/
def tA (W : WX) (Γ : Ctx) (ts : Ty) (m : Mx ts.den) : TA := fun σ H Q => ∃ F, Same F H ∧ SD K mg Γ σ F ∧
  post mg W σ m F H fun x => ∀ vs F' H', Ext F H F' H' → rl K mg ts x vs F' → Q vs H'
/-- a test -/
def tT (W : WX) (Γ : Ctx) (m : Mx Bool) : TT := fun σ H Q => ∃ F, Same F H ∧ SD K mg Γ σ F ∧
  post mg W σ m F H fun b => ∀ F' H', Ext F H F' H' → Q b H'
/-- a slice's end -/
def tP (W : WX) (Γ : Ctx) (m : Mx (Option Int)) : TO := fun σ H Q => ∃ F, Same F H ∧ SD K mg Γ σ F ∧
  post mg W σ m F H fun b => ∀ F' H', Ext F H F' H' → Q b H'
end
section
variable {mg : Str → Option Value} {K : PySem.W.Frag} {W : WX} {σ : St} {F H F' H' : Hp} {α β : Type}
theorem post.bind {m : Mx α} {k : α → Mx β} {P : β → Prop} (h : post mg W σ (m >>= k) F H P) : post mg W σ m F H fun x => post mg W σ (k x) F H P := by
  cases m with
  | ok a => exact h
  | ex e => exact h
  | no => exact h
theorem post.mono {m : Mx α} {P P' : α → Prop} (h : post mg W σ m F H P) (i : ∀ x, P x → P' x) : post mg W σ m F H P' := by
  cases m with
  | ok a => exact i a h
  | ex e => exact h
  | no => exact h
theorem post.ext {m : Mx α} {P P' : α → Prop} (x : Ext F H F' H') (h : post mg W σ m F H P) (i : ∀ x, P x → P' x) : post mg W σ m F' H' P' := by
  cases m with
  | ok a => exact i a h
  | ex e => exact fun cls d F2 H2 e2 r => h cls d F2 H2 (x.trans e2) r
  | no => exact h
theorem rtr_pre {r : Rt} {x : r.den} {v : V} {G : Hp} (g : Same H G) (q : rtr K mg r x v G F' H') : rtr K mg r x v H F' H' := by
  cases r with
  | d t => exact q
  | o u =>
    obtain ⟨fp, h1, h2, h3⟩ := q
    exact ⟨fp, h1, h2, fun a ha => ⟨(h3 a ha).1, g.free (h3 a ha).2⟩⟩
end
abbrev ER (X : Cx) (W : WX) (Γ : Ctx) (e : Expr) (r : Rt) (m : Mx r.den) : Prop := PE X e (tR X.mg X.K W Γ r m)
abbrev EM (X : Cx) (W : WX) (Γ : Ctx) (e : Expr) (t : Ty) (m : Mx t.den) : Prop := PE X e (tR X.mg X.K W Γ (.d t) m)
abbrev EO (X : Cx) (W : WX) (Γ : Ctx) (e : Expr) (o : Ow) (m : Mx o.ty.den) : Prop := PE X e (tR X.mg X.K W Γ (.o o) m)
abbrev EA (X : Cx) (W : WX) (Γ : Ctx) (es : List Expr) (ts : Ty) (m : Mx ts.den) : Prop := PA X es (tA X.mg X.K W Γ ts m)
abbrev ET (X : Cx) (W : WX) (Γ : Ctx) (e : Expr) (m : Mx Bool) : Prop := PT X e (tT X.mg X.K W Γ m)
abbrev EP' (X : Cx) (W : WX) (Γ : Ctx) (e : Option Expr) (m : Mx (Option Int)) : Prop := PO X e (tP X.mg X.K W Γ m)
theorem pe_imp {X : Cx} {e : Expr} {t t' : TE} (h : PE X e t) (i : ∀ σ H Q, t' σ H Q → t σ H Q) : PE X e t' := ⟨fun pins s σ H Q I q => h.run pins s σ H Q I (i σ H Q q)⟩
theorem pa_imp {X : Cx} {e : List Expr} {t t' : TA} (h : PA X e t) (i : ∀ σ H Q, t' σ H Q → t σ H Q) : PA X e t' := ⟨fun pos pins s σ H Q I q => h.run pos pins s σ H Q I (i σ H Q q)⟩
theorem pt_imp {X : Cx} {e : Expr} {t t' : TT} (h : PT X e t) (i : ∀ σ H Q, t' σ H Q → t σ H Q) : PT X e t' := ⟨fun pins s σ H Q I q => h.run pins s σ H Q I (i σ H Q q)⟩
theorem po_imp {X : Cx} {e : Option Expr} {t t' : TO} (h : PO X e t) (i : ∀ σ H Q, t' σ H Q → t σ H Q) : PO X e t' := ⟨fun pins s σ H Q I q => h.run pins s σ H Q I (i σ H Q q)⟩

def ofO {α : Type} : Option α → Mx α
  | some x => .ok x
  | none => .no

section
variable {X : Cx} {W : WX} {Γ : Ctx} {a b c e : Expr} {pos p p2 : Pos} {t t1 t2 : Ty} {r : Rt}

/-! ## parts in a row -/
theorem two_of {m1 : Mx t1.den} {m2 : Mx t2.den} {k : t1.den → t2.den → Mx r.den} {rR : R2}
    (hr : ∀ x y v w F H σ Q, Same F H → rl X.K X.mg t1 x [v] F → rl X.K X.mg t2 y [w] F → (post X.mg W σ (k x y) F H fun z => ∀ u F' H', Ext F H F' H' → rtr X.K X.mg r z u H F' H' → Q u H') → rR v w H Q) :
    ∀ σ H Q, tR X.mg X.K W Γ r (m1 >>= fun x => m2 >>= fun y => k x y) σ H Q → tOp rR (tR X.mg X.K W Γ (.d t1) m1) (tR X.mg X.K W Γ (.d t2) m2) σ H Q := by
  intro σ H Q ⟨F, s, d, p⟩
  refine ⟨F, s, d, p.bind.mono fun x px v F1 H1 e1 r1 => ⟨F1, e1.i, d.mono e1.f, post.ext (P' := _) e1 px.bind fun y py w F2 H2 e2 r2 => ?_⟩⟩
  refine hr x y v w F2 H2 σ Q e2.i (rl_mono e2.f t1 x _ r1) r2 ?_
  exact post.ext (e1.trans e2) py fun z pz u F3 H3 e3 r3 => pz u F3 H3 ((e1.trans e2).trans e3) (rtr_pre (e1.h.trans e2.h) r3)
theorem one_of {m1 : Mx t1.den} {k : t1.den → Mx r.den} {rR : V → Hp → VK → Prop}
    (hr : ∀ x v F H σ Q, Same F H → rl X.K X.mg t1 x [v] F → (post X.mg W σ (k x) F H fun z => ∀ u F' H', Ext F H F' H' → rtr X.K X.mg r z u H F' H' → Q u H') → rR v H Q) :
    ∀ σ H Q, tR X.mg X.K W Γ r (m1 >>= k) σ H Q → tUn rR (tR X.mg X.K W Γ (.d t1) m1) σ H Q := by
  intro σ H Q ⟨F, s, d, p⟩
  refine ⟨F, s, d, p.bind.mono fun x px v F1 H1 e1 r1 => ?_⟩
  exact hr x v F1 H1 σ Q e1.i r1 (post.ext e1 px fun z pz u F3 H3 e3 r3 => pz u F3 H3 (e1.trans e3) (rtr_pre e1.h r3))
theorem args_of {ts : Ty} {m1 : Mx ts.den} {k : ts.den → Mx r.den} {rR : List V → Hp → VK → Prop}
    (hr : ∀ x vs F H σ Q, Same F H → rl X.K X.mg ts x vs F → (post X.mg W σ (k x) F H fun z => ∀ u F' H', Ext F H F' H' → rtr X.K X.mg r z u H F' H' → Q u H') → rR vs H Q) :
    ∀ σ H Q, tR X.mg X.K W Γ r (m1 >>= k) σ H Q → tCB rR (tA X.mg X.K W Γ ts m1) σ H Q := by
  intro σ H Q ⟨F, s, d, p⟩
  refine ⟨F, s, d, p.bind.mono fun x px v F1 H1 e1 r1 => ?_⟩
  exact hr x v F1 H1 σ Q e1.i r1 (post.ext e1 px fun z pz u F3 H3 e3 r3 => pz u F3 H3 (e1.trans e3) (rtr_pre e1.h r3))

/-! ## arguments -/
theorem ea_nil : EA X W Γ [] .nl (.ok ()) := pa_imp pa_nil fun σ H Q ⟨F, s, d, p⟩ => p [] F H (Ext.refl s) rfl
theorem ea_cons {es : List Expr} {ts : Ty} {m : Mx t.den} {ms : Mx ts.den} (ha : EM X W Γ a t m) (hr : EA X W Γ es ts ms) (hs : starEach (a :: es) X.env = (false, eval a X.env) :: starEach es X.env := by rfl) :
    EA X W Γ (a :: es) (.pr t ts) (m >>= fun x => ms >>= fun y => .ok (x, y)) := pa_imp (pa_cons ha hr hs) fun σ H Q ⟨F, s, d, p⟩ => by
  refine ⟨F, s, d, p.bind.mono fun x px v F1 H1 e1 r1 => ⟨F1, e1.i, d.mono e1.f, post.ext e1 px.bind fun y py vs F2 H2 e2 r2 => ?_⟩⟩
  exact py (v :: vs) F2 H2 (e1.trans e2) ⟨v, vs, rfl, rl_mono e2.f t x _ r1, r2⟩
theorem ea_one {m : Mx t.den} (ha : EM X W Γ a t m) (hs : starEach [a] X.env = (false, eval a X.env) :: starEach [] X.env := by rfl) : EA X W Γ [a] t m := pa_imp (pa_cons ha pa_nil hs) fun σ H Q ⟨F, s, d, p⟩ =>
  ⟨F, s, d, p.mono fun x px v F1 H1 e1 r1 => px [v] F1 H1 e1 r1⟩

/-! ## names, constants -/
theorem e_c {v : V} {x : t.den} (h : PE X e (tC v)) (hv : ∀ F, rl X.K X.mg t x [v] F) : EM X W Γ e t (.ok x) := pe_imp h fun σ H Q ⟨F, s, d, p⟩ => p v F H (Ext.refl s) (hv F)
theorem e_int {i : Int} {j : Nat} : EM X W Γ (.Constant (.int i) j pos) .int (.ok i) := e_c pe_int fun _ => rfl
theorem e_str {i : Str} {j : Nat} : EM X W Γ (.Constant (.str i) j pos) .str (.ok i) := e_c pe_str fun _ => rfl
theorem e_bool {i : Bool} {j : Nat} : EM X W Γ (.Constant (.bool i) j pos) .bool (.ok i) := e_c pe_bl fun _ => rfl
theorem e_none {j : Nat} : EM X W Γ (.Constant .none j pos) .non (.ok ()) := e_c pe_non fun _ => rfl
theorem e_noneO {j : Nat} : EM X W Γ (.Constant .none j pos) (.opt t) (.ok none) := e_c pe_non fun _ => rfl
theorem e_var (i : Nat) {n : Str} {x : t.den} (hΓ : Γ[i]? = some (.d t x)) (hp : PE X (.Name n pos) (tVar i)) : EM X W Γ (.Name n pos) t (.ok x) := pe_imp hp fun σ H Q ⟨F, s, d, p⟩ => by
  obtain ⟨ov, e1, v, rfl, r⟩ := d i _ hΓ
  exact ⟨v, e1, p v F H (Ext.refl s) r⟩
/-- an owned thing, read -/
theorem e_own (i : Nat) {n : Str} {o : Ow} {x : o.ty.den} (hΓ : Γ[i]? = some (.o o x)) (hp : PE X (.Name n pos) (tVar i)) : EM X W Γ (.Name n pos) o.ty (.ok x) := pe_imp hp fun σ H Q ⟨F, s, d, p⟩ => by
  obtain ⟨ov, e1, v, rfl, r⟩ := d i _ hΓ
  exact ⟨v, e1, p v F H (Ext.refl s) r⟩
/-- a new owned thing, as data -/
theorem e_frz {o : Ow} {m : Mx o.ty.den} (h : EO X W Γ e o m) : EM X W Γ e o.ty m := pe_imp h fun σ H Q ⟨F, s, d, p⟩ => by
  refine ⟨F, s, d, p.mono fun x px v F' H' e1 r => ?_⟩
  obtain ⟨fp, r, nd, nw⟩ := r
  let fi : Nat → List Addr := fun j => if j = 0 then fp else []
  have fin : ∀ a, a ∈ fp → frozen F' H' fi a = H' a := fun a ha => frozen_in (i := 0) (by show a ∈ (if (0 : Nat) = 0 then fp else []); rw [if_pos rfl]; exact ha)
  have fout : ∀ a, a ∉ fp → frozen F' H' fi a = F' a := fun a ha => frozen_out fun j hj => by
    have hj : a ∈ (if j = 0 then fp else []) := hj
    by_cases z : j = 0
    · rw [if_pos z] at hj; exact ha hj
    · rw [if_neg z] at hj; cases hj
  have le : Same F' (frozen F' H' fi) := fun b u eb => by
    rw [fout b fun hb => by rw [(nw b hb).1] at eb; cases eb]; exact eb
  refine px v (frozen F' H' fi) H' ⟨e1.f.trans le, e1.h, fun b u eb => ?_, fun q hq hf => ?_⟩ (ol_rl le o x _ _ (fun a ha => fin a ha) r)
  · by_cases hb : b ∈ fp
    · rw [fin b hb] at eb; exact eb
    · rw [fout b hb] at eb; exact e1.i _ _ eb
  · by_cases hb : q ∈ fp
    · exact absurd (nw q hb).2 hq
    · rw [fout q hb]; exact e1.n q hq hf
/-- a value as an option -/
def Ty.some_ : Ty → Bool
  | .int => true
  | .bool => true
  | .str => true
  | .tup _ => true
  | .vtup _ => true
  | .hl _ => true
  | .list _ => true
  | .ins _ _ _ => true
  | .dic _ _ => true
  | .dicN _ _ _ _ => true
  | .sum a b => a.some_ && b.some_
  | _ => false
theorem rl_some {K : PySem.W.Frag} {mg : Str → Option Value} {F : Hp} : ∀ {t : Ty} {x : t.den} {vs : List V}, t.some_ = true → rl K mg t x vs F → vs ≠ [.non] := by
  intro t
  induction t with
  | sum a b iha ihb =>
    intro x vs h r
    have h' := (Bool.and_eq_true _ _).mp (show (a.some_ && b.some_) = true from h)
    cases x with
    | inl y => exact iha h'.1 r
    | inr y => exact ihb h'.2 r
  | dic _ _ _ _ => intro x vs h r; obtain ⟨_, _, e, _⟩ := r; rw [e]; exact fun z => nomatch z
  | dicN _ _ _ _ _ _ => intro x vs h r; obtain ⟨_, _, e, _⟩ := r; rw [e]; exact fun z => nomatch z
  | int => intro x vs h r; rw [show vs = _ from r]; exact fun z => nomatch z
  | bool => intro x vs h r; rw [show vs = _ from r]; exact fun z => nomatch z
  | str => intro x vs h r; rw [show vs = _ from r]; exact fun z => nomatch z
  | tup _ _ => intro x vs h r; obtain ⟨_, _, e, _⟩ := r; rw [e]; exact fun z => nomatch z
  | vtup _ _ => intro x vs h r; obtain ⟨_, _, e, _⟩ := r; rw [e]; exact fun z => nomatch z
  | hl _ _ => intro x vs h r; obtain ⟨_, _, e, _⟩ := r; rw [e]; exact fun z => nomatch z
  | list _ _ => intro x vs h r; obtain ⟨_, _, e, _⟩ := r; rw [e]; exact fun z => nomatch z
  | ins _ _ _ _ => intro x vs h r; obtain ⟨_, _, _, _, e, _⟩ := r; rw [e]; exact fun z => nomatch z
  | _ => intro x vs h; cases h
theorem e_some {m : Mx t.den} (ht : t.some_ = true) (h : EM X W Γ e t m) : EM X W Γ e (.opt t) (m >>= fun x => .ok (some x)) := pe_imp h fun σ H Q ⟨F, s, d, p⟩ =>
  ⟨F, s, d, p.bind.mono fun x px v F' H' e1 r => px v F' H' e1 ⟨rl_some ht r, r⟩⟩

/-! ## operators -/
theorem e_bin {op : Operator} {m1 : Mx t1.den} {m2 : Mx t2.den} {g : t1.den → t2.den → Option r.den} {rR : R2} (ho : OpR X (binaryOp op) rR)
    (hr : ∀ x y z, g x y = some z → ∀ v w F H Q, Same F H → rl X.K X.mg t1 x [v] F → rl X.K X.mg t2 y [w] F → (∀ u F' H', Ext F H F' H' → rtr X.K X.mg r z u H F' H' → Q u H') → rR v w H Q)
    (ha : EM X W Γ a t1 m1) (hb : EM X W Γ b t2 m2) : ER X W Γ (.BinOp a op b pos) r (m1 >>= fun x => m2 >>= fun y => ofO (g x y)) :=
  pe_imp (pe_op ho ha hb) (two_of fun x y v w F H σ Q s r1 r2 p => by
    cases e : g x y with
    | none => rw [e] at p; exact p.elim
    | some z => rw [e] at p; exact hr x y z e v w F H Q s r1 r2 p)
theorem e_cmp {op : CmpOp} {m1 : Mx t1.den} {m2 : Mx t2.den} {g : t1.den → t2.den → Option r.den} {rR : R2} (ho : OpR X (compareOp op) rR) (hm : behindInMarks op b = false)
    (hr : ∀ x y z, g x y = some z → ∀ v w F H Q, Same F H → rl X.K X.mg t1 x [v] F → rl X.K X.mg t2 y [w] F → (∀ u F' H', Ext F H F' H' → rtr X.K X.mg r z u H F' H' → Q u H') → rR v w H Q)
    (ha : EM X W Γ a t1 m1) (hb : EM X W Γ b t2 m2) : ER X W Γ (.Compare a [op] [b] pos) r (m1 >>= fun x => m2 >>= fun y => ofO (g x y)) :=
  pe_imp (pe_cmpR ho ha hb hm) (two_of fun x y v w F H σ Q s r1 r2 p => by
    cases e : g x y with
    | none => rw [e] at p; exact p.elim
    | some z => rw [e] at p; exact hr x y z e v w F H Q s r1 r2 p)
theorem e_ix {m1 : Mx t1.den} {m2 : Mx t2.den} {g : t1.den → t2.den → Option r.den} {rR : R2} (ho : IxR X rR) (hs : PlainIx b)
    (hr : ∀ x y z, g x y = some z → ∀ v w F H Q, Same F H → rl X.K X.mg t1 x [v] F → rl X.K X.mg t2 y [w] F → (∀ u F' H', Ext F H F' H' → rtr X.K X.mg r z u H F' H' → Q u H') → rR v w H Q)
    (ha : EM X W Γ a t1 m1) (hb : EM X W Γ b t2 m2) : ER X W Γ (.Subscript a b pos) r (m1 >>= fun x => m2 >>= fun y => ofO (g x y)) :=
  pe_imp (pe_ix ho ha hb hs) (two_of fun x y v w F H σ Q s r1 r2 p => by
    cases e : g x y with
    | none => rw [e] at p; exact p.elim
    | some z => rw [e] at p; exact hr x y z e v w F H Q s r1 r2 p)
end
end Gm
set_option Elab.async false
set_option linter.all false
set_option maxRecDepth 100000
set_option maxHeartbeats 4000000
namespace Gm
open PySem PySem.Spec L2

/-! ## equality of data -/
inductive Kd where
  | i | b | s | t | l
deriving DecidableEq
/-- things of these two kinds are never equal -/
def Kd.dis : Kd → Kd → Bool
  | .i, .i => false
  | .i, .b => false
  | .b, .i => false
  | .b, .b => false
  | .s, .s => false
  | .t, .t => false
  | .l, .l => false
  | _, _ => true
def Ty.kds : Ty → Option (List Kd)
  | .int => some [.i]
  | .bool => some [.b]
  | .str => some [.s]
  | .tup _ => some [.t]
  | .vtup _ => some [.t]
  | .hl _ => some [.l]
  | .list _ => some [.l]
  | .sum a b => match a.kds, b.kds with
    | some l, some l' => some (l ++ l')
    | _, _ => none
  | _ => none
def Ty.dis (a b : Ty) : Bool := match a.kds, b.kds with
  | some l, some l' => l.all fun k => l'.all fun k' => k.dis k'
  | _, _ => false
def lbeq {α : Type} (f : α → α → Bool) : List α → List α → Bool
  | [], [] => true
  | x :: xs, y :: ys => f x y && lbeq f xs ys
  | _, _ => false
def Ty.beq : (t : Ty) → t.den → t.den → Bool
  | .int, x, y => @BEq.beq Int _ x y
  | .bool, x, y => @BEq.beq Bool _ x y
  | .str, x, y => @BEq.beq Str _ x y
  | .non, _, _ => true
  | .scr, _, _ => false
  | .tpl, _, _ => false
  | .exn, _, _ => false
  | .opt t, x, y => match x, y with
    | none, none => true
    | some a, some b => t.beq a b
    | _, _ => false
  | .tup fs, x, y => fs.beq x y
  | .vtup t, x, y => lbeq t.beq x y
  | .hl fs, x, y => fs.beq x y
  | .list t, x, y => lbeq t.beq x y
  | .pr a b, x, y => a.beq x.1 y.1 && b.beq x.2 y.2
  | .nl, _, _ => true
  | .sum a b, x, y => match x, y with
    | .inl x, .inl y => a.beq x y
    | .inr x, .inr y => b.beq x y
    | _, _ => false
  | .ins _ _ _, _, _ => false
  | .dic _ _, _, _ => false
  | .dicN _ _ _ _, _, _ => false
def Ty.eqok : Ty → Bool
  | .int => true
  | .bool => true
  | .str => true
  | .non => true
  | .scr => false
  | .tpl => false
  | .exn => false
  | .opt t => t.some_ && t.eqok
  | .tup fs => fs.eqok
  | .vtup t => t.eqok
  | .hl fs => fs.eqok
  | .list t => t.eqok
  | .pr a b => a.eqok && b.eqok
  | .nl => true
  | .sum a b => (a.some_ && b.some_) && ((a.eqok && b.eqok) && a.dis b)
  | .ins _ _ _ => false
  | .dic _ _ => false
  | .dicN _ _ _ _ => false
theorem Ty.sumok {a b : Ty} (h : (Ty.sum a b).eqok = true) : a.some_ = true ∧ b.some_ = true ∧ a.eqok = true ∧ b.eqok = true ∧ a.dis b = true := by
  have h : ((a.some_ && b.some_) && ((a.eqok && b.eqok) && a.dis b)) = true := h
  simp only [Bool.and_eq_true] at h
  exact ⟨h.1.1, h.1.2, h.2.1.1, h.2.1.2, h.2.2⟩
def Ty.depth : Ty → Nat
  | .opt t => t.depth
  | .tup fs => fs.depth + 1
  | .vtup t => t.depth + 1
  | .hl fs => fs.depth + 1
  | .list t => t.depth + 1
  | .pr a b => a.depth + b.depth
  | .sum a b => a.depth + b.depth
  | _ => 0
theorem lbeq_iff {α : Type} {f : α → α → Bool} (h : ∀ x y, f x y = true ↔ x = y) : ∀ xs ys : List α, lbeq f xs ys = true ↔ xs = ys
  | [], [] => by simp [lbeq]
  | x :: xs, y :: ys => by simp [lbeq, h, lbeq_iff h xs ys]
  | [], _ :: _ => by simp [lbeq]
  | _ :: _, [] => by simp [lbeq]
theorem beq_iff : ∀ (t : Ty), t.eqok = true → ∀ x y : t.den, t.beq x y = true ↔ x = y := by
  intro t
  induction t with
  | int => intro _ x y; exact beq_iff_eq
  | bool => intro _ x y; exact beq_iff_eq
  | str => intro _ x y; exact beq_iff_eq
  | non => intro _ x y; exact ⟨fun _ => rfl, fun _ => rfl⟩
  | opt t ih =>
    intro h x y
    have h' := (Bool.and_eq_true _ _).mp (show (t.some_ && t.eqok) = true from h)
    cases x with
    | none => cases y with
      | none => exact ⟨fun _ => rfl, fun _ => rfl⟩
      | some b => exact ⟨fun z => (nomatch z), fun z => (nomatch z)⟩
    | some a => cases y with
      | none => exact ⟨fun z => (nomatch z), fun z => (nomatch z)⟩
      | some b => exact (ih h'.2 a b).trans ⟨fun z => congrArg some z, fun z => Option.some.inj z⟩
  | tup fs ih => intro h x y; exact ih h x y
  | vtup t ih => intro h x y; exact lbeq_iff (ih h) x y
  | hl fs ih => intro h x y; exact ih h x y
  | list t ih => intro h x y; exact lbeq_iff (ih h) x y
  | pr a b iha ihb =>
    intro h x y
    have h' := (Bool.and_eq_true _ _).mp (show (a.eqok && b.eqok) = true from h)
    obtain ⟨x1, x2⟩ := x
    obtain ⟨y1, y2⟩ := y
    show (a.beq x1 y1 && b.beq x2 y2) = true ↔ _
    rw [Bool.and_eq_true, iha h'.1, ihb h'.2, Prod.mk.injEq]
  | nl => intro _ x y; exact ⟨fun _ => rfl, fun _ => rfl⟩
  | scr => intro h; cases h
  | tpl => intro h; cases h
  | exn => intro h; cases h
  | sum a b iha ihb =>
    intro h x y
    obtain ⟨_, _, h1, h2, _⟩ := Ty.sumok h
    cases x with
    | inl x => cases y with
      | inl y => exact (iha h1 x y).trans ⟨fun z => congrArg Sum.inl z, fun z => Sum.inl.inj z⟩
      | inr y => exact ⟨fun z => (nomatch z), fun z => (nomatch z)⟩
    | inr x => cases y with
      | inl y => exact ⟨fun z => (nomatch z), fun z => (nomatch z)⟩
      | inr y => exact (ihb h2 x y).trans ⟨fun z => congrArg Sum.inr z, fun z => Sum.inr.inj z⟩
  | ins c ns fs => intro h; cases h
  | dicN _ _ _ _ => intro h; cases h
  | dic  _ _ => intro h; cases h
theorem beq_dec {t : Ty} (h : t.eqok = true) [d : DecidableEq t.den] (x y : t.den) : t.beq x y = decide (x = y) := by
  rw [Bool.eq_iff_iff, beq_iff t h, decide_eq_true_iff]

theorem Vals.one {v : V} {us : List Value} (r : Vals [v] us) : ∃ u, us = [u] ∧ RelV v u := by
  cases r with
  | cons a b => cases b; exact ⟨_, rfl, a⟩
theorem rl_one {K : PySem.W.Frag} {mg : Str → Option Value} {F : Hp} : ∀ {t : Ty} {x : t.den} {vs : List V}, t.some_ = true → rl K mg t x vs F → ∃ v, vs = [v] := by
  intro t
  induction t with
  | sum a b iha ihb =>
    intro x vs h r
    have h' := (Bool.and_eq_true _ _).mp (show (a.some_ && b.some_) = true from h)
    cases x with
    | inl y => exact iha h'.1 r
    | inr y => exact ihb h'.2 r
  | dic _ _ _ _ => intro x vs h r; obtain ⟨_, _, e, _⟩ := r; exact ⟨_, e⟩
  | dicN _ _ _ _ _ _ => intro x vs h r; obtain ⟨_, _, e, _⟩ := r; exact ⟨_, e⟩
  | int => intro x vs h r; exact ⟨_, r⟩
  | bool => intro x vs h r; exact ⟨_, r⟩
  | str => intro x vs h r; exact ⟨_, r⟩
  | tup _ _ => intro x vs h r; obtain ⟨_, _, e, _⟩ := r; exact ⟨_, e⟩
  | vtup _ _ => intro x vs h r; obtain ⟨_, _, e, _⟩ := r; exact ⟨_, e⟩
  | hl _ _ => intro x vs h r; obtain ⟨_, _, e, _⟩ := r; exact ⟨_, e⟩
  | list _ _ => intro x vs h r; obtain ⟨_, _, e, _⟩ := r; exact ⟨_, e⟩
  | ins _ _ _ _ => intro x vs h r; obtain ⟨_, _, _, _, e, _⟩ := r; exact ⟨_, e⟩
  | _ => intro x vs h; cases h

section
variable {X : Cx} {pins : List (Addr × Obj)} {σ : L2.St} {F H : Hp} {s : Shared} {mg : Str → Option Value}
theorem sqT_same {K : PySem.W.Frag} {F H : Hp} {a : Addr} {ws : List V} (h : Same F H) (q : SqT K F a ws) : SqT K H a ws := sqT_mono (fun b o z _ => h b o z) q
theorem all2.inj {α : Type} {R : α → V → Prop} (h : ∀ x y v, R x v → R y v → x = y) : ∀ {xs ys : List α} {vs : List V}, all2 R xs vs → all2 R ys vs → xs = ys
  | [], [], [], _, _ => rfl
  | _ :: _, _ :: _, _ :: _, ⟨a, b⟩, ⟨c, d⟩ => by rw [h _ _ _ a c, all2.inj h b d]
  | [], _, _ :: _, z, _ => z.elim
  | _ :: _, _, [], z, _ => z.elim
  | [], _ :: _, [], _, z => z.elim
  | _ :: _, [], _ :: _, _, z => z.elim
/-- the kind of a value that stands in the heap -/
inductive KW (s : Shared) : Kd → V → Prop
  | i (n : Int) : KW s .i (.int n)
  | b (n : Bool) : KW s .b (.bl n)
  | s (n : Str) : KW s .s (.str n)
  | t {a : Addr} {its : Array Value} (h : s.heap.IsTuple a its) : KW s .t (.ref a)
  | l {a : Addr} {its : Array Value} (h : s.heap.IsList a its) : KW s .l (.ref a)
theorem kw_of (I : Inv X pins σ H s) (hs : Same F H) : ∀ {t : Ty} {x : t.den} {v : V} {l : List Kd}, t.kds = some l → rl X.K mg t x [v] F → ∃ k ∈ l, KW s k v := by
  intro t
  induction t with
  | int => intro x v l h r; cases h; cases (List.cons.inj (show [v] = _ from r)).1; exact ⟨_, List.mem_singleton.mpr rfl, .i _⟩
  | bool => intro x v l h r; cases h; cases (List.cons.inj (show [v] = _ from r)).1; exact ⟨_, List.mem_singleton.mpr rfl, .b _⟩
  | str => intro x v l h r; cases h; cases (List.cons.inj (show [v] = _ from r)).1; exact ⟨_, List.mem_singleton.mpr rfl, .s _⟩
  | tup fs _ =>
    intro x v l h r
    cases h
    obtain ⟨a, ws, e, s1, _⟩ := r
    cases (List.cons.inj e).1
    obtain ⟨its, _, p, _⟩ := I.tuple (sqT_same hs s1)
    exact ⟨_, List.mem_singleton.mpr rfl, .t (show s.heap.IsTuple a its.toArray from p)⟩
  | vtup t _ =>
    intro x v l h r
    cases h
    obtain ⟨a, ws, e, s1, _⟩ := r
    cases (List.cons.inj e).1
    obtain ⟨its, _, p, _⟩ := I.tuple (sqT_same hs s1)
    exact ⟨_, List.mem_singleton.mpr rfl, .t (show s.heap.IsTuple a its.toArray from p)⟩
  | hl fs _ =>
    intro x v l h r
    cases h
    obtain ⟨a, ws, e, s1, _⟩ := r
    cases (List.cons.inj e).1
    obtain ⟨its, _, p, _⟩ := I.list (SqL.of (hs _ _ s1))
    exact ⟨_, List.mem_singleton.mpr rfl, .l p.isList⟩
  | list t _ =>
    intro x v l h r
    cases h
    obtain ⟨a, ws, e, s1, _⟩ := r
    cases (List.cons.inj e).1
    obtain ⟨its, _, p, _⟩ := I.list (SqL.of (hs _ _ s1))
    exact ⟨_, List.mem_singleton.mpr rfl, .l p.isList⟩
  | sum a b iha ihb =>
    intro x v l h r
    have h : (match a.kds, b.kds with | some l, some l' => some (l ++ l') | _, _ => none) = some l := h
    cases ea : a.kds with
    | none => rw [ea] at h; cases h
    | some la => cases eb : b.kds with
      | none => rw [ea, eb] at h; cases h
      | some lb =>
        rw [ea, eb] at h
        cases h
        cases x with
        | inl y => obtain ⟨k, m, q⟩ := iha ea r; exact ⟨k, List.mem_append_left _ m, q⟩
        | inr y => obtain ⟨k, m, q⟩ := ihb eb r; exact ⟨k, List.mem_append_right _ m, q⟩
  | _ => intro x v l h; cases h
theorem kw_false {k k' : Kd} {v : V} (h : KW s k v) (h' : KW s k' v) (d : k.dis k' = true) : False := by
  cases h <;> cases h' <;> first | exact absurd d (by decide) | exact SeqAt.ne_of_list_tuple (by assumption) (by assumption) rfl
theorem kw_ne {A : Around} {k k' : Kd} {v w : V} {u u' : Value} (hu : A.units < cLine) (h : KW s k v) (h' : KW s k' w) (d : k.dis k' = true) (r : RelV v u) (r' : RelV w u') : SeqAt.EqAt A s u u' false := by
  cases h with
  | i n =>
    obtain ⟨t, rfl⟩ := r
    cases h' with
    | i _ => cases d
    | b _ => cases d
    | s m => obtain ⟨t', rfl⟩ := r'; exact .int_str _ _ _ _
    | t h => cases r'; exact .int_tuple _ _ h hu
    | l h => cases r'; exact .int_list _ _ h hu
  | b n =>
    cases r
    cases h' with
    | i _ => cases d
    | b _ => cases d
    | s m => obtain ⟨t', rfl⟩ := r'; exact .bool_str _ _ _
    | t h => cases r'; exact .bool_tuple _ h hu
    | l h => cases r'; exact .bool_list _ h hu
  | s n =>
    obtain ⟨t, rfl⟩ := r
    cases h' with
    | i _ => obtain ⟨t', rfl⟩ := r'; exact .str_int _ _ _ _
    | b _ => cases r'; exact .str_bool _ _ _
    | s m => cases d
    | t h => cases r'; exact .str_tuple _ _ h hu
    | l h => cases r'; exact .str_list _ _ h hu
  | t h0 =>
    cases r
    cases h' with
    | i _ => obtain ⟨t', rfl⟩ := r'; exact .tuple_int _ _ h0 hu
    | b _ => cases r'; exact .tuple_bool _ h0 hu
    | s m => obtain ⟨t', rfl⟩ := r'; exact .tuple_str _ _ h0 hu
    | t h => cases d
    | l h => cases r'; exact .tuple_list h0 h hu
  | l h0 =>
    cases r
    cases h' with
    | i _ => obtain ⟨t', rfl⟩ := r'; exact .list_int _ _ h0 hu
    | b _ => cases r'; exact .list_bool _ h0 hu
    | s m => obtain ⟨t', rfl⟩ := r'; exact .list_str _ _ h0 hu
    | t h => cases r'; exact .list_tuple h0 h hu
    | l h => cases d
theorem dis_kw (I : Inv X pins σ H s) (hs : Same F H) {a b : Ty} (d : a.dis b = true) {x : a.den} {y : b.den} {v w : V} (p : rl X.K mg a x [v] F) (q : rl X.K mg b y [w] F) : ∃ k k', KW s k v ∧ KW s k' w ∧ k.dis k' = true := by
  unfold Ty.dis at d
  cases ea : a.kds with
  | none => rw [ea] at d; cases d
  | some la => cases eb : b.kds with
    | none => rw [ea, eb] at d; cases d
    | some lb =>
      rw [ea, eb] at d
      obtain ⟨k, m, q1⟩ := kw_of I hs ea p
      obtain ⟨k', m', q2⟩ := kw_of I hs eb q
      exact ⟨k, k', q1, q2, List.all_eq_true.mp (List.all_eq_true.mp d k m) k' m'⟩
theorem Kd.dis_comm (k k' : Kd) : k.dis k' = k'.dis k := by cases k <;> cases k' <;> rfl
theorem rl_inj (I : Inv X pins σ H s) (hs : Same F H) : ∀ (t : Ty), t.eqok = true → ∀ (x y : t.den) (vs : List V), rl X.K mg t x vs F → rl X.K mg t y vs F → x = y := by
  intro t
  induction t with
  | int => intro _ x y vs p q; rw [show vs = _ from p] at q; exact V.int.inj (List.cons.inj q).1
  | bool => intro _ x y vs p q; rw [show vs = _ from p] at q; exact V.bl.inj (List.cons.inj q).1
  | str => intro _ x y vs p q; rw [show vs = _ from p] at q; exact V.str.inj (List.cons.inj q).1
  | non => intro _ x y vs p q; rfl
  | opt t ih =>
    intro h x y vs p q
    have h' := (Bool.and_eq_true _ _).mp (show (t.some_ && t.eqok) = true from h)
    cases x with
    | none => cases y with
      | none => rfl
      | some b => exact absurd p q.1
    | some a => cases y with
      | none => exact absurd q p.1
      | some b => exact congrArg some (ih h'.2 a b vs p.2 q.2)
  | tup fs ih =>
    intro h x y vs p q
    obtain ⟨a, ws, e, s1, r1⟩ := p
    obtain ⟨b, zs, e', s2, r2⟩ := q
    rw [e] at e'; cases e'
    cases I.tuple_inj (sqT_same hs s1) (sqT_same hs s2)
    exact ih h x y _ r1 r2
  | vtup t ih =>
    intro h x y vs p q
    obtain ⟨a, ws, e, s1, r1⟩ := p
    obtain ⟨b, zs, e', s2, r2⟩ := q
    rw [e] at e'; cases e'
    cases I.tuple_inj (sqT_same hs s1) (sqT_same hs s2)
    exact all2.inj (fun x y v => ih h x y [v]) r1 r2
  | hl fs ih =>
    intro h x y vs p q
    obtain ⟨a, ws, e, s1, r1⟩ := p
    obtain ⟨b, zs, e', s2, r2⟩ := q
    rw [e] at e'; cases e'
    cases I.list_inj (SqL.of (hs _ _ s1)) (SqL.of (hs _ _ s2))
    exact ih h x y _ r1 r2
  | list t ih =>
    intro h x y vs p q
    obtain ⟨a, ws, e, s1, r1⟩ := p
    obtain ⟨b, zs, e', s2, r2⟩ := q
    rw [e] at e'; cases e'
    cases I.list_inj (SqL.of (hs _ _ s1)) (SqL.of (hs _ _ s2))
    exact all2.inj (fun x y v => ih h x y [v]) r1 r2
  | pr a b iha ihb =>
    intro h x y vs p q
    have h' := (Bool.and_eq_true _ _).mp (show (a.eqok && b.eqok) = true from h)
    obtain ⟨v, r, e, p1, p2⟩ := p
    obtain ⟨w, r', e', q1, q2⟩ := q
    rw [e] at e'; cases e'
    exact Prod.ext (iha h'.1 _ _ _ p1 q1) (ihb h'.2 _ _ _ p2 q2)
  | nl => intro _ x y vs p q; rfl
  | scr => intro h; cases h
  | tpl => intro h; cases h
  | exn => intro h; cases h
  | sum a b iha ihb =>
    intro h x y vs p q
    obtain ⟨h3, h4, h1, h2, h5⟩ := Ty.sumok h
    cases x with
    | inl x => cases y with
      | inl y => exact congrArg Sum.inl (iha h1 x y vs p q)
      | inr y =>
        obtain ⟨v, rfl⟩ := rl_one h3 p
        obtain ⟨k, k', k1, k2, kd⟩ := dis_kw I hs h5 p q
        exact (kw_false k1 k2 kd).elim
    | inr x => cases y with
      | inl y =>
        obtain ⟨v, rfl⟩ := rl_one h4 p
        obtain ⟨k, k', k1, k2, kd⟩ := dis_kw I hs h5 q p
        exact (kw_false k1 k2 kd).elim
      | inr y => exact congrArg Sum.inr (ihb h2 x y vs p q)
  | ins c ns fs => intro h; cases h
  | dicN _ _ _ _ => intro h; cases h
  | dic  _ _ => intro h; cases h

/-- pointwise answers of == -/
def EqL (A : Around) (s : Shared) (us ws : List Value) (b : Bool) : Prop := ∃ e : Nat → Bool, us.length = ws.length ∧ (∀ j u w, us[j]? = some u → ws[j]? = some w → SeqAt.EqAt A s u w (e j)) ∧ b = (List.range us.length).all e
theorem EqL.single {A : Around} {u w : Value} {b : Bool} (h : SeqAt.EqAt A s u w b) : EqL A s [u] [w] b := by
  refine ⟨fun _ => b, rfl, fun j u' w' e1 e2 => ?_, by simp⟩
  cases j with
  | zero => simp at e1 e2; subst e1; subst e2; exact h
  | succ j => simp at e1
theorem range_all_succ (n : Nat) (e : Nat → Bool) : (List.range (n + 1)).all e = (e 0 && (List.range n).all fun j => e (j + 1)) := by
  rw [List.range_succ_eq_map, List.all_cons, List.all_map]; rfl
theorem EqL.cons {A : Around} {u w : Value} {us ws : List Value} {b c : Bool} (h : SeqAt.EqAt A s u w b) (t : EqL A s us ws c) : EqL A s (u :: us) (w :: ws) (b && c) := by
  obtain ⟨e, h1, h2, h3⟩ := t
  refine ⟨fun j => match j with | 0 => b | j + 1 => e j, congrArg (· + 1) h1, fun j u' w' e1 e2 => ?_, ?_⟩
  · cases j with
    | zero => simp at e1 e2; subst e1; subst e2; exact h
    | succ j => exact h2 j u' w' (by simpa using e1) (by simpa using e2)
  · rw [List.length_cons, range_all_succ, h3]
theorem EqL.one {A : Around} {u w : Value} {b : Bool} (h : EqL A s [u] [w] b) : SeqAt.EqAt A s u w b := by
  obtain ⟨e, h1, h2, h3⟩ := h
  have := h2 0 u w rfl rfl
  rw [h3]; simpa using this
theorem rc_lists {A : Around} {a b : Addr} {ws zs : List V} {c : Bool} (hu : A.units < cLine) (I : Inv X pins σ H s) (h1 : SqL X.K H a ws) (h2 : SqL X.K H b zs)
    (h : ws.length = zs.length → ∀ us us', Vals ws us → Vals zs us' → EqL A.in1 s us us' c) (hn : ws.length ≠ zs.length → c = false) : SeqAt.RcAt A s (.ref a) (.ref b) c := by
  obtain ⟨its, r1, p1, z1⟩ := I.list h1
  obtain ⟨its', r2, p2, z2⟩ := I.list h2
  by_cases hl : ws.length = zs.length
  · obtain ⟨e, e1, e2, e3⟩ := h hl its its' r1 r2
    rw [e3]
    have := SeqAt.RcAt.lists (e := e) p1.isList p2.isList (by simpa using e1) hu fun j h1 h2 => e2 j _ _ (by simp at h1; simp [h1]) (by simp at h2; simp [h2])
    simpa using this
  · rw [hn hl]
    refine SeqAt.RcAt.lists_lengths p1.isList p2.isList ?_ hu
    rw [bne_iff_ne]
    simp only [List.size_toArray]
    rw [← r1.length, ← r2.length]; exact hl
theorem rc_tuples {A : Around} {a b : Addr} {ws zs : List V} {c : Bool} (hu : A.units < cLine) (I : Inv X pins σ H s) (h1 : SqT X.K H a ws) (h2 : SqT X.K H b zs)
    (h : ws.length = zs.length → ∀ us us', Vals ws us → Vals zs us' → EqL A.in1 s us us' c) (hn : ws.length ≠ zs.length → c = false)
    (hall : ∀ us us', Vals ws us → Vals zs us' → ∃ e : Nat → Bool, ∀ j u w, us[j]? = some u → us'[j]? = some w → SeqAt.EqAt A.in1 s u w (e j)) : SeqAt.RcAt A s (.ref a) (.ref b) c := by
  obtain ⟨its, r1, p1, z1⟩ := I.tuple h1
  obtain ⟨its', r2, p2, z2⟩ := I.tuple h2
  by_cases hl : ws.length = zs.length
  · obtain ⟨e, e1, e2, e3⟩ := h hl its its' r1 r2
    have := SeqAt.RcAt.tuples (e := e) (show s.heap.IsTuple a its.toArray from p1) (show s.heap.IsTuple b its'.toArray from p2) hu fun j h1 h2 => e2 j _ _ (by simp at h1; simp [h1]) (by simp at h2; simp [h2])
    rw [e3]
    simpa [e1] using this
  · obtain ⟨e, he⟩ := hall its its' r1 r2
    have := SeqAt.RcAt.tuples (e := e) (show s.heap.IsTuple a its.toArray from p1) (show s.heap.IsTuple b its'.toArray from p2) hu fun j h1 h2 => he j _ _ (by simp at h1; simp [h1]) (by simp at h2; simp [h2])
    rw [hn hl]
    have hl' : its.length ≠ its'.length := by rw [← r1.length, ← r2.length]; exact hl
    simp only [List.size_toArray] at this
    rw [show (its.length == its'.length) = false from by simp [hl'], Bool.and_false] at this
    exact this
theorem none_kw {A : Around} {u : Value} {w : V} {k : Kd} (hu : A.units < cLine) (h : KW s k w) (ru : RelV w u) : SeqAt.EqAt A s .none u false ∧ SeqAt.EqAt A s u .none false := by
  cases h with
  | i n => obtain ⟨t, rfl⟩ := ru; exact ⟨.none_int _ _, .int_none _ _⟩
  | b n => cases ru; exact ⟨.none_bool _, .bool_none _⟩
  | s n => obtain ⟨t, rfl⟩ := ru; exact ⟨.none_str _ _, .str_none _ _⟩
  | t h => cases ru; exact ⟨.none_tuple h hu, .tuple_none h hu⟩
  | l h => cases ru; exact ⟨.none_list h hu, .list_none h hu⟩
theorem eqok_kds : ∀ {t : Ty}, t.some_ = true → t.eqok = true → ∃ l, t.kds = some l := by
  intro t
  induction t with
  | sum a b iha ihb =>
    intro h1 h2
    obtain ⟨h3, h4, h5, h6, _⟩ := Ty.sumok h2
    obtain ⟨l, e⟩ := iha h3 h5
    obtain ⟨l', e'⟩ := ihb h4 h6
    exact ⟨l ++ l', by show (match a.kds, b.kds with | some l, some l' => some (l ++ l') | _, _ => none) = _; rw [e, e']⟩
  | int => intro _ _; exact ⟨_, rfl⟩
  | bool => intro _ _; exact ⟨_, rfl⟩
  | str => intro _ _; exact ⟨_, rfl⟩
  | tup _ _ => intro _ _; exact ⟨_, rfl⟩
  | vtup _ _ => intro _ _; exact ⟨_, rfl⟩
  | hl _ _ => intro _ _; exact ⟨_, rfl⟩
  | list _ _ => intro _ _; exact ⟨_, rfl⟩
  | ins _ _ _ _ => intro _ h; cases h
  | dicN _ _ _ _ _ _ => intro _ h; cases h
  | dic _ _ _ _ => intro _ h; cases h
  | _ => intro h; cases h
theorem none_eq {A : Around} {u : Value} {w : V} (hu : A.units < cLine) (I : Inv X pins σ H s) (hs : Same F H) {t : Ty} {x : t.den} (h1 : t.some_ = true) (h2 : t.eqok = true) (r : rl X.K mg t x [w] F) (ru : RelV w u) :
    SeqAt.EqAt A s .none u false ∧ SeqAt.EqAt A s u .none false := by
  obtain ⟨l, e⟩ := eqok_kds h1 h2
  obtain ⟨k, _, q⟩ := kw_of I hs e r
  exact none_kw hu q ru
theorem eqL_all {α : Type} {A : Around} {f : α → α → Bool} {R : α → V → Prop} (h : ∀ x y v w u u', R x v → R y w → RelV v u → RelV w u' → SeqAt.EqAt A s u u' (f x y)) :
    ∀ {xs ys : List α} {vs ws : List V} {us us' : List Value}, all2 R xs vs → all2 R ys ws → Vals vs us → Vals ws us' → vs.length = ws.length → EqL A s us us' (lbeq f xs ys)
  | [], [], [], [], _, _, _, _, .nil, .nil, _ => ⟨fun _ => true, rfl, fun j u w e => by simp at e, rfl⟩
  | _ :: _, _ :: _, _ :: _, _ :: _, _, _, ⟨a, b⟩, ⟨c, d⟩, .cons p q, .cons p' q', hl => (EqL.single (h _ _ _ _ _ _ a c p p')).one |> fun z => EqL.cons z (eqL_all h b d q q' (Nat.succ.inj hl))
  | [], _ :: _, [], _ :: _, _, _, _, _, _, _, hl => by cases hl
  | _ :: _, [], _ :: _, [], _, _, _, _, _, _, hl => by cases hl
  | [], _, _ :: _, _, _, _, z, _, _, _, _ => z.elim
  | _ :: _, _, [], _, _, _, z, _, _, _, _ => z.elim
  | _, [], _, _ :: _, _, _, _, z, _, _, _ => z.elim
  | _, _ :: _, _, [], _, _, _, z, _, _, _ => z.elim
theorem eqL_pts {α : Type} {A : Around} {f : α → α → Bool} {R : α → V → Prop} (h : ∀ x y v w u u', R x v → R y w → RelV v u → RelV w u' → SeqAt.EqAt A s u u' (f x y)) :
    ∀ {xs ys : List α} {vs ws : List V} {us us' : List Value}, all2 R xs vs → all2 R ys ws → Vals vs us → Vals ws us' → ∃ e : Nat → Bool, ∀ j u w, us[j]? = some u → us'[j]? = some w → SeqAt.EqAt A s u w (e j)
  | [], _, [], _, _, _, _, _, .nil, _ => ⟨fun _ => true, fun j u w e => by simp at e⟩
  | _, [], _, [], _, _, _, _, _, .nil => ⟨fun _ => true, fun j u w _ e => by simp at e⟩
  | x :: _, y :: _, _ :: _, _ :: _, _, _, ⟨a, b⟩, ⟨c, d⟩, .cons p q, .cons p' q' => by
    obtain ⟨e, he⟩ := eqL_pts h b d q q'
    refine ⟨fun j => match j with | 0 => f x y | j + 1 => e j, fun j u w e1 e2 => ?_⟩
    cases j with
    | zero => simp at e1 e2; subst e1; subst e2; exact h _ _ _ _ _ _ a c p p'
    | succ j => exact he j u w (by simpa using e1) (by simpa using e2)
  | [], _, _ :: _, _, _, _, z, _, _, _ => z.elim
  | _ :: _, _, [], _, _, _, z, _, _, _ => z.elim
  | _, [], _, _ :: _, _, _, _, z, _, _ => z.elim
  | _, _ :: _, _, [], _, _, _, z, _, _ => z.elim
theorem lbeq_len {α : Type} {f : α → α → Bool} : ∀ {xs ys : List α}, xs.length ≠ ys.length → lbeq f xs ys = false
  | [], [], h => absurd rfl h
  | [], _ :: _, _ => rfl
  | _ :: _, [], _ => rfl
  | x :: xs, y :: ys, h => by
    show (f x y && lbeq f xs ys) = false
    rw [lbeq_len fun z => h (congrArg (· + 1) z), Bool.and_false]
theorem eq_of_rc {A : Around} {a b : Addr} {c : Bool} (I : Inv X pins σ H s) (h : SeqAt.RcAt A s (.ref a) (.ref b) c) (hc : a = b → c = true) : SeqAt.EqAt A s (.ref a) (.ref b) c := by
  by_cases e : a = b
  · rw [hc e]; subst e; exact .same _
  · exact .of_refs e h
theorem eqL_ty (I : Inv X pins σ H s) (hs : Same F H) : ∀ (t : Ty), t.eqok = true → ∀ (A : Around), A.units + t.depth < cLine → ∀ (x y : t.den) (vs ws : List V), rl X.K mg t x vs F → rl X.K mg t y ws F →
    ∀ us us', Vals vs us → Vals ws us' → EqL A s us us' (t.beq x y) := by
  intro t
  induction t with
  | int =>
    intro _ A _ x y vs ws p q us us' r r'
    cases (show vs = _ from p); cases (show ws = _ from q)
    obtain ⟨u, rfl, t, rfl⟩ := Vals.one r
    obtain ⟨u', rfl, t', rfl⟩ := Vals.one r'
    exact EqL.single (.int_int _ _ _ _)
  | bool =>
    intro _ A _ x y vs ws p q us us' r r'
    cases (show vs = _ from p); cases (show ws = _ from q)
    obtain ⟨u, rfl, h1⟩ := Vals.one r
    obtain ⟨u', rfl, h2⟩ := Vals.one r'
    cases h1; cases h2
    exact EqL.single (.bool_bool _ _)
  | str =>
    intro _ A _ x y vs ws p q us us' r r'
    cases (show vs = _ from p); cases (show ws = _ from q)
    obtain ⟨u, rfl, t, rfl⟩ := Vals.one r
    obtain ⟨u', rfl, t', rfl⟩ := Vals.one r'
    exact EqL.single (.str_str _ _ _ _)
  | non =>
    intro _ A _ x y vs ws p q us us' r r'
    cases (show vs = _ from p); cases (show ws = _ from q)
    obtain ⟨u, rfl, h1⟩ := Vals.one r
    obtain ⟨u', rfl, h2⟩ := Vals.one r'
    cases h1; cases h2
    exact EqL.single (.same _)
  | opt t ih =>
    intro h A hu x y vs ws p q us us' r r'
    have h' := (Bool.and_eq_true _ _).mp (show (t.some_ && t.eqok) = true from h)
    have hu' : A.units < cLine := Nat.lt_of_le_of_lt (Nat.le_add_right _ _) hu
    cases x with
    | none =>
      cases (show vs = _ from p)
      obtain ⟨u, rfl, h1⟩ := Vals.one r
      cases h1
      cases y with
      | none =>
        cases (show ws = _ from q)
        obtain ⟨u', rfl, h2⟩ := Vals.one r'
        cases h2
        exact EqL.single (.same _)
      | some b =>
        obtain ⟨w, rfl⟩ := rl_one h'.1 q.2
        obtain ⟨u', rfl, h2⟩ := Vals.one r'
        exact EqL.single (none_eq hu' I hs h'.1 h'.2 q.2 h2).1
    | some a =>
      cases y with
      | none =>
        cases (show ws = _ from q)
        obtain ⟨u', rfl, h2⟩ := Vals.one r'
        cases h2
        obtain ⟨w, rfl⟩ := rl_one h'.1 p.2
        obtain ⟨u, rfl, h1⟩ := Vals.one r
        exact EqL.single (none_eq hu' I hs h'.1 h'.2 p.2 h1).2
      | some b => exact ih h'.2 A hu a b vs ws p.2 q.2 us us' r r'
  | tup fs ih =>
    intro h A hu x y vs ws p q us us' r r'
    have hp := p
    have hq := q
    obtain ⟨a, zs, rfl, s1, r1⟩ := p
    obtain ⟨b, zs', rfl, s2, r2⟩ := q
    obtain ⟨u, rfl, h1⟩ := Vals.one r
    obtain ⟨u', rfl, h2⟩ := Vals.one r'
    cases h1; cases h2
    have hu' : A.units + fs.depth + 1 < cLine := hu
    have go : ∀ us us', Vals zs us → Vals zs' us' → EqL A.in1 s us us' (fs.beq x y) := fun us us' v v' => ih h A.in1 (by show A.units + 1 + fs.depth < cLine; omega) x y zs zs' r1 r2 us us' v v'
    refine EqL.single (eq_of_rc I (rc_tuples (by omega) I (sqT_same hs s1) (sqT_same hs s2) (fun _ => go) (fun hn => ?_) fun us us' v v' => ?_) fun e => ?_)
    · obtain ⟨its, v1, _, _⟩ := I.tuple (sqT_same hs s1)
      obtain ⟨its', v2, _, _⟩ := I.tuple (sqT_same hs s2)
      obtain ⟨_, e1, _⟩ := go its its' v1 v2
      exact absurd (by rw [v1.length, v2.length]; exact e1) hn
    · obtain ⟨e, _, e2, _⟩ := go us us' v v'
      exact ⟨e, e2⟩
    · subst e
      exact (beq_iff _ h x y).mpr (rl_inj I hs (.tup fs) h x y _ hp hq)
  | vtup t ih =>
    intro h A hu x y vs ws p q us us' r r'
    have hp := p
    have hq := q
    obtain ⟨a, zs, rfl, s1, r1⟩ := p
    obtain ⟨b, zs', rfl, s2, r2⟩ := q
    obtain ⟨u, rfl, h1⟩ := Vals.one r
    obtain ⟨u', rfl, h2⟩ := Vals.one r'
    cases h1; cases h2
    have hu' : A.units + t.depth + 1 < cLine := hu
    have pt : ∀ x y v w u u', rl X.K mg t x [v] F → rl X.K mg t y [w] F → RelV v u → RelV w u' → SeqAt.EqAt A.in1 s u u' (t.beq x y) := fun x y v w u u' a b c d =>
      (ih h A.in1 (by show A.units + 1 + t.depth < cLine; omega) x y [v] [w] a b [u] [u'] (.cons c .nil) (.cons d .nil)).one
    refine EqL.single (eq_of_rc I (rc_tuples (by omega) I (sqT_same hs s1) (sqT_same hs s2) (fun hl us us' v v' => eqL_all (f := t.beq) pt r1 r2 v v' hl) (fun hn => lbeq_len (by rw [r1.len, r2.len]; exact hn)) fun us us' v v' => eqL_pts (f := t.beq) pt r1 r2 v v') fun e => ?_)
    subst e
    exact (beq_iff (.vtup t) h x y).mpr (rl_inj I hs (.vtup t) h x y _ hp hq)
  | hl fs ih =>
    intro h A hu x y vs ws p q us us' r r'
    have hp := p
    have hq := q
    obtain ⟨a, zs, rfl, s1, r1⟩ := p
    obtain ⟨b, zs', rfl, s2, r2⟩ := q
    obtain ⟨u, rfl, h1⟩ := Vals.one r
    obtain ⟨u', rfl, h2⟩ := Vals.one r'
    cases h1; cases h2
    have hu' : A.units + fs.depth + 1 < cLine := hu
    have go : ∀ us us', Vals zs us → Vals zs' us' → EqL A.in1 s us us' (fs.beq x y) := fun us us' v v' => ih h A.in1 (by show A.units + 1 + fs.depth < cLine; omega) x y zs zs' r1 r2 us us' v v'
    refine EqL.single (eq_of_rc I (rc_lists (by omega) I (SqL.of (hs _ _ s1)) (SqL.of (hs _ _ s2)) (fun _ => go) (fun hn => ?_)) fun e => ?_)
    · obtain ⟨its, v1, _, _⟩ := I.list (SqL.of (hs _ _ s1))
      obtain ⟨its', v2, _, _⟩ := I.list (SqL.of (hs _ _ s2))
      obtain ⟨_, e1, _⟩ := go its its' v1 v2
      exact absurd (by rw [v1.length, v2.length]; exact e1) hn
    · subst e
      exact (beq_iff _ h x y).mpr (rl_inj I hs (.hl fs) h x y _ hp hq)
  | list t ih =>
    intro h A hu x y vs ws p q us us' r r'
    have hp := p
    have hq := q
    obtain ⟨a, zs, rfl, s1, r1⟩ := p
    obtain ⟨b, zs', rfl, s2, r2⟩ := q
    obtain ⟨u, rfl, h1⟩ := Vals.one r
    obtain ⟨u', rfl, h2⟩ := Vals.one r'
    cases h1; cases h2
    have hu' : A.units + t.depth + 1 < cLine := hu
    have pt : ∀ x y v w u u', rl X.K mg t x [v] F → rl X.K mg t y [w] F → RelV v u → RelV w u' → SeqAt.EqAt A.in1 s u u' (t.beq x y) := fun x y v w u u' a b c d =>
      (ih h A.in1 (by show A.units + 1 + t.depth < cLine; omega) x y [v] [w] a b [u] [u'] (.cons c .nil) (.cons d .nil)).one
    refine EqL.single (eq_of_rc I (rc_lists (by omega) I (SqL.of (hs _ _ s1)) (SqL.of (hs _ _ s2)) (fun hl us us' v v' => eqL_all (f := t.beq) pt r1 r2 v v' hl) (fun hn => lbeq_len (by rw [r1.len, r2.len]; exact hn))) fun e => ?_)
    subst e
    exact (beq_iff (.list t) h x y).mpr (rl_inj I hs (.list t) h x y _ hp hq)
  | pr a b iha ihb =>
    intro h A hu x y vs ws p q us us' r r'
    have h' := (Bool.and_eq_true _ _).mp (show (a.eqok && b.eqok) = true from h)
    have hu' : A.units + (a.depth + b.depth) < cLine := hu
    obtain ⟨v, r1, rfl, p1, p2⟩ := p
    obtain ⟨w, r2, rfl, q1, q2⟩ := q
    cases r with
    | cons c d =>
      cases r' with
      | cons c' d' =>
        exact EqL.cons (iha h'.1 A (by omega) x.1 y.1 [v] [w] p1 q1 _ _ (.cons c .nil) (.cons c' .nil)).one (ihb h'.2 A (by omega) x.2 y.2 r1 r2 p2 q2 _ _ d d')
  | nl =>
    intro _ A _ x y vs ws p q us us' r r'
    cases (show vs = _ from p); cases (show ws = _ from q)
    cases r; cases r'
    exact ⟨fun _ => true, rfl, fun j u w e => by simp at e, rfl⟩
  | scr => intro h; cases h
  | tpl => intro h; cases h
  | exn => intro h; cases h
  | sum a b iha ihb =>
    intro h A hu x y vs ws p q us us' r r'
    obtain ⟨h3, h4, h1, h2, h5⟩ := Ty.sumok h
    have hu' : A.units + (a.depth + b.depth) < cLine := hu
    cases x with
    | inl x => cases y with
      | inl y => exact iha h1 A (by omega) x y vs ws p q us us' r r'
      | inr y =>
        obtain ⟨v, rfl⟩ := rl_one h3 p
        obtain ⟨w, rfl⟩ := rl_one h4 q
        obtain ⟨u, rfl, r1⟩ := Vals.one r
        obtain ⟨u', rfl, r2⟩ := Vals.one r'
        obtain ⟨k, k', k1, k2, kd⟩ := dis_kw I hs h5 p q
        exact EqL.single (kw_ne (by omega) k1 k2 kd r1 r2)
    | inr x => cases y with
      | inl y =>
        obtain ⟨v, rfl⟩ := rl_one h4 p
        obtain ⟨w, rfl⟩ := rl_one h3 q
        obtain ⟨u, rfl, r1⟩ := Vals.one r
        obtain ⟨u', rfl, r2⟩ := Vals.one r'
        obtain ⟨k, k', k1, k2, kd⟩ := dis_kw I hs h5 q p
        exact EqL.single (kw_ne (by omega) k2 k1 (by rw [Kd.dis_comm]; exact kd) r1 r2)
      | inr y => exact ihb h2 A (by omega) x y vs ws p q us us' r r'
  | ins c ns fs => intro h; cases h
  | dicN _ _ _ _ => intro h; cases h
  | dic  _ _ => intro h; cases h
theorem rc_ty (I : Inv X pins σ H s) (hs : Same F H) {t : Ty} (h : t.eqok = true) {A : Around} (hu : A.units + t.depth < cLine) {x y : t.den} {a b : Addr} (p : rl X.K mg t x [.ref a] F) (q : rl X.K mg t y [.ref b] F) : SeqAt.RcAt A s (.ref a) (.ref b) (t.beq x y) := by
  cases t with
  | int => cases (show [V.ref a] = _ from p)
  | bool => cases (show [V.ref a] = _ from p)
  | str => cases (show [V.ref a] = _ from p)
  | non => cases (show [V.ref a] = _ from p)
  | nl => cases (show [V.ref a] = _ from p)
  | scr => cases h
  | tpl => cases h
  | exn => cases h
  | sum t u =>
    obtain ⟨h3, h4, h1, h2, h5⟩ := Ty.sumok h
    have hu' : A.units + (t.depth + u.depth) < cLine := hu
    cases x with
    | inl x => cases y with
      | inl y => exact rc_ty I hs (t := t) h1 (by omega) p q
      | inr y =>
        obtain ⟨k, k', k1, k2, kd⟩ := dis_kw I hs h5 p q
        cases k1 <;> cases k2 <;> first | exact absurd kd (by decide) | exact .list_tuple (by assumption) (by assumption) (by omega) | exact .tuple_list (by assumption) (by assumption) (by omega)
    | inr x => cases y with
      | inl y =>
        obtain ⟨k, k', k1, k2, kd⟩ := dis_kw I hs h5 q p
        cases k1 <;> cases k2 <;> first | exact absurd kd (by decide) | exact .list_tuple (by assumption) (by assumption) (by omega) | exact .tuple_list (by assumption) (by assumption) (by omega)
      | inr y => exact rc_ty I hs (t := u) h2 (by omega) p q
  | ins _ _ _ => cases h
  | dicN _ _ _ _ => cases h
  | dic _ _ => cases h
  | opt t =>
    have h' := (Bool.and_eq_true _ _).mp (show (t.some_ && t.eqok) = true from h)
    cases x with
    | none => cases (show [V.ref a] = _ from p)
    | some x =>
      cases y with
      | none => cases (show [V.ref b] = _ from q)
      | some y => exact rc_ty I hs (t := t) h'.2 hu p.2 q.2
  | pr t u =>
    obtain ⟨v, r, e1, p1, p2⟩ := p
    obtain ⟨w, r', e2, q1, q2⟩ := q
    cases e1; cases e2
    have h' := (Bool.and_eq_true _ _).mp (show (t.eqok && u.eqok) = true from h)
    have hu' : A.units + (t.depth + u.depth) < cLine := hu
    have c1 := rc_ty I hs (t := t) h'.1 (A := A) (by omega) p1 q1
    obtain ⟨e, _, _, e3⟩ := eqL_ty I hs u h'.2 A (by omega) x.2 y.2 [] [] p2 q2 [] [] .nil .nil
    have e4 : u.beq x.2 y.2 = true := e3
    show SeqAt.RcAt A s (.ref a) (.ref b) (t.beq x.1 y.1 && u.beq x.2 y.2)
    rw [e4, Bool.and_true]; exact c1
  | tup fs =>
    obtain ⟨a', zs, e1, s1, r1⟩ := p
    obtain ⟨b', zs', e2, s2, r2⟩ := q
    cases e1; cases e2
    have hu' : A.units + fs.depth + 1 < cLine := hu
    have go : ∀ us us', Vals zs us → Vals zs' us' → EqL A.in1 s us us' (fs.beq x y) := fun us us' v v' => eqL_ty I hs fs h A.in1 (by show A.units + 1 + fs.depth < cLine; omega) x y zs zs' r1 r2 us us' v v'
    refine rc_tuples (by omega) I (sqT_same hs s1) (sqT_same hs s2) (fun _ => go) (fun hn => ?_) fun us us' v v' => ?_
    · obtain ⟨its, v1, _, _⟩ := I.tuple (sqT_same hs s1)
      obtain ⟨its', v2, _, _⟩ := I.tuple (sqT_same hs s2)
      obtain ⟨_, e1, _⟩ := go its its' v1 v2
      exact absurd (by rw [v1.length, v2.length]; exact e1) hn
    · obtain ⟨e, _, e2, _⟩ := go us us' v v'
      exact ⟨e, e2⟩
  | vtup t =>
    obtain ⟨a', zs, e1, s1, r1⟩ := p
    obtain ⟨b', zs', e2, s2, r2⟩ := q
    cases e1; cases e2
    have hu' : A.units + t.depth + 1 < cLine := hu
    have pt : ∀ x y v w u u', rl X.K mg t x [v] F → rl X.K mg t y [w] F → RelV v u → RelV w u' → SeqAt.EqAt A.in1 s u u' (t.beq x y) := fun x y v w u u' a b c d =>
      (eqL_ty I hs t h A.in1 (by show A.units + 1 + t.depth < cLine; omega) x y [v] [w] a b [u] [u'] (.cons c .nil) (.cons d .nil)).one
    exact rc_tuples (by omega) I (sqT_same hs s1) (sqT_same hs s2) (fun hl us us' v v' => eqL_all (f := t.beq) pt r1 r2 v v' hl) (fun hn => lbeq_len (by rw [r1.len, r2.len]; exact hn)) fun us us' v v' => eqL_pts (f := t.beq) pt r1 r2 v v'
  | hl fs =>
    obtain ⟨a', zs, e1, s1, r1⟩ := p
    obtain ⟨b', zs', e2, s2, r2⟩ := q
    cases e1; cases e2
    have hu' : A.units + fs.depth + 1 < cLine := hu
    have go : ∀ us us', Vals zs us → Vals zs' us' → EqL A.in1 s us us' (fs.beq x y) := fun us us' v v' => eqL_ty I hs fs h A.in1 (by show A.units + 1 + fs.depth < cLine; omega) x y zs zs' r1 r2 us us' v v'
    refine rc_lists (by omega) I (SqL.of (hs _ _ s1)) (SqL.of (hs _ _ s2)) (fun _ => go) (fun hn => ?_)
    obtain ⟨its, v1, _, _⟩ := I.list (SqL.of (hs _ _ s1))
    obtain ⟨its', v2, _, _⟩ := I.list (SqL.of (hs _ _ s2))
    obtain ⟨_, e1, _⟩ := go its its' v1 v2
    exact absurd (by rw [v1.length, v2.length]; exact e1) hn
  | list t =>
    obtain ⟨a', zs, e1, s1, r1⟩ := p
    obtain ⟨b', zs', e2, s2, r2⟩ := q
    cases e1; cases e2
    have hu' : A.units + t.depth + 1 < cLine := hu
    have pt : ∀ x y v w u u', rl X.K mg t x [v] F → rl X.K mg t y [w] F → RelV v u → RelV w u' → SeqAt.EqAt A.in1 s u u' (t.beq x y) := fun x y v w u u' a b c d =>
      (eqL_ty I hs t h A.in1 (by show A.units + 1 + t.depth < cLine; omega) x y [v] [w] a b [u] [u'] (.cons c .nil) (.cons d .nil)).one
    exact rc_lists (by omega) I (SqL.of (hs _ _ s1)) (SqL.of (hs _ _ s2)) (fun hl us us' v v' => eqL_all (f := t.beq) pt r1 r2 v v' hl) (fun hn => lbeq_len (by rw [r1.len, r2.len]; exact hn))
end
end Gm
set_option Elab.async false
set_option linter.all false
set_option maxRecDepth 100000
set_option maxHeartbeats 4000000
namespace Gm
open PySem PySem.Spec L2
section
variable {X : Cx} {pins : List (Addr × Obj)} {σ : L2.St} {F H : Hp} {s : Shared} {mg : Str → Option Value}
theorem rcn_lists {A : Around} {a b : Addr} {ws zs : List V} {c : Bool} (hu : A.units < cLine) (I : Inv X pins σ H s) (h1 : SqL X.K H a ws) (h2 : SqL X.K H b zs)
    (h : ws.length = zs.length → ∀ us us', Vals ws us → Vals zs us' → EqL A.in1 s us us' c) (hn : ws.length ≠ zs.length → c = false) : SeqAt.RcNeAt A s (.ref a) (.ref b) (!c) := by
  obtain ⟨its, r1, p1, z1⟩ := I.list h1
  obtain ⟨its', r2, p2, z2⟩ := I.list h2
  by_cases hl : ws.length = zs.length
  · obtain ⟨e, e1, e2, e3⟩ := h hl its its' r1 r2
    rw [e3]
    have := SeqAt.RcNeAt.lists (e := e) p1.isList p2.isList (by simpa using e1) hu fun j h1 h2 => e2 j _ _ (by simp at h1; simp [h1]) (by simp at h2; simp [h2])
    simpa using this
  · rw [hn hl]
    refine SeqAt.RcNeAt.lists_lengths p1.isList p2.isList ?_ hu
    rw [bne_iff_ne]
    simp only [List.size_toArray]
    rw [← r1.length, ← r2.length]; exact hl
theorem rcn_tuples {A : Around} {a b : Addr} {ws zs : List V} {c : Bool} (hu : A.units < cLine) (I : Inv X pins σ H s) (h1 : SqT X.K H a ws) (h2 : SqT X.K H b zs)
    (h : ws.length = zs.length → ∀ us us', Vals ws us → Vals zs us' → EqL A.in1 s us us' c) (hn : ws.length ≠ zs.length → c = false)
    (hall : ∀ us us', Vals ws us → Vals zs us' → ∃ e : Nat → Bool, ∀ j u w, us[j]? = some u → us'[j]? = some w → SeqAt.EqAt A.in1 s u w (e j)) : SeqAt.RcNeAt A s (.ref a) (.ref b) (!c) := by
  obtain ⟨its, r1, p1, z1⟩ := I.tuple h1
  obtain ⟨its', r2, p2, z2⟩ := I.tuple h2
  by_cases hl : ws.length = zs.length
  · obtain ⟨e, e1, e2, e3⟩ := h hl its its' r1 r2
    have := SeqAt.RcNeAt.tuples (e := e) (show s.heap.IsTuple a its.toArray from p1) (show s.heap.IsTuple b its'.toArray from p2) hu fun j h1 h2 => e2 j _ _ (by simp at h1; simp [h1]) (by simp at h2; simp [h2])
    rw [e3]
    simpa [e1] using this
  · obtain ⟨e, he⟩ := hall its its' r1 r2
    have := SeqAt.RcNeAt.tuples (e := e) (show s.heap.IsTuple a its.toArray from p1) (show s.heap.IsTuple b its'.toArray from p2) hu fun j h1 h2 => he j _ _ (by simp at h1; simp [h1]) (by simp at h2; simp [h2])
    rw [hn hl]
    have hl' : its.length ≠ its'.length := by rw [← r1.length, ← r2.length]; exact hl
    simp only [List.size_toArray] at this
    rw [show (its.length == its'.length) = false from by simp [hl'], Bool.and_false] at this
    exact this
theorem rcn_ty (I : Inv X pins σ H s) (hs : Same F H) {t : Ty} (h : t.eqok = true) {A : Around} (hu : A.units + t.depth < cLine) {x y : t.den} {a b : Addr} (p : rl X.K mg t x [.ref a] F) (q : rl X.K mg t y [.ref b] F) : SeqAt.RcNeAt A s (.ref a) (.ref b) (!t.beq x y) := by
  cases t with
  | int => cases (show [V.ref a] = _ from p)
  | bool => cases (show [V.ref a] = _ from p)
  | str => cases (show [V.ref a] = _ from p)
  | non => cases (show [V.ref a] = _ from p)
  | nl => cases (show [V.ref a] = _ from p)
  | scr => cases h
  | tpl => cases h
  | exn => cases h
  | sum t u =>
    obtain ⟨h3, h4, h1, h2, h5⟩ := Ty.sumok h
    have hu' : A.units + (t.depth + u.depth) < cLine := hu
    cases x with
    | inl x => cases y with
      | inl y => exact rcn_ty I hs (t := t) h1 (by omega) p q
      | inr y =>
        obtain ⟨k, k', k1, k2, kd⟩ := dis_kw I hs h5 p q
        cases k1 <;> cases k2 <;> first | exact absurd kd (by decide) | exact .list_tuple (by assumption) (by assumption) (by omega) | exact .tuple_list (by assumption) (by assumption) (by omega)
    | inr x => cases y with
      | inl y =>
        obtain ⟨k, k', k1, k2, kd⟩ := dis_kw I hs h5 q p
        cases k1 <;> cases k2 <;> first | exact absurd kd (by decide) | exact .list_tuple (by assumption) (by assumption) (by omega) | exact .tuple_list (by assumption) (by assumption) (by omega)
      | inr y => exact rcn_ty I hs (t := u) h2 (by omega) p q
  | ins _ _ _ => cases h
  | dicN _ _ _ _ => cases h
  | dic _ _ => cases h
  | opt t =>
    have h' := (Bool.and_eq_true _ _).mp (show (t.some_ && t.eqok) = true from h)
    cases x with
    | none => cases (show [V.ref a] = _ from p)
    | some x =>
      cases y with
      | none => cases (show [V.ref b] = _ from q)
      | some y => exact rcn_ty I hs (t := t) h'.2 hu p.2 q.2
  | pr t u =>
    obtain ⟨v, r, e1, p1, p2⟩ := p
    obtain ⟨w, r', e2, q1, q2⟩ := q
    cases e1; cases e2
    have h' := (Bool.and_eq_true _ _).mp (show (t.eqok && u.eqok) = true from h)
    have hu' : A.units + (t.depth + u.depth) < cLine := hu
    have c1 := rcn_ty I hs (t := t) h'.1 (A := A) (by omega) p1 q1
    obtain ⟨e, _, _, e3⟩ := eqL_ty I hs u h'.2 A (by omega) x.2 y.2 [] [] p2 q2 [] [] .nil .nil
    have e4 : u.beq x.2 y.2 = true := e3
    show SeqAt.RcNeAt A s (.ref a) (.ref b) (!(t.beq x.1 y.1 && u.beq x.2 y.2))
    rw [e4, Bool.and_true]; exact c1
  | tup fs =>
    obtain ⟨a', zs, e1, s1, r1⟩ := p
    obtain ⟨b', zs', e2, s2, r2⟩ := q
    cases e1; cases e2
    have hu' : A.units + fs.depth + 1 < cLine := hu
    have go : ∀ us us', Vals zs us → Vals zs' us' → EqL A.in1 s us us' (fs.beq x y) := fun us us' v v' => eqL_ty I hs fs h A.in1 (by show A.units + 1 + fs.depth < cLine; omega) x y zs zs' r1 r2 us us' v v'
    refine rcn_tuples (by omega) I (sqT_same hs s1) (sqT_same hs s2) (fun _ => go) (fun hn => ?_) fun us us' v v' => ?_
    · obtain ⟨its, v1, _, _⟩ := I.tuple (sqT_same hs s1)
      obtain ⟨its', v2, _, _⟩ := I.tuple (sqT_same hs s2)
      obtain ⟨_, e1, _⟩ := go its its' v1 v2
      exact absurd (by rw [v1.length, v2.length]; exact e1) hn
    · obtain ⟨e, _, e2, _⟩ := go us us' v v'
      exact ⟨e, e2⟩
  | vtup t =>
    obtain ⟨a', zs, e1, s1, r1⟩ := p
    obtain ⟨b', zs', e2, s2, r2⟩ := q
    cases e1; cases e2
    have hu' : A.units + t.depth + 1 < cLine := hu
    have pt : ∀ x y v w u u', rl X.K mg t x [v] F → rl X.K mg t y [w] F → RelV v u → RelV w u' → SeqAt.EqAt A.in1 s u u' (t.beq x y) := fun x y v w u u' a b c d =>
      (eqL_ty I hs t h A.in1 (by show A.units + 1 + t.depth < cLine; omega) x y [v] [w] a b [u] [u'] (.cons c .nil) (.cons d .nil)).one
    exact rcn_tuples (by omega) I (sqT_same hs s1) (sqT_same hs s2) (fun hl us us' v v' => eqL_all (f := t.beq) pt r1 r2 v v' hl) (fun hn => lbeq_len (by rw [r1.len, r2.len]; exact hn)) fun us us' v v' => eqL_pts (f := t.beq) pt r1 r2 v v'
  | hl fs =>
    obtain ⟨a', zs, e1, s1, r1⟩ := p
    obtain ⟨b', zs', e2, s2, r2⟩ := q
    cases e1; cases e2
    have hu' : A.units + fs.depth + 1 < cLine := hu
    have go : ∀ us us', Vals zs us → Vals zs' us' → EqL A.in1 s us us' (fs.beq x y) := fun us us' v v' => eqL_ty I hs fs h A.in1 (by show A.units + 1 + fs.depth < cLine; omega) x y zs zs' r1 r2 us us' v v'
    refine rcn_lists (by omega) I (SqL.of (hs _ _ s1)) (SqL.of (hs _ _ s2)) (fun _ => go) (fun hn => ?_)
    obtain ⟨its, v1, _, _⟩ := I.list (SqL.of (hs _ _ s1))
    obtain ⟨its', v2, _, _⟩ := I.list (SqL.of (hs _ _ s2))
    obtain ⟨_, e1, _⟩ := go its its' v1 v2
    exact absurd (by rw [v1.length, v2.length]; exact e1) hn
  | list t =>
    obtain ⟨a', zs, e1, s1, r1⟩ := p
    obtain ⟨b', zs', e2, s2, r2⟩ := q
    cases e1; cases e2
    have hu' : A.units + t.depth + 1 < cLine := hu
    have pt : ∀ x y v w u u', rl X.K mg t x [v] F → rl X.K mg t y [w] F → RelV v u → RelV w u' → SeqAt.EqAt A.in1 s u u' (t.beq x y) := fun x y v w u u' a b c d =>
      (eqL_ty I hs t h A.in1 (by show A.units + 1 + t.depth < cLine; omega) x y [v] [w] a b [u] [u'] (.cons c .nil) (.cons d .nil)).one
    exact rcn_lists (by omega) I (SqL.of (hs _ _ s1)) (SqL.of (hs _ _ s2)) (fun hl us us' v v' => eqL_all (f := t.beq) pt r1 r2 v v' hl) (fun hn => lbeq_len (by rw [r1.len, r2.len]; exact hn))
end

/-! ## comparisons -/
/-- == of things of one code; depth bounded -/
def Ty.top : Ty → Bool
  | .int => true
  | .bool => true
  | .str => true
  | .non => true
  | .tup fs => fs.eqok
  | .vtup t => t.eqok
  | .hl fs => fs.eqok
  | .list t => t.eqok
  | .opt .int => true
  | .opt .bool => true
  | .opt .str => true
  | _ => false
theorem top_eqok : ∀ {t : Ty}, t.top = true → t.eqok = true
  | .int, _ => rfl
  | .bool, _ => rfl
  | .str, _ => rfl
  | .non, _ => rfl
  | .tup _, h => h
  | .vtup _, h => h
  | .hl _, h => h
  | .list _, h => h
  | .opt .int, _ => rfl
  | .opt .bool, _ => rfl
  | .opt .str, _ => rfl
def rEqT (X : Cx) : R2 := fun v w H Q => ∃ F t x y, Same F H ∧ Ty.top t = true ∧ t.depth ≤ 60 ∧ rl X.K X.mg t x [v] F ∧ rl X.K X.mg t y [w] F ∧ Q (.bl (t.beq x y)) H
def rNeT (X : Cx) : R2 := fun v w H Q => ∃ F t x y, Same F H ∧ Ty.top t = true ∧ t.depth ≤ 60 ∧ rl X.K X.mg t x [v] F ∧ rl X.K X.mg t y [w] F ∧ Q (.bl (!t.beq x y)) H
/-- a scalar, or at an address -/
theorem top_kind {K : PySem.W.Frag} {mg : Str → Option Value} {F : Hp} {t : Ty} (h : t.top = true) : (∀ (x : t.den) v, rl K mg t x [v] F → ∃ a, v = .ref a) ∨
    ∀ (x y : t.den) v w, rl K mg t x [v] F → rl K mg t y [w] F → scal v w = true ∧ t.beq x y = decide (v = w) := by
  cases t with
  | int => exact .inr fun x y v w p q => by cases (List.cons.inj (show [v] = _ from p)).1; cases (List.cons.inj (show [w] = _ from q)).1; exact ⟨rfl, dec_int.symm⟩
  | bool => exact .inr fun x y v w p q => by cases (List.cons.inj (show [v] = _ from p)).1; cases (List.cons.inj (show [w] = _ from q)).1; exact ⟨rfl, dec_bl.symm⟩
  | str => exact .inr fun x y v w p q => by cases (List.cons.inj (show [v] = _ from p)).1; cases (List.cons.inj (show [w] = _ from q)).1; exact ⟨rfl, dec_str.symm⟩
  | non => exact .inr fun x y v w p q => by cases (List.cons.inj (show [v] = _ from p)).1; cases (List.cons.inj (show [w] = _ from q)).1; exact ⟨rfl, by simp [Ty.beq]⟩
  | tup fs => exact .inl fun x v p => by obtain ⟨a, _, e, _⟩ := p; exact ⟨a, (List.cons.inj e).1⟩
  | vtup fs => exact .inl fun x v p => by obtain ⟨a, _, e, _⟩ := p; exact ⟨a, (List.cons.inj e).1⟩
  | hl fs => exact .inl fun x v p => by obtain ⟨a, _, e, _⟩ := p; exact ⟨a, (List.cons.inj e).1⟩
  | list fs => exact .inl fun x v p => by obtain ⟨a, _, e, _⟩ := p; exact ⟨a, (List.cons.inj e).1⟩
  | opt t =>
    cases t with
    | int =>
      refine .inr fun x y v w p q => ?_
      cases x with
      | none => cases y with
        | none => cases (List.cons.inj (show [v] = _ from p)).1; cases (List.cons.inj (show [w] = _ from q)).1; exact ⟨rfl, by simp [Ty.beq]⟩
        | some y => cases (List.cons.inj (show [v] = _ from p)).1; cases (List.cons.inj (show [w] = _ from q.2)).1; exact ⟨rfl, by simp [Ty.beq]⟩
      | some x => cases y with
        | none => cases (List.cons.inj (show [v] = _ from p.2)).1; cases (List.cons.inj (show [w] = _ from q)).1; exact ⟨rfl, by simp [Ty.beq]⟩
        | some y => cases (List.cons.inj (show [v] = _ from p.2)).1; cases (List.cons.inj (show [w] = _ from q.2)).1; exact ⟨rfl, dec_int.symm⟩
    | bool =>
      refine .inr fun x y v w p q => ?_
      cases x with
      | none => cases y with
        | none => cases (List.cons.inj (show [v] = _ from p)).1; cases (List.cons.inj (show [w] = _ from q)).1; exact ⟨rfl, by simp [Ty.beq]⟩
        | some y => cases (List.cons.inj (show [v] = _ from p)).1; cases (List.cons.inj (show [w] = _ from q.2)).1; exact ⟨rfl, by simp [Ty.beq]⟩
      | some x => cases y with
        | none => cases (List.cons.inj (show [v] = _ from p.2)).1; cases (List.cons.inj (show [w] = _ from q)).1; exact ⟨rfl, by simp [Ty.beq]⟩
        | some y => cases (List.cons.inj (show [v] = _ from p.2)).1; cases (List.cons.inj (show [w] = _ from q.2)).1; exact ⟨rfl, dec_bl.symm⟩
    | str =>
      refine .inr fun x y v w p q => ?_
      cases x with
      | none => cases y with
        | none => cases (List.cons.inj (show [v] = _ from p)).1; cases (List.cons.inj (show [w] = _ from q)).1; exact ⟨rfl, by simp [Ty.beq]⟩
        | some y => cases (List.cons.inj (show [v] = _ from p)).1; cases (List.cons.inj (show [w] = _ from q.2)).1; exact ⟨rfl, by simp [Ty.beq]⟩
      | some x => cases y with
        | none => cases (List.cons.inj (show [v] = _ from p.2)).1; cases (List.cons.inj (show [w] = _ from q)).1; exact ⟨rfl, by simp [Ty.beq]⟩
        | some y => cases (List.cons.inj (show [v] = _ from p.2)).1; cases (List.cons.inj (show [w] = _ from q.2)).1; exact ⟨rfl, dec_str.symm⟩
    | _ => cases h
  | _ => cases h
section
variable {X : Cx} {W : WX} {Γ : Ctx} {a b c e : Expr} {pos p p2 : Pos} {t t1 t2 : Ty} {r : Rt}
theorem op_eqT (hu : X.A.units + 64 < cLine) : OpR X (compareOp .Eq) (rEqT X) := by
  intro pins s σ H v w u u' Q I rv rw' h
  obtain ⟨F, t, x, y, hs, ht, hd, p, q, hq⟩ := h
  rcases top_kind (K := X.K) (mg := X.mg) (F := F) ht with k | k
  · obtain ⟨a, rfl⟩ := k x v p
    obtain ⟨b, rfl⟩ := k y w q
    cases rv; cases rw'
    exact rc_ty I hs (top_eqok ht) (by omega) p q X.prog X.w X.xe _ ⟨.bl _, H, I, rfl, hq⟩
  · obtain ⟨k1, k2⟩ := k x y v w p q
    exact op_eq pins s σ H v w u u' Q I rv rw' ⟨k1, by rw [← k2]; exact hq⟩
theorem op_neT (hu : X.A.units + 64 < cLine) : OpR X (compareOp .NotEq) (rNeT X) := by
  intro pins s σ H v w u u' Q I rv rw' h
  obtain ⟨F, t, x, y, hs, ht, hd, p, q, hq⟩ := h
  rcases top_kind (K := X.K) (mg := X.mg) (F := F) ht with k | k
  · obtain ⟨a, rfl⟩ := k x v p
    obtain ⟨b, rfl⟩ := k y w q
    cases rv; cases rw'
    exact rcn_ty I hs (top_eqok ht) (by omega) p q X.prog X.w X.xe _ ⟨.bl _, H, I, rfl, hq⟩
  · obtain ⟨k1, k2⟩ := k x y v w p q
    exact op_ne pins s σ H v w u u' Q I rv rw' ⟨k1, by rw [← k2]; exact hq⟩
theorem pc_op {op : CmpOp} {ta tb : TE} {rR : R2} (ho : OpR X (compareOp op) rR) (ha : PE X a ta) (hb : PE X b tb) : PC X op a b (tOp rR ta tb) :=
  ⟨fun pins s σ H Q I h => bin (R := fun x y H2 => rR x y H2 Q) ha hb I h fun v u s2 x y H2 I2 rx ry q => ho pins s2 σ H2 x y v u Q I2 rx ry q⟩
theorem pc_imp {op : CmpOp} {t t' : TE} (h : PC X op a b t) (i : ∀ σ H Q, t' σ H Q → t σ H Q) : PC X op a b t' := ⟨fun pins s σ H Q I q => h.run pins s σ H Q I (i σ H Q q)⟩
/-- a comparison -/
abbrev EC (X : Cx) (W : WX) (Γ : Ctx) (op : CmpOp) (a b : Expr) (m : Mx Bool) : Prop := PC X op a b (tR X.mg X.K W Γ (.d .bool) m)
theorem e_c2 {op : CmpOp} {m : Mx Bool} (h : EC X W Γ op a b m) (hm : behindInMarks op b = false := by first | exact nomark _ | rfl) : EM X W Γ (.Compare a [op] [b] pos) .bool m := pe_cmp h hm
theorem t_c2 {op : CmpOp} {m : Mx Bool} (h : EC X W Γ op a b m) (hm : behindInMarks op b = false := by first | exact nomark _ | rfl) : ET X W Γ (.Compare a [op] [b] pos) m := pt_imp (pt_cmp h hm) fun σ H Q ⟨F, s, d, p⟩ =>
  ⟨F, s, d, p.mono fun x px v F1 H1 e1 r1 => by cases (List.cons.inj (show [v] = _ from r1)).1; exact ⟨x, rfl, px F1 H1 e1⟩⟩
theorem c_op {op : CmpOp} {m1 : Mx t1.den} {m2 : Mx t2.den} {g : t1.den → t2.den → Option Bool} {rR : R2} (ho : OpR X (compareOp op) rR)
    (hr : ∀ x y z, g x y = some z → ∀ v w F H Q, Same F H → rl X.K X.mg t1 x [v] F → rl X.K X.mg t2 y [w] F → Q (.bl z) H → rR v w H Q)
    (ha : EM X W Γ a t1 m1) (hb : EM X W Γ b t2 m2) : EC X W Γ op a b (m1 >>= fun x => m2 >>= fun y => ofO (g x y)) :=
  pc_imp (pc_op ho ha hb) (two_of (r := .d .bool) fun x y v w F H σ Q s r1 r2 p => by
    cases e : g x y with
    | none => rw [e] at p; exact p.elim
    | some z => rw [e] at p; exact hr x y z e v w F H Q s r1 r2 (p _ F H (Ext.refl s) rfl))
theorem c_eq {m1 m2 : Mx t.den} [d : DecidableEq t.den] (hu : X.A.units + 64 < cLine) (ha : EM X W Γ a t m1) (hb : EM X W Γ b t m2) (ht : t.top = true := by rfl) (hd : t.depth ≤ 60 := by decide) :
    EC X W Γ .Eq a b (m1 >>= fun x => m2 >>= fun y => .ok (decide (x = y))) :=
  c_op (g := fun x y => some (decide (x = y))) (op_eqT hu) (fun x y z e v w F H Q s r1 r2 k => by
    cases e
    exact ⟨F, t, x, y, s, ht, hd, r1, r2, by rw [beq_dec (top_eqok ht)]; exact k⟩) ha hb
theorem c_ne {m1 m2 : Mx t.den} [d : DecidableEq t.den] (hu : X.A.units + 64 < cLine) (ha : EM X W Γ a t m1) (hb : EM X W Γ b t m2) (ht : t.top = true := by rfl) (hd : t.depth ≤ 60 := by decide) :
    EC X W Γ .NotEq a b (m1 >>= fun x => m2 >>= fun y => .ok (!decide (x = y))) :=
  c_op (g := fun x y => some (!decide (x = y))) (op_neT hu) (fun x y z e v w F H Q s r1 r2 k => by
    cases e
    exact ⟨F, t, x, y, s, ht, hd, r1, r2, by rw [beq_dec (top_eqok ht)]; exact k⟩) ha hb
end
end Gm
set_option Elab.async false
set_option linter.all false
set_option maxRecDepth 100000
set_option maxHeartbeats 4000000
namespace Gm
open PySem PySem.Spec L2

section
variable {X : Cx} {W : WX} {Γ : Ctx} {a b c e : Expr} {pos p p2 : Pos} {t t1 t2 : Ty} {r : Rt} {pins : List (Addr × Obj)} {σ : L2.St} {F H : Hp} {s : Shared}

/-! ## whole numbers -/
abbrev K2 (g : Int → Int → Int) : Int → Int → Option Int := fun x y => some (g x y)
theorem r0 {g : Int → Int → V} {t : Ty} {f : Int → Int → t.den} (hg : ∀ x y F, rl X.K X.mg t (f x y) [g x y] F) : ∀ (x y : Int) z, some (f x y) = some z → ∀ v w F H Q, Same F H → rl X.K X.mg .int x [v] F → rl X.K X.mg .int y [w] F →
    (∀ u F' H', Ext F H F' H' → rtr X.K X.mg (.d t) z u H F' H' → Q u H') → rI0 g v w H Q := fun x y z e v w F H Q s r1 r2 k => by
  cases e
  cases (List.cons.inj (show [v] = _ from r1)).1
  cases (List.cons.inj (show [w] = _ from r2)).1
  exact ⟨x, y, rfl, rfl, k _ F H (Ext.refl s) (hg x y F)⟩
theorem rC {C : Int → Int → Prop} [d : ∀ x y, Decidable (C x y)] {g : Int → Int → V} {t : Ty} {f : Int → Int → t.den} (hg : ∀ x y F, rl X.K X.mg t (f x y) [g x y] F) : ∀ (x y : Int) z, (if C x y then some (f x y) else none) = some z → ∀ v w F H Q, Same F H → rl X.K X.mg .int x [v] F → rl X.K X.mg .int y [w] F →
    (∀ u F' H', Ext F H F' H' → rtr X.K X.mg (.d t) z u H F' H' → Q u H') → rI C g v w H Q := fun x y z e v w F H Q s r1 r2 k => by
  by_cases h : C x y
  · rw [if_pos h] at e
    cases e
    cases (List.cons.inj (show [v] = _ from r1)).1
    cases (List.cons.inj (show [w] = _ from r2)).1
    exact ⟨x, y, rfl, rfl, h, k _ F H (Ext.refl s) (hg x y F)⟩
  · rw [if_neg h] at e; cases e
instance (x y : Int) : Decidable (CMul x y) := by unfold CMul; infer_instance
instance (x y : Int) : Decidable (CDiv x y) := by unfold CDiv; infer_instance
instance (x y : Int) : Decidable (CPow x y) := by unfold CPow; infer_instance
def mulO (x y : Int) : Option Int := if CMul x y then some (x * y) else none
def modO (x y : Int) : Option Int := if 0 < y then some (x % y) else none
def divO (x y : Int) : Option Int := if CDiv x y then some (x / y) else none
def powO (x y : Int) : Option Int := if CPow x y then some (x ^ y.toNat) else none
variable {m1 m2 : Mx Int}
theorem e_add (ha : EM X W Γ a .int m1) (hb : EM X W Γ b .int m2) : EM X W Γ (.BinOp a .Add b pos) .int (m1 >>= fun x => m2 >>= fun y => .ok (x + y)) := e_bin (t1 := .int) (t2 := .int) (r := .d .int) (g := fun x y => some (x + y)) op_add (r0 (t := .int) (f := fun x y => x + y) fun _ _ _ => rfl) ha hb
theorem e_sub (ha : EM X W Γ a .int m1) (hb : EM X W Γ b .int m2) : EM X W Γ (.BinOp a .Sub b pos) .int (m1 >>= fun x => m2 >>= fun y => .ok (x - y)) := e_bin (t1 := .int) (t2 := .int) (r := .d .int) (g := fun x y => some (x - y)) op_sub (r0 (t := .int) (f := fun x y => x - y) fun _ _ _ => rfl) ha hb
theorem e_mul (ha : EM X W Γ a .int m1) (hb : EM X W Γ b .int m2) : EM X W Γ (.BinOp a .Mult b pos) .int (m1 >>= fun x => m2 >>= fun y => ofO (mulO x y)) := e_bin (t1 := .int) (t2 := .int) (r := .d .int) (g := mulO) op_mul (rC (t := .int) (f := fun x y => x * y) fun _ _ _ => rfl) ha hb
theorem e_mod (ha : EM X W Γ a .int m1) (hb : EM X W Γ b .int m2) : EM X W Γ (.BinOp a .Mod b pos) .int (m1 >>= fun x => m2 >>= fun y => ofO (modO x y)) := e_bin (t1 := .int) (t2 := .int) (r := .d .int) (g := modO) op_mod (rC (t := .int) (C := fun _ y => 0 < y) (f := fun x y => x % y) fun _ _ _ => rfl) ha hb
theorem e_div (ha : EM X W Γ a .int m1) (hb : EM X W Γ b .int m2) : EM X W Γ (.BinOp a .FloorDiv b pos) .int (m1 >>= fun x => m2 >>= fun y => ofO (divO x y)) := e_bin (t1 := .int) (t2 := .int) (r := .d .int) (g := divO) op_fdiv (rC (t := .int) (f := fun x y => x / y) fun _ _ _ => rfl) ha hb
theorem e_pow (ha : EM X W Γ a .int m1) (hb : EM X W Γ b .int m2) : EM X W Γ (.BinOp a .Pow b pos) .int (m1 >>= fun x => m2 >>= fun y => ofO (powO x y)) := e_bin (t1 := .int) (t2 := .int) (r := .d .int) (g := powO) op_pow (rC (t := .int) (f := fun x y => x ^ y.toNat) fun _ _ _ => rfl) ha hb
theorem c0 {p : Int → Int → Bool} : ∀ (x y : Int) z, some (p x y) = some z → ∀ v w F H Q, Same F H → rl X.K X.mg .int x [v] F → rl X.K X.mg .int y [w] F → Q (.bl z) H → rI0 (fun i j => .bl (p i j)) v w H Q := fun x y z e v w F H Q s r1 r2 k => by
  cases e
  cases (List.cons.inj (show [v] = _ from r1)).1
  cases (List.cons.inj (show [w] = _ from r2)).1
  exact ⟨x, y, rfl, rfl, k⟩
theorem c_lt (ha : EM X W Γ a .int m1) (hb : EM X W Γ b .int m2) : EC X W Γ .Lt a b (m1 >>= fun x => m2 >>= fun y => .ok (decide (x < y))) := c_op (t1 := .int) (t2 := .int) (g := fun x y => some (decide (x < y))) op_lt (c0 (p := fun x y => decide (x < y))) ha hb
theorem c_le (ha : EM X W Γ a .int m1) (hb : EM X W Γ b .int m2) : EC X W Γ .LtE a b (m1 >>= fun x => m2 >>= fun y => .ok (decide (x ≤ y))) := c_op (t1 := .int) (t2 := .int) (g := fun x y => some (decide (x ≤ y))) op_le (c0 (p := fun x y => decide (x ≤ y))) ha hb
theorem c_gt (ha : EM X W Γ a .int m1) (hb : EM X W Γ b .int m2) : EC X W Γ .Gt a b (m1 >>= fun x => m2 >>= fun y => .ok (decide (y < x))) := c_op (t1 := .int) (t2 := .int) (g := fun x y => some (decide (y < x))) op_gt (c0 (p := fun x y => decide (y < x))) ha hb
theorem c_ge (ha : EM X W Γ a .int m1) (hb : EM X W Γ b .int m2) : EC X W Γ .GtE a b (m1 >>= fun x => m2 >>= fun y => .ok (decide (y ≤ x))) := c_op (t1 := .int) (t2 := .int) (g := fun x y => some (decide (y ≤ x))) op_ge (c0 (p := fun x y => decide (y ≤ x))) ha hb
theorem e_neg (ha : EM X W Γ a .int m1) : EM X W Γ (.UnaryOp .USub a pos) .int (m1 >>= fun x => .ok (-x)) := pe_imp (pe_un un_neg ha) (one_of (t1 := .int) (r := .d .int) (k := fun x => .ok (-x)) fun x v F H σ Q s r1 k => by
  cases (List.cons.inj (show [v] = _ from r1)).1
  exact ⟨x, rfl, k _ F H (Ext.refl s) rfl⟩)
/-! ## texts -/
def catO (x y : Str) : Option Str := if x.length + y.length ≤ sizeLine then some (x ++ y) else none
theorem e_cat {m1 m2 : Mx Str} (ha : EM X W Γ a .str m1) (hb : EM X W Γ b .str m2) : EM X W Γ (.BinOp a .Add b pos) .str (m1 >>= fun x => m2 >>= fun y => ofO (catO x y)) := e_bin (t1 := .str) (t2 := .str) (r := .d .str) (g := catO) op_add_str (fun x y z e v w F H Q s r1 r2 k => by
  unfold catO at e
  by_cases h : x.length + y.length ≤ sizeLine
  · rw [if_pos h] at e
    cases e
    cases (List.cons.inj (show [v] = _ from r1)).1
    cases (List.cons.inj (show [w] = _ from r2)).1
    exact ⟨x, y, rfl, rfl, h, k _ F H (Ext.refl s) rfl⟩
  · rw [if_neg h] at e; cases e) ha hb
/-! ## None -/
theorem rl_isnone {K : PySem.W.Frag} {mg : Str → Option Value} {x : Option t.den} {v : V} (r : rl K mg (.opt t) x [v] F) : decide (v = .non) = x.isNone := by
  cases x with
  | none => cases (List.cons.inj (show [v] = _ from r)).1; rfl
  | some y => exact decide_eq_false fun z => r.1 (by rw [z])
theorem c_isN {m : Mx (Option t.den)} {j : Nat} (ha : EM X W Γ a (.opt t) m) : EC X W Γ .Is a (.Constant .none j p) (m >>= fun x => .ok x.isNone) := pc_imp (pc_isN ha) fun σ H Q ⟨F, s, d, p⟩ =>
  ⟨F, s, d, p.bind.mono fun x px v F1 H1 e1 r1 => by show Q (.bl (decide (v = .non))) H1; rw [rl_isnone r1]; exact px _ F1 H1 e1 rfl⟩
theorem c_notN {m : Mx (Option t.den)} {j : Nat} (ha : EM X W Γ a (.opt t) m) : EC X W Γ .IsNot a (.Constant .none j p) (m >>= fun x => .ok x.isSome) := pc_imp (pc_notN ha) fun σ H Q ⟨F, s, d, p⟩ =>
  ⟨F, s, d, p.bind.mono fun x px v F1 H1 e1 r1 => by show Q (.bl (!decide (v = .non))) H1; rw [rl_isnone r1, show (!x.isNone) = x.isSome by cases x <;> rfl]; exact px _ F1 H1 e1 rfl⟩
/-! ## not, and, or as values -/
theorem e_not {m : Mx Bool} (ha : EM X W Γ a .bool m) : EM X W Γ (.UnaryOp .Not a pos) .bool (m >>= fun x => .ok (!x)) := pe_imp (pe_not ha) fun σ H Q ⟨F, s, d, p⟩ =>
  ⟨F, s, d, p.bind.mono fun x px v F1 H1 e1 r1 => by cases (List.cons.inj (show [v] = _ from r1)).1; exact ⟨x, rfl, px _ F1 H1 e1 rfl⟩⟩
theorem e_b1 {m : Mx Bool} {op : BoolOp} (ha : EM X W Γ a .bool m) : EM X W Γ (.BoolOp op [a] pos) .bool m := pe_one ha
theorem e_and {m1 m2 : Mx Bool} {rest : List Expr} (ha : EM X W Γ a .bool m1) (hb : EM X W Γ (.BoolOp .And (b :: rest) pos) .bool m2) : EM X W Γ (.BoolOp .And (a :: b :: rest) pos) .bool (m1 >>= fun x => if x then m2 else .ok false) :=
  pe_imp (pe_and ha hb) fun σ H Q ⟨F, s, d, p⟩ => ⟨F, s, d, p.bind.mono fun x px v F1 H1 e1 r1 => by
    cases (List.cons.inj (show [v] = _ from r1)).1
    refine ⟨x, rfl, ?_⟩
    cases x with
    | true => exact ⟨F1, e1.i, d.mono e1.f, post.ext e1 px fun y py w F2 H2 e2 r2 => py w F2 H2 (e1.trans e2) (rtr_pre (r := .d .bool) e1.h r2)⟩
    | false => exact px _ F1 H1 e1 rfl⟩
theorem e_or {m1 m2 : Mx Bool} {rest : List Expr} (ha : EM X W Γ a .bool m1) (hb : EM X W Γ (.BoolOp .Or (b :: rest) pos) .bool m2) : EM X W Γ (.BoolOp .Or (a :: b :: rest) pos) .bool (m1 >>= fun x => if x then .ok true else m2) :=
  pe_imp (pe_or ha hb) fun σ H Q ⟨F, s, d, p⟩ => ⟨F, s, d, p.bind.mono fun x px v F1 H1 e1 r1 => by
    cases (List.cons.inj (show [v] = _ from r1)).1
    refine ⟨x, rfl, ?_⟩
    cases x with
    | false => exact ⟨F1, e1.i, d.mono e1.f, post.ext e1 px fun y py w F2 H2 e2 r2 => py w F2 H2 (e1.trans e2) (rtr_pre (r := .d .bool) e1.h r2)⟩
    | true => exact px _ F1 H1 e1 rfl⟩
/-! ## tests -/
theorem t_of {m : Mx Bool} (ha : EM X W Γ a .bool m) (he : ∀ whole, isTrue a X.env whole = (do let v ← whole; standAt a.pos; holding [v] (truthy v)) := by intro _; rfl) : ET X W Γ a m := pt_imp (pt_val ha he) fun σ H Q ⟨F, s, d, p⟩ =>
  ⟨F, s, d, p.mono fun x px v F1 H1 e1 r1 => by cases (List.cons.inj (show [v] = _ from r1)).1; exact ⟨x, rfl, px F1 H1 e1⟩⟩
theorem t_not {m : Mx Bool} (ha : ET X W Γ a m) : ET X W Γ (.UnaryOp .Not a pos) (m >>= fun x => .ok (!x)) := pt_imp (pt_not ha) fun σ H Q ⟨F, s, d, p⟩ =>
  ⟨F, s, d, p.bind.mono fun x px F1 H1 e1 => px F1 H1 e1⟩
abbrev EW (X : Cx) (W : WX) (Γ : Ctx) (e : Expr) (m : Mx Bool) : Prop := PW X e (tT X.mg X.K W Γ m)
theorem pw_imp {e : Expr} {t t' : TT} (h : PW X e t) (i : ∀ σ H Q, t' σ H Q → t σ H Q) : PW X e t' := ⟨fun wh pins s σ H Q I q => h.run wh pins s σ H Q I (i σ H Q q)⟩
theorem t_w {m : Mx Bool} (h : EW X W Γ a m) : ET X W Γ a m := PW.pt h
theorem w_and1 {m : Mx Bool} (ha : ET X W Γ a m) : EW X W Γ (.BoolOp .And [a] pos) m := pw_and1 ha
theorem w_or1 {m : Mx Bool} (ha : ET X W Γ a m) : EW X W Γ (.BoolOp .Or [a] pos) m := pw_or1 ha
theorem w_and {m1 m2 : Mx Bool} {rest : List Expr} (ha : ET X W Γ a m1) (hb : EW X W Γ (.BoolOp .And (b :: rest) pos) m2) : EW X W Γ (.BoolOp .And (a :: b :: rest) pos) (m1 >>= fun x => if x then m2 else .ok false) :=
  pw_imp (pw_and ha hb) fun σ H Q ⟨F, s, d, p⟩ => ⟨F, s, d, p.bind.mono fun x px F1 H1 e1 => by
    cases x with
    | true => exact ⟨F1, e1.i, d.mono e1.f, post.ext e1 px fun y py F2 H2 e2 => py F2 H2 (e1.trans e2)⟩
    | false => exact px F1 H1 e1⟩
theorem w_or {m1 m2 : Mx Bool} {rest : List Expr} (ha : ET X W Γ a m1) (hb : EW X W Γ (.BoolOp .Or (b :: rest) pos) m2) : EW X W Γ (.BoolOp .Or (a :: b :: rest) pos) (m1 >>= fun x => if x then .ok true else m2) :=
  pw_imp (pw_or ha hb) fun σ H Q ⟨F, s, d, p⟩ => ⟨F, s, d, p.bind.mono fun x px F1 H1 e1 => by
    cases x with
    | false => exact ⟨F1, e1.i, d.mono e1.f, post.ext e1 px fun y py F2 H2 e2 => py F2 H2 (e1.trans e2)⟩
    | true => exact px F1 H1 e1⟩
/-- a if t else b -/
theorem e_if {c : Expr} {mc : Mx Bool} {m1 m2 : Mx r.den} (hc : ET X W Γ c mc) (ha : ER X W Γ a r m1) (hb : ER X W Γ b r m2) : ER X W Γ (.IfExp c a b pos) r (mc >>= fun x => if x then m1 else m2) :=
  pe_imp (pe_ifExp hc ha hb) fun σ H Q ⟨F, s, d, p⟩ => ⟨F, s, d, p.bind.mono fun x px F1 H1 e1 => by
    cases x with
    | true => exact ⟨F1, e1.i, d.mono e1.f, post.ext e1 px fun y py w F2 H2 e2 r2 => py w F2 H2 (e1.trans e2) (rtr_pre e1.h r2)⟩
    | false => exact ⟨F1, e1.i, d.mono e1.f, post.ext e1 px fun y py w F2 H2 e2 r2 => py w F2 H2 (e1.trans e2) (rtr_pre e1.h r2)⟩⟩
/-! ## subscripts, slices -/
theorem all2_atI {α : Type} {R : α → V → Prop} {xs : List α} {vs : List V} {i : Int} {x : α} (h : all2 R xs vs) (e : atI xs i = some x) : ∃ v, atI vs i = some v ∧ R x v := by
  unfold atI at e ⊢
  rw [h.len] at e
  cases k : ixN vs.length i with
  | none => rw [k] at e; cases e
  | some j =>
    rw [k] at e
    obtain ⟨v, h1, h2⟩ := h.get (show xs[j]? = some x from e)
    exact ⟨v, h1, h2⟩
theorem e_ixL {m1 : Mx (List t.den)} {m2 : Mx Int} (ha : EM X W Γ a (.list t) m1) (hb : EM X W Γ b .int m2) (hs : PlainIx b := by intro _ _; rfl) : EM X W Γ (.Subscript a b pos) t (m1 >>= fun x => m2 >>= fun y => ofO (atI x y)) :=
  e_ix (t1 := .list t) (t2 := .int) (r := .d t) (g := fun x y => atI x y) ix_list hs (fun x y z e v w F H Q s r1 r2 k => by
    obtain ⟨p, ws, e1, sq, r⟩ := r1
    cases (List.cons.inj e1).1
    cases (List.cons.inj (show [w] = _ from r2)).1
    obtain ⟨u, h1, h2⟩ := all2_atI r e
    exact ⟨p, ws, y, u, rfl, rfl, SqL.of (s _ _ sq), h1, k u F H (Ext.refl s) h2⟩) ha hb
theorem e_ixT {m1 : Mx (List t.den)} {m2 : Mx Int} (ha : EM X W Γ a (.vtup t) m1) (hb : EM X W Γ b .int m2) (hs : PlainIx b := by intro _ _; rfl) : EM X W Γ (.Subscript a b pos) t (m1 >>= fun x => m2 >>= fun y => ofO (atI x y)) :=
  e_ix (t1 := .vtup t) (t2 := .int) (r := .d t) (g := fun x y => atI x y) ix_tup hs (fun x y z e v w F H Q s r1 r2 k => by
    obtain ⟨p, ws, e1, sq, r⟩ := r1
    cases (List.cons.inj e1).1
    cases (List.cons.inj (show [w] = _ from r2)).1
    obtain ⟨u, h1, h2⟩ := all2_atI r e
    exact ⟨p, ws, y, u, rfl, rfl, sqT_same s sq, h1, k u F H (Ext.refl s) h2⟩) ha hb
/-- a text's sign -/
def atS (x : Str) (i : Int) : Option Str := if x.length ≤ sizeLine then (atI x.cps.toList i).map fun c => ⟨#[c]⟩ else none
theorem e_ixS {m1 : Mx Str} {m2 : Mx Int} (ha : EM X W Γ a .str m1) (hb : EM X W Γ b .int m2) (hs : PlainIx b := by intro _ _; rfl) : EM X W Γ (.Subscript a b pos) .str (m1 >>= fun x => m2 >>= fun y => ofO (atS x y)) :=
  e_ix (t1 := .str) (t2 := .int) (r := .d .str) (g := fun x y => atS x y) ix_str hs (fun x y z e v w F H Q s r1 r2 k => by
    cases (List.cons.inj (show [v] = _ from r1)).1
    cases (List.cons.inj (show [w] = _ from r2)).1
    unfold atS at e
    by_cases h : x.length ≤ sizeLine
    · rw [if_pos h] at e
      cases q : atI x.cps.toList y with
      | none => rw [q] at e; cases e
      | some c =>
        rw [q] at e
        cases e
        exact ⟨x, y, c, rfl, rfl, h, q, k _ F H (Ext.refl s) rfl⟩
    · rw [if_neg h] at e; cases e) ha hb
end
end Gm
set_option Elab.async false
set_option linter.all false
set_option maxRecDepth 100000
set_option maxHeartbeats 4000000
namespace Gm
open PySem PySem.Spec L2

section
variable {X : Cx} {W : WX} {Γ : Ctx} {a b c e : Expr} {es : List Expr} {pos p p2 cpos apos : Pos} {t t1 t2 : Ty} {r : Rt} {F H : Hp} {x : Str}

/-! ## fields by place -/
def Ty.sing : Ty → Bool
  | .non => true
  | .scr => true
  | .opt t => t.some_
  | .pr _ _ => false
  | .nl => false
  | .sum a b => a.some_ && b.some_
  | _ => true
theorem rl_sing {K : PySem.W.Frag} {mg : Str → Option Value} {t : Ty} {x : t.den} {vs : List V} (h : t.sing = true) (r : rl K mg t x vs F) : ∃ v, vs = [v] := by
  cases t with
  | non => exact ⟨_, r⟩
  | scr => obtain ⟨_, e, _⟩ := r; exact ⟨_, e⟩
  | tpl => obtain ⟨_, _, e, _⟩ := r; exact ⟨_, e⟩
  | exn => exact ⟨_, r.1⟩
  | opt t =>
    cases x with
    | none => exact ⟨_, r⟩
    | some y => exact rl_one h r.2
  | int => exact rl_one (t := .int) rfl r
  | bool => exact rl_one (t := .bool) rfl r
  | str => exact rl_one (t := .str) rfl r
  | tup fs => exact rl_one (t := .tup fs) rfl r
  | vtup fs => exact rl_one (t := .vtup fs) rfl r
  | hl fs => exact rl_one (t := .hl fs) rfl r
  | list fs => exact rl_one (t := .list fs) rfl r
  | ins c ns fs => exact rl_one (t := .ins c ns fs) rfl r
  | dic k t => exact rl_one (t := .dic k t) rfl r
  | dicN P w k t => exact rl_one (t := .dicN P w k t) rfl r
  | pr _ _ => cases h
  | nl => cases h
  | sum a b => exact rl_one (t := .sum a b) h r
inductive Fl : (fs : Ty) → Nat → (t : Ty) → (fs.den → t.den) → Prop
  | hd {a b : Ty} : Fl (.pr a b) 0 a (fun x => x.1)
  | tl {a b t : Ty} {n : Nat} {π : b.den → t.den} (h : Fl b n t π) : Fl (.pr a b) (n + 1) t (fun x => π x.2)
  | last {t : Ty} (h : t.sing = true) : Fl t 0 t (fun x => x)
theorem Fl.at_ {K : PySem.W.Frag} {mg : Str → Option Value} {fs : Ty} {n : Nat} {t : Ty} {π : fs.den → t.den} (h : Fl fs n t π) : ∀ {x : fs.den} {ws : List V}, rl K mg fs x ws F → ∃ v, ws[n]? = some v ∧ rl K mg t (π x) [v] F := by
  induction h with
  | hd => intro x ws q; obtain ⟨v, r, rfl, q1, _⟩ := q; exact ⟨v, rfl, q1⟩
  | tl h ih => intro x ws q; obtain ⟨v, r, rfl, _, q2⟩ := q; obtain ⟨u, h1, h2⟩ := ih q2; exact ⟨u, by simpa using h1, h2⟩
  | last h => intro x ws q; obtain ⟨v, rfl⟩ := rl_sing h q; exact ⟨v, rfl, q⟩
/-- t[n], n written -/
theorem e_fld {fs : Ty} {i : Int} {n : Nat} {π : fs.den → t.den} {j : Nat} {m : Mx fs.den} (ha : EM X W Γ a (.tup fs) m) (hf : Fl fs n t π) (hi : i = (n : Int) := by rfl) (hs : PlainIx (.Constant (.int i) j p) := by intro _ _; rfl) :
    EM X W Γ (.Subscript a (.Constant (.int i) j p) pos) t (m >>= fun x => .ok (π x)) :=
  pe_imp (pe_ix ix_tup ha (pe_int (i := i)) hs) fun σ H Q ⟨F, s, d, q⟩ => ⟨F, s, d, q.bind.mono fun x px v F1 H1 e1 r1 => by
    subst hi
    obtain ⟨p, ws, e2, sq, rr⟩ := r1
    cases (List.cons.inj e2).1
    obtain ⟨u, h1, h2⟩ := hf.at_ rr
    exact ⟨p, ws, (n : Int), u, rfl, rfl, sqT_same e1.i sq, atI_nat h1, px u F1 H1 e1 h2⟩⟩
/-- l[n], n written, of a list of many kinds -/
theorem e_fldL {fs : Ty} {i : Int} {n : Nat} {π : fs.den → t.den} {j : Nat} {m : Mx fs.den} (ha : EM X W Γ a (.hl fs) m) (hf : Fl fs n t π) (hi : i = (n : Int) := by rfl) (hs : PlainIx (.Constant (.int i) j p) := by intro _ _; rfl) :
    EM X W Γ (.Subscript a (.Constant (.int i) j p) pos) t (m >>= fun x => .ok (π x)) :=
  pe_imp (pe_ix ix_list ha (pe_int (i := i)) hs) fun σ H Q ⟨F, s, d, q⟩ => ⟨F, s, d, q.bind.mono fun x px v F1 H1 e1 r1 => by
    subst hi
    obtain ⟨p, ws, e2, sq, rr⟩ := r1
    cases (List.cons.inj e2).1
    obtain ⟨u, h1, h2⟩ := hf.at_ rr
    exact ⟨p, ws, (n : Int), u, rfl, rfl, SqL.of (e1.i _ _ sq), atI_nat h1, px u F1 H1 e1 h2⟩⟩

/-! ## displays -/
def Ty.ar : Ty → Option Nat
  | .pr _ b => b.ar.map (· + 1)
  | .nl => some 0
  | .non => some 1
  | .scr => some 1
  | .tpl => some 1
  | .exn => some 1
  | .opt t => if t.some_ then some 1 else none
  | .sum a b => if a.some_ && b.some_ then some 1 else none
  | .dic _ _ => some 1
  | .dicN _ _ _ _ => some 1
  | .int => some 1
  | .bool => some 1
  | .str => some 1
  | .tup _ => some 1
  | .vtup _ => some 1
  | .hl _ => some 1
  | .list _ => some 1
  | .ins _ _ _ => some 1
theorem rl_ar {K : PySem.W.Frag} {mg : Str → Option Value} : ∀ {t : Ty} {n : Nat} {x : t.den} {vs : List V}, t.ar = some n → rl K mg t x vs F → vs.length = n
  | .pr a b, n, x, vs, h, r => by
    obtain ⟨v, r', rfl, _, q⟩ := r
    have h' : b.ar.map (· + 1) = some n := h
    cases e : b.ar with
    | none => rw [e] at h'; cases h'
    | some k =>
      rw [e] at h'
      have hn : k + 1 = n := Option.some.inj h'
      rw [List.length_cons, rl_ar e q, hn]
  | .nl, _, _, _, h, r => by cases h; rw [show _ = _ from r]; rfl
  | .non, _, _, _, h, r => by cases h; rw [show _ = _ from r]; rfl
  | .scr, _, _, _, h, r => by cases h; obtain ⟨_, e, _⟩ := r; rw [e]; rfl
  | .tpl, _, _, _, h, r => by cases h; obtain ⟨_, _, e, _⟩ := r; rw [e]; rfl
  | .exn, _, _, _, h, r => by cases h; rw [r.1]; rfl
  | .opt t, n, x, vs, h, r => by
    have h' : (if t.some_ then some 1 else none) = some n := h
    by_cases ht : t.some_ = true
    · rw [if_pos ht] at h'
      cases h'
      obtain ⟨v, rfl⟩ := rl_sing (t := .opt t) ht r
      rfl
    · rw [if_neg ht] at h'; cases h'
  | .int, _, _, _, h, r => by cases h; rw [show _ = _ from r]; rfl
  | .bool, _, _, _, h, r => by cases h; rw [show _ = _ from r]; rfl
  | .str, _, _, _, h, r => by cases h; rw [show _ = _ from r]; rfl
  | .tup _, _, _, _, h, r => by cases h; obtain ⟨_, _, e, _⟩ := r; rw [e]; rfl
  | .vtup _, _, _, _, h, r => by cases h; obtain ⟨_, _, e, _⟩ := r; rw [e]; rfl
  | .hl _, _, _, _, h, r => by cases h; obtain ⟨_, _, e, _⟩ := r; rw [e]; rfl
  | .list _, _, _, _, h, r => by cases h; obtain ⟨_, _, e, _⟩ := r; rw [e]; rfl
  | .ins _ _ _, _, _, _, h, r => by cases h; obtain ⟨_, _, _, _, e, _⟩ := r; rw [e]; rfl
  | .dic _ _, _, _, _, h, r => by cases h; obtain ⟨_, _, e, _⟩ := r; rw [e]; rfl
  | .dicN _ _ _ _, _, _, _, h, r => by cases h; obtain ⟨_, _, e, _⟩ := r; rw [e]; rfl
  | .sum a b, n, x, vs, h, r => by
    have h' : (if a.some_ && b.some_ then some 1 else none) = some n := h
    by_cases ht : (a.some_ && b.some_) = true
    · rw [if_pos ht] at h'
      cases h'
      obtain ⟨v, rfl⟩ := rl_one (t := .sum a b) ht r
      rfl
    · rw [if_neg ht] at h'; cases h'
def Ty.few (t : Ty) : Bool := match t.ar with
  | some n => decide (n ≤ 1000)
  | none => false
theorem rl_few {K : PySem.W.Frag} {mg : Str → Option Value} {t : Ty} {x : t.den} {vs : List V} (h : t.few = true) (r : rl K mg t x vs F) : vs.length ≤ sizeLine := by
  unfold Ty.few at h
  cases e : t.ar with
  | none => rw [e] at h; cases h
  | some n => rw [e] at h; rw [rl_ar e r]; exact len_le' (of_decide_eq_true h)
where len_le' {n : Nat} (h : n ≤ 1000) : n ≤ sizeLine := Nat.le_trans h (by decide)
/-- (a, b, ..) -/
theorem e_tup {fs : Ty} {m : Mx fs.den} {k : Nat} (h : EA X W Γ es fs m) (hl : fs.few = true := by rfl) : EM X W Γ (.Tuple es k pos) (.tup fs) m := pe_imp (pe_tup h) fun σ H Q ⟨F, s, d, q⟩ =>
  ⟨F, s, d, q.mono fun x px vs F1 H1 e1 r1 => ⟨rl_few hl r1, fun p np => by
    have e2 := Ext.new (o := .tup vs) e1.i np
    exact px (.ref p) (upd F1 p (.tup vs)) (upd H1 p (.tup vs)) (e1.trans e2) ⟨p, vs, rfl, SqT.of upd_same, rl_mono e2.f fs x vs r1⟩⟩⟩
/-- [a, b, ..] of many kinds -/
theorem e_hl {fs : Ty} {m : Mx fs.den} (h : EA X W Γ es fs m) (hl : fs.few = true := by rfl) : EM X W Γ (.List es pos) (.hl fs) m := pe_imp (pe_lst h) fun σ H Q ⟨F, s, d, q⟩ =>
  ⟨F, s, d, q.mono fun x px vs F1 H1 e1 r1 => ⟨rl_few hl r1, fun p np => by
    have e2 := Ext.new (o := .lst vs) e1.i np
    exact px (.ref p) (upd F1 p (.lst vs)) (upd H1 p (.lst vs)) (e1.trans e2) ⟨p, vs, rfl, upd_same, rl_mono e2.f fs x vs r1⟩⟩⟩
/-- items of one kind -/
def tL (mg : Str → Option Value) (K : PySem.W.Frag) (W : WX) (Γ : Ctx) (t : Ty) (n : Nat) (m : Mx (List t.den)) : TA := fun σ H Q => ∃ F, Same F H ∧ SD K mg Γ σ F ∧
  post mg W σ m F H fun x => ∀ vs F' H', Ext F H F' H' → all2 (fun y v => rl K mg t y [v] F') x vs → vs.length = n → Q vs H'
abbrev EL (X : Cx) (W : WX) (Γ : Ctx) (es : List Expr) (t : Ty) (n : Nat) (m : Mx (List t.den)) : Prop := PA X es (tL X.mg X.K W Γ t n m)
theorem el_nil : EL X W Γ [] t 0 (.ok []) := pa_imp pa_nil fun σ H Q ⟨F, s, d, p⟩ => p [] F H (Ext.refl s) True.intro rfl
theorem el_cons {n : Nat} {m : Mx t.den} {ms : Mx (List t.den)} (ha : EM X W Γ a t m) (hr : EL X W Γ es t n ms) (hs : starEach (a :: es) X.env = (false, eval a X.env) :: starEach es X.env := by rfl) :
    EL X W Γ (a :: es) t (n + 1) (m >>= fun x => ms >>= fun y => .ok (x :: y)) := pa_imp (pa_cons ha hr hs) fun σ H Q ⟨F, s, d, p⟩ => by
  refine ⟨F, s, d, p.bind.mono fun x px v F1 H1 e1 r1 => ⟨F1, e1.i, d.mono e1.f, post.ext e1 px.bind fun y py vs F2 H2 e2 r2 hn => ?_⟩⟩
  exact py (v :: vs) F2 H2 (e1.trans e2) ⟨rl_mono e2.f t x _ r1, r2⟩ (congrArg (· + 1) hn)
/-- a new list of data -/
theorem rtr_new {K : PySem.W.Frag} {mg : Str → Option Value} {xs : List t.den} {vs : List V} {p : Addr} {F' H0 : Hp} (r : all2 (fun y v => rl K mg t y [v] F') xs vs) (hF : Same F' H) (h0 : Same H0 H) (np : H p = none) :
    rtr K mg (.o (.l (.d t))) xs (.ref p) H0 F' (upd H p (.lst vs)) :=
  ⟨[p], ⟨p, vs, xs.map fun _ => [], rfl, by rw [flat_nil], upd_same, all3.of2 (fun x v q => ⟨rfl, q⟩) r⟩, by simp, fun a ha => by
    rw [List.mem_singleton.mp ha]; exact ⟨hF.free np, h0.free np⟩⟩
theorem e_lst {n : Nat} {m : Mx (List t.den)} (h : EL X W Γ es t n m) (hl : n ≤ 1000 := by decide) : EO X W Γ (.List es pos) (.l (.d t)) m := pe_imp (pe_lst h) fun σ H Q ⟨F, s, d, q⟩ =>
  ⟨F, s, d, q.mono fun x px vs F1 H1 e1 r1 hn => ⟨Nat.le_trans (by rw [hn]; exact hl) (by decide), fun p np =>
    px (.ref p) F1 _ (e1.trans (Ext.cell e1.i np)) (rtr_new r1 e1.i e1.h np)⟩⟩

/-! ## built-in functions -/
theorem e_abs {q : Pos} {m : Mx Int} (hg : Gl X "abs") (hm : X.mg "abs" = none) (ha : EM X W Γ a .int m) (hs : starEach [a] X.env = (false, eval a X.env) :: starEach [] X.env := by rfl) : EM X W Γ (.Call (.Name "abs" q) [a] [] pos) .int (m >>= fun x => .ok (if x < 0 then -x else x)) :=
  pe_imp (pe_callB call_abs hg hm (by decide +kernel) (ea_one ha hs) (he := hs)) (args_of (ts := .int) (r := .d .int) (k := fun x => .ok (if x < 0 then -x else x)) fun x vs F H σ Q s r1 k => by
    cases (show vs = _ from r1)
    exact ⟨x, rfl, k _ F H (Ext.refl s) rfl⟩)
theorem e_intI {q : Pos} {m : Mx Int} (hg : Gl X "int") (hm : X.mg "int" = none) (ha : EM X W Γ a .int m) (hs : starEach [a] X.env = (false, eval a X.env) :: starEach [] X.env := by rfl) : EM X W Γ (.Call (.Name "int" q) [a] [] pos) .int m :=
  pe_imp (pe_callTy call_int1 hg hm (by decide +kernel) (ea_one ha hs) (he := hs)) fun σ H Q ⟨F, s, d, p⟩ => ⟨F, s, d, p.mono fun x px vs F1 H1 e1 r1 => by
    cases (show vs = _ from r1)
    exact .inl ⟨x, rfl, px _ F1 H1 e1 rfl⟩⟩
theorem e_intB {q : Pos} {m : Mx Bool} (hg : Gl X "int") (hm : X.mg "int" = none) (ha : EM X W Γ a .bool m) (hs : starEach [a] X.env = (false, eval a X.env) :: starEach [] X.env := by rfl) : EM X W Γ (.Call (.Name "int" q) [a] [] pos) .int (m >>= fun x => .ok (if x then 1 else 0)) :=
  pe_imp (pe_callTy call_int1 hg hm (by decide +kernel) (ea_one ha hs) (he := hs)) (args_of (ts := .bool) (r := .d .int) (k := fun x => .ok (if x then 1 else 0)) fun x vs F H σ Q s r1 k => by
    cases (show vs = _ from r1)
    exact .inr ⟨x, rfl, k _ F H (Ext.refl s) rfl⟩)
theorem e_max2 {q : Pos} {m1 m2 : Mx Int} (hc : X.calm = true) (hg : Gl X "max") (hm : X.mg "max" = none) (ha : EM X W Γ a .int m1) (hb : EM X W Γ b .int m2) (hs : starEach [a, b] X.env = (false, eval a X.env) :: starEach [b] X.env := by rfl) (hs2 : starEach [b] X.env = (false, eval b X.env) :: starEach [] X.env := by rfl)
    (hp : (backTo pos (starEach [b] X.env)).any (·.1) = false := by rfl) : EM X W Γ (.Call (.Name "max" q) [a, b] [] pos) .int (m1 >>= fun x => m2 >>= fun y => .ok (if y > x then y else x)) :=
  pe_imp (pe_callB (call_max2 hc) hg hm (by decide +kernel) (pa_cons ha (pa_cons hb pa_nil hs2) hs) (he := hs) (hpl := hp)) (two_of (t1 := .int) (t2 := .int) (r := .d .int) (k := fun x y => .ok (if y > x then y else x)) (rR := fun v w H Q => ∃ i j, [v, w] = [V.int i, V.int j] ∧ Q (.int (if j > i then j else i)) H) fun x y v w F H σ Q s r1 r2 k => by
    cases (List.cons.inj (show [v] = _ from r1)).1
    cases (List.cons.inj (show [w] = _ from r2)).1
    exact ⟨x, y, rfl, k _ F H (Ext.refl s) rfl⟩)
theorem e_min2 {q : Pos} {m1 m2 : Mx Int} (hc : X.calm = true) (hg : Gl X "min") (hm : X.mg "min" = none) (ha : EM X W Γ a .int m1) (hb : EM X W Γ b .int m2) (hs : starEach [a, b] X.env = (false, eval a X.env) :: starEach [b] X.env := by rfl) (hs2 : starEach [b] X.env = (false, eval b X.env) :: starEach [] X.env := by rfl)
    (hp : (backTo pos (starEach [b] X.env)).any (·.1) = false := by rfl) : EM X W Γ (.Call (.Name "min" q) [a, b] [] pos) .int (m1 >>= fun x => m2 >>= fun y => .ok (if y < x then y else x)) :=
  pe_imp (pe_callB (call_min2 hc) hg hm (by decide +kernel) (pa_cons ha (pa_cons hb pa_nil hs2) hs) (he := hs) (hpl := hp)) (two_of (t1 := .int) (t2 := .int) (r := .d .int) (k := fun x y => .ok (if y < x then y else x)) (rR := fun v w H Q => ∃ i j, [v, w] = [V.int i, V.int j] ∧ Q (.int (if j < i then j else i)) H) fun x y v w F H σ Q s r1 r2 k => by
    cases (List.cons.inj (show [v] = _ from r1)).1
    cases (List.cons.inj (show [w] = _ from r2)).1
    exact ⟨x, y, rfl, k _ F H (Ext.refl s) rfl⟩)
theorem e_lenL {q : Pos} {m : Mx (List t.den)} (hg : Gl X "len") (hm : X.mg "len" = none) (ha : EM X W Γ a (.list t) m) (hs : starEach [a] X.env = (false, eval a X.env) :: starEach [] X.env := by rfl) : EM X W Γ (.Call (.Name "len" q) [a] [] pos) .int (m >>= fun x => .ok (x.length : Int)) :=
  pe_imp (pe_callB call_len_seq hg hm (by decide +kernel) (ea_one ha hs) (he := hs)) (args_of (ts := .list t) (r := .d .int) (k := fun x => .ok (x.length : Int)) fun x vs F H σ Q s r1 k => by
    obtain ⟨p, ws, rfl, sq, rr⟩ := r1
    exact ⟨p, ws, rfl, .inl (SqL.of (s _ _ sq)), k _ F H (Ext.refl s) (by show _ = _; rw [rr.len])⟩)
theorem e_lenT {q : Pos} {m : Mx (List t.den)} (hg : Gl X "len") (hm : X.mg "len" = none) (ha : EM X W Γ a (.vtup t) m) (hs : starEach [a] X.env = (false, eval a X.env) :: starEach [] X.env := by rfl) : EM X W Γ (.Call (.Name "len" q) [a] [] pos) .int (m >>= fun x => .ok (x.length : Int)) :=
  pe_imp (pe_callB call_len_seq hg hm (by decide +kernel) (ea_one ha hs) (he := hs)) (args_of (ts := .vtup t) (r := .d .int) (k := fun x => .ok (x.length : Int)) fun x vs F H σ Q s r1 k => by
    obtain ⟨p, ws, rfl, sq, rr⟩ := r1
    exact ⟨p, ws, rfl, .inr (sqT_same s sq), k _ F H (Ext.refl s) (by show _ = _; rw [rr.len])⟩)
def lenS (x : Str) : Option Int := if x.length ≤ sizeLine then some (x.length : Int) else none
theorem e_lenS {q : Pos} {m : Mx Str} (hg : Gl X "len") (hm : X.mg "len" = none) (ha : EM X W Γ a .str m) (hs : starEach [a] X.env = (false, eval a X.env) :: starEach [] X.env := by rfl) : EM X W Γ (.Call (.Name "len" q) [a] [] pos) .int (m >>= fun x => ofO (lenS x)) :=
  pe_imp (pe_callB call_len_str hg hm (by decide +kernel) (ea_one ha hs) (he := hs)) (args_of (ts := .str) (r := .d .int) (k := fun x => ofO (lenS x)) fun x vs F H σ Q s r1 k => by
    cases (show vs = _ from r1)
    unfold lenS at k
    by_cases h : x.length ≤ sizeLine
    · rw [if_pos h] at k; exact ⟨x, rfl, h, k _ F H (Ext.refl s) rfl⟩
    · rw [if_neg h] at k; exact k.elim)
theorem e_listL {q : Pos} {m : Mx (List t.den)} (hg : Gl X "list") (hm : X.mg "list" = none) (ha : EM X W Γ a (.list t) m) (hs : starEach [a] X.env = (false, eval a X.env) :: starEach [] X.env := by rfl) : EO X W Γ (.Call (.Name "list" q) [a] [] pos) (.l (.d t)) m :=
  pe_imp (pe_callTy call_list_of hg hm (by decide +kernel) (ea_one ha hs) (he := hs)) fun σ H Q ⟨F, s, d, p⟩ => ⟨F, s, d, p.mono fun x px vs F1 H1 e1 r1 => by
    obtain ⟨a', ws, rfl, sq, rr⟩ := r1
    exact ⟨a', ws, rfl, .inl (SqL.of (e1.i _ _ sq)), fun l nl => px (.ref l) F1 _ (e1.trans (Ext.cell e1.i nl)) (rtr_new rr e1.i e1.h nl)⟩⟩
theorem e_listT {q : Pos} {m : Mx (List t.den)} (hg : Gl X "list") (hm : X.mg "list" = none) (ha : EM X W Γ a (.vtup t) m) (hs : starEach [a] X.env = (false, eval a X.env) :: starEach [] X.env := by rfl) : EO X W Γ (.Call (.Name "list" q) [a] [] pos) (.l (.d t)) m :=
  pe_imp (pe_callTy call_list_of hg hm (by decide +kernel) (ea_one ha hs) (he := hs)) fun σ H Q ⟨F, s, d, p⟩ => ⟨F, s, d, p.mono fun x px vs F1 H1 e1 r1 => by
    obtain ⟨a', ws, rfl, sq, rr⟩ := r1
    exact ⟨a', ws, rfl, .inr (sqT_same e1.i sq), fun l nl => px (.ref l) F1 _ (e1.trans (Ext.cell e1.i nl)) (rtr_new rr e1.i e1.h nl)⟩⟩
theorem e_tupL {q : Pos} {m : Mx (List t.den)} (hg : Gl X "tuple") (hm : X.mg "tuple" = none) (ha : EM X W Γ a (.list t) m) (hs : starEach [a] X.env = (false, eval a X.env) :: starEach [] X.env := by rfl) : EM X W Γ (.Call (.Name "tuple" q) [a] [] pos) (.vtup t) m :=
  pe_imp (pe_callTy call_tuple_of hg hm (by decide +kernel) (ea_one ha hs) (he := hs)) fun σ H Q ⟨F, s, d, p⟩ => ⟨F, s, d, p.mono fun x px vs F1 H1 e1 r1 => by
    obtain ⟨a', ws, rfl, sq, rr⟩ := r1
    refine ⟨a', ws, rfl, .inl ⟨SqL.of (e1.i _ _ sq), fun l nl => ?_⟩⟩
    have e2 := Ext.new (o := .tup ws) e1.i nl
    exact px (.ref l) _ _ (e1.trans e2) ⟨l, ws, rfl, SqT.of upd_same, rr.imp fun y v z => rl_mono e2.f t y [v] z⟩⟩
theorem e_tupT {q : Pos} {m : Mx (List t.den)} (hg : Gl X "tuple") (hm : X.mg "tuple" = none) (ha : EM X W Γ a (.vtup t) m) (hs : starEach [a] X.env = (false, eval a X.env) :: starEach [] X.env := by rfl) : EM X W Γ (.Call (.Name "tuple" q) [a] [] pos) (.vtup t) m :=
  pe_imp (pe_callTy call_tuple_of hg hm (by decide +kernel) (ea_one ha hs) (he := hs)) fun σ H Q ⟨F, s, d, p⟩ => ⟨F, s, d, p.mono fun x px vs F1 H1 e1 r1 => by
    obtain ⟨a', ws, rfl, sq, rr⟩ := r1
    exact ⟨a', ws, rfl, .inr ⟨sqT_same e1.i sq, px (.ref a') F1 H1 e1 ⟨a', ws, rfl, sq, rr⟩⟩⟩⟩
theorem all2_bools {K : PySem.W.Frag} {mg : Str → Option Value} : ∀ {bs : List Bool} {ws : List V}, all2 (fun (y : Bool) v => rl K mg .bool y [v] F) bs ws → ws = bs.map V.bl
  | [], [], _ => rfl
  | b :: bs, w :: ws, ⟨h, r⟩ => by cases (List.cons.inj (show [w] = _ from h)).1; rw [all2_bools r]; rfl
  | [], _ :: _, z => z.elim
  | _ :: _, [], z => z.elim
theorem all2_strs {K : PySem.W.Frag} {mg : Str → Option Value} : ∀ {bs : List Str} {ws : List V}, all2 (fun (y : Str) v => rl K mg .str y [v] F) bs ws → ws = bs.map V.str
  | [], [], _ => rfl
  | b :: bs, w :: ws, ⟨h, r⟩ => by cases (List.cons.inj (show [w] = _ from h)).1; rw [all2_strs r]; rfl
  | [], _ :: _, z => z.elim
  | _ :: _, [], z => z.elim
theorem all2_ints {K : PySem.W.Frag} {mg : Str → Option Value} : ∀ {bs : List Int} {ws : List V}, all2 (fun (y : Int) v => rl K mg .int y [v] F) bs ws → ws = bs.map V.int
  | [], [], _ => rfl
  | b :: bs, w :: ws, ⟨h, r⟩ => by cases (List.cons.inj (show [w] = _ from h)).1; rw [all2_ints r]; rfl
  | [], _ :: _, z => z.elim
  | _ :: _, [], z => z.elim
theorem e_all {q : Pos} {m : Mx (List Bool)} (hc : X.calm = true) (hg : Gl X "all") (hm : X.mg "all" = none) (ha : EM X W Γ a (.list .bool) m) (hs : starEach [a] X.env = (false, eval a X.env) :: starEach [] X.env := by rfl) : EM X W Γ (.Call (.Name "all" q) [a] [] pos) .bool (m >>= fun x => .ok (x.all id)) :=
  pe_imp (pe_callB (cr_all hc) hg hm (by decide +kernel) (ea_one ha hs) (he := hs)) (args_of (ts := .list .bool) (r := .d .bool) (k := fun x => .ok (x.all id)) fun x vs F H σ Q s r1 k => by
    obtain ⟨p, ws, rfl, sq, rr⟩ := r1
    cases all2_bools rr
    exact ⟨p, x, rfl, SqL.of (s _ _ sq), k _ F H (Ext.refl s) rfl⟩)
theorem e_any {q : Pos} {m : Mx (List Bool)} (hc : X.calm = true) (hg : Gl X "any") (hm : X.mg "any" = none) (ha : EM X W Γ a (.list .bool) m) (hs : starEach [a] X.env = (false, eval a X.env) :: starEach [] X.env := by rfl) : EM X W Γ (.Call (.Name "any" q) [a] [] pos) .bool (m >>= fun x => .ok (x.any id)) :=
  pe_imp (pe_callB (cr_any hc) hg hm (by decide +kernel) (ea_one ha hs) (he := hs)) (args_of (ts := .list .bool) (r := .d .bool) (k := fun x => .ok (x.any id)) fun x vs F H σ Q s r1 k => by
    obtain ⟨p, ws, rfl, sq, rr⟩ := r1
    cases all2_bools rr
    exact ⟨p, x, rfl, SqL.of (s _ _ sq), k _ F H (Ext.refl s) rfl⟩)
theorem e_sum {q : Pos} {m : Mx (List Int)} (hc : X.calm = true) (hg : Gl X "sum") (hm : X.mg "sum" = none) (ha : EM X W Γ a (.list .int) m) (hs : starEach [a] X.env = (false, eval a X.env) :: starEach [] X.env := by rfl) : EM X W Γ (.Call (.Name "sum" q) [a] [] pos) .int (m >>= fun x => .ok x.sum) :=
  pe_imp (pe_callB (cr_sum hc) hg hm (by decide +kernel) (ea_one ha hs) (he := hs)) (args_of (ts := .list .int) (r := .d .int) (k := fun x => .ok x.sum) fun x vs F H σ Q s r1 k => by
    obtain ⟨p, ws, rfl, sq, rr⟩ := r1
    cases all2_ints rr
    exact ⟨p, x, rfl, SqL.of (s _ _ sq), k _ F H (Ext.refl s) rfl⟩)
/-- what type(x) is of a code -/
def Ty.cls : Ty → Option String
  | .int => some "int"
  | .bool => some "bool"
  | .str => some "str"
  | .non => some "NoneType"
  | .tup _ => some "tuple"
  | .vtup _ => some "tuple"
  | .tpl => some "tuple"
  | .hl _ => some "list"
  | .list _ => some "list"
  | _ => none
theorem tyx_T {K : PySem.W.Frag} {H : Hp} {a : Addr} {ws : List V} (h : SqT K H a ws) : TyX K H (.ref a) (.type "tuple") := by
  rcases h with (h | ⟨o, h⟩) | ⟨o, its, n, h, c, _⟩
  · exact .base (.tup h)
  · exact .fTuple h
  · exact .kTuple h c
theorem rl_tyx {K : PySem.W.Frag} {mg : Str → Option Value} {t : Ty} {x : t.den} {v : V} {T : String} (h : t.cls = some T) (s : Same F H) (r : rl K mg t x [v] F) : TyX K H v (.type T) := by
  cases t with
  | int => cases h; cases (List.cons.inj (show [v] = _ from r)).1; exact .base (.int _)
  | bool => cases h; cases (List.cons.inj (show [v] = _ from r)).1; exact .base (.bl _)
  | str => cases h; cases (List.cons.inj (show [v] = _ from r)).1; exact .base (.str _)
  | non => cases h; cases (List.cons.inj (show [v] = _ from r)).1; exact .base .non
  | tup fs => cases h; obtain ⟨p, ws, e, sq, _⟩ := r; cases (List.cons.inj e).1; exact tyx_T (sqT_same s sq)
  | vtup fs => cases h; obtain ⟨p, ws, e, sq, _⟩ := r; cases (List.cons.inj e).1; exact tyx_T (sqT_same s sq)
  | tpl => cases h; obtain ⟨p, ws, e, sq⟩ := r; cases (List.cons.inj e).1; exact tyx_T (sqT_same s sq)
  | hl fs => cases h; obtain ⟨p, ws, e, sq, _⟩ := r; cases (List.cons.inj e).1; exact .base (.lst (s _ _ sq))
  | list fs => cases h; obtain ⟨p, ws, e, sq, _⟩ := r; cases (List.cons.inj e).1; exact .base (.lst (s _ _ sq))
  | _ => cases h
theorem e_isi {q q2 : Pos} {m : Mx t.den} {n : Str} {T T' : String} {res : Bool} (hg : Gl X "isinstance") (hm : X.mg "isinstance" = none) (ha : EM X W Γ a t m) (ht : t.cls = some T) (hn : PE X (.Name n q2) (tC (.ty T'))) (hk : kitB T T' = some res)
    (hs : starEach [a, .Name n q2] X.env = (false, eval a X.env) :: starEach [.Name n q2] X.env := by rfl) : EM X W Γ (.Call (.Name "isinstance" q) [a, .Name n q2] [] pos) .bool (m >>= fun _ => .ok res) :=
  pe_imp (pe_callB call_isi hg hm (by decide +kernel) (pa_cons ha (pa_cons hn pa_nil) hs) (he := hs)) fun σ H Q ⟨F, s, d, p⟩ => ⟨F, s, d, p.bind.mono fun x px v F1 H1 e1 r1 =>
    ⟨v, .ty T', .type T, .type T', res, rfl, .ty T', rl_tyx ht e1.i r1, kit_ty hk, px _ F1 H1 e1 rfl⟩⟩
/-- sep.join(list of texts) -/
def joinO (a : Str) (ys : List Str) : Option Str := if (ys.map (·.length)).sum + ys.length * a.length ≤ 16777216 then some (Txt.join a ys) else none
theorem e_join {m1 : Mx Str} {m2 : Mx (List Str)} (ha : EM X W Γ a .str m1) (hb : EM X W Γ b (.list .str) m2) (hs : starEach [b] X.env = [(false, eval b X.env)] := by rfl) (hbase : attributeBase a "join" X.env (eval a X.env) = eval a X.env := by rfl) (hline : (apos.endLine == pos.line) = true := by rfl) :
    EM X W Γ (.Call (.Attribute a "join" apos) [b] [] pos) .str (m1 >>= fun x => m2 >>= fun y => ofO (joinO x y)) := pe_imp (pe_join ha hb hs hbase hline) fun σ H Q ⟨F, s, d, p⟩ =>
  ⟨F, s, d, p.bind.mono fun x px v F1 H1 e1 r1 => by
    cases (List.cons.inj (show [v] = _ from r1)).1
    refine ⟨⟨x, rfl⟩, F1, e1.i, d.mono e1.f, post.ext e1 px.bind fun y py w F2 H2 e2 r2 => ?_⟩
    obtain ⟨p, ws, e3, sq, rr⟩ := r2
    cases (List.cons.inj e3).1
    cases all2_strs rr
    unfold joinO at py
    by_cases h : (y.map (·.length)).sum + y.length * x.length ≤ 16777216
    · rw [if_pos h] at py
      exact ⟨x, p, y, rfl, rfl, .inl (SqL.of (e2.i _ _ sq)), h, py _ F2 H2 (e1.trans e2) rfl⟩
    · rw [if_neg h] at py; exact py.elim⟩
/-! ## slices -/
theorem p_none : EP' X W Γ none (.ok none) := po_imp po_none fun σ H Q ⟨F, s, d, p⟩ => p F H (Ext.refl s)
theorem p_some {m : Mx Int} (h : EM X W Γ a .int m) : EP' X W Γ (some a) (m >>= fun x => .ok (some x)) := po_imp (po_some h) fun σ H Q ⟨F, s, d, p⟩ => ⟨F, s, d, p.bind.mono fun x px v F1 H1 e1 r1 => by
  cases (List.cons.inj (show [v] = _ from r1)).1
  exact ⟨x, rfl, px F1 H1 e1⟩⟩
theorem sl_of {lo hi : Option Expr} {m1 : Mx t1.den} {ml mh : Mx (Option Int)} {k : t1.den → Option Int → Option Int → Mx r.den} {rR : V → Option Int → Option Int → Hp → VK → Prop} (ho : SlR X rR)
    (hr : ∀ x l u v F H σ Q, Same F H → rl X.K X.mg t1 x [v] F → (post X.mg W σ (k x l u) F H fun z => ∀ u F' H', Ext F H F' H' → rtr X.K X.mg r z u H F' H' → Q u H') → rR v l u H Q)
    (ha : EM X W Γ a t1 m1) (hl : EP' X W Γ lo ml) (hh : EP' X W Γ hi mh) : ER X W Γ (.Subscript a (.Slice lo hi none p2) pos) r (m1 >>= fun x => ml >>= fun l => mh >>= fun u => k x l u) :=
  pe_imp (pe_slice ho ha hl hh) fun σ H Q ⟨F, s, d, p⟩ => ⟨F, s, d, p.bind.mono fun x px v F1 H1 e1 r1 => ⟨F1, e1.i, d.mono e1.f, post.ext e1 px.bind fun l pl F2 H2 e2 => ⟨F2, e2.i, d.mono (e1.f.trans e2.f), post.ext (e1.trans e2) pl.bind fun u pu F3 H3 e3 => by
    refine hr x l u v F3 H3 σ Q e3.i (rl_mono (e2.f.trans e3.f) t1 x _ r1) ?_
    exact post.ext ((e1.trans e2).trans e3) pu fun z pz w F4 H4 e4 r4 => pz w F4 H4 (((e1.trans e2).trans e3).trans e4) (rtr_pre ((e1.h.trans e2.h).trans e3.h) r4)⟩⟩⟩
def cut {α : Type} (xs : List α) (lo hi : Option Int) : List α := (xs.drop (HT.sIx xs.length 0 lo)).take (HT.sIx xs.length xs.length hi - HT.sIx xs.length 0 lo)
theorem cut_cutV {R : t.den → V → Prop} {xs : List t.den} {vs : List V} (h : all2 R xs vs) (lo hi : Option Int) : all2 R (cut xs lo hi) (cutV vs lo hi) := by
  unfold cut cutV
  rw [h.len]
  exact (h.drop _).take _
theorem e_slL {lo hi : Option Expr} {m1 : Mx (List t.den)} {ml mh : Mx (Option Int)} (ha : EM X W Γ a (.list t) m1) (hl : EP' X W Γ lo ml) (hh : EP' X W Γ hi mh) : EO X W Γ (.Subscript a (.Slice lo hi none p2) pos) (.l (.d t)) (m1 >>= fun x => ml >>= fun l => mh >>= fun u => .ok (cut x l u)) :=
  sl_of (t1 := .list t) (r := .o (.l (.d t))) (k := fun x l u => .ok (cut x l u)) sl_list (fun x l u v F H σ Q s r1 k => by
    obtain ⟨p, ws, e, sq, rr⟩ := r1
    cases (List.cons.inj e).1
    exact ⟨p, ws, rfl, SqL.of (s _ _ sq), fun q nq => k (.ref q) F _ (Ext.cell s nq) (rtr_new (cut_cutV (R := fun y v => rl X.K X.mg t y [v] F) rr l u) s (Same.refl _) nq)⟩) ha hl hh
/-- of the script -/
theorem e_slScr {lo hi : Option Expr} {m1 : Mx (List Int)} {ml mh : Mx (Option Int)} (ha : EM X W Γ a .scr m1) (hl : EP' X W Γ lo ml) (hh : EP' X W Γ hi mh) : EO X W Γ (.Subscript a (.Slice lo hi none p2) pos) (.l (.d .int)) (m1 >>= fun x => ml >>= fun l => mh >>= fun u => .ok (cut x l u)) :=
  sl_of (t1 := .scr) (r := .o (.l (.d .int))) (k := fun x l u => .ok (cut x l u)) sl_list (fun x l u v F H σ Q s r1 k => by
    obtain ⟨p, e, sq⟩ := r1
    cases (List.cons.inj e).1
    have rr : ∀ xs : List Int, all2 (fun (y : Int) v => rl X.K X.mg .int y [v] F) xs (xs.map V.int) := fun xs => by
      induction xs with
      | nil => exact True.intro
      | cons y ys ih => exact ⟨rfl, ih⟩
    exact ⟨p, x.map V.int, rfl, s.seq sq, fun q nq => k (.ref q) F _ (Ext.cell s nq) (rtr_new (t := .int) (cut_cutV (t := .int) (R := fun y v => rl X.K X.mg .int y [v] F) (rr x) l u) s (Same.refl _) nq)⟩) ha hl hh
def slS (x : Str) (lo hi : Option Int) : Option Str := if x.length ≤ sizeLine then some (cutS x lo hi) else none
theorem e_slS {lo hi : Option Expr} {m1 : Mx Str} {ml mh : Mx (Option Int)} (ha : EM X W Γ a .str m1) (hl : EP' X W Γ lo ml) (hh : EP' X W Γ hi mh) : EM X W Γ (.Subscript a (.Slice lo hi none p2) pos) .str (m1 >>= fun x => ml >>= fun l => mh >>= fun u => ofO (slS x l u)) :=
  sl_of (t1 := .str) (r := .d .str) (k := fun x l u => ofO (slS x l u)) sl_str (fun x l u v F H σ Q s r1 k => by
    cases (List.cons.inj (show [v] = _ from r1)).1
    unfold slS at k
    by_cases h : x.length ≤ sizeLine
    · rw [if_pos h] at k; exact ⟨x, rfl, h, k _ F H (Ext.refl s) rfl⟩
    · rw [if_neg h] at k; exact k.elim) ha hl hh
/-! ## lists and tuples joined -/
def catL {α : Type} (x y : List α) : Option (List α) := if x.length + y.length ≤ sizeLine then some (x ++ y) else none
theorem e_catL {m1 m2 : Mx (List t.den)} (ha : EM X W Γ a (.list t) m1) (hb : EM X W Γ b (.list t) m2) : EO X W Γ (.BinOp a .Add b pos) (.l (.d t)) (m1 >>= fun x => m2 >>= fun y => ofO (catL x y)) := e_bin (t1 := .list t) (t2 := .list t) (r := .o (.l (.d t))) (g := catL) op_cat (fun x y z e v w F H Q s r1 r2 k => by
  unfold catL at e
  by_cases h : x.length + y.length ≤ sizeLine
  · rw [if_pos h] at e
    cases e
    obtain ⟨p, ws, e1, sq1, rr1⟩ := r1
    cases (List.cons.inj e1).1
    obtain ⟨q, zs, e2, sq2, rr2⟩ := r2
    cases (List.cons.inj e2).1
    exact ⟨p, q, ws, zs, rfl, rfl, s _ _ sq1, s _ _ sq2, by rw [← rr1.len, ← rr2.len]; exact h, fun l nl => k (.ref l) F _ (Ext.cell s nl) (rtr_new (rr1.app rr2) s (Same.refl _) nl)⟩
  · rw [if_neg h] at e; cases e) ha hb
end
end Gm
set_option Elab.async false
set_option linter.all false
set_option maxRecDepth 100000
set_option maxHeartbeats 4000000
namespace Gm
open PySem PySem.Spec L2

/-! ## several places at once -/
def setL {α : Type} : List α → List Nat → List α → List α
  | l, i :: is, a :: as => setL (l.set i a) is as
  | l, _, _ => l
theorem setL_len {α : Type} : ∀ {is : List Nat} {l as : List α}, (setL l is as).length = l.length
  | [], _, [] => rfl
  | [], _, _ :: _ => rfl
  | _ :: _, _, [] => rfl
  | i :: is, l, a :: as => by
    show (setL (l.set i a) is as).length = _
    rw [setL_len, List.length_set]
theorem setL_app {α : Type} : ∀ {is js : List Nat} {l as bs : List α}, is.length = as.length → setL l (is ++ js) (as ++ bs) = setL (setL l is as) js bs
  | [], _, _, [], _, _ => rfl
  | _ :: is, js, l, a :: as, bs, h => setL_app (is := is) (l := l.set _ a) (Nat.succ.inj h)
  | [], _, _, _ :: _, _, h => by cases h
  | _ :: _, _, _, [], _, h => by cases h
section
variable (K : PySem.W.Frag) (mg : Str → Option Value)
/-- slots and what they get -/
def bdL : List Slot → List V → Hp → Prop
  | [], [], _ => True
  | .d t x :: ss, v :: vs, F => rl K mg t x [v] F ∧ bdL ss vs F
  | _, _, _ => False
/-- a target of data of the code t: the slots is become S x -/
def gR (t : Ty) (is : List Nat) (S : t.den → List Slot) : TG := fun v σ H Q => ∃ x F, Same F H ∧ rl K mg t x [v] F ∧ ∀ ws, is.length = ws.length → bdL K mg (S x) ws F → Q (setL σ is (ws.map some)) H
/-- several targets -/
def gRs (t : Ty) (is : List Nat) (S : t.den → List Slot) : TGs := fun vs σ H Q => ∃ x F, Same F H ∧ rl K mg t x vs F ∧ ∀ ws, is.length = ws.length → bdL K mg (S x) ws F → Q (setL σ is (ws.map some)) H
end
abbrev GT (X : Cx) (tg : Expr) (t : Ty) (is : List Nat) (S : t.den → List Slot) : Prop := PG X tg (gR X.K X.mg t is S)
abbrev GTs (X : Cx) (tg : List Expr) (t : Ty) (is : List Nat) (S : t.den → List Slot) : Prop := PGs X tg (gRs X.K X.mg t is S)
section
variable {K : PySem.W.Frag} {mg : Str → Option Value} {F F' : Hp}
theorem bdL_app : ∀ {ss tt : List Slot} {vs ws : List V}, bdL K mg ss vs F → bdL K mg tt ws F → bdL K mg (ss ++ tt) (vs ++ ws) F
  | [], _, [], _, _, h => h
  | .d _ _ :: ss, _, _ :: vs, _, ⟨a, b⟩, h => ⟨a, bdL_app b h⟩
  | [], _, _ :: _, _, z, _ => z.elim
  | .d _ _ :: _, _, [], _, z, _ => z.elim
  | .no :: _, _, _, _, z, _ => z.elim
  | .o _ _ :: _, _, _, _, z, _ => z.elim
theorem bdL_mono (h : Same F F') : ∀ {ss : List Slot} {vs : List V}, bdL K mg ss vs F → bdL K mg ss vs F'
  | [], [], _ => True.intro
  | .d t x :: ss, v :: vs, ⟨a, b⟩ => ⟨rl_mono h t x _ a, bdL_mono h b⟩
  | [], _ :: _, z => z.elim
  | .d _ _ :: _, [], z => z.elim
  | .no :: _, _, z => z.elim
  | .o _ _ :: _, _, z => z.elim
theorem bdL_len : ∀ {ss : List Slot} {vs : List V}, bdL K mg ss vs F → ss.length = vs.length
  | [], [], _ => rfl
  | .d _ _ :: ss, _ :: vs, ⟨_, b⟩ => congrArg (· + 1) (bdL_len b)
  | [], _ :: _, z => z.elim
  | .d _ _ :: _, [], z => z.elim
  | .no :: _, _, z => z.elim
  | .o _ _ :: _, _, z => z.elim
end
section
variable {X : Cx} {tg e : Expr} {es : List Expr} {pos p : Pos} {t t1 t2 : Ty}
theorem pg_imp {g g' : TG} (h : PG X tg g) (i : ∀ v σ H Q, g' v σ H Q → g v σ H Q) : PG X tg g' := ⟨fun pins s σ H v u Q I r q => h.run pins s σ H v u Q I r (i v σ H Q q)⟩
theorem pgs_imp {g g' : TGs} (h : PGs X es g) (i : ∀ v σ H Q, g' v σ H Q → g v σ H Q) : PGs X es g' := ⟨fun pins s σ H v u Q I r q => h.run pins s σ H v u Q I r (i v σ H Q q)⟩
theorem g_nm (i : Nat) (h : PG X tg (gName i)) : GT X tg t [i] (fun x => [.d t x]) := pg_imp h fun v σ H Q ⟨x, F, s, r, k⟩ => k [v] rfl ⟨r, True.intro⟩
theorem gs_one {is : List Nat} {S : t.den → List Slot} (h : GT X tg t is S) (ht : t.sing = true := by rfl) (hs : (assignEach [tg] X.env).map (·.2) = assign tg X.env :: (assignEach [] X.env).map (·.2) := by rfl) : GTs X [tg] t is S :=
  pgs_imp (pgs_cons h pgs_nil hs) fun vs σ H Q ⟨x, F, s, r, k⟩ => by
    obtain ⟨v, rfl⟩ := rl_sing ht r
    exact ⟨v, [], rfl, x, F, s, r, fun ws hl hb => ⟨rfl, k ws hl hb⟩⟩
theorem gs_cons {is js : List Nat} {S : t1.den → List Slot} {T : t2.den → List Slot} (h : GT X tg t1 is S) (hr : GTs X es t2 js T) (hs : (assignEach (tg :: es) X.env).map (·.2) = assign tg X.env :: (assignEach es X.env).map (·.2) := by rfl) :
    GTs X (tg :: es) (.pr t1 t2) (is ++ js) (fun x => S x.1 ++ T x.2) := pgs_imp (pgs_cons h hr hs) fun vs σ H Q ⟨x, F, s, r, k⟩ => by
    obtain ⟨v, r', rfl, q1, q2⟩ := r
    exact ⟨v, r', rfl, x.1, F, s, q1, fun ws hl hb => ⟨x.2, F, s, q2, fun zs hl' hb' => by
      rw [← setL_app (by rw [List.length_map]; exact hl), ← List.map_append]
      exact k (ws ++ zs) (by rw [List.length_append, List.length_append, hl, hl']) (bdL_app hb hb')⟩⟩
theorem g_tup {is : List Nat} {S : t.den → List Slot} {k n : Nat} (hc : X.calm = true) (h : GTs X es t is S) (har : t.ar = some n := by rfl) (hn : (assignEach es X.env).length = n := by rfl) (hst : (assignEach es X.env).findIdx? (·.1) = none := by rfl) : GT X (.Tuple es k pos) (.tup t) is S :=
  pg_imp (pg_tup hc h hn hst) fun v σ H Q ⟨x, F, s, r, kk⟩ => by
    obtain ⟨a, ws, e, sq, rr⟩ := r
    exact ⟨a, ws, (List.cons.inj e).1, sqT_same s sq, rl_ar har rr, x, F, s, rr, kk⟩
theorem g_hl {is : List Nat} {S : t.den → List Slot} {k n : Nat} (hc : X.calm = true) (h : GTs X es t is S) (har : t.ar = some n := by rfl) (hn : (assignEach es X.env).length = n := by rfl) (hst : (assignEach es X.env).findIdx? (·.1) = none := by rfl) : GT X (.Tuple es k pos) (.hl t) is S :=
  pg_imp (pg_lst hc h hn hst) fun v σ H Q ⟨x, F, s, r, kk⟩ => by
    obtain ⟨a, ws, e, sq, rr⟩ := r
    exact ⟨a, ws, (List.cons.inj e).1, SqL.of (s _ _ sq), rl_ar har rr, x, F, s, rr, kk⟩
end

/-! ## what is walked -/
structure Wlk (K : PySem.W.Frag) (mg : Str → Option Value) (t : Ty) (J : It) (xs : List t.den) (F : Hp) : Prop where
  go : ∀ i H, Same F H → i < xs.length → J.go i H
  stop : ∀ i H, Same F H → xs.length ≤ i → J.stop i H
  yld : ∀ i H v H3, Same F H → i < xs.length → J.yld i H v H3 → ∃ x, xs[i]? = some x ∧ ∀ G, Same F G → Same G H → ∃ G', Ext G H G' H3 ∧ rl K mg t x [v] G'
def tI (mg : Str → Option Value) (K : PySem.W.Frag) (W : WX) (Γ : Ctx) (t : Ty) (m : Mx (List t.den)) : TI := fun σ H R => ∃ F, Same F H ∧ SD K mg Γ σ F ∧
  post mg W σ m F H fun xs => ∀ F' H' J, Ext F H F' H' → Wlk K mg t J xs F' → R J H'
abbrev EI (X : Cx) (W : WX) (Γ : Ctx) (tg iter : Expr) (t : Ty) (m : Mx (List t.den)) : Prop := PI X tg iter (tI X.mg X.K W Γ t m)
theorem pi_imp {X : Cx} {tg it : Expr} {w w' : TI} (h : PI X tg it w) (i : ∀ σ H R, w' σ H R → w σ H R) : PI X tg it w' := ⟨fun pins s σ H R I q => h.run pins s σ H R I (i σ H R q)⟩
section
variable {X : Cx} {W : WX} {Γ : Ctx} {tg a b : Expr} {pos p : Pos} {t : Ty}
theorem i_list {m : Mx (List t.den)} (ha : EM X W Γ a (.list t) m) : EI X W Γ tg a t m := pi_imp (pi_list ha) fun σ H R ⟨F, s, d, q⟩ => ⟨F, s, d, q.mono fun x px v F1 H1 e1 r1 => by
  obtain ⟨l, ws, e, sq, rr⟩ := r1
  refine ⟨l, (List.cons.inj e).1, ⟨ws, SqL.of (e1.i _ _ sq)⟩, px F1 H1 _ e1 ⟨fun i H s hi => ?_, fun i H s hi => ⟨ws, SqL.of (s _ _ sq), by rw [← rr.len]; exact hi⟩, fun i H v H3 s _ y => ?_⟩⟩
  · obtain ⟨v, h1, _⟩ := rr.get (List.getElem?_eq_getElem hi)
    exact ⟨ws, v, SqL.of (s _ _ sq), h1⟩
  · obtain ⟨rfl, y⟩ := y
    obtain ⟨z, h1, h2⟩ := rr.getV (y ws (SqL.of (s _ _ sq)))
    exact ⟨z, h1, fun G g1 g2 => ⟨G, Ext.refl g2, rl_mono g1 t z _ h2⟩⟩⟩
theorem i_vtup {m : Mx (List t.den)} (ha : EM X W Γ a (.vtup t) m) : EI X W Γ tg a t m := pi_imp (pi_tup ha) fun σ H R ⟨F, s, d, q⟩ => ⟨F, s, d, q.mono fun x px v F1 H1 e1 r1 => by
  obtain ⟨l, ws, e, sq, rr⟩ := r1
  refine ⟨l, (List.cons.inj e).1, ⟨ws, sqT_same e1.i sq⟩, px F1 H1 _ e1 ⟨fun i H s hi => ?_, fun i H s hi => ⟨ws, sqT_same s sq, by rw [← rr.len]; exact hi⟩, fun i H v H3 s _ y => ?_⟩⟩
  · obtain ⟨v, h1, _⟩ := rr.get (List.getElem?_eq_getElem hi)
    exact ⟨ws, v, sqT_same s sq, h1⟩
  · obtain ⟨rfl, y⟩ := y
    obtain ⟨z, h1, h2⟩ := rr.getV (y ws (sqT_same s sq))
    exact ⟨z, h1, fun G g1 g2 => ⟨G, Ext.refl g2, rl_mono g1 t z _ h2⟩⟩⟩
def iran (lo hi : Int) : List Int := (List.range (hi - lo).toNat).map fun (k : Nat) => lo + (k : Int)
def ranO (lo hi : Int) : Option (List Int) := if -(2 ^ 62) ≤ lo ∧ lo < 2 ^ 62 ∧ -(2 ^ 62) ≤ hi ∧ hi < 2 ^ 62 then some (iran lo hi) else none
theorem wlk_ran {K : PySem.W.Frag} {mg : Str → Option Value} {lo hi : Int} (F : Hp) : Wlk K mg .int (Itr lo (hi - lo).toNat) (iran lo hi) F := by
  have hl : (iran lo hi).length = (hi - lo).toNat := by simp [iran]
  refine ⟨fun i H _ h => by rw [hl] at h; exact h, fun i H _ h => by rw [hl] at h; exact h, fun i H v H3 s hi y => ?_⟩
  obtain ⟨rfl, rfl⟩ := y
  refine ⟨lo + (i : Int), ?_, fun G g1 g2 => ⟨G, Ext.refl g2, rfl⟩⟩
  rw [hl] at hi
  simp [iran, hi]
theorem i_ran1 {m : Mx Int} (hg : Gl X "range") (hm : X.mg "range" = none) (ha : EM X W Γ a .int m) (hs : starEach [a] X.env = [(false, eval a X.env)] := by rfl) : EI X W Γ tg (.Call (.Name "range" p) [a] [] pos) .int (m >>= fun n => ofO (ranO 0 n)) :=
  pi_imp (pi_range1 hg hm (ea_one ha hs) hs) fun σ H R ⟨F, s, d, q⟩ => ⟨F, s, d, q.bind.mono fun x px vs F1 H1 e1 r1 => by
    cases (show vs = _ from r1)
    unfold ranO at px
    split at px
    · rename_i h
      refine ⟨x, rfl, h.2.2.1, h.2.2.2, ?_⟩
      have := wlk_ran (K := X.K) (mg := X.mg) (lo := 0) (hi := x) F1
      rw [Int.sub_zero] at this
      exact px F1 H1 _ e1 this
    · exact px.elim⟩
theorem i_ran2 {m1 m2 : Mx Int} (hg : Gl X "range") (hm : X.mg "range" = none) (ha : EM X W Γ a .int m1) (hb : EM X W Γ b .int m2) (hs : starEach [a, b] X.env = [(false, eval a X.env), (false, eval b X.env)] := by rfl) (hs2 : starEach [b] X.env = [(false, eval b X.env)] := by rfl) :
    EI X W Γ tg (.Call (.Name "range" p) [a, b] [] pos) .int (m1 >>= fun l => m2 >>= fun n => ofO (ranO l n)) :=
  pi_imp (pi_range2 hg hm (pa_cons ha (pa_cons hb pa_nil hs2) (by rw [hs, hs2])) hs hs2) fun σ H R ⟨F, s, d, q⟩ => ⟨F, s, d, q.bind.mono fun x px v F1 H1 e1 r1 => ⟨F1, e1.i, d.mono e1.f, post.ext e1 px.bind fun y py w F2 H2 e2 r2 => by
    cases (List.cons.inj (show [v] = _ from r1)).1
    cases (List.cons.inj (show [w] = _ from r2)).1
    unfold ranO at py
    split at py
    · rename_i h
      exact ⟨x, y, rfl, ⟨h.1, h.2.1, h.2.2.1, h.2.2.2⟩, py F2 H2 _ (e1.trans e2) (wlk_ran F2)⟩
    · exact py.elim⟩⟩
end

/-! ## comprehensions -/
def optC {β : Type} (o : Option β) (r : List β) : List β := o.toList ++ r
def compL {α β : Type} : List α → (α → Mx (Option β)) → Mx (List β)
  | [], _ => .ok []
  | x :: xs, f => match f x with
    | .ok o => compL xs f >>= fun r => .ok (optC o r)
    | _ => .no
def compO {α β : Type} (xs : List α) (f : α → Mx (Option β)) : Mx (List β) := if xs.length ≤ sizeLine then compL xs f else .no
def W0 : WX := fun _ _ _ _ => False
/-- the tests of a comprehension -/
abbrev ETs (X : Cx) (W : WX) (Γ : Ctx) (es : List Expr) (m : Mx Bool) : Prop := PTs X es (tT X.mg X.K W Γ m)
section
variable {X : Cx} {W : WX} {Γ : Ctx} {tg a b : Expr} {pos p : Pos} {t t1 : Ty}
theorem pts_imp {es : List Expr} {t t' : TT} (h : PTs X es t) (i : ∀ σ H Q, t' σ H Q → t σ H Q) : PTs X es t' := ⟨fun pins s σ H Q I q => h.run pins s σ H Q I (i σ H Q q)⟩
theorem ts_nil : ETs X W Γ [] (.ok true) := pts_imp pts_nil fun σ H Q ⟨F, s, d, q⟩ => q F H (Ext.refl s)
theorem ts_one {m : Mx Bool} (h : ET X W Γ a m) : ETs X W Γ [a] m := pts_one h
theorem pe_ex {α : Type} {e : Expr} {t : α → TE} (h : ∀ x, PE X e (t x)) : PE X e (fun σ H Q => ∃ x, t x σ H Q) := ⟨fun pins s σ H Q I ⟨x, q⟩ => (h x).run pins s σ H Q I q⟩
theorem pts_ex {α : Type} {es : List Expr} {t : α → TT} (h : ∀ x, PTs X es (t x)) : PTs X es (fun σ H Q => ∃ x, t x σ H Q) := ⟨fun pins s σ H Q I ⟨x, q⟩ => (h x).run pins s σ H Q I q⟩
def wipeC (Γ : Ctx) : List Nat → Ctx
  | [] => Γ
  | v :: vs => (wipeC Γ vs).set v .no
theorem wipe_get {σ : L2.St} {j : Nat} : ∀ {vs : List Nat}, (wipe σ vs)[j]? = if j ∈ vs ∧ j < σ.length then some none else σ[j]?
  | [] => by simp [wipe]
  | v :: vs => by
    unfold wipe
    by_cases hj : v = j
    · subst hj
      by_cases hl : v < σ.length
      · rw [List.getElem?_set_self (by rw [wipe_length]; exact hl), if_pos ⟨List.mem_cons_self .., hl⟩]
      · rw [if_neg fun z => hl z.2, List.getElem?_eq_none (by rw [List.length_set, wipe_length]; omega), List.getElem?_eq_none (by omega)]
    · rw [List.getElem?_set_ne hj, wipe_get (vs := vs)]
      by_cases hm : j ∈ vs ∧ j < σ.length
      · rw [if_pos hm, if_pos ⟨List.mem_cons_of_mem _ hm.1, hm.2⟩]
      · rw [if_neg hm, if_neg fun z => hm ⟨(List.mem_cons.mp z.1).resolve_left fun q => hj q.symm, z.2⟩]
theorem setL_get_ne {α : Type} {j : Nat} : ∀ {is : List Nat} {l as : List α}, j ∉ is → (setL l is as)[j]? = l[j]?
  | [], _, [], _ => rfl
  | [], _, _ :: _, _ => rfl
  | _ :: _, _, [], _ => rfl
  | i :: is, l, a :: as, h => by
    show (setL (l.set i a) is as)[j]? = _
    rw [setL_get_ne fun z => h (List.mem_cons_of_mem _ z), List.getElem?_set_ne fun z => h (by rw [z]; exact List.mem_cons_self ..)]
theorem wipe_setL {σ : L2.St} {vs is : List Nat} {ws : List (Option V)} (h : ∀ i ∈ is, i ∈ vs) : wipe (setL (wipe σ vs) is ws) vs = wipe σ vs := by
  apply List.ext_getElem?
  intro j
  rw [wipe_get, wipe_get, setL_len, wipe_length]
  by_cases hm : j ∈ vs ∧ j < σ.length
  · rw [if_pos hm, if_pos hm]
  · rw [if_neg hm, if_neg hm]
    by_cases hj : j ∈ vs
    · have hl : ¬ j < σ.length := fun z => hm ⟨hj, z⟩
      rw [List.getElem?_eq_none (by rw [setL_len, wipe_length]; omega), List.getElem?_eq_none (by omega)]
    · rw [setL_get_ne fun z => hj (h j z), wipe_get, if_neg hm]
theorem SD.wipe {K : PySem.W.Frag} {mg : Str → Option Value} {σ : L2.St} {F : Hp} (d : SD K mg Γ σ F) : ∀ vs : List Nat, SD K mg (wipeC Γ vs) (L2.wipe σ vs) F
  | [] => d
  | v :: vs => fun i s e => by
    have e : ((wipeC Γ vs).set v .no)[i]? = some s := e
    unfold L2.wipe
    by_cases hi : v = i
    · subst hi
      have hl : v < (wipeC Γ vs).length := by
        have := (List.getElem?_eq_some_iff.mp e).1
        rw [List.length_set] at this; exact this
      obtain ⟨ov, e1, _⟩ := d.wipe vs v _ (List.getElem?_eq_getElem hl)
      rw [List.getElem?_set_self hl] at e
      cases e
      exact ⟨none, List.getElem?_set_self (List.getElem?_eq_some_iff.mp e1).1, True.intro⟩
    · rw [List.getElem?_set_ne hi] at e
      obtain ⟨ov, e1, r⟩ := d.wipe vs i s e
      exact ⟨ov, by rw [List.getElem?_set_ne hi]; exact e1, r⟩
theorem SD.set1 {K : PySem.W.Frag} {mg : Str → Option Value} {σ : L2.St} {F : Hp} (d : SD K mg Γ σ F) {i : Nat} {s : Slot} {v : V} (r : sd K mg s (some v) F) : SD K mg (Γ.set i s) (σ.set i (some v)) F := fun j s' e => by
  by_cases hj : i = j
  · subst hj
    have hl : i < Γ.length := by
      have := (List.getElem?_eq_some_iff.mp e).1
      rw [List.length_set] at this; exact this
    obtain ⟨ov, e1, _⟩ := d i _ (List.getElem?_eq_getElem hl)
    rw [List.getElem?_set_self hl] at e
    cases e
    exact ⟨some v, List.getElem?_set_self (List.getElem?_eq_some_iff.mp e1).1, r⟩
  · rw [List.getElem?_set_ne hj] at e
    obtain ⟨ov, e1, r'⟩ := d j s' e
    exact ⟨ov, by rw [List.getElem?_set_ne hj]; exact e1, r'⟩
theorem SD.setL {K : PySem.W.Frag} {mg : Str → Option Value} {F : Hp} : ∀ {is : List Nat} {ss : List Slot} {ws : List V} {Γ : Ctx} {σ : L2.St}, SD K mg Γ σ F → bdL K mg ss ws F → SD K mg (Gm.setL Γ is ss) (Gm.setL σ is (ws.map some)) F
  | [], [], [], _, _, d, _ => d
  | [], .d _ _ :: _, _ :: _, _, _, d, _ => d
  | _ :: _, [], [], _, _, d, _ => d
  | i :: is, .d t x :: ss, w :: ws, Γ, σ, d, ⟨a, b⟩ => SD.setL (is := is) (d.set1 (i := i) (s := .d t x) (v := w) ⟨w, rfl, a⟩) b
  | _, [], _ :: _, _, _, _, z => z.elim
  | _, .d _ _ :: _, [], _, _, _, z => z.elim
  | _, .no :: _, _, _, _, _, z => z.elim
  | _, .o _ _ :: _, _, _, _, _, z => z.elim
def compF {α β : Type} (mt : α → Mx Bool) (me : α → Mx β) (x : α) : Mx (Option β) := mt x >>= fun b => if b then me x >>= fun y => .ok (some y) else .ok none
theorem compL_step {α β : Type} {xs : List α} {f : α → Mx (Option β)} {i : Nat} (hi : i < xs.length) {done : List β} (h : compL xs f = (compL (xs.drop i) f >>= fun r => .ok (done ++ r))) (hn : compL xs f ≠ .no) :
    ∃ o, f xs[i] = .ok o ∧ compL xs f = (compL (xs.drop (i + 1)) f >>= fun r => .ok ((done ++ o.toList) ++ r)) := by
  rw [List.drop_eq_getElem_cons hi] at h
  have e : compL (xs[i] :: xs.drop (i + 1)) f = match f xs[i] with
    | .ok o => compL (xs.drop (i + 1)) f >>= fun r => .ok (optC o r)
    | _ => .no := rfl
  rw [e] at h
  cases q : f xs[i] with
  | ex z => rw [q] at h; exact absurd h hn
  | no => rw [q] at h; exact absurd h hn
  | ok o =>
    rw [q] at h
    refine ⟨o, rfl, h.trans ?_⟩
    show ((compL (xs.drop (i + 1)) f >>= fun r => Mx.ok (optC o r)) >>= fun r => Mx.ok (done ++ r)) = _
    cases compL (xs.drop (i + 1)) f with
    | ex z => rfl
    | no => rfl
    | ok r =>
      cases o with
      | none => show Mx.ok (done ++ r) = Mx.ok ((done ++ []) ++ r); rw [List.append_nil]
      | some y => show Mx.ok (done ++ (y :: r)) = Mx.ok ((done ++ [y]) ++ r); rw [List.append_assoc]; rfl
/-- [elt for tg in iter if ..] -/
theorem lc_read {is : List Nat} {S : t.den → List Slot} {mi : Mx (List t.den)} {mt : t.den → Mx Bool} {me : t.den → Mx t1.den} {vs : List Nat} (his : ∀ i ∈ is, i ∈ vs) :
    ∀ σ H Q, tR X.mg X.K W Γ (.o (.l (.d t1))) (mi >>= fun xs => compO xs (compF mt me)) σ H Q →
      tLc (tI X.mg X.K W Γ t mi) (gR X.K X.mg t is S) (fun σ H Q => ∃ x, tT X.mg X.K W0 (setL (wipeC Γ vs) is (S x)) (mt x) σ H Q) (fun σ H Q => ∃ x, tR X.mg X.K W0 (setL (wipeC Γ vs) is (S x)) (.d t1) (me x) σ H Q) vs σ H Q := by
  intro σ H Q ⟨F, s, d, p⟩
  refine ⟨F, s, d, p.bind.mono fun xs pxs F1 H1 J e1 w D nD => ?_⟩
  unfold compO at pxs
  by_cases hz : xs.length ≤ sizeLine
  rotate_left
  · rw [if_neg hz] at pxs; exact pxs.elim
  rw [if_pos hz] at pxs
  have hnd : compL xs (compF mt me) ≠ .no := fun z => by rw [z] at pxs; exact pxs
  have e1D : Ext F1 H1 F1 (upd H1 D (.lst [])) := Ext.cell e1.i nD
  refine ⟨fun i m H' => i ≤ xs.length ∧ m = xs.length - i ∧ ∃ G acc done, Same F1 G ∧ Ext F H G H' ∧ H' D = some (.lst acc) ∧ G D = none ∧ all2 (fun y v => rl X.K X.mg t1 y [v] G) done acc ∧ done.length ≤ i ∧
    compL xs (compF mt me) = (compL (xs.drop i) (compF mt me) >>= fun r => .ok (done ++ r)), ⟨xs.length, Nat.zero_le _, by simp, F1, [], [], Same.refl _, e1.trans e1D, upd_same, e1.i.free nD, True.intro, Nat.le_refl _, ?_⟩, ?_⟩
  · rw [List.drop_zero]
    cases compL xs (compF mt me) <;> rfl
  · rintro i m H' ⟨hi, rfl, G, acc, done, f1, e2, hD, gD, rr, hd, hc⟩
    have f1H : Same F1 H' := f1.trans e2.i
    by_cases hlt : i < xs.length
    · refine .inr ⟨w.go i H' f1H hlt, fun H'' => ∃ m', m' < xs.length - i ∧ (i + 1 ≤ xs.length ∧ m' = xs.length - (i + 1) ∧ ∃ G acc done, Same F1 G ∧ Ext F H G H'' ∧ H'' D = some (.lst acc) ∧ G D = none ∧ all2 (fun y v => rl X.K X.mg t1 y [v] G) done acc ∧ done.length ≤ i + 1 ∧
          compL xs (compF mt me) = (compL (xs.drop (i + 1)) (compF mt me) >>= fun r => .ok (done ++ r))), fun _ z => z, fun v H3 y => ?_⟩
      obtain ⟨x, hx, kx⟩ := w.yld i H' v H3 f1H hlt y
      have hxx : xs[i] = x := by rw [List.getElem?_eq_getElem hlt] at hx; exact Option.some.inj hx
      obtain ⟨G1, x1, rx⟩ := kx G f1 e2.i
      obtain ⟨o, ho, hc'⟩ := compL_step hlt hc hnd
      rw [hxx] at ho
      refine ⟨x, G1, x1.i, rx, fun ws hl hb => ⟨wipe_setL his, x, G1, x1.i, ?_, ?_⟩⟩
      · exact SD.setL (is := is) ((d.mono (e2.f.trans x1.f)).wipe vs) hb
      · cases qt : mt x with
        | ex z => unfold compF at ho; rw [qt] at ho; cases ho
        | no => unfold compF at ho; rw [qt] at ho; cases ho
        | ok b =>
          intro G2 H4 x2
          cases b with
          | false =>
            rw [if_neg Bool.false_ne_true]
            have ho' : o = none := by unfold compF at ho; rw [qt] at ho; exact (Mx.ok.inj ho).symm
            subst ho'
            refine ⟨xs.length - (i + 1), by omega, by omega, rfl, G2, acc, done, f1.trans (x1.f.trans x2.f), e2.trans (x1.trans x2), x2.h _ _ (x1.h _ _ hD), ?_, rr.imp fun y v z => rl_mono (x1.f.trans x2.f) t1 y [v] z, by omega, by rw [hc']; simp⟩
            exact x2.n D (by rw [x1.h _ _ hD]; exact fun z => nomatch z) (x1.n D (by rw [hD]; exact fun z => nomatch z) gD)
          | true =>
            rw [if_pos rfl]
            refine ⟨x, G2, x2.i, SD.setL (is := is) ((d.mono ((e2.f.trans x1.f).trans x2.f)).wipe vs) (bdL_mono x2.f hb), ?_⟩
            cases qe : me x with
            | ex z => unfold compF at ho; rw [qt] at ho; change (me x >>= fun y => Mx.ok (some y)) = _ at ho; rw [qe] at ho; cases ho
            | no => unfold compF at ho; rw [qt] at ho; change (me x >>= fun y => Mx.ok (some y)) = _ at ho; rw [qe] at ho; cases ho
            | ok z =>
              have ho' : o = some z := by unfold compF at ho; rw [qt] at ho; change (me x >>= fun y => Mx.ok (some y)) = _ at ho; rw [qe] at ho; exact (Mx.ok.inj ho).symm
              subst ho'
              intro u G3 H5 x3 r3
              have x4 := x1.trans (x2.trans x3)
              have hD5 : H5 D = some (.lst acc) := x4.h _ _ hD
              have gD3 : G3 D = none := x4.n D (by rw [hD]; exact fun z => nomatch z) gD
              have nDH : H D = none := e1.h.free nD
              refine ⟨acc, hD5, by rw [← rr.len]; omega, xs.length - (i + 1), by omega, by omega, rfl, G3, acc ++ [u], done ++ [z], f1.trans x4.f, ⟨(e2.trans x4).f, fun b o eb => ?_, fun b o eb => ?_, (e2.trans x4).n⟩, upd_same, gD3, ?_, by rw [List.length_append, List.length_singleton]; omega, by rw [hc']; rfl⟩
              · rw [upd_ne (ne_of_none eb nDH)]; exact (e2.trans x4).h _ _ eb
              · rw [upd_ne (fun z => by rw [z, gD3] at eb; cases eb)]; exact x4.i _ _ eb
              · exact (rr.imp fun y v z => rl_mono x4.f t1 y [v] z).app ⟨r3, True.intro⟩
    · have hi' : i = xs.length := by omega
      subst hi'
      refine .inl ⟨w.stop _ H' f1H (Nat.le_refl _), ?_⟩
      rw [List.drop_length] at hc
      have hc2 : compL xs (compF mt me) = .ok (done ++ []) := hc
      rw [hc2, List.append_nil] at pxs
      exact pxs (.ref D) G H' e2 ⟨[D], ⟨D, acc, done.map fun _ => [], rfl, by rw [flat_nil], hD, all3.of2 (fun x v q => ⟨rfl, q⟩) rr⟩, by simp, fun a ha => by
        rw [List.mem_singleton.mp ha]; exact ⟨gD, e1.h.free nD⟩⟩
theorem e_lc {elt iter : Expr} {ifs : List Expr} {scope : Scope} {own : List (Str × Nat)} {is : List Nat} {S : t.den → List Slot} {mi : Mx (List t.den)} {mt : t.den → Mx Bool} {me : t.den → Mx t1.den} (hc : X.calm = true) (hN : X.N.Nodup) (ok : BlkOk X.N X.env.scope scope own)
    (hi : EI X W Γ tg iter t mi) (hg : ∀ (s : Shared) (H : Hp) (C : Addr) (cl : List (Str × Addr)) (fp : List Addr), GT (X.blk s H scope (compEnvC scope cl C X.env) fp) tg t is S)
    (ht : ∀ (x : t.den) (s : Shared) (H : Hp) (C : Addr) (cl : List (Str × Addr)) (fp : List Addr), ETs (X.blk s H scope (compEnvC scope cl C X.env) fp) W0 (setL (wipeC Γ (own.map (·.2))) is (S x)) ifs (mt x))
    (he : ∀ (x : t.den) (s : Shared) (H : Hp) (C : Addr) (cl : List (Str × Addr)) (fp : List Addr), EM (X.blk s H scope (compEnvC scope cl C X.env) fp) W0 (setL (wipeC Γ (own.map (·.2))) is (S x)) elt t1 (me x))
    (his : ∀ i ∈ is, i ∈ own.map (·.2) := by decide) (hs : ∀ x, foldedSetIterable iter X.env x = pure x := by intro _; rfl) :
    EO X W Γ (.ListComp elt [⟨tg, iter, ifs, 0⟩] scope pos) (.l (.d t1)) (mi >>= fun xs => compO xs (compF mt me)) :=
  pe_imp (pe_lc hc hN hi ok hg (fun s H C cl fp => pts_ex fun x => ht x s H C cl fp) (fun s H C cl fp => pe_ex fun x => he x s H C cl fp) hs) (lc_read his)
/-- y = [elt for ..] on one line -/
theorem p_lc {i : Nat} {y : Str} {py : Pos} {spos : Pos} {elt iter : Expr} {ifs : List Expr} {scope : Scope} {own : List (Str × Nat)} {is : List Nat} {S : t.den → List Slot} {mi : Mx (List t.den)} {mt : t.den → Mx Bool} {me : t.den → Mx t1.den} (hc : X.calm = true) (hN : X.N.Nodup)
    (hy : X.N[i]? = some y) (hyl : X.env.scope.names.lookup y = some .local) (hsw : swapsWith (.ListComp elt [⟨tg, iter, ifs, 0⟩] scope pos) (some (.Name y py)) spos.line X.env = pure true) (ok : BlkOk X.N X.env.scope scope own)
    (hi : EI X W Γ tg iter t mi) (hg : ∀ (s : Shared) (H : Hp) (C : Addr) (cl : List (Str × Addr)) (fp : List Addr), GT (X.blk s H scope (compEnvC scope cl C X.env) fp) tg t is S)
    (ht : ∀ (x : t.den) (s : Shared) (H : Hp) (C : Addr) (cl : List (Str × Addr)) (fp : List Addr), ETs (X.blk s H scope (compEnvC scope cl C X.env) fp) W0 (setL (wipeC Γ (own.map (·.2))) is (S x)) ifs (mt x))
    (he : ∀ (x : t.den) (s : Shared) (H : Hp) (C : Addr) (cl : List (Str × Addr)) (fp : List Addr), EM (X.blk s H scope (compEnvC scope cl C X.env) fp) W0 (setL (wipeC Γ (own.map (·.2))) is (S x)) elt t1 (me x))
    (his : ∀ i ∈ is, i ∈ own.map (·.2) := by decide) (hs : ∀ x, foldedSetIterable iter X.env x = pure x := by intro _; rfl) :
    PS X (.Assign [.Name y py] (.ListComp elt [⟨tg, iter, ifs, 0⟩] scope pos) spos) (tAsg (tR X.mg X.K W Γ (.o (.l (.d t1))) (mi >>= fun xs => compO xs (compF mt me))) (gName i)) := by
  have h := ps_setLc (X := X) (g := gR X.K X.mg t is S) (tt := fun σ H Q => ∃ x, tT X.mg X.K W0 (setL (wipeC Γ (own.map (·.2))) is (S x)) (mt x) σ H Q) (te := fun σ H Q => ∃ x, tR X.mg X.K W0 (setL (wipeC Γ (own.map (·.2))) is (S x)) (.d t1) (me x) σ H Q) hc hN hy hyl hsw hi ok hg (fun s H C cl fp => pts_ex fun x => ht x s H C cl fp) (fun s H C cl fp => pe_ex fun x => he x s H C cl fp) hs
  exact ⟨fun pins s σ H D I q => h.run pins s σ H D I (lc_read his _ _ _ q)⟩
end
end Gm
set_option Elab.async false
set_option linter.all false
set_option maxRecDepth 100000
set_option maxHeartbeats 4000000
namespace Gm
open PySem PySem.Spec L2

/-! ## statements -/
inductive Out where
  | nx (Γ : Ctx) | rt (r : Rt) (x : r.den) | bk (Γ : Ctx) | ct (Γ : Ctx) | rs (t : Ty) (z : t.den) (o : Ow) (x : o.ty.den)
def Out.stays : Out → Bool
  | .nx _ => true
  | _ => false
section
variable (K : PySem.W.Frag) (mg : Str → Option Value)
def postS (W : WX) (E : Ent) {β : Type} (m : Mx β) (P : β → Prop) : Prop := match m with
  | .ok b => P b
  | .ex e => ∀ cls d σ F H, Ext E.F0 E.B F H → (∀ i ∈ E.hk, σ[i]? = E.s0[i]?) → xr mg e cls d F → W cls d σ H
  | .no => False
def outP (E : Ent) (D : Ends) : Out → Prop
  | .nx Γ => ∀ σ F H, SG K mg E Γ σ F H → D.nx σ H
  | .bk Γ => ∀ σ F H, SG K mg E Γ σ F H → D.bk σ H
  | .ct Γ => ∀ σ F H, SG K mg E Γ σ F H → D.ct σ H
  | .rt r x => ∀ v F H, Ext E.F0 E.B F H → rtr K mg r x v E.B F H → D.rt v H
  | .rs t z o x => ∀ v Γ σ F H, Γ[0]? = some (.o o x) → SG K mg E Γ σ F H → rl K mg t z [v] F → D.rt v H
def tS (W : WX) (hk : List Nat) (Γ : Ctx) {β : Type} (m : Mx β) (I : β → Out) : TS := fun D σ H => ∃ E F, E.hk = hk ∧ SG K mg E Γ σ F H ∧ postS mg W E m fun b => outP K mg E D (I b)
end
abbrev BS (X : Cx) (W : WX) (hk : List Nat) (Γ : Ctx) (st : List Stmt) {β : Type} (m : Mx β) (I : β → Out) : Prop := PSs X st (tS X.K X.mg W hk Γ m I)
abbrev S1 (X : Cx) (W : WX) (hk : List Nat) (Γ : Ctx) (st : Stmt) {β : Type} (m : Mx β) (I : β → Out) : Prop := PS X st (tS X.K X.mg W hk Γ m I)
theorem pss_imp {X : Cx} {st : List Stmt} {t t' : TS} (h : PSs X st t) (i : ∀ D σ H, t' D σ H → t D σ H) : PSs X st t' := ⟨fun pins s σ H D I q => h.run pins s σ H D I (i D σ H q)⟩
theorem ps_imp {X : Cx} {st : Stmt} {t t' : TS} (h : PS X st t) (i : ∀ D σ H, t' D σ H → t D σ H) : PS X st t' := ⟨fun pins s σ H D I q => h.run pins s σ H D I (i D σ H q)⟩
section
variable {mg : Str → Option Value} {K : PySem.W.Frag} {W : WX} {E : Ent} {α β : Type} {Γ Γ' : Ctx} {σ : L2.St} {F H F' H' : Hp}
theorem postS.bind {m : Mx α} {k : α → Mx β} {P : β → Prop} (h : postS mg W E (m >>= k) P) : postS mg W E m fun x => postS mg W E (k x) P := by
  cases m with
  | ok a => exact h
  | ex e => exact h
  | no => exact h
theorem postS.mono {m : Mx α} {P P' : α → Prop} (h : postS mg W E m P) (i : ∀ x, P x → P' x) : postS mg W E m P' := by
  cases m with
  | ok a => exact i a h
  | ex e => exact h
  | no => exact h
theorem xr_back {e : Exn} {cls : Value} {d : Option Addr} {F F' : Hp} (h : ∀ b fs, F' b = some (.xd fs) → F b = some (.xd fs)) (r : xr mg e cls d F') : xr mg e cls d F := by
  obtain ⟨C, h1, h2, h3⟩ := r
  refine ⟨C, h1, h2, ?_⟩
  split at h3
  · exact h3
  · obtain ⟨dx, e1, e2⟩ := h3; exact ⟨dx, e1, h _ _ e2⟩
  · obtain ⟨dx, e1, e2⟩ := h3; exact ⟨dx, e1, h _ _ e2⟩
/-- an expression's part -/
theorem postS.post {m : Mx α} {P P' : α → Prop} (g : SG K mg E Γ σ F H) {G : Hp} (back : ∀ F' H', Ext G H F' H' → ∃ F2, Ext F H F2 H' ∧ ∀ b fs, F' b = some (.xd fs) → F2 b = some (.xd fs)) (h : postS mg W E m P) (i : ∀ x, P x → P' x) : post mg W σ m G H P' := by
  cases m with
  | ok a => exact i a h
  | ex e =>
    intro cls d F' H' x r
    obtain ⟨F2, x2, bx⟩ := back F' H' x
    exact h cls d σ F2 H' (g.e0.trans x2) g.kp (xr_back bx r)
  | no => exact h
/-- how an expression may look at the state -/
inductive Vw (Γ : Ctx) (r : Rt) : Ctx → Prop
  | all (h : r.flat = true) : Vw Γ r Γ
  | hid : Vw Γ r (hide Γ)
theorem SG.look {Γv : Ctx} {r : Rt} (g : SG K mg E Γ σ F H) (v : Vw Γ r Γv) : ∃ G, Same G H ∧ SD K mg Γv σ G ∧ ∀ F' H', Ext G H F' H' → ∃ F2, Ext F H F2 H' ∧ (∀ (x : r.den) (v : V), rtr K mg r x v H F' H' → rtr K mg r x v H F2 H') ∧ ∀ b fs, F' b = some (.xd fs) → F2 b = some (.xd fs) := by
  cases v with
  | all h =>
    obtain ⟨G, g1, _, g3, g4⟩ := g.eval h
    exact ⟨G, g1, g3, fun F' H' x => let ⟨F2, a, _, c, b⟩ := g4 F' H' x; ⟨F2, a, c, b⟩⟩
  | hid => exact ⟨F, g.e0.i, g.sd_hide, fun F' H' x => ⟨F', x, fun _ _ q => q, fun _ _ q => q⟩⟩
/-- less known -/
inductive Wk : Ctx → Ctx → Prop
  | nil : Wk [] []
  | same {a b : Ctx} {s : Slot} (h : Wk a b) : Wk (s :: a) (s :: b)
  | no {a b : Ctx} {s : Slot} (h : Wk a b) : Wk (.no :: a) (s :: b)
theorem Wk.refl : ∀ {Γ : Ctx}, Wk Γ Γ
  | [] => .nil
  | _ :: _ => .same Wk.refl
theorem Wk.get {a b : Ctx} (h : Wk a b) : ∀ {i : Nat} {s : Slot}, a[i]? = some s → ∃ u, b[i]? = some u ∧ (s = u ∨ s = .no) := by
  induction h with
  | nil => intro i s e; simp at e
  | @same a b s' h ih =>
    intro i s e
    cases i with
    | zero => exact ⟨s', rfl, .inl (by simpa using e.symm)⟩
    | succ i => obtain ⟨u, h1, h2⟩ := ih (i := i) (s := s) (by simpa using e); exact ⟨u, by simpa using h1, h2⟩
  | @no a b s' h ih =>
    intro i s e
    cases i with
    | zero => exact ⟨s', rfl, .inr (by simpa using e.symm)⟩
    | succ i => obtain ⟨u, h1, h2⟩ := ih (i := i) (s := s) (by simpa using e); exact ⟨u, by simpa using h1, h2⟩
theorem Wk.len {a b : Ctx} (h : Wk a b) : a.length = b.length := by
  induction h with
  | nil => rfl
  | same h ih => exact congrArg (· + 1) ih
  | no h ih => exact congrArg (· + 1) ih
theorem SG.weak (g : SG K mg E Γ σ F H) (w : Wk Γ' Γ) : SG K mg E Γ' σ F H := by
  obtain ⟨e0, kp, fps, q⟩ := g
  refine ⟨e0, kp, fun i => match Γ'[i]? with | some Slot.no => [] | none => [] | _ => fps i, fun i s e => ?_, fun i e => ?_, fun i => ?_, fun i j hij a ha => ?_, fun i a ha => ?_⟩
  · obtain ⟨u, h1, h2⟩ := w.get e
    obtain ⟨ov, e1, r⟩ := q.at_ i u h1
    refine ⟨ov, e1, ?_⟩
    rw [e]
    rcases h2 with rfl | rfl
    · cases s with
      | no => exact rfl
      | d t x => exact r
      | o o x => exact r
    · exact rfl
  · rw [e]
  · cases e : Γ'[i]? with
    | none => exact List.nodup_nil
    | some s => cases s with
      | no => exact List.nodup_nil
      | d t x => exact q.nd i
      | o o x => exact q.nd i
  · have sub : ∀ i, ∀ a ∈ (match Γ'[i]? with | some Slot.no => [] | none => [] | _ => fps i : List Addr), a ∈ fps i := fun i a ha => by
      cases e : Γ'[i]? with
      | none => rw [e] at ha; cases ha
      | some s => rw [e] at ha; cases s with
        | no => cases ha
        | d t x => exact ha
        | o o x => exact ha
    exact fun hb => q.sep i j hij a (sub i a ha) (sub j a hb)
  · have : a ∈ fps i := by
      cases e : Γ'[i]? with
      | none => rw [e] at ha; cases ha
      | some s => rw [e] at ha; cases s with
        | no => cases ha
        | d t x => exact ha
        | o o x => exact ha
    exact q.new i a this
end
section
variable {X : Cx} {W : WX} {hk : List Nat} {Γ Γ' Γv : Ctx} {st : Stmt} {rest A B' : List Stmt} {e c tg : Expr} {pos p : Pos} {β γ : Type} {r : Rt} {t : Ty} {I : β → Out}

/-! ## blocks -/
theorem bs_nil {b : β} (hI : I b = .nx Γ') (w : Wk Γ' Γ) : BS X W hk Γ [] (.ok b) I := pss_imp pss_nil fun D σ H ⟨E, F, h, g, q⟩ => by
  have q : outP X.K X.mg E D (I b) := q
  rw [hI] at q
  exact q σ F H (g.weak w)
theorem bs_one {m : Mx β} (h : S1 X W hk Γ st m I) : BS X W hk Γ [st] m I := pss_one h
/-- a statement that goes on, the rest -/
theorem bs_seq {α : Type} {m : Mx α} {G : α → Ctx} {k : α → Mx β} (h : S1 X W hk Γ st m fun s => .nx (G s)) (hr : ∀ s, BS X W hk (G s) rest (k s) I) : BS X W hk Γ (st :: rest) (m >>= k) I :=
  have hr' : PSs X rest (fun D σ H => ∃ s, tS X.K X.mg W hk (G s) (k s) I D σ H) := ⟨fun pins s σ H D J ⟨x, q⟩ => (hr x).run pins s σ H D J q⟩
  pss_imp (pss_cons h hr') fun D σ H ⟨E, F, h, g, q⟩ => ⟨E, F, h, g, q.bind.mono fun s qs σ' F' H' g' => ⟨s, E, F', h, g', qs⟩⟩
/-- a statement that may leave -/
inductive Fw (S R : Type) where
  | go (s : S) | out (r : R)
def fwk {S R β : Type} (k : S → Mx β) (j : R → β) : Fw S R → Mx β
  | .go s => k s
  | .out r => .ok (j r)
def fwo {S R : Type} (G : S → Ctx) (O : R → Out) : Fw S R → Out
  | .go s => .nx (G s)
  | .out r => O r
theorem bs_seqF {S R : Type} {m : Mx (Fw S R)} {G : S → Ctx} {O : R → Out} {k : S → Mx β} {j : R → β} (h : S1 X W hk Γ st m (fwo G O)) (hr : ∀ s, BS X W hk (G s) rest (k s) I) (hj : ∀ x, I (j x) = O x := by intro _; rfl) (ho : ∀ x, (O x).stays = false := by intro _; rfl) :
    BS X W hk Γ (st :: rest) (m >>= fwk k j) I :=
  have hr' : PSs X rest (fun D σ H => ∃ s, tS X.K X.mg W hk (G s) (k s) I D σ H) := ⟨fun pins s σ H D J ⟨x, q⟩ => (hr x).run pins s σ H D J q⟩
  pss_imp (pss_cons h hr') fun D σ H ⟨E, F, h, g, q⟩ => ⟨E, F, h, g, q.bind.mono fun s qs => by
    cases s with
    | go s => exact fun σ' F' H' g' => ⟨s, E, F', h, g', qs⟩
    | out x =>
      have q2 : outP X.K X.mg E D (I (j x)) := qs
      rw [hj] at q2
      have hx := ho x
      show outP X.K X.mg E _ (O x)
      cases e : O x with
      | nx Γ => rw [e] at hx; cases hx
      | rt r y => rw [e] at q2; exact q2
      | bk Γ => rw [e] at q2; exact q2
      | rs t y o2 x2 => rw [e] at q2; exact q2
      | ct Γ => rw [e] at q2; exact q2⟩
theorem bs_map {m : Mx γ} {I' : γ → Out} {f : γ → β} (h : BS X W hk Γ A m I') (hI : ∀ b, I (f b) = I' b := by intro _; rfl) : BS X W hk Γ A (m >>= fun b => .ok (f b)) I := pss_imp h fun D σ H ⟨E, F, h, g, q⟩ =>
  ⟨E, F, h, g, q.bind.mono fun b qb => by have qb : outP X.K X.mg E D (I (f b)) := qb; rw [hI] at qb; exact qb⟩
theorem bs_cast {m m' : Mx β} (h : BS X W hk Γ A m I) (e : m = m') : BS X W hk Γ A m' I := e ▸ h
theorem bs_weak {m : Mx β} (h : BS X W hk Γ' A m I) (w : Wk Γ' Γ) : BS X W hk Γ A m I := pss_imp h fun D σ H ⟨E, F, h, g, q⟩ => ⟨E, F, h, g.weak w, q⟩
theorem bs_freeze (i : Nat) {o : Ow} {x : o.ty.den} {m : Mx β} (hi : Γ[i]? = some (.o o x)) (h : BS X W hk (Γ.set i (.d o.ty x)) A m I) : BS X W hk Γ A m I := pss_imp h fun D σ H ⟨E, F, h, g, q⟩ => let ⟨F', g'⟩ := g.freeze hi; ⟨E, F', h, g', q⟩

/-! ## assignments -/
theorem bs_set {i : Nat} {me : Mx r.den} {k : r.den → Mx β} (hs : PS X st (tAsg (tR X.mg X.K W Γv r me) (gName i))) (vw : Vw Γ r Γv) (hr : ∀ x, BS X W hk (Γ.set i (slotOf r x)) rest (k x) I) (hi : i < Γ.length := by decide) (hn : i ∉ hk := by decide) : BS X W hk Γ (st :: rest) (me >>= k) I :=
  have hr' : PSs X rest (fun D σ H => ∃ s, tS X.K X.mg W hk (Γ.set i (slotOf r s)) (k s) I D σ H) := ⟨fun pins s σ H D J ⟨x, q⟩ => (hr x).run pins s σ H D J q⟩
  pss_imp (pss_cons hs hr') fun D σ H ⟨E, F, h, g, q⟩ => by
    obtain ⟨G, g1, g2, g3⟩ := g.look vw
    refine ⟨G, g1, g2, q.bind.post g (fun F' H' x => let ⟨F2, a, _, b⟩ := g3 F' H' x; ⟨F2, a, b⟩) fun x px v F' H' ex rr => ?_⟩
    obtain ⟨F2, x2, back, _⟩ := g3 F' H' ex
    exact ⟨x, E, F2, h, g.set x2 (back x v rr) hi (by rw [h]; exact hn), px⟩
/-- several slots at once -/
theorem SG.setL {K : PySem.W.Frag} {mg : Str → Option Value} {E : Ent} {F H : Hp} : ∀ {is : List Nat} {ss : List Slot} {ws : List V} {Γ : Ctx} {σ : L2.St}, SG K mg E Γ σ F H → bdL K mg ss ws F → (∀ i ∈ is, i < Γ.length ∧ i ∉ E.hk) → SG K mg E (Gm.setL Γ is ss) (Gm.setL σ is (ws.map some)) F H
  | [], [], [], _, _, g, _, _ => g
  | [], .d _ _ :: _, _ :: _, _, _, g, _, _ => g
  | _ :: _, [], [], _, _, g, _, _ => g
  | i :: is, .d t x :: ss, w :: ws, Γ, σ, g, ⟨a, b⟩, hi => SG.setL (is := is) (g.set (r := .d t) (x := x) (v := w) (Ext.refl g.e0.i) a (hi i (List.mem_cons_self ..)).1 (hi i (List.mem_cons_self ..)).2) b fun j hj => by
      rw [List.length_set]; exact hi j (List.mem_cons_of_mem _ hj)
  | _, [], _ :: _, _, _, _, z, _ => z.elim
  | _, .d _ _ :: _, [], _, _, _, z, _ => z.elim
  | _, .no :: _, _, _, _, _, z, _ => z.elim
  | _, .o _ _ :: _, _, _, _, _, z, _ => z.elim
/-- target = e -/
theorem bs_asg {is : List Nat} {S : t.den → List Slot} {me : Mx t.den} {k : t.den → Mx β} (he : EM X W Γv e t me) (vw : Vw Γ (.d t) Γv) (hg : GT X tg t is S) (hr : ∀ x, BS X W hk (setL Γ is (S x)) rest (k x) I)
    (hi : ∀ i ∈ is, i < Γ.length ∧ i ∉ hk := by decide) (hs : swapsWithSole [tg] e pos.line X.env = pure false := by rfl) (hw : swappedStores [tg] e X.env = pure none := by rfl) (h1 : (assignEach [tg] X.env).map (·.2) = [assign tg X.env] := by rfl) : BS X W hk Γ (.Assign [tg] e pos :: rest) (me >>= k) I :=
  have hr' : PSs X rest (fun D σ H => ∃ s, tS X.K X.mg W hk (setL Γ is (S s)) (k s) I D σ H) := ⟨fun pins s σ H D J ⟨x, q⟩ => (hr x).run pins s σ H D J q⟩
  pss_imp (pss_cons (ps_asg he hg hs hw h1) hr') fun D σ H ⟨E, F, h, g, q⟩ => by
    obtain ⟨G, g1, g2, g3⟩ := g.look vw
    refine ⟨G, g1, g2, q.bind.post g (fun F' H' x => let ⟨F2, a, _, b⟩ := g3 F' H' x; ⟨F2, a, b⟩) fun x px v F' H' ex rr => ?_⟩
    obtain ⟨F2, x2, back, _⟩ := g3 F' H' ex
    refine ⟨x, F2, x2.i, back x v rr, fun ws hl hb => ⟨x, E, F2, h, ?_, px⟩⟩
    exact SG.setL (is := is) (g.grow x2) hb fun i hii => by rw [h]; exact hi i hii
/-- an expression whose value is dropped -/
theorem bs_expr {me : Mx r.den} {m : Mx β} (he : ER X W Γv e r me) (vw : Vw Γ r Γv) (hr : BS X W hk Γ rest m I) (hs : swapsWith e none pos.line X.env = pure false := by rfl) : BS X W hk Γ (.Expr e pos :: rest) (me >>= fun _ => m) I :=
  pss_imp (pss_cons (ps_expr he hs) hr) fun D σ H ⟨E, F, h, g, q⟩ => by
    obtain ⟨G, g1, g2, g3⟩ := g.look vw
    refine ⟨G, g1, g2, q.bind.post g (fun F' H' x => let ⟨F2, a, _, b⟩ := g3 F' H' x; ⟨F2, a, b⟩) fun x px v F' H' ex rr => ?_⟩
    obtain ⟨F2, x2, back, _⟩ := g3 F' H' ex
    exact ⟨E, F2, h, g.grow x2, px⟩
theorem bs_pass {m : Mx β} (hr : BS X W hk Γ rest m I) : BS X W hk Γ (.Pass pos :: rest) m I := pss_imp (pss_cons ps_pass hr) fun D σ H q => q

/-! ## return -/
theorem bs_ret {me : Mx r.den} {b : r.den → β} (he : ER X W Γv e r me) (vw : Vw Γ r Γv) (hI : ∀ x, I (b x) = .rt r x := by intro _; rfl) : BS X W hk Γ (.Return (some e) pos :: rest) (me >>= fun x => .ok (b x)) I :=
  pss_imp (pss_cons (ps_ret he) pss_never) fun D σ H ⟨E, F, h, g, q⟩ => by
    obtain ⟨G, g1, g2, g3⟩ := g.look vw
    refine ⟨G, g1, g2, q.bind.post g (fun F' H' x => let ⟨F2, a, _, b⟩ := g3 F' H' x; ⟨F2, a, b⟩) fun x px v F' H' ex rr => ?_⟩
    obtain ⟨F2, x2, back, _⟩ := g3 F' H' ex
    have px : outP X.K X.mg E D (I (b x)) := px
    rw [hI] at px
    exact px v F2 H' (g.e0.trans x2) (rtr_pre g.e0.h (back x v rr))
/-- an owned name is returned -/
theorem bs_retO (i : Nat) {o : Ow} {x : o.ty.den} {n : Str} {b : β} (hi : Γ[i]? = some (.o o x)) (hp : PE X (.Name n p) (tVar i)) (hI : I b = .rt (.o o) x := by rfl) : BS X W hk Γ (.Return (some (.Name n p)) pos :: rest) (.ok b) I :=
  pss_imp (pss_cons (ps_ret hp) pss_never) fun D σ H ⟨E, F, h, g, q⟩ => by
    have q : outP X.K X.mg E D (I b) := q
    rw [hI] at q
    obtain ⟨fps, w⟩ := g.ow
    obtain ⟨ov, e1, v, rfl, r⟩ := w.at_ i _ hi
    exact ⟨v, e1, q v F H g.e0 ⟨fps i, r, w.nd i, w.new i⟩⟩
theorem bs_retN {b : β} (hI : I b = .rt (.d .non) () := by rfl) : BS X W hk Γ (.Return none pos :: rest) (.ok b) I := pss_imp (pss_cons ps_retN pss_never) fun D σ H ⟨E, F, h, g, q⟩ => by
  have q : outP X.K X.mg E D (I b) := q
  rw [hI] at q
  exact q .non F H g.e0 rfl

/-! ## if -/
theorem s1_if {mc : Mx Bool} {mA mB : Mx β} (hc : ET X W Γ c mc) (hA : BS X W hk Γ A mA I) (hB : BS X W hk Γ B' mB I) : S1 X W hk Γ (.If c A B' pos) (mc >>= fun x => if x then mA else mB) I :=
  ps_imp (ps_if hc hA hB) fun D σ H ⟨E, F, h, g, q⟩ => by
    obtain ⟨G, g1, g2, g3⟩ := g.look (r := .d .bool) (.all rfl)
    refine ⟨G, g1, g2, q.bind.post g (fun F' H' x => let ⟨F2, a, _, b⟩ := g3 F' H' x; ⟨F2, a, b⟩) fun x px F' H' ex => ?_⟩
    obtain ⟨F2, x2, back, _⟩ := g3 F' H' ex
    cases x with
    | true => exact ⟨E, F2, h, g.grow x2, px⟩
    | false => exact ⟨E, F2, h, g.grow x2, px⟩
/-- if c: A (which leaves); the rest -/
theorem bs_ifR {mc : Mx Bool} {mA m : Mx β} (hc : ET X W Γ c mc) (hA : BS X W hk Γ A mA I) (hr : BS X W hk Γ rest m I) (hI : ∀ b, (I b).stays = false := by intro _; rfl) : BS X W hk Γ (.If c A [] pos :: rest) (mc >>= fun x => if x then mA else m) I :=
  pss_imp (pss_cons (ps_if hc hA pss_nil) hr) fun D σ H ⟨E, F, h, g, q⟩ => by
    obtain ⟨G, g1, g2, g3⟩ := g.look (r := .d .bool) (.all rfl)
    refine ⟨G, g1, g2, q.bind.post g (fun F' H' x => let ⟨F2, a, _, b⟩ := g3 F' H' x; ⟨F2, a, b⟩) fun x px F' H' ex => ?_⟩
    obtain ⟨F2, x2, back, _⟩ := g3 F' H' ex
    cases x with
    | true =>
      refine ⟨E, F2, h, g.grow x2, postS.mono px fun b qb => ?_⟩
      have hx := hI b
      cases e : I b with
      | nx Γ => rw [e] at hx; cases hx
      | rt r y => rw [e] at qb; exact qb
      | bk Γ => rw [e] at qb; exact qb
      | rs t y o2 x2 => rw [e] at qb; exact qb
      | ct Γ => rw [e] at qb; exact qb
    | false => exact ⟨E, F2, h, g.grow x2, px⟩
end
end Gm
set_option Elab.async false
set_option linter.all false
set_option maxRecDepth 100000
set_option maxHeartbeats 4000000
namespace Gm
open PySem PySem.Spec L2
open PyProof.Rows (envOfC)

/-! ## loops -/
def loopS {S α : Type} : List α → S → (S → α → Mx S) → Mx S
  | [], s, _ => .ok s
  | x :: r, s, f => f s x >>= fun s' => loopS r s' f
inductive Lp (S R : Type) where
  | go (s : S) | brk (s : S) | out (r : R)
def loopF {S R α : Type} : List α → S → (S → α → Mx (Lp S R)) → Mx (Fw S R)
  | [], s, _ => .ok (.go s)
  | x :: r, s, f => f s x >>= fun o => match o with
    | .go s' => loopF r s' f
    | .brk s' => .ok (.go s')
    | .out q => .ok (.out q)
def whileS {S : Type} : Nat → S → (S → Mx Bool) → (S → Mx S) → Mx S
  | 0, _, _, _ => .no
  | n + 1, s, c, f => c s >>= fun b => if b then f s >>= fun s' => whileS n s' c f else .ok s
def whileF {S R : Type} : Nat → S → (S → Mx Bool) → (S → Mx (Lp S R)) → Mx (Fw S R)
  | 0, _, _, _ => .no
  | n + 1, s, c, f => c s >>= fun b => if b then f s >>= fun o => (match o with
    | .go s' => whileF n s' c f
    | .brk s' => .ok (.go s')
    | .out q => .ok (.out q)) else .ok (.go s)
def lpo {S R : Type} (G : S → Ctx) (O : R → Out) : Lp S R → Out
  | .go s => .nx (G s)
  | .brk s => .bk (G s)
  | .out r => O r
def Out.isRt : Out → Bool
  | .rt _ _ => true
  | .rs _ _ _ _ => true
  | _ => false
section
variable {mg : Str → Option Value} {K : PySem.W.Frag} {W : WX} {E : Ent} {α β : Type} {Γ Γ' : Ctx} {σ : L2.St} {F H F' H' F2 H2 : Hp}
/-- the entry with more frozen -/
abbrev Ent.up (E : Ent) (F2 : Hp) : Ent := { E with F0 := F2 }
theorem ext_up (x : Ext E.F0 E.B F2 H2) (y : Ext F2 E.B F H) : Ext E.F0 E.B F H := ⟨x.f.trans y.f, y.h, y.i, fun p hp hf => y.n p hp (x.n p hp hf)⟩
theorem SG.down (g : SG K mg (E.up F2) Γ σ F H) (x : Ext E.F0 E.B F2 H2) : SG K mg E Γ σ F H := ⟨ext_up x g.e0, g.kp, g.ow⟩
theorem SG.up (g : SG K mg E Γ σ F H) : SG K mg (E.up F) Γ σ F H := ⟨⟨Same.refl _, g.e0.h, g.e0.i, fun p _ q => q⟩, g.kp, g.ow⟩
theorem postS.up {m : Mx α} {P P' : α → Prop} (x : Ext E.F0 E.B F2 H2) (h : postS mg W E m P) (i : ∀ a, P a → P' a) : postS mg W (E.up F2) m P' := by
  cases m with
  | ok a => exact i a h
  | ex e => exact fun cls d σ F H y k r => h cls d σ F H (ext_up x y) k r
  | no => exact h
end
def tIS (mg : Str → Option Value) (K : PySem.W.Frag) (W : WX) (hk : List Nat) (Γ : Ctx) (t : Ty) (m : Mx (List t.den)) : TI := fun σ H R => ∃ E F, E.hk = hk ∧ SG K mg E Γ σ F H ∧
  postS mg W E m fun xs => ∀ F' H' J, Ext F H F' H' → Wlk K mg t J xs F' → R J H'
abbrev IS (X : Cx) (W : WX) (hk : List Nat) (Γ : Ctx) (tg iter : Expr) (t : Ty) (m : Mx (List t.den)) : Prop := PI X tg iter (tIS X.mg X.K W hk Γ t m)
/-- what is walked, whatever is frozen -/
def tIR (mg : Str → Option Value) (K : PySem.W.Frag) (W : WX) (Γ : Ctx) (t : Ty) (m : Mx (List t.den)) : TI := fun σ H R => ∃ F, Same F H ∧ SD K mg Γ σ F ∧
  post mg W σ m F H fun xs => ∀ F' H' J, Ext F H F' H' → (∀ G, Wlk K mg t J xs G) → R J H'
abbrev EIR (X : Cx) (W : WX) (Γ : Ctx) (tg iter : Expr) (t : Ty) (m : Mx (List t.den)) : Prop := PI X tg iter (tIR X.mg X.K W Γ t m)
section
variable {X : Cx} {W : WX} {hk : List Nat} {Γ Γ' Γv : Ctx} {st : Stmt} {rest body : List Stmt} {e c tg iter a b : Expr} {pos p : Pos} {β γ : Type} {r : Rt} {t : Ty} {I : β → Out}
theorem is_hid {m : Mx (List t.den)} (h : EI X W (hide Γ) tg iter t m) : IS X W hk Γ tg iter t m := pi_imp h fun σ H R ⟨E, F, hh, g, q⟩ => ⟨F, g.e0.i, g.sd_hide, q.post g (fun F' H' x => ⟨F', x, fun _ _ q => q⟩) fun xs k => k⟩
theorem is_ran {m : Mx (List t.den)} (h : EIR X W Γ tg iter t m) : IS X W hk Γ tg iter t m := pi_imp h fun σ H R ⟨E, F, hh, g, q⟩ => by
  obtain ⟨G, g1, g2, g3⟩ := g.look (r := .d .bool) (.all rfl)
  refine ⟨G, g1, g2, q.post g (fun F' H' x => let ⟨F2, a, _, b⟩ := g3 F' H' x; ⟨F2, a, b⟩) fun xs k F' H' J x w => ?_⟩
  obtain ⟨F2, x2, _⟩ := g3 F' H' x
  exact k F2 H' J x2 (w F2)
theorem r_ran1 {m : Mx Int} (hg : Gl X "range") (hm : X.mg "range" = none) (ha : EM X W Γ a .int m) (hs : starEach [a] X.env = [(false, eval a X.env)] := by rfl) : EIR X W Γ tg (.Call (.Name "range" p) [a] [] pos) .int (m >>= fun n => ofO (ranO 0 n)) :=
  pi_imp (pi_range1 hg hm (ea_one ha hs) hs) fun σ H R ⟨F, s, d, q⟩ => ⟨F, s, d, q.bind.mono fun x px vs F1 H1 e1 r1 => by
    cases (show vs = _ from r1)
    unfold ranO at px
    split at px
    · rename_i h
      refine ⟨x, rfl, h.2.2.1, h.2.2.2, ?_⟩
      refine px F1 H1 _ e1 fun G => ?_
      have := wlk_ran (K := X.K) (mg := X.mg) (lo := 0) (hi := x) G
      rw [Int.sub_zero] at this
      exact this
    · exact px.elim⟩
theorem r_ran2 {m1 m2 : Mx Int} (hg : Gl X "range") (hm : X.mg "range" = none) (ha : EM X W Γ a .int m1) (hb : EM X W Γ b .int m2) (hs : starEach [a, b] X.env = [(false, eval a X.env), (false, eval b X.env)] := by rfl) (hs2 : starEach [b] X.env = [(false, eval b X.env)] := by rfl) :
    EIR X W Γ tg (.Call (.Name "range" p) [a, b] [] pos) .int (m1 >>= fun l => m2 >>= fun n => ofO (ranO l n)) :=
  pi_imp (pi_range2 hg hm (pa_cons ha (pa_cons hb pa_nil hs2) (by rw [hs, hs2])) hs hs2) fun σ H R ⟨F, s, d, q⟩ => ⟨F, s, d, q.bind.mono fun x px v F1 H1 e1 r1 => ⟨F1, e1.i, d.mono e1.f, post.ext e1 px.bind fun y py w F2 H2 e2 r2 => by
    cases (List.cons.inj (show [v] = _ from r1)).1
    cases (List.cons.inj (show [w] = _ from r2)).1
    unfold ranO at py
    split at py
    · rename_i h
      exact ⟨x, y, rfl, ⟨h.1, h.2.1, h.2.2.1, h.2.2.2⟩, py F2 H2 _ (e1.trans e2) fun G => wlk_ran G⟩
    · exact py.elim⟩⟩
/-- for, a turn of which always goes on -/
theorem s1_for {S : Type} {G : S → Ctx} {f : S → t.den → Mx S} {s0 : S} {mi : Mx (List t.den)} {is : List Nat} {T : t.den → List Slot} (hp : PassesOwn (model X.prog X.w) X.A X.env X.xe) (hc : X.calm = true) (hi : IS X W hk Γ tg iter t mi) (hg : GT X tg t is T)
    (hb : ∀ s x, BS X W hk (setL (G s) is (T x)) body (f s x) (fun s' => .nx (G s'))) (h0 : Wk (G s0) Γ) (hix : ∀ s, ∀ i ∈ is, i < (G s).length ∧ i ∉ hk := by intro _; decide) (hs : ∀ x, foldedSetIterable iter X.env x = pure x := by intro _; rfl) :
    S1 X W hk Γ (.For tg iter body [] pos) (mi >>= fun xs => loopS xs s0 f) (fun s => .nx (G s)) :=
  have hb' : PSs X body (fun D σ H => ∃ s x, tS X.K X.mg W hk (setL (G s) is (T x)) (f s x) (fun s' => .nx (G s')) D σ H) := ⟨fun pins σ1 σ H D J ⟨s, x, q⟩ => (hb s x).run pins σ1 σ H D J q⟩
  ps_imp (ps_for hp hc hi hg hb' hs) fun D σ H ⟨E, F, hh, g, q⟩ => by
    refine ⟨E, F, hh, g, q.bind.mono fun xs pxs F2 H2 J ex w => ?_⟩
    have xe : Ext E.F0 E.B F2 H2 := g.e0.trans ex
    refine ⟨fun i m σ' H' => i ≤ xs.length ∧ m = xs.length - i ∧ ∃ s F', SG X.K X.mg (E.up F2) (G s) σ' F' H' ∧ postS X.mg W E (loopS (xs.drop i) s f) (fun s => outP X.K X.mg E D (.nx (G s))), ⟨xs.length, Nat.zero_le _, by simp, s0, F2, ((g.grow ex).weak h0).up, pxs⟩, ?_⟩
    rintro i m σ' H' ⟨hil, rfl, s, F', g', q'⟩
    by_cases hlt : i < xs.length
    · refine .inr ⟨w.go i H' (g'.e0.f.trans g'.e0.i) hlt, fun σ'' H'' => ∃ m', m' < xs.length - i ∧ (i + 1 ≤ xs.length ∧ m' = xs.length - (i + 1) ∧ ∃ s F', SG X.K X.mg (E.up F2) (G s) σ'' F' H'' ∧ postS X.mg W E (loopS (xs.drop (i + 1)) s f) (fun s => outP X.K X.mg E D (.nx (G s)))), fun _ _ z => z, fun v H3 y => ?_⟩
      obtain ⟨x, hx, kx⟩ := w.yld i H' v H3 (g'.e0.f.trans g'.e0.i) hlt y
      obtain ⟨G1, x1, rx⟩ := kx F' g'.e0.f g'.e0.i
      rw [List.drop_eq_getElem_cons hlt] at q'
      have hxx : xs[i] = x := by rw [List.getElem?_eq_getElem hlt] at hx; exact Option.some.inj hx
      rw [hxx] at q'
      refine ⟨x, G1, x1.i, rx, fun ws hl hbd => ⟨s, x, E.up F2, G1, hh, ?_, ?_⟩⟩
      · exact SG.setL (is := is) (g'.grow x1) hbd fun j hj => by
          have := hix s j hj
          exact ⟨this.1, by show j ∉ E.hk; rw [hh]; exact this.2⟩
      · exact postS.up xe (postS.bind (k := fun s' => loopS (xs.drop (i + 1)) s' f) q') fun s' qs σ4 F4 H4 g4 => ⟨xs.length - (i + 1), by omega, by omega, rfl, s', F4, g4, qs⟩
    · have hi' : i = xs.length := by omega
      subst hi'
      refine .inl ⟨w.stop _ H' (g'.e0.f.trans g'.e0.i) (Nat.le_refl _), ?_⟩
      rw [List.drop_length] at q'
      exact q' σ' F' H' (g'.down xe)
/-- for, whose turns may leave -/
theorem s1_forF {S R : Type} {G : S → Ctx} {O : R → Out} {f : S → t.den → Mx (Lp S R)} {s0 : S} {mi : Mx (List t.den)} {is : List Nat} {T : t.den → List Slot} (hp : PassesOwn (model X.prog X.w) X.A X.env X.xe) (hc : X.calm = true) (hi : IS X W hk Γ tg iter t mi) (hg : GT X tg t is T)
    (hb : ∀ s x, BS X W hk (setL (G s) is (T x)) body (f s x) (lpo G O)) (h0 : Wk (G s0) Γ) (hO : ∀ r, (O r).isRt = true := by intro _; rfl) (hix : ∀ s, ∀ i ∈ is, i < (G s).length ∧ i ∉ hk := by intro _; decide) (hs : ∀ x, foldedSetIterable iter X.env x = pure x := by intro _; rfl) :
    S1 X W hk Γ (.For tg iter body [] pos) (mi >>= fun xs => loopF xs s0 f) (fwo G O) :=
  have hb' : PSs X body (fun D σ H => ∃ s x, tS X.K X.mg W hk (setL (G s) is (T x)) (f s x) (lpo G O) D σ H) := ⟨fun pins σ1 σ H D J ⟨s, x, q⟩ => (hb s x).run pins σ1 σ H D J q⟩
  ps_imp (ps_for hp hc hi hg hb' hs) fun D σ H ⟨E, F, hh, g, q⟩ => by
    refine ⟨E, F, hh, g, q.bind.mono fun xs pxs F2 H2 J ex w => ?_⟩
    have xe : Ext E.F0 E.B F2 H2 := g.e0.trans ex
    refine ⟨fun i m σ' H' => i ≤ xs.length ∧ m = xs.length - i ∧ ∃ s F', SG X.K X.mg (E.up F2) (G s) σ' F' H' ∧ postS X.mg W E (loopF (xs.drop i) s f) (fun s => outP X.K X.mg E D (fwo G O s)), ⟨xs.length, Nat.zero_le _, by simp, s0, F2, ((g.grow ex).weak h0).up, pxs⟩, ?_⟩
    rintro i m σ' H' ⟨hil, rfl, s, F', g', q'⟩
    by_cases hlt : i < xs.length
    · refine .inr ⟨w.go i H' (g'.e0.f.trans g'.e0.i) hlt, fun σ'' H'' => ∃ m', m' < xs.length - i ∧ (i + 1 ≤ xs.length ∧ m' = xs.length - (i + 1) ∧ ∃ s F', SG X.K X.mg (E.up F2) (G s) σ'' F' H'' ∧ postS X.mg W E (loopF (xs.drop (i + 1)) s f) (fun s => outP X.K X.mg E D (fwo G O s))), fun _ _ z => z, fun v H3 y => ?_⟩
      obtain ⟨x, hx, kx⟩ := w.yld i H' v H3 (g'.e0.f.trans g'.e0.i) hlt y
      obtain ⟨G1, x1, rx⟩ := kx F' g'.e0.f g'.e0.i
      rw [List.drop_eq_getElem_cons hlt] at q'
      have hxx : xs[i] = x := by rw [List.getElem?_eq_getElem hlt] at hx; exact Option.some.inj hx
      rw [hxx] at q'
      refine ⟨x, G1, x1.i, rx, fun ws hl hbd => ⟨s, x, E.up F2, G1, hh, ?_, ?_⟩⟩
      · exact SG.setL (is := is) (g'.grow x1) hbd fun j hj => by
          have := hix s j hj
          exact ⟨this.1, by show j ∉ E.hk; rw [hh]; exact this.2⟩
      · refine postS.up xe (postS.bind (m := f s x) q') fun o qs => ?_
        cases o with
        | go s' => exact fun σ4 F4 H4 g4 => ⟨xs.length - (i + 1), by omega, by omega, rfl, s', F4, g4, qs⟩
        | brk s' => exact fun σ4 F4 H4 g4 => qs σ4 F4 H4 (g4.down xe)
        | out z =>
          have qs : outP X.K X.mg E D (O z) := qs
          have hz := hO z
          show outP X.K X.mg (E.up F2) _ (O z)
          cases e : O z with
          | nx _ => rw [e] at hz; cases hz
          | bk _ => rw [e] at hz; cases hz
          | ct _ => rw [e] at hz; cases hz
          | rt r y => rw [e] at qs; exact fun v F H y2 r2 => qs v F H (ext_up xe y2) r2
          | rs t y o2 x2 => rw [e] at qs; exact fun v Γ1 σ1 F H e0 s1 r2 => qs v Γ1 σ1 F H e0 (s1.down xe) r2
    · have hi' : i = xs.length := by omega
      subst hi'
      refine .inl ⟨w.stop _ H' (g'.e0.f.trans g'.e0.i) (Nat.le_refl _), ?_⟩
      rw [List.drop_length] at q'
      exact q' σ' F' H' (g'.down xe)
/-- while -/
theorem s1_while {S : Type} {G : S → Ctx} {mc : S → Mx Bool} {f : S → Mx S} {s0 : S} (n : Nat) (hp : PassesOwn (model X.prog X.w) X.A X.env X.xe) (hc : ∀ s, ET X W (G s) c (mc s)) (hb : ∀ s, BS X W hk (G s) body (f s) (fun s' => .nx (G s'))) (h0 : Wk (G s0) Γ) :
    S1 X W hk Γ (.While c body [] pos) (whileS n s0 mc f) (fun s => .nx (G s)) :=
  have hc' : PT X c (fun σ H Q => ∃ s, tT X.mg X.K W (G s) (mc s) σ H Q) := ⟨fun pins s1 σ H Q J ⟨s, q⟩ => (hc s).run pins s1 σ H Q J q⟩
  have hb' : PSs X body (fun D σ H => ∃ s, tS X.K X.mg W hk (G s) (f s) (fun s' => .nx (G s')) D σ H) := ⟨fun pins s1 σ H D J ⟨s, q⟩ => (hb s).run pins s1 σ H D J q⟩
  ps_imp (ps_while hp hc' hb') fun D σ H ⟨E, F, hh, g, q⟩ => by
    refine ⟨fun m σ' H' => ∃ s F', SG X.K X.mg E (G s) σ' F' H' ∧ postS X.mg W E (whileS m s mc f) (fun s => outP X.K X.mg E D (.nx (G s))), ⟨n, s0, F, g.weak h0, q⟩, ?_⟩
    rintro m σ' H' ⟨s, F', g', q'⟩
    cases m with
    | zero => exact q'.elim
    | succ m =>
      obtain ⟨G0, g1, g2, g3⟩ := g'.look (r := .d .bool) (.all rfl)
      refine ⟨s, G0, g1, g2, (postS.bind q').post g' (fun F' H' x => let ⟨F2, a, _, b⟩ := g3 F' H' x; ⟨F2, a, b⟩) fun b pb F3 H3 ex => ?_⟩
      obtain ⟨F2, x2, _⟩ := g3 F3 H3 ex
      cases b with
      | true =>
        rw [if_pos rfl]
        exact ⟨fun σ'' H'' => ∃ m', m' < m + 1 ∧ ∃ s F', SG X.K X.mg E (G s) σ'' F' H'' ∧ postS X.mg W E (whileS m' s mc f) (fun s => outP X.K X.mg E D (.nx (G s))), fun _ _ z => z, s, E, F2, hh, g'.grow x2,
          postS.mono (postS.bind pb) fun s' qs σ4 F4 H4 g4 => ⟨m, Nat.lt_succ_self m, s', F4, g4, qs⟩⟩
      | false =>
        rw [if_neg Bool.false_ne_true]
        exact pb σ' F2 H3 (g'.grow x2)
theorem s1_whileF {S R : Type} {G : S → Ctx} {O : R → Out} {mc : S → Mx Bool} {f : S → Mx (Lp S R)} {s0 : S} (n : Nat) (hp : PassesOwn (model X.prog X.w) X.A X.env X.xe) (hc : ∀ s, ET X W (G s) c (mc s)) (hb : ∀ s, BS X W hk (G s) body (f s) (lpo G O)) (h0 : Wk (G s0) Γ) (hO : ∀ r, (O r).isRt = true := by intro _; rfl) :
    S1 X W hk Γ (.While c body [] pos) (whileF n s0 mc f) (fwo G O) :=
  have hc' : PT X c (fun σ H Q => ∃ s, tT X.mg X.K W (G s) (mc s) σ H Q) := ⟨fun pins s1 σ H Q J ⟨s, q⟩ => (hc s).run pins s1 σ H Q J q⟩
  have hb' : PSs X body (fun D σ H => ∃ s, tS X.K X.mg W hk (G s) (f s) (lpo G O) D σ H) := ⟨fun pins s1 σ H D J ⟨s, q⟩ => (hb s).run pins s1 σ H D J q⟩
  ps_imp (ps_while hp hc' hb') fun D σ H ⟨E, F, hh, g, q⟩ => by
    refine ⟨fun m σ' H' => ∃ s F', SG X.K X.mg E (G s) σ' F' H' ∧ postS X.mg W E (whileF m s mc f) (fun s => outP X.K X.mg E D (fwo G O s)), ⟨n, s0, F, g.weak h0, q⟩, ?_⟩
    rintro m σ' H' ⟨s, F', g', q'⟩
    cases m with
    | zero => exact q'.elim
    | succ m =>
      obtain ⟨G0, g1, g2, g3⟩ := g'.look (r := .d .bool) (.all rfl)
      refine ⟨s, G0, g1, g2, (postS.bind q').post g' (fun F' H' x => let ⟨F2, a, _, b⟩ := g3 F' H' x; ⟨F2, a, b⟩) fun b pb F3 H3 ex => ?_⟩
      obtain ⟨F2, x2, _⟩ := g3 F3 H3 ex
      cases b with
      | true =>
        rw [if_pos rfl]
        refine ⟨fun σ'' H'' => ∃ m', m' < m + 1 ∧ ∃ s F', SG X.K X.mg E (G s) σ'' F' H'' ∧ postS X.mg W E (whileF m' s mc f) (fun s => outP X.K X.mg E D (fwo G O s)), fun _ _ z => z, s, E, F2, hh, g'.grow x2,
          postS.mono (postS.bind pb) fun o qs => ?_⟩
        cases o with
        | go s' => exact fun σ4 F4 H4 g4 => ⟨m, Nat.lt_succ_self m, s', F4, g4, qs⟩
        | brk s' => exact fun σ4 F4 H4 g4 => qs σ4 F4 H4 g4
        | out z =>
          have qs : outP X.K X.mg E D (O z) := qs
          have hz := hO z
          show outP X.K X.mg E _ (O z)
          cases e : O z with
          | nx _ => rw [e] at hz; cases hz
          | bk _ => rw [e] at hz; cases hz
          | ct _ => rw [e] at hz; cases hz
          | rt r y => rw [e] at qs; exact qs
          | rs t y o2 x2 => rw [e] at qs; exact qs
      | false =>
        rw [if_neg Bool.false_ne_true]
        exact pb σ' F2 H3 (g'.grow x2)
/-! ## an owned list grows -/
def appO {α : Type} (xs : List α) (y : α) : Option (List α) := if xs.length < sizeLine then some (xs ++ [y]) else none
theorem own_lst {K : PySem.W.Frag} {mg : Str → Option Value} {xs : List t.den} {v : V} {F H : Hp} {fp : List Addr} (h : ol K mg (.l (.d t)) xs [v] F H fp) : ∃ q ws, v = .ref q ∧ fp = [q] ∧ H q = some (.lst ws) ∧ all2 (fun y w => rl K mg t y [w] F) xs ws := by
  obtain ⟨q, ws, fps, e1, e2, e3, r⟩ := h
  have hn : ∀ {xs : List t.den} {ws : List V} {fps : List (List Addr)}, all3 (fun x w f => ol K mg (.d t) x [w] F H f) xs ws fps → fps.flatten = [] := by
    intro xs
    induction xs with
    | nil => intro ws fps r; cases ws with
      | nil => cases fps with
        | nil => rfl
        | cons _ _ => exact r.elim
      | cons _ _ => exact r.elim
    | cons x xs ih => intro ws fps r; cases ws with
      | nil => exact r.elim
      | cons w ws => cases fps with
        | nil => exact r.elim
        | cons f fps => rw [List.flatten_cons, ih r.2, r.1.1]; rfl
  exact ⟨q, ws, (List.cons.inj e1).1, by rw [e2, hn r], e3, r.two fun x w f _ z => z.2⟩
/-- a cell of a slot is written -/
theorem SG.write {K : PySem.W.Frag} {mg : Str → Option Value} {E : Ent} {σ : L2.St} {F H : Hp} {i : Nat} {q : Addr} {ws : List V} {xs ys : List t.den} (g : SG K mg E Γ σ F H) (hi : Γ[i]? = some (.o (.l (.d t)) xs)) (hq : σ[i]? = some (some (.ref q))) (r : all2 (fun y w => rl K mg t y [w] F) ys ws) :
    SG K mg E (Γ.set i (.o (.l (.d t)) ys)) σ F (upd H q (.lst ws)) := by
  obtain ⟨e0, kp, fps, w⟩ := g
  obtain ⟨ov, e1, v, rfl, ho⟩ := w.at_ i _ hi
  rw [hq] at e1; cases e1
  obtain ⟨q', zs, e2, e3, e4, r0⟩ := own_lst ho
  cases e2
  have hil : i < Γ.length := (List.getElem?_eq_some_iff.mp hi).1
  have hqi : q ∈ fps i := by rw [e3]; exact List.mem_singleton.mpr rfl
  have nF : F q = none := (w.new i q hqi).1
  have nB : E.B q = none := (w.new i q hqi).2
  have ne : ∀ {b : Addr} {o : HO}, F b = some o → b ≠ q := fun e z => by rw [z, nF] at e; cases e
  have x0 : Ext E.F0 E.B F (upd H q (.lst ws)) := ⟨e0.f, fun b o e => by rw [upd_ne (fun z => by rw [z, nB] at e; cases e)]; exact e0.h _ _ e, fun b o e => by rw [upd_ne (ne e)]; exact e0.i _ _ e, e0.n⟩
  have w1 : Own K mg Γ σ F H E.B fps := w
  -- the other slots
  refine ⟨x0, kp, fps, fun j s e => ?_, fun j e => ?_, w.nd, w.sep, w.new⟩
  · by_cases hj : j = i
    · subst hj
      rw [List.getElem?_set_self hil] at e
      cases e
      exact ⟨_, hq, _, rfl, q, ws, ys.map fun _ => [], rfl, by rw [flat_nil, e3], upd_same, all3.of2 (fun x v z => ⟨rfl, z⟩) r⟩
    · rw [List.getElem?_set_ne (Ne.symm hj)] at e
      obtain ⟨ov, e1, r'⟩ := w.at_ j s e
      exact ⟨ov, e1, so_frame (Same.refl _) (fun a ha => upd_ne fun z => w.sep j i hj a ha (by rw [z]; exact hqi)) r'⟩
  · by_cases hj : j = i
    · subst hj
      rw [List.getElem?_set_self hil] at e; cases e
    · rw [List.getElem?_set_ne (Ne.symm hj)] at e
      exact w.out j e
/-- xs.append(e) -/
theorem bs_app (i : Nat) {xs : List t.den} {me : Mx t.den} {k : List t.den → Mx β} {n : Str} {apos cpos : Pos} (hi : Γ[i]? = some (.o (.l (.d t)) xs)) (hx : PE X (.Name n p) (tVar i)) (he : EM X W Γv e t me) (vw : Vw Γ (.d t) Γv) (hr : ∀ ys, BS X W hk (Γ.set i (.o (.l (.d t)) ys)) rest (k ys) I)
    (hbase : attributeBase (.Name n p) "append" X.env (eval (.Name n p) X.env) = eval (.Name n p) X.env := by rfl) (hfew : ((backTo cpos (starEach [e] X.env)).all (fun x => !x.1) && (backToKw cpos (keywordEach [] X.env)).all (fun x => x.1.isSome) && decide ([e].length + ([] : List Keyword).length + (if ([] : List Keyword).isEmpty then 0 else 1) < 30)) = true := by rfl)
    (hline : (apos.endLine == cpos.line) = true := by rfl) (hs : starEach [e] X.env = (false, eval e X.env) :: starEach [] X.env := by rfl) (hpl : (backTo cpos (starEach [] X.env)).any (·.1) = false := by rfl) :
    BS X W hk Γ (.Expr (.Call (.Attribute (.Name n p) "append" apos) [e] [] cpos) pos :: rest) (me >>= fun y => ofO (appO xs y) >>= k) I :=
  have hr' : PSs X rest (fun D σ H => ∃ ys, tS X.K X.mg W hk (Γ.set i (.o (.l (.d t)) ys)) (k ys) I D σ H) := ⟨fun pins s σ H D J ⟨x, q⟩ => (hr x).run pins s σ H D J q⟩
  pss_imp (pss_cons (ps_expr (pe_bm PySem.F.plainAttrs_list PySem.F.slot_list_append PySem.F.type_list_append mt_append hx (pa_cons he pa_nil hs) hbase hfew hline hs hpl)) hr') fun D σ H ⟨E, F, h, g, q⟩ => by
    obtain ⟨fps, w⟩ := g.ow
    obtain ⟨ov, e1, v, rfl, ho⟩ := w.at_ i _ hi
    obtain ⟨a, ws, rfl, e3, e4, rr⟩ := own_lst ho
    refine ⟨.ref a, e1, .inl ⟨rfl, ws, SqL.of e4⟩, ?_⟩
    obtain ⟨G, g1, g2, g3⟩ := g.look vw
    refine ⟨G, g1, g2, q.bind.post g (fun F' H' x => let ⟨F2, a, _, b⟩ := g3 F' H' x; ⟨F2, a, b⟩) fun y py u F' H' ex ru => ?_⟩
    obtain ⟨F2, x2, back, _⟩ := g3 F' H' ex
    have ru2 : rl X.K X.mg t y [u] F2 := back y u ru
    unfold appO at py
    by_cases hl : xs.length < sizeLine
    · rw [if_pos hl] at py
      refine ⟨a, ws, u, rfl, rfl, x2.h _ _ e4, by rw [← rr.len]; exact hl, xs ++ [y], E, F2, h, ?_, py⟩
      exact (g.grow x2).write hi e1 ((rr.imp fun z v q => rl_mono x2.f t z [v] q).app ⟨ru2, True.intro⟩)
    · rw [if_neg hl] at py; exact py.elim
/-! ## calls of the text's defs -/
section
variable (K : PySem.W.Frag) (mg : Str → Option Value)
/-- what a def promises: the arguments' code, the answer's, the mirror -/
def spF (ts : Ty) (r : Rt) (f : ts.den → Mx r.den) : Sp := fun vs H Q E => ∃ F x, Same F H ∧ rl K mg ts x vs F ∧ match f x with
  | .ok y => ∀ v F' H', Ext F H F' H' → rtr K mg r y v H F' H' → Q v H'
  | .ex e => ∀ cls d F' H', Ext F H F' H' → xr mg e cls d F' → E cls d H'
  | .no => False
end
theorem e_call {k : Nat} {f : Addr} {fd : FuncData} {ps : List Str} {ts : Ty} {g : ts.den → Mx r.den} {ma : Mx ts.den} {x : Str} {q : Pos} {es : List Expr} (Fn : FnOk X.prog X.w X.K X.mg X.base (L2.CX X.prog X.w) k f fd ps (spF X.K X.mg ts r g)) (hr : Room k X.A) (hg : Gl X x) (hm : X.mg x = some (.ref f)) (hkp : PySem.W.keepIn X.K (.ref f) = true)
    (hb : Binds X.K fd ps []) (tk : Takes X W) (ha : EA X W Γ (e :: es) ts ma) (hdb : (x == ("__debug__" : Str)) = false := by decide) (he : starEach (e :: es) X.env = (false, eval e X.env) :: starEach es X.env := by rfl) (hpl : (backTo pos (starEach es X.env)).any (·.1) = false := by rfl) :
    ER X W Γ (.Call (.Name x q) (e :: es) [] pos) r (ma >>= g) :=
  pe_imp (pe_callSD Fn hr hg hm hkp hb .nil (fun σ => passAt tk σ) ha hdb he hpl) fun σ H Q ⟨F, s, d, p⟩ => ⟨F, s, d, p.bind.mono fun z pz vs F1 H1 e1 r1 => by
    refine ⟨F1, z, e1.i, by rw [List.append_nil]; exact r1, ?_⟩
    cases hgz : g z with
    | no => rw [hgz] at pz; exact pz
    | ex y => rw [hgz] at pz; exact fun cls d F' H' x r => pz cls d F' H' (e1.trans x) r
    | ok y => rw [hgz] at pz; exact fun v F' H' x r => pz v F' H' (e1.trans x) (rtr_pre e1.h r)⟩
end
/-! ## a def's body -/
def ctxA : (ts : Ty) → ts.den → Ctx
  | .pr t ts, x => .d t x.1 :: ctxA ts x.2
  | _, _ => []
def Ty.args : Ty → Option Nat
  | .pr t ts => if t.sing then ts.args.map (· + 1) else none
  | .nl => some 0
  | _ => none
theorem args_len {K : PySem.W.Frag} {mg : Str → Option Value} {F : Hp} : ∀ {ts : Ty} {n : Nat} {x : ts.den} {vs : List V}, ts.args = some n → rl K mg ts x vs F → vs.length = n ∧ (ctxA ts x).length = n ∧ ∀ (i : Nat) (s : Slot), (ctxA ts x)[i]? = some s → ∃ v : V, vs[i]? = some v ∧ ∃ (t : Ty) (y : t.den), s = Slot.d t y ∧ rl K mg t y [v] F
  | .pr t ts, n, x, vs, h, r => by
    obtain ⟨v, r', rfl, p, q⟩ := r
    have h' : (if t.sing then ts.args.map (· + 1) else none) = some n := h
    by_cases ht : t.sing = true
    · rw [if_pos ht] at h'
      cases e : ts.args with
      | none => rw [e] at h'; cases h'
      | some m =>
        rw [e] at h'
        have hn : m + 1 = n := Option.some.inj h'
        obtain ⟨h1, h2, h3⟩ := args_len (ts := ts) e q
        refine ⟨by rw [List.length_cons, h1, hn], by show (ctxA ts x.2).length + 1 = n; rw [h2, hn], fun i s es => ?_⟩
        cases i with
        | zero => exact ⟨v, rfl, t, x.1, by simpa [ctxA] using es.symm, p⟩
        | succ i => exact h3 i s (by simpa [ctxA] using es)
    · rw [if_neg ht] at h'; cases h'
  | .nl, n, x, vs, h, r => by cases h; rw [show vs = _ from r]; exact ⟨rfl, rfl, fun i s e => by simp [ctxA] at e⟩
def ctx0 (ts : Ty) (x : ts.den) (n : Nat) : Ctx := ctxA ts x ++ List.replicate n .no
theorem sg_start {K : PySem.W.Frag} {mg : Str → Option Value} {F H : Hp} {ts : Ty} {n : Nat} {x : ts.den} {vs : List V} {N : List Str} (hs : Same F H) (ha : ts.args = some n) (r : rl K mg ts x vs F) : SG K mg ⟨F, H, [], L2.start N vs⟩ (ctx0 ts x (N.length - n)) (L2.start N vs) F H := by
  obtain ⟨h1, h2, h3⟩ := args_len ha r
  refine ⟨Ext.refl hs, fun i hi => (nomatch hi), fun _ => [], fun i s e => ?_, fun _ _ => rfl, fun _ => List.nodup_nil, fun _ _ _ a ha => (nomatch ha), fun _ a ha => (nomatch ha)⟩
  unfold ctx0 at e
  unfold L2.start
  by_cases hi : i < n
  · rw [List.getElem?_append_left (by rw [h2]; exact hi)] at e
    obtain ⟨v, e1, t, y, rfl, r'⟩ := h3 i s e
    exact ⟨some v, by rw [List.getElem?_append_left (by rw [List.length_map, h1]; exact hi), List.getElem?_map, e1]; rfl, rfl, v, rfl, r'⟩
  · rw [List.getElem?_append_right (by rw [h2]; omega), h2, List.getElem?_replicate] at e
    split at e
    · rename_i hlt
      cases e
      exact ⟨none, by rw [List.getElem?_append_right (by rw [List.length_map, h1]; omega), List.length_map, h1, List.getElem?_replicate, if_pos hlt], rfl⟩
    · cases e
theorem fn_body {P : Program} {w : World} {K : PySem.W.Frag} {mg : Str → Option Value} {base : Heap} {x qual : Str} {st : Stmt} {f : Addr} {fd : FuncData} {N ps : List Str} {k : Nat} {ts : Ty} {r : Rt} {g : ts.den → Mx r.den} (F : Fun K x qual st f fd) (S : FnScope N ps (defScope st)) (ha : ts.args = some ps.length)
    (hb : ∀ (cdv : Value) (A : Around) (outer : List Env) (s : Shared) (H : Hp) (E : XK), Room k (A.deeper (envOfC qual (defScope st) s.heap.objs.size f cdv)) → Takes (cxOf (L2.CX P w) P w K mg base N qual (defScope st) f cdv A outer s H E) (fun cls d _ H => E cls d H) →
      PassesOwn (model P w) (A.deeper (envOfC qual (defScope st) s.heap.objs.size f cdv)) (envOfC qual (defScope st) s.heap.objs.size f cdv) (cxOf (L2.CX P w) P w K mg base N qual (defScope st) f cdv A outer s H E).xe →
      ∀ x : ts.den, BS (cxOf (L2.CX P w) P w K mg base N qual (defScope st) f cdv A outer s H E) (fun cls d _ H => E cls d H) [] (ctx0 ts x (N.length - ps.length)) (defBody st) (g x) (fun y => .rt r y)) :
    FnOk P w K mg base (L2.CX P w) (k + 1) f fd ps (spF K mg ts r g) := by
  refine F.okX S (fun vs H Q E h => ?_) (fun cdv A outer s H vs Q E hr h => ?_)
  · obtain ⟨G, y, hs, rr, _⟩ := h
    exact (args_len ha rr).1
  · obtain ⟨G, y, hs, rr, q⟩ := h
    refine ⟨_, hb cdv A outer s H E hr (takes_of rfl rfl rfl rfl) (passes_of rfl) y, ⟨G, H, [], L2.start N vs⟩, G, rfl, sg_start hs ha rr, ?_⟩
    cases e : g y with
    | no => rw [e] at q; exact q
    | ex z => rw [e] at q; exact fun cls d σ F' H' x _ r => q cls d F' H' x r
    | ok z => rw [e] at q; exact fun v F' H' x r => q v F' H' x r
end Gm
set_option Elab.async false
set_option linter.all false
set_option maxRecDepth 100000
set_option maxHeartbeats 4000000
namespace Gm
open PySem PySem.Spec L2

theorem okb {α β : Type} (a : α) (f : α → Mx β) : (Mx.ok a >>= f) = f a := id rfl
theorem exb {α β : Type} (e : Exn) (f : α → Mx β) : (Mx.ex e >>= f) = Mx.ex e := id rfl
theorem Mx.ok_right {α : Type} (m : Mx α) : (m >>= fun x => Mx.ok x) = m := by cases m <;> rfl
section
variable {X : Cx} {W : WX} {hk : List Nat} {Γ Γv : Ctx} {st : Stmt} {rest : List Stmt} {β : Type} {r : Rt} {I : β → Out}
theorem b_setL (i : Nat) {me : Mx r.den} {k : r.den → Mx β} (hs : PS X st (tAsg (tR X.mg X.K W Γv r me) (gName i))) (vw : Vw Γ r Γv) (hr : ∀ x, BS X W hk (Γ.set i (slotOf r x)) rest (k x) I) (hb : Nat.ble (i + 1) Γ.length = true) (hn : hk.contains i = false) : BS X W hk Γ (st :: rest) (me >>= k) I :=
  bs_set (i := i) hs vw hr (Nat.le_of_ble_eq_true hb) (fun h => by rw [List.contains_iff_mem.mpr h] at hn; cases hn)
theorem b_setLF (i : Nat) {o : Ow} {me : Mx o.ty.den} {k : o.ty.den → Mx β} (hs : PS X st (tAsg (tR X.mg X.K W Γv (.o o) me) (gName i))) (vw : Vw Γ (.o o) Γv) (hr : ∀ x, BS X W hk (Γ.set i (.d o.ty x)) rest (k x) I) (hb : Nat.ble (i + 1) Γ.length = true) (hn : hk.contains i = false) : BS X W hk Γ (st :: rest) (me >>= k) I :=
  b_setL (X := X) (r := .o o) i hs vw (fun y => bs_freeze i (o := o) (x := y) (List.getElem?_set_self (Nat.le_of_ble_eq_true hb)) (by rw [List.set_set]; exact hr y)) hb hn
end
section
variable {X : Cx} {W : WX} {hk : List Nat} {Γ Γ' Γv : Ctx} {st : Stmt} {rest A B' : List Stmt} {a b e c tg : Expr} {pos p : Pos} {β γ : Type} {r : Rt} {t : Ty} {I : β → Out}
/-- the name in the i-th place -/
theorem vL (i : Nat) {x : Str} (hN : X.N[i]? = some x) (hv : X.env.scope.names.lookup x = some .local) (hd : ((x == ("__debug__" : Str)) || (x == ("__classdict__" : Str))) = false) : PE X (.Name x p) (tVar i) :=
  pv i hN (.inl hv) ((Bool.or_eq_false_iff.mp hd).1) ((Bool.or_eq_false_iff.mp hd).2)
theorem vC (i : Nat) {x : Str} (hN : X.N[i]? = some x) (hv : X.env.scope.names.lookup x = some .cell) (hd : ((x == ("__debug__" : Str)) || (x == ("__classdict__" : Str))) = false) : PE X (.Name x p) (tVar i) :=
  pv i hN (.inr (.inl hv)) ((Bool.or_eq_false_iff.mp hd).1) ((Bool.or_eq_false_iff.mp hd).2)
theorem vF (i : Nat) {x : Str} (hN : X.N[i]? = some x) (hv : X.env.scope.names.lookup x = some .free) (hd : ((x == ("__debug__" : Str)) || (x == ("__classdict__" : Str))) = false) : PE X (.Name x p) (tVar i) :=
  pv i hN (.inr (.inr hv)) ((Bool.or_eq_false_iff.mp hd).1) ((Bool.or_eq_false_iff.mp hd).2)
/-- name = e -/
theorem b_set (i : Nat) {x : Str} {me : Mx r.den} {k : r.den → Mx β} {pos' : Pos} (he : ER X W Γv e r me) (vw : Vw Γ r Γv) (hr : ∀ x, BS X W hk (Γ.set i (slotOf r x)) rest (k x) I) (hN : X.N.Nodup) (hi : X.N[i]? = some x) (hl : Loc X.env.scope x) (hf : X.fn x = true ∨ X.env.scope.names.lookup x = some .local)
    (hb : Nat.ble (i + 1) Γ.length = true) (hn : hk.contains i = false) (hs : swapsWith e (some (.Name x pos')) pos.line X.env = pure false) : BS X W hk Γ (.Assign [.Name x pos'] e pos :: rest) (me >>= k) I :=
  bs_set (i := i) (ps_set hN hi hl he hs hf) vw hr (Nat.le_of_ble_eq_true hb) (fun h => by rw [List.contains_iff_mem.mpr h] at hn; cases hn)
/-- name = a new list, from now on data -/
theorem b_setF (i : Nat) {x : Str} {o : Ow} {me : Mx o.ty.den} {k : o.ty.den → Mx β} {pos' : Pos} (he : EO X W Γv e o me) (vw : Vw Γ (.o o) Γv) (hr : ∀ x, BS X W hk (Γ.set i (.d o.ty x)) rest (k x) I) (hN : X.N.Nodup) (hi : X.N[i]? = some x) (hl : Loc X.env.scope x) (hf : X.fn x = true ∨ X.env.scope.names.lookup x = some .local)
    (hb : Nat.ble (i + 1) Γ.length = true) (hn : hk.contains i = false) (hs : swapsWith e (some (.Name x pos')) pos.line X.env = pure false) : BS X W hk Γ (.Assign [.Name x pos'] e pos :: rest) (me >>= k) I :=
  b_set (r := .o o) i he vw (fun y => bs_freeze i (o := o) (x := y) (List.getElem?_set_self (Nat.le_of_ble_eq_true hb)) (by rw [List.set_set]; exact hr y)) hN hi hl hf hb hn hs
/-- return e at the end of a def -/
theorem b_ret {me : Mx r.den} (he : ER X W Γv e r me) (vw : Vw Γ r Γv) : BS X W hk Γ (.Return (some e) pos :: rest) me (fun y => .rt r y) :=
  bs_cast (bs_ret (b := fun x => x) he vw (fun _ => rfl)) (Mx.ok_right me)
theorem all_ix {is hk : List Nat} {Γ : Ctx} (h : is.all (fun i => Nat.ble (i + 1) Γ.length && !(hk.contains i)) = true) : ∀ i ∈ is, i < Γ.length ∧ i ∉ hk := fun i hi => by
  have := List.all_eq_true.mp h i hi
  rw [Bool.and_eq_true] at this
  exact ⟨Nat.le_of_ble_eq_true this.1, fun z => by rw [List.contains_iff_mem.mpr z] at this; exact absurd this.2 (by simp)⟩
theorem mark_ne (b : Expr) : behindInMarks .NotEq b = false := nomark b
theorem mark_of {op : CmpOp} (b : Expr) (h : (match op with | .In => false | .NotIn => false | _ => true) = true) : behindInMarks op b = false := nomark b (fun z => by subst z; cases h) (fun z => by subst z; cases h)
theorem e_cast {me me' : Mx r.den} (h : ER X W Γ e r me) (q : me = me') : ER X W Γ e r me' := q ▸ h
theorem t_cast {me me' : Mx Bool} (h : ET X W Γ e me) (q : me = me') : ET X W Γ e me' := q ▸ h
theorem ts_cast {es : List Expr} {me me' : Mx Bool} (h : ETs X W Γ es me) (q : me = me') : ETs X W Γ es me' := q ▸ h
theorem bs_brk {b : β} (hI : I b = .bk Γ') (w : Wk Γ' Γ) : BS X W hk Γ (.Break pos :: rest) (.ok b) I := pss_imp (pss_cons ps_break pss_never) fun D σ H ⟨E, F, h, g, q⟩ => by
  have q : outP X.K X.mg E D (I b) := q
  rw [hI] at q
  exact q σ F H (g.weak w)
/-- if c: A (which leaves); the rest -/
theorem bs_ifL {mc : Mx Bool} {mA : Mx γ} {m : Mx β} {A : List Stmt} {I' : γ → Out} (j : γ → β) (hc : ET X W Γ c mc) (hA : BS X W hk Γ A mA I') (hr : BS X W hk Γ rest m I) (hI : ∀ b, I (j b) = I' b) (hs : ∀ b, (I' b).stays = false) : BS X W hk Γ (.If c A [] pos :: rest) (mc >>= fun x => if x then mA >>= fun r => .ok (j r) else m) I :=
  pss_imp (pss_cons (ps_if hc hA pss_nil) hr) fun D σ H ⟨E, F, h, g, q⟩ => by
    obtain ⟨G, g1, g2, g3⟩ := g.look (r := .d .bool) (.all rfl)
    refine ⟨G, g1, g2, q.bind.post g (fun F' H' x => let ⟨F2, a, _, b⟩ := g3 F' H' x; ⟨F2, a, b⟩) fun x px F' H' ex => ?_⟩
    obtain ⟨F2, x2, back, _⟩ := g3 F' H' ex
    cases x with
    | true =>
      refine ⟨E, F2, h, g.grow x2, postS.mono (postS.bind px) fun b qb => ?_⟩
      have qb : outP X.K X.mg E D (I (j b)) := qb
      rw [hI] at qb
      have hx := hs b
      cases e : I' b with
      | nx Γ => rw [e] at hx; cases hx
      | rt r y => rw [e] at qb; exact qb
      | bk Γ => rw [e] at qb; exact qb
      | rs t y o2 x2 => rw [e] at qb; exact qb
      | ct Γ => rw [e] at qb; exact qb
    | false => exact ⟨E, F2, h, g.grow x2, px⟩
/-- how often a while may turn, at most -/
@[irreducible] def fuel : Nat := 1000000
/-- the name of a built-in type -/
theorem n_ty {x : Str} {T' : String} (hg : Gl X x) (hm : X.mg x = none) (hv : bootBuiltins x = some (.type T')) (hn : x ≠ "__name__") (hd : (x == ("__debug__" : Str)) = false) : PE X (.Name x p) (tC (.ty T')) := pe_bltn hg hm hv rfl hn hd
/-- a look at a comprehension's scope -/
def blkC (N : List Str) (sc scope : Scope) (own : List (Str × Nat)) : Bool :=
  decide (scope.kind = .function) && scope.names.all (fun y => decide (scope.names.lookup y.1 = some y.2)) && own.all (fun p => decide (N[p.2]? = some p.1)) &&
  scope.names.all (fun y => !decide (y.2 = .free) || (decide (sc.names.lookup y.1 = some .cell) || decide (sc.names.lookup y.1 = some .free))) &&
  scope.names.all (fun y => !(decide (y.2 = .local) || decide (y.2 = .cell)) || (decide (y.1 ∈ own.map (·.1)) || decide (y.1 ∉ N)))
theorem blk_by (N : List Str) (sc : Scope) {scope : Scope} {own : List (Str × Nat)} (h : blkC N sc scope own = true) : BlkOk N sc scope own := by
  unfold blkC at h
  simp only [Bool.and_eq_true, decide_eq_true_eq, List.all_eq_true, Bool.or_eq_true, Bool.not_eq_true', decide_eq_false_iff_not, Bool.or_eq_false_iff] at h
  obtain ⟨⟨⟨⟨h1, h2⟩, h3⟩, h4⟩, h5⟩ := h
  refine ⟨h1, h2, h3, fun y hy e => (h4 y hy).resolve_left fun z => z e, fun y hy e => (h5 y hy).resolve_left fun z => ?_⟩
  rcases e with e | e
  · exact z.1 e
  · exact z.2 e
/-- a value that may be None, where it is none -/
def getO {α : Type} : Option α → Mx α
  | some x => .ok x
  | none => .no
theorem e_get {m : Mx (Option t.den)} (ha : EM X W Γ a (.opt t) m) : EM X W Γ a t (m >>= getO) := pe_imp ha fun σ H Q ⟨F, s, d, p⟩ => ⟨F, s, d, p.bind.mono fun x px v F1 H1 e1 r1 => by
  cases x with
  | none => exact px.elim
  | some y => exact px v F1 H1 e1 r1.2⟩
end
end Gm
namespace Gm
open PySem PySem.Spec L2
open PyProof.Rows (envOfC)
theorem fn_bodyD {P : Program} {w : World} {K : PySem.W.Frag} {mg : Str → Option Value} {base : Heap} {x qual : Str} {st : Stmt} {f : Addr} {fd : FuncData} {dvs : List V} {kws : List (Str × V)} {N ps : List Str} {k : Nat} {ts : Ty} {r : Rt} {g : ts.den → Mx r.den} (F : FunD K x qual (defArgs st) (defBody st) (defScope st) dvs kws f fd) (S : FnScope N ps (defScope st)) (ha : ts.args = some ps.length)
    (hb : ∀ (cdv : Value) (A : Around) (outer : List Env) (s : Shared) (H : Hp) (E : XK), Room k (A.deeper (envOfC qual (defScope st) s.heap.objs.size f cdv)) → Takes (cxOf (L2.CX P w) P w K mg base N qual (defScope st) f cdv A outer s H E) (fun cls d _ H => E cls d H) →
      PassesOwn (model P w) (A.deeper (envOfC qual (defScope st) s.heap.objs.size f cdv)) (envOfC qual (defScope st) s.heap.objs.size f cdv) (cxOf (L2.CX P w) P w K mg base N qual (defScope st) f cdv A outer s H E).xe →
      ∀ x : ts.den, BS (cxOf (L2.CX P w) P w K mg base N qual (defScope st) f cdv A outer s H E) (fun cls d _ H => E cls d H) [] (ctx0 ts x (N.length - ps.length)) (defBody st) (g x) (fun y => .rt r y)) :
    FnOk P w K mg base (L2.CX P w) (k + 1) f fd ps (spF K mg ts r g) := by
  refine F.ok S (fun vs H Q E h => ?_) (fun cdv A outer s H vs Q E hr h => ?_)
  · obtain ⟨G, y, hs, rr, _⟩ := h
    exact (args_len ha rr).1
  · obtain ⟨G, y, hs, rr, q⟩ := h
    refine ⟨_, hb cdv A outer s H E hr (takes_of rfl rfl rfl rfl) (passes_of rfl) y, ⟨G, H, [], L2.start N vs⟩, G, rfl, sg_start hs ha rr, ?_⟩
    cases e : g y with
    | no => rw [e] at q; exact q
    | ex z => rw [e] at q; exact fun cls d σ F' H' x _ r => q cls d F' H' x r
    | ok z => rw [e] at q; exact fun v F' H' x r => q v F' H' x r
/-- the law's promise -/
def spL (K : PySem.W.Frag) (n : Nat) : Sp := fun vs H Q _ => ∃ (a : Addr) (ns : List Int), vs = [.ref a] ∧ SqL K H a (ns.map V.int) ∧ ns.length ≤ n ∧ ∀ H', Q (.bl true) H'
theorem spL_imp {K : PySem.W.Frag} {mg : Str → Option Value} {f : List Int → Mx Bool} {n : Nat} (h : ∀ ns : List Int, ns.length ≤ n → f ns = .ok true) (vs : List V) (H : Hp) (Q : VK) (E : XK) (q : spL K n vs H Q E) : spF K mg (.pr .scr .nl) (.d .bool) (fun x => f x.1) vs H Q E := by
  obtain ⟨a, ns, rfl, hs, hl, k⟩ := q
  refine ⟨H, (ns, ()), Same.refl H, ⟨.ref a, [], rfl, ⟨a, rfl, hs⟩, rfl⟩, ?_⟩
  simp only [h ns hl]
  intro v F' H' x r
  cases (List.cons.inj (show [v] = _ from r)).1
  exact k H'
theorem cx_end {P : Program} {w : World} (H : Hp) (s : Shared) (e : Value) (s' : Shared) (h : L2.CX P w [] H s (fun _ _ _ => False) e s') : False := by
  obtain ⟨_, _, _, _, _, _, _, _, _, _, _, _, z⟩ := h
  exact z
/-- the end of a law whose promise hangs on the world -/
theorem walk_w {l : PySem.W.OpenLaw} {n k : Nat} {q : Program} {loose : List Str} {XP : (Str → Option Value) → Heap → Prop} {YP : World → Heap → Prop} {d : DefRec} {CX : World → CXT} {x : Str}
    (hn : l.most = some n) (hn2 : n ≤ sizeLine) (hdf : d.params.defaults = []) (hr : Room k PySem.callerA)
    (F : ∀ (w : World) (mg : Str → Option Value) (fa : Addr) (h : Heap), YP w h → h.Ns mainGlobals mg → mg d.name = some (.ref fa) →
      ∃ (K : PySem.W.Frag) (fd : FuncData) (sp : Sp), K.In h ∧ (∀ (s : Shared) (u : Value), BindsTo s fd ⟨[u], []⟩ [(x, u)]) ∧
        (∀ (H : Hp) (a : Addr) (ns : List Int), ns.length ≤ n → Only H → SqL K H a (ns.map V.int) → sp [.ref a] H (fun v _ => v = .bl true) fun _ _ _ => False) ∧
        ∀ base : Heap, K.In base → base.Ns mainGlobals mg → FnOk l.prog w K mg base (CX w) k fa fd [x] sp)
    (hCX : ∀ (w : World) (H : Hp) (s : Shared) (e : Value) (s' : Shared), CX w [] H s (fun _ _ _ => False) e s' → False) :
    PySem.W.WalkO q loose XP YP l.row.toRowW d [] (fun f vs => PySem.call f vs) := by
  refine Att.attach_call hn hdf fun w s0 s1 mg mb fa o pm cd doc a vs ns G Y ho hd hcd hmg hobj hints hlen hg => ?_
  obtain ⟨K, fd, sp, KX, hb, hsp, hF⟩ := F w mg fa _ Y G.T.g hmg
  exact law_call KX G.T.g G.T.b G.T.builtins G.T.nolimit hg hobj hints (Nat.le_trans hlen hn2) hr hF hb (fun H hO hS => hsp H a ns hlen hO hS) fun H e s' => hCX w H s1 e s'
end Gm
set_option Elab.async false
set_option linter.all false
set_option maxRecDepth 100000
set_option maxHeartbeats 4000000
namespace Gm
open PySem PySem.Spec L2

section
variable {X : Cx} {W : WX} {Γ : Ctx} {a b c e tg : Expr} {pos p : Pos} {t : Ty} {F H : Hp} {m1 m2 m3 : Mx Int} {op op' : CmpOp} {p1 p2 : Int → Int → Bool}
/-! ## a op1 b op2 c, of whole numbers -/
theorem chain_read : ∀ σ H Q, tR X.mg X.K W Γ (.d .bool) (m1 >>= fun x => m2 >>= fun y => if p1 x y then m3 >>= fun z => .ok (p2 y z) else .ok false) σ H Q →
    tChain (rI0 fun i j => .bl (p1 i j)) (rI0 fun i j => .bl (p2 i j)) (tR X.mg X.K W Γ (.d .int) m1) (tR X.mg X.K W Γ (.d .int) m2) (tR X.mg X.K W Γ (.d .int) m3) σ H Q := fun σ H Q ⟨F, s, d, q⟩ =>
  ⟨F, s, d, q.bind.mono fun x px v F1 H1 e1 r1 => ⟨F1, e1.i, d.mono e1.f, post.ext e1 px.bind fun y py w F2 H2 e2 r2 => by
    cases (List.cons.inj (show [v] = _ from r1)).1
    cases (List.cons.inj (show [w] = _ from r2)).1
    refine ⟨x, y, rfl, rfl, p1 x y, rfl, ?_⟩
    by_cases hp : p1 x y = true
    · rw [if_pos hp] at py ⊢
      refine ⟨F2, e2.i, d.mono (e1.f.trans e2.f), post.ext (e1.trans e2) py.bind fun z pz u F3 H3 e3 r3 => ?_⟩
      cases (List.cons.inj (show [u] = _ from r3)).1
      exact ⟨y, z, rfl, rfl, pz _ F3 H3 ((e1.trans e2).trans e3) rfl⟩
    · rw [if_neg hp] at py ⊢
      exact py _ F2 H2 (e1.trans e2) rfl⟩⟩
theorem e_chain (ho : OpR X (compareOp op) (rI0 fun i j => .bl (p1 i j))) (ho' : OpR X (compareOp op') (rI0 fun i j => .bl (p2 i j))) (hm : lastMarks [op, op'] [b, c] = false) (ha : EM X W Γ a .int m1) (hb : EM X W Γ b .int m2) (hc : EM X W Γ c .int m3) :
    EM X W Γ (.Compare a [op, op'] [b, c] pos) .bool (m1 >>= fun x => m2 >>= fun y => if p1 x y then m3 >>= fun z => .ok (p2 y z) else .ok false) := pe_imp (pe_chain ho ho' ha hb hc hm) chain_read
theorem t_chain (ho : OpR X (compareOp op) (rI0 fun i j => .bl (p1 i j))) (ho' : OpR X (compareOp op') (rI0 fun i j => .bl (p2 i j))) (hm : lastMarks [op, op'] [b, c] = false) (ha : EM X W Γ a .int m1) (hb : EM X W Γ b .int m2) (hc : EM X W Γ c .int m3) :
    ET X W Γ (.Compare a [op, op'] [b, c] pos) (m1 >>= fun x => m2 >>= fun y => if p1 x y then m3 >>= fun z => .ok (p2 y z) else .ok false) := pt_imp (pt_chain ho ho' ha hb hc hm) fun σ H Q ⟨F, s, d, q⟩ =>
  chain_read σ H _ ⟨F, s, d, q.mono fun x px v F1 H1 e1 r1 => by
    cases (List.cons.inj (show [v] = _ from r1)).1
    exact ⟨x, rfl, px F1 H1 e1⟩⟩
/-! ## in -/
def inSO (x z : Str) : Option Bool := match x.cps.toList with
  | [k] => some (decide (k ∈ z.cps.toList))
  | _ => none
theorem inSO_eq {x z : Str} {r : Bool} (h : inSO x z = some r) : ∃ k, x = ⟨#[k]⟩ ∧ r = decide (k ∈ z.cps.toList) := by
  unfold inSO at h
  split at h
  · rename_i k e
    refine ⟨k, ?_, (Option.some.inj h).symm⟩
    obtain ⟨⟨l⟩⟩ := x
    simp at e
    subst e; rfl
  · cases h
theorem c_inS {m1 m2 : Mx Str} (ha : EM X W Γ a .str m1) (hb : EM X W Γ b .str m2) : EC X W Γ .In a b (m1 >>= fun x => m2 >>= fun y => ofO (inSO x y)) := c_op (t1 := .str) (t2 := .str) (g := inSO) op_in_sign (fun x y z e v w F H Q s r1 r2 k => by
  cases (List.cons.inj (show [v] = _ from r1)).1
  cases (List.cons.inj (show [w] = _ from r2)).1
  obtain ⟨q, rfl, rfl⟩ := inSO_eq e
  exact ⟨q, y, rfl, rfl, k⟩) ha hb
theorem c_ninS {m1 m2 : Mx Str} (ha : EM X W Γ a .str m1) (hb : EM X W Γ b .str m2) : EC X W Γ .NotIn a b (m1 >>= fun x => m2 >>= fun y => ofO ((inSO x y).map fun r => !r)) := c_op (t1 := .str) (t2 := .str) (g := fun x y => (inSO x y).map fun r => !r) op_notIn_sign (fun x y z e v w F H Q s r1 r2 k => by
  cases (List.cons.inj (show [v] = _ from r1)).1
  cases (List.cons.inj (show [w] = _ from r2)).1
  cases h : inSO x y with
  | none => rw [h] at e; cases e
  | some r =>
    rw [h] at e
    cases (Option.some.inj e)
    obtain ⟨q, rfl, rfl⟩ := inSO_eq h
    exact ⟨q, y, rfl, rfl, k⟩) ha hb
theorem inV_strs {x : Str} : ∀ {xs : List Str}, inV (.str x) (xs.map V.str) = decide (x ∈ xs)
  | [] => by simp [inV]
  | y :: ys => by
    have ih := inV_strs (x := x) (xs := ys)
    unfold inV at ih ⊢
    rw [List.map_cons, List.any_cons, ih]
    show ((y == x) || decide (x ∈ ys)) = _
    by_cases h : x = y
    · subst h; simp
    · rw [show (y == x) = false from beq_eq_false_iff_ne.mpr (Ne.symm h), Bool.false_or]
      by_cases h2 : x ∈ ys
      · rw [decide_eq_true h2, decide_eq_true (List.mem_cons_of_mem _ h2)]
      · rw [decide_eq_false h2, decide_eq_false fun z => (List.mem_cons.mp z).elim h h2]
theorem inV_ints {x : Int} : ∀ {xs : List Int}, inV (.int x) (xs.map V.int) = decide (x ∈ xs)
  | [] => by simp [inV]
  | y :: ys => by
    have ih := inV_ints (x := x) (xs := ys)
    unfold inV at ih ⊢
    rw [List.map_cons, List.any_cons, ih]
    show ((y == x) || decide (x ∈ ys)) = _
    by_cases h : x = y
    · subst h; simp
    · rw [show (y == x) = false from beq_eq_false_iff_ne.mpr (Ne.symm h), Bool.false_or]
      by_cases h2 : x ∈ ys
      · rw [decide_eq_true h2, decide_eq_true (List.mem_cons_of_mem _ h2)]
      · rw [decide_eq_false h2, decide_eq_false fun z => (List.mem_cons.mp z).elim h h2]
/-- a flat item's code -/
inductive Fi : (t : Ty) → (t.den → V) → Prop
  | str : Fi .str V.str
  | int : Fi .int V.int
theorem fi_all {K : PySem.W.Frag} {mg : Str → Option Value} {f : t.den → V} (hf : Fi t f) {xs : List t.den} {ws : List V} (h : all2 (fun y v => rl K mg t y [v] F) xs ws) : ws = xs.map f ∧ ws.all flatV = true := by
  cases hf with
  | str =>
    refine ⟨all2_strs h, ?_⟩
    rw [all2_strs h, List.all_map]; exact List.all_eq_true.mpr fun _ _ => rfl
  | int =>
    refine ⟨all2_ints h, ?_⟩
    rw [all2_ints h, List.all_map]; exact List.all_eq_true.mpr fun _ _ => rfl
theorem fi_in {f : t.den → V} (hf : Fi t f) [DecidableEq t.den] {x : t.den} {xs : List t.den} : inV (f x) (xs.map f) = decide (x ∈ xs) := by
  cases hf with
  | str => rw [inV_strs]; exact decide_eq_decide.mpr Iff.rfl
  | int => rw [inV_ints]; exact decide_eq_decide.mpr Iff.rfl
theorem fi_one {K : PySem.W.Frag} {mg : Str → Option Value} {f : t.den → V} (hf : Fi t f) {x : t.den} {v : V} (r : rl K mg t x [v] F) : v = f x ∧ flatV v = true := by
  cases hf with
  | str => cases (List.cons.inj (show [v] = _ from r)).1; exact ⟨rfl, rfl⟩
  | int => cases (List.cons.inj (show [v] = _ from r)).1; exact ⟨rfl, rfl⟩
theorem c_inL [DecidableEq t.den] {f : t.den → V} {m1 : Mx t.den} {m2 : Mx (List t.den)} (hf : Fi t f) (ha : EM X W Γ a t m1) (hb : EM X W Γ b (.list t) m2) : EC X W Γ .In a b (m1 >>= fun x => m2 >>= fun y => .ok (decide (x ∈ y))) := c_op (t1 := t) (t2 := .list t) (g := fun x y => some (decide (x ∈ y))) op_in_seq (fun x y z e v w F H Q s r1 r2 k => by
  cases e
  obtain ⟨p, ws, e2, sq, rr⟩ := r2
  cases (List.cons.inj e2).1
  obtain ⟨e3, fl⟩ := fi_all hf rr
  obtain ⟨e4, fv⟩ := fi_one hf r1
  refine ⟨p, ws, rfl, .inl (SqL.of (s _ _ sq)), fv, fl, ?_⟩
  rw [e3, e4, fi_in hf]
  exact k) ha hb
theorem c_ninL [DecidableEq t.den] {f : t.den → V} {m1 : Mx t.den} {m2 : Mx (List t.den)} (hf : Fi t f) (ha : EM X W Γ a t m1) (hb : EM X W Γ b (.list t) m2) : EC X W Γ .NotIn a b (m1 >>= fun x => m2 >>= fun y => .ok (!decide (x ∈ y))) := c_op (t1 := t) (t2 := .list t) (g := fun x y => some (!decide (x ∈ y))) op_notIn_seq (fun x y z e v w F H Q s r1 r2 k => by
  cases e
  obtain ⟨p, ws, e2, sq, rr⟩ := r2
  cases (List.cons.inj e2).1
  obtain ⟨e3, fl⟩ := fi_all hf rr
  obtain ⟨e4, fv⟩ := fi_one hf r1
  refine ⟨p, ws, rfl, .inl (SqL.of (s _ _ sq)), fv, fl, ?_⟩
  rw [e3, e4, fi_in hf]
  exact k) ha hb
theorem c_inT [DecidableEq t.den] {f : t.den → V} {m1 : Mx t.den} {m2 : Mx (List t.den)} (hf : Fi t f) (ha : EM X W Γ a t m1) (hb : EM X W Γ b (.vtup t) m2) : EC X W Γ .In a b (m1 >>= fun x => m2 >>= fun y => .ok (decide (x ∈ y))) := c_op (t1 := t) (t2 := .vtup t) (g := fun x y => some (decide (x ∈ y))) op_in_seq (fun x y z e v w F H Q s r1 r2 k => by
  cases e
  obtain ⟨p, ws, e2, sq, rr⟩ := r2
  cases (List.cons.inj e2).1
  obtain ⟨e3, fl⟩ := fi_all hf rr
  obtain ⟨e4, fv⟩ := fi_one hf r1
  refine ⟨p, ws, rfl, .inr (sqT_same s sq), fv, fl, ?_⟩
  rw [e3, e4, fi_in hf]
  exact k) ha hb
theorem c_ninT [DecidableEq t.den] {f : t.den → V} {m1 : Mx t.den} {m2 : Mx (List t.den)} (hf : Fi t f) (ha : EM X W Γ a t m1) (hb : EM X W Γ b (.vtup t) m2) : EC X W Γ .NotIn a b (m1 >>= fun x => m2 >>= fun y => .ok (!decide (x ∈ y))) := c_op (t1 := t) (t2 := .vtup t) (g := fun x y => some (!decide (x ∈ y))) op_notIn_seq (fun x y z e v w F H Q s r1 r2 k => by
  cases e
  obtain ⟨p, ws, e2, sq, rr⟩ := r2
  cases (List.cons.inj e2).1
  obtain ⟨e3, fl⟩ := fi_all hf rr
  obtain ⟨e4, fv⟩ := fi_one hf r1
  refine ⟨p, ws, rfl, .inr (sqT_same s sq), fv, fl, ?_⟩
  rw [e3, e4, fi_in hf]
  exact k) ha hb
/-! ## a text walked, a list with its places -/
def signs (x : Str) : List Str := x.cps.toList.map fun k => ⟨#[k]⟩
theorem wlk_str {K : PySem.W.Frag} {mg : Str → Option Value} {x : Str} (F : Hp) : Wlk K mg .str (Its x) (signs x) F := by
  have hl : (signs x).length = x.cps.size := by simp [signs]
  refine ⟨fun i H _ h => by rw [hl] at h; exact h, fun i H _ h => by rw [hl] at h; exact h, fun i H v H3 s hi y => ?_⟩
  obtain ⟨rfl, k, hk, rfl⟩ := y
  refine ⟨⟨#[k]⟩, ?_, fun G g1 g2 => ⟨G, Ext.refl g2, rfl⟩⟩
  unfold signs
  rw [List.getElem?_map]
  have e : x.cps.toList[i]? = some k := by simpa using hk
  rw [e]; rfl
theorem i_str {m : Mx Str} (ha : EM X W Γ a .str m) : EI X W Γ tg a .str (m >>= fun x => .ok (signs x)) := pi_imp (pi_str ha) fun σ H R ⟨F, s, d, q⟩ => ⟨F, s, d, q.bind.mono fun x px v F1 H1 e1 r1 => by
  cases (List.cons.inj (show [v] = _ from r1)).1
  exact ⟨x, rfl, px F1 H1 _ e1 (wlk_str F1)⟩⟩
theorem r_str {m : Mx Str} (ha : EM X W Γ a .str m) : EIR X W Γ tg a .str (m >>= fun x => .ok (signs x)) := pi_imp (pi_str ha) fun σ H R ⟨F, s, d, q⟩ => ⟨F, s, d, q.bind.mono fun x px v F1 H1 e1 r1 => by
  cases (List.cons.inj (show [v] = _ from r1)).1
  exact ⟨x, rfl, px F1 H1 _ e1 (fun G => wlk_str G)⟩⟩
def enumL {α : Type} (xs : List α) : List (Int × α) := (List.range xs.length).zipWith (fun (i : Nat) x => ((i : Int), x)) xs
theorem enumL_len {α : Type} {xs : List α} : (enumL xs).length = xs.length := by simp [enumL]
theorem enumL_get {α : Type} {xs : List α} {i : Nat} {x : α} (h : xs[i]? = some x) : (enumL xs)[i]? = some ((i : Int), x) := by
  have hi : i < xs.length := (List.getElem?_eq_some_iff.mp h).1
  unfold enumL
  rw [List.getElem?_zipWith, List.getElem?_range hi, h]
theorem i_enumL {elts : List Expr} {kk : Nat} {tpos : Pos} {m : Mx (List t.den)} (hg : Gl X "enumerate") (hm : X.mg "enumerate" = none) (ha : EM X W Γ a (.list t) m) (ht : t.sing = true) (hs : starEach [a] X.env = [(false, eval a X.env)]) :
    EI X W Γ (.Tuple elts kk tpos) (.Call (.Name "enumerate" p) [a] [] pos) (.tup (.pr .int t)) (m >>= fun xs => .ok (enumL xs)) :=
  pi_imp (pi_enum hg hm (ea_one ha hs) hs) fun σ H R ⟨F, s, d, q⟩ => ⟨F, s, d, q.bind.mono fun x px vs F1 H1 e1 r1 => by
    obtain ⟨l, ws, e, sq, rr⟩ := r1
    refine ⟨l, ws, e, SqL.of (e1.i _ _ sq), px F1 H1 _ e1 ⟨fun i H s hi => ?_, fun i H s hi => ⟨ws, SqL.of (s _ _ sq), by rw [← rr.len, ← enumL_len]; exact hi⟩, fun i H v H3 s hi y => ?_⟩⟩
    · rw [enumL_len] at hi
      obtain ⟨v, h1, _⟩ := rr.get (List.getElem?_eq_getElem hi)
      exact ⟨ws, v, SqL.of (s _ _ sq), h1⟩
    · obtain ⟨T, z, rfl, nT, rfl, f⟩ := y
      obtain ⟨y, h1, h2⟩ := rr.getV (f ws (SqL.of (s _ _ sq)))
      refine ⟨((i : Int), y), enumL_get h1, fun G g1 g2 => ?_⟩
      have e2 := Ext.new (o := .tup [.int (i : Nat), z]) g2 nT
      exact ⟨_, e2, T, _, rfl, SqT.of upd_same, .int (i : Nat), [z], rfl, rfl, rl_mono (g1.trans e2.f) t y [z] h2⟩⟩
end
end Gm
set_option Elab.async false
set_option linter.all false
set_option maxRecDepth 100000
set_option maxHeartbeats 4000000
namespace Gm
open PySem PySem.Spec L2
open PyProof.Rows (envOfC)

/-! ## attributes -/
def fidx : List Str → Str → Option Nat
  | [], _ => none
  | g :: r, f => if f = g then some 0 else (fidx r f).map (· + 1)
theorem lookup_fidx {f : Str} {v : V} : ∀ {ns : List Str} {ws : List V} {n : Nat}, fidx ns f = some n → ws[n]? = some v → (ns.zip ws).lookup f = some v
  | [], _, _, h, _ => nomatch h
  | g :: r, [], _, _, h => by simp at h
  | g :: r, w :: ws, n, h, h2 => by
    have h : (if f = g then some 0 else (fidx r f).map (· + 1)) = some n := h
    rw [List.zip_cons_cons, List.lookup_cons]
    by_cases e : f = g
    · rw [if_pos e] at h
      cases h
      rw [show (f == g) = true from beq_iff_eq.mpr e]
      simpa using h2
    · rw [if_neg e] at h
      rw [show (f == g) = false from beq_eq_false_iff_ne.mpr e]
      cases h3 : fidx r f with
      | none => rw [h3] at h; cases h
      | some m =>
        rw [h3] at h
        cases h
        exact lookup_fidx (ns := r) h3 (by simpa using h2)
theorem putF_new {f : Str} {v : V} : ∀ {ns : List Str} {ws : List V}, fidx ns f = none → ns.length = ws.length → putF f v (ns.zip ws) = (ns ++ [f]).zip (ws ++ [v])
  | [], [], _, _ => rfl
  | [], _ :: _, _, h => by cases h
  | _ :: _, [], _, h => by cases h
  | g :: r, w :: ws, h, hl => by
    have h : (if f = g then some 0 else (fidx r f).map (· + 1)) = none := h
    have e : ¬ f = g := fun e => by rw [if_pos e] at h; cases h
    rw [if_neg e] at h
    have h3 : fidx r f = none := by
      cases h3 : fidx r f with
      | none => rfl
      | some m => rw [h3] at h; cases h
    show putF f v ((g, w) :: r.zip ws) = (g, w) :: (r ++ [f]).zip (ws ++ [v])
    rw [← putF_new h3 (Nat.succ.inj hl)]
    exact if_neg (fun z => e z.symm)
theorem putF_old {f : Str} {v : V} : ∀ {ns : List Str} {ws : List V} {n : Nat}, fidx ns f = some n → ns.length = ws.length → putF f v (ns.zip ws) = ns.zip (ws.set n v)
  | [], _, _, h, _ => nomatch h
  | _ :: _, [], _, _, h => by cases h
  | g :: r, w :: ws, n, h, hl => by
    have h : (if f = g then some 0 else (fidx r f).map (· + 1)) = some n := h
    by_cases e : f = g
    · rw [if_pos e] at h
      cases h
      subst e
      exact if_pos rfl
    · rw [if_neg e] at h
      cases h3 : fidx r f with
      | none => rw [h3] at h; cases h
      | some m =>
        rw [h3] at h
        cases h
        show putF f v ((g, w) :: r.zip ws) = (g, w) :: r.zip (ws.set m v)
        rw [← putF_old h3 (Nat.succ.inj hl)]
        exact if_neg (fun z => e z.symm)
section
variable {X : Cx} {W : WX} {hk : List Nat} {Γ Γ' Γv : Ctx} {st : Stmt} {rest : List Stmt} {a b e : Expr} {es : List Expr} {pos p p' apos : Pos} {β : Type} {r : Rt} {t : Ty} {I : β → Out} {c f : Str} {ns : List Str} {C : Addr} {n : Nat}
theorem e_attr {fs : Ty} {π : fs.den → t.den} {m : Mx fs.den} (hc : X.mg c = some (.ref C)) (cl : Cls X.K C) (na : NoAttr X.K C f) (hi : fidx ns f = some n) (hf : Fl fs n t π) (ha : EM X W Γ a (.ins c ns fs) m) (hb : attributeBase a f X.env (eval a X.env) = eval a X.env) :
    EM X W Γ (.Attribute a f pos) t (m >>= fun x => .ok (π x)) := pe_imp (pe_fld ha hb) fun σ H Q ⟨F, s, d, q⟩ => ⟨F, s, d, q.bind.mono fun x px v F1 H1 e1 r1 => by
  obtain ⟨q, C', dx, ws, e2, mc, h1, hl, rr⟩ := r1
  rw [hc] at mc; cases mc
  cases (List.cons.inj e2).1
  obtain ⟨u, h2, h3⟩ := hf.at_ rr
  exact ⟨q, C, dx, _, u, rfl, e1.i _ _ h1, cl, na, lookup_fidx hi h2, px u F1 H1 e1 h3⟩⟩
end
/-! ## a field more -/
def Ow.snoc : Ow → Ty → Ow
  | .pr a b, t => .pr a (b.snoc t)
  | .nl, t => .pr (.d t) .nl
  | o, _ => o
def snocV : (o : Ow) → (t : Ty) → o.ty.den → t.den → (o.snoc t).ty.den
  | .pr _ b, t, x, v => (x.1, snocV b t x.2 v)
  | .nl, _, _, v => (v, ())
  | .d _, _, x, _ => x
  | .l _, _, x, _ => x
  | .ins _ _ _, _, x, _ => x
  | .dic _ _, _, x, _ => x
  | .dicN _ _ _ _, _, x, _ => x
  | .opt _, _, x, _ => x
  | .hl _, _, x, _ => x
def Ow.isCh : Ow → Bool
  | .pr _ b => b.isCh
  | .nl => true
  | _ => false
section
variable {K : PySem.W.Frag} {mg : Str → Option Value} {F H : Hp} {t : Ty}
theorem ol_snoc {v : V} {y : t.den} (rv : rl K mg t y [v] F) : ∀ {o : Ow}, o.isCh = true → ∀ {x : o.ty.den} {ws : List V} {fp : List Addr}, ol K mg o x ws F H fp → ol K mg (o.snoc t) (snocV o t x y) (ws ++ [v]) F H fp
  | .nl, _, x, ws, fp, h => by
    obtain ⟨rfl, rfl⟩ := h
    exact ⟨v, [], [], [], rfl, rfl, ⟨rfl, rv⟩, rfl, rfl⟩
  | .pr a b, hc, x, ws, fp, h => by
    obtain ⟨u, r, f1, f2, rfl, rfl, h1, h2⟩ := h
    exact ⟨u, r ++ [v], f1, f2, rfl, rfl, h1, ol_snoc rv (o := b) hc h2⟩
  | .d _, hc, _, _, _, _ => nomatch hc
  | .l _, hc, _, _, _, _ => nomatch hc
  | .ins _ _ _, hc, _, _, _, _ => nomatch hc
  | .dic _ _, hc, _, _, _, _ => nomatch hc
  | .dicN _ _ _ _, hc, _, _, _, _ => nomatch hc
  | .opt _, hc, _, _, _, _ => nomatch hc
  | .hl _, hc, _, _, _, _ => nomatch hc
/-- a data field changed -/
inductive Fu : (o : Ow) → Nat → (t : Ty) → (o.ty.den → t.den → o.ty.den) → Prop
  | hd {t : Ty} {b : Ow} : Fu (.pr (.d t) b) 0 t (fun x v => (v, x.2))
  | tl {a b : Ow} {t : Ty} {n : Nat} {u : b.ty.den → t.den → b.ty.den} (h : Fu b n t u) : Fu (.pr a b) (n + 1) t (fun x v => (x.1, u x.2 v))
theorem Fu.ol_ {o : Ow} {n : Nat} {u : o.ty.den → t.den → o.ty.den} (h : Fu o n t u) {v : V} {y : t.den} (rv : rl K mg t y [v] F) : ∀ {x : o.ty.den} {ws : List V} {fp : List Addr}, ol K mg o x ws F H fp → ol K mg o (u x y) (ws.set n v) F H fp := by
  induction h with
  | hd =>
    intro x ws fp q
    obtain ⟨w, r, f1, f2, rfl, rfl, h1, h2⟩ := q
    obtain ⟨rfl, h1⟩ := h1
    exact ⟨v, r, [], f2, rfl, rfl, ⟨rfl, rv⟩, h2⟩
  | tl h ih =>
    intro x ws fp q
    obtain ⟨w, r, f1, f2, rfl, rfl, h1, h2⟩ := q
    exact ⟨w, _, f1, f2, rfl, rfl, h1, ih rv h2⟩
theorem ol_frm {o : Ow} {x : o.ty.den} {ws : List V} {fp : List Addr} {q : Addr} {ob : HO} (h : ol K mg o x ws F H fp) (nq : q ∉ fp) : ol K mg o x ws F (upd H q ob) fp :=
  ol_frame (Same.refl F) o x ws fp (fun a ha => upd_ne fun z => nq (z ▸ ha)) h
/-- what a slot owns is written -/
theorem SG.writeO {E : Ent} {Γ : Ctx} {σ : L2.St} {i : Nat} {o o' : Ow} {x : o.ty.den} {x' : o'.ty.den} {v : V} {q : Addr} {ob : HO} (g : SG K mg E Γ σ F H) (hi : Γ[i]? = some (.o o x)) (hq : σ[i]? = some (some v))
    (k : ∀ fp : List Addr, fp.Nodup → ol K mg o x [v] F H fp → q ∈ fp ∧ ol K mg o' x' [v] F (upd H q ob) fp) : SG K mg E (Γ.set i (.o o' x')) σ F (upd H q ob) := by
  obtain ⟨e0, kp, fps, w⟩ := g
  obtain ⟨ov, e1, v', rfl, ho⟩ := w.at_ i _ hi
  rw [hq] at e1; cases e1
  have hil : i < Γ.length := (List.getElem?_eq_some_iff.mp hi).1
  obtain ⟨hqi, ho'⟩ := k _ (w.nd i) ho
  have nF : F q = none := (w.new i q hqi).1
  have nB : E.B q = none := (w.new i q hqi).2
  refine ⟨⟨e0.f, fun b z eb => ?_, fun b z eb => ?_, e0.n⟩, kp, fps, fun j s ej => ?_, fun j ej => ?_, w.nd, w.sep, w.new⟩
  · rw [upd_ne (fun y => by rw [y, nB] at eb; cases eb)]; exact e0.h _ _ eb
  · rw [upd_ne (fun y => by rw [y, nF] at eb; cases eb)]; exact e0.i _ _ eb
  · by_cases hj : j = i
    · subst hj
      rw [List.getElem?_set_self hil] at ej
      cases ej
      exact ⟨_, hq, _, rfl, ho'⟩
    · rw [List.getElem?_set_ne (Ne.symm hj)] at ej
      obtain ⟨ov, e1, r'⟩ := w.at_ j s ej
      exact ⟨ov, e1, so_frame (Same.refl _) (fun a ha => upd_ne fun z => w.sep j i hj a ha (by rw [z]; exact hqi)) r'⟩
  · by_cases hj : j = i
    · subst hj
      rw [List.getElem?_set_self hil] at ej; cases ej
    · rw [List.getElem?_set_ne (Ne.symm hj)] at ej
      exact w.out j ej
end
section
variable {X : Cx} {W : WX} {hk : List Nat} {Γ Γ' Γv : Ctx} {st : Stmt} {rest : List Stmt} {a b e : Expr} {es : List Expr} {pos p p' apos : Pos} {β : Type} {r : Rt} {t : Ty} {I : β → Out} {c f x : Str} {ns : List Str} {C : Addr} {n : Nat} {fs : Ow}
/-- self.f = e, a new field -/
theorem b_fld (i : Nat) {y : fs.ty.den} {me : Mx t.den} {k : t.den → Mx β} (hi : Γ[i]? = some (.o (.ins c ns fs) y)) (hx : PE X (.Name x p) (tVar i)) (hc : X.mg c = some (.ref C)) (cl : Cls X.K C) (na : NoAttr X.K C f) (hn : fidx ns f = none) (hch : fs.isCh = true) (hlen : Nat.ble (ns.length + 1) 1000 = true)
    (he : EM X W Γv e t me) (vw : Vw Γ (.d t) Γv) (hr : ∀ v, BS X W hk (Γ.set i (.o (.ins c (ns ++ [f]) (fs.snoc t)) (snocV fs t y v))) rest (k v) I) (hs : swapsWith e (some (.Attribute (.Name x p) f p')) pos.line X.env = pure false) :
    BS X W hk Γ (.Assign [.Attribute (.Name x p) f p'] e pos :: rest) (me >>= k) I :=
  have hr' : PSs X rest (fun D σ H => ∃ v, tS X.K X.mg W hk (Γ.set i (.o (.ins c (ns ++ [f]) (fs.snoc t)) (snocV fs t y v))) (k v) I D σ H) := ⟨fun pins s σ H D J ⟨v, q⟩ => (hr v).run pins s σ H D J q⟩
  pss_imp (pss_cons (ps_fld hx he hs) hr') fun D σ H ⟨E, F, h, g, q⟩ => by
    obtain ⟨fps, w⟩ := g.ow
    obtain ⟨ov, e1, v0, rfl, ho⟩ := w.at_ i _ hi
    obtain ⟨G, g1, g2, g3⟩ := g.look vw
    refine ⟨G, g1, g2, q.bind.post g (fun F' H' x => let ⟨F2, a, _, b⟩ := g3 F' H' x; ⟨F2, a, b⟩) fun z pz u F' H' ex ru => ?_⟩
    obtain ⟨F2, x2, back, _⟩ := g3 F' H' ex
    have ru2 : rl X.K X.mg t z [u] F2 := back z u ru
    obtain ⟨q, C', dx, ws, fp', e2, e3, mc, h1, h2, hl, oo⟩ := ho
    rw [hc] at mc; cases mc
    cases (List.cons.inj e2).1
    refine ⟨.ref q, e1, q, C, dx, ns.zip ws, rfl, x2.h _ _ h1, cl, na, ?_, z, E, F2, h, ?_, pz⟩
    · have := Nat.le_of_ble_eq_true hlen
      rw [List.length_zip, ← hl]; omega
    · rw [putF_new hn hl]
      refine (g.grow x2).writeO hi e1 fun fp nd ho => ?_
      obtain ⟨q', C', dx', ws', fp2, e4, rfl, mc, h3, h4, hl', oo'⟩ := ho
      cases (List.cons.inj e4).1
      rw [hc] at mc; cases mc
      rw [x2.h _ _ h1] at h3
      obtain ⟨_, ed, e5⟩ := HO.ins.inj (Option.some.inj h3)
      subst ed
      have nq : q ∉ dx :: fp2 := (List.nodup_cons.mp nd).1
      have ew : ws = ws' := by
        have := congrArg (List.map Prod.snd) e5
        rwa [List.map_snd_zip (by omega), List.map_snd_zip (by omega)] at this
      subst ew
      refine ⟨List.mem_cons_self .., q, C, dx, ws ++ [u], fp2, rfl, rfl, hc, upd_same, ?_, by rw [List.length_append, List.length_append, hl]; rfl, ol_frm (ol_snoc ru2 hch oo') fun z => nq (List.mem_cons_of_mem _ z)⟩
      rw [upd_ne (fun z => nq (by rw [z]; exact List.mem_cons_self ..))]; exact h4
/-- self.f = e, a field of before -/
theorem b_fldW (i : Nat) {y : fs.ty.den} {u : fs.ty.den → t.den → fs.ty.den} {me : Mx t.den} {k : t.den → Mx β} (hi : Γ[i]? = some (.o (.ins c ns fs) y)) (hx : PE X (.Name x p) (tVar i)) (hc : X.mg c = some (.ref C)) (cl : Cls X.K C) (na : NoAttr X.K C f) (hn : fidx ns f = some n) (hu : Fu fs n t u) (hlen : Nat.ble (ns.length + 1) 1000 = true)
    (he : EM X W Γv e t me) (vw : Vw Γ (.d t) Γv) (hr : ∀ v, BS X W hk (Γ.set i (.o (.ins c ns fs) (u y v))) rest (k v) I) (hs : swapsWith e (some (.Attribute (.Name x p) f p')) pos.line X.env = pure false) :
    BS X W hk Γ (.Assign [.Attribute (.Name x p) f p'] e pos :: rest) (me >>= k) I :=
  have hr' : PSs X rest (fun D σ H => ∃ v, tS X.K X.mg W hk (Γ.set i (.o (.ins c ns fs) (u y v))) (k v) I D σ H) := ⟨fun pins s σ H D J ⟨v, q⟩ => (hr v).run pins s σ H D J q⟩
  pss_imp (pss_cons (ps_fld hx he hs) hr') fun D σ H ⟨E, F, h, g, q⟩ => by
    obtain ⟨fps, w⟩ := g.ow
    obtain ⟨ov, e1, v0, rfl, ho⟩ := w.at_ i _ hi
    obtain ⟨G, g1, g2, g3⟩ := g.look vw
    refine ⟨G, g1, g2, q.bind.post g (fun F' H' x => let ⟨F2, a, _, b⟩ := g3 F' H' x; ⟨F2, a, b⟩) fun z pz v F' H' ex ru => ?_⟩
    obtain ⟨F2, x2, back, _⟩ := g3 F' H' ex
    have ru2 : rl X.K X.mg t z [v] F2 := back z v ru
    obtain ⟨q, C', dx, ws, fp', e2, e3, mc, h1, h2, hl, oo⟩ := ho
    rw [hc] at mc; cases mc
    cases (List.cons.inj e2).1
    refine ⟨.ref q, e1, q, C, dx, ns.zip ws, rfl, x2.h _ _ h1, cl, na, ?_, z, E, F2, h, ?_, pz⟩
    · have := Nat.le_of_ble_eq_true hlen
      rw [List.length_zip, ← hl]; omega
    · rw [putF_old hn hl]
      refine (g.grow x2).writeO hi e1 fun fp nd ho => ?_
      obtain ⟨q', C', dx', ws', fp2, e4, rfl, mc, h3, h4, hl', oo'⟩ := ho
      cases (List.cons.inj e4).1
      rw [hc] at mc; cases mc
      rw [x2.h _ _ h1] at h3
      obtain ⟨_, ed, e5⟩ := HO.ins.inj (Option.some.inj h3)
      subst ed
      have nq : q ∉ dx :: fp2 := (List.nodup_cons.mp nd).1
      have ew : ws = ws' := by
        have := congrArg (List.map Prod.snd) e5
        rwa [List.map_snd_zip (by omega), List.map_snd_zip (by omega)] at this
      subst ew
      refine ⟨List.mem_cons_self .., q, C, dx, ws.set n v, fp2, rfl, rfl, hc, upd_same, ?_, by rw [List.length_set, hl], ol_frm (hu.ol_ ru2 oo') fun z => nq (List.mem_cons_of_mem _ z)⟩
      rw [upd_ne (fun z => nq (by rw [z]; exact List.mem_cons_self ..))]; exact h4
end
/-! ## an instance made -/
section
variable (K : PySem.W.Frag) (mg : Str → Option Value)
/-- what an __init__ promises -/
def spI (c : Str) (ts : Ty) (ns : List Str) (fs : Ow) (f : ts.den → Mx fs.ty.den) : Sp := fun vs H Q E => ∃ (F B : Hp) (x : ts.den) (p dx C : Addr) (vs' : List V), vs = .ref p :: vs' ∧ mg c = some (.ref C) ∧ H = upd (upd B dx (.own p)) p (.ins C dx []) ∧ B p = none ∧ B dx = none ∧ dx ≠ p ∧ Same F B ∧ rl K mg ts x vs' F ∧
  match f x with
  | .ok y => ∀ F' H', Ext F B F' H' → rtr K mg (.o (.ins c ns fs)) y (.ref p) B F' H' → Q .non H'
  | .ex e => ∀ cls d F' H', Ext F B F' H' → xr mg e cls d F' → E cls d H'
  | .no => False
end
section
variable {P : Program} {w : World} {K : PySem.W.Frag} {mg : Str → Option Value} {base : Heap}
def ctxI (c : Str) (ts : Ty) (x : ts.den) (n : Nat) : Ctx := .o (.ins c [] .nl) () :: ctx0 ts x n
def endI (c : Str) (ns : List Str) (fs : Ow) (y : fs.ty.den) (n : Nat) : Ctx := .o (.ins c ns fs) y :: List.replicate n .no
theorem sg_init {F B : Hp} {ts : Ty} {n : Nat} {x : ts.den} {vs : List V} {N : List Str} {c : Str} {p dx C : Addr} (hc : mg c = some (.ref C)) (hs : Same F B) (np : B p = none) (nd : B dx = none) (ne : dx ≠ p) (ha : ts.args = some n) (hN : 1 ≤ N.length) (r : rl K mg ts x vs F) :
    SG K mg ⟨F, B, [0], L2.start N (.ref p :: vs)⟩ (ctxI c ts x (N.length - (n + 1))) (L2.start N (.ref p :: vs)) F (upd (upd B dx (.own p)) p (.ins C dx [])) := by
  obtain ⟨h1, h2, h3⟩ := args_len ha r
  have sB : Same B (upd (upd B dx (.own p)) p (.ins C dx [])) := fun b o e => by
    rw [upd_ne (fun z => by rw [z, np] at e; cases e), upd_ne (fun z => by rw [z, nd] at e; cases e)]; exact e
  refine ⟨⟨Same.refl F, sB, hs.trans sB, fun q _ h => h⟩, fun i hi => rfl, fun j => if j = 0 then [p, dx] else [], fun i s e => ?_, fun i e => ?_, fun i => ?_, fun i j hij a ha => ?_, fun i a ha => ?_⟩
  · cases i with
    | zero =>
      have e : some (Slot.o (.ins c [] .nl) ()) = some s := e
      cases e
      refine ⟨some (.ref p), rfl, .ref p, rfl, p, C, dx, [], [], rfl, rfl, hc, upd_same, ?_, rfl, rfl, rfl⟩
      rw [upd_ne ne, upd_same]
    | succ i =>
      have e : (ctx0 ts x (N.length - (n + 1)))[i]? = some s := e
      unfold ctx0 at e
      by_cases hi : i < n
      · rw [List.getElem?_append_left (by rw [h2]; exact hi)] at e
        obtain ⟨v, e1, t, y, rfl, r'⟩ := h3 i s e
        refine ⟨some v, ?_, by rw [if_neg (Nat.succ_ne_zero i)], v, rfl, r'⟩
        unfold L2.start
        rw [List.map_cons, List.cons_append, List.getElem?_cons_succ, List.getElem?_append_left (by rw [List.length_map, h1]; exact hi), List.getElem?_map, e1]; rfl
      · rw [List.getElem?_append_right (by rw [h2]; omega), h2, List.getElem?_replicate] at e
        split at e
        · rename_i hlt
          cases e
          refine ⟨none, ?_, by rw [if_neg (Nat.succ_ne_zero i)]; exact rfl⟩
          unfold L2.start
          rw [List.map_cons, List.cons_append, List.getElem?_cons_succ, List.getElem?_append_right (by rw [List.length_map, h1]; omega), List.length_map, h1, List.getElem?_replicate, if_pos (by rw [List.length_cons, h1]; omega)]
        · cases e
  · cases i with
    | zero => cases e
    | succ i => exact if_neg (Nat.succ_ne_zero i)
  · by_cases h : i = 0
    · rw [if_pos h]
      exact List.nodup_cons.mpr ⟨fun z => ne (List.mem_singleton.mp z).symm, List.nodup_cons.mpr ⟨List.not_mem_nil, List.nodup_nil⟩⟩
    · rw [if_neg h]; exact List.nodup_nil
  · by_cases h : i = 0
    · rw [if_neg (fun z => hij (h.trans z.symm))]; exact fun z => nomatch z
    · rw [if_neg h] at ha; cases ha
  · by_cases h : i = 0
    · rw [if_pos h] at ha
      rcases List.mem_cons.mp ha with rfl | ha
      · exact ⟨hs.free np, np⟩
      · rw [List.mem_singleton.mp ha]; exact ⟨hs.free nd, nd⟩
    · rw [if_neg h] at ha; cases ha
theorem fn_bodyI {x qual : Str} {st : Stmt} {f : Addr} {fd : FuncData} {dvs : List V} {kws : List (Str × V)} {N ps : List Str} {k : Nat} {ts : Ty} {c : Str} {ns : List Str} {fs : Ow} {g : ts.den → Mx fs.ty.den} {n : Nat} (F : FunD K x qual (defArgs st) (defBody st) (defScope st) dvs kws f fd) (S : FnScope N ps (defScope st)) (hp : ps.length = n + 1) (ha : ts.args = some n) (hN : 1 ≤ N.length)
    (hb : ∀ (cdv : Value) (A : Around) (outer : List Env) (s : Shared) (H : Hp) (E : XK), Room k (A.deeper (envOfC qual (defScope st) s.heap.objs.size f cdv)) → Takes (cxOf (L2.CX P w) P w K mg base N qual (defScope st) f cdv A outer s H E) (fun cls d _ H => E cls d H) →
      PassesOwn (model P w) (A.deeper (envOfC qual (defScope st) s.heap.objs.size f cdv)) (envOfC qual (defScope st) s.heap.objs.size f cdv) (cxOf (L2.CX P w) P w K mg base N qual (defScope st) f cdv A outer s H E).xe →
      ∀ x : ts.den, BS (cxOf (L2.CX P w) P w K mg base N qual (defScope st) f cdv A outer s H E) (fun cls d _ H => E cls d H) [0] (ctxI c ts x (N.length - (n + 1))) (defBody st) (g x) (fun y => .nx (endI c ns fs y (N.length - 1)))) :
    FnOk P w K mg base (L2.CX P w) (k + 1) f fd ps (spI K mg c ts ns fs g) := by
  refine F.ok S (fun vs H Q E h => ?_) (fun cdv A outer s H vs Q E hr h => ?_)
  · obtain ⟨G, B, y, p, dx, C, vs', rfl, _, _, _, _, _, _, rr, _⟩ := h
    rw [List.length_cons, (args_len ha rr).1, hp]
  · obtain ⟨G, B, y, p, dx, C, vs', rfl, hc, rfl, np, nd, ne, hs, rr, q⟩ := h
    refine ⟨_, hb cdv A outer s _ E hr (takes_of rfl rfl rfl rfl) (passes_of rfl) y, ⟨G, B, [0], L2.start N (.ref p :: vs')⟩, G, rfl, sg_init hc hs np nd ne ha hN rr, ?_⟩
    cases e : g y with
    | no => rw [e] at q; exact q
    | ex z => rw [e] at q; exact fun cls d σ F' H' x _ r => q cls d F' H' x r
    | ok z =>
      rw [e] at q
      intro σ F' H' sg
      obtain ⟨fps, w⟩ := sg.ow
      obtain ⟨ov, e1, v, rfl, ho⟩ := w.at_ 0 _ rfl
      have e2 := sg.kp 0 (List.mem_singleton.mpr rfl)
      have e3 : (L2.start N (.ref p :: vs'))[0]? = some (some (.ref p)) := rfl
      rw [e1, e3] at e2
      cases e2
      exact q F' H' sg.e0 ⟨fps 0, ho, w.nd 0, w.new 0⟩
end
end Gm
set_option Elab.async false
set_option linter.all false
set_option maxRecDepth 100000
set_option maxHeartbeats 4000000
namespace Gm
open PySem PySem.Spec L2

section
variable {X : Cx} {W : WX} {Γ : Ctx} {a b e : Expr} {es : List Expr} {kws : List Keyword} {pos p p' apos : Pos} {r : Rt} {t : Ty} {c f x m : Str} {ns ps ks : List Str} {C fI g : Addr} {n k : Nat} {fd : FuncData} {fs : Ow}
/-! ## C(..): the run of a new instance -/
theorem run_new {pins : List (Addr × Obj)} {σ : L2.St} {H : Hp} {s : Shared} {Q : VK} {sp : Sp} {E : XK} {us : List Value} {kw : List (Str × Value)} {gv : Addr → List V} (M : Mk X.K C fI) (Fn : FnOk X.prog X.w X.K X.mg X.base (L2.CX X.prog X.w) k fI fd ps sp) (hr : Room (k + 1) X.A) (hx : PassesAt (L2.CX X.prog X.w) X σ E)
    (J : Inv X pins σ H s) (hb : ∀ (s' : Shared) (q : Addr), X.K.In s'.heap → (gv q).length = ps.length → ∃ zs : List Value, BindsTo s' fd ⟨.ref q :: us, kw⟩ (ps.zip zs) ∧ Vals (gv q) zs)
    (h : ∀ q dx, H q = none → H dx = none → dx ≠ q → sp (gv q) (upd (upd H dx (.own q)) q (.ins C dx [])) (fun v H2 => v = .non ∧ Q (.ref q) H2) E) :
    wpAny (model X.prog X.w) X.A (call (.ref C) us kw) (EP X pins σ Q) X.xe s := by
  have nw : s.heap.objs.size ≠ s.heap.objs.size + 1 := Nat.ne_of_lt (Nat.lt_succ_self _)
  have hq := h (s.heap.objs.size + 1) s.heap.objs.size (J.hok.fresh (Nat.le_succ _)) (J.hok.fresh (Nat.le_refl _)) nw
  have J2 := Inv.made (C := C) J
  obtain ⟨zs, b1, b2⟩ := hb _ (s.heap.objs.size + 1) J2.kIn (Fn.len _ _ _ _ hq)
  have run := Fn.run _ X.stack _ _ ⟨.ref (s.heap.objs.size + 1) :: us, kw⟩ zs (gv (s.heap.objs.size + 1)) _ E (hr.make C us kw) (J2.env0.make C us kw) b1 b2 hq
  refine wpAny_call (make_map (f := fI) J.kIn M.makes M.init (beq_iff_eq.mp M.fn) (codeAny_mono run fun res s' z => ?_))
  cases res with
  | error er => exact hx pins _ _ er s' J2 z
  | ok fl =>
    cases fl with
    | next => exact z.elim
    | brk => exact z.elim
    | cont => exact z.elim
    | ret u =>
      obtain ⟨v, H', J3, rv, ev, q3⟩ := J2.after z
      subst ev
      exact ⟨rv, .ref (s.heap.objs.size + 1), H', J3, rfl, q3⟩
/-- the reading of a new instance -/
def tNew (C : Addr) (sp : Sp) (gv : List V → Addr → List V) (E : L2.St → XK) (ta : TA) : TE := fun σ H Q => ta σ H fun vs H1 => ∀ q dx, H1 q = none → H1 dx = none → dx ≠ q →
  sp (gv vs q) (upd (upd H1 dx (.own q)) q (.ins C dx [])) (fun v H2 => v = .non ∧ Q (.ref q) H2) (E σ)
theorem pe_new {sp : Sp} {ta : TA} (M : Mk X.K C fI) (Fn : FnOk X.prog X.w X.K X.mg X.base (L2.CX X.prog X.w) k fI fd ps sp) (hr : Room (k + 1) X.A) (hg : Gl X x) (hm : X.mg x = some (.ref C)) (hb : Binds X.K fd ps []) (tk : Takes X W) (ha : PA X (e :: es) ta)
    (hdb : (x == ("__debug__" : Str)) = false) (he : starEach (e :: es) X.env = (false, eval e X.env) :: starEach es X.env) (hpl : (backTo pos (starEach es X.env)).any (·.1) = false) :
    PE X (.Call (.Name x p) (e :: es) [] pos) (tNew C sp (fun vs q => .ref q :: vs) (WE W) ta) := ⟨fun pins s σ H Q J h => by
  refine wpAny_Call_Name_kw (ld_glob J hg hm ?_ hdb)
  refine PySem.W.callWith_K (h₀ := X.base) J.ok.mod.kin M.kp (thn (ha.run pos pins s σ H _ J h) fun us s1 ⟨vs, H1, J1, rv, q⟩ => ⟨J1.kIn, ?_⟩) he hpl
  refine run_new (gv := fun q => .ref q :: vs) M Fn hr (passAt tk σ) J1 (fun s' q' kin hl => ⟨.ref q' :: us, ?_, .cons rfl rv⟩) q
  have := hb s' (.ref q' :: us) kin (by rw [List.append_nil, List.length_cons, ← rv.length]; exact hl)
  rw [List.append_nil] at this
  exact this⟩
theorem pe_new0 {sp : Sp} (M : Mk X.K C fI) (Fn : FnOk X.prog X.w X.K X.mg X.base (L2.CX X.prog X.w) k fI fd ps sp) (hr : Room (k + 1) X.A) (hg : Gl X x) (hm : X.mg x = some (.ref C)) (hb : Binds X.K fd ps []) (tk : Takes X W) (hdb : (x == ("__debug__" : Str)) = false) :
    PE X (.Call (.Name x p) [] [] pos) (tNew C sp (fun vs q => .ref q :: vs) (WE W) tNil) := ⟨fun pins s σ H Q J h => by
  refine wpAny_Call_Name_kw (ld_glob J hg hm ?_ hdb)
  refine PySem.W.callWith_K0 J.kIn M.kp (run_new (us := []) (gv := fun q => [.ref q]) M Fn hr (passAt tk σ) J (fun s' q' kin hl => ⟨[.ref q'], ?_, .cons rfl .nil⟩) h)
  exact hb s' [.ref q'] kin hl⟩
/-- C(k = v, ..) -/
theorem pe_newK {sp : Sp} {tk' : TA} {gA : List Value → List Value → List Value} {gV : List V → List V → List V} (M : Mk X.K C fI) (Fn : FnOk X.prog X.w X.K X.mg X.base (L2.CX X.prog X.w) k fI fd ps sp) (hr : Room (k + 1) X.A) (hg : Gl X x) (hm : X.mg x = some (.ref C)) (hb : KBn X.K fd ps 1 ks gA gV) (tk : Takes X W) (hkw : PK X kws tk')
    (hall : (backToKw pos (keywordEach kws X.env)).all (·.1.isSome) = true) (hks : (backToKw pos (keywordEach kws X.env)).filterMap (·.1) = ks) (hdb : (x == ("__debug__" : Str)) = false) (hlen : ∀ σ H Q, tk' σ H Q → tk' σ H fun zs H1 => zs.length = ks.length ∧ Q zs H1)
    (hpl : ((backTo pos (starEach [] X.env)).any (·.1) || (backToKw pos (keywordEach kws X.env)).any (·.1.isNone)) = false) :
    PE X (.Call (.Name x p) [] kws pos) (tNew C sp (fun zs q => gV [.ref q] zs) (WE W) tk') := ⟨fun pins s σ H Q J h => by
  refine wpAny_Call_Name_kw (ld_glob J hg hm ?_ hdb)
  refine PySem.W.callWith_KW0 (h₀ := X.base) J.ok.mod.kin M.kp hall ?_ hpl
  refine thn (hkw.run pos pins s σ H _ J (hlen _ _ _ h)) fun ws s2 ⟨zs, H2, J2, rz, l2, q⟩ => ⟨J2.kIn, ?_⟩
  rw [hks]
  refine run_new (us := []) (gv := fun q => gV [.ref q] zs) M Fn hr (passAt tk σ) J2 (fun s' q' kin hl => ⟨gA [.ref q'] ws, hb.to s' [.ref q'] ws kin rfl (rz.length.symm.trans l2), hb.rel (.cons rfl .nil) rz⟩) q⟩
/-! ## typed -/
abbrev EK (X : Cx) (W : WX) (Γ : Ctx) (kws : List Keyword) (ts : Ty) (m : Mx ts.den) : Prop := PK X kws (tA X.mg X.K W Γ ts m)
theorem pk_imp {t t' : TA} (h : PK X kws t) (i : ∀ σ H Q, t' σ H Q → t σ H Q) : PK X kws t' := ⟨fun pos pins s σ H Q I q => h.run pos pins s σ H Q I (i σ H Q q)⟩
theorem ek_nil : EK X W Γ [] .nl (.ok ()) := pk_imp pk_nil fun σ H Q ⟨F, s, d, p⟩ => p [] F H (Ext.refl s) rfl
theorem ek_cons {nm : Option Str} {kpos : Pos} {ts : Ty} {m : Mx t.den} {ms : Mx ts.den} (ha : EM X W Γ a t m) (hr : EK X W Γ kws ts ms) : EK X W Γ (⟨nm, a, kpos⟩ :: kws) (.pr t ts) (m >>= fun x => ms >>= fun y => .ok (x, y)) := pk_imp (pk_cons ha hr) fun σ H Q ⟨F, s, d, p⟩ => by
  refine ⟨F, s, d, p.bind.mono fun x px v F1 H1 e1 r1 => ⟨F1, e1.i, d.mono e1.f, post.ext e1 px.bind fun y py vs F2 H2 e2 r2 => ?_⟩⟩
  exact py (v :: vs) F2 H2 (e1.trans e2) ⟨v, vs, rfl, rl_mono e2.f t x _ r1, r2⟩
theorem new_read {ts us : Ty} {π : us.den → ts.den} {gv : List V → Addr → List V} {h : ts.den → Mx fs.ty.den} {ma : Mx us.den} (hm : X.mg c = some (.ref C)) (hg : ∀ (F : Hp) (y : us.den) (zs : List V) (q : Addr), rl X.K X.mg us y zs F → ∃ vs', gv zs q = .ref q :: vs' ∧ rl X.K X.mg ts (π y) vs' F) :
    ∀ σ H Q, tR X.mg X.K W Γ (.o (.ins c ns fs)) (ma >>= fun y => h (π y)) σ H Q → tNew C (spI X.K X.mg c ts ns fs h) gv (WE W) (tA X.mg X.K W Γ us ma) σ H Q := fun σ H Q ⟨F, s, d, pp⟩ => ⟨F, s, d, pp.bind.mono fun y py zs F1 H1 e1 r1 q dx nq nd ne => by
  obtain ⟨vs', e2, r2⟩ := hg F1 y zs q r1
  refine ⟨F1, H1, π y, q, dx, C, vs', e2, hm, rfl, nq, nd, ne, e1.i, r2, ?_⟩
  cases hh : h (π y) with
  | no => rw [hh] at py; exact py
  | ex z => rw [hh] at py; exact fun cls d F' H' x r => py cls d F' H' (e1.trans x) r
  | ok z => rw [hh] at py; exact fun F' H' x r => ⟨rfl, py (.ref q) F' H' (e1.trans x) (rtr_pre (r := .o (.ins c ns fs)) e1.h r)⟩⟩
theorem e_new {ts : Ty} {h : ts.den → Mx fs.ty.den} {ma : Mx ts.den} (M : Mk X.K C fI) (Fn : FnOk X.prog X.w X.K X.mg X.base (L2.CX X.prog X.w) k fI fd ps (spI X.K X.mg x ts ns fs h)) (hr : Room (k + 1) X.A) (hg : Gl X x) (hm : X.mg x = some (.ref C)) (hb : Binds X.K fd ps []) (tk : Takes X W) (ha : EA X W Γ (e :: es) ts ma)
    (hdb : (x == ("__debug__" : Str)) = false) (he : starEach (e :: es) X.env = (false, eval e X.env) :: starEach es X.env) (hpl : (backTo pos (starEach es X.env)).any (·.1) = false) :
    EO X W Γ (.Call (.Name x p) (e :: es) [] pos) (.ins x ns fs) (ma >>= h) := pe_imp (pe_new M Fn hr hg hm hb tk ha hdb he hpl) (new_read (π := fun y => y) hm fun F y zs q r => ⟨zs, rfl, r⟩)
theorem e_newK {ts us : Ty} {π : us.den → ts.den} {h : ts.den → Mx fs.ty.den} {ma : Mx us.den} {gA : List Value → List Value → List Value} {gV : List V → List V → List V} (M : Mk X.K C fI) (Fn : FnOk X.prog X.w X.K X.mg X.base (L2.CX X.prog X.w) k fI fd ps (spI X.K X.mg x ts ns fs h)) (hr : Room (k + 1) X.A) (hg : Gl X x) (hm : X.mg x = some (.ref C)) (hb : KBn X.K fd ps 1 ks gA gV) (tk : Takes X W)
    (hgv : ∀ (F : Hp) (y : us.den) (zs : List V) (q : Addr), rl X.K X.mg us y zs F → ∃ vs', gV [.ref q] zs = .ref q :: vs' ∧ rl X.K X.mg ts (π y) vs' F) (hus : us.args = some ks.length) (hkw : EK X W Γ kws us ma)
    (hall : (backToKw pos (keywordEach kws X.env)).all (·.1.isSome) = true) (hks : (backToKw pos (keywordEach kws X.env)).filterMap (·.1) = ks) (hdb : (x == ("__debug__" : Str)) = false)
    (hpl : ((backTo pos (starEach [] X.env)).any (·.1) || (backToKw pos (keywordEach kws X.env)).any (·.1.isNone)) = false) :
    EO X W Γ (.Call (.Name x p) [] kws pos) (.ins x ns fs) (ma >>= fun y => h (π y)) :=
  pe_imp (pe_newK M Fn hr hg hm hb tk hkw hall hks hdb (fun σ H Q ⟨F, s, d, pp⟩ => ⟨F, s, d, pp.mono fun y py zs F1 H1 e1 r1 => ⟨(args_len hus r1).1, py zs F1 H1 e1 r1⟩⟩) hpl) (new_read hm hgv)
/-! ## methods -/
theorem run_fnA {pins : List (Addr × Obj)} {σ : L2.St} {H : Hp} {s : Shared} {Q : VK} {sp : Sp} {E : XK} {us : List Value} {vs : List V} (Fn : FnOk X.prog X.w X.K X.mg X.base (L2.CX X.prog X.w) k g fd ps sp) (hr : Room k X.A) (hb : Binds X.K fd ps []) (hx : PassesAt (L2.CX X.prog X.w) X σ E) (J : Inv X pins σ H s) (rv : Vals vs us) (h : sp vs H Q E) :
    wpAny (model X.prog X.w) X.A (call (.ref g) us) (EP X pins σ Q) X.xe s := run_fnSD (E := fun _ => E) (dvs := []) (ds := []) Fn hr hb .nil hx J rv (by rw [List.append_nil]; exact h)
def tMet (C : Addr) (m : Str) (sp : Sp) (E : L2.St → XK) (ta : TE) (t : TA) : TE := fun σ H Q => ta σ H fun x H1 => ∃ a dx fs, x = .ref a ∧ H1 a = some (.ins C dx fs) ∧ fs.lookup m = none ∧ t σ H1 fun vs H2 => sp (x :: vs) H2 Q (E σ)
theorem pe_met {pl : Sem Bool} {sp : Sp} {ta : TE} {t : TA} {o : Expr} (ho : PE X o ta) (cl : Cls X.K C) (hm : Meth X.K C m g) (Fn : FnOk X.prog X.w X.K X.mg X.base (L2.CX X.prog X.w) k g fd ps sp) (hr : Room k X.A) (hb : Binds X.K fd ps []) (tk : Takes X W) (ha : PA X (e :: es) t)
    (hst : starEach (e :: es) X.env = (false, eval e X.env) :: starEach es X.env) (hpl : (backTo pos (starEach es X.env)).any (·.1) = false)
    (ht : eval (.Call (.Attribute o m apos) (e :: es) [] pos) X.env = (eval o X.env >>= fun ov => standAt apos.atName >>= fun _ => holding [ov] (getMethod ov m pl) >>= fun q => callWith pos q.1 q.2 (backTo pos (starEach (e :: es) X.env)) (backToKw pos (keywordEach [] X.env)))) :
    PE X (.Call (.Attribute o m apos) (e :: es) [] pos) (tMet C m sp (WE W) ta t) := ⟨fun pins s σ H Q J h => by
  refine PySem.W.methodCall_KW (pl := pl) (thn (ho.run pins s σ H _ J h) fun u s1 ⟨z, H1, J1, rz, a, dx, fs, ez, ea, l, q⟩ => ?_) ht
  subst ez
  cases (show u = Value.ref a from rz)
  refine getmeth_ok J1 ea cl hm l (PySem.W.callWith_K (first := [.ref a]) (h₀ := X.base) J1.ok.mod.kin hm.kp (thn (ha.run pos pins s1 σ H1 _ J1 q) fun us s2 ⟨vs, H2, J2, rv, q2⟩ => ⟨J2.kIn, ?_⟩) hst hpl)
  exact run_fnA (us := .ref a :: us) (vs := .ref a :: vs) Fn hr hb (passAt tk σ) J2 (.cons rfl rv) q2⟩
theorem pe_met0 {pl : Sem Bool} {sp : Sp} {ta : TE} {o : Expr} (ho : PE X o ta) (cl : Cls X.K C) (hm : Meth X.K C m g) (Fn : FnOk X.prog X.w X.K X.mg X.base (L2.CX X.prog X.w) k g fd ps sp) (hr : Room k X.A) (hb : Binds X.K fd ps []) (tk : Takes X W)
    (ht : eval (.Call (.Attribute o m apos) [] [] pos) X.env = (eval o X.env >>= fun ov => standAt apos.atName >>= fun _ => holding [ov] (getMethod ov m pl) >>= fun q => callWith pos q.1 q.2 (backTo pos (starEach [] X.env)) (backToKw pos (keywordEach [] X.env)))) :
    PE X (.Call (.Attribute o m apos) [] [] pos) (tMet C m sp (WE W) ta tNil) := ⟨fun pins s σ H Q J h => by
  refine PySem.W.methodCall_KW (pl := pl) (thn (ho.run pins s σ H _ J h) fun u s1 ⟨z, H1, J1, rz, a, dx, fs, ez, ea, l, q⟩ => ?_) ht
  subst ez
  cases (show u = Value.ref a from rz)
  refine getmeth_ok J1 ea cl hm l (PySem.W.callWith_K0 (first := [.ref a]) J1.kIn hm.kp ?_)
  exact run_fnA (us := [.ref a]) (vs := [.ref a]) Fn hr hb (passAt tk σ) J1 (.cons rfl .nil) q⟩
theorem fidx_none {f : Str} {v : List V} : ∀ {ns : List Str}, fidx ns f = none → (ns.zip v).lookup f = none
  | [], _ => rfl
  | gg :: rr, h => by
    cases v with
    | nil => rfl
    | cons w ws =>
      have h : (if f = gg then some 0 else (fidx rr f).map (· + 1)) = none := h
      by_cases e : f = gg
      · rw [if_pos e] at h; cases h
      · rw [if_neg e] at h
        have h3 : fidx rr f = none := by
          cases h3 : fidx rr f with
          | none => rfl
          | some m => rw [h3] at h; cases h
        rw [List.zip_cons_cons, List.lookup_cons, show (f == gg) = false from beq_eq_false_iff_ne.mpr e]
        exact fidx_none h3
theorem met_read {ts fd' : Ty} {h : (Ty.pr (.ins c ns fd') ts).den → Mx r.den} {mo : Mx fd'.den} {ma : Mx ts.den} (hc : X.mg c = some (.ref C)) (hn : fidx ns m = none) :
    ∀ σ H Q, tR X.mg X.K W Γ r (mo >>= fun x => ma >>= fun y => h (x, y)) σ H Q → tMet C m (spF X.K X.mg (.pr (.ins c ns fd') ts) r h) (WE W) (tR X.mg X.K W Γ (.d (.ins c ns fd')) mo) (tA X.mg X.K W Γ ts ma) σ H Q := fun σ H Q ⟨F, s, d, pp⟩ =>
  ⟨F, s, d, pp.bind.mono fun x px v F1 H1 e1 r1 => by
    obtain ⟨q, C', dx, ws, e2, mc, h1, hl, rr⟩ := id r1
    rw [hc] at mc; cases mc
    cases (List.cons.inj e2).1
    refine ⟨q, dx, _, rfl, e1.i _ _ h1, fidx_none hn, F1, e1.i, d.mono e1.f, post.ext e1 px.bind fun y py vs F2 H2 e2 r2 => ?_⟩
    refine ⟨F2, (x, y), e2.i, ⟨_, vs, rfl, rl_mono e2.f (.ins c ns fd') x _ r1, r2⟩, ?_⟩
    cases hh : h (x, y) with
    | no => rw [hh] at py; exact py
    | ex z => rw [hh] at py; exact fun cls d F' H' x r => py cls d F' H' ((e1.trans e2).trans x) r
    | ok z => rw [hh] at py; exact fun v F' H' x r => py v F' H' ((e1.trans e2).trans x) (rtr_pre (e1.h.trans e2.h) r)⟩
theorem e_met {pl : Sem Bool} {ts fd' : Ty} {o : Expr} {h : (Ty.pr (.ins c ns fd') ts).den → Mx r.den} {mo : Mx fd'.den} {ma : Mx ts.den} (hc : X.mg c = some (.ref C)) (cl : Cls X.K C) (hm : Meth X.K C m g) (Fn : FnOk X.prog X.w X.K X.mg X.base (L2.CX X.prog X.w) k g fd ps (spF X.K X.mg (.pr (.ins c ns fd') ts) r h)) (hr : Room k X.A) (hb : Binds X.K fd ps []) (tk : Takes X W) (hn : fidx ns m = none)
    (ho : EM X W Γ o (.ins c ns fd') mo) (ha : EA X W Γ (e :: es) ts ma) (hst : starEach (e :: es) X.env = (false, eval e X.env) :: starEach es X.env) (hpl : (backTo pos (starEach es X.env)).any (·.1) = false)
    (ht : eval (.Call (.Attribute o m apos) (e :: es) [] pos) X.env = (eval o X.env >>= fun ov => standAt apos.atName >>= fun _ => holding [ov] (getMethod ov m pl) >>= fun q => callWith pos q.1 q.2 (backTo pos (starEach (e :: es) X.env)) (backToKw pos (keywordEach [] X.env)))) :
    ER X W Γ (.Call (.Attribute o m apos) (e :: es) [] pos) r (mo >>= fun x => ma >>= fun y => h (x, y)) := pe_imp (pe_met ho cl hm Fn hr hb tk ha hst hpl ht) (met_read hc hn)
theorem e_met0 {pl : Sem Bool} {fd' : Ty} {o : Expr} {h : (Ty.pr (.ins c ns fd') .nl).den → Mx r.den} {mo : Mx fd'.den} (hc : X.mg c = some (.ref C)) (cl : Cls X.K C) (hm : Meth X.K C m g) (Fn : FnOk X.prog X.w X.K X.mg X.base (L2.CX X.prog X.w) k g fd ps (spF X.K X.mg (.pr (.ins c ns fd') .nl) r h)) (hr : Room k X.A) (hb : Binds X.K fd ps []) (tk : Takes X W) (hn : fidx ns m = none)
    (ho : EM X W Γ o (.ins c ns fd') mo) (ht : eval (.Call (.Attribute o m apos) [] [] pos) X.env = (eval o X.env >>= fun ov => standAt apos.atName >>= fun _ => holding [ov] (getMethod ov m pl) >>= fun q => callWith pos q.1 q.2 (backTo pos (starEach [] X.env)) (backToKw pos (keywordEach [] X.env)))) :
    ER X W Γ (.Call (.Attribute o m apos) [] [] pos) r (mo >>= fun x => h (x, ())) := pe_imp (pe_met0 ho cl hm Fn hr hb tk ht) fun σ H Q q => by
  obtain ⟨F, s, d, pp⟩ := met_read (W := W) (Γ := Γ) (ts := .nl) (ma := .ok ()) (h := h) hc hn σ H Q q
  exact ⟨F, s, d, pp.mono fun x px v F1 H1 e1 r1 => by
    obtain ⟨a, dx, fs, ea, h1, h2, F2, s2, d2, p2⟩ := px v F1 H1 e1 r1
    exact ⟨a, dx, fs, ea, h1, h2, p2 [] F2 _ (Ext.refl s2) rfl⟩⟩
/-! ## properties -/
def noEx {α : Type} : Mx α → Mx α
  | .ok x => .ok x
  | _ => .no
theorem e_prop {fd' : Ty} {o : Expr} {q : Addr} {h : (Ty.pr (.ins c ns fd') .nl).den → Mx r.den} {mo : Mx fd'.den} (hc : X.mg c = some (.ref C)) (cl : Cls X.K C) (hp : PropOf X.K C f q g) (Fn : FnOk X.prog X.w X.K X.mg X.base (L2.CX X.prog X.w) k g fd ps (spF X.K X.mg (.pr (.ins c ns fd') .nl) r h)) (hr : Room (k + 1) X.A) (hb : Binds X.K fd ps [])
    (ho : EM X W Γ o (.ins c ns fd') mo) (hab : attributeBase o f X.env (eval o X.env) = eval o X.env) : ER X W Γ (.Attribute o f pos) r (mo >>= fun x => noEx (h (x, ()))) :=
  pe_imp (pe_prop (dvs := []) (ds := []) (E := E0) ho cl hp Fn hr hb .nil passL hab) fun σ H Q ⟨F, s, d, pp⟩ => ⟨F, s, d, pp.bind.mono fun x px v F1 H1 e1 r1 => by
    obtain ⟨q, C', dx, ws, e2, mc, h1, hl, rr⟩ := id r1
    rw [hc] at mc; cases mc
    cases (List.cons.inj e2).1
    refine ⟨q, dx, _, rfl, e1.i _ _ h1, F1, (x, ()), e1.i, ⟨_, [], rfl, r1, rfl⟩, ?_⟩
    cases hh : h (x, ()) with
    | no => rw [hh] at px; exact px
    | ex z => rw [hh] at px; exact px.elim
    | ok z => rw [hh] at px; exact fun v F' H' x r => px v F' H' (e1.trans x) (rtr_pre e1.h r)⟩
/-! ## a class's constants, static methods -/
theorem e_gref {v : V} {u : Value} {z : t.den} (hg : Gl X x) (hm : X.mg x = some u) (rv : RelV v u) (hd : (x == ("__debug__" : Str)) = false) (hv : ∀ F, rl X.K X.mg t z [v] F) : EM X W Γ (.Name x p) t (.ok z) :=
  e_c (v := v) ⟨fun _ _ _ H _ J h => ld_glob J hg hm ⟨v, H, J, rv, h⟩ hd⟩ hv
theorem e_cval {v : V} {u mc : Value} {z : t.den} (hg : Gl X x) (hm : X.mg x = some (.ref C)) (cr : ClX.CRead X.K C mc) (cv : ClX.CVal X.K C mc f v u) (hd : (x == ("__debug__" : Str)) = false) (hv : ∀ F, rl X.K X.mg t z [v] F) (hab : attributeBase (.Name x p) f X.env (eval (.Name x p) X.env) = eval (.Name x p) X.env) :
    EM X W Γ (.Attribute (.Name x p) f pos) t (.ok z) :=
  pe_imp (ClX.pe_cval (ta := tC (.ref C)) ⟨fun _ _ _ H _ J h => ld_glob J hg hm ⟨.ref C, H, J, rfl, h⟩ hd⟩ hab) fun σ H Q ⟨F, s, d, pp⟩ => ⟨C, mc, v, u, rfl, cr, cv, pp v F H (Ext.refl s) (hv F)⟩
structure SMet (K : PySem.W.Frag) (C : Addr) (mc : Value) (m : Str) (q g : Addr) : Prop where
  at_ : PySem.W.findCls K (.ref C) mc m = some (.get (.builtin "staticmethod.__get__") (.ref q) .none (.ref C))
  rc : ∃ rest, PySem.W.recIn K q "staticmethod" = some (.ref g :: rest)
  kp : PySem.W.keepIn K (.ref g) = true
theorem e_smet {pl : Sem Bool} {mc : Value} {q : Addr} {ts : Ty} {h : ts.den → Mx r.den} {ma : Mx ts.den} (hg : Gl X x) (hmg : X.mg x = some (.ref C)) (cr : ClX.CRead X.K C mc) (sm : SMet X.K C mc m q g) (Fn : FnOk X.prog X.w X.K X.mg X.base (L2.CX X.prog X.w) k g fd ps (spF X.K X.mg ts r h)) (hr : Room k X.A) (hb : Binds X.K fd ps []) (tk : Takes X W) (hd : (x == ("__debug__" : Str)) = false)
    (ha : EA X W Γ (e :: es) ts ma) (hst : starEach (e :: es) X.env = (false, eval e X.env) :: starEach es X.env) (hpl : (backTo pos (starEach es X.env)).any (·.1) = false)
    (ht : eval (.Call (.Attribute (.Name x p) m apos) (e :: es) [] pos) X.env = (eval (.Name x p) X.env >>= fun ov => standAt apos.atName >>= fun _ => holding [ov] (getMethod ov m pl) >>= fun q => callWith pos q.1 q.2 (backTo pos (starEach (e :: es) X.env)) (backToKw pos (keywordEach [] X.env)))) :
    ER X W Γ (.Call (.Attribute (.Name x p) m apos) (e :: es) [] pos) r (ma >>= h) := ⟨fun pins s σ H Q J ⟨F, sm1, d, pp⟩ => by
  obtain ⟨rest, hrec⟩ := sm.rc
  refine PySem.W.methodCall_KW (pl := pl) (ld_glob J hg hmg ?_ hd) ht
  refine PySem.W.method_cls J.kIn cr.ga (PySem.W.cls_bind J.kIn cr.rd sm.at_ (wpAny_call (PySem.W.sm_get (s := { s with toks := s.toks + 1 }) J.kIn hrec (PySem.W.handed_on rfl ?_))))
  have J1 : Inv X pins σ H { s with toks := s.toks + 1 } := J.tok _
  have hq : tA X.mg X.K W Γ ts ma σ H fun vs H1 => spF X.K X.mg ts r h vs H1 Q (WE W σ) := ⟨F, sm1, d, pp.bind.mono fun z pz vs F1 H1 e1 r1 => by
    refine ⟨F1, z, e1.i, r1, ?_⟩
    cases hgz : h z with
    | no => rw [hgz] at pz; exact pz
    | ex y => rw [hgz] at pz; exact fun cls d F' H' x r => pz cls d F' H' (e1.trans x) r
    | ok y => rw [hgz] at pz; exact fun v F' H' x r => pz v F' H' (e1.trans x) (rtr_pre e1.h r)⟩
  refine PySem.W.callWith_K (first := []) (h₀ := X.base) J1.ok.mod.kin sm.kp (thn (ha.run pos pins _ σ H _ J1 hq) fun us s2 ⟨vs, H2, J2, rv, q2⟩ => ⟨J2.kIn, ?_⟩) hst hpl
  exact run_fnA Fn hr hb (passAt tk σ) J2 rv q2⟩
end
end Gm
set_option Elab.async false
set_option linter.all false
set_option maxRecDepth 100000
set_option maxHeartbeats 4000000
namespace Gm
open PySem PySem.Spec L2
open PyProof.Rows (envOfC)

/-! ## a def without a return -/
theorem fn_bodyN {P : Program} {w : World} {K : PySem.W.Frag} {mg : Str → Option Value} {base : Heap} {x qual : Str} {st : Stmt} {f : Addr} {fd : FuncData} {dvs : List V} {kws : List (Str × V)} {N ps : List Str} {k : Nat} {ts : Ty} {g : ts.den → Mx Unit} (F : FunD K x qual (defArgs st) (defBody st) (defScope st) dvs kws f fd) (S : FnScope N ps (defScope st)) (ha : ts.args = some ps.length)
    (hb : ∀ (cdv : Value) (A : Around) (outer : List Env) (s : Shared) (H : Hp) (E : XK), Room k (A.deeper (envOfC qual (defScope st) s.heap.objs.size f cdv)) → Takes (cxOf (L2.CX P w) P w K mg base N qual (defScope st) f cdv A outer s H E) (fun cls d _ H => E cls d H) →
      PassesOwn (model P w) (A.deeper (envOfC qual (defScope st) s.heap.objs.size f cdv)) (envOfC qual (defScope st) s.heap.objs.size f cdv) (cxOf (L2.CX P w) P w K mg base N qual (defScope st) f cdv A outer s H E).xe →
      ∀ x : ts.den, BS (cxOf (L2.CX P w) P w K mg base N qual (defScope st) f cdv A outer s H E) (fun cls d _ H => E cls d H) [] (ctx0 ts x (N.length - ps.length)) (defBody st) (g x) (fun _ => .nx (List.replicate N.length .no))) :
    FnOk P w K mg base (L2.CX P w) (k + 1) f fd ps (spF K mg ts (.d .non) g) := by
  refine F.ok S (fun vs H Q E h => ?_) (fun cdv A outer s H vs Q E hr h => ?_)
  · obtain ⟨G, y, hs, rr, _⟩ := h
    exact (args_len ha rr).1
  · obtain ⟨G, y, hs, rr, q⟩ := h
    refine ⟨_, hb cdv A outer s H E hr (takes_of rfl rfl rfl rfl) (passes_of rfl) y, ⟨G, H, [], L2.start N vs⟩, G, rfl, sg_start hs ha rr, ?_⟩
    cases e : g y with
    | no => rw [e] at q; exact q
    | ex z => rw [e] at q; exact fun cls d σ F' H' x _ r => q cls d F' H' x r
    | ok z => rw [e] at q; exact fun σ F' H' sg => q .non F' H' sg.e0 rfl

section
variable {X : Cx} {W : WX} {hk : List Nat} {Γ Γ' Γv : Ctx} {st : Stmt} {rest body suite : List Stmt} {b0 : Stmt} {e : Expr} {pos np pos' : Pos} {β : Type} {I : β → Out} {c x : Str} {C : Addr}
/-! ## raise -/
theorem b_raise (x : Str) (hc : X.calm = true) (tk : Takes X W) (hm : X.mg x = some (.ref C)) (he : PMk X e (fun _ H Q => Q (.ref C) none H)) : BS X W hk Γ (.Raise (some e) none pos :: rest) (.ex ⟨x, "", .n⟩) I :=
  pss_imp (pss_cons (ps_raise hc tk he) pss_never) fun D σ H ⟨E, F, h, g, q⟩ => q (.ref C) none σ F H g.e0 g.kp ⟨C, hm, rfl, rfl⟩
/-! ## try: A; except C: B -/
def subs (l : List (Str × Bool)) (c : Str) : Option Bool := l.lookup c
def tryM {α : Type} (l : List (Str × Bool)) (m h : Mx α) : Mx α := match m with
  | .ok a => .ok a
  | .ex e => (match subs l e.c with
    | some true => h
    | some false => .ex e
    | none => .no)
  | .no => .no
/-- what is known in the suite: the slots that the body leaves -/
def kept : Ctx → List Nat → Nat → Ctx
  | [], _, _ => []
  | s :: r, js, i => (if js.contains i then s else .no) :: kept r js (i + 1)
theorem kept_get {js : List Nat} : ∀ {Γ : Ctx} {n i : Nat} {s : Slot}, (kept Γ js n)[i]? = some s → ∃ u, Γ[i]? = some u ∧ (s = .no ∨ (s = u ∧ n + i ∈ js))
  | [], _, _, _, e => by simp [kept] at e
  | u :: r, n, 0, s, e => by
    refine ⟨u, rfl, ?_⟩
    have e : (if js.contains n then u else Slot.no) = s := by simpa [kept] using e
    by_cases h : js.contains n = true
    · rw [if_pos h] at e; exact .inr ⟨e.symm, by simpa using h⟩
    · rw [if_neg h] at e; exact .inl e.symm
  | u :: r, n, i + 1, s, e => by
    obtain ⟨v, h1, h2⟩ := kept_get (Γ := r) (n := n + 1) (i := i) (s := s) (by simpa [kept] using e)
    refine ⟨v, by simpa using h1, h2.imp_right fun ⟨a, b⟩ => ⟨a, by rw [show n + (i + 1) = n + 1 + i by omega]; exact b⟩⟩
def Slot.isO : Slot → Bool
  | .o _ _ => true
  | _ => false
def Ctx.noOwn (Γ : Ctx) : Bool := Γ.all fun s => !s.isO
theorem noOwn_at {i : Nat} {s : Slot} (h : Ctx.noOwn Γ = true) (e : Γ[i]? = some s) : ∀ o y, s ≠ .o o y := fun o y z => by
  have := List.all_eq_true.mp h s (List.mem_iff_getElem?.mpr ⟨i, e⟩)
  subst z
  cases this
theorem lookup_in {c : Str} {b : Bool} : ∀ {l : List (Str × Bool)}, l.lookup c = some b → (c, b) ∈ l
  | [], h => nomatch h
  | (y, b2) :: r, h => by
    rw [List.lookup_cons] at h
    by_cases hz : c = y
    · rw [show (c == y) = true from beq_iff_eq.mpr hz] at h
      cases h
      rw [hz]; exact List.mem_cons_self ..
    · rw [show (c == y) = false from beq_eq_false_iff_ne.mpr hz] at h
      exact List.mem_cons_of_mem _ (lookup_in h)
theorem sg_data {K : PySem.W.Frag} {mg : Str → Option Value} {E : Ent} {σ : L2.St} {F H : Hp} (e0 : Ext E.F0 E.B F H) (kp : ∀ i ∈ E.hk, σ[i]? = E.s0[i]?) (h : Ctx.noOwn Γ = true) (d : SD K mg Γ σ F) : SG K mg E Γ σ F H := by
  refine ⟨e0, kp, fun _ => [], fun i s e => ?_, fun _ _ => rfl, fun _ => List.nodup_nil, fun _ _ _ a ha => (nomatch ha), fun _ a ha => (nomatch ha)⟩
  obtain ⟨ov, e1, r⟩ := d i s e
  refine ⟨ov, e1, ?_⟩
  cases s with
  | no => exact rfl
  | d t y => exact ⟨rfl, r⟩
  | o o y => exact absurd rfl (noOwn_at h e o y)
theorem SG.sdn {K : PySem.W.Frag} {mg : Str → Option Value} {E : Ent} {σ : L2.St} {F H : Hp} (g : SG K mg E Γ σ F H) (h : Ctx.noOwn Γ = true) : SD K mg Γ σ F := fun i s e => by
  obtain ⟨_, _, fps, q⟩ := g
  obtain ⟨ov, e1, r⟩ := q.at_ i s e
  refine ⟨ov, e1, ?_⟩
  cases s with
  | no => exact True.intro
  | d t y => exact r.2
  | o o y => exact absurd rfl (noOwn_at h e o y)
theorem noOwn_kept {js : List Nat} : ∀ {Γ : Ctx} {n : Nat}, Ctx.noOwn Γ = true → Ctx.noOwn (kept Γ js n) = true
  | [], _, _ => rfl
  | s :: r, n, h => by
    have h' : (!s.isO && Ctx.noOwn r) = true := h
    rw [Bool.and_eq_true] at h'
    show (!(if js.contains n then s else Slot.no).isO && Ctx.noOwn (kept r js (n + 1))) = true
    rw [noOwn_kept h'.2, Bool.and_true]
    by_cases hc : js.contains n = true
    · rw [if_pos hc]; exact h'.1
    · rw [if_neg hc]; rfl
/-- the classes of exceptions that may come, and whether the clause takes them -/
def SubOk (X : Cx) (l : List (Str × Bool)) (C : Addr) : Prop := ∀ (y : Str) (b : Bool), (y, b) ∈ l → ∃ D, X.mg y = some (.ref D) ∧ PySem.W.exmOne X.K (.ref D) (.ref C) = some b
theorem sub_nil : SubOk X [] C := fun _ _ h => nomatch h
theorem sub_cons {y : Str} {b : Bool} {D : Addr} {l : List (Str × Bool)} (h1 : X.mg y = some (.ref D)) (h2 : PySem.W.exmOne X.K (.ref D) (.ref C) = some b) (h : SubOk X l C) : SubOk X ((y, b) :: l) C := fun z c hz => by
  rcases List.mem_cons.mp hz with e | hz
  · cases e; exact ⟨D, h1, h2⟩
  · exact h z c hz
/-- the body's results go into the statement's surroundings -/
theorem s1_try {l : List (Str × Bool)} {mb mh : Mx β} (js : List Nat) (hs : X.stack = X.env :: X.outer) (hf : X.env.frame = some X.env.locals) (hn : Names X c (.ref C)) (tk : Takes X W) (hno : Ctx.noOwn Γ = true) (hjs0 : ∀ j ∈ hk, j ∈ js) (hlast0 : js.contains (Γ.length - 1) = true) (hsub : SubOk X l C)
    (hb : ∀ (W' : WX) (pn : List (Addr × Obj)) (xe : Value → Shared → Prop), Takes (X.tr pn xe) W' → PassesOwn (model X.prog X.w) X.A X.env xe → BS (X.tr pn xe) W' js Γ body mb I)
    (hh : ∀ (a : Addr) (oe : Obj) (pn : List (Addr × Obj)), BS (X.suite a ((a, oe) :: pn)) W hk (kept Γ js 0) (b0 :: suite) mh I) :
    S1 X W hk Γ (.Try body [.ExceptHandler (some (.Name c np)) none (b0 :: suite) pos'] [] [] pos) (tryM l mb mh) I :=
  ps_imp (ps_try_only (Wout := W) (c := .ref C) (tb := fun W' => tS X.K X.mg W' js Γ mb I) (ts := fun a cls d => tS X.K X.mg W hk (kept Γ js 0) mh I) hs hf hn tk (fun W' pn xe t p => hb W' pn xe t p) (fun a oe cls d pn _ _ => hh a oe pn)) fun D σ H ⟨E, F, h, g, q⟩ => by
    have hjs := hjs0
    have hlast : Γ.length - 1 ∈ js := List.contains_iff_mem.mp hlast0
    have gd := g.sdn hno
    refine ⟨⟨F, H, js, σ⟩, F, rfl, sg_data (Ext.refl g.e0.i) (fun _ _ => rfl) hno gd, ?_⟩
    have up : ∀ (Γ1 : Ctx) (σ' : L2.St) (F' H' : Hp), SG X.K X.mg ⟨F, H, js, σ⟩ Γ1 σ' F' H' → SG X.K X.mg E Γ1 σ' F' H' := fun Γ1 σ' F' H' s => by
      obtain ⟨e1, k1, fps, w⟩ := s
      refine ⟨g.e0.trans e1, fun i hi => (k1 i (hjs i (by rw [← h]; exact hi))).trans (g.kp i hi), fps, w.at_, w.out, w.nd, w.sep, fun i a ha => ⟨(w.new i a ha).1, ?_⟩⟩
      cases eb : E.B a with
      | none => rfl
      | some o => have := g.e0.h _ _ eb; rw [show H a = none from (w.new i a ha).2] at this; cases this
    cases hm : mb with
    | no => rw [hm] at q; exact q
    | ok b =>
      rw [hm] at q
      have q : outP X.K X.mg E D (I b) := q
      show outP X.K X.mg ⟨F, H, js, σ⟩ D (I b)
      cases ei : I b with
      | nx Γ1 => rw [ei] at q; exact fun σ' F' H' s => q σ' F' H' (up _ _ _ _ s)
      | bk Γ1 => rw [ei] at q; exact fun σ' F' H' s => q σ' F' H' (up _ _ _ _ s)
      | ct Γ1 => rw [ei] at q; exact fun σ' F' H' s => q σ' F' H' (up _ _ _ _ s)
      | rt r y => rw [ei] at q; exact fun v F' H' x rr => q v F' H' (g.e0.trans x) (rtr_pre g.e0.h rr)
      | rs t y o2 x2 => rw [ei] at q; exact fun v Γ1 σ' F' H' e0 s rr => q v Γ1 σ' F' H' e0 (up _ _ _ _ s) rr
    | ex z =>
      rw [hm] at q
      intro cls d σ' F' H' x kp xz
      obtain ⟨Dz, m1, rfl, m2⟩ := id xz
      unfold tryM at q
      simp only at q
      cases eb : subs l z.c with
      | none => rw [eb] at q; exact q.elim
      | some b =>
        rw [eb] at q
        have hin : (z.c, b) ∈ l := lookup_in eb
        obtain ⟨D1, m3, m4⟩ := hsub _ _ hin
        rw [m1] at m3; cases m3
        refine ⟨b, m4, fun hb2 a _ => ?_, fun hb2 => ?_⟩
        · subst hb2
          refine ⟨E, F', h, ?_, q⟩
          refine sg_data (g.e0.trans x) (fun i hi => (kp i (hjs i (by rw [← h]; exact hi))).trans (g.kp i hi)) (noOwn_kept hno) fun i s e => ?_
          obtain ⟨u, h1, h2⟩ := kept_get e
          obtain ⟨ov, e1, r⟩ := gd i u h1
          rcases h2 with rfl | ⟨rfl, hj⟩
          · have hi : i < Γ.length := (List.getElem?_eq_some_iff.mp h1).1
            obtain ⟨ov2, e2, _⟩ := gd (Γ.length - 1) _ (List.getElem?_eq_getElem (by omega))
            have e3 := (kp (Γ.length - 1) hlast).trans e2
            have := (List.getElem?_eq_some_iff.mp e3).1
            exact ⟨_, List.getElem?_eq_getElem (by omega), True.intro⟩
          · rw [Nat.zero_add] at hj
            exact ⟨ov, (kp i hj).trans e1, sd_mono x.f r⟩
        · subst hb2
          exact q (.ref Dz) d σ' F' H' (g.e0.trans x) (fun i hi => (kp i (hjs i (by rw [← h]; exact hi))).trans (g.kp i hi)) xz
end
end Gm
set_option Elab.async false
set_option linter.all false
set_option maxRecDepth 100000
set_option maxHeartbeats 4000000
namespace Gm
open PySem PySem.Spec L2

section
variable {X : Cx} {W : WX} {Γ : Ctx} {a b c e : Expr} {pos p p2 q : Pos} {t : Ty} {F H : Hp}
/-! ## tuples joined, cut -/
theorem e_catT {m1 m2 : Mx (List t.den)} (ha : EM X W Γ a (.vtup t) m1) (hb : EM X W Γ b (.vtup t) m2) : EM X W Γ (.BinOp a .Add b pos) (.vtup t) (m1 >>= fun x => m2 >>= fun y => ofO (catL x y)) := e_bin (t1 := .vtup t) (t2 := .vtup t) (r := .d (.vtup t)) (g := catL) op_catA (fun x y z e v w F H Q s r1 r2 k => by
  unfold catL at e
  by_cases h : x.length + y.length ≤ sizeLine
  · rw [if_pos h] at e
    cases e
    obtain ⟨p, ws, e1, sq1, rr1⟩ := r1
    cases (List.cons.inj e1).1
    obtain ⟨q, zs, e2, sq2, rr2⟩ := r2
    cases (List.cons.inj e2).1
    refine ⟨p, q, ws, zs, rfl, rfl, sqT_same s sq1, sqT_same s sq2, by rw [← rr1.len, ← rr2.len]; exact h, fun e => ?_, fun _ e => ?_, fun _ _ l nl => ?_⟩
    · subst e
      refine k (.ref q) F H (Ext.refl s) ⟨q, zs, rfl, sq2, ?_⟩
      cases x with
      | nil => exact rr2
      | cons _ _ => exact rr1.elim
    · subst e
      refine k (.ref p) F H (Ext.refl s) ⟨p, ws, rfl, sq1, ?_⟩
      cases y with
      | nil => rw [List.append_nil]; exact rr1
      | cons _ _ => exact rr2.elim
    · have e2 := Ext.new (o := .tup (ws ++ zs)) s nl
      exact k (.ref l) _ _ e2 ⟨l, ws ++ zs, rfl, SqT.of upd_same, (rr1.app rr2).imp fun y v z => rl_mono e2.f t y [v] z⟩
  · rw [if_neg h] at e; cases e) ha hb
theorem e_slT {lo hi : Option Expr} {m1 : Mx (List t.den)} {ml mh : Mx (Option Int)} (ha : EM X W Γ a (.vtup t) m1) (hl : EP' X W Γ lo ml) (hh : EP' X W Γ hi mh) : EM X W Γ (.Subscript a (.Slice lo hi none p2) pos) (.vtup t) (m1 >>= fun x => ml >>= fun l => mh >>= fun u => .ok (cut x l u)) :=
  sl_of (t1 := .vtup t) (r := .d (.vtup t)) (k := fun x l u => .ok (cut x l u)) sl_tupA (fun x l u v F H σ Q s r1 k => by
    obtain ⟨p, ws, e, sq, rr⟩ := r1
    cases (List.cons.inj e).1
    refine ⟨p, ws, rfl, sqT_same s sq, fun hw => ?_, fun _ n nn => ?_⟩
    · refine k (.ref p) F H (Ext.refl s) ⟨p, ws, rfl, sq, ?_⟩
      have e1 : cut x l u = x := by
        unfold cut
        rw [rr.len, hw.1, hw.2, List.drop_zero, Nat.sub_zero, ← rr.len, List.take_length]
      rw [e1]; exact rr
    · have e2 := Ext.new (o := .tup (cutV ws l u)) s nn
      exact k (.ref n) _ _ e2 ⟨n, _, rfl, SqT.of upd_same, (cut_cutV (R := fun y v => rl X.K X.mg t y [v] F) rr l u).imp fun y v z => rl_mono e2.f t y [v] z⟩) ha hl hh
theorem e_tupU {fs : Ty} {m : Mx fs.den} (hg : Gl X "tuple") (hm : X.mg "tuple" = none) (ha : EM X W Γ a (.tup fs) m) (hs : starEach [a] X.env = (false, eval a X.env) :: starEach [] X.env := by rfl) : EM X W Γ (.Call (.Name "tuple" q) [a] [] pos) (.tup fs) m :=
  pe_imp (pe_callTy call_tuple_of hg hm (by decide +kernel) (ea_one ha hs) (he := hs)) fun σ H Q ⟨F, s, d, p⟩ => ⟨F, s, d, p.mono fun x px vs F1 H1 e1 r1 => by
    obtain ⟨a', ws, rfl, sq, rr⟩ := r1
    exact ⟨a', ws, rfl, .inr ⟨sqT_same e1.i sq, px (.ref a') F1 H1 e1 ⟨a', ws, rfl, sq, rr⟩⟩⟩⟩
/-- (a, b, ..) as a tuple of one kind -/
theorem e_vt {es : List Expr} {n k : Nat} {m : Mx (List t.den)} (h : EL X W Γ es t n m) (hl : Nat.ble n 1000 = true) : EM X W Γ (.Tuple es k pos) (.vtup t) m := pe_imp (pe_tup h) fun σ H Q ⟨F, s, d, q⟩ =>
  ⟨F, s, d, q.mono fun x px vs F1 H1 e1 r1 hn => ⟨Nat.le_trans (by rw [hn]; exact Nat.le_of_ble_eq_true hl) (by decide : 1000 ≤ sizeLine), fun p np => by
    have e2 := Ext.new (o := .tup vs) e1.i np
    exact px (.ref p) _ _ (e1.trans e2) ⟨p, vs, rfl, SqT.of upd_same, r1.imp fun y v z => rl_mono e2.f t y [v] z⟩⟩⟩
/-- some tuple -/
theorem e_tplV {m : Mx (List t.den)} (h : EM X W Γ a (.vtup t) m) : EM X W Γ a .tpl (m >>= fun _ => .ok ()) := pe_imp h fun σ H Q ⟨F, s, d, q⟩ => ⟨F, s, d, q.bind.mono fun x px v F1 H1 e1 r1 => by
  obtain ⟨p, ws, e, sq, _⟩ := r1
  exact px v F1 H1 e1 ⟨p, ws, e, sq⟩⟩
theorem e_tplT {fs : Ty} {m : Mx fs.den} (h : EM X W Γ a (.tup fs) m) : EM X W Γ a .tpl (m >>= fun _ => .ok ()) := pe_imp h fun σ H Q ⟨F, s, d, q⟩ => ⟨F, s, d, q.bind.mono fun x px v F1 H1 e1 r1 => by
  obtain ⟨p, ws, e, sq, _⟩ := r1
  exact px v F1 H1 e1 ⟨p, ws, e, sq⟩⟩
end
end Gm
set_option Elab.async false
set_option linter.all false
set_option maxRecDepth 100000
set_option maxHeartbeats 4000000
namespace Gm
open PySem PySem.Spec L2
open PyProof.Rows (Call_ boot_enumerate)

/-! ## enumerate of a list or a tuple, from a start -/
theorem meets_en1 {v : Value} {o : Obj} {G : Heap → Prop} (B : Begins v o G) :
    Meets (Builtin.«enumerate.__new__» ⟨[.type "enumerate", v], []⟩) (fun _ R z => G z.heap ∧
      R (.ok (.ret (.ref (z.heap.push o).objs.size))) { z with heap := (z.heap.push o).push { cls := .type "enumerate", data := .fields #[.none, .bool false, .ref z.heap.objs.size, rawInt 0, .none, .none] } }) :=
  .of_wp fun P w A R z h => by
    obtain ⟨hp, g, d, tk, os⟩ := z
    obtain ⟨h1, h⟩ := h
    have hsub := sub_enumerate
    have q1 : ∀ {A' : Around} {E Q : Value → Shared → Prop}, Q (.ref hp.objs.size) ⟨hp.push o, g, d, tk, os⟩ → wpAny (model P w) A' (pyIter v) Q E ⟨hp, g, d, tk, os⟩ := fun q => B.iter P w _ _ ⟨hp, g, d, tk, os⟩ _ h1 q
    wp_walk using q1
    refine wpAny_stack_any fun st => ?_; refine wpAny_pure ?_
    split
    · rename_i c _ _ _ _ _
      cases (c == Value.type "enumerate") <;> (wp_walk using q1; exact ⟨_, rfl, h⟩)
    · wp_walk using q1; exact ⟨_, rfl, h⟩
section
variable {P : Program} {w : World} {A : Around} {E : Value → Shared → Prop} {s : Shared}
theorem en1_begins {v : Value} {o : Obj} {G : Heap → Prop} {Q : Value → Shared → Prop} (B : Begins v o G) (h1 : G s.heap)
    (h : ∀ h', IsEnum h' (s.heap.objs.size + 1) s.heap.objs.size 0 .none → h'.get? s.heap.objs.size = some o → (∀ b u, s.heap.get? b = some u → h'.get? b = some u) → Q (.ref (s.heap.objs.size + 1)) { s with heap := h' }) :
    wpAny (model P w) A (call (.type "enumerate") [v]) Q E s := by
  refine callType_new F.called_enumerate (by decide) (F.typeCall_enumerate_1 _) (F.newCall_enumerate_1 _) (fun ob => F.args_object_init_2 ob _) F.entry_enumerate_new (meets_en1 B) ⟨h1, ?_⟩
  have hz : (s.heap.push o).objs.size = s.heap.objs.size + 1 := Heap.size_push ..
  show _ ∧ _
  rw [hz]
  have he : IsEnum ((s.heap.push o).push { cls := .type "enumerate", data := .fields #[.none, .bool false, .ref s.heap.objs.size, rawInt 0, .none, .none] }) (s.heap.objs.size + 1) s.heap.objs.size 0 .none := by
    have e1 := Heap.get?_push_size (s.heap.push o) (o := { cls := .type "enumerate", data := .fields #[.none, .bool false, .ref s.heap.objs.size, rawInt 0, .none, .none] }) rfl
    rw [hz] at e1; exact e1
  exact ⟨⟨_, he, rfl⟩, h _ he (Heap.get?_push_of_some _ (Heap.get?_push_size _ B.free)) fun b u x => Heap.get?_push_of_some _ (Heap.get?_push_of_some _ x)⟩
end
/-- what is walked by its places: a list or a tuple at a -/
structure Sq2 (P : Program) (w : World) (K : PySem.W.Frag) (a : Addr) (Q : Hp → List V → Prop) (S : Addr → Nat → Heap → Prop) (G : List Value → Heap → Prop) (ob : Obj) : Prop where
  get : ∀ {X : Cx} {pins : List (Addr × Obj)} {σ : L2.St} {H : Hp} {s : Shared} {xs : List V}, X.prog = P → X.w = w → X.K = K → Inv X pins σ H s → Q H xs → ∃ its, Vals xs its ∧ G its s.heap
  inj : ∀ {X : Cx} {pins : List (Addr × Obj)} {σ : L2.St} {H : Hp} {s : Shared} {xs ys : List V}, X.prog = P → X.w = w → X.K = K → Inv X pins σ H s → Q H xs → Q H ys → xs = ys
  dr : ∀ {A : Around} (it : Addr) (its : List Value), A.handled = none → a ≠ it → Draws P w A it [it, a] its.toArray.size (fun i v => its.toArray[i]? = some v) (fun i h => S it i h ∧ G its h)
  en : ∀ {A : Around} (it : Addr) (its : List Value) (i : Nat) (s : Shared) (Q E : Value → Shared → Prop), A.handled = none → its.length ≤ i → S it i s.heap → G its s.heap →
    (∀ h' e, Heap.ExtBut it s.heap h' → (∃ o, h'.get? e = some o ∧ o.cls = .type "StopIteration") → E (.ref e) { s with heap := h' }) → wpAny (model P w) A (Builtin.SmallTypes.nextOf (.ref it)) Q E s
  gat : ∀ {its : List Value} {h h' : Heap}, G its h → (∀ o, h.get? a = some o → h'.get? a = some o) → G its h'
  at_ : ∀ {it : Addr} {i : Nat} {h h' : Heap}, S it i h → (∀ o, h.get? it = some o → h'.get? it = some o) → S it i h'
  own : ∀ {it : Addr} {i : Nat} {h : Heap}, S it i h → ∃ o, h.get? it = some o ∧ ∀ v, o.data ≠ .cell v
  new : ∀ {it : Addr} {h : Heap}, h.get? it = some ob → S it 0 h
  bg : ∀ its, Begins (.ref a) ob (G its)
  lt : ∀ {its : List Value} {h : Heap}, G its h → a < h.objs.size
theorem sq_list (P : Program) (w : World) (K : PySem.W.Frag) (a : Addr) : Sq2 P w K a (fun H xs => SqL K H a xs) (fun it i h => h.IsListIter it a i) (fun its h => h.IsList a its.toArray) { cls := .type "list_iterator", data := .fields #[.ref a, .int 0 0] } where
  get := fun {X} _ _ _ _ _ e1 e2 e3 I q => by
    subst e1 e2 e3
    obtain ⟨its, r, p, _⟩ := I.list q
    exact ⟨its, r, p.isList⟩
  inj := fun e1 e2 e3 I q q' => by subst e1 e2 e3; exact I.list_inj q q'
  dr := fun it its hh hne => Draws.list hh it a hne its.toArray
  en := fun it its i s Q E hh hl h1 h2 hE => wpAny_nextOf_list_end hh h1 h2 (by simp; omega) hE
  gat := fun st k => st.at fun o e => k o e
  at_ := fun st k => st.at fun o e => k o e
  own := fun st => by obtain ⟨o, ho, hc, hd⟩ := st; exact ⟨o, ho, fun v q => by rw [hd] at q; cases q⟩
  new := fun e => ⟨_, e, rfl, rfl⟩
  bg := fun its => begins_list a its.toArray
  lt := fun ⟨_, e, _⟩ => Heap.lt_size e
theorem sq_tup (P : Program) (w : World) (K : PySem.W.Frag) (a : Addr) : Sq2 P w K a (fun H xs => SqT K H a xs) (fun it i h => h.IsTupleIter it a i) (fun its h => h.IsTuple a its.toArray) { cls := .type "tuple_iterator", data := .fields #[.ref a, .int 0 0] } where
  get := fun {X} _ _ _ _ _ e1 e2 e3 I q => by
    subst e1 e2 e3
    obtain ⟨its, r, p, _⟩ := I.tuple q
    exact ⟨its, r, p⟩
  inj := fun e1 e2 e3 I q q' => by subst e1 e2 e3; exact I.tuple_inj q q'
  dr := fun it its hh hne => Draws.tuple hh it a hne its.toArray
  en := fun it its i s Q E hh hl h1 h2 hE => wpAny_nextOf_tuple_end hh h1 h2 (by simp; omega) hE
  gat := fun st k => st.at fun o e => k o e
  at_ := fun st k => st.at fun o e => k o e
  own := fun st => by obtain ⟨o, ho, hc, hd⟩ := st; exact ⟨o, ho, fun v q => by rw [hd] at q; cases q⟩
  new := fun e => ⟨_, e, rfl, rfl⟩
  bg := fun its => begins_tuple a its.toArray
  lt := fun ⟨_, e, _⟩ => Heap.lt_size e
def Itn (Q : Hp → List V → Prop) (c : Int) : It :=
  ⟨fun i H => ∃ (xs : List V) (x : V), Q H xs ∧ xs[i]? = some x, fun i H v H' => ∃ T x, v = .ref T ∧ H T = none ∧ H' = upd H T (.tup [.int (c + (i : Nat)), x]) ∧ ∀ xs, Q H xs → xs[i]? = some x, fun i H => ∃ xs : List V, Q H xs ∧ xs.length ≤ i⟩
section
variable {P : Program} {w : World} {K : PySem.W.Frag} {a : Addr} {Q : Hp → List V → Prop} {S : Addr → Nat → Heap → Prop} {G : List Value → Heap → Prop} {ob : Obj} {elts : List Expr} {kk : Nat} {tpos : Pos}
/-- at the end nothing more is drawn -/
theorem Sq2.stop (D : Sq2 P w K a Q S G ob) {A : Around} (it : Addr) (its : List Value) (i : Nat) (hh : A.handled = none) (hl : its.length ≤ i) : Draws P w A it [it, a] i (fun _ _ => False) (fun j h => j = i ∧ S it i h ∧ G its h) where
  live := fun _ _ st => let ⟨o, ho, _⟩ := D.own st.2.1; ⟨o, ho⟩
  frame := fun _ _ _ st hk => ⟨st.1, D.at_ st.2.1 fun o e => hk it (by simp) o e, D.gat st.2.2 fun o e => hk a (by simp) o e⟩
  item := fun j s Q E hj st _ => absurd st.1 (Nat.ne_of_lt hj)
  done := fun s Q E st hE => D.en it its i s Q E hh hl st.2.1 st.2.2 hE
theorem turn_en (D : Sq2 P w K a Q S G ob) (c : Int) (e it : Addr) : Turn P w K (.Tuple elts kk tpos) (Itn Q c) [e, it] e (fun i h => (∃ old, IsEnum h e it (c + ((i : Nat) : Int)) old) ∧ S it i h ∧ e ≠ it ∧ a ≠ it ∧ a ≠ e) where
  mem := by simp
  obj := fun i h st b hb => by
    obtain ⟨⟨old, he⟩, hi, _⟩ := st
    have e' : b = e ∨ b = it := by simpa using hb
    rcases e' with z | z
    · rw [z]; exact ⟨_, he, fun v q => nomatch q⟩
    · rw [z]; exact D.own hi
  keep := fun i h h' st k => let ⟨⟨old, he⟩, hi, hne⟩ := st; ⟨⟨old, k e (by simp) _ he⟩, D.at_ hi fun o q => k it (by simp) o q, hne⟩
  item := by
    intro X hP hw hK hc i pins s σ H E I hf st hg
    obtain ⟨⟨old, he⟩, hit, hne, hai, hae⟩ := st
    obtain ⟨xs, x, hq, hx⟩ := hg
    obtain ⟨its, rv, p⟩ := D.get hP hw hK I hq
    obtain ⟨u, hu, ru⟩ := rv.get hx
    have hel : e < s.heap.objs.size := Heap.lt_size he
    have hil : it < s.heap.objs.size := by obtain ⟨_, q, _⟩ := D.own hit; exact Heap.lt_size q
    have hlt : i < its.toArray.size := by rw [List.size_toArray]; exact (List.getElem?_eq_some_iff.mp hu).1
    refine wpAny_pyNext_enum_itemC (D.dr (A := X.A.in1) it its (I.ok.hd hc) hai) he ⟨hit, p⟩ hlt hne (by simp [hne, Ne.symm hae]) fun y h' tk hP' ho hs' hT hsz hk => ?_
    have ey : y = u := by
      have hP2 : its[i]? = some y := by simpa using hP'
      rw [hu] at hP2; exact (Option.some.inj hP2).symm
    subst ey
    refine ⟨_, rfl, wpAny_letOwnedTupleGo_enum (s := { s with heap := h', toks := tk + 1 }) ho fun h'' he' sb => ?_⟩
    have hT2 : h''.get? s.heap.objs.size = some { cls := .type "tuple", data := .seq #[.int (c + ((i : Nat) : Int)) tk, y] } := (sb.2 _ (Nat.ne_of_gt hel)).trans hT
    have new : ObjOk X.prog X.w (upd H s.heap.objs.size (.tup [.int (c + (i : Nat)), x])) h'' s.heap.objs.size (.tup [.int (c + (i : Nat)), x]) :=
      ⟨by show 2 ≤ sizeLine; decide, [.int (c + ((i : Nat) : Int)) tk, y], .cons ⟨_, rfl⟩ (.cons ru .nil), ⟨_, hT2, rfl, _, rfl⟩⟩
    have I1 : Inv X pins σ (upd H s.heap.objs.size (.tup [.int (c + (i : Nat)), x])) { s with heap := h'', toks := tk + 1 } :=
      I.turnedNew (ch := [e, it]) (fun b ob hb q => (sb.2 b (fun z => hb (by simp [z]))).trans (hk b ob (fun z => hb (by simp [z])) (fun z => hb (by simp [z])) q)) hf (Nat.le_refl _) new
    refine ⟨.ref s.heap.objs.size, _, I1, rfl, ⟨_, x, rfl, I.hok.fresh (Nat.le_refl _), rfl, fun ys hy => by rw [D.inj hP hw hK I hy hq]; exact hx⟩, ⟨⟨y, ?_⟩, D.at_ hs'.1 (fun o q => (sb.2 it (Ne.symm hne)).trans q), hne, hai, hae⟩, fun b hb => ?_⟩
    · have e1 : c + ((i + 1 : Nat) : Int) = c + (i : Int) + 1 := by omega
      rw [e1]; exact he'
    · have hb' : b < s.heap.objs.size := by
        have e' : b = e ∨ b = it := by simpa using hb
        rcases e' with z | z
        · rw [z]; exact hel
        · rw [z]; exact hil
      rw [upd_ne (Nat.ne_of_lt hb')]
      exact (hf b hb).1
  done := by
    intro X hP hw hK hc i pins s σ H E I hf st hg
    obtain ⟨⟨old, he⟩, hit, hne, hai, hae⟩ := st
    obtain ⟨xs, hq, hx⟩ := hg
    obtain ⟨its, rv, p⟩ := D.get hP hw hK I hq
    obtain ⟨f0, f1, f2, f3, f4, f5⟩ := hf it (by simp)
    have hl : its.length ≤ i := by rw [← rv.length]; exact hx
    exact wpAny_pyNext_enum_endD (D.stop (A := X.A.in1) it its i (I.ok.hd hc) hl) he ⟨rfl, hit, p⟩ fun h' eb => ⟨rfl, I.turned (t' := s.toks) (fun b o hb q => eb b o hb q) f0 f1 f3 f4 f5⟩
  self := fun A i s Q E st h => let ⟨⟨_, he⟩, _⟩ := st; wpAny_pyIter_enum he h
end
def iEn (Sq : Addr → Hp → List V → Prop) (ta : TA) : TI := fun σ H R => ta σ H fun vs H1 => ∃ (a : Addr) (xs : List V), vs = [.ref a] ∧ Sq a H1 xs ∧ R (Itn (Sq a) 0) H1
def iEn2 (Sq : Addr → Hp → List V → Prop) (ta : TA) : TI := fun σ H R => ta σ H fun vs H1 => ∃ (a : Addr) (xs : List V) (c : Int), vs = [.ref a, .int c] ∧ -(2 ^ 63) ≤ c ∧ c < 2 ^ 63 ∧ Sq a H1 xs ∧ R (Itn (Sq a) c) H1
section
variable {X : Cx} {e e2 : Expr} {ta : TA} {p pos tpos : Pos} {elts : List Expr} {kk : Nat} {Sq : Addr → Hp → List V → Prop} {S : Addr → Addr → Nat → Heap → Prop} {G : Addr → List Value → Heap → Prop} {ob : Addr → Obj}
theorem en_fp {pins : List (Addr × Obj)} {σ : L2.St} {H : Hp} {s : Shared} (I : Inv X pins σ H s) : ∀ b ∈ [s.heap.objs.size + 1, s.heap.objs.size], FpOk X pins H b := fun b hb => by
  have e' : b = s.heap.objs.size + 1 ∨ b = s.heap.objs.size := by simpa using hb
  have hle : s.heap.objs.size ≤ b := by
    rcases e' with z | z
    · rw [z]; exact Nat.le_add_right _ _
    · rw [z]; exact Nat.le_refl _
  exact I.fpOk hle (I.hok.fresh hle)
theorem pi_en (D : ∀ a, Sq2 X.prog X.w X.K a (Sq a) (S a) (G a) (ob a)) (hg : Gl X "enumerate") (hm : X.mg "enumerate" = none) (ha : PA X [e] ta) (hs : starEach [e] X.env = [(false, eval e X.env)]) : PI X (.Tuple elts kk tpos) (.Call (.Name "enumerate" p) [e] [] pos) (iEn Sq ta) := by
  refine ⟨fun pins s σ H R I h => ?_⟩
  refine Call_ (ld_blt I hg hm boot_enumerate (PyProof.Rows.callWith_type1 (thn (ha.run pos pins s σ H _ I h) fun us s1 ⟨vs, H1, I1, r1, q1⟩ => ?_) hs rfl))
  obtain ⟨a, xs, ex, hq, q⟩ := q1
  subst ex
  cases r1 with
  | cons r rr =>
    cases rr
    cases r
    obtain ⟨its, rv, p'⟩ := (D a).get rfl rfl rfl I1 hq
    have hlt := (D a).lt p'
    refine en1_begins ((D a).bg its) p' fun h' he hit hk => wpAny_pyIter_enum he ?_
    have I2 : Inv X pins σ H1 { s1 with heap := h' } := I1.kept (t' := s1.toks) hk
    exact ⟨s1.heap.objs.size + 1, [s1.heap.objs.size + 1, s1.heap.objs.size], _, _, H1, rfl, I2, turn_en (D a) 0 (s1.heap.objs.size + 1) s1.heap.objs.size,
      ⟨⟨.none, he⟩, (D a).new hit, Nat.succ_ne_self _, Nat.ne_of_lt hlt, Nat.ne_of_lt (Nat.lt_succ_of_lt hlt)⟩, fun b hb => en_fp I1 b hb, q⟩
theorem pi_en2 (D : ∀ a, Sq2 X.prog X.w X.K a (Sq a) (S a) (G a) (ob a)) (hg : Gl X "enumerate") (hm : X.mg "enumerate" = none) (ha : PA X [e, e2] ta) (hs : starEach [e, e2] X.env = [(false, eval e X.env), (false, eval e2 X.env)]) (hs2 : starEach [e2] X.env = [(false, eval e2 X.env)]) : PI X (.Tuple elts kk tpos) (.Call (.Name "enumerate" p) [e, e2] [] pos) (iEn2 Sq ta) := by
  refine ⟨fun pins s σ H R I h => ?_⟩
  refine Call_ (ld_blt I hg hm boot_enumerate (PyProof.Rows.callWith_type1 (thn (ha.run pos pins s σ H _ I h) fun us s1 ⟨vs, H1, I1, r1, q1⟩ => ?_) (by rw [hs, hs2]) (by rw [hs2]; rfl)))
  obtain ⟨a, xs, c, ex, c0, c1, hq, q⟩ := q1
  subst ex
  cases r1 with
  | cons r rr =>
    cases rr with
    | cons r' rr =>
      cases rr
      cases r
      obtain ⟨t, rfl⟩ := r'
      obtain ⟨its, rv, p'⟩ := (D a).get rfl rfl rfl I1 hq
      have hlt := (D a).lt p'
      refine enum_begins ((D a).bg its) p' c0 c1 fun h' he hit hsz hk => wpAny_pyIter_enum he ?_
      have I2 : Inv X pins σ H1 { s1 with heap := h' } := I1.kept (t' := s1.toks) hk
      exact ⟨s1.heap.objs.size + 1, [s1.heap.objs.size + 1, s1.heap.objs.size], _, _, H1, rfl, I2, turn_en (D a) c (s1.heap.objs.size + 1) s1.heap.objs.size,
        ⟨⟨.none, by rw [show c + ((0 : Nat) : Int) = c by simp]; exact he⟩, (D a).new hit, Nat.succ_ne_self _, Nat.ne_of_lt hlt, Nat.ne_of_lt (Nat.lt_succ_of_lt hlt)⟩, fun b hb => en_fp I1 b hb, q⟩
end
def enumN {α : Type} (c : Int) (xs : List α) : List (Int × α) := (enumL xs).map fun p => (c + p.1, p.2)
theorem enumN_len {α : Type} {c : Int} {xs : List α} : (enumN c xs).length = xs.length := by simp [enumN, enumL_len]
theorem enumN_get {α : Type} {c : Int} {xs : List α} {i : Nat} {x : α} (h : xs[i]? = some x) : (enumN c xs)[i]? = some (c + (i : Int), x) := by
  unfold enumN; rw [List.getElem?_map, enumL_get h]; rfl
theorem enumN_zero {α : Type} {xs : List α} : enumN 0 xs = enumL xs := by
  unfold enumN
  have : (fun p : Int × α => ((0 : Int) + p.1, p.2)) = id := by funext p; simp
  rw [this, List.map_id]
section
variable {X : Cx} {W : WX} {Γ : Ctx} {tg a b e : Expr} {pos p q tpos : Pos} {t : Ty} {elts : List Expr} {kk : Nat}
theorem wlk_en {K : PySem.W.Frag} {mg : Str → Option Value} {F : Hp} {Q : Hp → List V → Prop} {c : Int} {xs : List t.den} {ws : List V} (hq : ∀ H, Same F H → Q H ws) (rr : all2 (fun y w => rl K mg t y [w] F) xs ws) :
    Wlk K mg (.tup (.pr .int t)) (Itn Q c) (enumN c xs) F := by
  refine ⟨fun i H s hi => ?_, fun i H s hi => ⟨ws, hq H s, by rw [← rr.len, ← enumN_len (c := c)]; exact hi⟩, fun i H v H3 s hi y => ?_⟩
  · rw [enumN_len] at hi
    obtain ⟨v, h1, _⟩ := rr.get (List.getElem?_eq_getElem hi)
    exact ⟨ws, v, hq H s, h1⟩
  · obtain ⟨T, z, rfl, nT, rfl, f⟩ := y
    obtain ⟨y, h1, h2⟩ := rr.getV (f ws (hq H s))
    refine ⟨(c + (i : Int), y), enumN_get h1, fun G g1 g2 => ?_⟩
    have e2 := Ext.new (o := .tup [.int (c + (i : Nat)), z]) g2 nT
    exact ⟨_, e2, T, _, rfl, SqT.of upd_same, .int (c + (i : Nat)), [z], rfl, rfl, rl_mono (g1.trans e2.f) t y [z] h2⟩
theorem i_enumT {m : Mx (List t.den)} (hg : Gl X "enumerate") (hm : X.mg "enumerate" = none) (ha : EM X W Γ a (.vtup t) m) (hs : starEach [a] X.env = [(false, eval a X.env)]) :
    EI X W Γ (.Tuple elts kk tpos) (.Call (.Name "enumerate" p) [a] [] pos) (.tup (.pr .int t)) (m >>= fun xs => .ok (enumL xs)) :=
  pi_imp (pi_en (fun a => sq_tup X.prog X.w X.K a) hg hm (ea_one ha hs) hs) fun σ H R ⟨F, s, d, q⟩ => ⟨F, s, d, q.bind.mono fun x px vs F1 H1 e1 r1 => by
    obtain ⟨l, ws, e, sq, rr⟩ := r1
    have hw := wlk_en (t := t) (K := X.K) (mg := X.mg) (F := F1) (Q := fun H xs => SqT X.K H l xs) (c := 0) (fun H s => sqT_same s sq) rr
    rw [enumN_zero] at hw
    exact ⟨l, ws, e, sqT_same e1.i sq, px F1 H1 _ e1 hw⟩⟩
theorem i_en2T {m : Mx (List t.den)} {mc : Mx Int} (hg : Gl X "enumerate") (hm : X.mg "enumerate" = none) (ha : EM X W Γ a (.vtup t) m) (hb : EM X W Γ b .int mc) (hs : starEach [a, b] X.env = [(false, eval a X.env), (false, eval b X.env)]) (hs2 : starEach [b] X.env = [(false, eval b X.env)]) :
    EI X W Γ (.Tuple elts kk tpos) (.Call (.Name "enumerate" p) [a, b] [] pos) (.tup (.pr .int t)) (m >>= fun xs => mc >>= fun c => if -(2 ^ 63) ≤ c ∧ c < 2 ^ 63 then .ok (enumN c xs) else .no) :=
  pi_imp (pi_en2 (fun a => sq_tup X.prog X.w X.K a) hg hm (pa_cons ha (pa_cons hb pa_nil hs2) (by rw [hs, hs2])) hs hs2) fun σ H R ⟨F, s, d, q⟩ => ⟨F, s, d, q.bind.mono fun x px v F1 H1 e1 r1 => ⟨F1, e1.i, d.mono e1.f, post.ext e1 px.bind fun c pc w F2 H2 e2 r2 => by
    obtain ⟨l, ws, e, sq, rr⟩ := r1
    cases (List.cons.inj e).1
    cases (List.cons.inj (show [w] = _ from r2)).1
    by_cases hc : -(2 ^ 63) ≤ c ∧ c < 2 ^ 63
    · rw [if_pos hc] at pc
      have sq2 := sqT_mono (fun b o z _ => e2.f b o z) sq
      have hw := wlk_en (t := t) (K := X.K) (mg := X.mg) (F := F2) (Q := fun H xs => SqT X.K H l xs) (c := c) (fun H s => sqT_same s sq2) (rr.imp fun y u z => rl_mono e2.f t y [u] z)
      exact ⟨l, ws, c, rfl, hc.1, hc.2, sqT_same e2.i sq2, pc F2 H2 _ (e1.trans e2) hw⟩
    · rw [if_neg hc] at pc; exact pc.elim⟩⟩
theorem i_en2L {m : Mx (List t.den)} {mc : Mx Int} (hg : Gl X "enumerate") (hm : X.mg "enumerate" = none) (ha : EM X W Γ a (.list t) m) (hb : EM X W Γ b .int mc) (hs : starEach [a, b] X.env = [(false, eval a X.env), (false, eval b X.env)]) (hs2 : starEach [b] X.env = [(false, eval b X.env)]) :
    EI X W Γ (.Tuple elts kk tpos) (.Call (.Name "enumerate" p) [a, b] [] pos) (.tup (.pr .int t)) (m >>= fun xs => mc >>= fun c => if -(2 ^ 63) ≤ c ∧ c < 2 ^ 63 then .ok (enumN c xs) else .no) :=
  pi_imp (pi_en2 (fun a => sq_list X.prog X.w X.K a) hg hm (pa_cons ha (pa_cons hb pa_nil hs2) (by rw [hs, hs2])) hs hs2) fun σ H R ⟨F, s, d, q⟩ => ⟨F, s, d, q.bind.mono fun x px v F1 H1 e1 r1 => ⟨F1, e1.i, d.mono e1.f, post.ext e1 px.bind fun c pc w F2 H2 e2 r2 => by
    obtain ⟨l, ws, e, sq, rr⟩ := r1
    cases (List.cons.inj e).1
    cases (List.cons.inj (show [w] = _ from r2)).1
    by_cases hc : -(2 ^ 63) ≤ c ∧ c < 2 ^ 63
    · rw [if_pos hc] at pc
      have sq2 := e2.f _ _ sq
      have hw := wlk_en (t := t) (K := X.K) (mg := X.mg) (F := F2) (Q := fun H xs => SqL X.K H l xs) (c := c) (fun H s => SqL.of (s _ _ sq2)) (rr.imp fun y u z => rl_mono e2.f t y [u] z)
      exact ⟨l, ws, c, rfl, hc.1, hc.2, SqL.of (e2.i _ _ sq2), pc F2 H2 _ (e1.trans e2) hw⟩
    · rw [if_neg hc] at pc; exact pc.elim⟩⟩
end
end Gm
set_option Elab.async false
set_option linter.all false
set_option maxRecDepth 100000
set_option maxHeartbeats 4000000
namespace Gm
open PySem PySem.Spec L2

/-! ## entries -/
section
variable {α β : Type} [DecidableEq α]
def dget (xs : List (α × β)) (x : α) : Option β := (xs.find? fun p => decide (p.1 = x)).map (·.2)
def dput (xs : List (α × β)) (x : α) (y : β) : List (α × β) := if (xs.any fun p => decide (p.1 = x)) = true then xs.map (fun p => if p.1 = x then (p.1, y) else p) else xs ++ [(x, y)]
def ddrop (xs : List (α × β)) (x : α) : List (α × β) := xs.filter fun p => decide (p.1 ≠ x)
def dmerge (ps : List (α × β)) : List (α × β) := ps.foldl (fun acc p => dput acc p.1 p.2) []
theorem dget_nil {x : α} : dget ([] : List (α × β)) x = none := rfl
theorem dget_pos {p : α × β} {r : List (α × β)} {x : α} (e : p.1 = x) : dget (p :: r) x = some p.2 := by simp [dget, List.find?_cons, e]
theorem dget_neg {p : α × β} {r : List (α × β)} {x : α} (e : ¬ p.1 = x) : dget (p :: r) x = dget r x := by simp [dget, List.find?_cons, e]
variable {κ : Type} [DecidableEq κ] {f : α → κ} {R : β → V → Prop}
theorem allD.len {α β κ : Type} {f : α → κ} {R : β → V → Prop} : ∀ {xs : List (α × β)} {kvs : List (κ × V)}, allD f R xs kvs → xs.length = kvs.length
  | [], [], _ => rfl
  | _ :: _, _ :: _, ⟨_, c⟩ => congrArg (· + 1) (allD.len c)
  | [], _ :: _, z => z.elim
  | _ :: _, [], z => z.elim
theorem allD.val (hf : ∀ a b, f a = f b → a = b) (x : α) : ∀ {xs : List (α × β)} {kvs : List (κ × V)}, allD f R xs kvs → (dget xs x = none ∧ valV kvs (f x) = none) ∨ ∃ y v, dget xs x = some y ∧ valV kvs (f x) = some v ∧ R y v
  | [], [], _ => .inl ⟨rfl, rfl⟩
  | p :: xs, q :: kvs, ⟨⟨a, b⟩, c⟩ => by
    by_cases h : p.1 = x
    · have hq : q.1 = f x := by rw [a, h]
      exact .inr ⟨p.2, q.2, dget_pos h, valV_pos hq, b⟩
    · have hq : ¬ q.1 = f x := fun z => h (hf _ _ (a.symm.trans z))
      rw [dget_neg h, valV_neg hq]
      exact allD.val hf x c
  | [], _ :: _, z => z.elim
  | _ :: _, [], z => z.elim
theorem allD.any (hf : ∀ a b, f a = f b → a = b) (x : α) : ∀ {xs : List (α × β)} {kvs : List (κ × V)}, allD f R xs kvs → (kvs.any fun kv => decide (kv.1 = f x)) = xs.any fun p => decide (p.1 = x)
  | [], [], _ => rfl
  | p :: xs, q :: kvs, ⟨⟨a, _⟩, c⟩ => by
    rw [List.any_cons, List.any_cons, allD.any hf x c, a, decide_eq_decide.mpr ⟨fun z => hf _ _ z, fun z => congrArg f z⟩]
  | [], _ :: _, z => z.elim
  | _ :: _, [], z => z.elim
theorem allD.app {α β κ : Type} {f : α → κ} {R : β → V → Prop} : ∀ {xs ys : List (α × β)} {kvs ls : List (κ × V)}, allD f R xs kvs → allD f R ys ls → allD f R (xs ++ ys) (kvs ++ ls)
  | [], _, [], _, _, h => h
  | _ :: _, _, _ :: _, _, ⟨a, b⟩, h => ⟨a, allD.app b h⟩
  | [], _, _ :: _, _, z, _ => z.elim
  | _ :: _, _, [], _, z, _ => z.elim
theorem allD.set (hf : ∀ a b, f a = f b → a = b) (x : α) {y : β} {v : V} (r : R y v) : ∀ {xs : List (α × β)} {kvs : List (κ × V)}, allD f R xs kvs → allD f R (xs.map fun p => if p.1 = x then (p.1, y) else p) (kvs.map fun kv => if kv.1 = f x then (kv.1, v) else kv)
  | [], [], _ => True.intro
  | p :: xs, q :: kvs, ⟨⟨a, b⟩, c⟩ => by
    rw [List.map_cons, List.map_cons]
    refine ⟨?_, allD.set hf x r c⟩
    by_cases h : p.1 = x
    · have hq : q.1 = f x := by rw [a, h]
      rw [if_pos h, if_pos hq]; exact ⟨a, r⟩
    · have hq : ¬ q.1 = f x := fun z => h (hf _ _ (a.symm.trans z))
      rw [if_neg h, if_neg hq]; exact ⟨a, b⟩
  | [], _ :: _, z => z.elim
  | _ :: _, [], z => z.elim
theorem allD.put (hf : ∀ a b, f a = f b → a = b) (x : α) {y : β} {v : V} (r : R y v) {xs : List (α × β)} {kvs : List (κ × V)} (h : allD f R xs kvs) : allD f R (dput xs x y) (putK kvs (f x) v) := by
  unfold dput putK
  rw [allD.any hf x h]
  split
  · exact allD.set hf x r h
  · exact allD.app h ⟨⟨rfl, r⟩, True.intro⟩
end
/-- a code whose things may be keys -/
def Ky (k : Ty) : Prop := (∀ x y, k.key x = k.key y → x = y) ∧ ∀ (K : PySem.W.Frag) (mg : Str → Option Value) (F : Hp) (x : k.den) (v : V), rl K mg k x [v] F → v = kV (k.key x)
theorem ky_int : Ky .int := ⟨fun x y h => Sum.inl.inj h, fun K mg F x v r => (List.cons.inj (show [v] = [V.int x] from r)).1⟩
theorem ky_str : Ky .str := ⟨fun x y h => Sum.inr.inj h, fun K mg F x v r => (List.cons.inj (show [v] = [V.str x] from r)).1⟩

section
variable {X : Cx} {W : WX} {hk : List Nat} {Γ Γv Γi : Ctx} {st : Stmt} {rest : List Stmt} {a b c e : Expr} {pos p p2 apos cpos : Pos} {t t1 k : Ty} {β : Type} {I : β → Out}
/-! ## dicts read -/
theorem e_dget [DecidableEq k.den] {m1 : Mx (List (k.den × t.den))} {m2 : Mx k.den} (hk : Ky k) (hu : X.A.units + 64 < cLine) (ha : EM X W Γ a (.dic k t) m1) (hb : EM X W Γ b k m2) (hs : NoSl b) : EM X W Γ (.Subscript a b pos) t (m1 >>= fun d => m2 >>= fun x => ofO (dget d x)) :=
  pe_imp (pe_dget (by omega) ha hb hs) fun σ H Q ⟨F, s, d, q⟩ => ⟨F, s, d, q.bind.mono fun x px v F1 H1 e1 r1 => ⟨F1, e1.i, d.mono e1.f, post.ext e1 px.bind fun y py w F2 H2 e2 r2 => by
    obtain ⟨l, kvs, e, g, rr⟩ := r1
    cases (List.cons.inj e).1
    cases hk.2 _ _ _ _ _ r2
    have g2 : H2 l = some (.dK kvs) := e2.i _ _ (e2.f _ _ g)
    rcases rr.val hk.1 y with ⟨n1, n2⟩ | ⟨z, u, n1, n2, r⟩
    · rw [n1] at py; exact py.elim
    · rw [n1] at py
      refine ⟨l, u, rfl, ?_, py u F2 H2 (e1.trans e2) (rl_mono e2.f t z [u] r)⟩
      rw [← n2]; exact DGet.k g2⟩⟩
theorem c_dIn [DecidableEq k.den] {m1 : Mx k.den} {m2 : Mx (List (k.den × t.den))} (hk : Ky k) (hu : X.A.units + 64 < cLine) (ha : EM X W Γ a k m1) (hb : EM X W Γ b (.dic k t) m2) : EC X W Γ .In a b (m1 >>= fun x => m2 >>= fun d => .ok (dget d x).isSome) :=
  pc_imp (pc_din (by omega) ha hb) fun σ H Q ⟨F, s, d, q⟩ => ⟨F, s, d, q.bind.mono fun x px v F1 H1 e1 r1 => ⟨F1, e1.i, d.mono e1.f, post.ext e1 px.bind fun y py w F2 H2 e2 r2 => by
    obtain ⟨l, kvs, e, g, rr⟩ := r2
    cases (List.cons.inj e).1
    cases hk.2 _ _ _ _ _ r1
    have g2 : H2 l = some (.dK kvs) := e2.i _ _ g
    refine ⟨l, _, rfl, DGet.k g2, ?_⟩
    rcases rr.val hk.1 x with ⟨n1, n2⟩ | ⟨z, u, n1, n2, r⟩
    · rw [n1] at py; rw [n2]; exact py _ F2 H2 (e1.trans e2) rfl
    · rw [n1] at py; rw [n2]; exact py _ F2 H2 (e1.trans e2) rfl⟩⟩
theorem c_dNin [DecidableEq k.den] {m1 : Mx k.den} {m2 : Mx (List (k.den × t.den))} (hk : Ky k) (hu : X.A.units + 64 < cLine) (ha : EM X W Γ a k m1) (hb : EM X W Γ b (.dic k t) m2) : EC X W Γ .NotIn a b (m1 >>= fun x => m2 >>= fun d => .ok (!(dget d x).isSome)) :=
  pc_imp (pc_dnotin (by omega) ha hb) fun σ H Q ⟨F, s, d, q⟩ => ⟨F, s, d, q.bind.mono fun x px v F1 H1 e1 r1 => ⟨F1, e1.i, d.mono e1.f, post.ext e1 px.bind fun y py w F2 H2 e2 r2 => by
    obtain ⟨l, kvs, e, g, rr⟩ := r2
    cases (List.cons.inj e).1
    cases hk.2 _ _ _ _ _ r1
    have g2 : H2 l = some (.dK kvs) := e2.i _ _ g
    refine ⟨l, _, rfl, DGet.k g2, ?_⟩
    rcases rr.val hk.1 x with ⟨n1, n2⟩ | ⟨z, u, n1, n2, r⟩
    · rw [n1] at py; rw [n2]; exact py _ F2 H2 (e1.trans e2) rfl
    · rw [n1] at py; rw [n2]; exact py _ F2 H2 (e1.trans e2) rfl⟩⟩
/-- d.get(x, y) -/
theorem e_dgetD [DecidableEq k.den] {m1 : Mx (List (k.den × t.den))} {m2 : Mx k.den} {m3 : Mx t.den} (hk : Ky k) (hu : X.A.units + 64 < cLine) (ha : EM X W Γ a (.dic k t) m1) (hb : EM X W Γ b k m2) (hc : EM X W Γ c t m3) (hm : M2 X a "get" apos b c cpos) : EM X W Γ (.Call (.Attribute a "get" apos) [b, c] [] cpos) t (m1 >>= fun d => m2 >>= fun x => m3 >>= fun y => .ok ((dget d x).getD y)) :=
  pe_imp (pe_dget2 (by omega) ha hb hc hm) fun σ H Q ⟨F, s, d, q⟩ => ⟨F, s, d, q.bind.mono fun x px v F1 H1 e1 r1 => by
    obtain ⟨l, kvs, e, g, rr⟩ := r1
    cases (List.cons.inj e).1
    have g1 : H1 l = some (.dK kvs) := e1.i _ _ g
    refine ⟨l, rfl, .inl ⟨_, .inl g1⟩, F1, e1.i, d.mono e1.f, post.ext e1 px.bind fun y py w F2 H2 e2 r2 => ⟨F2, e2.i, d.mono (e1.f.trans e2.f), post.ext (e1.trans e2) py.bind fun z pz u F3 H3 e3 r3 => ?_⟩⟩
    cases hk.2 _ _ _ _ _ r2
    have g3 : H3 l = some (.dK kvs) := e3.i _ _ (e3.f _ _ (e2.f _ _ g))
    refine ⟨_, DGet.k g3, ?_⟩
    rcases rr.val hk.1 y with ⟨n1, n2⟩ | ⟨z', u', n1, n2, r⟩
    · rw [n1] at pz; rw [n2]; exact pz u F3 H3 ((e1.trans e2).trans e3) r3
    · rw [n1] at pz; rw [n2]; exact pz u' F3 H3 ((e1.trans e2).trans e3) (rl_mono (e2.f.trans e3.f) t z' [u'] r)⟩
/-! ## d[x] = y on an owned dict -/
def dputO [DecidableEq k.den] (d : List (k.den × t.den)) (x : k.den) (y : t.den) : Option (List (k.den × t.den)) := if d.length < sizeLine then some (dput d x y) else none
theorem e_dnil : EO X W Γ (.Dict [] [] pos) (.dic k t) (.ok []) := pe_imp pe_dnewK fun σ H Q ⟨F, s, d, q⟩ => fun p np =>
  q (.ref p) F _ (Ext.cell s np) ⟨[p], ⟨p, [], rfl, rfl, upd_same, True.intro⟩, by simp, fun a ha => by rw [List.mem_singleton.mp ha]; exact ⟨s.free np, np⟩⟩
theorem bs_dput (i : Nat) [DecidableEq k.den] {xs : List (k.den × t.den)} {me : Mx t.den} {mx : Mx k.den} {kk : List (k.den × t.den) → Mx β} {n : Str} (hk2 : Ky k) (hu : X.A.units + 64 < cLine) (hi : Γ[i]? = some (.o (.dic k t) xs)) (hx : PE X (.Name n p) (tVar i)) (he : EM X W Γv e t me) (vw : Vw Γ (.d t) Γv)
    (hj : EM X W Γi b k mx) (vi : Vw Γ (.d k) Γi) (hr : ∀ ys, BS X W hk (Γ.set i (.o (.dic k t) ys)) rest (kk ys) I) (hs : swapsWith e (some (.Subscript (.Name n p) b p2)) pos.line X.env = pure false) :
    BS X W hk Γ (.Assign [.Subscript (.Name n p) b p2] e pos :: rest) (me >>= fun y => mx >>= fun x => ofO (dputO xs x y) >>= kk) I :=
  have hr' : PSs X rest (fun D σ H => ∃ ys, tS X.K X.mg W hk (Γ.set i (.o (.dic k t) ys)) (kk ys) I D σ H) := ⟨fun pins s σ H D J ⟨x, q⟩ => (hr x).run pins s σ H D J q⟩
  pss_imp (pss_cons (ps_dput (by omega) hx hj he hs) hr') fun D σ H ⟨E, F, h, g, q⟩ => by
    obtain ⟨G, g1, g2, g3⟩ := g.look vw
    refine ⟨G, g1, g2, q.bind.post g (fun F' H' x => let ⟨F2, a, _, b⟩ := g3 F' H' x; ⟨F2, a, b⟩) fun y py u F' H' ex ru => ?_⟩
    obtain ⟨F2, x2, back, _⟩ := g3 F' H' ex
    have ru2 : rl X.K X.mg t y [u] F2 := back y u ru
    have gg := g.grow x2
    obtain ⟨fps, w⟩ := id gg.ow
    obtain ⟨ov, e1, v, rfl, ho⟩ := w.at_ i _ hi
    obtain ⟨l, kvs, ev, efp, hl, rr⟩ := id ho
    cases (List.cons.inj ev).1
    refine ⟨.ref l, e1, ?_⟩
    obtain ⟨G2, k1, k2, k3⟩ := gg.look vi
    refine ⟨G2, k1, k2, py.bind.post gg (fun F' H' x => let ⟨F3, a, _, b⟩ := k3 F' H' x; ⟨F3, a, b⟩) fun x px v2 F'' H'' ex2 rx => ?_⟩
    obtain ⟨F3, x3, back3, _⟩ := k3 F'' H'' ex2
    have rx2 : rl X.K X.mg k x [v2] F3 := back3 x v2 rx
    cases hk2.2 _ _ _ _ _ rx2
    unfold dputO at px
    by_cases hz : xs.length < sizeLine
    · rw [if_pos hz] at px
      have ru3 : rl X.K X.mg t y [u] F3 := rl_mono x3.f t y [u] ru2
      have hl3 : H'' l = some (.dK kvs) := x3.h _ _ hl
      refine ⟨l, upd H'' l (.dK (putK kvs (k.key x) u)), rfl, .inl ⟨kvs, k.key x, hl3, rfl, by rw [← rr.len]; exact hz, rfl⟩, dput xs x y, E, F3, h, ?_, px⟩
      refine (gg.grow x3).writeO hi e1 fun fp nd hol => ?_
      obtain ⟨l', kvs', ev', efp', hl', rr'⟩ := hol
      cases (List.cons.inj ev').1
      rw [hl3] at hl'
      cases hl'
      exact ⟨by rw [efp']; exact List.mem_singleton.mpr rfl, l, _, rfl, efp', upd_same, rr'.put hk2.1 x ru3⟩
    · rw [if_neg hz] at px; exact px.elim
/-! ## dict comprehensions -/
theorem dmerge_snoc [DecidableEq k.den] {done : List (k.den × t.den)} {q : k.den × t.den} : dmerge (done ++ [q]) = dput (dmerge done) q.1 q.2 := by simp [dmerge, List.foldl_append]
theorem dput_len {α β : Type} [DecidableEq α] {xs : List (α × β)} {x : α} {y : β} : (dput xs x y).length ≤ xs.length + 1 := by
  unfold dput; split <;> simp
theorem dmerge_len [DecidableEq k.den] : ∀ {ps : List (k.den × t.den)}, (dmerge ps).length ≤ ps.length := by
  intro ps
  have h : ∀ (ps acc : List (k.den × t.den)), (ps.foldl (fun acc p => dput acc p.1 p.2) acc).length ≤ acc.length + ps.length := by
    intro ps
    induction ps with
    | nil => intro acc; exact Nat.le_refl _
    | cons q ps ih =>
      intro acc
      have h1 := ih (dput acc q.1 q.2)
      have h2 := dput_len (xs := acc) (x := q.1) (y := q.2)
      rw [List.foldl_cons, List.length_cons]; omega
  have h1 := h ps []
  rw [List.length_nil, Nat.zero_add] at h1
  exact h1
end
section
variable {X : Cx} {W : WX} {Γ : Ctx} {tg : Expr} {pos : Pos} {t k t1 : Ty}
/-- the entries of {a: b for ..} -/
def dcE {α κ β : Type} (mk : α → Mx κ) (mv : α → Mx β) (x : α) : Mx (κ × β) := mk x >>= fun a => mv x >>= fun b => .ok (a, b)
theorem dc_read {is : List Nat} {S : t.den → List Slot} [DecidableEq k.den] {mi : Mx (List t.den)} {mt : t.den → Mx Bool} {mk : t.den → Mx k.den} {mv : t.den → Mx t1.den} {vs : List Nat} (hk : Ky k) (his : ∀ i ∈ is, i ∈ vs) :
    ∀ σ H Q, tR X.mg X.K W Γ (.d (.dic k t1)) (mi >>= fun xs => compO xs (compF mt (dcE mk mv)) >>= fun ps => .ok (dmerge ps)) σ H Q →
      tDc (tI X.mg X.K W Γ t mi) (gR X.K X.mg t is S) (fun σ H Q => ∃ x, tT X.mg X.K W0 (setL (wipeC Γ vs) is (S x)) (mt x) σ H Q) (fun σ H Q => ∃ x, tR X.mg X.K W0 (setL (wipeC Γ vs) is (S x)) (.d k) (mk x) σ H Q) (fun σ H Q => ∃ x, tR X.mg X.K W0 (setL (wipeC Γ vs) is (S x)) (.d t1) (mv x) σ H Q) vs σ H Q := by
  intro σ H Q ⟨F, s, d, p⟩
  refine ⟨F, s, d, p.bind.mono fun xs pxs F1 H1 J e1 w D nD => ?_⟩
  unfold compO at pxs
  by_cases hz : xs.length ≤ sizeLine
  rotate_left
  · rw [if_neg hz] at pxs; exact pxs.elim
  rw [if_pos hz] at pxs
  have hnd : compL xs (compF mt (dcE mk mv)) ≠ .no := fun z => by rw [z] at pxs; exact pxs
  have e1D : Ext F1 H1 F1 (upd H1 D (.dK [])) := Ext.cell e1.i nD
  refine ⟨fun i m H' => i ≤ xs.length ∧ m = xs.length - i ∧ ∃ G kvs done, Same F1 G ∧ Ext F H G H' ∧ H' D = some (.dK kvs) ∧ G D = none ∧ allD k.key (fun y v => rl X.K X.mg t1 y [v] G) (dmerge done) kvs ∧ done.length ≤ i ∧
    compL xs (compF mt (dcE mk mv)) = (compL (xs.drop i) (compF mt (dcE mk mv)) >>= fun r => .ok (done ++ r)), ⟨xs.length, Nat.zero_le _, by simp, F1, [], [], Same.refl _, e1.trans e1D, upd_same, e1.i.free nD, True.intro, Nat.le_refl _, ?_⟩, ?_⟩
  · rw [List.drop_zero]
    cases compL xs (compF mt (dcE mk mv)) <;> rfl
  · rintro i m H' ⟨hi, rfl, G, kvs, done, f1, e2, hD, gD, rr, hd, hc⟩
    have f1H : Same F1 H' := f1.trans e2.i
    by_cases hlt : i < xs.length
    · refine .inr ⟨w.go i H' f1H hlt, fun H'' => ∃ m', m' < xs.length - i ∧ (i + 1 ≤ xs.length ∧ m' = xs.length - (i + 1) ∧ ∃ G kvs done, Same F1 G ∧ Ext F H G H'' ∧ H'' D = some (.dK kvs) ∧ G D = none ∧ allD k.key (fun y v => rl X.K X.mg t1 y [v] G) (dmerge done) kvs ∧ done.length ≤ i + 1 ∧
          compL xs (compF mt (dcE mk mv)) = (compL (xs.drop (i + 1)) (compF mt (dcE mk mv)) >>= fun r => .ok (done ++ r))), fun _ z => z, fun v H3 y => ?_⟩
      obtain ⟨x, hx, kx⟩ := w.yld i H' v H3 f1H hlt y
      have hxx : xs[i] = x := by rw [List.getElem?_eq_getElem hlt] at hx; exact Option.some.inj hx
      obtain ⟨G1, x1, rx⟩ := kx G f1 e2.i
      obtain ⟨o, ho, hc'⟩ := compL_step hlt hc hnd
      rw [hxx] at ho
      refine ⟨x, G1, x1.i, rx, fun ws hl hb => ⟨wipe_setL his, x, G1, x1.i, ?_, ?_⟩⟩
      · exact SD.setL (is := is) ((d.mono (e2.f.trans x1.f)).wipe vs) hb
      · cases qt : mt x with
        | ex z => unfold compF at ho; rw [qt] at ho; cases ho
        | no => unfold compF at ho; rw [qt] at ho; cases ho
        | ok b =>
          intro G2 H4 x2
          cases b with
          | false =>
            rw [if_neg Bool.false_ne_true]
            have ho' : o = none := by unfold compF at ho; rw [qt] at ho; exact (Mx.ok.inj ho).symm
            subst ho'
            refine ⟨xs.length - (i + 1), by omega, by omega, rfl, G2, kvs, done, f1.trans (x1.f.trans x2.f), e2.trans (x1.trans x2), x2.h _ _ (x1.h _ _ hD), ?_, rr.imp fun y v z => rl_mono (x1.f.trans x2.f) t1 y [v] z, by omega, by rw [hc']; simp⟩
            exact x2.n D (by rw [x1.h _ _ hD]; exact fun z => nomatch z) (x1.n D (by rw [hD]; exact fun z => nomatch z) gD)
          | true =>
            rw [if_pos rfl]
            have ho2 : (dcE mk mv x >>= fun y => Mx.ok (some y)) = .ok o := by unfold compF at ho; rw [qt] at ho; exact ho
            refine ⟨x, G2, x2.i, SD.setL (is := is) ((d.mono ((e2.f.trans x1.f).trans x2.f)).wipe vs) (bdL_mono x2.f hb), ?_⟩
            unfold dcE at ho2
            cases qk : mk x with
            | ex z => rw [qk] at ho2; cases ho2
            | no => rw [qk] at ho2; cases ho2
            | ok a =>
              intro u0 G3 H5 x3 r3
              refine ⟨x, G3, x3.i, SD.setL (is := is) ((d.mono (((e2.f.trans x1.f).trans x2.f).trans x3.f)).wipe vs) (bdL_mono (x2.f.trans x3.f) hb), ?_⟩
              cases qe : mv x with
              | ex z => rw [qk] at ho2; change (mv x >>= _ ) >>= _ = _ at ho2; rw [qe] at ho2; cases ho2
              | no => rw [qk] at ho2; change (mv x >>= _) >>= _ = _ at ho2; rw [qe] at ho2; cases ho2
              | ok z =>
                have ho' : o = some (a, z) := by rw [qk] at ho2; change (mv x >>= _) >>= _ = _ at ho2; rw [qe] at ho2; exact (Mx.ok.inj ho2).symm
                subst ho'
                intro u G4 H6 x4 r4
                have x5 := x1.trans (x2.trans (x3.trans x4))
                have hD5 : H6 D = some (.dK kvs) := x5.h _ _ hD
                have gD3 : G4 D = none := x5.n D (by rw [hD]; exact fun z => nomatch z) gD
                have nDH : H D = none := e1.h.free nD
                cases hk.2 _ _ _ _ _ r3
                refine ⟨kvs, k.key a, rfl, hD5, ?_, xs.length - (i + 1), by omega, by omega, rfl, G4, putK kvs (k.key a) u, done ++ [(a, z)], f1.trans x5.f, ⟨(e2.trans x5).f, fun b o eb => ?_, fun b o eb => ?_, (e2.trans x5).n⟩, upd_same, gD3, ?_, by rw [List.length_append, List.length_singleton]; omega, by rw [hc']; rfl⟩
                · have := rr.len; have := dmerge_len (ps := done); omega
                · rw [upd_ne (ne_of_none eb nDH)]; exact (e2.trans x5).h _ _ eb
                · rw [upd_ne (fun z => by rw [z, gD3] at eb; cases eb)]; exact x5.i _ _ eb
                · rw [dmerge_snoc]
                  exact (rr.imp fun y v z => rl_mono x5.f t1 y [v] z).put hk.1 a r4
    · have hi' : i = xs.length := by omega
      subst hi'
      refine .inl ⟨w.stop _ H' f1H (Nat.le_refl _), ?_⟩
      rw [List.drop_length] at hc
      have hc2 : compL xs (compF mt (dcE mk mv)) = .ok (done ++ []) := hc
      rw [hc2, List.append_nil] at pxs
      -- the dict is known from now on
      have nDH : H D = none := e1.h.free nD
      have le : Same G (upd G D (.dK kvs)) := fun b o eb => by rw [upd_ne (fun z => by rw [z, gD] at eb; cases eb)]; exact eb
      refine pxs (.ref D) (upd G D (.dK kvs)) H' ⟨e2.f.trans le, e2.h, fun b o eb => ?_, fun b hb hf => ?_⟩ ⟨D, kvs, rfl, upd_same, rr.imp fun y v z => rl_mono le t1 y [v] z⟩
      · by_cases hbD : b = D
        · subst hbD; rw [upd_same] at eb; cases eb; exact hD
        · rw [upd_ne hbD] at eb; exact e2.i _ _ eb
      · rw [upd_ne (fun z => hb (by rw [z]; exact nDH))]; exact e2.n b hb hf
theorem e_dc {kx vx iter : Expr} {ifs : List Expr} {scope : Scope} {own : List (Str × Nat)} {is : List Nat} {S : t.den → List Slot} [DecidableEq k.den] {mi : Mx (List t.den)} {mt : t.den → Mx Bool} {mk : t.den → Mx k.den} {mv : t.den → Mx t1.den} (hky : Ky k) (hc : X.calm = true) (hN : X.N.Nodup) (ok : BlkOk X.N X.env.scope scope own)
    (hi : EI X W Γ tg iter t mi) (hg : ∀ (s : Shared) (H : Hp) (C : Addr) (cl : List (Str × Addr)) (fp : List Addr), GT (X.blk s H scope (compEnvC scope cl C X.env) fp) tg t is S)
    (ht : ∀ (x : t.den) (s : Shared) (H : Hp) (C : Addr) (cl : List (Str × Addr)) (fp : List Addr), ETs (X.blk s H scope (compEnvC scope cl C X.env) fp) W0 (setL (wipeC Γ (own.map (·.2))) is (S x)) ifs (mt x))
    (hkx : ∀ (x : t.den) (s : Shared) (H : Hp) (C : Addr) (cl : List (Str × Addr)) (fp : List Addr), EM (X.blk s H scope (compEnvC scope cl C X.env) fp) W0 (setL (wipeC Γ (own.map (·.2))) is (S x)) kx k (mk x))
    (he : ∀ (x : t.den) (s : Shared) (H : Hp) (C : Addr) (cl : List (Str × Addr)) (fp : List Addr), EM (X.blk s H scope (compEnvC scope cl C X.env) fp) W0 (setL (wipeC Γ (own.map (·.2))) is (S x)) vx t1 (mv x))
    (his : ∀ i ∈ is, i ∈ own.map (·.2)) (hs : ∀ x, foldedSetIterable iter X.env x = pure x) :
    EM X W Γ (.DictComp kx vx [⟨tg, iter, ifs, 0⟩] scope pos) (.dic k t1) (mi >>= fun xs => compO xs (compF mt (dcE mk mv)) >>= fun ps => .ok (dmerge ps)) :=
  pe_imp (pe_dc hc hN hi ok hg (fun s H C cl fp => pts_ex fun x => ht x s H C cl fp) (fun s H C cl fp => pe_ex fun x => hkx x s H C cl fp) (fun s H C cl fp => pe_ex fun x => he x s H C cl fp) hs) (dc_read hky his)
/-- y = {a: b for ..} on one line -/
theorem ps_setDc {i : Nat} {y : Str} {py : Pos} {kx vx iter : Expr} {ifs : List Expr} {scope : Scope} {own : List (Str × Nat)} {spos : Pos} {wi : TI} {g : TG} {tt : TT} {tk tv : TE} (hc : X.calm = true) (hN : X.N.Nodup) (hy : X.N[i]? = some y) (hyl : X.env.scope.names.lookup y = some .local)
    (hsw : swapsWith (.DictComp kx vx [⟨tg, iter, ifs, 0⟩] scope pos) (some (.Name y py)) spos.line X.env = pure true) (hi : PI X tg iter wi) (ok : BlkOk X.N X.env.scope scope own)
    (hg : ∀ (z : Shared) (H : Hp) (C : Addr) (cl : List (Str × Addr)) (fp : List Addr), PG (X.blk z H scope (compEnvC scope cl C X.env) fp) tg g) (ht : ∀ (z : Shared) (H : Hp) (C : Addr) (cl : List (Str × Addr)) (fp : List Addr), PTs (X.blk z H scope (compEnvC scope cl C X.env) fp) ifs tt)
    (hk : ∀ (z : Shared) (H : Hp) (C : Addr) (cl : List (Str × Addr)) (fp : List Addr), PE (X.blk z H scope (compEnvC scope cl C X.env) fp) kx tk) (he : ∀ (z : Shared) (H : Hp) (C : Addr) (cl : List (Str × Addr)) (fp : List Addr), PE (X.blk z H scope (compEnvC scope cl C X.env) fp) vx tv)
    (hs : ∀ x, foldedSetIterable iter X.env x = pure x) : PS X (.Assign [.Name y py] (.DictComp kx vx [⟨tg, iter, ifs, 0⟩] scope pos) spos) (tAsg (tDc wi g tt tk tv (own.map (·.2))) (gName i)) := by
  refine ⟨fun pins s σ H D J h => ?_⟩
  rw [exec_Assign_Name_used _ _ _ _ hsw]
  refine wpAny_bind (wpAny_standAt ?_); refine wpAny_bind ?_
  show wpAny _ X.A (do let _ ← comprehension (.DictComp kx vx [⟨tg, iter, ifs, 0⟩] scope pos) scope X.env (firstIterPos [⟨tg, iter, ifs, 0⟩] pos) newDict false (eval iter X.env) (some (assign (.Name y py) X.env))) _ _ s
  have h : tDc wi g tt tk tv (own.map (·.2)) σ H (fun x H1 => gName i x σ H1 D.nx) := h
  refine wpAny_bind (thn (dc_core (Qf := fun _ z => SP X pins D .next z) hc hN J hi ok hg ht hk he hs h fun L C z m H' J' q hn f => ?_) fun _ z hq => wpAny_pure (wpAny_pure hq))
  show wpAny _ _ (assign (.Name y py) X.env (.ref L)) _ _ _
  obtain ⟨f0, f1, f2, f3, f4, f5⟩ := f
  refine wpAny_assign_Name (store_ok2 (v := V.ref L) J' hN hy (.inl hyl) rfl (fun z2 J2 ⟨a, sb, ha⟩ => ?_) (.inr hyl))
  have hne : C ≠ a := ha.elim (fun e => by rw [e]; exact f1) fun e e' => f4 y a e e'.symm
  refine ⟨m, hn.sameBut sb hne, fun h3 sb3 => ⟨_, H', ?_, q⟩⟩
  exact J2.turned (t' := z2.toks) (fun b o hb e => (sb3.2 b hb).trans e) f0 f1 f3 f4 f5
theorem p_dc {i : Nat} {y : Str} {py : Pos} {spos : Pos} {kx vx iter : Expr} {ifs : List Expr} {scope : Scope} {own : List (Str × Nat)} {is : List Nat} {S : t.den → List Slot} [DecidableEq k.den] {mi : Mx (List t.den)} {mt : t.den → Mx Bool} {mk : t.den → Mx k.den} {mv : t.den → Mx t1.den} (hky : Ky k) (hc : X.calm = true) (hN : X.N.Nodup)
    (hy : X.N[i]? = some y) (hyl : X.env.scope.names.lookup y = some .local) (hsw : swapsWith (.DictComp kx vx [⟨tg, iter, ifs, 0⟩] scope pos) (some (.Name y py)) spos.line X.env = pure true) (ok : BlkOk X.N X.env.scope scope own)
    (hi : EI X W Γ tg iter t mi) (hg : ∀ (s : Shared) (H : Hp) (C : Addr) (cl : List (Str × Addr)) (fp : List Addr), GT (X.blk s H scope (compEnvC scope cl C X.env) fp) tg t is S)
    (ht : ∀ (x : t.den) (s : Shared) (H : Hp) (C : Addr) (cl : List (Str × Addr)) (fp : List Addr), ETs (X.blk s H scope (compEnvC scope cl C X.env) fp) W0 (setL (wipeC Γ (own.map (·.2))) is (S x)) ifs (mt x))
    (hkx : ∀ (x : t.den) (s : Shared) (H : Hp) (C : Addr) (cl : List (Str × Addr)) (fp : List Addr), EM (X.blk s H scope (compEnvC scope cl C X.env) fp) W0 (setL (wipeC Γ (own.map (·.2))) is (S x)) kx k (mk x))
    (he : ∀ (x : t.den) (s : Shared) (H : Hp) (C : Addr) (cl : List (Str × Addr)) (fp : List Addr), EM (X.blk s H scope (compEnvC scope cl C X.env) fp) W0 (setL (wipeC Γ (own.map (·.2))) is (S x)) vx t1 (mv x))
    (his : ∀ i ∈ is, i ∈ own.map (·.2)) (hs : ∀ x, foldedSetIterable iter X.env x = pure x) :
    PS X (.Assign [.Name y py] (.DictComp kx vx [⟨tg, iter, ifs, 0⟩] scope pos) spos) (tAsg (tR X.mg X.K W Γ (.d (.dic k t1)) (mi >>= fun xs => compO xs (compF mt (dcE mk mv)) >>= fun ps => .ok (dmerge ps))) (gName i)) := by
  have h := ps_setDc (X := X) (g := gR X.K X.mg t is S) (tt := fun σ H Q => ∃ x, tT X.mg X.K W0 (setL (wipeC Γ (own.map (·.2))) is (S x)) (mt x) σ H Q) (tk := fun σ H Q => ∃ x, tR X.mg X.K W0 (setL (wipeC Γ (own.map (·.2))) is (S x)) (.d k) (mk x) σ H Q) (tv := fun σ H Q => ∃ x, tR X.mg X.K W0 (setL (wipeC Γ (own.map (·.2))) is (S x)) (.d t1) (mv x) σ H Q) hc hN hy hyl hsw hi ok hg (fun s H C cl fp => pts_ex fun x => ht x s H C cl fp) (fun s H C cl fp => pe_ex fun x => hkx x s H C cl fp) (fun s H C cl fp => pe_ex fun x => he x s H C cl fp) hs
  exact ⟨fun pins s σ H D I q => h.run pins s σ H D I (dc_read hky his _ _ _ q)⟩
end
end Gm
set_option Elab.async false
set_option linter.all false
set_option maxRecDepth 100000
set_option maxHeartbeats 4000000
namespace Gm
open PySem PySem.Spec L2

/-! ## x in xs, xs.index(x), for things of any code -/
section
variable {X : Cx} {pins : List (Addr × Obj)} {σ : L2.St} {F H : Hp} {s : Shared} {mg : Str → Option Value} {t : Ty}
/-- does u stand for x? -/
noncomputable def isX (K : PySem.W.Frag) (mg : Str → Option Value) (t : Ty) (F : Hp) (x : t.den) (u : Value) : Bool := open Classical in if ∃ w, rl K mg t x [w] F ∧ RelV w u then true else false
theorem isX_eq (I : Inv X pins σ H s) (hs : Same F H) (h : t.eqok = true) {x y : t.den} {w : V} {u : Value} (r : rl X.K mg t y [w] F) (ru : RelV w u) : isX X.K mg t F x u = t.beq y x := by
  unfold isX
  by_cases e : y = x
  · subst e
    rw [if_pos ⟨w, r, ru⟩, (beq_iff t h y y).mpr rfl]
  · have hb : t.beq y x = false := by
      cases hb : t.beq y x with
      | false => rfl
      | true => exact absurd ((beq_iff t h y x).mp hb) e
    rw [hb, if_neg]
    rintro ⟨w', r', ru'⟩
    have : w' = w := RelV.inj ru' ru
    subst this
    exact e (rl_inj I hs t h y x _ r r')
theorem eqAt_ty (I : Inv X pins σ H s) (hs : Same F H) (h : t.eqok = true) {A : Around} (hu : A.units + t.depth < cLine) {x y : t.den} {v w : V} {u u' : Value} (p : rl X.K mg t x [v] F) (q : rl X.K mg t y [w] F) (ru : RelV v u) (ru' : RelV w u') : SeqAt.EqAt A s u u' (t.beq x y) :=
  (eqL_ty I hs t h A hu x y [v] [w] p q [u] [u'] (.cons ru .nil) (.cons ru' .nil)).one
theorem isX_mem (I : Inv X pins σ H s) (hs : Same F H) (h : t.eqok = true) {A : Around} (hu : A.units + t.depth < cLine) {x : t.den} {v : V} {u : Value} (p : rl X.K mg t x [v] F) (ru : RelV v u) :
    ∀ {xs : List t.den} {ws : List V} {us : List Value}, all2 (fun y w => rl X.K mg t y [w] F) xs ws → Vals ws us → ∀ z ∈ us, SeqAt.EqAt A s z u (isX X.K mg t F x z)
  | [], [], _, _, .nil, z, hz => nomatch hz
  | y :: xs, w :: ws, _, ⟨a, b⟩, .cons r rr, z, hz => by
    rcases List.mem_cons.mp hz with rfl | hz
    · rw [isX_eq I hs h a r]; exact eqAt_ty I hs h hu a p r ru
    · exact isX_mem I hs h hu p ru b rr z hz
  | [], _ :: _, _, z, _, _, _ => z.elim
  | _ :: _, [], _, z, _, _, _ => z.elim
theorem isX_any (I : Inv X pins σ H s) (hs : Same F H) (h : t.eqok = true) [DecidableEq t.den] {x : t.den} : ∀ {xs : List t.den} {ws : List V} {us : List Value}, all2 (fun y w => rl X.K mg t y [w] F) xs ws → Vals ws us → us.any (isX X.K mg t F x) = decide (x ∈ xs)
  | [], [], _, _, .nil => by simp
  | y :: xs, w :: ws, _, ⟨a, b⟩, .cons r rr => by
    rw [List.any_cons, isX_any I hs h b rr, isX_eq I hs h a r, beq_dec h]
    by_cases e : y = x
    · subst e; simp
    · rw [decide_eq_false e, Bool.false_or]
      exact decide_eq_decide.mpr ⟨fun z => List.mem_cons_of_mem _ z, fun z => (List.mem_cons.mp z).resolve_left fun q => e q.symm⟩
  | [], _ :: _, _, z, _ => z.elim
  | _ :: _, [], _, z, _ => z.elim
theorem isX_at (I : Inv X pins σ H s) (hs : Same F H) (h : t.eqok = true) {x : t.den} : ∀ {xs : List t.den} {ws : List V} {us : List Value}, all2 (fun y w => rl X.K mg t y [w] F) xs ws → Vals ws us → ∀ (j : Nat) (z : Value), us[j]? = some z → ∃ y, xs[j]? = some y ∧ isX X.K mg t F x z = t.beq y x
  | [], [], _, _, .nil, j, z, hz => by simp at hz
  | y :: xs, w :: ws, _, ⟨a, b⟩, .cons r rr, j, z, hz => by
    cases j with
    | zero => simp at hz; subst hz; exact ⟨y, rfl, isX_eq I hs h a r⟩
    | succ j => obtain ⟨y', h1, h2⟩ := isX_at I hs h b rr j z (by simpa using hz); exact ⟨y', by simpa using h1, h2⟩
  | [], _ :: _, _, z, _, _, _, _ => z.elim
  | _ :: _, [], _, z, _, _, _, _ => z.elim
end
section
variable {X : Cx} {W : WX} {hk : List Nat} {Γ Γv Γi : Ctx} {st : Stmt} {rest : List Stmt} {a b c e : Expr} {pos p p2 apos cpos : Pos} {t t1 t2 k : Ty} {β : Type} {I : β → Out}
def rMem (X : Cx) (neg : Bool) : R2 := fun v w H Q => ∃ (F : Hp) (t : Ty) (d : DecidableEq t.den) (x : t.den) (xs : List t.den), Same F H ∧ t.eqok = true ∧ t.depth ≤ 60 ∧ rl X.K X.mg t x [v] F ∧ (rl X.K X.mg (.list t) xs [w] F ∨ rl X.K X.mg (.vtup t) xs [w] F) ∧ Q (.bl (if neg then !decide (x ∈ xs) else decide (x ∈ xs))) H
theorem op_mem (hu : X.A.units + 64 < cLine) : OpR X (compareOp .In) (rMem X false) := by
  intro pins s σ H v w u u' Q I rv rw' h
  obtain ⟨F, t, d, x, xs, hs, he, hd, p, hq, q⟩ := h
  have hu2 : X.A.in1.units + t.depth < cLine := by show X.A.units + 1 + t.depth < cLine; omega
  rcases hq with hq | hq
  · obtain ⟨l, ws, e, sq, rr⟩ := hq
    cases (List.cons.inj e).1
    cases rw'
    obtain ⟨its, r, pl, _⟩ := I.list (SqL.of (hs _ _ sq))
    refine SeqAt.in_listAt (isX X.K X.mg t F x) pl.isList (fun z hz => isX_mem I hs he hu2 p rv rr r z (by simpa using hz)) ⟨.bl _, H, I, rfl, ?_⟩
    rw [show its.toArray.any (isX X.K X.mg t F x) = its.any (isX X.K X.mg t F x) by simp, isX_any I hs he rr r]
    exact q
  · obtain ⟨l, ws, e, sq, rr⟩ := hq
    cases (List.cons.inj e).1
    cases rw'
    obtain ⟨its, r, pl, _⟩ := I.tuple (sqT_same hs sq)
    refine SeqAt.in_tupleAt (isX X.K X.mg t F x) pl (fun z hz => isX_mem I hs he hu2 p rv rr r z (by simpa using hz)) ⟨.bl _, H, I, rfl, ?_⟩
    rw [show its.toArray.any (isX X.K X.mg t F x) = its.any (isX X.K X.mg t F x) by simp, isX_any I hs he rr r]
    exact q
theorem op_nmem (hu : X.A.units + 64 < cLine) : OpR X (compareOp .NotIn) (rMem X true) := by
  intro pins s σ H v w u u' Q I rv rw' h
  obtain ⟨F, t, d, x, xs, hs, he, hd, p, hq, q⟩ := h
  have hu2 : X.A.in1.units + t.depth < cLine := by show X.A.units + 1 + t.depth < cLine; omega
  rcases hq with hq | hq
  · obtain ⟨l, ws, e, sq, rr⟩ := hq
    cases (List.cons.inj e).1
    cases rw'
    obtain ⟨its, r, pl, _⟩ := I.list (SqL.of (hs _ _ sq))
    refine SeqAt.notIn_listAt (isX X.K X.mg t F x) pl.isList (fun z hz => isX_mem I hs he hu2 p rv rr r z (by simpa using hz)) ⟨.bl _, H, I, rfl, ?_⟩
    rw [show its.toArray.any (isX X.K X.mg t F x) = its.any (isX X.K X.mg t F x) by simp, isX_any I hs he rr r]
    exact q
  · obtain ⟨l, ws, e, sq, rr⟩ := hq
    cases (List.cons.inj e).1
    cases rw'
    obtain ⟨its, r, pl, _⟩ := I.tuple (sqT_same hs sq)
    refine SeqAt.notIn_tupleAt (isX X.K X.mg t F x) pl (fun z hz => isX_mem I hs he hu2 p rv rr r z (by simpa using hz)) ⟨.bl _, H, I, rfl, ?_⟩
    rw [show its.toArray.any (isX X.K X.mg t F x) = its.any (isX X.K X.mg t F x) by simp, isX_any I hs he rr r]
    exact q
variable [d : DecidableEq t.den] {m1 : Mx t.den} {m2 : Mx (List t.den)}
theorem c_memL (hu : X.A.units + 64 < cLine) (ht : t.eqok = true) (hd : t.depth ≤ 60) (ha : EM X W Γ a t m1) (hb : EM X W Γ b (.list t) m2) : EC X W Γ .In a b (m1 >>= fun x => m2 >>= fun y => .ok (decide (x ∈ y))) :=
  c_op (t1 := t) (t2 := .list t) (g := fun x y => some (decide (x ∈ y))) (op_mem hu) (fun x y z e v w F H Q s r1 r2 k => by cases e; exact ⟨F, t, d, x, y, s, ht, hd, r1, .inl r2, k⟩) ha hb
theorem c_nmemL (hu : X.A.units + 64 < cLine) (ht : t.eqok = true) (hd : t.depth ≤ 60) (ha : EM X W Γ a t m1) (hb : EM X W Γ b (.list t) m2) : EC X W Γ .NotIn a b (m1 >>= fun x => m2 >>= fun y => .ok (!decide (x ∈ y))) :=
  c_op (t1 := t) (t2 := .list t) (g := fun x y => some (!decide (x ∈ y))) (op_nmem hu) (fun x y z e v w F H Q s r1 r2 k => by cases e; exact ⟨F, t, d, x, y, s, ht, hd, r1, .inl r2, k⟩) ha hb
theorem c_memT (hu : X.A.units + 64 < cLine) (ht : t.eqok = true) (hd : t.depth ≤ 60) (ha : EM X W Γ a t m1) (hb : EM X W Γ b (.vtup t) m2) : EC X W Γ .In a b (m1 >>= fun x => m2 >>= fun y => .ok (decide (x ∈ y))) :=
  c_op (t1 := t) (t2 := .vtup t) (g := fun x y => some (decide (x ∈ y))) (op_mem hu) (fun x y z e v w F H Q s r1 r2 k => by cases e; exact ⟨F, t, d, x, y, s, ht, hd, r1, .inr r2, k⟩) ha hb
theorem c_nmemT (hu : X.A.units + 64 < cLine) (ht : t.eqok = true) (hd : t.depth ≤ 60) (ha : EM X W Γ a t m1) (hb : EM X W Γ b (.vtup t) m2) : EC X W Γ .NotIn a b (m1 >>= fun x => m2 >>= fun y => .ok (!decide (x ∈ y))) :=
  c_op (t1 := t) (t2 := .vtup t) (g := fun x y => some (!decide (x ∈ y))) (op_nmem hu) (fun x y z e v w F H Q s r1 r2 k => by cases e; exact ⟨F, t, d, x, y, s, ht, hd, r1, .inr r2, k⟩) ha hb
/-- xs.index(x) -/
def idxO {α : Type} [DecidableEq α] (xs : List α) (x : α) : Option Int := (xs.findIdx? fun y => decide (y = x)).map fun (i : Nat) => (i : Int)
def rIdx (X : Cx) : V → List V → Hp → VK → Prop := fun w vs H Q => ∃ (F : Hp) (t : Ty) (d : DecidableEq t.den) (x : t.den) (xs : List t.den) (v : V) (j : Nat), vs = [v] ∧ Same F H ∧ t.eqok = true ∧ t.depth ≤ 60 ∧ rl X.K X.mg t x [v] F ∧ rl X.K X.mg (.list t) xs [w] F ∧ (xs.findIdx? fun y => decide (y = x)) = some j ∧ Q (.int (j : Nat)) H
theorem mt_idx (hu : X.A.units + 64 < cLine) : MtR X "list.index" (rIdx X) := by
  intro pins s σ H w vs v us Q I rx rxs h
  obtain ⟨F, t, d, x, xs, v', j, rfl, hs, he, hd, p, hq, hj, q⟩ := h
  obtain ⟨l, ws, e, sq, rr⟩ := hq
  cases (List.cons.inj e).1
  cases rx
  obtain ⟨uy, rfl, ry⟩ := Vals.one rxs
  have hu2 : X.A.in1.units + t.depth < cLine := by show X.A.units + 1 + t.depth < cLine; omega
  obtain ⟨its, rv, ⟨⟨cls, dd, data, sl⟩, n, ho, hc, hdn, hdt⟩, hlen⟩ := I.list (SqL.of (hs _ _ sq))
  simp only at hc hdt
  subst hc hdt
  have hwl := rr.len
  have hvl := rv.length
  have hsl := sizeLine_eq
  rw [List.findIdx?_eq_some_iff_getElem] at hj
  obtain ⟨hjl, hjx, hno⟩ := hj
  have hj' : j < its.toArray.size := by rw [List.size_toArray]; omega
  have at_ : ∀ (m : Nat) (hm : m < its.toArray.size), isX X.K X.mg t F x its.toArray[m] = decide (xs[m]'(by rw [List.size_toArray] at hm; omega) = x) := fun m hm => by
    have hm' : m < its.length := by rw [List.size_toArray] at hm; exact hm
    obtain ⟨y, h1, h2⟩ := isX_at (x := x) I hs he rr rv m its[m] (List.getElem?_eq_getElem hm')
    have h3 := (List.getElem?_eq_some_iff.mp h1).2
    rw [show its.toArray[m] = its[m] by simp, h2, beq_dec he, h3]
  refine call_meets PySem.F.slot_list_index ⟨_, ho, rfl⟩ PySem.F.entry_list_index (PySem.F.args_list_index_2 _ _)
    (SeqAt.list_indexAt l its.toArray n dd sl uy (isX X.K X.mg t F x) j hj' (by omega) ?_ ?_) ⟨ho, fun z hz => isX_mem I hs he hu2 p ry rr rv z (by simpa using hz), ?_⟩
  · rw [at_ j hj']; exact hjx
  · intro m hm hmj
    rw [at_ m hm]
    have := hno m hmj
    simpa using this
  · exact ⟨.int (j : Nat), H, I.tok _, ⟨_, rfl⟩, q⟩
theorem e_index (hu : X.A.units + 64 < cLine) (ht : t.eqok = true) (hd : t.depth ≤ 60) (hb : EM X W Γ b (.list t) m2) (ha : EM X W Γ a t m1) (hbase : attributeBase b "index" X.env (eval b X.env) = eval b X.env)
    (hfew : ((backTo cpos (starEach [a] X.env)).all (fun x => !x.1) && (backToKw cpos (keywordEach [] X.env)).all (fun x => x.1.isSome) && decide ([a].length + ([] : List Keyword).length + (if ([] : List Keyword).isEmpty then 0 else 1) < 30)) = true)
    (hline : (apos.endLine == cpos.line) = true) (hs : starEach [a] X.env = (false, eval a X.env) :: starEach [] X.env) (hpl : (backTo cpos (starEach [] X.env)).any (·.1) = false) :
    EM X W Γ (.Call (.Attribute b "index" apos) [a] [] cpos) .int (m2 >>= fun y => m1 >>= fun x => ofO (idxO y x)) :=
  pe_imp (pe_bm PySem.F.plainAttrs_list PySem.F.slot_list_index PySem.F.type_list_index (mt_idx hu) hb (pa_cons ha pa_nil hs) hbase hfew hline hs hpl) fun σ H Q ⟨F, s, dd, q⟩ => ⟨F, s, dd, q.bind.mono fun y py w F1 H1 e1 r1 => by
    obtain ⟨l, ws, e, sq, rr⟩ := id r1
    cases (List.cons.inj e).1
    refine ⟨.inl ⟨rfl, ws, SqL.of (e1.i _ _ sq)⟩, F1, e1.i, dd.mono e1.f, post.ext e1 py.bind fun x px v F2 H2 e2 r2 => ?_⟩
    unfold idxO at px
    cases hj : y.findIdx? fun z => decide (z = x) with
    | none => rw [hj] at px; exact px.elim
    | some j =>
      rw [hj] at px
      exact ⟨F2, t, d, x, y, v, j, rfl, e2.i, ht, hd, r2, rl_mono e2.f (.list t) y _ r1, hj, px _ F2 H2 (e1.trans e2) rfl⟩⟩
end
section
variable {X : Cx} {W : WX} {hk : List Nat} {Γ Γv Γi : Ctx} {st : Stmt} {rest : List Stmt} {a b c e : Expr} {pos p p2 apos cpos : Pos} {t t1 t2 k : Ty} {β : Type} {I : β → Out}
/-! ## sums -/
theorem e_inl {m : Mx t1.den} (h : EM X W Γ e t1 m) : EM X W Γ e (.sum t1 t2) (m >>= fun x => .ok (Sum.inl x)) := pe_imp h fun σ H Q ⟨F, s, d, q⟩ => ⟨F, s, d, q.bind.mono fun x px v F1 H1 e1 r1 => px v F1 H1 e1 r1⟩
theorem e_inr {m : Mx t2.den} (h : EM X W Γ e t2 m) : EM X W Γ e (.sum t1 t2) (m >>= fun x => .ok (Sum.inr x)) := pe_imp h fun σ H Q ⟨F, s, d, q⟩ => ⟨F, s, d, q.bind.mono fun x px v F1 H1 e1 r1 => px v F1 H1 e1 r1⟩
def getL {α β : Type} : Sum α β → Mx α
  | .inl x => .ok x
  | .inr _ => .no
def getR {α β : Type} : Sum α β → Mx β
  | .inl _ => .no
  | .inr x => .ok x
theorem e_getL {m : Mx (Sum t1.den t2.den)} (h : EM X W Γ e (.sum t1 t2) m) : EM X W Γ e t1 (m >>= getL) := pe_imp h fun σ H Q ⟨F, s, d, q⟩ => ⟨F, s, d, q.bind.mono fun x px v F1 H1 e1 r1 => by
  cases x with
  | inl y => exact px v F1 H1 e1 r1
  | inr y => exact px.elim⟩
theorem e_getR {m : Mx (Sum t1.den t2.den)} (h : EM X W Γ e (.sum t1 t2) m) : EM X W Γ e t2 (m >>= getR) := pe_imp h fun σ H Q ⟨F, s, d, q⟩ => ⟨F, s, d, q.bind.mono fun x px v F1 H1 e1 r1 => by
  cases x with
  | inl y => exact px.elim
  | inr y => exact px v F1 H1 e1 r1⟩
/-! ## statements on an owned list -/
theorem Vw.flatI (h : t.flat = true) : Vw Γ (.d t) Γ := .all h
def insO {α : Type} (xs : List α) (i : Int) (y : α) : Option (List α) := if xs.length < sizeLine ∧ 0 ≤ i ∧ i < 2 ^ 63 then some (xs.take i.toNat ++ [y] ++ xs.drop i.toNat) else none
theorem bs_ins (i : Nat) {xs : List t.den} {mj : Mx Int} {me : Mx t.den} {kk : List t.den → Mx β} {n : Str} {ej : Expr} (hi : Γ[i]? = some (.o (.l (.d t)) xs)) (hx : PE X (.Name n p) (tVar i)) (hj : EM X W Γi ej .int mj) (vi : Vw Γ (.d .int) Γi) (he : EM X W Γv e t me) (vw : Vw Γ (.d t) Γv) (hr : ∀ ys, BS X W hk (Γ.set i (.o (.l (.d t)) ys)) rest (kk ys) I)
    (hbase : attributeBase (.Name n p) "insert" X.env (eval (.Name n p) X.env) = eval (.Name n p) X.env) (hfew : ((backTo cpos (starEach [ej, e] X.env)).all (fun x => !x.1) && (backToKw cpos (keywordEach [] X.env)).all (fun x => x.1.isSome) && decide ([ej, e].length + ([] : List Keyword).length + (if ([] : List Keyword).isEmpty then 0 else 1) < 30)) = true)
    (hline : (apos.endLine == cpos.line) = true) (hs : starEach [ej, e] X.env = (false, eval ej X.env) :: starEach [e] X.env) (hs2 : starEach [e] X.env = (false, eval e X.env) :: starEach [] X.env) (hpl : (backTo cpos (starEach [e] X.env)).any (·.1) = false) :
    BS X W hk Γ (.Expr (.Call (.Attribute (.Name n p) "insert" apos) [ej, e] [] cpos) pos :: rest) (mj >>= fun j => me >>= fun y => ofO (insO xs j y) >>= kk) I :=
  have hr' : PSs X rest (fun D σ H => ∃ ys, tS X.K X.mg W hk (Γ.set i (.o (.l (.d t)) ys)) (kk ys) I D σ H) := ⟨fun pins s σ H D J ⟨x, q⟩ => (hr x).run pins s σ H D J q⟩
  pss_imp (pss_cons (ps_expr (pe_bm PySem.F.plainAttrs_list PySem.F.slot_list_insert PySem.F.type_list_insert mt_insert hx (pa_cons hj (pa_cons he pa_nil hs2) hs) hbase hfew hline hs hpl)) hr') fun D σ H ⟨E, F, h, g, q⟩ => by
    obtain ⟨fps, w⟩ := g.ow
    obtain ⟨ov, e1, v, rfl, ho⟩ := w.at_ i _ hi
    obtain ⟨l, ws, rfl, e3, e4, rr⟩ := own_lst ho
    refine ⟨.ref l, e1, .inl ⟨rfl, ws, SqL.of e4⟩, ?_⟩
    obtain ⟨G, g1, g2, g3⟩ := g.look vi
    refine ⟨G, g1, g2, q.bind.post g (fun F' H' x => let ⟨F2, a, _, b⟩ := g3 F' H' x; ⟨F2, a, b⟩) fun j pj uj F' H' ex rj => ?_⟩
    obtain ⟨F2, x2, back, _⟩ := g3 F' H' ex
    cases (List.cons.inj (show [uj] = _ from rj)).1
    have gg := g.grow x2
    obtain ⟨G2, k1, k2, k3⟩ := gg.look vw
    refine ⟨G2, k1, k2, pj.bind.post gg (fun F' H' x => let ⟨F3, a, _, b⟩ := k3 F' H' x; ⟨F3, a, b⟩) fun y py u F'' H'' ex2 ru => ?_⟩
    obtain ⟨F3, x3, back3, _⟩ := k3 F'' H'' ex2
    have ru2 : rl X.K X.mg t y [u] F3 := back3 y u ru
    unfold insO at py
    by_cases hl : xs.length < sizeLine ∧ 0 ≤ j ∧ j < 2 ^ 63
    · rw [if_pos hl] at py
      have rr3 : all2 (fun z v => rl X.K X.mg t z [v] F3) xs ws := rr.imp fun z v q => rl_mono (x2.f.trans x3.f) t z [v] q
      refine ⟨l, ws, j, u, rfl, rfl, x3.h _ _ (x2.h _ _ e4), by rw [← rr.len]; exact hl.1, hl.2.1, hl.2.2, _, E, F3, h, ?_, py⟩
      have one : all2 (fun z v => rl X.K X.mg t z [v] F3) [y] [u] := ⟨ru2, True.intro⟩
      exact (gg.grow x3).write hi e1 (((rr3.take j.toNat).app one).app (rr3.drop j.toNat))
    · rw [if_neg hl] at py; exact py.elim
theorem bs_clear (i : Nat) {xs : List t.den} {kk : List t.den → Mx β} {n : Str} (hi : Γ[i]? = some (.o (.l (.d t)) xs)) (hx : PE X (.Name n p) (tVar i)) (hr : ∀ ys, BS X W hk (Γ.set i (.o (.l (.d t)) ys)) rest (kk ys) I)
    (hbase : attributeBase (.Name n p) "clear" X.env (eval (.Name n p) X.env) = eval (.Name n p) X.env) (hline : (apos.endLine == cpos.line) = true) :
    BS X W hk Γ (.Expr (.Call (.Attribute (.Name n p) "clear" apos) [] [] cpos) pos :: rest) (kk []) I :=
  have hr' : PSs X rest (fun D σ H => ∃ ys, tS X.K X.mg W hk (Γ.set i (.o (.l (.d t)) ys)) (kk ys) I D σ H) := ⟨fun pins s σ H D J ⟨x, q⟩ => (hr x).run pins s σ H D J q⟩
  pss_imp (pss_cons (ps_expr (pe_bm0 PySem.F.plainAttrs_list PySem.F.slot_list_clear PySem.F.type_list_clear mt_clear hx hbase hline)) hr') fun D σ H ⟨E, F, h, g, q⟩ => by
    obtain ⟨fps, w⟩ := g.ow
    obtain ⟨ov, e1, v, rfl, ho⟩ := w.at_ i _ hi
    obtain ⟨l, ws, rfl, e3, e4, rr⟩ := own_lst ho
    exact ⟨.ref l, e1, .inl ⟨rfl, ws, SqL.of e4⟩, l, ws, rfl, rfl, e4, [], E, F, h, g.write hi e1 True.intro, q⟩
def setO {α : Type} (xs : List α) (i : Int) (y : α) : Option (List α) := (ixN xs.length i).map fun j => xs.set j y
theorem bs_setI (i : Nat) {xs : List t.den} {mj : Mx Int} {me : Mx t.den} {kk : List t.den → Mx β} {n : Str} {ej : Expr} (hi : Γ[i]? = some (.o (.l (.d t)) xs)) (hx : PE X (.Name n p) (tVar i)) (he : EM X W Γv e t me) (vw : Vw Γ (.d t) Γv) (hj : EM X W Γi ej .int mj) (vi : Vw Γ (.d .int) Γi) (hr : ∀ ys, BS X W hk (Γ.set i (.o (.l (.d t)) ys)) rest (kk ys) I)
    (ha : ∀ v, assign (.Subscript (.Name n p) ej p2) X.env v = (do
      let ov ← holding [v] (eval (.Name n p) X.env)
      let iv ← holding [v, ov] (eval ej X.env)
      standAt p2
      holding [v, ov, iv] (setItem ov iv v)
      release [v, ov, iv] []))
    (hs : swapsWithSole [.Subscript (.Name n p) ej p2] e pos.line X.env = pure false) (hw : swappedStores [.Subscript (.Name n p) ej p2] e X.env = pure none) (h1 : (assignEach [.Subscript (.Name n p) ej p2] X.env).map (·.2) = [assign (.Subscript (.Name n p) ej p2) X.env]) :
    BS X W hk Γ (.Assign [.Subscript (.Name n p) ej p2] e pos :: rest) (me >>= fun y => mj >>= fun j => ofO (setO xs j y) >>= kk) I :=
  have hr' : PSs X rest (fun D σ H => ∃ ys, tS X.K X.mg W hk (Γ.set i (.o (.l (.d t)) ys)) (kk ys) I D σ H) := ⟨fun pins s σ H D J ⟨x, q⟩ => (hr x).run pins s σ H D J q⟩
  pss_imp (pss_cons (ps_asg he (pg_sub hx hj set_list ha) hs hw h1) hr') fun D σ H ⟨E, F, h, g, q⟩ => by
    obtain ⟨G, g1, g2, g3⟩ := g.look vw
    refine ⟨G, g1, g2, q.bind.post g (fun F' H' x => let ⟨F2, a, _, b⟩ := g3 F' H' x; ⟨F2, a, b⟩) fun y py u F' H' ex ru => ?_⟩
    obtain ⟨F2, x2, back, _⟩ := g3 F' H' ex
    have ru2 : rl X.K X.mg t y [u] F2 := back y u ru
    have gg := g.grow x2
    obtain ⟨fps, w⟩ := id gg.ow
    obtain ⟨ov, e1, v, rfl, ho⟩ := w.at_ i _ hi
    obtain ⟨l, ws, rfl, e3, e4, rr⟩ := own_lst ho
    refine ⟨.ref l, e1, ?_⟩
    obtain ⟨G2, k1, k2, k3⟩ := gg.look vi
    refine ⟨G2, k1, k2, py.bind.post gg (fun F' H' x => let ⟨F3, a, _, b⟩ := k3 F' H' x; ⟨F3, a, b⟩) fun j pj uj F'' H'' ex2 rj => ?_⟩
    obtain ⟨F3, x3, back3, _⟩ := k3 F'' H'' ex2
    cases (List.cons.inj (show [uj] = _ from rj)).1
    unfold setO at pj
    cases hn : ixN xs.length j with
    | none => rw [hn] at pj; exact pj.elim
    | some n =>
      rw [hn] at pj
      refine ⟨l, ws, j, n, rfl, rfl, x3.h _ _ e4, by rw [← rr.len]; exact hn, _, E, F3, h, ?_, pj⟩
      exact (gg.grow x3).write hi e1 ((rr.imp fun z v q => rl_mono x3.f t z [v] q).set (rl_mono x3.f t y [u] ru2) n)
/-- xs[::-1] -/
theorem e_revL {m : Mx (List t.den)} {kz : Nat} {q1 q2 q3 : Pos} (ha : EM X W Γ a (.list t) m) : EO X W Γ (.Subscript a (.Slice none none (some (.UnaryOp .USub (.Constant (.int 1) kz q1) q2)) q3) pos) (.l (.d t)) (m >>= fun x => .ok x.reverse) :=
  pe_imp (pe_revL ha) fun σ H Q ⟨F, s, d, q⟩ => ⟨F, s, d, q.bind.mono fun x px v F1 H1 e1 r1 => by
    obtain ⟨l, ws, e, sq, rr⟩ := r1
    cases (List.cons.inj e).1
    exact ⟨l, ws, rfl, SqL.of (e1.i _ _ sq), fun p np => px (.ref p) F1 _ (e1.trans (Ext.cell e1.i np)) (rtr_new rr.rev e1.i e1.h np)⟩⟩
/-- str(n) -/
def strO (n : Int) : Option Str := if n.natAbs.log2 < 1920 then some (Str.ofString (toString n)) else none
theorem e_strI {q : Pos} {m : Mx Int} (hg : Gl X "str") (hm : X.mg "str" = none) (ha : EM X W Γ a .int m) (hs : starEach [a] X.env = (false, eval a X.env) :: starEach [] X.env) : EM X W Γ (.Call (.Name "str" q) [a] [] pos) .str (m >>= fun x => ofO (strO x)) :=
  pe_imp (pe_callTy call_str_int hg hm (by decide +kernel) (ea_one ha hs) (he := hs)) (args_of (ts := .int) (r := .d .str) (k := fun x => ofO (strO x)) fun x vs F H σ Q s r1 k => by
    cases (show vs = _ from r1)
    unfold strO at k
    by_cases h : x.natAbs.log2 < 1920
    · rw [if_pos h] at k; exact ⟨x, rfl, h, k _ F H (Ext.refl s) rfl⟩
    · rw [if_neg h] at k; exact k.elim)
end
end Gm
namespace Gm
open PySem PySem.Spec L2
/-! ## data read as data of a wider code -/
structure Cv (a b : Ty) (g : a.den → b.den) : Prop where
  h : ∀ (K : PySem.W.Frag) (mg : Str → Option Value) (F : Hp) (x : a.den) (vs : List V), rl K mg a x vs F → rl K mg b (g x) vs F
theorem Cv.id {a : Ty} : Cv a a (fun x => x) := ⟨fun _ _ _ _ _ r => r⟩
theorem Cv.inl {a b c : Ty} {g : a.den → b.den} (h : Cv a b g) : Cv a (.sum b c) (fun x => Sum.inl (g x)) := ⟨fun K mg F x vs r => h.h K mg F x vs r⟩
theorem Cv.inr {a b c : Ty} {g : a.den → c.den} (h : Cv a c g) : Cv a (.sum b c) (fun x => Sum.inr (g x)) := ⟨fun K mg F x vs r => h.h K mg F x vs r⟩
theorem Cv.some {a b : Ty} {g : a.den → b.den} (hb : b.some_ = true) (h : Cv a b g) : Cv a (.opt b) (fun x => Option.some (g x)) := ⟨fun K mg F x vs r => ⟨rl_some hb (h.h K mg F x vs r), h.h K mg F x vs r⟩⟩
theorem Cv.none {b : Ty} : Cv .non (.opt b) (fun _ => Option.none) := ⟨fun K mg F x vs r => r⟩
theorem Cv.opt {a b : Ty} {g : a.den → b.den} (hb : b.some_ = true) (h : Cv a b g) : Cv (.opt a) (.opt b) (fun x => x.map g) := ⟨fun K mg F x vs r => by
  cases x with
  | none => exact r
  | some y => exact ⟨r.1, h.h K mg F y vs r.2⟩⟩
theorem Cv.pr {a b c d : Ty} {g : a.den → c.den} {f : b.den → d.den} (h : Cv a c g) (k : Cv b d f) : Cv (.pr a b) (.pr c d) (fun x => (g x.1, f x.2)) := ⟨fun K mg F x vs r => by
  obtain ⟨v, r', e, p, q⟩ := r
  exact ⟨v, r', e, h.h K mg F _ _ p, k.h K mg F _ _ q⟩⟩
theorem Cv.tup {a b : Ty} {g : a.den → b.den} (h : Cv a b g) : Cv (.tup a) (.tup b) g := ⟨fun K mg F x vs r => by
  obtain ⟨l, ws, e, s, q⟩ := r
  exact ⟨l, ws, e, s, h.h K mg F _ _ q⟩⟩
theorem Cv.hl {a b : Ty} {g : a.den → b.den} (h : Cv a b g) : Cv (.hl a) (.hl b) g := ⟨fun K mg F x vs r => by
  obtain ⟨l, ws, e, s, q⟩ := r
  exact ⟨l, ws, e, s, h.h K mg F _ _ q⟩⟩
theorem all2.mapl {α β : Type} {R : α → V → Prop} {S : β → V → Prop} {g : α → β} (h : ∀ x v, R x v → S (g x) v) : ∀ {xs : List α} {vs : List V}, all2 R xs vs → all2 S (xs.map g) vs
  | [], [], _ => True.intro
  | _ :: _, _ :: _, ⟨a, b⟩ => ⟨h _ _ a, all2.mapl h b⟩
  | [], _ :: _, z => z.elim
  | _ :: _, [], z => z.elim
theorem Cv.list {a b : Ty} {g : a.den → b.den} (h : Cv a b g) : Cv (.list a) (.list b) (fun x => x.map g) := ⟨fun K mg F x vs r => by
  obtain ⟨l, ws, e, s, q⟩ := r
  exact ⟨l, ws, e, s, q.mapl fun y w z => h.h K mg F y [w] z⟩⟩
theorem Cv.vtup {a b : Ty} {g : a.den → b.den} (h : Cv a b g) : Cv (.vtup a) (.vtup b) (fun x => x.map g) := ⟨fun K mg F x vs r => by
  obtain ⟨l, ws, e, s, q⟩ := r
  exact ⟨l, ws, e, s, q.mapl fun y w z => h.h K mg F y [w] z⟩⟩
/-- the parts of a tuple in a row -/
structure Cw (a b : Ty) (g : a.den → List b.den) : Prop where
  h : ∀ (K : PySem.W.Frag) (mg : Str → Option Value) (F : Hp) (x : a.den) (vs : List V), rl K mg a x vs F → all2 (fun y w => rl K mg b y [w] F) (g x) vs
theorem Cw.nil {b : Ty} : Cw .nl b (fun _ => []) := ⟨fun K mg F x vs r => by cases (show vs = [] from r); exact True.intro⟩
theorem Cw.one {a b : Ty} {g : a.den → b.den} (hs : a.sing = true) (h : Cv a b g) : Cw a b (fun x => [g x]) := ⟨fun K mg F x vs r => by
  obtain ⟨v, rfl⟩ := rl_sing hs r
  exact ⟨h.h K mg F _ _ r, True.intro⟩⟩
theorem Cw.cons {a b c : Ty} {g : a.den → b.den} {f : c.den → List b.den} (h : Cv a b g) (k : Cw c b f) : Cw (.pr a c) b (fun x => g x.1 :: f x.2) := ⟨fun K mg F x vs r => by
  obtain ⟨v, r', rfl, p, q⟩ := r
  exact ⟨h.h K mg F _ _ p, k.h K mg F _ _ q⟩⟩
theorem Cv.tupV {a b : Ty} {g : a.den → List b.den} (h : Cw a b g) : Cv (.tup a) (.vtup b) g := ⟨fun K mg F x vs r => by
  obtain ⟨l, ws, e, s, q⟩ := r
  exact ⟨l, ws, e, s, h.h K mg F _ _ q⟩⟩
theorem Cv.hlL {a b : Ty} {g : a.den → List b.den} (h : Cw a b g) : Cv (.hl a) (.list b) g := ⟨fun K mg F x vs r => by
  obtain ⟨l, ws, e, s, q⟩ := r
  exact ⟨l, ws, e, s, h.h K mg F _ _ q⟩⟩
section
variable {X : Cx} {W : WX} {hk : List Nat} {Γ : Ctx} {e : Expr} {st : List Stmt} {β : Type} {I : β → Out}
theorem e_cv {a b : Ty} {g : a.den → b.den} {m : Mx a.den} (c : Cv a b g) (h : EM X W Γ e a m) : EM X W Γ e b (m >>= fun x => .ok (g x)) := pe_imp h fun σ H Q ⟨F, s, d, q⟩ => ⟨F, s, d, q.bind.mono fun x px v F1 H1 e1 r1 => px v F1 H1 e1 (c.h X.K X.mg F1 x [v] r1)⟩
/-- a way that is never taken -/
theorem bs_no : BS X W hk Γ st (.no : Mx β) I := pss_imp pss_never fun D σ H ⟨E, F, h, g, q⟩ => q
end
end Gm
set_option Elab.async false
set_option linter.all false
set_option maxRecDepth 100000
set_option maxHeartbeats 4000000
namespace Gm
open PySem PySem.Spec L2
section
variable {X : Cx} {W : WX} {hk : List Nat} {Γ Γv Γi : Ctx} {rest : List Stmt} {a b c e : Expr} {pos p p2 apos cpos : Pos} {t t1 t2 k : Ty} {β : Type} {I : β → Out}
theorem tk0 : Takes X W0 := takes0
/-- name += e, name -= e (whole numbers) -/
theorem b_aug {op : Operator} {g : Int → Int → Int} (i : Nat) {x : Str} {z : Int} {me : Mx Int} {kk : Int → Mx β} {pos' : Pos} (ho : PIp X op (ipI g)) (hΓ : Γ[i]? = some (.d .int z)) (he : EM X W Γv e .int me) (vw : Vw Γ (.d .int) Γv) (hr : ∀ y : Int, BS X W hk (Γ.set i (.d .int y)) rest (kk y) I)
    (hN : X.N.Nodup) (hi : X.N[i]? = some x) (hl : Loc X.env.scope x) (hf : X.fn x = true ∨ X.env.scope.names.lookup x = some .local) (hn : hk.contains i = false) :
    BS X W hk Γ (.AugAssign (.Name x pos') op e pos :: rest) (me >>= fun y => kk (g z y)) I :=
  have hr' : PSs X rest (fun D σ H => ∃ y : Int, tS X.K X.mg W hk (Γ.set i (.d .int y)) (kk y) I D σ H) := ⟨fun pins s σ H D J ⟨x, q⟩ => (hr x).run pins s σ H D J q⟩
  pss_imp (pss_cons (ps_aug hN hi hl he ho hf) hr') fun D σ H ⟨E, F, h, g0, q⟩ => by
    obtain ⟨fps, w⟩ := id g0.ow
    obtain ⟨ov, e1, _, v, rfl, r⟩ := w.at_ i _ hΓ
    cases (List.cons.inj (show [v] = _ from r)).1
    obtain ⟨G, g1, g2, g3⟩ := g0.look vw
    refine ⟨.int z, e1, G, g1, g2, q.bind.post g0 (fun F' H' x => let ⟨F2, a, _, b⟩ := g3 F' H' x; ⟨F2, a, b⟩) fun y py u F' H' ex ru => ?_⟩
    obtain ⟨F2, x2, back, _⟩ := g3 F' H' ex
    cases (List.cons.inj (show [u] = _ from ru)).1
    have hil : i < Γ.length := (List.getElem?_eq_some_iff.mp hΓ).1
    have hni : i ∉ E.hk := fun z => by rw [h] at z; rw [List.contains_iff_mem.mpr z] at hn; cases hn
    exact ⟨z, y, rfl, rfl, g z y, E, F2, h, g0.set (r := .d .int) (x := g z y) (v := .int (g z y)) x2 rfl hil hni, py⟩
/-- a name is returned -/
theorem bs_retV (i : Nat) {x : t.den} {n : Str} {bb : β} (hi : Γ[i]? = some (.d t x)) (hp : PE X (.Name n p) (tVar i)) (hI : I bb = .rt (.d t) x) : BS X W hk Γ (.Return (some (.Name n p)) pos :: rest) (.ok bb) I :=
  pss_imp (pss_cons (ps_ret hp) pss_never) fun D σ H ⟨E, F, h, g, q⟩ => by
    have q : outP X.K X.mg E D (I bb) := q
    rw [hI] at q
    obtain ⟨fps, w⟩ := g.ow
    obtain ⟨ov, e1, _, v, rfl, r⟩ := w.at_ i _ hi
    exact ⟨v, e1, q v F H g.e0 r⟩
/-! ## truth -/
theorem t_truL {m : Mx (List t.den)} (ha : EM X W Γ a (.list t) m) (he : ∀ whole, isTrue a X.env whole = (do let v ← whole; standAt a.pos; holding [v] (truthy v))) : ET X W Γ a (m >>= fun x => .ok (!x.isEmpty)) :=
  pt_imp (pt_truth ha he) fun σ H Q ⟨F, s, d, q⟩ => ⟨F, s, d, q.bind.mono fun x px v F1 H1 e1 r1 => by
    obtain ⟨l, ws, e, sq, rr⟩ := r1
    cases (List.cons.inj e).1
    refine ⟨!ws.isEmpty, .inl ⟨ws, SqL.of (e1.i _ _ sq), rfl⟩, ?_⟩
    have hl := rr.len
    have hx : x.isEmpty = ws.isEmpty := by cases x <;> cases ws <;> first | rfl | cases hl
    rw [← hx]; exact px F1 H1 e1⟩
theorem e_notL {m : Mx (List t.den)} (ha : EM X W Γ a (.list t) m) : EM X W Γ (.UnaryOp .Not a pos) .bool (m >>= fun x => .ok x.isEmpty) :=
  pe_imp (pe_notT ha) fun σ H Q ⟨F, s, d, q⟩ => ⟨F, s, d, q.bind.mono fun x px v F1 H1 e1 r1 => by
    obtain ⟨l, ws, e, sq, rr⟩ := r1
    cases (List.cons.inj e).1
    refine ⟨!ws.isEmpty, .inl ⟨ws, SqL.of (e1.i _ _ sq), rfl⟩, ?_⟩
    have hl := rr.len
    have hx : x.isEmpty = ws.isEmpty := by cases x <;> cases ws <;> first | rfl | cases hl
    rw [Bool.not_not, ← hx]; exact px _ F1 H1 e1 rfl⟩
end
end Gm
set_option Elab.async false
set_option linter.all false
set_option maxRecDepth 100000
set_option maxHeartbeats 4000000
namespace Gm
open PySem PySem.Spec L2
section
variable {X : Cx} {W : WX} {Γ : Ctx} {a b e : Expr} {es : List Expr} {kws : List Keyword} {pos p p' apos : Pos} {r : Rt} {t : Ty} {c f x m : Str} {ns ps ks : List Str} {C fI g : Addr} {n k : Nat} {fd : FuncData} {fs : Ow}
/-! ## calls that leave keyword-only arguments out -/
theorem e_callD {ts us : Ty} {π : us.den → ts.den} {h : ts.den → Mx r.den} {ma : Mx us.den} {dvs : List V} {ds : List Value} (Fn : FnOk X.prog X.w X.K X.mg X.base (L2.CX X.prog X.w) k g fd ps (spF X.K X.mg ts r h)) (hr : Room k X.A) (hg : Gl X x) (hm : X.mg x = some (.ref g)) (hkp : PySem.W.keepIn X.K (.ref g) = true)
    (hb : Binds X.K fd ps ds) (hd : Vals dvs ds) (hgv : ∀ (F : Hp) (y : us.den) (zs : List V), rl X.K X.mg us y zs F → rl X.K X.mg ts (π y) (zs ++ dvs) F) (tk : Takes X W) (ha : EA X W Γ (e :: es) us ma) (hdb : (x == ("__debug__" : Str)) = false) (he : starEach (e :: es) X.env = (false, eval e X.env) :: starEach es X.env) (hpl : (backTo pos (starEach es X.env)).any (·.1) = false) :
    ER X W Γ (.Call (.Name x p) (e :: es) [] pos) r (ma >>= fun y => h (π y)) :=
  pe_imp (pe_callSD Fn hr hg hm hkp hb hd (fun σ => passAt tk σ) ha hdb he hpl) fun σ H Q ⟨F, s, d, pp⟩ => ⟨F, s, d, pp.bind.mono fun z pz vs F1 H1 e1 r1 => by
    refine ⟨F1, π z, e1.i, hgv F1 z vs r1, ?_⟩
    cases hgz : h (π z) with
    | no => rw [hgz] at pz; exact pz
    | ex y => rw [hgz] at pz; exact fun cls d F' H' x r => pz cls d F' H' (e1.trans x) r
    | ok y => rw [hgz] at pz; exact fun v F' H' x r => pz v F' H' (e1.trans x) (rtr_pre e1.h r)⟩
theorem run_fnNA {pins : List (Addr × Obj)} {σ : L2.St} {H : Hp} {s : Shared} {Q : VK} {sp : Sp} {E : XK} {us ws : List Value} {vs zs : List V} {gA : List Value → List Value → List Value} {gV : List V → List V → List V} (Fn : FnOk X.prog X.w X.K X.mg X.base (L2.CX X.prog X.w) k g fd ps sp) (hr : Room k X.A) (hb : KBn X.K fd ps n ks gA gV) (hx : PassesAt (L2.CX X.prog X.w) X σ E)
    (I : Inv X pins σ H s) (r : Vals vs us) (rz : Vals zs ws) (l1 : vs.length = n) (l2 : zs.length = ks.length) (h : sp (gV vs zs) H Q E) : wpAny (model X.prog X.w) X.A (call (.ref g) us (ks.zip ws)) (EP X pins σ Q) X.xe s := by
  have r2 := hb.rel r rz
  refine wpAny_call (codeAny_mono (Fn.run X.A X.stack s H ⟨us, ks.zip ws⟩ (gA us ws) (gV vs zs) Q E hr I.env0 (hb.to s us ws I.kIn (r.length.symm.trans l1) (rz.length.symm.trans l2)) r2 h) fun r s' hq => ?_)
  cases r with
  | error e => exact hx pins _ _ e s' I hq
  | ok fl =>
    cases fl with
    | ret u => exact I.after hq
    | next => exact False.elim hq
    | brk => exact False.elim hq
    | cont => exact False.elim hq
def tCallM (n m : Nat) (sp : Sp) (gV : List V → List V → List V) (E : L2.St → XK) (t tk : TA) : TE := fun σ H Q => t σ H fun vs H1 => tk σ H1 fun zs H2 => vs.length = n ∧ zs.length = m ∧ sp (gV vs zs) H2 Q (E σ)
theorem pe_callM {sp : Sp} {ta tk' : TA} {gA : List Value → List Value → List Value} {gV : List V → List V → List V} (Fn : FnOk X.prog X.w X.K X.mg X.base (L2.CX X.prog X.w) k g fd ps sp) (hr : Room k X.A) (hg : Gl X x) (hm : X.mg x = some (.ref g)) (hk : PySem.W.keepIn X.K (.ref g) = true) (hb : KBn X.K fd ps n ks gA gV) (tk : Takes X W)
    (ha : PA X (e :: es) ta) (hkw : PK X kws tk') (hall : (backToKw pos (keywordEach kws X.env)).all (·.1.isSome) = true) (hks : (backToKw pos (keywordEach kws X.env)).filterMap (·.1) = ks)
    (hdb : (x == ("__debug__" : Str)) = false) (he : starEach (e :: es) X.env = (false, eval e X.env) :: starEach es X.env)
    (hpl : ((backTo pos (starEach (e :: es) X.env)).any (·.1) || (backToKw pos (keywordEach kws X.env)).any (·.1.isNone)) = false) :
    PE X (.Call (.Name x p) (e :: es) kws pos) (tCallM n ks.length sp gV (WE W) ta tk') := ⟨fun pins s σ H Q I h => by
  refine wpAny_Call_Name_kw (ld_glob I hg hm ?_ hdb)
  refine PySem.W.callWith_KW (h₀ := X.base) I.ok.mod.kin hk hall (thn (ha.run pos pins s σ H _ I h) fun us s1 ⟨vs, H1, I1, r, q⟩ => ?_) hpl he
  refine thn (hkw.run pos pins s1 σ H1 _ I1 q) fun ws s2 ⟨zs, H2, I2, rz, l1, l2, q2⟩ => ⟨I2.kIn, ?_⟩
  rw [hks]
  exact run_fnNA Fn hr hb (passAt tk σ) I2 r rz l1 l2 q2⟩
/-- f(e, .., k = v, ..) -/
theorem e_callK {ts us vs : Ty} {π : us.den → vs.den → ts.den} {h : ts.den → Mx r.den} {ma : Mx us.den} {mk : Mx vs.den} {gA : List Value → List Value → List Value} {gV : List V → List V → List V} (Fn : FnOk X.prog X.w X.K X.mg X.base (L2.CX X.prog X.w) k g fd ps (spF X.K X.mg ts r h)) (hr : Room k X.A) (hg : Gl X x) (hm : X.mg x = some (.ref g)) (hkp : PySem.W.keepIn X.K (.ref g) = true)
    (hb : KBn X.K fd ps n ks gA gV) (hgv : ∀ (F : Hp) (y : us.den) (z : vs.den) (ys zs : List V), rl X.K X.mg us y ys F → rl X.K X.mg vs z zs F → rl X.K X.mg ts (π y z) (gV ys zs) F) (tk : Takes X W) (ha : EA X W Γ (e :: es) us ma) (hkw : EK X W Γ kws vs mk) (hus : us.args = some n) (hvs : vs.args = some ks.length)
    (hall : (backToKw pos (keywordEach kws X.env)).all (·.1.isSome) = true) (hks : (backToKw pos (keywordEach kws X.env)).filterMap (·.1) = ks) (hdb : (x == ("__debug__" : Str)) = false) (he : starEach (e :: es) X.env = (false, eval e X.env) :: starEach es X.env)
    (hpl : ((backTo pos (starEach (e :: es) X.env)).any (·.1) || (backToKw pos (keywordEach kws X.env)).any (·.1.isNone)) = false) :
    ER X W Γ (.Call (.Name x p) (e :: es) kws pos) r (ma >>= fun y => mk >>= fun z => h (π y z)) :=
  pe_imp (pe_callM Fn hr hg hm hkp hb tk ha hkw hall hks hdb he hpl) fun σ H Q ⟨F, s, d, pp⟩ => ⟨F, s, d, pp.bind.mono fun y py ys F1 H1 e1 r1 =>
    ⟨F1, e1.i, d.mono e1.f, post.ext e1 py.bind fun z pz zs F2 H2 e2 r2 => by
      have r3 := rl_mono e2.f us y ys r1
      refine ⟨(args_len hus r3).1, (args_len hvs r2).1, F2, π y z, e2.i, hgv F2 y z ys zs r3 r2, ?_⟩
      cases hh : h (π y z) with
      | no => rw [hh] at pz; exact pz
      | ex w => rw [hh] at pz; exact fun cls d F' H' x r => pz cls d F' H' ((e1.trans e2).trans x) r
      | ok w => rw [hh] at pz; exact fun v F' H' x r => pz v F' H' ((e1.trans e2).trans x) (rtr_pre (e1.h.trans e2.h) r)⟩⟩
end
section
variable {K : PySem.W.Frag} {x qual : Str} {params : Arguments} {body : List Stmt} {scope : Scope} {f : Addr} {fd : FuncData} {ps : List Str}
/-- every keyword-only parameter is written -/
theorem kbindsA (F : FunD K x qual params body scope [] [] f fd) (n : Nat) (ks : List Str) (g : {α : Type} → List α → List α → List α)
    (hrel : ∀ {vs zs : List V} {us ws : List Value}, Vals vs us → Vals zs ws → Vals (g vs zs) (g us ws))
    (h : ∀ (kV doc pm : Value) (an : Option Addr) (cdv ct : Value) (us ws : List Value), us.length = n → ws.length = ks.length → bindArgs (PySem.W.fnOf x qual params body scope .none kV doc pm an cdv ct) ⟨us, ks.zip ws⟩ = pure (ps.zip (g us ws))) :
    KBn K fd ps n ks (fun us ws => g us ws) (fun vs zs => g vs zs) := by
  obtain ⟨oc, od, dV, kV, doc, pm, an, cdv, ct, osl, rfl, lk, hcd, hD, hK⟩ := F.ex
  rcases hD with ⟨_, rfl⟩ | ⟨e, _⟩
  · exact ⟨fun s us ws X l1 l2 => .of_eq (h kV doc pm an cdv ct us ws l1 l2), fun r1 r2 => hrel r1 r2⟩
  · exact absurd rfl e
end
end Gm
set_option Elab.async false
set_option linter.all false
set_option maxRecDepth 100000
set_option maxHeartbeats 4000000
namespace Gm
open PySem PySem.Spec PySem.W PySem.Calls PyProof.Rows
/-! ## an own exception whose __init__ says super().__init__('..'); self.f = p -/
/-- what the written part says of such a class and its __init__ -/
structure SupK (P : Program) (K : Frag) (C fI cc cda : Addr) (nm qual par f : Str) (params : Arguments) (body : List Stmt) (scope : Scope) : Prop where
  cls : ∃ nm q N bs bm sn sub ab col dd k0 k1 k2 k3 k5, K.lookup C = some (excClassObj nm q C N bs bm true sn sub ab col dd k0 k1 k2 k3 k5 "ValueError.__new__") ∧ PySem.HandSPX.refsVE bm = true ∧ alongIn K "__init__" bm = some (some (.builtin "ValueError.__init__"))
  sa : findIn K (.ref C) "__setattr__" = some (some (.builtin "object.__setattr__"))
  exC : subIn K (.ref C) (.type "BaseException") = some true
  veC : subIn K (.ref C) (.type "ValueError") = some true
  tyC : typeIn K (.ref C) = some (.type "type")
  kC : keepIn K (.ref C) = true
  noF : findIn K (.ref C) f = some none
  iC : findIn K (.ref C) "__init__" = some (some (.ref fI))
  tI : typeIn K (.ref fI) = some (.type "function")
  self : mroIn K C (.ref C) = some true
  opq : nsIn K cStatics "thirdparty.any" = some none
  lk : ∃ oc od kV doc pm an ct osl, K.lookup fI = some ⟨oc, od, .func (fnX nm qual params body scope [("__class__", cc)] .none kV doc pm an (.ref cda) ct), osl⟩
  cdi : codeIn K (.ref cda) qual = true
  code : ∃ ccl cdd vs ccs file tf, K.lookup cda = some ⟨ccl, cdd, .fields vs, ccs⟩ ∧ vs[2]? = some (.str file tf) ∧ ((P.main.file : Str) == file) = true
  cell : ∃ cl cld csl, K.lookup cc = some ⟨cl, cld, .cell (some (.ref C)), csl⟩
  top : (P.main.scope.names.lookup ("super" : Str)).isSome = false
/-- what its text says -/
structure SupS (par f : Str) (params : Arguments) (body : List Stmt) (scope : Scope) : Prop where
  txt : ∃ txt p0 p1 p2 p3 p4 p5 p6 p7 p8 p9 j, body = [.Expr (.Call (.Attribute (.Call (.Name "super" p0) [] [] p1) "__init__" p2) [.Constant (.str txt) j p3] [] p4) p5, .Assign [.Attribute (.Name "self" p6) f p7] (.Name par p8) p9] ∧
    ∀ (L gl bl : Addr) (cells : List (Str × Addr)) (q : Str) (fn : Option Addr) (code : Value), ∃ pl : Sem Bool, eval (.Call (.Attribute (.Call (.Name "super" p0) [] [] p1) "__init__" p2) [.Constant (.str txt) j p3] [] p4) (newEnv scope L gl cells q fn code none bl) = (do
      let ov ← attributeBase (.Call (.Name "super" p0) [] [] p1) "__init__" (newEnv scope L gl cells q fn code none bl) (eval (.Call (.Name "super" p0) [] [] p1) (newEnv scope L gl cells q fn code none bl))
      standAt p2.atName
      let (f, first) ← holding [ov] (getMethod ov "__init__" pl)
      callWith p4 f first (backTo p4 (starEach [.Constant (.str txt) j p3] (newEnv scope L gl cells q fn code none bl))) [])
  head : ∃ ar, (params.posonlyargs ++ params.args).head? = some ar ∧ ar.arg = ("self" : Str)
  kind : scope.kind = .function
  co : scope.isCoroutine = false
  gen : scope.isGenerator = false
  nocell : ∀ x ∈ scope.names, x.2 ≠ .cell
  s1 : scope.names.lookup ("self" : Str) = some .local
  s2 : scope.names.lookup par = some .local
  s3 : scope.names.lookup ("super" : Str) = some .globalImplicit
  s4 : scope.names.lookup ("__class__" : Str) = some .free
  ne : par ≠ ("self" : Str)
  nd : (par == ("__debug__" : Str)) = false
  bind : ∀ (nm qual : Str) (cl : List (Str × Addr)) (kV doc pm : Value) (an : Option Addr) (cdv ct u v : Value) (s : Shared), BindsTo s (fnX nm qual params body scope cl .none kV doc pm an cdv ct) ⟨[u, v], []⟩ [("self", u), (par, v)]

section
variable {prog : Program} {w : World} {A : Around} {R : Result → Shared → Prop} {K : Frag} {hp : Heap} {g : Array GenState} {d : Drawn} {t : Nat} {os : OsState}
/-- super().__init__(..) called on the bound word -/
theorem sup_call {E : Value → Shared → Prop} {nm q : Str} {C N : Addr} {bs bm : List Value} {hdct : Bool} {sn : List Str} {sub : List Value} {ab : Bool} {col : Option Bool} {dd : Option Addr} {k0 k1 k2 k3 k5 : Option Value} {u e t0 : Addr} {rest : List Value} {Q : Value → Shared → Prop}
    (hC : hp.get? C = some (excClassObj nm q C N bs bm hdct sn sub ab col dd k0 k1 k2 k3 k5 "ValueError.__new__")) (he : hp.get? e = some (PySem.HandSPX.excO C t0)) (hu : hp.get? u = some (kxs_mw "ValueError.__init__" e)) (hrest : rest.length ≤ sizeLine)
    (hq : ∀ h' t1, (∀ b o, b ≠ e → hp.get? b = some o → h'.get? b = some o) → h'.get? e = some (PySem.HandSPX.excO C t1) → Q .none ⟨h', g, d, t, os⟩) :
    wpAny (model prog w) A (call (.ref u) rest) Q E ⟨hp, g, d, t, os⟩ := by
  refine wpAny_call (codeAny_of_tree ?_)
  show wpAny _ A.in1 (callAny (.ref u) ⟨rest, []⟩) _ _ _
  simp only [callAny]
  refine wpAny_bind (wpAny_load hu ?_)
  simp only [kxs_mw, show (Value.type "method-wrapper" == Value.type "method" || Value.type "method-wrapper" == Value.type "builtin_function_or_method" || Value.type "method-wrapper" == Value.type "method-wrapper") = true by decide, if_true]
  refine KFB.if_so (by decide) ?_
  refine wpAny_bind (check_bound_init F.excBase_ValueError.toExcCallFacts hC he rfl ?_)
  refine wpAny_bind (wpAny_pure (wpAny_pure ?_))
  refine ⟨plainId_quiet F.excBase_ValueError.init.plain _, codeAny_builtin F.excBase_ValueError.initEntry ?_⟩
  rw [Around.under_plainId F.excBase_ValueError.init.plain _]
  wp_walk
  refine hq _ hp.objs.size (fun b o hb ho => ?_) ?_
  · rw [Heap.get?_update_other _ _ (Ne.symm hb)]
    exact Heap.get?_push_of_some _ ho
  · rw [Heap.get?_update_self _ (Heap.get?_push_of_some _ he) rfl]
    rfl
theorem sup_callWith {M : Model} {E : Value → Shared → Prop} {s : Shared} {i : String} {u x : Addr} {pos : Pos} {env : Env} {e : Expr} {rest : List Expr} {Q : Value → Shared → Prop}
    (h : wpAny M A (spliced (backTo pos (starEach (e :: rest) env))) (fun vs s₁ => KxsAt i u x s₁.heap ∧ wpAny M A (call (.ref u) vs) Q E s₁) E s)
    (he : starEach (e :: rest) env = (false, eval e env) :: starEach rest env := by rfl) (hplain : (backTo pos (starEach rest env)).any (·.1) = false := by rfl) :
    wpAny M A (callWith pos (.ref u) [] (backTo pos (starEach (e :: rest) env)) []) Q E s := by
  rw [he] at h ⊢
  refine kxs_callWith (i := i) (x := x) (by show (false || (backTo pos (starEach rest env)).any (·.1)) = false; rw [hplain]; rfl) ?_
  exact evalArgs_plain h
theorem sup_init {C fI cc cda x t0 : Addr} {u : Value} {nm qual par f : Str} {params : Arguments} {body : List Stmt} {scope : Scope} {mg mb : Str → Option Value} (T : SupK prog K C fI cc cda nm qual par f params body scope) (S : SupS par f params body scope)
    (X : K.In hp) (lim : hp.NoLimit) (room : A.depth < recursionLimit) (hmg : hp.Ns mainGlobals mg) (hms : mg "super" = none) (hmb : hp.Ns builtinsNs mb) (hbs : mb "super" = some (.type "super"))
    (he : hp.get? x = some (PySem.HandSPX.excO C t0)) (hxK : K.lookup x = none)
    (hq : ∀ h' t1 dx tk', (∀ b o, b ≠ x → hp.get? b = some o → h'.get? b = some o) → hp.objs.size ≤ dx → dx ≠ x → h'.get? x = some { cls := .ref C, dict := some dx, data := .fields #[.ref t1, .none, .none, .none, .bool false, .none] } →
      h'.Ns1 dx (fun y => if y = f then some u else none) → R (.ok (.ret .none)) ⟨h', g, d, tk', os⟩) :
    codeAny (model prog w) A (.call (.ref fI) ⟨[.ref x, u], []⟩) R ⟨hp, g, d, t, os⟩ := by
  obtain ⟨cnm, q, N, bs, bm, sn, sub, ab, col, dd, k0, k1, k2, k3, k5, hC, hbm, hal⟩ := T.cls
  obtain ⟨oc, od, kV, doc, pm, an, ct, osl, lk⟩ := T.lk
  obtain ⟨ccl, cdd, vs, ccs, file, tf, hco, hvs, hfile⟩ := T.code
  obtain ⟨cl, cld, csl, hcell⟩ := T.cell
  obtain ⟨txt, p0, p1, p2, p3, p4, p5, p6, p7, p8, p9, j, rfl, hev⟩ := S.txt
  obtain ⟨ar, har, hself⟩ := S.head
  have hcl : clsIn K C = some { name := cnm, bases := bs, mro := .ref C :: bm, ns := N, qualname := q, hasDict := true, slotNames := sn, subclasses := sub, abstract := ab, collection := col, hasDel := false } := by unfold clsIn; rw [hC] <;> rfl
  refine ks_codeAny_call_defAt (binds := [("self", .ref x), (par, u)]) room (X _ _ lk) rfl lim (codeRec_of X T.cdi) rfl (S.bind nm qual _ kV doc pm an (.ref cda) ct (.ref x) u _) S.nocell (fun y hy => ?_) (fun h0 hns k0' => ?_) S.co S.gen S.kind
  · rcases List.mem_cons.mp hy with e | hy
    · rw [e]; exact S.s1
    · rw [List.mem_singleton.mp hy]; exact S.s2
  have X0 := X.keeps k0'
  have he0 := k0' _ _ he
  have hv1 : (fun y => ([("self", Value.ref x), (par, u)] : List (Str × Value)).reverse.lookup y) ("self" : Str) = some (.ref x) := by
    show List.lookup ("self" : Str) [(par, u), ("self", Value.ref x)] = _
    rw [List.lookup_cons, show (("self" : Str) == par) = false from beq_eq_false_iff_ne.mpr (Ne.symm S.ne)]
    rfl
  have hv2 : (fun y => ([("self", Value.ref x), (par, u)] : List (Str × Value)).reverse.lookup y) par = some u := by
    show List.lookup par [(par, u), ("self", Value.ref x)] = _
    rw [List.lookup_cons, show (par == par) = true from beq_iff_eq.mpr rfl]
  generalize hm0 : (fun y => ([("self", Value.ref x), (par, u)] : List (Str × Value)).reverse.lookup y) = m0 at hns hv1 hv2
  have I0 : InstAt h0 x (PySem.HandSPX.excO C t0) C none := ⟨he0, rfl, rfl, trivial⟩
  have hCh := X0 _ _ hC
  obtain ⟨pl, hpl⟩ := hev hp.objs.size mainGlobals builtinsNs [("__class__", cc)] (qual ++ ".<locals>.") (some fI) (.ref cda)
  refine ks_wpAt_execs_cons (ks_wpAt_Expr_any (ks_wpAt_MethodCall (pl := pl) ?_ hpl) (by show (scope.kind == .module && _) = false; rw [S.kind]; rfl) rfl)
  refine ks_wpAt_super_base S.s3 S.s4 (by decide) rfl (X0 _ _ lk) rfl har rfl (X0 _ _ hco) rfl hvs hfile T.top ?_
  refine ks_loadName_global S.kind S.s3 (loadGlobal_builtin (hmg.keeps k0') hms (hmb.keeps k0') hbs ⟨rfl, ?_⟩)
  refine wpAny_loadName_free S.kind S.s4 rfl ⟨_, X0 _ _ hcell, rfl⟩ ?_
  rw [hself]
  refine wpAny_loadName_local S.kind S.s1 hns hv1 ?_
  refine ks_wpAny_isType_cls hCh rfl ⟨rfl, ?_⟩
  refine ks_wpAny_call_super hCh rfl he0 rfl (fun c e => by cases e) (looks_mroIn X0 T.self) (fun h1 so k1 => ?_)
  have X1 := X0.keeps k1
  have I1 : InstAt h1 x (PySem.HandSPX.excO C t0) C none := ⟨k1 _ _ he0, rfl, rfl, trivial⟩
  refine kxs_getMethod kxs_ValueError so (looks_opaque X1 T.opq) (l₀ := .ref C :: bm) (fun A Q E s k q => wpAny_bind ((looks_clsIn X1 hcl) A _ E s k (wpAny_pure q))) ?_ X1 hal (I1.type.andThen (looks_subIn X1 T.veC)) (ks_ne X1 I1 hcl) (by decide) ?_
  · simp [List.dropWhile_cons]
  have hu1 : (h1.push (kxs_mw "ValueError.__init__" x)).get? h1.objs.size = some (kxs_mw "ValueError.__init__" x) := Heap.get?_push_at rfl rfl
  have k2 : ∀ b o, h1.get? b = some o → (h1.push (kxs_mw "ValueError.__init__" x)).get? b = some o := fun b o e => Heap.get?_push_of_some _ e
  refine sup_callWith (i := "ValueError.__init__") (x := x) (PyProof.Rows.spliced_more (Calls.Constant_str (PyProof.Rows.spliced_none ⟨hu1, ?_⟩)))
  refine sup_call (C := C) (t0 := t0) (k2 _ _ (k1 _ _ hCh)) (k2 _ _ (k1 _ _ he0)) hu1 (show 1 ≤ sizeLine from by rw [sizeLine_eq]; omega) fun h2 t1 k3 hx => ?_
  have kk : ∀ b o, b ≠ x → h0.get? b = some o → h2.get? b = some o := fun b o hb e => k3 b o hb (k2 _ _ (k1 _ _ e))
  have X2 : K.In h2 := fun b o e => kk b o (fun z => by rw [z, hxK] at e; cases e) (X0 b o e)
  have hLx : hp.objs.size ≠ x := Ne.symm (Nat.ne_of_lt (Heap.lt_size he))
  have hns2 : h2.Ns hp.objs.size m0 := by
    obtain ⟨oL, es, ep, hL, r⟩ := hns
    exact ⟨oL, es, ep, kk _ _ hLx hL, r⟩
  refine ks_wpAt_execs_cons (ks_wpAt_Assign_Attr ?_ rfl)
  refine wpAt_of_wpAny (wpAny_Name (wpAny_loadName_local S.kind S.s2 hns2 hv2 ?_) S.nd)
  refine wpAny_Name (wpAny_loadName_local S.kind S.s1 hns2 hv1 ?_) (by decide)
  refine set_plain X2 (ox := PySem.HandSPX.excO C t1) (od := none) ⟨hx, rfl, rfl, trivial⟩ T.sa ?_
  refine PySem.HandSPX.exc_osa X2 hx hcl (show PySem.HandSPX.refsVE (.ref C :: bm) = true from hbm) rfl T.noF (fun h' tk' dx k dn dne hx' hn => ?_)
  refine wpAt_of_wpAny (wpAny_execs_nil ?_)
  refine hq h' t1 dx tk' (fun b o hb e => k b o hb (kk b o hb (k0' b o e))) ?_ dne hx' hn
  obtain ⟨oL, es, ep, hL, r⟩ := hns2
  exact Nat.le_trans (Nat.le_of_lt (Heap.lt_size hL)) dn
end
open L2
def tMkS (C : Addr) (f : Str) (ta : TA) : L2.St → Hp → XK → Prop := fun σ H Q => ta σ H fun vs H1 => ∃ y, vs = [y] ∧ ∀ dx, H1 dx = none → Q (.ref C) (some dx) (upd H1 dx (.xd [(f, y)]))
theorem pmk_sup {X : Cx} {x : Str} {C fI cc cda : Addr} {k : Nat} {nm qual par f : Str} {params : Arguments} {body : List Stmt} {scope : Scope} {e : Expr} {ta : TA} {p pos : Pos} (T : SupK X.prog X.K C fI cc cda nm qual par f params body scope) (S : SupS par f params body scope)
    (hr : Room (k + 1) X.A) (hg : Gl X x) (hm : X.mg x = some (.ref C)) (hms : X.mg "super" = none) (ha : PA X [e] ta)
    (hdb : (x == ("__debug__" : Str)) = false := by decide) (he : starEach [e] X.env = (false, eval e X.env) :: starEach [] X.env := by rfl) (hpl : (backTo pos (starEach [] X.env)).any (·.1) = false := by rfl) :
    PMk X (.Call (.Name x p) [e] [] pos) (tMkS C f ta) := by
  intro pins s σ H Q I h
  obtain ⟨cnm, q, N, bs, bm, sn, sub, ab, col, dd, k0, k1, k2, k3, k5, hC, hbm, hal⟩ := T.cls
  refine wpAny_Call_Name_kw (ld_glob I hg hm ?_ hdb)
  refine PySem.W.callWith_K (h₀ := X.base) I.ok.mod.kin T.kC (thn (ha.run pos pins s σ H _ I h) fun us s1 ⟨vs, H1, I1, r1, y, ev, q1⟩ => ⟨I1.kIn, ?_⟩) he hpl
  subst ev
  cases r1 with
  | @cons _ u _ us ry rn =>
  cases rn
  show wpAny _ _ (call (.ref C) [u]) _ _ _
  obtain ⟨hp, g, dr, tk, os⟩ := s1
  have kk : ∀ b o, hp.get? b = some o → ((hp.push (PySem.W.kdv_tup [u])).push (PySem.HandSPX.excO C hp.objs.size)).get? b = some o := fun b o e => Heap.get?_push_of_some _ (Heap.get?_push_of_some _ e)
  have hget : ((hp.push (PySem.W.kdv_tup [u])).push (PySem.HandSPX.excO C hp.objs.size)).get? (hp.objs.size + 1) = some (PySem.HandSPX.excO C hp.objs.size) := by heap_get
  have hbk : ∀ b o, X.base.get? b = some o → hp.get? b = some o := I1.bk
  obtain ⟨mb, hb1, hb2⟩ := I1.mod.blt
  have hxK : X.K.lookup (hp.objs.size + 1) = none := by
    cases z : X.K.lookup (hp.objs.size + 1) with
    | none => rfl
    | some o => exact absurd (Heap.lt_size (I1.kIn _ _ z)) (by show ¬ (hp.objs.size + 1 < hp.objs.size); omega)
  refine wpAny_call (PySem.HandSPX.call_own F.excBase_ValueError (fun Y => PySem.HandSPX.refsVE_contains Y bm hbm) (I1.kIn _ _ hC) (PySem.W.looks_findIn I1.kIn T.iC) (fun self => PySem.W.bind_fn I1.kIn self T.tI) (by show 1 ≤ sizeLine; rw [sizeLine_eq]; omega)
    (sup_init (mg := X.mg) (mb := mb) T S (I1.kIn.keeps kk) (I1.mod.nolimit.keeps fun b o z => kk b o (hbk b o z)) (hr.make C [u] []).depth ((I1.mod.glob.keeps hbk).keeps kk) hms ((hb1.keeps hbk).keeps kk) ((hb2 "super" (by decide)).trans (by first | rfl | kernel_rfl)) hget hxK
      fun h' t1 dx tk' kx dn dne hx hn => ?_))
  have dn0 : hp.objs.size ≤ dx := Nat.le_trans (by rw [Heap.size_push, Heap.size_push]; exact Nat.le_add_right _ 2) dn
  obtain ⟨G, g1, g2⟩ := restrict h' fun b => decide (b ≠ hp.objs.size + 1)
  have gk : ∀ b, b ≠ hp.objs.size + 1 → G.get? b = h'.get? b := fun b hb => g1 b (decide_eq_true hb)
  have ge : G.get? (hp.objs.size + 1) = none := g2 _ (by simp)
  have nea : ∀ {b : Addr} {o : Obj}, hp.get? b = some o → b ≠ hp.objs.size + 1 := fun {b o} z e => absurd e (Nat.ne_of_lt (Nat.lt_succ_of_lt (Heap.lt_size z)))
  have J : Inv X pins σ (upd H1 dx (.xd [(f, y)])) ⟨G, g, dr, tk', os⟩ := I1.laid (t' := tk') (a := dx) (o := .xd [(f, y)]) (h' := G) (fun b o z => by rw [gk b (nea z)]; exact kx b o (nea z) (kk b o z)) dn0
    ⟨_, hn.at fun o z => (gk dx dne).trans z, fun g => by
      show RelO (([(f, y)] : List (Str × V)).lookup g) (if g = f then some u else none)
      rw [lookup_put]
      by_cases hgf : g = f
      · rw [if_pos hgf, if_pos hgf]; exact ry
      · rw [if_neg hgf, if_neg hgf]; exact True.intro⟩
  refine ⟨rfl, hp.objs.size + 1, _, _, ⟨G, g, dr, tk', os⟩, _, .ref C, some dx, rfl, J, fun b o z => ?_, ge, hx, ⟨rfl, rfl⟩, rfl, rfl, ?_, rfl, I1.bare, raises_own T.exC T.tyC, q1 dx (I1.hok.fresh dn0)⟩
  · by_cases hba : b = hp.objs.size + 1
    · rw [hba, ge] at z; cases z
    · exact (gk b hba).symm.trans z
  · rw [upd_ne (Ne.symm dne)]
    exact I1.hok.fresh (Nat.le_succ _)
end Gm
set_option Elab.async false
set_option linter.all false
set_option maxRecDepth 100000
set_option maxHeartbeats 4000000
namespace Gm
open PySem PySem.Spec L2

/-! ## what the top has written: defs by where they stand, facts as tests -/
theorem Df.fun_ {K : PySem.W.Frag} {d : Df} (hcl : d.cl = []) (e : fnAt K (d.loc K) = d.want) (c : d.good K = true) : ∃ fd, FunD K d.name d.qual d.params d.body d.scope (d.dfl K) (d.kwd K) (d.loc K) fd := by
  unfold Df.good at c
  rw [Bool.and_eq_true] at c
  obtain ⟨kp, c⟩ := c
  unfold fnAt Df.want at e
  cases hq : K.lookup (d.loc K) with
  | none => rw [hq] at c; cases c
  | some ob =>
    obtain ⟨oc, od, dt, sl⟩ := ob
    rw [hq] at c e
    cases dt with
    | func q =>
      have c : (PySem.W.codeIn K q.code d.qual && (He.dflB K q.defaults (d.dfl K) && He.kwdB K q.kwdefaults (d.kwd K))) = true := c
      rw [Bool.and_eq_true, Bool.and_eq_true] at c
      obtain ⟨k1, k2, k3⟩ := c
      obtain ⟨n1, n2, n3, n4, n5, n6, n7, n8, n9, n10, n11, n12, n13, n14, n15⟩ := q
      have e : (some (n1, n2, n3, n4, n5, n6, n7.map (·.1), n15) : FnX) = some (d.name, d.qual, d.params, .stmts d.body, d.scope, mainGlobals, d.cl, builtinsNs) := e
      have e := Option.some.inj e
      simp only [Prod.mk.injEq] at e
      obtain ⟨h1, h2, h3, h4, h5, h6, h7, h8⟩ := e
      rw [hcl] at h7
      have h7 : n7 = [] := List.map_eq_nil_iff.mp h7
      subst h1 h2 h3 h4 h5 h6 h7 h8
      exact ⟨_, ⟨oc, od, n8, n9, n10, n11, n12, n13, n14, sl, rfl, hq, k1, He.dflB_ok k2, He.kwdB_ok k3⟩, kp⟩
    | _ => cases c
section
variable {fa : List Fact} {fn : List Df} {K : PySem.W.Frag}
theorem Told.fact (c : Told fa fn K) (i : Nat) {f : Fact} (h : fa[i]? = some f) : f K = true := by
  have e := congrArg Prod.fst c
  have e : ((fa.all fun f => f K) && fn.all fun d => d.good K) = true := e
  rw [Bool.and_eq_true] at e
  exact List.all_eq_true.mp e.1 f (List.mem_iff_getElem?.mpr ⟨i, h⟩)
theorem Told.at_ (c : Told fa fn K) (i : Nat) {d : Df} (h : fn[i]? = some d) : fnAt K (d.loc K) = d.want ∧ d.good K = true := by
  have e := congrArg Prod.fst c
  have e : ((fa.all fun f => f K) && fn.all fun d => d.good K) = true := e
  rw [Bool.and_eq_true] at e
  have e2 := congrArg Prod.snd c
  have e2 : fn.map (fun d => fnAt K (d.loc K)) = fn.map Df.want := e2
  refine ⟨?_, List.all_eq_true.mp e.2 d (List.mem_iff_getElem?.mpr ⟨i, h⟩)⟩
  have e3 := congrArg (fun l => l[i]?) e2
  simp only [List.getElem?_map, h, Option.map_some, Option.some.injEq] at e3
  exact e3
theorem Told.def_ (c : Told fa fn K) (i : Nat) {d : Df} (h : fn[i]? = some d) (hcl : d.cl = [] := by rfl) : ∃ fd, FunD K d.name d.qual d.params d.body d.scope (d.dfl K) (d.kwd K) (d.loc K) fd := by
  have e := congrArg Prod.fst c
  have e : ((fa.all fun f => f K) && fn.all fun d => d.good K) = true := e
  rw [Bool.and_eq_true] at e
  have e2 := congrArg Prod.snd c
  have e2 : fn.map (fun d => fnAt K (d.loc K)) = fn.map Df.want := e2
  refine Df.fun_ hcl ?_ (List.all_eq_true.mp e.2 d (List.mem_iff_getElem?.mpr ⟨i, h⟩))
  have e3 := congrArg (fun l => l[i]?) e2
  simp only [List.getElem?_map, h, Option.map_some, Option.some.injEq] at e3
  exact e3
end
/-! ## places -/
/-- a property's getter, a static method's def -/
abbrev propAt (K : PySem.W.Frag) (C m : Str) : Addr := recAt K (He.ma K (He.ga K C) m) "property"
theorem recAt_ok {K : PySem.W.Frag} {p : Addr} {T : String} (h : (match PySem.W.recIn K p T with | some (.ref _ :: _) => true | _ => false) = true) : ∃ rest, PySem.W.recIn K p T = some (.ref (recAt K p T) :: rest) := by
  unfold recAt
  split at h
  · rename_i g r e; exact ⟨r, by rw [e]⟩
  · cases h
/-! ## facts -/
def fProp (C m : Str) : Fact := fun K => decide (PySem.W.findIn K (.ref (He.ga K C)) m = some (some (.ref (methAt K C m)))) && (decide (PySem.W.specialIn K (.ref (methAt K C m)) "__get__" = some (some (.builtin "property.__get__"))) &&
  (decide (PySem.W.takesIn K (.ref (methAt K C m)) = some true) && (match PySem.W.recIn K (methAt K C m) "property" with | some (.ref _ :: _) => true | _ => false)))
theorem fProp_ok {K : PySem.W.Frag} {C m : Str} (h : fProp C m K = true) : PropOf K (He.ga K C) m (methAt K C m) (propAt K C m) := by
  unfold fProp at h
  rw [Bool.and_eq_true, Bool.and_eq_true, Bool.and_eq_true] at h
  exact ⟨of_decide_eq_true h.1, of_decide_eq_true h.2.1, of_decide_eq_true h.2.2.1, recAt_ok h.2.2.2⟩
theorem fRead_ok {K : PySem.W.Frag} {C : Str} (h : fRead C K = true) : ClX.CRead K (He.ga K C) (.type "type") := by
  unfold fRead at h
  rw [Bool.and_eq_true] at h
  exact ⟨h.1, of_decide_eq_true h.2⟩
theorem fInt_ok {K : PySem.W.Frag} {C m : Str} {i : Int} (h : fInt C m i K = true) : ∃ u, ClX.CVal K (He.ga K C) (.type "type") m (.int i) u := by
  unfold fInt at h
  split at h
  · rename_i j t e
    have := of_decide_eq_true h
    subst this
    exact ⟨_, e, ⟨_, rfl⟩⟩
  · cases h
theorem fStat_ok {K : PySem.W.Frag} {C m : Str} (h : fStat C m K = true) : SMet K (He.ga K C) (.type "type") m (methAt K C m) (statAt K C m) := by
  unfold fStat at h
  rw [Bool.and_eq_true, Bool.and_eq_true] at h
  obtain ⟨h1, h2, h3⟩ := h
  refine ⟨?_, recAt_ok h2, h3⟩
  split at h1
  · rename_i g p D e
    rw [Bool.and_eq_true, Bool.and_eq_true] at h1
    rw [e, of_decide_eq_true h1.1, of_decide_eq_true h1.2.1, of_decide_eq_true h1.2.2]
  · cases h1
/-- the empty tuple -/
def fTup0 (p : PySem.W.Frag → Addr) : Fact := fun K => match K.lookup (p K) with
  | some ⟨.type c, _, .seq its _, _⟩ => decide (c = "tuple") && decide (its.size = 0)
  | _ => false
theorem fTup0_ok {K : PySem.W.Frag} {p : PySem.W.Frag → Addr} (h : fTup0 p K = true) : ∀ H, SqT K H (p K) [] := by
  unfold fTup0 at h
  cases hq : K.lookup (p K) with
  | none => rw [hq] at h; cases h
  | some o =>
    obtain ⟨oc, od, dt, sl⟩ := o
    rw [hq] at h
    cases oc with
    | type c =>
      cases dt with
      | seq its n =>
        have h : (decide (c = "tuple") && decide (its.size = 0)) = true := h
        rw [Bool.and_eq_true] at h
        have e : its = #[] := Array.size_eq_zero_iff.mp (of_decide_eq_true h.2)
        subst e
        exact fun H => .inr ⟨_, #[], n, hq, congrArg Value.type (of_decide_eq_true h.1), rfl, by decide, .nil⟩
      | _ => cases h
    | _ => cases dt <;> cases h
/-! ## keywords' places -/
def pick {α : Type} (l : List (Nat × Nat)) (us mv ws : List α) : List α := l.filterMap fun p => match p.1 with
  | 0 => us[p.2]?
  | 1 => mv[p.2]?
  | _ => ws[p.2]?
theorem vals_at {xs : List V} {us : List Value} (r : Vals xs us) : ∀ i : Nat, (xs[i]? = none ∧ us[i]? = none) ∨ ∃ v u, xs[i]? = some v ∧ us[i]? = some u ∧ RelV v u := by
  induction r with
  | nil => exact fun i => .inl ⟨rfl, rfl⟩
  | cons h t ih =>
    intro i
    cases i with
    | zero => exact .inr ⟨_, _, rfl, rfl, h⟩
    | succ i => simpa using ih i
theorem pick_rel {l : List (Nat × Nat)} {vs mz zs : List V} {us mv ws : List Value} (h1 : Vals vs us) (h2 : Vals mz mv) (h3 : Vals zs ws) : Vals (pick l vs mz zs) (pick l us mv ws) := by
  induction l with
  | nil => exact .nil
  | cons p l ih =>
    unfold pick at ih ⊢
    rw [List.filterMap_cons, List.filterMap_cons]
    obtain ⟨a, b⟩ := p
    match a with
    | 0 =>
      rcases vals_at h1 b with ⟨e1, e2⟩ | ⟨v, u, e1, e2, r⟩
      · simp only [e1, e2]; exact ih
      · simp only [e1, e2]; exact .cons r ih
    | 1 =>
      rcases vals_at h2 b with ⟨e1, e2⟩ | ⟨v, u, e1, e2, r⟩
      · simp only [e1, e2]; exact ih
      · simp only [e1, e2]; exact .cons r ih
    | a + 2 =>
      rcases vals_at h3 b with ⟨e1, e2⟩ | ⟨v, u, e1, e2, r⟩
      · simp only [e1, e2]; exact ih
      · simp only [e1, e2]; exact .cons r ih
end Gm
set_option Elab.async false
set_option linter.all false
set_option maxRecDepth 100000
set_option maxHeartbeats 4000000
namespace Gm
open PySem PySem.Spec L2

section
variable {X : Cx} {W : WX} {hk : List Nat} {Γ Γ' Γv : Ctx} {st : Stmt} {rest body suite : List Stmt} {b0 : Stmt} {e : Expr} {pos p np pos' : Pos} {β : Type} {I : β → Out} {c x : Str} {C : Addr} {t : Ty} {k : Nat}
/-! ## raise X(e), X's __init__ being super().__init__('..'); self.f = e -/
def Pay.is : Pay → V → Prop
  | .n, _ => False
  | .i z, v => v = .int z
  | .s z, v => v = .str z
theorem b_raiseX {fI cc cda : Addr} {nm qual par f : Str} {params : Arguments} {bd : List Stmt} {scope : Scope} {me : Mx t.den} {cpos : Pos} (x : Str) (T : SupK X.prog X.K C fI cc cda nm qual par f params bd scope) (S : SupS par f params bd scope) (hc : X.calm = true) (tk : Takes X W) (hm : X.mg x = some (.ref C)) (hms : X.mg "super" = none)
    (hr : Room (k + 1) X.A) (hg : Gl X x) (he : EM X W Γv e t me) (vw : Vw Γ (.d t) Γv) (pay : t.den → Pay) (hp : ∀ (y : t.den) (v : V) (F : Hp), rl X.K X.mg t y [v] F → (pay y).is v)
    (hdb : (x == ("__debug__" : Str)) = false) (hs : starEach [e] X.env = (false, eval e X.env) :: starEach [] X.env) (hpl : (backTo cpos (starEach [] X.env)).any (·.1) = false) :
    BS X W hk Γ (.Raise (some (.Call (.Name x p) [e] [] cpos)) none pos :: rest) (me >>= fun z => .ex ⟨x, f, pay z⟩) I :=
  pss_imp (pss_cons (ps_raise hc tk (pmk_sup T S hr hg hm hms (pa_cons he pa_nil hs) hdb hs hpl)) pss_never) fun D σ H ⟨E, F, h, g, q⟩ => by
    obtain ⟨G, g1, g2, g3⟩ := g.look vw
    refine ⟨G, g1, g2, q.bind.post g (fun F' H' x => let ⟨F2, a, _, b⟩ := g3 F' H' x; ⟨F2, a, b⟩) fun z pz v F' H' ex rr => ?_⟩
    obtain ⟨F2, x2, back, _⟩ := g3 F' H' ex
    refine ⟨v, rfl, fun dx hdx => ?_⟩
    have r2 : rl X.K X.mg t z [v] F2 := back z v rr
    have pz : ∀ cls d σ F H, Ext E.F0 E.B F H → (∀ i ∈ E.hk, σ[i]? = E.s0[i]?) → xr X.mg ⟨x, f, pay z⟩ cls d F → W cls d σ H := pz
    refine pz (.ref C) (some dx) σ (upd F2 dx (.xd [(f, v)])) (upd H' dx (.xd [(f, v)])) ((g.e0.trans x2).trans (Ext.new x2.i hdx)) g.kp ⟨C, hm, rfl, ?_⟩
    have hv := hp z v F2 r2
    show match pay z with
      | .n => (some dx) = none
      | .i n => ∃ d, some dx = some d ∧ upd F2 dx (.xd [(f, v)]) d = some (.xd [(f, .int n)])
      | .s n => ∃ d, some dx = some d ∧ upd F2 dx (.xd [(f, v)]) d = some (.xd [(f, .str n)])
    cases hpz : pay z with
    | n => rw [hpz] at hv; exact hv.elim
    | i n => rw [hpz] at hv; rw [show v = .int n from hv]; exact ⟨dx, rfl, upd_same⟩
    | s n => rw [hpz] at hv; rw [show v = .str n from hv]; exact ⟨dx, rfl, upd_same⟩
end
/-! ## the class's facts as a test -/
theorem supCls_ok {K : PySem.W.Frag} {C : Addr} (h : supCls K C = true) : ∃ nm q N bs bm sn sub ab col dd k0 k1 k2 k3 k5, K.lookup C = some (excClassObj nm q C N bs bm true sn sub ab col dd k0 k1 k2 k3 k5 "ValueError.__new__") ∧ PySem.HandSPX.refsVE bm = true ∧ PySem.W.alongIn K "__init__" bm = some (some (.builtin "ValueError.__init__")) := by
  unfold supCls at h
  split at h
  · rename_i oc dd cd sl ho
    split at h
    · rename_i C' bm k0 k1 k2 k3 n k5 hm hs
      simp only [Bool.and_eq_true, decide_eq_true_eq, Bool.not_eq_true'] at h
      obtain ⟨rfl, rfl, hd, hdel, rfl, hv, ha⟩ := h
      obtain ⟨nm, bs, mro, ns, qn, hdd, sn, sub, ab, col, del⟩ := cd
      dsimp only at hm hd hdel
      subst hm hd hdel
      have hsl : sl = #[k0, k1, k2, k3, some (.builtin "ValueError.__new__"), k5] := by
        obtain ⟨l⟩ := sl
        simp only at hs
        rw [hs]
      subst hsl
      exact ⟨nm, qn, ns, bs, bm, sn, sub, ab, col, dd, k0, k1, k2, k3, k5, ho, hv, ha⟩
    · cases h
  · cases h
theorem fSup_ok {P : Program} {C f par : Str} {K : PySem.W.Frag} {d : Df} (h : fSup P C f K = true) (hd : fnAt K (d.loc K) = d.want ∧ d.good K = true) (hl : d.loc K = methAt K C "__init__") (hcl : d.cl = [("__class__" : Str)]) (hdf : d.dfl K = []) :
    SupK P K (He.ga K C) (methAt K C "__init__") (cellAt K (methAt K C "__init__")) (codeAt K (methAt K C "__init__")) d.name d.qual par f d.params d.body d.scope := by
  unfold fSup at h
  simp only [Bool.and_eq_true, decide_eq_true_eq, Bool.not_eq_true'] at h
  obtain ⟨h1, h2, h3, h4, h5, h6, h7, h8, h9, h10, h11, h12, h13, h14, h15⟩ := h
  obtain ⟨e, gd⟩ := hd
  rw [hl] at e
  unfold Df.good at gd
  rw [Bool.and_eq_true, hl] at gd
  obtain ⟨_, gd⟩ := gd
  have key : (∃ oc od kV doc pm an ct osl, K.lookup (methAt K C "__init__") = some ⟨oc, od, .func (PySem.W.fnX d.name d.qual d.params d.body d.scope [("__class__", cellAt K (methAt K C "__init__"))] .none kV doc pm an (.ref (codeAt K (methAt K C "__init__"))) ct), osl⟩) ∧ PySem.W.codeIn K (.ref (codeAt K (methAt K C "__init__"))) d.qual = true := by
    generalize hce : cellAt K (methAt K C "__init__") = ce
    generalize hco : codeAt K (methAt K C "__init__") = co
    unfold cellAt at hce
    unfold codeAt at hco
    unfold codeB at h12
    unfold fnAt Df.want at e
    cases hq : K.lookup (methAt K C "__init__") with
    | none => rw [hq] at gd; cases gd
    | some ob =>
      obtain ⟨oc, od, dt, sl⟩ := ob
      rw [hq] at gd e hce hco h12
      cases dt with
      | func q =>
        have gd : (PySem.W.codeIn K q.code d.qual && (He.dflB K q.defaults (d.dfl K) && He.kwdB K q.kwdefaults (d.kwd K))) = true := gd
        rw [Bool.and_eq_true] at gd
        obtain ⟨n1, n2, n3, n4, n5, n6, n7, n8, n9, n10, n11, n12, n13, n14, n15⟩ := q
        have e : (some (n1, n2, n3, n4, n5, n6, n7.map (·.1), n15) : FnX) = some (d.name, d.qual, d.params, .stmts d.body, d.scope, mainGlobals, d.cl, builtinsNs) := e
        have e := Option.some.inj e
        simp only [Prod.mk.injEq] at e
        obtain ⟨e1, e2, e3, e4, e5, e6, e7, e8⟩ := e
        rw [hcl] at e7
        subst e1 e2 e3 e4 e5 e6 e8
        cases n7 with
        | nil => cases e7
        | cons pr rs =>
          cases rs with
          | cons _ _ => cases (List.cons.inj e7).2
          | nil =>
            obtain ⟨cn, cv⟩ := pr
            have ecn : cn = ("__class__" : Str) := (List.cons.inj e7).1
            subst ecn
            have ec : cv = ce := hce
            subst ec
            cases n13 with
            | ref a =>
              have ea : a = co := hco
              subst ea
              rw [Bool.and_eq_true] at gd
              have hd0 := He.dflB_ok gd.2.1
              rw [hdf] at hd0
              rcases hd0 with ⟨_, e8⟩ | ⟨e8, _⟩
              · subst e8; exact ⟨⟨oc, od, n9, n10, n11, n12, n14, sl, rfl⟩, gd.1⟩
              · exact absurd rfl e8
            | _ => cases h12
      | _ => cases gd
  refine ⟨supCls_ok h1, h2, h3, h4, h5, h6, h7, h8, h9, h10, h11, key.1, key.2, ?_, ?_, h15⟩
  · split at h13
    · rename_i ccl cdd vs ccs ho
      split at h13
      · rename_i file tf hv
        exact ⟨ccl, cdd, vs, ccs, file, tf, ho, hv, h13⟩
      · cases h13
    · cases h13
  · split at h14
    · rename_i cl cld D csl ho
      have := of_decide_eq_true h14
      subst this
      exact ⟨cl, cld, csl, ho⟩
    · cases h14
end Gm
set_option Elab.async false
set_option linter.all false
set_option maxRecDepth 100000
set_option maxHeartbeats 4000000
namespace Gm
open PySem PySem.Spec L2
/-! ## try: A; except C as e: B -/
def tryA {α : Type} (l : List (Str × Bool)) (c : Str) (m : Mx α) (h : Exn → Mx α) : Mx α := match m with
  | .ok a => .ok a
  | .ex e => (match subs l e.c with
    | some true => if e.c = c then h e else .no
    | some false => .ex e
    | none => .no)
  | .no => .no
def payI (f : Str) (z : Exn) : Mx Int := match z.p with
  | .i n => if z.f = f then .ok n else .no
  | _ => .no
def payS (f : Str) (z : Exn) : Mx Str := match z.p with
  | .s n => if z.f = f then .ok n else .no
  | _ => .no
/-- the dict of the caught exception -/
def PF (z : Exn) (d : Option Addr) (dx : Addr) : Prop := match z.p with
  | .n => d = none
  | _ => d = some dx
section
variable {X : Cx} {W : WX} {hk : List Nat} {Γ Γ' Γv : Ctx} {st : Stmt} {rest body suite : List Stmt} {b0 : Stmt} {e : Expr} {pos p np pos' : Pos} {β : Type} {I : β → Out} {c x n : Str} {C : Addr} {t : Ty} {k i : Nat}
theorem SG.unset {K : PySem.W.Frag} {mg : Str → Option Value} {E : Ent} {σ : L2.St} {F H : Hp} (g : SG K mg E Γ σ F H) (hi : Γ[i]? = some .no) (hk : i ∉ E.hk) : SG K mg E Γ (σ.set i none) F H := by
  obtain ⟨e0, kp, fps, w⟩ := g
  have hl : i < Γ.length := (List.getElem?_eq_some_iff.mp hi).1
  have hs : Γ.set i .no = Γ := by
    apply List.ext_getElem?
    intro j
    by_cases hj : j = i
    · subst hj; rw [List.getElem?_set_self hl, hi]
    · rw [List.getElem?_set_ne (Ne.symm hj)]
  have kp' : ∀ j ∈ E.hk, (σ.set i none)[j]? = E.s0[j]? := fun j hj => by
    rw [List.getElem?_set_ne (show i ≠ j from fun z => hk (by rw [z]; exact hj))]; exact kp j hj
  have w2 := w.put (s := .no) (ov := none) (fp := []) hl rfl List.nodup_nil (fun _ _ a ha => nomatch ha) (fun a ha => nomatch ha)
  rw [hs] at w2
  exact ⟨e0, kp', _, w2⟩
theorem s1_tryA {l : List (Str × Bool)} {mb : Mx β} {h : Exn → Mx β} (js : List Nat) (hs : X.stack = X.env :: X.outer) (hf : X.env.frame = some X.env.locals) (hN : X.N.Nodup) (hi : X.N[i]? = some n) (hln : X.env.kindOf n = some .local) (hn : Names X c (.ref C)) (tk : Takes X W) (hno : Ctx.noOwn Γ = true) (hjs0 : ∀ j ∈ hk, j ∈ js) (hlast0 : js.contains (Γ.length - 1) = true) (hsub : SubOk X l C)
    (hm : X.mg c = some (.ref C)) (hil : Nat.ble (i + 1) Γ.length = true) (hik : hk.contains i = false)
    (hI : ∀ b Γ1, (I b = .nx Γ1 ∨ I b = .bk Γ1 ∨ I b = .ct Γ1) → Γ1[i]? = some .no)
    (hb : ∀ (W' : WX) (pn : List (Addr × Obj)) (xe : Value → Shared → Prop), Takes (X.tr pn xe) W' → PassesOwn (model X.prog X.w) X.A X.env xe → BS (X.tr pn xe) W' js Γ body mb I)
    (hh : ∀ (a : Addr) (oe : Obj) (d : Option Addr) (dx : Addr) (pn : List (Addr × Obj)) (z : Exn), Zc (.ref C) d oe → (∃ vs, oe.data = .fields vs) → PF z d dx → BS (X.suite a ((a, oe) :: pn)) W hk ((kept Γ js 0).set i (.d .exn (a, dx, z))) (b0 :: suite) (h z) I) :
    S1 X W hk Γ (.Try body [.ExceptHandler (some (.Name c np)) (some n) (b0 :: suite) pos'] [] [] pos) (tryA l c mb h) I :=
  ps_imp (ps_try_as (Wout := W) (c := .ref C) (i := i) (tb := fun W' => tS X.K X.mg W' js Γ mb I) (ts := fun a cls d => fun D σ H => ∃ z dx, (cls = .ref C ∧ PF z d dx) ∧ tS X.K X.mg W hk ((kept Γ js 0).set i (.d .exn (a, dx, z))) (h z) I D σ H) hs hf hN hi hln hn tk (fun W' pn xe t p => hb W' pn xe t p)
    (fun a oe cls d pn hz hv => ⟨fun pins s σ H D J ⟨z, dx, ⟨e1, e2⟩, q⟩ => by subst e1; exact (hh a oe d dx pn z hz hv e2).run pins s σ H D J q⟩)) fun D σ H ⟨E, F, h0, g, q⟩ => by
    have hjs := hjs0
    have hlast : Γ.length - 1 ∈ js := List.contains_iff_mem.mp hlast0
    have gd := g.sdn hno
    have hik' : i ∉ E.hk := by rw [h0]; exact fun z => by rw [List.contains_iff_mem.mpr z] at hik; cases hik
    refine ⟨⟨F, H, js, σ⟩, F, rfl, sg_data (Ext.refl g.e0.i) (fun _ _ => rfl) hno gd, ?_⟩
    have up : ∀ (Γ1 : Ctx) (σ' : L2.St) (F' H' : Hp), SG X.K X.mg ⟨F, H, js, σ⟩ Γ1 σ' F' H' → SG X.K X.mg E Γ1 σ' F' H' := fun Γ1 σ' F' H' s => by
      obtain ⟨e1, k1, fps, w⟩ := s
      refine ⟨g.e0.trans e1, fun i hi => (k1 i (hjs i (by rw [← h0]; exact hi))).trans (g.kp i hi), fps, w.at_, w.out, w.nd, w.sep, fun i a ha => ⟨(w.new i a ha).1, ?_⟩⟩
      cases eb : E.B a with
      | none => rfl
      | some o => have := g.e0.h _ _ eb; rw [show H a = none from (w.new i a ha).2] at this; cases this
    cases hmb : mb with
    | no => rw [hmb] at q; exact q
    | ok b =>
      rw [hmb] at q
      have q : outP X.K X.mg E D (I b) := q
      show outP X.K X.mg ⟨F, H, js, σ⟩ D (I b)
      cases ei : I b with
      | nx Γ1 => rw [ei] at q; exact fun σ' F' H' s => q σ' F' H' (up _ _ _ _ s)
      | bk Γ1 => rw [ei] at q; exact fun σ' F' H' s => q σ' F' H' (up _ _ _ _ s)
      | ct Γ1 => rw [ei] at q; exact fun σ' F' H' s => q σ' F' H' (up _ _ _ _ s)
      | rt r y => rw [ei] at q; exact fun v F' H' x rr => q v F' H' (g.e0.trans x) (rtr_pre g.e0.h rr)
      | rs t y o2 x2 => rw [ei] at q; exact fun v Γ1 σ' F' H' e0 s rr => q v Γ1 σ' F' H' e0 (up _ _ _ _ s) rr
    | ex z =>
      rw [hmb] at q
      intro cls d σ' F' H' x kp xz
      obtain ⟨Dz, m1, rfl, m2⟩ := id xz
      unfold tryA at q
      simp only at q
      cases eb : subs l z.c with
      | none => rw [eb] at q; exact q.elim
      | some b =>
        rw [eb] at q
        have hin : (z.c, b) ∈ l := lookup_in eb
        obtain ⟨D1, m3, m4⟩ := hsub _ _ hin
        rw [m1] at m3; cases m3
        refine ⟨b, m4, fun hb2 a _ => ?_, fun hb2 => ?_⟩
        · subst hb2
          have q : postS X.mg W E (if z.c = c then h z else .no) (fun b => outP X.K X.mg E D (I b)) := q
          by_cases hzc : z.c = c
          · rw [if_pos hzc] at q
            have eC : Dz = C := by rw [hzc, hm] at m1; cases m1; rfl
            subst eC
            obtain ⟨dx, hpf, hat⟩ : ∃ dx, PF z d dx ∧ z.at_ F' dx := by
              unfold PF Exn.at_
              cases hp : z.p with
              | n => rw [hp] at m2; exact ⟨0, m2, True.intro⟩
              | i n => rw [hp] at m2; obtain ⟨dx, e1, e2⟩ := m2; exact ⟨dx, e1, e2⟩
              | s n => rw [hp] at m2; obtain ⟨dx, e1, e2⟩ := m2; exact ⟨dx, e1, e2⟩
            refine ⟨z, dx, ⟨rfl, hpf⟩, E, F', h0, ?_, q.mono fun b qb => ?_⟩
            · have hno2 : Ctx.noOwn ((kept Γ js 0).set i (.d .exn (a, dx, z))) = true := by
                unfold Ctx.noOwn
                rw [List.all_eq_true]
                intro s hs
                rcases List.mem_or_eq_of_mem_set hs with h1 | h1
                · have := noOwn_kept (js := js) (n := 0) hno
                  unfold Ctx.noOwn at this
                  exact List.all_eq_true.mp this s h1
                · subst h1; rfl
              refine sg_data (g.e0.trans x) (fun j hj => ?_) hno2 fun j s e => ?_
              · rw [List.getElem?_set_ne (show i ≠ j from fun z => hik' (by rw [z]; exact hj))]
                exact (kp j (hjs j (by rw [← h0]; exact hj))).trans (g.kp j hj)
              · have hll : Γ.length ≤ σ'.length := by
                  obtain ⟨ov2, e2, _⟩ := gd (Γ.length - 1) _ (List.getElem?_eq_getElem (by have := Nat.le_of_ble_eq_true hil; omega))
                  have e3 := (kp (Γ.length - 1) hlast).trans e2
                  have := (List.getElem?_eq_some_iff.mp e3).1
                  omega
                have hil' : i < σ'.length := by have := Nat.le_of_ble_eq_true hil; omega
                by_cases hj : j = i
                · subst hj
                  have hkl : j < (kept Γ js 0).length := by
                    have := (List.getElem?_eq_some_iff.mp e).1
                    rwa [List.length_set] at this
                  rw [List.getElem?_set_self hkl] at e
                  cases e
                  exact ⟨some (.ref a), List.getElem?_set_self hil', .ref a, rfl, rfl, hat⟩
                · rw [List.getElem?_set_ne (Ne.symm hj)] at e
                  rw [List.getElem?_set_ne (Ne.symm hj)]
                  obtain ⟨u, h1, h2⟩ := kept_get e
                  obtain ⟨ov, e1, r⟩ := gd j u h1
                  rcases h2 with rfl | ⟨rfl, hjj⟩
                  · have hi : j < Γ.length := (List.getElem?_eq_some_iff.mp h1).1
                    exact ⟨_, List.getElem?_eq_getElem (by omega), True.intro⟩
                  · rw [Nat.zero_add] at hjj
                    exact ⟨ov, (kp j hjj).trans e1, sd_mono x.f r⟩
            · cases ei : I b with
              | nx Γ1 => rw [ei] at qb; exact fun σ' F' H' s => qb (σ'.set i none) F' H' (s.unset (hI b Γ1 (.inl ei)) hik')
              | bk Γ1 => rw [ei] at qb; exact fun σ' F' H' s => qb (σ'.set i none) F' H' (s.unset (hI b Γ1 (.inr (.inl ei))) hik')
              | ct Γ1 => rw [ei] at qb; exact fun σ' F' H' s => qb (σ'.set i none) F' H' (s.unset (hI b Γ1 (.inr (.inr ei))) hik')
              | rt r y => rw [ei] at qb; exact qb
              | rs t y o2 x2 => rw [ei] at qb; exact qb
          · rw [if_neg hzc] at q; exact q.elim
        · subst hb2
          exact q (.ref Dz) d σ' F' H' (g.e0.trans x) (fun i hi => (kp i (hjs i (by rw [← h0]; exact hi))).trans (g.kp i hi)) xz
end
end Gm
set_option Elab.async false
set_option linter.all false
set_option maxRecDepth 100000
set_option maxHeartbeats 4000000
namespace Gm
open PySem PySem.Spec PySem.W PySem.Calls PyProof.Rows
section
variable {prog : Program} {w : World} {A : Around} {E : Value → Shared → Prop} {s : Shared} {K : Frag} {x D : Addr} {ox : Obj} {od : Option Obj}
theorem findObj_dat {C : Addr} {name : Str} {a g : Value} (hc : (clsIn K C).isSome = true) (ha : findIn K (.ref C) name = some (some a)) (hg : specialIn K a "__get__" = some (some g)) (ht : takesIn K a = some true) : findObj K C od name = some (.bind g a) := by
  obtain ⟨cd, hc⟩ := Option.isSome_iff_exists.mp hc
  unfold findObj
  rw [hc, Option.bind_some, ha, Option.bind_some]
  simp [hg, ht]
theorem exc_class {Q : Option Value → Shared → Prop} (T : L2.ExcC K D) (X : K.In s.heap) (I : InstAt s.heap x ox D od) (h : Q (some (.ref D)) { s with toks := s.toks + 1 }) : wpAny (model prog w) A (getAttr? (.ref x) "__class__") Q E s := by
  have hf : findObj K D od "__class__" = some (.bind (.builtin "getset_descriptor.__get__") (.builtin "object.__class__")) := findObj_dat (by obtain ⟨cd, hc, _⟩ := any_some T.hd; rw [hc]; rfl) T.ha T.hn T.ht
  obtain ⟨hp, g, d, t, os⟩ := s
  have L0 := I.type (M := model prog w)
  have L1 := looks_findIn (M := model prog w) X T.hg
  have L2 := looks_findIn (M := model prog w) X T.hk
  have L3 := looks_find (M := model prog w) X I hf
  have sub : Looks (model prog w) hp (isInstance (.ref x) (.type "BaseException")) true := L0.andThen (looks_subIn X T.hs)
  have hx0 : (false && onTheHeap (Value.builtin "BaseException.__getattribute__")) = false := rfl
  have hx2 : (Value.builtin "BaseException.__getattribute__" == Value.builtin "object.__getattribute__") = false := by decide +kernel
  have hx1 : (onTheHeap (Value.ref D) && Value.builtin "BaseException.__getattribute__" == Value.builtin "object.__getattribute__") = false := by rw [hx2]; rfl
  unfold getAttr? getAttrBy? getAttrBy
  refine wpAny_bind (wpAny_mkText (wpAny_bind (wpAny_attempt (wpAny_holding (wpAny_bind (L0.at (wpAny_bind (L1.at ?_))))))))
  show wpAny _ _ (if (onTheHeap (Value.ref D) && Value.builtin "BaseException.__getattribute__" == Value.builtin "object.__getattribute__") = true then _ else _) _ _ _
  rw [hx1, if_neg Bool.false_ne_true]
  unfold getAttrByItsOwn hookBefore
  refine wpAny_bind ?_
  rw [if_pos (show onTheHeap (Value.ref D) = true from rfl)]
  refine L2.at ?_
  refine wpAny_bind (wpAny_attempt (wpAny_holding ?_))
  unfold callGetattribute
  rw [hx0, if_neg Bool.false_ne_true]
  unfold boundAndCalled
  rw [PySem.F.excAttr_ValueError.ga.bind (.ref x)]
  refine wpAny_bind (wpAny_pure ?_)
  show wpAny _ _ (call (.builtin "BaseException.__getattribute__") [.ref x, .str "__class__" t]) _ _ _
  refine wpAny_call (codeAny_call_builtin PySem.F.excAttr_ValueError.ga.plain PySem.F.entry_bexc_ga ?_)
  refine @check_slot (model prog w) _ _ ⟨hp, g, d, t + 1, os⟩ "BaseException.__getattribute__" "BaseException" "__getattribute__" (.ref x) [.str "__class__" t] [] _ (by decide +kernel) (by decide +kernel) sub (PySem.F.args_bexc_ga (.ref x) (.str "__class__" t)) ?_
  unfold Builtin.«object.__getattribute__»
  refine wpAny_bind (wpAny_of_eq (a := ((Value.ref x : Value), [Value.str "__class__" t])) (by first | rfl | (simp only [slotArgs]; rfl)) ?_)
  refine wpAny_bind (wpAny_pure (wpAny_bind (L0.at (wpAny_bind (L3.at ?_)))))
  show wpAny _ _ (holding [Value.builtin "object.__class__"] (call (.builtin "getset_descriptor.__get__") [.builtin "object.__class__", .ref x, .ref D]) >>= ret) _ _ _
  refine wpAny_bind (wpAny_holding (wpAny_call (class_get (s := ⟨hp, g, d, t + 1, os⟩) (ox := ox) (od := od) X I T.hm ?_)))
  refine wpAny_pure ?_
  show wpAny _ _ (handedOut (.ref D)) _ _ _
  rw [handedOut_of (v := .ref D) rfl]
  first
    | exact wpAny_pure (wpAny_pure h)
    | exact wpAny_pure h
    | exact wpAny_pure (wpAny_bind (wpAny_pure (wpAny_pure h)))
theorem kitx_e (T : L2.ExcC K D) : KitX K (.ref x) (.ref D) (fun h => InstAt h x ox D od) where
  ty := fun _ _ _ I => I.type
  it := fun _ _ X _ => by
    obtain ⟨cdD, hcD, _⟩ := any_some T.hd
    unfold clsIn at hcD
    split at hcD
    · rename_i c' d' cd' sl' ho
      intro A' Q' E' s' k q
      unfold isType loadHead
      exact wpAny_bind (wpAny_loadPart (k _ _ (X _ _ ho)) (wpAny_pure q))
    · cases hcD
  ne := fun h tp dd its n sl X htp => by
    obtain ⟨cdD, hcD, _⟩ := any_some T.hd
    refine Bool.eq_false_iff.mpr fun q => ?_
    have e : D = tp := Value.ref.inj (beq_iff_eq.mp q)
    subst e
    unfold clsIn at hcD
    split at hcD
    · rename_i c' d' cd' sl' ho
      have z := (X _ _ ho).symm.trans htp
      cases z
    · cases hcD
  ca := fun X I k => exc_class T X I k
end
open L2
/-- the caught exception stands so -/
theorem inst_of {X : Cx} {pins : List (Addr × Obj)} {σ : L2.St} {H F : Hp} {s : Shared} {a C dx : Addr} {oe : Obj} {d : Option Addr} {pn : List (Addr × Obj)} {z : Exn} (I : Inv (X.suite a ((a, oe) :: pn)) pins σ H s) (hz : Zc (.ref C) d oe) (hf : ∃ vs, oe.data = .fields vs) (hd : PF z d dx) (hs : Same F H) (hat : z.at_ F dx) : ∃ od, PySem.W.InstAt s.heap a oe C od := by
  obtain ⟨ha, _⟩ := I.pin (a, oe) (List.mem_append_left _ List.mem_cons_self)
  obtain ⟨vs, hv⟩ := hf
  have nc : PySem.W.notCls oe := by unfold PySem.W.notCls; rw [hv] <;> rfl
  have look : ∀ fs, F dx = some (.xd fs) → d = some dx → ∃ od, PySem.W.InstAt s.heap a oe C od := fun fs e hd2 => by
    have hx : ObjOk X.prog X.w H s.heap dx (.xd fs) := I.hok dx _ (hs _ _ e)
    obtain ⟨mA, hns, hr⟩ := hx
    obtain ⟨od, ho, hl⟩ := lookIn_ns hns
    exact ⟨some od, ha, hz.1, nc, by rw [hz.2, hd2]; exact ho⟩
  unfold PF at hd
  unfold Exn.at_ at hat
  cases hp : z.p with
  | n => rw [hp] at hd; exact ⟨none, ha, hz.1, nc, by rw [hz.2, show d = none from hd]; exact True.intro⟩
  | i n => rw [hp] at hd hat; exact look _ hat hd
  | s n => rw [hp] at hd hat; exact look _ hat hd
section
variable {X : Cx} {W : WX} {Γ : Ctx} {a C dx : Addr} {oe : Obj} {d : Option Addr} {pn : List (Addr × Obj)} {z : Exn} {e : Expr} {pos q q2 : Pos} {n f : Str}
/-- isinstance(e, T) of the caught exception -/
theorem e_isE {cv : Value} {c : V} {b : Bool} (T : ExcC X.K C) (hz : Zc (.ref C) d oe) (hf : ∃ vs, oe.data = .fields vs) (hd : PF z d dx) (he : EM (X.suite a ((a, oe) :: pn)) W Γ e .exn (.ok (a, dx, z))) (hg : Gl X "isinstance") (hm : X.mg "isinstance" = none)
    (hn : PE (X.suite a ((a, oe) :: pn)) (.Name n q2) (tC c)) (hcv : ∀ u, RelV c u → u = cv) (hk : PySem.W.kitOne X.K (.ref C) cv = some b) (hs : starEach [e, .Name n q2] X.env = (false, eval e X.env) :: starEach [.Name n q2] X.env := by rfl) :
    EM (X.suite a ((a, oe) :: pn)) W Γ (.Call (.Name "isinstance" q) [e, .Name n q2] [] pos) .bool (.ok b) :=
  pe_imp (pe_callB (X := X.suite a ((a, oe) :: pn)) (r := fun xs H Q => ∃ F, Same F H ∧ z.at_ F dx ∧ xs = [.ref a, c] ∧ Q (.bl b) H) (fun pins s σ H xs us Q I r h => by
      obtain ⟨F, sF, hat, rfl, q⟩ := h
      obtain ⟨od, J⟩ := inst_of I hz hf hd sF hat
      cases r with
      | cons rx rr =>
        cases rr with
        | cons rt rr =>
          cases rr
          cases rx
          have ec := hcv _ rt
          subst ec
          exact PySem.W.kia_one (kitx_e T) I.kIn J hk (fun z => nomatch z) fun tk => ⟨.bl b, H, I.kept (t' := tk) fun _ _ z => z, rfl, q⟩) hg hm (by decide +kernel) (pa_cons he (pa_cons hn pa_nil) hs) (he := hs)) fun σ H Q ⟨F, s, d', pp⟩ =>
    ⟨F, s, d', fun v F1 H1 e1 r1 => by
      have r1 : [v] = [V.ref a] ∧ z.at_ F1 dx := r1
      cases (List.cons.inj r1.1).1
      exact ⟨F1, e1.i, r1.2, rfl, pp (.bl b) F1 H1 e1 rfl⟩⟩
/-- e.f of the caught exception -/
theorem e_xfI (T : XfC X.K C) (hno : PySem.W.findIn X.K (.ref C) f = some none) (hz : Zc (.ref C) d oe) (hf : ∃ vs, oe.data = .fields vs) (hd : PF z d dx) (he : EM (X.suite a ((a, oe) :: pn)) W Γ e .exn (.ok (a, dx, z))) (hb : attributeBase e f X.env (eval e X.env) = eval e X.env := by rfl) :
    EM (X.suite a ((a, oe) :: pn)) W Γ (.Attribute e f pos) .int (payI f z) :=
  pe_imp (pe_xf T hno hz hf he hb) fun σ H Q ⟨F, s, d', pp⟩ => ⟨F, s, d', fun v F1 H1 e1 r1 => by
    have r1 : [v] = [V.ref a] ∧ z.at_ F1 dx := r1
    cases (List.cons.inj r1.1).1
    have hat := r1.2
    refine ⟨rfl, rfl, ?_⟩
    unfold payI at pp
    unfold Exn.at_ at hat
    unfold PF at hd
    cases hp : z.p with
    | n => rw [hp] at pp; exact pp.elim
    | s n => rw [hp] at pp; exact pp.elim
    | i n =>
      rw [hp] at pp hat hd
      have pp : post X.mg W σ (if z.f = f then Mx.ok n else .no) F H fun x => ∀ v F' H', Ext F H F' H' → rtr X.K X.mg (.d .int) x v H F' H' → Q v H' := pp
      by_cases hzf : z.f = f
      · rw [if_pos hzf] at pp
        exact ⟨dx, _, .int n, hd, e1.i _ _ hat, by rw [hzf]; simp, pp (.int n) F1 H1 e1 rfl⟩
      · rw [if_neg hzf] at pp; exact pp.elim⟩
theorem e_xfS (T : XfC X.K C) (hno : PySem.W.findIn X.K (.ref C) f = some none) (hz : Zc (.ref C) d oe) (hf : ∃ vs, oe.data = .fields vs) (hd : PF z d dx) (he : EM (X.suite a ((a, oe) :: pn)) W Γ e .exn (.ok (a, dx, z))) (hb : attributeBase e f X.env (eval e X.env) = eval e X.env := by rfl) :
    EM (X.suite a ((a, oe) :: pn)) W Γ (.Attribute e f pos) .str (payS f z) :=
  pe_imp (pe_xf T hno hz hf he hb) fun σ H Q ⟨F, s, d', pp⟩ => ⟨F, s, d', fun v F1 H1 e1 r1 => by
    have r1 : [v] = [V.ref a] ∧ z.at_ F1 dx := r1
    cases (List.cons.inj r1.1).1
    have hat := r1.2
    refine ⟨rfl, rfl, ?_⟩
    unfold payS at pp
    unfold Exn.at_ at hat
    unfold PF at hd
    cases hp : z.p with
    | n => rw [hp] at pp; exact pp.elim
    | i n => rw [hp] at pp; exact pp.elim
    | s n =>
      rw [hp] at pp hat hd
      have pp : post X.mg W σ (if z.f = f then Mx.ok n else .no) F H fun x => ∀ v F' H', Ext F H F' H' → rtr X.K X.mg (.d .str) x v H F' H' → Q v H' := pp
      by_cases hzf : z.f = f
      · rw [if_pos hzf] at pp
        exact ⟨dx, _, .str n, hd, e1.i _ _ hat, by rw [hzf]; simp, pp (.str n) F1 H1 e1 rfl⟩
      · rw [if_neg hzf] at pp; exact pp.elim⟩
end
/-- the facts as tests -/
def fXf (C : Str) : Fact := fun K => xfB K (He.ga K C)
theorem fXf_ok {C : Str} {K : PySem.W.Frag} (h : fXf C K = true) : XfC K (He.ga K C) := xfB_ok h
def fExcC (C : Str) : Fact := fun K => decide (PySem.W.findIn K (.ref (He.ga K C)) "__getattribute__" = some (some (.builtin "BaseException.__getattribute__"))) && (decide (PySem.W.findIn K (.ref (He.ga K C)) "__getattr__" = some none) &&
  (decide (PySem.W.subIn K (.ref (He.ga K C)) (.type "BaseException") = some true) && (PySem.W.hasDictIn K (He.ga K C) && (decide (PySem.W.findIn K (.ref (He.ga K C)) "__class__" = some (some (.builtin "object.__class__"))) &&
  (decide (PySem.W.specialIn K (.builtin "object.__class__") "__get__" = some (some (.builtin "getset_descriptor.__get__"))) && (decide (PySem.W.takesIn K (.builtin "object.__class__") = some true) && decide (PySem.W.mroIn K (He.ga K C) (.type "object") = some true)))))))
theorem fExcC_ok {C : Str} {K : PySem.W.Frag} (h : fExcC C K = true) : ExcC K (He.ga K C) := by
  unfold fExcC at h
  simp only [Bool.and_eq_true, decide_eq_true_eq] at h
  obtain ⟨h1, h2, h3, h4, h5, h6, h7, h8⟩ := h
  exact ⟨h1, h2, h3, h4, h5, h6, h7, h8⟩
def fKit (C D : Str) (b : Bool) : Fact := fun K => decide (PySem.W.kitOne K (.ref (He.ga K C)) (.ref (He.ga K D)) = some b)
def fKitB (C : Str) (D : String) (b : Bool) : Fact := fun K => decide (PySem.W.kitOne K (.ref (He.ga K C)) (.type D) = some b)
def fNoF (C f : Str) : Fact := fun K => decide (PySem.W.findIn K (.ref (He.ga K C)) f = some none)
end Gm
set_option Elab.async false
set_option linter.all false
set_option maxRecDepth 100000
set_option maxHeartbeats 4000000
namespace Gm
open PySem PySem.Spec L2
/-! ## tuple * int, any int -/
theorem tuple_mul1 (l : Addr) (items : Array Value) (n : Nat) (dd : Option Addr) (sl : Array (Option Value)) (u : Tok) :
    Meets (Builtin.«tuple.__mul__» ⟨[.ref l, .int 1 u], []⟩) (fun _ R s => s.heap.get? l = some { cls := .type "tuple", dict := dd, data := .seq items n, slots := sl } ∧ R (.ok (.ret (Value.ref l))) s) :=
  .of_wp fun prog w A R s h => by
    obtain ⟨hp, g, d, tk, os⟩ := s
    obtain ⟨hl, h⟩ := h
    have f1 := AutoSeq1.idx_int
    wp_walk using wpAny_loadPart' hl
    repeat (first
      | (refine wpAny_ite_false (decide_eq_false (by decide)) ?_; wp_walk using wpAny_loadPart' hl)
      | (refine wpAny_ite_true (decide_eq_true (by rw [show ((1 : Int) == 1) = true from rfl, Bool.or_true])) ?_; wp_walk using wpAny_loadPart' hl))
    all_goals exact ⟨_, rfl, h⟩
theorem tuple_mul0 (l : Addr) (items : Array Value) (n : Nat) (dd : Option Addr) (sl : Array (Option Value)) (x : Int) (u : Tok) (c0 : (decide (x < -(2 ^ 63)) || decide (x ≥ 2 ^ 63)) = false) (c1 : (items.isEmpty || x == 1) = false) (c2 : (decide (x ≤ 0) || items.isEmpty) = true) :
    Meets (Builtin.«tuple.__mul__» ⟨[.ref l, .int x u], []⟩) (fun _ R s => s.heap.get? l = some { cls := .type "tuple", dict := dd, data := .seq items n, slots := sl } ∧
      R (.ok (.ret (Value.ref s.heap.objs.size))) { s with heap := s.heap.push { cls := Value.type "tuple", data := Data.seq #[] }, toks := s.toks }) :=
  .of_wp fun prog w A R s h => by
    obtain ⟨hp, g, d, tk, os⟩ := s
    obtain ⟨hl, h⟩ := h
    have f1 := AutoSeq1.idx_int
    wp_walk using wpAny_loadPart' hl
    repeat (first
      | (refine wpAny_ite_false (decide_eq_false (by rw [c0]; exact Bool.false_ne_true)) ?_; wp_walk using wpAny_loadPart' hl)
      | (refine wpAny_ite_false (decide_eq_false (by rw [c1]; exact Bool.false_ne_true)) ?_; wp_walk using wpAny_loadPart' hl)
      | (refine wpAny_ite_true (decide_eq_true c2) ?_; wp_walk using wpAny_loadPart' hl))
    all_goals exact ⟨_, rfl, h⟩
def rRepA (K : PySem.W.Frag) : R2 := fun x y H Q => ∃ l k xs, x = .ref l ∧ y = .int k ∧ SqT K H l xs ∧ xs ≠ [] ∧ -1000 ≤ k ∧ k ≤ 1000 ∧ xs.length ≤ 1000 ∧ (k = 1 → Q (.ref l) H) ∧ (k ≠ 1 → ∀ p, H p = none → Q (.ref p) (upd H p (.tup (List.replicate k.toNat xs).flatten)))
theorem op_repA {X : Cx} : OpR X (binaryOp .Mult) (rRepA X.K) := by
  intro pins s σ H x y v u Q I rx ry h
  obtain ⟨l, k, xs, ex, ey, hT, hne, h0, h2, hz, q1, q2⟩ := h
  by_cases hk : 2 ≤ k
  · exact op_repT pins s σ H x y v u Q I rx ry ⟨l, k, xs, ex, ey, hT, hne, hk, h2, hz, q2 (by omega)⟩
  subst ex ey
  cases rx
  obtain ⟨t, rfl⟩ := ry
  obtain ⟨its, r, ⟨⟨cls, dd, data, sl⟩, ho, hc, n, hd⟩, hs⟩ := I.tuple hT
  simp only at hc hd
  subst hc hd
  have hle : its.length = xs.length := r.length.symm
  have hn : its ≠ [] := fun e => hne (by
    rw [e] at hle
    exact List.eq_nil_of_length_eq_zero hle.symm)
  have hi : its.toArray.isEmpty = false := by
    cases its with
    | nil => exact absurd rfl hn
    | cons a b => rfl
  by_cases h1 : k = 1
  · subst h1
    refine PySem.wpAny_binaryOp_repeat_ref (T := "tuple") (U := "int") (by decide) ⟨_, ho, rfl⟩ (fun s' => typeIs_int s' 1 t) noFill_tuple_mul F.fills_int_mul F.slot_int_rmul repeat_tuple F.slot_int_index.lookup
      (call_meets F.slot_int_rmul (typeIs_int s 1 t) F.entry_int_rmul (F.args_int_rmul_2 _ _) (int_rmul_tuple 1 t l its.toArray n dd sl)
        ⟨ho, rfl, ⟨_, ho, rfl⟩, call_meets F.slot_tuple_mul ⟨_, ho, rfl⟩ F.entry_tuple_mul (F.args_tuple_mul_2 _ _) (tuple_mul1 l its.toArray n dd sl t) ⟨ho, ?_⟩⟩)
    exact ⟨.ref l, H, I, rfl, q1 rfl⟩
  · have hk0 : k ≤ 0 := by omega
    have c0 : (decide (k < -(2 ^ 63)) || decide (k ≥ 2 ^ 63)) = false := by
      rw [decide_eq_false (by omega), decide_eq_false (by omega)] <;> rfl
    have c1 : (its.toArray.isEmpty || k == 1) = false := by
      rw [hi, Bool.false_or]
      exact beq_eq_false_iff_ne.mpr h1
    have c2 : (decide (k ≤ 0) || its.toArray.isEmpty) = true := by
      rw [decide_eq_true hk0, Bool.true_or]
    have e0 : (List.replicate k.toNat xs).flatten = [] := by
      rw [show k.toNat = 0 by omega]; rfl
    have q2' := q2 h1
    rw [e0] at q2'
    refine PySem.wpAny_binaryOp_repeat_ref (T := "tuple") (U := "int") (by decide) ⟨_, ho, rfl⟩ (fun s' => typeIs_int s' k t) noFill_tuple_mul F.fills_int_mul F.slot_int_rmul repeat_tuple F.slot_int_index.lookup
      (call_meets F.slot_int_rmul (typeIs_int s k t) F.entry_int_rmul (F.args_int_rmul_2 _ _) (int_rmul_tuple k t l its.toArray n dd sl)
        ⟨ho, rfl, ⟨_, ho, rfl⟩, call_meets F.slot_tuple_mul ⟨_, ho, rfl⟩ F.entry_tuple_mul (F.args_tuple_mul_2 _ _) (tuple_mul0 l its.toArray n dd sl k t c0 c1 c2) ⟨ho, ?_⟩⟩)
    refine ⟨.ref s.heap.objs.size, _, I.laid (t' := s.toks) (o := .tup []) (fun b ob q => Heap.get?_push_of_some _ q) (Nat.le_refl _) ?_, rfl, q2' _ (I.hok.fresh (Nat.le_refl _))⟩
    exact ⟨by rw [sizeLine_eq]; decide, [], .nil, PyProof.Rows.IsTup.new _ _⟩
theorem all2.repl {α : Type} {R : α → V → Prop} {xs : List α} {vs : List V} (h : all2 R xs vs) : ∀ n : Nat, all2 R (List.replicate n xs).flatten (List.replicate n vs).flatten
  | 0 => True.intro
  | n + 1 => by
    rw [List.replicate_succ, List.replicate_succ, List.flatten_cons, List.flatten_cons]
    exact h.app (all2.repl h n)
def repO {α : Type} (xs : List α) (k : Int) : Option (List α) := if xs ≠ [] ∧ -1000 ≤ k ∧ k ≤ 1000 ∧ xs.length ≤ 1000 then some (List.replicate k.toNat xs).flatten else none
section
variable {X : Cx} {W : WX} {Γ : Ctx} {a b c e : Expr} {pos p p2 q : Pos} {t : Ty} {F H : Hp}
theorem e_repT {m1 : Mx (List t.den)} {m2 : Mx Int} (ha : EM X W Γ a (.vtup t) m1) (hb : EM X W Γ b .int m2) : EM X W Γ (.BinOp a .Mult b pos) (.vtup t) (m1 >>= fun x => m2 >>= fun y => ofO (repO x y)) := e_bin (t1 := .vtup t) (t2 := .int) (r := .d (.vtup t)) (g := repO) op_repA (fun x y z e v w F H Q s r1 r2 k => by
  unfold repO at e
  by_cases h : x ≠ [] ∧ -1000 ≤ y ∧ y ≤ 1000 ∧ x.length ≤ 1000
  · rw [if_pos h] at e
    cases e
    obtain ⟨p, ws, e1, sq1, rr1⟩ := r1
    cases (List.cons.inj e1).1
    cases (List.cons.inj (show [w] = [V.int y] from r2)).1
    obtain ⟨h1, h2, h3, h4⟩ := h
    refine ⟨p, y, ws, rfl, rfl, sqT_same s sq1, fun e => ?_, h2, h3, by rw [← rr1.len]; exact h4, fun e => ?_, fun _ l nl => ?_⟩
    · subst e
      cases x with
      | nil => exact h1 rfl
      | cons _ _ => exact rr1.elim
    · subst e
      refine k (.ref p) F H (Ext.refl s) ⟨p, ws, rfl, sq1, ?_⟩
      rw [show (List.replicate (1 : Int).toNat x).flatten = x from by simp]
      exact rr1
    · have e2 := Ext.new (o := .tup (List.replicate y.toNat ws).flatten) s nl
      exact k (.ref l) _ _ e2 ⟨l, _, rfl, SqT.of upd_same, (rr1.repl y.toNat).imp fun y v z => rl_mono e2.f t y [v] z⟩
  · rw [if_neg h] at e; cases e) ha hb
theorem e_lenU {fs : Ty} {n : Nat} {j : Int} {q : Pos} {m : Mx fs.den} (hg : Gl X "len") (hm : X.mg "len" = none) (ha : EM X W Γ a (.tup fs) m) (hn : fs.ar = some n) (hj : (n : Int) = j) (hs : starEach [a] X.env = (false, eval a X.env) :: starEach [] X.env) : EM X W Γ (.Call (.Name "len" q) [a] [] pos) .int (m >>= fun _ => .ok j) :=
  pe_imp (pe_callB call_len_seq hg hm (by decide +kernel) (ea_one ha hs) (he := hs)) (args_of (ts := .tup fs) (r := .d .int) (k := fun _ => .ok j) fun x vs F H σ Q s r1 k => by
    subst hj
    obtain ⟨p, ws, rfl, sq, rr⟩ := r1
    exact ⟨p, ws, rfl, .inr (sqT_same s sq), k _ F H (Ext.refl s) (by show _ = _; rw [rl_ar hn rr])⟩)
end
/-! ## isinstance of an own instance -/
def fObjC (C : Str) : Fact := fun K => decide (PySem.W.findIn K (.ref (He.ga K C)) "__class__" = some (some (.builtin "object.__class__"))) && (decide (PySem.W.specialIn K (.builtin "object.__class__") "__get__" = some (some (.builtin "getset_descriptor.__get__"))) &&
  (decide (PySem.W.takesIn K (.builtin "object.__class__") = some true) && decide (PySem.W.mroIn K (He.ga K C) (.type "object") = some true)))
structure ObjC (K : PySem.W.Frag) (C : Addr) : Prop where
  ha : PySem.W.findIn K (.ref C) "__class__" = some (some (.builtin "object.__class__"))
  hn : PySem.W.specialIn K (.builtin "object.__class__") "__get__" = some (some (.builtin "getset_descriptor.__get__"))
  ht : PySem.W.takesIn K (.builtin "object.__class__") = some true
  hm : PySem.W.mroIn K C (.type "object") = some true
theorem fObjC_ok {C : Str} {K : PySem.W.Frag} (h : fObjC C K = true) : ObjC K (He.ga K C) := by
  unfold fObjC at h
  simp only [Bool.and_eq_true, decide_eq_true_eq] at h
  exact ⟨h.1, h.2.1, h.2.2.1, h.2.2.2⟩
theorem e_isiO {X : Cx} {W : WX} {Γ : Ctx} {a : Expr} {pos : Pos} {c n : Str} {ns : List Str} {fs : Ty} {C D : Addr} {q q2 : Pos} {m : Mx fs.den} {res : Bool} (hg : Gl X "isinstance") (hm : X.mg "isinstance" = none) (hc : X.mg c = some (.ref C)) (cl : Cls X.K C) (T : ObjC X.K C) (ha : EM X W Γ a (.ins c ns fs) m)
    (hn : PE X (.Name n q2) (tC (.ref D))) (hk : PySem.W.kitOne X.K (.ref C) (.ref D) = some res)
    (hs : starEach [a, .Name n q2] X.env = (false, eval a X.env) :: starEach [.Name n q2] X.env) : EM X W Γ (.Call (.Name "isinstance" q) [a, .Name n q2] [] pos) .bool (m >>= fun _ => .ok res) :=
  pe_imp (pe_callB call_isi hg hm (by decide +kernel) (pa_cons ha (pa_cons hn pa_nil) hs) (he := hs)) fun σ H Q ⟨F, s, d, p⟩ => ⟨F, s, d, p.bind.mono fun x px v F1 H1 e1 r1 => by
    obtain ⟨b, C', dx, ws, ev, mc, h1, hl, rr⟩ := id r1
    rw [hc] at mc; cases mc
    cases (List.cons.inj ev).1
    exact ⟨.ref b, .ref D, .ref C, .ref D, res, rfl, .own D, .base (.ins (e1.i _ _ h1) cl T.ha T.hn T.ht T.hm), hk, px _ F1 H1 e1 rfl⟩⟩
/-! ## a written part of a fixed tuple -/
theorem cutV_to (ws : List V) (k : Nat) : cutV ws none (some (k : Int)) = ws.take k := by
  unfold cutV
  rw [HT.sIx_none, HT.sIx_nat, List.drop_zero, Nat.sub_zero]
  by_cases h : k ≤ ws.length
  · rw [Nat.min_eq_left h]
  · rw [Nat.min_eq_right (by omega), List.take_length, List.take_of_length_le (by omega)]
theorem cutV_fr (ws : List V) (k : Nat) : cutV ws (some (k : Int)) none = ws.drop k := by
  unfold cutV
  rw [HT.sIx_none, HT.sIx_nat]
  by_cases h : k ≤ ws.length
  · rw [Nat.min_eq_left h, List.take_of_length_le (by rw [List.length_drop]; exact Nat.le_refl _)]
  · rw [Nat.min_eq_right (by omega), List.drop_of_length_le (by omega), List.drop_of_length_le (by omega)]; simp
theorem e_slU {X : Cx} {W : WX} {Γ : Ctx} {a : Expr} {pos p2 : Pos} {fs gs : Ty} {π : fs.den → gs.den} {l0 u0 : Option Int} {lo hi : Option Expr} {m1 : Mx fs.den} (ha : EM X W Γ a (.tup fs) m1) (hl : EP' X W Γ lo (.ok l0)) (hh : EP' X W Γ hi (.ok u0))
    (hP : ∀ (x : fs.den) (ws : List V) (F : Hp), rl X.K X.mg fs x ws F → rl X.K X.mg gs (π x) (cutV ws l0 u0) F) : EM X W Γ (.Subscript a (.Slice lo hi none p2) pos) (.tup gs) (m1 >>= fun x => .ok (π x)) :=
  e_cast (sl_of (t1 := .tup fs) (r := .d (.tup gs)) (k := fun x l u => if l = l0 ∧ u = u0 then .ok (π x) else .no) sl_tupA (fun x l u v F H σ Q s r1 k => by
    by_cases hc : l = l0 ∧ u = u0
    · rw [if_pos hc] at k
      obtain ⟨rfl, rfl⟩ := hc
      obtain ⟨p, ws, e, sq, rr⟩ := r1
      cases (List.cons.inj e).1
      refine ⟨p, ws, rfl, sqT_same s sq, fun hw => ?_, fun _ n nn => ?_⟩
      · refine k (.ref p) F H (Ext.refl s) ⟨p, ws, rfl, sq, ?_⟩
        have e1 : cutV ws l u = ws := by
          unfold cutV
          rw [hw.1, hw.2, List.drop_zero, Nat.sub_zero, List.take_length]
        have := hP x ws F rr
        rwa [e1] at this
      · have e2 := Ext.new (o := .tup (cutV ws l u)) s nn
        exact k (.ref n) _ _ e2 ⟨n, _, rfl, SqT.of upd_same, rl_mono e2.f gs (π x) _ (hP x ws F rr)⟩
    · rw [if_neg hc] at k; exact k.elim) ha hl hh) (by
      congr 1; funext x
      show (if l0 = l0 ∧ u0 = u0 then Mx.ok (π x) else .no) = _
      rw [if_pos ⟨rfl, rfl⟩])
/-! ## fixed tuples joined -/
theorem e_catU {X : Cx} {W : WX} {Γ : Ctx} {a b : Expr} {pos : Pos} {fs gs hs : Ty} {n k : Nat} {π : fs.den → gs.den → hs.den} {m1 : Mx fs.den} {m2 : Mx gs.den} (ha : EM X W Γ a (.tup fs) m1) (hb : EM X W Γ b (.tup gs) m2) (hn : fs.ar = some n) (hk : gs.ar = some k) (hl : Nat.ble (n + k) 1000 = true)
    (hP : ∀ (x : fs.den) (y : gs.den) (ws zs : List V) (F : Hp), rl X.K X.mg fs x ws F → rl X.K X.mg gs y zs F → rl X.K X.mg hs (π x y) (ws ++ zs) F) : EM X W Γ (.BinOp a .Add b pos) (.tup hs) (m1 >>= fun x => m2 >>= fun y => .ok (π x y)) :=
  e_cast (e_bin (t1 := .tup fs) (t2 := .tup gs) (r := .d (.tup hs)) (g := fun x y => some (π x y)) op_catA (fun x y z e v w F H Q s r1 r2 k' => by
    cases e
    obtain ⟨p, ws, e1, sq1, rr1⟩ := r1
    cases (List.cons.inj e1).1
    obtain ⟨q, zs, e2, sq2, rr2⟩ := r2
    cases (List.cons.inj e2).1
    have hz := hP x y ws zs F rr1 rr2
    have lw := rl_ar hn rr1
    have lz := rl_ar hk rr2
    have hle := Nat.le_of_ble_eq_true hl
    refine ⟨p, q, ws, zs, rfl, rfl, sqT_same s sq1, sqT_same s sq2, by rw [lw, lz]; exact Nat.le_trans hle (by decide), fun e => ?_, fun _ e => ?_, fun _ _ l nl => ?_⟩
    · subst e
      exact k' (.ref q) F H (Ext.refl s) ⟨q, zs, rfl, sq2, hz⟩
    · subst e
      rw [List.append_nil] at hz
      exact k' (.ref p) F H (Ext.refl s) ⟨p, ws, rfl, sq1, hz⟩
    · have e2 := Ext.new (o := .tup (ws ++ zs)) s nl
      exact k' (.ref l) _ _ e2 ⟨l, ws ++ zs, rfl, SqT.of upd_same, rl_mono e2.f hs _ _ hz⟩) ha hb) (by rfl)
end Gm
set_option Elab.async false
set_option linter.all false
set_option maxRecDepth 100000
set_option maxHeartbeats 4000000
namespace Gm
open PySem PySem.Spec L2
open PyProof.Rows (envOfC)
/-! ## a def whose first argument is handed over: it may change it -/
def spO (K : PySem.W.Frag) (mg : Str → Option Value) (o : Ow) (ts : Ty) (r : Rt) (h : o.ty.den → ts.den → Mx r.den) : Sp := fun vs H Q E => ∃ (F B : Hp) (x : o.ty.den) (y : ts.den) (v : V) (ws : List V) (fp : List Addr), vs = v :: ws ∧ Same F H ∧ Same B H ∧ ol K mg o x [v] F H fp ∧ fp.Nodup ∧ (∀ a ∈ fp, F a = none ∧ B a = none) ∧ rl K mg ts y ws F ∧ match h x y with
  | .ok z => ∀ v F' H', Ext F B F' H' → rtr K mg r z v B F' H' → Q v H'
  | .ex e => ∀ cls d F' H', Ext F B F' H' → xr mg e cls d F' → E cls d H'
  | .no => False
theorem sg_startO {K : PySem.W.Frag} {mg : Str → Option Value} {F B H : Hp} {o : Ow} {ts : Ty} {n : Nat} {x : o.ty.den} {y : ts.den} {v : V} {ws : List V} {fp : List Addr} {N : List Str} (hs : Same F H) (hB : Same B H) (ho : ol K mg o x [v] F H fp) (nd : fp.Nodup) (nw : ∀ a ∈ fp, F a = none ∧ B a = none) (ha : ts.args = some n) (r : rl K mg ts y ws F) :
    SG K mg ⟨F, B, [], L2.start N (v :: ws)⟩ (.o o x :: ctx0 ts y (N.length - (n + 1))) (L2.start N (v :: ws)) F H := by
  obtain ⟨h1, h2, h3⟩ := args_len ha r
  refine ⟨⟨Same.refl _, hB, hs, fun p _ q => q⟩, fun i hi => (nomatch hi), fun i => if i = 0 then fp else [], fun i s e => ?_, fun i e => ?_, fun i => ?_, fun i j hij a ha => ?_, fun i a ha => ?_⟩
  · cases i with
    | zero =>
      cases e
      exact ⟨some v, rfl, v, rfl, by rw [if_pos rfl]; exact ho⟩
    | succ i =>
      have e : (ctx0 ts y (N.length - (n + 1)))[i]? = some s := e
      rw [if_neg (Nat.succ_ne_zero i)]
      unfold ctx0 at e
      unfold L2.start
      by_cases hi : i < n
      · rw [List.getElem?_append_left (by rw [h2]; exact hi)] at e
        obtain ⟨u, e1, t, z, rfl, r'⟩ := h3 i s e
        exact ⟨some u, by rw [List.getElem?_append_left (by rw [List.length_map, List.length_cons, h1]; omega), List.getElem?_map, List.getElem?_cons_succ, e1]; rfl, rfl, u, rfl, r'⟩
      · rw [List.getElem?_append_right (by rw [h2]; omega), h2, List.getElem?_replicate] at e
        split at e
        · rename_i hlt
          cases e
          refine ⟨none, ?_, rfl⟩
          rw [List.getElem?_append_right (by rw [List.length_map, List.length_cons, h1]; omega), List.length_map, List.length_cons, h1, List.getElem?_replicate, if_pos (by omega)]
        · cases e
  · cases i with
    | zero => cases e
    | succ i => exact if_neg (Nat.succ_ne_zero i)
  · show (if i = 0 then fp else []).Nodup
    split
    · exact nd
    · exact List.nodup_nil
  · have ha : a ∈ (if i = 0 then fp else []) := ha
    show a ∉ (if j = 0 then fp else [])
    by_cases hi : i = 0
    · rw [if_neg (fun hj => hij (hi.trans hj.symm))]; exact fun z => nomatch z
    · rw [if_neg hi] at ha; cases ha
  · have ha : a ∈ (if i = 0 then fp else []) := ha
    by_cases hi : i = 0
    · rw [if_pos hi] at ha; exact nw a ha
    · rw [if_neg hi] at ha; cases ha
theorem fn_bodyO {P : Program} {w : World} {K : PySem.W.Frag} {mg : Str → Option Value} {base : Heap} {x qual : Str} {st : Stmt} {f : Addr} {fd : FuncData} {dvs : List V} {kws : List (Str × V)} {N ps : List Str} {k n : Nat} {o : Ow} {ts : Ty} {r : Rt} {h : o.ty.den → ts.den → Mx r.den} (F : FunD K x qual (defArgs st) (defBody st) (defScope st) dvs kws f fd) (S : FnScope N ps (defScope st)) (hp : ps.length = n + 1) (ha : ts.args = some n)
    (hb : ∀ (cdv : Value) (A : Around) (outer : List Env) (s : Shared) (H : Hp) (E : XK), Room k (A.deeper (envOfC qual (defScope st) s.heap.objs.size f cdv)) → Takes (cxOf (L2.CX P w) P w K mg base N qual (defScope st) f cdv A outer s H E) (fun cls d _ H => E cls d H) →
      PassesOwn (model P w) (A.deeper (envOfC qual (defScope st) s.heap.objs.size f cdv)) (envOfC qual (defScope st) s.heap.objs.size f cdv) (cxOf (L2.CX P w) P w K mg base N qual (defScope st) f cdv A outer s H E).xe →
      ∀ (x : o.ty.den) (y : ts.den), BS (cxOf (L2.CX P w) P w K mg base N qual (defScope st) f cdv A outer s H E) (fun cls d _ H => E cls d H) [] (.o o x :: ctx0 ts y (N.length - (n + 1))) (defBody st) (h x y) (fun z => .rt r z)) :
    FnOk P w K mg base (L2.CX P w) (k + 1) f fd ps (spO K mg o ts r h) := by
  refine F.ok S (fun vs H Q E hh => ?_) (fun cdv A outer s H vs Q E hr hh => ?_)
  · obtain ⟨G, B, x, y, v, ws, fp, rfl, hs, hB, ho, nd, nw, rr, _⟩ := hh
    rw [List.length_cons, (args_len ha rr).1, hp]
  · obtain ⟨G, B, x, y, v, ws, fp, rfl, hs, hB, ho, nd, nw, rr, q⟩ := hh
    refine ⟨_, hb cdv A outer s H E hr (takes_of rfl rfl rfl rfl) (passes_of rfl) x y, ⟨G, B, [], L2.start N (v :: ws)⟩, G, rfl, sg_startO hs hB ho nd nw ha rr, ?_⟩
    cases e : h x y with
    | no => rw [e] at q; exact q
    | ex z => rw [e] at q; exact fun cls d σ F' H' x _ r => q cls d F' H' x r
    | ok z => rw [e] at q; exact fun v F' H' x r => q v F' H' x r
section
variable {X : Cx} {W : WX} {Γ : Ctx} {e1 : Expr} {es : List Expr} {pos q : Pos} {x : Str} {f : Addr} {fd : FuncData} {ps : List Str} {k : Nat}
/-- f(fresh, ..): the first argument is handed over -/
theorem e_callO {o : Ow} {ts : Ty} {r : Rt} {h : o.ty.den → ts.den → Mx r.den} {mo : Mx o.ty.den} {ma : Mx ts.den} (Fn : FnOk X.prog X.w X.K X.mg X.base (L2.CX X.prog X.w) k f fd ps (spO X.K X.mg o ts r h)) (hr : Room k X.A) (hg : Gl X x) (hm : X.mg x = some (.ref f)) (hkp : PySem.W.keepIn X.K (.ref f) = true)
    (hb : Binds X.K fd ps []) (tk : Takes X W) (h1 : EO X W Γ e1 o mo) (ha : EA X W Γ es ts ma) (hdb : (x == ("__debug__" : Str)) = false) (hs : starEach (e1 :: es) X.env = (false, eval e1 X.env) :: starEach es X.env) (hpl : (backTo pos (starEach es X.env)).any (·.1) = false) :
    ER X W Γ (.Call (.Name x q) (e1 :: es) [] pos) r (mo >>= fun x => ma >>= fun y => h x y) :=
  pe_imp (pe_callSD Fn hr hg hm hkp hb .nil (fun σ => passAt tk σ) (pa_cons h1 ha hs) hdb hs hpl) fun σ H Q ⟨F, s, d, p⟩ => ⟨F, s, d, p.bind.mono fun x px v F1 H1 x1 r1 =>
    ⟨F1, x1.i, d.mono x1.f, post.ext x1 px.bind fun y py ws F2 H2 x2 r2 => by
      obtain ⟨fp, ro, nd, nw⟩ := id r1
      have cell : ∀ a ∈ fp, H1 a ≠ none := fun a ha z => by
        obtain ⟨u, e, _⟩ := ol_cell o x _ _ ro a ha
        rw [e] at z; cases z
      have hB : ∃ B : Hp, (∀ a, a ∈ fp → B a = none) ∧ ∀ a, a ∉ fp → B a = H2 a := by
        classical
        exact ⟨fun a => if a ∈ fp then none else H2 a, fun a ha => if_pos ha, fun a ha => if_neg ha⟩
      obtain ⟨B, b1, b2⟩ := hB
      have sB : Same B H2 := fun a u e => by
        by_cases ha : a ∈ fp
        · rw [b1 a ha] at e; cases e
        · rw [b2 a ha] at e; exact e
      have sHB : Same H B := fun a u e => by
        have ha : a ∉ fp := fun ha => by rw [(nw a ha).2] at e; cases e
        rw [b2 a ha]; exact (x1.trans x2).h _ _ e
      have ext : ∀ F' H', Ext F2 B F' H' → Ext F H F' H' := fun F' H' z => ⟨(x1.trans x2).f.trans z.f, sHB.trans z.h, z.i, fun p hp hf => z.n p (fun w => hp (sHB.free w)) ((x1.trans x2).n p hp hf)⟩
      refine ⟨F2, B, x, y, v, ws, fp, by simp, x2.i, sB, ol_frame x2.f o x [v] fp (fun a ha => ?_) ro, nd, fun a ha => ⟨x2.n a (cell a ha) (nw a ha).1, b1 a ha⟩, r2, ?_⟩
      · cases e : H1 a with
        | none => exact absurd e (cell a ha)
        | some u => exact x2.h _ _ e
      · cases hh : h x y with
        | no => rw [hh] at py; exact py
        | ex z => rw [hh] at py; exact fun cls d F' H' e r => py cls d F' H' (ext F' H' e) r
        | ok z => rw [hh] at py; exact fun v F' H' e r => py v F' H' (ext F' H' e) (rtr_pre sHB r)⟩⟩
end
end Gm
set_option Elab.async false
set_option linter.all false
set_option maxRecDepth 100000
set_option maxHeartbeats 4000000
namespace Gm
open PySem PySem.Spec L2
open PyProof.Rows (envOfC)
/-! ## the rest of a def's block, said by itself -/
/-- the statements of a def from the n-th on, over any call of it -/
def CutB (P : Program) (w : World) (K : PySem.W.Frag) (mg : Str → Option Value) (base : Heap) (N : List Str) (qual : Str) (st : Stmt) (f : Addr) (k : Nat) (hk : List Nat) (Γ : Ctx) (n : Nat) {β : Type} (m : Mx β) (I : β → Out) : Prop :=
  ∀ (cdv : Value) (A : Around) (outer : List Env) (s : Shared) (H : Hp) (E : XK), Room k (A.deeper (envOfC qual (defScope st) s.heap.objs.size f cdv)) → Takes (cxOf (L2.CX P w) P w K mg base N qual (defScope st) f cdv A outer s H E) (fun cls d _ H => E cls d H) →
      PassesOwn (model P w) (A.deeper (envOfC qual (defScope st) s.heap.objs.size f cdv)) (envOfC qual (defScope st) s.heap.objs.size f cdv) (cxOf (L2.CX P w) P w K mg base N qual (defScope st) f cdv A outer s H E).xe →
      BS (cxOf (L2.CX P w) P w K mg base N qual (defScope st) f cdv A outer s H E) (fun cls d _ H => E cls d H) hk Γ ((defBody st).drop n) m I
end Gm
set_option Elab.async false
set_option linter.all false
set_option maxRecDepth 100000
set_option maxHeartbeats 4000000
namespace Gm
open PySem PySem.Spec L2

/-! ## nested keys by their codes -/
def Ty.keyok : Ty → Bool
  | .int => true
  | .bool => true
  | .str => true
  | .non => true
  | .opt t => t.keyok
  | .tup fs => fs.keyok
  | .vtup t => t.keyok
  | .pr a b => a.keyok && b.keyok
  | .nl => true
  | _ => false
/-- one key, not None -/
def Ty.key1 : Ty → Bool
  | .int => true
  | .bool => true
  | .str => true
  | .tup _ => true
  | .vtup _ => true
  | _ => false
def Ty.keyinj : Ty → Bool
  | .int => true
  | .bool => true
  | .str => true
  | .non => true
  | .opt t => t.key1 && t.keyinj
  | .tup fs => fs.keyinj
  | .vtup t => t.key1 && t.keyinj
  | .pr a b => a.keyinj && b.keyinj
  | .nl => true
  | _ => false
theorem key1_of : ∀ {t : Ty}, t.key1 = true → ∀ x : t.den, ∃ k, t.nks x = [k] ∧ k ≠ .none
  | .int, _, i => ⟨_, rfl, fun z => nomatch z⟩
  | .bool, _, b => ⟨_, rfl, fun z => nomatch z⟩
  | .str, _, s => ⟨_, rfl, fun z => nomatch z⟩
  | .tup fs, _, x => ⟨_, rfl, fun z => nomatch z⟩
  | .vtup t, _, x => ⟨_, rfl, fun z => nomatch z⟩
  | .non, h, _ => nomatch h
  | .scr, h, _ => nomatch h
  | .tpl, h, _ => nomatch h
  | .exn, h, _ => nomatch h
  | .opt _, h, _ => nomatch h
  | .hl _, h, _ => nomatch h
  | .list _, h, _ => nomatch h
  | .pr _ _, h, _ => nomatch h
  | .nl, h, _ => nomatch h
  | .sum _ _, h, _ => nomatch h
  | .ins _ _ _, h, _ => nomatch h
  | .dic _ _, h, _ => nomatch h
  | .dicN _ _ _ _, h, _ => nomatch h
theorem nks_inj : ∀ (t : Ty), t.keyinj = true → ∀ (x y : t.den) (r r' : List NestedKey), t.nks x ++ r = t.nks y ++ r' → x = y ∧ r = r' := by
  intro t
  induction t with
  | int => intro _ x y r r' e; have e := List.cons.inj e; exact ⟨NestedKey.num.inj e.1, e.2⟩
  | bool =>
    intro _ x y r r' e
    have e := List.cons.inj e
    refine ⟨?_, e.2⟩
    have e1 := NestedKey.num.inj e.1
    cases x <;> cases y <;> simp_all
  | str => intro _ x y r r' e; have e := List.cons.inj e; exact ⟨NestedKey.text.inj e.1, e.2⟩
  | non => intro _ x y r r' e; have e := List.cons.inj e; exact ⟨rfl, e.2⟩
  | opt t ih =>
    intro h x y r r' e
    have h' := (Bool.and_eq_true _ _).mp (show (t.key1 && t.keyinj) = true from h)
    cases x with
    | none => cases y with
      | none => exact ⟨rfl, (List.cons.inj e).2⟩
      | some b =>
        obtain ⟨k, hk, hn⟩ := key1_of h'.1 b
        have e : NestedKey.none :: r = t.nks b ++ r' := e
        rw [hk] at e
        exact absurd (List.cons.inj e).1.symm hn
    | some a => cases y with
      | none =>
        obtain ⟨k, hk, hn⟩ := key1_of h'.1 a
        have e : t.nks a ++ r = NestedKey.none :: r' := e
        rw [hk] at e
        exact absurd (List.cons.inj e).1 hn
      | some b => obtain ⟨e1, e2⟩ := ih h'.2 a b r r' e; exact ⟨congrArg some e1, e2⟩
  | tup fs ih =>
    intro h x y r r' e
    have e := List.cons.inj e
    have e1 : fs.nks x = fs.nks y := NestedKey.tup.inj e.1
    exact ⟨(ih h x y [] [] (by rw [List.append_nil, List.append_nil]; exact e1)).1, e.2⟩
  | vtup t ih =>
    intro h x y r r' e
    have h' := (Bool.and_eq_true _ _).mp (show (t.key1 && t.keyinj) = true from h)
    have e := List.cons.inj e
    have e1 : x.flatMap t.nks = y.flatMap t.nks := NestedKey.tup.inj e.1
    refine ⟨?_, e.2⟩
    have : ∀ (x y : List t.den), x.flatMap t.nks = y.flatMap t.nks → x = y := by
      intro x
      induction x with
      | nil =>
        intro y e
        cases y with
        | nil => rfl
        | cons b y =>
          obtain ⟨k, hk, _⟩ := key1_of h'.1 b
          rw [List.flatMap_cons, hk] at e
          cases e
      | cons a x ihx =>
        intro y e
        cases y with
        | nil =>
          obtain ⟨k, hk, _⟩ := key1_of h'.1 a
          rw [List.flatMap_cons, hk] at e
          cases e
        | cons b y =>
          rw [List.flatMap_cons, List.flatMap_cons] at e
          obtain ⟨e1, e2⟩ := ih h'.2 a b _ _ e
          rw [e1, ihx y e2]
    exact this x y e1
  | pr a b iha ihb =>
    intro h x y r r' e
    have h' := (Bool.and_eq_true _ _).mp (show (a.keyinj && b.keyinj) = true from h)
    obtain ⟨x1, x2⟩ := x
    obtain ⟨y1, y2⟩ := y
    have e : (a.nks x1 ++ b.nks x2) ++ r = (a.nks y1 ++ b.nks y2) ++ r' := e
    rw [List.append_assoc, List.append_assoc] at e
    obtain ⟨e1, e2⟩ := iha h'.1 x1 y1 _ _ e
    obtain ⟨e3, e4⟩ := ihb h'.2 x2 y2 _ _ e2
    exact ⟨by rw [e1, e3], e4⟩
  | nl => intro _ x y r r' e; exact ⟨rfl, e⟩
  | scr => intro h; cases h
  | tpl => intro h; cases h
  | exn => intro h; cases h
  | hl _ _ => intro h; cases h
  | list _ _ => intro h; cases h
  | sum _ _ _ _ => intro h; cases h
  | ins _ _ _ _ => intro h; cases h
  | dic _ _ _ _ => intro h; cases h
  | dicN _ _ _ _ _ _ => intro h; cases h
theorem depthAll_app : ∀ (a b : List NestedKey), NestedKey.depthAll (a ++ b) ≤ max (NestedKey.depthAll a) (NestedKey.depthAll b)
  | [], b => by
    rw [List.nil_append]; exact Nat.le_max_right _ _
  | k :: a, b => by
    have := depthAll_app a b
    rw [List.cons_append, NestedKey.depthAll, NestedKey.depthAll]
    omega
theorem nks_depth : ∀ (t : Ty) (x : t.den), NestedKey.depthAll (t.nks x) ≤ t.depth := by
  intro t
  induction t with
  | int => intro x; exact Nat.le_of_eq rfl
  | bool => intro x; exact Nat.le_of_eq rfl
  | str => intro x; exact Nat.le_of_eq rfl
  | non => intro x; exact Nat.le_of_eq rfl
  | opt t ih =>
    intro x
    cases x with
    | none => exact Nat.zero_le _
    | some y => exact ih y
  | tup fs ih =>
    intro x
    have := ih x
    show max (NestedKey.depthAll (fs.nks x) + 1) 0 ≤ fs.depth + 1
    omega
  | vtup t ih =>
    intro x
    have h : ∀ xs : List t.den, NestedKey.depthAll (xs.flatMap t.nks) ≤ t.depth := by
      intro xs
      induction xs with
      | nil => exact Nat.zero_le _
      | cons a xs ihx =>
        rw [List.flatMap_cons]
        have h1 := depthAll_app (t.nks a) (xs.flatMap t.nks)
        have h2 := ih a
        omega
    have := h x
    show max (NestedKey.depthAll (x.flatMap t.nks) + 1) 0 ≤ t.depth + 1
    omega
  | pr a b iha ihb =>
    intro x
    have h1 := depthAll_app (a.nks x.1) (b.nks x.2)
    have h2 := iha x.1
    have h3 := ihb x.2
    show NestedKey.depthAll (a.nks x.1 ++ b.nks x.2) ≤ a.depth + b.depth
    omega
  | nl => intro x; exact Nat.zero_le _
  | _ => intros; exact Nat.zero_le _
theorem nestedAll_app {h : Heap} : ∀ {a b : List NestedKey} {us ws : List Value}, NestedAll h a us → NestedAll h b ws → NestedAll h (a ++ b) (us ++ ws)
  | _, _, _, _, .nil, y => y
  | _, _, _, _, .cons x r, y => .cons x (nestedAll_app r y)
section
variable {X : Cx} {pins : List (Addr × Obj)} {σ : L2.St} {F H : Hp} {s : Shared} {mg : Str → Option Value}
theorem nested_of (I : Inv X pins σ H s) (hs : Same F H) : ∀ (t : Ty), t.keyok = true → ∀ (x : t.den) (vs : List V) (us : List Value), rl X.K mg t x vs F → Vals vs us → NestedAll s.heap (t.nks x) us := by
  have sq : ∀ {a : Addr} {ws : List V} {us : List Value} {ks : List NestedKey}, SqT X.K F a ws → Vals [V.ref a] us → (∀ its, Vals ws its → NestedAll s.heap ks its) → NestedAll s.heap [.tup ks] us := by
    intro a ws us ks st rv h
    cases rv with
    | cons r rr =>
      cases rr
      cases (show _ = Value.ref a from r)
      obtain ⟨its, rw', p, _⟩ := I.tuple (sqT_same hs st)
      obtain ⟨ob, h1, h2, n, h3⟩ := p
      exact .cons (.tup h1 h2 h3 (by simpa using h its rw')) .nil
  intro t
  induction t with
  | int =>
    intro _ x vs us r rv
    cases (show vs = _ from r)
    cases rv with
    | cons r rr => cases rr; obtain ⟨t, rfl⟩ := r; exact .cons (.int x t) .nil
  | bool =>
    intro _ x vs us r rv
    cases (show vs = _ from r)
    cases rv with
    | cons r rr => cases rr; cases r; exact .cons (.bool rfl) .nil
  | str =>
    intro _ x vs us r rv
    cases (show vs = _ from r)
    cases rv with
    | cons r rr => cases rr; obtain ⟨t, rfl⟩ := r; exact .cons (.text x t) .nil
  | non =>
    intro _ x vs us r rv
    cases (show vs = _ from r)
    cases rv with
    | cons r rr => cases rr; cases r; exact .cons .none .nil
  | opt t ih =>
    intro h x vs us r rv
    cases x with
    | none =>
      cases (show vs = _ from r)
      cases rv with
      | cons r rr => cases rr; cases r; exact .cons .none .nil
    | some y => exact ih h y vs us r.2 rv
  | tup fs ih =>
    intro h x vs us r rv
    obtain ⟨a, ws, e, st, r⟩ := r
    subst e
    exact sq st rv fun its q => ih h x ws its r q
  | vtup t ih =>
    intro h x vs us r rv
    obtain ⟨a, ws, e, st, r⟩ := r
    subst e
    refine sq st rv fun its q => ?_
    have : ∀ {xs : List t.den} {ws : List V} {its : List Value}, all2 (fun x w => rl X.K mg t x [w] F) xs ws → Vals ws its → NestedAll s.heap (xs.flatMap t.nks) its := by
      intro xs
      induction xs with
      | nil =>
        intro ws its r q
        cases ws with
        | nil => cases q; exact .nil
        | cons _ _ => exact r.elim
      | cons x xs ihx =>
        intro ws its r q
        cases ws with
        | nil => exact r.elim
        | cons w ws =>
          cases q with
          | cons q1 q2 =>
            rw [List.flatMap_cons]
            exact nestedAll_app (us := [_]) (ih h x [w] [_] r.1 (.cons q1 .nil)) (ihx r.2 q2)
    exact this r q
  | pr a b iha ihb =>
    intro h x vs us r rv
    have h' := (Bool.and_eq_true _ _).mp (show (a.keyok && b.keyok) = true from h)
    obtain ⟨v, w, e, r1, r2⟩ := r
    subst e
    cases rv with
    | cons q1 q2 => exact nestedAll_app (us := [_]) (iha h'.1 x.1 [v] [_] r1 (.cons q1 .nil)) (ihb h'.2 x.2 w _ r2 q2)
  | nl =>
    intro _ x vs us r rv
    cases (show vs = _ from r)
    cases rv
    exact .nil
  | scr => intro h; cases h
  | tpl => intro h; cases h
  | exn => intro h; cases h
  | hl _ _ => intro h; cases h
  | list _ _ => intro h; cases h
  | sum _ _ _ _ => intro h; cases h
  | ins _ _ _ _ => intro h; cases h
  | dic _ _ _ _ => intro h; cases h
  | dicN _ _ _ _ _ _ => intro h; cases h
end
def Ty.isTup : Ty → Bool
  | .tup _ => true
  | .vtup _ => true
  | _ => false
/-- a code whose things may be nested keys -/
def Ty.kyN (k : Ty) : Bool := ((k.keyok && k.keyinj) && (decide (k.depth ≤ 8) && k.isTup))
structure KyN (k : Ty) : Prop where
  inj : ∀ x y : k.den, k.nk x = k.nk y → x = y
  ref : ∀ {K : PySem.W.Frag} {mg : Str → Option Value} {F : Hp} {x : k.den} {v : V}, rl K mg k x [v] F → ∃ b, v = .ref b
  nk : ∀ {X : Cx} {F H : Hp} {x : k.den} {b : Addr}, Same F H → rl X.K X.mg k x [.ref b] F → NK X H (k.nk x) b
theorem kyN_of {k : Ty} (h : k.kyN = true) : KyN k := by
  have h : ((k.keyok && k.keyinj) && (decide (k.depth ≤ 8) && k.isTup)) = true := h
  simp only [Bool.and_eq_true, decide_eq_true_eq] at h
  obtain ⟨⟨h1, h2⟩, h3, h4⟩ := h
  have one : ∀ x : k.den, k.nks x = [k.nk x] := by
    intro x
    cases k with
    | tup fs => rfl
    | vtup t => rfl
    | _ => cases h4
  refine ⟨fun x y e => (nks_inj k h2 x y [] [] (by rw [one, one, e])).1, fun {K mg F x v} r => ?_, fun {X F H x b} hs r pins σ s I => ⟨?_, ?_⟩⟩
  · cases k with
    | tup fs => obtain ⟨a, ws, e, _⟩ := r; exact ⟨a, (List.cons.inj e).1⟩
    | vtup t => obtain ⟨a, ws, e, _⟩ := r; exact ⟨a, (List.cons.inj e).1⟩
    | _ => cases h4
  · have := nested_of I hs k h1 x _ [.ref b] r (.cons rfl .nil)
    rw [one] at this
    cases this with
    | cons a _ => exact a
  · have := nks_depth k x
    rw [one] at this
    have e : NestedKey.depthAll [k.nk x] = max (k.nk x).depth 0 := rfl
    rw [e] at this
    omega
/-! ## entries -/
section
variable {α β : Type} [DecidableEq α] {f : α → NestedKey} {Rk : α → Addr → Prop} {R : β → V → Prop}
theorem allN.len {α β : Type} {f : α → NestedKey} {Rk : α → Addr → Prop} {R : β → V → Prop} : ∀ {xs : List (α × β)} {kvs : List NE}, allN f Rk R xs kvs → xs.length = kvs.length
  | [], [], _ => rfl
  | _ :: _, _ :: _, ⟨_, c⟩ => congrArg (· + 1) (allN.len c)
  | [], _ :: _, z => z.elim
  | _ :: _, [], z => z.elim
theorem allN.keys {α β : Type} {f : α → NestedKey} {Rk : α → Addr → Prop} {R : β → V → Prop} {P : NestedKey → Addr → Prop} (h : ∀ x b, Rk x b → P (f x) b) : ∀ {xs : List (α × β)} {kvs : List NE}, allN f Rk R xs kvs → ∀ p ∈ kvs, P p.1 p.2.1
  | [], [], _, _, m => nomatch m
  | p :: _, e :: _, ⟨⟨a, b, _⟩, d⟩, q, m => by
    rcases List.mem_cons.mp m with rfl | m
    · rw [a]; exact h _ _ b
    · exact allN.keys h d q m
  | [], _ :: _, z, _, _ => z.elim
  | _ :: _, [], z, _, _ => z.elim
theorem getN_pos {e : NE} {r : List NE} {k : NestedKey} (h : e.1 = k) : getN (e :: r) k = some e.2.2 := by simp [getN, List.find?_cons, h]
theorem getN_neg {e : NE} {r : List NE} {k : NestedKey} (h : ¬ e.1 = k) : getN (e :: r) k = getN r k := by simp [getN, List.find?_cons, h]
theorem allN.val (hf : ∀ a b, f a = f b → a = b) (x : α) : ∀ {xs : List (α × β)} {kvs : List NE}, allN f Rk R xs kvs → (dget xs x = none ∧ getN kvs (f x) = none) ∨ ∃ y v, dget xs x = some y ∧ getN kvs (f x) = some v ∧ R y v
  | [], [], _ => .inl ⟨rfl, rfl⟩
  | p :: xs, q :: kvs, ⟨⟨a, _, b⟩, c⟩ => by
    by_cases h : p.1 = x
    · have hq : q.1 = f x := by rw [a, h]
      exact .inr ⟨p.2, q.2.2, dget_pos h, getN_pos hq, b⟩
    · have hq : ¬ q.1 = f x := fun z => h (hf _ _ (a.symm.trans z))
      rw [dget_neg h, getN_neg hq]
      exact allN.val hf x c
  | [], _ :: _, z => z.elim
  | _ :: _, [], z => z.elim
theorem allN.any (hf : ∀ a b, f a = f b → a = b) (x : α) : ∀ {xs : List (α × β)} {kvs : List NE}, allN f Rk R xs kvs → (kvs.any fun e => decide (e.1 = f x)) = xs.any fun p => decide (p.1 = x)
  | [], [], _ => rfl
  | p :: xs, q :: kvs, ⟨⟨a, _⟩, c⟩ => by
    rw [List.any_cons, List.any_cons, allN.any hf x c, a, decide_eq_decide.mpr ⟨fun z => hf _ _ z, fun z => congrArg f z⟩]
  | [], _ :: _, z => z.elim
  | _ :: _, [], z => z.elim
theorem allN.app {α β : Type} {f : α → NestedKey} {Rk : α → Addr → Prop} {R : β → V → Prop} : ∀ {xs ys : List (α × β)} {kvs ls : List NE}, allN f Rk R xs kvs → allN f Rk R ys ls → allN f Rk R (xs ++ ys) (kvs ++ ls)
  | [], _, [], _, _, h => h
  | _ :: _, _, _ :: _, _, ⟨a, b⟩, h => ⟨a, allN.app b h⟩
  | [], _, _ :: _, _, z, _ => z.elim
  | _ :: _, _, [], _, z, _ => z.elim
theorem allN.set (hf : ∀ a b, f a = f b → a = b) (x : α) {y : β} {v : V} (r : R y v) : ∀ {xs : List (α × β)} {kvs : List NE}, allN f Rk R xs kvs → allN f Rk R (xs.map fun p => if p.1 = x then (p.1, y) else p) (kvs.map fun e => if e.1 = f x then (e.1, e.2.1, v) else e)
  | [], [], _ => True.intro
  | p :: xs, q :: kvs, ⟨⟨a, b, b'⟩, c⟩ => by
    rw [List.map_cons, List.map_cons]
    refine ⟨?_, allN.set hf x r c⟩
    by_cases h : p.1 = x
    · have hq : q.1 = f x := by rw [a, h]
      rw [if_pos h, if_pos hq]; exact ⟨a, b, r⟩
    · have hq : ¬ q.1 = f x := fun z => h (hf _ _ (a.symm.trans z))
      rw [if_neg h, if_neg hq]; exact ⟨a, b, b'⟩
  | [], _ :: _, z => z.elim
  | _ :: _, [], z => z.elim
theorem allN.put (hf : ∀ a b, f a = f b → a = b) (x : α) {b : Addr} (rb : Rk x b) {y : β} {v : V} (r : R y v) {xs : List (α × β)} {kvs : List NE} (h : allN f Rk R xs kvs) : allN f Rk R (dput xs x y) (putN kvs (f x) b v) := by
  unfold dput putN
  rw [allN.any hf x h]
  split
  · exact allN.set hf x r h
  · exact allN.app h ⟨⟨rfl, rb, r⟩, True.intro⟩
end
/-! ## reading nested dicts -/
section
variable {X : Cx} {o i e : Expr} {pos apos cpos : Pos} {td ty tx : TE}
def tNGet (X : Cx) (td ty : TE) : TE := fun σ H Q => td σ H fun x H1 => ty σ H1 fun y H2 => ∃ a b kvs k v, x = .ref a ∧ y = .ref b ∧ Rd H2 a (dnO X.prog X.w a kvs) ∧ (∀ p ∈ kvs, NK X H2 p.1 p.2.1) ∧ NK X H2 k b ∧ getN kvs k = some v ∧ Q v H2
def tNIn (X : Cx) (g : Bool → Bool) (ty td : TE) : TE := fun σ H Q => ty σ H fun y H1 => td σ H1 fun x H2 => ∃ a b kvs k, x = .ref a ∧ y = .ref b ∧ Rd H2 a (dnO X.prog X.w a kvs) ∧ (∀ p ∈ kvs, NK X H2 p.1 p.2.1) ∧ NK X H2 k b ∧ Q (.bl (g (getN kvs k).isSome)) H2
def tNGet2 (X : Cx) (td ty tx : TE) : TE := fun σ H Q => td σ H fun x H1 => ∃ a kvs, x = .ref a ∧ Rd H1 a (dnO X.prog X.w a kvs) ∧ ty σ H1 fun y H2 => tx σ H2 fun z H3 => ∃ b k kvs', y = .ref b ∧ Rd H3 a (dnO X.prog X.w a kvs') ∧ (∀ p ∈ kvs', NK X H3 p.1 p.2.1) ∧ NK X H3 k b ∧ Q ((getN kvs' k).getD z) H3
theorem pe_nget (hu : X.A.units + 64 < cLine) (ho : PE X o td) (hi : PE X i ty) (hs : NoSl i) : PE X (.Subscript o i pos) (tNGet X td ty) := by
  refine ⟨fun pins s σ H Q I h => ?_⟩
  refine subD_of PySem.F.slot_dict_getitem.lookup hs (thn (ho.run pins s σ H _ I h) fun u s1 ⟨x, H1, I1, rx, q1⟩ => thn (hi.run pins s1 σ H1 _ I1 q1) fun iv s2 ⟨y, H2, I2, ry, a, b, kvs, k, v, ex, ey, e1, e2, e3, e4, q2⟩ => ?_)
  subst ex ey
  cases (show u = Value.ref a from rx)
  cases (show iv = Value.ref b from ry)
  exact ⟨dn_typeIs I2 e1, n_getItem hu I2 e1 e2 e3 e4 fun w' s3 I3 rw' => ⟨v, H2, I3, rw', q2⟩⟩
theorem pc_nin (hu : X.A.units + 64 < cLine) (hi : PE X i ty) (ho : PE X o td) : PC X .In i o (tNIn X id ty td) := by
  refine ⟨fun pins s σ H Q I h => ?_⟩
  refine thn (hi.run pins s σ H _ I h) fun iv s1 ⟨y, H1, I1, ry, q1⟩ => thn (ho.run pins s1 σ H1 _ I1 q1) fun u s2 ⟨x, H2, I2, rx, a, b, kvs, k, ex, ey, e1, e2, e3, q2⟩ => ?_
  subst ex ey
  cases (show u = Value.ref a from rx)
  cases (show iv = Value.ref b from ry)
  exact n_in hu I2 e1 e2 e3 fun s3 I3 => ⟨.bl (getN kvs k).isSome, H2, I3, rfl, q2⟩
theorem pc_nnotin (hu : X.A.units + 64 < cLine) (hi : PE X i ty) (ho : PE X o td) : PC X .NotIn i o (tNIn X not ty td) := by
  refine ⟨fun pins s σ H Q I h => ?_⟩
  refine thn (hi.run pins s σ H _ I h) fun iv s1 ⟨y, H1, I1, ry, q1⟩ => thn (ho.run pins s1 σ H1 _ I1 q1) fun u s2 ⟨x, H2, I2, rx, a, b, kvs, k, ex, ey, e1, e2, e3, q2⟩ => ?_
  subst ex ey
  cases (show u = Value.ref a from rx)
  cases (show iv = Value.ref b from ry)
  exact n_notIn hu I2 e1 e2 e3 fun s3 I3 => ⟨.bl (!(getN kvs k).isSome), H2, I3, rfl, q2⟩
theorem pe_nget2 {f : Expr} (hu : X.A.units + 64 < cLine) (ho : PE X o td) (he : PE X e ty) (hf : PE X f tx) (m : M2 X o "get" apos e f cpos) : PE X (.Call (.Attribute o "get" apos) [e, f] [] cpos) (tNGet2 X td ty tx) := by
  refine ⟨fun pins s σ H Q I h => ?_⟩
  refine wpAny_Call_method m.base m.few m.line PySem.F.plainAttrs_dict PySem.F.slot_dict_get PySem.F.type_dict_get (thn (ho.run pins s σ H _ I h) fun u s1 ⟨x, H1, I1, rx, a, kvs, ex, d, q1⟩ => ?_)
  subst ex
  cases (show u = Value.ref a from rx)
  refine ⟨dn_typeIs I1 d, fun b q => ?_, ?_⟩
  · cases q
    obtain ⟨_, _, _, _, ob, _, _, h1, h2, _⟩ := dn_at I1 d
    exact ⟨ob, h1, h2.2.1⟩
  rw [m.trees]
  refine Calls.callWith_builtin rfl (Calls.evalArgs_plain (Calls.spliced_cons (thn (he.run pins s1 σ H1 _ I1 q1) fun iv s2 ⟨y, H2, I2, ry, q2⟩ =>
    Calls.spliced_cons (thn (hf.run pins s2 σ H2 _ I2 q2) fun fv s3 ⟨z, H3, I3, rz, b, k, kvs', ey, e1, e2, e3, q3⟩ => Calls.spliced_nil ?_))))
  subst ey
  cases (show iv = Value.ref b from ry)
  exact n_get2 hu I3 e1 e2 e3 rz fun w' s4 I4 rw' => ⟨_, H3, I4, rw', q3⟩
end
section
variable {X : Cx} {W : WX} {hk : List Nat} {Γ Γv Γi : Ctx} {st : Stmt} {rest : List Stmt} {a b c e : Expr} {pos p p2 apos cpos : Pos} {t t1 k : Ty} {β : Type} {I : β → Out}
/-- the entries over a heap, as a reading wants them -/
theorem allN.nks {F H : Hp} (hk : KyN k) (hs : Same F H) {xs : List (k.den × t.den)} {kvs : List NE} {R : t.den → V → Prop} (r : allN k.nk (fun x b => rl X.K X.mg k x [.ref b] F) R xs kvs) : ∀ q ∈ kvs, NK X H q.1 q.2.1 :=
  allN.keys (P := fun n b => NK X H n b) (fun x b q => hk.nk hs q) r
theorem e_nget [DecidableEq k.den] {m1 : Mx (List (k.den × t.den))} {m2 : Mx k.den} (hk : k.kyN = true) (hu : X.A.units + 64 < cLine) (ha : EM X W Γ a (.dicN X.prog X.w k t) m1) (hb : EM X W Γ b k m2) (hs : NoSl b) : EM X W Γ (.Subscript a b pos) t (m1 >>= fun d => m2 >>= fun x => ofO (dget d x)) :=
  have hk := kyN_of hk
  pe_imp (pe_nget hu ha hb hs) fun σ H Q ⟨F, s, d, q⟩ => ⟨F, s, d, q.bind.mono fun x px v F1 H1 e1 r1 => ⟨F1, e1.i, d.mono e1.f, post.ext e1 px.bind fun y py w F2 H2 e2 r2 => by
    obtain ⟨l, kvs, e, g, rr⟩ := r1
    cases (List.cons.inj e).1
    obtain ⟨bb, rfl⟩ := hk.ref r2
    have rr2 := rr.imp (fun y b z => rl_mono e2.f k y [.ref b] z) (fun y w z => rl_mono e2.f t y [w] z)
    rcases rr2.val hk.inj y with ⟨n1, n2⟩ | ⟨z, u, n1, n2, r⟩
    · rw [n1] at py; exact py.elim
    · rw [n1] at py
      exact ⟨l, bb, kvs, k.nk y, u, rfl, rfl, .inl (e2.i _ _ (e2.f _ _ g)), rr2.nks hk e2.i, hk.nk e2.i r2, n2, py u F2 H2 (e1.trans e2) r⟩⟩⟩
theorem c_nIn [DecidableEq k.den] {m1 : Mx k.den} {m2 : Mx (List (k.den × t.den))} (hk : k.kyN = true) (hu : X.A.units + 64 < cLine) (ha : EM X W Γ a k m1) (hb : EM X W Γ b (.dicN X.prog X.w k t) m2) : EC X W Γ .In a b (m1 >>= fun x => m2 >>= fun d => .ok (dget d x).isSome) :=
  have hk := kyN_of hk
  pc_imp (pc_nin hu ha hb) fun σ H Q ⟨F, s, d, q⟩ => ⟨F, s, d, q.bind.mono fun x px v F1 H1 e1 r1 => ⟨F1, e1.i, d.mono e1.f, post.ext e1 px.bind fun y py w F2 H2 e2 r2 => by
    obtain ⟨l, kvs, e, g, rr⟩ := r2
    cases (List.cons.inj e).1
    obtain ⟨bb, rfl⟩ := hk.ref r1
    refine ⟨l, bb, kvs, k.nk x, rfl, rfl, .inl (e2.i _ _ g), rr.nks hk e2.i, hk.nk e2.i (rl_mono e2.f k x _ r1), ?_⟩
    rcases rr.val hk.inj x with ⟨n1, n2⟩ | ⟨z, u, n1, n2, r⟩
    · rw [n1] at py; rw [n2]; exact py _ F2 H2 (e1.trans e2) rfl
    · rw [n1] at py; rw [n2]; exact py _ F2 H2 (e1.trans e2) rfl⟩⟩
theorem c_nNin [DecidableEq k.den] {m1 : Mx k.den} {m2 : Mx (List (k.den × t.den))} (hk : k.kyN = true) (hu : X.A.units + 64 < cLine) (ha : EM X W Γ a k m1) (hb : EM X W Γ b (.dicN X.prog X.w k t) m2) : EC X W Γ .NotIn a b (m1 >>= fun x => m2 >>= fun d => .ok (!(dget d x).isSome)) :=
  have hk := kyN_of hk
  pc_imp (pc_nnotin hu ha hb) fun σ H Q ⟨F, s, d, q⟩ => ⟨F, s, d, q.bind.mono fun x px v F1 H1 e1 r1 => ⟨F1, e1.i, d.mono e1.f, post.ext e1 px.bind fun y py w F2 H2 e2 r2 => by
    obtain ⟨l, kvs, e, g, rr⟩ := r2
    cases (List.cons.inj e).1
    obtain ⟨bb, rfl⟩ := hk.ref r1
    refine ⟨l, bb, kvs, k.nk x, rfl, rfl, .inl (e2.i _ _ g), rr.nks hk e2.i, hk.nk e2.i (rl_mono e2.f k x _ r1), ?_⟩
    rcases rr.val hk.inj x with ⟨n1, n2⟩ | ⟨z, u, n1, n2, r⟩
    · rw [n1] at py; rw [n2]; exact py _ F2 H2 (e1.trans e2) rfl
    · rw [n1] at py; rw [n2]; exact py _ F2 H2 (e1.trans e2) rfl⟩⟩
/-- d.get(x, y) -/
theorem e_ngetD [DecidableEq k.den] {m1 : Mx (List (k.den × t.den))} {m2 : Mx k.den} {m3 : Mx t.den} (hk : k.kyN = true) (hu : X.A.units + 64 < cLine) (ha : EM X W Γ a (.dicN X.prog X.w k t) m1) (hb : EM X W Γ b k m2) (hc : EM X W Γ c t m3) (hm : M2 X a "get" apos b c cpos) :
    EM X W Γ (.Call (.Attribute a "get" apos) [b, c] [] cpos) t (m1 >>= fun d => m2 >>= fun x => m3 >>= fun y => .ok ((dget d x).getD y)) :=
  have hk := kyN_of hk
  pe_imp (pe_nget2 hu ha hb hc hm) fun σ H Q ⟨F, s, d, q⟩ => ⟨F, s, d, q.bind.mono fun x px v F1 H1 e1 r1 => by
    obtain ⟨l, kvs, e, g, rr⟩ := r1
    cases (List.cons.inj e).1
    refine ⟨l, kvs, rfl, .inl (e1.i _ _ g), F1, e1.i, d.mono e1.f, post.ext e1 px.bind fun y py w F2 H2 e2 r2 => ⟨F2, e2.i, d.mono (e1.f.trans e2.f), post.ext (e1.trans e2) py.bind fun z pz u F3 H3 e3 r3 => ?_⟩⟩
    obtain ⟨bb, rfl⟩ := hk.ref r2
    have g3 : F3 l = some (dnO X.prog X.w l kvs) := e3.f _ _ (e2.f _ _ g)
    have rr3 := rr.imp (fun y b z => rl_mono (e2.f.trans e3.f) k y [.ref b] z) (fun y w z => rl_mono (e2.f.trans e3.f) t y [w] z)
    refine ⟨bb, k.nk y, kvs, rfl, .inl (e3.i _ _ g3), rr3.nks hk e3.i, hk.nk e3.i (rl_mono e3.f k y _ r2), ?_⟩
    rcases rr3.val hk.inj y with ⟨n1, n2⟩ | ⟨z', u', n1, n2, r⟩
    · rw [n1] at pz; rw [n2]; exact pz u F3 H3 ((e1.trans e2).trans e3) r3
    · rw [n1] at pz; rw [n2]; exact pz u' F3 H3 ((e1.trans e2).trans e3) r⟩
/-- {} -/
theorem e_nnil {o : Ow} : EO X W Γ (.Dict [] [] pos) (.dicN X.prog X.w k o) (.ok []) := ⟨fun pins s σ H Q J ⟨F, hs, d, q⟩ => by
  have np : H s.heap.objs.size = none := J.hok.fresh (Nat.le_refl _)
  refine wpAny_Dict_empty ⟨.ref s.heap.objs.size, _, J.laid (a := s.heap.objs.size) (o := dnO X.prog X.w s.heap.objs.size []) (t' := s.toks) (fun _ _ q => Heap.get?_push_of_some _ q) (Nat.le_refl _) (dn_ok ?_), rfl, q (.ref s.heap.objs.size) F _ (Ext.cell hs np) ⟨[s.heap.objs.size], ⟨_, [], [], rfl, rfl, upd_same, True.intro⟩, by simp, fun a ha => by rw [List.mem_singleton.mp ha]; exact ⟨hs.free np, np⟩⟩⟩
  exact ⟨Nat.zero_le _, beq_eq_false_iff_ne.mpr (Ne.symm (Nat.ne_of_lt J.big)), [], .nil, _, #[], 0, Heap.get?_push_size _ rfl, ⟨rfl, rfl, rfl⟩, rfl, rfl, List.nodup_nil⟩⟩
end
end Gm
set_option Elab.async false
set_option linter.all false
set_option maxRecDepth 100000
set_option maxHeartbeats 4000000
namespace Gm
open PySem PySem.Spec L2

/-! ## an owned thing within an owned thing -/
def SubAt (K : PySem.W.Frag) (mg : Str → Option Value) (o : Ow) (o' : Ow) (y : o'.ty.den) (put : o'.ty.den → o.ty.den) (F H : Hp) (v : V) (fp : List Addr) (u : V) : Prop :=
  ∃ fa fb : List Addr, (∀ a ∈ fa, a ∈ fp) ∧ (∀ a ∈ fb, a ∈ fp) ∧ (∀ a ∈ fa, a ∉ fb) ∧ fb.Nodup ∧ ol K mg o' y [u] F H fb ∧
    ∀ (F' H' : Hp) (y' : o'.ty.den) (fb' : List Addr), Same F F' → (∀ a ∈ fa, H' a = H a) → ol K mg o' y' [u] F' H' fb' → fb'.Nodup → (∀ a ∈ fb', a ∉ fa) → ∃ fp', fp'.Nodup ∧ (∀ a ∈ fp', a ∈ fa ∨ a ∈ fb') ∧ ol K mg o (put y') [v] F' H' fp'
/-- the o in the n-th place of a row -/
inductive FlO : (fs : Ow) → Nat → (o : Ow) → (fs.ty.den → o.ty.den) → (fs.ty.den → o.ty.den → fs.ty.den) → Prop
  | hd {a b : Ow} : FlO (.pr a b) 0 a (fun x => x.1) (fun x z => (z, x.2))
  | tl {a b o : Ow} {n : Nat} {π : b.ty.den → o.ty.den} {up : b.ty.den → o.ty.den → b.ty.den} (h : FlO b n o π up) : FlO (.pr a b) (n + 1) o (fun x => π x.2) (fun x z => (x.1, up x.2 z))
section
variable {K : PySem.W.Frag} {mg : Str → Option Value} {F H F' H' : Hp} {o o' : Ow} {x : o.ty.den} {v u : V}
theorem SubAt.refl {fp : List Addr} (nd : fp.Nodup) (h : ol K mg o x [v] F H fp) : SubAt K mg o o x id F H v fp v := ⟨[], fp, fun _ z => (nomatch z), fun _ z => z, fun _ z => (nomatch z), nd, h, fun F' H' y' fb' _ _ h' nd' _ => ⟨fb', nd', fun _ z => .inr z, h'⟩⟩
theorem FlO.split {fs : Ow} {n : Nat} {π : fs.ty.den → o.ty.den} {up : fs.ty.den → o.ty.den → fs.ty.den} (h : FlO fs n o π up) : ∀ {y : fs.ty.den} {ws : List V} {fp : List Addr}, ol K mg fs y ws F H fp → ∃ w f1 f2 f3, ws[n]? = some w ∧ fp = f1 ++ (f2 ++ f3) ∧ ol K mg o (π y) [w] F H f2 ∧
    ∀ (F' H' : Hp) (z : o.ty.den) (w' : V) (f2' : List Addr), Same F F' → (∀ a, a ∈ f1 ∨ a ∈ f3 → H' a = H a) → ol K mg o z [w'] F' H' f2' → ol K mg fs (up y z) (ws.set n w') F' H' (f1 ++ (f2' ++ f3)) := by
  induction h with
  | hd =>
    intro y ws fp q
    obtain ⟨w, r, f1, f2, rfl, rfl, h1, h2⟩ := q
    exact ⟨w, [], f1, f2, rfl, rfl, h1, fun F' H' z w' f2' hs hH hz => ⟨w', r, f2', f2, rfl, rfl, hz, ol_frame hs _ _ _ _ (fun a ha => hH a (.inr ha)) h2⟩⟩
  | tl h ih =>
    intro y ws fp q
    obtain ⟨w, r, f1, f2, rfl, rfl, h1, h2⟩ := q
    obtain ⟨w2, g1, g2, g3, e1, rfl, e3, e4⟩ := ih h2
    refine ⟨w2, f1 ++ g1, g2, g3, e1, by rw [List.append_assoc], e3, fun F' H' z w' f2' hs hH hz => ?_⟩
    have := e4 F' H' z w' f2' hs (fun a ha => hH a (ha.imp_left fun z => List.mem_append_right _ z)) hz
    exact ⟨w, _, f1, _, rfl, by rw [List.append_assoc], ol_frame hs _ _ _ _ (fun a ha => hH a (.inl (List.mem_append_left _ ha))) h1, this⟩
theorem nd_app3 {f1 f2 f3 : List Addr} (h : (f1 ++ (f2 ++ f3)).Nodup) : f1.Nodup ∧ f2.Nodup ∧ f3.Nodup ∧ (∀ a ∈ f1, a ∉ f2) ∧ (∀ a ∈ f1, a ∉ f3) ∧ ∀ a ∈ f2, a ∉ f3 := by
  rw [List.nodup_append, List.nodup_append] at h
  obtain ⟨h1, ⟨h2, h3, h4⟩, h5⟩ := h
  exact ⟨h1, h2, h3, fun a ha hb => h5 a ha a (List.mem_append_left _ hb) rfl, fun a ha hb => h5 a ha a (List.mem_append_right _ hb) rfl, fun a ha hb => h4 a ha a hb rfl⟩
theorem app3_nd {f1 f2 f3 : List Addr} (h1 : f1.Nodup) (h2 : f2.Nodup) (h3 : f3.Nodup) (a1 : ∀ a ∈ f1, a ∉ f2) (a2 : ∀ a ∈ f1, a ∉ f3) (a3 : ∀ a ∈ f2, a ∉ f3) : (f1 ++ (f2 ++ f3)).Nodup := by
  rw [List.nodup_append, List.nodup_append]
  refine ⟨h1, ⟨h2, h3, fun a ha b hb e => a3 a ha (e ▸ hb)⟩, fun a ha b hb e => ?_⟩
  subst e
  rcases List.mem_append.mp hb with z | z
  · exact a1 a ha z
  · exact a2 a ha z
/-- a field -/
theorem SubAt.fld {c : Str} {ns : List Str} {fs : Ow} {y : fs.ty.den} {put : fs.ty.den → o.ty.den} {fp : List Addr} {n : Nat} {π : fs.ty.den → o'.ty.den} {up : fs.ty.den → o'.ty.den → fs.ty.den}
    (S : SubAt K mg o (.ins c ns fs) y put F H v fp u) (hf : FlO fs n o' π up) : ∃ q C dx ws w, u = .ref q ∧ mg c = some (.ref C) ∧ H q = some (.ins C dx (ns.zip ws)) ∧ ns.length = ws.length ∧ ws[n]? = some w ∧ SubAt K mg o o' (π y) (fun z => put (up y z)) F H v fp w := by
  obtain ⟨fa, fb, s1, s2, s3, s4, oi, rb⟩ := S
  obtain ⟨q, C, dx, ws, fp2, e1, rfl, e3, hq, e5, e6, e7⟩ := oi
  cases (List.cons.inj e1).1
  obtain ⟨w, f1, f2, f3, hw, rfl, g3, g4⟩ := hf.split e7
  refine ⟨q, C, dx, ws, w, rfl, e3, hq, e6, hw, ?_⟩
  have nq := List.nodup_cons.mp s4
  have ndx := List.nodup_cons.mp nq.2
  obtain ⟨n1, n2, n3, n4, n5, n6⟩ := nd_app3 ndx.2
  refine ⟨fa ++ (q :: dx :: (f1 ++ f3)), f2, fun a ha => ?_, fun a ha => s2 a (by simp [ha]), fun a ha hb => ?_, n2, g3, fun F' H' y' fb' hs hH hy nd' hd => ?_⟩
  · rcases List.mem_append.mp ha with z | z
    · exact s1 a z
    · refine s2 a ?_
      simp only [List.mem_cons, List.mem_append] at z ⊢
      rcases z with z | z | z | z
      · exact .inl z
      · exact .inr (.inl z)
      · exact .inr (.inr (.inl z))
      · exact .inr (.inr (.inr (.inr z)))
  · rcases List.mem_append.mp ha with z | z
    · exact s3 a z (by simp [hb])
    · simp only [List.mem_cons, List.mem_append] at z
      rcases z with rfl | rfl | z | z
      · exact nq.1 (by simp [hb])
      · exact ndx.1 (by simp [hb])
      · exact n4 a z hb
      · exact n6 a hb z
  · have hin : ∀ a, a ∈ q :: dx :: (f1 ++ f3) → H' a = H a := fun a ha => hH a (List.mem_append_right _ ha)
    have hdis : ∀ a, a ∈ q :: dx :: (f1 ++ f3) → a ∉ fb' := fun a ha hb => hd a hb (List.mem_append_right _ ha)
    have o1 := g4 F' H' y' w fb' hs (fun a ha => hin a (by simp only [List.mem_cons, List.mem_append]; exact .inr (.inr ha))) hy
    have es : ws.set n w = ws := by
      obtain ⟨hn, e⟩ := List.getElem?_eq_some_iff.mp hw
      rw [← e]; exact List.set_getElem_self hn
    rw [es] at o1
    have ndn : (f1 ++ (fb' ++ f3)).Nodup := app3_nd n1 nd' n3 (fun a ha hb => hdis a (by simp [ha]) hb) n5 (fun a ha hb => hdis a (by simp [hb]) ha)
    have ndd : (dx :: (f1 ++ (fb' ++ f3))).Nodup := by
      refine List.nodup_cons.mpr ⟨fun z => ?_, ndn⟩
      simp only [List.mem_append] at z
      rcases z with z | z | z
      · exact ndx.1 (by simp [z])
      · exact hdis dx (by simp) z
      · exact ndx.1 (by simp [z])
    have ndq : (q :: dx :: (f1 ++ (fb' ++ f3))).Nodup := by
      refine List.nodup_cons.mpr ⟨fun z => ?_, ndd⟩
      simp only [List.mem_cons, List.mem_append] at z
      rcases z with z | z | z | z
      · exact nq.1 (by simp [z])
      · exact nq.1 (by simp [z])
      · exact hdis q (by simp) z
      · exact nq.1 (by simp [z])
    obtain ⟨fp', m1, m2, m3⟩ := rb F' H' (up y y') (q :: dx :: (f1 ++ (fb' ++ f3))) hs (fun a ha => hH a (List.mem_append_left _ ha))
      ⟨q, C, dx, ws, _, rfl, rfl, e3, (hin q (by simp)).trans hq, (hin dx (by simp)).trans e5, e6, o1⟩ ndq (fun a ha hb => by
        simp only [List.mem_cons, List.mem_append] at ha
        rcases ha with rfl | rfl | ha | ha | ha
        · exact s3 _ hb (by simp)
        · exact s3 _ hb (by simp)
        · exact s3 _ hb (by simp [ha])
        · exact hd a ha (List.mem_append_left _ hb)
        · exact s3 _ hb (by simp [ha]))
    refine ⟨fp', m1, fun a ha => ?_, m3⟩
    rcases m2 a ha with z | z
    · exact .inl (List.mem_append_left _ z)
    · simp only [List.mem_cons, List.mem_append] at z ⊢
      rcases z with z | z | z | z | z
      · exact .inl (.inr (.inl z))
      · exact .inl (.inr (.inr (.inl z)))
      · exact .inl (.inr (.inr (.inr (.inl z))))
      · exact .inr z
      · exact .inl (.inr (.inr (.inr (.inr z))))
/-! ## the entry of a dict -/
def dset {α β : Type} [DecidableEq α] : List (α × β) → α → β → List (α × β)
  | [], _, _ => []
  | p :: r, x, y => if p.1 = x then (p.1, y) :: r else p :: dset r x y
theorem allM.split {α β : Type} [DecidableEq α] {f : α → NestedKey} {Rk : α → Addr → Prop} {R : β → V → List Addr → Prop} (hf : ∀ a b, f a = f b → a = b) (x : α) : ∀ {xs : List (α × β)} {kvs : List NE} {gs : List (List Addr)} {y : β}, allM f Rk R xs kvs gs → dget xs x = some y →
    ∃ v g1 g2 g3, getN kvs (f x) = some v ∧ gs.flatten = g1 ++ (g2 ++ g3) ∧ R y v g2 ∧ ∀ (Rk' : α → Addr → Prop) (R' : β → V → List Addr → Prop) (y' : β) (g2' : List Addr), (∀ a b, Rk a b → Rk' a b) → (∀ z w g, (∀ a ∈ g, a ∈ g1 ∨ a ∈ g3) → R z w g → R' z w g) → R' y' v g2' →
      ∃ gs', allM f Rk' R' (dset xs x y') kvs gs' ∧ gs'.flatten = g1 ++ (g2' ++ g3)
  | [], _, _, _, _, e => nomatch e
  | p :: xs, q :: kvs, g :: gs, y, ⟨⟨a, b, c⟩, d⟩, e => by
    by_cases h : p.1 = x
    · have hq : q.1 = f x := by rw [a, h]
      rw [dget_pos h] at e
      cases e
      refine ⟨q.2.2, [], g, gs.flatten, getN_pos hq, rfl, c, fun Rk' R' y' g2' hk hR hy => ⟨g2' :: gs, ?_, rfl⟩⟩
      have es : dset (p :: xs) x y' = (p.1, y') :: xs := if_pos h
      rw [es]
      exact ⟨⟨a, hk _ _ b, hy⟩, d.imp (fun x b z => hk _ _ z) fun z w g m r => hR z w g (fun a ha => .inr (List.mem_flatten.mpr ⟨g, m, ha⟩)) r⟩
    · have hq : ¬ q.1 = f x := fun z => h (hf _ _ (a.symm.trans z))
      rw [dget_neg h] at e
      obtain ⟨v, g1, g2, g3, i1, i2, i3, i4⟩ := allM.split hf x d e
      refine ⟨v, g ++ g1, g2, g3, by rw [getN_neg hq]; exact i1, by rw [List.flatten_cons, i2, List.append_assoc], i3, fun Rk' R' y' g2' hk hR hy => ?_⟩
      obtain ⟨gs', j1, j2⟩ := i4 Rk' R' y' g2' hk (fun z w g' hg r => hR z w g' (fun a ha => (hg a ha).imp_left fun z => List.mem_append_right _ z) r) hy
      refine ⟨g :: gs', ?_, by rw [List.flatten_cons, j2, List.append_assoc]⟩
      have es : dset (p :: xs) x y' = p :: dset xs x y' := if_neg h
      rw [es]
      exact ⟨⟨a, hk _ _ b, hR _ _ _ (fun a ha => .inl (List.mem_append_left _ ha)) c⟩, j1⟩
  | _ :: _, [], _, _, z, _ => z.elim
  | _ :: _, _ :: _, [], _, z, _ => z.elim
/-- an entry's thing -/
theorem SubAt.nget {P : Program} {w : World} {k : Ty} [DecidableEq k.den] {d : List (k.den × o'.ty.den)} {xk : k.den} {y : o'.ty.den} {put : List (k.den × o'.ty.den) → o.ty.den} {fp : List Addr} (hk : KyN k) (S : SubAt K mg o (.dicN P w k o') d put F H v fp u) (hy : dget d xk = some y) :
    ∃ q kvs z, u = .ref q ∧ H q = some (dnO P w q kvs) ∧ (∀ e ∈ kvs, ∃ x, e.1 = k.nk x ∧ rl K mg k x [.ref e.2.1] F) ∧ getN kvs (k.nk xk) = some z ∧ SubAt K mg o o' y (fun z => put (dset d xk z)) F H v fp z := by
  obtain ⟨fa, fb, s1, s2, s3, s4, oi, rb⟩ := S
  obtain ⟨q, kvs, fps', e1, rfl, e3, am⟩ := oi
  cases (List.cons.inj e1).1
  obtain ⟨z, g1, g2, g3, i1, i2, i3, i4⟩ := am.split hk.inj xk hy
  have an := am.two (Sk := fun x b => rl K mg k x [.ref b] F) (S := fun _ _ => True) (fun _ _ z => z) (fun _ _ _ _ _ => True.intro)
  have ks : ∀ {xs : List (k.den × o'.ty.den)} {kvs : List NE}, allN k.nk (fun x b => rl K mg k x [.ref b] F) (fun _ _ => True) xs kvs → ∀ e ∈ kvs, ∃ x, e.1 = k.nk x ∧ rl K mg k x [.ref e.2.1] F := by
    intro xs
    induction xs with
    | nil =>
      intro kvs r e he
      cases kvs with
      | nil => cases he
      | cons _ _ => exact r.elim
    | cons x xs ih =>
      intro kvs r e he
      cases kvs with
      | nil => exact r.elim
      | cons e' kvs =>
        rcases List.mem_cons.mp he with rfl | he
        · exact ⟨x.1, r.1.1, r.1.2.1⟩
        · exact ih r.2 e he
  rw [i2] at s2 s3 s4
  have nq := List.nodup_cons.mp s4
  obtain ⟨n1, n2, n3, n4, n5, n6⟩ := nd_app3 nq.2
  refine ⟨q, kvs, z, rfl, e3, ks an, i1, fa ++ (q :: (g1 ++ g3)), g2, fun a ha => ?_, fun a ha => s2 a (by simp [ha]), fun a ha hb => ?_, n2, i3, fun F' H' y' fb' hs hH hy' nd' hd => ?_⟩
  · rcases List.mem_append.mp ha with z | z
    · exact s1 a z
    · refine s2 a ?_
      simp only [List.mem_cons, List.mem_append] at z ⊢
      rcases z with z | z | z
      · exact .inl z
      · exact .inr (.inl z)
      · exact .inr (.inr (.inr z))
  · rcases List.mem_append.mp ha with z | z
    · exact s3 a z (by simp [hb])
    · simp only [List.mem_cons, List.mem_append] at z
      rcases z with rfl | z | z
      · exact nq.1 (by simp [hb])
      · exact n4 a z hb
      · exact n6 a hb z
  · have hin : ∀ a, a ∈ q :: (g1 ++ g3) → H' a = H a := fun a ha => hH a (List.mem_append_right _ ha)
    have hdis : ∀ a, a ∈ q :: (g1 ++ g3) → a ∉ fb' := fun a ha hb => hd a hb (List.mem_append_right _ ha)
    obtain ⟨gs', j1, j2⟩ := i4 (fun x b => rl K mg k x [.ref b] F') (fun x v f => ol K mg o' x [v] F' H' f) y' fb' (fun a b r => rl_mono hs k a _ r)
      (fun z w g hg r => ol_frame hs _ _ _ _ (fun a ha => hin a (by simp only [List.mem_cons, List.mem_append]; exact .inr (hg a ha))) r) hy'
    have ndn : (g1 ++ (fb' ++ g3)).Nodup := app3_nd n1 nd' n3 (fun a ha hb => hdis a (by simp [ha]) hb) n5 (fun a ha hb => hdis a (by simp [hb]) ha)
    have ndq : (q :: (g1 ++ (fb' ++ g3))).Nodup := by
      refine List.nodup_cons.mpr ⟨fun z => ?_, ndn⟩
      simp only [List.mem_append] at z
      rcases z with z | z | z
      · exact nq.1 (by simp [z])
      · exact hdis q (by simp) z
      · exact nq.1 (by simp [z])
    obtain ⟨fp', m1, m2, m3⟩ := rb F' H' (dset d xk y') (q :: (g1 ++ (fb' ++ g3))) hs (fun a ha => hH a (List.mem_append_left _ ha))
      ⟨q, kvs, gs', rfl, by rw [j2], (hin q (by simp)).trans e3, j1⟩ ndq (fun a ha hb => by
        simp only [List.mem_cons, List.mem_append] at ha
        rcases ha with rfl | ha | ha | ha
        · exact s3 _ hb (by simp)
        · exact s3 _ hb (by simp [ha])
        · exact hd a ha (List.mem_append_left _ hb)
        · exact s3 _ hb (by simp [ha]))
    refine ⟨fp', m1, fun a ha => ?_, m3⟩
    rcases m2 a ha with z | z
    · exact .inl (List.mem_append_left _ z)
    · simp only [List.mem_cons, List.mem_append] at z ⊢
      rcases z with z | z | z | z
      · exact .inl (.inr (.inl z))
      · exact .inl (.inr (.inr (.inl z)))
      · exact .inr z
      · exact .inl (.inr (.inr (.inr z)))
end
/-! ## a slot's thing anew -/
/-- the state, with its footprints -/
structure SGf (K : PySem.W.Frag) (mg : Str → Option Value) (E : Ent) (Γ : Ctx) (σ : L2.St) (F H : Hp) (fps : Nat → List Addr) : Prop where
  e0 : Ext E.F0 E.B F H
  kp : ∀ i ∈ E.hk, σ[i]? = E.s0[i]?
  ow : Own K mg Γ σ F H E.B fps
theorem SGf.sg {K : PySem.W.Frag} {mg : Str → Option Value} {E : Ent} {Γ : Ctx} {σ : L2.St} {F H : Hp} {fps : Nat → List Addr} (g : SGf K mg E Γ σ F H fps) : SG K mg E Γ σ F H := ⟨g.e0, g.kp, fps, g.ow⟩
theorem SG.f {K : PySem.W.Frag} {mg : Str → Option Value} {E : Ent} {Γ : Ctx} {σ : L2.St} {F H : Hp} (g : SG K mg E Γ σ F H) : ∃ fps, SGf K mg E Γ σ F H fps := let ⟨a, b, fps, c⟩ := g; ⟨fps, a, b, c⟩
theorem SGf.renew {K : PySem.W.Frag} {mg : Str → Option Value} {E : Ent} {Γ : Ctx} {σ : L2.St} {F H F' H' : Hp} {fps : Nat → List Addr} {i : Nat} {o o' : Ow} {x : o.ty.den} {x' : o'.ty.den} {v : V} {fp' : List Addr} (g : SGf K mg E Γ σ F H fps) (hi : Γ[i]? = some (.o o x)) (hv : σ[i]? = some (some v)) (f1 : Same F F') (f2 : Same F' H')
    (k1 : fp'.Nodup) (k2 : ∀ a ∈ fp', F' a = none ∧ (a ∈ fps i ∨ H a = none)) (k3 : ∀ a, a ∉ fps i → H a ≠ none → H' a = H a ∧ (F a = none → F' a = none)) (k4 : ol K mg o' x' [v] F' H' fp') : SG K mg E (Γ.set i (.o o' x')) σ F' H' := by
  obtain ⟨e0, kp, w⟩ := g
  obtain ⟨ov, e1, v', rfl, ho⟩ := w.at_ i _ hi
  rw [hv] at e1
  cases e1
  have hil : i < Γ.length := (List.getElem?_eq_some_iff.mp hi).1
  have nB : ∀ a ∈ fps i, E.B a = none := fun a ha => (w.new i a ha).2
  have cell : ∀ j, ∀ a ∈ fps j, H a ≠ none := fun j a ha z => by
    obtain ⟨ob, h1, _⟩ := w.cell j a ha
    rw [h1] at z; cases z
  refine ⟨⟨e0.f.trans f1, fun b ob eb => ?_, f2, fun p hp hf => ?_⟩, kp, fun j => if j = i then fp' else fps j, fun j s e => ?_, fun j e => ?_, fun j => ?_, fun j l hjl a ha => ?_, fun j a ha => ?_⟩
  · have hb : b ∉ fps i := fun z => by rw [nB b z] at eb; cases eb
    have hH := e0.h _ _ eb
    rw [(k3 b hb (by rw [hH]; exact fun z => nomatch z)).1]; exact hH
  · have hb : p ∉ fps i := fun z => hp (nB p z)
    exact (k3 p hb (fun z => hp (e0.h.free z))).2 (e0.n p hp hf)
  · by_cases hj : j = i
    · subst hj
      rw [List.getElem?_set_self hil] at e
      cases e
      exact ⟨_, hv, v, rfl, by rw [if_pos rfl]; exact k4⟩
    · rw [List.getElem?_set_ne (Ne.symm hj)] at e
      obtain ⟨ov, e1, r⟩ := w.at_ j s e
      refine ⟨ov, e1, ?_⟩
      rw [if_neg hj]
      exact so_frame f1 (fun a ha => (k3 a (fun z => w.sep j i hj a ha z) (cell j a ha)).1) r
  · have hj : j ≠ i := fun z => by
      subst z
      rw [List.getElem?_set_self hil] at e; cases e
    rw [List.getElem?_set_ne (Ne.symm hj)] at e
    rw [if_neg hj]; exact w.out j e
  · by_cases hj : j = i
    · rw [if_pos hj]; exact k1
    · rw [if_neg hj]; exact w.nd j
  · by_cases hj : j = i
    · have hl : l ≠ i := fun z => hjl (hj.trans z.symm)
      rw [if_pos hj] at ha
      rw [if_neg hl]
      rcases (k2 a ha).2 with z | z
      · exact fun y => w.sep l i hl a y z
      · exact fun y => cell l a y z
    · rw [if_neg hj] at ha
      by_cases hl : l = i
      · rw [if_pos hl]
        intro y
        rcases (k2 a y).2 with z | z
        · exact w.sep j i hj a ha z
        · exact cell j a ha z
      · rw [if_neg hl]; exact w.sep j l hjl a ha
  · by_cases hj : j = i
    · rw [if_pos hj] at ha
      refine ⟨(k2 a ha).1, ?_⟩
      rcases (k2 a ha).2 with z | z
      · exact nB a z
      · exact e0.h.free z
    · rw [if_neg hj] at ha
      refine ⟨?_, (w.new j a ha).2⟩
      exact (k3 a (fun z => w.sep j i hj a ha z) (cell j a ha)).2 (w.new j a ha).1
/-- the thing within is changed -/
theorem SGf.sub {K : PySem.W.Frag} {mg : Str → Option Value} {E : Ent} {Γ : Ctx} {σ : L2.St} {F H : Hp} {fps : Nat → List Addr} {i : Nat} {o o' : Ow} {x : o.ty.den} {y : o'.ty.den} {put : o'.ty.den → o.ty.den} {v u : V} (g : SGf K mg E Γ σ F H fps) (hi : Γ[i]? = some (.o o x)) (hv : σ[i]? = some (some v))
    (S : SubAt K mg o o' y put F H v (fps i) u) : ∃ fb : List Addr, fb.Nodup ∧ (∀ a ∈ fb, F a = none) ∧ ol K mg o' y [u] F H fb ∧
    ∀ {F2 H2 H3 : Hp} {y' : o'.ty.den} {fb' : List Addr}, Ext F H F2 H2 → fb'.Nodup → (∀ a ∈ fb', a ∈ fb ∨ (H a = none ∧ F2 a = none)) → (∀ a, a ∉ fb → H2 a ≠ none → H3 a = H2 a) → Same F2 H3 → ol K mg o' y' [u] F2 H3 fb' → SG K mg E (Γ.set i (.o o (put y'))) σ F2 H3 := by
  obtain ⟨fa, fb, s1, s2, s3, s4, oi, rb⟩ := S
  have nF : ∀ a ∈ fps i, F a = none := fun a ha => (g.ow.new i a ha).1
  have cell : ∀ a ∈ fps i, H a ≠ none := fun a ha z => by
    obtain ⟨ob, h1, _⟩ := g.ow.cell i a ha
    rw [h1] at z; cases z
  refine ⟨fb, s4, fun a ha => nF a (s2 a ha), oi, fun {F2 H2 H3 y' fb'} ex k1 k2 k3 k4 k5 => ?_⟩
  have up : ∀ a, H a ≠ none → H2 a = H a := fun a h => by
    cases e : H a with
    | none => exact absurd e h
    | some z => exact ex.h _ _ e
  have fresh : ∀ a ∈ fb', a ∉ fa := fun a ha hb => by
    rcases k2 a ha with z | z
    · exact s3 a hb z
    · exact cell a (s1 a hb) z.1
  have faH : ∀ a ∈ fa, H3 a = H a := fun a ha => by
    have c := cell a (s1 a ha)
    rw [k3 a (s3 a ha) (by rw [up a c]; exact c), up a c]
  obtain ⟨fp', m1, m2, m3⟩ := rb F2 H3 y' fb' ex.f faH k5 k1 fresh
  refine g.renew hi hv ex.f k4 m1 (fun a ha => ?_) (fun a ha hn => ⟨?_, fun hf => ex.n a hn hf⟩) m3
  · rcases m2 a ha with z | z
    · exact ⟨ex.n a (cell a (s1 a z)) (nF a (s1 a z)), .inl (s1 a z)⟩
    · rcases k2 a z with z | z
      · exact ⟨ex.n a (cell a (s2 a z)) (nF a (s2 a z)), .inl (s2 a z)⟩
      · exact ⟨z.2, .inr z.1⟩
  · have hb : a ∉ fb := fun z => ha (s2 a z)
    rw [k3 a hb (by rw [up a hn]; exact hn), up a hn]
/-! ## places -/
def tPl (K : PySem.W.Frag) (mg : Str → Option Value) (E : Ent) (Γ : Ctx) (i : Nat) (o : Ow) (o' : Ow) (y : o'.ty.den) (put : o'.ty.den → o.ty.den) : TE := fun σ H Q => ∃ F v fps, SGf K mg E Γ σ F H fps ∧ σ[i]? = some (some v) ∧
  ∀ u, SubAt K mg o o' y put F H v (fps i) u → Q u H
abbrev PLc (X : Cx) (Γ : Ctx) (e : Expr) (i : Nat) (o o' : Ow) (y : o'.ty.den) (put : o'.ty.den → o.ty.den) : Prop := ∀ E : Ent, PE X e (tPl X.K X.mg E Γ i o o' y put)
section
variable {X : Cx} {W : WX} {hk : List Nat} {Γ Γ' Γv Γi : Ctx} {st : Stmt} {rest : List Stmt} {a b e : Expr} {es : List Expr} {pos p p' p2 apos cpos : Pos} {β : Type} {r : Rt} {t k : Ty} {I : β → Out} {c f n m : Str} {ns : List Str} {C : Addr} {fs o o' : Ow} {x : o.ty.den}
theorem pl_name (i : Nat) (hi : Γ[i]? = some (.o o x)) (hp : PE X (.Name n p) (tVar i)) : PLc X Γ (.Name n p) i o o x id := fun E => pe_imp hp fun σ H Q ⟨F, v, fps, g, e, k⟩ => ⟨v, e, by
  obtain ⟨ov, e1, v', rfl, ho⟩ := g.ow.at_ i _ hi
  rw [e] at e1
  cases e1
  exact k v (SubAt.refl (g.ow.nd i) ho)⟩
theorem pl_fld {i j : Nat} {y : fs.ty.den} {put : fs.ty.den → o.ty.den} {π : fs.ty.den → o'.ty.den} {up : fs.ty.den → o'.ty.den → fs.ty.den} (h : PLc X Γ a i o (.ins c ns fs) y put) (hc : X.mg c = some (.ref C)) (cl : Cls X.K C) (na : NoAttr X.K C f) (hn : fidx ns f = some j) (hf : FlO fs j o' π up)
    (hb : attributeBase a f X.env (eval a X.env) = eval a X.env) : PLc X Γ (.Attribute a f pos) i o o' (π y) (fun z => put (up y z)) := fun E => pe_imp (pe_fld (h E) hb) fun σ H Q ⟨F, v, fps, g, e, k⟩ => ⟨F, v, fps, g, e, fun u0 S0 => by
  obtain ⟨q, C', dx, ws, w, rfl, e3, e4, e5, e6, S⟩ := S0.fld hf
  rw [hc] at e3
  cases e3
  exact ⟨q, C, dx, _, w, rfl, e4, cl, na, lookup_fidx hn e6, k w S⟩⟩
theorem pl_nget {i j : Nat} [DecidableEq k.den] {d : List (k.den × o'.ty.den)} {xk : k.den} {y : o'.ty.den} {put : List (k.den × o'.ty.den) → o.ty.den} (hk : k.kyN = true) (hu : X.A.units + 64 < cLine) (h : PLc X Γ a i o (.dicN X.prog X.w k o') d put) (hj : Γ[j]? = some (.d k xk)) (hb : PE X b (tVar j)) (hs : NoSl b)
    (hy : dget d xk = some y) : PLc X Γ (.Subscript a b pos) i o o' y (fun z => put (dset d xk z)) := fun E =>
  have hk := kyN_of hk
  pe_imp (pe_nget hu (h E) hb hs) fun σ H Q ⟨F, v, fps, g, e, kk⟩ => ⟨F, v, fps, g, e, fun u0 S0 => by
    obtain ⟨ovk, ek, _, vk, rfl, rk⟩ := g.ow.at_ j _ hj
    obtain ⟨bb, rfl⟩ := hk.ref rk
    obtain ⟨q, kvs, z, rfl, e3, ks, i1, S⟩ := S0.nget hk hy
    refine ⟨_, ek, q, bb, kvs, k.nk xk, z, rfl, rfl, .inl e3, fun e he => ?_, hk.nk g.e0.i rk, i1, kk z S⟩
    obtain ⟨x, e1, e2⟩ := ks e he
    rw [e1]
    exact hk.nk g.e0.i e2⟩
end
end Gm
set_option Elab.async false
set_option linter.all false
set_option maxRecDepth 100000
set_option maxHeartbeats 4000000
namespace Gm
open PySem PySem.Spec L2
open PyProof.Rows (envOfC)
/-! ## statements on places -/
theorem upd_other {H : Hp} {q : Addr} {ob : HO} {fb : List Addr} (hq : q ∈ fb) : ∀ a, a ∉ fb → H a ≠ none → upd H q ob a = H a := fun a ha _ => upd_ne (fun z => ha (by rw [z]; exact hq))
theorem same_upd {F H : Hp} {q : Addr} {ob : HO} (h : Same F H) (nq : F q = none) : Same F (upd H q ob) := fun b z e => by
  rw [upd_ne (fun y => by rw [y, nq] at e; cases e)]; exact h _ _ e
section
variable {X : Cx} {W : WX} {hk : List Nat} {Γ Γ' Γv Γi : Ctx} {st : Stmt} {rest : List Stmt} {a b e : Expr} {es : List Expr} {pos p p' p2 apos cpos : Pos} {β : Type} {r : Rt} {t k : Ty} {I : β → Out} {c f n m : Str} {ns : List Str} {C : Addr} {fs o o' : Ow} {x : o.ty.den}
theorem lst_own {K : PySem.W.Frag} {mg : Str → Option Value} {F H : Hp} {q : Addr} : ∀ {xs : List t.den} {ws : List V}, all2 (fun y w => rl K mg t y [w] F) xs ws → H q = some (.lst ws) → ol K mg (.l (.d t)) xs [.ref q] F H [q] := by
  intro xs ws r h
  refine ⟨q, ws, xs.map fun _ => [], rfl, ?_, h, all3.of2 (S := fun y w => rl K mg t y [w] F) (fun x v z => ⟨rfl, z⟩) r⟩
  rw [flat_nil]
/-- place.append(e) -/
theorem bs_appP (i : Nat) {xs : List t.den} {put : List t.den → o.ty.den} {me : Mx t.den} {k : List t.den → Mx β} (hi : Γ[i]? = some (.o o x)) (hp : PLc X Γ a i o (.l (.d t)) xs put) (he : EM X W Γv e t me) (vw : Vw Γ (.d t) Γv) (hr : ∀ ys, BS X W hk (Γ.set i (.o o (put ys))) rest (k ys) I)
    (hbase : attributeBase a "append" X.env (eval a X.env) = eval a X.env) (hfew : ((backTo cpos (starEach [e] X.env)).all (fun x => !x.1) && (backToKw cpos (keywordEach [] X.env)).all (fun x => x.1.isSome) && decide ([e].length + ([] : List Keyword).length + (if ([] : List Keyword).isEmpty then 0 else 1) < 30)) = true)
    (hline : (apos.endLine == cpos.line) = true) (hs : starEach [e] X.env = (false, eval e X.env) :: starEach [] X.env) (hpl : (backTo cpos (starEach [] X.env)).any (·.1) = false) :
    BS X W hk Γ (.Expr (.Call (.Attribute a "append" apos) [e] [] cpos) pos :: rest) (me >>= fun y => ofO (appO xs y) >>= k) I :=
  have hr' : PSs X rest (fun D σ H => ∃ ys, tS X.K X.mg W hk (Γ.set i (.o o (put ys))) (k ys) I D σ H) := ⟨fun pins s σ H D J ⟨x, q⟩ => (hr x).run pins s σ H D J q⟩
  pss_imp (pss_cons (ps_expr (pe_bm PySem.F.plainAttrs_list PySem.F.slot_list_append PySem.F.type_list_append mt_append (pe_ex hp) (pa_cons he pa_nil hs) hbase hfew hline hs hpl)) hr') fun D σ H ⟨E, F, h, g, q⟩ => by
    obtain ⟨fps, g⟩ := g.f
    obtain ⟨ov, e1, v, rfl, ho⟩ := g.ow.at_ i _ hi
    refine ⟨E, F, v, fps, g, e1, fun u S => ?_⟩
    obtain ⟨fb, nd, nF, ob, fin⟩ := g.sub hi e1 S
    obtain ⟨q0, ws, rfl, e3, e4, rr⟩ := own_lst ob
    refine ⟨.inl ⟨rfl, ws, SqL.of e4⟩, ?_⟩
    obtain ⟨G, g1, g2, g3⟩ := g.sg.look vw
    refine ⟨G, g1, g2, q.bind.post g.sg (fun F' H' x => let ⟨F2, a, _, b⟩ := g3 F' H' x; ⟨F2, a, b⟩) fun y py u F' H' ex ru => ?_⟩
    obtain ⟨F2, x2, back, _⟩ := g3 F' H' ex
    have ru2 : rl X.K X.mg t y [u] F2 := back y u ru
    unfold appO at py
    by_cases hl : xs.length < sizeLine
    · rw [if_pos hl] at py
      have hq : q0 ∈ fb := by rw [e3]; exact List.mem_singleton.mpr rfl
      have nF2 : F2 q0 = none := x2.n q0 (by rw [e4]; exact fun z => nomatch z) (nF q0 hq)
      refine ⟨q0, ws, u, rfl, rfl, x2.h _ _ e4, by rw [← rr.len]; exact hl, xs ++ [y], E, F2, h, ?_, py⟩
      exact fin x2 nd (fun a ha => .inl ha) (upd_other hq) (same_upd x2.i nF2) (by rw [e3]; exact lst_own (all2.app (ys := [y]) (ws := [u]) (rr.imp fun z v q => rl_mono x2.f t z [v] q) ⟨ru2, True.intro⟩) upd_same)
    · rw [if_neg hl] at py; exact py.elim
/-! ## place[x] = y on a dict of nested keys -/
def sNPut (X : Cx) (td ty tv : TE) : TS := fun D σ H => tv σ H fun v H1 => td σ H1 fun x H2 => ty σ H2 fun y H3 => ∃ a b kvs k, x = .ref a ∧ y = .ref b ∧ H3 a = some (dnO X.prog X.w a kvs) ∧ (∀ p ∈ kvs, NK X H3 p.1 p.2.1) ∧ NK X H3 k b ∧ kvs.length < sizeLine ∧ D.nx σ (upd H3 a (dnO X.prog X.w a (putN kvs k b v)))
theorem ps_nput {td ty tv : TE} {value i : Expr} (hu : X.A.units + 64 < cLine) (ho : PE X a td) (hi : PE X i ty) (hv : PE X value tv) (hs : swapsWith value (some (.Subscript a i p2)) pos.line X.env = pure false) : PS X (.Assign [.Subscript a i p2] value pos) (sNPut X td ty tv) := by
  refine ⟨fun pins s σ H D I h => ?_⟩
  refine wpAny_Assign_Subscript (thn (hv.run pins s σ H _ I h) fun r s1 ⟨v, H1, I1, rv, q1⟩ => thn (ho.run pins s1 σ H1 _ I1 q1) fun u s2 ⟨x, H2, I2, rx, q2⟩ => thn (hi.run pins s2 σ H2 _ I2 q2) fun iv s3 ⟨y, H3, I3, ry, c, b, kvs, k, ex, ey, z1, z2, z3, z4, q3⟩ => ?_) hs
  subst ex ey
  cases (show u = Value.ref c from rx)
  cases (show iv = Value.ref b from ry)
  exact n_setItem hu I3 z1 z2 z3 z4 rv fun s4 I4 => ⟨σ, _, I4, q3⟩
/-- the entries with the values' footprints all empty -/
theorem allM.of_d {K : PySem.W.Frag} {mg : Str → Option Value} {F H : Hp} {α : Type} {f : α → NestedKey} {Rk : α → Addr → Prop} : ∀ {xs : List (α × t.den)} {kvs : List NE}, allN f Rk (fun x v => rl K mg t x [v] F) xs kvs → allM f Rk (fun x v g => ol K mg (.d t) x [v] F H g) xs kvs (xs.map fun _ => [])
  | [], [], _ => True.intro
  | _ :: _, _ :: _, ⟨⟨a, b, c⟩, d⟩ => ⟨⟨a, b, rfl, c⟩, allM.of_d d⟩
  | [], _ :: _, z => z.elim
  | _ :: _, [], z => z.elim
theorem own_dn {P : Program} {w : World} {K : PySem.W.Frag} {mg : Str → Option Value} {xs : List (k.den × t.den)} {v : V} {F H : Hp} {fp : List Addr} (h : ol K mg (.dicN P w k (.d t)) xs [v] F H fp) : ∃ q kvs, v = .ref q ∧ fp = [q] ∧ H q = some (dnO P w q kvs) ∧ allN k.nk (fun x b => rl K mg k x [.ref b] F) (fun y u => rl K mg t y [u] F) xs kvs := by
  obtain ⟨q, kvs, fps, e1, e2, e3, r⟩ := h
  have hn : ∀ {xs : List (k.den × t.den)} {kvs : List NE} {fps : List (List Addr)}, allM k.nk (fun x b => rl K mg k x [.ref b] F) (fun x w f => ol K mg (.d t) x [w] F H f) xs kvs fps → fps.flatten = [] := by
    intro xs
    induction xs with
    | nil => intro ws fps r; cases ws with
      | nil => cases fps with
        | nil => rfl
        | cons _ _ => exact r.elim
      | cons _ _ => exact r.elim
    | cons x xs ih => intro ws fps r; cases ws with
      | nil => exact r.elim
      | cons w ws => cases fps with
        | nil => exact r.elim
        | cons f fps => rw [List.flatten_cons, ih r.2, r.1.2.2.1]; rfl
  refine ⟨q, kvs, (List.cons.inj e1).1, by rw [e2, hn r], e3, r.two (fun _ _ z => z) fun x v g _ z => z.2⟩
theorem dn_own {P : Program} {w : World} {K : PySem.W.Frag} {mg : Str → Option Value} {F H : Hp} {q : Addr} {xs : List (k.den × t.den)} {kvs : List NE} (r : allN k.nk (fun x b => rl K mg k x [.ref b] F) (fun y u => rl K mg t y [u] F) xs kvs) (h : H q = some (dnO P w q kvs)) : ol K mg (.dicN P w k (.d t)) xs [.ref q] F H [q] :=
  ⟨q, kvs, xs.map fun _ => [], rfl, by rw [flat_nil], h, allM.of_d r⟩
theorem bs_nput (i : Nat) [DecidableEq k.den] {xs : List (k.den × t.den)} {put : List (k.den × t.den) → o.ty.den} {me : Mx t.den} {mx : Mx k.den} {kk : List (k.den × t.den) → Mx β} (hk2 : k.kyN = true) (hu : X.A.units + 64 < cLine) (hi : Γ[i]? = some (.o o x)) (hp : PLc X Γ a i o (.dicN X.prog X.w k (.d t)) xs put) (he : EM X W Γv e t me) (vw : Vw Γ (.d t) Γv)
    (hj : EM X W Γi b k mx) (vi : Vw Γ (.d k) Γi) (hr : ∀ ys, BS X W hk (Γ.set i (.o o (put ys))) rest (kk ys) I) (hs : swapsWith e (some (.Subscript a b p2)) pos.line X.env = pure false) :
    BS X W hk Γ (.Assign [.Subscript a b p2] e pos :: rest) (me >>= fun y => mx >>= fun x => ofO (dputO xs x y) >>= kk) I :=
  have hk2 := kyN_of hk2
  have hr' : PSs X rest (fun D σ H => ∃ ys, tS X.K X.mg W hk (Γ.set i (.o o (put ys))) (kk ys) I D σ H) := ⟨fun pins s σ H D J ⟨x, q⟩ => (hr x).run pins s σ H D J q⟩
  pss_imp (pss_cons (ps_nput hu (pe_ex hp) hj he hs) hr') fun D σ H ⟨E, F, h, g, q⟩ => by
    obtain ⟨G, g1, g2, g3⟩ := g.look vw
    refine ⟨G, g1, g2, q.bind.post g (fun F' H' x => let ⟨F2, a, _, b⟩ := g3 F' H' x; ⟨F2, a, b⟩) fun y py u F' H' ex ru => ?_⟩
    obtain ⟨F2, x2, back, _⟩ := g3 F' H' ex
    have ru2 : rl X.K X.mg t y [u] F2 := back y u ru
    obtain ⟨fps, gg⟩ := (g.grow x2).f
    obtain ⟨ov, e1, v, rfl, ho⟩ := gg.ow.at_ i _ hi
    refine ⟨E, F2, v, fps, gg, e1, fun u0 S => ?_⟩
    obtain ⟨fb, nd, nF, ob, fin⟩ := gg.sub hi e1 S
    obtain ⟨q0, kvs, rfl, e3, e4, rr⟩ := own_dn ob
    obtain ⟨G2, k1, k2, k3⟩ := gg.sg.look vi
    refine ⟨G2, k1, k2, py.bind.post gg.sg (fun F' H' x => let ⟨F3, a, _, b⟩ := k3 F' H' x; ⟨F3, a, b⟩) fun x px v2 F'' H'' ex2 rx => ?_⟩
    obtain ⟨F3, x3, back3, _⟩ := k3 F'' H'' ex2
    have rx2 : rl X.K X.mg k x [v2] F3 := back3 x v2 rx
    obtain ⟨bb, rfl⟩ := hk2.ref rx2
    unfold dputO at px
    by_cases hz : xs.length < sizeLine
    · rw [if_pos hz] at px
      have ru3 : rl X.K X.mg t y [u] F3 := rl_mono x3.f t y [u] ru2
      have hl3 := x3.h _ _ e4
      have rr3 := rr.imp (fun z b q => rl_mono x3.f k z [.ref b] q) (fun z w q => rl_mono x3.f t z [w] q)
      have hq : q0 ∈ fb := by rw [e3]; exact List.mem_singleton.mpr rfl
      have nF3 : F3 q0 = none := x3.n q0 (by rw [e4]; exact fun z => nomatch z) (nF q0 hq)
      refine ⟨q0, bb, kvs, k.nk x, rfl, rfl, hl3, rr3.nks hk2 x3.i, hk2.nk x3.i rx2, by rw [← rr.len]; exact hz, dput xs x y, E, F3, h, ?_, px⟩
      exact fin x3 nd (fun a ha => .inl ha) (upd_other hq) (same_upd x3.i nF3) (by rw [e3]; exact dn_own (rr3.put hk2.inj x rx2 ru3) upd_same)
    · rw [if_neg hz] at px; exact px.elim
/-! ## place[x] += y -/
def sNAug (X : Cx) (td ty tv : TE) (rd : V → V → Hp → VK → Prop) : TS := fun D σ H => td σ H fun x H1 => ty σ H1 fun y H2 => ∃ a b kvs k v, x = .ref a ∧ y = .ref b ∧ Rd H2 a (dnO X.prog X.w a kvs) ∧ (∀ p ∈ kvs, NK X H2 p.1 p.2.1) ∧ NK X H2 k b ∧ getN kvs k = some v ∧
  tv σ H2 fun y2 H3 => rd v y2 H3 fun z H4 => ∃ kvs', H4 a = some (dnO X.prog X.w a kvs') ∧ (∀ p ∈ kvs', NK X H4 p.1 p.2.1) ∧ NK X H4 k b ∧ kvs'.length < sizeLine ∧ D.nx σ (upd H4 a (dnO X.prog X.w a (putN kvs' k b z)))
theorem ps_naug {td ty tv : TE} {value i : Expr} {op : Operator} {rd : V → V → Hp → VK → Prop} (hu : X.A.units + 64 < cLine) (ho : PE X a td) (hi : PE X i ty) (hv : PE X value tv) (hop : InOp X op rd)
    (ha : ∀ ov iv new, augStore i ov iv new = (do holding [new, ov, iv] (setItem ov iv new); release [new, ov, iv] []; pure .next)) : PS X (.AugAssign (.Subscript a i p2) op value pos) (sNAug X td ty tv rd) := by
  refine ⟨fun pins s σ H D I h => ?_⟩
  refine wpAny_AugAssign_SubscriptAny (thn (ho.run pins s σ H _ I h) fun u s1 ⟨x, H1, I1, rx, q1⟩ => thn (hi.run pins s1 σ H1 _ I1 q1) fun iv s2 ⟨y, H2, I2, ry, c, b, kvs, k, v, ex, ey, z1, z2, z3, z4, q2⟩ => ?_) ha
  subst ex ey
  cases (show u = Value.ref c from rx)
  cases (show iv = Value.ref b from ry)
  refine n_getItem hu I2 z1 z2 z3 z4 fun w' s3 I3 rw' => thn (hv.run pins s3 σ H2 _ I3 q2) fun w2 s4 ⟨y2, H3, I4, ry2, q3⟩ => thn (hop pins s4 σ H3 v y2 w' w2 _ I4 rw' ry2 q3) fun w3 s5 ⟨z, H4, I5, rz, kvs', g1, g2, g3, g4, q4⟩ => ?_
  exact n_setItem hu I5 g1 g2 g3 g4 rz fun s6 I6 => ⟨σ, _, I6, q4⟩
def rI2 (gf : Int → Int → Int) : V → V → Hp → VK → Prop := fun v w H Q => ∃ i j, v = .int i ∧ w = .int j ∧ Q (.int (gf i j)) H
theorem in_addI : InOp X .Add (rI2 fun i j => i + j) := in_add
theorem in_subI : InOp X .Sub (rI2 fun i j => i - j) := in_sub
theorem bs_naug (i : Nat) {op : Operator} {gf : Int → Int → Int} [DecidableEq k.den] {xs : List (k.den × Int)} {put : List (k.den × Int) → o.ty.den} {me : Mx Int} {mx : Mx k.den} {kk : List (k.den × Int) → Mx β} (hop : InOp X op (rI2 gf)) (hk2 : k.kyN = true) (hu : X.A.units + 64 < cLine) (hi : Γ[i]? = some (.o o x)) (hp : PLc X Γ a i o (.dicN X.prog X.w k (.d .int)) xs put)
    (hj : EM X W Γi b k mx) (vi : Vw Γ (.d k) Γi) (he : EM X W Γv e .int me) (vw : Vw Γ (.d .int) Γv) (hr : ∀ ys, BS X W hk (Γ.set i (.o o (put ys))) rest (kk ys) I)
    (ha : ∀ ov iv new, augStore b ov iv new = (do holding [new, ov, iv] (setItem ov iv new); release [new, ov, iv] []; pure .next)) :
    BS X W hk Γ (.AugAssign (.Subscript a b p2) op e pos :: rest) (mx >>= fun x => ofO (dget xs x) >>= fun z => me >>= fun y => ofO (dputO (k := k) (t := .int) xs x (gf z y)) >>= kk) I :=
  have hk2 := kyN_of hk2
  have hr' : PSs X rest (fun D σ H => ∃ ys, tS X.K X.mg W hk (Γ.set i (.o o (put ys))) (kk ys) I D σ H) := ⟨fun pins s σ H D J ⟨x, q⟩ => (hr x).run pins s σ H D J q⟩
  pss_imp (pss_cons (ps_naug hu (pe_ex hp) hj he hop ha) hr') fun D σ H ⟨E, F, h, g, q⟩ => by
    obtain ⟨fps, g⟩ := g.f
    obtain ⟨ov, e1, v, rfl, ho⟩ := g.ow.at_ i _ hi
    refine ⟨E, F, v, fps, g, e1, fun u0 S => ?_⟩
    obtain ⟨fb, nd, nF, ob, fin⟩ := g.sub hi e1 S
    obtain ⟨q0, kvs, rfl, e3, e4, rr⟩ := own_dn ob
    obtain ⟨G2, k1, k2, k3⟩ := g.sg.look vi
    refine ⟨G2, k1, k2, q.bind.post g.sg (fun F' H' x => let ⟨F3, a, _, b⟩ := k3 F' H' x; ⟨F3, a, b⟩) fun x px v2 F1 H1 ex1 rx => ?_⟩
    obtain ⟨F2, x2, back2, _⟩ := k3 F1 H1 ex1
    have rx2 : rl X.K X.mg k x [v2] F2 := back2 x v2 rx
    obtain ⟨bb, rfl⟩ := hk2.ref rx2
    have rr2 := rr.imp (fun z b q => rl_mono x2.f k z [.ref b] q) (fun z w q => rl_mono x2.f .int z [w] q)
    rcases rr2.val hk2.inj x with ⟨n1, n2⟩ | ⟨z, u, n1, n2, ru⟩
    · rw [n1] at px; exact px.elim
    rw [n1] at px
    cases (List.cons.inj (show [u] = [V.int z] from ru)).1
    have gg := g.sg.grow x2
    refine ⟨q0, bb, kvs, k.nk x, .int z, rfl, rfl, .inl (x2.h _ _ e4), rr2.nks hk2 x2.i, hk2.nk x2.i rx2, n2, ?_⟩
    obtain ⟨G, g1, g2, g3⟩ := gg.look vw
    have px : postS X.mg W E (me >>= fun y => ofO (dputO (k := k) (t := .int) xs x (gf z y)) >>= kk) fun b => outP X.K X.mg E D (I b) := px
    refine ⟨G, g1, g2, px.bind.post gg (fun F' H' x => let ⟨F2, a, _, b⟩ := g3 F' H' x; ⟨F2, a, b⟩) fun y py u F' H' ex ru => ?_⟩
    obtain ⟨F3, x3, back, _⟩ := g3 F' H' ex
    cases (List.cons.inj (show [u] = [V.int y] from back y u ru)).1
    refine ⟨z, y, rfl, rfl, ?_⟩
    unfold dputO at py
    by_cases hz : xs.length < sizeLine
    · rw [if_pos hz] at py
      have x23 := x2.trans x3
      have hl3 := x23.h _ _ e4
      have rr3 := rr2.imp (fun z b q => rl_mono x3.f k z [.ref b] q) (fun z w q => rl_mono x3.f .int z [w] q)
      have hq : q0 ∈ fb := by rw [e3]; exact List.mem_singleton.mpr rfl
      have nF3 : F3 q0 = none := x23.n q0 (by rw [e4]; exact fun z => nomatch z) (nF q0 hq)
      refine ⟨kvs, hl3, rr3.nks hk2 x3.i, hk2.nk x3.i (rl_mono x3.f k x _ rx2), by rw [← rr.len]; exact hz, dput xs x (gf z y), E, F3, h, ?_, py⟩
      exact fin x23 nd (fun a ha => .inl ha) (upd_other hq) (same_upd x3.i nF3) (by rw [e3]; exact dn_own (t := .int) (rr3.put hk2.inj x (rl_mono x3.f k x _ rx2) (show rl X.K X.mg .int (gf z y) [.int (gf z y)] F3 from rfl)) upd_same)
    · rw [if_neg hz] at py; exact py.elim
end
end Gm
set_option Elab.async false
set_option linter.all false
set_option maxRecDepth 100000
set_option maxHeartbeats 4000000
namespace Gm
open PySem PySem.Spec L2
open PyProof.Rows (envOfC)
/-! ## owned fields -/
def Ow.snocO : Ow → Ow → Ow
  | .pr a b, t => .pr a (b.snocO t)
  | .nl, t => .pr t .nl
  | o, _ => o
def snocW : (o : Ow) → (t : Ow) → o.ty.den → t.ty.den → (o.snocO t).ty.den
  | .pr _ b, t, x, v => (x.1, snocW b t x.2 v)
  | .nl, _, _, v => (v, ())
  | .d _, _, x, _ => x
  | .l _, _, x, _ => x
  | .ins _ _ _, _, x, _ => x
  | .dic _ _, _, x, _ => x
  | .dicN _ _ _ _, _, x, _ => x
  | .opt _, _, x, _ => x
  | .hl _, _, x, _ => x
section
variable {K : PySem.W.Frag} {mg : Str → Option Value} {F H : Hp} {o2 : Ow}
theorem ol_snocO {v : V} {y : o2.ty.den} {fn : List Addr} (rv : ol K mg o2 y [v] F H fn) : ∀ {o : Ow}, o.isCh = true → ∀ {x : o.ty.den} {ws : List V} {fp : List Addr}, ol K mg o x ws F H fp → ol K mg (o.snocO o2) (snocW o o2 x y) (ws ++ [v]) F H (fp ++ fn)
  | .nl, _, x, ws, fp, h => by
    obtain ⟨rfl, rfl⟩ := h
    exact ⟨v, [], fn, [], rfl, (List.append_nil fn).symm, rv, rfl, rfl⟩
  | .pr a b, hc, x, ws, fp, h => by
    obtain ⟨u, r, f1, f2, rfl, rfl, h1, h2⟩ := h
    exact ⟨u, r ++ [v], f1, f2 ++ fn, rfl, List.append_assoc .., h1, ol_snocO rv (o := b) hc h2⟩
  | .d _, hc, _, _, _, _ => nomatch hc
  | .l _, hc, _, _, _, _ => nomatch hc
  | .ins _ _ _, hc, _, _, _, _ => nomatch hc
  | .dic _ _, hc, _, _, _, _ => nomatch hc
  | .dicN _ _ _ _, hc, _, _, _, _ => nomatch hc
  | .opt _, hc, _, _, _, _ => nomatch hc
  | .hl _, hc, _, _, _, _ => nomatch hc
end
section
variable {X : Cx} {W : WX} {hk : List Nat} {Γ Γ' Γv Γi : Ctx} {st : Stmt} {rest : List Stmt} {a b e : Expr} {es : List Expr} {pos p p' p2 apos cpos : Pos} {β : Type} {r : Rt} {t k : Ty} {I : β → Out} {c f n m x : Str} {ns : List Str} {C : Addr} {fs o o2 : Ow}
/-- self.f = e, a new field, owned -/
theorem b_fldO (i : Nat) {y : fs.ty.den} {me : Mx o2.ty.den} {k : o2.ty.den → Mx β} (hi : Γ[i]? = some (.o (.ins c ns fs) y)) (hx : PE X (.Name x p) (tVar i)) (hc : X.mg c = some (.ref C)) (cl : Cls X.K C) (na : NoAttr X.K C f) (hn : fidx ns f = none) (hch : fs.isCh = true) (hlen : Nat.ble (ns.length + 1) 1000 = true)
    (he : EO X W Γv e o2 me) (vw : Vw Γ (.o o2) Γv) (hr : ∀ v, BS X W hk (Γ.set i (.o (.ins c (ns ++ [f]) (fs.snocO o2)) (snocW fs o2 y v))) rest (k v) I) (hs : swapsWith e (some (.Attribute (.Name x p) f p')) pos.line X.env = pure false) :
    BS X W hk Γ (.Assign [.Attribute (.Name x p) f p'] e pos :: rest) (me >>= k) I :=
  have hr' : PSs X rest (fun D σ H => ∃ v, tS X.K X.mg W hk (Γ.set i (.o (.ins c (ns ++ [f]) (fs.snocO o2)) (snocW fs o2 y v))) (k v) I D σ H) := ⟨fun pins s σ H D J ⟨v, q⟩ => (hr v).run pins s σ H D J q⟩
  pss_imp (pss_cons (ps_fld hx he hs) hr') fun D σ H ⟨E, F, h, g, q⟩ => by
    obtain ⟨fps, g⟩ := g.f
    obtain ⟨ov, e1, v0, rfl, ho⟩ := g.ow.at_ i _ hi
    obtain ⟨G, g1, g2, g3⟩ := g.sg.look vw
    refine ⟨G, g1, g2, q.bind.post g.sg (fun F' H' x => let ⟨F2, a, _, b⟩ := g3 F' H' x; ⟨F2, a, b⟩) fun z pz u F' H' ex ru => ?_⟩
    obtain ⟨F2, x2, back, _⟩ := g3 F' H' ex
    obtain ⟨fn, on, ndn, nwn⟩ := back z u ru
    have cell : ∀ a ∈ fps i, H a ≠ none := fun a ha z => by
      obtain ⟨ob, h1, _⟩ := g.ow.cell i a ha
      rw [h1] at z; cases z
    have nF : ∀ a ∈ fps i, F a = none := fun a ha => (g.ow.new i a ha).1
    have nd := g.ow.nd i
    obtain ⟨q, C', dx, ws, fp', e2, e3, mc, h1, h2, hl, oo⟩ := ho
    rw [hc] at mc; cases mc
    cases (List.cons.inj e2).1
    rw [e3] at nd cell nF
    have nq : q ∉ dx :: fp' := (List.nodup_cons.mp nd).1
    have ndx := List.nodup_cons.mp (List.nodup_cons.mp nd).2
    have dis : ∀ a ∈ fn, a ∉ q :: dx :: fp' := fun a ha hb => cell a hb (nwn a ha).2
    refine ⟨.ref q, e1, q, C, dx, ns.zip ws, rfl, x2.h _ _ h1, cl, na, ?_, z, E, F2, h, ?_, pz⟩
    · have := Nat.le_of_ble_eq_true hlen
      rw [List.length_zip, ← hl]; omega
    · rw [putF_new hn hl]
      have hup : ∀ a, H a ≠ none → H' a = H a := fun a h => by
        cases e : H a with
        | none => exact absurd e h
        | some z => exact x2.h _ _ e
      have nF2 : ∀ a ∈ q :: dx :: fp', F2 a = none := fun a ha => x2.n a (cell a ha) (nF a ha)
      have o3 : ol X.K X.mg fs y ws F2 H' fp' := ol_frame x2.f _ _ _ _ (fun a ha => hup a (cell a (by simp [ha]))) oo
      have o4 : ol X.K X.mg (fs.snocO o2) (snocW fs o2 y z) (ws ++ [u]) F2 H' (fp' ++ fn) := ol_snocO on hch o3
      have nq2 : q ∉ fp' ++ fn := fun z => by
        rcases List.mem_append.mp z with z | z
        · exact nq (by simp [z])
        · exact dis q z (by simp)
      refine g.renew (fp' := q :: dx :: (fp' ++ fn)) hi e1 x2.f (same_upd x2.i (nF2 q (by simp))) ?_ (fun a ha => ?_) (fun a ha hn => ⟨?_, fun hf => x2.n a hn hf⟩) ⟨q, C, dx, ws ++ [u], _, rfl, rfl, hc, upd_same, ?_, by rw [List.length_append, List.length_append, hl]; rfl, ol_frm o4 nq2⟩
      · refine List.nodup_cons.mpr ⟨fun z => ?_, List.nodup_cons.mpr ⟨fun z => ?_, List.nodup_append.mpr ⟨ndx.2, ndn, fun a ha b hb e => dis b hb (by rw [← e]; simp [ha])⟩⟩⟩
        · rcases List.mem_cons.mp z with z | z
          · exact nq (by rw [z]; exact List.mem_cons_self ..)
          · exact nq2 z
        · rcases List.mem_append.mp z with z | z
          · exact ndx.1 z
          · exact dis dx z (by simp)
      · simp only [List.mem_cons, List.mem_append] at ha
        rw [e3]
        rcases ha with rfl | rfl | ha | ha
        · exact ⟨nF2 _ (by simp), .inl (by simp)⟩
        · exact ⟨nF2 _ (by simp), .inl (by simp)⟩
        · exact ⟨nF2 _ (by simp [ha]), .inl (by simp [ha])⟩
        · exact ⟨(nwn a ha).1, .inr (nwn a ha).2⟩
      · rw [e3] at ha
        rw [upd_ne (fun z => ha (by rw [z]; simp)), hup a hn]
      · rw [upd_ne (fun z => nq (by rw [z]; simp)), hup dx (cell dx (by simp))]; exact h2
end
/-! ## methods that change their self -/
def spM (K : PySem.W.Frag) (mg : Str → Option Value) (o : Ow) (ts : Ty) (t : Ty) (h : o.ty.den → ts.den → Mx (t.den × o.ty.den)) : Sp := fun vs H Q E => ∃ (F B : Hp) (x : o.ty.den) (y : ts.den) (v : V) (ws : List V) (fp : List Addr), vs = v :: ws ∧ Same F H ∧ Same B H ∧ ol K mg o x [v] F H fp ∧ fp.Nodup ∧ (∀ a ∈ fp, F a = none ∧ B a = none) ∧ rl K mg ts y ws F ∧ match h x y with
  | .ok z => ∀ u F' H' fp', Ext F B F' H' → rl K mg t z.1 [u] F' → ol K mg o z.2 [v] F' H' fp' → fp'.Nodup → (∀ a ∈ fp', F' a = none ∧ B a = none) → Q u H'
  | .ex e => ∀ cls d F' H', Ext F B F' H' → xr mg e cls d F' → E cls d H'
  | .no => False
section
variable {P : Program} {w : World} {K : PySem.W.Frag} {mg : Str → Option Value} {base : Heap} {x qual : Str} {st : Stmt} {f : Addr} {fd : FuncData} {dvs : List V} {kws : List (Str × V)} {N ps : List Str} {k n : Nat} {o : Ow} {ts t : Ty}
theorem sg_startM {F B H : Hp} {n : Nat} {x : o.ty.den} {y : ts.den} {v : V} {ws : List V} {fp : List Addr} (hs : Same F H) (hB : Same B H) (ho : ol K mg o x [v] F H fp) (nd : fp.Nodup) (nw : ∀ a ∈ fp, F a = none ∧ B a = none) (ha : ts.args = some n) (r : rl K mg ts y ws F) :
    SG K mg ⟨F, B, [0], L2.start N (v :: ws)⟩ (.o o x :: ctx0 ts y (N.length - (n + 1))) (L2.start N (v :: ws)) F H := by
  obtain ⟨a, b, c⟩ := sg_startO (N := N) hs hB ho nd nw ha r
  exact ⟨a, fun i _ => rfl, c⟩
theorem end_M {F B F' H' : Hp} {s0 : L2.St} {v : V} {o : Ow} {x : o.ty.den} {Γ : Ctx} {σ : L2.St} (h0 : s0[0]? = some (some v)) (hΓ : Γ[0]? = some (.o o x)) (g : SG K mg ⟨F, B, [0], s0⟩ Γ σ F' H') : Ext F B F' H' ∧ ∃ fp', ol K mg o x [v] F' H' fp' ∧ fp'.Nodup ∧ ∀ a ∈ fp', F' a = none ∧ B a = none := by
  obtain ⟨e0, kp, fps, w⟩ := g
  obtain ⟨ov, e1, v', rfl, ho⟩ := w.at_ 0 _ hΓ
  have := kp 0 (List.mem_singleton.mpr rfl)
  rw [e1] at this
  have e2 : (some (some v') : Option (Option V)) = some (some v) := this.trans h0
  cases e2
  exact ⟨e0, fps 0, ho, w.nd 0, w.new 0⟩
/-- a def whose self is changed, without a return -/
theorem fn_bodyM {h : o.ty.den → ts.den → Mx o.ty.den} (F : FunD K x qual (defArgs st) (defBody st) (defScope st) dvs kws f fd) (S : FnScope N ps (defScope st)) (hp : ps.length = n + 1) (ha : ts.args = some n)
    (hb : ∀ (cdv : Value) (A : Around) (outer : List Env) (s : Shared) (H : Hp) (E : XK), Room k (A.deeper (envOfC qual (defScope st) s.heap.objs.size f cdv)) → Takes (cxOf (L2.CX P w) P w K mg base N qual (defScope st) f cdv A outer s H E) (fun cls d _ H => E cls d H) →
      PassesOwn (model P w) (A.deeper (envOfC qual (defScope st) s.heap.objs.size f cdv)) (envOfC qual (defScope st) s.heap.objs.size f cdv) (cxOf (L2.CX P w) P w K mg base N qual (defScope st) f cdv A outer s H E).xe →
      ∀ (x : o.ty.den) (y : ts.den), BS (cxOf (L2.CX P w) P w K mg base N qual (defScope st) f cdv A outer s H E) (fun cls d _ H => E cls d H) [0] (.o o x :: ctx0 ts y (N.length - (n + 1))) (defBody st) (h x y) (fun z => .nx (.o o z :: List.replicate (N.length - 1) .no))) :
    FnOk P w K mg base (L2.CX P w) (k + 1) f fd ps (spM K mg o ts .non fun x y => h x y >>= fun z => .ok ((), z)) := by
  refine F.ok S (fun vs H Q E hh => ?_) (fun cdv A outer s H vs Q E hr hh => ?_)
  · obtain ⟨G, B, x, y, v, ws, fp, rfl, hs, hB, ho, nd, nw, rr, _⟩ := hh
    rw [List.length_cons, (args_len ha rr).1, hp]
  · obtain ⟨G, B, x, y, v, ws, fp, rfl, hs, hB, ho, nd, nw, rr, q⟩ := hh
    refine ⟨_, hb cdv A outer s H E hr (takes_of rfl rfl rfl rfl) (passes_of rfl) x y, ⟨G, B, [0], L2.start N (v :: ws)⟩, G, rfl, sg_startM hs hB ho nd nw ha rr, ?_⟩
    dsimp only at q
    cases e : h x y with
    | no => rw [e] at q; exact q
    | ex z => rw [e] at q; exact fun cls d σ F' H' x _ r => q cls d F' H' x r
    | ok z =>
      rw [e] at q
      intro σ F' H' sg
      obtain ⟨e0, fp', m1, m2, m3⟩ := end_M (v := v) rfl rfl sg
      exact q .non F' H' fp' e0 rfl m1 m2 m3
/-- .. with returns -/
theorem fn_bodyR {h : o.ty.den → ts.den → Mx (t.den × o.ty.den)} (F : FunD K x qual (defArgs st) (defBody st) (defScope st) dvs kws f fd) (S : FnScope N ps (defScope st)) (hp : ps.length = n + 1) (ha : ts.args = some n)
    (hb : ∀ (cdv : Value) (A : Around) (outer : List Env) (s : Shared) (H : Hp) (E : XK), Room k (A.deeper (envOfC qual (defScope st) s.heap.objs.size f cdv)) → Takes (cxOf (L2.CX P w) P w K mg base N qual (defScope st) f cdv A outer s H E) (fun cls d _ H => E cls d H) →
      PassesOwn (model P w) (A.deeper (envOfC qual (defScope st) s.heap.objs.size f cdv)) (envOfC qual (defScope st) s.heap.objs.size f cdv) (cxOf (L2.CX P w) P w K mg base N qual (defScope st) f cdv A outer s H E).xe →
      ∀ (x : o.ty.den) (y : ts.den), BS (cxOf (L2.CX P w) P w K mg base N qual (defScope st) f cdv A outer s H E) (fun cls d _ H => E cls d H) [0] (.o o x :: ctx0 ts y (N.length - (n + 1))) (defBody st) (h x y) (fun z => .rs t z.1 o z.2)) :
    FnOk P w K mg base (L2.CX P w) (k + 1) f fd ps (spM K mg o ts t h) := by
  refine F.ok S (fun vs H Q E hh => ?_) (fun cdv A outer s H vs Q E hr hh => ?_)
  · obtain ⟨G, B, x, y, v, ws, fp, rfl, hs, hB, ho, nd, nw, rr, _⟩ := hh
    rw [List.length_cons, (args_len ha rr).1, hp]
  · obtain ⟨G, B, x, y, v, ws, fp, rfl, hs, hB, ho, nd, nw, rr, q⟩ := hh
    refine ⟨_, hb cdv A outer s H E hr (takes_of rfl rfl rfl rfl) (passes_of rfl) x y, ⟨G, B, [0], L2.start N (v :: ws)⟩, G, rfl, sg_startM hs hB ho nd nw ha rr, ?_⟩
    cases e : h x y with
    | no => rw [e] at q; exact q
    | ex z => rw [e] at q; exact fun cls d σ F' H' x _ r => q cls d F' H' x r
    | ok z =>
      rw [e] at q
      intro u Γ1 σ F' H' hΓ sg ru
      obtain ⟨e0, fp', m1, m2, m3⟩ := end_M (v := v) rfl hΓ sg
      exact q u F' H' fp' e0 ru m1 m2 m3
end
section
variable {X : Cx} {W : WX} {hk : List Nat} {Γ Γ' Γv Γi : Ctx} {st : Stmt} {rest : List Stmt} {a b e o1 : Expr} {es : List Expr} {pos p p' p2 apos cpos : Pos} {β : Type} {r : Rt} {t : Ty} {I : β → Out} {c f n m : Str} {ns ps : List Str} {C fI g : Addr} {fs o : Ow} {x : o.ty.den} {fd : FuncData} {k : Nat}
/-- an expression that changes slot i's thing -/
def tMu (K : PySem.W.Frag) (mg : Str → Option Value) (W : WX) (E : Ent) (Γ : Ctx) (i : Nat) (o : Ow) (t : Ty) (M : Mx (t.den × o.ty.den)) : TE := fun σ H Q => ∃ F, SG K mg E Γ σ F H ∧ postS mg W E M fun z => ∀ u F' H', SG K mg E (Γ.set i (.o o z.2)) σ F' H' → rl K mg t z.1 [u] F' → Q u H'
abbrev EMu (X : Cx) (W : WX) (Γ : Ctx) (e : Expr) (i : Nat) (o : Ow) (t : Ty) (M : Mx (t.den × o.ty.den)) : Prop := ∀ E : Ent, PE X e (tMu X.K X.mg W E Γ i o t M)
theorem SG.lookA {K : PySem.W.Frag} {mg : Str → Option Value} {E : Ent} {σ : L2.St} {F H : Hp} {ts : Ty} (g : SG K mg E Γ σ F H) (v : Vw Γ (.d ts) Γv) : ∃ G, Same G H ∧ SD K mg Γv σ G ∧ ∀ F' H', Ext G H F' H' → ∃ F2, Ext F H F2 H' ∧ (∀ (x : ts.den) (vs : List V), rl K mg ts x vs F' → rl K mg ts x vs F2) ∧ ∀ b fs, F' b = some (.xd fs) → F2 b = some (.xd fs) := by
  cases v with
  | all h =>
    obtain ⟨e0, _, fps, q⟩ := g
    refine ⟨frozen F H fps, q.frozen_h e0.i, q.sd, fun F' H' x => ?_⟩
    obtain ⟨y, z⟩ := q.back e0.i x
    exact ⟨_, y, fun x vs r => rl_flat (fun b o e hk => z b o e (hk.imp_right .inl)) ts h x vs r, fun b fs e => z b _ e (.inr (.inr ⟨fs, rfl⟩))⟩
  | hid => exact ⟨F, g.e0.i, g.sd_hide, fun F' H' x => ⟨F', x, fun _ _ r => r, fun _ _ q => q⟩⟩
theorem SGf.subM {K : PySem.W.Frag} {mg : Str → Option Value} {E : Ent} {σ : L2.St} {F H : Hp} {fps : Nat → List Addr} {i : Nat} {o' : Ow} {y : o'.ty.den} {put : o'.ty.den → o.ty.den} {v u : V} (g : SGf K mg E Γ σ F H fps) (hi : Γ[i]? = some (.o o x)) (hv : σ[i]? = some (some v))
    (S : SubAt K mg o o' y put F H v (fps i) u) : ∃ fb : List Addr, fb.Nodup ∧ (∀ a ∈ fb, F a = none ∧ E.B a = none ∧ H a ≠ none) ∧ ol K mg o' y [u] F H fb ∧
    ∀ {F2 H3 : Hp} {y' : o'.ty.den} {fb' : List Addr}, Same F F2 → Same F2 H3 → fb'.Nodup → (∀ a ∈ fb', F2 a = none ∧ (a ∈ fb ∨ H a = none)) → (∀ a, a ∉ fb → H a ≠ none → H3 a = H a ∧ (F a = none → F2 a = none)) → ol K mg o' y' [u] F2 H3 fb' → SG K mg E (Γ.set i (.o o (put y'))) σ F2 H3 := by
  obtain ⟨fa, fb, s1, s2, s3, s4, oi, rb⟩ := S
  have nF : ∀ a ∈ fps i, F a = none := fun a ha => (g.ow.new i a ha).1
  have cell : ∀ a ∈ fps i, H a ≠ none := fun a ha z => by
    obtain ⟨ob, h1, _⟩ := g.ow.cell i a ha
    rw [h1] at z; cases z
  refine ⟨fb, s4, fun a ha => ⟨nF a (s2 a ha), (g.ow.new i a (s2 a ha)).2, cell a (s2 a ha)⟩, oi, fun {F2 H3 y' fb'} f1 f2 k1 k2 k3 k5 => ?_⟩
  have fresh : ∀ a ∈ fb', a ∉ fa := fun a ha hb => by
    rcases (k2 a ha).2 with z | z
    · exact s3 a hb z
    · exact cell a (s1 a hb) z
  obtain ⟨fp', m1, m2, m3⟩ := rb F2 H3 y' fb' f1 (fun a ha => (k3 a (s3 a ha) (cell a (s1 a ha))).1) k5 k1 fresh
  refine g.renew hi hv f1 f2 m1 (fun a ha => ?_) (fun a ha hn => k3 a (fun z => ha (s2 a z)) hn) m3
  rcases m2 a ha with z | z
  · exact ⟨(k3 a (s3 a z) (cell a (s1 a z))).2 (nF a (s1 a z)), .inl (s1 a z)⟩
  · rcases (k2 a z).2 with y | y
    · exact ⟨(k2 a z).1, .inl (s2 a y)⟩
    · exact ⟨(k2 a z).1, .inr y⟩
theorem mu_read {i : Nat} {ts : Ty} {E : Ent} {y : fs.ty.den} {put : fs.ty.den → o.ty.den} {h : fs.ty.den → ts.den → Mx (t.den × fs.ty.den)} {ma : Mx ts.den} (hi : Γ[i]? = some (.o o x)) (hc : X.mg c = some (.ref C)) (hn : fidx ns m = none) (vw : Vw Γ (.d ts) Γv) :
    ∀ σ H Q, tMu X.K X.mg W E Γ i o t (ma >>= fun a => h y a >>= fun z => .ok (z.1, put z.2)) σ H Q → tMet C m (spM X.K X.mg (.ins c ns fs) ts t h) (WE W) (tPl X.K X.mg E Γ i o (.ins c ns fs) y put) (tA X.mg X.K W Γv ts ma) σ H Q := fun σ H Q ⟨F, g, q⟩ => by
  obtain ⟨fps, g⟩ := g.f
  obtain ⟨ov, e1, v, rfl, ho⟩ := g.ow.at_ i _ hi
  refine ⟨F, v, fps, g, e1, fun u S => ?_⟩
  obtain ⟨fb, nd, nF, ob, fin⟩ := g.subM hi e1 S
  obtain ⟨q0, C', dx, ws, fp2, e2, e3, mc, h1, h2, hl, oo⟩ := id ob
  rw [hc] at mc
  cases mc
  cases (List.cons.inj e2).1
  refine ⟨q0, dx, _, rfl, h1, fidx_none hn, ?_⟩
  obtain ⟨G, g1, g2, g3⟩ := g.sg.lookA vw
  refine ⟨G, g1, g2, q.bind.post g.sg (fun F' H' x => let ⟨F2, a, _, b⟩ := g3 F' H' x; ⟨F2, a, b⟩) fun ya py vs F' H' ex r1 => ?_⟩
  obtain ⟨F2, x2, back, _⟩ := g3 F' H' ex
  have r2 := back ya vs r1
  have hup : ∀ a, H a ≠ none → H' a = H a := fun a h => by
    cases e : H a with
    | none => exact absurd e h
    | some z => exact x2.h _ _ e
  have hB : ∃ B : Hp, (∀ a, a ∈ fb → B a = none) ∧ ∀ a, a ∉ fb → B a = H' a := by
    classical
    exact ⟨fun a => if a ∈ fb then none else H' a, fun a ha => if_pos ha, fun a ha => if_neg ha⟩
  obtain ⟨B, b1, b2⟩ := hB
  have sB : Same B H' := fun a z e => by
    by_cases ha : a ∈ fb
    · rw [b1 a ha] at e; cases e
    · rw [b2 a ha] at e; exact e
  have nF2 : ∀ a ∈ fb, F2 a = none := fun a ha => x2.n a (nF a ha).2.2 (nF a ha).1
  refine ⟨F2, B, y, ya, .ref q0, vs, fb, rfl, x2.i, sB, ol_frame x2.f _ _ _ _ (fun a ha => hup a (nF a ha).2.2) ob, nd, fun a ha => ⟨nF2 a ha, b1 a ha⟩, r2, ?_⟩
  have py : postS X.mg W E (h y ya >>= fun z => .ok (z.1, put z.2)) fun z => ∀ u F' H', SG X.K X.mg E (Γ.set i (.o o z.2)) σ F' H' → rl X.K X.mg t z.1 [u] F' → Q u H' := py
  cases hh : h y ya with
  | no => rw [hh] at py; exact py
  | ex z =>
    rw [hh] at py
    refine fun cls d F3 H3 x3 r => py cls d σ F3 H3 ⟨(g.e0.f.trans x2.f).trans x3.f, fun b ob eb => x3.h _ _ ?_, x3.i, fun p hp hf => ?_⟩ g.kp r
    · have hb : b ∉ fb := fun z => by rw [(nF b z).2.1] at eb; cases eb
      rw [b2 b hb]
      exact x2.h _ _ (g.e0.h _ _ eb)
    · have hb : p ∉ fb := fun z => hp (nF p z).2.1
      have hH : H p ≠ none := fun z => hp (g.e0.h.free z)
      exact x3.n p (by rw [b2 p hb, hup p hH]; exact hH) (x2.n p hH (g.e0.n p hp hf))
  | ok z =>
    rw [hh] at py
    refine fun u F3 H3 fp' x3 r o3 nd3 nw3 => py u F3 H3 (fin (x2.f.trans x3.f) x3.i nd3 (fun a ha => ⟨(nw3 a ha).1, ?_⟩) (fun a ha hn => ⟨?_, fun hf => x3.n a (by rw [b2 a ha, hup a hn]; exact hn) (x2.n a hn hf)⟩) o3) r
    · by_cases hb : a ∈ fb
      · exact .inl hb
      · right
        have := (nw3 a ha).2
        rw [b2 a hb] at this
        exact x2.h.free this
    · cases e : H a with
      | none => exact absurd e hn
      | some w =>
        refine x3.h _ _ ?_
        rw [b2 a ha]
        exact x2.h _ _ e
/-- place.m(..), m changes its self -/
theorem mu_met {pl : Sem Bool} {i : Nat} {ts : Ty} {y : fs.ty.den} {put : fs.ty.den → o.ty.den} {h : fs.ty.den → ts.den → Mx (t.den × fs.ty.den)} {ma : Mx ts.den} (hi : Γ[i]? = some (.o o x)) (hp : PLc X Γ o1 i o (.ins c ns fs) y put) (hc : X.mg c = some (.ref C)) (cl : Cls X.K C) (hm : Meth X.K C m g)
    (Fn : FnOk X.prog X.w X.K X.mg X.base (L2.CX X.prog X.w) k g fd ps (spM X.K X.mg (.ins c ns fs) ts t h)) (hr : Room k X.A) (hb : Binds X.K fd ps []) (tk : Takes X W) (hn : fidx ns m = none) (ha : EA X W Γv (e :: es) ts ma) (vw : Vw Γ (.d ts) Γv)
    (hst : starEach (e :: es) X.env = (false, eval e X.env) :: starEach es X.env) (hpl : (backTo pos (starEach es X.env)).any (·.1) = false)
    (ht : eval (.Call (.Attribute o1 m apos) (e :: es) [] pos) X.env = (eval o1 X.env >>= fun ov => standAt apos.atName >>= fun _ => holding [ov] (getMethod ov m pl) >>= fun q => callWith pos q.1 q.2 (backTo pos (starEach (e :: es) X.env)) (backToKw pos (keywordEach [] X.env)))) :
    EMu X W Γ (.Call (.Attribute o1 m apos) (e :: es) [] pos) i o t (ma >>= fun a => h y a >>= fun z => .ok (z.1, put z.2)) := fun E => pe_imp (pe_met (hp E) cl hm Fn hr hb tk ha hst hpl ht) (mu_read hi hc hn vw)
theorem mu_met0 {pl : Sem Bool} {i : Nat} {y : fs.ty.den} {put : fs.ty.den → o.ty.den} {h : fs.ty.den → Ty.nl.den → Mx (t.den × fs.ty.den)} (hi : Γ[i]? = some (.o o x)) (hp : PLc X Γ o1 i o (.ins c ns fs) y put) (hc : X.mg c = some (.ref C)) (cl : Cls X.K C) (hm : Meth X.K C m g)
    (Fn : FnOk X.prog X.w X.K X.mg X.base (L2.CX X.prog X.w) k g fd ps (spM X.K X.mg (.ins c ns fs) .nl t h)) (hr : Room k X.A) (hb : Binds X.K fd ps []) (tk : Takes X W) (hn : fidx ns m = none)
    (ht : eval (.Call (.Attribute o1 m apos) [] [] pos) X.env = (eval o1 X.env >>= fun ov => standAt apos.atName >>= fun _ => holding [ov] (getMethod ov m pl) >>= fun q => callWith pos q.1 q.2 (backTo pos (starEach [] X.env)) (backToKw pos (keywordEach [] X.env)))) :
    EMu X W Γ (.Call (.Attribute o1 m apos) [] [] pos) i o t (h y () >>= fun z => .ok (z.1, put z.2)) := fun E => pe_imp (pe_met0 (hp E) cl hm Fn hr hb tk ht) fun σ H Q q => by
  obtain ⟨F, v, fps, g, e1, kk⟩ := mu_read (ts := .nl) (Γv := hide Γ) (ma := .ok ()) (h := h) hi hc hn .hid σ H Q q
  refine ⟨F, v, fps, g, e1, fun u S => ?_⟩
  obtain ⟨a, dx, fs', ea, h1, h2, G, g1, g2, p2⟩ := kk u S
  exact ⟨a, dx, fs', ea, h1, h2, p2 [] G _ (Ext.refl g1) rfl⟩
/-- the statement e, e changes slot i's thing -/
theorem bs_exprM (i : Nat) {M : Mx (t.den × o.ty.den)} {kk : o.ty.den → Mx β} (he : EMu X W Γ e i o t M) (hr : ∀ y, BS X W hk (Γ.set i (.o o y)) rest (kk y) I) (hs : swapsWith e none pos.line X.env = pure false) :
    BS X W hk Γ (.Expr e pos :: rest) (M >>= fun z => kk z.2) I :=
  have hr' : PSs X rest (fun D σ H => ∃ y, tS X.K X.mg W hk (Γ.set i (.o o y)) (kk y) I D σ H) := ⟨fun pins s σ H D J ⟨x, q⟩ => (hr x).run pins s σ H D J q⟩
  pss_imp (pss_cons (ps_expr (pe_ex he) hs) hr') fun D σ H ⟨E, F, h, g, q⟩ => ⟨E, F, g, q.bind.mono fun z pz u F' H' g' ru => ⟨z.2, E, F', h, g', pz⟩⟩
/-- x = e, e changes slot i's thing -/
theorem bs_setM (i j : Nat) {x : Str} {M : Mx (t.den × o.ty.den)} {kk : t.den → o.ty.den → Mx β} {pos' : Pos} (he : EMu X W Γ e i o t M) (hr : ∀ z y, BS X W hk ((Γ.set i (.o o y)).set j (.d t z)) rest (kk z y) I) (hN : X.N.Nodup) (hj : X.N[j]? = some x) (hl : Loc X.env.scope x) (hf : X.fn x = true ∨ X.env.scope.names.lookup x = some .local)
    (hb : Nat.ble (j + 1) Γ.length = true) (hn : hk.contains j = false) (hs : swapsWith e (some (.Name x pos')) pos.line X.env = pure false) : BS X W hk Γ (.Assign [.Name x pos'] e pos :: rest) (M >>= fun z => kk z.1 z.2) I :=
  have hr' : PSs X rest (fun D σ H => ∃ p : t.den × o.ty.den, tS X.K X.mg W hk ((Γ.set i (.o o p.2)).set j (.d t p.1)) (kk p.1 p.2) I D σ H) := ⟨fun pins s σ H D J ⟨x, q⟩ => (hr x.1 x.2).run pins s σ H D J q⟩
  pss_imp (pss_cons (ps_set hN hj hl (pe_ex he) hs hf) hr') fun D σ H ⟨E, F, h, g, q⟩ => ⟨E, F, g, q.bind.mono fun z pz u F' H' g' ru => ⟨z, E, F', h, g'.set (r := .d t) (Ext.refl g'.e0.i) ru (by rw [List.length_set]; exact Nat.le_of_ble_eq_true hb) (fun hh => by rw [h] at hh; rw [List.contains_iff_mem.mpr hh] at hn; cases hn), pz⟩⟩
/-- return e in a method that changes its self -/
theorem bs_retS {me : Mx t.den} {bb : t.den → β} {y : o.ty.den} (h0 : Γ[0]? = some (.o o y)) (he : EM X W Γv e t me) (vw : Vw Γ (.d t) Γv) (hI : ∀ z, I (bb z) = .rs t z o y) : BS X W hk Γ (.Return (some e) pos :: rest) (me >>= fun z => .ok (bb z)) I :=
  pss_imp (pss_cons (ps_ret he) pss_never) fun D σ H ⟨E, F, h, g, q⟩ => by
    obtain ⟨G, g1, g2, g3⟩ := g.look vw
    refine ⟨G, g1, g2, q.bind.post g (fun F' H' x => let ⟨F2, a, _, b⟩ := g3 F' H' x; ⟨F2, a, b⟩) fun z pz v F' H' ex rr => ?_⟩
    obtain ⟨F2, x2, back, _⟩ := g3 F' H' ex
    have pz : outP X.K X.mg E D (I (bb z)) := pz
    rw [hI] at pz
    exact pz v Γ σ F2 H' h0 (g.grow x2) (back z v rr)
/-- return m(..), m changes self -/
theorem bs_retM {M : Mx (t.den × o.ty.den)} {bb : t.den → o.ty.den → β} (h0 : 0 < Γ.length) (he : EMu X W Γ e 0 o t M) (hI : ∀ z y, I (bb z y) = .rs t z o y) : BS X W hk Γ (.Return (some e) pos :: rest) (M >>= fun z => .ok (bb z.1 z.2)) I :=
  pss_imp (pss_cons (ps_ret (pe_ex he)) pss_never) fun D σ H ⟨E, F, h, g, q⟩ => ⟨E, F, g, q.bind.mono fun z pz u F' H' g' ru => by
    have pz : outP X.K X.mg E D (I (bb z.1 z.2)) := pz
    rw [hI] at pz
    exact pz u _ σ F' H' (List.getElem?_set_self h0) g' ru⟩
end
end Gm
set_option Elab.async false
set_option linter.all false
set_option maxRecDepth 100000
set_option maxHeartbeats 4000000
namespace Gm
open PySem PySem.Spec L2
/-- d[x] = y, by the things alone -/
def dputP {α β : Type} [DecidableEq α] (d : List (α × β)) (x : α) (y : β) : Option (List (α × β)) := if d.length < sizeLine then some (dput d x y) else none
theorem dputO_eq {k t : Ty} [DecidableEq k.den] (d : List (k.den × t.den)) (x : k.den) (y : t.den) : dputO (k := k) (t := t) d x y = dputP d x y := id rfl
section
variable {X : Cx} {W : WX} {hk : List Nat} {Γ Γ' Γv Γi : Ctx} {st : Stmt} {rest : List Stmt} {a b e : Expr} {pos p p' p2 apos cpos : Pos} {β : Type} {t : Ty} {I : β → Out} {n m : Str} {o : Ow} {α : Type}
/-- place.m(..), m without a return -/
theorem bs_metN (i : Nat) {ts : Type} {D : Type} {ma : Mx ts} {h : ts → Mx D} {put : D → o.ty.den} {kk : o.ty.den → Mx β} (he : EMu X W Γ e i o .non (ma >>= fun a => (h a >>= fun z => .ok ((), z)) >>= fun z => .ok (z.1, put z.2))) (hr : ∀ y, BS X W hk (Γ.set i (.o o (put y))) rest (kk (put y)) I) (hs : swapsWith e none pos.line X.env = pure false) :
    BS X W hk Γ (.Expr e pos :: rest) (ma >>= fun a => h a >>= fun y => kk (put y)) I :=
  have hr' : PSs X rest (fun D1 σ H => ∃ y, tS X.K X.mg W hk (Γ.set i (.o o (put y))) (kk (put y)) I D1 σ H) := ⟨fun pins s σ H D J ⟨x, q⟩ => (hr x).run pins s σ H D J q⟩
  pss_imp (pss_cons (ps_expr (pe_ex he) hs) hr') fun D σ H ⟨E, F, h0, g, q⟩ => ⟨E, F, g, by
    cases ma with
    | no => exact q
    | ex z => exact q
    | ok a =>
      have q : postS X.mg W E (h a >>= fun y => kk (put y)) (fun b => outP X.K X.mg E D (I b)) := q
      show postS X.mg W E ((h a >>= fun z => Mx.ok ((), z)) >>= fun z => Mx.ok (z.1, put z.2)) _
      cases hh : h a with
      | no => rw [hh] at q; exact q
      | ex z => rw [hh] at q; exact q
      | ok y => rw [hh] at q; exact fun u F' H' g' ru => ⟨y, E, F', h0, g', q⟩⟩
/-- the same, the rest asks for the part -/
theorem bs_metP (i : Nat) {ts : Type} {D : Type} {ma : Mx ts} {h : ts → Mx D} {put : D → o.ty.den} {kk : D → Mx β} (he : EMu X W Γ e i o .non (ma >>= fun a => (h a >>= fun z => .ok ((), z)) >>= fun z => .ok (z.1, put z.2))) (hr : ∀ y, BS X W hk (Γ.set i (.o o (put y))) rest (kk y) I) (hs : swapsWith e none pos.line X.env = pure false) :
    BS X W hk Γ (.Expr e pos :: rest) (ma >>= fun a => h a >>= kk) I :=
  have hr' : PSs X rest (fun D1 σ H => ∃ y, tS X.K X.mg W hk (Γ.set i (.o o (put y))) (kk y) I D1 σ H) := ⟨fun pins s σ H D J ⟨x, q⟩ => (hr x).run pins s σ H D J q⟩
  pss_imp (pss_cons (ps_expr (pe_ex he) hs) hr') fun D σ H ⟨E, F, h0, g, q⟩ => ⟨E, F, g, by
    cases ma with
    | no => exact q
    | ex z => exact q
    | ok a =>
      have q : postS X.mg W E (h a >>= kk) (fun b => outP X.K X.mg E D (I b)) := q
      show postS X.mg W E ((h a >>= fun z => Mx.ok ((), z)) >>= fun z => Mx.ok (z.1, put z.2)) _
      cases hh : h a with
      | no => rw [hh] at q; exact q
      | ex z => rw [hh] at q; exact q
      | ok y => rw [hh] at q; exact fun u F' H' g' ru => ⟨y, E, F', h0, g', q⟩⟩
/-- the statement place.m(..), m gives a value that is dropped -/
theorem bs_metV (i : Nat) {ts : Type} {D : Type} {ma : Mx ts} {h : ts → Mx (t.den × D)} {put : D → o.ty.den} {kk : D → Mx β} (he : EMu X W Γ e i o t (ma >>= fun a => h a >>= fun z => .ok (z.1, put z.2))) (hr : ∀ y, BS X W hk (Γ.set i (.o o (put y))) rest (kk y) I) (hs : swapsWith e none pos.line X.env = pure false) :
    BS X W hk Γ (.Expr e pos :: rest) (ma >>= fun a => h a >>= fun z => kk z.2) I :=
  have hr' : PSs X rest (fun D1 σ H => ∃ y, tS X.K X.mg W hk (Γ.set i (.o o (put y))) (kk y) I D1 σ H) := ⟨fun pins s σ H D J ⟨x, q⟩ => (hr x).run pins s σ H D J q⟩
  pss_imp (pss_cons (ps_expr (pe_ex he) hs) hr') fun D σ H ⟨E, F, h0, g, q⟩ => ⟨E, F, g, by
    cases ma with
    | no => exact q
    | ex z => exact q
    | ok a =>
      have q : postS X.mg W E (h a >>= fun z => kk z.2) (fun b => outP X.K X.mg E D (I b)) := q
      show postS X.mg W E (h a >>= fun z => Mx.ok (z.1, put z.2)) _
      cases hh : h a with
      | no => rw [hh] at q; exact q
      | ex z => rw [hh] at q; exact q
      | ok y => rw [hh] at q; exact fun u F' H' g' ru => ⟨y.2, E, F', h0, g', q⟩⟩
/-- x = place.m(..) -/
theorem bs_metR (i j : Nat) {x : Str} {ts : Type} {D : Type} {ma : Mx ts} {h : ts → Mx (t.den × D)} {put : D → o.ty.den} {kk : t.den → D → Mx β} {pos' : Pos} (he : EMu X W Γ e i o t (ma >>= fun a => h a >>= fun z => .ok (z.1, put z.2))) (hr : ∀ z y, BS X W hk ((Γ.set i (.o o (put y))).set j (.d t z)) rest (kk z y) I)
    (hN : X.N.Nodup) (hj : X.N[j]? = some x) (hl : Loc X.env.scope x) (hf : X.fn x = true ∨ X.env.scope.names.lookup x = some .local) (hb : Nat.ble (j + 1) Γ.length = true) (hn : hk.contains j = false) (hs : swapsWith e (some (.Name x pos')) pos.line X.env = pure false) :
    BS X W hk Γ (.Assign [.Name x pos'] e pos :: rest) (ma >>= fun a => h a >>= fun z => kk z.1 z.2) I :=
  have hr' : PSs X rest (fun D1 σ H => ∃ p : t.den × D, tS X.K X.mg W hk ((Γ.set i (.o o (put p.2))).set j (.d t p.1)) (kk p.1 p.2) I D1 σ H) := ⟨fun pins s σ H D J ⟨x, q⟩ => (hr x.1 x.2).run pins s σ H D J q⟩
  pss_imp (pss_cons (ps_set hN hj hl (pe_ex he) hs hf) hr') fun D σ H ⟨E, F, h0, g, q⟩ => ⟨E, F, g, by
    cases ma with
    | no => exact q
    | ex z => exact q
    | ok a =>
      have q : postS X.mg W E (h a >>= fun z => kk z.1 z.2) (fun b => outP X.K X.mg E D (I b)) := q
      show postS X.mg W E (h a >>= fun z => Mx.ok (z.1, put z.2)) _
      cases hh : h a with
      | no => rw [hh] at q; exact q
      | ex z => rw [hh] at q; exact q
      | ok y =>
        rw [hh] at q
        exact fun u F' H' g' ru => ⟨y, E, F', h0, g'.set (r := .d t) (Ext.refl g'.e0.i) ru (by rw [List.length_set]; exact Nat.le_of_ble_eq_true hb) (fun hh => by rw [h0] at hh; rw [List.contains_iff_mem.mpr hh] at hn; cases hn), q⟩⟩
/-- return self.m(..) -/
theorem bs_retR {ts : Type} {D : Type} {ma : Mx ts} {h : ts → Mx (t.den × D)} {put : D → o.ty.den} {bb : t.den → D → β} (h0 : Nat.ble 1 Γ.length = true) (he : EMu X W Γ e 0 o t (ma >>= fun a => h a >>= fun z => .ok (z.1, put z.2))) (hI : ∀ z y, I (bb z y) = .rs t z o (put y)) :
    BS X W hk Γ (.Return (some e) pos :: rest) (ma >>= fun a => h a >>= fun z => .ok (bb z.1 z.2)) I :=
  pss_imp (pss_cons (ps_ret (pe_ex he)) pss_never) fun D σ H ⟨E, F, h1, g, q⟩ => ⟨E, F, g, by
    cases ma with
    | no => exact q
    | ex z => exact q
    | ok a =>
      have q : postS X.mg W E (h a >>= fun z => .ok (bb z.1 z.2)) (fun b => outP X.K X.mg E D (I b)) := q
      show postS X.mg W E (h a >>= fun z => Mx.ok (z.1, put z.2)) _
      cases hh : h a with
      | no => rw [hh] at q; exact q
      | ex z => rw [hh] at q; exact q
      | ok y =>
        rw [hh] at q
        have q : outP X.K X.mg E D (I (bb y.1 y.2)) := q
        rw [hI] at q
        exact fun u F' H' g' ru => q u _ σ F' H' (List.getElem?_set_self (Nat.le_of_ble_eq_true h0)) g' ru⟩
theorem bs_opt {oo : Option α} {kk : α → Mx β} (h : ∀ y, oo = some y → BS X W hk Γ rest (kk y) I) : BS X W hk Γ rest (ofO oo >>= kk) I := by
  cases oo with
  | none => exact bs_no
  | some y => exact h y rfl
/-! ## text * int -/
def repS (x : Str) (n : Int) : Option Str := if -1000 ≤ n ∧ n ≤ 1000 ∧ x.length ≤ 1000 then some (if n < 1 then Str.empty else if (n == 1 || x.length == 0) = true then x else ⟨(List.replicate n.toNat x.cps).foldl (· ++ ·) #[]⟩) else none
theorem rep_size {α : Type} (a : Array α) : ∀ (k : Nat) (b : Array α), ((List.replicate k a).foldl (fun x y => x ++ y) b).size = b.size + k * a.size
  | 0, b => by simp
  | k + 1, b => by
    rw [List.replicate_succ, List.foldl_cons, rep_size a k, Array.size_append, Nat.succ_mul]
    omega
def rRepS : R2 := fun x y H Q => ∃ s n z, x = .str s ∧ y = .int n ∧ repS s n = some z ∧ Q (.str z) H
theorem op_repS : OpR X (binaryOp .Mult) rRepS := by
  intro pins s σ H x y v u Q I rx ry h
  obtain ⟨z, n, w, rfl, rfl, hz, q⟩ := h
  obtain ⟨tk, rfl⟩ := rx
  obtain ⟨tu, rfl⟩ := ry
  unfold repS at hz
  by_cases hc : -1000 ≤ n ∧ n ≤ 1000 ∧ z.length ≤ 1000
  rotate_left
  · rw [if_neg hc] at hz; cases hz
  rw [if_pos hc] at hz
  obtain ⟨c1, c2, c3⟩ := hc
  have hb : ¬ n < 1 → (n == 1 || z.length == 0) = false → ¬ ((z.length : Int) > (2 ^ 63 - 1) / n) := fun h1 _ => by
    have : (1000 : Int) ≤ (2 ^ 63 - 1) / n := by
      rw [Int.le_ediv_iff_mul_le (by omega)]; omega
    omega
  have hl : ¬ n < 1 → (n == 1 || z.length == 0) = false → Builtin.Str.tooLong (z.length * n.toNat) = false := fun h1 _ => by
    have h2 : n.toNat ≤ 1000 := by omega
    have h3 : z.length * n.toNat ≤ 1000 * 1000 := Nat.mul_le_mul c3 h2
    unfold Builtin.Str.tooLong
    rw [decide_eq_false]
    rw [sizeLine_eq]
    omega
  refine PySem.P.mul_str (by rw [decide_eq_false (by omega), decide_eq_false (by omega)]; rfl) hb hl ?_
  by_cases h1 : n < 1
  · rw [if_pos h1] at hz ⊢
    cases hz
    exact ⟨by decide, .str Str.empty, H, I.tok _, ⟨_, rfl⟩, q⟩
  · rw [if_neg h1] at hz ⊢
    cases h2 : (n == 1 || z.length == 0) with
    | true =>
      rw [h2, if_pos rfl] at hz
      rw [if_pos rfl]
      cases hz
      exact ⟨.str z, H, I, ⟨_, rfl⟩, q⟩
    | false =>
      rw [h2, if_neg Bool.false_ne_true] at hz
      rw [if_neg Bool.false_ne_true]
      cases hz
      refine ⟨?_, .str _, H, I.tok _, ⟨_, rfl⟩, q⟩
      have := hl h1 h2
      unfold Builtin.Str.tooLong at this
      have h3 := of_decide_eq_false this
      show (List.foldl (fun x1 x2 => x1 ++ x2) #[] (List.replicate n.toNat z.cps)).size ≤ sizeLine
      rw [rep_size]
      have h4 : z.length = z.cps.size := rfl
      have h5 : (#[] : Array Nat).size = 0 := rfl
      rw [h4, Nat.mul_comm] at h3
      simp only [Array.size_empty]
      omega
theorem e_repS {m1 : Mx Str} {m2 : Mx Int} (ha : EM X W Γ a .str m1) (hb : EM X W Γ b .int m2) : EM X W Γ (.BinOp a .Mult b pos) .str (m1 >>= fun x => m2 >>= fun y => ofO (repS x y)) :=
  e_bin op_repS (fun x y z e v w F H Q s r1 r2 k => by
    cases (List.cons.inj (show [v] = [V.str x] from r1)).1
    cases (List.cons.inj (show [w] = [V.int y] from r2)).1
    exact ⟨x, y, z, rfl, rfl, e, k (.str z) F H (Ext.refl s) rfl⟩) ha hb
end
end Gm
set_option Elab.async false
set_option linter.all false
set_option maxRecDepth 100000
set_option maxHeartbeats 4000000
namespace Gm
open PySem PySem.Spec L2
section
variable {X : Cx} {W : WX} {hk : List Nat} {Γ Γ' Γv Γi : Ctx} {st : Stmt} {rest : List Stmt} {a b e : Expr} {pos p p' p2 apos cpos : Pos} {β : Type} {t t1 k : Ty} {I : β → Out} {n m : Str} {o : Ow}
/-! ## t[i] of a fixed tuple, i = 0 or 1 -/
def at01 {α β : Type} (x : α × α × β) (i : Int) : Option α := if i = 0 then some x.1 else if i = 1 then some x.2.1 else none
theorem e_ix01 {fs : Ty} {m1 : Mx (t.den × t.den × fs.den)} {m2 : Mx Int} (ha : EM X W Γ a (.tup (.pr t (.pr t fs))) m1) (hb : EM X W Γ b .int m2) (hs : PlainIx b := by intro _ _; rfl) : EM X W Γ (.Subscript a b pos) t (m1 >>= fun x => m2 >>= fun y => ofO (at01 x y)) :=
  e_ix (t1 := .tup (.pr t (.pr t fs))) (t2 := .int) (r := .d t) (g := fun x y => at01 x y) ix_tup hs (fun x y z e v w F H Q s r1 r2 k => by
    obtain ⟨p, ws, e1, sq, v1, r1, rfl, h1, v2, r2', rfl, h2, _⟩ := r1
    cases (List.cons.inj e1).1
    cases (List.cons.inj (show [w] = _ from r2)).1
    unfold at01 at e
    by_cases h : y = 0
    · rw [if_pos h] at e
      cases e
      subst h
      exact ⟨p, _, 0, v1, rfl, rfl, sqT_same s sq, atI_nat (xs := v1 :: v2 :: r2') (j := 0) rfl, k v1 F H (Ext.refl s) h1⟩
    · rw [if_neg h] at e
      by_cases h3 : y = 1
      · rw [if_pos h3] at e
        cases e
        subst h3
        exact ⟨p, _, 1, v2, rfl, rfl, sqT_same s sq, atI_nat (xs := v1 :: v2 :: r2') (j := 1) rfl, k v2 F H (Ext.refl s) h2⟩
      · rw [if_neg h3] at e; cases e) ha hb
/-! ## is, is not of truth values -/
theorem c_isB {m1 m2 : Mx Bool} (ha : EM X W Γ a .bool m1) (hb : EM X W Γ b .bool m2) : EM X W Γ (.Compare a [.Is] [b] pos) .bool (m1 >>= fun x => m2 >>= fun y => ofO (some (decide (x = y)))) :=
  e_cmp (r := .d .bool) (g := fun (x y : Bool) => some (decide (x = y))) op_isBl (nomark b) (fun x y z e v w F H Q s r1 r2 k => by
    cases e
    cases (List.cons.inj (show [v] = [V.bl x] from r1)).1
    cases (List.cons.inj (show [w] = [V.bl y] from r2)).1
    exact ⟨x, y, rfl, rfl, k (.bl (decide (x = y))) F H (Ext.refl s) rfl⟩) ha hb
theorem c_isnB {m1 m2 : Mx Bool} (ha : EM X W Γ a .bool m1) (hb : EM X W Γ b .bool m2) : EM X W Γ (.Compare a [.IsNot] [b] pos) .bool (m1 >>= fun x => m2 >>= fun y => ofO (some (!decide (x = y)))) :=
  e_cmp (r := .d .bool) (g := fun (x y : Bool) => some (!decide (x = y))) op_notBl (nomark b) (fun x y z e v w F H Q s r1 r2 k => by
    cases e
    cases (List.cons.inj (show [v] = [V.bl x] from r1)).1
    cases (List.cons.inj (show [w] = [V.bl y] from r2)).1
    exact ⟨x, y, rfl, rfl, k (.bl (!decide (x = y))) F H (Ext.refl s) rfl⟩) ha hb
/-! ## an owned list's items seen otherwise -/
theorem e_cvO {g : t.den → t1.den} {m : Mx (List t.den)} (c : Cv t t1 g) (h : EO X W Γ e (.l (.d t)) m) : EO X W Γ e (.l (.d t1)) (m >>= fun x => .ok (x.map g)) :=
  pe_imp h fun σ H Q ⟨F, s, d, q⟩ => ⟨F, s, d, q.bind.mono fun x px v F1 H1 e1 r1 => by
    obtain ⟨fp, r1, nd, nw⟩ := r1
    obtain ⟨q0, ws, rfl, e3, e4, rr⟩ := own_lst r1
    subst e3
    exact px (.ref q0) F1 H1 e1 ⟨[q0], lst_own (rr.mapl fun x v z => c.h _ _ _ x [v] z) e4, nd, nw⟩⟩
/-! ## {k: v} -/
def tNDisp (X : Cx) (tk tv : TE) : TE := fun σ H Q => ∀ p, H p = none → tk σ (upd H p (dnO X.prog X.w p [])) fun x H1 => tv σ H1 fun y H2 => ∃ b k, x = .ref b ∧ NK X H2 k b ∧ H2 p = some (dnO X.prog X.w p []) ∧ Q (.ref p) (upd H2 p (dnO X.prog X.w p [(k, b, y)]))
theorem dn_empty {P : Program} {w : World} {H : Hp} (h : Heap) (hb : sysModules < h.objs.size) : ObjOk P w H (h.push { cls := .type "dict", data := .dict #[] }) h.objs.size (dnO P w h.objs.size []) :=
  dn_ok ⟨Nat.zero_le _, beq_eq_false_iff_ne.mpr (Ne.symm (Nat.ne_of_lt hb)), [], .nil, _, #[], 0, Heap.get?_push_size _ rfl, ⟨rfl, rfl, rfl⟩, rfl, rfl, List.nodup_nil⟩
theorem pe_ndisp {kx vx : Expr} {tk tv : TE} (hu : X.A.units + 64 < cLine) (hk : PE X kx tk) (hv : PE X vx tv) : PE X (.Dict [some kx] [vx] pos) (tNDisp X tk tv) := by
  refine ⟨fun pins s σ H Q I q => ?_⟩
  have hn := I.hok.fresh (Nat.le_refl s.heap.objs.size)
  have I1 := I.laid (a := s.heap.objs.size) (o := dnO X.prog X.w s.heap.objs.size []) (h' := s.heap.push { cls := .type "dict", data := .dict #[] }) (t' := s.toks) (fun _ _ q => Heap.get?_push_of_some _ q) (Nat.le_refl _) (dn_empty s.heap I.big)
  have hl := pairTrees_length [some kx] [vx] X.env pos rfl rfl
  have hl1 : (pairTrees [some kx] [vx] X.env pos).length = 1 := hl
  have hne : pairTrees [some kx] [vx] X.env pos ≠ [] := fun he => by rw [he] at hl1; cases hl1
  rw [arm_eval_Dict, zip_pairTrees [some kx] [vx] X.env pos rfl rfl, dictDisplay_pairs _ hne (by omega)]
  refine wpAny_bind (wpAny_standAt (wpAny_bind ?_))
  refine wpAny_subDictH (knd := nestedKind X.prog X.w) (show X.A.units + 8 < cLine by omega) (by omega) ?_
  refine pairTrees_cons_walk (thn (hk.run pins _ σ _ _ I1 (q _ hn)) fun u s1 ⟨x, H1, J1, rx, q1⟩ => thn (hv.run pins s1 σ H1 _ J1 q1) fun w2 s2 ⟨y, H2, J2, ry, b, k, ex, kb, e2, q2⟩ => pairTrees_nil_walk ?_)
  subst ex
  cases (show u = Value.ref b from rx)
  obtain ⟨z, hd, xs, rel, dd⟩ := dn_of J2 (.inl e2) (fun _ m => nomatch m)
  cases rel
  refine ⟨[(k, b, w2)], ⟨rfl, rfl, kb _ _ _ J2, True.intro⟩, dd, fun h' tk' hm hs => wpAny_pure ⟨.ref s.heap.objs.size, _, ?_, rfl, q2⟩⟩
  obtain ⟨ob, es, ep, h1, h2, h3, h4, h5, h6⟩ := hm
  exact d_write J2 (by rw [e2]; exact True.intro) hs ⟨ob, h1⟩ (dn_ok ⟨by rw [sizeLine_eq, List.length_singleton]; decide, hd, [(k, b, w2)], .cons ⟨rfl, rfl, ry⟩ .nil, ob, es, ep, h1, h2, h3, h4, h6⟩)
theorem e_ndisp [DecidableEq k.den] {kx vx : Expr} {m1 : Mx k.den} {m2 : Mx t.den} (hk : k.kyN = true) (hu : X.A.units + 64 < cLine) (ha : EM X W Γ kx k m1) (hb : EM X W Γ vx t m2) : EO X W Γ (.Dict [some kx] [vx] pos) (.dicN X.prog X.w k (.d t)) (m1 >>= fun x => m2 >>= fun y => .ok [(x, y)]) :=
  have hk := kyN_of hk
  pe_imp (pe_ndisp hu ha hb) fun σ H Q ⟨F, s, d, q⟩ => fun p np => by
    have nF : F p = none := s.free np
    have e0 : Ext F H F (upd H p (dnO X.prog X.w p [])) := Ext.cell s np
    refine ⟨F, e0.i, d, post.ext e0 q.bind fun x px v F1 H1 e1 r1 => ⟨F1, e1.i, d.mono e1.f, post.ext (e0.trans e1) px.bind fun y py u F2 H2 e2 r2 => ?_⟩⟩
    obtain ⟨bb, rfl⟩ := hk.ref r1
    have e12 := e1.trans e2
    have h2 : H2 p = some (dnO X.prog X.w p []) := e12.h _ _ upd_same
    have nF2 : F2 p = none := e12.n p (by rw [upd_same]; exact fun z => nomatch z) nF
    refine ⟨bb, k.nk x, rfl, hk.nk e2.i (rl_mono e2.f k x _ r1), h2, ?_⟩
    have hup : Ext F H F2 (upd H2 p (dnO X.prog X.w p [(k.nk x, bb, u)])) := ⟨e12.f, fun b o eb => ?_, same_upd e12.i nF2, fun b hb hf => e12.n b (fun z => hb (e0.h.free z)) hf⟩
    · exact py (.ref p) F2 _ hup ⟨[p], dn_own (xs := [(x, y)]) (kvs := [(k.nk x, bb, u)]) ⟨⟨rfl, rl_mono e2.f k x _ r1, r2⟩, True.intro⟩ upd_same, by simp, fun a ha => by rw [List.mem_singleton.mp ha]; exact ⟨nF2, np⟩⟩
    · have ne : b ≠ p := fun z => by rw [z, np] at eb; cases eb
      rw [upd_ne ne]
      exact e12.h _ _ (by rw [upd_ne ne]; exact eb)
end
end Gm
set_option Elab.async false
set_option linter.all false
set_option maxRecDepth 100000
set_option maxHeartbeats 4000000
namespace Gm
open PySem PySem.Spec L2
/-! ## try: A; except C as e: B, where C has subclasses: one suite text for each class that may be caught -/
def tryC {α : Type} (l : List (Str × Bool)) (m : Mx α) (h : Exn → Mx α) : Mx α := match m with
  | .ok a => .ok a
  | .ex e => (match subs l e.c with
    | some true => h e
    | some false => .ex e
    | none => .no)
  | .no => .no
section
variable {X : Cx} {W : WX} {hk : List Nat} {Γ Γ' Γv : Ctx} {st : Stmt} {rest body suite : List Stmt} {b0 : Stmt} {e : Expr} {pos p np pos' : Pos} {β : Type} {I : β → Out} {c x n : Str} {C : Addr} {t : Ty} {k i : Nat}
/-- the suite runs for each class of the list that is caught -/
def HH (X : Cx) (W : WX) (hk : List Nat) (Γ : Ctx) (i : Nat) (suite : List Stmt) (I : β → Out) (h : Exn → Mx β) (l : List (Str × Bool)) : Prop :=
  ∀ (c : Str) (C : Addr), (c, true) ∈ l → X.mg c = some (.ref C) → ∀ (a : Addr) (oe : Obj) (d : Option Addr) (dx : Addr) (pn : List (Addr × Obj)) (z : Exn), z.c = c → Zc (.ref C) d oe → (∃ vs, oe.data = .fields vs) → PF z d dx → BS (X.suite a ((a, oe) :: pn)) W hk (Γ.set i (.d .exn (a, dx, z))) suite (h z) I
theorem hh_nil : HH X W hk Γ i suite I (fun _ => .no) [] := fun _ _ h => nomatch h
theorem hh_no {h : Exn → Mx β} {l : List (Str × Bool)} (k : HH X W hk Γ i suite I h l) : HH X W hk Γ i suite I h ((c, false) :: l) := fun c' C' hm => k c' C' (by
  rcases List.mem_cons.mp hm with h1 | h1
  · exact nomatch (Prod.mk.inj h1).2
  · exact h1)
theorem hh_yes {hA h : Exn → Mx β} {l : List (Str × Bool)} (hm : X.mg c = some (.ref C))
    (hb : ∀ (a : Addr) (oe : Obj) (d : Option Addr) (dx : Addr) (pn : List (Addr × Obj)) (z : Exn), Zc (.ref C) d oe → (∃ vs, oe.data = .fields vs) → PF z d dx → BS (X.suite a ((a, oe) :: pn)) W hk (Γ.set i (.d .exn (a, dx, z))) suite (hA z) I)
    (k : HH X W hk Γ i suite I h l) : HH X W hk Γ i suite I (fun z => if z.c = c then hA z else h z) ((c, true) :: l) := fun c' C' hin hC' a oe d dx pn z hz h1 h2 h3 => by
  by_cases hc : z.c = c
  · have e1 : c' = c := by rw [← hz, hc]
    subst e1
    have e2 : C' = C := by rw [hm] at hC'; cases hC'; rfl
    subst e2
    have := hb a oe d dx pn z h1 h2 h3
    simp only [if_pos hc]
    exact this
  · simp only [if_neg hc]
    refine k c' C' ?_ hC' a oe d dx pn z hz h1 h2 h3
    rcases List.mem_cons.mp hin with h4 | h4
    · exact absurd (hz.trans (Prod.mk.inj h4).1) hc
    · exact h4
theorem s1_tryC {l : List (Str × Bool)} {mb : Mx β} {h : Exn → Mx β} (js : List Nat) (hs : X.stack = X.env :: X.outer) (hf : X.env.frame = some X.env.locals) (hN : X.N.Nodup) (hi : X.N[i]? = some n) (hln : X.env.kindOf n = some .local) (hn : Names X c (.ref C)) (tk : Takes X W) (hno : Ctx.noOwn Γ = true) (hjs0 : ∀ j ∈ hk, j ∈ js) (hlast0 : js.contains (Γ.length - 1) = true) (hsub : SubOk X l C)
    (hil : Nat.ble (i + 1) Γ.length = true) (hik : hk.contains i = false)
    (hI : ∀ b Γ1, (I b = .nx Γ1 ∨ I b = .bk Γ1 ∨ I b = .ct Γ1) → Γ1[i]? = some .no)
    (hb : ∀ (W' : WX) (pn : List (Addr × Obj)) (xe : Value → Shared → Prop), Takes (X.tr pn xe) W' → PassesOwn (model X.prog X.w) X.A X.env xe → BS (X.tr pn xe) W' js Γ body mb I)
    (hh : HH X W hk (kept Γ js 0) i (b0 :: suite) I h l) :
    S1 X W hk Γ (.Try body [.ExceptHandler (some (.Name c np)) (some n) (b0 :: suite) pos'] [] [] pos) (tryC l mb h) I :=
  ps_imp (ps_try_as (Wout := W) (c := .ref C) (i := i) (tb := fun W' => tS X.K X.mg W' js Γ mb I) (ts := fun a cls d => fun D σ H => ∃ c1 C1 z dx, ((c1, true) ∈ l ∧ X.mg c1 = some (.ref C1) ∧ z.c = c1 ∧ cls = .ref C1 ∧ PF z d dx) ∧ tS X.K X.mg W hk ((kept Γ js 0).set i (.d .exn (a, dx, z))) (h z) I D σ H) hs hf hN hi hln hn tk (fun W' pn xe t p => hb W' pn xe t p)
    (fun a oe cls d pn hz hv => ⟨fun pins s σ H D J ⟨c1, C1, z, dx, ⟨e0, e3, e4, e1, e2⟩, q⟩ => by subst e1; exact (hh c1 C1 e0 e3 a oe d dx pn z e4 hz hv e2).run pins s σ H D J q⟩)) fun D σ H ⟨E, F, h0, g, q⟩ => by
    have hjs := hjs0
    have hlast : Γ.length - 1 ∈ js := List.contains_iff_mem.mp hlast0
    have gd := g.sdn hno
    have hik' : i ∉ E.hk := by rw [h0]; exact fun z => by rw [List.contains_iff_mem.mpr z] at hik; cases hik
    refine ⟨⟨F, H, js, σ⟩, F, rfl, sg_data (Ext.refl g.e0.i) (fun _ _ => rfl) hno gd, ?_⟩
    have up : ∀ (Γ1 : Ctx) (σ' : L2.St) (F' H' : Hp), SG X.K X.mg ⟨F, H, js, σ⟩ Γ1 σ' F' H' → SG X.K X.mg E Γ1 σ' F' H' := fun Γ1 σ' F' H' s => by
      obtain ⟨e1, k1, fps, w⟩ := s
      refine ⟨g.e0.trans e1, fun i hi => (k1 i (hjs i (by rw [← h0]; exact hi))).trans (g.kp i hi), fps, w.at_, w.out, w.nd, w.sep, fun i a ha => ⟨(w.new i a ha).1, ?_⟩⟩
      cases eb : E.B a with
      | none => rfl
      | some o => have := g.e0.h _ _ eb; rw [show H a = none from (w.new i a ha).2] at this; cases this
    cases hmb : mb with
    | no => rw [hmb] at q; exact q
    | ok b =>
      rw [hmb] at q
      have q : outP X.K X.mg E D (I b) := q
      show outP X.K X.mg ⟨F, H, js, σ⟩ D (I b)
      cases ei : I b with
      | nx Γ1 => rw [ei] at q; exact fun σ' F' H' s => q σ' F' H' (up _ _ _ _ s)
      | bk Γ1 => rw [ei] at q; exact fun σ' F' H' s => q σ' F' H' (up _ _ _ _ s)
      | ct Γ1 => rw [ei] at q; exact fun σ' F' H' s => q σ' F' H' (up _ _ _ _ s)
      | rt r y => rw [ei] at q; exact fun v F' H' x rr => q v F' H' (g.e0.trans x) (rtr_pre g.e0.h rr)
      | rs t y o2 x2 => rw [ei] at q; exact fun v Γ1 σ' F' H' e0 s rr => q v Γ1 σ' F' H' e0 (up _ _ _ _ s) rr
    | ex z =>
      rw [hmb] at q
      intro cls d σ' F' H' x kp xz
      obtain ⟨Dz, m1, rfl, m2⟩ := id xz
      unfold tryC at q
      simp only at q
      cases eb : subs l z.c with
      | none => rw [eb] at q; exact q.elim
      | some b =>
        rw [eb] at q
        have hin : (z.c, b) ∈ l := lookup_in eb
        obtain ⟨D1, m3, m4⟩ := hsub _ _ hin
        rw [m1] at m3; cases m3
        refine ⟨b, m4, fun hb2 a _ => ?_, fun hb2 => ?_⟩
        · subst hb2
          have q : postS X.mg W E (h z) (fun b => outP X.K X.mg E D (I b)) := q
          obtain ⟨dx, hpf, hat⟩ : ∃ dx, PF z d dx ∧ z.at_ F' dx := by
            unfold PF Exn.at_
            cases hp : z.p with
            | n => rw [hp] at m2; exact ⟨0, m2, True.intro⟩
            | i n => rw [hp] at m2; obtain ⟨dx, e1, e2⟩ := m2; exact ⟨dx, e1, e2⟩
            | s n => rw [hp] at m2; obtain ⟨dx, e1, e2⟩ := m2; exact ⟨dx, e1, e2⟩
          refine ⟨z.c, Dz, z, dx, ⟨hin, m1, rfl, rfl, hpf⟩, E, F', h0, ?_, q.mono fun b qb => ?_⟩
          · have hno2 : Ctx.noOwn ((kept Γ js 0).set i (.d .exn (a, dx, z))) = true := by
              unfold Ctx.noOwn
              rw [List.all_eq_true]
              intro s hs
              rcases List.mem_or_eq_of_mem_set hs with h1 | h1
              · have := noOwn_kept (js := js) (n := 0) hno
                unfold Ctx.noOwn at this
                exact List.all_eq_true.mp this s h1
              · subst h1; rfl
            refine sg_data (g.e0.trans x) (fun j hj => ?_) hno2 fun j s e => ?_
            · rw [List.getElem?_set_ne (show i ≠ j from fun z => hik' (by rw [z]; exact hj))]
              exact (kp j (hjs j (by rw [← h0]; exact hj))).trans (g.kp j hj)
            · have hll : Γ.length ≤ σ'.length := by
                obtain ⟨ov2, e2, _⟩ := gd (Γ.length - 1) _ (List.getElem?_eq_getElem (by have := Nat.le_of_ble_eq_true hil; omega))
                have e3 := (kp (Γ.length - 1) hlast).trans e2
                have := (List.getElem?_eq_some_iff.mp e3).1
                omega
              have hil' : i < σ'.length := by have := Nat.le_of_ble_eq_true hil; omega
              by_cases hj : j = i
              · subst hj
                have hkl : j < (kept Γ js 0).length := by
                  have := (List.getElem?_eq_some_iff.mp e).1
                  rwa [List.length_set] at this
                rw [List.getElem?_set_self hkl] at e
                cases e
                exact ⟨some (.ref a), List.getElem?_set_self hil', .ref a, rfl, rfl, hat⟩
              · rw [List.getElem?_set_ne (Ne.symm hj)] at e
                rw [List.getElem?_set_ne (Ne.symm hj)]
                obtain ⟨u, h1, h2⟩ := kept_get e
                obtain ⟨ov, e1, r⟩ := gd j u h1
                rcases h2 with rfl | ⟨rfl, hjj⟩
                · have hi : j < Γ.length := (List.getElem?_eq_some_iff.mp h1).1
                  exact ⟨_, List.getElem?_eq_getElem (by omega), True.intro⟩
                · rw [Nat.zero_add] at hjj
                  exact ⟨ov, (kp j hjj).trans e1, sd_mono x.f r⟩
          · cases ei : I b with
            | nx Γ1 => rw [ei] at qb; exact fun σ' F' H' s => qb (σ'.set i none) F' H' (s.unset (hI b Γ1 (.inl ei)) hik')
            | bk Γ1 => rw [ei] at qb; exact fun σ' F' H' s => qb (σ'.set i none) F' H' (s.unset (hI b Γ1 (.inr (.inl ei))) hik')
            | ct Γ1 => rw [ei] at qb; exact fun σ' F' H' s => qb (σ'.set i none) F' H' (s.unset (hI b Γ1 (.inr (.inr ei))) hik')
            | rt r y => rw [ei] at qb; exact qb
            | rs t y o2 x2 => rw [ei] at qb; exact qb
        · subst hb2
          exact q (.ref Dz) d σ' F' H' (g.e0.trans x) (fun i hi => (kp i (hjs i (by rw [← h0]; exact hi))).trans (g.kp i hi)) xz
end
section
variable {X : Cx} {W : WX} {Γ : Ctx} {a : Expr} {pos : Pos} {t : Ty} {F H : Hp}
/-- isinstance of what may be None -/
theorem e_isiP {q q2 : Pos} {m : Mx (Option t.den)} {n : Str} {T T' : String} {res : Bool} (hg : Gl X "isinstance") (hm : X.mg "isinstance" = none) (ha : EM X W Γ a (.opt t) m) (ht : t.cls = some T) (hn : PE X (.Name n q2) (tC (.ty T'))) (hk : kitB T T' = some res) (h0 : kitB "NoneType" T' = some false)
    (hs : starEach [a, .Name n q2] X.env = (false, eval a X.env) :: starEach [.Name n q2] X.env := by rfl) : EM X W Γ (.Call (.Name "isinstance" q) [a, .Name n q2] [] pos) .bool (m >>= fun x => .ok (if x.isSome then res else false)) :=
  pe_imp (pe_callB call_isi hg hm (by decide +kernel) (pa_cons ha (pa_cons hn pa_nil) hs) (he := hs)) fun σ H Q ⟨F, s, d, p⟩ => ⟨F, s, d, p.bind.mono fun x px v F1 H1 e1 r1 => by
    cases x with
    | none =>
      cases (List.cons.inj (show [v] = _ from r1)).1
      exact ⟨.non, .ty T', .type "NoneType", .type T', false, rfl, .ty T', .base .non, kit_ty h0, px _ F1 H1 e1 rfl⟩
    | some y => exact ⟨v, .ty T', .type T, .type T', res, rfl, .ty T', rl_tyx ht e1.i (show [v] ≠ [.non] ∧ rl X.K X.mg t y [v] F1 from r1).2, kit_ty hk, px _ F1 H1 e1 rfl⟩⟩
end
end Gm
set_option Elab.async false
set_option linter.all false
set_option maxRecDepth 100000
set_option maxHeartbeats 4000000
namespace Gm
open PySem PySem.Spec L2
/-- membership, by the deciding of equality -/
abbrev memD {α : Type} [DecidableEq α] (x : α) (l : List α) : Bool := decide (x ∈ l)
/-! ## a new list goes into an owned thing -/
theorem frz_ext {K : PySem.W.Frag} {mg : Str → Option Value} {o : Ow} {F H F' H' : Hp} {x : o.ty.den} {v : V} (e1 : Ext F H F' H') (r : rtr K mg (.o o) x v H F' H') : ∃ F2, Ext F H F2 H' ∧ rl K mg o.ty x [v] F2 := by
  obtain ⟨fp, r, nd, nw⟩ := r
  let fi : Nat → List Addr := fun j => if j = 0 then fp else []
  have fin : ∀ a, a ∈ fp → frozen F' H' fi a = H' a := fun a ha => frozen_in (i := 0) (by show a ∈ (if (0 : Nat) = 0 then fp else []); rw [if_pos rfl]; exact ha)
  have fout : ∀ a, a ∉ fp → frozen F' H' fi a = F' a := fun a ha => frozen_out fun j hj => by
    have hj : a ∈ (if j = 0 then fp else []) := hj
    by_cases z : j = 0
    · rw [if_pos z] at hj; exact ha hj
    · rw [if_neg z] at hj; cases hj
  have le : Same F' (frozen F' H' fi) := fun b u eb => by
    rw [fout b fun hb => by rw [(nw b hb).1] at eb; cases eb]; exact eb
  refine ⟨frozen F' H' fi, ⟨e1.f.trans le, e1.h, fun b u eb => ?_, fun q hq hf => ?_⟩, ol_rl le o x _ _ (fun a ha => fin a ha) r⟩
  · by_cases hb : b ∈ fp
    · rw [fin b hb] at eb; exact eb
    · rw [fout b hb] at eb; exact e1.i _ _ eb
  · by_cases hb : q ∈ fp
    · exact absurd (nw q hb).2 hq
    · rw [fout q hb]; exact e1.n q hq hf
section
variable {X : Cx} {W : WX} {hk : List Nat} {Γ Γ' Γv Γi : Ctx} {st : Stmt} {rest body : List Stmt} {a b e : Expr} {pos p p2 cpos apos : Pos} {β : Type} {I : β → Out} {k s2 : Ty} {o : Ow}
theorem bs_appO (i : Nat) {xs : List (Ty.list s2).den} {me : Mx (Ty.list s2).den} {k : List (Ty.list s2).den → Mx β} {n : Str} {apos cpos : Pos} (hi : Γ[i]? = some (.o (.l (.d (Ty.list s2))) xs)) (hx : PE X (.Name n p) (tVar i)) (he : EO X W Γv e (.l (.d s2)) me) (vw : Vw Γ (.o (.l (.d s2))) Γv) (hr : ∀ ys, BS X W hk (Γ.set i (.o (.l (.d (Ty.list s2))) ys)) rest (k ys) I)
    (hbase : attributeBase (.Name n p) "append" X.env (eval (.Name n p) X.env) = eval (.Name n p) X.env := by rfl) (hfew : ((backTo cpos (starEach [e] X.env)).all (fun x => !x.1) && (backToKw cpos (keywordEach [] X.env)).all (fun x => x.1.isSome) && decide ([e].length + ([] : List Keyword).length + (if ([] : List Keyword).isEmpty then 0 else 1) < 30)) = true := by rfl)
    (hline : (apos.endLine == cpos.line) = true := by rfl) (hs : starEach [e] X.env = (false, eval e X.env) :: starEach [] X.env := by rfl) (hpl : (backTo cpos (starEach [] X.env)).any (·.1) = false := by rfl) :
    BS X W hk Γ (.Expr (.Call (.Attribute (.Name n p) "append" apos) [e] [] cpos) pos :: rest) (me >>= fun y => ofO (appO xs y) >>= k) I :=
  have hr' : PSs X rest (fun D σ H => ∃ ys, tS X.K X.mg W hk (Γ.set i (.o (.l (.d (Ty.list s2))) ys)) (k ys) I D σ H) := ⟨fun pins s σ H D J ⟨x, q⟩ => (hr x).run pins s σ H D J q⟩
  pss_imp (pss_cons (ps_expr (pe_bm PySem.F.plainAttrs_list PySem.F.slot_list_append PySem.F.type_list_append mt_append hx (pa_cons he pa_nil hs) hbase hfew hline hs hpl)) hr') fun D σ H ⟨E, F, h, g, q⟩ => by
    obtain ⟨fps, w⟩ := g.ow
    obtain ⟨ov, e1, v, rfl, ho⟩ := w.at_ i _ hi
    obtain ⟨a, ws, rfl, e3, e4, rr⟩ := own_lst ho
    refine ⟨.ref a, e1, .inl ⟨rfl, ws, SqL.of e4⟩, ?_⟩
    obtain ⟨G, g1, g2, g3⟩ := g.look vw
    refine ⟨G, g1, g2, q.bind.post g (fun F' H' x => let ⟨F2, a, _, b⟩ := g3 F' H' x; ⟨F2, a, b⟩) fun y py u F' H' ex ru => ?_⟩
    obtain ⟨F2', x2', back, _⟩ := g3 F' H' ex
    obtain ⟨F2, x2, ru2⟩ := frz_ext x2' (back y u ru)
    unfold appO at py
    by_cases hl : xs.length < sizeLine
    · rw [if_pos hl] at py
      refine ⟨a, ws, u, rfl, rfl, x2.h _ _ e4, by rw [← rr.len]; exact hl, xs ++ [y], E, F2, h, ?_, py⟩
      exact (g.grow x2).write hi e1 ((rr.imp fun z v q => rl_mono x2.f (Ty.list s2) z [v] q).app ⟨ru2, True.intro⟩)
    · rw [if_neg hl] at py; exact py.elim
theorem bs_appPO (i : Nat) {x : o.ty.den} {xs : List (Ty.list s2).den} {put : List (Ty.list s2).den → o.ty.den} {me : Mx (Ty.list s2).den} {k : List (Ty.list s2).den → Mx β} (hi : Γ[i]? = some (.o o x)) (hp : PLc X Γ a i o (.l (.d (Ty.list s2))) xs put) (he : EO X W Γv e (.l (.d s2)) me) (vw : Vw Γ (.o (.l (.d s2))) Γv) (hr : ∀ ys, BS X W hk (Γ.set i (.o o (put ys))) rest (k ys) I)
    (hbase : attributeBase a "append" X.env (eval a X.env) = eval a X.env) (hfew : ((backTo cpos (starEach [e] X.env)).all (fun x => !x.1) && (backToKw cpos (keywordEach [] X.env)).all (fun x => x.1.isSome) && decide ([e].length + ([] : List Keyword).length + (if ([] : List Keyword).isEmpty then 0 else 1) < 30)) = true)
    (hline : (apos.endLine == cpos.line) = true) (hs : starEach [e] X.env = (false, eval e X.env) :: starEach [] X.env) (hpl : (backTo cpos (starEach [] X.env)).any (·.1) = false) :
    BS X W hk Γ (.Expr (.Call (.Attribute a "append" apos) [e] [] cpos) pos :: rest) (me >>= fun y => ofO (appO xs y) >>= k) I :=
  have hr' : PSs X rest (fun D σ H => ∃ ys, tS X.K X.mg W hk (Γ.set i (.o o (put ys))) (k ys) I D σ H) := ⟨fun pins s σ H D J ⟨x, q⟩ => (hr x).run pins s σ H D J q⟩
  pss_imp (pss_cons (ps_expr (pe_bm PySem.F.plainAttrs_list PySem.F.slot_list_append PySem.F.type_list_append mt_append (pe_ex hp) (pa_cons he pa_nil hs) hbase hfew hline hs hpl)) hr') fun D σ H ⟨E, F, h, g, q⟩ => by
    obtain ⟨fps, g⟩ := g.f
    obtain ⟨ov, e1, v, rfl, ho⟩ := g.ow.at_ i _ hi
    refine ⟨E, F, v, fps, g, e1, fun u S => ?_⟩
    obtain ⟨fb, nd, nF, ob, fin⟩ := g.sub hi e1 S
    obtain ⟨q0, ws, rfl, e3, e4, rr⟩ := own_lst ob
    refine ⟨.inl ⟨rfl, ws, SqL.of e4⟩, ?_⟩
    obtain ⟨G, g1, g2, g3⟩ := g.sg.look vw
    refine ⟨G, g1, g2, q.bind.post g.sg (fun F' H' x => let ⟨F2, a, _, b⟩ := g3 F' H' x; ⟨F2, a, b⟩) fun y py u F' H' ex ru => ?_⟩
    obtain ⟨F2', x2', back, _⟩ := g3 F' H' ex
    obtain ⟨F2, x2, ru2⟩ := frz_ext x2' (back y u ru)
    unfold appO at py
    by_cases hl : xs.length < sizeLine
    · rw [if_pos hl] at py
      have hq : q0 ∈ fb := by rw [e3]; exact List.mem_singleton.mpr rfl
      have nF2 : F2 q0 = none := x2.n q0 (by rw [e4]; exact fun z => nomatch z) (nF q0 hq)
      refine ⟨q0, ws, u, rfl, rfl, x2.h _ _ e4, by rw [← rr.len]; exact hl, xs ++ [y], E, F2, h, ?_, py⟩
      exact fin x2 nd (fun a ha => .inl ha) (upd_other hq) (same_upd x2.i nF2) (by rw [e3]; exact lst_own (all2.app (ys := [y]) (ws := [u]) (rr.imp fun z v q => rl_mono x2.f (Ty.list s2) z [v] q) ⟨ru2, True.intro⟩) upd_same)
    · rw [if_neg hl] at py; exact py.elim
theorem bs_nputO (i : Nat) {x : o.ty.den} [DecidableEq k.den] {xs : List (k.den × (Ty.list s2).den)} {put : List (k.den × (Ty.list s2).den) → o.ty.den} {me : Mx (Ty.list s2).den} {mx : Mx k.den} {kk : List (k.den × (Ty.list s2).den) → Mx β} (hk2 : k.kyN = true) (hu : X.A.units + 64 < cLine) (hi : Γ[i]? = some (.o o x)) (hp : PLc X Γ a i o (.dicN X.prog X.w k (.d (Ty.list s2))) xs put) (he : EO X W Γv e (.l (.d s2)) me) (vw : Vw Γ (.o (.l (.d s2))) Γv)
    (hj : EM X W Γi b k mx) (vi : Vw Γ (.d k) Γi) (hr : ∀ ys, BS X W hk (Γ.set i (.o o (put ys))) rest (kk ys) I) (hs : swapsWith e (some (.Subscript a b p2)) pos.line X.env = pure false) :
    BS X W hk Γ (.Assign [.Subscript a b p2] e pos :: rest) (me >>= fun y => mx >>= fun x => ofO (dputO xs x y) >>= kk) I :=
  have hk2 := kyN_of hk2
  have hr' : PSs X rest (fun D σ H => ∃ ys, tS X.K X.mg W hk (Γ.set i (.o o (put ys))) (kk ys) I D σ H) := ⟨fun pins s σ H D J ⟨x, q⟩ => (hr x).run pins s σ H D J q⟩
  pss_imp (pss_cons (ps_nput hu (pe_ex hp) hj he hs) hr') fun D σ H ⟨E, F, h, g, q⟩ => by
    obtain ⟨G, g1, g2, g3⟩ := g.look vw
    refine ⟨G, g1, g2, q.bind.post g (fun F' H' x => let ⟨F2, a, _, b⟩ := g3 F' H' x; ⟨F2, a, b⟩) fun y py u F' H' ex ru => ?_⟩
    obtain ⟨F2', x2', back, _⟩ := g3 F' H' ex
    obtain ⟨F2, x2, ru2⟩ := frz_ext x2' (back y u ru)
    obtain ⟨fps, gg⟩ := (g.grow x2).f
    obtain ⟨ov, e1, v, rfl, ho⟩ := gg.ow.at_ i _ hi
    refine ⟨E, F2, v, fps, gg, e1, fun u0 S => ?_⟩
    obtain ⟨fb, nd, nF, ob, fin⟩ := gg.sub hi e1 S
    obtain ⟨q0, kvs, rfl, e3, e4, rr⟩ := own_dn ob
    obtain ⟨G2, k1, k2, k3⟩ := gg.sg.look vi
    refine ⟨G2, k1, k2, py.bind.post gg.sg (fun F' H' x => let ⟨F3, a, _, b⟩ := k3 F' H' x; ⟨F3, a, b⟩) fun x px v2 F'' H'' ex2 rx => ?_⟩
    obtain ⟨F3, x3, back3, _⟩ := k3 F'' H'' ex2
    have rx2 : rl X.K X.mg k x [v2] F3 := back3 x v2 rx
    obtain ⟨bb, rfl⟩ := hk2.ref rx2
    unfold dputO at px
    by_cases hz : xs.length < sizeLine
    · rw [if_pos hz] at px
      have ru3 : rl X.K X.mg (Ty.list s2) y [u] F3 := rl_mono x3.f (Ty.list s2) y [u] ru2
      have hl3 := x3.h _ _ e4
      have rr3 := rr.imp (fun z b q => rl_mono x3.f k z [.ref b] q) (fun z w q => rl_mono x3.f (Ty.list s2) z [w] q)
      have hq : q0 ∈ fb := by rw [e3]; exact List.mem_singleton.mpr rfl
      have nF3 : F3 q0 = none := x3.n q0 (by rw [e4]; exact fun z => nomatch z) (nF q0 hq)
      refine ⟨q0, bb, kvs, k.nk x, rfl, rfl, hl3, rr3.nks hk2 x3.i, hk2.nk x3.i rx2, by rw [← rr.len]; exact hz, dput xs x y, E, F3, h, ?_, px⟩
      exact fin x3 nd (fun a ha => .inl ha) (upd_other hq) (same_upd x3.i nF3) (by rw [e3]; exact dn_own (rr3.put hk2.inj x rx2 ru3) upd_same)
    · rw [if_neg hz] at px; exact px.elim
theorem bs_dputO (i : Nat) [DecidableEq k.den] {xs : List (k.den × (Ty.list s2).den)} {me : Mx (Ty.list s2).den} {mx : Mx k.den} {kk : List (k.den × (Ty.list s2).den) → Mx β} {n : Str} (hk2 : Ky k) (hu : X.A.units + 64 < cLine) (hi : Γ[i]? = some (.o (.dic k (Ty.list s2)) xs)) (hx : PE X (.Name n p) (tVar i)) (he : EO X W Γv e (.l (.d s2)) me) (vw : Vw Γ (.o (.l (.d s2))) Γv)
    (hj : EM X W Γi b k mx) (vi : Vw Γ (.d k) Γi) (hr : ∀ ys, BS X W hk (Γ.set i (.o (.dic k (Ty.list s2)) ys)) rest (kk ys) I) (hs : swapsWith e (some (.Subscript (.Name n p) b p2)) pos.line X.env = pure false) :
    BS X W hk Γ (.Assign [.Subscript (.Name n p) b p2] e pos :: rest) (me >>= fun y => mx >>= fun x => ofO (dputO xs x y) >>= kk) I :=
  have hr' : PSs X rest (fun D σ H => ∃ ys, tS X.K X.mg W hk (Γ.set i (.o (.dic k (Ty.list s2)) ys)) (kk ys) I D σ H) := ⟨fun pins s σ H D J ⟨x, q⟩ => (hr x).run pins s σ H D J q⟩
  pss_imp (pss_cons (ps_dput (by omega) hx hj he hs) hr') fun D σ H ⟨E, F, h, g, q⟩ => by
    obtain ⟨G, g1, g2, g3⟩ := g.look vw
    refine ⟨G, g1, g2, q.bind.post g (fun F' H' x => let ⟨F2, a, _, b⟩ := g3 F' H' x; ⟨F2, a, b⟩) fun y py u F' H' ex ru => ?_⟩
    obtain ⟨F2', x2', back, _⟩ := g3 F' H' ex
    obtain ⟨F2, x2, ru2⟩ := frz_ext x2' (back y u ru)
    have gg := g.grow x2
    obtain ⟨fps, w⟩ := id gg.ow
    obtain ⟨ov, e1, v, rfl, ho⟩ := w.at_ i _ hi
    obtain ⟨l, kvs, ev, efp, hl, rr⟩ := id ho
    cases (List.cons.inj ev).1
    refine ⟨.ref l, e1, ?_⟩
    obtain ⟨G2, k1, k2, k3⟩ := gg.look vi
    refine ⟨G2, k1, k2, py.bind.post gg (fun F' H' x => let ⟨F3, a, _, b⟩ := k3 F' H' x; ⟨F3, a, b⟩) fun x px v2 F'' H'' ex2 rx => ?_⟩
    obtain ⟨F3, x3, back3, _⟩ := k3 F'' H'' ex2
    have rx2 : rl X.K X.mg k x [v2] F3 := back3 x v2 rx
    cases hk2.2 _ _ _ _ _ rx2
    unfold dputO at px
    by_cases hz : xs.length < sizeLine
    · rw [if_pos hz] at px
      have ru3 : rl X.K X.mg (Ty.list s2) y [u] F3 := rl_mono x3.f (Ty.list s2) y [u] ru2
      have hl3 : H'' l = some (.dK kvs) := x3.h _ _ hl
      refine ⟨l, upd H'' l (.dK (putK kvs (k.key x) u)), rfl, .inl ⟨kvs, k.key x, hl3, rfl, by rw [← rr.len]; exact hz, rfl⟩, dput xs x y, E, F3, h, ?_, px⟩
      refine (gg.grow x3).writeO hi e1 fun fp nd hol => ?_
      obtain ⟨l', kvs', ev', efp', hl', rr'⟩ := hol
      cases (List.cons.inj ev').1
      rw [hl3] at hl'
      cases hl'
      exact ⟨by rw [efp']; exact List.mem_singleton.mpr rfl, l, _, rfl, efp', upd_same, rr'.put hk2.1 x ru3⟩
    · rw [if_neg hz] at px; exact px.elim
end
section
variable {X : Cx} {W : WX} {hk : List Nat} {Γ : Ctx} {tg a : Expr} {t : Ty}
/-- a new list is walked -/
theorem is_own {m : Mx (List t.den)} (hf : t.flat = true) (ha : EO X W Γ a (.l (.d t)) m) : IS X W hk Γ tg a t m := pi_imp (pi_list ha) fun σ H R ⟨E, F, hh, g, q⟩ => by
  obtain ⟨G, g1, g2, g3⟩ := g.look (r := .o (.l (.d t))) (.all hf)
  refine ⟨G, g1, g2, q.post g (fun F' H' x => let ⟨F2, a, _, b⟩ := g3 F' H' x; ⟨F2, a, b⟩) fun x px v F' H' ex ru => ?_⟩
  obtain ⟨F2', x2', back, _⟩ := g3 F' H' ex
  obtain ⟨F1, e1, r1⟩ := frz_ext x2' (back x v ru)
  obtain ⟨l, ws, e, sq, rr⟩ := r1
  refine ⟨l, (List.cons.inj e).1, ⟨ws, SqL.of (e1.i _ _ sq)⟩, px F1 H' _ e1 ⟨fun i H s hi => ?_, fun i H s hi => ⟨ws, SqL.of (s _ _ sq), by rw [← rr.len]; exact hi⟩, fun i H v H3 s _ y => ?_⟩⟩
  · obtain ⟨v, h1, _⟩ := rr.get (List.getElem?_eq_getElem hi)
    exact ⟨ws, v, SqL.of (s _ _ sq), h1⟩
  · obtain ⟨rfl, y⟩ := y
    obtain ⟨z, h1, h2⟩ := rr.getV (y ws (SqL.of (s _ _ sq)))
    exact ⟨z, h1, fun G g1 g2 => ⟨G, Ext.refl g2, rl_mono g1 t z _ h2⟩⟩
end
/-! ## comparing what may be None -/
def rEqP (X : Cx) : R2 := fun v w H Q => ∃ (F : Hp) (t : Ty) (x y : Option t.den), Same F H ∧ Ty.top t = true ∧ t.some_ = true ∧ t.depth ≤ 60 ∧ rl X.K X.mg (.opt t) x [v] F ∧ rl X.K X.mg (.opt t) y [w] F ∧ Q (.bl ((Ty.opt t).beq x y)) H
theorem op_eqP {X : Cx} (hu : X.A.units + 64 < cLine) : OpR X (compareOp .Eq) (rEqP X) := by
  intro pins s σ H v w u u' Q I rv rw' h
  obtain ⟨F, t, x, y, hs, ht, h1, hd, p, q, hq⟩ := h
  obtain ⟨l, el⟩ := eqok_kds h1 (top_eqok ht)
  cases x with
  | none =>
    cases (List.cons.inj (show [v] = [V.non] from p)).1
    cases y with
    | none =>
      cases (List.cons.inj (show [w] = [V.non] from q)).1
      exact op_eq pins s σ H .non .non u u' Q I rv rw' ⟨rfl, hq⟩
    | some y =>
      obtain ⟨k, _, kw⟩ := kw_of I hs el (show [w] ≠ [.non] ∧ rl X.K X.mg t y [w] F from q).2
      cases kw with
      | i n => exact op_eq pins s σ H _ _ u u' Q I rv rw' ⟨rfl, hq⟩
      | b n => exact op_eq pins s σ H _ _ u u' Q I rv rw' ⟨rfl, hq⟩
      | s n => exact op_eq pins s σ H _ _ u u' Q I rv rw' ⟨rfl, hq⟩
      | t h => cases rv; cases rw'; exact SeqAt.RcAt.none_tuple h (by omega) X.prog X.w X.xe _ ⟨.bl _, H, I, rfl, hq⟩
      | l h => cases rv; cases rw'; exact SeqAt.RcAt.none_list h (by omega) X.prog X.w X.xe _ ⟨.bl _, H, I, rfl, hq⟩
  | some x =>
    cases y with
    | none =>
      cases (List.cons.inj (show [w] = [V.non] from q)).1
      obtain ⟨k, _, kw⟩ := kw_of I hs el (show [v] ≠ [.non] ∧ rl X.K X.mg t x [v] F from p).2
      cases kw with
      | i n => exact op_eq pins s σ H _ _ u u' Q I rv rw' ⟨rfl, hq⟩
      | b n => exact op_eq pins s σ H _ _ u u' Q I rv rw' ⟨rfl, hq⟩
      | s n => exact op_eq pins s σ H _ _ u u' Q I rv rw' ⟨rfl, hq⟩
      | t h => cases rv; cases rw'; exact SeqAt.RcAt.tuple_none h (by omega) X.prog X.w X.xe _ ⟨.bl _, H, I, rfl, hq⟩
      | l h => cases rv; cases rw'; exact SeqAt.RcAt.list_none h (by omega) X.prog X.w X.xe _ ⟨.bl _, H, I, rfl, hq⟩
    | some y => exact op_eqT hu pins s σ H v w u u' Q I rv rw' ⟨F, t, x, y, hs, ht, hd, (show [v] ≠ [.non] ∧ rl X.K X.mg t x [v] F from p).2, (show [w] ≠ [.non] ∧ rl X.K X.mg t y [w] F from q).2, hq⟩
def rNeP (X : Cx) : R2 := fun v w H Q => ∃ (F : Hp) (t : Ty) (x y : Option t.den), Same F H ∧ Ty.top t = true ∧ t.some_ = true ∧ t.depth ≤ 60 ∧ rl X.K X.mg (.opt t) x [v] F ∧ rl X.K X.mg (.opt t) y [w] F ∧ Q (.bl (!(Ty.opt t).beq x y)) H
theorem op_neP {X : Cx} (hu : X.A.units + 64 < cLine) : OpR X (compareOp .NotEq) (rNeP X) := by
  intro pins s σ H v w u u' Q I rv rw' h
  obtain ⟨F, t, x, y, hs, ht, h1, hd, p, q, hq⟩ := h
  obtain ⟨l, el⟩ := eqok_kds h1 (top_eqok ht)
  cases x with
  | none =>
    cases (List.cons.inj (show [v] = [V.non] from p)).1
    cases y with
    | none =>
      cases (List.cons.inj (show [w] = [V.non] from q)).1
      exact op_ne pins s σ H .non .non u u' Q I rv rw' ⟨rfl, hq⟩
    | some y =>
      obtain ⟨k, _, kw⟩ := kw_of I hs el (show [w] ≠ [.non] ∧ rl X.K X.mg t y [w] F from q).2
      cases kw with
      | i n => exact op_ne pins s σ H _ _ u u' Q I rv rw' ⟨rfl, hq⟩
      | b n => exact op_ne pins s σ H _ _ u u' Q I rv rw' ⟨rfl, hq⟩
      | s n => exact op_ne pins s σ H _ _ u u' Q I rv rw' ⟨rfl, hq⟩
      | t h => cases rv; cases rw'; exact SeqAt.RcNeAt.none_tuple h (by omega) X.prog X.w X.xe _ ⟨.bl _, H, I, rfl, hq⟩
      | l h => cases rv; cases rw'; exact SeqAt.RcNeAt.none_list h (by omega) X.prog X.w X.xe _ ⟨.bl _, H, I, rfl, hq⟩
  | some x =>
    cases y with
    | none =>
      cases (List.cons.inj (show [w] = [V.non] from q)).1
      obtain ⟨k, _, kw⟩ := kw_of I hs el (show [v] ≠ [.non] ∧ rl X.K X.mg t x [v] F from p).2
      cases kw with
      | i n => exact op_ne pins s σ H _ _ u u' Q I rv rw' ⟨rfl, hq⟩
      | b n => exact op_ne pins s σ H _ _ u u' Q I rv rw' ⟨rfl, hq⟩
      | s n => exact op_ne pins s σ H _ _ u u' Q I rv rw' ⟨rfl, hq⟩
      | t h => cases rv; cases rw'; exact SeqAt.RcNeAt.tuple_none h (by omega) X.prog X.w X.xe _ ⟨.bl _, H, I, rfl, hq⟩
      | l h => cases rv; cases rw'; exact SeqAt.RcNeAt.list_none h (by omega) X.prog X.w X.xe _ ⟨.bl _, H, I, rfl, hq⟩
    | some y => exact op_neT hu pins s σ H v w u u' Q I rv rw' ⟨F, t, x, y, hs, ht, hd, (show [v] ≠ [.non] ∧ rl X.K X.mg t x [v] F from p).2, (show [w] ≠ [.non] ∧ rl X.K X.mg t y [w] F from q).2, hq⟩
theorem c_eqP {X : Cx} {W : WX} {Γ : Ctx} {a b : Expr} {t : Ty} {m1 m2 : Mx (Option t.den)} [d : DecidableEq (Option t.den)] (hu : X.A.units + 64 < cLine) (ha : EM X W Γ a (.opt t) m1) (hb : EM X W Γ b (.opt t) m2) (ht : t.top = true) (h1 : t.some_ = true) (hd : t.depth ≤ 60) :
    EC X W Γ .Eq a b (m1 >>= fun x => m2 >>= fun y => .ok (decide (x = y))) :=
  c_op (t1 := .opt t) (t2 := .opt t) (g := fun x y => some (decide (x = y))) (op_eqP hu) (fun x y z e v w F H Q s r1 r2 k => by
    cases e
    have he : (Ty.opt t).eqok = true := by show (t.some_ && t.eqok) = true; rw [h1, top_eqok ht]; rfl
    exact ⟨F, t, x, y, s, ht, h1, hd, r1, r2, by rw [beq_dec (t := .opt t) he]; exact k⟩) ha hb
theorem c_neP {X : Cx} {W : WX} {Γ : Ctx} {a b : Expr} {t : Ty} {m1 m2 : Mx (Option t.den)} [d : DecidableEq (Option t.den)] (hu : X.A.units + 64 < cLine) (ha : EM X W Γ a (.opt t) m1) (hb : EM X W Γ b (.opt t) m2) (ht : t.top = true) (h1 : t.some_ = true) (hd : t.depth ≤ 60) :
    EC X W Γ .NotEq a b (m1 >>= fun x => m2 >>= fun y => .ok (!decide (x = y))) :=
  c_op (t1 := .opt t) (t2 := .opt t) (g := fun x y => some (!decide (x = y))) (op_neP hu) (fun x y z e v w F H Q s r1 r2 k => by
    cases e
    have he : (Ty.opt t).eqok = true := by show (t.some_ && t.eqok) = true; rw [h1, top_eqok ht]; rfl
    exact ⟨F, t, x, y, s, ht, h1, hd, r1, r2, by rw [beq_dec (t := .opt t) he]; exact k⟩) ha hb
end Gm
set_option Elab.async false
set_option linter.all false
set_option maxRecDepth 100000
set_option maxHeartbeats 4000000
namespace Gm
open PySem PySem.Spec L2 PyProof.Rows
/-! ## max and min of a list of ints -/
def mxL : List Int → Option Int
  | [] => none
  | x :: xs => some (xs.foldl max x)
def mnL : List Int → Option Int
  | [] => none
  | x :: xs => some (xs.foldl min x)
theorem foldmax : ∀ (xs : List Int) (x : Int), xs.foldl max x ∈ x :: xs ∧ ∀ y ∈ x :: xs, y ≤ xs.foldl max x
  | [], x => ⟨List.mem_cons_self .., fun y hy => by rw [List.mem_singleton.mp hy]; exact Int.le_refl _⟩
  | z :: xs, x => by
    obtain ⟨h1, h2⟩ := foldmax xs (max x z)
    rw [List.foldl_cons]
    refine ⟨?_, fun y hy => ?_⟩
    · rcases List.mem_cons.mp h1 with h | h
      · rw [h]
        by_cases hz : x ≤ z
        · rw [Int.max_eq_right hz]; simp
        · rw [Int.max_eq_left (by omega)]; simp
      · exact List.mem_cons_of_mem _ (List.mem_cons_of_mem _ h)
    · have h3 := h2 _ (List.mem_cons_self ..)
      rcases List.mem_cons.mp hy with rfl | hy
      · omega
      · rcases List.mem_cons.mp hy with rfl | hy
        · omega
        · exact h2 y (List.mem_cons_of_mem _ hy)
theorem foldmin : ∀ (xs : List Int) (x : Int), xs.foldl min x ∈ x :: xs ∧ ∀ y ∈ x :: xs, xs.foldl min x ≤ y
  | [], x => ⟨List.mem_cons_self .., fun y hy => by rw [List.mem_singleton.mp hy]; exact Int.le_refl _⟩
  | z :: xs, x => by
    obtain ⟨h1, h2⟩ := foldmin xs (min x z)
    rw [List.foldl_cons]
    refine ⟨?_, fun y hy => ?_⟩
    · rcases List.mem_cons.mp h1 with h | h
      · rw [h]
        by_cases hz : x ≤ z
        · rw [Int.min_eq_left hz]; simp
        · rw [Int.min_eq_right (by omega)]; simp
      · exact List.mem_cons_of_mem _ (List.mem_cons_of_mem _ h)
    · have h3 := h2 _ (List.mem_cons_self ..)
      rcases List.mem_cons.mp hy with rfl | hy
      · omega
      · rcases List.mem_cons.mp hy with rfl | hy
        · omega
        · exact h2 y (List.mem_cons_of_mem _ hy)
theorem mxL_spec {xs : List Int} {m : Int} (h : mxL xs = some m) : m ∈ xs ∧ ∀ y ∈ xs, y ≤ m := by
  cases xs with
  | nil => cases h
  | cons x xs => cases h; exact foldmax xs x
theorem mnL_spec {xs : List Int} {m : Int} (h : mnL xs = some m) : m ∈ xs ∧ ∀ y ∈ xs, m ≤ y := by
  cases xs with
  | nil => cases h
  | cons x xs => cases h; exact foldmin xs x
theorem int_all2 {K : PySem.W.Frag} {mg : Str → Option Value} {F : Hp} : ∀ {xs : List Int} {ws : List V}, all2 (fun (x : Int) w => rl K mg .int x [w] F) xs ws → ws = xs.map V.int
  | [], [], _ => rfl
  | x :: xs, w :: ws, ⟨a, b⟩ => by
    rw [List.map_cons, int_all2 b, (List.cons.inj (show [w] = _ from a)).1]
  | [], _ :: _, h => h.elim
  | _ :: _, [], h => h.elim
section
variable {X : Cx} {W : WX} {Γ : Ctx} {a b : Expr} {pos kp : Pos}
theorem e_maxL {q : Pos} {m : Mx (List Int)} (hc : X.calm = true) (hg : Gl X "max") (hm : X.mg "max" = none) (ha : EM X W Γ a (.list .int) m) (hs : starEach [a] X.env = (false, eval a X.env) :: starEach [] X.env := by rfl) :
    EM X W Γ (.Call (.Name "max" q) [a] [] pos) .int (m >>= fun x => ofO (mxL x)) :=
  pe_imp (pe_callB (cr_max hc) hg hm (by decide +kernel) (pa_cons ha pa_nil hs) (he := hs)) fun σ H Q ⟨F, s, d, p⟩ => ⟨F, s, d, p.bind.mono fun x px v F1 H1 e1 r1 => by
    obtain ⟨p, ws, e, sq, rr⟩ := r1
    cases (List.cons.inj e).1
    rw [int_all2 rr] at sq
    cases hx : mxL x with
    | none => rw [hx] at px; exact px.elim
    | some m =>
      rw [hx] at px
      obtain ⟨h1, h2⟩ := mxL_spec hx
      refine ⟨p, x, rfl, SqL.of (e1.i _ _ sq), List.length_pos_of_mem h1, fun m' h3 h4 => ?_⟩
      have : m' = m := Int.le_antisymm (h2 _ h3) (h4 _ h1)
      rw [this]
      exact px _ F1 H1 e1 rfl⟩
theorem e_minL {q : Pos} {m : Mx (List Int)} (hc : X.calm = true) (hg : Gl X "min") (hm : X.mg "min" = none) (ha : EM X W Γ a (.list .int) m) (hs : starEach [a] X.env = (false, eval a X.env) :: starEach [] X.env := by rfl) :
    EM X W Γ (.Call (.Name "min" q) [a] [] pos) .int (m >>= fun x => ofO (mnL x)) :=
  pe_imp (pe_callB (cr_min hc) hg hm (by decide +kernel) (pa_cons ha pa_nil hs) (he := hs)) fun σ H Q ⟨F, s, d, p⟩ => ⟨F, s, d, p.bind.mono fun x px v F1 H1 e1 r1 => by
    obtain ⟨p, ws, e, sq, rr⟩ := r1
    cases (List.cons.inj e).1
    rw [int_all2 rr] at sq
    cases hx : mnL x with
    | none => rw [hx] at px; exact px.elim
    | some m =>
      rw [hx] at px
      obtain ⟨h1, h2⟩ := mnL_spec hx
      refine ⟨p, x, rfl, SqL.of (e1.i _ _ sq), List.length_pos_of_mem h1, fun m' h3 h4 => ?_⟩
      have : m' = m := Int.le_antisymm (h4 _ h1) (h2 _ h3)
      rw [this]
      exact px _ F1 H1 e1 rfl⟩
/-- max(list, default=d) -/
def rMaxD (K : PySem.W.Frag) : List V → List V → Hp → VK → Prop := fun vs zs H Q => ∃ (l : Addr) (ns : List Int) (d : Int), vs = [V.ref l] ∧ zs = [V.int d] ∧ SqL K H l (ns.map V.int) ∧ Q (.int ((mxL ns).getD d)) H
theorem reads_ints {h : Heap} : ∀ {ns : List Int} {us : List Value}, Vals (ns.map V.int) us → ReadsAll h us (ns.map PyData.int) []
  | [], _, r => by cases r; exact .nil
  | n :: ns, _, r => by
    cases r with
    | cons r rs =>
      obtain ⟨t, rfl⟩ := r
      exact .cons (.int n t) (reads_ints rs)
theorem depth_ints : ∀ ns : List Int, PyData.depthAll (ns.map PyData.int) = 0
  | [] => rfl
  | n :: ns => by
    show max (PyData.depth (.int n)) (PyData.depthAll (ns.map PyData.int)) = 0
    rw [depth_ints ns]; rfl
theorem cr_maxD (hc : X.calm = true) (hu : X.A.units + 64 < cLine) : CallRK X (.builtin "max") [("default" : Str)] (rMaxD X.K) := by
  intro pins s σ H vs zs us ws Q I r rz h
  obtain ⟨l, ns, d, rfl, rfl, hs, q⟩ := h
  obtain ⟨its, rv, hl, _⟩ := I.list hs
  rw [Vals.ref1 r]
  cases rz with
  | cons rd rz =>
    cases rz
    obtain ⟨t, rfl⟩ := rd
    refine PySem.W.max_list_default (xs := ns.map PyData.int) (as := []) (d := .int d t) (I.ok.hd hc) hl.isList (by simpa using reads_ints rv) ⟨fun x hx y hy => ?_, fun x hx => ?_⟩ (by rw [depth_ints]; omega) (fun h0 h' tk k => ?_) fun y ys i v h' tk bs e hv rd k => ?_
    · obtain ⟨n, _, rfl⟩ := List.mem_map.mp hx
      obtain ⟨m, _, rfl⟩ := List.mem_map.mp hy
      rfl
    · obtain ⟨n, _, rfl⟩ := List.mem_map.mp hx
      exact fun z => nomatch z
    · have hn : ns = [] := List.map_eq_nil_iff.mp h0
      subst hn
      exact ⟨.int d, H, I.kept (t' := tk) k, ⟨t, rfl⟩, q⟩
    · cases ns with
      | nil => cases e
      | cons n ns =>
        cases e
        rw [PySem.W.maxD_ints] at rd
        cases rd with
        | int _ t2 => exact ⟨.int _, H, I.kept (t' := tk) k, ⟨t2, rfl⟩, q⟩
theorem e_maxD {q : Pos} {m1 : Mx (List Int)} {m2 : Mx Int} (hc : X.calm = true) (hu : X.A.units + 64 < cLine) (hg : Gl X "max") (hm : X.mg "max" = none) (ha : EM X W Γ a (.list .int) m1) (hb : EM X W Γ b .int m2) (hs : starEach [a] X.env = (false, eval a X.env) :: starEach [] X.env) (he : backTo pos (starEach [a] X.env) = (false, eval a X.env) :: backTo pos (starEach [] X.env)) (hpl : (backTo pos (starEach [a] X.env)).any (·.1) = false)
    (hall : (backToKw pos (keywordEach [⟨some ("default" : Str), b, kp⟩] X.env)).all (·.1.isSome) = true) (hnone : (backToKw pos (keywordEach [⟨some ("default" : Str), b, kp⟩] X.env)).any (·.1.isNone) = false) (hks : (backToKw pos (keywordEach [⟨some ("default" : Str), b, kp⟩] X.env)).filterMap (·.1) = [("default" : Str)]) :
    EM X W Γ (.Call (.Name "max" q) [a] [⟨some ("default" : Str), b, kp⟩] pos) .int (m1 >>= fun x => m2 >>= fun y => .ok ((mxL x).getD y)) :=
  pe_imp (pe_callBK (cr_maxD hc hu) hg hm (by decide +kernel) (pa_cons ha pa_nil hs) (pk_cons hb pk_nil) (he := he) (hpl := hpl) (hall := hall) (hnone := hnone) (hks := hks)) (two_of (t1 := .list .int) (t2 := .int) (r := .d .int) (k := fun x y => .ok ((mxL x).getD y)) (rR := fun v w H Q => rMaxD X.K [v] [w] H Q) fun x y v w F H σ Q s r1 r2 k => by
    obtain ⟨p, ws, e, sq, rr⟩ := r1
    cases (List.cons.inj e).1
    cases (List.cons.inj (show [w] = _ from r2)).1
    rw [int_all2 rr] at sq
    exact ⟨p, x, y, rfl, rfl, SqL.of (s _ _ sq), k _ F H (Ext.refl s) rfl⟩)
end
section
variable {X : Cx} {W : WX} {Γ : Ctx} {a : Expr} {t : Ty}
/-- a list without None -/
def allG {α : Type} : List (Option α) → Option (List α)
  | [] => some []
  | none :: _ => none
  | some x :: r => (allG r).map (x :: ·)
theorem allG_all2 {K : PySem.W.Frag} {mg : Str → Option Value} {F : Hp} : ∀ {xs : List (Option t.den)} {ys : List t.den} {ws : List V}, allG xs = some ys → all2 (fun (x : (Ty.opt t).den) w => rl K mg (.opt t) x [w] F) xs ws → all2 (fun x w => rl K mg t x [w] F) ys ws
  | [], ys, [], h, _ => by cases h; exact True.intro
  | none :: _, _, _, h, _ => nomatch h
  | some x :: r, ys, w :: ws, h, ⟨h1, h2⟩ => by
    obtain ⟨zs, hz, rfl⟩ := Option.map_eq_some_iff.mp (show (allG r).map (x :: ·) = some ys from h)
    exact ⟨(show [w] ≠ [.non] ∧ rl K mg t x [w] F from h1).2, allG_all2 hz h2⟩
  | [], _, _ :: _, _, h => h.elim
  | some _ :: _, _, [], _, h => h.elim
theorem e_allG {m : Mx (List (Option t.den))} (ha : EM X W Γ a (.list (.opt t)) m) : EM X W Γ a (.list t) (m >>= fun x => ofO (allG x)) := pe_imp ha fun σ H Q ⟨F, s, d, p⟩ => ⟨F, s, d, p.bind.mono fun x px v F1 H1 e1 r1 => by
  cases hx : allG x with
  | none => rw [hx] at px; exact px.elim
  | some ys =>
    rw [hx] at px
    obtain ⟨q, ws, e, sq, rr⟩ := r1
    exact px v F1 H1 e1 ⟨q, ws, e, sq, allG_all2 hx rr⟩⟩
end
section
variable {X : Cx} {W : WX} {Γ : Ctx} {a b : Expr}
/-- is, is not of truth values, as tests -/
theorem k_isB {m1 m2 : Mx Bool} (ha : EM X W Γ a .bool m1) (hb : EM X W Γ b .bool m2) : EC X W Γ .Is a b (m1 >>= fun x => m2 >>= fun y => ofO (some (decide (x = y)))) :=
  c_op (t1 := .bool) (t2 := .bool) (g := fun (x y : Bool) => some (decide (x = y))) op_isBl (fun x y z e v w F H Q s r1 r2 k => by
    cases e
    cases (List.cons.inj (show [v] = [V.bl x] from r1)).1
    cases (List.cons.inj (show [w] = [V.bl y] from r2)).1
    exact ⟨x, y, rfl, rfl, k⟩) ha hb
theorem k_isnB {m1 m2 : Mx Bool} (ha : EM X W Γ a .bool m1) (hb : EM X W Γ b .bool m2) : EC X W Γ .IsNot a b (m1 >>= fun x => m2 >>= fun y => ofO (some (!decide (x = y)))) :=
  c_op (t1 := .bool) (t2 := .bool) (g := fun (x y : Bool) => some (!decide (x = y))) op_notBl (fun x y z e v w F H Q s r1 r2 k => by
    cases e
    cases (List.cons.inj (show [v] = [V.bl x] from r1)).1
    cases (List.cons.inj (show [w] = [V.bl y] from r2)).1
    exact ⟨x, y, rfl, rfl, k⟩) ha hb
end
section
variable {X : Cx} {W : WX} {hk : List Nat} {Γ Γj : Ctx} {rest : List Stmt} {j tg : Expr} {pos p p2 : Pos} {β : Type} {I : β → Out} {t : Ty} {n : Str}
/-- target = xs[j], xs a list that is owned here -/
theorem bs_asgI (i : Nat) {xs : List t.den} {is : List Nat} {S : t.den → List Slot} {mj : Mx Int} {k : t.den → Mx β} (hi0 : Γ[i]? = some (.o (.l (.d t)) xs)) (hx : PE X (.Name n p) (tVar i)) (hj : EM X W Γj j .int mj) (vj : Vw Γ (.d .int) Γj) (hg : GT X tg t is S) (hr : ∀ x, BS X W hk (setL Γ is (S x)) rest (k x) I)
    (hpl : PlainIx j) (hi : ∀ i ∈ is, i < Γ.length ∧ i ∉ hk) (hs : swapsWithSole [tg] (.Subscript (.Name n p) j p2) pos.line X.env = pure false) (hw : swappedStores [tg] (.Subscript (.Name n p) j p2) X.env = pure none) (h1 : (assignEach [tg] X.env).map (·.2) = [assign tg X.env]) :
    BS X W hk Γ (.Assign [tg] (.Subscript (.Name n p) j p2) pos :: rest) (mj >>= fun q => ofO (atI xs q) >>= k) I :=
  have hr' : PSs X rest (fun D σ H => ∃ s, tS X.K X.mg W hk (setL Γ is (S s)) (k s) I D σ H) := ⟨fun pins s σ H D J ⟨x, q⟩ => (hr x).run pins s σ H D J q⟩
  pss_imp (pss_cons (ps_asg (pe_ix ix_list hx hj hpl) hg hs hw h1) hr') fun D σ H ⟨E, F, h, g, q⟩ => by
    obtain ⟨fps, w⟩ := id g.ow
    obtain ⟨ov, e1, v, rfl, ho⟩ := w.at_ i _ hi0
    obtain ⟨a, ws, rfl, e3, e4, rr⟩ := own_lst ho
    refine ⟨.ref a, e1, ?_⟩
    obtain ⟨G, g1, g2, g3⟩ := g.look vj
    refine ⟨G, g1, g2, q.bind.post g (fun F' H' x => let ⟨F2, a, _, b⟩ := g3 F' H' x; ⟨F2, a, b⟩) fun y py u F' H' ex ru => ?_⟩
    obtain ⟨F2, x2, back, _⟩ := g3 F' H' ex
    cases (List.cons.inj (show [u] = [V.int y] from ru)).1
    cases hz : atI xs y with
    | none => rw [hz] at py; exact py.elim
    | some x =>
      rw [hz] at py
      obtain ⟨u, k1, k2⟩ := all2_atI rr hz
      exact ⟨a, ws, y, u, rfl, rfl, SqL.of (x2.h _ _ e4), k1, x, F2, x2.i, rl_mono x2.f t x [u] k2, fun ws hl hb => ⟨x, E, F2, h, SG.setL (is := is) (g.grow x2) hb fun i hii => by rw [h]; exact hi i hii, py⟩⟩
end
end Gm
set_option Elab.async false
set_option linter.all false
set_option maxRecDepth 100000
set_option maxHeartbeats 4000000
namespace Gm
open PySem PySem.Spec L2
open PyProof.Rows (envOfC)
/-! ## owned options -/
section
variable {X : Cx} {W : WX} {hk : List Nat} {Γ Γ' Γv Γi : Ctx} {st : Stmt} {rest body : List Stmt} {a b e tg : Expr} {es : List Expr} {pos p p' p2 apos cpos : Pos} {β : Type} {r : Rt} {t k : Ty} {I : β → Out} {c f n m : Str} {ns : List Str} {C : Addr} {fs o o' : Ow} {x : o.ty.den}
theorem e_noneP {j : Nat} : EO X W Γ (.Constant .none j pos) (.opt o) (.ok none) := pe_imp pe_non fun σ H Q ⟨F, s, d, p⟩ => p .non F H (Ext.refl s) ⟨[], ⟨rfl, rfl⟩, List.nodup_nil, fun _ z => nomatch z⟩
theorem ol_some {K : PySem.W.Frag} {mg : Str → Option Value} {F H : Hp} : ∀ {o : Ow}, o.ty.some_ = true → ∀ {x : o.ty.den} {vs : List V} {fp : List Addr}, ol K mg o x vs F H fp → vs ≠ [.non] := by
  intro o
  cases o with
  | d t => intro h x vs fp r; exact rl_some h r.2
  | l o => intro h x vs fp r; obtain ⟨_, _, _, e, _⟩ := r; rw [e]; exact fun z => nomatch z
  | ins c ns fs => intro h x vs fp r; obtain ⟨_, _, _, _, _, e, _⟩ := r; rw [e]; exact fun z => nomatch z
  | pr a b => intro h; cases h
  | nl => intro h; cases h
  | dic k t => intro h x vs fp r; obtain ⟨_, _, e, _⟩ := r; rw [e]; exact fun z => nomatch z
  | dicN P w k o => intro h x vs fp r; obtain ⟨_, _, _, e, _⟩ := r; rw [e]; exact fun z => nomatch z
  | opt o => intro h; cases h
  | hl fs => intro h x vs fp r; obtain ⟨_, _, _, e, _⟩ := r; rw [e]; exact fun z => nomatch z
theorem e_someP {m : Mx o.ty.den} (ht : o.ty.some_ = true) (h : EO X W Γ e o m) : EO X W Γ e (.opt o) (m >>= fun x => .ok (some x)) := pe_imp h fun σ H Q ⟨F, s, d, p⟩ =>
  ⟨F, s, d, p.bind.mono fun x px v F' H' e1 r => px v F' H' e1 (by
    obtain ⟨fp, r, nd, nw⟩ := r
    exact ⟨fp, ⟨ol_some ht r, r⟩, nd, nw⟩)⟩
theorem SubAt.some {K : PySem.W.Frag} {mg : Str → Option Value} {F H : Hp} {v u : V} {fp : List Addr} {z : o'.ty.den} {put : Option o'.ty.den → o.ty.den} (S : SubAt K mg o (.opt o') (Option.some z) put F H v fp u) : SubAt K mg o o' z (fun z => put (Option.some z)) F H v fp u := by
  obtain ⟨fa, fb, s1, s2, s3, s4, oi, rb⟩ := S
  exact ⟨fa, fb, s1, s2, s3, s4, oi.2, fun F' H' y' fb' h1 h2 h3 h4 h5 => rb F' H' (Option.some y') fb' h1 h2 ⟨oi.1, h3⟩ h4 h5⟩
theorem pl_some {i : Nat} {y : Option o'.ty.den} {z : o'.ty.den} {put : Option o'.ty.den → o.ty.den} (h : PLc X Γ a i o (.opt o') y put) (hy : y = Option.some z) : PLc X Γ a i o o' z (fun z => put (Option.some z)) := fun E => by
  subst hy
  exact pe_imp (h E) fun σ H Q ⟨F, v, fps, g, e, k⟩ => ⟨F, v, fps, g, e, fun u S => k u S.some⟩
/-! ## an owned list is walked, which stands -/
theorem SG.at_l {K : PySem.W.Frag} {mg : Str → Option Value} {E : Ent} {σ : L2.St} {F H : Hp} {i : Nat} {xs : List t.den} (g : SG K mg E Γ σ F H) (hi : Γ[i]? = some (.o (.l (.d t)) xs)) : ∃ q ws, σ[i]? = some (some (.ref q)) ∧ H q = some (.lst ws) ∧ all2 (fun y w => rl K mg t y [w] F) xs ws := by
  obtain ⟨_, _, fps, w⟩ := g
  obtain ⟨ov, e1, v, rfl, ho⟩ := w.at_ i _ hi
  obtain ⟨q, ws, rfl, _, e4, rr⟩ := own_lst ho
  exact ⟨q, ws, e1, e4, rr⟩
abbrev Ent.held (E : Ent) (F : Hp) (i : Nat) (σ : L2.St) : Ent := ⟨F, E.B, i :: E.hk, σ⟩
theorem SG.hold {K : PySem.W.Frag} {mg : Str → Option Value} {E : Ent} {σ : L2.St} {F H : Hp} (i : Nat) (g : SG K mg E Γ σ F H) : SG K mg (E.held F i σ) Γ σ F H := ⟨⟨Same.refl _, g.e0.h, g.e0.i, fun _ _ q => q⟩, fun _ _ => rfl, g.ow⟩
theorem SG.unhold {K : PySem.W.Frag} {mg : Str → Option Value} {E : Ent} {σ σ' : L2.St} {F H F' H' : Hp} {i : Nat} (g : SG K mg E Γ σ F H) (g' : SG K mg (E.held F i σ) Γ' σ' F' H') : SG K mg E Γ' σ' F' H' :=
  ⟨ext_up g.e0 g'.e0, fun j hj => (g'.kp j (List.mem_cons_of_mem _ hj)).trans (g.kp j hj), g'.ow⟩
theorem postS.hold {K : PySem.W.Frag} {mg : Str → Option Value} {E : Ent} {σ : L2.St} {F H : Hp} {α : Type} {m : Mx α} {P P' : α → Prop} {i : Nat} (g : SG K mg E Γ σ F H) (h : postS mg W E m P) (k : ∀ a, P a → P' a) : postS mg W (E.held F i σ) m P' := by
  cases m with
  | ok a => exact k a h
  | ex e => exact fun cls d σ' F' H' y kp r => h cls d σ' F' H' (ext_up g.e0 y) (fun j hj => (kp j (List.mem_cons_of_mem _ hj)).trans (g.kp j hj)) r
  | no => exact h
theorem s1_forN {S : Type} (i : Nat) {xs : List t.den} {G : S → Ctx} {f : S → t.den → Mx S} {s0 : S} {is : List Nat} {T : t.den → List Slot} (hp : PassesOwn (model X.prog X.w) X.A X.env X.xe) (hc : X.calm = true) (hΓ : Γ[i]? = some (.o (.l (.d t)) xs)) (hn : PE X (.Name n p) (tVar i)) (hG : ∀ s, (G s)[i]? = some (.o (.l (.d t)) xs)) (hg : GT X tg t is T)
    (hb : ∀ s x, BS X W (i :: hk) (setL (G s) is (T x)) body (f s x) (fun s' => .nx (G s'))) (h0 : Wk (G s0) Γ) (hix : ∀ s, ∀ j ∈ is, j < (G s).length ∧ j ∉ i :: hk := by intro _; decide) (hs : ∀ x, foldedSetIterable (.Name n p) X.env x = pure x := by intro _; rfl) :
    S1 X W hk Γ (.For tg (.Name n p) body [] pos) (loopS xs s0 f) (fun s => .nx (G s)) :=
  have hb' : PSs X body (fun D σ H => ∃ s x, tS X.K X.mg W (i :: hk) (setL (G s) is (T x)) (f s x) (fun s' => .nx (G s')) D σ H) := ⟨fun pins σ1 σ H D J ⟨s, x, q⟩ => (hb s x).run pins σ1 σ H D J q⟩
  ps_imp (ps_for hp hc (pi_list hn) hg hb' hs) fun D σ H ⟨E, F, hh, g, q⟩ => by
    obtain ⟨l, ws, e1, e2, rr⟩ := g.at_l hΓ
    refine ⟨.ref l, e1, l, rfl, ⟨ws, SqL.of e2⟩, fun j m σ' H' => j ≤ xs.length ∧ m = xs.length - j ∧ ∃ s F', SG X.K X.mg (E.held F i σ) (G s) σ' F' H' ∧ postS X.mg W E (loopS (xs.drop j) s f) (fun s => outP X.K X.mg E D (.nx (G s))), ⟨xs.length, Nat.zero_le _, by simp, s0, F, (g.weak h0).hold i, q⟩, ?_⟩
    rintro j m σ' H' ⟨hil, rfl, s, F', g', q'⟩
    obtain ⟨l', ws', e1', e2', rr'⟩ := g'.at_l (hG s)
    have el : l' = l := by
      have := (g'.kp i (List.mem_cons_self ..)).trans e1
      rw [e1'] at this
      cases this; rfl
    subst el
    by_cases hlt : j < xs.length
    · obtain ⟨w, hw, _⟩ := rr'.get (List.getElem?_eq_getElem hlt)
      refine .inr ⟨⟨ws', w, SqL.of e2', hw⟩, fun σ'' H'' => ∃ m', m' < xs.length - j ∧ (j + 1 ≤ xs.length ∧ m' = xs.length - (j + 1) ∧ ∃ s F', SG X.K X.mg (E.held F i σ) (G s) σ'' F' H'' ∧ postS X.mg W E (loopS (xs.drop (j + 1)) s f) (fun s => outP X.K X.mg E D (.nx (G s)))), fun _ _ z => z, fun v H3 y => ?_⟩
      obtain ⟨rfl, y⟩ := y
      obtain ⟨x, hx, rx⟩ := rr'.getV (y ws' (SqL.of e2'))
      rw [List.drop_eq_getElem_cons hlt] at q'
      have hxx : xs[j] = x := by rw [List.getElem?_eq_getElem hlt] at hx; exact Option.some.inj hx
      rw [hxx] at q'
      refine ⟨x, F', g'.e0.i, rx, fun ws hl hbd => ⟨s, x, E.held F i σ, F', by show i :: E.hk = i :: hk; rw [hh], ?_, ?_⟩⟩
      · exact SG.setL (is := is) g' hbd fun k hk' => by
          have := hix s k hk'
          exact ⟨this.1, by show k ∉ i :: E.hk; rw [hh]; exact this.2⟩
      · exact postS.hold g (postS.bind (k := fun s' => loopS (xs.drop (j + 1)) s' f) q') fun s' qs σ4 F4 H4 g4 => ⟨xs.length - (j + 1), by omega, by omega, rfl, s', F4, g4, qs⟩
    · have hi' : j = xs.length := by omega
      subst hi'
      refine .inl ⟨⟨ws', SqL.of e2', by rw [← rr'.len]; exact Nat.le_refl _⟩, ?_⟩
      rw [List.drop_length] at q'
      exact q' σ' F' H' (g.unhold g')
theorem s1_forFN {S R : Type} (i : Nat) {xs : List t.den} {G : S → Ctx} {O : R → Out} {f : S → t.den → Mx (Lp S R)} {s0 : S} {is : List Nat} {T : t.den → List Slot} (hp : PassesOwn (model X.prog X.w) X.A X.env X.xe) (hc : X.calm = true) (hΓ : Γ[i]? = some (.o (.l (.d t)) xs)) (hn : PE X (.Name n p) (tVar i)) (hG : ∀ s, (G s)[i]? = some (.o (.l (.d t)) xs)) (hg : GT X tg t is T)
    (hb : ∀ s x, BS X W (i :: hk) (setL (G s) is (T x)) body (f s x) (lpo G O)) (h0 : Wk (G s0) Γ) (hO : ∀ r, (O r).isRt = true := by intro _; rfl) (hix : ∀ s, ∀ j ∈ is, j < (G s).length ∧ j ∉ i :: hk := by intro _; decide) (hs : ∀ x, foldedSetIterable (.Name n p) X.env x = pure x := by intro _; rfl) :
    S1 X W hk Γ (.For tg (.Name n p) body [] pos) (loopF xs s0 f) (fwo G O) :=
  have hb' : PSs X body (fun D σ H => ∃ s x, tS X.K X.mg W (i :: hk) (setL (G s) is (T x)) (f s x) (lpo G O) D σ H) := ⟨fun pins σ1 σ H D J ⟨s, x, q⟩ => (hb s x).run pins σ1 σ H D J q⟩
  ps_imp (ps_for hp hc (pi_list hn) hg hb' hs) fun D σ H ⟨E, F, hh, g, q⟩ => by
    obtain ⟨l, ws, e1, e2, rr⟩ := g.at_l hΓ
    refine ⟨.ref l, e1, l, rfl, ⟨ws, SqL.of e2⟩, fun j m σ' H' => j ≤ xs.length ∧ m = xs.length - j ∧ ∃ s F', SG X.K X.mg (E.held F i σ) (G s) σ' F' H' ∧ postS X.mg W E (loopF (xs.drop j) s f) (fun s => outP X.K X.mg E D (fwo G O s)), ⟨xs.length, Nat.zero_le _, by simp, s0, F, (g.weak h0).hold i, q⟩, ?_⟩
    rintro j m σ' H' ⟨hil, rfl, s, F', g', q'⟩
    obtain ⟨l', ws', e1', e2', rr'⟩ := g'.at_l (hG s)
    have el : l' = l := by
      have := (g'.kp i (List.mem_cons_self ..)).trans e1
      rw [e1'] at this
      cases this; rfl
    subst el
    by_cases hlt : j < xs.length
    · obtain ⟨w, hw, _⟩ := rr'.get (List.getElem?_eq_getElem hlt)
      refine .inr ⟨⟨ws', w, SqL.of e2', hw⟩, fun σ'' H'' => ∃ m', m' < xs.length - j ∧ (j + 1 ≤ xs.length ∧ m' = xs.length - (j + 1) ∧ ∃ s F', SG X.K X.mg (E.held F i σ) (G s) σ'' F' H'' ∧ postS X.mg W E (loopF (xs.drop (j + 1)) s f) (fun s => outP X.K X.mg E D (fwo G O s))), fun _ _ z => z, fun v H3 y => ?_⟩
      obtain ⟨rfl, y⟩ := y
      obtain ⟨x, hx, rx⟩ := rr'.getV (y ws' (SqL.of e2'))
      rw [List.drop_eq_getElem_cons hlt] at q'
      have hxx : xs[j] = x := by rw [List.getElem?_eq_getElem hlt] at hx; exact Option.some.inj hx
      rw [hxx] at q'
      refine ⟨x, F', g'.e0.i, rx, fun ws hl hbd => ⟨s, x, E.held F i σ, F', by show i :: E.hk = i :: hk; rw [hh], ?_, ?_⟩⟩
      · exact SG.setL (is := is) g' hbd fun k hk' => by
          have := hix s k hk'
          exact ⟨this.1, by show k ∉ i :: E.hk; rw [hh]; exact this.2⟩
      · refine postS.hold g (postS.bind (m := f s x) q') fun o qs => ?_
        cases o with
        | go s' => exact fun σ4 F4 H4 g4 => ⟨xs.length - (j + 1), by omega, by omega, rfl, s', F4, g4, qs⟩
        | brk s' => exact fun σ4 F4 H4 g4 => qs σ4 F4 H4 (g.unhold g4)
        | out z =>
          have qs : outP X.K X.mg E D (O z) := qs
          have hz := hO z
          show outP X.K X.mg (E.held F i σ) _ (O z)
          cases e : O z with
          | nx _ => rw [e] at hz; cases hz
          | bk _ => rw [e] at hz; cases hz
          | ct _ => rw [e] at hz; cases hz
          | rt r y => rw [e] at qs; exact fun v F H y2 r2 => qs v F H (ext_up g.e0 y2) r2
          | rs t y o2 x2 => rw [e] at qs; exact fun v Γ1 σ1 F H e0 s1 r2 => qs v Γ1 σ1 F H e0 (g.unhold s1) r2
    · have hi' : j = xs.length := by omega
      subst hi'
      refine .inl ⟨⟨ws', SqL.of e2', by rw [← rr'.len]; exact Nat.le_refl _⟩, ?_⟩
      rw [List.drop_length] at q'
      exact q' σ' F' H' (g.unhold g')
/-- isinstance of a sum -/
theorem e_isiS {t1 t2 : Ty} {q q2 : Pos} {m : Mx (Sum t1.den t2.den)} {n : Str} {T1 T2 T' : String} {r1 r2 : Bool} (hg : Gl X "isinstance") (hm : X.mg "isinstance" = none) (ha : EM X W Γ a (.sum t1 t2) m) (ht1 : t1.cls = Option.some T1) (ht2 : t2.cls = Option.some T2) (hn : PE X (.Name n q2) (tC (.ty T'))) (hk1 : kitB T1 T' = Option.some r1) (hk2 : kitB T2 T' = Option.some r2)
    (hs : starEach [a, .Name n q2] X.env = (false, eval a X.env) :: starEach [.Name n q2] X.env := by rfl) : EM X W Γ (.Call (.Name "isinstance" q) [a, .Name n q2] [] pos) .bool (m >>= fun x => .ok (Sum.elim (fun _ => r1) (fun _ => r2) x)) :=
  pe_imp (pe_callB call_isi hg hm (by decide +kernel) (pa_cons ha (pa_cons hn pa_nil) hs) (he := hs)) fun σ H Q ⟨F, s, d, p⟩ => ⟨F, s, d, p.bind.mono fun x px v F1 H1 e1 rr => by
    cases x with
    | inl y => exact ⟨v, .ty T', .type T1, .type T', r1, rfl, .ty T', rl_tyx ht1 e1.i (show rl X.K X.mg t1 y [v] F1 from rr), kit_ty hk1, px _ F1 H1 e1 rfl⟩
    | inr y => exact ⟨v, .ty T', .type T2, .type T', r2, rfl, .ty T', rl_tyx ht2 e1.i (show rl X.K X.mg t2 y [v] F1 from rr), kit_ty hk2, px _ F1 H1 e1 rfl⟩⟩
end
theorem Cv.sum2 {a b c : Ty} {g : a.den → c.den} {f : b.den → c.den} (h : Cv a c g) (k : Cv b c f) : Cv (.sum a b) c (fun x => Sum.elim g f x) := ⟨fun K mg F x vs r => by
  cases x with
  | inl y => exact h.h K mg F y vs r
  | inr y => exact k.h K mg F y vs r⟩
end Gm
set_option Elab.async false
set_option linter.all false
set_option maxRecDepth 100000
set_option maxHeartbeats 4000000
namespace Gm
open PySem PySem.Spec L2
/-! ## owned lists of many kinds -/
inductive FlW : (fs : Ow) → Nat → (o : Ow) → (fs.ty.den → o.ty.den) → (fs.ty.den → o.ty.den → fs.ty.den) → Prop
  | hd {a b : Ow} : FlW (.pr a b) 0 a (fun x => x.1) (fun x z => (z, x.2))
  | tl {a b o : Ow} {n : Nat} {π : b.ty.den → o.ty.den} {up : b.ty.den → o.ty.den → b.ty.den} (h : FlW b n o π up) : FlW (.pr a b) (n + 1) o (fun x => π x.2) (fun x z => (x.1, up x.2 z))
  | one {o : Ow} : FlW (.l o) 0 (.l o) (fun x => x) (fun _ z => z)
section
variable {K : PySem.W.Frag} {mg : Str → Option Value} {F H F' H' : Hp} {o o' : Ow} {x : o.ty.den} {v u : V}
theorem FlW.split {fs : Ow} {n : Nat} {π : fs.ty.den → o.ty.den} {up : fs.ty.den → o.ty.den → fs.ty.den} (h : FlW fs n o π up) : ∀ {y : fs.ty.den} {ws : List V} {fp : List Addr}, ol K mg fs y ws F H fp → ∃ w f1 f2 f3, ws[n]? = some w ∧ fp = f1 ++ (f2 ++ f3) ∧ ol K mg o (π y) [w] F H f2 ∧
    ∀ (F' H' : Hp) (z : o.ty.den) (f2' : List Addr), Same F F' → (∀ a, a ∈ f1 ∨ a ∈ f3 → H' a = H a) → ol K mg o z [w] F' H' f2' → ol K mg fs (up y z) ws F' H' (f1 ++ (f2' ++ f3)) := by
  induction h with
  | hd =>
    intro y ws fp q
    obtain ⟨w, r, f1, f2, rfl, rfl, h1, h2⟩ := q
    exact ⟨w, [], f1, f2, rfl, rfl, h1, fun F' H' z f2' hs hH hz => ⟨w, r, f2', f2, rfl, rfl, hz, ol_frame hs _ _ _ _ (fun a ha => hH a (.inr ha)) h2⟩⟩
  | tl h ih =>
    intro y ws fp q
    obtain ⟨w, r, f1, f2, rfl, rfl, h1, h2⟩ := q
    obtain ⟨w2, g1, g2, g3, e1, rfl, e3, e4⟩ := ih h2
    refine ⟨w2, f1 ++ g1, g2, g3, e1, by rw [List.append_assoc], e3, fun F' H' z f2' hs hH hz => ?_⟩
    have := e4 F' H' z f2' hs (fun a ha => hH a (ha.imp_left fun z => List.mem_append_right _ z)) hz
    exact ⟨w, r, f1, g1 ++ (f2' ++ g3), rfl, by rw [List.append_assoc], ol_frame hs _ _ _ _ (fun a ha => hH a (.inl (List.mem_append_left _ ha))) h1, this⟩
  | one =>
    intro y ws fp q
    obtain ⟨p, ws', fps, rfl, rfl, e3, e4⟩ := q
    refine ⟨.ref p, [], p :: fps.flatten, [], rfl, by simp, ⟨p, ws', fps, rfl, rfl, e3, e4⟩, fun F' H' z f2' hs hH hz => ?_⟩
    rw [List.nil_append, List.append_nil]; exact hz
theorem SubAt.hidx {fs : Ow} {y : fs.ty.den} {put : fs.ty.den → o.ty.den} {fp : List Addr} {n : Nat} {π : fs.ty.den → o'.ty.den} {up : fs.ty.den → o'.ty.den → fs.ty.den}
    (S : SubAt K mg o (.hl fs) y put F H v fp u) (hf : FlW fs n o' π up) : ∃ q ws w, u = .ref q ∧ H q = Option.some (.lst ws) ∧ ws[n]? = Option.some w ∧ SubAt K mg o o' (π y) (fun z => put (up y z)) F H v fp w := by
  obtain ⟨fa, fb, s1, s2, s3, s4, oi, rb⟩ := S
  obtain ⟨q, ws, fp2, e1, rfl, e3, e7⟩ := oi
  cases (List.cons.inj e1).1
  obtain ⟨w, f1, f2, f3, hw, rfl, g3, g4⟩ := hf.split e7
  refine ⟨q, ws, w, rfl, e3, hw, ?_⟩
  have nq := List.nodup_cons.mp s4
  obtain ⟨n1, n2, n3, n4, n5, n6⟩ := nd_app3 nq.2
  refine ⟨fa ++ (q :: (f1 ++ f3)), f2, fun a ha => ?_, fun a ha => s2 a (by simp [ha]), fun a ha hb => ?_, n2, g3, fun F' H' y' fb' hs hH hy nd' hd => ?_⟩
  · rcases List.mem_append.mp ha with z | z
    · exact s1 a z
    · refine s2 a ?_
      simp only [List.mem_cons, List.mem_append] at z ⊢
      rcases z with z | z | z
      · exact .inl z
      · exact .inr (.inl z)
      · exact .inr (.inr (.inr z))
  · rcases List.mem_append.mp ha with z | z
    · exact s3 a z (by simp [hb])
    · simp only [List.mem_cons, List.mem_append] at z
      rcases z with rfl | z | z
      · exact nq.1 (by simp [hb])
      · exact n4 a z hb
      · exact n6 a hb z
  · have hin : ∀ a, a ∈ q :: (f1 ++ f3) → H' a = H a := fun a ha => hH a (List.mem_append_right _ ha)
    have hdis : ∀ a, a ∈ q :: (f1 ++ f3) → a ∉ fb' := fun a ha hb => hd a hb (List.mem_append_right _ ha)
    have o1 := g4 F' H' y' fb' hs (fun a ha => hin a (by simp only [List.mem_cons, List.mem_append]; exact .inr ha)) hy
    have ndn : (f1 ++ (fb' ++ f3)).Nodup := app3_nd n1 nd' n3 (fun a ha hb => hdis a (by simp [ha]) hb) n5 (fun a ha hb => hdis a (by simp [hb]) ha)
    have ndq : (q :: (f1 ++ (fb' ++ f3))).Nodup := by
      refine List.nodup_cons.mpr ⟨fun z => ?_, ndn⟩
      simp only [List.mem_append] at z
      rcases z with z | z | z
      · exact nq.1 (by simp [z])
      · exact hdis q (by simp) z
      · exact nq.1 (by simp [z])
    obtain ⟨fp', m1, m2, m3⟩ := rb F' H' (up y y') (q :: (f1 ++ (fb' ++ f3))) hs (fun a ha => hH a (List.mem_append_left _ ha))
      ⟨q, ws, _, rfl, rfl, (hin q (by simp)).trans e3, o1⟩ ndq (fun a ha hb => by
        simp only [List.mem_cons, List.mem_append] at ha
        rcases ha with rfl | ha | ha | ha
        · exact s3 _ hb (by simp)
        · exact s3 _ hb (by simp [ha])
        · exact hd a ha (List.mem_append_left _ hb)
        · exact s3 _ hb (by simp [ha]))
    refine ⟨fp', m1, fun a ha => ?_, m3⟩
    rcases m2 a ha with z | z
    · exact .inl (List.mem_append_left _ z)
    · simp only [List.mem_cons, List.mem_append] at z ⊢
      rcases z with z | z | z | z
      · exact .inl (.inr (.inl z))
      · exact .inl (.inr (.inr (.inl z)))
      · exact .inr z
      · exact .inl (.inr (.inr (.inr z)))
end
section
variable {X : Cx} {W : WX} {hk : List Nat} {Γ Γ' Γv Γi : Ctx} {st : Stmt} {rest : List Stmt} {a b e : Expr} {es : List Expr} {pos p p' p2 apos cpos : Pos} {β : Type} {r : Rt} {t k : Ty} {I : β → Out} {c f n m : Str} {ns : List Str} {C : Addr} {fs o o' : Ow} {x : o.ty.den}
theorem pl_hidx {i nn : Nat} {ii : Int} {j : Nat} {y : fs.ty.den} {put : fs.ty.den → o.ty.den} {π : fs.ty.den → o'.ty.den} {up : fs.ty.den → o'.ty.den → fs.ty.den} (h : PLc X Γ a i o (.hl fs) y put) (hf : FlW fs nn o' π up) (hi : ii = (nn : Int) := by rfl)
    (hs : PlainIx (.Constant (.int ii) j p) := by intro _ _; rfl) : PLc X Γ (.Subscript a (.Constant (.int ii) j p) pos) i o o' (π y) (fun z => put (up y z)) := fun E => pe_imp (pe_ix ix_list (h E) (pe_int (i := ii)) hs) fun σ H Q ⟨F, v, fps, g, e, k⟩ => ⟨F, v, fps, g, e, fun u0 S0 => by
  subst hi
  obtain ⟨q, ws, w, rfl, e4, hw, S⟩ := S0.hidx hf
  exact ⟨q, ws, (nn : Int), w, rfl, rfl, SqL.of e4, atI_nat hw, k w S⟩⟩
/-- parts, of which the last is an owned name -/
def tHO (mg : Str → Option Value) (K : PySem.W.Frag) (W : WX) (Γ : Ctx) (i : Nat) (o : Ow) (x0 : o.ty.den) (fs : Ow) (n : Nat) (m : Mx fs.ty.den) : TA := fun σ H Q => ∃ F v fp, Same F H ∧ SD K mg Γ σ F ∧ σ[i]? = some (some v) ∧ ol K mg o x0 [v] F H fp ∧
  post mg W σ m F H fun y => ∀ vs F' H', Ext F H F' H' → ol K mg fs y vs F' H' fp → vs.length = n → Q vs H'
theorem ho_last (i : Nat) (hp : PE X (.Name n p) (tVar i)) (hs : starEach [.Name n p] X.env = (false, eval (.Name n p) X.env) :: starEach [] X.env := by rfl) : PA X [.Name n p] (tHO X.mg X.K W Γ i o x o 1 (.ok x)) :=
  pa_imp (pa_cons hp pa_nil hs) fun σ H Q ⟨F, v, fp, s, d, e, r, q⟩ => ⟨v, e, q [v] F H (Ext.refl s) r rfl⟩
theorem ho_cons {i nn : Nat} {me : Mx t.den} {ms : Mx fs.ty.den} (ha : EM X W Γ a t me) (hr : PA X es (tHO X.mg X.K W Γ i o x fs nn ms)) (hs : starEach (a :: es) X.env = (false, eval a X.env) :: starEach es X.env := by rfl) :
    PA X (a :: es) (tHO X.mg X.K W Γ i o x (.pr (.d t) fs) (nn + 1) (me >>= fun x => ms >>= fun y => .ok (x, y))) := pa_imp (pa_cons ha hr hs) fun σ H Q ⟨F, v0, fp, s, d, e0, r0, q⟩ =>
  ⟨F, s, d, q.bind.mono fun x px v F1 H1 e1 r1 => ⟨F1, v0, fp, e1.i, d.mono e1.f, e0, ol_frame e1.f _ _ _ _ (fun a ha => by
    obtain ⟨u, hu, _⟩ := ol_cell _ _ _ _ r0 a ha
    rw [hu]; exact e1.h _ _ hu) r0, post.ext e1 px.bind fun y py vs F2 H2 e2 r2 hn => py (v :: vs) F2 H2 (e1.trans e2) ⟨v, vs, [], fp, rfl, rfl, ⟨rfl, rl_mono e2.f t x _ r1⟩, r2⟩ (congrArg (· + 1) hn)⟩⟩
/-- return [a, b, .., n], n owned -/
theorem bs_retHL (i : Nat) {nn : Nat} {me : Mx fs.ty.den} {b : fs.ty.den → β} (hi : Γ[i]? = some (.o o x)) (he : PA X es (tHO X.mg X.K W (hide Γ) i o x fs nn me)) (hl : nn ≤ 1000 := by decide) (hI : ∀ y, I (b y) = .rt (.o (.hl fs)) y := by intro _; rfl) :
    BS X W hk Γ (.Return (some (.List es p)) pos :: rest) (me >>= fun y => .ok (b y)) I :=
  pss_imp (pss_cons (ps_ret (pe_lst he)) pss_never) fun D σ H ⟨E, F, h, g, q⟩ => by
    obtain ⟨fps, w⟩ := id g.ow
    obtain ⟨ov, e1, v, rfl, r⟩ := w.at_ i _ hi
    refine ⟨F, v, fps i, g.e0.i, g.sd_hide, e1, r, q.bind.post g (fun F' H' x => ⟨F', x, fun _ _ q => q⟩) fun y py vs F' H' ex rr hn => ⟨Nat.le_trans (by rw [hn]; exact hl) (by decide), fun np nnp => ?_⟩⟩
    have py : outP X.K X.mg E D (I (b y)) := py
    rw [hI] at py
    have cell : ∀ a ∈ fps i, H a ≠ none := fun a ha z => by
      obtain ⟨u, hu, _⟩ := ol_cell _ _ _ _ r a ha
      rw [z] at hu; cases hu
    have pn : np ∉ fps i := fun z => cell np z (ex.h.free nnp)
    refine py (.ref np) F' (upd H' np (.lst vs)) (g.e0.trans (ex.trans (Ext.cell ex.i nnp))) ⟨np :: fps i, ⟨np, vs, fps i, rfl, rfl, upd_same, ol_frame (Same.refl _) _ _ _ _ (fun a ha => ?_) rr⟩, List.nodup_cons.mpr ⟨pn, w.nd i⟩, fun a ha => ?_⟩
    · unfold upd; rw [if_neg]; intro z; exact pn (z ▸ ha)
    · rcases List.mem_cons.mp ha with rfl | ha
      · exact ⟨ex.i.free nnp, (g.e0.h.trans ex.h).free nnp⟩
      · exact ⟨ex.n a (cell a ha) (w.new i a ha).1, (w.new i a ha).2⟩
end
end Gm
set_option Elab.async false
set_option linter.all false
set_option maxRecDepth 100000
set_option maxHeartbeats 4000000
namespace Gm
open PySem PySem.Spec L2
/-! ## list(d.items()), d's keys nested tuples -/
theorem paired_at {α β : Type} {R : α → β → Prop} : ∀ {xs : List α} {ys : List β}, Paired R xs ys → ∀ {i : Nat} {x : α}, xs[i]? = some x → ∃ y, ys[i]? = some y ∧ R x y
  | _, _, .nil, i, x, h => by cases h
  | _, _, .cons r t, 0, x, h => by cases h; exact ⟨_, rfl, r⟩
  | _, _, .cons r t, i + 1, x, h => paired_at t h
theorem paired_mk {α β : Type} {R : α → β → Prop} : ∀ {xs : List α} {ys : List β}, xs.length = ys.length → (∀ (i : Nat) x y, xs[i]? = some x → ys[i]? = some y → R x y) → Paired R xs ys
  | [], [], _, _ => .nil
  | [], _ :: _, h, _ => by cases h
  | _ :: _, [], h, _ => by cases h
  | x :: xs, y :: ys, h, k => .cons (k 0 x y rfl rfl) (paired_mk (Nat.succ.inj h) fun i x y e1 e2 => k (i + 1) x y e1 e2)
/-- a list at S, its tuples at the places as -/
def laidN (H : Hp) (S : Addr) (as : List Addr) (kvs : List NE) : Hp := fun b => if b = S then some (.lst (as.map V.ref)) else match (as.zip kvs).find? (fun z => decide (z.1 = b)) with
  | some z => some (.tup [.ref z.2.2.1, z.2.2.2])
  | none => H b
section
variable {H : Hp} {S : Addr} {as : List Addr} {kvs : List NE}
theorem laidN_S : laidN H S as kvs S = some (.lst (as.map V.ref)) := if_pos rfl
theorem laidN_off {b : Addr} (h : b ∉ as) (hS : b ≠ S) : laidN H S as kvs b = H b := by
  unfold laidN
  rw [if_neg hS]
  have : (as.zip kvs).find? (fun z => decide (z.1 = b)) = none := by
    rw [List.find?_eq_none]
    intro z hz hd
    exact h (of_decide_eq_true hd ▸ (List.of_mem_zip hz).1)
  rw [this]
theorem laidN_at (nd : as.Nodup) (hS : S ∉ as) {j : Nat} {b : Addr} {q : NE} (h1 : as[j]? = some b) (h2 : kvs[j]? = some q) : laidN H S as kvs b = some (.tup [.ref q.2.1, q.2.2]) := by
  unfold laidN
  rw [if_neg (show ¬ b = S from fun z => hS (z ▸ List.mem_of_getElem? h1))]
  have hm : (as.zip kvs)[j]? = some (b, q) := List.getElem?_zip_eq_some.mpr ⟨h1, h2⟩
  cases hf : (as.zip kvs).find? (fun z => decide (z.1 = b)) with
  | none =>
    rw [List.find?_eq_none] at hf
    exact absurd (decide_eq_true rfl) (hf _ (List.mem_of_getElem? hm))
  | some z =>
    have hz : z.1 = b := by have := List.find?_some hf; exact of_decide_eq_true this
    obtain ⟨i, hi⟩ := List.mem_iff_getElem?.mp (List.mem_of_find?_eq_some hf)
    obtain ⟨i1, i2⟩ := List.getElem?_zip_eq_some.mp hi
    rw [hz] at i1
    obtain ⟨ha, ea⟩ := List.getElem?_eq_some_iff.mp i1
    obtain ⟨hb, eb⟩ := List.getElem?_eq_some_iff.mp h1
    have hij : i = j := (List.getElem_inj nd).mp (ea.trans eb.symm)
    subst hij
    rw [h2] at i2
    cases i2
    rfl
end
def rItemsN (P : Program) (w : World) : V → Hp → VK → Prop := fun x H Q => ∃ (d : Addr) (kvs : List NE), x = .ref d ∧ H d = some (dnO P w d kvs) ∧
  ∀ (H' : Hp) (p : Addr) (ts : List Addr), Same H H' → H p = none → (∀ t ∈ ts, H t = none) → p ∉ ts → ts.Nodup → kvs.length ≤ sizeLine → H' p = some (.lst (ts.map V.ref)) → Paired (fun (t : Addr) (q : NE) => H' t = some (.tup [.ref q.2.1, q.2.2])) ts kvs →
    (∀ b, b ∉ ts → b ≠ p → H' b = H b) → Q (.ref p) H'
def tItemsN (X : Cx) (te : TE) : TE := fun σ H Q => te σ H fun x H1 => rItemsN X.prog X.w x H1 Q
section
variable {X : Cx} {W : WX} {Γ : Ctx} {a e : Expr} {te : TE} {p apos cpos pos : Pos} {t k : Ty}
theorem laidN_inv {pins : List (Addr × Obj)} {σ : L2.St} {H : Hp} {s : Shared} {h' : Heap} {tk : Nat} {kvs : List NE} {xs : List (NestedKey × Addr × Value)} {es : Array DictEntry} {acc : Array Value} {c : Nat} {as : List Addr} (I : Inv X pins σ H s) (hz : kvs.length ≤ sizeLine) (rel : Paired nRel kvs xs)
    (he : es.toList = xs.map (entryOfKey (nestedKind X.prog X.w))) (hk : ∀ b o, s.heap.get? b = some o → h'.get? b = some o) (hS : h'.get? s.heap.objs.size = some { cls := .type "list", dict := none, data := .seq acc c, slots := #[] }) (hl : as.length = es.size)
    (hG : PySem.W.DilG es s.heap.objs.size h' as) (hacc : acc.toList = as.map Value.ref) : ∃ H' : Hp, Same H H' ∧ H s.heap.objs.size = none ∧ (∀ t ∈ as, H t = none) ∧ s.heap.objs.size ∉ as ∧ as.Nodup ∧ H' s.heap.objs.size = some (.lst (as.map V.ref)) ∧
      Paired (fun (t : Addr) (q : NE) => H' t = some (.tup [.ref q.2.1, q.2.2])) as kvs ∧ (∀ b, b ∉ as → b ≠ s.heap.objs.size → H' b = H b) ∧ Inv X pins σ H' { s with heap := h', toks := tk } := by
  have lk : kvs.length = xs.length := Paired.length rel
  have le : es.size = kvs.length := by rw [lk, ← List.length_map (f := entryOfKey (nestedKind X.prog X.w)), ← he]; simp
  have hSn : s.heap.objs.size ∉ as := fun z => Nat.lt_irrefl _ (hG.above _ z)
  have nd : as.Nodup := List.Pairwise.imp (fun {a b} (h : a < b) => Nat.ne_of_lt h) hG.rise
  have new : ∀ t ∈ as, H t = none := fun t ht => I.hok.fresh (Nat.le_of_lt (hG.above t ht))
  have newS : H s.heap.objs.size = none := I.hok.fresh (Nat.le_refl _)
  have atP : Paired (fun (t : Addr) (q : NE) => laidN H s.heap.objs.size as kvs t = some (.tup [.ref q.2.1, q.2.2])) as kvs := paired_mk (by omega) fun i x y e1 e2 => laidN_at nd hSn e1 e2
  have kp : Same H (laidN H s.heap.objs.size as kvs) := fun b u e => by
    rw [laidN_off (fun z => by rw [new b z] at e; cases e) (fun z => by rw [z, newS] at e; cases e)]
    exact e
  have low : ∀ b o, s.heap.get? b = some o → b ∉ as ∧ b ≠ s.heap.objs.size := fun b o e => ⟨fun z => absurd (Heap.lt_size e) (Nat.not_lt.mpr (Nat.le_of_lt (hG.above b z))), Nat.ne_of_lt (Heap.lt_size e)⟩
  refine ⟨laidN H s.heap.objs.size as kvs, kp, newS, new, hSn, nd, laidN_S, atP, fun b h1 h2 => laidN_off h1 h2, ?_⟩
  refine I.call' (ch := []) rfl ⟨fun b o q _ _ _ => hk b o q, fun b o q _ _ _ => ⟨o.slots, hk b o q⟩, fun b o q n _ => ?_, fun b o q _ => ⟨o, hk b o q⟩, fun b xs q => kp b _ q, fun b o u q => kp b _ q, fun b ps q => ⟨#[], by rw [kp b _ q]; simp⟩⟩ (fun b u q => ?_) I.bare fun b z => by simp at z
  · obtain ⟨z1, z2⟩ := low b o q
    rw [laidN_off z1 z2]; exact n
  · by_cases hb : b ∈ as
    · obtain ⟨j, hj⟩ := List.mem_iff_getElem?.mp hb
      obtain ⟨y, hy, e3⟩ := paired_at atP hj
      rw [e3] at q
      cases q
      obtain ⟨xq, g1, g2, g3, g4⟩ := paired_at rel hy
      obtain ⟨hjj, f3⟩ := hG.pairs j b hj
      have hent : es[j] = entryOfKey (nestedKind X.prog X.w) xq := by
        have : es.toList[j]? = some es[j] := by simp
        rw [he, List.getElem?_map, g1] at this
        exact (Option.some.inj this).symm
      rw [hent] at f3
      exact ⟨by show 2 ≤ sizeLine; decide, [.ref xq.2.1, xq.2.2], .cons (by show _ = _; rw [g3]) (.cons g4 .nil), ⟨_, f3, rfl, _, rfl⟩⟩
    · by_cases hb2 : b = s.heap.objs.size
      · rw [hb2] at q ⊢
        rw [laidN_S] at q
        cases q
        refine ⟨by rw [List.length_map]; omega, acc.toList, c, ?_, ?_⟩
        · rw [hacc]
          have : ∀ l : List Addr, Vals (l.map V.ref) (l.map Value.ref) := fun l => by
            induction l with
            | nil => exact .nil
            | cons x l ih => exact .cons rfl ih
          exact this as
        · rw [Array.toArray_toList]; exact hS
      · rw [laidN_off hb hb2] at q
        exact (I.hok b u q).stay (fun d v _ y => hk d v y) (fun d y => kp d _ y) fun d xs y => kp d _ y
theorem pe_itemsN (hc : X.calm = true) (he : PE X e te) (hg : Gl X "list") (hm : X.mg "list" = none) (hbase : attributeBase e "items" X.env (eval e X.env) = eval e X.env := by rfl) (hline : (apos.endLine == cpos.line) = true := by rfl)
    (hs : starEach [.Call (.Attribute e "items" apos) [] [] cpos] X.env = (false, eval (.Call (.Attribute e "items" apos) [] [] cpos) X.env) :: starEach [] X.env := by rfl) :
    PE X (.Call (.Name "list" p) [.Call (.Attribute e "items" apos) [] [] cpos] [] pos) (tItemsN X te) := by
  refine ⟨fun pins s σ H Q I hq => ?_⟩
  refine wpAny_Call_Name_kw (ld_blt (u := .type "list") I hg hm rfl ?_)
  refine PyProof.Rows.callWith_type1 ?_ hs rfl
  rw [hs]
  show wpAny _ _ (spliced ((false, eval (.Call (.Attribute e "items" apos) [] [] cpos) X.env) :: backTo pos (starEach [] X.env))) _ _ s
  refine Calls.spliced_cons ?_
  refine wpAny_Call_method (T := "dict") (id := "dict.items") hbase rfl hline PySem.F.plainAttrs_dict PySem.F.slot_dict_items PySem.F.type_dict_items (thn (he.run pins s σ H _ I hq) fun u s1 ⟨x, H1, I1, rx, d, kvs, ex, hd, q⟩ => ?_)
  subst ex
  obtain rfl : u = Value.ref d := rx
  obtain ⟨z, hy, xs, rel, o, es, ep, h1, h2, h3, h4, h5⟩ := dn_at I1 (.inl hd)
  have hraw : s1.heap.DictRaw d es ep := ⟨o, h1, h2, h3⟩
  have lk : kvs.length = xs.length := Paired.length rel
  have le : es.size = kvs.length := by rw [lk, ← List.length_map (f := entryOfKey (nestedKind X.prog X.w)), ← h4]; simp
  have I2 : Inv X pins σ H1 { s1 with heap := s1.heap.push { cls := .type "dict_items", data := .fields #[.ref d] } } := I1.kept (t' := s1.toks) fun b ob q => Heap.get?_push_of_some _ q
  refine ⟨hraw.typeIs, fun b q => ?_, ?_⟩
  · cases q
    exact ⟨o, h1, h2.2.1⟩
  show wpAny _ _ (callWith cpos (.builtin "dict.items") [.ref d] [] []) _ X.xe s1
  refine method_meetsIn PySem.F.slot_dict_items PySem.F.entry_dict_items rfl (PySem.evalArgs_none ⟨rfl, hraw.typeIs, PySem.F.args_dict_items_1 _, _, meets_dict_items_raw d hy, ⟨es, ep, hraw⟩, ?_⟩)
  refine Calls.spliced_nil ?_
  refine PySem.W.dil_call (es := es) (ep := ep) (I1.ok.hd hc) ⟨_, Heap.get?_push_size _ rfl, rfl, rfl⟩ (hraw.push _) (by omega) fun h' tk acc c as hk hS hl hG hacc => ?_
  obtain ⟨H', k1, k2, k3, k4, k5, k6, k7, k8, J⟩ := laidN_inv (tk := tk) I2 z rel h4 hk hS hl hG hacc
  exact ⟨.ref _, H', J, rfl, q H' _ as k1 k2 k3 k4 k5 z k6 k7 k8⟩
/-- list(d.items()) -/
theorem e_itemsN {m : Mx (List (k.den × t.den))} (hk : k.kyN = true) (hc : X.calm = true) (hg : Gl X "list") (hm : X.mg "list" = none) (ha : EM X W Γ a (.dicN X.prog X.w k t) m) (hbase : attributeBase a "items" X.env (eval a X.env) = eval a X.env := by rfl) (hline : (apos.endLine == cpos.line) = true := by rfl)
    (hs : starEach [.Call (.Attribute a "items" apos) [] [] cpos] X.env = (false, eval (.Call (.Attribute a "items" apos) [] [] cpos) X.env) :: starEach [] X.env := by rfl) :
    EO X W Γ (.Call (.Name "list" p) [.Call (.Attribute a "items" apos) [] [] cpos] [] pos) (.l (.d (.tup (.pr k t)))) m :=
  pe_imp (pe_itemsN hc ha hg hm hbase hline hs) fun σ H Q ⟨F, s, d, q⟩ => ⟨F, s, d, q.mono fun x px v F1 H1 e1 r1 => by
    obtain ⟨l, kvs, e, g, rr⟩ := r1
    cases (List.cons.inj e).1
    refine ⟨l, kvs, rfl, e1.i _ _ g, fun H' p ts h1 h2 h3 h4 h5 h6 h7 h8 h9 => ?_⟩
    have nF1 : ∀ b, H1 b = none → F1 b = none := fun b z => e1.i.free z
    let F2 : Hp := fun b => if b ∈ ts then H' b else F1 b
    have f1 : Same F1 F2 := fun b u eu => by
      show (if b ∈ ts then H' b else F1 b) = some u
      rw [if_neg fun z => by rw [nF1 b (h3 b z)] at eu; cases eu]; exact eu
    have f2 : Same F2 H' := fun b u eu => by
      have eu : (if b ∈ ts then H' b else F1 b) = some u := eu
      by_cases hb : b ∈ ts
      · rw [if_pos hb] at eu; exact eu
      · rw [if_neg hb] at eu; exact h1 _ _ (e1.i _ _ eu)
    have ex2 : Ext F1 H1 F2 H' := ⟨f1, h1, f2, fun b hb hf => by
      show (if b ∈ ts then H' b else F1 b) = none
      rw [if_neg fun z => hb (h3 b z)]; exact hf⟩
    refine px (.ref p) F2 H' (e1.trans ex2) ⟨[p], ⟨p, ts.map V.ref, (ts.map V.ref).map fun _ => [], rfl, by rw [flat_nil], h7, ?_⟩, by simp, fun b hb => ?_⟩
    · have key : ∀ {xs : List (k.den × t.den)} {kvs : List NE} {ts' : List Addr}, (∀ u ∈ ts', u ∈ ts) → allN k.nk (fun x b => rl X.K X.mg k x [.ref b] F1) (fun x w => rl X.K X.mg t x [w] F1) xs kvs → Paired (fun (t : Addr) (q : NE) => H' t = some (.tup [.ref q.2.1, q.2.2])) ts' kvs →
          all3 (fun (x : k.den × t.den) w f => ol X.K X.mg (.d (.tup (.pr k t))) x [w] F2 H' f) xs (ts'.map V.ref) ((ts'.map V.ref).map fun _ => []) := by
        intro xs
        induction xs with
        | nil =>
          intro kvs ts' _ a b
          cases kvs with
          | nil => cases b; exact True.intro
          | cons _ _ => exact a.elim
        | cons x xs ih =>
          intro kvs ts' ht a b
          cases kvs with
          | nil => exact a.elim
          | cons q kvs =>
            cases b with
            | @cons t0 _ ts0 _ b1 b2 =>
              obtain ⟨⟨a1, a2, a3⟩, a4⟩ := a
              refine ⟨⟨rfl, t0, [.ref q.2.1, q.2.2], rfl, SqT.of (by show (if t0 ∈ ts then H' t0 else F1 t0) = _; rw [if_pos (ht _ (List.mem_cons_self ..))]; exact b1), .ref q.2.1, [q.2.2], rfl, rl_mono f1 k x.1 _ a2, rl_mono f1 t x.2 _ a3⟩, ih (fun u hu => ht u (List.mem_cons_of_mem _ hu)) a4 b2⟩
      exact key (fun _ z => z) rr h8
    · rw [List.mem_singleton.mp hb]
      refine ⟨?_, e1.h.free h2⟩
      show (if p ∈ ts then H' p else F1 p) = none
      rw [if_neg h4]; exact nF1 p h2⟩
/-! ## an owned list, its items seen otherwise -/
theorem SG.see {K : PySem.W.Frag} {mg : Str → Option Value} {E : Ent} {σ : L2.St} {F H : Hp} {i : Nat} {u u' : Slot} (g : SG K mg E Γ σ F H) (hi : Γ[i]? = some u) (hs : ∀ ov fp, so K mg u ov F H fp → so K mg u' ov F H fp) : SG K mg E (Γ.set i u') σ F H := by
  obtain ⟨e0, kp, fps, w⟩ := g
  refine ⟨e0, kp, fps, fun j v e => ?_, fun j e => w.out j ?_, w.nd, w.sep, w.new⟩
  · by_cases hj : j = i
    · subst hj
      rw [List.getElem?_set_self (List.getElem?_eq_some_iff.mp hi).1] at e
      cases e
      obtain ⟨ov, e1, r⟩ := w.at_ _ _ hi
      exact ⟨ov, e1, hs _ _ r⟩
    · rw [List.getElem?_set_ne (Ne.symm hj)] at e
      exact w.at_ j v e
  · rw [List.getElem?_eq_none_iff] at e ⊢
    rwa [List.length_set] at e
theorem bs_see {hk : List Nat} {A : List Stmt} {β : Type} {I : β → Out} {t1 : Ty} (i : Nat) {f : t.den → t1.den} {xs : List t.den} {m : Mx β} (c : Cv t t1 f) (hi : Γ[i]? = some (.o (.l (.d t)) xs)) (h : BS X W hk (Γ.set i (.o (.l (.d t1)) (xs.map f))) A m I) : BS X W hk Γ A m I :=
  pss_imp h fun D σ H ⟨E, F, h, g, q⟩ => ⟨E, F, h, g.see hi fun ov fp ⟨v, e, r⟩ => by
    obtain ⟨q0, ws, rfl, e3, e4, rr⟩ := own_lst r
    subst e3
    exact ⟨_, e, lst_own (rr.mapl fun x v z => c.h _ _ _ x [v] z) e4⟩, q⟩
theorem bs_drop {hk : List Nat} {A : List Stmt} {β : Type} {I : β → Out} (i : Nat) {m : Mx β} (h : BS X W hk (Γ.set i .no) A m I) (hb : Nat.ble (i + 1) Γ.length = true) : BS X W hk Γ A m I :=
  pss_imp h fun D σ H ⟨E, F, h, g, q⟩ => ⟨E, F, h, g.drop (Nat.le_of_ble_eq_true hb), q⟩
end
end Gm
set_option Elab.async false
set_option linter.all false
set_option maxRecDepth 100000
set_option maxHeartbeats 4000000
namespace Gm
open PySem PySem.Spec L2
/-! ## a list of many kinds, its parts new and owned -/
section
variable {X : Cx} {W : WX} {Γ : Ctx} {a b e : Expr} {es : List Expr} {pos p : Pos} {fs o : Ow}
def tOO (mg : Str → Option Value) (K : PySem.W.Frag) (W : WX) (Γ : Ctx) (fs : Ow) (n : Nat) (m : Mx fs.ty.den) : TA := fun σ H Q => ∃ F, Same F H ∧ SD K mg Γ σ F ∧
  post mg W σ m F H fun y => ∀ vs F' H' fp, Ext F H F' H' → ol K mg fs y vs F' H' fp → fp.Nodup → (∀ u ∈ fp, F' u = none ∧ H u = none) → vs.length = n → Q vs H'
theorem oo_one {m : Mx o.ty.den} (ha : EO X W Γ a o m) (hs : starEach [a] X.env = (false, eval a X.env) :: starEach [] X.env := by rfl) : PA X [a] (tOO X.mg X.K W Γ o 1 m) :=
  pa_imp (pa_cons ha pa_nil hs) fun σ H Q ⟨F, s, d, q⟩ => ⟨F, s, d, q.mono fun x px v F' H' ex ⟨fp, r, nd, nw⟩ => px [v] F' H' fp ex r nd nw rfl⟩
theorem oo_cons {nn : Nat} {me : Mx o.ty.den} {ms : Mx fs.ty.den} (ha : EO X W Γ a o me) (hr : PA X es (tOO X.mg X.K W Γ fs nn ms)) (hs : starEach (a :: es) X.env = (false, eval a X.env) :: starEach es X.env := by rfl) :
    PA X (a :: es) (tOO X.mg X.K W Γ (.pr o fs) (nn + 1) (me >>= fun x => ms >>= fun y => .ok (x, y))) := pa_imp (pa_cons ha hr hs) fun σ H Q ⟨F, s, d, q⟩ =>
  ⟨F, s, d, q.bind.mono fun x px v F1 H1 e1 ⟨fp1, r1, nd1, nw1⟩ => ⟨F1, e1.i, d.mono e1.f, post.ext e1 px.bind fun y py vs F2 H2 fp2 e2 r2 nd2 nw2 hn => by
    have c1 : ∀ u ∈ fp1, H1 u ≠ none := fun u hu z => by
      obtain ⟨w, hw, _⟩ := ol_cell _ _ _ _ r1 u hu
      rw [z] at hw; cases hw
    refine py (v :: vs) F2 H2 (fp1 ++ fp2) (e1.trans e2) ⟨v, vs, fp1, fp2, rfl, rfl, ol_frame e2.f _ _ _ _ (fun u hu => ?_) r1, r2⟩ ?_ (fun u hu => ?_) (congrArg (· + 1) hn)
    · obtain ⟨w, hw, _⟩ := ol_cell _ _ _ _ r1 u hu
      rw [hw]; exact e2.h _ _ hw
    · rw [List.nodup_append]
      exact ⟨nd1, nd2, fun u hu w hw z => c1 u hu (z ▸ (nw2 w hw).2)⟩
    · rcases List.mem_append.mp hu with hu | hu
      · exact ⟨e2.n u (c1 u hu) (nw1 u hu).1, (nw1 u hu).2⟩
      · exact ⟨(nw2 u hu).1, e1.h.free (nw2 u hu).2⟩⟩⟩
theorem e_hlO {nn : Nat} {m : Mx fs.ty.den} (h : PA X es (tOO X.mg X.K W Γ fs nn m)) (hl : nn ≤ 1000 := by decide) : EO X W Γ (.List es pos) (.hl fs) m :=
  pe_imp (pe_lst h) fun σ H Q ⟨F, s, d, q⟩ => ⟨F, s, d, q.mono fun x px vs F1 H1 fp e1 r1 nd nw hn => ⟨Nat.le_trans (by rw [hn]; exact hl) (by decide), fun p np => by
    have pn : p ∉ fp := fun z => by
      obtain ⟨w, hw, _⟩ := ol_cell _ _ _ _ r1 p z
      rw [np] at hw; cases hw
    refine px (.ref p) F1 (upd H1 p (.lst vs)) (e1.trans (Ext.cell e1.i np)) ⟨p :: fp, ⟨p, vs, fp, rfl, rfl, upd_same, ol_frame (Same.refl _) _ _ _ _ (fun u hu => ?_) r1⟩, List.nodup_cons.mpr ⟨pn, nd⟩, fun u hu => ?_⟩
    · unfold upd; rw [if_neg]; intro z; exact pn (z ▸ hu)
    · rcases List.mem_cons.mp hu with rfl | hu
      · exact ⟨e1.i.free np, e1.h.free np⟩
      · exact nw u hu⟩⟩
end
end Gm
set_option Elab.async false
set_option linter.all false
set_option maxRecDepth 100000
set_option maxHeartbeats 4000000
namespace Gm
open PySem PySem.Spec L2
section
variable {X : Cx} {W : WX} {Γ : Ctx} {a b e v1 v2 : Expr} {es : List Expr} {pos p p2 : Pos} {t : Ty}
/-! ## f-strings of texts -/
def EJ (X : Cx) (W : WX) (Γ : Ctx) (es : List Expr) (k : Str → Mx Str) : Prop := ∃ ts, PJ X es ts ∧ ∀ (acc : Str) σ H (Q : Str → Hp → Prop), (∃ F, Same F H ∧ SD X.K X.mg Γ σ F ∧ post X.mg W σ (k acc) F H fun out => ∀ F' H', Ext F H F' H' → Q out H') → tJs ts acc σ H Q
theorem ej_nil : EJ X W Γ [] (fun acc => .ok acc) := ⟨[], .nil, fun acc σ H Q ⟨F, s, d, q⟩ => q F H (Ext.refl s)⟩
theorem ej_con {m : Mx Str} {k : Str → Mx Str} (ha : EM X W Γ e .str m) (hr : EJ X W Γ es k) : EJ X W Γ (e :: es) (fun acc => m >>= fun y => ofO (catO acc y) >>= k) := by
  obtain ⟨ts, hp, hk⟩ := hr
  refine ⟨_ :: ts, .cons ha hp, fun acc σ H Q ⟨F, s, d, q⟩ => ⟨F, s, d, q.bind.mono fun y py v F1 H1 e1 r1 => ?_⟩⟩
  cases (List.cons.inj (show [v] = [V.str y] from r1)).1
  unfold catO at py
  by_cases hz : acc.length + y.length ≤ sizeLine
  · rw [if_pos hz] at py
    refine ⟨y, rfl, by rw [Str.length_append]; exact hz, hk (acc ++ y) σ H1 Q ⟨F1, e1.i, d.mono e1.f, post.ext e1 py fun out po F2 H2 e2 => po F2 H2 (e1.trans e2)⟩⟩
  · rw [if_neg hz] at py; exact py.elim
theorem ej_val {m : Mx Str} {k : Str → Mx Str} (ha : EM X W Γ e .str m) (hr : EJ X W Γ es k) : EJ X W Γ (.FormattedValue e (-1) none p :: es) (fun acc => m >>= fun y => ofO (catO acc y) >>= k) := by
  obtain ⟨ts, hp, hk⟩ := hr
  refine ⟨_ :: ts, .cons (pe_fmt ha) hp, fun acc σ H Q ⟨F, s, d, q⟩ => ⟨F, s, d, q.bind.mono fun y py v F1 H1 e1 r1 => ?_⟩⟩
  cases (List.cons.inj (show [v] = [V.str y] from r1)).1
  unfold catO at py
  by_cases hz : acc.length + y.length ≤ sizeLine
  · rw [if_pos hz] at py
    refine .inl ⟨y, rfl, Nat.le_trans (Nat.le_add_left _ _) hz, y, rfl, by rw [Str.length_append]; exact hz, hk (acc ++ y) σ H1 Q ⟨F1, e1.i, d.mono e1.f, post.ext e1 py fun out po F2 H2 e2 => po F2 H2 (e1.trans e2)⟩⟩
  · rw [if_neg hz] at py; exact py.elim
theorem e_fs {k : Str → Mx Str} (h : EJ X W Γ (v1 :: v2 :: es) k) : EM X W Γ (.JoinedStr (v1 :: v2 :: es) pos) .str (k Str.empty) := by
  obtain ⟨ts, hp, hk⟩ := h
  exact pe_imp (pe_joined hp) fun σ H Q ⟨F, s, d, q⟩ => hk Str.empty σ H _ ⟨F, s, d, q.mono fun out po F' H' ex => po (.str out) F' H' ex rfl⟩
/-! ## [x, *t] -/
def fitL {α : Type} (l : List α) : Option (List α) := if l.length ≤ sizeLine then some l else none
theorem e_star {m1 : Mx t.den} {m2 : Mx (List t.den)} (ha : EM X W Γ a t m1) (hb : EM X W Γ b (.vtup t) m2) (hs : starEach [a, .Starred b p2] X.env = (false, eval a X.env) :: starEach [.Starred b p2] X.env := by rfl) (hs2 : starEach [.Starred b p2] X.env = (true, eval b X.env) :: starEach [] X.env := by rfl) :
    EO X W Γ (.List [a, .Starred b p2] pos) (.l (.d t)) (m1 >>= fun x => m2 >>= fun xs => ofO (fitL (x :: xs))) :=
  pe_imp (pe_lst (pa_cons ha (StX.pa_star hb pa_nil hs2) hs)) fun σ H Q ⟨F, s, d, q⟩ => ⟨F, s, d, q.bind.mono fun x px v F1 H1 e1 r1 => ⟨F1, e1.i, d.mono e1.f, post.ext e1 px.bind fun xs pxs w F2 H2 e2 r2 => by
    obtain ⟨l, ws, e, sq, rr⟩ := r2
    cases (List.cons.inj e).1
    refine ⟨l, ws, rfl, .inl (sqT_same e2.i sq), ?_⟩
    show (v :: (ws ++ [])).length ≤ sizeLine ∧ ∀ (p : Addr), H2 p = none → Q (V.ref p) (upd H2 p (HO.lst (v :: (ws ++ []))))
    rw [List.append_nil]
    unfold fitL at pxs
    by_cases hz : (x :: xs).length ≤ sizeLine
    · rw [if_pos hz] at pxs
      have r3 : all2 (fun y u => rl X.K X.mg t y [u] F2) (x :: xs) (v :: ws) := ⟨rl_mono e2.f t x _ r1, rr⟩
      refine ⟨by rw [← r3.len]; exact hz, fun np nnp => ?_⟩
      exact pxs (.ref np) F2 _ (e1.trans (e2.trans (Ext.cell e2.i nnp))) (rtr_new r3 e2.i (e1.h.trans e2.h) nnp)
    · rw [if_neg hz] at pxs; exact pxs.elim⟩⟩
end
end Gm
set_option Elab.async false
set_option linter.all false
set_option maxRecDepth 100000
set_option maxHeartbeats 4000000
namespace Gm
open PySem PySem.Spec L2
/-! ## a tuple of data and of new lists made from owned ones -/
section
variable {X : Cx} {W : WX} {hk : List Nat} {Γ : Ctx} {a b e : Expr} {es : List Expr} {rest : List Stmt} {pos p : Pos} {t ts : Ty} {o : Ow} {β : Type} {I : β → Out}
def tXA (K : PySem.W.Frag) (mg : Str → Option Value) (W : WX) (E : Ent) (Γ : Ctx) (ts : Ty) (m : Mx ts.den) : TA := fun σ H Q => ∃ F, SG K mg E Γ σ F H ∧ postS mg W E m fun y => ∀ vs F' H', Ext F H F' H' → SG K mg E Γ σ F' H' → rl K mg ts y vs F' → Q vs H'
def tX (K : PySem.W.Frag) (mg : Str → Option Value) (W : WX) (E : Ent) (Γ : Ctx) (t : Ty) (m : Mx t.den) : TE := fun σ H Q => ∃ F, SG K mg E Γ σ F H ∧ postS mg W E m fun y => ∀ v F' H', Ext F H F' H' → SG K mg E Γ σ F' H' → rl K mg t y [v] F' → Q v H'
abbrev XA (X : Cx) (W : WX) (Γ : Ctx) (es : List Expr) (ts : Ty) (m : Mx ts.den) : Prop := ∀ E : Ent, PA X es (tXA X.K X.mg W E Γ ts m)
theorem xa_oneD {m : Mx t.den} (ha : EM X W (hide Γ) a t m) (hs : starEach [a] X.env = (false, eval a X.env) :: starEach [] X.env := by rfl) : XA X W Γ [a] t m := fun E =>
  pa_imp (pa_cons ha pa_nil hs) fun σ H Q ⟨F, g, q⟩ => ⟨F, g.e0.i, g.sd_hide, q.post g (fun F' H' x => ⟨F', x, fun _ _ z => z⟩) fun x px v F1 H1 e1 r1 => px [v] F1 H1 e1 (g.grow e1) r1⟩
theorem xa_oneO {m : Mx o.ty.den} (ho : Rt.flat (.o o) = true) (ha : EO X W Γ a o m) (hs : starEach [a] X.env = (false, eval a X.env) :: starEach [] X.env := by rfl) : XA X W Γ [a] o.ty m := fun E =>
  pa_imp (pa_cons ha pa_nil hs) fun σ H Q ⟨F, g, q⟩ => by
    obtain ⟨G, g1, g2, g3⟩ := g.look (.all ho)
    refine ⟨G, g1, g2, q.post g (fun F' H' x => let ⟨F2, a, _, b⟩ := g3 F' H' x; ⟨F2, a, b⟩) fun x px v F' H' ex rr => ?_⟩
    obtain ⟨F2, x2, back, _⟩ := g3 F' H' ex
    obtain ⟨F3, x3, r3⟩ := frz_ext x2 (back x v rr)
    exact px [v] F3 H' x3 (g.grow x3) r3
theorem xa_consD {m : Mx t.den} {ms : Mx ts.den} (ha : EM X W (hide Γ) a t m) (hr : XA X W Γ es ts ms) (hs : starEach (a :: es) X.env = (false, eval a X.env) :: starEach es X.env := by rfl) :
    XA X W Γ (a :: es) (.pr t ts) (m >>= fun x => ms >>= fun y => .ok (x, y)) := fun E => pa_imp (pa_cons ha (hr E) hs) fun σ H Q ⟨F, g, q⟩ =>
  ⟨F, g.e0.i, g.sd_hide, q.bind.post g (fun F' H' x => ⟨F', x, fun _ _ z => z⟩) fun x px v F1 H1 e1 r1 => ⟨F1, g.grow e1, px.bind.mono fun y py vs F2 H2 e2 g2 r2 => py (v :: vs) F2 H2 (e1.trans e2) g2 ⟨v, vs, rfl, rl_mono e2.f t x _ r1, r2⟩⟩⟩
theorem xa_consO {m : Mx o.ty.den} {ms : Mx ts.den} (ho : Rt.flat (.o o) = true) (ha : EO X W Γ a o m) (hr : XA X W Γ es ts ms) (hs : starEach (a :: es) X.env = (false, eval a X.env) :: starEach es X.env := by rfl) :
    XA X W Γ (a :: es) (.pr o.ty ts) (m >>= fun x => ms >>= fun y => .ok (x, y)) := fun E => pa_imp (pa_cons ha (hr E) hs) fun σ H Q ⟨F, g, q⟩ => by
    obtain ⟨G, g1, g2, g3⟩ := g.look (.all ho)
    refine ⟨G, g1, g2, q.bind.post g (fun F' H' x => let ⟨F2, a, _, b⟩ := g3 F' H' x; ⟨F2, a, b⟩) fun x px v F' H' ex rr => ?_⟩
    obtain ⟨F2, x2, back, _⟩ := g3 F' H' ex
    obtain ⟨F3, x3, r3⟩ := frz_ext x2 (back x v rr)
    exact ⟨F3, g.grow x3, px.bind.mono fun y py vs F4 H4 e4 g4 r4 => py (v :: vs) F4 H4 (x3.trans e4) g4 ⟨v, vs, rfl, rl_mono e4.f o.ty x _ r3, r4⟩⟩
theorem x_tup {m : Mx ts.den} {k : Nat} (h : XA X W Γ es ts m) (hl : ts.few = true) : ∀ E : Ent, PE X (.Tuple es k pos) (tX X.K X.mg W E Γ (.tup ts) m) := fun E =>
  pe_imp (pe_tup (h E)) fun σ H Q ⟨F, g, q⟩ => ⟨F, g, q.mono fun x px vs F1 H1 e1 g1 r1 => ⟨rl_few hl r1, fun p np => by
    have e2 := Ext.new (o := .tup vs) e1.i np
    exact px (.ref p) (upd F1 p (.tup vs)) (upd H1 p (.tup vs)) (e1.trans e2) (g1.grow e2) ⟨p, vs, rfl, SqT.of upd_same, rl_mono e2.f ts x vs r1⟩⟩⟩
theorem bs_setX (j : Nat) {x : Str} {m : Mx t.den} {kk : t.den → Mx β} {pos' : Pos} (he : ∀ E : Ent, PE X e (tX X.K X.mg W E Γ t m)) (hr : ∀ z, BS X W hk (Γ.set j (.d t z)) rest (kk z) I) (hN : X.N.Nodup) (hj : X.N[j]? = some x) (hl : Loc X.env.scope x) (hf : X.fn x = true ∨ X.env.scope.names.lookup x = some .local)
    (hb : Nat.ble (j + 1) Γ.length = true) (hn : hk.contains j = false) (hs : swapsWith e (some (.Name x pos')) pos.line X.env = pure false) : BS X W hk Γ (.Assign [.Name x pos'] e pos :: rest) (m >>= kk) I :=
  have hr' : PSs X rest (fun D σ H => ∃ z : t.den, tS X.K X.mg W hk (Γ.set j (.d t z)) (kk z) I D σ H) := ⟨fun pins s σ H D J ⟨x, q⟩ => (hr x).run pins s σ H D J q⟩
  pss_imp (pss_cons (ps_set hN hj hl (pe_ex he) hs hf) hr') fun D σ H ⟨E, F, h, g, q⟩ => ⟨E, F, g, q.bind.mono fun z pz u F' H' ex g' ru => ⟨z, E, F', h, g'.set (r := .d t) (Ext.refl g'.e0.i) ru (Nat.le_of_ble_eq_true hb) (fun hh => by rw [h] at hh; rw [List.contains_iff_mem.mpr hh] at hn; cases hn), pz⟩⟩
/-- xs += ys -/
theorem bs_ext (i : Nat) {x : Str} {xs : List t.den} {me : Mx (List t.den)} {kk : List t.den → Mx β} {pos' : Pos} (hΓ : Γ[i]? = some (.o (.l (.d t)) xs)) (he : EM X W (hide Γ) e (.list t) me) (hr : ∀ ys, BS X W hk (Γ.set i (.o (.l (.d t)) ys)) rest (kk ys) I)
    (hN : X.N.Nodup) (hi : X.N[i]? = some x) (hl : Loc X.env.scope x) (hf : X.fn x = true ∨ X.env.scope.names.lookup x = some .local) : BS X W hk Γ (.AugAssign (.Name x pos') .Add e pos :: rest) (me >>= fun ys => ofO (catL xs ys) >>= kk) I :=
  have hr' : PSs X rest (fun D σ H => ∃ ys, tS X.K X.mg W hk (Γ.set i (.o (.l (.d t)) ys)) (kk ys) I D σ H) := ⟨fun pins s σ H D J ⟨x, q⟩ => (hr x).run pins s σ H D J q⟩
  pss_imp (pss_cons (ps_aug (ti := rExt2) hN hi hl he iop_ext hf) hr') fun D σ H ⟨E, F, h, g, q⟩ => by
    obtain ⟨fps, w⟩ := g.ow
    obtain ⟨ov, e1, v, rfl, ho⟩ := w.at_ i _ hΓ
    obtain ⟨a, ws, rfl, e3, e4, rr⟩ := own_lst ho
    refine ⟨.ref a, e1, F, g.e0.i, g.sd_hide, q.bind.post g (fun F' H' x => ⟨F', x, fun _ _ z => z⟩) fun ys py u F' H' ex ru => ?_⟩
    obtain ⟨b, zs, e, hb, r2⟩ := ru
    cases (List.cons.inj e).1
    have py : postS X.mg W E (ofO (catL xs ys) >>= kk) fun b => outP X.K X.mg E D (I b) := py
    unfold catL at py
    by_cases hz : xs.length + ys.length ≤ sizeLine
    · rw [if_pos hz] at py
      have es : σ.set i (some (.ref a)) = σ := by
        obtain ⟨hn, e⟩ := List.getElem?_eq_some_iff.mp e1
        rw [← e]; exact List.set_getElem_self hn
      refine ⟨a, b, ws, zs, rfl, rfl, ex.h _ _ e4, ex.i _ _ hb, by rw [← rr.len, ← r2.len]; exact hz, xs ++ ys, E, F', h, ?_, py⟩
      rw [es]
      exact (g.grow ex).write hΓ e1 ((rr.imp fun z v q => rl_mono ex.f t z [v] q).app r2)
    · rw [if_neg hz] at py; exact py.elim
end
end Gm
set_option Elab.async false
set_option linter.all false
set_option maxRecDepth 100000
set_option maxHeartbeats 1000000
namespace Gm
open PySem PySem.Spec L2

/-! ## plain words: a mirror that ends well -/
def Sat {α : Type} (m : Mx α) (P : α → Prop) : Prop := ∃ x, m = .ok x ∧ P x
section
variable {α β S R : Type}
theorem Sat.ok {x : α} {P : α → Prop} (h : P x) : Sat (.ok x) P := ⟨x, rfl, h⟩
theorem Sat.ok_inv {x : α} {P : α → Prop} (h : Sat (.ok x) P) : P x := by obtain ⟨y, e, h⟩ := h; cases e; exact h
theorem Sat.bind {m : Mx α} {f : α → Mx β} {P : α → Prop} {Q : β → Prop} (h : Sat m P) (k : ∀ x, P x → Sat (f x) Q) : Sat (m >>= f) Q := by
  obtain ⟨x, rfl, h⟩ := h
  exact k x h
theorem Sat.mono {m : Mx α} {P Q : α → Prop} (h : Sat m P) (k : ∀ x, P x → Q x) : Sat m Q := by
  obtain ⟨x, e, h⟩ := h
  exact ⟨x, e, k x h⟩
theorem Sat.eq {m : Mx α} {x : α} (h : Sat m (fun y => y = x)) : m = .ok x := by
  obtain ⟨y, e, rfl⟩ := h
  exact e
theorem Sat.of {m : Mx α} {x : α} {P : α → Prop} (e : m = .ok x) (h : P x) : Sat m P := ⟨x, e, h⟩
theorem Sat.and {m : Mx α} {P Q : α → Prop} (h : Sat m P) (k : Sat m Q) : Sat m (fun x => P x ∧ Q x) := by
  obtain ⟨x, e, h⟩ := h
  obtain ⟨y, e2, k⟩ := k
  rw [e] at e2; cases e2
  exact ⟨x, e, h, k⟩
theorem Sat.ite {c : Prop} [Decidable c] {a b : Mx α} {P : α → Prop} (h1 : c → Sat a P) (h2 : ¬c → Sat b P) : Sat (if c then a else b) P := by
  by_cases h : c
  · rw [if_pos h]; exact h1 h
  · rw [if_neg h]; exact h2 h
theorem ok_okb (x : α) (f : α → Mx β) : (Mx.ok x >>= f) = f x := rfl
theorem Mx.assoc {γ : Type} (m : Mx α) (f : α → Mx β) (g : β → Mx γ) : ((m >>= f) >>= g) = (m >>= fun x => f x >>= g) := by cases m <;> rfl
/-! ### loops -/
theorem sat_loop_aux {I : Nat → S → Prop} {f : S → α → Mx S} : ∀ (xs : List α) (n : Nat) (s0 : S), I n s0 → (∀ i s x, xs[i]? = some x → I (n + i) s → Sat (f s x) (I (n + i + 1))) → Sat (loopS xs s0 f) (I (n + xs.length))
  | [], n, s0, h, _ => ⟨s0, rfl, h⟩
  | x :: xs, n, s0, h, st => by
    refine (st 0 s0 x rfl h).bind fun s1 h1 => ?_
    have := sat_loop_aux xs (n + 1) s1 h1 fun i s y hy hi => by
      have := st (i + 1) s y (by simpa using hy) (by rw [show n + (i + 1) = n + 1 + i by omega]; exact hi)
      rw [show n + 1 + i + 1 = n + (i + 1) + 1 by omega]; exact this
    rw [List.length_cons, show n + (xs.length + 1) = n + 1 + xs.length by omega]
    exact this
theorem sat_loop (I : Nat → S → Prop) {f : S → α → Mx S} {xs : List α} {s0 : S} (h0 : I 0 s0) (st : ∀ i s x, xs[i]? = some x → I i s → Sat (f s x) (I (i + 1))) : Sat (loopS xs s0 f) (I xs.length) := by
  have := sat_loop_aux (I := I) (f := f) xs 0 s0 h0 (by intro i s x e h; rw [Nat.zero_add] at h ⊢; exact st i s x e h)
  rw [Nat.zero_add] at this; exact this
theorem sat_loopF_aux {I : Nat → S → Prop} {Q : Fw S R → Prop} {f : S → α → Mx (Lp S R)} : ∀ (xs : List α) (n : Nat) (s0 : S), I n s0 → (∀ i s x, xs[i]? = some x → I (n + i) s → Sat (f s x) fun o => match o with
      | .go s' => I (n + i + 1) s'
      | .brk s' => Q (.go s')
      | .out r => Q (.out r)) → (∀ s, I (n + xs.length) s → Q (.go s)) → Sat (loopF xs s0 f) Q
  | [], n, s0, h, _, q => ⟨.go s0, rfl, q s0 h⟩
  | x :: xs, n, s0, h, st, q => by
    refine (st 0 s0 x rfl h).bind fun o ho => ?_
    cases o with
    | go s1 =>
      refine sat_loopF_aux xs (n + 1) s1 ho (fun i s y hy hi => ?_) fun s hs => q s (by rw [List.length_cons, show n + (xs.length + 1) = n + 1 + xs.length by omega]; exact hs)
      have := st (i + 1) s y (by simpa using hy) (by rw [show n + (i + 1) = n + 1 + i by omega]; exact hi)
      rw [show n + 1 + i + 1 = n + (i + 1) + 1 by omega]; exact this
    | brk s1 => exact ⟨.go s1, rfl, ho⟩
    | out r => exact ⟨.out r, rfl, ho⟩
theorem sat_loopF (I : Nat → S → Prop) {Q : Fw S R → Prop} {f : S → α → Mx (Lp S R)} {xs : List α} {s0 : S} (h0 : I 0 s0) (st : ∀ i s x, xs[i]? = some x → I i s → Sat (f s x) fun o => match o with
      | .go s' => I (i + 1) s'
      | .brk s' => Q (.go s')
      | .out r => Q (.out r)) (q : ∀ s, I xs.length s → Q (.go s)) : Sat (loopF xs s0 f) Q :=
  sat_loopF_aux (I := I) xs 0 s0 h0 (by intro i s x e h; rw [Nat.zero_add] at h ⊢; exact st i s x e h) (by rw [Nat.zero_add]; exact q)
theorem sat_fwk {m : Mx (Fw S R)} {k : S → Mx β} {j : R → β} {P : Fw S R → Prop} {Q : β → Prop} (h : Sat m P) (h1 : ∀ s, P (.go s) → Sat (k s) Q) (h2 : ∀ r, P (.out r) → Q (j r)) : Sat (m >>= fwk k j) Q := by
  refine h.bind fun o ho => ?_
  cases o with
  | go s => exact h1 s ho
  | out r => exact ⟨j r, rfl, h2 r ho⟩
/-- while: each turn takes from the measure -/
theorem sat_while (I : S → Prop) (μ : S → Nat) {c : S → Mx Bool} {f : S → Mx S} (Q : S → Prop) (st : ∀ s, I s → Sat (c s) fun b => if b = true then Sat (f s) (fun s' => I s' ∧ μ s' < μ s) else Q s) :
    ∀ (n : Nat) (s0 : S), I s0 → μ s0 < n → Sat (whileS n s0 c f) Q
  | 0, s0, _, h => absurd h (Nat.not_lt_zero _)
  | n + 1, s0, h0, h => by
    refine (st s0 h0).bind fun b hb => ?_
    cases b with
    | false => exact ⟨s0, rfl, hb⟩
    | true =>
      rw [if_pos rfl] at hb ⊢
      exact hb.bind fun s1 h1 => sat_while I μ Q st n s1 h1.1 (by omega)
theorem fuel_eq : fuel = 1000000 := by unfold fuel; rfl
/-! ### comprehensions -/
theorem compL_eq {g : α → Option β} {f : α → Mx (Option β)} : ∀ {xs : List α}, (∀ x ∈ xs, f x = .ok (g x)) → compL xs f = .ok (xs.filterMap g)
  | [], _ => rfl
  | x :: xs, h => by
    have e : compL (x :: xs) f = match f x with
      | .ok o => compL xs f >>= fun r => .ok (optC o r)
      | _ => .no := rfl
    rw [e, h x (List.mem_cons_self ..), compL_eq fun y hy => h y (List.mem_cons_of_mem _ hy), List.filterMap_cons]
    cases g x <;> rfl
theorem comp_eq {g : α → Option β} {f : α → Mx (Option β)} {xs : List α} (hl : xs.length ≤ sizeLine) (h : ∀ x ∈ xs, f x = .ok (g x)) : compO xs f = .ok (xs.filterMap g) := by
  unfold compO; rw [if_pos hl]; exact compL_eq h
theorem comp_map {g : α → β} {mt : α → Mx Bool} {me : α → Mx β} {xs : List α} (hl : xs.length ≤ sizeLine) (h : ∀ x ∈ xs, mt x = .ok true ∧ me x = .ok (g x)) : compO xs (compF mt me) = .ok (xs.map g) := by
  rw [comp_eq (g := fun x => some (g x)) hl fun x hx => by unfold compF; rw [(h x hx).1, ok_okb, if_pos rfl, (h x hx).2]; rfl]
  simp
theorem comp_filter {c : α → Bool} {g : α → β} {mt : α → Mx Bool} {me : α → Mx β} {xs : List α} (hl : xs.length ≤ sizeLine) (h : ∀ x ∈ xs, mt x = .ok (c x) ∧ (c x = true → me x = .ok (g x))) : compO xs (compF mt me) = .ok ((xs.filter c).map g) := by
  rw [comp_eq (g := fun x => if c x = true then some (g x) else none) hl fun x hx => by
    unfold compF
    rw [(h x hx).1, ok_okb]
    by_cases hc : c x = true
    · rw [if_pos hc, if_pos hc, (h x hx).2 hc]; rfl
    · rw [if_neg hc, if_neg hc]]
  congr 1
  induction xs with
  | nil => rfl
  | cons x xs ih =>
    rw [List.filterMap_cons, List.filter_cons]
    have ih' := ih (by rw [List.length_cons] at hl; omega) fun y hy => h y (List.mem_cons_of_mem _ hy)
    by_cases hc : c x = true
    · rw [if_pos hc, if_pos hc, List.map_cons]; simp only; rw [ih']
    · rw [if_neg hc, if_neg hc]; simp only; rw [ih']
/-- each element by a promise -/
theorem sat_comp {P : α → β → Prop} {mt : α → Mx Bool} {me : α → Mx β} : ∀ {xs : List α}, xs.length ≤ sizeLine → (∀ x ∈ xs, mt x = .ok true ∧ Sat (me x) (P x)) → Sat (compO xs (compF mt me)) fun ys => ys.length = xs.length ∧ ∀ (i : Nat) (x : α) (y : β), xs[i]? = some x → ys[i]? = some y → P x y := by
  intro xs hl h
  unfold compO; rw [if_pos hl]; clear hl
  induction xs with
  | nil => exact ⟨[], rfl, rfl, fun i x y e => by simp at e⟩
  | cons x xs ih =>
    obtain ⟨h1, y, h2, h3⟩ := h x (List.mem_cons_self ..)
    obtain ⟨ys, h4, h5, h6⟩ := ih fun y hy => h y (List.mem_cons_of_mem _ hy)
    refine ⟨y :: ys, ?_, by rw [List.length_cons, List.length_cons, h5], fun i a b ha hb => ?_⟩
    · have e : compL (x :: xs) (compF mt me) = match compF mt me x with
        | .ok o => compL xs (compF mt me) >>= fun r => .ok (optC o r)
        | _ => .no := rfl
      have e2 : compF mt me x = .ok (some y) := by unfold compF; rw [h1, ok_okb, if_pos rfl, h2]; rfl
      rw [e, e2, h4]; rfl
    · cases i with
      | zero => simp at ha hb; subst ha; subst hb; exact h3
      | succ i => exact h6 i a b (by simpa using ha) (by simpa using hb)
end
/-! ### operators -/
theorem mod_ok {x y : Int} (h : 0 < y) : ofO (modO x y) = .ok (x % y) := by unfold modO; rw [if_pos h]; rfl
theorem div_ok {x y : Int} (h : 0 < y) (h2 : y < 1073741824) : ofO (divO x y) = .ok (x / y) := by unfold divO; rw [if_pos ⟨h, h2⟩]; rfl
theorem mul_l {x y : Int} (h : -18446744073709551616 < x) (h2 : x < 18446744073709551616) : ofO (mulO x y) = .ok (x * y) := by unfold mulO; rw [if_pos (.inl ⟨h, h2⟩)]; rfl
theorem mul_r {x y : Int} (h : -18446744073709551616 < y) (h2 : y < 18446744073709551616) : ofO (mulO x y) = .ok (x * y) := by unfold mulO; rw [if_pos (.inr ⟨h, h2⟩)]; rfl
theorem pow_ok {x y : Int} (h : 0 ≤ y) (h2 : y ≤ 1000000) (h3 : x.natAbs < 18446744073709551616) : ofO (powO x y) = .ok (x ^ y.toNat) := by unfold powO; rw [if_pos ⟨h, h2, h3⟩]; rfl
theorem size_eq : sizeLine = 16777216 := rfl
theorem app_ok {α : Type} {xs : List α} {y : α} (h : xs.length < 16777216) : ofO (appO xs y) = .ok (xs ++ [y]) := by unfold appO; rw [if_pos (by rw [size_eq]; exact h)]; rfl
theorem cat_ok {α : Type} {xs ys : List α} (h : xs.length + ys.length ≤ 16777216) : ofO (catL xs ys) = .ok (xs ++ ys) := by unfold catL; rw [if_pos (by rw [size_eq]; exact h)]; rfl
theorem ran_ok {n : Int} (h : n < 4611686018427387904) (h0 : -4611686018427387904 ≤ n := by omega) : ofO (ranO 0 n) = .ok (iran 0 n) := by unfold ranO; rw [if_pos ⟨by decide, by decide, h0, h⟩]; rfl
theorem ran2_ok {l n : Int} (h1 : -4611686018427387904 ≤ l) (h2 : l < 4611686018427387904) (h3 : -4611686018427387904 ≤ n) (h4 : n < 4611686018427387904) : ofO (ranO l n) = .ok (iran l n) := by unfold ranO; rw [if_pos ⟨h1, h2, h3, h4⟩]; rfl
theorem iran_len {l n : Int} : (iran l n).length = (n - l).toNat := by simp [iran]
theorem iran_get {l n : Int} {i : Nat} {x : Int} (h : (iran l n)[i]? = some x) : x = l + (i : Int) ∧ l ≤ x ∧ x < n := by
  have hi : i < (iran l n).length := (List.getElem?_eq_some_iff.mp h).1
  rw [iran_len] at hi
  simp only [iran, List.getElem?_map, List.getElem?_range hi, Option.map_some, Option.some.injEq] at h
  omega
theorem iran_mem {l n x : Int} (h : x ∈ iran l n) : l ≤ x ∧ x < n := by
  obtain ⟨i, hi⟩ := List.mem_iff_getElem?.mp h
  exact ⟨(iran_get hi).2.1, (iran_get hi).2.2⟩
theorem at_some {α : Type} {xs : List α} {i : Int} (h0 : 0 ≤ i) (h : i < (xs.length : Int)) : ∃ x, xs[i.toNat]? = some x ∧ atI xs i = some x := by
  have hi : i.toNat < xs.length := by omega
  refine ⟨xs[i.toNat], List.getElem?_eq_getElem hi, ?_⟩
  have := atI_nat (xs := xs) (j := i.toNat) (v := xs[i.toNat]) (List.getElem?_eq_getElem hi)
  rw [show ((i.toNat : Nat) : Int) = i by omega] at this
  exact this
theorem sat_at {α : Type} {xs : List α} {i : Int} {P : α → Prop} (h0 : 0 ≤ i) (h : i < (xs.length : Int)) (hP : ∀ x ∈ xs, P x) : Sat (ofO (atI xs i)) P := by
  obtain ⟨x, h1, h2⟩ := at_some h0 h
  rw [h2]
  exact ⟨x, rfl, hP x (List.mem_iff_getElem?.mpr ⟨_, h1⟩)⟩
theorem sat_atI {α : Type} {xs : List α} {i : Int} (h0 : 0 ≤ i) (h : i < (xs.length : Int)) : Sat (ofO (atI xs i)) fun x => xs[i.toNat]? = some x := by
  obtain ⟨x, h1, h2⟩ := at_some h0 h
  rw [h2]
  exact ⟨x, rfl, h1⟩
/-! ### texts -/
theorem len_mk (l : List Nat) : (⟨l.toArray⟩ : Str).length = l.length := by show l.toArray.size = _; simp
theorem slen (s : Str) : s.length = s.cps.toList.length := by show s.cps.size = _; simp
theorem sat_atS {x : Str} {i : Int} (h0 : 0 ≤ i) (h : i < (x.length : Int)) (hl : x.length ≤ 16777216) : Sat (ofO (atS x i)) fun y => ∃ c, x.cps.toList[i.toNat]? = some c ∧ y = ⟨#[c]⟩ := by
  unfold atS
  rw [if_pos (by rw [size_eq]; exact hl)]
  obtain ⟨c, h1, h2⟩ := at_some (xs := x.cps.toList) h0 (by rw [← slen]; exact h)
  rw [h2]
  exact ⟨⟨#[c]⟩, rfl, c, h1, rfl⟩
theorem catS_ok {x y : Str} (h : x.length + y.length ≤ 16777216) : ofO (catO x y) = .ok (x ++ y) := by unfold catO; rw [if_pos (by rw [size_eq]; exact h)]; rfl
theorem len_app (x y : Str) : (x ++ y).length = x.length + y.length := Str.length_append x y
theorem slS_ok {x : Str} {l h : Option Int} (hl : x.length ≤ 16777216) : ofO (slS x l h) = .ok (cutS x l h) := by unfold slS; rw [if_pos (by rw [size_eq]; exact hl)]; rfl
theorem cutS_len (x : Str) (l h : Option Int) : (cutS x l h).length ≤ x.length := by
  unfold cutS
  rw [len_mk, List.length_take, List.length_drop, ← slen]
  omega
theorem lenS_ok {x : Str} (hl : x.length ≤ 16777216) : ofO (lenS x) = .ok (x.length : Int) := by unfold lenS; rw [if_pos (by rw [size_eq]; exact hl)]; rfl
theorem join_ok {a : Str} {ys : List Str} (h : (ys.map (·.length)).sum + ys.length * a.length ≤ 16777216) : ofO (joinO a ys) = .ok (Txt.join a ys) := by unfold joinO; rw [if_pos h]; rfl
theorem sum_le {xs : List Nat} {b : Nat} (h : ∀ x ∈ xs, x ≤ b) : xs.sum ≤ xs.length * b := by
  induction xs with
  | nil => simp
  | cons x xs ih =>
    rw [List.sum_cons, List.length_cons, Nat.add_mul]
    have := h x (List.mem_cons_self ..)
    have := ih fun y hy => h y (List.mem_cons_of_mem _ hy)
    omega
end Gm
set_option Elab.async false
set_option linter.all false
set_option maxRecDepth 100000
set_option maxHeartbeats 1000000
namespace Gm
open PySem PySem.Spec
open L2 hiding app_ok
/-! ## texts as lists of codes -/
abbrev cs (t : Str) : List Nat := t.cps.toList
theorem cs_ext {x y : Str} (h : cs x = cs y) : x = y := by
  obtain ⟨⟨a⟩⟩ := x
  obtain ⟨⟨b⟩⟩ := y
  have h' : a = b := h
  rw [h']
theorem cs_app (x y : Str) : cs (x ++ y) = cs x ++ cs y := by show (x.cps ++ y.cps).toList = _; simp
theorem cs_mk (l : List Nat) : cs ⟨l.toArray⟩ = l := rfl
theorem cs_one (c : Nat) : cs ⟨#[c]⟩ = [c] := rfl
theorem cs_len (t : Str) : t.length = (cs t).length := slen t
theorem cs_join (a : Str) (ys : List Str) : cs (Txt.join a ys) = TL.joinL (cs a) (ys.map cs) := by
  show TL.tl (Builtin.Str.glued a ys) = _
  rw [StrLaws.glued_eq_join]
  exact TL.tl_join a ys
theorem joinL_nil : ∀ (l : List (List Nat)), TL.joinL [] l = l.flatten
  | [] => rfl
  | [p] => by simp [TL.joinL]
  | p :: q :: r => by
    show p ++ ([] ++ TL.joinL [] (q :: r)) = _
    rw [joinL_nil (q :: r)]; rfl
theorem cs_join0 (ys : List Str) : cs (Txt.join ("" : Str) ys) = (ys.map cs).flatten := by
  rw [cs_join]
  have : cs ("" : Str) = [] := by decide +kernel
  rw [this, joinL_nil]
theorem sIx_to {n : Nat} {p : Int} (h : 0 ≤ p) (h2 : p ≤ (n : Int)) : HT.sIx n n (some p) = p.toNat := by
  have e : p = ((p.toNat : Nat) : Int) := by omega
  rw [e, HT.sIx_nat]
  rw [show ((p.toNat : Nat) : Int).toNat = p.toNat by omega]
  exact Nat.min_eq_left (by omega)
theorem sIx_fr {n : Nat} {p : Int} (h : 0 ≤ p) (h2 : p ≤ (n : Int)) : HT.sIx n 0 (some p) = p.toNat := by
  have e : p = ((p.toNat : Nat) : Int) := by omega
  rw [e, HT.sIx_nat]
  rw [show ((p.toNat : Nat) : Int).toNat = p.toNat by omega]
  exact Nat.min_eq_left (by omega)
theorem cs_to {x : Str} {p : Int} (h : 0 ≤ p) (h2 : p ≤ (x.length : Int)) : cs (cutS x none (some p)) = (cs x).take p.toNat := by
  unfold L2.cutS
  rw [HT.sIx_none, sIx_to h h2]
  show ((cs x).drop 0).take (p.toNat - 0) = _
  simp
theorem cs_fr {x : Str} {p : Int} (h : 0 ≤ p) (h2 : p ≤ (x.length : Int)) : cs (cutS x (some p) none) = (cs x).drop p.toNat := by
  unfold L2.cutS
  rw [HT.sIx_none, sIx_fr h h2]
  show ((cs x).drop p.toNat).take (x.length - p.toNat) = _
  rw [List.take_of_length_le]
  rw [List.length_drop, ← cs_len]; exact Nat.le_refl _
theorem cut_to {α : Type} (xs : List α) {n : Int} (h : 0 ≤ n) : cut xs none (some n) = xs.take n.toNat := by
  unfold cut
  have e : n = ((n.toNat : Nat) : Int) := by omega
  rw [HT.sIx_none, e, HT.sIx_nat, List.drop_zero, Nat.sub_zero]
  rw [show ((n.toNat : Nat) : Int).toNat = n.toNat by omega]
  rw [Nat.min_def]
  split
  · rfl
  · rw [List.take_of_length_le (by omega), List.take_of_length_le (by omega)]
theorem cut_fr {α : Type} (xs : List α) {n : Int} (h : 0 ≤ n) : cut xs (some n) none = xs.drop n.toNat := by
  unfold cut
  have e : n = ((n.toNat : Nat) : Int) := by omega
  rw [HT.sIx_none, e, HT.sIx_nat]
  rw [show ((n.toNat : Nat) : Int).toNat = n.toNat by omega]
  rw [Nat.min_def]
  split
  · rw [List.take_of_length_le]; rw [List.length_drop]; exact Nat.le_refl _
  · rw [List.drop_of_length_le (Nat.le_refl _), List.drop_of_length_le (by omega)]; simp
/-- a value of a list at an index, told -/
theorem at_ok {α : Type} {xs : List α} {i : Int} {x : α} (h0 : 0 ≤ i) (h : xs[i.toNat]? = some x) : ofO (atI xs i) = .ok x := by
  have := atI_nat (xs := xs) (j := i.toNat) (v := x) h
  rw [show ((i.toNat : Nat) : Int) = i by omega] at this
  rw [this]; rfl
/-! ## indices -/
theorem idx_ok {α : Type} [DecidableEq α] {xs : List α} {x : α} (h : x ∈ xs) : ofO (idxO xs x) = .ok ((xs.idxOf x : Nat) : Int) := by
  unfold idxO
  have e : xs.findIdx? (fun y => decide (y = x)) = some (xs.idxOf x) := by
    rw [List.findIdx?_eq_some_iff_getElem]
    have hl := List.idxOf_lt_length_of_mem h
    refine ⟨hl, by simp, fun j hj => ?_⟩
    have hne : ¬ xs[j] = x := fun z => by
      have h3 : xs.idxOf x ≤ j := by
        have hjl : j < xs.length := Nat.lt_trans hj hl
        rcases Nat.lt_or_ge j (xs.idxOf x) with h4 | h4
        · exfalso
          have h5 := List.not_of_lt_findIdx (p := (· == x)) (xs := xs) (i := j) (by simpa [List.idxOf] using h4)
          simp [z] at h5
        · exact h4
      omega
    simpa using hne
  rw [e]; rfl
end Gm
set_option Elab.async false
set_option linter.all false
set_option maxRecDepth 100000
set_option maxHeartbeats 1000000
namespace Gm
open PySem PySem.Spec
open L2 hiding app_ok
/-! ## plain words about graphs and lists -/
theorem nodup_le {α : Type} [DecidableEq α] : ∀ {l m : List α}, l.Nodup → (∀ x ∈ l, x ∈ m) → l.length ≤ m.length
  | [], _, _, _ => Nat.zero_le _
  | a :: l, m, h, s => by
    have ha := s a (List.mem_cons_self ..)
    obtain ⟨h1, h2⟩ := List.nodup_cons.mp h
    have := nodup_le (l := l) (m := m.erase a) h2 fun x hx => by
      have hne : x ≠ a := fun e => h1 (e ▸ hx)
      exact (List.mem_erase_of_ne hne).mpr (s x (List.mem_cons_of_mem _ hx))
    rw [List.length_erase_of_mem ha] at this
    have := List.length_pos_of_mem ha
    rw [List.length_cons]; omega
theorem nodup_snoc {α : Type} {l : List α} {a : α} (h : l.Nodup) (ha : a ∉ l) : (l ++ [a]).Nodup := by
  rw [List.nodup_append]
  refine ⟨h, by simp, fun x hx y hy => ?_⟩
  rw [List.mem_singleton.mp hy]
  exact fun e => ha (e ▸ hx)
inductive Rch (ps : List (Str × Str)) (a : Str) : Str → Prop
  | refl : Rch ps a a
  | step {x y : Str} (h : Rch ps a x) (hp : (x, y) ∈ ps) : Rch ps a y
theorem Rch.trans {ps : List (Str × Str)} {a b c : Str} (h : Rch ps a b) (k : Rch ps b c) : Rch ps a c := by
  induction k with
  | refl => exact h
  | step _ hp ih => exact .step ih hp
theorem Rch.rev {ps : List (Str × Str)} {a b : Str} (h : Rch ps a b) : Rch (ps.map fun p => (p.2, p.1)) b a := by
  induction h with
  | refl => exact .refl
  | @step x y h hp ih =>
    have : Rch (ps.map fun p => (p.2, p.1)) y x := .step .refl (List.mem_map.mpr ⟨(x, y), hp, rfl⟩)
    exact this.trans ih
theorem rch_rev {ps : List (Str × Str)} {a b : Str} : Rch (ps.map fun p => (p.2, p.1)) b a ↔ Rch ps a b := by
  refine ⟨fun h => ?_, Rch.rev⟩
  have := h.rev
  rw [List.map_map] at this
  have e : ((fun p : Str × Str => (p.2, p.1)) ∘ fun p : Str × Str => (p.2, p.1)) = id := by funext p; rfl
  rw [e, List.map_id] at this
  exact this
/-- closed under the pairs: all that is reached -/
theorem rch_mem {ps : List (Str × Str)} {a : Str} {f : List Str} (h0 : a ∈ f) (h : ∀ p ∈ ps, p.1 ∈ f → p.2 ∈ f) {x : Str} (r : Rch ps a x) : x ∈ f := by
  induction r with
  | refl => exact h0
  | step _ hp ih => exact h _ hp ih
theorem rch_in {ps : List (Str × Str)} {a : Str} {ns : List Str} (h0 : a ∈ ns) (h : ∀ p ∈ ps, p.2 ∈ ns) {x : Str} (r : Rch ps a x) : x ∈ ns := by
  cases r with
  | refl => exact h0
  | step _ hp => exact h _ hp
theorem filter_congr' {α : Type} {p q : α → Bool} : ∀ {l : List α}, (∀ x ∈ l, p x = q x) → l.filter p = l.filter q
  | [], _ => rfl
  | a :: l, h => by
    rw [List.filter_cons, List.filter_cons, h a (List.mem_cons_self ..), filter_congr' fun x hx => h x (List.mem_cons_of_mem _ hx)]
/-! ## dicts from distinct keys -/
theorem dput_new {α β : Type} [DecidableEq α] {xs : List (α × β)} {x : α} {y : β} (h : x ∉ xs.map (·.1)) : dput xs x y = xs ++ [(x, y)] := by
  unfold dput
  rw [if_neg]
  intro hz
  obtain ⟨p, hp, e⟩ := List.any_eq_true.mp hz
  exact h (List.mem_map.mpr ⟨p, hp, of_decide_eq_true e⟩)
theorem dmerge_aux {α β : Type} [DecidableEq α] : ∀ {ps acc : List (α × β)}, ((acc ++ ps).map (·.1)).Nodup → ps.foldl (fun acc p => dput acc p.1 p.2) acc = acc ++ ps
  | [], acc, _ => by simp
  | p :: ps, acc, h => by
    rw [List.foldl_cons, dput_new, dmerge_aux]
    · simp
    · simpa using h
    · intro hz
      rw [List.map_append, List.nodup_append] at h
      exact h.2.2 _ hz _ (List.mem_map.mpr ⟨p, List.mem_cons_self .., rfl⟩) rfl
theorem dmerge_nd {α β : Type} [DecidableEq α] {ps : List (α × β)} (h : (ps.map (·.1)).Nodup) : dmerge ps = ps := by
  unfold dmerge
  rw [dmerge_aux (by simpa using h)]; rfl
theorem dget_mem {α β : Type} [DecidableEq α] : ∀ {ps : List (α × β)} {x : α} {y : β}, (ps.map (·.1)).Nodup → (x, y) ∈ ps → dget ps x = some y
  | p :: ps, x, y, h, hm => by
    rw [List.map_cons, List.nodup_cons] at h
    rcases List.mem_cons.mp hm with rfl | hm
    · exact dget_pos rfl
    · rw [dget_neg, dget_mem h.2 hm]
      intro e
      exact h.1 (List.mem_map.mpr ⟨_, hm, e.symm⟩)
theorem enum_idx {ms : List Str} {m : Str} (nd : ms.Nodup) (h : m ∈ ms) : dget (dmerge ((enumL ms).map fun p => (p.2, p.1))) m = some ((ms.idxOf m : Nat) : Int) := by
  have e : ((enumL ms).map fun p : Int × Str => (p.2, p.1)).map (·.1) = ms := by
    rw [List.map_map]
    apply List.ext_getElem?
    intro i
    rw [List.getElem?_map]
    cases hi : ms[i]? with
    | none =>
      have : (enumL ms)[i]? = none := by
        rw [List.getElem?_eq_none_iff, enumL_len]
        exact List.getElem?_eq_none_iff.mp hi
      rw [this]; rfl
    | some x => rw [enumL_get hi]; rfl
  rw [dmerge_nd (by rw [e]; exact nd)]
  refine dget_mem (by rw [e]; exact nd) (List.mem_map.mpr ⟨((ms.idxOf m : Nat), m), ?_, rfl⟩)
  have hl := List.idxOf_lt_length_of_mem h
  have : ms[ms.idxOf m]? = some m := by
    rw [List.getElem?_eq_getElem hl]; simp
  exact List.mem_of_getElem? (enumL_get this)
theorem loopF_go {α R : Type} {f : Unit → α → Mx (Lp Unit R)} : ∀ {xs : List α}, (∀ x ∈ xs, f () x = .ok (.go ())) → loopF xs () f = .ok (.go ())
  | [], _ => rfl
  | x :: xs, h => by
    simp only [loopF]
    rw [h x (List.mem_cons_self ..), okb]
    exact loopF_go fun y hy => h y (List.mem_cons_of_mem _ hy)
end Gm
set_option Elab.async false
set_option linter.all false
set_option maxRecDepth 100000
set_option maxHeartbeats 1000000
namespace Lw
open Gm
theorem memD_true {α : Type} [DecidableEq α] {x : α} {l : List α} (h : x ∈ l) : memD x l = true := decide_eq_true h
theorem memD_false {α : Type} [DecidableEq α] {x : α} {l : List α} (h : x ∉ l) : memD x l = false := decide_eq_false h
/-! ## breadth first search, by entries -/
section
variable {σ ε δ : Type} [DecidableEq σ]
def note (l : List (σ × ε)) (x : σ × ε) : List (σ × ε) := if x.1 ∈ l.map (·.1) then l else l ++ [x]
inductive Bfs (f : σ × ε → List (σ × ε)) : List (σ × ε) → Nat → List (σ × ε) → Prop
  | done {l : List (σ × ε)} {i : Nat} (h : l.length ≤ i) : Bfs f l i l
  | step {l out : List (σ × ε)} {i : Nat} {x : σ × ε} (h : l[i]? = some x) (r : Bfs f ((f x).foldl note l) (i + 1) out) : Bfs f l i out
theorem Bfs.det {f : σ × ε → List (σ × ε)} {l a b : List (σ × ε)} {i : Nat} (h : Bfs f l i a) : Bfs f l i b → a = b := by
  induction h with
  | done h =>
    intro k
    cases k with
    | done _ => rfl
    | step h2 _ => have := (List.getElem?_eq_some_iff.mp h2).1; omega
  | step h r ih =>
    intro k
    cases k with
    | done h2 => have := (List.getElem?_eq_some_iff.mp h).1; omega
    | step h2 r2 =>
      rw [h] at h2
      cases h2
      exact ih r2
theorem note_old {l : List (σ × ε)} {x : σ × ε} (h : x.1 ∈ l.map (·.1)) : note l x = l := if_pos h
theorem note_new {l : List (σ × ε)} {x : σ × ε} (h : x.1 ∉ l.map (·.1)) : note l x = l ++ [x] := if_neg h
theorem notes_pre : ∀ (xs : List (σ × ε)) (l : List (σ × ε)), ∃ t, xs.foldl note l = l ++ t ∧ ∀ y ∈ t, y ∈ xs
  | [], l => ⟨[], by simp, by simp⟩
  | x :: xs, l => by
    obtain ⟨t, e, ht⟩ := notes_pre xs (note l x)
    rw [List.foldl_cons, e]
    by_cases h : x.1 ∈ l.map (·.1)
    · rw [note_old h]
      exact ⟨t, rfl, fun y hy => List.mem_cons_of_mem _ (ht y hy)⟩
    · rw [note_new h]
      refine ⟨x :: t, by simp, fun y hy => ?_⟩
      rcases List.mem_cons.mp hy with rfl | hy
      · exact List.mem_cons_self ..
      · exact List.mem_cons_of_mem _ (ht y hy)
theorem notes_le (xs : List (σ × ε)) (l : List (σ × ε)) : l.length ≤ (xs.foldl note l).length := by
  obtain ⟨t, e, _⟩ := notes_pre xs l
  rw [e, List.length_append]; omega
theorem notes_nodup : ∀ (xs : List (σ × ε)) (l : List (σ × ε)), (l.map (·.1)).Nodup → ((xs.foldl note l).map (·.1)).Nodup
  | [], _, h => h
  | x :: xs, l, h => by
    rw [List.foldl_cons]
    refine notes_nodup xs _ ?_
    by_cases hx : x.1 ∈ l.map (·.1)
    · rw [note_old hx]; exact h
    · rw [note_new hx, List.map_append]; exact nodup_snoc h hx
theorem notes_mem : ∀ (xs : List (σ × ε)) (l : List (σ × ε)), ∀ y ∈ xs, y.1 ∈ (xs.foldl note l).map (·.1)
  | x :: xs, l, y, hy => by
    rw [List.foldl_cons]
    rcases List.mem_cons.mp hy with rfl | hy
    · obtain ⟨t, e, _⟩ := notes_pre xs (note l y)
      rw [e, List.map_append]
      refine List.mem_append_left _ ?_
      by_cases hx : y.1 ∈ l.map (·.1)
      · rw [note_old hx]; exact hx
      · rw [note_new hx, List.map_append]; simp
    · exact notes_mem xs _ y hy
/-- the entries found come from entries -/
theorem Bfs.pre {f : σ × ε → List (σ × ε)} {l out : List (σ × ε)} {i : Nat} (b : Bfs f l i out) : ∃ t, out = l ++ t := by
  induction b with
  | done _ => exact ⟨[], by simp⟩
  | step h r ih =>
    obtain ⟨t, e⟩ := ih
    obtain ⟨u, e2, _⟩ := notes_pre (f _) _
    rw [e, e2]
    exact ⟨u ++ t, by simp⟩
theorem Bfs.inv {f : σ × ε → List (σ × ε)} {P : σ × ε → Prop} (hf : ∀ x, P x → ∀ y ∈ f x, P y) {l out : List (σ × ε)} {i : Nat} (b : Bfs f l i out) : (∀ x ∈ l, P x) → ∀ x ∈ out, P x := by
  induction b with
  | done _ => exact fun h => h
  | step h r ih =>
    intro hl
    refine ih fun y hy => ?_
    obtain ⟨u, e2, h2⟩ := notes_pre (f _) _
    rw [e2] at hy
    rcases List.mem_append.mp hy with hy | hy
    · exact hl y hy
    · exact hf _ (hl _ (List.mem_of_getElem? h)) y (h2 y hy)
theorem Bfs.nodup {f : σ × ε → List (σ × ε)} {l out : List (σ × ε)} {i : Nat} (b : Bfs f l i out) : (l.map (·.1)).Nodup → (out.map (·.1)).Nodup := by
  induction b with
  | done _ => exact fun h => h
  | step h r ih => exact fun hl => ih (notes_nodup _ _ hl)
/-- where an entry comes from: it was there, or an earlier entry leads to it -/
theorem Bfs.src {f : σ × ε → List (σ × ε)} {l out : List (σ × ε)} {i : Nat} (b : Bfs f l i out) : ∀ y ∈ out, y ∈ l ∨ ∃ x ∈ out, y ∈ f x := by
  induction b with
  | done _ => exact fun y hy => .inl hy
  | @step l out i x h r ih =>
    intro y hy
    rcases ih y hy with h1 | h1
    · obtain ⟨u, e2, h2⟩ := notes_pre (f x) l
      rw [e2] at h1
      rcases List.mem_append.mp h1 with h1 | h1
      · exact .inl h1
      · obtain ⟨t, e⟩ := r.pre
        refine .inr ⟨x, ?_, h2 y h1⟩
        rw [e, e2]
        exact List.mem_append_left _ (List.mem_append_left _ (List.mem_of_getElem? h))
    · exact .inr h1
/-- what an entry leads to is found, and no later than it must -/
theorem Bfs.best {f : σ × ε → List (σ × ε)} {len : ε → Nat} (hf : ∀ x, ∀ y ∈ f x, len y.2 = len x.2 + 1) {l out : List (σ × ε)} {i : Nat} (b : Bfs f l i out) :
    l.Pairwise (fun a c => len a.2 ≤ len c.2) → (∀ x y, l[i]? = some x → y ∈ l → len y.2 ≤ len x.2 + 1) → (∀ (j : Nat) x, j < i → l[j]? = some x → ∀ y ∈ f x, ∃ z ∈ l, z.1 = y.1 ∧ len z.2 ≤ len x.2 + 1) →
    ∀ x ∈ out, ∀ y ∈ f x, ∃ z ∈ out, z.1 = y.1 ∧ len z.2 ≤ len x.2 + 1 := by
  induction b with
  | @done l i h =>
    intro _ _ h3 x hx y hy
    obtain ⟨j, hj⟩ := List.mem_iff_getElem?.mp hx
    exact h3 j x (by have := (List.getElem?_eq_some_iff.mp hj).1; omega) hj y hy
  | @step l out i x h r ih =>
    intro h1 h2 h3
    obtain ⟨u, e2, hu⟩ := notes_pre (f x) l
    have le1 : ∀ z ∈ (f x).foldl note l, len z.2 ≤ len x.2 + 1 := fun z hz => by
      rw [e2] at hz
      rcases List.mem_append.mp hz with hz | hz
      · exact h2 x z h hz
      · rw [hf x z (hu z hz)]; exact Nat.le_refl _
    have hx : x ∈ l := List.mem_of_getElem? h
    have old : ∀ (j : Nat) z, l[j]? = some z → ((f x).foldl note l)[j]? = some z := fun j z hz => by
      rw [e2, List.getElem?_append_left (List.getElem?_eq_some_iff.mp hz).1]; exact hz
    have srt : ((f x).foldl note l).Pairwise (fun a c => len a.2 ≤ len c.2) := by
      rw [e2, List.pairwise_append]
      refine ⟨h1, ?_, fun a ha c hc => by rw [hf x c (hu c hc)]; exact h2 x a h ha⟩
      rw [List.pairwise_iff_forall_sublist]
      intro a c s
      have ha := s.subset (List.mem_cons_self ..)
      have hc := s.subset (List.mem_cons_of_mem _ (List.mem_cons_self ..))
      rw [hf x a (hu a ha), hf x c (hu c hc)]; exact Nat.le_refl _
    refine ih srt (fun x' y hx' hy => ?_) fun j z hj hz y hy => ?_
    · have := le1 y hy
      have hxx := List.pairwise_iff_getElem.mp srt i (i + 1) (List.getElem?_eq_some_iff.mp (old i x h)).1 (List.getElem?_eq_some_iff.mp hx').1 (by omega)
      rw [(List.getElem?_eq_some_iff.mp (old i x h)).2, (List.getElem?_eq_some_iff.mp hx').2] at hxx
      omega
    · by_cases hji : j < i
      · have hl : j < l.length := by have := (List.getElem?_eq_some_iff.mp h).1; omega
        have hz2 : l[j]? = some z := by
          have e := old j _ (List.getElem?_eq_getElem hl)
          rw [hz] at e
          rw [List.getElem?_eq_getElem hl, ← e]
        obtain ⟨w, hw, h5, h6⟩ := h3 j z hji hz2 y hy
        exact ⟨w, by rw [e2]; exact List.mem_append_left _ hw, h5, h6⟩
      · have : j = i := by omega
        subst this
        have e := old j x h
        have e : z = x := Option.some.inj (hz.symm.trans e)
        rw [e] at hy ⊢
        obtain ⟨w, hw, h5⟩ := List.mem_map.mp (notes_mem (f x) l y hy)
        exact ⟨w, hw, h5, le1 w hw⟩
/-- what every entry leads to is found -/
theorem Bfs.closed {f : σ × ε → List (σ × ε)} {l out : List (σ × ε)} (b : Bfs f l 0 out) : ∀ x ∈ out, ∀ y ∈ f x, y.1 ∈ out.map (·.1) := by
  have gen : ∀ {l out : List (σ × ε)} {i : Nat}, Bfs f l i out → (∀ (j : Nat) x, j < i → l[j]? = some x → ∀ y ∈ f x, y.1 ∈ l.map (·.1)) → ∀ x ∈ out, ∀ y ∈ f x, y.1 ∈ out.map (·.1) := by
    intro l out i b
    induction b with
    | @done l i h =>
      intro h3 x hx y hy
      obtain ⟨j, hj⟩ := List.mem_iff_getElem?.mp hx
      exact h3 j x (by have := (List.getElem?_eq_some_iff.mp hj).1; omega) hj y hy
    | @step l out i x h r ih =>
      intro h3
      obtain ⟨u, e2, hu⟩ := notes_pre (f x) l
      refine ih fun j z hj hz y hy => ?_
      by_cases hji : j < i
      · have hl : j < l.length := by have := (List.getElem?_eq_some_iff.mp h).1; omega
        have hz2 : l[j]? = some z := by
          rw [e2, List.getElem?_append_left hl] at hz; exact hz
        rw [e2, List.map_append]
        exact List.mem_append_left _ (h3 j z hji hz2 y hy)
      · have : j = i := by omega
        subst this
        rw [e2, List.getElem?_append_left (List.getElem?_eq_some_iff.mp h).1] at hz
        have e : z = x := Option.some.inj (hz.symm.trans h)
        rw [e] at hy
        exact notes_mem (f x) l y hy
  exact gen b fun j x hj => by omega
theorem Bfs.len_le {f : σ × ε → List (σ × ε)} {len : ε → Nat} (hf : ∀ x, ∀ y ∈ f x, len y.2 = len x.2 + 1) {l out : List (σ × ε)} {i : Nat} (b : Bfs f l i out) : i ≤ l.length → (∀ y ∈ l, len y.2 ≤ i) → ∀ y ∈ out, len y.2 ≤ out.length := by
  induction b with
  | done h => exact fun h1 h2 y hy => Nat.le_trans (h2 y hy) h1
  | @step l out i x h r ih =>
    intro h1 h2
    have hl := (List.getElem?_eq_some_iff.mp h).1
    refine ih (Nat.le_trans hl (notes_le _ _)) fun y hy => ?_
    obtain ⟨u, e2, hu⟩ := notes_pre (f x) l
    rw [e2] at hy
    rcases List.mem_append.mp hy with hy | hy
    · exact Nat.le_succ_of_le (h2 y hy)
    · rw [hf x y (hu y hy)]
      have := h2 x (List.mem_of_getElem? h)
      omega
/-- the same search with less in the entries -/
theorem note_map (p : ε → δ) (l : List (σ × ε)) (x : σ × ε) : (note l x).map (fun z => (z.1, p z.2)) = note (l.map fun z => (z.1, p z.2)) (x.1, p x.2) := by
  have e : (l.map fun z => (z.1, p z.2)).map (·.1) = l.map (·.1) := by rw [List.map_map]; rfl
  by_cases h : x.1 ∈ l.map (·.1)
  · rw [note_old h, note_old (by rw [e]; exact h)]
  · rw [note_new h, note_new (by rw [e]; exact h), List.map_append]; rfl
theorem notes_map (p : ε → δ) : ∀ (xs l : List (σ × ε)), (xs.foldl note l).map (fun z => (z.1, p z.2)) = (xs.map fun z => (z.1, p z.2)).foldl note (l.map fun z => (z.1, p z.2))
  | [], l => rfl
  | x :: xs, l => by rw [List.foldl_cons, notes_map p xs, note_map, List.map_cons, List.foldl_cons]
theorem Bfs.lift {f : σ × ε → List (σ × ε)} {g : σ × δ → List (σ × δ)} {p : ε → δ} (hg : ∀ x : σ × ε, g (x.1, p x.2) = (f x).map fun z => (z.1, p z.2)) {l1 out1 : List (σ × δ)} {i : Nat} (b : Bfs g l1 i out1) :
    ∀ {l : List (σ × ε)}, l1 = l.map (fun z => (z.1, p z.2)) → ∃ out, Bfs f l i out ∧ out1 = out.map fun z => (z.1, p z.2) := by
  induction b with
  | @done l1 i h => intro l e; exact ⟨l, .done (by rw [e, List.length_map] at h; exact h), e⟩
  | @step l1 out1 i x1 h r ih =>
    intro l e
    rw [e, List.getElem?_map] at h
    cases hx : l[i]? with
    | none => rw [hx] at h; cases h
    | some x =>
      rw [hx] at h
      have h : x1 = (x.1, p x.2) := (Option.some.inj h).symm
      subst h
      obtain ⟨out, b2, e2⟩ := ih (l := (f x).foldl note l) (by rw [hg, e, notes_map])
      exact ⟨out, .step hx b2, e2⟩
theorem Bfs.proj {f : σ × ε → List (σ × ε)} {g : σ × δ → List (σ × δ)} {p : ε → δ} (hg : ∀ x : σ × ε, g (x.1, p x.2) = (f x).map fun z => (z.1, p z.2)) {l out : List (σ × ε)} {i : Nat} (b : Bfs f l i out) :
    Bfs g (l.map fun z => (z.1, p z.2)) i (out.map fun z => (z.1, p z.2)) := by
  induction b with
  | done h => exact .done (by rw [List.length_map]; exact h)
  | step h r ih =>
    rw [notes_map, ← hg] at ih
    exact .step (by rw [List.getElem?_map, h]; rfl) ih
end
/-! ### how many states there are -/
def allB : Nat → List (List Bool)
  | 0 => [[]]
  | n + 1 => (allB n).map (false :: ·) ++ (allB n).map (true :: ·)
theorem allB_len : ∀ n, (allB n).length = 2 ^ n
  | 0 => rfl
  | n + 1 => by
    show ((allB n).map (false :: ·) ++ (allB n).map (true :: ·)).length = _
    rw [List.length_append, List.length_map, List.length_map, allB_len n, Nat.pow_succ]; omega
theorem allB_mem : ∀ (n : Nat) (l : List Bool), l.length = n → l ∈ allB n
  | 0, [], _ => List.mem_singleton.mpr rfl
  | n + 1, b :: l, h => by
    have := allB_mem n l (by simpa using h)
    show _ ∈ (allB n).map (false :: ·) ++ (allB n).map (true :: ·)
    cases b
    · exact List.mem_append_left _ (List.mem_map.mpr ⟨l, this, rfl⟩)
    · exact List.mem_append_right _ (List.mem_map.mpr ⟨l, this, rfl⟩)
theorem states_le {n : Nat} {ss : List (List Bool × Bool)} (nd : ss.Nodup) (h : ∀ s ∈ ss, s.1.length = n) : ss.length ≤ 2 ^ (n + 1) := by
  have := nodup_le (m := (allB n).map (fun l => (l, false)) ++ (allB n).map fun l => (l, true)) nd fun s hs => by
    have hm := allB_mem n s.1 (h s hs)
    obtain ⟨l, b⟩ := s
    cases b
    · exact List.mem_append_left _ (List.mem_map.mpr ⟨l, hm, rfl⟩)
    · exact List.mem_append_right _ (List.mem_map.mpr ⟨l, hm, rfl⟩)
  rw [List.length_append, List.length_map, List.length_map, allB_len] at this
  rw [Nat.pow_succ]; omega
end Lw
set_option Elab.async false
set_option synthInstance.maxHeartbeats 2000000
set_option synthInstance.maxSize 4000
set_option linter.all false
set_option maxRecDepth 100000
set_option maxHeartbeats 4000000
namespace Lw
open PySem PySem.Spec L2 Gm
abbrev ns_Board : List Str := ["nodes", "switches", "relays", "lamps", "contacts"]
abbrev fo_Board : Ow := (.pr (.d (.vtup .str)) (.pr (.d (.vtup .str)) (.pr (.d (.vtup (.tup (.pr .str (.pr .str .str))))) (.pr (.d (.vtup (.tup (.pr .str (.pr .str .str))))) (.pr (.d (.vtup (.tup (.pr .str (.pr .str (.pr (.opt .str) (.pr .str .str))))))) .nl)))))
abbrev D_Board : Type := (List Str) × (List Str) × (List (Str × Str × Str)) × (List (Str × Str × Str)) × (List (Str × Str × (Option Str) × Str × Str)) × Unit
def l_row_b1 (a_cell : Int) (s9 : ((List Int) × Int)) (k10 : Int) : Mx ((List Int) × Int) :=
  ((ofO (powO (10 : Int) (18 : Int))) >>= fun v11 => .ok (decide (v11 ≤ (if a_cell < 0 then -a_cell else a_cell)))) >>= fun v25 => if v25 then (ofO (modO s9.2 (1009 : Int))) >>= fun v14 => ofO (appO s9.1 v14) >>= fun row_here_12 => (ofO (divO s9.2 (1009 : Int))) >>= fun rest_13 => .ok (row_here_12, rest_13) else (((ofO (mulO s9.2 (48271 : Int))) >>= fun v15 => (ofO (mulO (k10 + (1 : Int)) (69621 : Int))) >>= fun v16 => .ok (v15 + v16)) >>= fun v17 => ofO (modO v17 (2147483647 : Int))) >>= fun mixed_18 => (((ofO (mulO mixed_18 (16807 : Int))) >>= fun v19 => (ofO (mulO (271 : Int) (k10 + (3 : Int)))) >>= fun v20 => .ok (v19 + v20)) >>= fun v21 => ofO (modO v21 (2147483629 : Int))) >>= fun mixed_22 => (ofO (modO mixed_22 (1009 : Int))) >>= fun v24 => ofO (appO s9.1 v24) >>= fun row_here_23 => .ok (row_here_23, s9.2)
def l_row (a_cell : Int) (a_many : Int) : Mx (List Int) :=
  (.ok ([] : List Int)) >>= fun row_here_7 => (.ok (if a_cell < 0 then -a_cell else a_cell)) >>= fun rest_8 => ((ofO (ranO 0 a_many)) >>= fun v27 => loopS v27 (row_here_7, rest_8) (l_row_b1 a_cell)) >>= fun s26 => .ok s26.1
def l_numbers_b2 (s28 : (List Int)) (number29 : Int) : Mx (List Int) :=
  ofO (appO s28 number29) >>= fun numbers_here_30 => .ok numbers_here_30
def l_numbers_b1 (each_3 : Int) (s5 : (List Int)) (cell6 : Int) : Mx (List Int) :=
  ((l_row cell6 each_3) >>= fun v32 => loopS v32 s5 l_numbers_b2) >>= fun s31 => .ok s31
def l_numbers_b3 (s34 : (List Int)) : Mx (List Int) :=
  ofO (appO s34 (0 : Int)) >>= fun numbers_here_35 => .ok numbers_here_35
def l_numbers_b3c (a_many : Int) (s34 : (List Int)) : Mx Bool :=
  .ok (decide ((s34.length : Int) < a_many))
def l_numbers (a_script : (List Int)) (a_many : Int) : Mx (List Int) :=
  (.ok (cut a_script none (some (63 : Int)))) >>= fun cells_1 => ((ofO (divO a_many (if (cells_1.length : Int) > (1 : Int) then (cells_1.length : Int) else (1 : Int)))) >>= fun v2 => .ok ((1 : Int) + v2)) >>= fun each_3 => (.ok ([] : List Int)) >>= fun numbers_here_4 => (loopS cells_1 numbers_here_4 (l_numbers_b1 each_3)) >>= fun s33 => whileS fuel s33 (l_numbers_b3c a_many) l_numbers_b3 >>= fun s36 => .ok (cut s36 none (some a_many))
def l_names_b1 (a_numbers_here : (List Int)) (a_at_ : Int) (chars_38 : Str) (s42 : Str) (k43 : Int) : Mx Str :=
  (((((ofO (atI a_numbers_here (a_at_ + (1 : Int)))) >>= fun v45 => ((ofO (atI a_numbers_here (a_at_ + (2 : Int)))) >>= fun v44 => ofO (mulO k43 v44)) >>= fun v46 => .ok (v45 + v46)) >>= fun v47 => ofO (modO v47 (36 : Int))) >>= fun v48 => ofO (atS chars_38 v48)) >>= fun v49 => ofO (catO s42 v49)) >>= fun prefix__50 => .ok prefix__50
def l_names_b2 (chars_38 : Str) (s51 : Str) (place_55 : Int) (shift_57 : Int) (s59 : (List Str)) (k60 : Int) : Mx (List Str) :=
  (((ofO (slS s51 none (some place_55))) >>= fun v62 => ((ofO (modO (shift_57 + k60) (36 : Int))) >>= fun v61 => ofO (atS chars_38 v61)) >>= fun v63 => ofO (catO v62 v63)) >>= fun v64 => (ofO (slS s51 (some place_55) none)) >>= fun v65 => ofO (catO v64 v65)) >>= fun v67 => ofO (appO s59 v67) >>= fun names_here_66 => .ok names_here_66
def l_names (a_numbers_here : (List Int)) (a_at_ : Int) (a_many : Int) : Mx (List Str) :=
  (.ok ("abcdefghijklmnopqrstuvwxyz0123456789" : Str)) >>= fun chars_38 => (.ok ("" : Str)) >>= fun prefix__39 => ((((ofO (atI a_numbers_here a_at_)) >>= fun v40 => ofO (modO v40 (12 : Int))) >>= fun v41 => ofO (ranO 0 v41)) >>= fun v70 => loopS v70 prefix__39 (l_names_b1 a_numbers_here a_at_ chars_38)) >>= fun s51 => ((ofO (atI a_numbers_here (a_at_ + (3 : Int)))) >>= fun v53 => ((ofO (lenS s51)) >>= fun v52 => .ok (v52 + (1 : Int))) >>= fun v54 => ofO (modO v53 v54)) >>= fun place_55 => ((ofO (atI a_numbers_here (a_at_ + (4 : Int)))) >>= fun v56 => ofO (modO v56 (36 : Int))) >>= fun shift_57 => (.ok ([] : List Str)) >>= fun names_here_58 => ((ofO (ranO 0 a_many)) >>= fun v69 => loopS v69 names_here_58 (l_names_b2 chars_38 s51 place_55 shift_57)) >>= fun s68 => .ok s68
def l_count (a_number : Int) (a_least : Int) (a_most : Int) : Mx Int :=
  ((ofO (modO a_number (6 : Int))) >>= fun v71 => .ok (decide (v71 = (0 : Int)))) >>= fun v76 => if v76 then .ok a_least else ((ofO (modO a_number (6 : Int))) >>= fun v72 => .ok (decide (v72 = (1 : Int)))) >>= fun v75 => if v75 then .ok a_most else ((ofO (divO a_number (6 : Int))) >>= fun v73 => ofO (modO v73 (((if (a_least + (4 : Int)) < a_most then (a_least + (4 : Int)) else a_most) - a_least) + (1 : Int)))) >>= fun v74 => .ok (a_least + v74)
def l_two (a_one : Int) (a_other : Int) (a_nodes : (List Str)) : Mx (Str × Str) :=
  (ofO (modO a_one (a_nodes.length : Int))) >>= fun first_98 => (((ofO (modO a_other ((a_nodes.length : Int) - (1 : Int)))) >>= fun v99 => .ok ((first_98 + (1 : Int)) + v99)) >>= fun v100 => ofO (modO v100 (a_nodes.length : Int))) >>= fun second_101 => (ofO (atI a_nodes first_98)) >>= fun v102 => (ofO (atI a_nodes second_101)) >>= fun v103 => .ok (v102, v103)
def l_loads_b1 (a_numbers_here : (List Int)) (a_at_ : Int) (a_names_here : (List Str)) (a_nodes : (List Str)) (s96 : (List (Str × Str × Str))) (k97 : Int) : Mx (List (Str × Str × Str)) :=
  (((((ofO (mulO (2 : Int) k97)) >>= fun v104 => .ok (a_at_ + v104)) >>= fun v105 => ofO (atI a_numbers_here v105)) >>= fun v109 => ((((ofO (mulO (2 : Int) k97)) >>= fun v106 => .ok ((a_at_ + (1 : Int)) + v106)) >>= fun v107 => ofO (atI a_numbers_here v107)) >>= fun v108 => .ok (v108, a_nodes, ())) >>= fun v110 => .ok (v109, v110)) >>= fun v111 => l_two v111.1 v111.2.1 v111.2.2.1) >>= fun ends_112 => ((ofO (atI a_names_here k97)) >>= fun v113 => .ok (v113, (ends_112.1, ends_112.2))) >>= fun v115 => ofO (appO s96 v115) >>= fun loads_here_114 => .ok loads_here_114
def l_loads (a_numbers_here : (List Int)) (a_at_ : Int) (a_names_here : (List Str)) (a_nodes : (List Str)) : Mx (List (Str × Str × Str)) :=
  (.ok ([] : List (Str × Str × Str))) >>= fun loads_here_95 => ((ofO (ranO 0 (a_names_here.length : Int))) >>= fun v117 => loopS v117 loads_here_95 (l_loads_b1 a_numbers_here a_at_ a_names_here a_nodes)) >>= fun s116 => .ok s116
def l_contact (a_numbers_here : (List Int)) (a_at_ : Int) (a_nodes : (List Str)) (a_movers : (List Str)) : Mx (Str × Str × (Option Str) × Str × Str) :=
  (((ofO (atI a_numbers_here a_at_)) >>= fun v137 => ((ofO (atI a_numbers_here (a_at_ + (1 : Int)))) >>= fun v136 => .ok (v136, a_nodes, ())) >>= fun v138 => .ok (v137, v138)) >>= fun v139 => l_two v139.1 v139.2.1 v139.2.2.1) >>= fun ends_140 => (((ofO (atI a_numbers_here (a_at_ + (4 : Int)))) >>= fun v141 => ofO (modO v141 (2 : Int))) >>= fun v142 => ofO (atI (("both" : Str) :: (("forward" : Str) :: ([] : List Str))) v142)) >>= fun way_143 => ((ofO (atI a_numbers_here (a_at_ + (2 : Int)))) >>= fun v144 => ofO (modO v144 ((a_movers.length : Int) + (1 : Int)))) >>= fun choice_145 => if (decide (choice_145 = (a_movers.length : Int))) then .ok (ends_140.1, (ends_140.2, (none, (("make" : Str), way_143)))) else ((((ofO (atI a_movers choice_145)) >>= fun v146 => .ok (some v146)) >>= fun v150 => ((((ofO (atI a_numbers_here (a_at_ + (3 : Int)))) >>= fun v147 => ofO (modO v147 (2 : Int))) >>= fun v148 => ofO (atI (("make" : Str) :: (("break" : Str) :: ([] : List Str))) v148)) >>= fun v149 => .ok (v149, way_143)) >>= fun v151 => .ok (v150, v151)) >>= fun v152 => .ok (ends_140.2, v152)) >>= fun v153 => .ok (ends_140.1, v153)
def l_parts_b1 (a_numbers_here : (List Int)) (nodes_83 : (List Str)) (movers_94 : (List Str)) (s134 : (List (Str × Str × (Option Str) × Str × Str))) (k135 : Int) : Mx (List (Str × Str × (Option Str) × Str × Str)) :=
  (((((ofO (mulO (5 : Int) k135)) >>= fun v154 => .ok ((52 : Int) + v154)) >>= fun v155 => .ok (v155, nodes_83, movers_94, ())) >>= fun v156 => .ok (a_numbers_here, v156)) >>= fun v157 => l_contact v157.1 v157.2.1 v157.2.2.1 v157.2.2.2.1) >>= fun v159 => ofO (appO s134 v159) >>= fun contacts_158 => .ok contacts_158
def l_parts (a_numbers_here : (List Int)) : Mx ((List Str) × (List Str) × (List (Str × Str × Str)) × (List (Str × Str × Str)) × (List (Str × Str × (Option Str) × Str × Str))) :=
  (((((((ofO (atI a_numbers_here (5 : Int))) >>= fun v77 => .ok (v77, (2 : Int), (16 : Int), ())) >>= fun v78 => l_count v78.1 v78.2.1 v78.2.2.1) >>= fun v79 => .ok (v79, ())) >>= fun v80 => .ok ((0 : Int), v80)) >>= fun v81 => .ok (a_numbers_here, v81)) >>= fun v82 => l_names v82.1 v82.2.1 v82.2.2.1) >>= fun nodes_83 => (((ofO (atI a_numbers_here (11 : Int))) >>= fun v84 => .ok (v84, (0 : Int), (6 : Int), ())) >>= fun v85 => l_count v85.1 v85.2.1 v85.2.2.1) >>= fun switches_86 => ((((((((ofO (atI a_numbers_here (12 : Int))) >>= fun v87 => .ok (v87, (0 : Int), (8 : Int), ())) >>= fun v88 => l_count v88.1 v88.2.1 v88.2.2.1) >>= fun v89 => .ok (switches_86 + v89)) >>= fun v90 => .ok (v90, ())) >>= fun v91 => .ok ((6 : Int), v91)) >>= fun v92 => .ok (a_numbers_here, v92)) >>= fun v93 => l_names v93.1 v93.2.1 v93.2.2.1) >>= fun movers_94 => (l_loads a_numbers_here (20 : Int) (cut movers_94 (some switches_86) none) nodes_83) >>= fun relays_118 => (((((((((((ofO (atI a_numbers_here (18 : Int))) >>= fun v119 => .ok (v119, (1 : Int), (8 : Int), ())) >>= fun v120 => l_count v120.1 v120.2.1 v120.2.2.1) >>= fun v121 => .ok (v121, ())) >>= fun v122 => .ok ((13 : Int), v122)) >>= fun v123 => .ok (a_numbers_here, v123)) >>= fun v124 => l_names v124.1 v124.2.1 v124.2.2.1) >>= fun v125 => .ok (v125, nodes_83, ())) >>= fun v126 => .ok ((36 : Int), v126)) >>= fun v127 => .ok (a_numbers_here, v127)) >>= fun v128 => l_loads v128.1 v128.2.1 v128.2.2.1 v128.2.2.2.1) >>= fun lamps_129 => ((.ok ([] : List (Str × Str × (Option Str) × Str × Str))) >>= fun contacts_130 => (((((ofO (atI a_numbers_here (19 : Int))) >>= fun v131 => .ok (v131, (0 : Int), (40 : Int), ())) >>= fun v132 => l_count v132.1 v132.2.1 v132.2.2.1) >>= fun v133 => ofO (ranO 0 v133)) >>= fun v161 => loopS v161 contacts_130 (l_parts_b1 a_numbers_here nodes_83 movers_94)) >>= fun s160 => .ok (nodes_83, ((cut movers_94 none (some switches_86)), (relays_118, (lamps_129, s160)))))
def g_Board_is_name (a_text : Str) : Mx Bool :=
  (((ofO (lenS a_text)) >>= fun v166 => if (decide ((1 : Int) ≤ v166)) then .ok (decide (v166 ≤ (12 : Int))) else .ok false) >>= fun v167 => .ok (!v167)) >>= fun v170 => if v170 then .ok false else (compO (signs a_text) (compF (fun char168 => .ok true) (fun char168 => ofO (inSO char168 ("abcdefghijklmnopqrstuvwxyz0123456789" : Str))))) >>= fun v169 => .ok (v169.all id)
def g_are_names_b1 (a_names_ : (List Str)) (s164 : Unit) (p165 : (Int × Str)) : Mx (Lp Unit Bool) :=
  (((g_Board_is_name p165.2) >>= fun v171 => .ok (!v171)) >>= fun v172 => if v172 then .ok true else .ok (decide (p165.2 ∈ (cut a_names_ none (some p165.1))))) >>= fun v174 => if v174 then .ok (Lp.out false) else .ok (Lp.go ())
def g_are_names (a_names_ : (List Str)) (a_least : Int) (a_most : Int) : Mx Bool :=
  ((if (decide (a_least ≤ (a_names_.length : Int))) then .ok (decide ((a_names_.length : Int) ≤ a_most)) else .ok false) >>= fun v163 => .ok (!v163)) >>= fun v177 => if v177 then .ok false else (loopF (enumL a_names_) () (g_are_names_b1 a_names_)) >>= fwk (fun s175 => .ok true) (fun y176 => y176)
def g_is_between (a_one : Str) (a_other : Str) (a_nodes : (List Str)) : Mx Bool :=
  if (decide (a_one ∈ a_nodes)) then if (decide (a_other ∈ a_nodes)) then .ok (!decide (a_one = a_other)) else .ok false else .ok false
def g_are_loads_b1 (a_nodes : (List Str)) (s189 : Unit) (p190 : (Str × Str × Str)) : Mx (Lp Unit Bool) :=
  ((g_is_between p190.2.1 p190.2.2 a_nodes) >>= fun v191 => .ok (!v191)) >>= fun v193 => if v193 then .ok (Lp.out false) else .ok (Lp.go ())
def g_are_loads (a_loads : (List (Str × Str × Str))) (a_nodes : (List Str)) : Mx Bool :=
  (loopF a_loads () (g_are_loads_b1 a_nodes)) >>= fwk (fun s194 => .ok true) (fun y195 => y195)
def g_is_contact (a_contact : (Str × Str × (Option Str) × Str × Str)) (a_nodes : (List Str)) (a_movers : (List Str)) : Mx Bool :=
  (.ok a_contact) >>= fun p201 => (((g_is_between p201.1 p201.2.1 a_nodes) >>= fun v202 => .ok (!v202)) >>= fun v203 => if v203 then .ok true else if (!decide (p201.2.2.2.1 ∈ [("make" : Str), ("break" : Str)])) then .ok true else .ok (!decide (p201.2.2.2.2 ∈ [("both" : Str), ("forward" : Str)]))) >>= fun v205 => if v205 then .ok false else if p201.2.2.1.isNone then .ok (decide (p201.2.2.2.1 = ("make" : Str))) else (getO p201.2.2.1) >>= fun v204 => .ok (decide (v204 ∈ a_movers))
def g_Board_init_b1 (a_nodes : (List Str)) (movers_182 : (List Str)) (s199 : Unit) (contact200 : (Str × Str × (Option Str) × Str × Str)) : Mx Unit :=
  ((g_is_contact contact200 a_nodes movers_182) >>= fun v206 => .ok (!v206)) >>= fun v207 => if v207 then .ex ⟨"InvalidBoard", "", .n⟩ else .ok ()
def g_Board_init (a_nodes : (List Str)) (a_lamps : (List (Str × Str × Str))) (a_switches : (List Str)) (a_relays : (List (Str × Str × Str))) (a_contacts : (List (Str × Str × (Option Str) × Str × Str))) : Mx D_Board :=
  (((g_are_names a_nodes (2 : Int) (16 : Int)) >>= fun v178 => .ok (!v178)) >>= fun v179 => if v179 then .ok true else .ok (decide ((6 : Int) < (a_switches.length : Int)))) >>= fun v220 => if v220 then .ex ⟨"InvalidBoard", "", .n⟩ else ((compO a_relays (compF (fun relay180 => .ok true) (fun relay180 => .ok relay180.1))) >>= fun v181 => ofO (catL a_switches v181)) >>= fun movers_182 => (((g_are_names movers_182 (0 : Int) ((6 : Int) + (8 : Int))) >>= fun v183 => .ok (!v183)) >>= fun v184 => if v184 then .ok true else .ok (decide ((8 : Int) < (a_relays.length : Int)))) >>= fun v219 => if v219 then .ex ⟨"InvalidBoard", "", .n⟩ else ((((compO a_lamps (compF (fun lamp185 => .ok true) (fun lamp185 => .ok lamp185.1))) >>= fun v186 => .ok (v186, (1 : Int), (8 : Int), ())) >>= fun v187 => g_are_names v187.1 v187.2.1 v187.2.2.1) >>= fun v188 => .ok (!v188)) >>= fun v218 => if v218 then .ex ⟨"InvalidBoard", "", .n⟩ else (((g_are_loads a_relays a_nodes) >>= fun v196 => .ok (!v196)) >>= fun v198 => if v198 then .ok true else (g_are_loads a_lamps a_nodes) >>= fun v197 => .ok (!v197)) >>= fun v217 => if v217 then .ex ⟨"InvalidBoard", "", .n⟩ else if (decide ((40 : Int) < (a_contacts.length : Int))) then .ex ⟨"InvalidBoard", "", .n⟩ else (loopS a_contacts () (g_Board_init_b1 a_nodes movers_182)) >>= fun s208 => (.ok a_nodes) >>= fun nodes_209 => (.ok a_switches) >>= fun switches_210 => (compO a_relays (compF (fun relay211 => .ok true) (fun relay211 => .ok relay211))) >>= fun relays_212 => (compO a_lamps (compF (fun lamp213 => .ok true) (fun lamp213 => .ok lamp213))) >>= fun lamps_214 => (compO a_contacts (compF (fun contact215 => .ok true) (fun contact215 => .ok contact215))) >>= fun contacts_216 => .ok (nodes_209, switches_210, relays_212, lamps_214, contacts_216, ())
def l_made (a_parts_here : ((List Str) × (List Str) × (List (Str × Str × Str)) × (List (Str × Str × Str)) × (List (Str × Str × (Option Str) × Str × Str)))) : Mx D_Board :=
  g_Board_init a_parts_here.1 a_parts_here.2.2.2.1 a_parts_here.2.1 a_parts_here.2.2.1 a_parts_here.2.2.2.2
def l_lines_b1 (s223 : (List Str)) (node224 : Str) : Mx (List Str) :=
  (((ofO (atI s223 (0 : Int))) >>= fun v225 => ofO (catO v225 (" " : Str))) >>= fun v226 => ofO (catO v226 node224)) >>= fun v228 => ofO (setO s223 (0 : Int) v228) >>= fun lines_here_227 => .ok lines_here_227
def l_lines_b2 (s230 : (List Str)) (switch231 : Str) : Mx (List Str) :=
  (((ofO (atI s230 (1 : Int))) >>= fun v232 => ofO (catO v232 (" " : Str))) >>= fun v233 => ofO (catO v233 switch231)) >>= fun v235 => ofO (setO s230 (1 : Int) v235) >>= fun lines_here_234 => .ok lines_here_234
def l_lines_b3 (s237 : (List Str)) (relay238 : (Str × Str × Str)) : Mx (List Str) :=
  (((((ofO (catO ("relay " : Str) relay238.1)) >>= fun v239 => ofO (catO v239 (" " : Str))) >>= fun v240 => ofO (catO v240 relay238.2.1)) >>= fun v241 => ofO (catO v241 (" " : Str))) >>= fun v242 => ofO (catO v242 relay238.2.2)) >>= fun v244 => ofO (appO s237 v244) >>= fun lines_here_243 => .ok lines_here_243
def l_lines_b4 (s246 : (List Str)) (lamp247 : (Str × Str × Str)) : Mx (List Str) :=
  (((((ofO (catO ("lamp " : Str) lamp247.1)) >>= fun v248 => ofO (catO v248 (" " : Str))) >>= fun v249 => ofO (catO v249 lamp247.2.1)) >>= fun v250 => ofO (catO v250 (" " : Str))) >>= fun v251 => ofO (catO v251 lamp247.2.2)) >>= fun v253 => ofO (appO s246 v253) >>= fun lines_here_252 => .ok lines_here_252
def l_lines_b5 (s255 : (List Str)) (contact_here256 : (Str × Str × (Option Str) × Str × Str)) : Mx (List Str) :=
  (.ok contact_here256.2.2.1) >>= fun mover_257 => (if mover_257.isNone then (.ok (some ("-" : Str))) >>= fun mover_258 => .ok mover_258 else .ok mover_257 : Mx (Option Str)) >>= fun s259 => (((((((((ofO (catO ("contact " : Str) contact_here256.1)) >>= fun v260 => ofO (catO v260 (" " : Str))) >>= fun v261 => ofO (catO v261 contact_here256.2.1)) >>= fun v262 => ofO (catO v262 (" " : Str))) >>= fun v263 => (getO s259) >>= fun v264 => ofO (catO v263 v264)) >>= fun v265 => ofO (catO v265 (" " : Str))) >>= fun v266 => ofO (catO v266 contact_here256.2.2.2.1)) >>= fun v267 => ofO (catO v267 (" " : Str))) >>= fun v268 => ofO (catO v268 contact_here256.2.2.2.2)) >>= fun v270 => ofO (appO s255 v270) >>= fun lines_here_269 => .ok lines_here_269
def l_lines (a_parts_here : ((List Str) × (List Str) × (List (Str × Str × Str)) × (List (Str × Str × Str)) × (List (Str × Str × (Option Str) × Str × Str)))) : Mx (List Str) :=
  (.ok (("nodes" : Str) :: (("switches" : Str) :: ([] : List Str)))) >>= fun lines_here_222 => (loopS a_parts_here.1 lines_here_222 l_lines_b1) >>= fun s229 => (loopS a_parts_here.2.1 s229 l_lines_b2) >>= fun s236 => (loopS a_parts_here.2.2.1 s236 l_lines_b3) >>= fun s245 => (loopS a_parts_here.2.2.2.1 s245 l_lines_b4) >>= fun s254 => ((loopS a_parts_here.2.2.2.2 s254 l_lines_b5) >>= fun s271 => .ok s271)
def g_format_board_b1 (s280 : (List Str)) (p281 : (Str × Str × Str)) : Mx (List Str) :=
  (ofO (catO Str.empty ("relay " : Str)) >>= fun f282 => ofO (catO f282 p281.1) >>= fun f283 => ofO (catO f283 (" " : Str)) >>= fun f284 => ofO (catO f284 p281.2.1) >>= fun f285 => ofO (catO f285 (" " : Str)) >>= fun f286 => ofO (catO f286 p281.2.2) >>= fun f287 => .ok f287) >>= fun v289 => ofO (appO s280 v289) >>= fun lines_288 => .ok lines_288
def g_format_board_b2 (s291 : (List Str)) (p292 : (Str × Str × Str)) : Mx (List Str) :=
  (ofO (catO Str.empty ("lamp " : Str)) >>= fun f293 => ofO (catO f293 p292.1) >>= fun f294 => ofO (catO f294 (" " : Str)) >>= fun f295 => ofO (catO f295 p292.2.1) >>= fun f296 => ofO (catO f296 (" " : Str)) >>= fun f297 => ofO (catO f297 p292.2.2) >>= fun f298 => .ok f298) >>= fun v300 => ofO (appO s291 v300) >>= fun lines_299 => .ok lines_299
def g_format_board_b3 (s302 : (List Str)) (p303 : (Str × Str × (Option Str) × Str × Str)) : Mx (List Str) :=
  (.ok p303.2.2.1) >>= fun word_304 => (if p303.2.2.1.isNone then (.ok (some ("-" : Str))) >>= fun word_305 => .ok word_305 else .ok word_304 : Mx (Option Str)) >>= fun s306 => (ofO (catO Str.empty ("contact " : Str)) >>= fun f307 => ofO (catO f307 p303.1) >>= fun f308 => ofO (catO f308 (" " : Str)) >>= fun f309 => ofO (catO f309 p303.2.1) >>= fun f310 => ofO (catO f310 (" " : Str)) >>= fun f311 => (getO s306) >>= fun v317 => ofO (catO f311 v317) >>= fun f312 => ofO (catO f312 (" " : Str)) >>= fun f313 => ofO (catO f313 p303.2.2.2.1) >>= fun f314 => ofO (catO f314 (" " : Str)) >>= fun f315 => ofO (catO f315 p303.2.2.2.2) >>= fun f316 => .ok f316) >>= fun v319 => ofO (appO s302 v319) >>= fun lines_318 => .ok lines_318
def g_format_board (a_board : D_Board) : Mx Str :=
  (((ofO (fitL (("nodes" : Str) :: a_board.1))) >>= fun v274 => ofO (joinO (" " : Str) v274)) >>= fun v277 => (((ofO (fitL (("switches" : Str) :: a_board.2.1))) >>= fun v275 => ofO (joinO (" " : Str) v275)) >>= fun v276 => .ok (v276 :: ([] : List Str))) >>= fun v278 => .ok (v277 :: v278)) >>= fun lines_279 => (loopS a_board.2.2.1 lines_279 g_format_board_b1) >>= fun s290 => (loopS a_board.2.2.2.1 s290 g_format_board_b2) >>= fun s301 => (loopS a_board.2.2.2.2.1 s301 g_format_board_b3) >>= fun s320 => ofO (joinO ("\n" : Str) s320)
def g_are_names_2_b1 (a_names_ : (List Str)) (s330 : Unit) (p331 : (Int × Str)) : Mx (Lp Unit Bool) :=
  (((g_Board_is_name p331.2) >>= fun v332 => .ok (!v332)) >>= fun v333 => if v333 then .ok true else .ok (decide (p331.2 ∈ (cut a_names_ none (some p331.1))))) >>= fun v335 => if v335 then .ok (Lp.out false) else .ok (Lp.go ())
def g_are_names_2 (a_names_ : (List Str)) (a_least : Int) (a_most : Int) : Mx Bool :=
  ((if (decide (a_least ≤ (a_names_.length : Int))) then .ok (decide ((a_names_.length : Int) ≤ a_most)) else .ok false) >>= fun v329 => .ok (!v329)) >>= fun v338 => if v338 then .ok false else (loopF (enumL a_names_) () (g_are_names_2_b1 a_names_)) >>= fwk (fun s336 => .ok true) (fun y337 => y337)
def g_is_between_2 (a_one : Str) (a_other : Str) (a_nodes : (List Str)) : Mx Bool :=
  if (decide (a_one ∈ a_nodes)) then if (decide (a_other ∈ a_nodes)) then .ok (!decide (a_one = a_other)) else .ok false else .ok false
def g_are_loads_2_b1 (a_nodes : (List Str)) (s350 : Unit) (p351 : (Str × Str × Str)) : Mx (Lp Unit Bool) :=
  ((g_is_between_2 p351.2.1 p351.2.2 a_nodes) >>= fun v352 => .ok (!v352)) >>= fun v354 => if v354 then .ok (Lp.out false) else .ok (Lp.go ())
def g_are_loads_2 (a_loads : (List (Str × Str × Str))) (a_nodes : (List Str)) : Mx Bool :=
  (loopF a_loads () (g_are_loads_2_b1 a_nodes)) >>= fwk (fun s355 => .ok true) (fun y356 => y356)
def g_is_contact_2 (a_contact : (Str × Str × (Option Str) × Str × Str)) (a_nodes : (List Str)) (a_movers : (List Str)) : Mx Bool :=
  (.ok a_contact) >>= fun p362 => (((g_is_between_2 p362.1 p362.2.1 a_nodes) >>= fun v363 => .ok (!v363)) >>= fun v364 => if v364 then .ok true else if (!decide (p362.2.2.2.1 ∈ [("make" : Str), ("break" : Str)])) then .ok true else .ok (!decide (p362.2.2.2.2 ∈ [("both" : Str), ("forward" : Str)]))) >>= fun v366 => if v366 then .ok false else if p362.2.2.1.isNone then .ok (decide (p362.2.2.2.1 = ("make" : Str))) else (getO p362.2.2.1) >>= fun v365 => .ok (decide (v365 ∈ a_movers))
def g_Board_init_2_b1 (a_nodes : (List Str)) (movers_343 : (List Str)) (s360 : Unit) (contact361 : (Str × Str × (Option Str) × Str × Str)) : Mx Unit :=
  ((g_is_contact_2 contact361 a_nodes movers_343) >>= fun v367 => .ok (!v367)) >>= fun v368 => if v368 then .ex ⟨"InvalidBoard", "", .n⟩ else .ok ()
def g_Board_init_2 (a_nodes : (List Str)) (a_lamps : (List (Str × Str × Str))) (a_switches : (List Str)) (a_relays : (List (Str × Str × Str))) (a_contacts : (List (Str × Str × (Option Str) × Str × Str))) : Mx D_Board :=
  (((g_are_names_2 a_nodes (2 : Int) (16 : Int)) >>= fun v339 => .ok (!v339)) >>= fun v340 => if v340 then .ok true else .ok (decide ((6 : Int) < (a_switches.length : Int)))) >>= fun v381 => if v381 then .ex ⟨"InvalidBoard", "", .n⟩ else ((compO a_relays (compF (fun relay341 => .ok true) (fun relay341 => .ok relay341.1))) >>= fun v342 => ofO (catL a_switches v342)) >>= fun movers_343 => (((g_are_names movers_343 (0 : Int) ((6 : Int) + (8 : Int))) >>= fun v344 => .ok (!v344)) >>= fun v345 => if v345 then .ok true else .ok (decide ((8 : Int) < (a_relays.length : Int)))) >>= fun v380 => if v380 then .ex ⟨"InvalidBoard", "", .n⟩ else ((((compO a_lamps (compF (fun lamp346 => .ok true) (fun lamp346 => .ok lamp346.1))) >>= fun v347 => .ok (v347, (1 : Int), (8 : Int), ())) >>= fun v348 => g_are_names v348.1 v348.2.1 v348.2.2.1) >>= fun v349 => .ok (!v349)) >>= fun v379 => if v379 then .ex ⟨"InvalidBoard", "", .n⟩ else (((g_are_loads_2 a_relays a_nodes) >>= fun v357 => .ok (!v357)) >>= fun v359 => if v359 then .ok true else (g_are_loads_2 a_lamps a_nodes) >>= fun v358 => .ok (!v358)) >>= fun v378 => if v378 then .ex ⟨"InvalidBoard", "", .n⟩ else if (decide ((40 : Int) < (a_contacts.length : Int))) then .ex ⟨"InvalidBoard", "", .n⟩ else (loopS a_contacts () (g_Board_init_2_b1 a_nodes movers_343)) >>= fun s369 => (.ok a_nodes) >>= fun nodes_370 => (.ok a_switches) >>= fun switches_371 => (compO a_relays (compF (fun relay372 => .ok true) (fun relay372 => .ok relay372))) >>= fun relays_373 => (compO a_lamps (compF (fun lamp374 => .ok true) (fun lamp374 => .ok lamp374))) >>= fun lamps_375 => (compO a_contacts (compF (fun contact376 => .ok true) (fun contact376 => .ok contact376))) >>= fun contacts_377 => .ok (nodes_370, switches_371, relays_373, lamps_375, contacts_377, ())
def g_Board_with_contacts (a_self : D_Board) (a_contacts : (List (Str × Str × (Option Str) × Str × Str))) : Mx D_Board :=
  g_Board_init_2 a_self.1 a_self.2.2.2.1 a_self.2.1 a_self.2.2.1 a_contacts
def g_Board_other_contacts (a_self : D_Board) (a_number : Int) : Mx (List (Str × Str × (Option Str) × Str × Str)) :=
  ((if (decide ((0 : Int) ≤ a_number)) then .ok (decide (a_number < (a_self.2.2.2.2.1.length : Int))) else .ok false) >>= fun v382 => .ok (!v382)) >>= fun v384 => if v384 then .ex ⟨"UnknownNumber", "number", .i a_number⟩ else compO (enumL a_self.2.2.2.2.1) (compF (fun p383 => .ok (!decide (p383.1 = a_number))) (fun p383 => .ok p383.2))
def g_Board_without_contact (a_self : D_Board) (a_number : Int) : Mx D_Board :=
  ((g_Board_other_contacts a_self a_number) >>= fun v385 => .ok (v385, ())) >>= fun v386 => g_Board_with_contacts a_self v386.1
def l_same_b1 (s396 : Unit) (field397 : Unit) : Mx (Lp Unit Bool) :=
  if (!true) then .ok (Lp.out false) else .ok (Lp.go ())
def l_same (a_board : D_Board) (a_parts_here : ((List Str) × (List Str) × (List (Str × Str × Str)) × (List (Str × Str × Str)) × (List (Str × Str × (Option Str) × Str × Str)))) : Mx Bool :=
  (loopF (() :: (() :: (() :: (() :: (() :: ([] : List Unit)))))) () l_same_b1) >>= fwk (fun s399 => (if (!decide (a_board.1 = a_parts_here.1)) then .ok true else if (!decide (a_board.2.1 = a_parts_here.2.1)) then .ok true else .ok (!decide (a_board.2.2.1 = a_parts_here.2.2.1))) >>= fun v400 => if v400 then .ok false else if (decide (a_board.2.2.2.1 = a_parts_here.2.2.2.1)) then .ok (decide (a_board.2.2.2.2.1 = a_parts_here.2.2.2.2)) else .ok false) (fun y401 => y401)
def l_law (a_script : (List Int)) : Mx Bool :=
  (l_numbers a_script (254 : Int)) >>= fun numbers_here_37 => (l_parts numbers_here_37) >>= fun parts_here_162 => (l_made parts_here_162) >>= fun board_221 => ((l_lines parts_here_162) >>= fun v272 => ofO (joinO ("\n" : Str) v272)) >>= fun due_273 => (g_format_board board_221) >>= fun actual_321 => (if (!true) then .ok true else .ok (!decide (actual_321 = due_273))) >>= fun v404 => if v404 then .ok false else (if (decide ((0 : Int) < (parts_here_162.2.2.2.2.length : Int))) then ((ofO (atI numbers_here_37 (253 : Int))) >>= fun v322 => ofO (modO v322 (parts_here_162.2.2.2.2.length : Int))) >>= fun at__323 => (((((ofO (catL (cut parts_here_162.2.2.2.2 none (some at__323)) (cut parts_here_162.2.2.2.2 (some (at__323 + (1 : Int))) none))) >>= fun v324 => .ok (parts_here_162.2.2.2.1, v324)) >>= fun v325 => .ok (parts_here_162.2.2.1, v325)) >>= fun v326 => .ok (parts_here_162.2.1, v326)) >>= fun v327 => .ok (parts_here_162.1, v327)) >>= fun fewer_328 => ((((g_Board_without_contact board_221 at__323) >>= fun v387 => .ok (v387, ())) >>= fun v388 => g_format_board v388.1) >>= fun v390 => ((l_lines fewer_328) >>= fun v389 => ofO (joinO ("\n" : Str) v389)) >>= fun v391 => .ok (!decide (v390 = v391))) >>= fun v393 => if v393 then .ok (Fw.out false) else .ok (Fw.go ()) else .ok (Fw.go ()) : Mx (Fw Unit Bool)) >>= fwk (fun s394 => ((g_format_board board_221) >>= fun v395 => .ok (decide (v395 = due_273))) >>= fun v402 => if v402 then l_same board_221 parts_here_162 else .ok false) (fun y403 => y403)
end Lw
set_option Elab.async false
set_option synthInstance.maxHeartbeats 2000000
set_option synthInstance.maxSize 4000
set_option linter.all false
set_option maxRecDepth 100000
set_option maxHeartbeats 4000000
namespace Lw
open PySem PySem.Spec L2 Gm
structure Fs where
  l_rowD : FuncData
  l_numbersD : FuncData
  l_namesD : FuncData
  l_countD : FuncData
  l_twoD : FuncData
  l_loadsD : FuncData
  l_contactD : FuncData
  l_partsD : FuncData
  g_Board_is_nameD : FuncData
  g_are_namesD : FuncData
  g_is_betweenD : FuncData
  g_are_loadsD : FuncData
  g_is_contactD : FuncData
  g_Board_initD : FuncData
  l_madeD : FuncData
  l_linesD : FuncData
  g_format_boardD : FuncData
  g_Board_with_contactsD : FuncData
  g_Board_other_contactsD : FuncData
  g_Board_without_contactD : FuncData
  l_sameD : FuncData
  l_lawD : FuncData
abbrev N_l_row : List Str := ["_law_cell", "_law_many", "_law_row_here", "_law_rest", "_law_k", "_law_mixed"]
theorem sc_l_row : FnScope N_l_row ["_law_cell", "_law_many"] (defScope s_l_row) := ⟨rfl, rfl, rfl, by decide +kernel, rfl, by decide +kernel, by decide +kernel⟩
abbrev N_l_numbers : List Str := ["_law_script", "_law_many", "_law_cells", "_law_each", "_law_numbers_here", "_law_cell", "_law_number"]
theorem sc_l_numbers : FnScope N_l_numbers ["_law_script", "_law_many"] (defScope s_l_numbers) := ⟨rfl, rfl, rfl, by decide +kernel, rfl, by decide +kernel, by decide +kernel⟩
abbrev N_l_names : List Str := ["_law_numbers_here", "_law_at", "_law_many", "_law_chars", "_law_prefix", "_law_k", "_law_place", "_law_shift", "_law_names_here"]
theorem sc_l_names : FnScope N_l_names ["_law_numbers_here", "_law_at", "_law_many"] (defScope s_l_names) := ⟨rfl, rfl, rfl, by decide +kernel, rfl, by decide +kernel, by decide +kernel⟩
abbrev N_l_count : List Str := ["_law_number", "_law_least", "_law_most"]
theorem sc_l_count : FnScope N_l_count ["_law_number", "_law_least", "_law_most"] (defScope s_l_count) := ⟨rfl, rfl, rfl, by decide +kernel, rfl, by decide +kernel, by decide +kernel⟩
abbrev N_l_two : List Str := ["_law_one", "_law_other", "_law_nodes", "_law_first", "_law_second"]
theorem sc_l_two : FnScope N_l_two ["_law_one", "_law_other", "_law_nodes"] (defScope s_l_two) := ⟨rfl, rfl, rfl, by decide +kernel, rfl, by decide +kernel, by decide +kernel⟩
abbrev N_l_loads : List Str := ["_law_numbers_here", "_law_at", "_law_names_here", "_law_nodes", "_law_loads_here", "_law_k", "_law_ends"]
theorem sc_l_loads : FnScope N_l_loads ["_law_numbers_here", "_law_at", "_law_names_here", "_law_nodes"] (defScope s_l_loads) := ⟨rfl, rfl, rfl, by decide +kernel, rfl, by decide +kernel, by decide +kernel⟩
abbrev N_l_contact : List Str := ["_law_numbers_here", "_law_at", "_law_nodes", "_law_movers", "_law_ends", "_law_way", "_law_choice"]
theorem sc_l_contact : FnScope N_l_contact ["_law_numbers_here", "_law_at", "_law_nodes", "_law_movers"] (defScope s_l_contact) := ⟨rfl, rfl, rfl, by decide +kernel, rfl, by decide +kernel, by decide +kernel⟩
abbrev N_l_parts : List Str := ["_law_numbers_here", "_law_nodes", "_law_switches", "_law_movers", "_law_relays", "_law_lamps", "_law_contacts", "_law_k"]
theorem sc_l_parts : FnScope N_l_parts ["_law_numbers_here"] (defScope s_l_parts) := ⟨rfl, rfl, rfl, by decide +kernel, rfl, by decide +kernel, by decide +kernel⟩
abbrev N_g_Board_is_name : List Str := ["text", "char"]
theorem sc_g_Board_is_name : FnScope N_g_Board_is_name ["text"] (defScope s_g_Board_is_name) := ⟨rfl, rfl, rfl, by decide +kernel, rfl, by decide +kernel, by decide +kernel⟩
abbrev N_g_are_names : List Str := ["names", "least", "most", "number", "name"]
theorem sc_g_are_names : FnScope N_g_are_names ["names", "least", "most"] (defScope s_g_are_names) := ⟨rfl, rfl, rfl, by decide +kernel, rfl, by decide +kernel, by decide +kernel⟩
abbrev N_g_is_between : List Str := ["one", "other", "nodes"]
theorem sc_g_is_between : FnScope N_g_is_between ["one", "other", "nodes"] (defScope s_g_is_between) := ⟨rfl, rfl, rfl, by decide +kernel, rfl, by decide +kernel, by decide +kernel⟩
abbrev N_g_are_loads : List Str := ["loads", "nodes", "name", "one", "other"]
theorem sc_g_are_loads : FnScope N_g_are_loads ["loads", "nodes"] (defScope s_g_are_loads) := ⟨rfl, rfl, rfl, by decide +kernel, rfl, by decide +kernel, by decide +kernel⟩
abbrev N_g_is_contact : List Str := ["contact", "nodes", "movers", "one", "other", "mover", "when", "way"]
theorem sc_g_is_contact : FnScope N_g_is_contact ["contact", "nodes", "movers"] (defScope s_g_is_contact) := ⟨rfl, rfl, rfl, by decide +kernel, rfl, by decide +kernel, by decide +kernel⟩
abbrev N_g_Board_init : List Str := ["self", "nodes", "lamps", "switches", "relays", "contacts", "movers", "contact", "relay", "lamp"]
theorem sc_g_Board_init : FnScope N_g_Board_init ["self", "nodes", "lamps", "switches", "relays", "contacts"] (defScope s_g_Board_init) := ⟨rfl, rfl, rfl, by decide +kernel, rfl, by decide +kernel, by decide +kernel⟩
abbrev N_l_made : List Str := ["_law_parts_here"]
theorem sc_l_made : FnScope N_l_made ["_law_parts_here"] (defScope s_l_made) := ⟨rfl, rfl, rfl, by decide +kernel, rfl, by decide +kernel, by decide +kernel⟩
abbrev N_l_lines : List Str := ["_law_parts_here", "_law_lines_here", "_law_node", "_law_switch", "_law_relay", "_law_lamp", "_law_contact_here", "_law_mover"]
theorem sc_l_lines : FnScope N_l_lines ["_law_parts_here"] (defScope s_l_lines) := ⟨rfl, rfl, rfl, by decide +kernel, rfl, by decide +kernel, by decide +kernel⟩
abbrev N_g_format_board : List Str := ["board", "lines", "name", "one", "other", "mover", "when", "way", "word"]
theorem sc_g_format_board : FnScope N_g_format_board ["board"] (defScope s_g_format_board) := ⟨rfl, rfl, rfl, by decide +kernel, rfl, by decide +kernel, by decide +kernel⟩
abbrev N_g_Board_with_contacts : List Str := ["self", "contacts"]
theorem sc_g_Board_with_contacts : FnScope N_g_Board_with_contacts ["self", "contacts"] (defScope s_g_Board_with_contacts) := ⟨rfl, rfl, rfl, by decide +kernel, rfl, by decide +kernel, by decide +kernel⟩
abbrev N_g_Board_other_contacts : List Str := ["self", "number", "other", "contact"]
theorem sc_g_Board_other_contacts : FnScope N_g_Board_other_contacts ["self", "number"] (defScope s_g_Board_other_contacts) := ⟨rfl, rfl, rfl, by decide +kernel, rfl, by decide +kernel, by decide +kernel⟩
abbrev N_g_Board_without_contact : List Str := ["self", "number"]
theorem sc_g_Board_without_contact : FnScope N_g_Board_without_contact ["self", "number"] (defScope s_g_Board_without_contact) := ⟨rfl, rfl, rfl, by decide +kernel, rfl, by decide +kernel, by decide +kernel⟩
abbrev N_l_same : List Str := ["_law_board", "_law_parts_here", "_law_field"]
theorem sc_l_same : FnScope N_l_same ["_law_board", "_law_parts_here"] (defScope s_l_same) := ⟨rfl, rfl, rfl, by decide +kernel, rfl, by decide +kernel, by decide +kernel⟩
abbrev N_l_law : List Str := ["_law_script", "_law_numbers_here", "_law_parts_here", "_law_board", "_law_due", "_law_actual", "_law_at", "_law_fewer"]
theorem sc_l_law : FnScope N_l_law ["_law_script"] (defScope s_l_law) := ⟨rfl, rfl, rfl, by decide +kernel, rfl, by decide +kernel, by decide +kernel⟩
theorem supS_UnknownNumber : SupS "number" "number" (defArgs s_g_UnknownNumber_init) (defBody s_g_UnknownNumber_init) (defScope s_g_UnknownNumber_init) := ⟨⟨_, _, _, _, _, _, _, _, _, _, _, _, rfl, fun _ _ _ _ _ _ _ => ⟨_, rfl⟩⟩, ⟨_, rfl, rfl⟩, rfl, rfl, rfl, by decide +kernel, rfl, rfl, rfl, rfl, by decide +kernel, by decide +kernel, fun _ _ _ _ _ _ _ _ _ _ _ _ => .of_eq rfl⟩
structure Tx (P : Program) (K : PySem.W.Frag) (mg : Str → Option Value) (a : Fs) : Prop where
  l_row : FunD K "_law_row" "_law_row" (defArgs s_l_row) (defBody s_l_row) (defScope s_l_row) [] [] (He.ga K "_law_row") a.l_rowD
  l_row_b : Binds K a.l_rowD ["_law_cell", "_law_many"] []
  l_numbers : FunD K "_law_numbers" "_law_numbers" (defArgs s_l_numbers) (defBody s_l_numbers) (defScope s_l_numbers) [] [] (He.ga K "_law_numbers") a.l_numbersD
  l_numbers_b : Binds K a.l_numbersD ["_law_script", "_law_many"] []
  l_names : FunD K "_law_names" "_law_names" (defArgs s_l_names) (defBody s_l_names) (defScope s_l_names) [] [] (He.ga K "_law_names") a.l_namesD
  l_names_b : Binds K a.l_namesD ["_law_numbers_here", "_law_at", "_law_many"] []
  l_count : FunD K "_law_count" "_law_count" (defArgs s_l_count) (defBody s_l_count) (defScope s_l_count) [] [] (He.ga K "_law_count") a.l_countD
  l_count_b : Binds K a.l_countD ["_law_number", "_law_least", "_law_most"] []
  l_two : FunD K "_law_two" "_law_two" (defArgs s_l_two) (defBody s_l_two) (defScope s_l_two) [] [] (He.ga K "_law_two") a.l_twoD
  l_two_b : Binds K a.l_twoD ["_law_one", "_law_other", "_law_nodes"] []
  l_loads : FunD K "_law_loads" "_law_loads" (defArgs s_l_loads) (defBody s_l_loads) (defScope s_l_loads) [] [] (He.ga K "_law_loads") a.l_loadsD
  l_loads_b : Binds K a.l_loadsD ["_law_numbers_here", "_law_at", "_law_names_here", "_law_nodes"] []
  l_contact : FunD K "_law_contact" "_law_contact" (defArgs s_l_contact) (defBody s_l_contact) (defScope s_l_contact) [] [] (He.ga K "_law_contact") a.l_contactD
  l_contact_b : Binds K a.l_contactD ["_law_numbers_here", "_law_at", "_law_nodes", "_law_movers"] []
  l_parts : FunD K "_law_parts" "_law_parts" (defArgs s_l_parts) (defBody s_l_parts) (defScope s_l_parts) [] [] (He.ga K "_law_parts") a.l_partsD
  l_parts_b : Binds K a.l_partsD ["_law_numbers_here"] []
  g_Board_is_name : FunD K "is_name" "Board.is_name" (defArgs s_g_Board_is_name) (defBody s_g_Board_is_name) (defScope s_g_Board_is_name) [] [] (statAt K "Board" "is_name") a.g_Board_is_nameD
  g_Board_is_name_b : Binds K a.g_Board_is_nameD ["text"] []
  g_are_names : FunD K "are_names" "are_names" (defArgs s_g_are_names) (defBody s_g_are_names) (defScope s_g_are_names) [] [] (He.ga K "are_names") a.g_are_namesD
  g_are_names_b : Binds K a.g_are_namesD ["names", "least", "most"] []
  g_is_between : FunD K "is_between" "is_between" (defArgs s_g_is_between) (defBody s_g_is_between) (defScope s_g_is_between) [] [] (He.ga K "is_between") a.g_is_betweenD
  g_is_between_b : Binds K a.g_is_betweenD ["one", "other", "nodes"] []
  g_are_loads : FunD K "are_loads" "are_loads" (defArgs s_g_are_loads) (defBody s_g_are_loads) (defScope s_g_are_loads) [] [] (He.ga K "are_loads") a.g_are_loadsD
  g_are_loads_b : Binds K a.g_are_loadsD ["loads", "nodes"] []
  g_is_contact : FunD K "is_contact" "is_contact" (defArgs s_g_is_contact) (defBody s_g_is_contact) (defScope s_g_is_contact) [] [] (He.ga K "is_contact") a.g_is_contactD
  g_is_contact_b : Binds K a.g_is_contactD ["contact", "nodes", "movers"] []
  g_Board_init : FunD K "__init__" "Board.__init__" (defArgs s_g_Board_init) (defBody s_g_Board_init) (defScope s_g_Board_init) [] [("switches", .ref (kwAt K (methAt K "Board" "__init__") "switches")), ("relays", .ref (kwAt K (methAt K "Board" "__init__") "relays")), ("contacts", .ref (kwAt K (methAt K "Board" "__init__") "contacts"))] (methAt K "Board" "__init__") a.g_Board_initD
  l_made : FunD K "_law_made" "_law_made" (defArgs s_l_made) (defBody s_l_made) (defScope s_l_made) [] [] (He.ga K "_law_made") a.l_madeD
  l_made_b : Binds K a.l_madeD ["_law_parts_here"] []
  l_lines : FunD K "_law_lines" "_law_lines" (defArgs s_l_lines) (defBody s_l_lines) (defScope s_l_lines) [] [] (He.ga K "_law_lines") a.l_linesD
  l_lines_b : Binds K a.l_linesD ["_law_parts_here"] []
  g_format_board : FunD K "format_board" "format_board" (defArgs s_g_format_board) (defBody s_g_format_board) (defScope s_g_format_board) [] [] (He.ga K "format_board") a.g_format_boardD
  g_format_board_b : Binds K a.g_format_boardD ["board"] []
  g_Board_with_contacts : FunD K "with_contacts" "Board.with_contacts" (defArgs s_g_Board_with_contacts) (defBody s_g_Board_with_contacts) (defScope s_g_Board_with_contacts) [] [] (methAt K "Board" "with_contacts") a.g_Board_with_contactsD
  g_Board_with_contacts_b : Binds K a.g_Board_with_contactsD ["self", "contacts"] []
  g_Board_other_contacts : FunD K "other_contacts" "Board.other_contacts" (defArgs s_g_Board_other_contacts) (defBody s_g_Board_other_contacts) (defScope s_g_Board_other_contacts) [] [] (methAt K "Board" "other_contacts") a.g_Board_other_contactsD
  g_Board_other_contacts_b : Binds K a.g_Board_other_contactsD ["self", "number"] []
  g_Board_without_contact : FunD K "without_contact" "Board.without_contact" (defArgs s_g_Board_without_contact) (defBody s_g_Board_without_contact) (defScope s_g_Board_without_contact) [] [] (methAt K "Board" "without_contact") a.g_Board_without_contactD
  g_Board_without_contact_b : Binds K a.g_Board_without_contactD ["self", "number"] []
  l_same : FunD K "_law_same" "_law_same" (defArgs s_l_same) (defBody s_l_same) (defScope s_l_same) [] [] (He.ga K "_law_same") a.l_sameD
  l_same_b : Binds K a.l_sameD ["_law_board", "_law_parts_here"] []
  l_law : FunD K "law" "law" (defArgs s_l_law) (defBody s_l_law) (defScope s_l_law) [] [] (He.ga K "law") a.l_lawD
  l_law_b : Binds K a.l_lawD ["_law_script"] []
  b_abs : mg "abs" = none
  b_all : mg "all" = none
  b_enumerate : mg "enumerate" = none
  b_int : mg "int" = none
  b_isinstance : mg "isinstance" = none
  b_len : mg "len" = none
  b_list : mg "list" = none
  b_max : mg "max" = none
  b_min : mg "min" = none
  b_range : mg "range" = none
  b_str : mg "str" = none
  b_super : mg "super" = none
  b_tuple : mg "tuple" = none
  glo__law_row : mg "_law_row" = some (.ref (He.ga K "_law_row"))
  glo__law_numbers : mg "_law_numbers" = some (.ref (He.ga K "_law_numbers"))
  glo__law_count : mg "_law_count" = some (.ref (He.ga K "_law_count"))
  glo__law_names : mg "_law_names" = some (.ref (He.ga K "_law_names"))
  glo__law_two : mg "_law_two" = some (.ref (He.ga K "_law_two"))
  glo__law_loads : mg "_law_loads" = some (.ref (He.ga K "_law_loads"))
  glo__law_contact : mg "_law_contact" = some (.ref (He.ga K "_law_contact"))
  glo__law_parts : mg "_law_parts" = some (.ref (He.ga K "_law_parts"))
  glo_Board : mg "Board" = some (.ref (He.ga K "Board"))
  c_Board : Cls K (He.ga K "Board")
  i_MOST_NAME_CHARS : ∃ t, mg "MOST_NAME_CHARS" = some (.int (12) t)
  s_NAME_CHARS : ∃ t, mg "NAME_CHARS" = some (.str ("abcdefghijklmnopqrstuvwxyz0123456789" : Str) t)
  rd_Board : ClX.CRead K (He.ga K "Board") (.type "type")
  st_Board_is_name : SMet K (He.ga K "Board") (.type "type") "is_name" (methAt K "Board" "is_name") (statAt K "Board" "is_name")
  cv_Board_MOST_NODES : ∃ u, ClX.CVal K (He.ga K "Board") (.type "type") "MOST_NODES" (.int 16) u
  glo_are_names : mg "are_names" = some (.ref (He.ga K "are_names"))
  cv_Board_MOST_SWITCHES : ∃ u, ClX.CVal K (He.ga K "Board") (.type "type") "MOST_SWITCHES" (.int 6) u
  ex_InvalidBoard : PySem.W.excIn K (He.ga K "InvalidBoard") He.veBase "ValueError.__new__" = true ∧ PySem.W.keepIn K (.ref (He.ga K "InvalidBoard")) = true ∧ PySem.W.subIn K (.ref (He.ga K "InvalidBoard")) (.type "BaseException") = some true ∧ PySem.W.typeIn K (.ref (He.ga K "InvalidBoard")) = some (.type "type")
  glo_InvalidBoard : mg "InvalidBoard" = some (.ref (He.ga K "InvalidBoard"))
  cv_Board_MOST_RELAYS : ∃ u, ClX.CVal K (He.ga K "Board") (.type "type") "MOST_RELAYS" (.int 8) u
  cv_Board_MOST_LAMPS : ∃ u, ClX.CVal K (He.ga K "Board") (.type "type") "MOST_LAMPS" (.int 8) u
  glo_is_between : mg "is_between" = some (.ref (He.ga K "is_between"))
  glo_are_loads : mg "are_loads" = some (.ref (He.ga K "are_loads"))
  cv_Board_MOST_CONTACTS : ∃ u, ClX.CVal K (He.ga K "Board") (.type "type") "MOST_CONTACTS" (.int 40) u
  t_WHENS : ∀ H, SqT K H (He.ga K "WHENS") [.str ("make" : Str), .str ("break" : Str)]
  glo_WHENS : mg "WHENS" = some (.ref (He.ga K "WHENS"))
  t_WAYS : ∀ H, SqT K H (He.ga K "WAYS") [.str ("both" : Str), .str ("forward" : Str)]
  glo_WAYS : mg "WAYS" = some (.ref (He.ga K "WAYS"))
  glo_is_contact : mg "is_contact" = some (.ref (He.ga K "is_contact"))
  na_Board_contacts : NoAttr K (He.ga K "Board") "contacts"
  na_Board_lamps : NoAttr K (He.ga K "Board") "lamps"
  na_Board_relays : NoAttr K (He.ga K "Board") "relays"
  na_Board_switches : NoAttr K (He.ga K "Board") "switches"
  na_Board_nodes : NoAttr K (He.ga K "Board") "nodes"
  mk_Board : Mk K (He.ga K "Board") (methAt K "Board" "__init__")
  glo__law_made : mg "_law_made" = some (.ref (He.ga K "_law_made"))
  glo__law_lines : mg "_law_lines" = some (.ref (He.ga K "_law_lines"))
  glo_format_board : mg "format_board" = some (.ref (He.ga K "format_board"))
  glo_UnknownNumber : mg "UnknownNumber" = some (.ref (He.ga K "UnknownNumber"))
  sup_UnknownNumber : SupK P K (He.ga K "UnknownNumber") (methAt K "UnknownNumber" "__init__") (cellAt K (methAt K "UnknownNumber" "__init__")) (codeAt K (methAt K "UnknownNumber" "__init__")) "__init__" "UnknownNumber.__init__" "number" "number" (defArgs s_g_UnknownNumber_init) (defBody s_g_UnknownNumber_init) (defScope s_g_UnknownNumber_init)
  me_Board_other_contacts : Meth K (He.ga K "Board") "other_contacts" (methAt K "Board" "other_contacts")
  me_Board_with_contacts : Meth K (He.ga K "Board") "with_contacts" (methAt K "Board" "with_contacts")
  me_Board_without_contact : Meth K (He.ga K "Board") "without_contact" (methAt K "Board" "without_contact")
  glo__law_same : mg "_law_same" = some (.ref (He.ga K "_law_same"))
  glo_law : mg "law" = some (.ref (He.ga K "law"))
variable {P : Program} {w : World} {K : PySem.W.Frag} {mg : Str → Option Value} {base : Heap} {a : Fs}
theorem kb_g_Board_init_1 (T : Tx P K mg a) : ∃ mv : List Value, KBn K a.g_Board_initD ["self", "nodes", "lamps", "switches", "relays", "contacts"] 1 ["nodes", "switches", "relays", "lamps", "contacts"] (fun us ws => pick [(0, 0), (2, 0), (2, 3), (2, 1), (2, 2), (2, 4)] us mv ws) (fun vs zs => pick [(0, 0), (2, 0), (2, 3), (2, 1), (2, 2), (2, 4)] vs (([] : List (Str × V)).map (·.2)) zs) :=
  FunD.kbinds0 T.g_Board_init 1 ["nodes", "switches", "relays", "lamps", "contacts"] [] (pick [(0, 0), (2, 0), (2, 3), (2, 1), (2, 2), (2, 4)]) (by simp) (by simp) (fun h1 h2 h3 => pick_rel h1 h2 h3) (fun D doc pm an cdv ct us mv ws l1 l2 l3 => match us, mv, ws, l1, l2, l3 with
    | [_], [], [_, _, _, _, _], _, _, _ => rfl)
set_option maxHeartbeats 8000000 in
theorem ok_l_row (T : Tx P K mg a) : FnOk P w K mg base (L2.CX P w) 1 (He.ga K "_law_row") a.l_rowD ["_law_cell", "_law_many"] (spF K mg (.pr .int (.pr .int .nl)) (.o (.l (.d .int))) fun x => l_row x.1 x.2.1) := by
  refine fn_bodyD T.l_row sc_l_row rfl fun cdv A outer s H E hr tk po x => ?_
  have hN := sc_l_row.nd
  have hu := hr.units
  exact bs_cast (b_set (r := .o (.l (.d .int))) 2 (e_lst (n := 0) (hl := by decide) (el_nil (t := .int))) (.all rfl) (fun row_here_7 => b_set (r := .d .int) 3 (e_abs (hs := rfl) rfl T.b_abs (e_var 0 rfl (vL 0 rfl rfl rfl))) (.all rfl) (fun rest_8 => bs_seq (G := fun (s : ((List Int) × Int)) => [.d .int x.1, .d .int x.2.1, .o (.l (.d .int)) s.1, .d .int s.2, .no, .no]) (s1_for (hix := fun _ => all_ix rfl) (hs := fun _ => rfl) (t := .int) (G := fun (s : ((List Int) × Int)) => [.d .int x.1, .d .int x.2.1, .o (.l (.d .int)) s.1, .d .int s.2, .no, .no]) (s0 := (row_here_7, rest_8)) (f := (l_row_b1 x.1)) po rfl (is_ran (r_ran1 (hs := rfl) rfl T.b_range (e_var 1 rfl (vL 1 rfl rfl rfl)))) (g_nm 4 (pg_name hN rfl (.inl rfl) (.inr rfl))) (fun s9 k10 => bs_cast (bs_one (s1_if (t_c2 (hm := mark_of _ rfl) (c_ge (e_abs (hs := rfl) rfl T.b_abs (e_var 0 rfl (vL 0 rfl rfl rfl))) (e_pow e_int e_int))) (bs_app 2 (t := .int) (hbase := rfl) (hfew := rfl) (hline := rfl) (hs := rfl) (hpl := rfl) rfl (vL 2 rfl rfl rfl) (e_mod (e_var 3 rfl (vL 3 rfl rfl rfl)) e_int) (.all rfl) (fun row_here_12 => b_set (r := .d .int) 3 (e_div (e_var 3 rfl (vL 3 rfl rfl rfl)) e_int) (.all rfl) (fun rest_13 => bs_nil (b := (row_here_12, rest_13)) rfl (.same (.same (.same (.same (.no (.same .nil))))))) hN rfl (.inl rfl) (.inr rfl) rfl rfl rfl)) (b_set (r := .d .int) 5 (e_mod (e_add (e_mul (e_var 3 rfl (vL 3 rfl rfl rfl)) e_int) (e_mul (e_add (e_var 4 rfl (vL 4 rfl rfl rfl)) e_int) e_int)) e_int) (.all rfl) (fun mixed_18 => b_set (r := .d .int) 5 (e_mod (e_add (e_mul (e_var 5 rfl (vL 5 rfl rfl rfl)) e_int) (e_mul e_int (e_add (e_var 4 rfl (vL 4 rfl rfl rfl)) e_int))) e_int) (.all rfl) (fun mixed_22 => bs_app 2 (t := .int) (hbase := rfl) (hfew := rfl) (hline := rfl) (hs := rfl) (hpl := rfl) rfl (vL 2 rfl rfl rfl) (e_mod (e_var 5 rfl (vL 5 rfl rfl rfl)) e_int) (.all rfl) (fun row_here_23 => bs_nil (b := (row_here_23, s9.2)) rfl (.same (.same (.same (.same (.no (.no .nil)))))))) hN rfl (.inl rfl) (.inr rfl) rfl rfl rfl) hN rfl (.inl rfl) (.inr rfl) rfl rfl rfl))) (by simp only [okb, exb, dputO_eq, l_row_b1] <;> rfl)) (.same (.same (.same (.same (.same (.same .nil))))))) (fun s26 => bs_retO 2 (b := s26.1) (hI := rfl) rfl (vL 2 rfl rfl rfl))) hN rfl (.inl rfl) (.inr rfl) rfl rfl rfl) hN rfl (.inl rfl) (.inr rfl) rfl rfl rfl) (by simp only [okb, exb, dputO_eq, l_row] <;> rfl)
set_option maxHeartbeats 8000000 in
theorem ok_l_numbers (T : Tx P K mg a) : FnOk P w K mg base (L2.CX P w) 2 (He.ga K "_law_numbers") a.l_numbersD ["_law_script", "_law_many"] (spF K mg (.pr .scr (.pr .int .nl)) (.o (.l (.d .int))) fun x => l_numbers x.1 x.2.1) := by
  refine fn_bodyD T.l_numbers sc_l_numbers rfl fun cdv A outer s H E hr tk po x => ?_
  have hN := sc_l_numbers.nd
  have hu := hr.units
  exact bs_cast (b_setF (o := .l (.d .int)) 2 (e_slScr (e_var 0 rfl (vL 0 rfl rfl rfl)) p_none (p_some e_int)) (.all rfl) (fun cells_1 => b_set (r := .d .int) 3 (e_add e_int (e_div (e_var 1 rfl (vL 1 rfl rfl rfl)) (e_max2 (hs := rfl) (hs2 := rfl) (hp := rfl) rfl rfl T.b_max e_int (e_lenL (hs := rfl) rfl T.b_len (e_var 2 rfl (vL 2 rfl rfl rfl)))))) (.all rfl) (fun each_3 => b_set (r := .o (.l (.d .int))) 4 (e_lst (n := 0) (hl := by decide) (el_nil (t := .int))) (.all rfl) (fun numbers_here_4 => bs_seq (G := fun (s : (List Int)) => [.d .scr x.1, .d .int x.2.1, .d (.list .int) cells_1, .d .int each_3, .o (.l (.d .int)) s, .no, .no]) (s1_for (hix := fun _ => all_ix rfl) (hs := fun _ => rfl) (t := .int) (G := fun (s : (List Int)) => [.d .scr x.1, .d .int x.2.1, .d (.list .int) cells_1, .d .int each_3, .o (.l (.d .int)) s, .no, .no]) (s0 := numbers_here_4) (f := (l_numbers_b1 each_3)) po rfl (is_hid (i_list (e_var 2 rfl (vL 2 rfl rfl rfl)))) (g_nm 5 (pg_name hN rfl (.inl rfl) (.inr rfl))) (fun s5 cell6 => bs_cast (bs_seq (G := fun (s : (List Int)) => [.d .scr x.1, .d .int x.2.1, .d (.list .int) cells_1, .d .int each_3, .o (.l (.d .int)) s, .d .int cell6, .no]) (s1_for (hix := fun _ => all_ix rfl) (hs := fun _ => rfl) (t := .int) (G := fun (s : (List Int)) => [.d .scr x.1, .d .int x.2.1, .d (.list .int) cells_1, .d .int each_3, .o (.l (.d .int)) s, .d .int cell6, .no]) (s0 := s5) (f := l_numbers_b2) po rfl (is_hid (i_list (e_frz (o := .l (.d .int)) (e_call (x := "_law_row") (hdb := rfl) (he := by rfl) (hpl := by rfl) (ok_l_row T) (hr.mono (by decide)) rfl T.glo__law_row T.l_row.kp T.l_row_b tk (ea_cons (hs := rfl) (e_var 5 rfl (vL 5 rfl rfl rfl)) (ea_cons (hs := rfl) (e_var 3 rfl (vL 3 rfl rfl rfl)) ea_nil)))))) (g_nm 6 (pg_name hN rfl (.inl rfl) (.inr rfl))) (fun s28 number29 => bs_cast (bs_app 4 (t := .int) (hbase := rfl) (hfew := rfl) (hline := rfl) (hs := rfl) (hpl := rfl) rfl (vL 4 rfl rfl rfl) (e_var 6 rfl (vL 6 rfl rfl rfl)) (.all rfl) (fun numbers_here_30 => bs_nil (b := numbers_here_30) rfl (.same (.same (.same (.same (.same (.same (.no .nil))))))))) (by simp only [okb, exb, dputO_eq, l_numbers_b2] <;> rfl)) (.same (.same (.same (.same (.same (.same (.same .nil)))))))) (fun s31 => bs_nil (b := s31) rfl (.same (.same (.same (.same (.same (.no (.same .nil))))))))) (by simp only [okb, exb, dputO_eq, l_numbers_b1] <;> rfl)) (.same (.same (.same (.same (.same (.same (.same .nil)))))))) (fun s33 => bs_seq (G := fun (s : (List Int)) => [.d .scr x.1, .d .int x.2.1, .d (.list .int) cells_1, .d .int each_3, .o (.l (.d .int)) s, .no, .no]) (s1_while (G := fun (s : (List Int)) => [.d .scr x.1, .d .int x.2.1, .d (.list .int) cells_1, .d .int each_3, .o (.l (.d .int)) s, .no, .no]) (s0 := s33) (mc := (l_numbers_b3c x.2.1)) (f := l_numbers_b3) fuel po (fun s34 => t_cast (t_c2 (hm := mark_of _ rfl) (c_lt (e_lenL (hs := rfl) rfl T.b_len (e_own 4 (o := .l (.d .int)) rfl (vL 4 rfl rfl rfl))) (e_var 1 rfl (vL 1 rfl rfl rfl)))) (by simp only [okb, exb, l_numbers_b3c] <;> rfl)) (fun s34 => bs_cast (bs_app 4 (t := .int) (hbase := rfl) (hfew := rfl) (hline := rfl) (hs := rfl) (hpl := rfl) rfl (vL 4 rfl rfl rfl) e_int (.all rfl) (fun numbers_here_35 => bs_nil (b := numbers_here_35) rfl (.same (.same (.same (.same (.same (.same (.same .nil))))))))) (by simp only [okb, exb, dputO_eq, l_numbers_b3] <;> rfl)) (.same (.same (.same (.same (.same (.same (.same .nil)))))))) (fun s36 => b_ret (r := .o (.l (.d .int))) (e_slL (e_own 4 (o := .l (.d .int)) rfl (vL 4 rfl rfl rfl)) p_none (p_some (e_var 1 rfl (vL 1 rfl rfl rfl)))) (.all rfl)))) hN rfl (.inl rfl) (.inr rfl) rfl rfl rfl) hN rfl (.inl rfl) (.inr rfl) rfl rfl rfl) hN rfl (.inl rfl) (.inr rfl) rfl rfl rfl) (by simp only [okb, exb, dputO_eq, l_numbers] <;> rfl)
set_option maxHeartbeats 8000000 in
theorem ok_l_names (T : Tx P K mg a) : FnOk P w K mg base (L2.CX P w) 1 (He.ga K "_law_names") a.l_namesD ["_law_numbers_here", "_law_at", "_law_many"] (spF K mg (.pr (.list .int) (.pr .int (.pr .int .nl))) (.o (.l (.d .str))) fun x => l_names x.1 x.2.1 x.2.2.1) := by
  refine fn_bodyD T.l_names sc_l_names rfl fun cdv A outer s H E hr tk po x => ?_
  have hN := sc_l_names.nd
  have hu := hr.units
  exact bs_cast (b_set (r := .d .str) 3 e_str (.all rfl) (fun chars_38 => b_set (r := .d .str) 4 e_str (.all rfl) (fun prefix__39 => bs_seq (G := fun (s : Str) => [.d (.list .int) x.1, .d .int x.2.1, .d .int x.2.2.1, .d .str chars_38, .d .str s, .no, .no, .no, .no]) (s1_for (hix := fun _ => all_ix rfl) (hs := fun _ => rfl) (t := .int) (G := fun (s : Str) => [.d (.list .int) x.1, .d .int x.2.1, .d .int x.2.2.1, .d .str chars_38, .d .str s, .no, .no, .no, .no]) (s0 := prefix__39) (f := (l_names_b1 x.1 x.2.1 chars_38)) po rfl (is_ran (r_ran1 (hs := rfl) rfl T.b_range (e_mod (e_intI (hs := rfl) rfl T.b_int (e_ixL (hs := fun _ _ => rfl) (e_var 0 rfl (vL 0 rfl rfl rfl)) (e_var 1 rfl (vL 1 rfl rfl rfl)))) e_int))) (g_nm 5 (pg_name hN rfl (.inl rfl) (.inr rfl))) (fun s42 k43 => bs_cast (b_set (r := .d .str) 4 (e_cat (e_var 4 rfl (vL 4 rfl rfl rfl)) (e_ixS (hs := fun _ _ => rfl) (e_var 3 rfl (vL 3 rfl rfl rfl)) (e_mod (e_add (e_ixL (hs := fun _ _ => rfl) (e_var 0 rfl (vL 0 rfl rfl rfl)) (e_add (e_var 1 rfl (vL 1 rfl rfl rfl)) e_int)) (e_mul (e_var 5 rfl (vL 5 rfl rfl rfl)) (e_ixL (hs := fun _ _ => rfl) (e_var 0 rfl (vL 0 rfl rfl rfl)) (e_add (e_var 1 rfl (vL 1 rfl rfl rfl)) e_int)))) e_int))) (.all rfl) (fun prefix__50 => bs_nil (b := prefix__50) rfl (.same (.same (.same (.same (.same (.no (.same (.same (.same .nil)))))))))) hN rfl (.inl rfl) (.inr rfl) rfl rfl rfl) (by simp only [okb, exb, dputO_eq, l_names_b1] <;> rfl)) (.same (.same (.same (.same (.same (.same (.same (.same (.same .nil)))))))))) (fun s51 => b_set (r := .d .int) 6 (e_mod (e_intI (hs := rfl) rfl T.b_int (e_ixL (hs := fun _ _ => rfl) (e_var 0 rfl (vL 0 rfl rfl rfl)) (e_add (e_var 1 rfl (vL 1 rfl rfl rfl)) e_int))) (e_add (e_lenS (hs := rfl) rfl T.b_len (e_var 4 rfl (vL 4 rfl rfl rfl))) e_int)) (.all rfl) (fun place_55 => b_set (r := .d .int) 7 (e_mod (e_intI (hs := rfl) rfl T.b_int (e_ixL (hs := fun _ _ => rfl) (e_var 0 rfl (vL 0 rfl rfl rfl)) (e_add (e_var 1 rfl (vL 1 rfl rfl rfl)) e_int))) e_int) (.all rfl) (fun shift_57 => b_set (r := .o (.l (.d .str))) 8 (e_lst (n := 0) (hl := by decide) (el_nil (t := .str))) (.all rfl) (fun names_here_58 => bs_seq (G := fun (s : (List Str)) => [.d (.list .int) x.1, .d .int x.2.1, .d .int x.2.2.1, .d .str chars_38, .d .str s51, .no, .d .int place_55, .d .int shift_57, .o (.l (.d .str)) s]) (s1_for (hix := fun _ => all_ix rfl) (hs := fun _ => rfl) (t := .int) (G := fun (s : (List Str)) => [.d (.list .int) x.1, .d .int x.2.1, .d .int x.2.2.1, .d .str chars_38, .d .str s51, .no, .d .int place_55, .d .int shift_57, .o (.l (.d .str)) s]) (s0 := names_here_58) (f := (l_names_b2 chars_38 s51 place_55 shift_57)) po rfl (is_ran (r_ran1 (hs := rfl) rfl T.b_range (e_var 2 rfl (vL 2 rfl rfl rfl)))) (g_nm 5 (pg_name hN rfl (.inl rfl) (.inr rfl))) (fun s59 k60 => bs_cast (bs_app 8 (t := .str) (hbase := rfl) (hfew := rfl) (hline := rfl) (hs := rfl) (hpl := rfl) rfl (vL 8 rfl rfl rfl) (e_cat (e_cat (e_slS (e_var 4 rfl (vL 4 rfl rfl rfl)) p_none (p_some (e_var 6 rfl (vL 6 rfl rfl rfl)))) (e_ixS (hs := fun _ _ => rfl) (e_var 3 rfl (vL 3 rfl rfl rfl)) (e_mod (e_add (e_var 7 rfl (vL 7 rfl rfl rfl)) (e_var 5 rfl (vL 5 rfl rfl rfl))) e_int))) (e_slS (e_var 4 rfl (vL 4 rfl rfl rfl)) (p_some (e_var 6 rfl (vL 6 rfl rfl rfl))) p_none)) (.all rfl) (fun names_here_66 => bs_nil (b := names_here_66) rfl (.same (.same (.same (.same (.same (.no (.same (.same (.same .nil))))))))))) (by simp only [okb, exb, dputO_eq, l_names_b2] <;> rfl)) (.same (.same (.same (.same (.same (.same (.same (.same (.same .nil)))))))))) (fun s68 => bs_retO 8 (b := s68) (hI := rfl) rfl (vL 8 rfl rfl rfl))) hN rfl (.inl rfl) (.inr rfl) rfl rfl rfl) hN rfl (.inl rfl) (.inr rfl) rfl rfl rfl) hN rfl (.inl rfl) (.inr rfl) rfl rfl rfl)) hN rfl (.inl rfl) (.inr rfl) rfl rfl rfl) hN rfl (.inl rfl) (.inr rfl) rfl rfl rfl) (by simp only [okb, exb, dputO_eq, l_names] <;> rfl)
set_option maxHeartbeats 8000000 in
theorem ok_l_count (T : Tx P K mg a) : FnOk P w K mg base (L2.CX P w) 1 (He.ga K "_law_count") a.l_countD ["_law_number", "_law_least", "_law_most"] (spF K mg (.pr .int (.pr .int (.pr .int .nl))) (.d .int) fun x => l_count x.1 x.2.1 x.2.2.1) := by
  refine fn_bodyD T.l_count sc_l_count rfl fun cdv A outer s H E hr tk po x => ?_
  have hN := sc_l_count.nd
  have hu := hr.units
  exact bs_cast (bs_ifR (hI := fun _ => rfl) (t_c2 (hm := mark_of _ rfl) (c_eq (t := .int) (ht := rfl) (hd := by decide) hu (e_mod (e_intI (hs := rfl) rfl T.b_int (e_var 0 rfl (vL 0 rfl rfl rfl))) e_int) e_int)) (bs_retV 1 (t := .int) (bb := x.2.1) rfl (vL 1 rfl rfl rfl) rfl) (bs_ifR (hI := fun _ => rfl) (t_c2 (hm := mark_of _ rfl) (c_eq (t := .int) (ht := rfl) (hd := by decide) hu (e_mod (e_intI (hs := rfl) rfl T.b_int (e_var 0 rfl (vL 0 rfl rfl rfl))) e_int) e_int)) (bs_retV 2 (t := .int) (bb := x.2.2.1) rfl (vL 2 rfl rfl rfl) rfl) (b_ret (r := .d .int) (e_add (e_var 1 rfl (vL 1 rfl rfl rfl)) (e_mod (e_div (e_var 0 rfl (vL 0 rfl rfl rfl)) e_int) (e_add (e_sub (e_min2 (hs := rfl) (hs2 := rfl) (hp := rfl) rfl rfl T.b_min (e_var 2 rfl (vL 2 rfl rfl rfl)) (e_add (e_var 1 rfl (vL 1 rfl rfl rfl)) e_int)) (e_var 1 rfl (vL 1 rfl rfl rfl))) e_int))) (.all rfl)))) (by simp only [okb, exb, dputO_eq, l_count] <;> rfl)
set_option maxHeartbeats 8000000 in
theorem ok_l_two (T : Tx P K mg a) : FnOk P w K mg base (L2.CX P w) 1 (He.ga K "_law_two") a.l_twoD ["_law_one", "_law_other", "_law_nodes"] (spF K mg (.pr .int (.pr .int (.pr (.list .str) .nl))) (.d (.tup (.pr .str .str))) fun x => l_two x.1 x.2.1 x.2.2.1) := by
  refine fn_bodyD T.l_two sc_l_two rfl fun cdv A outer s H E hr tk po x => ?_
  have hN := sc_l_two.nd
  have hu := hr.units
  exact bs_cast (b_set (r := .d .int) 3 (e_mod (e_intI (hs := rfl) rfl T.b_int (e_var 0 rfl (vL 0 rfl rfl rfl))) (e_lenL (hs := rfl) rfl T.b_len (e_var 2 rfl (vL 2 rfl rfl rfl)))) (.all rfl) (fun first_98 => b_set (r := .d .int) 4 (e_mod (e_add (e_add (e_var 3 rfl (vL 3 rfl rfl rfl)) e_int) (e_mod (e_intI (hs := rfl) rfl T.b_int (e_var 1 rfl (vL 1 rfl rfl rfl))) (e_sub (e_lenL (hs := rfl) rfl T.b_len (e_var 2 rfl (vL 2 rfl rfl rfl))) e_int))) (e_lenL (hs := rfl) rfl T.b_len (e_var 2 rfl (vL 2 rfl rfl rfl)))) (.all rfl) (fun second_101 => b_ret (r := .d (.tup (.pr .str .str))) (e_tup (hl := rfl) (ea_cons (hs := rfl) (e_ixL (hs := fun _ _ => rfl) (e_var 2 rfl (vL 2 rfl rfl rfl)) (e_var 3 rfl (vL 3 rfl rfl rfl))) (ea_one (hs := rfl) (e_ixL (hs := fun _ _ => rfl) (e_var 2 rfl (vL 2 rfl rfl rfl)) (e_var 4 rfl (vL 4 rfl rfl rfl)))))) (.all rfl)) hN rfl (.inl rfl) (.inr rfl) rfl rfl rfl) hN rfl (.inl rfl) (.inr rfl) rfl rfl rfl) (by simp only [okb, exb, dputO_eq, l_two] <;> rfl)
set_option maxHeartbeats 8000000 in
theorem ok_l_loads (T : Tx P K mg a) : FnOk P w K mg base (L2.CX P w) 2 (He.ga K "_law_loads") a.l_loadsD ["_law_numbers_here", "_law_at", "_law_names_here", "_law_nodes"] (spF K mg (.pr (.list .int) (.pr .int (.pr (.list .str) (.pr (.list .str) .nl)))) (.o (.l (.d (.tup (.pr .str (.pr .str .str)))))) fun x => l_loads x.1 x.2.1 x.2.2.1 x.2.2.2.1) := by
  refine fn_bodyD T.l_loads sc_l_loads rfl fun cdv A outer s H E hr tk po x => ?_
  have hN := sc_l_loads.nd
  have hu := hr.units
  exact bs_cast (b_set (r := .o (.l (.d (.tup (.pr .str (.pr .str .str)))))) 4 (e_lst (n := 0) (hl := by decide) (el_nil (t := (.tup (.pr .str (.pr .str .str)))))) (.all rfl) (fun loads_here_95 => bs_seq (G := fun (s : (List (Str × Str × Str))) => [.d (.list .int) x.1, .d .int x.2.1, .d (.list .str) x.2.2.1, .d (.list .str) x.2.2.2.1, .o (.l (.d (.tup (.pr .str (.pr .str .str))))) s, .no, .no]) (s1_for (hix := fun _ => all_ix rfl) (hs := fun _ => rfl) (t := .int) (G := fun (s : (List (Str × Str × Str))) => [.d (.list .int) x.1, .d .int x.2.1, .d (.list .str) x.2.2.1, .d (.list .str) x.2.2.2.1, .o (.l (.d (.tup (.pr .str (.pr .str .str))))) s, .no, .no]) (s0 := loads_here_95) (f := (l_loads_b1 x.1 x.2.1 x.2.2.1 x.2.2.2.1)) po rfl (is_ran (r_ran1 (hs := rfl) rfl T.b_range (e_lenL (hs := rfl) rfl T.b_len (e_var 2 rfl (vL 2 rfl rfl rfl))))) (g_nm 5 (pg_name hN rfl (.inl rfl) (.inr rfl))) (fun s96 k97 => bs_cast (b_set (r := .d (.tup (.pr .str .str))) 6 (e_call (x := "_law_two") (hdb := rfl) (he := by rfl) (hpl := by rfl) (ok_l_two T) (hr.mono (by decide)) rfl T.glo__law_two T.l_two.kp T.l_two_b tk (ea_cons (hs := rfl) (e_ixL (hs := fun _ _ => rfl) (e_var 0 rfl (vL 0 rfl rfl rfl)) (e_add (e_var 1 rfl (vL 1 rfl rfl rfl)) (e_mul e_int (e_var 5 rfl (vL 5 rfl rfl rfl))))) (ea_cons (hs := rfl) (e_ixL (hs := fun _ _ => rfl) (e_var 0 rfl (vL 0 rfl rfl rfl)) (e_add (e_add (e_var 1 rfl (vL 1 rfl rfl rfl)) e_int) (e_mul e_int (e_var 5 rfl (vL 5 rfl rfl rfl))))) (ea_cons (hs := rfl) (e_var 3 rfl (vL 3 rfl rfl rfl)) ea_nil)))) (.all rfl) (fun ends_112 => bs_app 4 (t := (.tup (.pr .str (.pr .str .str)))) (hbase := rfl) (hfew := rfl) (hline := rfl) (hs := rfl) (hpl := rfl) rfl (vL 4 rfl rfl rfl) (e_tup (hl := rfl) (ea_cons (hs := rfl) (e_ixL (hs := fun _ _ => rfl) (e_var 2 rfl (vL 2 rfl rfl rfl)) (e_var 5 rfl (vL 5 rfl rfl rfl))) (ea_cons (hs := rfl) (e_fld (hi := rfl) (hs := fun _ _ => rfl) (e_var 6 rfl (vL 6 rfl rfl rfl)) .hd) (ea_one (hs := rfl) (e_fld (hi := rfl) (hs := fun _ _ => rfl) (e_var 6 rfl (vL 6 rfl rfl rfl)) (.tl (.last rfl))))))) (.all rfl) (fun loads_here_114 => bs_nil (b := loads_here_114) rfl (.same (.same (.same (.same (.same (.no (.no .nil))))))))) hN rfl (.inl rfl) (.inr rfl) rfl rfl rfl) (by simp only [okb, exb, dputO_eq, l_loads_b1] <;> rfl)) (.same (.same (.same (.same (.same (.same (.same .nil)))))))) (fun s116 => bs_retO 4 (b := s116) (hI := rfl) rfl (vL 4 rfl rfl rfl))) hN rfl (.inl rfl) (.inr rfl) rfl rfl rfl) (by simp only [okb, exb, dputO_eq, l_loads] <;> rfl)
set_option maxHeartbeats 8000000 in
theorem ok_l_contact (T : Tx P K mg a) : FnOk P w K mg base (L2.CX P w) 2 (He.ga K "_law_contact") a.l_contactD ["_law_numbers_here", "_law_at", "_law_nodes", "_law_movers"] (spF K mg (.pr (.list .int) (.pr .int (.pr (.list .str) (.pr (.list .str) .nl)))) (.d (.tup (.pr .str (.pr .str (.pr (.opt .str) (.pr .str .str)))))) fun x => l_contact x.1 x.2.1 x.2.2.1 x.2.2.2.1) := by
  refine fn_bodyD T.l_contact sc_l_contact rfl fun cdv A outer s H E hr tk po x => ?_
  have hN := sc_l_contact.nd
  have hu := hr.units
  exact bs_cast (b_set (r := .d (.tup (.pr .str .str))) 4 (e_call (x := "_law_two") (hdb := rfl) (he := by rfl) (hpl := by rfl) (ok_l_two T) (hr.mono (by decide)) rfl T.glo__law_two T.l_two.kp T.l_two_b tk (ea_cons (hs := rfl) (e_ixL (hs := fun _ _ => rfl) (e_var 0 rfl (vL 0 rfl rfl rfl)) (e_var 1 rfl (vL 1 rfl rfl rfl))) (ea_cons (hs := rfl) (e_ixL (hs := fun _ _ => rfl) (e_var 0 rfl (vL 0 rfl rfl rfl)) (e_add (e_var 1 rfl (vL 1 rfl rfl rfl)) e_int)) (ea_cons (hs := rfl) (e_var 2 rfl (vL 2 rfl rfl rfl)) ea_nil)))) (.all rfl) (fun ends_140 => b_set (r := .d .str) 5 (by exact e_ixL (hs := fun _ _ => rfl) (e_frz (o := .l (.d .str)) (e_lst (n := 2) (hl := by decide) (el_cons (hs := rfl) e_str (el_cons (hs := rfl) e_str (el_nil (t := .str)))))) (e_mod (e_intI (hs := rfl) rfl T.b_int (e_ixL (hs := fun _ _ => rfl) (e_var 0 rfl (vL 0 rfl rfl rfl)) (e_add (e_var 1 rfl (vL 1 rfl rfl rfl)) e_int))) e_int)) (.all rfl) (fun way_143 => b_set (r := .d .int) 6 (e_mod (e_intI (hs := rfl) rfl T.b_int (e_ixL (hs := fun _ _ => rfl) (e_var 0 rfl (vL 0 rfl rfl rfl)) (e_add (e_var 1 rfl (vL 1 rfl rfl rfl)) e_int))) (e_add (e_lenL (hs := rfl) rfl T.b_len (e_var 3 rfl (vL 3 rfl rfl rfl))) e_int)) (.all rfl) (fun choice_145 => bs_ifR (hI := fun _ => rfl) (t_c2 (hm := mark_of _ rfl) (c_eq (t := .int) (ht := rfl) (hd := by decide) hu (e_var 6 rfl (vL 6 rfl rfl rfl)) (e_lenL (hs := rfl) rfl T.b_len (e_var 3 rfl (vL 3 rfl rfl rfl))))) (b_ret (r := .d (.tup (.pr .str (.pr .str (.pr (.opt .str) (.pr .str .str)))))) (e_tup (hl := rfl) (ea_cons (hs := rfl) (e_fld (hi := rfl) (hs := fun _ _ => rfl) (e_var 4 rfl (vL 4 rfl rfl rfl)) .hd) (ea_cons (hs := rfl) (e_fld (hi := rfl) (hs := fun _ _ => rfl) (e_var 4 rfl (vL 4 rfl rfl rfl)) (.tl (.last rfl))) (ea_cons (hs := rfl) e_noneO (ea_cons (hs := rfl) e_str (ea_one (hs := rfl) (e_var 5 rfl (vL 5 rfl rfl rfl)))))))) (.all rfl)) (b_ret (r := .d (.tup (.pr .str (.pr .str (.pr (.opt .str) (.pr .str .str)))))) (e_tup (hl := rfl) (ea_cons (hs := rfl) (e_fld (hi := rfl) (hs := fun _ _ => rfl) (e_var 4 rfl (vL 4 rfl rfl rfl)) .hd) (ea_cons (hs := rfl) (e_fld (hi := rfl) (hs := fun _ _ => rfl) (e_var 4 rfl (vL 4 rfl rfl rfl)) (.tl (.last rfl))) (ea_cons (hs := rfl) (e_some rfl (e_ixL (hs := fun _ _ => rfl) (e_var 3 rfl (vL 3 rfl rfl rfl)) (e_var 6 rfl (vL 6 rfl rfl rfl)))) (ea_cons (hs := rfl) (by exact e_ixL (hs := fun _ _ => rfl) (e_frz (o := .l (.d .str)) (e_lst (n := 2) (hl := by decide) (el_cons (hs := rfl) e_str (el_cons (hs := rfl) e_str (el_nil (t := .str)))))) (e_mod (e_intI (hs := rfl) rfl T.b_int (e_ixL (hs := fun _ _ => rfl) (e_var 0 rfl (vL 0 rfl rfl rfl)) (e_add (e_var 1 rfl (vL 1 rfl rfl rfl)) e_int))) e_int)) (ea_one (hs := rfl) (e_var 5 rfl (vL 5 rfl rfl rfl)))))))) (.all rfl))) hN rfl (.inl rfl) (.inr rfl) rfl rfl rfl) hN rfl (.inl rfl) (.inr rfl) rfl rfl rfl) hN rfl (.inl rfl) (.inr rfl) rfl rfl rfl) (by simp only [okb, exb, dputO_eq, l_contact] <;> rfl)
def l_parts_c5 (a_numbers_here : (List Int)) (nodes_83 : (List Str)) (switches_86 : Int) (movers_94 : (List Str)) (relays_118 : (List (Str × Str × Str))) (lamps_129 : (List (Str × Str × Str))) : Mx ((List Str) × (List Str) × (List (Str × Str × Str)) × (List (Str × Str × Str)) × (List (Str × Str × (Option Str) × Str × Str))) :=
  (.ok ([] : List (Str × Str × (Option Str) × Str × Str))) >>= fun contacts_130 => (((((ofO (atI a_numbers_here (19 : Int))) >>= fun v131 => .ok (v131, (0 : Int), (40 : Int), ())) >>= fun v132 => l_count v132.1 v132.2.1 v132.2.2.1) >>= fun v133 => ofO (ranO 0 v133)) >>= fun v161 => loopS v161 contacts_130 (l_parts_b1 a_numbers_here nodes_83 movers_94)) >>= fun s160 => .ok (nodes_83, ((cut movers_94 none (some switches_86)), (relays_118, (lamps_129, s160))))
set_option maxHeartbeats 8000000 in
theorem cut_l_parts_c5 (T : Tx P K mg a) (a_numbers_here : (List Int)) (nodes_83 : (List Str)) (switches_86 : Int) (movers_94 : (List Str)) (relays_118 : (List (Str × Str × Str))) (lamps_129 : (List (Str × Str × Str))) : CutB P w K mg base N_l_parts "_law_parts" s_l_parts (He.ga K "_law_parts") 2 [] [.d (.list .int) a_numbers_here, .d (.list .str) nodes_83, .d .int switches_86, .d (.list .str) movers_94, .d (.list (.tup (.pr .str (.pr .str .str)))) relays_118, .d (.list (.tup (.pr .str (.pr .str .str)))) lamps_129, .no, .no] 5 (l_parts_c5 a_numbers_here nodes_83 switches_86 movers_94 relays_118 lamps_129) (fun y => .rt (.d (.tup (.pr (.list .str) (.pr (.list .str) (.pr (.list (.tup (.pr .str (.pr .str .str)))) (.pr (.list (.tup (.pr .str (.pr .str .str)))) (.list (.tup (.pr .str (.pr .str (.pr (.opt .str) (.pr .str .str)))))))))))) y) := by
  intro cdv A outer s H E hr tk po
  have hN := sc_l_parts.nd
  have hu := hr.units
  exact bs_cast (b_set (r := .o (.l (.d (.tup (.pr .str (.pr .str (.pr (.opt .str) (.pr .str .str)))))))) 6 (e_lst (n := 0) (hl := by decide) (el_nil (t := (.tup (.pr .str (.pr .str (.pr (.opt .str) (.pr .str .str)))))))) (.all rfl) (fun contacts_130 => bs_seq (G := fun (s : (List (Str × Str × (Option Str) × Str × Str))) => [.d (.list .int) a_numbers_here, .d (.list .str) nodes_83, .d .int switches_86, .d (.list .str) movers_94, .d (.list (.tup (.pr .str (.pr .str .str)))) relays_118, .d (.list (.tup (.pr .str (.pr .str .str)))) lamps_129, .o (.l (.d (.tup (.pr .str (.pr .str (.pr (.opt .str) (.pr .str .str))))))) s, .no]) (s1_for (hix := fun _ => all_ix rfl) (hs := fun _ => rfl) (t := .int) (G := fun (s : (List (Str × Str × (Option Str) × Str × Str))) => [.d (.list .int) a_numbers_here, .d (.list .str) nodes_83, .d .int switches_86, .d (.list .str) movers_94, .d (.list (.tup (.pr .str (.pr .str .str)))) relays_118, .d (.list (.tup (.pr .str (.pr .str .str)))) lamps_129, .o (.l (.d (.tup (.pr .str (.pr .str (.pr (.opt .str) (.pr .str .str))))))) s, .no]) (s0 := contacts_130) (f := (l_parts_b1 a_numbers_here nodes_83 movers_94)) po rfl (is_ran (r_ran1 (hs := rfl) rfl T.b_range (e_call (x := "_law_count") (hdb := rfl) (he := by rfl) (hpl := by rfl) (ok_l_count T) (hr.mono (by decide)) rfl T.glo__law_count T.l_count.kp T.l_count_b tk (ea_cons (hs := rfl) (e_ixL (hs := fun _ _ => rfl) (e_var 0 rfl (vL 0 rfl rfl rfl)) e_int) (ea_cons (hs := rfl) e_int (ea_cons (hs := rfl) e_int ea_nil)))))) (g_nm 7 (pg_name hN rfl (.inl rfl) (.inr rfl))) (fun s134 k135 => bs_cast (bs_app 6 (t := (.tup (.pr .str (.pr .str (.pr (.opt .str) (.pr .str .str)))))) (hbase := rfl) (hfew := rfl) (hline := rfl) (hs := rfl) (hpl := rfl) rfl (vL 6 rfl rfl rfl) (e_call (x := "_law_contact") (hdb := rfl) (he := by rfl) (hpl := by rfl) (ok_l_contact T) (hr.mono (by decide)) rfl T.glo__law_contact T.l_contact.kp T.l_contact_b tk (ea_cons (hs := rfl) (e_var 0 rfl (vL 0 rfl rfl rfl)) (ea_cons (hs := rfl) (e_add e_int (e_mul e_int (e_var 7 rfl (vL 7 rfl rfl rfl)))) (ea_cons (hs := rfl) (e_var 1 rfl (vL 1 rfl rfl rfl)) (ea_cons (hs := rfl) (e_var 3 rfl (vL 3 rfl rfl rfl)) ea_nil))))) (.all rfl) (fun contacts_158 => bs_nil (b := contacts_158) rfl (.same (.same (.same (.same (.same (.same (.same (.no .nil)))))))))) (by simp only [okb, exb, dputO_eq, l_parts_b1] <;> rfl)) (.same (.same (.same (.same (.same (.same (.same (.same .nil))))))))) (fun s160 => bs_freeze 6 (o := .l (.d (.tup (.pr .str (.pr .str (.pr (.opt .str) (.pr .str .str))))))) rfl (b_ret (r := .d (.tup (.pr (.list .str) (.pr (.list .str) (.pr (.list (.tup (.pr .str (.pr .str .str)))) (.pr (.list (.tup (.pr .str (.pr .str .str)))) (.list (.tup (.pr .str (.pr .str (.pr (.opt .str) (.pr .str .str)))))))))))) (e_tup (hl := rfl) (ea_cons (hs := rfl) (e_var 1 rfl (vL 1 rfl rfl rfl)) (ea_cons (hs := rfl) (e_frz (o := .l (.d .str)) (e_slL (e_var 3 rfl (vL 3 rfl rfl rfl)) p_none (p_some (e_var 2 rfl (vL 2 rfl rfl rfl))))) (ea_cons (hs := rfl) (e_var 4 rfl (vL 4 rfl rfl rfl)) (ea_cons (hs := rfl) (e_var 5 rfl (vL 5 rfl rfl rfl)) (ea_one (hs := rfl) (e_var 6 rfl (vL 6 rfl rfl rfl)))))))) .hid))) hN rfl (.inl rfl) (.inr rfl) rfl rfl rfl) (by simp only [okb, exb, dputO_eq, l_parts_c5] <;> rfl)
set_option maxHeartbeats 8000000 in
theorem ok_l_parts (T : Tx P K mg a) : FnOk P w K mg base (L2.CX P w) 3 (He.ga K "_law_parts") a.l_partsD ["_law_numbers_here"] (spF K mg (.pr (.list .int) .nl) (.d (.tup (.pr (.list .str) (.pr (.list .str) (.pr (.list (.tup (.pr .str (.pr .str .str)))) (.pr (.list (.tup (.pr .str (.pr .str .str)))) (.list (.tup (.pr .str (.pr .str (.pr (.opt .str) (.pr .str .str)))))))))))) fun x => l_parts x.1) := by
  refine fn_bodyD T.l_parts sc_l_parts rfl fun cdv A outer s H E hr tk po x => ?_
  have hN := sc_l_parts.nd
  have hu := hr.units
  exact bs_cast (b_setF (o := .l (.d .str)) 1 (e_call (x := "_law_names") (hdb := rfl) (he := by rfl) (hpl := by rfl) (ok_l_names T) (hr.mono (by decide)) rfl T.glo__law_names T.l_names.kp T.l_names_b tk (ea_cons (hs := rfl) (e_var 0 rfl (vL 0 rfl rfl rfl)) (ea_cons (hs := rfl) e_int (ea_cons (hs := rfl) (e_call (x := "_law_count") (hdb := rfl) (he := by rfl) (hpl := by rfl) (ok_l_count T) (hr.mono (by decide)) rfl T.glo__law_count T.l_count.kp T.l_count_b tk (ea_cons (hs := rfl) (e_ixL (hs := fun _ _ => rfl) (e_var 0 rfl (vL 0 rfl rfl rfl)) e_int) (ea_cons (hs := rfl) e_int (ea_cons (hs := rfl) e_int ea_nil)))) ea_nil)))) (.all rfl) (fun nodes_83 => b_set (r := .d .int) 2 (e_call (x := "_law_count") (hdb := rfl) (he := by rfl) (hpl := by rfl) (ok_l_count T) (hr.mono (by decide)) rfl T.glo__law_count T.l_count.kp T.l_count_b tk (ea_cons (hs := rfl) (e_ixL (hs := fun _ _ => rfl) (e_var 0 rfl (vL 0 rfl rfl rfl)) e_int) (ea_cons (hs := rfl) e_int (ea_cons (hs := rfl) e_int ea_nil)))) (.all rfl) (fun switches_86 => b_setF (o := .l (.d .str)) 3 (e_call (x := "_law_names") (hdb := rfl) (he := by rfl) (hpl := by rfl) (ok_l_names T) (hr.mono (by decide)) rfl T.glo__law_names T.l_names.kp T.l_names_b tk (ea_cons (hs := rfl) (e_var 0 rfl (vL 0 rfl rfl rfl)) (ea_cons (hs := rfl) e_int (ea_cons (hs := rfl) (e_add (e_var 2 rfl (vL 2 rfl rfl rfl)) (e_call (x := "_law_count") (hdb := rfl) (he := by rfl) (hpl := by rfl) (ok_l_count T) (hr.mono (by decide)) rfl T.glo__law_count T.l_count.kp T.l_count_b tk (ea_cons (hs := rfl) (e_ixL (hs := fun _ _ => rfl) (e_var 0 rfl (vL 0 rfl rfl rfl)) e_int) (ea_cons (hs := rfl) e_int (ea_cons (hs := rfl) e_int ea_nil))))) ea_nil)))) (.all rfl) (fun movers_94 => b_setF (o := .l (.d (.tup (.pr .str (.pr .str .str))))) 4 (e_call (x := "_law_loads") (hdb := rfl) (he := by rfl) (hpl := by rfl) (ok_l_loads T) (hr.mono (by decide)) rfl T.glo__law_loads T.l_loads.kp T.l_loads_b tk (ea_cons (hs := rfl) (e_var 0 rfl (vL 0 rfl rfl rfl)) (ea_cons (hs := rfl) e_int (ea_cons (hs := rfl) (e_frz (o := .l (.d .str)) (e_slL (e_var 3 rfl (vL 3 rfl rfl rfl)) (p_some (e_var 2 rfl (vL 2 rfl rfl rfl))) p_none)) (ea_cons (hs := rfl) (e_var 1 rfl (vL 1 rfl rfl rfl)) ea_nil))))) (.all rfl) (fun relays_118 => b_setF (o := .l (.d (.tup (.pr .str (.pr .str .str))))) 5 (e_call (x := "_law_loads") (hdb := rfl) (he := by rfl) (hpl := by rfl) (ok_l_loads T) (hr.mono (by decide)) rfl T.glo__law_loads T.l_loads.kp T.l_loads_b tk (ea_cons (hs := rfl) (e_var 0 rfl (vL 0 rfl rfl rfl)) (ea_cons (hs := rfl) e_int (ea_cons (hs := rfl) (e_frz (o := .l (.d .str)) (e_call (x := "_law_names") (hdb := rfl) (he := by rfl) (hpl := by rfl) (ok_l_names T) (hr.mono (by decide)) rfl T.glo__law_names T.l_names.kp T.l_names_b tk (ea_cons (hs := rfl) (e_var 0 rfl (vL 0 rfl rfl rfl)) (ea_cons (hs := rfl) e_int (ea_cons (hs := rfl) (e_call (x := "_law_count") (hdb := rfl) (he := by rfl) (hpl := by rfl) (ok_l_count T) (hr.mono (by decide)) rfl T.glo__law_count T.l_count.kp T.l_count_b tk (ea_cons (hs := rfl) (e_ixL (hs := fun _ _ => rfl) (e_var 0 rfl (vL 0 rfl rfl rfl)) e_int) (ea_cons (hs := rfl) e_int (ea_cons (hs := rfl) e_int ea_nil)))) ea_nil))))) (ea_cons (hs := rfl) (e_var 1 rfl (vL 1 rfl rfl rfl)) ea_nil))))) (.all rfl) (fun lamps_129 => (cut_l_parts_c5 T x.1 nodes_83 switches_86 movers_94 relays_118 lamps_129 cdv A outer s H E hr tk po)) hN rfl (.inl rfl) (.inr rfl) rfl rfl rfl) hN rfl (.inl rfl) (.inr rfl) rfl rfl rfl) hN rfl (.inl rfl) (.inr rfl) rfl rfl rfl) hN rfl (.inl rfl) (.inr rfl) rfl rfl rfl) hN rfl (.inl rfl) (.inr rfl) rfl rfl rfl) (by simp only [okb, exb, dputO_eq, l_parts, l_parts_c5] <;> ((try delta l_parts_c5); (try simp only [okb, exb, dputO_eq]) <;> (first | with_reducible rfl | rfl)))
set_option maxHeartbeats 8000000 in
theorem ok_g_Board_is_name (T : Tx P K mg a) : FnOk P w K mg base (L2.CX P w) 1 (statAt K "Board" "is_name") a.g_Board_is_nameD ["text"] (spF K mg (.pr .str .nl) (.d .bool) fun x => g_Board_is_name x.1) := by
  refine fn_bodyD T.g_Board_is_name sc_g_Board_is_name rfl fun cdv A outer s H E hr tk po x => ?_
  have hN := sc_g_Board_is_name.nd
  have hu := hr.units
  exact bs_cast (bs_ifR (hI := fun _ => rfl) (t_not (t_chain (p1 := fun i j => decide (i ≤ j)) (p2 := fun i j => decide (i ≤ j)) op_le op_le (by with_unfolding_all rfl) e_int (e_lenS (hs := rfl) rfl T.b_len (e_var 0 rfl (vL 0 rfl rfl rfl))) (e_gref (x := "MOST_NAME_CHARS") (t := .int) (z := (12 : Int)) (v := .int (12)) rfl (Classical.choose_spec T.i_MOST_NAME_CHARS) ⟨_, rfl⟩ rfl (fun _ => rfl)))) (b_ret (r := .d .bool) e_bool (.all rfl)) (b_ret (r := .d .bool) (e_all (hs := rfl) rfl rfl T.b_all (e_frz (o := .l (.d .bool)) (e_lc (hs := fun _ => rfl) (his := by decide) rfl hN (own := [("char", 1)]) (blk_by N_g_Board_is_name (defScope s_g_Board_is_name) (by decide +kernel)) (i_str (e_var 0 rfl (vL 0 rfl rfl rfl))) (fun _ _ _ _ _ => (g_nm 1 (pg_name hN rfl (.inl rfl) (.inr rfl)))) (fun char168 _ _ _ _ _ => ts_nil) (fun char168 _ _ _ _ _ => (e_c2 (hm := by with_unfolding_all rfl) (c_inS (e_var 1 rfl (vL 1 rfl rfl rfl)) (e_gref (x := "NAME_CHARS") (t := .str) (z := ("abcdefghijklmnopqrstuvwxyz0123456789" : Str)) (v := .str ("abcdefghijklmnopqrstuvwxyz0123456789" : Str)) rfl (Classical.choose_spec T.s_NAME_CHARS) ⟨_, rfl⟩ rfl (fun _ => rfl)))))))) (.all rfl))) (by simp only [okb, exb, dputO_eq, g_Board_is_name] <;> rfl)
set_option maxHeartbeats 8000000 in
theorem ok_g_are_names (T : Tx P K mg a) : FnOk P w K mg base (L2.CX P w) 2 (He.ga K "are_names") a.g_are_namesD ["names", "least", "most"] (spF K mg (.pr (.list .str) (.pr .int (.pr .int .nl))) (.d .bool) fun x => g_are_names x.1 x.2.1 x.2.2.1) := by
  refine fn_bodyD T.g_are_names sc_g_are_names rfl fun cdv A outer s H E hr tk po x => ?_
  have hN := sc_g_are_names.nd
  have hu := hr.units
  exact bs_cast (bs_ifR (hI := fun _ => rfl) (t_not (t_chain (p1 := fun i j => decide (i ≤ j)) (p2 := fun i j => decide (i ≤ j)) op_le op_le (by with_unfolding_all rfl) (e_var 1 rfl (vL 1 rfl rfl rfl)) (e_lenL (hs := rfl) rfl T.b_len (e_var 0 rfl (vL 0 rfl rfl rfl))) (e_var 2 rfl (vL 2 rfl rfl rfl)))) (b_ret (r := .d .bool) e_bool (.all rfl)) (bs_seqF (G := fun (s : Unit) => [.d (.list .str) x.1, .d .int x.2.1, .d .int x.2.2.1, .no, .no]) (O := fun (y : Bool) => .rt (.d .bool) y) (j := fun y176 => y176) (hj := fun _ => rfl) (ho := fun _ => rfl) (s1_forF (hO := fun _ => rfl) (hix := fun _ => all_ix rfl) (hs := fun _ => rfl) (t := (.tup (.pr .int .str))) (G := fun (s : Unit) => [.d (.list .str) x.1, .d .int x.2.1, .d .int x.2.2.1, .no, .no]) (s0 := ()) (O := fun (y : Bool) => .rt (.d .bool) y) (f := (g_are_names_b1 x.1)) po rfl (is_hid (i_enumL rfl T.b_enumerate (e_var 0 rfl (vL 0 rfl rfl rfl)) rfl rfl)) (g_tup (har := rfl) (hn := rfl) (hst := rfl) rfl (gs_cons (hs := rfl) (g_nm 3 (pg_name hN rfl (.inl rfl) (.inr rfl))) (gs_one (ht := rfl) (hs := rfl) (g_nm 4 (pg_name hN rfl (.inl rfl) (.inr rfl)))))) (fun s164 p165 => bs_cast (bs_one (s1_if (t_w (w_or (t_not (t_of (he := fun _ => rfl) (e_smet rfl T.glo_Board T.rd_Board T.st_Board_is_name (ok_g_Board_is_name T) (hr.mono (by decide)) T.g_Board_is_name_b tk rfl (ea_cons (hs := rfl) (e_var 4 rfl (vL 4 rfl rfl rfl)) ea_nil) rfl rfl rfl))) (w_or1 (t_c2 (hm := by with_unfolding_all rfl) (c_inL .str (e_var 4 rfl (vL 4 rfl rfl rfl)) (e_frz (o := .l (.d .str)) (e_slL (e_var 0 rfl (vL 0 rfl rfl rfl)) p_none (p_some (e_var 3 rfl (vL 3 rfl rfl rfl)))))))))) (bs_ret (r := .d .bool) (b := fun y173 => (Lp.out y173)) e_bool (.all rfl) (hI := fun _ => rfl)) (bs_nil (b := (Lp.go ())) rfl (.same (.same (.same (.no (.no .nil)))))))) (by simp only [okb, exb, dputO_eq, g_are_names_b1] <;> rfl)) (.same (.same (.same (.same (.same .nil)))))) (fun s175 => b_ret (r := .d .bool) e_bool (.all rfl)))) (by simp only [okb, exb, dputO_eq, g_are_names] <;> rfl)
set_option maxHeartbeats 8000000 in
theorem ok_g_is_between (T : Tx P K mg a) : FnOk P w K mg base (L2.CX P w) 1 (He.ga K "is_between") a.g_is_betweenD ["one", "other", "nodes"] (spF K mg (.pr .str (.pr .str (.pr (.list .str) .nl))) (.d .bool) fun x => g_is_between x.1 x.2.1 x.2.2.1) := by
  refine fn_bodyD T.g_is_between sc_g_is_between rfl fun cdv A outer s H E hr tk po x => ?_
  have hN := sc_g_is_between.nd
  have hu := hr.units
  exact bs_cast (b_ret (r := .d .bool) (e_and (e_c2 (hm := by with_unfolding_all rfl) (c_inL .str (e_var 0 rfl (vL 0 rfl rfl rfl)) (e_var 2 rfl (vL 2 rfl rfl rfl)))) (e_and (e_c2 (hm := by with_unfolding_all rfl) (c_inL .str (e_var 1 rfl (vL 1 rfl rfl rfl)) (e_var 2 rfl (vL 2 rfl rfl rfl)))) (e_b1 (e_c2 (hm := mark_of _ rfl) (c_ne (t := .str) (ht := rfl) (hd := by decide) hu (e_var 0 rfl (vL 0 rfl rfl rfl)) (e_var 1 rfl (vL 1 rfl rfl rfl))))))) (.all rfl)) (by simp only [okb, exb, dputO_eq, g_is_between] <;> rfl)
set_option maxHeartbeats 8000000 in
theorem ok_g_are_loads (T : Tx P K mg a) : FnOk P w K mg base (L2.CX P w) 2 (He.ga K "are_loads") a.g_are_loadsD ["loads", "nodes"] (spF K mg (.pr (.list (.tup (.pr .str (.pr .str .str)))) (.pr (.list .str) .nl)) (.d .bool) fun x => g_are_loads x.1 x.2.1) := by
  refine fn_bodyD T.g_are_loads sc_g_are_loads rfl fun cdv A outer s H E hr tk po x => ?_
  have hN := sc_g_are_loads.nd
  have hu := hr.units
  exact bs_cast (bs_seqF (G := fun (s : Unit) => [.d (.list (.tup (.pr .str (.pr .str .str)))) x.1, .d (.list .str) x.2.1, .no, .no, .no]) (O := fun (y : Bool) => .rt (.d .bool) y) (j := fun y195 => y195) (hj := fun _ => rfl) (ho := fun _ => rfl) (s1_forF (hO := fun _ => rfl) (hix := fun _ => all_ix rfl) (hs := fun _ => rfl) (t := (.tup (.pr .str (.pr .str .str)))) (G := fun (s : Unit) => [.d (.list (.tup (.pr .str (.pr .str .str)))) x.1, .d (.list .str) x.2.1, .no, .no, .no]) (s0 := ()) (O := fun (y : Bool) => .rt (.d .bool) y) (f := (g_are_loads_b1 x.2.1)) po rfl (is_hid (i_list (e_var 0 rfl (vL 0 rfl rfl rfl)))) (g_tup (har := rfl) (hn := rfl) (hst := rfl) rfl (gs_cons (hs := rfl) (g_nm 2 (pg_name hN rfl (.inl rfl) (.inr rfl))) (gs_cons (hs := rfl) (g_nm 3 (pg_name hN rfl (.inl rfl) (.inr rfl))) (gs_one (ht := rfl) (hs := rfl) (g_nm 4 (pg_name hN rfl (.inl rfl) (.inr rfl))))))) (fun s189 p190 => bs_cast (bs_one (s1_if (t_not (t_of (he := fun _ => rfl) (e_call (x := "is_between") (hdb := rfl) (he := by rfl) (hpl := by rfl) (ok_g_is_between T) (hr.mono (by decide)) rfl T.glo_is_between T.g_is_between.kp T.g_is_between_b tk (ea_cons (hs := rfl) (e_var 3 rfl (vL 3 rfl rfl rfl)) (ea_cons (hs := rfl) (e_var 4 rfl (vL 4 rfl rfl rfl)) (ea_cons (hs := rfl) (e_var 1 rfl (vL 1 rfl rfl rfl)) ea_nil)))))) (bs_ret (r := .d .bool) (b := fun y192 => (Lp.out y192)) e_bool (.all rfl) (hI := fun _ => rfl)) (bs_nil (b := (Lp.go ())) rfl (.same (.same (.no (.no (.no .nil)))))))) (by simp only [okb, exb, dputO_eq, g_are_loads_b1] <;> rfl)) (.same (.same (.same (.same (.same .nil)))))) (fun s194 => b_ret (r := .d .bool) e_bool (.all rfl))) (by simp only [okb, exb, dputO_eq, g_are_loads] <;> rfl)
set_option maxHeartbeats 8000000 in
theorem ok_g_is_contact (T : Tx P K mg a) : FnOk P w K mg base (L2.CX P w) 2 (He.ga K "is_contact") a.g_is_contactD ["contact", "nodes", "movers"] (spF K mg (.pr (.tup (.pr .str (.pr .str (.pr (.opt .str) (.pr .str .str))))) (.pr (.list .str) (.pr (.list .str) .nl))) (.d .bool) fun x => g_is_contact x.1 x.2.1 x.2.2.1) := by
  refine fn_bodyD T.g_is_contact sc_g_is_contact rfl fun cdv A outer s H E hr tk po x => ?_
  have hN := sc_g_is_contact.nd
  have hu := hr.units
  exact bs_cast (bs_asg (t := (.tup (.pr .str (.pr .str (.pr (.opt .str) (.pr .str .str)))))) (hi := all_ix rfl) (hs := rfl) (hw := rfl) (h1 := rfl) (e_var 0 rfl (vL 0 rfl rfl rfl)) (.all rfl) (g_tup (har := rfl) (hn := rfl) (hst := rfl) rfl (gs_cons (hs := rfl) (g_nm 3 (pg_name hN rfl (.inl rfl) (.inr rfl))) (gs_cons (hs := rfl) (g_nm 4 (pg_name hN rfl (.inl rfl) (.inr rfl))) (gs_cons (hs := rfl) (g_nm 5 (pg_name hN rfl (.inl rfl) (.inr rfl))) (gs_cons (hs := rfl) (g_nm 6 (pg_name hN rfl (.inl rfl) (.inr rfl))) (gs_one (ht := rfl) (hs := rfl) (g_nm 7 (pg_name hN rfl (.inl rfl) (.inr rfl))))))))) (fun p201 => bs_ifR (hI := fun _ => rfl) (t_w (w_or (t_not (t_of (he := fun _ => rfl) (e_call (x := "is_between") (hdb := rfl) (he := by rfl) (hpl := by rfl) (ok_g_is_between T) (hr.mono (by decide)) rfl T.glo_is_between T.g_is_between.kp T.g_is_between_b tk (ea_cons (hs := rfl) (e_var 3 rfl (vL 3 rfl rfl rfl)) (ea_cons (hs := rfl) (e_var 4 rfl (vL 4 rfl rfl rfl)) (ea_cons (hs := rfl) (e_var 1 rfl (vL 1 rfl rfl rfl)) ea_nil)))))) (w_or (t_c2 (hm := by with_unfolding_all rfl) (c_ninT .str (e_var 6 rfl (vL 6 rfl rfl rfl)) (e_gref (t := .vtup .str) (z := ([("make" : Str), ("break" : Str)] : List Str)) (v := .ref (He.ga _ "WHENS")) rfl T.glo_WHENS rfl rfl (fun H => ⟨_, _, rfl, T.t_WHENS H, ⟨rfl, ⟨rfl, True.intro⟩⟩⟩)))) (w_or1 (t_c2 (hm := by with_unfolding_all rfl) (c_ninT .str (e_var 7 rfl (vL 7 rfl rfl rfl)) (e_gref (t := .vtup .str) (z := ([("both" : Str), ("forward" : Str)] : List Str)) (v := .ref (He.ga _ "WAYS")) rfl T.glo_WAYS rfl rfl (fun H => ⟨_, _, rfl, T.t_WAYS H, ⟨rfl, ⟨rfl, True.intro⟩⟩⟩)))))))) (b_ret (r := .d .bool) e_bool (.all rfl)) (bs_ifR (hI := fun _ => rfl) (t_c2 (hm := mark_of _ rfl) (c_isN (e_var 5 rfl (vL 5 rfl rfl rfl)))) (b_ret (r := .d .bool) (e_c2 (hm := mark_of _ rfl) (c_eq (t := .str) (ht := rfl) (hd := by decide) hu (e_var 6 rfl (vL 6 rfl rfl rfl)) e_str)) (.all rfl)) (b_ret (r := .d .bool) (e_c2 (hm := by with_unfolding_all rfl) (c_inL .str (e_get (e_var 5 rfl (vL 5 rfl rfl rfl))) (e_var 2 rfl (vL 2 rfl rfl rfl)))) (.all rfl))))) (by simp only [okb, exb, dputO_eq, g_is_contact] <;> rfl)
set_option maxHeartbeats 8000000 in
theorem ok_g_Board_init (T : Tx P K mg a) : FnOk P w K mg base (L2.CX P w) 3 (methAt K "Board" "__init__") a.g_Board_initD ["self", "nodes", "lamps", "switches", "relays", "contacts"] (spI K mg "Board" (.pr (.list .str) (.pr (.list (.tup (.pr .str (.pr .str .str)))) (.pr (.list .str) (.pr (.list (.tup (.pr .str (.pr .str .str)))) (.pr (.list (.tup (.pr .str (.pr .str (.pr (.opt .str) (.pr .str .str)))))) .nl))))) ns_Board fo_Board fun x => g_Board_init x.1 x.2.1 x.2.2.1 x.2.2.2.1 x.2.2.2.2.1) := by
  refine fn_bodyI (n := 5) T.g_Board_init sc_g_Board_init rfl rfl (by decide) fun cdv A outer s H E hr tk po x => ?_
  have hN := sc_g_Board_init.nd
  have hu := hr.units
  exact bs_cast (bs_ifL (γ := Empty) (I' := fun z => nomatch z) (fun z => nomatch z) (t_w (w_or (t_not (t_of (he := fun _ => rfl) (e_call (x := "are_names") (hdb := rfl) (he := by rfl) (hpl := by rfl) (ok_g_are_names T) (hr.mono (by decide)) rfl T.glo_are_names T.g_are_names.kp T.g_are_names_b tk (ea_cons (hs := rfl) (e_var 1 rfl (vL 1 rfl rfl rfl)) (ea_cons (hs := rfl) e_int (ea_cons (hs := rfl) (e_cval (t := .int) rfl T.glo_Board T.rd_Board (Classical.choose_spec T.cv_Board_MOST_NODES) rfl (fun _ => rfl) rfl) ea_nil)))))) (w_or1 (t_c2 (hm := mark_of _ rfl) (c_gt (e_lenL (hs := rfl) rfl T.b_len (e_var 3 rfl (vL 3 rfl rfl rfl))) (e_cval (t := .int) rfl T.glo_Board T.rd_Board (Classical.choose_spec T.cv_Board_MOST_SWITCHES) rfl (fun _ => rfl) rfl)))))) (b_raise "InvalidBoard" rfl tk T.glo_InvalidBoard (pmk_own PySem.F.excBase_ValueError T.ex_InvalidBoard.1 T.glo_InvalidBoard T.ex_InvalidBoard.2.1 (raises_own T.ex_InvalidBoard.2.2.1 T.ex_InvalidBoard.2.2.2) rfl rfl)) (b_setF (o := .l (.d .str)) 6 (e_catL (e_frz (o := .l (.d .str)) (e_listL (t := .str) (hs := rfl) rfl T.b_list (e_var 3 rfl (vL 3 rfl rfl rfl)))) (e_frz (o := .l (.d .str)) (e_lc (hs := fun _ => rfl) (his := by decide) rfl hN (own := [("relay", 8)]) (blk_by N_g_Board_init (defScope s_g_Board_init) (by decide +kernel)) (i_list (e_var 4 rfl (vL 4 rfl rfl rfl))) (fun _ _ _ _ _ => (g_nm 8 (pg_name hN rfl (.inl rfl) (.inr rfl)))) (fun relay180 _ _ _ _ _ => ts_nil) (fun relay180 _ _ _ _ _ => (e_fld (hi := rfl) (hs := fun _ _ => rfl) (e_var 8 rfl (vL 8 rfl rfl rfl)) .hd))))) (.all rfl) (fun movers_182 => bs_ifL (γ := Empty) (I' := fun z => nomatch z) (fun z => nomatch z) (t_w (w_or (t_not (t_of (he := fun _ => rfl) (e_call (x := "are_names") (hdb := rfl) (he := by rfl) (hpl := by rfl) (ok_g_are_names T) (hr.mono (by decide)) rfl T.glo_are_names T.g_are_names.kp T.g_are_names_b tk (ea_cons (hs := rfl) (e_var 6 rfl (vL 6 rfl rfl rfl)) (ea_cons (hs := rfl) e_int (ea_cons (hs := rfl) (e_add (e_cval (t := .int) rfl T.glo_Board T.rd_Board (Classical.choose_spec T.cv_Board_MOST_SWITCHES) rfl (fun _ => rfl) rfl) (e_cval (t := .int) rfl T.glo_Board T.rd_Board (Classical.choose_spec T.cv_Board_MOST_RELAYS) rfl (fun _ => rfl) rfl)) ea_nil)))))) (w_or1 (t_c2 (hm := mark_of _ rfl) (c_gt (e_lenL (hs := rfl) rfl T.b_len (e_var 4 rfl (vL 4 rfl rfl rfl))) (e_cval (t := .int) rfl T.glo_Board T.rd_Board (Classical.choose_spec T.cv_Board_MOST_RELAYS) rfl (fun _ => rfl) rfl)))))) (b_raise "InvalidBoard" rfl tk T.glo_InvalidBoard (pmk_own PySem.F.excBase_ValueError T.ex_InvalidBoard.1 T.glo_InvalidBoard T.ex_InvalidBoard.2.1 (raises_own T.ex_InvalidBoard.2.2.1 T.ex_InvalidBoard.2.2.2) rfl rfl)) (bs_ifL (γ := Empty) (I' := fun z => nomatch z) (fun z => nomatch z) (t_not (t_of (he := fun _ => rfl) (e_call (x := "are_names") (hdb := rfl) (he := by rfl) (hpl := by rfl) (ok_g_are_names T) (hr.mono (by decide)) rfl T.glo_are_names T.g_are_names.kp T.g_are_names_b tk (ea_cons (hs := rfl) (e_frz (o := .l (.d .str)) (e_lc (hs := fun _ => rfl) (his := by decide) rfl hN (own := [("lamp", 9)]) (blk_by N_g_Board_init (defScope s_g_Board_init) (by decide +kernel)) (i_list (e_var 2 rfl (vL 2 rfl rfl rfl))) (fun _ _ _ _ _ => (g_nm 9 (pg_name hN rfl (.inl rfl) (.inr rfl)))) (fun lamp185 _ _ _ _ _ => ts_nil) (fun lamp185 _ _ _ _ _ => (e_fld (hi := rfl) (hs := fun _ _ => rfl) (e_var 9 rfl (vL 9 rfl rfl rfl)) .hd)))) (ea_cons (hs := rfl) e_int (ea_cons (hs := rfl) (e_cval (t := .int) rfl T.glo_Board T.rd_Board (Classical.choose_spec T.cv_Board_MOST_LAMPS) rfl (fun _ => rfl) rfl) ea_nil)))))) (b_raise "InvalidBoard" rfl tk T.glo_InvalidBoard (pmk_own PySem.F.excBase_ValueError T.ex_InvalidBoard.1 T.glo_InvalidBoard T.ex_InvalidBoard.2.1 (raises_own T.ex_InvalidBoard.2.2.1 T.ex_InvalidBoard.2.2.2) rfl rfl)) (bs_ifL (γ := Empty) (I' := fun z => nomatch z) (fun z => nomatch z) (t_w (w_or (t_not (t_of (he := fun _ => rfl) (e_call (x := "are_loads") (hdb := rfl) (he := by rfl) (hpl := by rfl) (ok_g_are_loads T) (hr.mono (by decide)) rfl T.glo_are_loads T.g_are_loads.kp T.g_are_loads_b tk (ea_cons (hs := rfl) (e_var 4 rfl (vL 4 rfl rfl rfl)) (ea_cons (hs := rfl) (e_var 1 rfl (vL 1 rfl rfl rfl)) ea_nil))))) (w_or1 (t_not (t_of (he := fun _ => rfl) (e_call (x := "are_loads") (hdb := rfl) (he := by rfl) (hpl := by rfl) (ok_g_are_loads T) (hr.mono (by decide)) rfl T.glo_are_loads T.g_are_loads.kp T.g_are_loads_b tk (ea_cons (hs := rfl) (e_var 2 rfl (vL 2 rfl rfl rfl)) (ea_cons (hs := rfl) (e_var 1 rfl (vL 1 rfl rfl rfl)) ea_nil)))))))) (b_raise "InvalidBoard" rfl tk T.glo_InvalidBoard (pmk_own PySem.F.excBase_ValueError T.ex_InvalidBoard.1 T.glo_InvalidBoard T.ex_InvalidBoard.2.1 (raises_own T.ex_InvalidBoard.2.2.1 T.ex_InvalidBoard.2.2.2) rfl rfl)) (bs_ifL (γ := Empty) (I' := fun z => nomatch z) (fun z => nomatch z) (t_c2 (hm := mark_of _ rfl) (c_gt (e_lenL (hs := rfl) rfl T.b_len (e_var 5 rfl (vL 5 rfl rfl rfl))) (e_cval (t := .int) rfl T.glo_Board T.rd_Board (Classical.choose_spec T.cv_Board_MOST_CONTACTS) rfl (fun _ => rfl) rfl))) (b_raise "InvalidBoard" rfl tk T.glo_InvalidBoard (pmk_own PySem.F.excBase_ValueError T.ex_InvalidBoard.1 T.glo_InvalidBoard T.ex_InvalidBoard.2.1 (raises_own T.ex_InvalidBoard.2.2.1 T.ex_InvalidBoard.2.2.2) rfl rfl)) (bs_seq (G := fun (s : Unit) => [.o (.ins "Board" [] .nl) (), .d (.list .str) x.1, .d (.list (.tup (.pr .str (.pr .str .str)))) x.2.1, .d (.list .str) x.2.2.1, .d (.list (.tup (.pr .str (.pr .str .str)))) x.2.2.2.1, .d (.list (.tup (.pr .str (.pr .str (.pr (.opt .str) (.pr .str .str)))))) x.2.2.2.2.1, .d (.list .str) movers_182, .no, .no, .no]) (s1_for (hix := fun _ => all_ix rfl) (hs := fun _ => rfl) (t := (.tup (.pr .str (.pr .str (.pr (.opt .str) (.pr .str .str)))))) (G := fun (s : Unit) => [.o (.ins "Board" [] .nl) (), .d (.list .str) x.1, .d (.list (.tup (.pr .str (.pr .str .str)))) x.2.1, .d (.list .str) x.2.2.1, .d (.list (.tup (.pr .str (.pr .str .str)))) x.2.2.2.1, .d (.list (.tup (.pr .str (.pr .str (.pr (.opt .str) (.pr .str .str)))))) x.2.2.2.2.1, .d (.list .str) movers_182, .no, .no, .no]) (s0 := ()) (f := (g_Board_init_b1 x.1 movers_182)) po rfl (is_hid (i_list (e_var 5 rfl (vL 5 rfl rfl rfl)))) (g_nm 7 (pg_name hN rfl (.inl rfl) (.inr rfl))) (fun s199 contact200 => bs_cast (bs_one (s1_if (t_not (t_of (he := fun _ => rfl) (e_call (x := "is_contact") (hdb := rfl) (he := by rfl) (hpl := by rfl) (ok_g_is_contact T) (hr.mono (by decide)) rfl T.glo_is_contact T.g_is_contact.kp T.g_is_contact_b tk (ea_cons (hs := rfl) (e_var 7 rfl (vL 7 rfl rfl rfl)) (ea_cons (hs := rfl) (e_var 1 rfl (vL 1 rfl rfl rfl)) (ea_cons (hs := rfl) (e_var 6 rfl (vL 6 rfl rfl rfl)) ea_nil)))))) (b_raise "InvalidBoard" rfl tk T.glo_InvalidBoard (pmk_own PySem.F.excBase_ValueError T.ex_InvalidBoard.1 T.glo_InvalidBoard T.ex_InvalidBoard.2.1 (raises_own T.ex_InvalidBoard.2.2.1 T.ex_InvalidBoard.2.2.2) rfl rfl)) (bs_nil (b := ()) rfl (.same (.same (.same (.same (.same (.same (.same (.no (.same (.same .nil))))))))))))) (by simp only [okb, exb, dputO_eq, g_Board_init_b1] <;> rfl)) (.same (.same (.same (.same (.same (.same (.same (.same (.same (.same .nil))))))))))) (fun s208 => b_fld (t := (.vtup .str)) 0 rfl (vL 0 rfl rfl rfl) T.glo_Board T.c_Board T.na_Board_nodes rfl rfl rfl (by exact e_tupL (t := .str) (hs := rfl) rfl T.b_tuple (e_var 1 rfl (vL 1 rfl rfl rfl))) (.all rfl) (fun nodes_209 => b_fld (t := (.vtup .str)) 0 rfl (vL 0 rfl rfl rfl) T.glo_Board T.c_Board T.na_Board_switches rfl rfl rfl (by exact e_tupL (t := .str) (hs := rfl) rfl T.b_tuple (e_var 3 rfl (vL 3 rfl rfl rfl))) (.all rfl) (fun switches_210 => b_fld (t := (.vtup (.tup (.pr .str (.pr .str .str))))) 0 rfl (vL 0 rfl rfl rfl) T.glo_Board T.c_Board T.na_Board_relays rfl rfl rfl (by exact e_tupL (t := (.tup (.pr .str (.pr .str .str)))) (hs := rfl) rfl T.b_tuple (e_frz (o := .l (.d (.tup (.pr .str (.pr .str .str))))) (e_lc (hs := fun _ => rfl) (his := by decide) rfl hN (own := [("relay", 8)]) (blk_by N_g_Board_init (defScope s_g_Board_init) (by decide +kernel)) (i_list (e_var 4 rfl (vL 4 rfl rfl rfl))) (fun _ _ _ _ _ => (g_nm 8 (pg_name hN rfl (.inl rfl) (.inr rfl)))) (fun relay211 _ _ _ _ _ => ts_nil) (fun relay211 _ _ _ _ _ => (e_tupU (hs := rfl) rfl T.b_tuple (e_var 8 rfl (vL 8 rfl rfl rfl))))))) (.all rfl) (fun relays_212 => b_fld (t := (.vtup (.tup (.pr .str (.pr .str .str))))) 0 rfl (vL 0 rfl rfl rfl) T.glo_Board T.c_Board T.na_Board_lamps rfl rfl rfl (by exact e_tupL (t := (.tup (.pr .str (.pr .str .str)))) (hs := rfl) rfl T.b_tuple (e_frz (o := .l (.d (.tup (.pr .str (.pr .str .str))))) (e_lc (hs := fun _ => rfl) (his := by decide) rfl hN (own := [("lamp", 9)]) (blk_by N_g_Board_init (defScope s_g_Board_init) (by decide +kernel)) (i_list (e_var 2 rfl (vL 2 rfl rfl rfl))) (fun _ _ _ _ _ => (g_nm 9 (pg_name hN rfl (.inl rfl) (.inr rfl)))) (fun lamp213 _ _ _ _ _ => ts_nil) (fun lamp213 _ _ _ _ _ => (e_tupU (hs := rfl) rfl T.b_tuple (e_var 9 rfl (vL 9 rfl rfl rfl))))))) (.all rfl) (fun lamps_214 => b_fld (t := (.vtup (.tup (.pr .str (.pr .str (.pr (.opt .str) (.pr .str .str))))))) 0 rfl (vL 0 rfl rfl rfl) T.glo_Board T.c_Board T.na_Board_contacts rfl rfl rfl (by exact e_tupL (t := (.tup (.pr .str (.pr .str (.pr (.opt .str) (.pr .str .str)))))) (hs := rfl) rfl T.b_tuple (e_frz (o := .l (.d (.tup (.pr .str (.pr .str (.pr (.opt .str) (.pr .str .str))))))) (e_lc (hs := fun _ => rfl) (his := by decide) rfl hN (own := [("contact", 7)]) (blk_by N_g_Board_init (defScope s_g_Board_init) (by decide +kernel)) (i_list (e_var 5 rfl (vL 5 rfl rfl rfl))) (fun _ _ _ _ _ => (g_nm 7 (pg_name hN rfl (.inl rfl) (.inr rfl)))) (fun contact215 _ _ _ _ _ => ts_nil) (fun contact215 _ _ _ _ _ => (e_tupU (hs := rfl) rfl T.b_tuple (e_var 7 rfl (vL 7 rfl rfl rfl))))))) (.all rfl) (fun contacts_216 => bs_nil (b := (nodes_209, switches_210, relays_212, lamps_214, contacts_216, ())) rfl (.same (.no (.no (.no (.no (.no (.no (.same (.same (.same .nil))))))))))) rfl) rfl) rfl) rfl) rfl)) (fun z => nomatch z) (fun z => nomatch z)) (fun z => nomatch z) (fun z => nomatch z)) (fun z => nomatch z) (fun z => nomatch z)) (fun z => nomatch z) (fun z => nomatch z)) hN rfl (.inl rfl) (.inr rfl) rfl rfl rfl) (fun z => nomatch z) (fun z => nomatch z)) (by simp only [okb, exb, dputO_eq, g_Board_init] <;> rfl)
set_option maxHeartbeats 8000000 in
theorem ok_l_made (T : Tx P K mg a) : FnOk P w K mg base (L2.CX P w) 5 (He.ga K "_law_made") a.l_madeD ["_law_parts_here"] (spF K mg (.pr (.tup (.pr (.list .str) (.pr (.list .str) (.pr (.list (.tup (.pr .str (.pr .str .str)))) (.pr (.list (.tup (.pr .str (.pr .str .str)))) (.list (.tup (.pr .str (.pr .str (.pr (.opt .str) (.pr .str .str))))))))))) .nl) (.o (.ins "Board" ns_Board fo_Board)) fun x => l_made x.1) := by
  refine fn_bodyD T.l_made sc_l_made rfl fun cdv A outer s H E hr tk po x => ?_
  have hN := sc_l_made.nd
  have hu := hr.units
  exact bs_cast (b_ret (r := .o (.ins "Board" ns_Board fo_Board)) (e_newK (ts := (.pr (.list .str) (.pr (.list (.tup (.pr .str (.pr .str .str)))) (.pr (.list .str) (.pr (.list (.tup (.pr .str (.pr .str .str)))) (.pr (.list (.tup (.pr .str (.pr .str (.pr (.opt .str) (.pr .str .str)))))) .nl)))))) (us := (.pr (.list .str) (.pr (.list .str) (.pr (.list (.tup (.pr .str (.pr .str .str)))) (.pr (.list (.tup (.pr .str (.pr .str .str)))) (.pr (.list (.tup (.pr .str (.pr .str (.pr (.opt .str) (.pr .str .str)))))) .nl)))))) (π := fun y => (y.1, y.2.2.2.1, y.2.1, y.2.2.1, y.2.2.2.2.1, ())) T.mk_Board (ok_g_Board_init T) (hr.mono (by decide)) rfl T.glo_Board (Classical.choose_spec (kb_g_Board_init_1 T)) tk (fun F y zs q h => by
    obtain ⟨w0, r0, rfl, h0, w1, r1, rfl, h1, w2, r2, rfl, h2, w3, r3, rfl, h3, w4, r4, rfl, h4, rfl⟩ := h
    exact ⟨_, rfl, _, _, rfl, h0, _, _, rfl, h3, _, _, rfl, h1, _, _, rfl, h2, _, _, rfl, h4, rfl⟩) rfl (ek_cons (e_frz (o := .l (.d .str)) (e_listL (t := .str) (hs := rfl) rfl T.b_list (e_fld (hi := rfl) (hs := fun _ _ => rfl) (e_var 0 rfl (vL 0 rfl rfl rfl)) .hd))) (ek_cons (e_frz (o := .l (.d .str)) (e_listL (t := .str) (hs := rfl) rfl T.b_list (e_fld (hi := rfl) (hs := fun _ _ => rfl) (e_var 0 rfl (vL 0 rfl rfl rfl)) (.tl .hd)))) (ek_cons (e_frz (o := .l (.d (.tup (.pr .str (.pr .str .str))))) (e_listL (t := (.tup (.pr .str (.pr .str .str)))) (hs := rfl) rfl T.b_list (e_fld (hi := rfl) (hs := fun _ _ => rfl) (e_var 0 rfl (vL 0 rfl rfl rfl)) (.tl (.tl .hd))))) (ek_cons (e_frz (o := .l (.d (.tup (.pr .str (.pr .str .str))))) (e_listL (t := (.tup (.pr .str (.pr .str .str)))) (hs := rfl) rfl T.b_list (e_fld (hi := rfl) (hs := fun _ _ => rfl) (e_var 0 rfl (vL 0 rfl rfl rfl)) (.tl (.tl (.tl .hd)))))) (ek_cons (e_frz (o := .l (.d (.tup (.pr .str (.pr .str (.pr (.opt .str) (.pr .str .str))))))) (e_listL (t := (.tup (.pr .str (.pr .str (.pr (.opt .str) (.pr .str .str)))))) (hs := rfl) rfl T.b_list (e_fld (hi := rfl) (hs := fun _ _ => rfl) (e_var 0 rfl (vL 0 rfl rfl rfl)) (.tl (.tl (.tl (.tl (.last rfl)))))))) ek_nil))))) rfl rfl rfl rfl) (.all rfl)) (by simp only [okb, exb, dputO_eq, l_made] <;> rfl)
def l_lines_c5 (a_parts_here : ((List Str) × (List Str) × (List (Str × Str × Str)) × (List (Str × Str × Str)) × (List (Str × Str × (Option Str) × Str × Str)))) (s254 : (List Str)) : Mx (List Str) :=
  (loopS a_parts_here.2.2.2.2 s254 l_lines_b5) >>= fun s271 => .ok s271
set_option maxHeartbeats 8000000 in
theorem cut_l_lines_c5 (T : Tx P K mg a) (a_parts_here : ((List Str) × (List Str) × (List (Str × Str × Str)) × (List (Str × Str × Str)) × (List (Str × Str × (Option Str) × Str × Str)))) (s254 : (List Str)) : CutB P w K mg base N_l_lines "_law_lines" s_l_lines (He.ga K "_law_lines") 0 [] [.d (.tup (.pr (.list .str) (.pr (.list .str) (.pr (.list (.tup (.pr .str (.pr .str .str)))) (.pr (.list (.tup (.pr .str (.pr .str .str)))) (.list (.tup (.pr .str (.pr .str (.pr (.opt .str) (.pr .str .str))))))))))) a_parts_here, .o (.l (.d .str)) s254, .no, .no, .no, .no, .no, .no] 5 (l_lines_c5 a_parts_here s254) (fun y => .rt (.o (.l (.d .str))) y) := by
  intro cdv A outer s H E hr tk po
  have hN := sc_l_lines.nd
  have hu := hr.units
  exact bs_cast (bs_seq (G := fun (s : (List Str)) => [.d (.tup (.pr (.list .str) (.pr (.list .str) (.pr (.list (.tup (.pr .str (.pr .str .str)))) (.pr (.list (.tup (.pr .str (.pr .str .str)))) (.list (.tup (.pr .str (.pr .str (.pr (.opt .str) (.pr .str .str))))))))))) a_parts_here, .o (.l (.d .str)) s, .no, .no, .no, .no, .no, .no]) (s1_for (hix := fun _ => all_ix rfl) (hs := fun _ => rfl) (t := (.tup (.pr .str (.pr .str (.pr (.opt .str) (.pr .str .str)))))) (G := fun (s : (List Str)) => [.d (.tup (.pr (.list .str) (.pr (.list .str) (.pr (.list (.tup (.pr .str (.pr .str .str)))) (.pr (.list (.tup (.pr .str (.pr .str .str)))) (.list (.tup (.pr .str (.pr .str (.pr (.opt .str) (.pr .str .str))))))))))) a_parts_here, .o (.l (.d .str)) s, .no, .no, .no, .no, .no, .no]) (s0 := s254) (f := l_lines_b5) po rfl (is_hid (i_list (e_fld (hi := rfl) (hs := fun _ _ => rfl) (e_var 0 rfl (vL 0 rfl rfl rfl)) (.tl (.tl (.tl (.tl (.last rfl)))))))) (g_nm 6 (pg_name hN rfl (.inl rfl) (.inr rfl))) (fun s255 contact_here256 => bs_cast (b_set (r := .d (.opt .str)) 7 (e_fld (hi := rfl) (hs := fun _ _ => rfl) (e_var 6 rfl (vL 6 rfl rfl rfl)) (.tl (.tl .hd))) (.all rfl) (fun mover_257 => bs_seq (G := fun (s : (Option Str)) => [.d (.tup (.pr (.list .str) (.pr (.list .str) (.pr (.list (.tup (.pr .str (.pr .str .str)))) (.pr (.list (.tup (.pr .str (.pr .str .str)))) (.list (.tup (.pr .str (.pr .str (.pr (.opt .str) (.pr .str .str))))))))))) a_parts_here, .o (.l (.d .str)) s255, .no, .no, .no, .no, .d (.tup (.pr .str (.pr .str (.pr (.opt .str) (.pr .str .str))))) contact_here256, .d (.opt .str) s]) (s1_if (t_c2 (hm := mark_of _ rfl) (c_isN (e_var 7 rfl (vL 7 rfl rfl rfl)))) (b_set (r := .d (.opt .str)) 7 (e_some rfl e_str) (.all rfl) (fun mover_258 => bs_nil (b := mover_258) rfl (.same (.same (.same (.same (.same (.same (.same (.same .nil))))))))) hN rfl (.inl rfl) (.inr rfl) rfl rfl rfl) (bs_nil (b := mover_257) rfl (.same (.same (.same (.same (.same (.same (.same (.same .nil)))))))))) (fun s259 => bs_app 1 (t := .str) (hbase := rfl) (hfew := rfl) (hline := rfl) (hs := rfl) (hpl := rfl) rfl (vL 1 rfl rfl rfl) (e_cat (e_cat (e_cat (e_cat (e_cat (e_cat (e_cat (e_cat (e_cat e_str (e_fld (hi := rfl) (hs := fun _ _ => rfl) (e_var 6 rfl (vL 6 rfl rfl rfl)) .hd)) e_str) (e_fld (hi := rfl) (hs := fun _ _ => rfl) (e_var 6 rfl (vL 6 rfl rfl rfl)) (.tl .hd))) e_str) (e_get (e_var 7 rfl (vL 7 rfl rfl rfl)))) e_str) (e_fld (hi := rfl) (hs := fun _ _ => rfl) (e_var 6 rfl (vL 6 rfl rfl rfl)) (.tl (.tl (.tl .hd))))) e_str) (e_fld (hi := rfl) (hs := fun _ _ => rfl) (e_var 6 rfl (vL 6 rfl rfl rfl)) (.tl (.tl (.tl (.tl (.last rfl))))))) (.all rfl) (fun lines_here_269 => bs_nil (b := lines_here_269) rfl (.same (.same (.same (.same (.same (.same (.no (.no .nil))))))))))) hN rfl (.inl rfl) (.inr rfl) rfl rfl rfl) (by simp only [okb, exb, dputO_eq, l_lines_b5] <;> rfl)) (.same (.same (.same (.same (.same (.same (.same (.same .nil))))))))) (fun s271 => bs_retO 1 (b := s271) (hI := rfl) rfl (vL 1 rfl rfl rfl))) (by simp only [okb, exb, dputO_eq, l_lines_c5] <;> rfl)
set_option maxHeartbeats 8000000 in
theorem ok_l_lines (T : Tx P K mg a) : FnOk P w K mg base (L2.CX P w) 1 (He.ga K "_law_lines") a.l_linesD ["_law_parts_here"] (spF K mg (.pr (.tup (.pr (.list .str) (.pr (.list .str) (.pr (.list (.tup (.pr .str (.pr .str .str)))) (.pr (.list (.tup (.pr .str (.pr .str .str)))) (.list (.tup (.pr .str (.pr .str (.pr (.opt .str) (.pr .str .str))))))))))) .nl) (.o (.l (.d .str))) fun x => l_lines x.1) := by
  refine fn_bodyD T.l_lines sc_l_lines rfl fun cdv A outer s H E hr tk po x => ?_
  have hN := sc_l_lines.nd
  have hu := hr.units
  exact bs_cast (b_set (r := .o (.l (.d .str))) 1 (e_lst (n := 2) (hl := by decide) (el_cons (hs := rfl) e_str (el_cons (hs := rfl) e_str (el_nil (t := .str))))) (.all rfl) (fun lines_here_222 => bs_seq (G := fun (s : (List Str)) => [.d (.tup (.pr (.list .str) (.pr (.list .str) (.pr (.list (.tup (.pr .str (.pr .str .str)))) (.pr (.list (.tup (.pr .str (.pr .str .str)))) (.list (.tup (.pr .str (.pr .str (.pr (.opt .str) (.pr .str .str))))))))))) x.1, .o (.l (.d .str)) s, .no, .no, .no, .no, .no, .no]) (s1_for (hix := fun _ => all_ix rfl) (hs := fun _ => rfl) (t := .str) (G := fun (s : (List Str)) => [.d (.tup (.pr (.list .str) (.pr (.list .str) (.pr (.list (.tup (.pr .str (.pr .str .str)))) (.pr (.list (.tup (.pr .str (.pr .str .str)))) (.list (.tup (.pr .str (.pr .str (.pr (.opt .str) (.pr .str .str))))))))))) x.1, .o (.l (.d .str)) s, .no, .no, .no, .no, .no, .no]) (s0 := lines_here_222) (f := l_lines_b1) po rfl (is_hid (i_list (e_fld (hi := rfl) (hs := fun _ _ => rfl) (e_var 0 rfl (vL 0 rfl rfl rfl)) .hd))) (g_nm 2 (pg_name hN rfl (.inl rfl) (.inr rfl))) (fun s223 node224 => bs_cast (bs_setI 1 (t := .str) rfl (vL 1 rfl rfl rfl) (e_cat (e_cat (e_ixL (hs := fun _ _ => rfl) (e_own 1 (o := .l (.d .str)) rfl (vL 1 rfl rfl rfl)) e_int) e_str) (e_var 2 rfl (vL 2 rfl rfl rfl))) (.all rfl) e_int (.all rfl) (fun lines_here_227 => bs_nil (b := lines_here_227) rfl (.same (.same (.no (.same (.same (.same (.same (.same .nil))))))))) (fun _ => rfl) rfl rfl rfl) (by simp only [okb, exb, dputO_eq, l_lines_b1] <;> rfl)) (.same (.same (.same (.same (.same (.same (.same (.same .nil))))))))) (fun s229 => bs_seq (G := fun (s : (List Str)) => [.d (.tup (.pr (.list .str) (.pr (.list .str) (.pr (.list (.tup (.pr .str (.pr .str .str)))) (.pr (.list (.tup (.pr .str (.pr .str .str)))) (.list (.tup (.pr .str (.pr .str (.pr (.opt .str) (.pr .str .str))))))))))) x.1, .o (.l (.d .str)) s, .no, .no, .no, .no, .no, .no]) (s1_for (hix := fun _ => all_ix rfl) (hs := fun _ => rfl) (t := .str) (G := fun (s : (List Str)) => [.d (.tup (.pr (.list .str) (.pr (.list .str) (.pr (.list (.tup (.pr .str (.pr .str .str)))) (.pr (.list (.tup (.pr .str (.pr .str .str)))) (.list (.tup (.pr .str (.pr .str (.pr (.opt .str) (.pr .str .str))))))))))) x.1, .o (.l (.d .str)) s, .no, .no, .no, .no, .no, .no]) (s0 := s229) (f := l_lines_b2) po rfl (is_hid (i_list (e_fld (hi := rfl) (hs := fun _ _ => rfl) (e_var 0 rfl (vL 0 rfl rfl rfl)) (.tl .hd)))) (g_nm 3 (pg_name hN rfl (.inl rfl) (.inr rfl))) (fun s230 switch231 => bs_cast (bs_setI 1 (t := .str) rfl (vL 1 rfl rfl rfl) (e_cat (e_cat (e_ixL (hs := fun _ _ => rfl) (e_own 1 (o := .l (.d .str)) rfl (vL 1 rfl rfl rfl)) e_int) e_str) (e_var 3 rfl (vL 3 rfl rfl rfl))) (.all rfl) e_int (.all rfl) (fun lines_here_234 => bs_nil (b := lines_here_234) rfl (.same (.same (.same (.no (.same (.same (.same (.same .nil))))))))) (fun _ => rfl) rfl rfl rfl) (by simp only [okb, exb, dputO_eq, l_lines_b2] <;> rfl)) (.same (.same (.same (.same (.same (.same (.same (.same .nil))))))))) (fun s236 => bs_seq (G := fun (s : (List Str)) => [.d (.tup (.pr (.list .str) (.pr (.list .str) (.pr (.list (.tup (.pr .str (.pr .str .str)))) (.pr (.list (.tup (.pr .str (.pr .str .str)))) (.list (.tup (.pr .str (.pr .str (.pr (.opt .str) (.pr .str .str))))))))))) x.1, .o (.l (.d .str)) s, .no, .no, .no, .no, .no, .no]) (s1_for (hix := fun _ => all_ix rfl) (hs := fun _ => rfl) (t := (.tup (.pr .str (.pr .str .str)))) (G := fun (s : (List Str)) => [.d (.tup (.pr (.list .str) (.pr (.list .str) (.pr (.list (.tup (.pr .str (.pr .str .str)))) (.pr (.list (.tup (.pr .str (.pr .str .str)))) (.list (.tup (.pr .str (.pr .str (.pr (.opt .str) (.pr .str .str))))))))))) x.1, .o (.l (.d .str)) s, .no, .no, .no, .no, .no, .no]) (s0 := s236) (f := l_lines_b3) po rfl (is_hid (i_list (e_fld (hi := rfl) (hs := fun _ _ => rfl) (e_var 0 rfl (vL 0 rfl rfl rfl)) (.tl (.tl .hd))))) (g_nm 4 (pg_name hN rfl (.inl rfl) (.inr rfl))) (fun s237 relay238 => bs_cast (bs_app 1 (t := .str) (hbase := rfl) (hfew := rfl) (hline := rfl) (hs := rfl) (hpl := rfl) rfl (vL 1 rfl rfl rfl) (e_cat (e_cat (e_cat (e_cat (e_cat e_str (e_fld (hi := rfl) (hs := fun _ _ => rfl) (e_var 4 rfl (vL 4 rfl rfl rfl)) .hd)) e_str) (e_fld (hi := rfl) (hs := fun _ _ => rfl) (e_var 4 rfl (vL 4 rfl rfl rfl)) (.tl .hd))) e_str) (e_fld (hi := rfl) (hs := fun _ _ => rfl) (e_var 4 rfl (vL 4 rfl rfl rfl)) (.tl (.tl (.last rfl))))) (.all rfl) (fun lines_here_243 => bs_nil (b := lines_here_243) rfl (.same (.same (.same (.same (.no (.same (.same (.same .nil)))))))))) (by simp only [okb, exb, dputO_eq, l_lines_b3] <;> rfl)) (.same (.same (.same (.same (.same (.same (.same (.same .nil))))))))) (fun s245 => bs_seq (G := fun (s : (List Str)) => [.d (.tup (.pr (.list .str) (.pr (.list .str) (.pr (.list (.tup (.pr .str (.pr .str .str)))) (.pr (.list (.tup (.pr .str (.pr .str .str)))) (.list (.tup (.pr .str (.pr .str (.pr (.opt .str) (.pr .str .str))))))))))) x.1, .o (.l (.d .str)) s, .no, .no, .no, .no, .no, .no]) (s1_for (hix := fun _ => all_ix rfl) (hs := fun _ => rfl) (t := (.tup (.pr .str (.pr .str .str)))) (G := fun (s : (List Str)) => [.d (.tup (.pr (.list .str) (.pr (.list .str) (.pr (.list (.tup (.pr .str (.pr .str .str)))) (.pr (.list (.tup (.pr .str (.pr .str .str)))) (.list (.tup (.pr .str (.pr .str (.pr (.opt .str) (.pr .str .str))))))))))) x.1, .o (.l (.d .str)) s, .no, .no, .no, .no, .no, .no]) (s0 := s245) (f := l_lines_b4) po rfl (is_hid (i_list (e_fld (hi := rfl) (hs := fun _ _ => rfl) (e_var 0 rfl (vL 0 rfl rfl rfl)) (.tl (.tl (.tl .hd)))))) (g_nm 5 (pg_name hN rfl (.inl rfl) (.inr rfl))) (fun s246 lamp247 => bs_cast (bs_app 1 (t := .str) (hbase := rfl) (hfew := rfl) (hline := rfl) (hs := rfl) (hpl := rfl) rfl (vL 1 rfl rfl rfl) (e_cat (e_cat (e_cat (e_cat (e_cat e_str (e_fld (hi := rfl) (hs := fun _ _ => rfl) (e_var 5 rfl (vL 5 rfl rfl rfl)) .hd)) e_str) (e_fld (hi := rfl) (hs := fun _ _ => rfl) (e_var 5 rfl (vL 5 rfl rfl rfl)) (.tl .hd))) e_str) (e_fld (hi := rfl) (hs := fun _ _ => rfl) (e_var 5 rfl (vL 5 rfl rfl rfl)) (.tl (.tl (.last rfl))))) (.all rfl) (fun lines_here_252 => bs_nil (b := lines_here_252) rfl (.same (.same (.same (.same (.same (.no (.same (.same .nil)))))))))) (by simp only [okb, exb, dputO_eq, l_lines_b4] <;> rfl)) (.same (.same (.same (.same (.same (.same (.same (.same .nil))))))))) (fun s254 => (cut_l_lines_c5 T x.1 s254 cdv A outer s H E hr tk po)))))) hN rfl (.inl rfl) (.inr rfl) rfl rfl rfl) (by simp only [okb, exb, dputO_eq, l_lines, l_lines_c5] <;> ((try delta l_lines_c5); (try simp only [okb, exb, dputO_eq]) <;> (first | with_reducible rfl | rfl)))
set_option maxHeartbeats 8000000 in
theorem ok_g_format_board (T : Tx P K mg a) : FnOk P w K mg base (L2.CX P w) 1 (He.ga K "format_board") a.g_format_boardD ["board"] (spF K mg (.pr (.ins "Board" ns_Board fo_Board.ty) .nl) (.d .str) fun x => g_format_board x.1) := by
  refine fn_bodyD T.g_format_board sc_g_format_board rfl fun cdv A outer s H E hr tk po x => ?_
  have hN := sc_g_format_board.nd
  have hu := hr.units
  exact bs_cast (b_set (r := .o (.l (.d .str))) 1 (e_lst (n := 2) (hl := by decide) (el_cons (hs := rfl) (e_join (hs := rfl) (hbase := rfl) (hline := rfl) e_str (e_frz (o := .l (.d .str)) (e_star (t := .str) (hs := rfl) (hs2 := rfl) e_str (e_attr (t := (.vtup .str)) (n := 0) T.glo_Board T.c_Board T.na_Board_nodes rfl .hd (e_var 0 rfl (vL 0 rfl rfl rfl)) rfl)))) (el_cons (hs := rfl) (e_join (hs := rfl) (hbase := rfl) (hline := rfl) e_str (e_frz (o := .l (.d .str)) (e_star (t := .str) (hs := rfl) (hs2 := rfl) e_str (e_attr (t := (.vtup .str)) (n := 1) T.glo_Board T.c_Board T.na_Board_switches rfl (.tl .hd) (e_var 0 rfl (vL 0 rfl rfl rfl)) rfl)))) (el_nil (t := .str))))) (.all rfl) (fun lines_279 => bs_seq (G := fun (s : (List Str)) => [.d (.ins "Board" ns_Board fo_Board.ty) x.1, .o (.l (.d .str)) s, .no, .no, .no, .no, .no, .no, .no]) (s1_for (hix := fun _ => all_ix rfl) (hs := fun _ => rfl) (t := (.tup (.pr .str (.pr .str .str)))) (G := fun (s : (List Str)) => [.d (.ins "Board" ns_Board fo_Board.ty) x.1, .o (.l (.d .str)) s, .no, .no, .no, .no, .no, .no, .no]) (s0 := lines_279) (f := g_format_board_b1) po rfl (is_hid (i_vtup (e_attr (t := (.vtup (.tup (.pr .str (.pr .str .str))))) (n := 2) T.glo_Board T.c_Board T.na_Board_relays rfl (.tl (.tl .hd)) (e_var 0 rfl (vL 0 rfl rfl rfl)) rfl))) (g_tup (har := rfl) (hn := rfl) (hst := rfl) rfl (gs_cons (hs := rfl) (g_nm 2 (pg_name hN rfl (.inl rfl) (.inr rfl))) (gs_cons (hs := rfl) (g_nm 3 (pg_name hN rfl (.inl rfl) (.inr rfl))) (gs_one (ht := rfl) (hs := rfl) (g_nm 4 (pg_name hN rfl (.inl rfl) (.inr rfl))))))) (fun s280 p281 => bs_cast (bs_app 1 (t := .str) (hbase := rfl) (hfew := rfl) (hline := rfl) (hs := rfl) (hpl := rfl) rfl (vL 1 rfl rfl rfl) (e_fs (ej_con e_str (ej_val (e_var 2 rfl (vL 2 rfl rfl rfl)) (ej_con e_str (ej_val (e_var 3 rfl (vL 3 rfl rfl rfl)) (ej_con e_str (ej_val (e_var 4 rfl (vL 4 rfl rfl rfl)) ej_nil))))))) (.all rfl) (fun lines_288 => bs_nil (b := lines_288) rfl (.same (.same (.no (.no (.no (.same (.same (.same (.same .nil))))))))))) (by simp only [okb, exb, dputO_eq, g_format_board_b1] <;> rfl)) (.same (.same (.same (.same (.same (.same (.same (.same (.same .nil)))))))))) (fun s290 => bs_seq (G := fun (s : (List Str)) => [.d (.ins "Board" ns_Board fo_Board.ty) x.1, .o (.l (.d .str)) s, .no, .no, .no, .no, .no, .no, .no]) (s1_for (hix := fun _ => all_ix rfl) (hs := fun _ => rfl) (t := (.tup (.pr .str (.pr .str .str)))) (G := fun (s : (List Str)) => [.d (.ins "Board" ns_Board fo_Board.ty) x.1, .o (.l (.d .str)) s, .no, .no, .no, .no, .no, .no, .no]) (s0 := s290) (f := g_format_board_b2) po rfl (is_hid (i_vtup (e_attr (t := (.vtup (.tup (.pr .str (.pr .str .str))))) (n := 3) T.glo_Board T.c_Board T.na_Board_lamps rfl (.tl (.tl (.tl .hd))) (e_var 0 rfl (vL 0 rfl rfl rfl)) rfl))) (g_tup (har := rfl) (hn := rfl) (hst := rfl) rfl (gs_cons (hs := rfl) (g_nm 2 (pg_name hN rfl (.inl rfl) (.inr rfl))) (gs_cons (hs := rfl) (g_nm 3 (pg_name hN rfl (.inl rfl) (.inr rfl))) (gs_one (ht := rfl) (hs := rfl) (g_nm 4 (pg_name hN rfl (.inl rfl) (.inr rfl))))))) (fun s291 p292 => bs_cast (bs_app 1 (t := .str) (hbase := rfl) (hfew := rfl) (hline := rfl) (hs := rfl) (hpl := rfl) rfl (vL 1 rfl rfl rfl) (e_fs (ej_con e_str (ej_val (e_var 2 rfl (vL 2 rfl rfl rfl)) (ej_con e_str (ej_val (e_var 3 rfl (vL 3 rfl rfl rfl)) (ej_con e_str (ej_val (e_var 4 rfl (vL 4 rfl rfl rfl)) ej_nil))))))) (.all rfl) (fun lines_299 => bs_nil (b := lines_299) rfl (.same (.same (.no (.no (.no (.same (.same (.same (.same .nil))))))))))) (by simp only [okb, exb, dputO_eq, g_format_board_b2] <;> rfl)) (.same (.same (.same (.same (.same (.same (.same (.same (.same .nil)))))))))) (fun s301 => bs_seq (G := fun (s : (List Str)) => [.d (.ins "Board" ns_Board fo_Board.ty) x.1, .o (.l (.d .str)) s, .no, .no, .no, .no, .no, .no, .no]) (s1_for (hix := fun _ => all_ix rfl) (hs := fun _ => rfl) (t := (.tup (.pr .str (.pr .str (.pr (.opt .str) (.pr .str .str)))))) (G := fun (s : (List Str)) => [.d (.ins "Board" ns_Board fo_Board.ty) x.1, .o (.l (.d .str)) s, .no, .no, .no, .no, .no, .no, .no]) (s0 := s301) (f := g_format_board_b3) po rfl (is_hid (i_vtup (e_attr (t := (.vtup (.tup (.pr .str (.pr .str (.pr (.opt .str) (.pr .str .str))))))) (n := 4) T.glo_Board T.c_Board T.na_Board_contacts rfl (.tl (.tl (.tl (.tl .hd)))) (e_var 0 rfl (vL 0 rfl rfl rfl)) rfl))) (g_tup (har := rfl) (hn := rfl) (hst := rfl) rfl (gs_cons (hs := rfl) (g_nm 3 (pg_name hN rfl (.inl rfl) (.inr rfl))) (gs_cons (hs := rfl) (g_nm 4 (pg_name hN rfl (.inl rfl) (.inr rfl))) (gs_cons (hs := rfl) (g_nm 5 (pg_name hN rfl (.inl rfl) (.inr rfl))) (gs_cons (hs := rfl) (g_nm 6 (pg_name hN rfl (.inl rfl) (.inr rfl))) (gs_one (ht := rfl) (hs := rfl) (g_nm 7 (pg_name hN rfl (.inl rfl) (.inr rfl))))))))) (fun s302 p303 => bs_cast (b_set (r := .d (.opt .str)) 8 (e_var 5 rfl (vL 5 rfl rfl rfl)) (.all rfl) (fun word_304 => bs_seq (G := fun (s : (Option Str)) => [.d (.ins "Board" ns_Board fo_Board.ty) x.1, .o (.l (.d .str)) s302, .no, .d .str p303.1, .d .str p303.2.1, .d (.opt .str) p303.2.2.1, .d .str p303.2.2.2.1, .d .str p303.2.2.2.2, .d (.opt .str) s]) (s1_if (t_c2 (hm := mark_of _ rfl) (c_isN (e_var 5 rfl (vL 5 rfl rfl rfl)))) (b_set (r := .d (.opt .str)) 8 (e_some rfl e_str) (.all rfl) (fun word_305 => bs_nil (b := word_305) rfl (.same (.same (.same (.same (.same (.same (.same (.same (.same .nil)))))))))) hN rfl (.inl rfl) (.inr rfl) rfl rfl rfl) (bs_nil (b := word_304) rfl (.same (.same (.same (.same (.same (.same (.same (.same (.same .nil))))))))))) (fun s306 => bs_app 1 (t := .str) (hbase := rfl) (hfew := rfl) (hline := rfl) (hs := rfl) (hpl := rfl) rfl (vL 1 rfl rfl rfl) (e_fs (ej_con e_str (ej_val (e_var 3 rfl (vL 3 rfl rfl rfl)) (ej_con e_str (ej_val (e_var 4 rfl (vL 4 rfl rfl rfl)) (ej_con e_str (ej_val (e_get (e_var 8 rfl (vL 8 rfl rfl rfl))) (ej_con e_str (ej_val (e_var 6 rfl (vL 6 rfl rfl rfl)) (ej_con e_str (ej_val (e_var 7 rfl (vL 7 rfl rfl rfl)) ej_nil))))))))))) (.all rfl) (fun lines_318 => bs_nil (b := lines_318) rfl (.same (.same (.same (.no (.no (.no (.no (.no (.no .nil)))))))))))) hN rfl (.inl rfl) (.inr rfl) rfl rfl rfl) (by simp only [okb, exb, dputO_eq, g_format_board_b3] <;> rfl)) (.same (.same (.same (.same (.same (.same (.same (.same (.same .nil)))))))))) (fun s320 => b_ret (r := .d .str) (e_join (hs := rfl) (hbase := rfl) (hline := rfl) e_str (e_own 1 (o := .l (.d .str)) rfl (vL 1 rfl rfl rfl))) (.all rfl))))) hN rfl (.inl rfl) (.inr rfl) rfl rfl rfl) (by simp only [okb, exb, dputO_eq, g_format_board] <;> rfl)
set_option maxHeartbeats 8000000 in
theorem ok_g_are_names_2 (T : Tx P K mg a) : FnOk P w K mg base (L2.CX P w) 2 (He.ga K "are_names") a.g_are_namesD ["names", "least", "most"] (spF K mg (.pr (.vtup .str) (.pr .int (.pr .int .nl))) (.d .bool) fun x => g_are_names_2 x.1 x.2.1 x.2.2.1) := by
  refine fn_bodyD T.g_are_names sc_g_are_names rfl fun cdv A outer s H E hr tk po x => ?_
  have hN := sc_g_are_names.nd
  have hu := hr.units
  exact bs_cast (bs_ifR (hI := fun _ => rfl) (t_not (t_chain (p1 := fun i j => decide (i ≤ j)) (p2 := fun i j => decide (i ≤ j)) op_le op_le (by with_unfolding_all rfl) (e_var 1 rfl (vL 1 rfl rfl rfl)) (e_lenT (hs := rfl) rfl T.b_len (e_var 0 rfl (vL 0 rfl rfl rfl))) (e_var 2 rfl (vL 2 rfl rfl rfl)))) (b_ret (r := .d .bool) e_bool (.all rfl)) (bs_seqF (G := fun (s : Unit) => [.d (.vtup .str) x.1, .d .int x.2.1, .d .int x.2.2.1, .no, .no]) (O := fun (y : Bool) => .rt (.d .bool) y) (j := fun y337 => y337) (hj := fun _ => rfl) (ho := fun _ => rfl) (s1_forF (hO := fun _ => rfl) (hix := fun _ => all_ix rfl) (hs := fun _ => rfl) (t := (.tup (.pr .int .str))) (G := fun (s : Unit) => [.d (.vtup .str) x.1, .d .int x.2.1, .d .int x.2.2.1, .no, .no]) (s0 := ()) (O := fun (y : Bool) => .rt (.d .bool) y) (f := (g_are_names_2_b1 x.1)) po rfl (is_hid (i_enumT rfl T.b_enumerate (e_var 0 rfl (vL 0 rfl rfl rfl)) rfl)) (g_tup (har := rfl) (hn := rfl) (hst := rfl) rfl (gs_cons (hs := rfl) (g_nm 3 (pg_name hN rfl (.inl rfl) (.inr rfl))) (gs_one (ht := rfl) (hs := rfl) (g_nm 4 (pg_name hN rfl (.inl rfl) (.inr rfl)))))) (fun s330 p331 => bs_cast (bs_one (s1_if (t_w (w_or (t_not (t_of (he := fun _ => rfl) (e_smet rfl T.glo_Board T.rd_Board T.st_Board_is_name (ok_g_Board_is_name T) (hr.mono (by decide)) T.g_Board_is_name_b tk rfl (ea_cons (hs := rfl) (e_var 4 rfl (vL 4 rfl rfl rfl)) ea_nil) rfl rfl rfl))) (w_or1 (t_c2 (hm := by with_unfolding_all rfl) (c_inT .str (e_var 4 rfl (vL 4 rfl rfl rfl)) (e_slT (e_var 0 rfl (vL 0 rfl rfl rfl)) p_none (p_some (e_var 3 rfl (vL 3 rfl rfl rfl))))))))) (bs_ret (r := .d .bool) (b := fun y334 => (Lp.out y334)) e_bool (.all rfl) (hI := fun _ => rfl)) (bs_nil (b := (Lp.go ())) rfl (.same (.same (.same (.no (.no .nil)))))))) (by simp only [okb, exb, dputO_eq, g_are_names_2_b1] <;> rfl)) (.same (.same (.same (.same (.same .nil)))))) (fun s336 => b_ret (r := .d .bool) e_bool (.all rfl)))) (by simp only [okb, exb, dputO_eq, g_are_names_2] <;> rfl)
set_option maxHeartbeats 8000000 in
theorem ok_g_is_between_2 (T : Tx P K mg a) : FnOk P w K mg base (L2.CX P w) 1 (He.ga K "is_between") a.g_is_betweenD ["one", "other", "nodes"] (spF K mg (.pr .str (.pr .str (.pr (.vtup .str) .nl))) (.d .bool) fun x => g_is_between_2 x.1 x.2.1 x.2.2.1) := by
  refine fn_bodyD T.g_is_between sc_g_is_between rfl fun cdv A outer s H E hr tk po x => ?_
  have hN := sc_g_is_between.nd
  have hu := hr.units
  exact bs_cast (b_ret (r := .d .bool) (e_and (e_c2 (hm := by with_unfolding_all rfl) (c_inT .str (e_var 0 rfl (vL 0 rfl rfl rfl)) (e_var 2 rfl (vL 2 rfl rfl rfl)))) (e_and (e_c2 (hm := by with_unfolding_all rfl) (c_inT .str (e_var 1 rfl (vL 1 rfl rfl rfl)) (e_var 2 rfl (vL 2 rfl rfl rfl)))) (e_b1 (e_c2 (hm := mark_of _ rfl) (c_ne (t := .str) (ht := rfl) (hd := by decide) hu (e_var 0 rfl (vL 0 rfl rfl rfl)) (e_var 1 rfl (vL 1 rfl rfl rfl))))))) (.all rfl)) (by simp only [okb, exb, dputO_eq, g_is_between_2] <;> rfl)
set_option maxHeartbeats 8000000 in
theorem ok_g_are_loads_2 (T : Tx P K mg a) : FnOk P w K mg base (L2.CX P w) 2 (He.ga K "are_loads") a.g_are_loadsD ["loads", "nodes"] (spF K mg (.pr (.vtup (.tup (.pr .str (.pr .str .str)))) (.pr (.vtup .str) .nl)) (.d .bool) fun x => g_are_loads_2 x.1 x.2.1) := by
  refine fn_bodyD T.g_are_loads sc_g_are_loads rfl fun cdv A outer s H E hr tk po x => ?_
  have hN := sc_g_are_loads.nd
  have hu := hr.units
  exact bs_cast (bs_seqF (G := fun (s : Unit) => [.d (.vtup (.tup (.pr .str (.pr .str .str)))) x.1, .d (.vtup .str) x.2.1, .no, .no, .no]) (O := fun (y : Bool) => .rt (.d .bool) y) (j := fun y356 => y356) (hj := fun _ => rfl) (ho := fun _ => rfl) (s1_forF (hO := fun _ => rfl) (hix := fun _ => all_ix rfl) (hs := fun _ => rfl) (t := (.tup (.pr .str (.pr .str .str)))) (G := fun (s : Unit) => [.d (.vtup (.tup (.pr .str (.pr .str .str)))) x.1, .d (.vtup .str) x.2.1, .no, .no, .no]) (s0 := ()) (O := fun (y : Bool) => .rt (.d .bool) y) (f := (g_are_loads_2_b1 x.2.1)) po rfl (is_hid (i_vtup (e_var 0 rfl (vL 0 rfl rfl rfl)))) (g_tup (har := rfl) (hn := rfl) (hst := rfl) rfl (gs_cons (hs := rfl) (g_nm 2 (pg_name hN rfl (.inl rfl) (.inr rfl))) (gs_cons (hs := rfl) (g_nm 3 (pg_name hN rfl (.inl rfl) (.inr rfl))) (gs_one (ht := rfl) (hs := rfl) (g_nm 4 (pg_name hN rfl (.inl rfl) (.inr rfl))))))) (fun s350 p351 => bs_cast (bs_one (s1_if (t_not (t_of (he := fun _ => rfl) (e_call (x := "is_between") (hdb := rfl) (he := by rfl) (hpl := by rfl) (ok_g_is_between_2 T) (hr.mono (by decide)) rfl T.glo_is_between T.g_is_between.kp T.g_is_between_b tk (ea_cons (hs := rfl) (e_var 3 rfl (vL 3 rfl rfl rfl)) (ea_cons (hs := rfl) (e_var 4 rfl (vL 4 rfl rfl rfl)) (ea_cons (hs := rfl) (e_var 1 rfl (vL 1 rfl rfl rfl)) ea_nil)))))) (bs_ret (r := .d .bool) (b := fun y353 => (Lp.out y353)) e_bool (.all rfl) (hI := fun _ => rfl)) (bs_nil (b := (Lp.go ())) rfl (.same (.same (.no (.no (.no .nil)))))))) (by simp only [okb, exb, dputO_eq, g_are_loads_2_b1] <;> rfl)) (.same (.same (.same (.same (.same .nil)))))) (fun s355 => b_ret (r := .d .bool) e_bool (.all rfl))) (by simp only [okb, exb, dputO_eq, g_are_loads_2] <;> rfl)
set_option maxHeartbeats 8000000 in
theorem ok_g_is_contact_2 (T : Tx P K mg a) : FnOk P w K mg base (L2.CX P w) 2 (He.ga K "is_contact") a.g_is_contactD ["contact", "nodes", "movers"] (spF K mg (.pr (.tup (.pr .str (.pr .str (.pr (.opt .str) (.pr .str .str))))) (.pr (.vtup .str) (.pr (.list .str) .nl))) (.d .bool) fun x => g_is_contact_2 x.1 x.2.1 x.2.2.1) := by
  refine fn_bodyD T.g_is_contact sc_g_is_contact rfl fun cdv A outer s H E hr tk po x => ?_
  have hN := sc_g_is_contact.nd
  have hu := hr.units
  exact bs_cast (bs_asg (t := (.tup (.pr .str (.pr .str (.pr (.opt .str) (.pr .str .str)))))) (hi := all_ix rfl) (hs := rfl) (hw := rfl) (h1 := rfl) (e_var 0 rfl (vL 0 rfl rfl rfl)) (.all rfl) (g_tup (har := rfl) (hn := rfl) (hst := rfl) rfl (gs_cons (hs := rfl) (g_nm 3 (pg_name hN rfl (.inl rfl) (.inr rfl))) (gs_cons (hs := rfl) (g_nm 4 (pg_name hN rfl (.inl rfl) (.inr rfl))) (gs_cons (hs := rfl) (g_nm 5 (pg_name hN rfl (.inl rfl) (.inr rfl))) (gs_cons (hs := rfl) (g_nm 6 (pg_name hN rfl (.inl rfl) (.inr rfl))) (gs_one (ht := rfl) (hs := rfl) (g_nm 7 (pg_name hN rfl (.inl rfl) (.inr rfl))))))))) (fun p362 => bs_ifR (hI := fun _ => rfl) (t_w (w_or (t_not (t_of (he := fun _ => rfl) (e_call (x := "is_between") (hdb := rfl) (he := by rfl) (hpl := by rfl) (ok_g_is_between_2 T) (hr.mono (by decide)) rfl T.glo_is_between T.g_is_between.kp T.g_is_between_b tk (ea_cons (hs := rfl) (e_var 3 rfl (vL 3 rfl rfl rfl)) (ea_cons (hs := rfl) (e_var 4 rfl (vL 4 rfl rfl rfl)) (ea_cons (hs := rfl) (e_var 1 rfl (vL 1 rfl rfl rfl)) ea_nil)))))) (w_or (t_c2 (hm := by with_unfolding_all rfl) (c_ninT .str (e_var 6 rfl (vL 6 rfl rfl rfl)) (e_gref (t := .vtup .str) (z := ([("make" : Str), ("break" : Str)] : List Str)) (v := .ref (He.ga _ "WHENS")) rfl T.glo_WHENS rfl rfl (fun H => ⟨_, _, rfl, T.t_WHENS H, ⟨rfl, ⟨rfl, True.intro⟩⟩⟩)))) (w_or1 (t_c2 (hm := by with_unfolding_all rfl) (c_ninT .str (e_var 7 rfl (vL 7 rfl rfl rfl)) (e_gref (t := .vtup .str) (z := ([("both" : Str), ("forward" : Str)] : List Str)) (v := .ref (He.ga _ "WAYS")) rfl T.glo_WAYS rfl rfl (fun H => ⟨_, _, rfl, T.t_WAYS H, ⟨rfl, ⟨rfl, True.intro⟩⟩⟩)))))))) (b_ret (r := .d .bool) e_bool (.all rfl)) (bs_ifR (hI := fun _ => rfl) (t_c2 (hm := mark_of _ rfl) (c_isN (e_var 5 rfl (vL 5 rfl rfl rfl)))) (b_ret (r := .d .bool) (e_c2 (hm := mark_of _ rfl) (c_eq (t := .str) (ht := rfl) (hd := by decide) hu (e_var 6 rfl (vL 6 rfl rfl rfl)) e_str)) (.all rfl)) (b_ret (r := .d .bool) (e_c2 (hm := by with_unfolding_all rfl) (c_inL .str (e_get (e_var 5 rfl (vL 5 rfl rfl rfl))) (e_var 2 rfl (vL 2 rfl rfl rfl)))) (.all rfl))))) (by simp only [okb, exb, dputO_eq, g_is_contact_2] <;> rfl)
set_option maxHeartbeats 8000000 in
theorem ok_g_Board_init_2 (T : Tx P K mg a) : FnOk P w K mg base (L2.CX P w) 3 (methAt K "Board" "__init__") a.g_Board_initD ["self", "nodes", "lamps", "switches", "relays", "contacts"] (spI K mg "Board" (.pr (.vtup .str) (.pr (.vtup (.tup (.pr .str (.pr .str .str)))) (.pr (.vtup .str) (.pr (.vtup (.tup (.pr .str (.pr .str .str)))) (.pr (.list (.tup (.pr .str (.pr .str (.pr (.opt .str) (.pr .str .str)))))) .nl))))) ns_Board fo_Board fun x => g_Board_init_2 x.1 x.2.1 x.2.2.1 x.2.2.2.1 x.2.2.2.2.1) := by
  refine fn_bodyI (n := 5) T.g_Board_init sc_g_Board_init rfl rfl (by decide) fun cdv A outer s H E hr tk po x => ?_
  have hN := sc_g_Board_init.nd
  have hu := hr.units
  exact bs_cast (bs_ifL (γ := Empty) (I' := fun z => nomatch z) (fun z => nomatch z) (t_w (w_or (t_not (t_of (he := fun _ => rfl) (e_call (x := "are_names") (hdb := rfl) (he := by rfl) (hpl := by rfl) (ok_g_are_names_2 T) (hr.mono (by decide)) rfl T.glo_are_names T.g_are_names.kp T.g_are_names_b tk (ea_cons (hs := rfl) (e_var 1 rfl (vL 1 rfl rfl rfl)) (ea_cons (hs := rfl) e_int (ea_cons (hs := rfl) (e_cval (t := .int) rfl T.glo_Board T.rd_Board (Classical.choose_spec T.cv_Board_MOST_NODES) rfl (fun _ => rfl) rfl) ea_nil)))))) (w_or1 (t_c2 (hm := mark_of _ rfl) (c_gt (e_lenT (hs := rfl) rfl T.b_len (e_var 3 rfl (vL 3 rfl rfl rfl))) (e_cval (t := .int) rfl T.glo_Board T.rd_Board (Classical.choose_spec T.cv_Board_MOST_SWITCHES) rfl (fun _ => rfl) rfl)))))) (b_raise "InvalidBoard" rfl tk T.glo_InvalidBoard (pmk_own PySem.F.excBase_ValueError T.ex_InvalidBoard.1 T.glo_InvalidBoard T.ex_InvalidBoard.2.1 (raises_own T.ex_InvalidBoard.2.2.1 T.ex_InvalidBoard.2.2.2) rfl rfl)) (b_setF (o := .l (.d .str)) 6 (e_catL (e_frz (o := .l (.d .str)) (e_listT (t := .str) (hs := rfl) rfl T.b_list (e_var 3 rfl (vL 3 rfl rfl rfl)))) (e_frz (o := .l (.d .str)) (e_lc (hs := fun _ => rfl) (his := by decide) rfl hN (own := [("relay", 8)]) (blk_by N_g_Board_init (defScope s_g_Board_init) (by decide +kernel)) (i_vtup (e_var 4 rfl (vL 4 rfl rfl rfl))) (fun _ _ _ _ _ => (g_nm 8 (pg_name hN rfl (.inl rfl) (.inr rfl)))) (fun relay341 _ _ _ _ _ => ts_nil) (fun relay341 _ _ _ _ _ => (e_fld (hi := rfl) (hs := fun _ _ => rfl) (e_var 8 rfl (vL 8 rfl rfl rfl)) .hd))))) (.all rfl) (fun movers_343 => bs_ifL (γ := Empty) (I' := fun z => nomatch z) (fun z => nomatch z) (t_w (w_or (t_not (t_of (he := fun _ => rfl) (e_call (x := "are_names") (hdb := rfl) (he := by rfl) (hpl := by rfl) (ok_g_are_names T) (hr.mono (by decide)) rfl T.glo_are_names T.g_are_names.kp T.g_are_names_b tk (ea_cons (hs := rfl) (e_var 6 rfl (vL 6 rfl rfl rfl)) (ea_cons (hs := rfl) e_int (ea_cons (hs := rfl) (e_add (e_cval (t := .int) rfl T.glo_Board T.rd_Board (Classical.choose_spec T.cv_Board_MOST_SWITCHES) rfl (fun _ => rfl) rfl) (e_cval (t := .int) rfl T.glo_Board T.rd_Board (Classical.choose_spec T.cv_Board_MOST_RELAYS) rfl (fun _ => rfl) rfl)) ea_nil)))))) (w_or1 (t_c2 (hm := mark_of _ rfl) (c_gt (e_lenT (hs := rfl) rfl T.b_len (e_var 4 rfl (vL 4 rfl rfl rfl))) (e_cval (t := .int) rfl T.glo_Board T.rd_Board (Classical.choose_spec T.cv_Board_MOST_RELAYS) rfl (fun _ => rfl) rfl)))))) (b_raise "InvalidBoard" rfl tk T.glo_InvalidBoard (pmk_own PySem.F.excBase_ValueError T.ex_InvalidBoard.1 T.glo_InvalidBoard T.ex_InvalidBoard.2.1 (raises_own T.ex_InvalidBoard.2.2.1 T.ex_InvalidBoard.2.2.2) rfl rfl)) (bs_ifL (γ := Empty) (I' := fun z => nomatch z) (fun z => nomatch z) (t_not (t_of (he := fun _ => rfl) (e_call (x := "are_names") (hdb := rfl) (he := by rfl) (hpl := by rfl) (ok_g_are_names T) (hr.mono (by decide)) rfl T.glo_are_names T.g_are_names.kp T.g_are_names_b tk (ea_cons (hs := rfl) (e_frz (o := .l (.d .str)) (e_lc (hs := fun _ => rfl) (his := by decide) rfl hN (own := [("lamp", 9)]) (blk_by N_g_Board_init (defScope s_g_Board_init) (by decide +kernel)) (i_vtup (e_var 2 rfl (vL 2 rfl rfl rfl))) (fun _ _ _ _ _ => (g_nm 9 (pg_name hN rfl (.inl rfl) (.inr rfl)))) (fun lamp346 _ _ _ _ _ => ts_nil) (fun lamp346 _ _ _ _ _ => (e_fld (hi := rfl) (hs := fun _ _ => rfl) (e_var 9 rfl (vL 9 rfl rfl rfl)) .hd)))) (ea_cons (hs := rfl) e_int (ea_cons (hs := rfl) (e_cval (t := .int) rfl T.glo_Board T.rd_Board (Classical.choose_spec T.cv_Board_MOST_LAMPS) rfl (fun _ => rfl) rfl) ea_nil)))))) (b_raise "InvalidBoard" rfl tk T.glo_InvalidBoard (pmk_own PySem.F.excBase_ValueError T.ex_InvalidBoard.1 T.glo_InvalidBoard T.ex_InvalidBoard.2.1 (raises_own T.ex_InvalidBoard.2.2.1 T.ex_InvalidBoard.2.2.2) rfl rfl)) (bs_ifL (γ := Empty) (I' := fun z => nomatch z) (fun z => nomatch z) (t_w (w_or (t_not (t_of (he := fun _ => rfl) (e_call (x := "are_loads") (hdb := rfl) (he := by rfl) (hpl := by rfl) (ok_g_are_loads_2 T) (hr.mono (by decide)) rfl T.glo_are_loads T.g_are_loads.kp T.g_are_loads_b tk (ea_cons (hs := rfl) (e_var 4 rfl (vL 4 rfl rfl rfl)) (ea_cons (hs := rfl) (e_var 1 rfl (vL 1 rfl rfl rfl)) ea_nil))))) (w_or1 (t_not (t_of (he := fun _ => rfl) (e_call (x := "are_loads") (hdb := rfl) (he := by rfl) (hpl := by rfl) (ok_g_are_loads_2 T) (hr.mono (by decide)) rfl T.glo_are_loads T.g_are_loads.kp T.g_are_loads_b tk (ea_cons (hs := rfl) (e_var 2 rfl (vL 2 rfl rfl rfl)) (ea_cons (hs := rfl) (e_var 1 rfl (vL 1 rfl rfl rfl)) ea_nil)))))))) (b_raise "InvalidBoard" rfl tk T.glo_InvalidBoard (pmk_own PySem.F.excBase_ValueError T.ex_InvalidBoard.1 T.glo_InvalidBoard T.ex_InvalidBoard.2.1 (raises_own T.ex_InvalidBoard.2.2.1 T.ex_InvalidBoard.2.2.2) rfl rfl)) (bs_ifL (γ := Empty) (I' := fun z => nomatch z) (fun z => nomatch z) (t_c2 (hm := mark_of _ rfl) (c_gt (e_lenL (hs := rfl) rfl T.b_len (e_var 5 rfl (vL 5 rfl rfl rfl))) (e_cval (t := .int) rfl T.glo_Board T.rd_Board (Classical.choose_spec T.cv_Board_MOST_CONTACTS) rfl (fun _ => rfl) rfl))) (b_raise "InvalidBoard" rfl tk T.glo_InvalidBoard (pmk_own PySem.F.excBase_ValueError T.ex_InvalidBoard.1 T.glo_InvalidBoard T.ex_InvalidBoard.2.1 (raises_own T.ex_InvalidBoard.2.2.1 T.ex_InvalidBoard.2.2.2) rfl rfl)) (bs_seq (G := fun (s : Unit) => [.o (.ins "Board" [] .nl) (), .d (.vtup .str) x.1, .d (.vtup (.tup (.pr .str (.pr .str .str)))) x.2.1, .d (.vtup .str) x.2.2.1, .d (.vtup (.tup (.pr .str (.pr .str .str)))) x.2.2.2.1, .d (.list (.tup (.pr .str (.pr .str (.pr (.opt .str) (.pr .str .str)))))) x.2.2.2.2.1, .d (.list .str) movers_343, .no, .no, .no]) (s1_for (hix := fun _ => all_ix rfl) (hs := fun _ => rfl) (t := (.tup (.pr .str (.pr .str (.pr (.opt .str) (.pr .str .str)))))) (G := fun (s : Unit) => [.o (.ins "Board" [] .nl) (), .d (.vtup .str) x.1, .d (.vtup (.tup (.pr .str (.pr .str .str)))) x.2.1, .d (.vtup .str) x.2.2.1, .d (.vtup (.tup (.pr .str (.pr .str .str)))) x.2.2.2.1, .d (.list (.tup (.pr .str (.pr .str (.pr (.opt .str) (.pr .str .str)))))) x.2.2.2.2.1, .d (.list .str) movers_343, .no, .no, .no]) (s0 := ()) (f := (g_Board_init_2_b1 x.1 movers_343)) po rfl (is_hid (i_list (e_var 5 rfl (vL 5 rfl rfl rfl)))) (g_nm 7 (pg_name hN rfl (.inl rfl) (.inr rfl))) (fun s360 contact361 => bs_cast (bs_one (s1_if (t_not (t_of (he := fun _ => rfl) (e_call (x := "is_contact") (hdb := rfl) (he := by rfl) (hpl := by rfl) (ok_g_is_contact_2 T) (hr.mono (by decide)) rfl T.glo_is_contact T.g_is_contact.kp T.g_is_contact_b tk (ea_cons (hs := rfl) (e_var 7 rfl (vL 7 rfl rfl rfl)) (ea_cons (hs := rfl) (e_var 1 rfl (vL 1 rfl rfl rfl)) (ea_cons (hs := rfl) (e_var 6 rfl (vL 6 rfl rfl rfl)) ea_nil)))))) (b_raise "InvalidBoard" rfl tk T.glo_InvalidBoard (pmk_own PySem.F.excBase_ValueError T.ex_InvalidBoard.1 T.glo_InvalidBoard T.ex_InvalidBoard.2.1 (raises_own T.ex_InvalidBoard.2.2.1 T.ex_InvalidBoard.2.2.2) rfl rfl)) (bs_nil (b := ()) rfl (.same (.same (.same (.same (.same (.same (.same (.no (.same (.same .nil))))))))))))) (by simp only [okb, exb, dputO_eq, g_Board_init_2_b1] <;> rfl)) (.same (.same (.same (.same (.same (.same (.same (.same (.same (.same .nil))))))))))) (fun s369 => b_fld (t := (.vtup .str)) 0 rfl (vL 0 rfl rfl rfl) T.glo_Board T.c_Board T.na_Board_nodes rfl rfl rfl (by exact e_tupT (t := .str) (hs := rfl) rfl T.b_tuple (e_var 1 rfl (vL 1 rfl rfl rfl))) (.all rfl) (fun nodes_370 => b_fld (t := (.vtup .str)) 0 rfl (vL 0 rfl rfl rfl) T.glo_Board T.c_Board T.na_Board_switches rfl rfl rfl (by exact e_tupT (t := .str) (hs := rfl) rfl T.b_tuple (e_var 3 rfl (vL 3 rfl rfl rfl))) (.all rfl) (fun switches_371 => b_fld (t := (.vtup (.tup (.pr .str (.pr .str .str))))) 0 rfl (vL 0 rfl rfl rfl) T.glo_Board T.c_Board T.na_Board_relays rfl rfl rfl (by exact e_tupL (t := (.tup (.pr .str (.pr .str .str)))) (hs := rfl) rfl T.b_tuple (e_frz (o := .l (.d (.tup (.pr .str (.pr .str .str))))) (e_lc (hs := fun _ => rfl) (his := by decide) rfl hN (own := [("relay", 8)]) (blk_by N_g_Board_init (defScope s_g_Board_init) (by decide +kernel)) (i_vtup (e_var 4 rfl (vL 4 rfl rfl rfl))) (fun _ _ _ _ _ => (g_nm 8 (pg_name hN rfl (.inl rfl) (.inr rfl)))) (fun relay372 _ _ _ _ _ => ts_nil) (fun relay372 _ _ _ _ _ => (e_tupU (hs := rfl) rfl T.b_tuple (e_var 8 rfl (vL 8 rfl rfl rfl))))))) (.all rfl) (fun relays_373 => b_fld (t := (.vtup (.tup (.pr .str (.pr .str .str))))) 0 rfl (vL 0 rfl rfl rfl) T.glo_Board T.c_Board T.na_Board_lamps rfl rfl rfl (by exact e_tupL (t := (.tup (.pr .str (.pr .str .str)))) (hs := rfl) rfl T.b_tuple (e_frz (o := .l (.d (.tup (.pr .str (.pr .str .str))))) (e_lc (hs := fun _ => rfl) (his := by decide) rfl hN (own := [("lamp", 9)]) (blk_by N_g_Board_init (defScope s_g_Board_init) (by decide +kernel)) (i_vtup (e_var 2 rfl (vL 2 rfl rfl rfl))) (fun _ _ _ _ _ => (g_nm 9 (pg_name hN rfl (.inl rfl) (.inr rfl)))) (fun lamp374 _ _ _ _ _ => ts_nil) (fun lamp374 _ _ _ _ _ => (e_tupU (hs := rfl) rfl T.b_tuple (e_var 9 rfl (vL 9 rfl rfl rfl))))))) (.all rfl) (fun lamps_375 => b_fld (t := (.vtup (.tup (.pr .str (.pr .str (.pr (.opt .str) (.pr .str .str))))))) 0 rfl (vL 0 rfl rfl rfl) T.glo_Board T.c_Board T.na_Board_contacts rfl rfl rfl (by exact e_tupL (t := (.tup (.pr .str (.pr .str (.pr (.opt .str) (.pr .str .str)))))) (hs := rfl) rfl T.b_tuple (e_frz (o := .l (.d (.tup (.pr .str (.pr .str (.pr (.opt .str) (.pr .str .str))))))) (e_lc (hs := fun _ => rfl) (his := by decide) rfl hN (own := [("contact", 7)]) (blk_by N_g_Board_init (defScope s_g_Board_init) (by decide +kernel)) (i_list (e_var 5 rfl (vL 5 rfl rfl rfl))) (fun _ _ _ _ _ => (g_nm 7 (pg_name hN rfl (.inl rfl) (.inr rfl)))) (fun contact376 _ _ _ _ _ => ts_nil) (fun contact376 _ _ _ _ _ => (e_tupU (hs := rfl) rfl T.b_tuple (e_var 7 rfl (vL 7 rfl rfl rfl))))))) (.all rfl) (fun contacts_377 => bs_nil (b := (nodes_370, switches_371, relays_373, lamps_375, contacts_377, ())) rfl (.same (.no (.no (.no (.no (.no (.no (.same (.same (.same .nil))))))))))) rfl) rfl) rfl) rfl) rfl)) (fun z => nomatch z) (fun z => nomatch z)) (fun z => nomatch z) (fun z => nomatch z)) (fun z => nomatch z) (fun z => nomatch z)) (fun z => nomatch z) (fun z => nomatch z)) hN rfl (.inl rfl) (.inr rfl) rfl rfl rfl) (fun z => nomatch z) (fun z => nomatch z)) (by simp only [okb, exb, dputO_eq, g_Board_init_2] <;> rfl)
set_option maxHeartbeats 8000000 in
theorem ok_g_Board_with_contacts (T : Tx P K mg a) : FnOk P w K mg base (L2.CX P w) 5 (methAt K "Board" "with_contacts") a.g_Board_with_contactsD ["self", "contacts"] (spF K mg (.pr (.ins "Board" ns_Board fo_Board.ty) (.pr (.list (.tup (.pr .str (.pr .str (.pr (.opt .str) (.pr .str .str)))))) .nl)) (.o (.ins "Board" ns_Board fo_Board)) fun x => g_Board_with_contacts x.1 x.2.1) := by
  refine fn_bodyD T.g_Board_with_contacts sc_g_Board_with_contacts rfl fun cdv A outer s H E hr tk po x => ?_
  have hN := sc_g_Board_with_contacts.nd
  have hu := hr.units
  exact bs_cast (b_ret (r := .o (.ins "Board" ns_Board fo_Board)) (e_newK (ts := (.pr (.vtup .str) (.pr (.vtup (.tup (.pr .str (.pr .str .str)))) (.pr (.vtup .str) (.pr (.vtup (.tup (.pr .str (.pr .str .str)))) (.pr (.list (.tup (.pr .str (.pr .str (.pr (.opt .str) (.pr .str .str)))))) .nl)))))) (us := (.pr (.vtup .str) (.pr (.vtup .str) (.pr (.vtup (.tup (.pr .str (.pr .str .str)))) (.pr (.vtup (.tup (.pr .str (.pr .str .str)))) (.pr (.list (.tup (.pr .str (.pr .str (.pr (.opt .str) (.pr .str .str)))))) .nl)))))) (π := fun y => (y.1, y.2.2.2.1, y.2.1, y.2.2.1, y.2.2.2.2.1, ())) T.mk_Board (ok_g_Board_init_2 T) (hr.mono (by decide)) rfl T.glo_Board (Classical.choose_spec (kb_g_Board_init_1 T)) tk (fun F y zs q h => by
    obtain ⟨w0, r0, rfl, h0, w1, r1, rfl, h1, w2, r2, rfl, h2, w3, r3, rfl, h3, w4, r4, rfl, h4, rfl⟩ := h
    exact ⟨_, rfl, _, _, rfl, h0, _, _, rfl, h3, _, _, rfl, h1, _, _, rfl, h2, _, _, rfl, h4, rfl⟩) rfl (ek_cons (e_attr (t := (.vtup .str)) (n := 0) T.glo_Board T.c_Board T.na_Board_nodes rfl .hd (e_var 0 rfl (vL 0 rfl rfl rfl)) rfl) (ek_cons (e_attr (t := (.vtup .str)) (n := 1) T.glo_Board T.c_Board T.na_Board_switches rfl (.tl .hd) (e_var 0 rfl (vL 0 rfl rfl rfl)) rfl) (ek_cons (e_attr (t := (.vtup (.tup (.pr .str (.pr .str .str))))) (n := 2) T.glo_Board T.c_Board T.na_Board_relays rfl (.tl (.tl .hd)) (e_var 0 rfl (vL 0 rfl rfl rfl)) rfl) (ek_cons (e_attr (t := (.vtup (.tup (.pr .str (.pr .str .str))))) (n := 3) T.glo_Board T.c_Board T.na_Board_lamps rfl (.tl (.tl (.tl .hd))) (e_var 0 rfl (vL 0 rfl rfl rfl)) rfl) (ek_cons (e_var 1 rfl (vL 1 rfl rfl rfl)) ek_nil))))) rfl rfl rfl rfl) (.all rfl)) (by simp only [okb, exb, dputO_eq, g_Board_with_contacts] <;> rfl)
set_option maxHeartbeats 8000000 in
theorem ok_g_Board_other_contacts (T : Tx P K mg a) : FnOk P w K mg base (L2.CX P w) 2 (methAt K "Board" "other_contacts") a.g_Board_other_contactsD ["self", "number"] (spF K mg (.pr (.ins "Board" ns_Board fo_Board.ty) (.pr .int .nl)) (.o (.l (.d (.tup (.pr .str (.pr .str (.pr (.opt .str) (.pr .str .str)))))))) fun x => g_Board_other_contacts x.1 x.2.1) := by
  refine fn_bodyD T.g_Board_other_contacts sc_g_Board_other_contacts rfl fun cdv A outer s H E hr tk po x => ?_
  have hN := sc_g_Board_other_contacts.nd
  have hu := hr.units
  exact bs_cast (bs_ifR (hI := fun _ => rfl) (t_not (t_chain (p1 := fun i j => decide (i ≤ j)) (p2 := fun i j => decide (i < j)) op_le op_lt (by with_unfolding_all rfl) e_int (e_var 1 rfl (vC 1 rfl rfl rfl)) (e_lenT (hs := rfl) rfl T.b_len (e_attr (t := (.vtup (.tup (.pr .str (.pr .str (.pr (.opt .str) (.pr .str .str))))))) (n := 4) T.glo_Board T.c_Board T.na_Board_contacts rfl (.tl (.tl (.tl (.tl .hd)))) (e_var 0 rfl (vL 0 rfl rfl rfl)) rfl)))) (b_raiseX (t := .int) (k := 0) "UnknownNumber" T.sup_UnknownNumber supS_UnknownNumber rfl tk T.glo_UnknownNumber T.b_super (hr.mono (by decide)) rfl (e_var 1 rfl (vC 1 rfl rfl rfl)) (.all rfl) (fun z => .i z) (fun y v F r => (List.cons.inj r).1) rfl rfl rfl) (b_ret (r := .o (.l (.d (.tup (.pr .str (.pr .str (.pr (.opt .str) (.pr .str .str)))))))) (e_lc (hs := fun _ => rfl) (his := by decide) rfl hN (own := [("other", 2), ("contact", 3)]) (blk_by N_g_Board_other_contacts (defScope s_g_Board_other_contacts) (by decide +kernel)) (i_enumT rfl T.b_enumerate (e_attr (t := (.vtup (.tup (.pr .str (.pr .str (.pr (.opt .str) (.pr .str .str))))))) (n := 4) T.glo_Board T.c_Board T.na_Board_contacts rfl (.tl (.tl (.tl (.tl .hd)))) (e_var 0 rfl (vL 0 rfl rfl rfl)) rfl) rfl) (fun _ _ _ _ _ => (g_tup (har := rfl) (hn := rfl) (hst := rfl) rfl (gs_cons (hs := rfl) (g_nm 2 (pg_name hN rfl (.inl rfl) (.inr rfl))) (gs_one (ht := rfl) (hs := rfl) (g_nm 3 (pg_name hN rfl (.inl rfl) (.inr rfl))))))) (fun p383 _ _ _ _ _ => (ts_one (t_c2 (hm := mark_of _ rfl) (c_ne (t := .int) (ht := rfl) (hd := by decide) hu (e_var 2 rfl (vL 2 rfl rfl rfl)) (e_var 1 rfl (vC 1 rfl rfl rfl)))))) (fun p383 _ _ _ _ _ => (e_var 3 rfl (vL 3 rfl rfl rfl)))) (.all rfl))) (by simp only [okb, exb, dputO_eq, g_Board_other_contacts] <;> rfl)
set_option maxHeartbeats 8000000 in
theorem ok_g_Board_without_contact (T : Tx P K mg a) : FnOk P w K mg base (L2.CX P w) 6 (methAt K "Board" "without_contact") a.g_Board_without_contactD ["self", "number"] (spF K mg (.pr (.ins "Board" ns_Board fo_Board.ty) (.pr .int .nl)) (.o (.ins "Board" ns_Board fo_Board)) fun x => g_Board_without_contact x.1 x.2.1) := by
  refine fn_bodyD T.g_Board_without_contact sc_g_Board_without_contact rfl fun cdv A outer s H E hr tk po x => ?_
  have hN := sc_g_Board_without_contact.nd
  have hu := hr.units
  exact bs_cast (b_ret (r := .o (.ins "Board" ns_Board fo_Board)) (e_met T.glo_Board T.c_Board T.me_Board_with_contacts (ok_g_Board_with_contacts T) (hr.mono (by decide)) T.g_Board_with_contacts_b tk rfl (e_var 0 rfl (vL 0 rfl rfl rfl)) (ea_cons (hs := rfl) (e_frz (o := .l (.d (.tup (.pr .str (.pr .str (.pr (.opt .str) (.pr .str .str))))))) (e_met T.glo_Board T.c_Board T.me_Board_other_contacts (ok_g_Board_other_contacts T) (hr.mono (by decide)) T.g_Board_other_contacts_b tk rfl (e_var 0 rfl (vL 0 rfl rfl rfl)) (ea_cons (hs := rfl) (e_var 1 rfl (vL 1 rfl rfl rfl)) ea_nil) rfl rfl rfl)) ea_nil) rfl rfl rfl) (.all rfl)) (by simp only [okb, exb, dputO_eq, g_Board_without_contact] <;> rfl)
set_option maxHeartbeats 8000000 in
theorem ok_l_same (T : Tx P K mg a) : FnOk P w K mg base (L2.CX P w) 1 (He.ga K "_law_same") a.l_sameD ["_law_board", "_law_parts_here"] (spF K mg (.pr (.ins "Board" ns_Board fo_Board.ty) (.pr (.tup (.pr (.list .str) (.pr (.list .str) (.pr (.list (.tup (.pr .str (.pr .str .str)))) (.pr (.list (.tup (.pr .str (.pr .str .str)))) (.list (.tup (.pr .str (.pr .str (.pr (.opt .str) (.pr .str .str))))))))))) .nl)) (.d .bool) fun x => l_same x.1 x.2.1) := by
  refine fn_bodyD T.l_same sc_l_same rfl fun cdv A outer s H E hr tk po x => ?_
  have hN := sc_l_same.nd
  have hu := hr.units
  exact bs_cast (bs_seqF (G := fun (s : Unit) => [.d (.ins "Board" ns_Board fo_Board.ty) x.1, .d (.tup (.pr (.list .str) (.pr (.list .str) (.pr (.list (.tup (.pr .str (.pr .str .str)))) (.pr (.list (.tup (.pr .str (.pr .str .str)))) (.list (.tup (.pr .str (.pr .str (.pr (.opt .str) (.pr .str .str))))))))))) x.2.1, .no]) (O := fun (y : Bool) => .rt (.d .bool) y) (j := fun y401 => y401) (hj := fun _ => rfl) (ho := fun _ => rfl) (s1_forF (hO := fun _ => rfl) (hix := fun _ => all_ix rfl) (hs := fun _ => rfl) (t := .tpl) (G := fun (s : Unit) => [.d (.ins "Board" ns_Board fo_Board.ty) x.1, .d (.tup (.pr (.list .str) (.pr (.list .str) (.pr (.list (.tup (.pr .str (.pr .str .str)))) (.pr (.list (.tup (.pr .str (.pr .str .str)))) (.list (.tup (.pr .str (.pr .str (.pr (.opt .str) (.pr .str .str))))))))))) x.2.1, .no]) (s0 := ()) (O := fun (y : Bool) => .rt (.d .bool) y) (f := l_same_b1) po rfl (is_hid (i_list (e_frz (o := .l (.d .tpl)) (e_lst (n := 5) (hl := by decide) (el_cons (hs := rfl) (e_tplV (e_attr (t := (.vtup .str)) (n := 0) T.glo_Board T.c_Board T.na_Board_nodes rfl .hd (e_var 0 rfl (vL 0 rfl rfl rfl)) rfl)) (el_cons (hs := rfl) (e_tplV (e_attr (t := (.vtup .str)) (n := 1) T.glo_Board T.c_Board T.na_Board_switches rfl (.tl .hd) (e_var 0 rfl (vL 0 rfl rfl rfl)) rfl)) (el_cons (hs := rfl) (e_tplV (e_attr (t := (.vtup (.tup (.pr .str (.pr .str .str))))) (n := 2) T.glo_Board T.c_Board T.na_Board_relays rfl (.tl (.tl .hd)) (e_var 0 rfl (vL 0 rfl rfl rfl)) rfl)) (el_cons (hs := rfl) (e_tplV (e_attr (t := (.vtup (.tup (.pr .str (.pr .str .str))))) (n := 3) T.glo_Board T.c_Board T.na_Board_lamps rfl (.tl (.tl (.tl .hd))) (e_var 0 rfl (vL 0 rfl rfl rfl)) rfl)) (el_cons (hs := rfl) (e_tplV (e_attr (t := (.vtup (.tup (.pr .str (.pr .str (.pr (.opt .str) (.pr .str .str))))))) (n := 4) T.glo_Board T.c_Board T.na_Board_contacts rfl (.tl (.tl (.tl (.tl .hd)))) (e_var 0 rfl (vL 0 rfl rfl rfl)) rfl)) (el_nil (t := .tpl))))))))))) (g_nm 2 (pg_name hN rfl (.inl rfl) (.inr rfl))) (fun s396 field397 => bs_cast (bs_one (s1_if (t_not (t_of (he := fun _ => rfl) (e_isi (T := "tuple") (T' := "tuple") (res := true) (hs := rfl) rfl T.b_isinstance (e_var 2 rfl (vL 2 rfl rfl rfl)) rfl (n_ty rfl T.b_tuple (by decide +kernel) (by decide) rfl) rfl))) (bs_ret (r := .d .bool) (b := fun y398 => (Lp.out y398)) e_bool (.all rfl) (hI := fun _ => rfl)) (bs_nil (b := (Lp.go ())) rfl (.same (.same (.no .nil)))))) (by simp only [okb, exb, dputO_eq, l_same_b1] <;> rfl)) (.same (.same (.same .nil)))) (fun s399 => bs_ifR (hI := fun _ => rfl) (t_w (w_or (t_c2 (hm := mark_of _ rfl) (c_ne (t := (.vtup .str)) (ht := rfl) (hd := by decide) hu (e_attr (t := (.vtup .str)) (n := 0) T.glo_Board T.c_Board T.na_Board_nodes rfl .hd (e_var 0 rfl (vL 0 rfl rfl rfl)) rfl) (by exact e_tupL (t := .str) (hs := rfl) rfl T.b_tuple (e_fld (hi := rfl) (hs := fun _ _ => rfl) (e_var 1 rfl (vL 1 rfl rfl rfl)) .hd)))) (w_or (t_c2 (hm := mark_of _ rfl) (c_ne (t := (.vtup .str)) (ht := rfl) (hd := by decide) hu (e_attr (t := (.vtup .str)) (n := 1) T.glo_Board T.c_Board T.na_Board_switches rfl (.tl .hd) (e_var 0 rfl (vL 0 rfl rfl rfl)) rfl) (by exact e_tupL (t := .str) (hs := rfl) rfl T.b_tuple (e_fld (hi := rfl) (hs := fun _ _ => rfl) (e_var 1 rfl (vL 1 rfl rfl rfl)) (.tl .hd))))) (w_or1 (t_c2 (hm := mark_of _ rfl) (c_ne (t := (.vtup (.tup (.pr .str (.pr .str .str))))) (ht := rfl) (hd := by decide) hu (e_attr (t := (.vtup (.tup (.pr .str (.pr .str .str))))) (n := 2) T.glo_Board T.c_Board T.na_Board_relays rfl (.tl (.tl .hd)) (e_var 0 rfl (vL 0 rfl rfl rfl)) rfl) (by exact e_tupL (t := (.tup (.pr .str (.pr .str .str)))) (hs := rfl) rfl T.b_tuple (e_fld (hi := rfl) (hs := fun _ _ => rfl) (e_var 1 rfl (vL 1 rfl rfl rfl)) (.tl (.tl .hd)))))))))) (b_ret (r := .d .bool) e_bool (.all rfl)) (b_ret (r := .d .bool) (e_and (e_c2 (hm := mark_of _ rfl) (c_eq (t := (.vtup (.tup (.pr .str (.pr .str .str))))) (ht := rfl) (hd := by decide) hu (e_attr (t := (.vtup (.tup (.pr .str (.pr .str .str))))) (n := 3) T.glo_Board T.c_Board T.na_Board_lamps rfl (.tl (.tl (.tl .hd))) (e_var 0 rfl (vL 0 rfl rfl rfl)) rfl) (by exact e_tupL (t := (.tup (.pr .str (.pr .str .str)))) (hs := rfl) rfl T.b_tuple (e_fld (hi := rfl) (hs := fun _ _ => rfl) (e_var 1 rfl (vL 1 rfl rfl rfl)) (.tl (.tl (.tl .hd))))))) (e_b1 (e_c2 (hm := mark_of _ rfl) (c_eq (t := (.vtup (.tup (.pr .str (.pr .str (.pr (.opt .str) (.pr .str .str))))))) (ht := rfl) (hd := by decide) hu (e_attr (t := (.vtup (.tup (.pr .str (.pr .str (.pr (.opt .str) (.pr .str .str))))))) (n := 4) T.glo_Board T.c_Board T.na_Board_contacts rfl (.tl (.tl (.tl (.tl .hd)))) (e_var 0 rfl (vL 0 rfl rfl rfl)) rfl) (by exact e_tupL (t := (.tup (.pr .str (.pr .str (.pr (.opt .str) (.pr .str .str)))))) (hs := rfl) rfl T.b_tuple (e_fld (hi := rfl) (hs := fun _ _ => rfl) (e_var 1 rfl (vL 1 rfl rfl rfl)) (.tl (.tl (.tl (.tl (.last rfl))))))))))) (.all rfl)))) (by simp only [okb, exb, dputO_eq, l_same] <;> rfl)
set_option maxHeartbeats 8000000 in
theorem ok_l_law (T : Tx P K mg a) : FnOk P w K mg base (L2.CX P w) 7 (He.ga K "law") a.l_lawD ["_law_script"] (spF K mg (.pr .scr .nl) (.d .bool) fun x => l_law x.1) := by
  refine fn_bodyD T.l_law sc_l_law rfl fun cdv A outer s H E hr tk po x => ?_
  have hN := sc_l_law.nd
  have hu := hr.units
  exact bs_cast (b_setF (o := .l (.d .int)) 1 (e_call (x := "_law_numbers") (hdb := rfl) (he := by rfl) (hpl := by rfl) (ok_l_numbers T) (hr.mono (by decide)) rfl T.glo__law_numbers T.l_numbers.kp T.l_numbers_b tk (ea_cons (hs := rfl) (e_var 0 rfl (vL 0 rfl rfl rfl)) (ea_cons (hs := rfl) e_int ea_nil))) (.all rfl) (fun numbers_here_37 => b_set (r := .d (.tup (.pr (.list .str) (.pr (.list .str) (.pr (.list (.tup (.pr .str (.pr .str .str)))) (.pr (.list (.tup (.pr .str (.pr .str .str)))) (.list (.tup (.pr .str (.pr .str (.pr (.opt .str) (.pr .str .str)))))))))))) 2 (e_call (x := "_law_parts") (hdb := rfl) (he := by rfl) (hpl := by rfl) (ok_l_parts T) (hr.mono (by decide)) rfl T.glo__law_parts T.l_parts.kp T.l_parts_b tk (ea_cons (hs := rfl) (e_var 1 rfl (vL 1 rfl rfl rfl)) ea_nil)) .hid (fun parts_here_162 => b_setF (o := .ins "Board" ns_Board fo_Board) 3 (e_call (x := "_law_made") (hdb := rfl) (he := by rfl) (hpl := by rfl) (ok_l_made T) (hr.mono (by decide)) rfl T.glo__law_made T.l_made.kp T.l_made_b tk (ea_cons (hs := rfl) (e_var 2 rfl (vL 2 rfl rfl rfl)) ea_nil)) (.all rfl) (fun board_221 => b_set (r := .d .str) 4 (e_join (hs := rfl) (hbase := rfl) (hline := rfl) e_str (e_frz (o := .l (.d .str)) (e_call (x := "_law_lines") (hdb := rfl) (he := by rfl) (hpl := by rfl) (ok_l_lines T) (hr.mono (by decide)) rfl T.glo__law_lines T.l_lines.kp T.l_lines_b tk (ea_cons (hs := rfl) (e_var 2 rfl (vL 2 rfl rfl rfl)) ea_nil)))) (.all rfl) (fun due_273 => b_set (r := .d .str) 5 (e_call (x := "format_board") (hdb := rfl) (he := by rfl) (hpl := by rfl) (ok_g_format_board T) (hr.mono (by decide)) rfl T.glo_format_board T.g_format_board.kp T.g_format_board_b tk (ea_cons (hs := rfl) (e_var 3 rfl (vL 3 rfl rfl rfl)) ea_nil)) (.all rfl) (fun actual_321 => bs_ifR (hI := fun _ => rfl) (t_w (w_or (t_not (t_of (he := fun _ => rfl) (e_isi (T := "str") (T' := "str") (res := true) (hs := rfl) rfl T.b_isinstance (e_var 5 rfl (vL 5 rfl rfl rfl)) rfl (n_ty rfl T.b_str (by decide +kernel) (by decide) rfl) rfl))) (w_or1 (t_c2 (hm := mark_of _ rfl) (c_ne (t := .str) (ht := rfl) (hd := by decide) hu (e_var 5 rfl (vL 5 rfl rfl rfl)) (e_var 4 rfl (vL 4 rfl rfl rfl))))))) (b_ret (r := .d .bool) e_bool (.all rfl)) (bs_seqF (G := fun (s : Unit) => [.d .scr x.1, .d (.list .int) numbers_here_37, .d (.tup (.pr (.list .str) (.pr (.list .str) (.pr (.list (.tup (.pr .str (.pr .str .str)))) (.pr (.list (.tup (.pr .str (.pr .str .str)))) (.list (.tup (.pr .str (.pr .str (.pr (.opt .str) (.pr .str .str))))))))))) parts_here_162, .d (.ins "Board" ns_Board fo_Board.ty) board_221, .d .str due_273, .d .str actual_321, .no, .no]) (O := fun (y : Bool) => .rt (.d .bool) y) (j := fun y403 => y403) (hj := fun _ => rfl) (ho := fun _ => rfl) (s1_if (t_c2 (hm := mark_of _ rfl) (c_gt (e_lenL (hs := rfl) rfl T.b_len (e_fld (hi := rfl) (hs := fun _ _ => rfl) (e_var 2 rfl (vL 2 rfl rfl rfl)) (.tl (.tl (.tl (.tl (.last rfl))))))) e_int)) (b_set (r := .d .int) 6 (e_mod (e_intI (hs := rfl) rfl T.b_int (e_ixL (hs := fun _ _ => rfl) (e_var 1 rfl (vL 1 rfl rfl rfl)) e_int)) (e_lenL (hs := rfl) rfl T.b_len (e_fld (hi := rfl) (hs := fun _ _ => rfl) (e_var 2 rfl (vL 2 rfl rfl rfl)) (.tl (.tl (.tl (.tl (.last rfl)))))))) (.all rfl) (fun at__323 => b_set (r := .d (.tup (.pr (.list .str) (.pr (.list .str) (.pr (.list (.tup (.pr .str (.pr .str .str)))) (.pr (.list (.tup (.pr .str (.pr .str .str)))) (.list (.tup (.pr .str (.pr .str (.pr (.opt .str) (.pr .str .str)))))))))))) 7 (e_tup (hl := rfl) (ea_cons (hs := rfl) (e_fld (hi := rfl) (hs := fun _ _ => rfl) (e_var 2 rfl (vL 2 rfl rfl rfl)) .hd) (ea_cons (hs := rfl) (e_fld (hi := rfl) (hs := fun _ _ => rfl) (e_var 2 rfl (vL 2 rfl rfl rfl)) (.tl .hd)) (ea_cons (hs := rfl) (e_fld (hi := rfl) (hs := fun _ _ => rfl) (e_var 2 rfl (vL 2 rfl rfl rfl)) (.tl (.tl .hd))) (ea_cons (hs := rfl) (e_fld (hi := rfl) (hs := fun _ _ => rfl) (e_var 2 rfl (vL 2 rfl rfl rfl)) (.tl (.tl (.tl .hd)))) (ea_one (hs := rfl) (e_frz (o := .l (.d (.tup (.pr .str (.pr .str (.pr (.opt .str) (.pr .str .str))))))) (e_catL (e_frz (o := .l (.d (.tup (.pr .str (.pr .str (.pr (.opt .str) (.pr .str .str))))))) (e_slL (e_fld (hi := rfl) (hs := fun _ _ => rfl) (e_var 2 rfl (vL 2 rfl rfl rfl)) (.tl (.tl (.tl (.tl (.last rfl)))))) p_none (p_some (e_var 6 rfl (vL 6 rfl rfl rfl))))) (e_frz (o := .l (.d (.tup (.pr .str (.pr .str (.pr (.opt .str) (.pr .str .str))))))) (e_slL (e_fld (hi := rfl) (hs := fun _ _ => rfl) (e_var 2 rfl (vL 2 rfl rfl rfl)) (.tl (.tl (.tl (.tl (.last rfl)))))) (p_some (e_add (e_var 6 rfl (vL 6 rfl rfl rfl)) e_int)) p_none)))))))))) .hid (fun fewer_328 => bs_one (s1_if (t_c2 (hm := mark_of _ rfl) (c_ne (t := .str) (ht := rfl) (hd := by decide) hu (e_call (x := "format_board") (hdb := rfl) (he := by rfl) (hpl := by rfl) (ok_g_format_board T) (hr.mono (by decide)) rfl T.glo_format_board T.g_format_board.kp T.g_format_board_b tk (ea_cons (hs := rfl) (e_frz (o := .ins "Board" ns_Board fo_Board) (e_met T.glo_Board T.c_Board T.me_Board_without_contact (ok_g_Board_without_contact T) (hr.mono (by decide)) T.g_Board_without_contact_b tk rfl (e_var 3 rfl (vL 3 rfl rfl rfl)) (ea_cons (hs := rfl) (e_var 6 rfl (vL 6 rfl rfl rfl)) ea_nil) rfl rfl rfl)) ea_nil)) (e_join (hs := rfl) (hbase := rfl) (hline := rfl) e_str (e_frz (o := .l (.d .str)) (e_call (x := "_law_lines") (hdb := rfl) (he := by rfl) (hpl := by rfl) (ok_l_lines T) (hr.mono (by decide)) rfl T.glo__law_lines T.l_lines.kp T.l_lines_b tk (ea_cons (hs := rfl) (e_var 7 rfl (vL 7 rfl rfl rfl)) ea_nil)))))) (bs_ret (r := .d .bool) (b := fun y392 => (Fw.out y392)) e_bool (.all rfl) (hI := fun _ => rfl)) (bs_nil (b := (Fw.go ())) rfl (.same (.same (.same (.same (.same (.same (.no (.no .nil))))))))))) hN rfl (.inl rfl) (.inr rfl) rfl rfl rfl) hN rfl (.inl rfl) (.inr rfl) rfl rfl rfl) (bs_nil (b := (Fw.go ())) rfl (.same (.same (.same (.same (.same (.same (.same (.same .nil)))))))))) (fun s394 => b_ret (r := .d .bool) (e_and (e_c2 (hm := mark_of _ rfl) (c_eq (t := .str) (ht := rfl) (hd := by decide) hu (e_call (x := "format_board") (hdb := rfl) (he := by rfl) (hpl := by rfl) (ok_g_format_board T) (hr.mono (by decide)) rfl T.glo_format_board T.g_format_board.kp T.g_format_board_b tk (ea_cons (hs := rfl) (e_var 3 rfl (vL 3 rfl rfl rfl)) ea_nil)) (e_var 4 rfl (vL 4 rfl rfl rfl)))) (e_b1 (e_call (x := "_law_same") (hdb := rfl) (he := by rfl) (hpl := by rfl) (ok_l_same T) (hr.mono (by decide)) rfl T.glo__law_same T.l_same.kp T.l_same_b tk (ea_cons (hs := rfl) (e_var 3 rfl (vL 3 rfl rfl rfl)) (ea_cons (hs := rfl) (e_var 2 rfl (vL 2 rfl rfl rfl)) ea_nil))))) (.all rfl)))) hN rfl (.inl rfl) (.inr rfl) rfl rfl rfl) hN rfl (.inl rfl) (.inr rfl) rfl rfl rfl) hN rfl (.inl rfl) (.inr rfl) rfl rfl rfl) hN rfl (.inl rfl) (.inr rfl) rfl rfl rfl) hN rfl (.inl rfl) (.inr rfl) rfl rfl rfl) (by simp only [okb, exb, dputO_eq, l_law] <;> rfl)
end Lw
set_option Elab.async false
set_option linter.all false
set_option maxRecDepth 100000
set_option maxHeartbeats 1000000
namespace Lw
open PySem Gm
open L2 hiding app_ok
theorem mem_app1 {xs : List Int} {y : Int} (h : ∀ x ∈ xs, 0 ≤ x ∧ x < 1009) (hy : 0 ≤ y ∧ y < 1009) : ∀ x ∈ xs ++ [y], 0 ≤ x ∧ x < 1009 := fun x hx => by
  rcases List.mem_append.mp hx with hx | hx
  · exact h x hx
  · rw [List.mem_singleton.mp hx]; exact hy
theorem sat_row {c n : Int} (h0 : 0 ≤ n) (h1 : n ≤ 100000) : Sat (l_row c n) (fun l => l.length = n.toNat ∧ ∀ x ∈ l, 0 ≤ x ∧ x < 1009) := by
  unfold l_row
  simp only [okb, Mx.assoc]
  rw [ran_ok (by omega), okb]
  refine Sat.bind (sat_loop (fun i s => s.1.length = i ∧ ∀ x ∈ s.1, 0 ≤ x ∧ x < 1009) ⟨rfl, by simp⟩ fun i s x hx hs => ?_) fun s hs => Sat.ok ⟨by rw [hs.1, iran_len]; omega, hs.2⟩
  obtain ⟨e, hx0, hx1⟩ := iran_get hx
  obtain ⟨hl, hm⟩ := hs
  unfold l_row_b1
  simp only [okb, Mx.assoc]
  rw [pow_ok (by decide) (by decide) (by decide), okb]
  refine Sat.ite (fun _ => ?_) (fun _ => ?_)
  · rw [mod_ok (by decide), okb, app_ok (by omega), okb, div_ok (by decide) (by decide), okb]
    exact Sat.ok ⟨by simp [hl], mem_app1 hm ⟨Int.emod_nonneg _ (by decide), Int.emod_lt_of_pos _ (by decide)⟩⟩
  · rw [mul_r (by decide) (by decide), okb, mul_r (by decide) (by decide), okb, mod_ok (by decide), okb, mul_r (by decide) (by decide), okb, mul_l (by decide) (by decide), okb, mod_ok (by decide), okb, mod_ok (by decide), okb, app_ok (by omega), okb]
    exact Sat.ok ⟨by simp [hl], mem_app1 hm ⟨Int.emod_nonneg _ (by decide), Int.emod_lt_of_pos _ (by decide)⟩⟩
theorem sat_numbers {ns : List Int} {n : Int} (h0 : 0 ≤ n) (h1 : n ≤ 10000) : Sat (l_numbers ns n) (fun l => l.length = n.toNat ∧ ∀ x ∈ l, 0 ≤ x ∧ x < 1009) := by
  unfold l_numbers
  simp only [okb, Mx.assoc]
  rw [cut_to _ (by decide)]
  generalize hc : ns.take (63 : Int).toNat = cs
  have hcl : cs.length ≤ 63 := by rw [← hc, List.length_take]; exact Nat.min_le_left _ _
  generalize hm : (if (cs.length : Int) > 1 then (cs.length : Int) else 1) = m
  have hm1 : 1 ≤ m ∧ m ≤ 63 := by rw [← hm]; split <;> omega
  rw [div_ok (by omega) (by omega), okb]
  generalize he : 1 + n / m = each
  have hdiv : 0 ≤ n / m ∧ n / m ≤ n := ⟨Int.ediv_nonneg h0 (by omega), Int.ediv_le_self _ h0⟩
  refine Sat.bind (sat_loop (fun i s => s.length ≤ i * 10001 ∧ ∀ x ∈ s, 0 ≤ x ∧ x < 1009) ⟨by simp, by simp⟩ fun i s x hx hs => ?_) fun s hs => ?_
  · have hi : i < cs.length := (List.getElem?_eq_some_iff.mp hx).1
    unfold l_numbers_b1
    simp only [okb, Mx.assoc]
    refine (sat_row (by omega) (by omega)).bind fun row hr => ?_
    have hrl : row.length ≤ 10001 := by omega
    refine Sat.bind (sat_loop (fun j s' => s'.length = s.length + j ∧ ∀ x ∈ s', 0 ≤ x ∧ x < 1009) ⟨rfl, hs.2⟩ fun j s' y hy hs' => ?_) fun s' hs' => Sat.ok ⟨?_, hs'.2⟩
    · have hj : j < row.length := (List.getElem?_eq_some_iff.mp hy).1
      unfold l_numbers_b2
      have : i * 10001 ≤ 63 * 10001 := Nat.mul_le_mul_right _ (by omega)
      rw [app_ok (by omega), okb]
      exact Sat.ok ⟨by simp [hs'.1]; omega, mem_app1 hs'.2 (hr.2 y (List.mem_iff_getElem?.mpr ⟨_, hy⟩))⟩
    · rw [Nat.add_mul]; omega
  · have hsl : s.length ≤ 63 * 10001 := Nat.le_trans hs.1 (Nat.mul_le_mul_right _ hcl)
    refine Sat.bind (sat_while (fun s => s.length ≤ 700000 ∧ ∀ x ∈ s, 0 ≤ x ∧ x < 1009) (fun s => n.toNat - s.length) (fun s => n.toNat ≤ s.length ∧ ∀ x ∈ s, 0 ≤ x ∧ x < 1009) (fun s hs => ?_) fuel s ⟨by omega, hs.2⟩ (by rw [fuel_eq]; omega)) fun s hs => ?_
    · unfold l_numbers_b3c
      refine Sat.ok ?_
      by_cases hlt : (s.length : Int) < n
      · rw [decide_eq_true hlt, if_pos rfl]
        unfold l_numbers_b3
        rw [app_ok (by omega), okb]
        exact Sat.ok ⟨⟨by simp; omega, mem_app1 hs.2 (by decide)⟩, by simp; omega⟩
      · rw [decide_eq_false hlt, if_neg Bool.false_ne_true]
        exact ⟨by omega, hs.2⟩
    · rw [cut_to _ h0]
      exact Sat.ok ⟨by rw [List.length_take]; omega, fun x hx => hs.2 x (List.mem_of_mem_take hx)⟩
end Lw
set_option Elab.async false
set_option linter.all false
set_option maxRecDepth 100000
set_option maxHeartbeats 1000000
namespace Lw
open PySem Gm
open L2 hiding app_ok
/-! ### names -/
abbrev al : Str := ("abcdefghijklmnopqrstuvwxyz0123456789" : Str)
def okName (t : Str) : Bool := (decide (1 ≤ t.length) && decide (t.length ≤ 12)) && (t.cps.toList.all fun c => decide (c ∈ al.cps.toList))
theorem inSO_one (c : Nat) (z : Str) : inSO ⟨#[c]⟩ z = some (decide (c ∈ z.cps.toList)) := rfl
theorem is_name_eq {t : Str} (h : t.length ≤ 16777216) : g_Board_is_name t = .ok (okName t) := by
  unfold g_Board_is_name okName
  simp only [okb, Mx.assoc]
  rw [lenS_ok h, okb]
  by_cases h1 : (1 : Int) ≤ (t.length : Int)
  · rw [if_pos (decide_eq_true h1), okb]
    by_cases h2 : (t.length : Int) ≤ 12
    · rw [decide_eq_true h2, Bool.not_true, if_neg Bool.false_ne_true]
      rw [Gm.comp_map (g := fun x => decide (∀ c ∈ x.cps.toList, c ∈ al.cps.toList)) (by simp [signs, size_eq]; exact h) fun x hx => ⟨rfl, ?_⟩, okb]
      · rw [decide_eq_true (by omega : 1 ≤ t.length), decide_eq_true (by omega : t.length ≤ 12)]
        congr 1
        simp [signs, List.all_map, Function.comp_def]
      · unfold signs at hx
        obtain ⟨c, _, rfl⟩ := List.mem_map.mp hx
        show ofO (inSO ⟨#[c]⟩ al) = _
        rw [inSO_one]
        show Mx.ok _ = Mx.ok _
        congr 1
        simp
    · rw [decide_eq_false h2, Bool.not_false, if_pos rfl, decide_eq_false (by omega : ¬ t.length ≤ 12)]
      simp
  · rw [decide_eq_false h1, if_neg Bool.false_ne_true, okb, Bool.not_false, if_pos rfl, decide_eq_false (by omega : ¬ 1 ≤ t.length)]
    simp
/-! ### a loop that only looks -/
theorem loopF_all {α : Type} {p : α → Bool} {f : Unit → α → Mx (Lp Unit Bool)} : ∀ {xs : List α}, (∀ x ∈ xs, f () x = .ok (if p x = true then .go () else .out false)) → (loopF xs () f >>= fwk (fun _ => Mx.ok true) (fun y => y)) = .ok (xs.all p)
  | [], _ => rfl
  | x :: xs, h => by
    unfold loopF
    rw [h x (List.mem_cons_self ..), okb]
    by_cases hp : p x = true
    · rw [if_pos hp, List.all_cons, hp, Bool.true_and]
      exact loopF_all fun y hy => h y (List.mem_cons_of_mem _ hy)
    · rw [if_neg hp, List.all_cons, show p x = false by simpa using hp, Bool.false_and]
      rfl
/-- a list without a repeat -/
def noRep (xs : List Str) : Bool := decide xs.Nodup
def okNames (xs : List Str) (lo hi : Int) : Bool := (decide (lo ≤ (xs.length : Int)) && decide ((xs.length : Int) ≤ hi)) && (xs.all okName && noRep xs)
theorem enum_all {xs : List Str} : ((enumL xs).all fun p => okName p.2 && !decide (p.2 ∈ cut xs none (some p.1))) = (xs.all okName && noRep xs) := by
  rw [Bool.eq_iff_iff]
  simp only [List.all_eq_true, Bool.and_eq_true, Bool.not_eq_true', decide_eq_false_iff_not, noRep, decide_eq_true_eq]
  constructor
  · intro h
    have at_ : ∀ (i : Nat) (x : Str), xs[i]? = some x → okName x = true ∧ x ∉ xs.take i := fun i x hx => by
      have := h _ (List.mem_iff_getElem?.mpr ⟨i, enumL_get hx⟩)
      rw [cut_to _ (by simp : (0 : Int) ≤ (i : Int))] at this
      exact ⟨this.1, by simpa using this.2⟩
    refine ⟨fun x hx => ?_, ?_⟩
    · obtain ⟨i, hi⟩ := List.mem_iff_getElem?.mp hx
      exact (at_ i x hi).1
    · rw [List.nodup_iff_pairwise_ne, List.pairwise_iff_getElem]
      intro i j hi hj hij e
      refine (at_ j xs[j] (List.getElem?_eq_getElem hj)).2 ?_
      rw [← e]
      exact List.mem_iff_getElem?.mpr ⟨i, by rw [List.getElem?_take_of_lt hij]; exact List.getElem?_eq_getElem hi⟩
  · intro ⟨h1, h2⟩ p hp
    obtain ⟨i, hi⟩ := List.mem_iff_getElem?.mp hp
    have hil : i < xs.length := by
      have := (List.getElem?_eq_some_iff.mp hi).1
      rwa [enumL_len] at this
    have e := (enumL_get (List.getElem?_eq_getElem hil)).symm.trans hi
    cases e
    refine ⟨h1 _ (List.getElem_mem hil), ?_⟩
    rw [cut_to _ (by simp : (0 : Int) ≤ (i : Int))]
    intro hm
    obtain ⟨j, hj⟩ := List.mem_iff_getElem?.mp hm
    have hji : j < i := by
      have := (List.getElem?_eq_some_iff.mp hj).1
      rw [List.length_take] at this
      simp at this; omega
    rw [show ((i : Nat) : Int).toNat = i by simp, List.getElem?_take_of_lt hji, List.getElem?_eq_getElem (by omega)] at hj
    rw [List.nodup_iff_pairwise_ne, List.pairwise_iff_getElem] at h2
    exact h2 j i (by omega) hil hji (Option.some.inj hj)
theorem are_names_eq {xs : List Str} {lo hi : Int} (hx : ∀ x ∈ xs, x.length ≤ 16777216) : g_are_names xs lo hi = .ok (okNames xs lo hi) := by
  unfold g_are_names okNames
  have body : ∀ p ∈ enumL xs, g_are_names_b1 xs () p = .ok (if (okName p.2 && !decide (p.2 ∈ cut xs none (some p.1))) = true then .go () else .out false) := fun p hp => by
    have hm : p.2 ∈ xs := by
      obtain ⟨i, hi⟩ := List.mem_iff_getElem?.mp hp
      have hil : i < xs.length := by
        have := (List.getElem?_eq_some_iff.mp hi).1
        rwa [enumL_len] at this
      have e := (enumL_get (List.getElem?_eq_getElem hil)).symm.trans hi
      cases e
      exact List.getElem_mem hil
    unfold g_are_names_b1
    simp only [okb, Mx.assoc]
    rw [is_name_eq (hx _ hm), okb]
    cases okName p.2 <;> cases decide (p.2 ∈ cut xs none (some p.1)) <;> rfl
  have e2 := loopF_all body
  rw [enum_all] at e2
  simp only [okb, Mx.assoc]
  by_cases h1 : lo ≤ (xs.length : Int)
  · rw [if_pos (decide_eq_true h1), okb]
    by_cases h2 : (xs.length : Int) ≤ hi
    · rw [decide_eq_true h2, Bool.not_true, if_neg Bool.false_ne_true, e2, decide_eq_true h1]
      rfl
    · rw [decide_eq_false h2, Bool.not_false, if_pos rfl, Bool.and_false, Bool.false_and]
  · rw [decide_eq_false h1, if_neg Bool.false_ne_true, okb, Bool.not_false, if_pos rfl, Bool.false_and, Bool.false_and]
end Lw
set_option Elab.async false
set_option linter.all false
set_option maxRecDepth 100000
set_option maxHeartbeats 1000000
namespace Lw
open PySem Gm
open L2 hiding app_ok
/-! ### parts of a board -/
def okEnds (a b : Str) (n : List Str) : Bool := decide (a ∈ n) && (decide (b ∈ n) && !decide (a = b))
theorem between_eq {a b : Str} {n : List Str} : g_is_between a b n = .ok (okEnds a b n) := by
  unfold g_is_between okEnds
  cases decide (a ∈ n) <;> cases decide (b ∈ n) <;> rfl
theorem loads_eq {l : List (Str × Str × Str)} {n : List Str} : g_are_loads l n = .ok (l.all fun x => okEnds x.2.1 x.2.2 n) := by
  unfold g_are_loads
  refine loopF_all fun x _ => ?_
  unfold g_are_loads_b1
  simp only [okb, Mx.assoc]
  rw [between_eq, okb]
  cases okEnds x.2.1 x.2.2 n <;> rfl
abbrev Con : Type := Str × Str × (Option Str) × Str × Str
def okCon (c : Con) (n m : List Str) : Bool := okEnds c.1 c.2.1 n && (decide (c.2.2.2.1 ∈ [("make" : Str), ("break" : Str)]) && (decide (c.2.2.2.2 ∈ [("both" : Str), ("forward" : Str)]) &&
  (match c.2.2.1 with
  | none => decide (c.2.2.2.1 = ("make" : Str))
  | some x => decide (x ∈ m))))
theorem contact_eq {c : Con} {n m : List Str} : g_is_contact c n m = .ok (okCon c n m) := by
  unfold g_is_contact okCon
  simp only [okb, Mx.assoc]
  rw [between_eq, okb]
  obtain ⟨c1, c2, c3, c4, c5⟩ := c
  simp only
  cases okEnds c1 c2 n
  · rfl
  · simp only [Bool.not_true, Bool.false_eq_true, if_false, Bool.true_and]
    cases decide (c4 ∈ [("make" : Str), ("break" : Str)])
    · rfl
    · simp only [Bool.not_true, Bool.false_eq_true, if_false, Bool.true_and, okb]
      cases decide (c5 ∈ [("both" : Str), ("forward" : Str)])
      · rfl
      · cases c3 <;> rfl
def bad : Exn := ⟨"InvalidBoard", "", .n⟩
theorem loop_chk {α : Type} {p : α → Bool} {f : Unit → α → Mx Unit} : ∀ {xs : List α}, (∀ x ∈ xs, f () x = if p x = true then .ok () else .ex bad) → loopS xs () f = if xs.all p = true then .ok () else .ex bad
  | [], _ => rfl
  | x :: xs, h => by
    unfold loopS
    rw [h x (List.mem_cons_self ..), List.all_cons]
    by_cases hp : p x = true
    · rw [if_pos hp, okb, hp, Bool.true_and]
      exact loop_chk fun y hy => h y (List.mem_cons_of_mem _ hy)
    · rw [if_neg hp, exb, show p x = false by simpa using hp, Bool.false_and, if_neg Bool.false_ne_true]
theorem cons_eq {cs : List Con} {n m : List Str} : loopS cs () (g_Board_init_b1 n m) = if (cs.all fun c => okCon c n m) = true then .ok () else .ex bad := by
  refine loop_chk fun c _ => ?_
  unfold g_Board_init_b1
  rw [contact_eq, okb, okb]
  cases okCon c n m <;> rfl
end Lw
set_option Elab.async false
set_option linter.all false
set_option maxRecDepth 100000
set_option maxHeartbeats 1000000
namespace Lw
open PySem Gm
open L2 hiding app_ok
def mvs (s : List Str) (r : List (Str × Str × Str)) : List Str := s ++ r.map (·.1)
def okBoard (n : List Str) (l : List (Str × Str × Str)) (s : List Str) (r : List (Str × Str × Str)) (c : List Con) : Bool :=
  okNames n 2 16 && (decide (s.length ≤ 6) && (okNames (mvs s r) 0 14 && (decide (r.length ≤ 8) && (okNames (l.map (·.1)) 1 8 && ((r.all fun x => okEnds x.2.1 x.2.2 n) && ((l.all fun x => okEnds x.2.1 x.2.2 n) && (decide (c.length ≤ 40) && c.all fun x => okCon x n (mvs s r))))))))
theorem mapid {α : Type} {xs : List α} (h : xs.length ≤ 16777216) : compO xs (compF (fun _ => .ok true) (fun x => .ok x)) = .ok xs := by
  rw [Gm.comp_map (g := fun x => x) (by rw [size_eq]; exact h) fun x _ => ⟨rfl, rfl⟩]; simp
theorem init_eq {n : List Str} {l : List (Str × Str × Str)} {s : List Str} {r : List (Str × Str × Str)} {c : List Con} (hn : ∀ x ∈ n, x.length ≤ 16777216) (hm : ∀ x ∈ mvs s r, x.length ≤ 16777216) (hl : ∀ x ∈ l.map (·.1), x.length ≤ 16777216)
    (z1 : s.length + r.length ≤ 1000000) (z2 : l.length ≤ 1000000) (z3 : c.length ≤ 1000000) : g_Board_init n l s r c = if okBoard n l s r c = true then .ok (n, s, r, l, c, ()) else .ex bad := by
  unfold g_Board_init okBoard
  simp only [okb, Mx.assoc]
  rw [are_names_eq hn, okb]
  cases okNames n 2 16 with
  | false => rfl
  | true =>
    simp only [Bool.not_true, Bool.false_eq_true, if_false, okb, Bool.true_and]
    by_cases h2 : s.length ≤ 6
    · rw [decide_eq_false (by omega : ¬ (6 : Int) < (s.length : Int)), decide_eq_true h2]
      simp only [Bool.false_eq_true, if_false, Bool.true_and]
      rw [Gm.comp_map (g := fun x : Str × Str × Str => x.1) (by rw [size_eq]; omega) fun x _ => ⟨rfl, rfl⟩, okb, cat_ok (by rw [List.length_map]; omega), okb]
      change (g_are_names (mvs s r) 0 (6 + 8) >>= _) = _
      rw [are_names_eq hm, okb, show ((6 : Int) + 8) = 14 from rfl]
      cases okNames (mvs s r) 0 14 with
      | false => rfl
      | true =>
        simp only [Bool.not_true, Bool.false_eq_true, if_false, okb, Bool.true_and]
        by_cases h4 : r.length ≤ 8
        · rw [decide_eq_false (by omega : ¬ (8 : Int) < (r.length : Int)), decide_eq_true h4]
          simp only [Bool.false_eq_true, if_false, Bool.true_and]
          rw [Gm.comp_map (g := fun x : Str × Str × Str => x.1) (by rw [size_eq]; omega) fun x _ => ⟨rfl, rfl⟩, okb, are_names_eq hl, okb]
          cases okNames (l.map (·.1)) 1 8 with
          | false => rfl
          | true =>
            simp only [Bool.not_true, Bool.false_eq_true, if_false, okb, Bool.true_and]
            rw [loads_eq, okb]
            cases (r.all fun x => okEnds x.2.1 x.2.2 n) with
            | false => rfl
            | true =>
              simp only [Bool.not_true, Bool.false_eq_true, if_false, okb, Bool.true_and]
              rw [loads_eq, okb]
              cases (l.all fun x => okEnds x.2.1 x.2.2 n) with
              | false => rfl
              | true =>
                simp only [Bool.not_true, Bool.false_eq_true, if_false, okb, Bool.true_and]
                by_cases h8 : c.length ≤ 40
                · rw [decide_eq_false (by omega : ¬ (40 : Int) < (c.length : Int)), decide_eq_true h8]
                  simp only [Bool.false_eq_true, if_false, Bool.true_and]
                  rw [cons_eq, show s ++ List.map (fun x => x.fst) r = mvs s r from rfl]
                  cases (c.all fun x => okCon x n (mvs s r)) with
                  | false => rfl
                  | true =>
                    simp only [if_true, okb]
                    rw [mapid (by omega), okb, mapid (by omega), okb, mapid (by omega), okb]
                · rw [decide_eq_true (by omega : (40 : Int) < (c.length : Int)), decide_eq_false h8]; rfl
        · rw [decide_eq_true (by omega : (8 : Int) < (r.length : Int)), decide_eq_false h4]; rfl
    · rw [decide_eq_true (by omega : (6 : Int) < (s.length : Int)), decide_eq_false h2]; rfl
end Lw
set_option Elab.async false
set_option linter.all false
set_option maxRecDepth 100000
set_option maxHeartbeats 1000000
namespace Lw
open PySem Gm
open L2 hiding app_ok
/-! ### the law's names -/
theorem al_len : (cs al).length = 36 := by decide +kernel
theorem al_nd : (cs al).Nodup := by decide +kernel
theorem al_at {i : Int} (h0 : 0 ≤ i) (h : i < 36) : ∃ c, (cs al)[i.toNat]? = some c ∧ c ∈ cs al ∧ ofO (atS al i) = .ok ⟨#[c]⟩ := by
  have hl : al.length = 36 := by rw [cs_len, al_len]
  obtain ⟨y, e, c, hc, rfl⟩ := sat_atS (x := al) (i := i) h0 (by rw [hl]; exact h) (by rw [hl]; decide)
  exact ⟨c, hc, List.mem_of_getElem? hc, e⟩
theorem okName_of {t : Str} (h1 : 1 ≤ (cs t).length) (h2 : (cs t).length ≤ 12) (h3 : ∀ c ∈ cs t, c ∈ cs al) : okName t = true := by
  unfold okName
  rw [Bool.and_eq_true, Bool.and_eq_true, decide_eq_true_iff, decide_eq_true_iff, List.all_eq_true, cs_len]
  exact ⟨⟨h1, h2⟩, fun c hc => decide_eq_true (h3 c hc)⟩
theorem sat_names {nu : List Int} {k : Nat} (hnu : ∀ i : Int, 0 ≤ i → i < (k : Int) → Sat (ofO (atI nu i)) fun x => 0 ≤ x ∧ x < 1009) {a m : Int} (ha : 0 ≤ a) (hk : a + 4 < (k : Int)) (hm0 : 0 ≤ m) (hm : m ≤ 36) :
    Sat (l_names nu a m) fun l => l.length = m.toNat ∧ (∀ x ∈ l, okName x = true) ∧ l.Nodup := by
  unfold l_names
  simp only [okb, Mx.assoc]
  refine (hnu _ (by omega) (by omega)).bind fun n hn => ?_
  rw [mod_ok (by decide), okb]
  have h12 : 0 ≤ n % 12 ∧ n % 12 < 12 := ⟨Int.emod_nonneg _ (by decide), Int.emod_lt_of_pos _ (by decide)⟩
  generalize n % 12 = sz at h12
  rw [ran_ok (by omega), okb]
  refine Sat.bind (sat_loop (fun i s => (cs s).length = i ∧ ∀ c ∈ cs s, c ∈ cs al) ⟨by decide +kernel, fun c hc => by
    have e : cs ("" : Str) = [] := by decide +kernel
    rw [e] at hc; cases hc⟩ fun i s x hx hs => ?_) fun r hr => ?_
  · obtain ⟨ex, hx0, hx1⟩ := iran_get hx
    unfold l_names_b1
    simp only [okb, Mx.assoc]
    refine (hnu _ (by omega) (by omega)).bind fun v hv => ?_
    refine (hnu _ (by omega) (by omega)).bind fun w hw => ?_
    rw [mul_r (by omega) (by omega), okb, mod_ok (by decide), okb]
    obtain ⟨c, hc, hca, e⟩ := al_at (Int.emod_nonneg (v + x * w) (by decide)) (Int.emod_lt_of_pos _ (by decide))
    have hsl : s.length = i := by rw [cs_len]; exact hs.1
    have e1 : (⟨#[c]⟩ : Str).length = 1 := rfl
    rw [e, okb, catS_ok (by omega), okb]
    refine Sat.ok ⟨by rw [cs_app, List.length_append, hs.1]; rfl, fun d hd => ?_⟩
    rw [cs_app, List.mem_append] at hd
    rcases hd with hd | hd
    · exact hs.2 d hd
    · rw [cs_one] at hd; rw [List.mem_singleton.mp hd]; exact hca
  obtain ⟨hrl0, hra⟩ := hr
  rw [iran_len, Int.sub_zero] at hrl0
  have hrl : r.length = sz.toNat := by rw [cs_len]; exact hrl0
  refine (hnu _ (by omega) (by omega)).bind fun v3 hv3 => ?_
  rw [lenS_ok (by omega), okb, mod_ok (by omega), okb]
  have hp : 0 ≤ v3 % ((r.length : Int) + 1) ∧ v3 % ((r.length : Int) + 1) < (r.length : Int) + 1 := ⟨Int.emod_nonneg _ (by omega), Int.emod_lt_of_pos _ (by omega)⟩
  generalize v3 % ((r.length : Int) + 1) = p at hp
  refine (hnu _ (by omega) (by omega)).bind fun v4 hv4 => ?_
  rw [mod_ok (by decide), okb]
  have ho : 0 ≤ v4 % 36 ∧ v4 % 36 < 36 := ⟨Int.emod_nonneg _ (by decide), Int.emod_lt_of_pos _ (by decide)⟩
  generalize v4 % 36 = o at ho
  rw [ran_ok (by omega), okb]
  refine Sat.bind (sat_loop (fun i s => s.length = i ∧ ∀ (j : Nat) (y : Str), s[j]? = some y → ∃ c, (cs al)[((o + (j : Int)) % 36).toNat]? = some c ∧ cs y = (cs r).take p.toNat ++ [c] ++ (cs r).drop p.toNat) ⟨rfl, fun j y h => by simp at h⟩ fun i s x hx hs => ?_) fun l hl => Sat.ok ?_
  · obtain ⟨ex, hx0, hx1⟩ := iran_get hx
    unfold l_names_b2
    simp only [okb, Mx.assoc]
    rw [slS_ok (by omega), okb, mod_ok (by decide), okb]
    obtain ⟨c, hc, _, e⟩ := al_at (Int.emod_nonneg (o + x) (by decide)) (Int.emod_lt_of_pos _ (by decide))
    have l1 := cutS_len r none (some p)
    have l2 := cutS_len r (some p) none
    have e1 : (⟨#[c]⟩ : Str).length = 1 := rfl
    have hil : i < (iran 0 m).length := (List.getElem?_eq_some_iff.mp hx).1
    rw [iran_len] at hil
    rw [e, okb, catS_ok (by omega), okb, slS_ok (by omega), okb, catS_ok (by rw [len_app]; omega), okb, app_ok (by omega), okb]
    refine Sat.ok ⟨by rw [List.length_append, hs.1]; rfl, fun j y hy => ?_⟩
    by_cases hj : j < s.length
    · rw [List.getElem?_append_left hj] at hy
      exact hs.2 j y hy
    · have hj2 : j = i := by
        have := (List.getElem?_eq_some_iff.mp hy).1
        rw [List.length_append, List.length_singleton] at this; omega
      rw [List.getElem?_append_right (by omega), show j - s.length = 0 by omega] at hy
      cases hy
      rw [ex] at hc
      refine ⟨c, by rw [hj2]; simpa using hc, ?_⟩
      rw [cs_app, cs_app, cs_one, cs_to hp.1 (by omega), cs_fr hp.1 (by omega)]
  · obtain ⟨hll, at_⟩ := hl
    rw [iran_len] at hll
    refine ⟨by omega, fun y hy => ?_, ?_⟩
    · obtain ⟨i, hi⟩ := List.mem_iff_getElem?.mp hy
      obtain ⟨c, hc, e⟩ := at_ i y hi
      have hcl : (cs y).length = (cs r).length + 1 := by
        rw [e, List.length_append, List.length_append, List.length_take, List.length_drop, List.length_singleton]; rw [cs_len] at hrl hp; omega
      rw [cs_len] at hrl
      refine okName_of (by omega) (by omega) fun d hd => ?_
      rw [e, List.mem_append, List.mem_append] at hd
      rcases hd with (hd | hd) | hd
      · exact hra d (List.mem_of_mem_take hd)
      · rw [List.mem_singleton.mp hd]; exact List.mem_of_getElem? hc
      · exact hra d (List.mem_of_mem_drop hd)
    · rw [List.nodup_iff_pairwise_ne, List.pairwise_iff_getElem]
      intro i j hi hj hij e
      obtain ⟨c, hc, e1⟩ := at_ i _ (List.getElem?_eq_getElem hi)
      obtain ⟨d, hd, e2⟩ := at_ j _ (List.getElem?_eq_getElem hj)
      rw [e, e2, List.append_assoc, List.append_assoc] at e1
      have e3 := List.append_cancel_left e1
      have e4 : d = c := (List.cons.inj e3).1
      subst e4
      obtain ⟨h1, h2⟩ := List.getElem?_eq_some_iff.mp hc
      obtain ⟨h3, h4⟩ := List.getElem?_eq_some_iff.mp hd
      have h5 := (List.getElem_inj al_nd).mp (h2.trans h4.symm)
      omega
end Lw
set_option Elab.async false
set_option linter.all false
set_option maxRecDepth 100000
set_option maxHeartbeats 1000000
namespace Lw
open PySem Gm
open L2 hiding app_ok
/-! ### the law's drawn board -/
abbrev Load : Type := Str × Str × Str
abbrev Spec : Type := List Str × List Str × List Load × List Load × List Con
theorem ends_of {xs : List Str} (nd : xs.Nodup) {i j : Int} (h0 : 0 ≤ i) (h1 : i < (xs.length : Int)) (h2 : 0 ≤ j) (h3 : j < (xs.length : Int)) (hne : i ≠ j) : ∃ x y, xs[i.toNat]? = some x ∧ xs[j.toNat]? = some y ∧ okEnds x y xs = true := by
  have hi : i.toNat < xs.length := by omega
  have hj : j.toNat < xs.length := by omega
  refine ⟨xs[i.toNat], xs[j.toNat], List.getElem?_eq_getElem hi, List.getElem?_eq_getElem hj, ?_⟩
  unfold okEnds
  rw [decide_eq_true (List.getElem_mem hi), decide_eq_true (List.getElem_mem hj), Bool.true_and, Bool.true_and]
  have : ¬ xs[i.toNat] = xs[j.toNat] := fun e => by
    have := (List.getElem_inj nd).mp e
    omega
  rw [decide_eq_false this]; rfl
theorem turn_ne {n a b : Int} (hn : 2 ≤ n) (h0 : 0 ≤ a) (h1 : a < n) : 0 ≤ (a + 1 + b % (n - 1)) % n ∧ (a + 1 + b % (n - 1)) % n < n ∧ a ≠ (a + 1 + b % (n - 1)) % n := by
  have r0 : 0 ≤ b % (n - 1) := Int.emod_nonneg _ (by omega)
  have r1 : b % (n - 1) < n - 1 := Int.emod_lt_of_pos _ (by omega)
  generalize b % (n - 1) = r at r0 r1
  by_cases h : a + 1 + r < n
  · rw [Int.emod_eq_of_lt (by omega) h]; omega
  · have : (a + 1 + r) % n = a + 1 + r - n := by
      rw [← Int.sub_emod_right]
      exact Int.emod_eq_of_lt (by omega) (by omega)
    rw [this]; omega
structure Nu (nu : List Int) (k : Nat) : Prop where
  len : nu.length = k
  rng : ∀ x ∈ nu, 0 ≤ x ∧ x < 1009
theorem Nu.at_ {nu : List Int} {k : Nat} (h : Nu nu k) {i : Int} (h0 : 0 ≤ i) (h1 : i < (k : Int)) : Sat (ofO (atI nu i)) fun x => 0 ≤ x ∧ x < 1009 := sat_at h0 (by rw [h.len]; exact h1) h.rng
theorem sat_count {n lo hi : Int} (h : lo ≤ hi) : Sat (l_count n lo hi) fun c => lo ≤ c ∧ c ≤ hi := by
  unfold l_count
  simp only [Mx.assoc]
  rw [mod_ok (by decide), okb, okb]
  refine Sat.ite (fun _ => Sat.ok ⟨by omega, h⟩) fun _ => ?_
  try simp only [okb, Mx.assoc]
  refine Sat.ite (fun _ => Sat.ok ⟨h, by omega⟩) fun _ => ?_
  rw [div_ok (by decide) (by decide), okb]
  by_cases c : lo + 4 < hi
  · rw [if_pos c, mod_ok (by omega), okb]
    have h1 := Int.emod_nonneg (n / 6) (show lo + 4 - lo + 1 ≠ 0 by omega)
    have h2 := Int.emod_lt_of_pos (n / 6) (show 0 < lo + 4 - lo + 1 by omega)
    exact Sat.ok ⟨by omega, by omega⟩
  · rw [if_neg c, mod_ok (by omega), okb]
    have h1 := Int.emod_nonneg (n / 6) (show hi - lo + 1 ≠ 0 by omega)
    have h2 := Int.emod_lt_of_pos (n / 6) (show 0 < hi - lo + 1 by omega)
    exact Sat.ok ⟨by omega, by omega⟩
theorem sat_two {v w : Int} {nodes : List Str} (nd : nodes.Nodup) (n2 : 2 ≤ nodes.length) : Sat (l_two v w nodes) fun p => okEnds p.1 p.2 nodes = true := by
  unfold l_two
  simp only [Mx.assoc]
  rw [mod_ok (by omega), okb]
  have o0 : 0 ≤ v % (nodes.length : Int) := Int.emod_nonneg _ (by omega)
  have o1 : v % (nodes.length : Int) < (nodes.length : Int) := Int.emod_lt_of_pos _ (by omega)
  generalize v % (nodes.length : Int) = one at o0 o1
  rw [mod_ok (by omega), okb, okb, mod_ok (by omega), okb]
  obtain ⟨t0, t1, t2⟩ := turn_ne (b := w) (n := (nodes.length : Int)) (by omega) o0 o1
  generalize (one + 1 + w % ((nodes.length : Int) - 1)) % (nodes.length : Int) = other at t0 t1 t2
  obtain ⟨p, q, hp, hq, hok⟩ := ends_of nd o0 o1 t0 t1 t2
  rw [at_ok o0 hp, okb, at_ok t0 hq, okb]
  exact Sat.ok hok
theorem sat_loads {nu : List Int} {k : Nat} (hnu : Nu nu k) {a : Int} {names nodes : List Str} (ha : 0 ≤ a) (hm : names.length ≤ 1000) (hk : a + 2 * (names.length : Int) + 1 ≤ (k : Int)) (nd : nodes.Nodup) (n2 : 2 ≤ nodes.length) :
    Sat (l_loads nu a names nodes) fun l => l.map (·.1) = names ∧ ∀ x ∈ l, okEnds x.2.1 x.2.2 nodes = true := by
  unfold l_loads
  simp only [okb, Mx.assoc]
  rw [ran_ok (by omega), okb]
  refine Sat.bind (sat_loop (fun i s => s.map (·.1) = names.take i ∧ ∀ x ∈ s, okEnds x.2.1 x.2.2 nodes = true) ⟨by simp, by simp⟩ fun i s x hx hs => ?_) fun s hs => Sat.ok ⟨by rw [hs.1, iran_len, Int.sub_zero, show ((names.length : Nat) : Int).toNat = names.length by omega, List.take_length], hs.2⟩
  obtain ⟨ex, hx0, hx1⟩ := iran_get hx
  unfold l_loads_b1
  simp only [okb, Mx.assoc]
  rw [mul_l (by decide) (by decide), okb]
  refine (hnu.at_ (by omega) (by omega)).bind fun v hv => ?_
  rw [okb]
  refine (hnu.at_ (by omega) (by omega)).bind fun w hw => ?_
  refine (sat_two nd n2).bind fun p hok => ?_
  have hxl : x.toNat < names.length := by omega
  rw [at_ok (by omega) (List.getElem?_eq_getElem hxl), okb]
  have hsl : s.length ≤ 1000 := by
    have := congrArg List.length hs.1
    rw [List.length_map, List.length_take] at this; omega
  rw [app_ok (by omega), okb]
  have hxi : x.toNat = i := by omega
  refine Sat.ok ⟨?_, fun y hy => ?_⟩
  · rw [List.map_append, hs.1, List.take_succ, ← hxi, List.getElem?_eq_getElem hxl]; rfl
  · rcases List.mem_append.mp hy with hy | hy
    · exact hs.2 y hy
    · rw [List.mem_singleton.mp hy]; exact hok
theorem okCon_none {x y w : Str} {nodes ms : List Str} (h : okEnds x y nodes = true) (hw : w ∈ [("both" : Str), ("forward" : Str)]) : okCon (x, y, none, "make", w) nodes ms = true := by
  unfold okCon
  simp only [h, decide_eq_true hw, Bool.true_and]
  simp
theorem okCon_some {x y m z w : Str} {nodes ms : List Str} (h : okEnds x y nodes = true) (hm : m ∈ ms) (hz : z ∈ [("make" : Str), ("break" : Str)]) (hw : w ∈ [("both" : Str), ("forward" : Str)]) : okCon (x, y, some m, z, w) nodes ms = true := by
  unfold okCon
  simp only [h, decide_eq_true hw, decide_eq_true hz, decide_eq_true hm, Bool.true_and]
theorem sat_contact {nu : List Int} {k : Nat} (hnu : Nu nu k) {a : Int} {nodes ms : List Str} (ha : 0 ≤ a) (hk : a + 4 < (k : Int)) (nd : nodes.Nodup) (n2 : 2 ≤ nodes.length) (m3 : ms.length ≤ 1000) :
    Sat (l_contact nu a nodes ms) fun c => okCon c nodes ms = true := by
  unfold l_contact
  simp only [okb, Mx.assoc]
  refine (hnu.at_ (by omega) (by omega)).bind fun v hv => ?_
  refine (hnu.at_ (by omega) (by omega)).bind fun w hw => ?_
  refine (sat_two nd n2).bind fun p hok => ?_
  refine (hnu.at_ (by omega) (by omega)).bind fun y hy => ?_
  rw [mod_ok (by decide), okb]
  refine (sat_at (P := fun x => x ∈ [("both" : Str), ("forward" : Str)]) (Int.emod_nonneg _ (by decide)) (by simpa using Int.emod_lt_of_pos y (by decide : (0 : Int) < 2)) (by intro x hx; exact hx)).bind fun way hway => ?_
  refine (hnu.at_ (by omega) (by omega)).bind fun u hu => ?_
  rw [mod_ok (by omega), okb]
  have c0 : 0 ≤ u % ((ms.length : Int) + 1) := Int.emod_nonneg _ (by omega)
  have c1 : u % ((ms.length : Int) + 1) < (ms.length : Int) + 1 := Int.emod_lt_of_pos _ (by omega)
  generalize u % ((ms.length : Int) + 1) = which at c0 c1
  refine Sat.ite (fun _ => Sat.ok (okCon_none hok hway)) fun h => ?_
  have hne : ¬ which = (ms.length : Int) := fun e => h (decide_eq_true e)
  have hil : which.toNat < ms.length := by omega
  try simp only [okb, Mx.assoc]
  rw [at_ok c0 (List.getElem?_eq_getElem hil), okb]
  refine (hnu.at_ (by omega) (by omega)).bind fun z hz => ?_
  rw [mod_ok (by decide), okb]
  refine (sat_at (P := fun x => x ∈ [("make" : Str), ("break" : Str)]) (Int.emod_nonneg _ (by decide)) (by simpa using Int.emod_lt_of_pos z (by decide : (0 : Int) < 2)) (by intro x hx; exact hx)).bind fun wh hwh => ?_
  exact Sat.ok (okCon_some hok (List.getElem_mem hil) hwh hway)
end Lw
set_option Elab.async false
set_option linter.all false
set_option maxRecDepth 100000
set_option maxHeartbeats 1000000
namespace Lw
open PySem Gm
open L2 hiding app_ok
def okSpec (sp : Spec) : Bool := okBoard sp.1 sp.2.2.2.1 sp.2.1 sp.2.2.1 sp.2.2.2.2
theorem okNames_of {xs : List Str} {lo hi : Int} (h1 : lo ≤ (xs.length : Int)) (h2 : (xs.length : Int) ≤ hi) (h3 : ∀ x ∈ xs, okName x = true) (h4 : xs.Nodup) : okNames xs lo hi = true := by
  unfold okNames noRep
  rw [decide_eq_true h1, decide_eq_true h2, decide_eq_true h4, List.all_eq_true.mpr h3]; rfl
theorem sat_parts {nu : List Int} {k : Nat} (hnu : Nu nu k) (hk : 252 ≤ k) : Sat (l_parts nu) fun sp => okSpec sp = true := by
  unfold l_parts
  simp only [okb, Mx.assoc]
  have hat : ∀ i : Int, 0 ≤ i → i < (k : Int) → Sat (ofO (atI nu i)) fun x => 0 ≤ x ∧ x < 1009 := fun i h0 h1 => hnu.at_ h0 h1
  refine (hnu.at_ (by omega) (by omega)).bind fun n5 h5 => ?_
  refine (sat_count (by decide)).bind fun n hn => ?_
  refine (sat_names hat (by decide) (by omega) (by omega) (by omega)).bind fun nodes hnodes => ?_
  refine (hnu.at_ (by omega) (by omega)).bind fun n11 h11 => ?_
  refine (sat_count (by decide)).bind fun s hs => ?_
  refine (hnu.at_ (by omega) (by omega)).bind fun n12 h12 => ?_
  refine (sat_count (by decide)).bind fun r hr => ?_
  refine (sat_names hat (by decide) (by omega) (by omega) (by omega)).bind fun movers hmovers => ?_
  obtain ⟨nl, no, nn⟩ := hnodes
  obtain ⟨ml, mo, mn⟩ := hmovers
  rw [cut_to _ hs.1, cut_fr _ hs.1]
  have hdl : (movers.drop s.toNat).length = r.toNat := by rw [List.length_drop, ml]; omega
  refine (sat_loads hnu (by decide) (by omega) (by omega) nn (by omega)).bind fun relays hrel => ?_
  refine (hnu.at_ (by omega) (by omega)).bind fun n18 h18 => ?_
  refine (sat_count (by decide)).bind fun l hl => ?_
  refine (sat_names hat (by decide) (by omega) (by omega) (by omega)).bind fun lamps hlamps => ?_
  obtain ⟨ll, lo, ln⟩ := hlamps
  refine (sat_loads hnu (by decide) (by omega) (by omega) nn (by omega)).bind fun lams hlam => ?_
  refine (hnu.at_ (by omega) (by omega)).bind fun n19 h19 => ?_
  refine (sat_count (by decide)).bind fun c hc => ?_
  rw [ran_ok (by omega), okb]
  refine Sat.bind (sat_loop (fun i s => s.length = i ∧ ∀ x ∈ s, okCon x nodes movers = true) ⟨rfl, by simp⟩ fun i t x hx ht => ?_) fun cons hcons => Sat.ok ?_
  · obtain ⟨ex, hx0, hx1⟩ := iran_get hx
    unfold l_parts_b1
    simp only [okb, Mx.assoc]
    rw [mul_l (by decide) (by decide), okb]
    refine (sat_contact hnu (by omega) (by omega) nn (by omega) (by omega)).bind fun cc hcc => ?_
    rw [app_ok (by rw [ht.1]; omega), okb]
    refine Sat.ok ⟨by rw [List.length_append, ht.1]; rfl, fun y hy => ?_⟩
    rcases List.mem_append.mp hy with hy | hy
    · exact ht.2 y hy
    · rw [List.mem_singleton.mp hy]; exact hcc
  obtain ⟨hcl, hcp⟩ := hcons
  rw [iran_len] at hcl
  have hmv : mvs (movers.take s.toNat) relays = movers := by
    unfold mvs
    rw [hrel.1, List.take_append_drop]
  have hrl : relays.length = r.toNat := by
    have := congrArg List.length hrel.1
    rw [List.length_map] at this; omega
  have hll : lams.length = l.toNat := by
    have := congrArg List.length hlam.1
    rw [List.length_map] at this; omega
  show okBoard nodes lams (movers.take s.toNat) relays cons = true
  unfold okBoard
  rw [hmv, hlam.1, okNames_of (by omega) (by omega) no nn, okNames_of (by omega) (by omega) mo mn, okNames_of (by omega) (by omega) lo ln]
  rw [decide_eq_true (by rw [List.length_take]; omega), decide_eq_true (by omega), decide_eq_true (by omega), List.all_eq_true.mpr hrel.2, List.all_eq_true.mpr hlam.2]
  simp only [Bool.true_and, List.all_eq_true]
  exact hcp
/-- the board is made -/
theorem okNames_len {xs : List Str} {lo hi : Int} (h : okNames xs lo hi = true) : lo ≤ (xs.length : Int) ∧ (xs.length : Int) ≤ hi ∧ (∀ x ∈ xs, x.length ≤ 12) ∧ xs.Nodup := by
  unfold okNames noRep at h
  simp only [Bool.and_eq_true, decide_eq_true_eq, List.all_eq_true] at h
  refine ⟨h.1.1, h.1.2, fun x hx => ?_, h.2.2⟩
  have := h.2.1 x hx
  unfold okName at this
  simp only [Bool.and_eq_true, decide_eq_true_eq] at this
  exact this.1.2
structure Wf (sp : Spec) : Prop where
  nd : sp.1.Nodup
  n2 : 2 ≤ sp.1.length
  n16 : sp.1.length ≤ 16
  nl : ∀ x ∈ sp.1, x.length ≤ 12
  s6 : sp.2.1.length ≤ 6
  md : (mvs sp.2.1 sp.2.2.1).Nodup
  ml : ∀ x ∈ mvs sp.2.1 sp.2.2.1, x.length ≤ 12
  r8 : sp.2.2.1.length ≤ 8
  l1 : 1 ≤ sp.2.2.2.1.length
  l8 : sp.2.2.2.1.length ≤ 8
  ll : ∀ x ∈ sp.2.2.2.1.map (·.1), x.length ≤ 12
  ld : (sp.2.2.2.1.map (·.1)).Nodup
  re : ∀ x ∈ sp.2.2.1, okEnds x.2.1 x.2.2 sp.1 = true
  le : ∀ x ∈ sp.2.2.2.1, okEnds x.2.1 x.2.2 sp.1 = true
  c40 : sp.2.2.2.2.length ≤ 40
  ce : ∀ x ∈ sp.2.2.2.2, okCon x sp.1 (mvs sp.2.1 sp.2.2.1) = true
theorem wf_of {sp : Spec} (h : okSpec sp = true) : Wf sp := by
  unfold okSpec okBoard at h
  simp only [Bool.and_eq_true, decide_eq_true_eq, List.all_eq_true] at h
  obtain ⟨h1, h2, h3, h4, h5, h6, h7, h8, h9⟩ := h
  have a := okNames_len h1
  have b := okNames_len h3
  have c := okNames_len h5
  rw [List.length_map] at c
  exact ⟨a.2.2.2, by omega, by omega, a.2.2.1, h2, b.2.2.2, b.2.2.1, h4, by omega, by omega, c.2.2.1, c.2.2.2, h6, h7, h8, h9⟩
abbrev bd (sp : Spec) : D_Board := (sp.1, sp.2.1, sp.2.2.1, sp.2.2.2.1, sp.2.2.2.2, ())
theorem made_eq {sp : Spec} (h : okSpec sp = true) : l_made sp = .ok (bd sp) := by
  have w := wf_of h
  have r8 := w.r8
  have s6 := w.s6
  have l8 := w.l8
  have c40 := w.c40
  unfold l_made
  rw [init_eq (fun x hx => Nat.le_trans (w.nl x hx) (by decide)) (fun x hx => Nat.le_trans (w.ml x hx) (by decide)) (fun x hx => Nat.le_trans (w.ll x hx) (by decide)) (by omega) (by omega) (by omega)]
  unfold okSpec at h
  rw [h, if_pos rfl]
end Lw
set_option Elab.async false
set_option linter.all false
set_option maxRecDepth 100000
set_option maxHeartbeats 1000000
namespace Lw
open PySem Gm
open L2 hiding app_ok
/-! ### contacts of a board exchanged -/
abbrev spW (sp : Spec) (cs : List Con) : Spec := (sp.1, sp.2.1, sp.2.2.1, sp.2.2.2.1, cs)
theorem okW {sp : Spec} (h : okSpec sp = true) {cs : List Con} (h40 : cs.length ≤ 40) (hc : ∀ x ∈ cs, okCon x sp.1 (mvs sp.2.1 sp.2.2.1) = true) : okSpec (spW sp cs) = true := by
  unfold okSpec okBoard at h ⊢
  simp only [Bool.and_eq_true, decide_eq_true_eq, List.all_eq_true] at h ⊢
  obtain ⟨h1, h2, h3, h4, h5, h6, h7, h8, h9⟩ := h
  exact ⟨h1, h2, h3, h4, h5, h6, h7, h40, hc⟩
theorem init2_eq {sp : Spec} (h : okSpec sp = true) : g_Board_init_2 sp.1 sp.2.2.2.1 sp.2.1 sp.2.2.1 sp.2.2.2.2 = .ok (bd sp) := by
  have w := wf_of h
  have r8 := w.r8
  have s6 := w.s6
  have l8 := w.l8
  have c40 := w.c40
  have := init_eq (n := sp.1) (l := sp.2.2.2.1) (s := sp.2.1) (r := sp.2.2.1) (c := sp.2.2.2.2) (fun x hx => Nat.le_trans (w.nl x hx) (by decide)) (fun x hx => Nat.le_trans (w.ml x hx) (by decide)) (fun x hx => Nat.le_trans (w.ll x hx) (by decide)) (by omega) (by omega) (by omega)
  rw [show okBoard sp.1 sp.2.2.2.1 sp.2.1 sp.2.2.1 sp.2.2.2.2 = true from h, if_pos rfl] at this
  exact this
theorem with_eq {sp : Spec} (h : okSpec sp = true) {old cs : List Con} (h40 : cs.length ≤ 40) (hc : ∀ x ∈ cs, okCon x sp.1 (mvs sp.2.1 sp.2.2.1) = true) : g_Board_with_contacts (bd (spW sp old)) cs = .ok (bd (spW sp cs)) :=
  init2_eq (okW h h40 hc)
theorem enumL_mem' {α : Type} {l : List α} {p : Int × α} (h : p ∈ enumL l) : ∃ i : Nat, p.1 = (i : Int) ∧ l[i]? = some p.2 := by
  obtain ⟨i, hi⟩ := List.mem_iff_getElem?.mp h
  have hil : i < l.length := by
    have := (List.getElem?_eq_some_iff.mp hi).1
    rwa [enumL_len] at this
  have e := (enumL_get (List.getElem?_eq_getElem hil)).symm.trans hi
  cases e
  exact ⟨i, rfl, List.getElem?_eq_getElem hil⟩
/-- what stands elsewhere -/
theorem others_aux {α : Type} : ∀ (l : List α) (b k : Nat), ((List.range' b l.length).zipWith (fun (i : Nat) x => ((i : Int), x)) l).filter (fun p => !decide (p.1 = ((b + k : Nat) : Int))) |>.map (·.2) |> (· = l.eraseIdx k)
  | [], b, k => by simp
  | x :: l, b, 0 => by
    rw [List.length_cons, List.range'_succ, List.zipWith_cons_cons, List.filter_cons]
    have e : ∀ p ∈ (List.range' (b + 1) l.length).zipWith (fun (i : Nat) x => ((i : Int), x)) l, (!decide (p.1 = ((b + 0 : Nat) : Int))) = true := fun p hp => by
      obtain ⟨i, hi⟩ := List.mem_iff_getElem?.mp hp
      rw [List.getElem?_zipWith] at hi
      cases h1 : (List.range' (b + 1) l.length)[i]? with
      | none => rw [h1] at hi; simp at hi
      | some j =>
        cases h2 : l[i]? with
        | none => rw [h1, h2] at hi; simp at hi
        | some y =>
          rw [h1, h2] at hi
          have hj := List.mem_of_getElem? h1
          rw [List.mem_range'_1] at hj
          cases hi
          simp; omega
    rw [List.filter_eq_self.mpr e]
    simp
    apply List.ext_getElem?
    intro i
    rw [List.getElem?_zipWith]
    by_cases hi : i < l.length
    · rw [List.getElem?_eq_getElem hi, List.getElem?_range' hi]
    · rw [List.getElem?_eq_none_iff.mpr (show l.length ≤ i by omega)]
      cases (List.range' (b + 1) l.length)[i]? <;> rfl
  | x :: l, b, k + 1 => by
    rw [List.length_cons, List.range'_succ, List.zipWith_cons_cons, List.filter_cons]
    have : (!decide ((((b : Nat) : Int), x).1 = ((b + (k + 1) : Nat) : Int))) = true := by simp; omega
    rw [if_pos this, List.map_cons, List.eraseIdx_cons_succ]
    have ih := others_aux l (b + 1) k
    rw [show b + 1 + k = b + (k + 1) by omega] at ih
    show _ :: _ = _
    rw [ih]
theorem others {α : Type} (l : List α) (k : Nat) : ((enumL l).filter fun p => !decide (p.1 = (k : Int))).map (·.2) = l.eraseIdx k := by
  have := others_aux l 0 k
  rw [Nat.zero_add, ← List.range_eq_range'] at this
  exact this
theorem other_eq {sp : Spec} {cs : List Con} (h40 : cs.length ≤ 1000) {i : Int} (h0 : 0 ≤ i) (h1 : i < (cs.length : Int)) : g_Board_other_contacts (bd (spW sp cs)) i = .ok (cs.eraseIdx i.toNat) := by
  unfold g_Board_other_contacts
  rw [decide_eq_true h0, if_pos rfl, decide_eq_true (show i < ((bd (spW sp cs)).2.2.2.2.1.length : Int) from h1)]
  simp only [okb, Bool.not_true, Bool.false_eq_true, if_false]
  rw [Gm.comp_filter (c := fun p : Int × Con => !decide (p.1 = i)) (g := fun p => p.2) (by rw [enumL_len, size_eq]; show cs.length ≤ _; omega) fun p _ => ⟨rfl, fun _ => rfl⟩]
  have := others cs i.toNat
  rw [show ((i.toNat : Nat) : Int) = i by omega] at this
  exact congrArg Mx.ok this
end Lw
set_option Elab.async false
set_option linter.all false
set_option maxRecDepth 100000
set_option maxHeartbeats 1000000
namespace Lw
open PySem Gm
open L2 hiding app_ok
/-! ### the written form -/
theorem foldL_app {S : List Nat} : ∀ (l : List (List Nat)) (a b : List Nat), l.foldl (fun s q => s ++ (S ++ q)) (a ++ b) = a ++ l.foldl (fun s q => s ++ (S ++ q)) b
  | [], _, _ => rfl
  | q :: l, a, b => by rw [List.foldl_cons, List.foldl_cons, List.append_assoc, foldL_app l a (b ++ (S ++ q))]
theorem joinL_fold {S : List Nat} : ∀ (l : List (List Nat)) (p : List Nat), TL.joinL S (p :: l) = l.foldl (fun s q => s ++ (S ++ q)) p
  | [], _ => rfl
  | q :: l, p => by
    show p ++ (S ++ TL.joinL S (q :: l)) = _
    rw [joinL_fold l q, List.foldl_cons, ← List.append_assoc p S q, foldL_app l (p ++ S) q, List.append_assoc]
def rowS (x : Str) (l : List Str) : Str := l.foldl (fun s n => s ++ (" " : Str) ++ n) x
theorem cs_row : ∀ (l : List Str) (x : Str), cs (rowS x l) = (l.map cs).foldl (fun s q => s ++ (cs (" " : Str) ++ q)) (cs x)
  | [], _ => rfl
  | n :: l, x => by
    show cs (rowS (x ++ (" " : Str) ++ n) l) = _
    rw [cs_row l, List.map_cons, List.foldl_cons, cs_app, cs_app, List.append_assoc]
theorem join_row (x : Str) (l : List Str) : Txt.join (" " : Str) (x :: l) = rowS x l := cs_ext (by rw [cs_join, List.map_cons, joinL_fold, cs_row])
theorem empty_app (s : Str) : Str.empty ++ s = s := cs_ext (by rw [cs_app]; rfl)
theorem row_len {b : Nat} : ∀ (l : List Str) (x : Str), (∀ n ∈ l, n.length ≤ b) → (rowS x l).length ≤ x.length + l.length * (b + 1)
  | [], _, _ => by simp [rowS]
  | n :: l, x, h => by
    have h1 := row_len l (x ++ (" " : Str) ++ n) fun m hm => h m (List.mem_cons_of_mem _ hm)
    have h2 := h n (List.mem_cons_self ..)
    have e1 : (" " : Str).length = 1 := by decide +kernel
    rw [len_app, len_app, e1] at h1
    show (rowS (x ++ (" " : Str) ++ n) l).length ≤ _
    rw [List.length_cons, Nat.add_mul]; omega
def lineL (t : Str) (x : Load) : Str := t ++ x.1 ++ (" " : Str) ++ x.2.1 ++ (" " : Str) ++ x.2.2
def lineC (c : Con) : Str := ("contact " : Str) ++ c.1 ++ (" " : Str) ++ c.2.1 ++ (" " : Str) ++ c.2.2.1.getD ("-" : Str) ++ (" " : Str) ++ c.2.2.2.1 ++ (" " : Str) ++ c.2.2.2.2
def linesS (sp : Spec) : List Str := [rowS ("nodes" : Str) sp.1, rowS ("switches" : Str) sp.2.1] ++ sp.2.2.1.map (lineL ("relay " : Str)) ++ sp.2.2.2.1.map (lineL ("lamp " : Str)) ++ sp.2.2.2.2.map lineC
theorem loop_rows {α : Type} {f : List Str → α → Mx (List Str)} {g : α → Str} : ∀ (l : List α) (s : List Str), (∀ x ∈ l, ∀ s : List Str, s.length ≤ 1000 → f s x = .ok (s ++ [g x])) → s.length + l.length ≤ 1000 → loopS l s f = .ok (s ++ l.map g)
  | [], s, _, _ => by rw [List.map_nil, List.append_nil]; rfl
  | x :: l, s, h, hn => by
    rw [List.length_cons] at hn
    unfold loopS
    rw [h x (List.mem_cons_self ..) s (by omega), okb, loop_rows l _ (fun y hy => h y (List.mem_cons_of_mem _ hy)) (by rw [List.length_append, List.length_singleton]; omega), List.map_cons, List.append_assoc]
    rfl
theorem sp1 : (" " : Str).length = 1 := by decide +kernel
structure Shl (t : Str) (x : Load) : Prop where
  t : t.length ≤ 12
  a : x.1.length ≤ 12
  b : x.2.1.length ≤ 12
  c : x.2.2.length ≤ 12
theorem lineL_len {t : Str} {x : Load} (h : Shl t x) : (lineL t x).length ≤ 100 := by
  have := h.t; have := h.a; have := h.b; have := h.c; have := sp1
  unfold lineL
  simp only [len_app]; omega
theorem shl_of {sp : Spec} (w : Wf sp) : (∀ x ∈ sp.2.2.1, Shl ("relay " : Str) x) ∧ (∀ x ∈ sp.2.2.2.1, Shl ("lamp " : Str) x) := by
  have en : ∀ a b : Str, okEnds a b sp.1 = true → a.length ≤ 12 ∧ b.length ≤ 12 := fun a b h => by
    unfold okEnds at h
    simp only [Bool.and_eq_true, decide_eq_true_eq] at h
    exact ⟨w.nl _ h.1, w.nl _ h.2.1⟩
  refine ⟨fun x hx => ?_, fun x hx => ?_⟩
  · have := en _ _ (w.re x hx)
    exact ⟨by decide +kernel, w.ml _ (List.mem_append_right _ (List.mem_map.mpr ⟨x, hx, rfl⟩)), this.1, this.2⟩
  · have := en _ _ (w.le x hx)
    exact ⟨by decide +kernel, w.ll _ (List.mem_map.mpr ⟨x, hx, rfl⟩), this.1, this.2⟩
structure Shc (c : Con) : Prop where
  a : c.1.length ≤ 12
  b : c.2.1.length ≤ 12
  m : (c.2.2.1.getD ("-" : Str)).length ≤ 12
  w : c.2.2.2.1.length ≤ 12
  y : c.2.2.2.2.length ≤ 12
theorem shc_of {sp : Spec} (w : Wf sp) : ∀ c ∈ sp.2.2.2.2, Shc c := fun c hc => by
  have h := w.ce c hc
  unfold okCon okEnds at h
  simp only [Bool.and_eq_true, decide_eq_true_eq] at h
  obtain ⟨⟨h1, h2, _⟩, h3, h4, h5⟩ := h
  have w3 : c.2.2.2.1.length ≤ 12 := by
    simp only [List.mem_cons, List.not_mem_nil, or_false] at h3
    rcases h3 with e | e <;> (rw [e]; decide +kernel)
  have w4 : c.2.2.2.2.length ≤ 12 := by
    simp only [List.mem_cons, List.not_mem_nil, or_false] at h4
    rcases h4 with e | e <;> (rw [e]; decide +kernel)
  refine ⟨w.nl _ h1, w.nl _ h2, ?_, w3, w4⟩
  cases hm : c.2.2.1 with
  | none => show (("-" : Str)).length ≤ 12; decide +kernel
  | some m =>
    rw [hm] at h5
    exact w.ml _ (of_decide_eq_true h5)
theorem lineC_len {c : Con} (h : Shc c) : (lineC c).length ≤ 100 := by
  have := h.a; have := h.b; have := h.m; have := h.w; have := h.y; have := sp1
  have : ("contact " : Str).length = 8 := by decide +kernel
  unfold lineC
  simp only [len_app]; omega
theorem loadL {t : Str} {x : Load} (h : Shl t x) : (((((ofO (catO t x.1)) >>= fun v239 => ofO (catO v239 (" " : Str))) >>= fun v240 => ofO (catO v240 x.2.1)) >>= fun v241 => ofO (catO v241 (" " : Str))) >>= fun v242 => ofO (catO v242 x.2.2)) = .ok (lineL t x) := by
  have := h.t; have := h.a; have := h.b; have := h.c; have := sp1
  rw [catS_ok (by omega), okb, catS_ok (by simp only [len_app]; omega), okb, catS_ok (by simp only [len_app]; omega), okb, catS_ok (by simp only [len_app]; omega), okb, catS_ok (by simp only [len_app]; omega)]
  rfl
theorem loadF {t : Str} {x : Load} (h : Shl t x) : (ofO (catO Str.empty t) >>= fun f282 => ofO (catO f282 x.1) >>= fun f283 => ofO (catO f283 (" " : Str)) >>= fun f284 => ofO (catO f284 x.2.1) >>= fun f285 => ofO (catO f285 (" " : Str)) >>= fun f286 => ofO (catO f286 x.2.2) >>= fun f287 => Mx.ok f287) = .ok (lineL t x) := by
  have := h.t; have := h.a; have := h.b; have := h.c; have := sp1
  have e0 : Str.empty.length = 0 := rfl
  rw [catS_ok (by omega), okb, empty_app, catS_ok (by omega), okb, catS_ok (by simp only [len_app]; omega), okb, catS_ok (by simp only [len_app]; omega), okb, catS_ok (by simp only [len_app]; omega), okb, catS_ok (by simp only [len_app]; omega), okb]
  rfl
theorem word_eq (m : Option Str) : (if m.isNone = true then (.ok (some ("-" : Str))) >>= fun w => .ok w else .ok m : Mx (Option Str)) = .ok (some (m.getD ("-" : Str))) := by
  cases m <;> rfl
theorem row1 {x : Str} (y : Str) : ∀ (l : List Str) (x : Str), (∀ n ∈ l, n.length ≤ 12) → x.length + 13 * l.length ≤ 10000 → loopS l [x, y] l_lines_b1 = .ok [rowS x l, y]
  | [], _, _, _ => rfl
  | n :: l, x, h, hn => by
    rw [List.length_cons] at hn
    have h2 := h n (List.mem_cons_self ..)
    have := sp1
    unfold loopS l_lines_b1
    rw [show ofO (atI [x, y] (0 : Int)) = .ok x from rfl, okb, catS_ok (by omega), okb, catS_ok (by simp only [len_app]; omega), okb, show ofO (setO [x, y] (0 : Int) (x ++ (" " : Str) ++ n)) = .ok [x ++ (" " : Str) ++ n, y] from rfl, okb, okb]
    exact row1 (x := x) y l _ (fun m hm => h m (List.mem_cons_of_mem _ hm)) (by simp only [len_app]; omega)
theorem row2 {x : Str} (y : Str) : ∀ (l : List Str) (x : Str), (∀ n ∈ l, n.length ≤ 12) → x.length + 13 * l.length ≤ 10000 → loopS l [y, x] l_lines_b2 = .ok [y, rowS x l]
  | [], _, _, _ => rfl
  | n :: l, x, h, hn => by
    rw [List.length_cons] at hn
    have h2 := h n (List.mem_cons_self ..)
    have := sp1
    unfold loopS l_lines_b2
    rw [show ofO (atI [y, x] (1 : Int)) = .ok x from rfl, okb, catS_ok (by omega), okb, catS_ok (by simp only [len_app]; omega), okb, show ofO (setO [y, x] (1 : Int) (x ++ (" " : Str) ++ n)) = .ok [y, x ++ (" " : Str) ++ n] from rfl, okb, okb]
    exact row2 (x := x) y l _ (fun m hm => h m (List.mem_cons_of_mem _ hm)) (by simp only [len_app]; omega)
theorem llines_eq {sp : Spec} (w : Wf sp) : l_lines sp = .ok (linesS sp) := by
  have n16 := w.n16; have s6 := w.s6; have r8 := w.r8; have l8 := w.l8; have c40 := w.c40
  have en : ("nodes" : Str).length = 5 := by decide +kernel
  have es : ("switches" : Str).length = 8 := by decide +kernel
  have smem : ∀ n ∈ sp.2.1, n.length ≤ 12 := fun n hn => w.ml n (List.mem_append_left _ hn)
  obtain ⟨hr, hl⟩ := shl_of w
  have hc := shc_of w
  unfold l_lines
  rw [okb, row1 (x := "nodes") _ _ _ w.nl (by omega), okb, row2 (x := "switches") _ _ _ smem (by omega), okb]
  rw [loop_rows (g := lineL ("relay " : Str)) _ _ (fun x hx s hs => by
    unfold l_lines_b3
    rw [loadL (hr x hx), okb, app_ok (by omega), okb]) (by show 2 + _ ≤ _; omega), okb]
  rw [loop_rows (g := lineL ("lamp " : Str)) _ _ (fun x hx s hs => by
    unfold l_lines_b4
    rw [loadL (hl x hx), okb, app_ok (by omega), okb]) (by rw [List.length_append, List.length_map]; show 2 + _ + _ ≤ _; omega), okb]
  rw [loop_rows (g := lineC) _ _ (fun x hx s hs => by
    unfold l_lines_b5
    have h := hc x hx
    have := h.a; have := h.b; have := h.m; have := h.w; have := h.y; have := sp1
    have e8 : ("contact " : Str).length = 8 := by decide +kernel
    rw [okb, word_eq, okb, catS_ok (by omega), okb, catS_ok (by simp only [len_app]; omega), okb, catS_ok (by simp only [len_app]; omega), okb, catS_ok (by simp only [len_app]; omega), okb, show getO (some (x.2.2.1.getD ("-" : Str))) = .ok (x.2.2.1.getD ("-" : Str)) from rfl, okb, catS_ok (by simp only [len_app]; omega), okb, catS_ok (by simp only [len_app]; omega), okb, catS_ok (by simp only [len_app]; omega), okb, catS_ok (by simp only [len_app]; omega), okb, catS_ok (by simp only [len_app]; omega), okb, app_ok (by omega), okb]
    rfl) (by rw [List.length_append, List.length_append, List.length_map, List.length_map]; show 2 + _ + _ + _ ≤ _; omega), okb]
  rfl
theorem lines_ok {sp : Spec} (w : Wf sp) : ofO (joinO ("\n" : Str) (linesS sp)) = .ok (Txt.join ("\n" : Str) (linesS sp)) := by
  have n16 := w.n16; have s6 := w.s6; have r8 := w.r8; have l8 := w.l8; have c40 := w.c40
  obtain ⟨hr, hl⟩ := shl_of w
  have hc := shc_of w
  have smem : ∀ n ∈ sp.2.1, n.length ≤ 12 := fun n hn => w.ml n (List.mem_append_left _ hn)
  have en : ("nodes" : Str).length = 5 := by decide +kernel
  have es : ("switches" : Str).length = 8 := by decide +kernel
  have enl : ("\n" : Str).length = 1 := by decide +kernel
  have hlen : (linesS sp).length ≤ 60 := by
    unfold linesS
    simp only [List.length_append, List.length_map, List.length_cons, List.length_nil]; omega
  have all : ∀ y ∈ (linesS sp).map (·.length), y ≤ 1000 := fun y hy => by
    obtain ⟨z, hz, rfl⟩ := List.mem_map.mp hy
    unfold linesS at hz
    simp only [List.mem_append, List.mem_cons, List.not_mem_nil, or_false, List.mem_map] at hz
    rcases hz with (((rfl | rfl) | ⟨x, hx, rfl⟩) | ⟨x, hx, rfl⟩) | ⟨x, hx, rfl⟩
    · have := row_len sp.1 ("nodes" : Str) w.nl; omega
    · have := row_len sp.2.1 ("switches" : Str) smem; omega
    · have := lineL_len (hr x hx); omega
    · have := lineL_len (hl x hx); omega
    · have := lineC_len (hc x hx); omega
  have := sum_le all
  rw [List.length_map] at this
  have h2 : (linesS sp).length * 1000 ≤ 60 * 1000 := Nat.mul_le_mul_right _ hlen
  exact join_ok (by rw [enl]; omega)
theorem gformat_eq {sp : Spec} (w : Wf sp) : g_format_board (bd sp) = .ok (Txt.join ("\n" : Str) (linesS sp)) := by
  have n16 := w.n16; have s6 := w.s6; have r8 := w.r8; have l8 := w.l8; have c40 := w.c40
  obtain ⟨hr, hl⟩ := shl_of w
  have hc := shc_of w
  have smem : ∀ n ∈ sp.2.1, n.length ≤ 12 := fun n hn => w.ml n (List.mem_append_left _ hn)
  have en : ("nodes" : Str).length = 5 := by decide +kernel
  have es : ("switches" : Str).length = 8 := by decide +kernel
  have fit : ∀ (x : Str) (l : List Str), x.length ≤ 12 → (∀ n ∈ l, n.length ≤ 12) → l.length ≤ 20 → (ofO (fitL (x :: l)) >>= fun v => ofO (joinO (" " : Str) v)) = .ok (rowS x l) := fun x l hx hl h20 => by
    have e1 : ofO (fitL (x :: l)) = .ok (x :: l) := by unfold fitL; rw [if_pos (by rw [size_eq, List.length_cons]; omega)]; rfl
    have all : ∀ y ∈ (x :: l).map (·.length), y ≤ 12 := fun y hy => by
      obtain ⟨z, hz, rfl⟩ := List.mem_map.mp hy
      rcases List.mem_cons.mp hz with rfl | hz
      · exact hx
      · exact hl z hz
    have h1 := sum_le all
    rw [List.length_map, List.length_cons] at h1
    rw [e1, okb, join_ok (by rw [sp1, List.length_cons]; omega), join_row]
  unfold g_format_board
  rw [show (bd sp).1 = sp.1 from rfl, show (bd sp).2.1 = sp.2.1 from rfl, fit _ _ (by omega) w.nl (by omega), okb, fit _ _ (by omega) smem (by omega), okb, okb, okb]
  rw [show (bd sp).2.2.1 = sp.2.2.1 from rfl, show (bd sp).2.2.2.1 = sp.2.2.2.1 from rfl, show (bd sp).2.2.2.2.1 = sp.2.2.2.2 from rfl]
  rw [loop_rows (g := lineL ("relay " : Str)) _ _ (fun x hx s hs => by
    unfold g_format_board_b1
    rw [loadF (hr x hx), okb, app_ok (by omega), okb]) (by show 2 + _ ≤ _; omega), okb]
  rw [loop_rows (g := lineL ("lamp " : Str)) _ _ (fun x hx s hs => by
    unfold g_format_board_b2
    rw [loadF (hl x hx), okb, app_ok (by omega), okb]) (by rw [List.length_append, List.length_map]; show 2 + _ + _ ≤ _; omega), okb]
  rw [loop_rows (g := lineC) _ _ (fun x hx s hs => by
    unfold g_format_board_b3
    have h := hc x hx
    have := h.a; have := h.b; have := h.m; have := h.w; have := h.y; have := sp1
    have e8 : ("contact " : Str).length = 8 := by decide +kernel
    have e0 : Str.empty.length = 0 := rfl
    rw [okb, word_eq, okb, catS_ok (by omega), okb, empty_app, catS_ok (by omega), okb, catS_ok (by simp only [len_app]; omega), okb, catS_ok (by simp only [len_app]; omega), okb, catS_ok (by simp only [len_app]; omega), okb, show getO (some (x.2.2.1.getD ("-" : Str))) = .ok (x.2.2.1.getD ("-" : Str)) from rfl, okb, catS_ok (by simp only [len_app]; omega), okb, catS_ok (by simp only [len_app]; omega), okb, catS_ok (by simp only [len_app]; omega), okb, catS_ok (by simp only [len_app]; omega), okb, catS_ok (by simp only [len_app]; omega), okb, okb, app_ok (by omega), okb]
    rfl) (by rw [List.length_append, List.length_append, List.length_map, List.length_map]; show 2 + _ + _ + _ ≤ _; omega), okb]
  exact lines_ok w
end Lw
set_option Elab.async false
set_option linter.all false
set_option maxRecDepth 100000
set_option maxHeartbeats 1000000
namespace Lw
open PySem Gm
open L2 hiding app_ok
theorem same_eq (sp : Spec) : l_same (bd sp) sp = .ok true := by
  unfold l_same
  rw [loopF_go fun x _ => by unfold l_same_b1; rfl, okb]
  show (_ >>= fun v238 => _) = _
  simp only [decide_true, Bool.not_true, Bool.false_eq_true, if_false, okb, if_true]
theorem law_true (ns : List Int) (hns : ns.length ≤ 63) : l_law ns = .ok true := by
  refine Sat.eq ?_
  unfold l_law
  refine (sat_numbers (by decide) (by decide)).bind fun nu hn => ?_
  have hnu : Nu nu 254 := ⟨hn.1, hn.2⟩
  refine (sat_parts hnu (by decide)).bind fun sp hsp => ?_
  have w := wf_of hsp
  have c40 := w.c40
  rw [made_eq hsp, okb, llines_eq w, okb, lines_ok w, okb, gformat_eq w, okb]
  simp only [Bool.not_true, Bool.false_eq_true, if_false, decide_true, okb]
  refine sat_fwk (P := fun u => match u with | .go _ => True | .out r => False) (Sat.ite (fun hz => ?_) fun _ => Sat.ok True.intro) (fun _ _ => ?_) (fun r hr => hr.elim)
  · have hz : 0 < (sp.2.2.2.2.length : Int) := of_decide_eq_true hz
    simp only [Mx.assoc]
    refine (hnu.at_ (by decide) (by decide)).bind fun n hn => ?_
    rw [mod_ok hz, okb]
    have a0 := Int.emod_nonneg n (show (sp.2.2.2.2.length : Int) ≠ 0 by omega)
    have a1 := Int.emod_lt_of_pos n hz
    generalize n % (sp.2.2.2.2.length : Int) = i at a0 a1
    have hi : i.toNat < sp.2.2.2.2.length := by omega
    have ecs : ofO (catL (cut sp.2.2.2.2 none (some i)) (cut sp.2.2.2.2 (some (i + (1 : Int))) none)) = .ok (sp.2.2.2.2.eraseIdx i.toNat) := by
      rw [cut_to _ a0, cut_fr _ (by omega), show (i + 1).toNat = i.toNat + 1 by omega, cat_ok (by rw [List.length_take, List.length_drop]; omega), List.eraseIdx_eq_take_drop_succ]
    rw [ecs]
    simp only [okb]
    have hc : ∀ x ∈ sp.2.2.2.2.eraseIdx i.toNat, okCon x sp.1 (mvs sp.2.1 sp.2.2.1) = true := fun x hx => w.ce x (List.mem_of_mem_eraseIdx hx)
    have hl : (sp.2.2.2.2.eraseIdx i.toNat).length ≤ 40 := by rw [List.length_eraseIdx]; split <;> omega
    have hs2 := okW hsp hl hc
    have w2 := wf_of hs2
    have ew : g_Board_without_contact (bd sp) i = .ok (bd (spW sp (sp.2.2.2.2.eraseIdx i.toNat))) := by
      unfold g_Board_without_contact
      rw [show bd sp = bd (spW sp sp.2.2.2.2) from rfl, other_eq (by omega) a0 a1]
      simp only [okb]
      exact with_eq hsp hl hc
    rw [ew]
    simp only [okb]
    rw [gformat_eq w2, okb]
    show Sat (l_lines (spW sp (sp.2.2.2.2.eraseIdx i.toNat)) >>= _) _
    rw [llines_eq w2, okb, lines_ok w2, okb, decide_eq_true rfl]
    exact Sat.ok True.intro
  · rw [if_pos True.intro]
    exact Sat.of (same_eq sp) rfl
end Lw
set_option Elab.async false
set_option synthInstance.maxHeartbeats 2000000
set_option synthInstance.maxSize 4000
set_option linter.all false
set_option maxRecDepth 100000
set_option maxHeartbeats 4000000
namespace Lw
open PySem PySem.Spec L2 Gm
theorem facts (hlaw : ∀ ns : List Int, ns.length ≤ 63 → l_law ns = .ok true) {w : World} {K : PySem.W.Frag} {h : Heap} {mg : Str → Option Value} {f : Addr} (X : K.In h) (G : h.Ns mainGlobals mg) (hfa : mg ("law" : Str) = some (.ref f)) (c : Told fa fn K) :
    ∃ fd : FuncData, (∀ (s : Shared) (v : Value), BindsTo s fd ⟨[v], []⟩ [("_law_script", v)]) ∧ ∀ base : Heap, K.In base → base.Ns mainGlobals mg → FnOk P0 w K mg base (L2.CX P0 w) 7 f fd ["_law_script"] (spL K 63) := by
  obtain ⟨f0, F0⟩ := c.def_ 0 (d := d_l_row) rfl
  have b0 : Binds K f0 ["_law_cell", "_law_many"] [] := FunD.bindsN (ps := ["_law_cell", "_law_many"]) F0 fun _ _ _ _ _ _ us hl => match us, hl with | [_, _], _ => rfl
  obtain ⟨f1, F1⟩ := c.def_ 1 (d := d_l_numbers) rfl
  have b1 : Binds K f1 ["_law_script", "_law_many"] [] := FunD.bindsN (ps := ["_law_script", "_law_many"]) F1 fun _ _ _ _ _ _ us hl => match us, hl with | [_, _], _ => rfl
  obtain ⟨f2, F2⟩ := c.def_ 2 (d := d_l_names) rfl
  have b2 : Binds K f2 ["_law_numbers_here", "_law_at", "_law_many"] [] := FunD.bindsN (ps := ["_law_numbers_here", "_law_at", "_law_many"]) F2 fun _ _ _ _ _ _ us hl => match us, hl with | [_, _, _], _ => rfl
  obtain ⟨f3, F3⟩ := c.def_ 3 (d := d_l_count) rfl
  have b3 : Binds K f3 ["_law_number", "_law_least", "_law_most"] [] := FunD.bindsN (ps := ["_law_number", "_law_least", "_law_most"]) F3 fun _ _ _ _ _ _ us hl => match us, hl with | [_, _, _], _ => rfl
  obtain ⟨f4, F4⟩ := c.def_ 4 (d := d_l_two) rfl
  have b4 : Binds K f4 ["_law_one", "_law_other", "_law_nodes"] [] := FunD.bindsN (ps := ["_law_one", "_law_other", "_law_nodes"]) F4 fun _ _ _ _ _ _ us hl => match us, hl with | [_, _, _], _ => rfl
  obtain ⟨f5, F5⟩ := c.def_ 5 (d := d_l_loads) rfl
  have b5 : Binds K f5 ["_law_numbers_here", "_law_at", "_law_names_here", "_law_nodes"] [] := FunD.bindsN (ps := ["_law_numbers_here", "_law_at", "_law_names_here", "_law_nodes"]) F5 fun _ _ _ _ _ _ us hl => match us, hl with | [_, _, _, _], _ => rfl
  obtain ⟨f6, F6⟩ := c.def_ 6 (d := d_l_contact) rfl
  have b6 : Binds K f6 ["_law_numbers_here", "_law_at", "_law_nodes", "_law_movers"] [] := FunD.bindsN (ps := ["_law_numbers_here", "_law_at", "_law_nodes", "_law_movers"]) F6 fun _ _ _ _ _ _ us hl => match us, hl with | [_, _, _, _], _ => rfl
  obtain ⟨f7, F7⟩ := c.def_ 7 (d := d_l_parts) rfl
  have b7 : Binds K f7 ["_law_numbers_here"] [] := FunD.bindsN (ps := ["_law_numbers_here"]) F7 fun _ _ _ _ _ _ us hl => match us, hl with | [_], _ => rfl
  obtain ⟨f8, F8⟩ := c.def_ 8 (d := d_g_Board_is_name) rfl
  have b8 : Binds K f8 ["text"] [] := FunD.bindsN (ps := ["text"]) F8 fun _ _ _ _ _ _ us hl => match us, hl with | [_], _ => rfl
  obtain ⟨f9, F9⟩ := c.def_ 9 (d := d_g_are_names) rfl
  have b9 : Binds K f9 ["names", "least", "most"] [] := FunD.bindsN (ps := ["names", "least", "most"]) F9 fun _ _ _ _ _ _ us hl => match us, hl with | [_, _, _], _ => rfl
  obtain ⟨f10, F10⟩ := c.def_ 10 (d := d_g_is_between) rfl
  have b10 : Binds K f10 ["one", "other", "nodes"] [] := FunD.bindsN (ps := ["one", "other", "nodes"]) F10 fun _ _ _ _ _ _ us hl => match us, hl with | [_, _, _], _ => rfl
  obtain ⟨f11, F11⟩ := c.def_ 11 (d := d_g_are_loads) rfl
  have b11 : Binds K f11 ["loads", "nodes"] [] := FunD.bindsN (ps := ["loads", "nodes"]) F11 fun _ _ _ _ _ _ us hl => match us, hl with | [_, _], _ => rfl
  obtain ⟨f12, F12⟩ := c.def_ 12 (d := d_g_is_contact) rfl
  have b12 : Binds K f12 ["contact", "nodes", "movers"] [] := FunD.bindsN (ps := ["contact", "nodes", "movers"]) F12 fun _ _ _ _ _ _ us hl => match us, hl with | [_, _, _], _ => rfl
  obtain ⟨f13, F13⟩ := c.def_ 13 (d := d_g_Board_init) rfl
  obtain ⟨f14, F14⟩ := c.def_ 14 (d := d_l_made) rfl
  have b14 : Binds K f14 ["_law_parts_here"] [] := FunD.bindsN (ps := ["_law_parts_here"]) F14 fun _ _ _ _ _ _ us hl => match us, hl with | [_], _ => rfl
  obtain ⟨f15, F15⟩ := c.def_ 15 (d := d_l_lines) rfl
  have b15 : Binds K f15 ["_law_parts_here"] [] := FunD.bindsN (ps := ["_law_parts_here"]) F15 fun _ _ _ _ _ _ us hl => match us, hl with | [_], _ => rfl
  obtain ⟨f16, F16⟩ := c.def_ 16 (d := d_g_format_board) rfl
  have b16 : Binds K f16 ["board"] [] := FunD.bindsN (ps := ["board"]) F16 fun _ _ _ _ _ _ us hl => match us, hl with | [_], _ => rfl
  obtain ⟨f17, F17⟩ := c.def_ 17 (d := d_g_Board_with_contacts) rfl
  have b17 : Binds K f17 ["self", "contacts"] [] := FunD.bindsN (ps := ["self", "contacts"]) F17 fun _ _ _ _ _ _ us hl => match us, hl with | [_, _], _ => rfl
  obtain ⟨f18, F18⟩ := c.def_ 18 (d := d_g_Board_other_contacts) rfl
  have b18 : Binds K f18 ["self", "number"] [] := FunD.bindsN (ps := ["self", "number"]) F18 fun _ _ _ _ _ _ us hl => match us, hl with | [_, _], _ => rfl
  obtain ⟨f19, F19⟩ := c.def_ 19 (d := d_g_Board_without_contact) rfl
  have b19 : Binds K f19 ["self", "number"] [] := FunD.bindsN (ps := ["self", "number"]) F19 fun _ _ _ _ _ _ us hl => match us, hl with | [_, _], _ => rfl
  obtain ⟨f20, F20⟩ := c.def_ 20 (d := d_l_same) rfl
  have b20 : Binds K f20 ["_law_board", "_law_parts_here"] [] := FunD.bindsN (ps := ["_law_board", "_law_parts_here"]) F20 fun _ _ _ _ _ _ us hl => match us, hl with | [_, _], _ => rfl
  obtain ⟨f21, F21⟩ := c.def_ 21 (d := d_l_law) rfl
  have b21 : Binds K f21 ["_law_script"] [] := FunD.bindsN (ps := ["_law_script"]) F21 fun _ _ _ _ _ _ us hl => match us, hl with | [_], _ => rfl
  have e := hfa.symm.trans (He.glo_ok X G (x := "law") (c.fact 57 rfl))
  cases e
  have bl := FunD.bindsA (ps := ["_law_script"]) F21 fun _ _ _ _ _ _ us hl => match us, hl with | [_], _ => rfl
  have T : Tx P0 K mg ⟨f0, f1, f2, f3, f4, f5, f6, f7, f8, f9, f10, f11, f12, f13, f14, f15, f16, f17, f18, f19, f20, f21⟩ := ⟨F0,
    b0,
    F1,
    b1,
    F2,
    b2,
    F3,
    b3,
    F4,
    b4,
    F5,
    b5,
    F6,
    b6,
    F7,
    b7,
    F8,
    b8,
    F9,
    b9,
    F10,
    b10,
    F11,
    b11,
    F12,
    b12,
    F13,
    F14,
    b14,
    F15,
    b15,
    F16,
    b16,
    F17,
    b17,
    F18,
    b18,
    F19,
    b19,
    F20,
    b20,
    F21,
    b21,
    He.free_ok X G (c.fact 0 rfl),
    He.free_ok X G (c.fact 1 rfl),
    He.free_ok X G (c.fact 2 rfl),
    He.free_ok X G (c.fact 3 rfl),
    He.free_ok X G (c.fact 4 rfl),
    He.free_ok X G (c.fact 5 rfl),
    He.free_ok X G (c.fact 6 rfl),
    He.free_ok X G (c.fact 7 rfl),
    He.free_ok X G (c.fact 8 rfl),
    He.free_ok X G (c.fact 9 rfl),
    He.free_ok X G (c.fact 10 rfl),
    He.free_ok X G (c.fact 11 rfl),
    He.free_ok X G (c.fact 12 rfl),
    He.glo_ok X G (c.fact 13 rfl),
    He.glo_ok X G (c.fact 14 rfl),
    He.glo_ok X G (c.fact 15 rfl),
    He.glo_ok X G (c.fact 16 rfl),
    He.glo_ok X G (c.fact 17 rfl),
    He.glo_ok X G (c.fact 18 rfl),
    He.glo_ok X G (c.fact 19 rfl),
    He.glo_ok X G (c.fact 20 rfl),
    He.glo_ok X G (c.fact 21 rfl),
    He.cls_ok (c.fact 22 rfl),
    He.int_ok X G (c.fact 23 rfl),
    He.str_ok X G (c.fact 24 rfl),
    fRead_ok (c.fact 25 rfl),
    fStat_ok (c.fact 26 rfl),
    fInt_ok (c.fact 27 rfl),
    He.glo_ok X G (c.fact 28 rfl),
    fInt_ok (c.fact 29 rfl),
    He.exc_ok (c.fact 30 rfl),
    He.glo_ok X G (c.fact 31 rfl),
    fInt_ok (c.fact 32 rfl),
    fInt_ok (c.fact 33 rfl),
    He.glo_ok X G (c.fact 34 rfl),
    He.glo_ok X G (c.fact 35 rfl),
    fInt_ok (c.fact 36 rfl),
    He.tupB_ok (c.fact 37 rfl),
    He.glo_ok X G (c.fact 38 rfl),
    He.tupB_ok (c.fact 39 rfl),
    He.glo_ok X G (c.fact 40 rfl),
    He.glo_ok X G (c.fact 41 rfl),
    He.noat_ok (c.fact 42 rfl),
    He.noat_ok (c.fact 43 rfl),
    He.noat_ok (c.fact 44 rfl),
    He.noat_ok (c.fact 45 rfl),
    He.noat_ok (c.fact 46 rfl),
    He.mkr_ok (c.fact 47 rfl),
    He.glo_ok X G (c.fact 48 rfl),
    He.glo_ok X G (c.fact 49 rfl),
    He.glo_ok X G (c.fact 50 rfl),
    He.glo_ok X G (c.fact 51 rfl),
    fSup_ok (par := "number") (c.fact 52 rfl) (c.at_ 22 (d := d_g_UnknownNumber_init) rfl) rfl rfl rfl,
    He.meth_ok (c.fact 53 rfl),
    He.meth_ok (c.fact 54 rfl),
    He.meth_ok (c.fact 55 rfl),
    He.glo_ok X G (c.fact 56 rfl),
    He.glo_ok X G (c.fact 57 rfl)⟩
  exact ⟨f21, fun s v => bl s [v] rfl, fun base _ _ => (ok_l_law T).imp fun vs H Q E q => spL_imp hlaw vs H Q E q⟩
end Lw
open PySem PySem.W PySem.Calls PyProof.Rows
theorem PySem.Challenge.cw_leverhouse_k06_written_form_holds : PySem.Challenge.rw_leverhouse_k06_written_form.Holds := by
  w_on; o_law
  refine HandSHeadRun.head_any (r := OpenLaw.row PySem.Challenge.rw_leverhouse_k06_written_form) (q := view (OpenLaw.row PySem.Challenge.rw_leverhouse_k06_written_form).prog [29]) (H := Lw.hk) (ob := Lw.ob) (M := 8000) (loose := Lw.loose) (d := HandSHeadRun.topDef (OpenLaw.row PySem.Challenge.rw_leverhouse_k06_written_form).prog 29) (kwd := []) Lw.ob_eq
    (by kernel_rfl) (fun s => by kernel_rfl) Lw.run (by kernel_rfl) (by kernel_rfl) (by kernel_rfl) (by rfl) (by first | assumption | decide +kernel) (by decide +kernel) ⟨rfl, rfl, rfl, rfl, rfl, by decide +kernel⟩ ?hw ?hc
  case hw => w_witness2
  case hc =>
    refine Gm.walk_w (l := PySem.Challenge.rw_leverhouse_k06_written_form) (n := 63) (k := 7) (x := "_law_script") (CX := fun w => L2.CX (PySem.Challenge.rw_leverhouse_k06_written_form).prog w) rfl (by decide) (by kernel_rfl) ⟨rfl, by decide, by decide⟩ ?F (fun w H s e s' h => Gm.cx_end H s e s' h)
    intro w mg fa h Y G hmg0
    obtain ⟨K, KX, c⟩ := Y
    have hmg : mg ("law" : PySem.Str) = some (.ref fa) := by
      have e : (HandSHeadRun.topDef (OpenLaw.row PySem.Challenge.rw_leverhouse_k06_written_form).prog 29).name = ("law" : PySem.Str) := by kernel_rfl
      rw [← e]
      exact hmg0
    obtain ⟨fd, hb, hF⟩ := Lw.facts Lw.law_true (w := w) KX G hmg c
    exact ⟨K, fd, Gm.spL K 63, KX, hb, fun H a ns hl _ hS => ⟨a, ns, rfl, hS, hl, fun _ => rfl⟩, hF⟩
