import PyProof.Rows.All
import Wide.All
import OpenK.AllK
import Wide.FinOn
import KE.KStateDown
import Lean
import HandS.ForMost
import HandS.Exc
import HandS.TryOnly
import HandS.Property
import HandS.Defaults
import HandS.Head0
import HandS.Head1
import HandS.Head2
import HandS.HeadEnd
import HandS.HeadHook1
import HandS.HeadHook2
import PySem.Challenge.RW_shortlooks_k73_whole_what_is_accepted_is
import HandS.Walk
import HandS.Text
import HandS.IsInst
import HandS.DictComp
import KE.GoesMore
import KE.GoesEnum
import HandS.WordsExc
import HandS.Conv
import HandS.TupLen
import KE.KDictKeyed
import HandS.Deep
set_option Elab.async false
set_option linter.all false
set_option maxRecDepth 100000
set_option maxHeartbeats 0
namespace K73
open PySem PySem.Spec PyProof.Rows L2
/-! ### the text by places -/
def topS (i : Nat) : Stmt := PySem.Challenge.pw_shortlooks_k73_whole_what_is_accepted_is.main.body.getD i (.Pass ⟨0, 0, 0, 0⟩)
def dg (x : Str) (s : Stmt) : He.DefD := ⟨(x, none), x, x, defArgs s, defBody s, defScope s, [], []⟩
def dm (c m q : Str) (s : Stmt) : He.DefD := ⟨(c, some m), m, q, defArgs s, defBody s, defScope s, [], []⟩
/-! ### getters of properties -/
def gA (K : PySem.W.Frag) (c f : Str) : Addr := match PySem.W.recIn K (He.ma K (He.ga K c) f) "property" with
  | some (.ref g :: _) => g
  | _ => 0
structure PrD where
  cls : Str
  name : Str
  qual : Str
  params : Arguments
  body : List Stmt
  scope : Scope
def PrD.val (d : PrD) : He.FnW := some (d.name, d.qual, d.params, .stmts d.body, d.scope, mainGlobals, [], builtinsNs)
def seenOf (f : FuncData) : He.FnW := some (f.name, f.qualname, f.params, f.body, f.scope, f.globals, f.closure, f.builtins)
def fnA (K : PySem.W.Frag) (a : Addr) : He.FnW := match K.lookup a with
  | some ⟨_, _, .func f, _⟩ => seenOf f
  | _ => none
def PrD.ok (K : PySem.W.Frag) (d : PrD) : Bool :=
  He.eqO (PySem.W.findIn K (.ref (He.ga K d.cls)) d.name) (some (some (.ref (He.ma K (He.ga K d.cls) d.name)))) &&
  (He.eqO (PySem.W.specialIn K (.ref (He.ma K (He.ga K d.cls) d.name)) "__get__") (some (some (.builtin "property.__get__"))) &&
  (decide (PySem.W.takesIn K (.ref (He.ma K (He.ga K d.cls) d.name)) = some true) &&
  ((match PySem.W.recIn K (He.ma K (He.ga K d.cls) d.name) "property" with
    | some (.ref _ :: _) => true
    | _ => false) &&
  (PySem.W.keepIn K (.ref (gA K d.cls d.name)) && (match K.lookup (gA K d.cls d.name) with
    | some ⟨_, _, .func fd, _⟩ => PySem.W.codeIn K fd.code d.qual && (He.dflB K fd.defaults [] && He.kwdB K fd.kwdefaults [])
    | _ => false)))))
theorem PrD.prop {K : PySem.W.Frag} {d : PrD} (c : d.ok K = true) : PropOf K (He.ga K d.cls) d.name (He.ma K (He.ga K d.cls) d.name) (gA K d.cls d.name) := by
  obtain ⟨c1, c⟩ := He.ba c
  obtain ⟨c2, c⟩ := He.ba c
  obtain ⟨c3, c⟩ := He.ba c
  obtain ⟨c4, _⟩ := He.ba c
  refine ⟨He.eqO_ok c1, He.eqO_ok c2, of_decide_eq_true c3, ?_⟩
  unfold gA
  cases e : PySem.W.recIn K (He.ma K (He.ga K d.cls) d.name) "property" with
  | none => rw [e] at c4; cases c4
  | some l =>
    rw [e] at c4
    cases l with
    | nil => cases c4
    | cons v r =>
      cases v with
      | ref g => exact ⟨r, rfl⟩
      | _ => cases c4
theorem PrD.funD {K : PySem.W.Frag} {d : PrD} (e : fnA K (gA K d.cls d.name) = d.val) (c : d.ok K = true) : ∃ fd, FunD K d.name d.qual d.params d.body d.scope [] [] (gA K d.cls d.name) fd := by
  obtain ⟨_, c⟩ := He.ba c
  obtain ⟨_, c⟩ := He.ba c
  obtain ⟨_, c⟩ := He.ba c
  obtain ⟨_, c⟩ := He.ba c
  obtain ⟨kp, c2⟩ := He.ba c
  unfold fnA at e
  cases q : K.lookup (gA K d.cls d.name) with
  | none =>
    rw [q] at c2
    cases c2
  | some o =>
    obtain ⟨oc, od, dt, osl⟩ := o
    rw [q] at c2 e
    cases dt with
    | func fd =>
      obtain ⟨a1, a2, a3, a4, a5, a6, a7, a8, a9, a10, a11, a12, a13, a14, a15⟩ := fd
      have e2 : (some (a1, a2, a3, a4, a5, a6, a7, a15) : He.FnW) = some (d.name, d.qual, d.params, .stmts d.body, d.scope, mainGlobals, [], builtinsNs) := e
      simp only [Option.some.injEq, Prod.mk.injEq] at e2
      obtain ⟨q1, q2, q3, q4, q5, q6, q7, q8⟩ := e2
      subst q1 q2 q3 q4 q5 q6 q7 q8
      have c3 : (PySem.W.codeIn K a13 d.qual && (He.dflB K a8 [] && He.kwdB K a9 [])) = true := c2
      obtain ⟨k1, k2⟩ := He.ba c3
      obtain ⟨k3, k4⟩ := He.ba k2
      exact ⟨_, ⟨oc, od, a8, a9, a10, a11, a12, a13, a14, osl, rfl, q, k1, He.dflB_ok k3, He.kwdB_ok k4⟩, kp⟩
    | _ => cases c2
/-! ### the Hook -/
abbrev AlP : Type := He.AlD × Bool × List He.FnW
def obsP (fa : List He.Fa) (fn : List He.DefD) (pr : List PrD) (ex : PySem.W.Frag → Bool) (K : PySem.W.Frag) : AlP := (He.obsD fa fn K, (pr.all fun d => d.ok K) && ex K, pr.map fun d => fnA K (gA K d.cls d.name))
def valP (fn : List He.DefD) (pr : List PrD) : AlP := (He.valD fn, true, pr.map PrD.val)
def SaysP (fa : List He.Fa) (fn : List He.DefD) (pr : List PrD) (ex : PySem.W.Frag → Bool) (K : PySem.W.Frag) : Prop := obsP fa fn pr ex K = valP fn pr
def obsPG (n : Nat) (fa : List He.Fa) (fn : List He.DefD) (pr : List PrD) (ex : PySem.W.Frag → Bool) (g : Addr → Option Obj) : AlP := obsP fa fn pr ex (He.frG g (He.asD g n))
def hookP (n : Nat) (fa : List He.Fa) (fn : List He.DefD) (pr : List PrD) (ex : PySem.W.Frag → Bool) : PySem.W.Hook where
  α := AlP
  obs := fun s => obsPG n fa fn pr ex s.heap.get?
  val := fun _ => valP fn pr
  says := fun _ h => ∃ K : PySem.W.Frag, K.In h ∧ SaysP fa fn pr ex K
  of := fun _ _ e => ⟨_, He.frG_in, e⟩
  keeps := fun _ _ _ ⟨K, hK, c⟩ k => ⟨K, PySem.W.Frag.In.keeps hK k, c⟩
theorem obsPG_eq {n : Nat} {fa : List He.Fa} {fn : List He.DefD} {pr : List PrD} {ex : PySem.W.Frag → Bool} {g : Addr → Option Obj} {s : Shared} (h : ∀ a, g a = s.heap.get? a) : obsPG n fa fn pr ex g = (hookP n fa fn pr ex).obs s := by
  obtain rfl : g = s.heap.get? := funext h
  rfl
section
variable {fa : List He.Fa} {fn : List He.DefD} {pr : List PrD} {ex : PySem.W.Frag → Bool} {K : PySem.W.Frag}
theorem SaysP.d (c : SaysP fa fn pr ex K) : He.SaysD fa fn K := congrArg (fun z : AlP => z.1) c
theorem SaysP.more (c : SaysP fa fn pr ex K) : ex K = true := (He.ba (show ((pr.all fun d => d.ok K) && ex K) = true from congrArg (fun z : AlP => z.2.1) c)).2
theorem SaysP.prp (c : SaysP fa fn pr ex K) (i : Nat) {d : PrD} (h : pr[i]? = some d := by rfl) : PropOf K (He.ga K d.cls) d.name (He.ma K (He.ga K d.cls) d.name) (gA K d.cls d.name) ∧ ∃ fd, FunD K d.name d.qual d.params d.body d.scope [] [] (gA K d.cls d.name) fd := by
  have c1 := (He.ba (show ((pr.all fun d => d.ok K) && ex K) = true from congrArg (fun z : AlP => z.2.1) c)).1
  have c2 := List.all_eq_true.mp c1 d (List.mem_of_getElem? h)
  have e : pr.map (fun d => fnA K (gA K d.cls d.name)) = pr.map PrD.val := congrArg (fun z : AlP => z.2.2) c
  have e2 : (pr.map fun d => fnA K (gA K d.cls d.name))[i]? = (pr.map PrD.val)[i]? := by rw [e]
  rw [List.getElem?_map, List.getElem?_map, h] at e2
  exact ⟨PrD.prop c2, PrD.funD (Option.some.inj e2) c2⟩
end
end K73

set_option Elab.async false
set_option linter.all false
set_option maxRecDepth 100000
set_option maxHeartbeats 0
namespace K73
open PySem PySem.Spec PyProof.Rows L2
/-! ### the defs of the text -/
abbrev s_is_integer : Stmt := topS 15
abbrev s_is_between : Stmt := topS 16
abbrev s_is_word : Stmt := topS 17
abbrev s_are_letters : Stmt := topS 18
abbrev s_signs_in : Stmt := topS 23
abbrev s_moods_in : Stmt := topS 24
abbrev s_good_in : Stmt := topS 25
abbrev s_goals_in : Stmt := topS 26
abbrev s_draft_in : Stmt := topS 28
abbrev s_rule_in : Stmt := topS 34
abbrev s_goal_of : Stmt := topS 35
abbrev s_coming : Stmt := topS 39
abbrev s_coming_live : Stmt := topS 40
abbrev s_are_pairs : Stmt := topS 41
abbrev s_shows_within : Stmt := topS 42
abbrev s_heights_in : Stmt := topS 43
abbrev s_is_settled : Stmt := topS 44
abbrev s_shows_heights : Stmt := topS 45
abbrev s_accepts_two : Stmt := topS 53
abbrev s_accepts_one : Stmt := topS 54
abbrev s_accepts : Stmt := topS 55
abbrev s_law_cell : Stmt := topS 57
abbrev s_law_purse : Stmt := topS 58
abbrev s_law_pick : Stmt := topS 59
abbrev s_law_letters : Stmt := topS 60
abbrev s_law_aim : Stmt := topS 61
abbrev s_law_box : Stmt := topS 62
abbrev s_law_text : Stmt := topS 63
abbrev s_law_end : Stmt := topS 64
abbrev s_law_is_fine : Stmt := topS 65
abbrev s_law_reached : Stmt := topS 66
abbrev s_law_live : Stmt := topS 67
abbrev s_law_unlike : Stmt := topS 68
abbrev s_law_look : Stmt := topS 69
abbrev s_law_wider : Stmt := topS 70
abbrev s_law_heights : Stmt := topS 71
abbrev s_law_rows_to : Stmt := topS 72
abbrev s_law_pieces : Stmt := topS 73
abbrev s_law_slip : Stmt := topS 74
abbrev s_law_is_so : Stmt := topS 75
abbrev s_law_right : Stmt := topS 76
abbrev s_law : Stmt := topS 77
abbrev s_Draft_init : Stmt := inClass (topS 27) 0
abbrev s_Rule_init : Stmt := inClass (topS 30) 0
abbrev s_Rule_signs : Stmt := inClass (topS 30) 2
abbrev s_Rule_moods : Stmt := inClass (topS 30) 3
abbrev s_Rule_good : Stmt := inClass (topS 30) 4
/-! ### facts by names -/
def fn : List He.DefD := [
  dg "is_integer" s_is_integer,
  dg "is_between" s_is_between,
  dg "is_word" s_is_word,
  dg "are_letters" s_are_letters,
  dg "signs_in" s_signs_in,
  dg "moods_in" s_moods_in,
  dg "good_in" s_good_in,
  dg "goals_in" s_goals_in,
  dg "draft_in" s_draft_in,
  dg "rule_in" s_rule_in,
  dg "goal_of" s_goal_of,
  dg "coming" s_coming,
  dg "coming_live" s_coming_live,
  dg "are_pairs" s_are_pairs,
  dg "shows_within" s_shows_within,
  dg "heights_in" s_heights_in,
  dg "is_settled" s_is_settled,
  dg "shows_heights" s_shows_heights,
  dg "accepts_two" s_accepts_two,
  dg "accepts_one" s_accepts_one,
  dg "accepts" s_accepts,
  dg "_law_cell" s_law_cell,
  dg "_law_purse" s_law_purse,
  dg "_law_pick" s_law_pick,
  dg "_law_letters" s_law_letters,
  dg "_law_aim" s_law_aim,
  dg "_law_box" s_law_box,
  dg "_law_text" s_law_text,
  dg "_law_end" s_law_end,
  dg "_law_is_fine" s_law_is_fine,
  dg "_law_reached" s_law_reached,
  dg "_law_live" s_law_live,
  dg "_law_unlike" s_law_unlike,
  dg "_law_look" s_law_look,
  dg "_law_wider" s_law_wider,
  dg "_law_heights" s_law_heights,
  dg "_law_rows_to" s_law_rows_to,
  dg "_law_pieces" s_law_pieces,
  dg "_law_slip" s_law_slip,
  dg "_law_is_so" s_law_is_so,
  dg "_law_right" s_law_right,
  dg "law" s_law,
  dm "Draft" "__init__" "Draft.__init__" s_Draft_init,
  dm "Rule" "__init__" "Rule.__init__" s_Rule_init]
def prs : List PrD := [
  ⟨"Rule", "signs", "Rule.signs", defArgs s_Rule_signs, defBody s_Rule_signs, defScope s_Rule_signs⟩,
  ⟨"Rule", "moods", "Rule.moods", defArgs s_Rule_moods, defBody s_Rule_moods, defScope s_Rule_moods⟩,
  ⟨"Rule", "good", "Rule.good", defArgs s_Rule_good, defBody s_Rule_good, defScope s_Rule_good⟩]
def fa : List He.Fa := [
  .glo "is_integer",
  .glo "is_between",
  .glo "is_word",
  .glo "are_letters",
  .glo "signs_in",
  .glo "moods_in",
  .glo "good_in",
  .glo "goals_in",
  .glo "draft_in",
  .glo "rule_in",
  .glo "goal_of",
  .glo "coming",
  .glo "coming_live",
  .glo "are_pairs",
  .glo "shows_within",
  .glo "heights_in",
  .glo "is_settled",
  .glo "shows_heights",
  .glo "accepts_two",
  .glo "accepts_one",
  .glo "accepts",
  .glo "_law_cell",
  .glo "_law_purse",
  .glo "_law_pick",
  .glo "_law_letters",
  .glo "_law_aim",
  .glo "_law_box",
  .glo "_law_text",
  .glo "_law_end",
  .glo "_law_is_fine",
  .glo "_law_reached",
  .glo "_law_live",
  .glo "_law_unlike",
  .glo "_law_look",
  .glo "_law_wider",
  .glo "_law_heights",
  .glo "_law_rows_to",
  .glo "_law_pieces",
  .glo "_law_slip",
  .glo "_law_is_so",
  .glo "_law_right",
  .glo "law",
  .glo "Rule",
  .glo "Draft",
  .glo "InvalidText",
  .cls "Rule",
  .cls "Draft",
  .mkr "Rule",
  .mkr "Draft",
  .noat "Rule" "wording",
  .noat "Rule" "draft",
  .noat "Draft" "letters",
  .noat "Draft" "tempers",
  .noat "Draft" "fine",
  .noat "Draft" "goals",
  .int "MOST_SIGNS" 3,
  .int "MOST_MOODS" 300,
  .int "MOST_LOOK" 1000,
  .int "MOST_LETTERS" 8,
  .int "HEADS" 3,
  .int "CLAIM_SIZE" 3,
  .str "LETTERS" "abcdefghijklmnopqrstuvwxyz",
  .glo "WORDS",
  .free "isinstance",
  .free "len",
  .free "all",
  .free "any",
  .free "zip",
  .free "tuple",
  .free "list",
  .free "dict",
  .free "max",
  .free "min",
  .free "range",
  .free "abs",
  .free "divmod",
  .free "int",
  .free "str",
  .free "bool"]
def wordsD : List He.Dv := [.str "apart", .str "within", .str "last", .str "windows", .str "never"]
def ex (K : PySem.W.Frag) : Bool := He.tupB K "WORDS" wordsD
def loose0 : List PySem.Str := ["_wall", "NotRight", "InvalidText", "InvalidRow", "InvalidMood", "InvalidSign", "MOST_SIGNS", "MOST_MOODS", "MOST_ROW", "MOST_LOOK", "LETTERS", "MOST_LETTERS", "KINDS", "is_integer", "is_between", "is_word", "are_letters", "is_row", "check_row", "HEADS", "signs_in", "moods_in", "good_in", "goals_in", "Draft", "draft_in", "text_of", "Rule", "PAPER_SIZES", "FILLED_PLACES"]
def loose1 : List PySem.Str := ["rule_in", "goal_of", "end_of", "is_good_end", "is_row_for", "coming", "coming_live", "are_pairs", "shows_within", "heights_in", "is_settled", "shows_heights", "are_rows", "shows_pair", "shows_sets", "shows_never", "WORDS", "CLAIM_SIZE", "accepts_two", "accepts_one", "accepts", "_law_cell", "_law_purse", "_law_pick", "_law_letters", "_law_aim", "_law_box", "_law_text", "_law_end", "_law_is_fine"]
def loose2 : List PySem.Str := ["_law_reached", "_law_live", "_law_unlike", "_law_look", "_law_wider", "_law_heights", "_law_rows_to", "_law_pieces", "_law_slip", "_law_is_so", "_law_right"]
def loose : List PySem.Str := loose0 ++ loose1 ++ loose2
abbrev R : PySem.W.OpenRow := PySem.W.OpenLaw.row PySem.Challenge.rw_shortlooks_k73_whole_what_is_accepted_is
abbrev hk : PySem.W.Hook := hookP 5 fa fn prs ex
def ob (s : PySem.W.SharedT) : AlP := obsPG 5 fa fn prs ex (HandSHeadRun.getT s)
theorem ob_eq (s : PySem.W.SharedT) : ob s = hk.obs s.abs := obsPG_eq (HandSHeadRun.getT_eq s)
abbrev qv : Program := PySem.W.view R.prog [77]
/-- the run of the top at one answer of the world's one open row: the looks, what is seen, the facts, apart -/
noncomputable abbrev Rn (b : Bool) (w : World) (os : OsState) : Option PySem.W.SharedT := HandSHeadRun.endF (HandSHeadRun.stepQ (HandSHeadRun.denQ HandSHeadRun.tabQ) R.prog (w.withFollow "special-get-raises" b)) 6000 R.prog (w.withFollow "special-get-raises" b) os
noncomputable abbrev f1 (w : World) (s : PySem.W.SharedT) := HandSHeadRun.looksF R.prog (PySem.W.boot_heap w.params) s.abs
noncomputable abbrev f2 (s : PySem.W.SharedT) := HandSHeadRun.seenQ qv loose (importedModules R.prog.main.body) (fun s => PySem.W.xlAt qv [] s && PySem.W.recOk R.toRowW.records s) s.abs
theorem runF12 (w : World) (os : OsState) : (Rn false w os).map (fun s => (f1 (w.withFollow "special-get-raises" false) s, f2 s)) = some (true, PySem.W.openGood qv loose) := by kernel_rfl
theorem runT12 (w : World) (os : OsState) : (Rn true w os).map (fun s => (f1 (w.withFollow "special-get-raises" true) s, f2 s)) = some (true, PySem.W.openGood qv loose) := by kernel_rfl
theorem runF3 (w : World) (os : OsState) : (Rn false w os).map ob = some (hk.val (w.withFollow "special-get-raises" false)) := by kernel_rfl
theorem runT3 (w : World) (os : OsState) : (Rn true w os).map ob = some (hk.val (w.withFollow "special-get-raises" true)) := by kernel_rfl
theorem join_map {a b c d : Type} {o : Option d} {f : d → a} {g : d → b} {h : d → c} {x : a} {y : b} {z : c} (e1 : o.map (fun s => (f s, g s)) = some (x, y)) (e2 : o.map h = some z) : o.map (fun s => (f s, g s, h s)) = some (x, y, z) := by
  cases o with
  | none => cases e1
  | some s =>
    have h1 : (f s, g s) = (x, y) := Option.some.inj e1
    have h2 : h s = z := Option.some.inj e2
    obtain ⟨h3, h4⟩ := Prod.mk.inj h1
    show some (f s, g s, h s) = _
    rw [h3, h4, h2]
theorem run (w : World) : HandSHeadRun.RunEq R qv hk ob 6000 loose w :=
  PySem.W.byRow2 "special-get-raises" (P := fun w => HandSHeadRun.RunEq R qv hk ob 6000 loose w)
    (fun w os => join_map (runF12 w os) (runF3 w os)) (fun w os => join_map (runT12 w os) (runT3 w os)) w
end K73

set_option Elab.async false
set_option linter.all false
set_option maxRecDepth 100000
set_option maxHeartbeats 4000000
namespace K73
open PySem PySem.Spec PyProof.Rows L2
/-! ### what the top has written -/
structure Txt (K : PySem.W.Frag) (mg : Str → Option Value) : Prop where
  ex : ∃ h : Heap, K.In h ∧ h.Ns mainGlobals mg
  says : SaysP fa fn prs K73.ex K
section
variable {K : PySem.W.Frag} {mg : Str → Option Value}
theorem Txt.free (T : Txt K mg) (i : Nat) {x : Str} (h : fa[i]? = some (.free x)) : mg x = none := by
  obtain ⟨hp, X, G⟩ := T.ex
  exact He.free_ok X G (T.says.d.fact i h)
theorem Txt.glo (T : Txt K mg) (i : Nat) {x : Str} (h : fa[i]? = some (.glo x)) : mg x = some (.ref (He.ga K x)) := by
  obtain ⟨hp, X, G⟩ := T.ex
  exact He.glo_ok X G (T.says.d.fact i h)
theorem Txt.int (T : Txt K mg) (i : Nat) {x : Str} {n : Int} (h : fa[i]? = some (.int x n)) : ∃ t, mg x = some (.int n t) := by
  obtain ⟨hp, X, G⟩ := T.ex
  exact He.int_ok X G (T.says.d.fact i h)
theorem Txt.str (T : Txt K mg) (i : Nat) {x z : Str} (h : fa[i]? = some (.str x z)) : ∃ t, mg x = some (.str z t) := by
  obtain ⟨hp, X, G⟩ := T.ex
  exact He.str_ok X G (T.says.d.fact i h)
end
/-! ### a def of the text that keeps a promise -/
structure Fn (P : Program) (w : World) (K : PySem.W.Frag) (mg : Str → Option Value) (base : Heap) (k : Nat) (x : Str) (ps : List Str) (sp : Sp) : Prop where
  ex : ∃ fd, FnOk P w K mg base CX0 k (He.ga K x) fd ps sp ∧ Binds K fd ps []
  mg : mg x = some (.ref (He.ga K x))
  kp : PySem.W.keepIn K (.ref (He.ga K x)) = true
/-- the def's place in the text, its facts -/
structure Df (K : PySem.W.Frag) (mg : Str → Option Value) (x : Str) (st : Stmt) : Prop where
  ex : ∃ fd, FunD K x x (defArgs st) (defBody st) (defScope st) [] [] (He.ga K x) fd
  mg : mg x = some (.ref (He.ga K x))
theorem Txt.df {K : PySem.W.Frag} {mg : Str → Option Value} (T : Txt K mg) (i : Nat) {x : Str} {st : Stmt} (h : fn[i]? = some (dg x st)) (hg : fa[i]? = some (.glo x)) : Df K mg x st := ⟨T.says.d.def_ i h, T.glo i hg⟩
section
variable {P : Program} {w : World} {K : PySem.W.Frag} {mg : Str → Option Value} {base : Heap}
/-- THE RULE for a def -/
theorem Df.fn {x : Str} {st : Stmt} {N ps : List Str} {k : Nat} {sp : Sp} (D : Df K mg x st) (S : FnScope N ps (defScope st))
    (bd : ∀ (kV doc pm : Value) (an : Option Addr) (cdv ct : Value) (us : List Value), us.length = ps.length → bindArgs (PySem.W.fnOf x x (defArgs st) (defBody st) (defScope st) .none kV doc pm an cdv ct) ⟨us, []⟩ = pure (ps.zip us))
    (len : ∀ vs H Q E, sp vs H Q E → vs.length = ps.length)
    (hbody : ∀ (cdv : Value) (A : Around) (outer : List Env) (s : Shared) (H : Hp) (vs : List V) (Q : VK) (E : XK), Room k (A.deeper (envOfC x (defScope st) s.heap.objs.size (He.ga K x) cdv)) → sp vs H Q E →
      ∃ t, PSs (cxOf CX0 P w K mg base N x (defScope st) (He.ga K x) cdv A outer s H E).nox (defBody st) t ∧ t { nx := fun _ H' => Q .non H', rt := Q } (start N vs) H) : Fn P w K mg base (k + 1) x ps sp := by
  obtain ⟨fd, F⟩ := D.ex
  refine ⟨⟨fd, F.ok S len fun cdv A outer s H vs Q E hr h => ?_, F.bindsN bd⟩, D.mg, F.kp⟩
  obtain ⟨t, h1, h2⟩ := hbody cdv A outer s H vs Q E hr h
  exact ⟨t, PSs.nox h1, h2⟩
theorem Fn.mono {j k : Nat} {x : Str} {ps : List Str} {sp : Sp} (F : Fn P w K mg base j x ps sp) (h : j ≤ k) : Fn P w K mg base k x ps sp := by
  obtain ⟨⟨fd, F1, F2⟩, F3, F4⟩ := F
  exact ⟨⟨fd, F1.mono h, F2⟩, F3, F4⟩
end
/-- a call of such a def -/
def tCl (sp : Sp) (t : TA) : TE := fun σ H Q => t σ H fun vs H1 => sp vs H1 Q E0
section
variable {X : Cx}
theorem pcall {k : Nat} {x : Str} {ps : List Str} {sp : Sp} {e : Expr} {es : List Expr} {p pos : Pos} {t : TA} (G : Fn X.prog X.w X.K X.mg X.base k x ps sp) (hr : Room k X.A) (ha : PA X (e :: es) t) (hg : Gl X x := by rfl) (hdb : (x == ("__debug__" : Str)) = false := by decide)
    (he : starEach (e :: es) X.env = (false, eval e X.env) :: starEach es X.env := by rfl) (hpl : (backTo pos (starEach es X.env)).any (·.1) = false := by rfl) :
    PE X (.Call (.Name x p) (e :: es) [] pos) (tCl sp t) := by
  obtain ⟨fd, F, b⟩ := G.ex
  have h := pe_call (p := p) (E := E0) F hr hg G.mg G.kp b .nil pass0 ha hdb he hpl
  refine ⟨fun pins s σ H Q I q => h.run pins s σ H Q I ?_⟩
  have e1 : (fun (vs : List V) (H1 : Hp) => sp (vs ++ []) H1 Q E0) = fun vs H1 => sp vs H1 Q E0 := by
    funext vs H1
    rw [List.append_nil]
  show t σ H (fun vs H1 => sp (vs ++ []) H1 Q E0)
  rw [e1]
  exact q
end
/-! ### heaps -/
/-- all but what stands at p is as it was -/
def But (p : Addr) (H H' : Hp) : Prop := ∀ b o, b ≠ p → H b = some o → H' b = some o
theorem But.refl (p : Addr) (H : Hp) : But p H H := fun _ _ _ h => h
theorem But.trans {p : Addr} {H H1 H2 : Hp} (a : But p H H1) (b : But p H1 H2) : But p H H2 := fun c o n h => b c o n (a c o n h)
theorem But.of {p : Addr} {H H' : Hp} (e : Same H H') : But p H H' := fun b o _ h => e b o h
theorem But.upd {p : Addr} {H : Hp} {o : HO} : But p H (L2.upd H p o) := fun b o' n h => by
  rw [upd_ne n]
  exact h
theorem same_upd {H : Hp} {p : Addr} {o : HO} (h : H p = none) : Same H (upd H p o) := fun b x e => by
  rw [upd_ne (ne_of_none e h)]
  exact e
/-- what was not there may change -/
theorem same_upd_new {H H' : Hp} {p : Addr} {o : HO} (e : Same H H') (h : H p = none) : Same H (upd H' p o) := fun b x q => by
  rw [upd_ne (ne_of_none q h)]
  exact e b x q
theorem but_upd_new {c p : Addr} {H H' : Hp} {o : HO} (e : But c H H') (h : H p = none) : But c H (upd H' p o) := fun b x n q => by
  rw [upd_ne (ne_of_none q h)]
  exact e b x n q
theorem But.free {p : Addr} {H H' : Hp} (e : But p H H') {l : Addr} (n : l ≠ p) (h : H' l = Option.none) : H l = Option.none := by
  cases q : H l with
  | none => rfl
  | some o =>
    rw [e l o n q] at h
    cases h
/-- three numbers, the second one not negative -/
def PurseAt (H : Hp) (p : Addr) : Prop := ∃ a b c : Int, H p = some (.lst [.int a, .int b, .int c]) ∧ 0 ≤ b
theorem PurseAt.same {H H' : Hp} {p : Addr} (h : PurseAt H p) (e : Same H H') : PurseAt H' p := by
  obtain ⟨a, b, c, h1, h2⟩ := h
  exact ⟨a, b, c, e _ _ h1, h2⟩
end K73

set_option Elab.async false
set_option linter.all false
set_option maxRecDepth 100000
set_option maxHeartbeats 4000000
namespace K73
open PySem PySem.Spec PyProof.Rows L2
/-! ### a reading, step by step -/
section
variable {σ : L2.St} {H : Hp} {Q : VK} {Qb : Bool → Hp → Prop} {Qa : List V → Hp → Prop} {D : Ends} {t u : TS} {te ta tb tc tk tv : TE} {c c' : TT} {g : TG} {gs : TGs} {tas : TA} {i j : Nat} {v x y : V} {r r' : R2} {K : PySem.W.Frag}
theorem r_seq (h : t { nx := u D, rt := D.rt, bk := D.bk, ct := D.ct } σ H) : tSeq t u D σ H := h
theorem r_asg (h : te σ H fun x H1 => g x σ H1 D.nx) : tAsg te g D σ H := h
theorem r_ret (h : te σ H D.rt) : tRet te D σ H := h
theorem r_retN (h : D.rt .non H) : tRetN D σ H := h
theorem r_drop (h : te σ H fun _ H1 => D.nx σ H1) : tDrop te D σ H := h
theorem r_next (h : D.nx σ H) : tNext D σ H := h
theorem r_ifS (h : c σ H fun b H1 => if b = true then t D σ H1 else u D σ H1) : tIfS c t u D σ H := h
theorem r_par (h : tas σ H fun vs H1 => ∃ v w, vs = [v, w] ∧ D.nx ((σ.set i (some v)).set j (some w)) H1) : tPar i j tas D σ H := h
theorem r_par2 {P : V → V → Prop} (h : P x y) : ∃ v w, [x, y] = [v, w] ∧ P v w := ⟨x, y, rfl, h⟩
theorem r_var (h : σ[i]? = some (some v)) (q : Q v H) : tVar i σ H Q := ⟨v, h, q⟩
theorem r_c (q : Q v H) : tC v σ H Q := q
theorem r_op (h : ta σ H fun x H1 => tb σ H1 fun y H2 => r x y H2 Q) : tOp r ta tb σ H Q := h
theorem r_un {ru : V → Hp → VK → Prop} (h : ta σ H fun x H1 => ru x H1 Q) : tUn ru ta σ H Q := h
theorem r_tup (h : tas σ H fun xs H1 => xs.length ≤ sizeLine ∧ ∀ p, H1 p = none → Q (.ref p) (upd H1 p (.tup xs))) : tTup tas σ H Q := h
theorem r_lst (h : tas σ H fun xs H1 => xs.length ≤ sizeLine ∧ ∀ p, H1 p = none → Q (.ref p) (upd H1 p (.lst xs))) : tLst tas σ H Q := h
theorem r_cons (h : ta σ H fun x H1 => tas σ H1 fun xs H2 => Qa (x :: xs) H2) : tCons ta tas σ H Qa := h
theorem r_nil (h : Qa [] H) : tNil σ H Qa := h
theorem r_cl {sp : Sp} (h : tas σ H fun vs H1 => sp vs H1 Q E0) : tCl sp tas σ H Q := h
theorem r_cb {rc : List V → Hp → VK → Prop} (h : tas σ H fun vs H1 => rc vs H1 Q) : tCB rc tas σ H Q := h
theorem r_test (h : te σ H fun x H' => ∃ k, x = .bl k ∧ Qb k H') : tTest te σ H Qb := h
theorem r_tB (h : te σ H fun x H' => ∃ k, x = .bl k ∧ Qb k H') : tB te σ H Qb := h
theorem r_bl {P : Bool → Prop} {b : Bool} (h : P b) : ∃ k, V.bl b = V.bl k ∧ P k := ⟨b, rfl, h⟩
theorem r_and (h : c σ H fun b H1 => if b = true then c' σ H1 Qb else Qb false H1) : tAnd c c' σ H Qb := h
theorem r_or (h : c σ H fun b H1 => if b = true then Qb true H1 else c' σ H1 Qb) : tOr c c' σ H Qb := h
theorem r_not (h : c σ H fun b H1 => Qb (!b) H1) : tNot c σ H Qb := h
theorem r_yes (h : Qb true H) : tYes σ H Qb := h
theorem r_andV (h : ta σ H fun x H1 => ∃ b, x = .bl b ∧ if b = true then tb σ H1 Q else Q (.bl false) H1) : tAndV ta tb σ H Q := h
theorem r_orV (h : ta σ H fun x H1 => ∃ b, x = .bl b ∧ if b = true then Q (.bl true) H1 else tb σ H1 Q) : tOrV ta tb σ H Q := h
theorem r_notV (h : ta σ H fun x H1 => ∃ b, x = .bl b ∧ Q (.bl (!b)) H1) : tNotV ta σ H Q := h
theorem r_if (h : c σ H fun b H1 => if b = true then ta σ H1 Q else tb σ H1 Q) : tIf c ta tb σ H Q := h
theorem r_chain (h : ta σ H fun x H1 => tb σ H1 fun y H2 => r x y H2 fun z H3 => ∃ k, z = .bl k ∧ (if k = true then tc σ H3 fun w' H4 => r' y w' H4 Q else Q (.bl false) H3)) : tChain r r' ta tb tc σ H Q := h
theorem r_gname {Qs : L2.St → Hp → Prop} (h : Qs (σ.set i (some v)) H) : gName i v σ H Qs := h
theorem r_gsub {to ti : TE} {ts : TSet} {Qs : L2.St → Hp → Prop} (h : to σ H fun o H1 => ti σ H1 fun i H2 => ts o i v H2 fun H3 => Qs σ H3) : gSub to ti ts v σ H Qs := h
theorem r_gcons {Qs : L2.St → Hp → Prop} {vs : List V} (h : g v σ H fun σ' H' => gs vs σ' H' Qs) : gCons g gs (v :: vs) σ H Qs := ⟨v, vs, rfl, h⟩
theorem r_gnil {Qs : L2.St → Hp → Prop} (h : Qs σ H) : gNil [] σ H Qs := ⟨rfl, h⟩
theorem r_I0 {f : Int → Int → V} {a b : Int} (h : Q (f a b) H) : rI0 f (.int a) (.int b) H Q := ⟨a, b, rfl, rfl, h⟩
theorem r_I {C : Int → Int → Prop} {f : Int → Int → V} {a b : Int} (hc : C a b) (h : Q (f a b) H) : rI C f (.int a) (.int b) H Q := ⟨a, b, rfl, rfl, hc, h⟩
theorem r_U {f : Int → V} {a : Int} (h : Q (f a) H) : rU f (.int a) H Q := ⟨a, rfl, h⟩
theorem r_eq (hs : scal x y = true) (h : Q (.bl (decide (x = y))) H) : rEq x y H Q := ⟨hs, h⟩
theorem r_ne (hs : scal x y = true) (h : Q (.bl (!decide (x = y))) H) : rNe x y H Q := ⟨hs, h⟩
theorem r_ixL {p : Addr} {xs : List V} {n : Int} (h : SqL K H p xs) (ha : atI xs n = some v) (q : Q v H) : rIxL K (.ref p) (.int n) H Q := ⟨p, xs, n, v, rfl, rfl, h, ha, q⟩
theorem r_ixT {p : Addr} {xs : List V} {n : Int} (h : SqT K H p xs) (ha : atI xs n = some v) (q : Q v H) : rIxT K (.ref p) (.int n) H Q := ⟨p, xs, n, v, rfl, rfl, h, ha, q⟩
theorem r_setL {p : Addr} {xs : List V} {k : Int} {j : Nat} {Qh : Hp → Prop} (h : H p = some (.lst xs)) (hj : ixN xs.length k = some j) (q : Qh (upd H p (.lst (xs.set j v)))) : rSetL (.ref p) (.int k) v H Qh := ⟨p, xs, k, j, rfl, rfl, h, hj, q⟩
theorem r_int {R : Int → Prop} {Z : Prop} {a : Int} (h : R a) : (∃ i, [V.int a] = [V.int i] ∧ R i) ∨ Z := .inl ⟨a, rfl, h⟩
theorem r_addS {R : Str → Str → Prop} {a b : Str} (hz : a.length + b.length ≤ sizeLine) (h : R a b) : ∃ i j, V.str a = .str i ∧ V.str b = .str j ∧ i.length + j.length ≤ sizeLine ∧ R i j := ⟨a, b, rfl, rfl, hz, h⟩
theorem r_sl {rs : V → Option Int → Option Int → Hp → VK → Prop} {tl th : TO} (h : te σ H fun x H1 => tl σ H1 fun l H2 => th σ H2 fun u H3 => rs x l u H3 Q) : tSl rs te tl th σ H Q := h
theorem r_nopart {Qo : Option Int → Hp → Prop} (h : Qo none H) : tNoPart σ H Qo := h
theorem r_part {Qo : Option Int → Hp → Prop} (h : te σ H fun x H1 => ∃ i, x = .int i ∧ Qo (some i) H1) : tPart te σ H Qo := h
theorem r_exI {P : Int → Prop} {a : Int} (h : P a) : ∃ i, V.int a = V.int i ∧ P i := ⟨a, rfl, h⟩
theorem r_dget (h : ta σ H fun x H1 => tb σ H1 fun y H2 => ∃ a v, x = .ref a ∧ DGet H2 a y (some v) ∧ Q v H2) : tDGet ta tb σ H Q := h
theorem r_din (h : ta σ H fun y H1 => tb σ H1 fun x H2 => ∃ a o, x = .ref a ∧ DGet H2 a y o ∧ Q (.bl o.isSome) H2) : tDIn ta tb σ H Q := h
theorem r_dnotin (h : ta σ H fun y H1 => tb σ H1 fun x H2 => ∃ a o, x = .ref a ∧ DGet H2 a y o ∧ Q (.bl (!o.isSome)) H2) : tDNotIn ta tb σ H Q := h
theorem r_dput (h : tv σ H fun v H1 => ta σ H1 fun x H2 => tb σ H2 fun y H3 => ∃ a H4, x = .ref a ∧ DPut H3 a y v H4 ∧ D.nx σ H4) : sDPut ta tb tv D σ H := h
theorem r_newT (h : ∀ p, H p = none → Q (.ref p) (upd H p (.dT []))) : tDNewT σ H Q := h
theorem r_newK (h : ∀ p, H p = none → Q (.ref p) (upd H p (.dK []))) : tDNewK σ H Q := h
theorem r_sfld {f : Str} (h : tv σ H fun y H1 => ta σ H1 fun x H2 => ∃ a C dx fs, x = .ref a ∧ H2 a = some (.ins C dx fs) ∧ Cls K C ∧ NoAttr K C f ∧ fs.length < 1000 ∧ D.nx σ (upd H2 a (.ins C dx (putF f y fs)))) : sFld K ta tv f D σ H := h
theorem r_fld {f : Str} (h : ta σ H fun x H1 => ∃ a C dx fs v, x = .ref a ∧ H1 a = some (.ins C dx fs) ∧ Cls K C ∧ NoAttr K C f ∧ fs.lookup f = some v ∧ Q v H1) : tFld K ta f σ H Q := h
theorem r_make {C : Addr} {sp : Sp} {dvs : List V} {E : XK} (h : tas σ H fun vs H1 => ∀ x dx, H1 x = none → H1 dx = none → dx ≠ x → sp (.ref x :: (vs ++ dvs)) (upd (upd H1 dx (.own x)) x (.ins C dx [])) (fun v H2 => v = .non ∧ Q (.ref x) H2) E) : tMake C sp dvs E tas σ H Q := h
theorem r_isN (h : ta σ H fun x H1 => Q (.bl (decide (x = .non))) H1) : tIsN ta σ H Q := h
theorem r_notN (h : ta σ H fun x H1 => Q (.bl (!decide (x = .non))) H1) : tNotN ta σ H Q := h
theorem r_bm {T : String} {rm : V → List V → Hp → VK → Prop} (h : te σ H fun x H1 => tyV K T x H1 ∧ tas σ H1 fun xs H2 => rm x xs H2 Q) : tBM K T rm te tas σ H Q := h
theorem r_bm0 {T : String} {rm : V → List V → Hp → VK → Prop} (h : te σ H fun x H1 => tyV K T x H1 ∧ rm x [] H1 Q) : tBM0 K T rm te σ H Q := h
theorem r_m1 {rm : V → List V → Hp → VK → Prop} (h : ta σ H fun x H1 => (∃ a, x = .str a) ∧ tb σ H1 fun y H2 => rm x [y] H2 Q) : tM1 rm ta tb σ H Q := h
theorem r_strM {z : Str} {A : Prop} (h : A) : (∃ a, V.str z = V.str a) ∧ A := ⟨⟨z, rfl⟩, h⟩
/-- a new object: the heap behind it as one letter -/
theorem r_new {o : HO} {G : Addr → Hp → Prop} (h : ∀ p H1, H p = none → Same H H1 → H1 p = some o → G p H1) : ∀ p, H p = none → G p (upd H p o) := fun p np => h p _ np (same_upd np) upd_same
theorem same_upd_eq {H H1 : Hp} {p : Addr} {o : HO} (h : H p = none) (e : upd H p o = H1) : Same H H1 := e ▸ same_upd h
theorem upd_eq {H H1 : Hp} {p : Addr} {o : HO} (e : upd H p o = H1) : H1 p = some o := e ▸ upd_same
end
/-! ### what is walked -/
def LcGoal (J : It) (g : TG) (tt : TT) (te : TE) (vs : List Nat) (σ : L2.St) (H1 : Hp) (Qd : V → Hp → Prop) : Prop := tLc (fun _ _ R => R J H1) g tt te vs σ H1 Qd
def ForGoal (J : It) (g : TG) (tb : TS) (D : Ends) (σ : L2.St) (H1 : Hp) : Prop := tFor (fun _ _ R => R J H1) g tb D σ H1
section
variable {σ : L2.St} {H : Hp} {Q : VK} {D : Ends} {te : TE} {tas : TA} {tt : TT} {g : TG} {tb : TS} {wi : TI} {vs : List Nat} {K : PySem.W.Frag} {R : It → Hp → Prop}
theorem r_lc (h : wi σ H fun J H1 => LcGoal J g tt te vs σ H1 Q) : tLc wi g tt te vs σ H Q := h
theorem r_for (h : wi σ H fun J H1 => ForGoal J g tb D σ H1) : tFor wi g tb D σ H := h
def Lc2Goal (J : It) (g : TG) (tt : TT) (wi1 : TI) (g1 : TG) (tt1 : TT) (te : TE) (vs vs1 : List Nat) (σ : L2.St) (H1 : Hp) (Q : VK) : Prop := tLc2 (fun _ _ R => R J H1) g tt wi1 g1 tt1 te vs vs1 σ H1 Q
theorem r_lc2 {wi1 : TI} {g1 : TG} {tt1 : TT} {vs1 : List Nat} (h : wi σ H fun J H1 => Lc2Goal J g tt wi1 g1 tt1 te vs vs1 σ H1 Q) : tLc2 wi g tt wi1 g1 tt1 te vs vs1 σ H Q := h
theorem r_iZip (h : tas σ H fun vs H1 => ∃ a b xs ys, vs = [.ref a, .ref b] ∧ SqL K H1 a xs ∧ SqL K H1 b ys ∧ R (Itz K a b) H1) : iZip K tas σ H R := h
theorem r_iStr (h : te σ H fun v H1 => ∃ x, v = .str x ∧ R (Its x) H1) : iStr te σ H R := h
theorem r_exS {P : Str → Prop} {z : Str} (h : P z) : ∃ x, V.str z = .str x ∧ P x := ⟨z, rfl, h⟩
theorem r_iList (h : te σ H fun x H1 => ∃ a, x = .ref a ∧ (∃ xs, SqL K H1 a xs) ∧ R (Itl K a) H1) : iList K te σ H R := h
theorem r_iTup (h : te σ H fun x H1 => ∃ a, x = .ref a ∧ (∃ xs, SqT K H1 a xs) ∧ R (Itt K a) H1) : iTup K te σ H R := h
theorem r_iRng (h : tas σ H fun vs H1 => ∃ j : Int, vs = [.int j] ∧ -(2 ^ 62) ≤ j ∧ j < 2 ^ 62 ∧ R (Itr 0 j.toNat) H1) : iRng1 tas σ H R := h
end
/-! ### comprehensions that change nothing else -/
section
variable {σ : L2.St} {H1 : Hp} {Qd : V → Hp → Prop} {tt : TT} {te : TE} {vs : List Nat} {K : PySem.W.Frag} {J : It} {n : Nat} {j : Nat}
/-- the items kept, and what is made of them, by the turn -/
def made (n : Nat) (f : Nat → Bool) (v : Nat → V) : List V := ((List.range n).filter f).map v
theorem made_yes {n : Nat} {f : Nat → Bool} {v : Nat → V} (h : f n = true) : made (n + 1) f v = made n f v ++ [v n] := by
  unfold made
  rw [List.range_succ, List.filter_append, List.map_append, List.filter_cons, if_pos h] <;> rfl
theorem made_no {n : Nat} {f : Nat → Bool} {v : Nat → V} (h : f n = false) : made (n + 1) f v = made n f v := by
  unfold made
  rw [List.range_succ, List.filter_append, List.map_append, List.filter_cons, if_neg (by rw [h]; decide)]
  show _ ++ [] = _
  rw [List.append_nil]
theorem made_len (n : Nat) (f : Nat → Bool) (v : Nat → V) : (made n f v).length ≤ n := by
  unfold made
  rw [List.length_map]
  have h := List.length_filter_le f (List.range n)
  rw [List.length_range] at h
  exact h
/-- a list's items themselves -/
theorem made_list {α : Type} [Inhabited α] (xs : List α) (f : α → Bool) (g : α → V) : made xs.length (fun i => f (xs.getD i default)) (fun i => g (xs.getD i default)) = (xs.filter f).map g := by
  unfold made
  have e : (List.range xs.length).map (fun i => xs.getD i default) = xs := by
    refine List.ext_getElem (by simp) fun i h1 h2 => ?_
    simp [h2]
  have h := congrArg (fun l => (l.filter f).map g) e
  rw [List.filter_map, List.map_map] at h
  exact h
theorem made_map {α : Type} [Inhabited α] (xs : List α) (g : α → V) : made xs.length (fun _ => true) (fun i => g (xs.getD i default)) = xs.map g := by
  have h := made_list xs (fun _ => true) g
  rw [List.filter_eq_self.mpr (fun _ _ => rfl)] at h
  exact h
theorem made_range (n : Nat) (v : Nat → V) : made n (fun _ => true) v = (List.range n).map v := by
  unfold made
  rw [List.filter_eq_self.mpr (fun _ _ => rfl)]
/-- over anything that yields without change: at the turn i what is kept, what is made -/
theorem lc_same {Y : Nat → Hp → V → Hp → Prop} {G : Hp → Prop} (w : Walk J n G Y) (f : Nat → Bool) (v : Nat → V) (hn : n < sizeLine)
    (hG : ∀ H', Same H1 H' → G H') (hY : ∀ i H x H', Y i H x H' → H' = H)
    (hw : ∀ y : Option V, wipe ((wipe σ vs).set j y) vs = wipe σ vs)
    (ht : ∀ i x H', i < n → Same H1 H' → Y i H' x H' → ∀ Q : Bool → Hp → Prop, (∀ H3, Same H' H3 → Q (f i) H3) → tt ((wipe σ vs).set j (some x)) H' Q)
    (he : ∀ i x H', i < n → f i = true → Same H1 H' → (∃ H0, Same H1 H0 ∧ Same H0 H' ∧ Y i H0 x H0) → ∀ Q : VK, (∀ H3, Same H' H3 → Q (v i) H3) → te ((wipe σ vs).set j (some x)) H' Q)
    (hd : ∀ p H', H1 p = none → Same H1 H' → H' p = some (.lst (made n f v)) → Qd (.ref p) H') :
    LcGoal J (gName j) tt te vs σ H1 Qd := by
  intro D nD
  refine lc_it (Qd := fun H => Qd (.ref D) H) w (fun i H' => Same H1 H' ∧ H' D = some (.lst (made i f v))) ⟨same_upd nD, upd_same⟩ (fun i H' _ p => hG H' p.1) (fun i x H' H'' hi p y => ?_) (fun H' p => hd D H' nD p.1 p.2)
  have e := hY i H' x H'' y
  subst e
  refine ⟨hw _, ht i x H'' hi p.1 y _ fun H3 s3 => ?_⟩
  cases hf : f i with
  | true =>
    rw [if_pos rfl]
    refine he i x H3 hi hf (p.1.trans s3) ⟨H'', p.1, s3, y⟩ _ fun H4 s4 => ⟨made i f v, s4 _ _ (s3 _ _ p.2), Nat.lt_of_le_of_lt (made_len i f v) (by omega), ?_, ?_⟩
    · exact same_upd_new ((p.1.trans s3).trans s4) nD
    · rw [made_yes hf]
      exact upd_same
  | false =>
    rw [if_neg Bool.false_ne_true]
    refine ⟨p.1.trans s3, ?_⟩
    rw [made_no hf]
    exact s3 _ _ p.2
theorem Same.sqt {K : PySem.W.Frag} {H H' : Hp} {a : Addr} {xs : List V} (e : Same H H') (h : SqT K H a xs) : SqT K H' a xs := by
  rcases h with (h | ⟨o, h⟩) | h
  · exact .inl (.inl (e _ _ h))
  · exact .inl (.inr ⟨o, e _ _ h⟩)
  · exact .inr h
/-- over a list -/
theorem lc_L {a : Addr} {xs : List V} (hx : SqL K H1 a xs) (f : V → Bool) (v : V → V) (hn : xs.length < sizeLine)
    (hw : ∀ y : Option V, wipe ((wipe σ vs).set j y) vs = wipe σ vs)
    (ht : ∀ x H', x ∈ xs → Same H1 H' → ∀ Q : Bool → Hp → Prop, (∀ H3, Same H' H3 → Q (f x) H3) → tt ((wipe σ vs).set j (some x)) H' Q)
    (he : ∀ x H', x ∈ xs → f x = true → Same H1 H' → ∀ Q : VK, (∀ H3, Same H' H3 → Q (v x) H3) → te ((wipe σ vs).set j (some x)) H' Q)
    (hd : ∀ p H', H1 p = none → Same H1 H' → H' p = some (.lst ((xs.filter f).map v)) → Qd (.ref p) H') : LcGoal (Itl K a) (gName j) tt te vs σ H1 Qd := by
  have : Inhabited V := ⟨.non⟩
  refine lc_same walk_list (fun i => f (xs.getD i default)) (fun i => v (xs.getD i default)) hn (fun H' s => s.seq hx) (fun i H x H' y => y.1) hw (fun i x H' hi s y Q q => ?_) (fun i x H' hi hf s y Q q => ?_) (fun p H' np s h => ?_)
  · have e : xs.getD i default = x := by rw [List.getD_eq_getElem?_getD, y.2] <;> rfl
    rw [e] at q
    exact ht x H' (List.mem_of_getElem? y.2) s Q q
  · obtain ⟨H0, _, _, y⟩ := y
    have e : xs.getD i default = x := by rw [List.getD_eq_getElem?_getD, y.2] <;> rfl
    rw [e] at q hf
    exact he x H' (List.mem_of_getElem? y.2) hf s Q q
  · rw [made_list] at h
    exact hd p H' np s h
/-- over a tuple -/
theorem lc_T {a : Addr} {xs : List V} (hx : SqT K H1 a xs) (f : V → Bool) (v : V → V) (hn : xs.length < sizeLine)
    (hw : ∀ y : Option V, wipe ((wipe σ vs).set j y) vs = wipe σ vs)
    (ht : ∀ x H', x ∈ xs → Same H1 H' → ∀ Q : Bool → Hp → Prop, (∀ H3, Same H' H3 → Q (f x) H3) → tt ((wipe σ vs).set j (some x)) H' Q)
    (he : ∀ x H', x ∈ xs → f x = true → Same H1 H' → ∀ Q : VK, (∀ H3, Same H' H3 → Q (v x) H3) → te ((wipe σ vs).set j (some x)) H' Q)
    (hd : ∀ p H', H1 p = none → Same H1 H' → H' p = some (.lst ((xs.filter f).map v)) → Qd (.ref p) H') : LcGoal (Itt K a) (gName j) tt te vs σ H1 Qd := by
  have : Inhabited V := ⟨.non⟩
  refine lc_same walk_tup (fun i => f (xs.getD i default)) (fun i => v (xs.getD i default)) hn (fun H' s => Same.sqt s hx) (fun i H x H' y => y.1) hw (fun i x H' hi s y Q q => ?_) (fun i x H' hi hf s y Q q => ?_) (fun p H' np s h => ?_)
  · have e : xs.getD i default = x := by rw [List.getD_eq_getElem?_getD, y.2] <;> rfl
    rw [e] at q
    exact ht x H' (List.mem_of_getElem? y.2) s Q q
  · obtain ⟨H0, _, _, y⟩ := y
    have e : xs.getD i default = x := by rw [List.getD_eq_getElem?_getD, y.2] <;> rfl
    rw [e] at q hf
    exact he x H' (List.mem_of_getElem? y.2) hf s Q q
  · rw [made_list] at h
    exact hd p H' np s h
/-- over a text, sign by sign -/
theorem lc_S {z : List Nat} (f : Nat → Bool) (v : Nat → V) (hn : z.length < sizeLine)
    (hw : ∀ y : Option V, wipe ((wipe σ vs).set j y) vs = wipe σ vs)
    (ht : ∀ c H', c ∈ z → Same H1 H' → ∀ Q : Bool → Hp → Prop, (∀ H3, Same H' H3 → Q (f c) H3) → tt ((wipe σ vs).set j (some (.str ⟨#[c]⟩))) H' Q)
    (he : ∀ c H', c ∈ z → f c = true → Same H1 H' → ∀ Q : VK, (∀ H3, Same H' H3 → Q (v c) H3) → te ((wipe σ vs).set j (some (.str ⟨#[c]⟩))) H' Q)
    (hd : ∀ p H', H1 p = none → Same H1 H' → H' p = some (.lst ((z.filter f).map v)) → Qd (.ref p) H') : LcGoal (Its ⟨z.toArray⟩) (gName j) tt te vs σ H1 Qd := by
  have ez : (⟨z.toArray⟩ : Str).cps.size = z.length := by simp
  refine lc_same walk_str (fun i => f (z.getD i default)) (fun i => v (z.getD i default)) (by rw [ez]; exact hn) (fun H' s => trivial) (fun i H x H' y => y.1) hw (fun i x H' hi s y Q q => ?_) (fun i x H' hi hf s y Q q => ?_) (fun p H' np s h => ?_)
  · obtain ⟨_, c, hc, rfl⟩ := y
    have hc' : z[i]? = some c := by simpa using hc
    have e : z.getD i default = c := by rw [List.getD_eq_getElem?_getD, hc'] <;> rfl
    rw [e] at q
    exact ht c H' (List.mem_of_getElem? hc') s Q q
  · obtain ⟨H0, _, _, _, c, hc, rfl⟩ := y
    have hc' : z[i]? = some c := by simpa using hc
    have e : z.getD i default = c := by rw [List.getD_eq_getElem?_getD, hc'] <;> rfl
    rw [e] at q hf
    exact he c H' (List.mem_of_getElem? hc') hf s Q q
  · rw [ez, made_list] at h
    exact hd p H' np s h
/-- over a range -/
theorem lc_R (f : Nat → Bool) (v : Nat → V) (hn : n < sizeLine)
    (hw : ∀ y : Option V, wipe ((wipe σ vs).set j y) vs = wipe σ vs)
    (ht : ∀ i H', i < n → Same H1 H' → ∀ Q : Bool → Hp → Prop, (∀ H3, Same H' H3 → Q (f i) H3) → tt ((wipe σ vs).set j (some (.int (0 + (i : Int))))) H' Q)
    (he : ∀ i H', i < n → f i = true → Same H1 H' → ∀ Q : VK, (∀ H3, Same H' H3 → Q (v i) H3) → te ((wipe σ vs).set j (some (.int (0 + (i : Int))))) H' Q)
    (hd : ∀ p H', H1 p = none → Same H1 H' → H' p = some (.lst (made n f v)) → Qd (.ref p) H') : LcGoal (Itr 0 n) (gName j) tt te vs σ H1 Qd := by
  refine lc_same walk_range f v hn (fun H' s => trivial) (fun i H x H' y => y.1) hw (fun i x H' hi s y Q q => ?_) (fun i x H' hi hf s y Q q => ?_) hd
  · obtain ⟨_, rfl⟩ := y
    exact ht i H' hi s Q q
  · obtain ⟨H0, _, _, _, rfl⟩ := y
    exact he i H' hi hf s Q q
end
end K73

set_option Elab.async false
set_option linter.all false
set_option maxRecDepth 100000
namespace K73
open PySem PySem.Spec PyProof.Rows L2
section
variable {K : PySem.W.Frag} {mg : Str → Option Value}
theorem Txt.d_is_integer (T : Txt K mg) : Df K mg "is_integer" s_is_integer := ⟨T.says.d.def_ 0 rfl, T.glo 0 rfl⟩
theorem Txt.d_is_between (T : Txt K mg) : Df K mg "is_between" s_is_between := ⟨T.says.d.def_ 1 rfl, T.glo 1 rfl⟩
theorem Txt.d_is_word (T : Txt K mg) : Df K mg "is_word" s_is_word := ⟨T.says.d.def_ 2 rfl, T.glo 2 rfl⟩
theorem Txt.d_are_letters (T : Txt K mg) : Df K mg "are_letters" s_are_letters := ⟨T.says.d.def_ 3 rfl, T.glo 3 rfl⟩
theorem Txt.d_signs_in (T : Txt K mg) : Df K mg "signs_in" s_signs_in := ⟨T.says.d.def_ 4 rfl, T.glo 4 rfl⟩
theorem Txt.d_moods_in (T : Txt K mg) : Df K mg "moods_in" s_moods_in := ⟨T.says.d.def_ 5 rfl, T.glo 5 rfl⟩
theorem Txt.d_good_in (T : Txt K mg) : Df K mg "good_in" s_good_in := ⟨T.says.d.def_ 6 rfl, T.glo 6 rfl⟩
theorem Txt.d_goals_in (T : Txt K mg) : Df K mg "goals_in" s_goals_in := ⟨T.says.d.def_ 7 rfl, T.glo 7 rfl⟩
theorem Txt.d_draft_in (T : Txt K mg) : Df K mg "draft_in" s_draft_in := ⟨T.says.d.def_ 8 rfl, T.glo 8 rfl⟩
theorem Txt.d_rule_in (T : Txt K mg) : Df K mg "rule_in" s_rule_in := ⟨T.says.d.def_ 9 rfl, T.glo 9 rfl⟩
theorem Txt.d_goal_of (T : Txt K mg) : Df K mg "goal_of" s_goal_of := ⟨T.says.d.def_ 10 rfl, T.glo 10 rfl⟩
theorem Txt.d_coming (T : Txt K mg) : Df K mg "coming" s_coming := ⟨T.says.d.def_ 11 rfl, T.glo 11 rfl⟩
theorem Txt.d_coming_live (T : Txt K mg) : Df K mg "coming_live" s_coming_live := ⟨T.says.d.def_ 12 rfl, T.glo 12 rfl⟩
theorem Txt.d_are_pairs (T : Txt K mg) : Df K mg "are_pairs" s_are_pairs := ⟨T.says.d.def_ 13 rfl, T.glo 13 rfl⟩
theorem Txt.d_shows_within (T : Txt K mg) : Df K mg "shows_within" s_shows_within := ⟨T.says.d.def_ 14 rfl, T.glo 14 rfl⟩
theorem Txt.d_heights_in (T : Txt K mg) : Df K mg "heights_in" s_heights_in := ⟨T.says.d.def_ 15 rfl, T.glo 15 rfl⟩
theorem Txt.d_is_settled (T : Txt K mg) : Df K mg "is_settled" s_is_settled := ⟨T.says.d.def_ 16 rfl, T.glo 16 rfl⟩
theorem Txt.d_shows_heights (T : Txt K mg) : Df K mg "shows_heights" s_shows_heights := ⟨T.says.d.def_ 17 rfl, T.glo 17 rfl⟩
theorem Txt.d_accepts_two (T : Txt K mg) : Df K mg "accepts_two" s_accepts_two := ⟨T.says.d.def_ 18 rfl, T.glo 18 rfl⟩
theorem Txt.d_accepts_one (T : Txt K mg) : Df K mg "accepts_one" s_accepts_one := ⟨T.says.d.def_ 19 rfl, T.glo 19 rfl⟩
theorem Txt.d_accepts (T : Txt K mg) : Df K mg "accepts" s_accepts := ⟨T.says.d.def_ 20 rfl, T.glo 20 rfl⟩
theorem Txt.d_law_cell (T : Txt K mg) : Df K mg "_law_cell" s_law_cell := ⟨T.says.d.def_ 21 rfl, T.glo 21 rfl⟩
theorem Txt.d_law_purse (T : Txt K mg) : Df K mg "_law_purse" s_law_purse := ⟨T.says.d.def_ 22 rfl, T.glo 22 rfl⟩
theorem Txt.d_law_pick (T : Txt K mg) : Df K mg "_law_pick" s_law_pick := ⟨T.says.d.def_ 23 rfl, T.glo 23 rfl⟩
theorem Txt.d_law_letters (T : Txt K mg) : Df K mg "_law_letters" s_law_letters := ⟨T.says.d.def_ 24 rfl, T.glo 24 rfl⟩
theorem Txt.d_law_aim (T : Txt K mg) : Df K mg "_law_aim" s_law_aim := ⟨T.says.d.def_ 25 rfl, T.glo 25 rfl⟩
theorem Txt.d_law_box (T : Txt K mg) : Df K mg "_law_box" s_law_box := ⟨T.says.d.def_ 26 rfl, T.glo 26 rfl⟩
theorem Txt.d_law_text (T : Txt K mg) : Df K mg "_law_text" s_law_text := ⟨T.says.d.def_ 27 rfl, T.glo 27 rfl⟩
theorem Txt.d_law_end (T : Txt K mg) : Df K mg "_law_end" s_law_end := ⟨T.says.d.def_ 28 rfl, T.glo 28 rfl⟩
theorem Txt.d_law_is_fine (T : Txt K mg) : Df K mg "_law_is_fine" s_law_is_fine := ⟨T.says.d.def_ 29 rfl, T.glo 29 rfl⟩
theorem Txt.d_law_reached (T : Txt K mg) : Df K mg "_law_reached" s_law_reached := ⟨T.says.d.def_ 30 rfl, T.glo 30 rfl⟩
theorem Txt.d_law_live (T : Txt K mg) : Df K mg "_law_live" s_law_live := ⟨T.says.d.def_ 31 rfl, T.glo 31 rfl⟩
theorem Txt.d_law_unlike (T : Txt K mg) : Df K mg "_law_unlike" s_law_unlike := ⟨T.says.d.def_ 32 rfl, T.glo 32 rfl⟩
theorem Txt.d_law_look (T : Txt K mg) : Df K mg "_law_look" s_law_look := ⟨T.says.d.def_ 33 rfl, T.glo 33 rfl⟩
theorem Txt.d_law_wider (T : Txt K mg) : Df K mg "_law_wider" s_law_wider := ⟨T.says.d.def_ 34 rfl, T.glo 34 rfl⟩
theorem Txt.d_law_heights (T : Txt K mg) : Df K mg "_law_heights" s_law_heights := ⟨T.says.d.def_ 35 rfl, T.glo 35 rfl⟩
theorem Txt.d_law_rows_to (T : Txt K mg) : Df K mg "_law_rows_to" s_law_rows_to := ⟨T.says.d.def_ 36 rfl, T.glo 36 rfl⟩
theorem Txt.d_law_pieces (T : Txt K mg) : Df K mg "_law_pieces" s_law_pieces := ⟨T.says.d.def_ 37 rfl, T.glo 37 rfl⟩
theorem Txt.d_law_slip (T : Txt K mg) : Df K mg "_law_slip" s_law_slip := ⟨T.says.d.def_ 38 rfl, T.glo 38 rfl⟩
theorem Txt.d_law_is_so (T : Txt K mg) : Df K mg "_law_is_so" s_law_is_so := ⟨T.says.d.def_ 39 rfl, T.glo 39 rfl⟩
theorem Txt.d_law_right (T : Txt K mg) : Df K mg "_law_right" s_law_right := ⟨T.says.d.def_ 40 rfl, T.glo 40 rfl⟩
theorem Txt.d_law (T : Txt K mg) : Df K mg "law" s_law := ⟨T.says.d.def_ 41 rfl, T.glo 41 rfl⟩
theorem Txt.g_Rule (T : Txt K mg) : mg "Rule" = some (.ref (He.ga K "Rule")) := T.glo 42 rfl
theorem Txt.g_Draft (T : Txt K mg) : mg "Draft" = some (.ref (He.ga K "Draft")) := T.glo 43 rfl
theorem Txt.g_InvalidText (T : Txt K mg) : mg "InvalidText" = some (.ref (He.ga K "InvalidText")) := T.glo 44 rfl
theorem Txt.c_Rule (T : Txt K mg) : Cls K (He.ga K "Rule") := He.cls_ok (T.says.d.fact 45 rfl)
theorem Txt.c_Draft (T : Txt K mg) : Cls K (He.ga K "Draft") := He.cls_ok (T.says.d.fact 46 rfl)
theorem Txt.m_Rule (T : Txt K mg) : Mk K (He.ga K "Rule") (He.ma K (He.ga K "Rule") "__init__") := He.mkr_ok (T.says.d.fact 47 rfl)
theorem Txt.m_Draft (T : Txt K mg) : Mk K (He.ga K "Draft") (He.ma K (He.ga K "Draft") "__init__") := He.mkr_ok (T.says.d.fact 48 rfl)
theorem Txt.n_wording (T : Txt K mg) : NoAttr K (He.ga K "Rule") "wording" := He.noat_ok (T.says.d.fact 49 rfl)
theorem Txt.n_draft (T : Txt K mg) : NoAttr K (He.ga K "Rule") "draft" := He.noat_ok (T.says.d.fact 50 rfl)
theorem Txt.n_letters (T : Txt K mg) : NoAttr K (He.ga K "Draft") "letters" := He.noat_ok (T.says.d.fact 51 rfl)
theorem Txt.n_tempers (T : Txt K mg) : NoAttr K (He.ga K "Draft") "tempers" := He.noat_ok (T.says.d.fact 52 rfl)
theorem Txt.n_fine (T : Txt K mg) : NoAttr K (He.ga K "Draft") "fine" := He.noat_ok (T.says.d.fact 53 rfl)
theorem Txt.n_goals (T : Txt K mg) : NoAttr K (He.ga K "Draft") "goals" := He.noat_ok (T.says.d.fact 54 rfl)
theorem Txt.i_MOST_SIGNS (T : Txt K mg) : ∃ t, mg "MOST_SIGNS" = some (.int 3 t) := T.int 55 rfl
theorem Txt.i_MOST_MOODS (T : Txt K mg) : ∃ t, mg "MOST_MOODS" = some (.int 300 t) := T.int 56 rfl
theorem Txt.i_MOST_LOOK (T : Txt K mg) : ∃ t, mg "MOST_LOOK" = some (.int 1000 t) := T.int 57 rfl
theorem Txt.i_MOST_LETTERS (T : Txt K mg) : ∃ t, mg "MOST_LETTERS" = some (.int 8 t) := T.int 58 rfl
theorem Txt.i_HEADS (T : Txt K mg) : ∃ t, mg "HEADS" = some (.int 3 t) := T.int 59 rfl
theorem Txt.i_CLAIM_SIZE (T : Txt K mg) : ∃ t, mg "CLAIM_SIZE" = some (.int 3 t) := T.int 60 rfl
theorem Txt.s_LETTERS (T : Txt K mg) : ∃ t, mg "LETTERS" = some (.str "abcdefghijklmnopqrstuvwxyz" t) := T.str 61 rfl
theorem Txt.g_WORDS (T : Txt K mg) : mg "WORDS" = some (.ref (He.ga K "WORDS")) := T.glo 62 rfl
theorem Txt.f_isinstance (T : Txt K mg) : mg "isinstance" = none := T.free 63 rfl
theorem Txt.f_len (T : Txt K mg) : mg "len" = none := T.free 64 rfl
theorem Txt.f_all (T : Txt K mg) : mg "all" = none := T.free 65 rfl
theorem Txt.f_any (T : Txt K mg) : mg "any" = none := T.free 66 rfl
theorem Txt.f_zip (T : Txt K mg) : mg "zip" = none := T.free 67 rfl
theorem Txt.f_tuple (T : Txt K mg) : mg "tuple" = none := T.free 68 rfl
theorem Txt.f_list (T : Txt K mg) : mg "list" = none := T.free 69 rfl
theorem Txt.f_dict (T : Txt K mg) : mg "dict" = none := T.free 70 rfl
theorem Txt.f_max (T : Txt K mg) : mg "max" = none := T.free 71 rfl
theorem Txt.f_min (T : Txt K mg) : mg "min" = none := T.free 72 rfl
theorem Txt.f_range (T : Txt K mg) : mg "range" = none := T.free 73 rfl
theorem Txt.f_abs (T : Txt K mg) : mg "abs" = none := T.free 74 rfl
theorem Txt.f_divmod (T : Txt K mg) : mg "divmod" = none := T.free 75 rfl
theorem Txt.f_int (T : Txt K mg) : mg "int" = none := T.free 76 rfl
theorem Txt.f_str (T : Txt K mg) : mg "str" = none := T.free 77 rfl
theorem Txt.f_bool (T : Txt K mg) : mg "bool" = none := T.free 78 rfl
theorem Txt.k_Draft (T : Txt K mg) : ∃ fd, FunD K "__init__" "Draft.__init__" (defArgs s_Draft_init) (defBody s_Draft_init) (defScope s_Draft_init) [] [] (He.ma K (He.ga K "Draft") "__init__") fd := T.says.d.def_ 42 rfl
theorem Txt.k_Rule (T : Txt K mg) : ∃ fd, FunD K "__init__" "Rule.__init__" (defArgs s_Rule_init) (defBody s_Rule_init) (defScope s_Rule_init) [] [] (He.ma K (He.ga K "Rule") "__init__") fd := T.says.d.def_ 43 rfl
theorem Txt.p_signs (T : Txt K mg) : PropOf K (He.ga K "Rule") "signs" (He.ma K (He.ga K "Rule") "signs") (gA K "Rule" "signs") ∧ ∃ fd, FunD K "signs" "Rule.signs" (defArgs s_Rule_signs) (defBody s_Rule_signs) (defScope s_Rule_signs) [] [] (gA K "Rule" "signs") fd := T.says.prp 0 rfl
theorem Txt.p_moods (T : Txt K mg) : PropOf K (He.ga K "Rule") "moods" (He.ma K (He.ga K "Rule") "moods") (gA K "Rule" "moods") ∧ ∃ fd, FunD K "moods" "Rule.moods" (defArgs s_Rule_moods) (defBody s_Rule_moods) (defScope s_Rule_moods) [] [] (gA K "Rule" "moods") fd := T.says.prp 1 rfl
theorem Txt.p_good (T : Txt K mg) : PropOf K (He.ga K "Rule") "good" (He.ma K (He.ga K "Rule") "good") (gA K "Rule" "good") ∧ ∃ fd, FunD K "good" "Rule.good" (defArgs s_Rule_good) (defBody s_Rule_good) (defScope s_Rule_good) [] [] (gA K "Rule" "good") fd := T.says.prp 2 rfl
theorem Txt.w_WORDS (T : Txt K mg) (H : Hp) : SqT K H (He.ga K "WORDS") [.str "apart", .str "within", .str "last", .str "windows", .str "never"] := He.tupB_ok (vs := wordsD) T.says.more H
end
end K73

set_option Elab.async false
set_option linter.all false
namespace K73
open PySem
/-! ### rules as plain automata -/
structure Box where
  sg : List Nat
  tg : List Str
  fn : List Str
  gl : Str → Nat → Str
def Wd (t : Str) : Prop := 1 ≤ t.cps.toList.length ∧ t.cps.toList.length ≤ 8 ∧ ∀ c ∈ t.cps.toList, 97 ≤ c ∧ c ≤ 122
def Box.first (B : Box) : Str := B.tg.headD Str.empty
structure Box.Ok (B : Box) : Prop where
  s1 : 1 ≤ B.sg.length
  s3 : B.sg.length ≤ 3
  asc : B.sg.Pairwise (· < ·)
  abc : ∀ c ∈ B.sg, 97 ≤ c ∧ c ≤ 122
  t1 : 1 ≤ B.tg.length
  t5 : B.tg.length ≤ 5
  nd : B.tg.Nodup
  wd : ∀ t ∈ B.tg, Wd t
  fine : B.fn = B.tg.filter fun t => decide (t ∈ B.fn)
  cl : ∀ t ∈ B.tg, ∀ c ∈ B.sg, B.gl t c ∈ B.tg
def Over (sg : List Nat) (w : List Nat) : Prop := ∀ c ∈ w, c ∈ sg
def Box.run (B : Box) (t : Str) (w : List Nat) : Str := w.foldl B.gl t
def Box.good (B : Box) (w : List Nat) : Bool := decide (B.run B.first w ∈ B.fn)
theorem Box.run_nil (B : Box) (t : Str) : B.run t [] = t := rfl
theorem Box.run_cons (B : Box) (t : Str) (c : Nat) (w : List Nat) : B.run t (c :: w) = B.run (B.gl t c) w := rfl
theorem Box.run_app (B : Box) (t : Str) (u v : List Nat) : B.run t (u ++ v) = B.run (B.run t u) v := List.foldl_append ..
theorem Over.app {sg u v : List Nat} (h : Over sg (u ++ v)) : Over sg u ∧ Over sg v := ⟨fun c hc => h c (List.mem_append_left _ hc), fun c hc => h c (List.mem_append_right _ hc)⟩
theorem Over.cons {sg v : List Nat} {c : Nat} (h : Over sg (c :: v)) : c ∈ sg ∧ Over sg v := ⟨h c (List.mem_cons_self ..), fun d hd => h d (List.mem_cons_of_mem _ hd)⟩
/-! ### what the claims say -/
def SoLast (B : Box) (k : Nat) : Prop := ∀ u v : List Nat, Over B.sg u → Over B.sg v → k ≤ u.length → k ≤ v.length → u.drop (u.length - k) = v.drop (v.length - k) → B.good u = B.good v
def marked (w : List Nat) : List Nat := 62 :: (w ++ [60])
def pieces (k : Nat) (w : List Nat) : List (List Nat) :=
  if (marked w).length < k then [marked w] else (List.range ((marked w).length - k + 1)).map fun i => ((marked w).drop i).take k
def SoWin (B : Box) (k : Nat) : Prop := ∀ w : List Nat, Over B.sg w → B.good w = false → ∃ p ∈ pieces k w, ∀ v : List Nat, Over B.sg v → B.good v = true → p ∉ pieces k v
def SoIn (B M : Box) : Prop := ∀ w : List Nat, Over B.sg w → B.good w = true → M.good w = true
/-! ### within -/
theorem so_in {B M : Box} (R : Str → Str → Prop) (h0 : R B.first M.first) (h1 : ∀ p q, R p q → (p ∈ B.fn → q ∈ M.fn) ∧ ∀ c ∈ B.sg, R (B.gl p c) (M.gl q c)) : SoIn B M := by
  have key : ∀ (w : List Nat) (p q : Str), Over B.sg w → R p q → R (B.run p w) (M.run q w) := by
    intro w
    induction w with
    | nil => intro p q _ h; exact h
    | cons c w ih =>
      intro p q ho h
      obtain ⟨hc, hw⟩ := ho.cons
      exact ih _ _ hw ((h1 p q h).2 c hc)
  intro w ho hg
  have h := key w _ _ ho h0
  exact decide_eq_true ((h1 _ _ h).1 (of_decide_eq_true hg))
/-! ### heights -/
/-- all moods on the way, the first and the last too, lie in L -/
def Stay (B : Box) (L : Str → Prop) : Str → List Nat → Prop
  | p, [] => L p
  | p, c :: w => L p ∧ Stay B L (B.gl p c) w
section
variable {B : Box} {L : Str → Prop}
theorem Stay.here : ∀ {w : List Nat} {p : Str}, Stay B L p w → L p
  | [], _, h => h
  | _ :: _, _, h => h.1
theorem Stay.app : ∀ {u v : List Nat} {p : Str}, Stay B L p (u ++ v) → Stay B L p u ∧ Stay B L (B.run p u) v
  | [], _, _, h => ⟨h.here, h⟩
  | c :: u, v, p, h => by
    obtain ⟨h1, h2⟩ := h
    obtain ⟨h3, h4⟩ := Stay.app (u := u) (v := v) h2
    exact ⟨⟨h1, h3⟩, h4⟩
theorem Stay.join : ∀ {u v : List Nat} {p : Str}, Stay B L p u → Stay B L (B.run p u) v → Stay B L p (u ++ v)
  | [], _, _, _, h => h
  | c :: u, v, p, h, h' => ⟨h.1, Stay.join (u := u) (v := v) h.2 h'⟩
theorem Stay.last : ∀ {w : List Nat} {p : Str}, Stay B L p w → L (B.run p w)
  | [], _, h => h
  | c :: w, p, h => Stay.last (w := w) h.2
theorem Stay.closed (h : ∀ p, L p → ∀ c ∈ B.sg, L (B.gl p c)) : ∀ {w : List Nat} {p : Str}, Over B.sg w → L p → Stay B L p w
  | [], _, _, h1 => h1
  | c :: w, p, ho, h1 => ⟨h1, Stay.closed h ho.cons.2 (h p h1 c ho.cons.1)⟩
/-- what a right paper of heights tells -/
structure Hts (B : Box) (L : Str → Prop) (ht : Str → Str → Option Int) (most : Int) : Prop where
  rng : ∀ p q n, ht p q = some n → 1 ≤ n ∧ n ≤ most
  fine : ∀ p q, L p → L q → ht p q = none → (p ∈ B.fn ↔ q ∈ B.fn)
  side : ∀ p q, L p → L q → ht p q = none → ∀ c ∈ B.sg, (L (B.gl p c) ↔ L (B.gl q c)) ∧ (L (B.gl p c) → ht (B.gl p c) (B.gl q c) = none)
  down : ∀ p q n, L p → L q → ht p q = some n → ∀ c ∈ B.sg, L (B.gl p c) → L (B.gl q c) → ∀ m, ht (B.gl p c) (B.gl q c) = some m → m < n
theorem Hts.meet {ht : Str → Str → Option Int} {most : Int} (T : Hts B L ht most) : ∀ (w : List Nat) (p q : Str) (n : Int), Over B.sg w → Stay B L p w → Stay B L q w → (∀ m, ht p q = some m → m ≤ n) → n ≤ w.length → ht (B.run p w) (B.run q w) = none
  | [], p, q, n, _, _, _, h, hn => by
    cases e : ht p q with
    | none => exact e
    | some m =>
      have h1 := h m e
      have h2 := (T.rng p q m e).1
      have h3 : n ≤ 0 := hn
      omega
  | c :: w, p, q, n, ho, sp, sq, h, hn => by
    obtain ⟨hc, hw⟩ := ho.cons
    obtain ⟨lp, sp'⟩ := sp
    obtain ⟨lq, sq'⟩ := sq
    have hn' : n ≤ (w.length : Int) + 1 := by
      have := hn
      rw [List.length_cons] at this
      omega
    cases e : ht p q with
    | none =>
      have e2 := (T.side p q lp lq e c hc).2 sp'.here
      exact T.meet w _ _ 0 hw sp' sq' (fun m hm => by rw [e2] at hm; cases hm) (by omega)
    | some m =>
      have h1 := h m e
      refine T.meet w _ _ (m - 1) hw sp' sq' (fun m' hm' => ?_) (by omega)
      have := T.down p q m lp lq e c hc sp'.here sq'.here m' hm'
      omega
theorem drop_split (u : List Nat) (k : Nat) : u.take (u.length - k) ++ u.drop (u.length - k) = u := List.take_append_drop ..
theorem so_last {ht : Str → Str → Option Int} {k : Nat} (T : Hts B L ht k) (h0 : L B.first) (hc : ∀ p, L p → ∀ c ∈ B.sg, L (B.gl p c)) : SoLast B k := by
  intro u v ou ov hu hv e
  have l1 : (u.drop (u.length - k)).length = k := by rw [List.length_drop]; omega
  have eu := drop_split u k
  have ev := drop_split v k
  rw [← e] at ev
  generalize ha : u.take (u.length - k) = a at eu
  generalize hb : v.take (v.length - k) = b at ev
  generalize hx : u.drop (u.length - k) = x at eu ev l1
  subst eu
  subst ev
  obtain ⟨oa, ox⟩ := ou.app
  obtain ⟨ob, _⟩ := ov.app
  have sp := (Stay.closed hc oa h0).last
  have sq := (Stay.closed hc ob h0).last
  have m := T.meet x (B.run B.first a) (B.run B.first b) k ox (Stay.closed hc ox sp) (Stay.closed hc ox sq) (fun m hm => (T.rng _ _ m hm).2) (by rw [l1]; exact Int.le_refl _)
  have f := T.fine _ _ (Stay.closed hc ox sp).last (Stay.closed hc ox sq).last m
  unfold Box.good
  rw [Box.run_app, Box.run_app]
  by_cases h : B.run (B.run B.first a) x ∈ B.fn
  · rw [decide_eq_true h, decide_eq_true (f.mp h)]
  · rw [decide_eq_false h, decide_eq_false (fun z => h (f.mpr z))]
/-! ### windows -/
/-- good rows stay among the live moods -/
theorem live_stay {S : Str → Prop} (hS : ∀ p, S p → ∀ c ∈ B.sg, S (B.gl p c)) (hf : ∀ p, S p → p ∈ B.fn → L p) (hb : ∀ p, S p → ∀ c ∈ B.sg, L (B.gl p c) → L p) :
    ∀ (w : List Nat) (p : Str), Over B.sg w → S p → B.run p w ∈ B.fn → Stay B L p w
  | [], p, _, sp, h => hf p sp h
  | c :: w, p, ho, sp, h => by
    obtain ⟨hc, hw⟩ := ho.cons
    have ih := live_stay hS hf hb w (B.gl p c) hw (hS p sp c hc) h
    exact ⟨hb p sp c hc ih.here, ih⟩
theorem end_split {w Y C : List Nat} (h : w ++ [60] = Y ++ C) : (C = [] ∧ Y = w ++ [60]) ∨ ∃ z, C = z ++ [60] ∧ w = Y ++ z := by
  rcases List.append_eq_append_iff.mp h with ⟨a, h1, h2⟩ | ⟨a, h1, h2⟩
  · -- Y = w ++ a, [60] = a ++ C
    cases a with
    | nil =>
      rw [List.append_nil] at h1
      rw [List.nil_append] at h2
      exact .inr ⟨[], by rw [← h2]; rfl, by rw [h1, List.append_nil]⟩
    | cons d a =>
      rw [List.cons_append] at h2
      injection h2 with h3 h4
      have h5 := List.append_eq_nil_iff.mp h4.symm
      refine .inl ⟨h5.2, ?_⟩
      rw [h1, ← h3, h5.1]
  · exact .inr ⟨a, h2, h1⟩
theorem piece_in {k : Nat} {v P : List Nat} (h : P ∈ pieces k v) : (P = marked v ∧ (marked v).length < k) ∨ (P.length = k ∧ ∃ A C, marked v = A ++ (P ++ C)) := by
  unfold pieces at h
  by_cases hl : (marked v).length < k
  · rw [if_pos hl] at h
    exact .inl ⟨List.mem_singleton.mp h, hl⟩
  · rw [if_neg hl] at h
    obtain ⟨i, hi, e⟩ := List.mem_map.mp h
    have hi' := List.mem_range.mp hi
    refine .inr ⟨?_, (marked v).take i, ((marked v).drop i).drop k, ?_⟩
    · rw [← e, List.length_take, List.length_drop]
      omega
    · rw [← e, List.take_append_drop, List.take_append_drop]
theorem piece_of {k i : Nat} {w : List Nat} (h : k ≤ (marked w).length) (hi : i + k ≤ (marked w).length) : ((marked w).drop i).take k ∈ pieces k w := by
  unfold pieces
  rw [if_neg (by omega)]
  exact List.mem_map.mpr ⟨i, List.mem_range.mpr (by omega), rfl⟩
theorem len_marked (w : List Nat) : (marked w).length = w.length + 2 := by
  unfold marked
  rw [List.length_cons, List.length_append, List.length_singleton]
section
variable (hl : ∀ c ∈ B.sg, 97 ≤ c)
include hl
theorem no60 {w : List Nat} (h : Over B.sg w) : 60 ∉ w := fun z => by
  have := hl _ (h _ z)
  omega
theorem no62 {w : List Nat} (h : Over B.sg w) : 62 ∉ w := fun z => by
  have := hl _ (h _ z)
  omega
/-- a piece that begins a row -/
theorem piece_begin {v P A C : List Nat} (ov : Over B.sg v) (h : marked v = A ++ ((62 :: P) ++ C)) : v ++ [60] = P ++ C := by
  cases A with
  | nil =>
    have h1 : 62 :: (v ++ [60]) = 62 :: (P ++ C) := h
    injection h1
  | cons a A =>
    have h1 : 62 :: (v ++ [60]) = a :: (A ++ (62 :: P ++ C)) := h
    injection h1 with h2 h3
    have h4 : 62 ∈ v ++ [60] := by
      rw [h3]
      exact List.mem_append_right _ (List.mem_cons_self ..)
    rcases List.mem_append.mp h4 with h5 | h5
    · exact absurd h5 (no62 hl ov)
    · simp at h5
/-- signs within a row -/
theorem piece_mid {v P A C : List Nat} (ov : Over B.sg v) (oP : Over B.sg P) (hP : P ≠ []) (h : marked v = A ++ (P ++ C)) : ∃ a z, v = a ++ (P ++ z) := by
  cases A with
  | nil =>
    cases P with
    | nil => exact absurd rfl hP
    | cons d P =>
      have h1 : 62 :: (v ++ [60]) = d :: (P ++ C) := h
      injection h1 with h2 h3
      have := hl d (oP d (List.mem_cons_self ..))
      omega
  | cons a A =>
    have h1 : 62 :: (v ++ [60]) = a :: (A ++ (P ++ C)) := h
    injection h1 with h2 h3
    rw [← List.append_assoc] at h3
    rcases end_split h3 with ⟨_, h4⟩ | ⟨z, _, h4⟩
    · have h5 : P.getLast hP = 60 := by
        have h6 : (A ++ P).getLast (by simp [hP]) = (v ++ [60]).getLast (by simp) := by
          congr 1
        rw [List.getLast_append_of_ne_nil _ hP] at h6
        rw [h6]
        simp
      exact absurd (h5 ▸ List.getLast_mem hP) (no60 hl oP)
    · exact ⟨A, z, by rw [h4, List.append_assoc]⟩
/-- signs at a row's end -/
theorem piece_end {v P A C : List Nat} (ov : Over B.sg v) (oP : Over B.sg P) (h : marked v = A ++ ((P ++ [60]) ++ C)) : ∃ a, v = a ++ P := by
  cases A with
  | nil =>
    cases P with
    | nil =>
      have h1 : 62 :: (v ++ [60]) = 60 :: C := h
      injection h1 with h2 h3
      omega
    | cons d P =>
      have h1 : 62 :: (v ++ [60]) = d :: ((P ++ [60]) ++ C) := h
      injection h1 with h2 h3
      have := hl d (oP d (List.mem_cons_self ..))
      omega
  | cons a A =>
    have h1 : 62 :: (v ++ [60]) = a :: (A ++ ((P ++ [60]) ++ C)) := h
    injection h1 with h2 h3
    rw [List.append_assoc P, ← List.append_assoc A] at h3
    rcases end_split h3 with ⟨h4, _⟩ | ⟨z, h5, h4⟩
    · simp at h4
    · cases z with
      | nil => exact ⟨A, by rw [h4, List.append_nil]⟩
      | cons d z =>
        have h6 : d = 60 := by
          have h7 : 60 :: C = d :: (z ++ [60]) := h5
          injection h7 with h8
          exact h8.symm
        have h7 : (60 : Nat) ∈ v := by
          rw [h4, h6]
          simp
        exact absurd h7 (no60 hl ov)
end
theorem so_win {ht : Str → Str → Option Int} {k : Nat} (hl : ∀ c ∈ B.sg, 97 ≤ c) (hk : 1 ≤ k) (T : Hts B L ht ((k : Int) - 1)) (hg : ∀ w, Over B.sg w → B.good w = true → Stay B L B.first w) : SoWin B k := by
  intro w ow hbad
  apply Classical.byContradiction
  intro hno
  have all : ∀ p ∈ pieces k w, ∃ v, Over B.sg v ∧ B.good v = true ∧ p ∈ pieces k v := fun p hp => by
    apply Classical.byContradiction
    intro h
    exact hno ⟨p, hp, fun v ov gv hm => h ⟨v, ov, gv, hm⟩⟩
  have done : ∀ v, v = w → B.good v = true → False := fun v e g => by rw [e, hbad] at g; cases g
  have lm := len_marked w
  by_cases hs : (marked w).length < k
  · -- the row is shorter than the window
    obtain ⟨v, ov, gv, hm⟩ := all (marked w) (by unfold pieces; rw [if_pos hs]; exact List.mem_singleton.mpr rfl)
    rcases piece_in hm with ⟨e, _⟩ | ⟨e, _⟩
    · have e1 : 62 :: (w ++ [60]) = 62 :: (v ++ [60]) := e
      injection e1 with _ e2
      exact done v (List.append_cancel_right e2).symm gv
    · omega
  · have hk2 : k ≤ w.length + 2 := by omega
    -- a window's good row
    have win : ∀ i, i + k ≤ w.length + 2 → ∃ v, Over B.sg v ∧ B.good v = true ∧ ∃ A C, marked v = A ++ (((marked w).drop i).take k ++ C) := fun i hi => by
      obtain ⟨v, ov, gv, hm⟩ := all _ (piece_of (k := k) (i := i) (w := w) (by omega) (by omega))
      refine ⟨v, ov, gv, ?_⟩
      rcases piece_in hm with ⟨e, h2⟩ | ⟨_, h2⟩
      · have e2 := congrArg List.length e
        rw [List.length_take, List.length_drop] at e2
        omega
      · exact h2
    obtain ⟨k', rfl⟩ : ∃ k', k = k' + 1 := ⟨k - 1, by omega⟩
    by_cases hfull : k' + 1 = w.length + 2
    · obtain ⟨v, ov, gv, A, C, h⟩ := win 0 (by omega)
      have e : ((marked w).drop 0).take (k' + 1) = 62 :: (w ++ [60]) := by
        rw [List.drop_zero, List.take_of_length_le (by omega)]
        rfl
      rw [e] at h
      have h1 := piece_begin hl ov h
      rw [List.append_assoc] at h1
      rcases end_split h1 with ⟨h2, _⟩ | ⟨z, h2, h3⟩
      · simp at h2
      · cases z with
        | nil => exact done v (by rw [h3, List.append_nil]) gv
        | cons d z =>
          have h4 : d = 60 := by
            have h7 : 60 :: C = d :: (z ++ [60]) := h2
            injection h7 with h8
            exact h8.symm
          exact no60 hl ov (by rw [h3, h4]; simp)
    · have hk3 : k' ≤ w.length := by omega
      -- the first window
      have first : Stay B L B.first (w.take k') := by
        obtain ⟨v, ov, gv, A, C, h⟩ := win 0 (by omega)
        have e : ((marked w).drop 0).take (k' + 1) = 62 :: w.take k' := by
          rw [List.drop_zero]
          show 62 :: (w ++ [60]).take k' = _
          rw [List.take_append_of_le_length hk3]
        rw [e] at h
        have h1 := piece_begin hl ov h
        have hs := hg v ov gv
        rcases end_split h1 with ⟨_, h3⟩ | ⟨z, _, h3⟩
        · have h4 : (60 : Nat) ∈ w.take k' := by rw [h3]; simp
          exact absurd (List.mem_of_mem_take h4) (no60 hl ow)
        · rw [h3] at hs
          exact hs.app.1
      -- two live roads that read the same k' signs meet
      have meet : ∀ (a b x : List Nat), Over B.sg x → x.length = k' → Stay B L B.first (a ++ x) → Stay B L B.first (b ++ x) → ht (B.run B.first (a ++ x)) (B.run B.first (b ++ x)) = none := fun a b x ox lx s1 s2 => by
        rw [Box.run_app, Box.run_app]
        refine T.meet x _ _ (((k' + 1 : Nat) : Int) - 1) ox s1.app.2 s2.app.2 (fun m hm => (T.rng _ _ m hm).2) ?_
        rw [lx]
        omega
      -- window by window
      have all_in : ∀ e, e + k' ≤ w.length → Stay B L B.first (w.take (e + k')) := by
        intro e
        induction e with
        | zero => intro _; rw [Nat.zero_add]; exact first
        | succ e ih =>
          intro he
          have ih' := ih (by omega)
          obtain ⟨v, ov, gv, A, C, h⟩ := win (e + 1) (by omega)
          have hlt : e + k' < w.length := by omega
          have ex : w.take (e + k') = w.take e ++ (w.drop e).take k' := by
            rw [List.take_add]
          have ec : (w.drop e).take (k' + 1) = (w.drop e).take k' ++ [w[e + k']] := by
            rw [List.take_add_one, List.getElem?_drop, List.getElem?_eq_getElem hlt]
            rfl
          have ew : ((marked w).drop (e + 1)).take (k' + 1) = (w.drop e).take (k' + 1) := by
            show ((w ++ [60]).drop e).take (k' + 1) = _
            rw [List.drop_append_of_le_length (by omega), List.take_append_of_le_length (by rw [List.length_drop]; omega)]
          rw [ew, ec] at h
          have ox : Over B.sg ((w.drop e).take k') := fun c hc => ow c (List.mem_of_mem_drop (List.mem_of_mem_take hc))
          have oc : w[e + k'] ∈ B.sg := ow _ (List.getElem_mem hlt)
          have lx : ((w.drop e).take k').length = k' := by rw [List.length_take, List.length_drop]; omega
          generalize hx : (w.drop e).take k' = x at *
          generalize hcc : w[e + k'] = c at *
          obtain ⟨a, z, hv⟩ := piece_mid hl ov (fun d hd => by
            rcases List.mem_append.mp hd with hd | hd
            · exact ox d hd
            · rw [List.mem_singleton.mp hd]
              exact oc) (by simp) h
          have sv := hg v ov gv
          rw [hv, List.append_assoc, ← List.append_assoc] at sv
          rw [ex] at ih'
          have m := meet a (w.take e) x ox lx sv.app.1 ih'
          have s3 := sv.app.2
          have lp : L (B.run B.first (a ++ x)) := sv.app.1.last
          have lq : L (B.run B.first (w.take e ++ x)) := ih'.last
          have s4 := (T.side _ _ lp lq m c oc).1.mp s3.2.here
          have e5 : w.take (e + 1 + k') = (w.take e ++ x) ++ [c] := by
            rw [← ex, show e + 1 + k' = (e + k') + 1 by omega, List.take_add_one, List.getElem?_eq_getElem hlt, hcc]
            rfl
          rw [e5]
          exact ih'.join ⟨lq, s4⟩
      -- the last window
      obtain ⟨e, he⟩ : ∃ e, w.length = e + k' := ⟨w.length - k', by omega⟩
      have sw := all_in e (by omega)
      rw [← he, List.take_length] at sw
      obtain ⟨v, ov, gv, A, C, h⟩ := win (e + 1) (by omega)
      have ew : ((marked w).drop (e + 1)).take (k' + 1) = w.drop e ++ [60] := by
        show ((w ++ [60]).drop e).take (k' + 1) = _
        rw [List.drop_append_of_le_length (by omega), List.take_of_length_le (by rw [List.length_append, List.length_drop, List.length_singleton]; omega)]
      rw [ew] at h
      have ox : Over B.sg (w.drop e) := fun c hc => ow c (List.mem_of_mem_drop hc)
      obtain ⟨a, hv⟩ := piece_end hl ov ox h
      have sv := hg v ov gv
      have ewd : w.take e ++ w.drop e = w := List.take_append_drop ..
      rw [hv] at sv
      have sw2 : Stay B L B.first (w.take e ++ w.drop e) := by rw [ewd]; exact sw
      have m := meet a (w.take e) (w.drop e) ox (by rw [List.length_drop]; omega) sv sw2
      have f := T.fine _ _ sv.last sw2.last m
      rw [ewd, ← hv] at f
      have g1 : B.run B.first v ∈ B.fn := of_decide_eq_true gv
      have g2 : B.good w = true := decide_eq_true (f.mp g1)
      rw [hbad] at g2
      cases g2
end
end K73

set_option Elab.async false
set_option linter.all false
set_option maxRecDepth 100000
set_option maxHeartbeats 4000000
namespace K73
open PySem PySem.Spec PyProof.Rows L2
local macro_rules | `(tactic| walk_at "rd") => `(tactic| repeat (first | with_reducible refine r_seq ?_ | with_reducible refine r_asg ?_ | with_reducible refine r_ret ?_ | with_reducible refine r_op ?_ | with_reducible refine r_var (by with_unfolding_all rfl) ?_ | with_reducible refine r_c ?_ | with_reducible refine r_cons ?_ | with_reducible refine r_nil ?_ | with_reducible refine r_gname ?_ | with_reducible refine r_ifS ?_ | with_reducible refine r_test ?_ | with_reducible refine r_bl ?_ | with_reducible refine r_I0 ?_ | with_reducible refine r_cb ?_ | with_reducible refine r_cl ?_ | with_reducible refine r_tup ?_ | with_reducible refine r_lst ?_ | with_reducible refine r_gsub ?_ | with_reducible refine r_gcons ?_ | with_reducible refine r_gnil ?_ | with_reducible refine r_drop ?_ | with_reducible refine r_next ?_ | with_reducible refine r_par ?_ | with_reducible refine r_par2 ?_ | with_reducible refine r_and ?_ | with_reducible refine r_or ?_ | with_reducible refine r_not ?_ | with_reducible refine r_yes ?_ | with_reducible refine r_andV ?_ | with_reducible refine r_orV ?_ | with_reducible refine r_notV ?_ | with_reducible refine r_if ?_ | with_reducible refine r_chain ?_ | with_reducible refine r_U ?_ | with_reducible refine r_un ?_ | with_reducible refine r_eq (by with_unfolding_all rfl) ?_ | with_reducible refine r_ne (by with_unfolding_all rfl) ?_ | with_reducible refine r_int ?_ | with_reducible refine r_sl ?_ | with_reducible refine r_nopart ?_ | with_reducible refine r_part ?_ | with_reducible refine r_exI ?_ | with_reducible refine r_dget ?_ | with_reducible refine r_din ?_ | with_reducible refine r_dnotin ?_ | with_reducible refine r_dput ?_ | with_reducible refine r_isN ?_ | with_reducible refine r_notN ?_ | with_reducible refine r_bm ?_ | with_reducible refine r_bm0 ?_ | with_reducible refine r_retN ?_ | with_reducible refine r_lc ?_ | with_reducible refine r_for ?_ | with_reducible refine r_iStr ?_ | with_reducible refine r_exS ?_ | with_reducible refine r_iList ?_ | with_reducible refine r_iTup ?_ | with_reducible refine r_iRng ?_ | with_reducible refine r_m1 ?_ | with_reducible refine r_strM ?_ | with_reducible refine r_tB ?_ | with_reducible refine r_dc ?_ | with_reducible refine r_iZipS ?_ | with_reducible refine r_lc2 ?_ | with_reducible refine r_iZip ?_ | with_reducible refine r_tCmp ?_ | with_reducible refine r_newT ?_ | with_reducible refine r_newK ?_ | with_reducible refine r_sfld ?_ | with_reducible refine r_fld ?_ | with_reducible refine r_make ?_ | with_reducible refine r_pr ?_))
local macro_rules | `(tactic| walk_at "nw") => `(tactic| (intro q nq; generalize hH : upd _ q _ = H1; have s1 := same_upd_eq nq hH; have hq := upd_eq hH; clear hH))
def s1 (c : Nat) : Str := ⟨#[c]⟩
def tx (l : List Nat) : Str := ⟨l.toArray⟩
theorem tx_len (l : List Nat) : (tx l).length = l.length := by
  show l.toArray.size = l.length
  simp
theorem tx_toList (l : List Nat) : (tx l).cps.toList = l := by
  show l.toArray.toList = l
  simp
theorem tx_of (z : Str) : tx z.cps.toList = z := by
  cases z
  simp [tx]
section
variable {X : Cx}
/-- isinstance(x, a built-in type) -/
theorem pe_isi {e : Expr} {te : TE} {y : Str} {n : String} {p p2 pos : Pos} (mi : X.mg "isinstance" = none) (he : PE X e te) (hm : X.mg y = none) (hv : bootBuiltins y = some (.type n) := by decide +kernel) (hg : Gl X "isinstance" := by rfl) (hg2 : Gl X y := by rfl)
    (hn : y ≠ "__name__" := by decide) (hd : (y == ("__debug__" : Str)) = false := by decide)
    (h1 : starEach (e :: [.Name y p2]) X.env = (false, eval e X.env) :: starEach [.Name y p2] X.env := by rfl) (h2 : (backTo pos (starEach [.Name y p2] X.env)).any (·.1) = false := by rfl)
    (h3 : starEach (.Name y p2 :: []) X.env = (false, eval (.Name y p2) X.env) :: starEach [] X.env := by rfl) :
    PE X (.Call (.Name "isinstance" p) [e, .Name y p2] [] pos) (tCB (rIsi X.K) (tCons te (tCons (tC (.ty n)) tNil))) :=
  pe_callB (pos := pos) (p := p) call_isi hg mi (by decide +kernel) (pa_cons he (pa_cons (pe_bltn (v := .ty n) (pos := p2) hg2 hm hv rfl hn hd) pa_nil h3) h1) (by decide) (by decide) h1 h2
end
theorem r_isi {K : PySem.W.Frag} {x : V} {t n : String} {b : Bool} {H : Hp} {Q : VK} (h1 : TyX K H x (.type t)) (h2 : kitB t n = some b) (h3 : Q (.bl b) H) : rIsi K [x, .ty n] H Q := ⟨x, .ty n, .type t, .type n, b, rfl, .ty n, h1, kit_ty h2, h3⟩
theorem isi_int {K : PySem.W.Frag} {i : Int} {H : Hp} {Q : VK} (h : Q (.bl true) H) : rIsi K [.int i, .ty "int"] H Q := r_isi (.base (.int i)) (by decide +kernel) h
theorem isi_intb {K : PySem.W.Frag} {i : Int} {H : Hp} {Q : VK} (h : Q (.bl false) H) : rIsi K [.int i, .ty "bool"] H Q := r_isi (.base (.int i)) (by decide +kernel) h
theorem isi_str {K : PySem.W.Frag} {z : Str} {H : Hp} {Q : VK} (h : Q (.bl true) H) : rIsi K [.str z, .ty "str"] H Q := r_isi (.base (.str z)) (by decide +kernel) h
theorem isi_tup {K : PySem.W.Frag} {a : Addr} {xs : List V} {H : Hp} {Q : VK} (ht : H a = some (.tup xs)) (h : Q (.bl true) H) : rIsi K [.ref a, .ty "tuple"] H Q := r_isi (.base (.tup ht)) (by decide +kernel) h
theorem isi_tupR {K : PySem.W.Frag} {a : Addr} {xs : List V} {H : Hp} {Q : VK} (ht : Rd H a (.tup xs)) (h : Q (.bl true) H) : rIsi K [.ref a, .ty "tuple"] H Q := by
  rcases ht with ht | ⟨o, ht⟩
  · exact isi_tup ht h
  · exact r_isi (.fTuple ht) (by decide +kernel) h
section
variable {P : Program} {w : World} {K : PySem.W.Frag} {mg : Str → Option Value} {base : Heap}
/-! ### numbers -/
def spIsInt : Sp := fun vs H Q _ => ∃ i : Int, vs = [.int i] ∧ Q (.bl true) H
theorem sc_is_integer : FnScope ["value"] ["value"] (defScope s_is_integer) := ⟨rfl, rfl, rfl, by decide +kernel, rfl, by decide +kernel, by decide +kernel⟩
theorem ok_is_integer (T : Txt K mg) : Fn P w K mg base 1 "is_integer" ["value"] spIsInt := by
  refine T.d_is_integer.fn sc_is_integer (fun _ _ _ _ _ _ us hl => match us, hl with | [_], _ => rfl) (fun vs H Q E h => ?_) (fun cdv A outer s H vs Q E hr h => ?_)
  · obtain ⟨i, rfl, _⟩ := h
    rfl
  · obtain ⟨i, rfl, k⟩ := h
    refine ⟨_, pss_one (ps_ret (pe_and (pe_isi (n := "int") T.f_isinstance (pv 0) T.f_int) (pe_one (pe_not (pe_isi (n := "bool") T.f_isinstance (pv 0) T.f_bool))))), ?_⟩
    walk_at "rd"
    refine isi_int ?_
    walk_at "rd"
    refine iteT ?_
    walk_at "rd"
    refine isi_intb ?_
    walk_at "rd"
    exact k
def spBetween : Sp := fun vs H Q _ => ∃ i a b : Int, vs = [.int i, .int a, .int b] ∧ Q (.bl (decide (a ≤ i) && decide (i ≤ b))) H
theorem sc_is_between : FnScope ["value", "least", "most"] ["value", "least", "most"] (defScope s_is_between) := ⟨rfl, rfl, rfl, by decide +kernel, rfl, by decide +kernel, by decide +kernel⟩
theorem ok_is_between (T : Txt K mg) : Fn P w K mg base 2 "is_between" ["value", "least", "most"] spBetween := by
  have G : Fn P w K mg base 1 "is_integer" ["value"] spIsInt := ok_is_integer T
  refine T.d_is_between.fn sc_is_between (fun _ _ _ _ _ _ us hl => match us, hl with | [_, _, _], _ => rfl) (fun vs H Q E h => ?_) (fun cdv A outer s H vs Q E hr h => ?_)
  · obtain ⟨i, a, b, rfl, _⟩ := h
    rfl
  · obtain ⟨i, a, b, rfl, k⟩ := h
    refine ⟨_, pss_one (ps_ret (pe_and (pcall G hr (pa_cons (pv 0) pa_nil)) (pe_one (pe_chain op_le op_le (pv 1) (pv 0) (pv 2))))), ?_⟩
    walk_at "rd"
    refine ⟨i, rfl, true, rfl, iteT ?_⟩
    walk_at "rd"
    refine ite2 (fun h => ?_) (fun h => ?_)
    · walk_at "rd"
      rw [h, Bool.true_and] at k
      exact k
    · have h' : decide (a ≤ i) = false := by simpa using h
      rw [h', Bool.false_and] at k
      exact k
/-! ### letters -/
def spLetters : Sp := fun vs H Q _ => ∃ l : List Nat, vs = [.str (tx l)] ∧ l.length ≤ 1000 ∧ (∀ c ∈ l, 97 ≤ c ∧ c ≤ 122) ∧ ∀ H', Same H H' → Q (.bl true) H'
theorem sc_are_letters : FnScope ["value", "sign"] ["value"] (defScope s_are_letters) := ⟨rfl, rfl, rfl, by decide +kernel, rfl, by decide +kernel, by decide +kernel⟩
theorem abc_list : ("abcdefghijklmnopqrstuvwxyz" : Str).cps.toList = [97, 98, 99, 100, 101, 102, 103, 104, 105, 106, 107, 108, 109, 110, 111, 112, 113, 114, 115, 116, 117, 118, 119, 120, 121, 122] := by decide +kernel
theorem abc_in {c : Nat} (h : 97 ≤ c ∧ c ≤ 122) : decide (c ∈ ("abcdefghijklmnopqrstuvwxyz" : Str).cps.toList) = true := by
  rw [abc_list]
  refine decide_eq_true ?_
  have : c = 97 ∨ c = 98 ∨ c = 99 ∨ c = 100 ∨ c = 101 ∨ c = 102 ∨ c = 103 ∨ c = 104 ∨ c = 105 ∨ c = 106 ∨ c = 107 ∨ c = 108 ∨ c = 109 ∨ c = 110 ∨ c = 111 ∨ c = 112 ∨ c = 113 ∨ c = 114 ∨ c = 115 ∨ c = 116 ∨ c = 117 ∨ c = 118 ∨ c = 119 ∨ c = 120 ∨ c = 121 ∨ c = 122 := by omega
  simp only [List.mem_cons, List.not_mem_nil, or_false]
  exact this
theorem r_inSign {R : Nat → Str → Prop} {c : Nat} {z : Str} (h : R c z) : ∃ (c' : Nat) (z' : Str), V.str ⟨#[c]⟩ = .str ⟨#[c']⟩ ∧ V.str z = .str z' ∧ R c' z' := ⟨c, z, rfl, rfl, h⟩
theorem all_true {α : Type} (l : List α) : ((l.filter fun _ => true).map fun _ => V.bl true) = (l.map fun _ => true).map V.bl := by
  rw [List.filter_eq_self.mpr (fun _ _ => rfl), List.map_map]
  rfl
theorem all_id {α : Type} (l : List α) : (l.map fun _ => true).all id = true := by
  rw [List.all_map]
  exact List.all_eq_true.mpr fun _ _ => rfl
theorem ok_are_letters (T : Txt K mg) : Fn P w K mg base 1 "are_letters" ["value"] spLetters := by
  refine T.d_are_letters.fn sc_are_letters (fun _ _ _ _ _ _ us hl => match us, hl with | [_], _ => rfl) (fun vs H Q E h => ?_) (fun cdv A outer s H vs Q E hr h => ?_)
  · obtain ⟨l, rfl, _⟩ := h
    rfl
  · obtain ⟨l, rfl, hlen, hl, k⟩ := h
    obtain ⟨tk, hL⟩ := T.s_LETTERS
    refine ⟨_, pss_one (ps_ret (pe_callB (cr_all rfl) (by rfl) T.f_all (by decide +kernel) (pa_cons (pe_lc (own := [("sign", 1)]) (g := gName 1) (tt := tYes) rfl sc_are_letters.nd (pi_str (pv 0)) (blkOk_by (N := ["value", "sign"]) (sc := defScope s_are_letters) (by decide +kernel))
      (fun _ _ _ _ _ => pg_name (i := 1) sc_are_letters.nd rfl (Or.inl rfl)) (fun _ _ _ _ _ => pts_nil)
      (fun _ _ _ _ _ => pe_cmpR op_in_sign (pv 1) (pe_glob (v := .str "abcdefghijklmnopqrstuvwxyz") (by rfl) hL ⟨_, rfl⟩) (by rfl))) pa_nil))), ?_⟩
    walk_at "rd"
    refine lc_S (z := l) (fun _ => true) (fun _ => .bl true) (Nat.lt_of_le_of_lt hlen (by decide)) (fun y => rfl) (fun c H' hc s Q q => ?_) (fun c H' hc hf s Q q => ?_) (fun p H' np s h => ?_)
    · walk_at "rd"
      exact q _ (Same.refl _)
    · walk_at "rd"
      refine r_inSign ?_
      rw [abc_in (hl c hc)]
      exact q _ (Same.refl _)
    · walk_at "rd"
      rw [all_true] at h
      refine ⟨p, _, rfl, SqL.of h, ?_⟩
      rw [all_id]
      exact k _ s
end
end K73

set_option Elab.async false
set_option linter.all false
set_option maxRecDepth 100000
set_option maxHeartbeats 4000000
namespace K73
open PySem PySem.Spec PyProof.Rows L2
/-! ### the text of a rule, line by line -/
abbrev sp1 : Str := " "
abbrev nl1 : Str := "\n"
def line0 (sg : List Nat) : Str := ("signs " : Str) ++ tx sg
def line1 (tg : List Str) : Str := Txt.join sp1 (("moods" : Str) :: tg)
def line2 (fn : List Str) : Str := Txt.join sp1 (("good" : Str) :: fn)
def lineG (t : Str) (c : Nat) (g : Str) : Str := t ++ sp1 ++ s1 c ++ sp1 ++ g
def places (tg : List Str) (sg : List Nat) : List (Str × Nat) := tg.flatMap fun t => sg.map fun c => (t, c)
def Box.goalLines (B : Box) : List Str := (places B.tg B.sg).map fun p => lineG p.1 p.2 (B.gl p.1 p.2)
def Box.lines (B : Box) : List Str := line0 B.sg :: line1 B.tg :: line2 B.fn :: B.goalLines
def Box.text (B : Box) : Str := Txt.join nl1 B.lines
theorem sp_tl : TL.tl sp1 = [32] := by decide +kernel
theorem nl_tl : TL.tl nl1 = [10] := by decide +kernel
theorem sp_ok : (sp1.cps.all fun x => decide (x < 256)) = true := by decide +kernel
theorem nl_ok : (nl1.cps.all fun x => decide (x < 256)) = true := by decide +kernel
theorem tl_s1 (c : Nat) : TL.tl (s1 c) = [c] := rfl
theorem tl_tx (l : List Nat) : TL.tl (tx l) = l := tx_toList l
theorem tl_J (y : Str) (ps : List Str) : TL.tl (Txt.join y ps) = TL.joinL (TL.tl y) (ps.map TL.tl) := by
  rw [TL.join_eq, TL.tl_join]
theorem wd_no {t : Str} (h : Wd t) {d : Nat} (hd : d < 97) : d ∉ TL.tl t := fun z => by
  have := (h.2.2 d z).1
  omega
theorem split_words {a : Str} {ts : List Str} (ha : 32 ∉ TL.tl a) (ht : ∀ t ∈ ts, Wd t) : Txt.split (Txt.join sp1 (a :: ts)) sp1 = a :: ts := by
  refine TL.split_join sp_tl sp_ok (by simp) fun p hp => ?_
  rcases List.mem_cons.mp hp with e | hp
  · rw [e]
    exact ha
  · exact wd_no (ht p hp) (by omega)
theorem split1 {ts : List Str} (ht : ∀ t ∈ ts, Wd t) : Txt.split (line1 ts) sp1 = ("moods" : Str) :: ts := split_words (by decide +kernel) ht
theorem split2 {ts : List Str} (ht : ∀ t ∈ ts, Wd t) : Txt.split (line2 ts) sp1 = ("good" : Str) :: ts := split_words (by decide +kernel) ht
theorem lineG_eq (t : Str) (c : Nat) (g : Str) : lineG t c g = Txt.join sp1 [t, s1 c, g] := by
  refine TL.ext_tl ?_
  rw [tl_J]
  unfold lineG
  rw [TL.tl_append, TL.tl_append, TL.tl_append, TL.tl_append]
  show _ = TL.tl t ++ (TL.tl sp1 ++ (TL.tl (s1 c) ++ (TL.tl sp1 ++ TL.tl g)))
  simp only [List.append_assoc]
theorem splitG {t g : Str} {c : Nat} (ht : Wd t) (hg : Wd g) (hc : 97 ≤ c) : Txt.split (lineG t c g) sp1 = [t, s1 c, g] := by
  rw [lineG_eq]
  refine TL.split_join sp_tl sp_ok (by simp) fun p hp => ?_
  have e : p = t ∨ p = s1 c ∨ p = g := by simpa using hp
  rcases e with e | e | e
  · rw [e]; exact wd_no ht (by omega)
  · rw [e, tl_s1]
    intro z
    have := List.mem_singleton.mp z
    omega
  · rw [e]; exact wd_no hg (by omega)
theorem part0 (sg : List Nat) : Txt.partition (line0 sg) sp1 = (("signs" : Str), sp1, tx sg) := by
  have e : line0 sg = ("signs" : Str) ++ sp1 ++ tx sg := by
    unfold line0
    have h : ("signs " : Str) = ("signs" : Str) ++ sp1 := by decide +kernel
    rw [h]
  rw [e]
  exact TL.partition_app sp_tl (by decide +kernel)
/-! ### lengths -/
theorem sum_le {α : Type} (f : α → Nat) (k : Nat) : ∀ l : List α, (∀ x ∈ l, f x ≤ k) → (l.map f).sum ≤ l.length * k
  | [], _ => Nat.zero_le _
  | x :: l, h => by
    have h1 := h x (List.mem_cons_self ..)
    have h2 := sum_le f k l fun y hy => h y (List.mem_cons_of_mem _ hy)
    rw [List.map_cons, List.sum_cons, List.length_cons, Nat.add_mul]
    omega
theorem len_joinL (S : List Nat) : ∀ ps : List (List Nat), (TL.joinL S ps).length ≤ (ps.map List.length).sum + ps.length * S.length
  | [] => by simp [TL.joinL]
  | [p] => by
    show p.length ≤ (p.length + 0) + 1 * S.length
    omega
  | p :: q :: r => by
    have ih := len_joinL S (q :: r)
    have e1 : ((p :: q :: r).map List.length).sum = p.length + ((q :: r).map List.length).sum := rfl
    have e2 : (p :: q :: r).length * S.length = (q :: r).length * S.length + S.length := by
      rw [show (p :: q :: r).length = (q :: r).length + 1 from rfl, Nat.add_mul, Nat.one_mul]
    show (p ++ (S ++ TL.joinL S (q :: r))).length ≤ _
    rw [List.length_append, List.length_append, e1, e2]
    omega
theorem len_J (y : Str) (ps : List Str) : (Txt.join y ps).length ≤ (ps.map fun p => p.length).sum + ps.length * y.length := by
  have h := len_joinL (TL.tl y) (ps.map TL.tl)
  rw [← tl_J, ← TL.len_tl, ← TL.len_tl, List.length_map, List.map_map] at h
  have e : ps.map (List.length ∘ TL.tl) = ps.map fun p => p.length := List.map_congr_left fun p _ => (TL.len_tl p).symm
  rw [e] at h
  exact h
theorem wd_len {t : Str} (h : Wd t) : t.length ≤ 8 := by
  rw [TL.len_tl]
  exact h.2.1
theorem len_words {a : Str} {ts : List Str} (ha : a.length ≤ 8) (ht : ∀ t ∈ ts, Wd t) (h5 : ts.length ≤ 5) : ((a :: ts).map fun p => p.length).sum + (a :: ts).length * sp1.length ≤ 100 := by
  have h := sum_le (fun p : Str => p.length) 8 (a :: ts) fun p hp => by
    rcases List.mem_cons.mp hp with e | hp
    · rw [e]
      exact ha
    · exact wd_len (ht p hp)
  have e : sp1.length = 1 := by decide +kernel
  rw [e]
  rw [List.length_cons] at h ⊢
  omega
theorem len_line0 {sg : List Nat} (h : sg.length ≤ 3) : (line0 sg).length ≤ 100 := by
  rw [TL.len_tl]
  unfold line0
  rw [TL.tl_append, List.length_append, tl_tx]
  have e : (TL.tl ("signs " : Str)).length = 6 := by decide +kernel
  omega
theorem len_line1 {ts : List Str} (ht : ∀ t ∈ ts, Wd t) (h5 : ts.length ≤ 5) : (line1 ts).length ≤ 100 := Nat.le_trans (len_J _ _) (len_words (by decide +kernel) ht h5)
theorem len_line2 {ts : List Str} (ht : ∀ t ∈ ts, Wd t) (h5 : ts.length ≤ 5) : (line2 ts).length ≤ 100 := Nat.le_trans (len_J _ _) (len_words (by decide +kernel) ht h5)
theorem len_lineG {t g : Str} {c : Nat} (ht : Wd t) (hg : Wd g) : (lineG t c g).length ≤ 100 := by
  have h1 := wd_len ht
  have h2 := wd_len hg
  rw [lineG_eq]
  refine Nat.le_trans (len_J _ _) ?_
  have e : sp1.length = 1 := by decide +kernel
  have e2 : (s1 c).length = 1 := rfl
  show t.length + ((s1 c).length + (g.length + 0)) + 3 * sp1.length ≤ 100
  omega
theorem len_places (tg : List Str) (sg : List Nat) : (places tg sg).length = tg.length * sg.length := by
  unfold places
  induction tg with
  | nil => simp
  | cons t tg ih => rw [List.flatMap_cons, List.length_append, List.length_map, ih, List.length_cons, Nat.add_mul, Nat.one_mul, Nat.add_comm]
theorem mem_places {tg : List Str} {sg : List Nat} {p : Str × Nat} (h : p ∈ places tg sg) : p.1 ∈ tg ∧ p.2 ∈ sg := by
  unfold places at h
  obtain ⟨t, ht, h⟩ := List.mem_flatMap.mp h
  obtain ⟨c, hc, rfl⟩ := List.mem_map.mp h
  exact ⟨ht, hc⟩
theorem in_places {tg : List Str} {sg : List Nat} {t : Str} {c : Nat} (ht : t ∈ tg) (hc : c ∈ sg) : (t, c) ∈ places tg sg :=
  List.mem_flatMap.mpr ⟨t, ht, List.mem_map.mpr ⟨c, hc, rfl⟩⟩
section
variable {B : Box} (ok : B.Ok)
include ok
theorem Box.Ok.fn_tg : ∀ t ∈ B.fn, t ∈ B.tg := fun t h => by
  rw [ok.fine] at h
  exact (List.mem_filter.mp h).1
theorem Box.Ok.fn5 : B.fn.length ≤ 5 := by
  rw [ok.fine]
  exact Nat.le_trans (List.length_filter_le _ _) ok.t5
theorem Box.Ok.fn_wd : ∀ t ∈ B.fn, Wd t := fun t h => ok.wd t (ok.fn_tg t h)
theorem Box.Ok.lens : ∀ l ∈ B.lines, l.length ≤ 100 := fun l hl => by
  unfold Box.lines at hl
  rcases List.mem_cons.mp hl with e | hl
  · rw [e]; exact len_line0 ok.s3
  rcases List.mem_cons.mp hl with e | hl
  · rw [e]; exact len_line1 ok.wd ok.t5
  rcases List.mem_cons.mp hl with e | hl
  · rw [e]; exact len_line2 ok.fn_wd ok.fn5
  unfold Box.goalLines at hl
  obtain ⟨p, hp, rfl⟩ := List.mem_map.mp hl
  obtain ⟨h1, h2⟩ := mem_places hp
  exact len_lineG (ok.wd _ h1) (ok.wd _ (ok.cl _ h1 _ h2))
theorem Box.Ok.nlines : B.lines.length ≤ 18 := by
  unfold Box.lines Box.goalLines
  simp only [List.length_cons, List.length_map, len_places]
  have h := Nat.mul_le_mul ok.t5 ok.s3
  omega
theorem Box.Ok.fits : (B.lines.map fun p => p.length).sum + B.lines.length * nl1.length ≤ 1818 := by
  have h := sum_le (fun p : Str => p.length) 100 B.lines ok.lens
  have h2 := ok.nlines
  have e : nl1.length = 1 := by decide +kernel
  rw [e]
  omega
theorem Box.Ok.text_len : B.text.length ≤ 1818 := Nat.le_trans (len_J _ _) ok.fits
theorem Box.Ok.text_split : Txt.split B.text nl1 = B.lines := by
  refine TL.split_join nl_tl nl_ok (by unfold Box.lines; simp) fun l hl => ?_
  have hsg : ∀ d ∈ B.sg, d ≠ 10 := fun d hd => by have := (ok.abc d hd).1; omega
  have hJ : ∀ (a : Str) (ts : List Str), 10 ∉ TL.tl a → (∀ t ∈ ts, Wd t) → 10 ∉ TL.tl (Txt.join sp1 (a :: ts)) := by
    intro a ts ha ht
    rw [tl_J]
    have key : ∀ ps : List (List Nat), (∀ p ∈ ps, 10 ∉ p) → 10 ∉ TL.joinL (TL.tl sp1) ps := by
      intro ps
      induction ps with
      | nil => intro _ z; cases z
      | cons p ps ih =>
        intro h
        have hp := h p (List.mem_cons_self ..)
        have ih' := ih fun q hq => h q (List.mem_cons_of_mem _ hq)
        cases ps with
        | nil => exact hp
        | cons q r =>
          intro z
          have z' : 10 ∈ p ++ (TL.tl sp1 ++ TL.joinL (TL.tl sp1) (q :: r)) := z
          rcases List.mem_append.mp z' with z1 | z1
          · exact hp z1
          · rcases List.mem_append.mp z1 with z2 | z2
            · rw [sp_tl] at z2
              simp at z2
            · exact ih' z2
    refine key _ fun p hp => ?_
    obtain ⟨x, hx, rfl⟩ := List.mem_map.mp hp
    rcases List.mem_cons.mp hx with e | hx
    · rw [e]; exact ha
    · exact wd_no (ht x hx) (by omega)
  unfold Box.lines at hl
  rcases List.mem_cons.mp hl with e | hl
  · rw [e]
    unfold line0
    rw [TL.tl_append, tl_tx]
    intro z
    rcases List.mem_append.mp z with z | z
    · exact absurd z (by decide +kernel)
    · exact hsg _ z rfl
  rcases List.mem_cons.mp hl with e | hl
  · rw [e]; exact hJ _ _ (by decide +kernel) ok.wd
  rcases List.mem_cons.mp hl with e | hl
  · rw [e]; exact hJ _ _ (by decide +kernel) ok.fn_wd
  unfold Box.goalLines at hl
  obtain ⟨p, hp, rfl⟩ := List.mem_map.mp hl
  obtain ⟨h1, h2⟩ := mem_places hp
  unfold lineG
  rw [TL.tl_append, TL.tl_append, TL.tl_append, TL.tl_append, sp_tl, tl_s1]
  intro z
  have n1 := wd_no (ok.wd _ h1) (d := 10) (by omega)
  have n2 := wd_no (ok.wd _ (ok.cl _ h1 _ h2)) (d := 10) (by omega)
  have n3 := hsg _ h2
  have z' : 10 ∈ TL.tl p.1 ∨ 10 = p.2 ∨ 10 ∈ TL.tl (B.gl p.1 p.2) := by
    simp only [List.mem_append, List.mem_singleton] at z
    rcases z with (((z | z) | z) | z) | z
    · exact .inl z
    · omega
    · exact .inr (.inl z)
    · omega
    · exact .inr (.inr z)
  rcases z' with z | z | z
  · exact n1 z
  · exact n3 z.symm
  · exact n2 z
end
end K73

set_option Elab.async false
set_option linter.all false
set_option maxRecDepth 100000
set_option maxHeartbeats 4000000
namespace K73
open PySem PySem.Spec PyProof.Rows L2
/-! ### lists and tuples of texts, of pairs of texts, compared -/
def Sok (x : Str) : Prop := PyData.canLay0 (.str x) = true
theorem depth_strs (l : List Str) : PyData.depthAll (l.map .str) ≤ 1 := by
  induction l with
  | nil => decide
  | cons x l ih =>
    show max (PyData.depth (.str x)) (PyData.depthAll (l.map .str)) ≤ 1
    have : PyData.depth (.str x) ≤ 1 := by simp [PyData.depth]
    omega
theorem lay_strs {l : List Str} (h : ∀ x ∈ l, Sok x) : PyData.canLayAll0 (l.map .str) = true := by
  induction l with
  | nil => rfl
  | cons x l ih =>
    show (PyData.canLay0 (.str x) && PyData.canLayAll0 (l.map .str)) = true
    rw [Bool.and_eq_true]
    exact ⟨h x (List.mem_cons_self ..), ih fun y hy => h y (List.mem_cons_of_mem _ hy)⟩
theorem shaped_list {l : List Str} (h : ∀ x ∈ l, Sok x) : SeqAt.shaped (.list (l.map .str)) = true := by
  unfold SeqAt.shaped
  rw [Bool.and_eq_true]
  refine ⟨lay_strs h, decide_eq_true ?_⟩
  show PyData.depthAll (l.map .str) + 1 ≤ 64
  have := depth_strs l
  omega
theorem shaped_tuple {l : List Str} (h : ∀ x ∈ l, Sok x) : SeqAt.shaped (.tuple (l.map .str)) = true := by
  unfold SeqAt.shaped
  rw [Bool.and_eq_true]
  refine ⟨lay_strs h, decide_eq_true ?_⟩
  show PyData.depthAll (l.map .str) + 1 ≤ 64
  have := depth_strs l
  omega
theorem dp_strs {K : PySem.W.Frag} {H : Hp} : ∀ l : List Str, DpAll K H (l.map V.str) (l.map PyData.str)
  | [] => .nil
  | x :: l => .cons (.str x) (dp_strs l)
theorem eqvAll_strs : ∀ l m : List Str, PyData.eqvAll (l.map .str) (m.map .str) = decide (l = m)
  | [], [] => by simp [PyData.eqvAll]
  | [], _ :: _ => by simp [PyData.eqvAll]
  | _ :: _, [] => by simp [PyData.eqvAll]
  | x :: l, y :: m => by
    show (PyData.eqv (.str x) (.str y) && PyData.eqvAll (l.map .str) (m.map .str)) = _
    rw [eqvAll_strs l m]
    have e : PyData.eqv (.str x) (.str y) = decide (x = y) := by
      by_cases h : x = y
      · subst h
        simp [PyData.eqv]
      · simp [PyData.eqv, h]
    rw [e]
    by_cases h1 : x = y <;> by_cases h2 : l = m <;> simp [h1, h2]
theorem sok_of {x : Str} (h : ∀ c ∈ x.cps.toList, c < 1114112) : Sok x := by
  unfold Sok
  show PyData.strOk x = true
  unfold PyData.strOk
  rw [← Array.all_toList]
  exact List.all_eq_true.mpr fun c hc => decide_eq_true (h c hc)
theorem sok_wd {t : Str} (h : Wd t) : Sok t := sok_of fun c hc => by
  have := (h.2.2 c hc).2
  omega
theorem eqv_list {d e : List PyData} : PyData.eqv (.list d) (.list e) = PyData.eqvAll d e := by simp [PyData.eqv]
theorem eqv_tuple {d e : List PyData} : PyData.eqv (.tuple d) (.tuple e) = PyData.eqvAll d e := by simp [PyData.eqv]
theorem eqvAll_nil (d : List PyData) : PyData.eqvAll d [] = d.isEmpty := by cases d <;> simp [PyData.eqvAll]
/-! ### pairs of texts -/
def pd (p : Str × Str) : PyData := .tuple [.str p.1, .str p.2]
theorem eqv_pd (p q : Str × Str) : PyData.eqv (pd p) (pd q) = decide (p = q) := by
  unfold pd
  rw [eqv_tuple]
  have h := eqvAll_strs [p.1, p.2] [q.1, q.2]
  show PyData.eqvAll ([p.1, p.2].map .str) ([q.1, q.2].map .str) = _
  rw [h]
  by_cases e : p = q
  · subst e
    simp
  · have : ¬ ([p.1, p.2] = [q.1, q.2]) := fun z => e (by
      simp only [List.cons.injEq, and_true] at z
      exact Prod.ext z.1 z.2)
    rw [decide_eq_false this, decide_eq_false e]
theorem depth_pd (p : Str × Str) : (pd p).depth = 2 - 0 ∨ (pd p).depth ≤ 2 := by
  right
  have := depth_strs [p.1, p.2]
  show PyData.depthAll [.str p.1, .str p.2] + 1 ≤ 2
  have e : PyData.depthAll [.str p.1, .str p.2] ≤ 1 := this
  omega
theorem lay_pd {p : Str × Str} (h : Sok p.1 ∧ Sok p.2) : (pd p).canLay0 = true := by
  show PyData.canLayAll0 ([p.1, p.2].map .str) = true
  exact lay_strs fun x hx => by
    have e : x = p.1 ∨ x = p.2 := by simpa using hx
    rcases e with e | e
    · rw [e]; exact h.1
    · rw [e]; exact h.2
theorem shaped_pd {p : Str × Str} (h : Sok p.1 ∧ Sok p.2) : SeqAt.shaped (pd p) = true := by
  unfold SeqAt.shaped
  rw [Bool.and_eq_true]
  refine ⟨lay_pd h, decide_eq_true ?_⟩
  rcases depth_pd p with e | e <;> omega
theorem shaped_pds {ps : List (Str × Str)} (h : ∀ p ∈ ps, Sok p.1 ∧ Sok p.2) : SeqAt.shaped (.list (ps.map pd)) = true := by
  unfold SeqAt.shaped
  rw [Bool.and_eq_true]
  constructor
  · show PyData.canLayAll0 (ps.map pd) = true
    induction ps with
    | nil => rfl
    | cons p ps ih =>
      show ((pd p).canLay0 && PyData.canLayAll0 (ps.map pd)) = true
      rw [Bool.and_eq_true]
      exact ⟨lay_pd (h p (List.mem_cons_self ..)), ih fun q hq => h q (List.mem_cons_of_mem _ hq)⟩
  · refine decide_eq_true ?_
    show PyData.depthAll (ps.map pd) + 1 ≤ 64
    have : PyData.depthAll (ps.map pd) ≤ 2 := by
      clear h
      induction ps with
      | nil => decide
      | cons p ps ih =>
        show max (pd p).depth (PyData.depthAll (ps.map pd)) ≤ 2
        rcases depth_pd p with e | e <;> omega
    omega
/-- the items are references to tuples of two texts -/
abbrev PairsAt (H : Hp) : List V → List (Str × Str) → Prop := Paired fun y p => ∃ a : Addr, y = .ref a ∧ H a = some (.tup [.str p.1, .str p.2])
theorem PairsAt.keep {H H' : Hp} {ys : List V} {ps : List (Str × Str)} (h : PairsAt H ys ps) (k : ∀ a xs, H a = some (.tup xs) → H' a = some (.tup xs)) : PairsAt H' ys ps :=
  Paired.mapP h fun y p ⟨a, e, ha⟩ => ⟨a, e, k _ _ ha⟩
theorem PairsAt.same {H H' : Hp} {ys : List V} {ps : List (Str × Str)} (h : PairsAt H ys ps) (s : Same H H') : PairsAt H' ys ps := h.keep fun _ _ q => s _ _ q
theorem PairsAt.snoc {H : Hp} {ys : List V} {ps : List (Str × Str)} {a : Addr} {x y : Str} (h : PairsAt H ys ps) (ha : H a = some (.tup [.str x, .str y])) : PairsAt H (ys ++ [.ref a]) (ps ++ [(x, y)]) := Paired.snoc h ⟨a, rfl, ha⟩
theorem dp_pair {K : PySem.W.Frag} {H : Hp} {a : Addr} {x y : Str} (h : H a = some (.tup [.str x, .str y])) : Dp K H (.ref a) (pd (x, y)) := .tup (.inl (.inl h)) (.cons (.str x) (.cons (.str y) .nil))
theorem dp_pairs {K : PySem.W.Frag} {H : Hp} {ys : List V} {ps : List (Str × Str)} (h : PairsAt H ys ps) : DpAll K H ys (ps.map pd) := by
  induction h with
  | nil => exact .nil
  | cons r t ih =>
    obtain ⟨a, rfl, ha⟩ := r
    exact .cons (dp_pair ha) ih
theorem any_pd (ps : List (Str × Str)) (p : Str × Str) : ((ps.map pd).any fun z => PyData.eqv z (pd p)) = decide (p ∈ ps) := by
  induction ps with
  | nil => simp
  | cons q ps ih =>
    rw [List.map_cons, List.any_cons, ih, eqv_pd]
    by_cases e : q = p
    · subst e; simp
    · have e' : p ≠ q := fun z => e z.symm
      simp [e, e']
theorem paired_get {α β : Type} {F : α → β → Prop} : ∀ {xs : List α} {ys : List β} {i : Nat} {b : β}, Paired F xs ys → ys[i]? = some b → ∃ a, xs[i]? = some a ∧ F a b
  | _, _, _, _, .nil, e => by simp at e
  | _, _, 0, b, .cons r _, e => by
    simp at e
    subst e
    exact ⟨_, rfl, r⟩
  | _, _, i + 1, b, .cons _ t, e => by
    obtain ⟨a, h1, h2⟩ := paired_get (i := i) (b := b) t (by simpa using e)
    exact ⟨a, by simpa using h1, h2⟩
theorem But.seqT {K : PySem.W.Frag} {H H' : Hp} {p a : Addr} {xs : List V} {kvs : List (List Key × V)} (b : But p H H') (hp : H p = some (.dT kvs)) (h : SqL K H a xs) : SqL K H' a xs := by
  rcases h with (h | ⟨o, h⟩) | h
  · exact .inl (.inl (b _ _ (ne_of h hp (by intro z; cases z)) h))
  · exact .inl (.inr ⟨o, b _ _ (ne_of h hp (by intro z; cases z)) h⟩)
  · exact .inr h
/-! ### in, of flat texts -/
theorem inV_strs (x : Str) (l : List Str) : inV (.str x) (l.map V.str) = decide (x ∈ l) := by
  unfold inV
  induction l with
  | nil => simp
  | cons y l ih =>
    rw [List.map_cons, List.any_cons, ih]
    have e : eqV (.str y) (.str x) = decide (y = x) := by
      show (y == x) = _
      by_cases h : y = x
      · subst h; simp
      · simp [h]
    rw [e]
    by_cases h : y = x
    · subst h; simp
    · have h' : x ≠ y := fun z => h z.symm
      simp [h, h']
theorem flat_strs (l : List Str) : (l.map V.str).all flatV = true := by
  rw [List.all_map]
  exact List.all_eq_true.mpr fun _ _ => rfl
theorem r_inL {K : PySem.W.Frag} {H : Hp} {Q : VK} {p : Addr} {x : Str} {l : List Str} (hs : SqL K H p (l.map V.str) ∨ SqT K H p (l.map V.str)) (h : Q (.bl (decide (x ∈ l))) H) : rIn K false (.str x) (.ref p) H Q := by
  refine ⟨p, _, rfl, hs, rfl, flat_strs l, ?_⟩
  rw [if_neg Bool.false_ne_true, inV_strs]
  exact h
theorem r_notInL {K : PySem.W.Frag} {H : Hp} {Q : VK} {p : Addr} {x : Str} {l : List Str} (hs : SqL K H p (l.map V.str) ∨ SqT K H p (l.map V.str)) (h : Q (.bl (!decide (x ∈ l))) H) : rIn K true (.str x) (.ref p) H Q := by
  refine ⟨p, _, rfl, hs, rfl, flat_strs l, ?_⟩
  rw [if_pos rfl, inV_strs]
  exact h
/-! ### dicts of texts -/
def keysT (l : List Str) : List (Key × V) := l.map fun t => (Sum.inr t, V.bl true)
theorem val_keysT (l : List Str) (x : Str) : (valV (keysT l) (Sum.inr x)).isSome = decide (x ∈ l) := by
  unfold keysT
  induction l with
  | nil => simp [valV]
  | cons y l ih =>
    rw [List.map_cons]
    by_cases e : y = x
    · subst e
      rw [valV_pos rfl]
      simp
    · have e' : x ≠ y := fun z => e z.symm
      rw [valV_neg (fun z => e (Sum.inr.inj z)), ih]
      simp [e']
theorem put_keysT {l : List Str} {x : Str} (h : x ∉ l) : putK (keysT l) (Sum.inr x) (.bl true) = keysT (l ++ [x]) := by
  have e : valV (keysT l) (Sum.inr x) = none := by
    have q := val_keysT l x
    rw [decide_eq_false h] at q
    cases z : valV (keysT l) (Sum.inr x) with
    | none => rfl
    | some v => rw [z] at q; cases q
  rw [putK_new _ e]
  unfold keysT
  rw [List.map_append]
  rfl
end K73

set_option Elab.async false
set_option linter.all false
set_option maxRecDepth 100000
set_option maxHeartbeats 4000000
namespace K73
open PySem PySem.Spec PyProof.Rows L2
/-! ### {t: True for t in a tuple of texts} -/
def DcGoal (J : It) (g : TG) (tt : TT) (tk tv : TE) (vs : List Nat) (σ : L2.St) (H1 : Hp) (Qd : V → Hp → Prop) : Prop := tDc (fun _ _ R => R J H1) g tt tk tv vs σ H1 Qd
theorem r_dc {σ : L2.St} {H : Hp} {Q : VK} {wi : TI} {g : TG} {tt : TT} {tk tv : TE} {vs : List Nat} (h : wi σ H fun J H1 => DcGoal J g tt tk tv vs σ H1 Q) : tDc wi g tt tk tv vs σ H Q := h
theorem take_more {α : Type} {l : List α} {i : Nat} {x : α} (h : l[i]? = some x) : l.take (i + 1) = l.take i ++ [x] := by
  rw [List.take_add_one, h]
  rfl
theorem take_not {l : List Str} (hl : l.Nodup) {i : Nat} {x : Str} (h : l[i]? = some x) : x ∉ l.take i := fun z => by
  obtain ⟨j, hj, e⟩ := List.mem_iff_getElem.mp z
  rw [List.length_take] at hj
  rw [List.getElem_take] at e
  obtain ⟨hi, e2⟩ := List.getElem?_eq_some_iff.mp h
  exact List.pairwise_iff_getElem.mp hl j i (by omega) hi (by omega) (e.trans e2.symm)
theorem dc_keys {K : PySem.W.Frag} {σ : L2.St} {H1 : Hp} {Qd : V → Hp → Prop} {vs : List Nat} {j : Nat} {a : Addr} {l : List Str} (hx : SqT K H1 a (l.map V.str)) (hl : l.Nodup) (hn : l.length ≤ 1000)
    (hj : ∀ y, ((wipe σ vs).set j (some y))[j]? = some (some y)) (hw : ∀ y : Option V, wipe ((wipe σ vs).set j y) vs = wipe σ vs)
    (hd : ∀ p H', H1 p = none → Same H1 H' → H' p = some (.dK (keysT l)) → Qd (.ref p) H') :
    DcGoal (Itt K a) (gName j) tYes (tVar j) (tC (.bl true)) vs σ H1 Qd := by
  intro D nD
  refine dc_tup (xs := l.map V.str) (Qd := fun H => Qd (.ref D) H) (fun i H' => Same H1 H' ∧ H' D = some (.dK (keysT (l.take i)))) ⟨same_upd nD, upd_same⟩ (fun i H' _ p => Same.sqt p.1 hx) (fun i x H' hi p => ?_) (fun H' p => ?_)
  · rw [List.getElem?_map] at hi
    cases e : l[i]? with
    | none => rw [e] at hi; cases hi
    | some t =>
      rw [e] at hi
      have ex : V.str t = x := Option.some.inj hi
      subst ex
      refine ⟨hw _, r_yes (iteT ?_)⟩
      refine r_var (hj _) (r_c ?_)
      refine ⟨keysT (l.take i), .inr t, rfl, p.2, ?_, same_upd_new p.1 nD, ?_⟩
      · unfold keysT
        rw [List.length_map, List.length_take]
        exact small1000 (by omega)
      · rw [put_keysT (take_not hl e), ← take_more e]
        exact upd_same
  · rw [List.length_map, List.take_length] at p
    exact hd D H' nD p.1 p.2
end K73

set_option Elab.async false
set_option linter.all false
set_option maxRecDepth 100000
set_option maxHeartbeats 4000000
namespace K73
open PySem PySem.Spec PyProof.Rows L2
/-! ### two texts side by side, sign by sign -/
/-- the pairs of their signs, each a new tuple -/
def ItzS (x y : Str) : It :=
  ⟨fun i _ => i < min x.cps.size y.cps.size, fun i H v H' => ∃ (T : Addr) (c d : Nat), v = .ref T ∧ H T = none ∧ H' = upd H T (.tup [.str ⟨#[c]⟩, .str ⟨#[d]⟩]) ∧ x.cps[i]? = some c ∧ y.cps[i]? = some d, fun i _ => i = min x.cps.size y.cps.size⟩
theorem five {p : Addr → Prop} {a1 a2 a3 a4 a5 b : Addr} (hb : b ∈ a1 :: a2 :: a3 :: ([a4] ++ [a5])) (h1 : p a1) (h2 : p a2) (h3 : p a3) (h4 : p a4) (h5 : p a5) : p b := by
  have e : b = a1 ∨ b = a2 ∨ b = a3 ∨ b = a4 ∨ b = a5 := by simpa using hb
  rcases e with rfl | rfl | rfl | rfl | rfl <;> assumption
theorem turn_zipS {P : Program} {w : World} {K : PySem.W.Frag} {elts : List Expr} {kk : Nat} {tpos : Pos} {z TI TO i1 i2 : Addr} {x y : Str} {t u : Tok} (S : ZipSep2 z TI TO i1 i2 [i1] [i2]) :
    Turn P w K (.Tuple elts kk tpos) (ItzS x y) (z :: TI :: TO :: ([i1] ++ [i2])) z
      (fun i h => IsZip h z TI TO .none ∧ IsTupOf2 h TI (.ref i1) (.ref i2) ∧ (∃ a1 a2, IsTupOf2 h TO a1 a2) ∧ h.IsStrIter i1 (strIterType x) x t i ∧ h.IsStrIter i2 (strIterType y) y u i) := by
  have W : ∀ A : Around, A.handled = none → WalksT P w A z (z :: TI :: TO :: ([i1] ++ [i2])) [z, TO, i1, i2] (min x.cps.size y.cps.size)
      (fun i vals => ∃ x1 x2, (∃ c k, x.cps[i]? = some c ∧ x1 = .str ⟨#[c]⟩ k) ∧ (∃ c k, y.cps[i]? = some c ∧ x2 = .str ⟨#[c]⟩ k) ∧ vals = #[x1, x2]) _ _ := fun A hA =>
    WalksT.zipD2 (A := A) S (Draws.text (A := A.in1) hA i1 x t) (Draws.text (A := A.in1) hA i2 y u)
  refine ⟨List.mem_cons_self .., fun i h st b hb => ?_, fun i h h' st k => ?_, ?_, ?_, fun A i s Q E st h => wpAny_pyIter_zip st.1 h⟩
  · obtain ⟨hz, hTI, ⟨a1, a2, hTO⟩, ⟨o1, e1, _, d1⟩, ⟨o2, e2, _, d2⟩⟩ := st
    exact five (p := fun b => ∃ o, h.get? b = some o ∧ ∀ v, o.data ≠ .cell v) hb ⟨_, hz, fun v q => by cases q⟩ ⟨_, hTI, fun v q => by cases q⟩ ⟨_, hTO, fun v q => by cases q⟩ ⟨o1, e1, fun v q => by rw [d1] at q; cases q⟩ ⟨o2, e2, fun v q => by rw [d2] at q; cases q⟩
  · obtain ⟨hz, hTI, ⟨a1, a2, hTO⟩, ⟨o1, e1, r1⟩, ⟨o2, e2, r2⟩⟩ := st
    exact ⟨k z (by simp) _ hz, k TI (by simp) _ hTI, ⟨a1, a2, k TO (by simp) _ hTO⟩, ⟨o1, k i1 (by simp) _ e1, r1⟩, ⟨o2, k i2 (by simp) _ e2, r2⟩⟩
  · intro X hP hw hK hc i pins s σ H E I hf st hg
    subst hP hw hK
    have V := W X.A (I.ok.hd hc)
    refine V.item i s _ _ hg st fun T vals h' tk hv le hT hm hk => ⟨.ref T, rfl, ?_⟩
    refine V.go elts kk tpos i T { s with heap := h', toks := tk } _ _ hm fun h'' st' hk2 => ?_
    obtain ⟨x1, x2, ⟨c, k1, hc1, rfl⟩, ⟨d, k2, hd1, rfl⟩, rfl⟩ := hv
    obtain ⟨o, ho, hcl, hdat⟩ := hT
    have ho2 := hk2 _ _ (V.apart i T h' hm) ho
    have new : ObjOk X.prog X.w (upd H T (.tup [.str ⟨#[c]⟩, .str ⟨#[d]⟩])) h'' T (.tup [.str ⟨#[c]⟩, .str ⟨#[d]⟩]) :=
      ⟨by show 2 ≤ sizeLine; decide, [.str ⟨#[c]⟩ k1, .str ⟨#[d]⟩ k2], .cons ⟨_, rfl⟩ (.cons ⟨_, rfl⟩ .nil), ⟨o, ho2, hcl, hdat⟩⟩
    have sub : ∀ b, b ∈ ([z, TO, i1, i2] : List Addr) → b ∈ z :: TI :: TO :: ([i1] ++ [i2]) := V.sub
    have I1 : Inv X pins σ (upd H T (.tup [.str ⟨#[c]⟩, .str ⟨#[d]⟩])) { s with heap := h'', toks := tk } :=
      I.turnedNew (t' := tk) (ch := z :: TI :: TO :: ([i1] ++ [i2])) (fun b ob hb q => hk2 b ob (fun m => hb (sub b m)) (hk b ob (fun m => hb (sub b m)) q)) hf le new
    refine ⟨.ref T, _, I1, rfl, ⟨T, c, d, rfl, I.hok.fresh le, rfl, hc1, hd1⟩, st', fun b hb => ?_⟩
    obtain ⟨hz, hTI, ⟨a1, a2, hTO⟩, ⟨o1, e1, _⟩, ⟨o2, e2, _⟩⟩ := st
    have hlt := five (p := fun b => b < s.heap.objs.size) hb (Heap.lt_size hz) (Heap.lt_size hTI) (Heap.lt_size hTO) (Heap.lt_size e1) (Heap.lt_size e2)
    rw [upd_ne (Nat.ne_of_lt (Nat.lt_of_lt_of_le hlt le))]
    exact (hf b hb).1
  · intro X hP hw hK hc i pins s σ H E I hf st hg
    subst hP hw hK
    have V := W X.A (I.ok.hd hc)
    have hg' : i = min x.cps.size y.cps.size := hg
    subst hg'
    exact V.done s _ _ st fun h' tk hk => ⟨rfl, I.turnedL (t' := tk) (ch := z :: TI :: TO :: ([i1] ++ [i2])) (fun b o hb q => hk b o (fun m => hb (V.sub b m)) q) hf⟩
def iZipS (ta : TA) : TI := fun σ H R => ta σ H fun vs H1 => ∃ x y : Str, vs = [.str x, .str y] ∧ R (ItzS x y) H1
theorem pi_zipS {X : Cx} {one other : Expr} {both : TA} {at1 at2 at3 : Pos} {names : List Expr} {kk : Nat} (glob : Gl X "zip") (own : X.mg "zip" = none) (args : PA X [one, other] both)
    (plain1 : starEach [one, other] X.env = (false, eval one X.env) :: starEach [other] X.env := by rfl) (plain2 : (backTo at2 (starEach [other] X.env)).any (·.1) = false := by rfl) :
    PI X (.Tuple names kk at3) (.Call (.Name "zip" at1) [one, other] [] at2) (iZipS both) := by
  constructor
  intro pins s σ H R I h
  have step := args.run at2 pins s σ H _ I h
  refine Call_ (ld_blt I glob own PyProof.Rows.boot_zip (PyProof.Rows.callWith_type1 (thn step fun us s1 got => ?_) plain1 plain2))
  obtain ⟨vs, G, J, rel, x, y, rfl, q⟩ := got
  obtain ⟨u1, u2, rfl, ⟨t, rfl⟩, ⟨u, rfl⟩⟩ := rel.two
  generalize hn : s1.heap.objs.size = n
  refine zip_begins2 (begins_text x t) (begins_text y u) trivial trivial fun h' hz hTI hTO h1 h2 _ keeps => wpAny_pyIter_zip hz ?_
  rw [hn] at hz hTI hTO h1 h2 ⊢
  have sep : ZipSep2 (n + 4) (n + 2) (n + 3) n (n + 1) [n] [n + 1] := zip_sep2 (fp1 := []) (fp2 := []) (by intro b hb; cases hb) (by intro b hb; cases hb)
  refine ⟨n + 4, (n + 4) :: (n + 2) :: (n + 3) :: ([n] ++ [n + 1]), _, _, G, rfl, J.kept (t' := s1.toks) keeps, turn_zipS sep, ⟨hz, hTI, ⟨_, _, hTO⟩, ⟨_, h1, rfl, rfl⟩, ⟨_, h2, rfl, rfl⟩⟩, fun c hc => ?_, q⟩
  have new := five (p := fun c => n ≤ c) hc (Nat.le_add_right _ _) (Nat.le_add_right _ _) (Nat.le_add_right _ _) (Nat.le_refl _) (Nat.le_add_right _ _)
  rw [← hn] at new
  exact J.fpOk new (J.hok.fresh new)
theorem r_iZipS {σ : L2.St} {H : Hp} {ta : TA} {R : It → Hp → Prop} (h : ta σ H fun vs H1 => ∃ x y : Str, vs = [.str x, .str y] ∧ R (ItzS x y) H1) : iZipS ta σ H R := h
theorem walk_zipS {x y : Str} : Walk (ItzS x y) (min x.cps.size y.cps.size) (fun _ => True) (fun i H v H' => ∃ (T : Addr) (c d : Nat), v = .ref T ∧ H T = none ∧ H' = upd H T (.tup [.str ⟨#[c]⟩, .str ⟨#[d]⟩]) ∧ x.cps[i]? = some c ∧ y.cps[i]? = some d) :=
  ⟨fun _ _ hi _ => hi, fun _ _ => rfl, fun _ _ _ _ _ _ y => y⟩
end K73

set_option Elab.async false
set_option linter.all false
set_option maxRecDepth 100000
set_option maxHeartbeats 4000000
namespace K73
open PySem PySem.Spec PyProof.Rows L2
local macro_rules | `(tactic| walk_at "rd") => `(tactic| repeat (first | with_reducible refine r_seq ?_ | with_reducible refine r_asg ?_ | with_reducible refine r_ret ?_ | with_reducible refine r_op ?_ | with_reducible refine r_var (by with_unfolding_all rfl) ?_ | with_reducible refine r_c ?_ | with_reducible refine r_cons ?_ | with_reducible refine r_nil ?_ | with_reducible refine r_gname ?_ | with_reducible refine r_ifS ?_ | with_reducible refine r_test ?_ | with_reducible refine r_bl ?_ | with_reducible refine r_I0 ?_ | with_reducible refine r_cb ?_ | with_reducible refine r_cl ?_ | with_reducible refine r_tup ?_ | with_reducible refine r_lst ?_ | with_reducible refine r_gsub ?_ | with_reducible refine r_gcons ?_ | with_reducible refine r_gnil ?_ | with_reducible refine r_drop ?_ | with_reducible refine r_next ?_ | with_reducible refine r_par ?_ | with_reducible refine r_par2 ?_ | with_reducible refine r_and ?_ | with_reducible refine r_or ?_ | with_reducible refine r_not ?_ | with_reducible refine r_yes ?_ | with_reducible refine r_andV ?_ | with_reducible refine r_orV ?_ | with_reducible refine r_notV ?_ | with_reducible refine r_if ?_ | with_reducible refine r_chain ?_ | with_reducible refine r_U ?_ | with_reducible refine r_un ?_ | with_reducible refine r_eq (by with_unfolding_all rfl) ?_ | with_reducible refine r_ne (by with_unfolding_all rfl) ?_ | with_reducible refine r_int ?_ | with_reducible refine r_sl ?_ | with_reducible refine r_nopart ?_ | with_reducible refine r_part ?_ | with_reducible refine r_exI ?_ | with_reducible refine r_dget ?_ | with_reducible refine r_din ?_ | with_reducible refine r_dnotin ?_ | with_reducible refine r_dput ?_ | with_reducible refine r_isN ?_ | with_reducible refine r_notN ?_ | with_reducible refine r_bm ?_ | with_reducible refine r_bm0 ?_ | with_reducible refine r_retN ?_ | with_reducible refine r_lc ?_ | with_reducible refine r_for ?_ | with_reducible refine r_iStr ?_ | with_reducible refine r_exS ?_ | with_reducible refine r_iList ?_ | with_reducible refine r_iTup ?_ | with_reducible refine r_iRng ?_ | with_reducible refine r_m1 ?_ | with_reducible refine r_strM ?_ | with_reducible refine r_tB ?_ | with_reducible refine r_dc ?_ | with_reducible refine r_iZipS ?_ | with_reducible refine r_lc2 ?_ | with_reducible refine r_iZip ?_ | with_reducible refine r_tCmp ?_ | with_reducible refine r_newT ?_ | with_reducible refine r_newK ?_ | with_reducible refine r_sfld ?_ | with_reducible refine r_fld ?_ | with_reducible refine r_make ?_ | with_reducible refine r_pr ?_))
local macro_rules | `(tactic| walk_at "nw") => `(tactic| (intro q nq; generalize hH : upd _ q _ = H1; have s1 := same_upd_eq nq hH; have hq := upd_eq hH; clear hH))
section
variable {P : Program} {w : World} {K : PySem.W.Frag} {mg : Str → Option Value} {base : Heap}
/-! ### a number drawn out of the purse -/
def spPick : Sp := fun vs H Q _ => ∃ (p : Addr) (n : Int), vs = [.ref p, .int n] ∧ 0 < n ∧ n < 1073741824 ∧ PurseAt H p ∧ ∀ H' r, But p H H' → PurseAt H' p → 0 ≤ r → r < n → Q (.int r) H'
theorem sc_pick : FnScope ["_law_purse_here", "_law_size", "_law_state", "_law_step", "_law_digit"] ["_law_purse_here", "_law_size"] (defScope s_law_pick) := ⟨rfl, rfl, rfl, by decide +kernel, rfl, by decide +kernel, by decide +kernel⟩
theorem ok_pick (T : Txt K mg) (D : Df K mg "_law_pick" s_law_pick) (mi : mg "int" = none) (md : mg "divmod" = none) : Fn P w K mg base 1 "_law_pick" ["_law_purse_here", "_law_size"] spPick := by
  refine D.fn sc_pick (fun _ _ _ _ _ _ us hl => match us, hl with | [_, _], _ => rfl) (fun vs H Q E h => ?_) (fun cdv A outer s H vs Q E hr h => ?_)
  · obtain ⟨p, n, rfl, _⟩ := h
    rfl
  · obtain ⟨p, n, rfl, hn0, hn1, ⟨a, b, c, hp, hb⟩, k⟩ := h
    refine ⟨_, pss_cons (ps_asg (pe_op op_add (pe_ix ix_list (pv 0) pe_int (fun _ _ => rfl)) pe_int) (pg_sub (pv 0) pe_int set_list))
      (pss_cons (ps_set (i := 2) sc_pick.nd rfl (.inl rfl) (pe_callTy call_int1 (by rfl) mi (by decide +kernel) (pa_cons (pe_ix ix_list (pv 0) pe_int (fun _ _ => rfl)) pa_nil)))
      (pss_cons (ps_set (i := 3) sc_pick.nd rfl (.inl rfl) (pe_op op_add (pe_op op_mod (pe_callTy call_int1 (by rfl) mi (by decide +kernel) (pa_cons (pv 2) pa_nil)) pe_int) pe_int))
      (pss_cons (ps_asg (pe_op op_mod (pe_callTy call_int1 (by rfl) mi (by decide +kernel) (pa_cons (pe_op op_add (pe_op op_add (pe_op op_mul (pv 2) (pv 3)) (pe_op op_mul pe_int (pe_ix ix_list (pv 0) pe_int (fun _ _ => rfl)))) pe_int) pa_nil)) pe_int) (pg_sub (pv 0) pe_int set_list))
      (pss_cons (ps_if (pt_cmpR op_gt (pe_ix ix_list (pv 0) pe_int (fun _ _ => rfl)) pe_int (nomark _))
        (pss_cons (ps_asg (pe_callB call_divmod (by rfl) md (by decide +kernel) (pa_cons (pe_ix ix_list (pv 0) pe_int (fun _ _ => rfl)) (pa_cons (pv 1) pa_nil))) (pg_tup rfl (pgs_cons (pg_sub (pv 0) pe_int set_list) (pgs_cons (pg_name (i := 4) sc_pick.nd rfl (.inl rfl)) pgs_nil))))
          (pss_one (ps_ret (pv 4)))) pss_nil)
      (pss_one (ps_ret (pe_op op_mod (pe_op op_fdiv (pe_callTy call_int1 (by rfl) mi (by decide +kernel) (pa_cons (pe_ix ix_list (pv 0) pe_int (fun _ _ => rfl)) pa_nil)) pe_int) (pv 1)))))))), ?_⟩
    walk_at "rd"
    refine r_ixL (SqL.of hp) rfl ?_
    walk_at "rd"
    refine r_setL hp rfl ?_
    walk_at "rd"
    refine r_ixL (v := .int a) (SqL.of upd_same) rfl ?_
    walk_at "rd"
    refine r_I (by decide) ?_
    walk_at "rd"
    have hm : 0 ≤ a % 40013 + 20021 ∧ a % 40013 + 20021 < 2 ^ 64 := by omega
    refine r_I (.inr ⟨by omega, by omega⟩) ?_
    walk_at "rd"
    refine r_ixL (v := .int (c + 1)) (SqL.of upd_same) rfl ?_
    walk_at "rd"
    refine r_I (.inl ⟨by decide, by decide⟩) ?_
    walk_at "rd"
    refine r_I (by decide) ?_
    walk_at "rd"
    refine r_setL upd_same rfl ?_
    generalize hz : ((a * (a % 40013 + 20021) + 65537 * (c + 1) + 29) % 2147483399 : Int) = z
    have z0 : 0 ≤ z := by omega
    walk_at "rd"
    refine r_ixL (v := .int b) (SqL.of upd_same) rfl ?_
    walk_at "rd"
    refine ite2 (fun h => ?_) (fun h => ?_)
    · walk_at "rd"
      refine r_ixL (v := .int b) (SqL.of upd_same) rfl ?_
      walk_at "rd"
      refine ⟨b, n, rfl, ⟨hn0, by omega⟩, fun q nq => ?_⟩
      have npq : p ≠ q := ne_of_none upd_same nq
      refine ⟨q, _, rfl, SqT.of upd_same, rfl, ?_⟩
      walk_at "rd"
      refine r_setL (Eq.trans (upd_ne npq) upd_same) rfl ?_
      walk_at "rd"
      refine k _ _ (fun b' o n' e' => ?_) ⟨z, b / n, c + 1, upd_same, Int.ediv_nonneg hb (by omega)⟩ (Int.emod_nonneg _ (by omega)) (Int.emod_lt_of_pos _ hn0)
      rw [upd_ne n', upd_ne (fun e => ?_), upd_ne n', upd_ne n']
      · exact e'
      · subst e
        rw [upd_ne n', upd_ne n'] at nq
        rw [nq] at e'
        cases e'
    · walk_at "rd"
      refine r_ixL (v := .int z) (SqL.of upd_same) rfl ?_
      walk_at "rd"
      refine r_I ⟨by decide, by decide⟩ ?_
      walk_at "rd"
      refine r_I hn0 ?_
      refine k _ _ (fun b' o n' e' => ?_) ⟨z, b, c + 1, upd_same, hb⟩ (Int.emod_nonneg _ (by omega)) (Int.emod_lt_of_pos _ hn0)
      rw [upd_ne n', upd_ne n']
      exact e'
end
end K73

set_option Elab.async false
set_option linter.all false
set_option maxRecDepth 100000
set_option maxHeartbeats 4000000
namespace K73
open PySem PySem.Spec PyProof.Rows L2
local macro_rules | `(tactic| walk_at "rd") => `(tactic| repeat (first | with_reducible refine r_seq ?_ | with_reducible refine r_asg ?_ | with_reducible refine r_ret ?_ | with_reducible refine r_op ?_ | with_reducible refine r_var (by with_unfolding_all rfl) ?_ | with_reducible refine r_c ?_ | with_reducible refine r_cons ?_ | with_reducible refine r_nil ?_ | with_reducible refine r_gname ?_ | with_reducible refine r_ifS ?_ | with_reducible refine r_test ?_ | with_reducible refine r_bl ?_ | with_reducible refine r_I0 ?_ | with_reducible refine r_cb ?_ | with_reducible refine r_cl ?_ | with_reducible refine r_tup ?_ | with_reducible refine r_lst ?_ | with_reducible refine r_gsub ?_ | with_reducible refine r_gcons ?_ | with_reducible refine r_gnil ?_ | with_reducible refine r_drop ?_ | with_reducible refine r_next ?_ | with_reducible refine r_par ?_ | with_reducible refine r_par2 ?_ | with_reducible refine r_and ?_ | with_reducible refine r_or ?_ | with_reducible refine r_not ?_ | with_reducible refine r_yes ?_ | with_reducible refine r_andV ?_ | with_reducible refine r_orV ?_ | with_reducible refine r_notV ?_ | with_reducible refine r_if ?_ | with_reducible refine r_chain ?_ | with_reducible refine r_U ?_ | with_reducible refine r_un ?_ | with_reducible refine r_eq (by with_unfolding_all rfl) ?_ | with_reducible refine r_ne (by with_unfolding_all rfl) ?_ | with_reducible refine r_int ?_ | with_reducible refine r_sl ?_ | with_reducible refine r_nopart ?_ | with_reducible refine r_part ?_ | with_reducible refine r_exI ?_ | with_reducible refine r_dget ?_ | with_reducible refine r_din ?_ | with_reducible refine r_dnotin ?_ | with_reducible refine r_dput ?_ | with_reducible refine r_isN ?_ | with_reducible refine r_notN ?_ | with_reducible refine r_bm ?_ | with_reducible refine r_bm0 ?_ | with_reducible refine r_retN ?_ | with_reducible refine r_lc ?_ | with_reducible refine r_for ?_ | with_reducible refine r_iStr ?_ | with_reducible refine r_exS ?_ | with_reducible refine r_iList ?_ | with_reducible refine r_iTup ?_ | with_reducible refine r_iRng ?_ | with_reducible refine r_m1 ?_ | with_reducible refine r_strM ?_ | with_reducible refine r_tB ?_ | with_reducible refine r_dc ?_ | with_reducible refine r_iZipS ?_ | with_reducible refine r_lc2 ?_ | with_reducible refine r_iZip ?_ | with_reducible refine r_tCmp ?_ | with_reducible refine r_newT ?_ | with_reducible refine r_newK ?_ | with_reducible refine r_sfld ?_ | with_reducible refine r_fld ?_ | with_reducible refine r_make ?_ | with_reducible refine r_pr ?_))
local macro_rules | `(tactic| walk_at "nw") => `(tactic| (intro q nq; generalize hH : upd _ q _ = H1; have s1 := same_upd_eq nq hH; have hq := upd_eq hH; clear hH))
section
variable {P : Program} {w : World} {K : PySem.W.Frag} {mg : Str → Option Value} {base : Heap}
/-! ### a word -/
def spWord : Sp := fun vs H Q _ => ∃ t : Str, vs = [.str t] ∧ Wd t ∧ ∀ H', Same H H' → Q (.bl true) H'
theorem sc_is_word : FnScope ["value"] ["value"] (defScope s_is_word) := ⟨rfl, rfl, rfl, by decide +kernel, rfl, by decide +kernel, by decide +kernel⟩
theorem ok_is_word (T : Txt K mg) : Fn P w K mg base 2 "is_word" ["value"] spWord := by
  have G : Fn P w K mg base 1 "are_letters" ["value"] spLetters := ok_are_letters T
  refine T.d_is_word.fn sc_is_word (fun _ _ _ _ _ _ us hl => match us, hl with | [_], _ => rfl) (fun vs H Q E h => ?_) (fun cdv A outer s H vs Q E hr h => ?_)
  · obtain ⟨t, rfl, _⟩ := h
    rfl
  · obtain ⟨t, rfl, ht, k⟩ := h
    obtain ⟨tk, hM⟩ := T.i_MOST_LETTERS
    have h8 := wd_len ht
    have h1 : 1 ≤ t.length := by rw [TL.len_tl]; exact ht.1
    refine ⟨_, pss_one (ps_ret (pe_and (pe_isi (n := "str") T.f_isinstance (pv 0) T.f_str) (pe_and (pe_chain op_le op_le pe_int (pe_callB call_len_str (by rfl) T.f_len PySem.boot_len (pa_cons (pv 0) pa_nil)) (pe_glob (v := .int 8) (by rfl) hM ⟨_, rfl⟩))
      (pe_one (pcall G hr (pa_cons (pv 0) pa_nil)))))), ?_⟩
    walk_at "rd"
    refine isi_str ?_
    walk_at "rd"
    refine iteT ?_
    walk_at "rd"
    refine ⟨_, rfl, Nat.le_trans h8 (by decide), ?_⟩
    walk_at "rd"
    have e1 : decide ((1 : Int) ≤ (t.length : Int)) = true := decide_eq_true (by omega)
    have e2 : decide ((t.length : Int) ≤ 8) = true := decide_eq_true (by omega)
    rw [e1]
    refine iteT ?_
    walk_at "rd"
    rw [e2]
    refine iteT ?_
    walk_at "rd"
    refine ⟨t.cps.toList, by rw [tx_of], Nat.le_trans ht.2.1 (by decide), ht.2.2, fun H' s => ?_⟩
    exact k H' s
/-! ### the signs -/
theorem cutS_from (l : List Nat) (k : Nat) (hk : k ≤ l.length) : cutS (tx l) (some (k : Int)) none = tx (l.drop k) := by
  have e1 : (tx l).length = l.length := tx_len l
  refine TL.ext_tl ?_
  rw [tl_tx]
  show (((tx l).cps.toList.drop (HT.sIx (tx l).length 0 (some (k : Int)))).take (HT.sIx (tx l).length (tx l).length none - HT.sIx (tx l).length 0 (some (k : Int)))).toArray.toList = _
  rw [tx_toList, e1, HT.sIx_nat, HT.sIx_none]
  rw [show min k l.length = k by omega]
  simp only [List.toList_toArray]
  exact List.take_of_length_le (by rw [List.length_drop]; omega)
def spSignsIn : Sp := fun vs H Q _ => ∃ sg : List Nat, vs = [.str (line0 sg)] ∧ 1 ≤ sg.length ∧ sg.length ≤ 3 ∧ sg.Pairwise (· < ·) ∧ (∀ c ∈ sg, 97 ≤ c ∧ c ≤ 122) ∧ ∀ H', Same H H' → Q (.str (tx sg)) H'
theorem sc_signs_in : FnScope ["line", "word", "space", "signs", "sign", "one", "other"] ["line"] (defScope s_signs_in) := ⟨rfl, rfl, rfl, by decide +kernel, rfl, by decide +kernel, by decide +kernel⟩
theorem ok_signs_in (T : Txt K mg) : Fn P w K mg base 1 "signs_in" ["line"] spSignsIn := by
  refine T.d_signs_in.fn sc_signs_in (fun _ _ _ _ _ _ us hl => match us, hl with | [_], _ => rfl) (fun vs H Q E h => ?_) (fun cdv A outer s H vs Q E hr h => ?_)
  · obtain ⟨sg, rfl, _⟩ := h
    rfl
  · obtain ⟨sg, rfl, h1, h3, asc, abc, k⟩ := h
    obtain ⟨tk, hM⟩ := T.i_MOST_SIGNS
    obtain ⟨tk2, hL⟩ := T.s_LETTERS
    refine ⟨_, pss_cons (ps_asg (pe_partition (pv 0) pe_str) (pg_tup rfl (pgs_cons (pg_name (i := 1) sc_signs_in.nd rfl (.inl rfl)) (pgs_cons (pg_name (i := 2) sc_signs_in.nd rfl (.inl rfl)) (pgs_cons (pg_name (i := 3) sc_signs_in.nd rfl (.inl rfl)) pgs_nil)))))
      (pss_cons (ps_if (PW.pt (pw_or (pt_cmpR op_ne (pv 1) pe_str (nomark _)) (pw_or (pt_not (pt_chain op_le op_le pe_int (pe_callB call_len_str (by rfl) T.f_len PySem.boot_len (pa_cons (pv 3) pa_nil)) (pe_glob (v := .int 3) (by rfl) hM ⟨_, rfl⟩)))
        (pw_or1 (pt_not (pt_val (pe_callB (cr_all rfl) (by rfl) T.f_all (by decide +kernel) (pa_cons (pe_lc (own := [("sign", 4)]) (g := gName 4) (tt := tYes) rfl sc_signs_in.nd (pi_str (pv 3)) (blkOk_by (N := ["line", "word", "space", "signs", "sign", "one", "other"]) (sc := defScope s_signs_in) (by decide +kernel))
          (fun _ _ _ _ _ => pg_name (i := 4) sc_signs_in.nd rfl (Or.inl rfl)) (fun _ _ _ _ _ => pts_nil)
          (fun _ _ _ _ _ => pe_cmpR op_in_sign (pv 4) (pe_glob (v := .str "abcdefghijklmnopqrstuvwxyz") (by rfl) hL ⟨_, rfl⟩) (by rfl))) pa_nil)))))))) (pss_one (ps_ret pe_str)) pss_nil)
      (pss_one (ps_ret (pe_ifExp (pt_val (pe_callB (cr_all rfl) (by rfl) T.f_all (by decide +kernel) (pa_cons (pe_lc (own := [("one", 5), ("other", 6)]) (g := gTup K 2 (gCons (gName 5) (gCons (gName 6) gNil))) (tt := tYes) rfl sc_signs_in.nd
          (pi_zipS (by rfl) T.f_zip (pa_cons (pv 3) (pa_cons (pe_slice sl_str (pv 3) (po_some pe_int) po_none) pa_nil))) (blkOk_by (N := ["line", "word", "space", "signs", "sign", "one", "other"]) (sc := defScope s_signs_in) (by decide +kernel))
          (fun _ _ _ _ _ => pg_tup rfl (pgs_cons (pg_name (i := 5) sc_signs_in.nd rfl (Or.inl rfl)) (pgs_cons (pg_name (i := 6) sc_signs_in.nd rfl (Or.inl rfl)) pgs_nil))) (fun _ _ _ _ _ => pts_nil)
          (fun _ _ _ _ _ => pe_cmpR op_lt_str (pv 5) (pv 6) (nomark _))) pa_nil))) (pv 3) pe_str)))), ?_⟩
    walk_at "rd"
    refine ⟨_, _, rfl, rfl, by decide +kernel, Nat.le_trans (len_line0 h3) (by decide), ?_⟩
    rw [part0]
    walk_at "nw"
    rename_i q nq H1 s1 hq
    walk_at "rd"
    refine ⟨q, _, rfl, SqT.of hq, rfl, ?_⟩
    walk_at "rd"
    have e0 : (!decide (V.str ("signs" : Str) = V.str ("signs" : Str))) = false := by simp
    rw [e0]
    refine iteF ?_
    walk_at "rd"
    have hl : (tx sg).length ≤ sizeLine := by rw [tx_len]; exact Nat.le_trans h3 (by decide)
    refine ⟨_, rfl, hl, ?_⟩
    have e1 : decide ((1 : Int) ≤ ((tx sg).length : Int)) = true := decide_eq_true (by rw [tx_len]; omega)
    have e2 : decide (((tx sg).length : Int) ≤ 3) = true := decide_eq_true (by rw [tx_len]; omega)
    walk_at "rd"
    rw [e1]
    refine iteT ?_
    walk_at "rd"
    rw [e2]
    refine iteF ?_
    walk_at "rd"
    refine lc_S (z := sg) (fun _ => true) (fun _ => .bl true) (Nat.lt_of_le_of_lt h3 (by decide)) (fun y => rfl) (fun c H' hc s Q q => ?_) (fun c H' hc hf s Q q => ?_) (fun q2 H2 nq2 s2 h2 => ?_)
    · walk_at "rd"
      exact q _ (Same.refl _)
    · walk_at "rd"
      refine r_inSign ?_
      rw [abc_in (abc c hc)]
      exact q _ (Same.refl _)
    rw [all_true] at h2
    walk_at "rd"
    refine ⟨q2, _, rfl, SqL.of h2, ?_⟩
    rw [all_id]
    walk_at "rd"
    refine iteF ?_
    walk_at "rd"
    refine ⟨tx sg, rfl, hl, ?_⟩
    refine ⟨tx sg, _, rfl, ?_⟩
    have ec : cutS (tx sg) (some 1) none = tx (sg.drop 1) := cutS_from sg 1 h1
    rw [ec]
    intro D nD
    refine lc_it walk_zipS (fun i H' => Same H2 H' ∧ H' D = some (.lst ((List.replicate i true).map V.bl))) ⟨same_upd nD, upd_same⟩ (fun _ _ _ _ => trivial) (fun i x H' H'' hi p y => ?_) (fun H3 p => ?_)
    · obtain ⟨p1, p2⟩ := p
      obtain ⟨t, c, d, rfl, nt, rfl, hc, hd⟩ := y
      have nDt : D ≠ t := ne_of_none p2 nt
      refine ⟨t, _, rfl, SqT.of upd_same, rfl, ?_⟩
      walk_at "rd"
      refine ⟨rfl, ?_⟩
      walk_at "rd"
      refine iteT ?_
      walk_at "rd"
      refine ⟨_, _, rfl, rfl, ?_⟩
      have hc' : sg[i]? = some c := by simpa [tx] using hc
      have hd' : sg[i + 1]? = some d := by
        have h : (sg.drop 1)[i]? = some d := by simpa [tx] using hd
        rw [List.getElem?_drop, Nat.add_comm] at h
        exact h
      obtain ⟨l1, e3⟩ := List.getElem?_eq_some_iff.mp hc'
      obtain ⟨l2, e4⟩ := List.getElem?_eq_some_iff.mp hd'
      have hlt : c < d := by
        have := List.pairwise_iff_getElem.mp asc i (i + 1) l1 l2 (by omega)
        rw [e3, e4] at this
        exact this
      have e5 : decide ((⟨#[c]⟩ : Str).cps.toList < (⟨#[d]⟩ : Str).cps.toList) = true := decide_eq_true (by
        show [c] < [d]
        exact List.cons_lt_cons_iff.mpr (.inl hlt))
      rw [e5]
      refine ⟨_, Eq.trans (upd_ne nDt) p2, ?_, same_upd_new (p1.trans (same_upd nt)) nD, ?_⟩
      · rw [List.length_map, List.length_replicate]
        exact small1000 (by omega)
      · rw [upd_same, List.replicate_succ', List.map_append]
        rfl
    · walk_at "rd"
      refine ⟨D, _, rfl, SqL.of p.2, ?_⟩
      have e6 : ∀ n : Nat, (List.replicate n true).all id = true := fun n => List.all_eq_true.mpr fun b hb => by
        rw [List.eq_of_mem_replicate hb]
        rfl
      rw [e6]
      walk_at "rd"
      refine iteT ?_
      walk_at "rd"
      exact k _ ((s1.trans s2).trans p.1)
end
end K73

set_option Elab.async false
set_option linter.all false
set_option maxRecDepth 100000
set_option maxHeartbeats 4000000
namespace K73
open PySem PySem.Spec PyProof.Rows L2
local macro_rules | `(tactic| walk_at "rd") => `(tactic| repeat (first | with_reducible refine r_seq ?_ | with_reducible refine r_asg ?_ | with_reducible refine r_ret ?_ | with_reducible refine r_op ?_ | with_reducible refine r_var (by with_unfolding_all rfl) ?_ | with_reducible refine r_c ?_ | with_reducible refine r_cons ?_ | with_reducible refine r_nil ?_ | with_reducible refine r_gname ?_ | with_reducible refine r_ifS ?_ | with_reducible refine r_test ?_ | with_reducible refine r_bl ?_ | with_reducible refine r_I0 ?_ | with_reducible refine r_cb ?_ | with_reducible refine r_cl ?_ | with_reducible refine r_tup ?_ | with_reducible refine r_lst ?_ | with_reducible refine r_gsub ?_ | with_reducible refine r_gcons ?_ | with_reducible refine r_gnil ?_ | with_reducible refine r_drop ?_ | with_reducible refine r_next ?_ | with_reducible refine r_par ?_ | with_reducible refine r_par2 ?_ | with_reducible refine r_and ?_ | with_reducible refine r_or ?_ | with_reducible refine r_not ?_ | with_reducible refine r_yes ?_ | with_reducible refine r_andV ?_ | with_reducible refine r_orV ?_ | with_reducible refine r_notV ?_ | with_reducible refine r_if ?_ | with_reducible refine r_chain ?_ | with_reducible refine r_U ?_ | with_reducible refine r_un ?_ | with_reducible refine r_eq (by with_unfolding_all rfl) ?_ | with_reducible refine r_ne (by with_unfolding_all rfl) ?_ | with_reducible refine r_int ?_ | with_reducible refine r_sl ?_ | with_reducible refine r_nopart ?_ | with_reducible refine r_part ?_ | with_reducible refine r_exI ?_ | with_reducible refine r_dget ?_ | with_reducible refine r_din ?_ | with_reducible refine r_dnotin ?_ | with_reducible refine r_dput ?_ | with_reducible refine r_isN ?_ | with_reducible refine r_notN ?_ | with_reducible refine r_bm ?_ | with_reducible refine r_bm0 ?_ | with_reducible refine r_retN ?_ | with_reducible refine r_lc ?_ | with_reducible refine r_for ?_ | with_reducible refine r_iStr ?_ | with_reducible refine r_exS ?_ | with_reducible refine r_iList ?_ | with_reducible refine r_iTup ?_ | with_reducible refine r_iRng ?_ | with_reducible refine r_m1 ?_ | with_reducible refine r_strM ?_ | with_reducible refine r_tB ?_ | with_reducible refine r_dc ?_ | with_reducible refine r_iZipS ?_ | with_reducible refine r_lc2 ?_ | with_reducible refine r_iZip ?_ | with_reducible refine r_tCmp ?_ | with_reducible refine r_newT ?_ | with_reducible refine r_newK ?_ | with_reducible refine r_sfld ?_ | with_reducible refine r_fld ?_ | with_reducible refine r_make ?_ | with_reducible refine r_pr ?_))
local macro_rules | `(tactic| walk_at "nw") => `(tactic| (intro q nq; generalize hH : upd _ q _ = H1; have s1 := same_upd_eq nq hH; have hq := upd_eq hH; clear hH))
section
variable {P : Program} {w : World} {K : PySem.W.Frag} {mg : Str → Option Value} {base : Heap}
theorem cutV_from {xs : List V} {k : Nat} (hk : k ≤ xs.length) : cutV xs (some (k : Int)) none = xs.drop k := by
  unfold cutV
  rw [HT.sIx_nat, HT.sIx_none, show min k xs.length = k by omega]
  exact List.take_of_length_le (by rw [List.length_drop]; omega)
theorem cutV_to {xs : List V} {k : Nat} : cutV xs none (some (k : Int)) = xs.take k := by
  unfold cutV
  rw [HT.sIx_nat, HT.sIx_none, List.drop_zero, Nat.sub_zero]
  by_cases h : k ≤ xs.length
  · rw [show min k xs.length = k by omega]
  · rw [show min k xs.length = xs.length by omega, List.take_length, List.take_of_length_le (by omega)]
/-! ### the moods -/
def spMoodsIn : Sp := fun vs H Q _ => ∃ tg : List Str, vs = [.str (line1 tg)] ∧ 1 ≤ tg.length ∧ tg.length ≤ 5 ∧ tg.Nodup ∧ (∀ t ∈ tg, Wd t) ∧ ∀ H' p, Same H H' → H' p = some (.tup (tg.map V.str)) → Q (.ref p) H'
theorem sc_moods_in : FnScope ["line", "words", "moods", "mood"] ["line"] (defScope s_moods_in) := ⟨rfl, rfl, rfl, by decide +kernel, rfl, by decide +kernel, by decide +kernel⟩
theorem ok_moods_in (T : Txt K mg) : Fn P w K mg base 3 "moods_in" ["line"] spMoodsIn := by
  have G : Fn P w K mg base 2 "is_word" ["value"] spWord := ok_is_word T
  refine T.d_moods_in.fn sc_moods_in (fun _ _ _ _ _ _ us hl => match us, hl with | [_], _ => rfl) (fun vs H Q E h => ?_) (fun cdv A outer s H vs Q E hr h => ?_)
  · obtain ⟨tg, rfl, _⟩ := h
    rfl
  · obtain ⟨tg, rfl, h1, h5, nd, wd, k⟩ := h
    obtain ⟨tk, hM⟩ := T.i_MOST_MOODS
    refine ⟨_, pss_cons (ps_set (i := 1) sc_moods_in.nd rfl (.inl rfl) (pe_split (pv 0) pe_str))
      (pss_cons (ps_set (i := 2) sc_moods_in.nd rfl (.inl rfl) (pe_callTy call_tuple_of (by rfl) T.f_tuple (by decide +kernel) (pa_cons (pe_slice sl_list (pv 1) (po_some pe_int) po_none) pa_nil)))
      (pss_cons (ps_if (PW.pt (pw_or (pt_cmpR op_ne (pe_ix ix_list (pv 1) pe_int (fun _ _ => rfl)) pe_str (nomark _)) (pw_or (pt_not (pt_chain op_le op_le pe_int (pe_callB call_len_seq (by rfl) T.f_len PySem.boot_len (pa_cons (pv 2) pa_nil)) (pe_glob (v := .int 300) (by rfl) hM ⟨_, rfl⟩)))
        (pw_or1 (pt_not (pt_val (pe_callB (cr_all rfl) (by rfl) T.f_all (by decide +kernel) (pa_cons (pe_lc (own := [("mood", 3)]) (g := gName 3) (tt := tYes) rfl sc_moods_in.nd (pi_tup (pv 2)) (blkOk_by (N := ["line", "words", "moods", "mood"]) (sc := defScope s_moods_in) (by decide +kernel))
          (fun _ _ _ _ _ => pg_name (i := 3) sc_moods_in.nd rfl (Or.inl rfl)) (fun _ _ _ _ _ => pts_nil)
          (fun _ _ _ _ _ => pcall G hr (pa_cons (pv 3) pa_nil))) pa_nil)))))))) (pss_one (ps_ret (pe_tup pa_nil))) pss_nil)
      (pss_one (ps_ret (pe_ifExp (pt_cmpR op_eq (pe_callB call_lenD (by rfl) T.f_len PySem.boot_len (pa_cons (pe_dc (own := [("mood", 3)]) (g := gName 3) (tt := tYes) rfl sc_moods_in.nd (pi_tup (pv 2)) (blkOk_by (N := ["line", "words", "moods", "mood"]) (sc := defScope s_moods_in) (by decide +kernel))
          (fun _ _ _ _ _ => pg_name (i := 3) sc_moods_in.nd rfl (Or.inl rfl)) (fun _ _ _ _ _ => pts_nil) (fun _ _ _ _ _ => pv 3) (fun _ _ _ _ _ => pe_bl)) pa_nil)) (pe_callB call_len_seq (by rfl) T.f_len PySem.boot_len (pa_cons (pv 2) pa_nil)) (nomark _)) (pv 2) (pe_tup pa_nil)))))), ?_⟩
    walk_at "rd"
    refine ⟨_, _, rfl, rfl, by decide +kernel, Nat.le_trans (Nat.add_le_add_right (len_line1 wd h5) 2) (by decide), ?_⟩
    rw [split1 wd]
    walk_at "nw"
    rename_i q nq H1 e1 hq
    walk_at "rd"
    have ew : (("moods" : Str) :: tg).map V.str = V.str ("moods" : Str) :: tg.map V.str := rfl
    refine ⟨q, _, rfl, SqL.of hq, ?_⟩
    rw [show (some (1 : Int)) = some (((1 : Nat) : Int)) from rfl, cutV_from (by simp)]
    walk_at "nw"
    rename_i q2 nq2 H2 e2 hq2
    walk_at "rd"
    refine ⟨q2, _, rfl, .inl ⟨SqL.of hq2, ?_⟩⟩
    rw [ew, List.drop_one, List.tail_cons]
    walk_at "nw"
    rename_i m nm H3 e3 hm
    walk_at "rd"
    refine r_ixL (v := .str "moods") (SqL.of (e3 _ _ (e2 _ _ hq))) (atI_nat (j := 0) rfl) ?_
    walk_at "rd"
    have e0 : (!decide (V.str ("moods" : Str) = V.str ("moods" : Str))) = false := by simp
    rw [e0]
    refine iteF ?_
    walk_at "rd"
    refine ⟨m, _, rfl, .inr (SqT.of hm), ?_⟩
    have en : (tg.map V.str).length = tg.length := List.length_map _
    have d1 : decide ((1 : Int) ≤ (((tg.map V.str).length : Nat) : Int)) = true := decide_eq_true (by rw [en]; omega)
    have d2 : decide ((((tg.map V.str).length : Nat) : Int) ≤ 300) = true := decide_eq_true (by rw [en]; omega)
    walk_at "rd"
    rw [d1]
    refine iteT ?_
    walk_at "rd"
    rw [d2]
    refine iteF ?_
    walk_at "rd"
    refine ⟨m, rfl, ⟨_, SqT.of hm⟩, ?_⟩
    refine lc_T (xs := tg.map V.str) (SqT.of hm) (fun _ => true) (fun _ => .bl true) (by rw [en]; exact Nat.lt_of_le_of_lt h5 (by decide)) (fun y => rfl) (fun x H' hx s Q q => ?_) (fun x H' hx hf s Q q => ?_) (fun q3 H4 nq3 e4 h4 => ?_)
    · walk_at "rd"
      exact q _ (Same.refl _)
    · obtain ⟨t, ht, rfl⟩ := List.mem_map.mp hx
      walk_at "rd"
      exact ⟨t, rfl, wd t ht, fun H5 s5 => q H5 s5⟩
    rw [all_true] at h4
    walk_at "rd"
    refine ⟨q3, _, rfl, SqL.of h4, ?_⟩
    rw [all_id]
    walk_at "rd"
    refine iteF ?_
    walk_at "rd"
    refine ⟨m, rfl, ⟨_, SqT.of (e4 _ _ hm)⟩, ?_⟩
    refine dc_keys (SqT.of (e4 _ _ hm)) nd (Nat.le_trans h5 (by decide)) (fun y => rfl) (fun y => rfl) (fun q4 H5 nq4 e5 h5' => ?_)
    walk_at "rd"
    refine ⟨q4, _, rfl, h5', ?_⟩
    walk_at "rd"
    refine ⟨m, _, rfl, .inr (SqT.of (e5 _ _ (e4 _ _ hm))), ?_⟩
    walk_at "rd"
    have e6 : decide (V.int (((keysT tg).length : Nat) : Int) = V.int (((tg.map V.str).length : Nat) : Int)) = true := decide_eq_true (by rw [en]; unfold keysT; rw [List.length_map])
    rw [e6]
    refine iteT ?_
    walk_at "rd"
    exact k _ _ (((e1.trans e2).trans e3).trans (e4.trans e5)) (e5 _ _ (e4 _ _ hm))
end
end K73

set_option Elab.async false
set_option linter.all false
set_option maxRecDepth 100000
set_option maxHeartbeats 4000000
namespace K73
open PySem PySem.Spec PyProof.Rows L2
local macro_rules | `(tactic| walk_at "rd") => `(tactic| repeat (first | with_reducible refine r_seq ?_ | with_reducible refine r_asg ?_ | with_reducible refine r_ret ?_ | with_reducible refine r_op ?_ | with_reducible refine r_var (by with_unfolding_all rfl) ?_ | with_reducible refine r_c ?_ | with_reducible refine r_cons ?_ | with_reducible refine r_nil ?_ | with_reducible refine r_gname ?_ | with_reducible refine r_ifS ?_ | with_reducible refine r_test ?_ | with_reducible refine r_bl ?_ | with_reducible refine r_I0 ?_ | with_reducible refine r_cb ?_ | with_reducible refine r_cl ?_ | with_reducible refine r_tup ?_ | with_reducible refine r_lst ?_ | with_reducible refine r_gsub ?_ | with_reducible refine r_gcons ?_ | with_reducible refine r_gnil ?_ | with_reducible refine r_drop ?_ | with_reducible refine r_next ?_ | with_reducible refine r_par ?_ | with_reducible refine r_par2 ?_ | with_reducible refine r_and ?_ | with_reducible refine r_or ?_ | with_reducible refine r_not ?_ | with_reducible refine r_yes ?_ | with_reducible refine r_andV ?_ | with_reducible refine r_orV ?_ | with_reducible refine r_notV ?_ | with_reducible refine r_if ?_ | with_reducible refine r_chain ?_ | with_reducible refine r_U ?_ | with_reducible refine r_un ?_ | with_reducible refine r_eq (by with_unfolding_all rfl) ?_ | with_reducible refine r_ne (by with_unfolding_all rfl) ?_ | with_reducible refine r_int ?_ | with_reducible refine r_sl ?_ | with_reducible refine r_nopart ?_ | with_reducible refine r_part ?_ | with_reducible refine r_exI ?_ | with_reducible refine r_dget ?_ | with_reducible refine r_din ?_ | with_reducible refine r_dnotin ?_ | with_reducible refine r_dput ?_ | with_reducible refine r_isN ?_ | with_reducible refine r_notN ?_ | with_reducible refine r_bm ?_ | with_reducible refine r_bm0 ?_ | with_reducible refine r_retN ?_ | with_reducible refine r_lc ?_ | with_reducible refine r_for ?_ | with_reducible refine r_iStr ?_ | with_reducible refine r_exS ?_ | with_reducible refine r_iList ?_ | with_reducible refine r_iTup ?_ | with_reducible refine r_iRng ?_ | with_reducible refine r_m1 ?_ | with_reducible refine r_strM ?_ | with_reducible refine r_tB ?_ | with_reducible refine r_dc ?_ | with_reducible refine r_iZipS ?_ | with_reducible refine r_lc2 ?_ | with_reducible refine r_iZip ?_ | with_reducible refine r_tCmp ?_ | with_reducible refine r_newT ?_ | with_reducible refine r_newK ?_ | with_reducible refine r_sfld ?_ | with_reducible refine r_fld ?_ | with_reducible refine r_make ?_ | with_reducible refine r_pr ?_))
local macro_rules | `(tactic| walk_at "nw") => `(tactic| (intro q nq; generalize hH : upd _ q _ = H1; have s1 := same_upd_eq nq hH; have hq := upd_eq hH; clear hH))
section
variable {P : Program} {w : World} {K : PySem.W.Frag} {mg : Str → Option Value} {base : Heap}
/-! ### the good moods -/
def spGoodIn : Sp := fun vs H Q _ => ∃ (tg fn : List Str) (m : Addr), vs = [.str (line2 fn), .ref m] ∧ H m = some (.tup (tg.map V.str)) ∧ tg.length ≤ 5 ∧ (∀ t ∈ tg, Wd t) ∧ fn = (tg.filter fun t => decide (t ∈ fn)) ∧ ∀ H' p, Same H H' → H' p = some (.tup (fn.map V.str)) → Q (.ref p) H'
theorem sc_good_in : FnScope ["line", "moods", "words", "good", "mood"] ["line", "moods"] (defScope s_good_in) := ⟨rfl, rfl, rfl, by decide +kernel, rfl, by decide +kernel, by decide +kernel⟩
theorem filt_strs (l : List Str) (f : V → Bool) (g : Str → Bool) (h : ∀ x, f (.str x) = g x) : ((l.map V.str).filter f).map (fun x => x) = (l.filter g).map V.str := by
  rw [List.map_id', List.filter_map]
  congr 1
  exact List.filter_congr fun x _ => h x
def isIn (l : List Str) : V → Bool
  | .str x => decide (x ∈ l)
  | _ => false
theorem ok_good_in (T : Txt K mg) : Fn P w K mg base 1 "good_in" ["line", "moods"] spGoodIn := by
  refine T.d_good_in.fn sc_good_in (fun _ _ _ _ _ _ us hl => match us, hl with | [_, _], _ => rfl) (fun vs H Q E h => ?_) (fun cdv A outer s H vs Q E hr h => ?_)
  · obtain ⟨tg, fn, m, rfl, _⟩ := h
    rfl
  · obtain ⟨tg, fn, m, rfl, hm, h5, wd, hf, k⟩ := h
    have fw : ∀ t ∈ fn, Wd t := fun t h => by
      rw [hf] at h
      exact wd t (List.mem_filter.mp h).1
    have f5 : fn.length ≤ 5 := by
      rw [hf]
      exact Nat.le_trans (List.length_filter_le _ _) h5
    refine ⟨_, pss_cons (ps_set (i := 2) sc_good_in.nd rfl (.inl rfl) (pe_split (pv 0) pe_str))
      (pss_cons (ps_set (i := 3) sc_good_in.nd rfl (.inr rfl) (pe_callTy call_tuple_of (by rfl) T.f_tuple (by decide +kernel) (pa_cons (pe_slice sl_list (pv 2) (po_some pe_int) po_none) pa_nil)))
      (pss_cons (ps_if (PW.pt (pw_or (pt_cmpR op_ne (pe_ix ix_list (pv 2) pe_int (fun _ _ => rfl)) pe_str (nomark _)) (pw_or1 (pt_cmpR (op_neD hr.units) (pv 3) (pe_callTy call_tuple_of (by rfl) T.f_tuple (by decide +kernel) (pa_cons (pe_lc (own := [("mood", 4)]) (g := gName 4) (tt := tTest (tOp (rIn K false) (tVar 4) (tVar 3))) rfl sc_good_in.nd (pi_tup (pv 1)) (blkOk_by (N := ["line", "moods", "words", "good", "mood"]) (sc := defScope s_good_in) (by decide +kernel))
          (fun _ _ _ _ _ => pg_name (i := 4) sc_good_in.nd rfl (Or.inl rfl)) (fun _ _ _ _ _ => pts_one (pt_cmpR op_in_seq (pv 4) (pv 3) (by rfl)))
          (fun _ _ _ _ _ => pv 4)) pa_nil)) (nomark _))))) (pss_one (ps_ret pe_non)) pss_nil)
      (pss_one (ps_ret (pv 3))))), ?_⟩
    walk_at "rd"
    refine ⟨_, _, rfl, rfl, by decide +kernel, Nat.le_trans (Nat.add_le_add_right (len_line2 fw f5) 2) (by decide), ?_⟩
    rw [split2 fw]
    walk_at "nw"
    rename_i q nq H1 e1 hq
    have ew : (("good" : Str) :: fn).map V.str = V.str ("good" : Str) :: fn.map V.str := rfl
    walk_at "rd"
    refine ⟨q, _, rfl, SqL.of hq, ?_⟩
    rw [show (some (1 : Int)) = some (((1 : Nat) : Int)) from rfl, cutV_from (by simp)]
    walk_at "nw"
    rename_i q2 nq2 H2 e2 hq2
    walk_at "rd"
    refine ⟨q2, _, rfl, .inl ⟨SqL.of hq2, ?_⟩⟩
    rw [ew, List.drop_one, List.tail_cons]
    walk_at "nw"
    rename_i g ng H3 e3 hg
    walk_at "rd"
    refine r_ixL (v := .str "good") (SqL.of (e3 _ _ (e2 _ _ hq))) (atI_nat (j := 0) rfl) ?_
    walk_at "rd"
    have e0 : (!decide (V.str ("good" : Str) = V.str ("good" : Str))) = false := by simp
    rw [e0]
    refine iteF ?_
    walk_at "rd"
    have s3 := (e1.trans e2).trans e3
    refine ⟨m, rfl, ⟨_, SqT.of (s3 _ _ hm)⟩, ?_⟩
    refine lc_T (xs := tg.map V.str) (SqT.of (s3 _ _ hm)) (isIn fn) (fun x => x) (by rw [List.length_map]; exact Nat.lt_of_le_of_lt h5 (by decide)) (fun y => rfl) (fun x H' hx s Q q => ?_) (fun x H' hx hf s Q q => ?_) (fun q3 H4 nq3 e4 h4 => ?_)
    · obtain ⟨t, ht, rfl⟩ := List.mem_map.mp hx
      walk_at "rd"
      refine r_inL (l := fn) (.inr (SqT.of (s _ _ hg))) ?_
      walk_at "rd"
      exact q _ (Same.refl _)
    · walk_at "rd"
      exact q _ (Same.refl _)
    rw [filt_strs tg (isIn fn) (fun t => decide (t ∈ fn)) (fun _ => rfl), ← hf] at h4
    walk_at "rd"
    refine ⟨q3, _, rfl, .inl ⟨SqL.of h4, ?_⟩⟩
    walk_at "nw"
    rename_i g2 ng2 H5 e5 hg2
    have sok : ∀ x ∈ fn, Sok x := fun x hx => sok_wd (fw x hx)
    refine ⟨_, _, .tup (SqT.of (e5 _ _ (e4 _ _ hg))) (dp_strs fn), .tup (SqT.of hg2) (dp_strs fn), shaped_tuple sok, shaped_tuple sok, ?_⟩
    rw [eqv_tuple, eqvAll_strs, decide_eq_true rfl]
    walk_at "rd"
    refine iteF ?_
    walk_at "rd"
    exact k _ _ (s3.trans (e4.trans e5)) (e5 _ _ (e4 _ _ hg))
end
end K73

set_option Elab.async false
set_option linter.all false
set_option maxRecDepth 100000
set_option maxHeartbeats 4000000
namespace K73
open PySem PySem.Spec PyProof.Rows L2
local macro_rules | `(tactic| walk_at "rd") => `(tactic| repeat (first | with_reducible refine r_seq ?_ | with_reducible refine r_asg ?_ | with_reducible refine r_ret ?_ | with_reducible refine r_op ?_ | with_reducible refine r_var (by with_unfolding_all rfl) ?_ | with_reducible refine r_c ?_ | with_reducible refine r_cons ?_ | with_reducible refine r_nil ?_ | with_reducible refine r_gname ?_ | with_reducible refine r_ifS ?_ | with_reducible refine r_test ?_ | with_reducible refine r_bl ?_ | with_reducible refine r_I0 ?_ | with_reducible refine r_cb ?_ | with_reducible refine r_cl ?_ | with_reducible refine r_tup ?_ | with_reducible refine r_lst ?_ | with_reducible refine r_gsub ?_ | with_reducible refine r_gcons ?_ | with_reducible refine r_gnil ?_ | with_reducible refine r_drop ?_ | with_reducible refine r_next ?_ | with_reducible refine r_par ?_ | with_reducible refine r_par2 ?_ | with_reducible refine r_and ?_ | with_reducible refine r_or ?_ | with_reducible refine r_not ?_ | with_reducible refine r_yes ?_ | with_reducible refine r_andV ?_ | with_reducible refine r_orV ?_ | with_reducible refine r_notV ?_ | with_reducible refine r_if ?_ | with_reducible refine r_chain ?_ | with_reducible refine r_U ?_ | with_reducible refine r_un ?_ | with_reducible refine r_eq (by with_unfolding_all rfl) ?_ | with_reducible refine r_ne (by with_unfolding_all rfl) ?_ | with_reducible refine r_int ?_ | with_reducible refine r_sl ?_ | with_reducible refine r_nopart ?_ | with_reducible refine r_part ?_ | with_reducible refine r_exI ?_ | with_reducible refine r_dget ?_ | with_reducible refine r_din ?_ | with_reducible refine r_dnotin ?_ | with_reducible refine r_dput ?_ | with_reducible refine r_isN ?_ | with_reducible refine r_notN ?_ | with_reducible refine r_bm ?_ | with_reducible refine r_bm0 ?_ | with_reducible refine r_retN ?_ | with_reducible refine r_lc ?_ | with_reducible refine r_for ?_ | with_reducible refine r_iStr ?_ | with_reducible refine r_exS ?_ | with_reducible refine r_iList ?_ | with_reducible refine r_iTup ?_ | with_reducible refine r_iRng ?_ | with_reducible refine r_m1 ?_ | with_reducible refine r_strM ?_ | with_reducible refine r_tB ?_ | with_reducible refine r_dc ?_ | with_reducible refine r_iZipS ?_ | with_reducible refine r_lc2 ?_ | with_reducible refine r_iZip ?_ | with_reducible refine r_tCmp ?_ | with_reducible refine r_newT ?_ | with_reducible refine r_newK ?_ | with_reducible refine r_sfld ?_ | with_reducible refine r_fld ?_ | with_reducible refine r_make ?_ | with_reducible refine r_pr ?_))
local macro_rules | `(tactic| walk_at "nw") => `(tactic| (intro q nq; generalize hH : upd _ q _ = H1; have s1 := same_upd_eq nq hH; have hq := upd_eq hH; clear hH))
section
variable {P : Program} {w : World} {K : PySem.W.Frag} {mg : Str → Option Value} {base : Heap}
/-! ### the goals -/
def gkey (t : Str) (c : Nat) : List Key := [.inr t, .inr (s1 c)]
def GoalsOk (kvs : List (List Key × V)) (B : Box) : Prop := ∀ t ∈ B.tg, ∀ c ∈ B.sg, valV kvs (gkey t c) = some (.str (B.gl t c))
theorem gkey_inj {t u : Str} {c d : Nat} (h : gkey t c = gkey u d) : t = u ∧ c = d := by
  unfold gkey s1 at h
  simp only [List.cons.injEq, Sum.inr.injEq, and_true, Str.mk.injEq, Array.mk.injEq] at h
  exact h
def plsOf (l : List (Str × Nat)) : List (Str × Str) := l.map fun p => (p.1, s1 p.2)
def spGoalsIn (K : PySem.W.Frag) : Sp := fun vs H Q _ => ∃ (B : Box) (l m : Addr), vs = [.ref l, .ref m, .str (tx B.sg)] ∧ B.Ok ∧ SqL K H l (B.goalLines.map V.str) ∧ H m = some (.tup (B.tg.map V.str)) ∧
  ∀ H' p kvs, Same H H' → H' p = some (.dT kvs) → GoalsOk kvs B → Q (.ref p) H'
abbrev nGoals : List Str := ["lines", "moods", "signs", "mood", "sign", "places", "known", "found", "line", "words"]
theorem sc_goals_in : FnScope nGoals ["lines", "moods", "signs"] (defScope s_goals_in) := ⟨rfl, rfl, rfl, by decide +kernel, rfl, by decide +kernel, by decide +kernel⟩
theorem places_more {tg : List Str} {i : Nat} {t : Str} (h : tg[i]? = some t) (sg : List Nat) : places (tg.take (i + 1)) sg = places (tg.take i) sg ++ sg.map fun c => (t, c) := by
  unfold places
  rw [take_more h, List.flatMap_append]
  simp
theorem ok_goals_in (T : Txt K mg) : Fn P w K mg base 1 "goals_in" ["lines", "moods", "signs"] (spGoalsIn K) := by
  refine T.d_goals_in.fn sc_goals_in (fun _ _ _ _ _ _ us hl => match us, hl with | [_, _, _], _ => rfl) (fun vs H Q E h => ?_) (fun cdv A outer s H vs Q E hr h => ?_)
  · obtain ⟨B, l, m, rfl, _⟩ := h
    rfl
  · obtain ⟨B, l, m, rfl, ok, hl, hm, k⟩ := h
    refine ⟨_, pss_cons (ps_setLc2 (i := 5) (own := [("mood", 3), ("sign", 4)]) (vs1 := [4]) (g := gName 3) (g1 := gName 4) (tt := tYes) (tt1 := tYes) (wi1 := iStr (tVar 2)) (te := tTup (tCons (tVar 3) (tCons (tVar 4) tNil))) rfl sc_goals_in.nd rfl rfl (sw_true rfl rfl rfl (by decide +kernel)) (pi_tup (pv 1))
        (blkOk_by (N := nGoals) (sc := defScope s_goals_in) (by decide +kernel)) (by decide)
        (fun _ _ _ _ _ => pg_name (i := 3) sc_goals_in.nd rfl (Or.inl rfl)) (fun _ _ _ _ _ => pts_nil) (fun _ _ _ _ _ => pi_str (pv 2))
        (fun _ _ _ _ _ => pg_name (i := 4) sc_goals_in.nd rfl (Or.inl rfl)) (fun _ _ _ _ _ => pts_nil)
        (fun _ _ _ _ _ => pe_tup (pa_cons (pv 3) (pa_cons (pv 4) pa_nil))))
      (pss_cons (ps_if (pt_cmpR op_ne (pe_callB call_len_seq (by rfl) T.f_len PySem.boot_len (pa_cons (pv 0) pa_nil)) (pe_callB call_len_seq (by rfl) T.f_len PySem.boot_len (pa_cons (pv 5) pa_nil)) (nomark _)) (pss_one (ps_ret pe_non)) pss_nil)
      (pss_cons (ps_par (i := 6) (j := 7) rfl sc_goals_in.nd rfl rfl (by decide) rfl rfl (pa_cons (pe_dc (own := [("mood", 3)]) (g := gName 3) (tt := tYes) rfl sc_goals_in.nd (pi_tup (pv 1)) (blkOk_by (N := nGoals) (sc := defScope s_goals_in) (by decide +kernel))
          (fun _ _ _ _ _ => pg_name (i := 3) sc_goals_in.nd rfl (Or.inl rfl)) (fun _ _ _ _ _ => pts_nil) (fun _ _ _ _ _ => pv 3) (fun _ _ _ _ _ => pe_bl)) (pa_cons pe_dnewT pa_nil)) (by rfl))
      (pss_cons (ps_for PassesOwn.never rfl (pi_zip (by rfl) T.f_zip (pa_cons (pv 0) (pa_cons (pv 5) pa_nil)))
          (pg_tup rfl (pgs_cons (pg_name (i := 8) sc_goals_in.nd rfl (.inl rfl)) (pgs_cons (pg_tup rfl (pgs_cons (pg_name (i := 3) sc_goals_in.nd rfl (.inl rfl)) (pgs_cons (pg_name (i := 4) sc_goals_in.nd rfl (.inl rfl)) pgs_nil))) pgs_nil)))
        (pss_cons (ps_set (i := 9) sc_goals_in.nd rfl (.inl rfl) (pe_split (pv 8) pe_str))
        (pss_cons (ps_if (PW.pt (pw_or (pt_cmpR op_ne (pe_callB call_len_seq (by rfl) T.f_len PySem.boot_len (pa_cons (pv 9) pa_nil)) pe_int (nomark _))
            (pw_or (pt_cmpR (op_neD hr.units) (pe_slice sl_list (pv 9) po_none (po_some pe_int)) (pe_lst (pa_cons (pv 3) (pa_cons (pv 4) pa_nil))) (nomark _))
            (pw_or1 (pt_cmp (pc_dnotin (hu_of hr) (pe_ix ix_list (pv 9) pe_int (fun _ _ => rfl)) (pv 6))))))) (pss_one (ps_ret pe_non)) pss_nil)
        (pss_one (ps_dput (hu_of hr) (pv 7) (pe_tup (pa_cons (pv 3) (pa_cons (pv 4) pa_nil))) (pe_ix ix_list (pv 9) pe_int (fun _ _ => rfl)) rfl)))))
      (pss_one (ps_ret (pv 7)))))), ?_⟩
    walk_at "rd"
    refine ⟨m, rfl, ⟨_, SqT.of hm⟩, fun D nD => ?_⟩
    refine ⟨fun i n H' => n = B.tg.length - i ∧ i ≤ B.tg.length ∧ Same H H' ∧ ∃ ys, H' D = some (.lst ys) ∧ PairsAt H' ys (plsOf (places (B.tg.take i) B.sg)), ⟨B.tg.length, by simp, Nat.zero_le _, same_upd nD, [], upd_same, .nil⟩, ?_⟩
    rintro i n H1 ⟨rfl, hi, e1, ys, hD, hP⟩
    by_cases hlt : i < B.tg.length
    · have ht : B.tg[i]? = some B.tg[i] := List.getElem?_eq_getElem hlt
      have hx : (B.tg.map V.str)[i]? = some (.str B.tg[i]) := by rw [List.getElem?_map, ht]; rfl
      refine .inr ⟨⟨_, _, SqT.of (e1 _ _ hm), hx⟩, fun H' => Same H H' ∧ ∃ ys, H' D = some (.lst ys) ∧ PairsAt H' ys (plsOf (places (B.tg.take (i + 1)) B.sg)), fun H' q => ⟨_, by omega, rfl, hlt, q⟩, fun x H' y => ?_⟩
      obtain ⟨rfl, y⟩ := y
      have ex := Option.some.inj ((y _ (SqT.of (e1 _ _ hm))).symm.trans hx)
      subst ex
      generalize B.tg[i] = t at *
      walk_at "rd"
      refine ⟨rfl, ?_⟩
      walk_at "rd"
      refine iteT ?_
      walk_at "rd"
      refine ⟨fun j n H2 => n = B.sg.length - j ∧ j ≤ B.sg.length ∧ Same H H2 ∧ ∃ ys, H2 D = some (.lst ys) ∧ PairsAt H2 ys (plsOf (places (B.tg.take i) B.sg ++ (B.sg.take j).map fun c => (t, c))), ⟨B.sg.length, by simp, Nat.zero_le _, e1, ys, hD, by simpa using hP⟩, ?_⟩
      rintro j n H2 ⟨rfl, hj, e2, ys2, hD2, hP2⟩
      have esz : (tx B.sg).cps.size = B.sg.length := by simp [tx]
      by_cases hlt2 : j < B.sg.length
      · refine .inr ⟨by show j < (tx B.sg).cps.size; omega, fun H' => Same H H' ∧ ∃ ys, H' D = some (.lst ys) ∧ PairsAt H' ys (plsOf (places (B.tg.take i) B.sg ++ (B.sg.take (j + 1)).map fun c => (t, c))), fun H' q => ⟨_, by omega, rfl, hlt2, q⟩, fun x H' y => ?_⟩
        obtain ⟨rfl, c, hc, rfl⟩ := y
        have hc' : B.sg[j]? = some c := by simpa [tx] using hc
        walk_at "rd"
        refine ⟨rfl, ?_⟩
        walk_at "rd"
        refine iteT ?_
        walk_at "rd"
        refine ⟨by show 2 ≤ sizeLine; decide, ?_⟩
        walk_at "nw"
        rename_i q nq H3 e3 hq
        refine ⟨ys2, e3 _ _ hD2, ?_, same_upd_new (e2.trans e3) nD, _, upd_same, ?_⟩
        · have h1 := Paired.length hP2
          unfold plsOf at h1
          rw [List.length_map, List.length_append, len_places, List.length_map, List.length_take, List.length_take] at h1
          have h5 := ok.t5
          have h3 := ok.s3
          have h6 : min i B.tg.length * B.sg.length ≤ 5 * 3 := Nat.mul_le_mul (by omega) h3
          exact small1000 (by omega)
        · rw [take_more hc', List.map_append, ← List.append_assoc]
          unfold plsOf at hP2 ⊢
          rw [List.map_append]
          refine PairsAt.snoc (a := q) (x := t) (y := s1 c) ((hP2.same e3).keep fun a xs h => ?_) ?_
          · rw [upd_ne (ne_of h (e3 _ _ hD2) (by intro z; cases z))]
            exact h
          · rw [upd_ne (ne_of hq (e3 _ _ hD2) (by intro z; cases z))]
            exact hq
      · have ej : j = B.sg.length := by omega
        subst ej
        refine .inl ⟨by show (tx B.sg).cps.size ≤ B.sg.length; omega, e2, ys2, hD2, ?_⟩
        rw [List.take_length] at hP2
        rw [places_more ht]
        exact hP2
    · have ei : i = B.tg.length := by omega
      subst ei
      refine .inl ⟨⟨_, SqT.of (e1 _ _ hm), by rw [List.length_map]; exact Nat.le_refl _⟩, ?_⟩
      rw [List.take_length] at hP
      walk_at "rd"
      refine ⟨l, _, rfl, .inl (e1.seq hl), ?_⟩
      walk_at "rd"
      refine ⟨D, _, rfl, .inl (SqL.of hD), ?_⟩
      have ly : ys.length = (places B.tg B.sg).length := by rw [Paired.length hP]; unfold plsOf; rw [List.length_map]
      have lg : (B.goalLines.map V.str).length = (places B.tg B.sg).length := by unfold Box.goalLines; rw [List.length_map, List.length_map]
      have l15 : (places B.tg B.sg).length ≤ 15 := by
        rw [len_places]
        exact Nat.mul_le_mul ok.t5 ok.s3
      walk_at "rd"
      have e0 : (!decide (V.int (((B.goalLines.map V.str).length : Nat) : Int) = V.int ((ys.length : Nat) : Int))) = false := by rw [lg, ly]; simp
      rw [e0]
      refine iteF ?_
      walk_at "rd"
      refine ⟨m, rfl, ⟨_, SqT.of (e1 _ _ hm)⟩, ?_⟩
      refine dc_keys (SqT.of (e1 _ _ hm)) ok.nd (Nat.le_trans ok.t5 (by decide)) (fun y => rfl) (fun y => rfl) (fun kn H2 nkn e2 hkn => ?_)
      walk_at "rd"
      walk_at "nw"
      rename_i fo nfo H3 e3 hfo
      walk_at "rd"
      have e13 := (e1.trans e2).trans e3
      refine ⟨l, D, _, _, rfl, e13.seq hl, SqL.of (e3 _ _ (e2 _ _ hD)), ?_⟩
      have nof : ∀ b o, H2 b = some o → b ≠ fo := fun b o q z => by rw [z, nfo] at q; cases q
      refine for_it (walk_zip (n := (places B.tg B.sg).length) (xs := B.goalLines.map V.str) (ys := ys) (by rw [lg, ly, Nat.min_self]))
        (fun i σ' H' => ∃ v3 v4 v8 v9, σ' = [some (.ref l), some (.ref m), some (.str (tx B.sg)), v3, v4, some (.ref D), some (.ref kn), some (.ref fo), v8, v9] ∧ But fo H3 H' ∧ ∃ kvs, H' fo = some (.dT kvs) ∧ kvs.length ≤ i ∧
          ∀ j p, j < i → (places B.tg B.sg)[j]? = some p → valV kvs (gkey p.1 p.2) = some (.str (B.gl p.1 p.2)))
        ⟨none, none, none, none, rfl, But.refl _ _, [], hfo, Nat.le_refl _, fun j p h => absurd h (Nat.not_lt_zero _)⟩ ?_ ?_ ?_
      · rintro i σ' H' hi ⟨_, _, _, _, _, hb, _⟩
        exact ⟨hb.seqT hfo (e13.seq hl), SqL.of (hb _ _ (ne_of (e3 _ _ (e2 _ _ hD)) hfo (by intro z; cases z)) (e3 _ _ (e2 _ _ hD)))⟩
      · rintro i x σ' H' H'' hi ⟨v3, v4, v8, v9, rfl, hb, kvs, hf, hlen, hval⟩ ⟨t, x1, x2, rfl, nt, rfl, hx1, hx2⟩
        have hp := List.getElem?_eq_getElem hi
        generalize (places B.tg B.sg)[i] = p at hp
        have hx1' : (B.goalLines.map V.str)[i]? = some (.str (lineG p.1 p.2 (B.gl p.1 p.2))) := by
          unfold Box.goalLines
          rw [List.getElem?_map, List.getElem?_map, hp]
          rfl
        have ex1 := Option.some.inj (hx1.symm.trans hx1')
        subst ex1
        obtain ⟨pt, pc⟩ := mem_places (List.mem_of_getElem? hp)
        have hpl : (plsOf (places B.tg B.sg))[i]? = some (p.1, s1 p.2) := by
          unfold plsOf
          rw [List.getElem?_map, hp]
          rfl
        obtain ⟨x2', hx2', b, rfl, hb2⟩ := paired_get hP hpl
        have ex2 := Option.some.inj (hx2.symm.trans hx2')
        subst ex2
        generalize hH : upd H' t (.tup [.str (lineG p.1 p.2 (B.gl p.1 p.2)), .ref b]) = H4
        have e4 := same_upd_eq nt hH
        have ht := upd_eq hH
        clear hH
        have hb3 : H4 b = some (.tup [.str p.1, .str (s1 p.2)]) := e4 _ _ (hb _ _ (ne_of (e3 _ _ (e2 _ _ hb2)) hfo (by intro z; cases z)) (e3 _ _ (e2 _ _ hb2)))
        refine ⟨t, _, rfl, SqT.of ht, rfl, ?_⟩
        walk_at "rd"
        refine ⟨b, _, rfl, SqT.of hb3, rfl, ?_⟩
        walk_at "rd"
        have wt := ok.wd _ pt
        have wg := ok.wd _ (ok.cl _ pt _ pc)
        have hc := ok.abc _ pc
        refine ⟨_, _, rfl, rfl, by decide +kernel, Nat.le_trans (Nat.add_le_add_right (len_lineG wt wg) 2) (by decide), ?_⟩
        rw [splitG wt wg hc.1]
        walk_at "nw"
        rename_i q nq H5 e5 hq
        walk_at "rd"
        refine ⟨q, _, rfl, .inl (SqL.of hq), ?_⟩
        walk_at "rd"
        rw [show (!decide (V.int (((([p.1, s1 p.2, B.gl p.1 p.2] : List Str).map V.str).length : Nat) : Int) = V.int 3)) = false from rfl]
        refine iteF ?_
        walk_at "rd"
        refine ⟨q, _, rfl, SqL.of hq, ?_⟩
        rw [show (some (2 : Int)) = some (((2 : Nat) : Int)) from rfl, cutV_to]
        walk_at "nw"
        rename_i q2 nq2 H6 e6 hq2
        walk_at "rd"
        refine ⟨by show 2 ≤ sizeLine; decide, ?_⟩
        walk_at "nw"
        rename_i q3 nq3 H7 e7 hq3
        have sok : ∀ x ∈ [p.1, s1 p.2], Sok x := fun x hx => by
          have e : x = p.1 ∨ x = s1 p.2 := by simpa using hx
          rcases e with e | e
          · rw [e]; exact sok_wd wt
          · rw [e]
            refine sok_of fun c hc' => ?_
            have : c = p.2 := List.mem_singleton.mp hc'
            omega
        refine ⟨_, _, .lst (SqL.of (e7 _ _ hq2)) (dp_strs [p.1, s1 p.2]), .lst (SqL.of hq3) (dp_strs [p.1, s1 p.2]), shaped_list sok, shaped_list sok, ?_⟩
        rw [eqv_list, eqvAll_strs, decide_eq_true rfl]
        walk_at "rd"
        refine iteF ?_
        walk_at "rd"
        have up : ∀ b' o, b' ≠ fo → H3 b' = some o → H7 b' = some o := fun b' o n q => e7 _ _ (e6 _ _ (e5 _ _ (e4 _ _ (hb _ _ n q))))
        have hf7 : H7 fo = some (.dT kvs) := e7 _ _ (e6 _ _ (e5 _ _ (e4 _ _ hf)))
        refine r_ixL (v := .str (B.gl p.1 p.2)) (SqL.of (e7 _ _ (e6 _ _ hq))) (atI_nat (j := 2) rfl) ?_
        walk_at "rd"
        refine ⟨kn, _, rfl, DGet.k (k := .inr (B.gl p.1 p.2)) (up _ _ (ne_of (e3 _ _ hkn) hfo (by intro z; cases z)) (e3 _ _ hkn)), ?_⟩
        rw [val_keysT, decide_eq_true (ok.cl _ pt _ pc)]
        walk_at "rd"
        refine iteF ?_
        walk_at "rd"
        refine r_ixL (v := .str (B.gl p.1 p.2)) (SqL.of (e7 _ _ (e6 _ _ hq))) (atI_nat (j := 2) rfl) ?_
        walk_at "rd"
        refine ⟨by show 2 ≤ sizeLine; decide, ?_⟩
        walk_at "nw"
        rename_i q4 nq4 H8 e8 hq4
        refine ⟨fo, _, rfl, DPut.t (k := gkey p.1 p.2) (e8 _ _ hf7) hq4 (small1000 (by omega)), ?_⟩
        refine ⟨_, _, _, _, rfl, fun b' o n q => ?_, _, upd_same, ?_, fun j p' hj hp' => ?_⟩
        · rw [upd_ne n]
          exact e8 _ _ (up _ _ n q)
        · have := length_putK kvs (gkey p.1 p.2) (V.str (B.gl p.1 p.2))
          omega
        · rw [valV_put]
          by_cases ek : gkey p'.1 p'.2 = gkey p.1 p.2
          · rw [if_pos ek]
            obtain ⟨h1, h2⟩ := gkey_inj ek
            rw [h1, h2]
          · rw [if_neg ek]
            by_cases hji : j = i
            · subst hji
              rw [hp] at hp'
              have e := Option.some.inj hp'
              rw [e] at ek
              exact absurd rfl ek
            · exact hval j p' (by omega) hp'
      · rintro σ' H' ⟨v3, v4, v8, v9, rfl, hb, kvs, hf, hlen, hval⟩
        walk_at "rd"
        refine k _ _ kvs (fun b o q => hb _ _ (nof _ _ (e2 _ _ (e1 _ _ q))) (e13 _ _ q)) hf (fun t ht c hc => ?_)
        obtain ⟨j, hj, e⟩ := List.mem_iff_getElem.mp (in_places ht hc)
        exact hval j (t, c) hj (by rw [List.getElem?_eq_getElem hj, e])
end
end K73

set_option Elab.async false
set_option linter.all false
set_option maxRecDepth 100000
set_option maxHeartbeats 4000000
namespace K73
open PySem PySem.Spec PyProof.Rows L2
local macro_rules | `(tactic| walk_at "rd") => `(tactic| repeat (first | with_reducible refine r_seq ?_ | with_reducible refine r_asg ?_ | with_reducible refine r_ret ?_ | with_reducible refine r_op ?_ | with_reducible refine r_var (by with_unfolding_all rfl) ?_ | with_reducible refine r_c ?_ | with_reducible refine r_cons ?_ | with_reducible refine r_nil ?_ | with_reducible refine r_gname ?_ | with_reducible refine r_ifS ?_ | with_reducible refine r_test ?_ | with_reducible refine r_bl ?_ | with_reducible refine r_I0 ?_ | with_reducible refine r_cb ?_ | with_reducible refine r_cl ?_ | with_reducible refine r_tup ?_ | with_reducible refine r_lst ?_ | with_reducible refine r_gsub ?_ | with_reducible refine r_gcons ?_ | with_reducible refine r_gnil ?_ | with_reducible refine r_drop ?_ | with_reducible refine r_next ?_ | with_reducible refine r_par ?_ | with_reducible refine r_par2 ?_ | with_reducible refine r_and ?_ | with_reducible refine r_or ?_ | with_reducible refine r_not ?_ | with_reducible refine r_yes ?_ | with_reducible refine r_andV ?_ | with_reducible refine r_orV ?_ | with_reducible refine r_notV ?_ | with_reducible refine r_if ?_ | with_reducible refine r_chain ?_ | with_reducible refine r_U ?_ | with_reducible refine r_un ?_ | with_reducible refine r_eq (by with_unfolding_all rfl) ?_ | with_reducible refine r_ne (by with_unfolding_all rfl) ?_ | with_reducible refine r_int ?_ | with_reducible refine r_sl ?_ | with_reducible refine r_nopart ?_ | with_reducible refine r_part ?_ | with_reducible refine r_exI ?_ | with_reducible refine r_dget ?_ | with_reducible refine r_din ?_ | with_reducible refine r_dnotin ?_ | with_reducible refine r_dput ?_ | with_reducible refine r_isN ?_ | with_reducible refine r_notN ?_ | with_reducible refine r_bm ?_ | with_reducible refine r_bm0 ?_ | with_reducible refine r_retN ?_ | with_reducible refine r_lc ?_ | with_reducible refine r_for ?_ | with_reducible refine r_iStr ?_ | with_reducible refine r_exS ?_ | with_reducible refine r_iList ?_ | with_reducible refine r_iTup ?_ | with_reducible refine r_iRng ?_ | with_reducible refine r_m1 ?_ | with_reducible refine r_strM ?_ | with_reducible refine r_tB ?_ | with_reducible refine r_dc ?_ | with_reducible refine r_iZipS ?_ | with_reducible refine r_lc2 ?_ | with_reducible refine r_iZip ?_ | with_reducible refine r_tCmp ?_ | with_reducible refine r_newT ?_ | with_reducible refine r_newK ?_ | with_reducible refine r_sfld ?_ | with_reducible refine r_fld ?_ | with_reducible refine r_make ?_ | with_reducible refine r_pr ?_))
local macro_rules | `(tactic| walk_at "nw") => `(tactic| (intro q nq; generalize hH : upd _ q _ = H1; have s1 := same_upd_eq nq hH; have hq := upd_eq hH; clear hH))
/-! ### a rule, as it stands -/
def DraftAt (K : PySem.W.Frag) (H : Hp) (q : Addr) (B : Box) : Prop := ∃ (dy : Addr) (gs : List (Str × V)) (tm fi gd : Addr) (kvs : List (List Key × V)), H q = some (.ins (He.ga K "Draft") dy gs) ∧ gs.lookup ("letters" : Str) = some (.str (tx B.sg)) ∧
  gs.lookup ("tempers" : Str) = some (.ref tm) ∧ gs.lookup ("fine" : Str) = some (.ref fi) ∧ gs.lookup ("goals" : Str) = some (.ref gd) ∧ H tm = some (.tup (B.tg.map V.str)) ∧ H fi = some (.tup (B.fn.map V.str)) ∧ H gd = some (.dT kvs) ∧ GoalsOk kvs B
theorem DraftAt.same {K : PySem.W.Frag} {H H' : Hp} {q : Addr} {B : Box} (h : DraftAt K H q B) (s : Same H H') : DraftAt K H' q B := by
  obtain ⟨dy, gs, tm, fi, gd, kvs, h1, h2, h3, h4, h5, h6, h7, h8, h9⟩ := h
  exact ⟨dy, gs, tm, fi, gd, kvs, s _ _ h1, h2, h3, h4, h5, s _ _ h6, s _ _ h7, s _ _ h8, h9⟩
def RuleAt (K : PySem.W.Frag) (H : Hp) (p : Addr) (B : Box) : Prop := ∃ (dx : Addr) (fs : List (Str × V)) (q : Addr), H p = some (.ins (He.ga K "Rule") dx fs) ∧ fs.lookup ("draft" : Str) = some (.ref q) ∧ DraftAt K H q B
theorem RuleAt.same {K : PySem.W.Frag} {H H' : Hp} {p : Addr} {B : Box} (h : RuleAt K H p B) (s : Same H H') : RuleAt K H' p B := by
  obtain ⟨dx, fs, q, h1, h2, h3⟩ := h
  exact ⟨dx, fs, q, s _ _ h1, h2, h3.same s⟩
def draftF (a b c d : V) : List (Str × V) := putF "goals" d (putF "fine" c (putF "tempers" b (putF "letters" a [])))
theorem draftF_letters (a b c d : V) : (draftF a b c d).lookup ("letters" : Str) = some a := by
  unfold draftF
  rw [lookup_putF, if_neg (by decide +kernel), lookup_putF, if_neg (by decide +kernel), lookup_putF, if_neg (by decide +kernel), lookup_putF, if_pos rfl]
theorem draftF_tempers (a b c d : V) : (draftF a b c d).lookup ("tempers" : Str) = some b := by
  unfold draftF
  rw [lookup_putF, if_neg (by decide +kernel), lookup_putF, if_neg (by decide +kernel), lookup_putF, if_pos rfl]
theorem draftF_fine (a b c d : V) : (draftF a b c d).lookup ("fine" : Str) = some c := by
  unfold draftF
  rw [lookup_putF, if_neg (by decide +kernel), lookup_putF, if_pos rfl]
theorem draftF_goals (a b c d : V) : (draftF a b c d).lookup ("goals" : Str) = some d := by
  unfold draftF
  rw [lookup_putF, if_pos rfl]
theorem len_putF (f : Str) (v : V) : ∀ l : List (Str × V), (putF f v l).length ≤ l.length + 1
  | [] => Nat.le_refl _
  | (g, x) :: r => by
    show (if g = f then (g, v) :: r else (g, x) :: putF f v r).length ≤ _
    split
    · simp
    · have := len_putF f v r
      simp only [List.length_cons]
      omega
section
variable {P : Program} {w : World} {K : PySem.W.Frag} {mg : Str → Option Value} {base : Heap}
/-! ### Draft(..) -/
def spDraftInit (K : PySem.W.Frag) : Sp := fun vs H Q _ => ∃ (x dx : Addr) (a b c d : V), vs = [.ref x, a, b, c, d] ∧ H x = some (.ins (He.ga K "Draft") dx []) ∧ Q .non (upd H x (.ins (He.ga K "Draft") dx (draftF a b c d)))
theorem sc_Draft_init : FnScope ["self", "signs", "moods", "good", "goals"] ["self", "signs", "moods", "good", "goals"] (defScope s_Draft_init) := ⟨rfl, rfl, rfl, by decide +kernel, rfl, by decide +kernel, by decide +kernel⟩
theorem ok_Draft_init (T : Txt K mg) : ∃ fd, FnOk P w K mg base CX0 1 (He.ma K (He.ga K "Draft") "__init__") fd ["self", "signs", "moods", "good", "goals"] (spDraftInit K) ∧ L2.Binds K fd ["self", "signs", "moods", "good", "goals"] [] := by
  obtain ⟨fd, F⟩ := T.k_Draft
  refine ⟨fd, F.ok sc_Draft_init (fun vs H Q E h => ?_) (fun cdv A outer s H vs Q E hr h => ?_), F.bindsN fun _ _ _ _ _ _ us hl => match us, hl with | [_, _, _, _, _], _ => rfl⟩
  · obtain ⟨x, dx, a, b, c, d, rfl, _⟩ := h
    rfl
  · obtain ⟨x, dx, a, b, c, d, rfl, hx, k⟩ := h
    refine ⟨_, PSs.nox (pss_cons (ps_fld (pv 0) (pv 1) rfl) (pss_cons (ps_fld (pv 0) (pv 2) rfl) (pss_cons (ps_fld (pv 0) (pv 3) rfl) (pss_one (ps_fld (pv 0) (pv 4) rfl))))), ?_⟩
    have cl := T.c_Draft
    have l1 : (putF "letters" a []).length = 1 := rfl
    have l2 := len_putF "tempers" b (putF "letters" a [])
    have l3 := len_putF "fine" c (putF "tempers" b (putF "letters" a []))
    walk_at "rd"
    refine ⟨x, _, dx, _, rfl, hx, cl, T.n_letters, by decide, ?_⟩
    walk_at "rd"
    refine ⟨x, _, dx, _, rfl, upd_same, cl, T.n_tempers, (by omega), ?_⟩
    rw [upd_upd]
    walk_at "rd"
    refine ⟨x, _, dx, _, rfl, upd_same, cl, T.n_fine, (by omega), ?_⟩
    rw [upd_upd]
    walk_at "rd"
    refine ⟨x, _, dx, _, rfl, upd_same, cl, T.n_goals, (by omega), ?_⟩
    rw [upd_upd]
    exact k
/-! ### a text read -/
def spDraftIn (K : PySem.W.Frag) : Sp := fun vs H Q _ => ∃ B : Box, vs = [.str B.text] ∧ B.Ok ∧ ∀ H' q, Same H H' → DraftAt K H' q B → Q (.ref q) H'
theorem sc_draft_in : FnScope ["text", "lines", "signs", "moods", "good", "goals"] ["text"] (defScope s_draft_in) := ⟨rfl, rfl, rfl, by decide +kernel, rfl, by decide +kernel, by decide +kernel⟩
theorem ok_draft_in (T : Txt K mg) : Fn P w K mg base 4 "draft_in" ["text"] (spDraftIn K) := by
  have G1 : Fn P w K mg base 3 "signs_in" ["line"] spSignsIn := (ok_signs_in T).mono (by decide)
  have G2 : Fn P w K mg base 3 "moods_in" ["line"] spMoodsIn := ok_moods_in T
  have G3 : Fn P w K mg base 3 "good_in" ["line", "moods"] spGoodIn := (ok_good_in T).mono (by decide)
  have G4 : Fn P w K mg base 3 "goals_in" ["lines", "moods", "signs"] (spGoalsIn K) := (ok_goals_in T).mono (by decide)
  obtain ⟨fd, GD, bD⟩ := ok_Draft_init (P := P) (w := w) (base := base) T
  refine T.d_draft_in.fn sc_draft_in (fun _ _ _ _ _ _ us hl => match us, hl with | [_], _ => rfl) (fun vs H Q E h => ?_) (fun cdv A outer s H vs Q E hr h => ?_)
  · obtain ⟨B, rfl, _⟩ := h
    rfl
  · obtain ⟨B, rfl, ok, k⟩ := h
    obtain ⟨tk, hH⟩ := T.i_HEADS
    refine ⟨_, pss_cons (ps_set (i := 1) sc_draft_in.nd rfl (.inl rfl) (pe_ifExp (pt_val (pe_isi (n := "str") T.f_isinstance (pv 0) T.f_str)) (pe_split (pv 0) pe_str) (pe_lst pa_nil)))
      (pss_cons (ps_if (pt_cmpR op_lt (pe_callB call_len_seq (by rfl) T.f_len PySem.boot_len (pa_cons (pv 1) pa_nil)) (pe_glob (v := .int 3) (by rfl) hH ⟨_, rfl⟩) (nomark _)) (pss_one (ps_ret pe_non)) pss_nil)
      (pss_cons (ps_par (i := 2) (j := 3) rfl sc_draft_in.nd rfl rfl (by decide) rfl rfl (pa_cons (pcall G1 hr (pa_cons (pe_ix ix_list (pv 1) pe_int (fun _ _ => rfl)) pa_nil)) (pa_cons (pcall G2 hr (pa_cons (pe_ix ix_list (pv 1) pe_int (fun _ _ => rfl)) pa_nil)) pa_nil)) (by rfl))
      (pss_cons (ps_if (PW.pt (pw_or (pt_cmpR op_eq (pv 2) pe_str (nomark _)) (pw_or1 (pt_cmpR (op_eqD hr.units) (pv 3) (pe_tup pa_nil) (nomark _))))) (pss_one (ps_ret pe_non)) pss_nil)
      (pss_cons (ps_par (i := 4) (j := 5) rfl sc_draft_in.nd rfl rfl (by decide) rfl rfl (pa_cons (pcall G3 hr (pa_cons (pe_ix ix_list (pv 1) pe_int (fun _ _ => rfl)) (pa_cons (pv 3) pa_nil)))
          (pa_cons (pcall G4 hr (pa_cons (pe_slice sl_list (pv 1) (po_some (pe_glob (v := .int 3) (by rfl) hH ⟨_, rfl⟩)) po_none) (pa_cons (pv 3) (pa_cons (pv 2) pa_nil)))) pa_nil)) (by rfl))
      (pss_one (ps_ret (pe_ifExp (PW.pt (pw_or (pt_cmpR op_isN (pv 4) pe_non (nomark _)) (pw_or1 (pt_cmpR op_isN (pv 5) pe_non (nomark _))))) pe_non
          (pe_make T.m_Draft GD (hr.mono (by decide)) (by rfl) T.g_Draft bD .nil pass0 (pa_cons (pv 2) (pa_cons (pv 3) (pa_cons (pv 4) (pa_cons (pv 5) pa_nil)))))))))))), ?_⟩
    walk_at "rd"
    refine isi_str ?_
    walk_at "rd"
    refine iteT ?_
    walk_at "rd"
    refine ⟨_, _, rfl, rfl, by decide +kernel, Nat.le_trans (Nat.add_le_add_right ok.text_len 2) (by decide), ?_⟩
    rw [ok.text_split]
    walk_at "nw"
    rename_i q nq H1 e1 hq
    have el : B.lines.map V.str = V.str (line0 B.sg) :: V.str (line1 B.tg) :: V.str (line2 B.fn) :: B.goalLines.map V.str := rfl
    rw [el] at hq
    walk_at "rd"
    refine ⟨q, _, rfl, .inl (SqL.of hq), ?_⟩
    walk_at "rd"
    have d0 : decide ((((V.str (line0 B.sg) :: V.str (line1 B.tg) :: V.str (line2 B.fn) :: B.goalLines.map V.str).length : Nat) : Int) < 3) = false := decide_eq_false (by simp only [List.length_cons]; omega)
    rw [d0]
    refine iteF ?_
    walk_at "rd"
    refine r_ixL (v := .str (line0 B.sg)) (SqL.of hq) (atI_nat (j := 0) rfl) ?_
    walk_at "rd"
    refine ⟨B.sg, rfl, ok.s1, ok.s3, ok.asc, ok.abc, fun H2 e2 => ?_⟩
    walk_at "rd"
    refine r_ixL (v := .str (line1 B.tg)) (SqL.of (e2 _ _ hq)) (atI_nat (j := 1) rfl) ?_
    walk_at "rd"
    refine ⟨B.tg, rfl, ok.t1, ok.t5, ok.nd, ok.wd, fun H3 m e3 hm => ?_⟩
    walk_at "rd"
    have d1 : decide (V.str (tx B.sg) = V.str "") = false := decide_eq_false (fun z => by
      have z1 : tx B.sg = "" := V.str.inj z
      have z2 := congrArg (fun y : Str => y.cps.toList.length) z1
      have z3 : (tx B.sg).cps.toList.length = ("" : Str).cps.toList.length := z2
      rw [tx_toList] at z3
      have z4 : ("" : Str).cps.toList.length = 0 := by decide +kernel
      have := ok.s1
      omega)
    rw [d1]
    refine iteF ?_
    walk_at "rd"
    refine ⟨by show 0 ≤ sizeLine; decide, ?_⟩
    walk_at "nw"
    rename_i q2 nq2 H4 e4 hq2
    refine ⟨_, _, .tup (SqT.of (e4 _ _ hm)) (dp_strs B.tg), .tup (SqT.of hq2) .nil, shaped_tuple (fun x hx => sok_wd (ok.wd x hx)), by decide +kernel, ?_⟩
    rw [eqv_tuple, eqvAll_nil]
    have d2 : (B.tg.map PyData.str).isEmpty = false := by
      have := ok.t1
      cases h : B.tg with
      | nil => rw [h] at this; simp at this
      | cons t r => rfl
    rw [d2]
    walk_at "rd"
    refine iteF ?_
    walk_at "rd"
    have s4 := (e2.trans e3).trans e4
    refine r_ixL (v := .str (line2 B.fn)) (SqL.of (s4 _ _ hq)) (atI_nat (j := 2) rfl) ?_
    walk_at "rd"
    refine ⟨B.tg, B.fn, m, rfl, e4 _ _ hm, ok.t5, ok.wd, ok.fine, fun H5 g e5 hg => ?_⟩
    walk_at "rd"
    refine ⟨q, _, rfl, SqL.of (e5 _ _ (s4 _ _ hq)), ?_⟩
    rw [show (some (3 : Int)) = some (((3 : Nat) : Int)) from rfl, cutV_from (by simp only [List.length_cons]; omega)]
    walk_at "nw"
    rename_i q3 nq3 H6 e6 hq3
    walk_at "rd"
    refine ⟨B, q3, m, rfl, ok, SqL.of hq3, e6 _ _ (e5 _ _ (e4 _ _ hm)), fun H7 gd kvs e7 hgd gk => ?_⟩
    walk_at "rd"
    refine ⟨rfl, ?_⟩
    walk_at "rd"
    refine iteF ?_
    walk_at "rd"
    refine ⟨rfl, ?_⟩
    walk_at "rd"
    refine iteF ?_
    walk_at "rd"
    intro x dx nx ndx nxd
    refine ⟨x, dx, _, _, _, _, rfl, upd_same, rfl, ?_⟩
    have sX : Same H7 (upd (upd (upd H7 dx (.own x)) x (.ins (He.ga K "Draft") dx [])) x (.ins (He.ga K "Draft") dx (draftF (.str (tx B.sg)) (.ref m) (.ref g) (.ref gd)))) := fun b o e => by
      rw [upd_ne (ne_of_none e nx), upd_ne (ne_of_none e nx), upd_ne (ne_of_none e ndx)]
      exact e
    refine k _ x (((((e1.trans s4).trans e5).trans e6).trans e7).trans sX) ⟨dx, _, m, g, gd, kvs, upd_same, draftF_letters _ _ _ _, draftF_tempers _ _ _ _, draftF_fine _ _ _ _, draftF_goals _ _ _ _, sX _ _ (e7 _ _ (e6 _ _ (e5 _ _ (e4 _ _ hm)))), sX _ _ (e7 _ _ (e6 _ _ hg)), sX _ _ hgd, gk⟩
end
end K73

set_option Elab.async false
set_option linter.all false
set_option maxRecDepth 100000
set_option maxHeartbeats 4000000
namespace K73
open PySem PySem.Spec PyProof.Rows L2
local macro_rules | `(tactic| walk_at "rd") => `(tactic| repeat (first | with_reducible refine r_seq ?_ | with_reducible refine r_asg ?_ | with_reducible refine r_ret ?_ | with_reducible refine r_op ?_ | with_reducible refine r_var (by with_unfolding_all rfl) ?_ | with_reducible refine r_c ?_ | with_reducible refine r_cons ?_ | with_reducible refine r_nil ?_ | with_reducible refine r_gname ?_ | with_reducible refine r_ifS ?_ | with_reducible refine r_test ?_ | with_reducible refine r_bl ?_ | with_reducible refine r_I0 ?_ | with_reducible refine r_cb ?_ | with_reducible refine r_cl ?_ | with_reducible refine r_tup ?_ | with_reducible refine r_lst ?_ | with_reducible refine r_gsub ?_ | with_reducible refine r_gcons ?_ | with_reducible refine r_gnil ?_ | with_reducible refine r_drop ?_ | with_reducible refine r_next ?_ | with_reducible refine r_par ?_ | with_reducible refine r_par2 ?_ | with_reducible refine r_and ?_ | with_reducible refine r_or ?_ | with_reducible refine r_not ?_ | with_reducible refine r_yes ?_ | with_reducible refine r_andV ?_ | with_reducible refine r_orV ?_ | with_reducible refine r_notV ?_ | with_reducible refine r_if ?_ | with_reducible refine r_chain ?_ | with_reducible refine r_U ?_ | with_reducible refine r_un ?_ | with_reducible refine r_eq (by with_unfolding_all rfl) ?_ | with_reducible refine r_ne (by with_unfolding_all rfl) ?_ | with_reducible refine r_int ?_ | with_reducible refine r_sl ?_ | with_reducible refine r_nopart ?_ | with_reducible refine r_part ?_ | with_reducible refine r_exI ?_ | with_reducible refine r_dget ?_ | with_reducible refine r_din ?_ | with_reducible refine r_dnotin ?_ | with_reducible refine r_dput ?_ | with_reducible refine r_isN ?_ | with_reducible refine r_notN ?_ | with_reducible refine r_bm ?_ | with_reducible refine r_bm0 ?_ | with_reducible refine r_retN ?_ | with_reducible refine r_lc ?_ | with_reducible refine r_for ?_ | with_reducible refine r_iStr ?_ | with_reducible refine r_exS ?_ | with_reducible refine r_iList ?_ | with_reducible refine r_iTup ?_ | with_reducible refine r_iRng ?_ | with_reducible refine r_m1 ?_ | with_reducible refine r_strM ?_ | with_reducible refine r_tB ?_ | with_reducible refine r_dc ?_ | with_reducible refine r_iZipS ?_ | with_reducible refine r_lc2 ?_ | with_reducible refine r_iZip ?_ | with_reducible refine r_tCmp ?_ | with_reducible refine r_newT ?_ | with_reducible refine r_newK ?_ | with_reducible refine r_sfld ?_ | with_reducible refine r_fld ?_ | with_reducible refine r_make ?_ | with_reducible refine r_pr ?_))
local macro_rules | `(tactic| walk_at "nw") => `(tactic| (intro q nq; generalize hH : upd _ q _ = H1; have s1 := same_upd_eq nq hH; have hq := upd_eq hH; clear hH))
section
variable {P : Program} {w : World} {K : PySem.W.Frag} {mg : Str → Option Value} {base : Heap}
/-! ### Rule(text) -/
def spRuleInit (K : PySem.W.Frag) : Sp := fun vs H Q _ => ∃ (x dx : Addr) (B : Box), vs = [.ref x, .str B.text] ∧ B.Ok ∧ H x = some (.ins (He.ga K "Rule") dx []) ∧ ∀ H', But x H H' → RuleAt K H' x B → Q .non H'
theorem sc_Rule_init : FnScope ["self", "text", "draft"] ["self", "text"] (defScope s_Rule_init) := ⟨rfl, rfl, rfl, by decide +kernel, rfl, by decide +kernel, by decide +kernel⟩
theorem ok_Rule_init (T : Txt K mg) : ∃ fd, FnOk P w K mg base CX0 5 (He.ma K (He.ga K "Rule") "__init__") fd ["self", "text"] (spRuleInit K) ∧ L2.Binds K fd ["self", "text"] [] := by
  obtain ⟨fd, F⟩ := T.k_Rule
  have G : Fn P w K mg base 4 "draft_in" ["text"] (spDraftIn K) := ok_draft_in T
  refine ⟨fd, F.ok sc_Rule_init (fun vs H Q E h => ?_) (fun cdv A outer s H vs Q E hr h => ?_), F.bindsN fun _ _ _ _ _ _ us hl => match us, hl with | [_, _], _ => rfl⟩
  · obtain ⟨x, dx, B, rfl, _⟩ := h
    rfl
  · obtain ⟨x, dx, B, rfl, ok, hx, k⟩ := h
    refine ⟨_, PSs.nox (pss_cons (ps_set (i := 2) sc_Rule_init.nd rfl (.inl rfl) (pcall G hr (pa_cons (pv 1) pa_nil)))
      (pss_cons (ps_if (pt_cmpR op_isN (pv 2) pe_non (nomark _)) (pss_one (ps_never)) pss_nil)
      (pss_cons (ps_fld (pv 0) (pv 1) rfl) (pss_one (ps_fld (pv 0) (pv 2) rfl))))), ?_⟩
    have cl := T.c_Rule
    walk_at "rd"
    refine ⟨B, rfl, ok, fun H1 q e1 hq => ?_⟩
    walk_at "rd"
    refine ⟨rfl, ?_⟩
    walk_at "rd"
    refine iteF ?_
    walk_at "rd"
    refine ⟨x, _, dx, _, rfl, e1 _ _ hx, cl, T.n_wording, by decide, ?_⟩
    have l1 := len_putF "wording" (V.str B.text) []
    walk_at "rd"
    refine ⟨x, _, dx, _, rfl, upd_same, cl, T.n_draft, Nat.lt_of_le_of_lt l1 (by decide), ?_⟩
    rw [upd_upd]
    have sX : But x H1 (upd H1 x (.ins (He.ga K "Rule") dx (putF "draft" (.ref q) (putF "wording" (.str B.text) [])))) := But.upd
    obtain ⟨dy, gs, tm, fi, gd, kvs, h1, h2, h3, h4, h5, h6, h7, h8, h9⟩ := hq
    have hx1 := e1 _ _ hx
    refine k _ ((But.of e1).trans sX) ⟨dx, _, q, upd_same, ?_, dy, gs, tm, fi, gd, kvs, sX _ _ ?_ h1, h2, h3, h4, h5, sX _ _ ?_ h6, sX _ _ ?_ h7, sX _ _ ?_ h8, h9⟩
    · rw [lookup_putF, if_pos rfl]
    · intro z
      rw [z, hx1] at h1
      injection h1 with h1
      injection h1 with _ _ h1
      rw [← h1] at h2
      cases h2
    · exact ne_of h6 hx1 (by intro z; cases z)
    · exact ne_of h7 hx1 (by intro z; cases z)
    · exact ne_of h8 hx1 (by intro z; cases z)
/-! ### a text that writes a rule -/
def spRuleIn (K : PySem.W.Frag) : Sp := fun vs H Q _ => ∃ B : Box, vs = [.str B.text] ∧ B.Ok ∧ ∀ H' p, Same H H' → RuleAt K H' p B → Q (.ref p) H'
theorem sc_rule_in : FnScope ["text"] ["text"] (defScope s_rule_in) := ⟨rfl, rfl, rfl, by decide +kernel, rfl, by decide +kernel, by decide +kernel⟩
theorem ok_rule_in (T : Txt K mg) : Fn P w K mg base 7 "rule_in" ["text"] (spRuleIn K) := by
  obtain ⟨fd, GD, bD⟩ := ok_Rule_init (P := P) (w := w) (base := base) T
  refine T.d_rule_in.fn sc_rule_in (fun _ _ _ _ _ _ us hl => match us, hl with | [_], _ => rfl) (fun vs H Q E h => ?_) (fun cdv A outer s H vs Q E hr h => ?_)
  · obtain ⟨B, rfl, _⟩ := h
    rfl
  · obtain ⟨B, rfl, ok, k⟩ := h
    refine ⟨_, pss_one (ps_try_thru0 (pss_one (ps_ret (pe_make T.m_Rule GD hr (by rfl) T.g_Rule bD .nil pass0 (pa_cons (pv 0) pa_nil))))), ?_⟩
    walk_at "rd"
    intro x dx nx ndx nxd
    refine ⟨x, dx, B, rfl, ok, upd_same, fun H' e hR => ⟨rfl, k H' x (fun b o q => ?_) hR⟩⟩
    refine e _ _ (ne_of_none q nx) ?_
    rw [upd_ne (ne_of_none q nx), upd_ne (ne_of_none q ndx)]
    exact q
/-! ### its properties -/
/-- e.f, a property of a rule -/
def tPr (K : PySem.W.Frag) (sp : Sp) (ta : TE) : TE := fun σ H Q => ta σ H fun x H1 => ∃ (a dx : Addr) (fs : List (Str × V)), x = .ref a ∧ H1 a = some (.ins (He.ga K "Rule") dx fs) ∧ sp [.ref a] H1 Q E0
theorem r_pr {sp : Sp} {ta : TE} {σ : L2.St} {H : Hp} {Q : VK} (h : ta σ H fun x H1 => ∃ (a dx : Addr) (fs : List (Str × V)), x = .ref a ∧ H1 a = some (.ins (He.ga K "Rule") dx fs) ∧ sp [.ref a] H1 Q E0) : tPr K sp ta σ H Q := h
structure Gt (P : Program) (w : World) (K : PySem.W.Frag) (mg : Str → Option Value) (base : Heap) (f : Str) (sp : Sp) : Prop where
  prop : PropOf K (He.ga K "Rule") f (He.ma K (He.ga K "Rule") f) (gA K "Rule" f)
  cl : Cls K (He.ga K "Rule")
  ex : ∃ fd, FnOk P w K mg base CX0 1 (gA K "Rule" f) fd ["self"] sp ∧ L2.Binds K fd ["self"] []
theorem pprop {X : Cx} {f : Str} {sp : Sp} {e : Expr} {pos : Pos} {ta : TE} {k : Nat} (G : Gt X.prog X.w X.K X.mg X.base f sp) (hr : Room (k + 2) X.A) (he : PE X e ta) (hab : attributeBase e f X.env (eval e X.env) = eval e X.env := by rfl) : PE X (.Attribute e f pos) (tPr X.K sp ta) := by
  obtain ⟨fd, F, b⟩ := G.ex
  exact pe_prop (E := E0) he G.cl G.prop F (hr.mono (by omega)) b .nil pass0 hab
def spSigns (K : PySem.W.Frag) : Sp := fun vs H Q _ => ∃ (p : Addr) (B : Box), vs = [.ref p] ∧ RuleAt K H p B ∧ Q (.str (tx B.sg)) H
def spMoods (K : PySem.W.Frag) : Sp := fun vs H Q _ => ∃ (p : Addr) (B : Box), vs = [.ref p] ∧ RuleAt K H p B ∧ ∀ tm, H tm = some (.tup (B.tg.map V.str)) → Q (.ref tm) H
def spGood (K : PySem.W.Frag) : Sp := fun vs H Q _ => ∃ (p : Addr) (B : Box), vs = [.ref p] ∧ RuleAt K H p B ∧ ∀ fi, H fi = some (.tup (B.fn.map V.str)) → Q (.ref fi) H
theorem sc_Rule_signs : FnScope ["self"] ["self"] (defScope s_Rule_signs) := ⟨rfl, rfl, rfl, by decide +kernel, rfl, by decide +kernel, by decide +kernel⟩
theorem sc_Rule_moods : FnScope ["self"] ["self"] (defScope s_Rule_moods) := ⟨rfl, rfl, rfl, by decide +kernel, rfl, by decide +kernel, by decide +kernel⟩
theorem sc_Rule_good : FnScope ["self"] ["self"] (defScope s_Rule_good) := ⟨rfl, rfl, rfl, by decide +kernel, rfl, by decide +kernel, by decide +kernel⟩
theorem ok_signs (T : Txt K mg) : Gt P w K mg base "signs" (spSigns K) := by
  obtain ⟨pr, fd, F⟩ := T.p_signs
  refine ⟨pr, T.c_Rule, fd, F.ok sc_Rule_signs (fun vs H Q E h => ?_) (fun cdv A outer s H vs Q E hr h => ?_), F.bindsN fun _ _ _ _ _ _ us hl => match us, hl with | [_], _ => rfl⟩
  · obtain ⟨p, B, rfl, _⟩ := h
    rfl
  · obtain ⟨p, B, rfl, ⟨dx, fs, q, hp, hl, dy, gs, tm, fi, gd, kvs, h1, h2, h3, h4, h5, h6, h7, h8, h9⟩, k⟩ := h
    refine ⟨_, PSs.nox (pss_one (ps_ret (pe_fld (pe_fld (pv 0) rfl) rfl))), ?_⟩
    walk_at "rd"
    refine ⟨p, _, dx, _, _, rfl, hp, T.c_Rule, T.n_draft, hl, ?_⟩
    exact ⟨q, _, dy, _, _, rfl, h1, T.c_Draft, T.n_letters, h2, k⟩
theorem ok_moods (T : Txt K mg) : Gt P w K mg base "moods" (spMoods K) := by
  obtain ⟨pr, fd, F⟩ := T.p_moods
  refine ⟨pr, T.c_Rule, fd, F.ok sc_Rule_moods (fun vs H Q E h => ?_) (fun cdv A outer s H vs Q E hr h => ?_), F.bindsN fun _ _ _ _ _ _ us hl => match us, hl with | [_], _ => rfl⟩
  · obtain ⟨p, B, rfl, _⟩ := h
    rfl
  · obtain ⟨p, B, rfl, ⟨dx, fs, q, hp, hl, dy, gs, tm, fi, gd, kvs, h1, h2, h3, h4, h5, h6, h7, h8, h9⟩, k⟩ := h
    refine ⟨_, PSs.nox (pss_one (ps_ret (pe_fld (pe_fld (pv 0) rfl) rfl))), ?_⟩
    walk_at "rd"
    refine ⟨p, _, dx, _, _, rfl, hp, T.c_Rule, T.n_draft, hl, ?_⟩
    exact ⟨q, _, dy, _, _, rfl, h1, T.c_Draft, T.n_tempers, h3, k tm h6⟩
theorem ok_good (T : Txt K mg) : Gt P w K mg base "good" (spGood K) := by
  obtain ⟨pr, fd, F⟩ := T.p_good
  refine ⟨pr, T.c_Rule, fd, F.ok sc_Rule_good (fun vs H Q E h => ?_) (fun cdv A outer s H vs Q E hr h => ?_), F.bindsN fun _ _ _ _ _ _ us hl => match us, hl with | [_], _ => rfl⟩
  · obtain ⟨p, B, rfl, _⟩ := h
    rfl
  · obtain ⟨p, B, rfl, ⟨dx, fs, q, hp, hl, dy, gs, tm, fi, gd, kvs, h1, h2, h3, h4, h5, h6, h7, h8, h9⟩, k⟩ := h
    refine ⟨_, PSs.nox (pss_one (ps_ret (pe_fld (pe_fld (pv 0) rfl) rfl))), ?_⟩
    walk_at "rd"
    refine ⟨p, _, dx, _, _, rfl, hp, T.c_Rule, T.n_draft, hl, ?_⟩
    exact ⟨q, _, dy, _, _, rfl, h1, T.c_Draft, T.n_fine, h4, k fi h7⟩
/-! ### one step -/
def spGoalOf (K : PySem.W.Frag) : Sp := fun vs H Q _ => ∃ (p : Addr) (B : Box) (t : Str) (c : Nat), vs = [.ref p, .str t, .str (s1 c)] ∧ RuleAt K H p B ∧ t ∈ B.tg ∧ c ∈ B.sg ∧ ∀ H', Same H H' → Q (.str (B.gl t c)) H'
theorem sc_goal_of : FnScope ["rule", "mood", "sign"] ["rule", "mood", "sign"] (defScope s_goal_of) := ⟨rfl, rfl, rfl, by decide +kernel, rfl, by decide +kernel, by decide +kernel⟩
theorem ok_goal_of (T : Txt K mg) : Fn P w K mg base 1 "goal_of" ["rule", "mood", "sign"] (spGoalOf K) := by
  refine T.d_goal_of.fn sc_goal_of (fun _ _ _ _ _ _ us hl => match us, hl with | [_, _, _], _ => rfl) (fun vs H Q E h => ?_) (fun cdv A outer s H vs Q E hr h => ?_)
  · obtain ⟨p, B, t, c, rfl, _⟩ := h
    rfl
  · obtain ⟨p, B, t, c, rfl, ⟨dx, fs, q, hp, hl, dy, gs, tm, fi, gd, kvs, h1, h2, h3, h4, h5, h6, h7, h8, h9⟩, ht, hc, k⟩ := h
    refine ⟨_, pss_one (ps_ret (pe_dget (hu_of hr) (pe_fld (pe_fld (pv 0) rfl) rfl) (pe_tup (pa_cons (pv 1) (pa_cons (pv 2) pa_nil))) (fun _ _ => rfl))), ?_⟩
    walk_at "rd"
    refine ⟨p, _, dx, _, _, rfl, hp, T.c_Rule, T.n_draft, hl, ?_⟩
    refine ⟨q, _, dy, _, _, rfl, h1, T.c_Draft, T.n_goals, h5, ?_⟩
    walk_at "rd"
    refine ⟨by show 2 ≤ sizeLine; decide, ?_⟩
    walk_at "nw"
    rename_i u nu H1 e1 hu
    have g := DGet.t (k := gkey t c) (e1 _ _ h8) hu
    rw [h9 t ht c hc] at g
    exact ⟨gd, _, rfl, g, k H1 e1⟩
end
end K73

set_option Elab.async false
set_option linter.all false
set_option maxRecDepth 100000
set_option maxHeartbeats 4000000
namespace K73
open PySem PySem.Spec PyProof.Rows L2
/-! ### {pair: True for pair in ..}: a comprehension whose keys are tuples (the kit's rule for dict comprehensions knows keys that are numbers and texts) -/
/-- one entry more under a tuple's key -/
theorem dT_set {X : Cx} {pins : List (Addr × Obj)} {τ : L2.St} {G : Hp} {s : Shared} {E : Value → Shared → Prop} {D b : Addr} {old : List (List Key × V)} {key : List Key} {v : V} {r : Value} {Q : Unit → Shared → Prop}
    (room : X.A.units < cLine) (I : Inv X pins τ G s) (atD : G D = some (.dT old)) (atb : G b = some (.tup (key.map kV))) (few : old.length < sizeLine) (rv : RelV v r)
    (go : ∀ s', Inv X pins τ (upd G D (.dT (putK old key v))) s' → Q () s') : wpAny (model X.prog X.w) X.A (dictSet D (.ref b) r) Q E s := by
  have notD : ∀ c ys, G c = some (.tup ys) → c ≠ D := fun c ys ec => ne_of ec atD (by intro z; cases z)
  obtain ⟨oldFew, noMods, ents, rel, std⟩ := dt_of I.hok atD
  have entsFew : ents.length ≤ sizeLine := by rw [← Paired.length rel]; exact oldFew
  have newFew : (putK old key v).length ≤ sizeLine := Nat.le_trans (length_putK old key v) few
  refine wpAny_dictSet_heap (knd := tupleKind (mixKind X.prog X.w)) (hsz := entsFew) room (key_of I.hok atb) std fun hp' std' but => go _ ?_
  obtain ⟨o, tab, ep, look, exact', data, list, _, uniq⟩ := std'
  have kt := (rel.put key atb rv).keeps (H' := upd G D (.dT (putK old key v))) fun c ys ec => by
    rw [upd_ne (notD c ys ec)]
    exact ec
  exact d_write I (by rw [atD]; trivial) but ⟨o, look⟩ ⟨newFew, noMods, _, kt, o, tab, ep, look, exact', data, list, uniq⟩
abbrev DtGoal (J : It) (g : TG) (tt : TT) (tk tv : TE) (vs : List Nat) (σ : L2.St) (H1 : Hp) (Qd : V → Hp → Prop) : Prop :=
  ∀ D, H1 D = none → ∃ W : Nat → Nat → Hp → Prop, (∃ m, W 0 m (upd H1 D (.dT []))) ∧ ∀ i m H, W i m H →
      (J.stop i H ∧ Qd (.ref D) H) ∨ (J.go i H ∧ ∃ Nx : Hp → Prop, (∀ H', Nx H' → ∃ m', m' < m ∧ W (i + 1) m' H') ∧ ∀ x H', J.yld i H x H' → g x (wipe σ vs) H' fun σ2 H2 => wipe σ2 vs = wipe σ vs ∧ tt σ2 H2 fun c H3 =>
        if c = true then tk σ2 H3 fun y H4 => tv σ2 H4 fun z H5 => ∃ kvs k b, y = .ref b ∧ H5 D = some (.dT kvs) ∧ H5 b = some (.tup (k.map kV)) ∧ kvs.length < sizeLine ∧ Nx (upd H5 D (.dT (putK kvs k z))) else Nx H3)
def tDt (wi : TI) (g : TG) (tt : TT) (tk tv : TE) (vs : List Nat) : TE := fun σ H Q => wi σ H fun J H1 => DtGoal J g tt tk tv vs σ H1 Q
theorem r_dt {σ : L2.St} {H : Hp} {wi : TI} {g : TG} {tt : TT} {tk tv : TE} {vs : List Nat} {Q : VK} (h : wi σ H fun J H1 => DtGoal J g tt tk tv vs σ H1 Q) : tDt wi g tt tk tv vs σ H Q := h
/-- the turns, in the block's own context Y: what a turn leaves is the next one's beginning -/
theorem dt_loop {Y : Cx} {kx vx tg iter : Expr} {ifs : List Expr} {scope : Scope} {pos : Pos} {g : TG} {tt : TT} {tk tv : TE} {vs : List Nat} {J : It} {fp : List Addr} {it D : Addr} {tn : Nat → Heap → Prop} {τ : L2.St} {W : Nat → Nat → Hp → Prop} {Qd : Hp → Prop} {R : Result → Shared → Prop}
    (noX : Y.xe = fun _ _ => False) (calm : Y.calm = true) (room : Y.A.units < cLine) (T : Turn Y.prog Y.w Y.K tg J fp it tn) (clean : ∀ {ρ : L2.St} {G : Hp} {s : Shared}, Inv Y [] ρ G s → (∀ b ∈ fp, G b = none) → ∀ b ∈ fp, FpOk Y [] G b)
    (pg : PG Y tg g) (pt : PTs Y ifs tt) (pk : PE Y kx tk) (pv : PE Y vx tv)
    (turn : ∀ i m G, W i m G → (J.stop i G ∧ Qd G) ∨ (J.go i G ∧ ∃ Nx : Hp → Prop, (∀ G', Nx G' → ∃ m', m' < m ∧ W (i + 1) m' G') ∧ ∀ x G', J.yld i G x G' → g x τ G' fun ρ G2 => wipe ρ vs = τ ∧ tt ρ G2 fun c G3 =>
      if c = true then tk ρ G3 fun y G4 => tv ρ G4 fun z G5 => ∃ kvs k b, y = .ref b ∧ G5 D = some (.dT kvs) ∧ G5 b = some (.tup (k.map kV)) ∧ kvs.length < sizeLine ∧ Nx (upd G5 D (.dT (putK kvs k z))) else Nx G3))
    (done : ∀ s G, Inv Y [] τ G s → Qd G → R (.ok .next) s) {s : Shared} {G : Hp} {m : Nat} (I : Inv Y [] τ G s) (st : tn 0 s.heap) (free : ∀ b ∈ fp, G b = none) (w0 : W 0 m G) :
    codeAny (model Y.prog Y.w) Y.A (.compLoop (.DictComp kx vx [⟨tg, iter, ifs, 0⟩] scope pos) 0 (.ref it) (.ref D) Y.env) R s := by
  refine compLoop_anyD (fun left s' => ∃ at' G', Inv Y [] τ G' s' ∧ tn at' s'.heap ∧ (∀ b ∈ fp, G' b = none) ∧ W at' left G') (fun left sa inv => ?_) m ⟨0, G, I, st, free, w0⟩
  obtain ⟨at', Ga, Ia, sta, fra, wa⟩ := inv
  rcases turn at' left Ga wa with ⟨halt, qd⟩ | ⟨goes, Nx, less, each⟩
  · exact thnF (T.done Y rfl rfl rfl calm at' [] sa τ Ga (fun _ _ => False) Ia (clean Ia fra) sta halt) fun none' sb ⟨is, Ib⟩ => is ▸ done sb Ga Ib qd
  · refine thnF (T.item Y rfl rfl rfl calm at' [] sa τ Ga (fun _ _ => False) Ia (clean Ia fra) sta goes) fun got sb ⟨item, is, nxt⟩ => ?_
    subst is
    refine thnF nxt fun _ sc ⟨x, Gc, Ic, rx, yl, stc, frc⟩ => ?_
    have watch := Ic.pinned (clean Ic frc) (T.obj _ _ stc)
    have r1 := pg.run _ sc τ Gc x item _ watch rx (each x Gc yl)
    rw [noX] at r1
    refine thnF r1 fun _ sd ⟨ρ, Gd, Id, wiped, qd⟩ => ?_
    have r2 := pt.run _ sd ρ Gd _ Id qd
    rw [noX] at r2
    refine thnF r2 fun c se ⟨Ge, Ie, qe⟩ => ?_
    -- whatever the rest of the turn does: the iterator's objects are as they were
    have turned : ∀ {sz : Shared} {Gz : Hp}, Inv Y ([] ++ pinsAt fp sc.heap) ρ Gz sz → Nx Gz → ∃ left', left' < left ∧ ∃ at' G', Inv Y [] τ G' sz ∧ tn at' sz.heap ∧ (∀ b ∈ fp, G' b = none) ∧ W at' left' G' := by
      intro sz Gz Iz nz
      have held : ∀ b ∈ fp, ∀ o, sc.heap.get? b = some o → sz.heap.get? b = some o ∧ Gz b = none := by
        intro b hb o eo
        obtain ⟨h1, h2, _⟩ := Iz.pin (b, o) (List.mem_append_right _ (List.mem_append_right _ (mem_pinsAt hb eo)))
        exact ⟨h1, h2⟩
      obtain ⟨left', lt, wz⟩ := less Gz nz
      have len : τ.length = ρ.length := by rw [← wiped, wipe_length]
      have sub : ∀ (j : Nat) v, τ[j]? = some (some v) → ρ[j]? = some (some v) := fun j v e => (wipe_some (wiped.symm ▸ e)).1
      refine ⟨left', lt, at' + 1, Gz, (Iz.unpinned (pins := [])).weak len sub, T.keep _ _ _ stc fun b hb o eo => (held b hb o eo).1, fun b hb => ?_, wz⟩
      obtain ⟨o, eo, _⟩ := T.obj _ _ stc b hb
      exact (held b hb o eo).2
    cases c
    · exact turned Ie qe
    · have qe : tk ρ Ge fun y G4 => tv ρ G4 fun z G5 => ∃ kvs k b, y = .ref b ∧ G5 D = some (.dT kvs) ∧ G5 b = some (.tup (k.map kV)) ∧ kvs.length < sizeLine ∧ Nx (upd G5 D (.dT (putK kvs k z))) := qe
      have r3 := pk.run _ se ρ Ge _ Ie qe
      rw [noX] at r3
      refine thnF r3 fun kk sf ⟨y, Gf, If, ry, qf⟩ => ?_
      have r4 := pv.run _ sf ρ Gf _ If qf
      rw [noX] at r4
      refine thnF r4 fun vv sg ⟨z, Gg, Ig, rz, kvs, k, b, ey, atD, atb, few, nx⟩ => ?_
      subst ey
      cases (show kk = Value.ref b from ry)
      exact dT_set room Ig atD atb few rz fun sh Ih => turned Ih nx
theorem pe_dt {X : Cx} {kx vx tg iter : Expr} {ifs : List Expr} {scope : Scope} {own : List (Str × Nat)} {pos : Pos} {wi : TI} {g : TG} {tt : TT} {tk tv : TE} (hu : X.A.units < cLine) (hc : X.calm = true) (hN : X.N.Nodup) (hi : PI X tg iter wi) (ok : BlkOk X.N X.env.scope scope own)
    (hg : ∀ s H C cl fp, PG (X.blk s H scope (compEnvC scope cl C X.env) fp) tg g) (ht : ∀ s H C cl fp, PTs (X.blk s H scope (compEnvC scope cl C X.env) fp) ifs tt)
    (hk : ∀ s H C cl fp, PE (X.blk s H scope (compEnvC scope cl C X.env) fp) kx tk) (he : ∀ s H C cl fp, PE (X.blk s H scope (compEnvC scope cl C X.env) fp) vx tv)
    (hs : ∀ x, foldedSetIterable iter X.env x = pure x := by intro _; rfl) : PE X (.DictComp kx vx [⟨tg, iter, ifs, 0⟩] scope pos) (tDt wi g tt tk tv (own.map (·.2))) := by
  constructor
  intro pins s σ H Q I h
  rw [arm_eval_DictComp]
  refine wpAny_comprehension_free (use := none) rfl hs (closure_ok fun y hy e => (ok.free y hy e).elim (fun z => I.ok.has _ (.inl z)) fun z => I.ok.has _ (.inr z)) ok.kind (fun y hy e => by rw [ok.uniq y hy, e])
    (thn (hi.run pins s σ H _ I h) fun _ s1 made => thn made fun _ s2 res => ?_)
  obtain ⟨it, fp, tn, J, G, rfl, I2, T, st, foot, goal⟩ := res
  -- the new dict stands behind all that there is
  have dict := I2.laid (a := s2.heap.objs.size) (o := .dT []) (t' := s2.toks) (fun _ _ q => Heap.get?_push_of_some _ q) (Nat.le_refl _) (L2.dt_empty s2.heap I2.big)
  obtain ⟨W, ⟨m, w0⟩, turn⟩ := goal s2.heap.objs.size I2.fresh
  refine wpAny_newObj_type (newEnv_comp ?_)
  have old : ∀ b ∈ fp, b < s2.heap.objs.size := fun b hb => (T.obj _ _ st b hb).elim fun _ e => Heap.lt_size e.1
  generalize hGd : upd G s2.heap.objs.size (.dT []) = Gd at dict w0
  have foot' : ∀ b ∈ fp, FpOk X pins Gd b ∧ b < (s2.heap.push { cls := .type "dict", data := .dict #[] }).objs.size := fun b hb => by
    rw [← hGd, Heap.size_push]
    exact ⟨⟨by rw [upd_ne (Nat.ne_of_lt (old b hb))]; exact (foot b hb).1, (foot b hb).2⟩, Nat.lt_succ_of_lt (old b hb)⟩
  generalize hsd : ({ s2 with heap := s2.heap.push { cls := .type "dict", data := .dict #[] } } : Shared) = sd at dict
  have hpd : s2.heap.push { cls := .type "dict", data := .dict #[] } = sd.heap := congrArg Shared.heap hsd
  rw [hpd] at foot'
  have within := block_start dict ok hN foot'
  generalize hcl : cellsFrom (sd.heap.objs.size + 1) scope.names (cloFrom X.env.cells scope.names []) = cl at within ⊢
  have st' : tn 0 (pushCells (sd.heap.push { cls := .type "dict", data := .dict #[] }) scope.names) := T.keep _ _ _ st fun b _ o e => by
    refine pushCells_keeps _ _ _ _ (Heap.get?_push_of_some _ ?_)
    rw [← hpd]
    exact Heap.get?_push_of_some _ e
  have loop := dt_loop (Y := X.blk sd Gd scope (compEnvC scope cl sd.heap.objs.size X.env) fp) (iter := iter) (scope := scope) (pos := pos) (R := compPost (model X.prog X.w) X.A X.xe none (EP X pins σ Q) (.ref s2.heap.objs.size) sd.heap.objs.size) rfl hc hu T
    (fun {ρ G' s'} J' free b hb => ⟨free b hb, (J'.ok.exf b hb).1, J'.ok.exfs b hb, Or.inl hb, (J'.ok.exf b hb).2, (by intro p hp; cases hp)⟩)
    (hg sd Gd sd.heap.objs.size cl fp) (ht sd Gd sd.heap.objs.size cl fp) (hk sd Gd sd.heap.objs.size cl fp) (he sd Gd sd.heap.objs.size cl fp) turn
    (fun s' G' J' qd => by
      -- the block has ended: the def's own context again
      obtain ⟨mp, ns, _⟩ := J'.loc
      have here : Inv X pins σ G' s' := dict.call' (ch := fp) J'.os J'.base J'.hok J'.bare fun b hb => by
        obtain ⟨⟨_, z1, z2, z3, z4, z5⟩, _⟩ := foot' b hb
        exact ⟨z3, z1, z4, z5⟩
      obtain ⟨z0, z1, z2, z3, z4, z5⟩ := dict.fpOk (Nat.le_refl sd.heap.objs.size) (show G' sd.heap.objs.size = none from J'.free)
      exact ⟨mp, ns, fun hp' but => ⟨.ref s2.heap.objs.size, G', here.turned (t' := s'.toks) (fun b o n e => (but.2 b n).trans e) z0 z1 z3 z4 z5, rfl, qd⟩⟩)
    within st' (fun b hb => (foot' b hb).1.1) w0
  exact codeAny_compStart_dict loop (T.self X.A 0 _ _ _ st' loop)
end K73

set_option Elab.async false
set_option linter.all false
set_option maxRecDepth 100000
set_option maxHeartbeats 4000000
namespace K73
open PySem PySem.Spec PyProof.Rows L2
local macro_rules | `(tactic| walk_at "rd") => `(tactic| repeat (first | with_reducible refine r_seq ?_ | with_reducible refine r_asg ?_ | with_reducible refine r_ret ?_ | with_reducible refine r_op ?_ | with_reducible refine r_var (by with_unfolding_all rfl) ?_ | with_reducible refine r_c ?_ | with_reducible refine r_cons ?_ | with_reducible refine r_nil ?_ | with_reducible refine r_gname ?_ | with_reducible refine r_ifS ?_ | with_reducible refine r_test ?_ | with_reducible refine r_bl ?_ | with_reducible refine r_I0 ?_ | with_reducible refine r_cb ?_ | with_reducible refine r_cl ?_ | with_reducible refine r_tup ?_ | with_reducible refine r_lst ?_ | with_reducible refine r_gsub ?_ | with_reducible refine r_gcons ?_ | with_reducible refine r_gnil ?_ | with_reducible refine r_drop ?_ | with_reducible refine r_next ?_ | with_reducible refine r_par ?_ | with_reducible refine r_par2 ?_ | with_reducible refine r_and ?_ | with_reducible refine r_or ?_ | with_reducible refine r_not ?_ | with_reducible refine r_yes ?_ | with_reducible refine r_andV ?_ | with_reducible refine r_orV ?_ | with_reducible refine r_notV ?_ | with_reducible refine r_if ?_ | with_reducible refine r_chain ?_ | with_reducible refine r_U ?_ | with_reducible refine r_un ?_ | with_reducible refine r_eq (by with_unfolding_all rfl) ?_ | with_reducible refine r_ne (by with_unfolding_all rfl) ?_ | with_reducible refine r_int ?_ | with_reducible refine r_sl ?_ | with_reducible refine r_nopart ?_ | with_reducible refine r_part ?_ | with_reducible refine r_exI ?_ | with_reducible refine r_dget ?_ | with_reducible refine r_din ?_ | with_reducible refine r_dnotin ?_ | with_reducible refine r_dput ?_ | with_reducible refine r_isN ?_ | with_reducible refine r_notN ?_ | with_reducible refine r_bm ?_ | with_reducible refine r_bm0 ?_ | with_reducible refine r_retN ?_ | with_reducible refine r_lc ?_ | with_reducible refine r_for ?_ | with_reducible refine r_iStr ?_ | with_reducible refine r_exS ?_ | with_reducible refine r_iList ?_ | with_reducible refine r_iTup ?_ | with_reducible refine r_iRng ?_ | with_reducible refine r_m1 ?_ | with_reducible refine r_strM ?_ | with_reducible refine r_tB ?_ | with_reducible refine r_dc ?_ | with_reducible refine r_iZipS ?_ | with_reducible refine r_lc2 ?_ | with_reducible refine r_iZip ?_ | with_reducible refine r_tCmp ?_ | with_reducible refine r_newT ?_ | with_reducible refine r_newK ?_ | with_reducible refine r_sfld ?_ | with_reducible refine r_fld ?_ | with_reducible refine r_make ?_ | with_reducible refine r_pr ?_ | with_reducible refine r_dt ?_))
local macro_rules | `(tactic| walk_at "nw") => `(tactic| (intro q nq; generalize hH : upd _ q _ = H1; have s1 := same_upd_eq nq hH; have hq := upd_eq hH; clear hH))
section
variable {P : Program} {w : World} {K : PySem.W.Frag} {mg : Str → Option Value} {base : Heap}
theorem r_signs {H : Hp} {Q : VK} {p : Addr} {B : Box} (hR : RuleAt K H p B) (q : Q (.str (tx B.sg)) H) : ∃ (a dx : Addr) (fs : List (Str × V)), V.ref p = .ref a ∧ H a = some (.ins (He.ga K "Rule") dx fs) ∧ spSigns K [.ref a] H Q E0 := by
  obtain ⟨dx, fs, _, h, _⟩ := id hR
  exact ⟨p, dx, fs, rfl, h, p, B, rfl, hR, q⟩
theorem r_moods {H : Hp} {Q : VK} {p : Addr} {B : Box} (hR : RuleAt K H p B) (q : ∀ tm, H tm = some (.tup (B.tg.map V.str)) → Q (.ref tm) H) : ∃ (a dx : Addr) (fs : List (Str × V)), V.ref p = .ref a ∧ H a = some (.ins (He.ga K "Rule") dx fs) ∧ spMoods K [.ref a] H Q E0 := by
  obtain ⟨dx, fs, _, h, _⟩ := id hR
  exact ⟨p, dx, fs, rfl, h, p, B, rfl, hR, q⟩
theorem r_good {H : Hp} {Q : VK} {p : Addr} {B : Box} (hR : RuleAt K H p B) (q : ∀ tm, H tm = some (.tup (B.fn.map V.str)) → Q (.ref tm) H) : ∃ (a dx : Addr) (fs : List (Str × V)), V.ref p = .ref a ∧ H a = some (.ins (He.ga K "Rule") dx fs) ∧ spGood K [.ref a] H Q E0 := by
  obtain ⟨dx, fs, _, h, _⟩ := id hR
  exact ⟨p, dx, fs, rfl, h, p, B, rfl, hR, q⟩
/-! ### the moods that come -/
structure Reach (B : Box) (l : List Str) : Prop where
  nd : l.Nodup
  sub : ∀ t ∈ l, t ∈ B.tg
  fst : B.first ∈ l
  cl : ∀ t ∈ l, ∀ c ∈ B.sg, B.gl t c ∈ l
theorem Box.Ok.first_in {B : Box} (ok : B.Ok) : B.first ∈ B.tg := by
  have h := ok.t1
  unfold Box.first
  cases e : B.tg with
  | nil => rw [e] at h; simp at h
  | cons t r => simp
theorem Box.Ok.head {B : Box} (ok : B.Ok) : (B.tg.map V.str)[0]? = some (.str B.first) := by
  have h := ok.t1
  unfold Box.first
  cases e : B.tg with
  | nil => rw [e] at h; simp at h
  | cons t r => rfl
theorem nodup_len {α : Type} [DecidableEq α] : ∀ {l m : List α}, l.Nodup → (∀ t ∈ l, t ∈ m) → l.length ≤ m.length
  | [], _, _, _ => Nat.zero_le _
  | t :: l, m, h, s => by
    obtain ⟨h1, h2⟩ := List.nodup_cons.mp h
    have ht := s t (List.mem_cons_self ..)
    have ih := nodup_len (l := l) (m := m.erase t) h2 fun u hu => (List.mem_erase_of_ne (fun e => h1 (by rw [← e]; exact hu))).mpr (s u (List.mem_cons_of_mem _ hu))
    rw [List.length_erase_of_mem ht] at ih
    have := List.length_pos_of_mem ht
    rw [List.length_cons]
    omega
theorem filter_all {α : Type} (l : List α) : l.filter (fun _ => true) = l := List.filter_eq_self.mpr fun _ _ => rfl
theorem nil_or_snoc {α : Type} (l : List α) : l = [] ∨ ∃ m x, l = m ++ [x] := by
  rcases List.eq_nil_or_concat l with h | ⟨a, b, h⟩
  · exact .inl h
  · exact .inr ⟨a, b, by rw [h, List.concat_eq_append]⟩
def spComing (K : PySem.W.Frag) : Sp := fun vs H Q _ => ∃ (p : Addr) (B : Box), vs = [.ref p] ∧ RuleAt K H p B ∧ B.Ok ∧ ∀ H' q l, Same H H' → H' q = some (.dK (keysT l)) → Reach B l → Q (.ref q) H'
abbrev nComing : List Str := ["rule", "found", "waiting", "mood", "sign"]
theorem sc_coming : FnScope nComing ["rule"] (defScope s_coming) := ⟨rfl, rfl, rfl, by decide +kernel, rfl, by decide +kernel, by decide +kernel⟩
theorem ok_coming (T : Txt K mg) : Fn P w K mg base 5 "coming" ["rule"] (spComing K) := by
  have G : Fn P w K mg base 4 "goal_of" ["rule", "mood", "sign"] (spGoalOf K) := (ok_goal_of T).mono (by decide)
  have GM : Gt P w K mg base "moods" (spMoods K) := ok_moods T
  have GS : Gt P w K mg base "signs" (spSigns K) := ok_signs T
  refine T.d_coming.fn sc_coming (fun _ _ _ _ _ _ us hl => match us, hl with | [_], _ => rfl) (fun vs H Q E h => ?_) (fun cdv A outer s H vs Q E hr h => ?_)
  · obtain ⟨p, B, rfl, _⟩ := h
    rfl
  · obtain ⟨p, B, rfl, hR, ok, k⟩ := h
    have hr2 : Room (2 + 2) _ := hr
    refine ⟨_, pss_cons (ps_par (i := 1) (j := 2) rfl sc_coming.nd rfl rfl (by decide) rfl rfl (pa_cons pe_dnewK (pa_cons (pe_lst (pa_cons (pe_ix ix_tup (pprop GM hr2 (pv 0)) pe_int (fun _ _ => rfl)) pa_nil)) pa_nil)) (by rfl))
      (pss_cons (ps_while PassesOwn.never (pt_cmpR (op_neD hr.units) (pv 2) (pe_lst pa_nil) (nomark _))
        (pss_cons (ps_set (i := 3) sc_coming.nd rfl (.inr rfl) (pe_bm0 PySem.F.plainAttrs_list PySem.F.slot_list_pop PySem.F.type_list_pop mt_pop (pv 2)))
        (pss_one (ps_if (pt_cmp (pc_dnotin (hu_of hr) (pv 3) (pv 1)))
          (pss_cons (ps_dput (hu_of hr) (pv 1) (pv 3) pe_bl rfl)
          (pss_one (ps_expr (pe_bm PySem.F.plainAttrs_list PySem.F.slot_list_extend PySem.F.type_list_extend mt_extend (pv 2) (pa_cons (pe_lc (own := [("sign", 4)]) (g := gName 4) (tt := tYes) (te := tCl (spGoalOf K) (tCons (tVar 0) (tCons (tVar 3) (tCons (tVar 4) tNil)))) rfl sc_coming.nd (pi_str (pprop GS hr2 (pv 0))) (blkOk_by (N := nComing) (sc := defScope s_coming) (by decide +kernel))
            (fun _ _ _ _ _ => pg_name (i := 4) sc_coming.nd rfl (Or.inl rfl)) (fun _ _ _ _ _ => pts_nil)
            (fun _ _ _ _ _ => pcall G hr (pa_cons (pv 0) (pa_cons (pv 3) (pa_cons (pv 4) pa_nil))))) pa_nil))))) pss_nil))))
      (pss_one (ps_ret (pv 1)))), ?_⟩
    walk_at "rd"
    walk_at "nw"
    rename_i fo nfo H1 e1 hfo
    walk_at "rd"
    have hR1 := hR.same e1
    refine r_moods hR1 (fun tm htm => ?_)
    walk_at "rd"
    refine r_ixT (v := .str B.first) (SqT.of htm) (atI_nat (j := 0) ok.head) ?_
    walk_at "rd"
    refine ⟨by show 1 ≤ sizeLine; decide, ?_⟩
    walk_at "nw"
    rename_i wa nwa H2 e2 hwa
    walk_at "rd"
    refine ⟨fun m σ H' => ∃ v3 v4 l wl, m = 4 * (B.tg.length - l.length) + wl.length ∧ σ = [some (.ref p), some (.ref fo), some (.ref wa), v3, v4] ∧ Same H H' ∧ H' fo = some (.dK (keysT l)) ∧ H' wa = some (.lst (wl.map V.str)) ∧
      l.Nodup ∧ (∀ t ∈ l, t ∈ B.tg) ∧ (∀ t ∈ wl, t ∈ B.tg) ∧ (B.first ∈ l ∨ B.first ∈ wl) ∧ (∀ t ∈ l, ∀ c ∈ B.sg, B.gl t c ∈ l ∨ B.gl t c ∈ wl) ∧ wl.length ≤ 1 + 3 * l.length, ⟨4 * (B.tg.length - 0) + 1, none, none, [], [B.first], rfl, rfl, e1.trans e2, e2 _ _ hfo, hwa, List.nodup_nil, (by intro t ht; cases ht), (fun t ht => ?_), Or.inr (List.mem_singleton.mpr rfl), (by intro t ht; cases ht), Nat.le_refl _⟩, ?_⟩
    · rw [List.mem_singleton.mp ht]
      exact ok.first_in
    rintro m σ H3 ⟨v3, v4, l, wl, rfl, rfl, e3, hf, hw, nd, sub, wsub, fst, cl, len⟩
    have nwaH : H wa = none := e1.free nwa
    walk_at "rd"
    refine ⟨by show 0 ≤ sizeLine; decide, ?_⟩
    walk_at "nw"
    rename_i q nq H4 e4 hq
    refine ⟨_, _, .lst (SqL.of (e4 _ _ hw)) (dp_strs wl), .lst (SqL.of hq) .nil, shaped_list (fun x hx => sok_wd (ok.wd x (wsub x hx))), by decide +kernel, ?_⟩
    rw [eqv_list, eqvAll_nil]
    have l5 := nodup_len nd sub
    have t5 := ok.t5
    rcases nil_or_snoc wl with rfl | ⟨w', t, rfl⟩
    · walk_at "rd"
      refine iteF ?_
      walk_at "rd"
      exact k _ _ l (e3.trans e4) (e4 _ _ hf) ⟨nd, sub, fst.resolve_right (fun z => nomatch z), fun t ht c hc => (cl t ht c hc).resolve_right (fun z => nomatch z)⟩
    · have ne : ((w' ++ [t]).map PyData.str).isEmpty = false := by rw [List.map_append]; cases w' <;> rfl
      rw [ne]
      walk_at "rd"
      refine iteT ?_
      refine ⟨_, fun σ' H' h => h, ?_⟩
      have hw4 := e4 _ _ hw
      have nfw : fo ≠ wa := ne_of (e4 _ _ hf) hw4 (by intro z; cases z)
      walk_at "rd"
      refine ⟨.inl ⟨rfl, _, SqL.of hw4⟩, wa, _, .str t, rfl, rfl, hw4, ?_, ?_⟩
      · rw [List.map_append, List.length_append]
        simp
      have hdl : ((w' ++ [t]).map V.str).dropLast = w'.map V.str := by rw [List.map_append]; simp
      rw [hdl]
      generalize hH : upd H4 wa (.lst (w'.map V.str)) = H5
      have b5 : But wa H4 H5 := hH ▸ But.upd
      have hw5 : H5 wa = some (.lst (w'.map V.str)) := hH ▸ upd_same
      have s5 : Same H H5 := hH ▸ same_upd_new (e3.trans e4) nwaH
      clear hH
      have hf5 : H5 fo = some (.dK (keysT l)) := b5 _ _ nfw (e4 _ _ hf)
      have ht := wsub t (List.mem_append_right _ (List.mem_singleton.mpr rfl))
      have wsub' : ∀ x ∈ w', x ∈ B.tg := fun x hx => wsub x (List.mem_append_left _ hx)
      have lw : (w' ++ [t]).length = w'.length + 1 := by simp
      walk_at "rd"
      refine ⟨fo, _, rfl, DGet.k (k := .inr t) hf5, ?_⟩
      rw [val_keysT]
      by_cases hin : t ∈ l
      · rw [decide_eq_true hin]
        walk_at "rd"
        refine iteF ?_
        walk_at "rd"
        refine ⟨_, ?_, some (.str t), v4, l, w', rfl, rfl, s5, hf5, hw5, nd, sub, wsub', ?_, fun x hx c hc => ?_, by omega⟩
        · omega
        · rcases fst with h | h
          · exact .inl h
          · rcases List.mem_append.mp h with h | h
            · exact .inr h
            · rw [List.mem_singleton.mp h]
              exact .inl hin
        · rcases cl x hx c hc with h | h
          · exact .inl h
          · rcases List.mem_append.mp h with h | h
            · exact .inr h
            · rw [List.mem_singleton.mp h]
              exact .inl hin
      · rw [decide_eq_false hin]
        walk_at "rd"
        refine iteT ?_
        walk_at "rd"
        refine ⟨fo, _, rfl, DPut.k (k := .inr t) hf5 ?_, ?_⟩
        · unfold keysT
          rw [List.length_map]
          exact small1000 (by omega)
        rw [put_keysT hin]
        have nd' : (l ++ [t]).Nodup := by
          rw [List.nodup_append]
          exact ⟨nd, by simp, fun a ha b hb e => hin (by rw [← List.mem_singleton.mp hb, ← e]; exact ha)⟩
        have sub' : ∀ x ∈ l ++ [t], x ∈ B.tg := fun x hx => (List.mem_append.mp hx).elim (sub x) fun z => by rw [List.mem_singleton.mp z]; exact ht
        have l5' := nodup_len nd' sub'
        rw [List.length_append, List.length_singleton] at l5'
        generalize hH : upd H5 fo (.dK (keysT (l ++ [t]))) = H6
        have b6 : But fo H5 H6 := hH ▸ But.upd
        have hf6 : H6 fo = some (.dK (keysT (l ++ [t]))) := hH ▸ upd_same
        have s6 : Same H H6 := hH ▸ same_upd_new s5 nfo
        clear hH
        have hw6 := b6 _ _ nfw.symm hw5
        walk_at "rd"
        refine ⟨.inl ⟨rfl, _, SqL.of hw6⟩, ?_⟩
        walk_at "rd"
        refine r_signs (hR.same s6) ?_
        walk_at "rd"
        refine lc_S (z := B.sg) (fun _ => true) (fun c => .str (B.gl t c)) (Nat.lt_of_le_of_lt ok.s3 (by decide)) (fun y => rfl) (fun c H' hx s Q q => ?_) (fun c H' hx hf s Q q => ?_) (fun q3 H7 nq3 e7 h7 => ?_)
        · walk_at "rd"
          exact q _ (Same.refl _)
        · walk_at "rd"
          exact ⟨p, B, t, c, rfl, hR.same (s6.trans s), ht, hx, fun H5 s5 => q H5 s5⟩
        rw [filter_all] at h7
        walk_at "rd"
        have hw7 := e7 _ _ hw6
        refine ⟨wa, q3, _, _, rfl, rfl, hw7, h7, ?_, ?_⟩
        · rw [List.length_map, List.length_map]
          have := ok.s3
          exact Nat.le_trans (m := 1000) (by omega) (by decide)
        have ec : w'.map V.str ++ B.sg.map (fun c => V.str (B.gl t c)) = (w' ++ B.sg.map (B.gl t)).map V.str := by rw [List.map_append, List.map_map]; rfl
        rw [ec]
        have s3 := ok.s3
        have lw2 : (w' ++ B.sg.map (B.gl t)).length = w'.length + B.sg.length := by simp
        have ll : (l ++ [t]).length = l.length + 1 := by simp
        refine ⟨_, ?_, some (.str t), v4, l ++ [t], w' ++ B.sg.map (B.gl t), rfl, rfl, same_upd_new (s6.trans e7) nwaH, ?_, upd_same, nd', sub', fun x hx => ?_, ?_, fun x hx c hc => ?_, by omega⟩
        · omega
        · rw [upd_ne nfw]
          exact e7 _ _ hf6
        · rcases List.mem_append.mp hx with h | h
          · exact wsub' x h
          · obtain ⟨c, hc, rfl⟩ := List.mem_map.mp h
            exact ok.cl t ht c hc
        · rcases fst with h | h
          · exact .inl (List.mem_append_left _ h)
          · rcases List.mem_append.mp h with h | h
            · exact .inr (List.mem_append_left _ h)
            · exact .inl (List.mem_append_right _ h)
        · rcases List.mem_append.mp hx with hx | hx
          · rcases cl x hx c hc with h | h
            · exact .inl (List.mem_append_left _ h)
            · rcases List.mem_append.mp h with h | h
              · exact .inr (List.mem_append_left _ h)
              · exact .inl (List.mem_append_right _ h)
          · rw [List.mem_singleton.mp hx]
            exact .inr (List.mem_append_right _ (List.mem_map.mpr ⟨c, hc, rfl⟩))
end
end K73

set_option Elab.async false
set_option linter.all false
set_option maxRecDepth 100000
set_option maxHeartbeats 4000000
namespace K73
open PySem PySem.Spec PyProof.Rows L2
section
variable {σ : L2.St} {H1 : Hp} {tt : TT} {tk tv : TE} {g : TG} {vs : List Nat} {K : PySem.W.Frag} {J : It} {n : Nat} {j : Nat} {G : Hp → Prop} {Y : Nat → Hp → V → Hp → Prop}
/-- a dict comprehension over anything: Pv by the new dict, the turn and the heap -/
theorem dc_it (w : Walk J n G Y) {Qd : V → Hp → Prop} (Pv : Addr → Nat → Hp → Prop) (first : ∀ D, H1 D = none → Pv D 0 (upd H1 D (.dK []))) (known : ∀ D i Hi, H1 D = none → i ≤ n → Pv D i Hi → G Hi)
    (step : ∀ D, H1 D = none → ∀ i x Hi Hx, i < n → Pv D i Hi → Y i Hi x Hx → g x (wipe σ vs) Hx fun τ Ht => wipe τ vs = wipe σ vs ∧ tt τ Ht fun keep Hk =>
      if keep = true then tk τ Hk fun key Hy => tv τ Hy fun val Hv => ∃ old k, key = kV k ∧ Hv D = some (.dK old) ∧ old.length < sizeLine ∧ Pv D (i + 1) (upd Hv D (.dK (putK old k val))) else Pv D (i + 1) Hk)
    (last : ∀ D Hi, H1 D = none → Pv D n Hi → Qd (.ref D) Hi) : DcGoal J g tt tk tv vs σ H1 Qd := by
  intro D nD
  refine ⟨fun i left Hi => left = n - i ∧ i ≤ n ∧ Pv D i Hi, ⟨n, rfl, Nat.zero_le _, first D nD⟩, fun i left Hi => ?_⟩
  rintro ⟨rfl, hi, pv⟩
  have stands := known D i Hi nD hi pv
  rcases Nat.lt_or_eq_of_le hi with hlt | rfl
  · exact Or.inr ⟨w.goes i Hi hlt stands, Pv D (i + 1), fun _ pv' => ⟨n - (i + 1), by omega, rfl, hlt, pv'⟩, fun x Hx y => step D nD i x Hi Hx hlt pv (w.yields i Hi x Hx hlt stands y)⟩
  · exact Or.inl ⟨w.stops Hi stands, last D Hi nD pv⟩
/-- .. whose keys are tuples -/
theorem dt_it (w : Walk J n G Y) {Qd : V → Hp → Prop} (Pv : Addr → Nat → Hp → Prop) (first : ∀ D, H1 D = none → Pv D 0 (upd H1 D (.dT []))) (known : ∀ D i Hi, H1 D = none → i ≤ n → Pv D i Hi → G Hi)
    (step : ∀ D, H1 D = none → ∀ i x Hi Hx, i < n → Pv D i Hi → Y i Hi x Hx → g x (wipe σ vs) Hx fun τ Ht => wipe τ vs = wipe σ vs ∧ tt τ Ht fun keep Hk =>
      if keep = true then tk τ Hk fun key Hy => tv τ Hy fun val Hv => ∃ old k b, key = .ref b ∧ Hv D = some (.dT old) ∧ Hv b = some (.tup (k.map kV)) ∧ old.length < sizeLine ∧ Pv D (i + 1) (upd Hv D (.dT (putK old k val))) else Pv D (i + 1) Hk)
    (last : ∀ D Hi, H1 D = none → Pv D n Hi → Qd (.ref D) Hi) : DtGoal J g tt tk tv vs σ H1 Qd := by
  intro D nD
  refine ⟨fun i left Hi => left = n - i ∧ i ≤ n ∧ Pv D i Hi, ⟨n, rfl, Nat.zero_le _, first D nD⟩, fun i left Hi => ?_⟩
  rintro ⟨rfl, hi, pv⟩
  have stands := known D i Hi nD hi pv
  rcases Nat.lt_or_eq_of_le hi with hlt | rfl
  · exact Or.inr ⟨w.goes i Hi hlt stands, Pv D (i + 1), fun _ pv' => ⟨n - (i + 1), by omega, rfl, hlt, pv'⟩, fun x Hx y => step D nD i x Hi Hx hlt pv (w.yields i Hi x Hx hlt stands y)⟩
  · exact Or.inl ⟨w.stops Hi stands, last D Hi nD pv⟩
/-- {t: True for t in a list of unlike texts if ..} -/
theorem dc_filt {Qd : V → Hp → Prop} {a : Addr} {l : List Str} (f : Str → Bool) (hx : SqL K H1 a (l.map V.str)) (hl : l.Nodup) (hn : l.length ≤ 1000)
    (hj : ∀ y, ((wipe σ vs).set j (some y))[j]? = some (some y)) (hw : ∀ y : Option V, wipe ((wipe σ vs).set j y) vs = wipe σ vs)
    (ht : ∀ t H', t ∈ l → Same H1 H' → ∀ Q : Bool → Hp → Prop, (∀ H3, Same H' H3 → Q (f t) H3) → tt ((wipe σ vs).set j (some (.str t))) H' Q)
    (hd : ∀ p H', H1 p = none → Same H1 H' → H' p = some (.dK (keysT (l.filter f))) → Qd (.ref p) H') : DcGoal (Itl K a) (gName j) tt (tVar j) (tC (.bl true)) vs σ H1 Qd := by
  refine dc_it (walk_list (K := K) (a := a) (xs := l.map V.str)) (Qd := Qd) (fun D i H' => Same H1 H' ∧ H' D = some (.dK (keysT ((l.take i).filter f)))) (fun D nD => ⟨same_upd nD, upd_same⟩) (fun D i H' nD _ p => p.1.seq hx) (fun D nD i x H' H'' hi p y => ?_) (fun D H' nD p => ?_)
  · obtain ⟨rfl, hy⟩ := y
    rw [List.getElem?_map] at hy
    cases e : l[i]? with
    | none => rw [e] at hy; cases hy
    | some t =>
      rw [e] at hy
      have ex : V.str t = x := Option.some.inj hy
      subst ex
      refine ⟨hw _, ht t _ (List.mem_of_getElem? e) p.1 _ fun H3 s3 => ?_⟩
      cases hf : f t with
      | true =>
        refine iteT ?_
        refine r_var (hj _) (r_c ?_)
        refine ⟨keysT ((l.take i).filter f), .inr t, rfl, s3 _ _ p.2, ?_, same_upd_new (p.1.trans s3) nD, ?_⟩
        · unfold keysT
          rw [List.length_map]
          have h1 := List.length_filter_le f (l.take i)
          rw [List.length_take] at h1
          exact small1000 (by omega)
        · have hnot : t ∉ (l.take i).filter f := fun z => take_not hl e (List.mem_filter.mp z).1
          rw [put_keysT hnot, take_more e, List.filter_append, List.filter_cons, if_pos hf]
          exact upd_same
      | false =>
        refine iteF ⟨p.1.trans s3, ?_⟩
        rw [take_more e, List.filter_append, List.filter_cons, if_neg (by rw [hf]; decide)]
        show H3 D = some (.dK (keysT ((l.take i).filter f ++ [])))
        rw [List.append_nil]
        exact s3 _ _ p.2
  · rw [List.length_map, List.take_length] at p
    exact hd D H' nD p.1 p.2
end
theorem put_keysT_old {l : List Str} {x : Str} (h : x ∈ l) : putK (keysT l) (Sum.inr x) (.bl true) = keysT l := by
  unfold putK
  have e : ((keysT l).any fun kv => decide (kv.1 = Sum.inr x)) = true := by
    rw [List.any_eq_true]
    exact ⟨(Sum.inr x, .bl true), List.mem_map.mpr ⟨x, h, rfl⟩, decide_eq_true rfl⟩
  rw [e, if_pos rfl]
  unfold keysT
  rw [List.map_map]
  refine List.map_congr_left fun t _ => ?_
  show (if (Sum.inr t : Key) = Sum.inr x then _ else _) = _
  split <;> rfl
/-! ### keys that are pairs of texts -/
def pk (p : Str × Str) : List Key := [.inr p.1, .inr p.2]
theorem pk_inj {p q : Str × Str} (h : pk p = pk q) : p = q := by
  unfold pk at h
  simp only [List.cons.injEq, Sum.inr.injEq, and_true] at h
  exact Prod.ext h.1 h.2
def HasP (kvs : List (List Key × V)) (ps : List (Str × Str)) : Prop := ∀ p, (valV kvs (pk p)).isSome = decide (p ∈ ps)
theorem HasP.nil : HasP [] [] := fun p => by simp [valV]
theorem HasP.put {kvs : List (List Key × V)} {ps : List (Str × Str)} (h : HasP kvs ps) (p : Str × Str) (v : V) : HasP (putK kvs (pk p) v) (ps ++ [p]) := fun q => by
  rw [valV_put]
  by_cases e : pk q = pk p
  · have := pk_inj e
    subst this
    rw [if_pos rfl]
    simp
  · rw [if_neg e, h q]
    have n : q ≠ p := fun z => e (by rw [z])
    simp [n]
theorem dt_pairs {K : PySem.W.Frag} {σ : L2.St} {H1 : Hp} {vs : List Nat} {j : Nat} {Qd : V → Hp → Prop} {a : Addr} {ys : List V} {ps : List (Str × Str)} (hx : SqT K H1 a ys) (hP : PairsAt H1 ys ps) (hn : ys.length ≤ 1000)
    (hj : ∀ y, ((wipe σ vs).set j (some y))[j]? = some (some y)) (hw : ∀ y : Option V, wipe ((wipe σ vs).set j y) vs = wipe σ vs)
    (hd : ∀ p H' kvs, H1 p = none → Same H1 H' → H' p = some (.dT kvs) → HasP kvs ps → Qd (.ref p) H') : DtGoal (Itt K a) (gName j) tYes (tVar j) (tC (.bl true)) vs σ H1 Qd := by
  have hl := Paired.length hP
  refine dt_it (walk_tup (K := K) (a := a) (xs := ys)) (Qd := Qd) (fun D i H' => Same H1 H' ∧ ∃ kvs, H' D = some (.dT kvs) ∧ kvs.length ≤ i ∧ HasP kvs (ps.take i)) (fun D nD => ⟨same_upd nD, [], upd_same, Nat.le_refl _, HasP.nil⟩) (fun D i H' nD _ p => Same.sqt p.1 hx) (fun D nD i x H' H'' hi p y => ?_) (fun D H' nD p => ?_)
  · obtain ⟨rfl, hy⟩ := y
    obtain ⟨s, kvs, hD, hk, hh⟩ := p
    have hi2 : i < ps.length := by omega
    have hp : ps[i]? = some ps[i] := List.getElem?_eq_getElem hi2
    obtain ⟨x', hx', b, rfl, hb⟩ := paired_get hP hp
    have ex := Option.some.inj (hy.symm.trans hx')
    subst ex
    refine ⟨hw _, r_yes (iteT ?_)⟩
    refine r_var (hj _) (r_c ?_)
    refine ⟨kvs, pk ps[i], b, rfl, hD, s _ _ hb, small1000 (by omega), same_upd_new s nD, _, upd_same, ?_, ?_⟩
    · have := length_putK kvs (pk ps[i]) (V.bl true)
      omega
    · rw [take_more hp]
      exact hh.put _ _
  · obtain ⟨s, kvs, hD, hk, hh⟩ := p
    rw [hl, List.take_length] at hh
    exact hd D H' kvs nD s hD hh
end K73

set_option Elab.async false
set_option linter.all false
set_option maxRecDepth 100000
set_option maxHeartbeats 4000000
namespace K73
open PySem PySem.Spec PyProof.Rows L2
local macro_rules | `(tactic| walk_at "rd") => `(tactic| repeat (first | with_reducible refine r_seq ?_ | with_reducible refine r_asg ?_ | with_reducible refine r_ret ?_ | with_reducible refine r_op ?_ | with_reducible refine r_var (by with_unfolding_all rfl) ?_ | with_reducible refine r_c ?_ | with_reducible refine r_cons ?_ | with_reducible refine r_nil ?_ | with_reducible refine r_gname ?_ | with_reducible refine r_ifS ?_ | with_reducible refine r_test ?_ | with_reducible refine r_bl ?_ | with_reducible refine r_I0 ?_ | with_reducible refine r_cb ?_ | with_reducible refine r_cl ?_ | with_reducible refine r_tup ?_ | with_reducible refine r_lst ?_ | with_reducible refine r_gsub ?_ | with_reducible refine r_gcons ?_ | with_reducible refine r_gnil ?_ | with_reducible refine r_drop ?_ | with_reducible refine r_next ?_ | with_reducible refine r_par ?_ | with_reducible refine r_par2 ?_ | with_reducible refine r_and ?_ | with_reducible refine r_or ?_ | with_reducible refine r_not ?_ | with_reducible refine r_yes ?_ | with_reducible refine r_andV ?_ | with_reducible refine r_orV ?_ | with_reducible refine r_notV ?_ | with_reducible refine r_if ?_ | with_reducible refine r_chain ?_ | with_reducible refine r_U ?_ | with_reducible refine r_un ?_ | with_reducible refine r_eq (by with_unfolding_all rfl) ?_ | with_reducible refine r_ne (by with_unfolding_all rfl) ?_ | with_reducible refine r_int ?_ | with_reducible refine r_sl ?_ | with_reducible refine r_nopart ?_ | with_reducible refine r_part ?_ | with_reducible refine r_exI ?_ | with_reducible refine r_dget ?_ | with_reducible refine r_din ?_ | with_reducible refine r_dnotin ?_ | with_reducible refine r_dput ?_ | with_reducible refine r_isN ?_ | with_reducible refine r_notN ?_ | with_reducible refine r_bm ?_ | with_reducible refine r_bm0 ?_ | with_reducible refine r_retN ?_ | with_reducible refine r_lc ?_ | with_reducible refine r_for ?_ | with_reducible refine r_iStr ?_ | with_reducible refine r_exS ?_ | with_reducible refine r_iList ?_ | with_reducible refine r_iTup ?_ | with_reducible refine r_iRng ?_ | with_reducible refine r_m1 ?_ | with_reducible refine r_strM ?_ | with_reducible refine r_tB ?_ | with_reducible refine r_dc ?_ | with_reducible refine r_iZipS ?_ | with_reducible refine r_lc2 ?_ | with_reducible refine r_iZip ?_ | with_reducible refine r_tCmp ?_ | with_reducible refine r_newT ?_ | with_reducible refine r_newK ?_ | with_reducible refine r_sfld ?_ | with_reducible refine r_fld ?_ | with_reducible refine r_make ?_ | with_reducible refine r_pr ?_ | with_reducible refine r_dt ?_))
local macro_rules | `(tactic| walk_at "nw") => `(tactic| (intro q nq; generalize hH : upd _ q _ = H1; have s1 := same_upd_eq nq hH; have hq := upd_eq hH; clear hH))
/-- the live moods among those that come -/
structure Live (B : Box) (S m : List Str) : Prop where
  nd : m.Nodup
  sub : ∀ t ∈ m, t ∈ S
  fine : ∀ t ∈ S, t ∈ B.fn → t ∈ m
  back : ∀ t ∈ S, ∀ c ∈ B.sg, B.gl t c ∈ m → t ∈ m
section
variable {P : Program} {w : World} {K : PySem.W.Frag} {mg : Str → Option Value} {base : Heap}
def spLive (K : PySem.W.Frag) : Sp := fun vs H Q _ => ∃ (p : Addr) (B : Box), vs = [.ref p] ∧ RuleAt K H p B ∧ B.Ok ∧ ∀ H' q S m, Same H H' → H' q = some (.dK (keysT m)) → Reach B S → Live B S m → Q (.ref q) H'
abbrev nLive : List Str := ["rule", "moods", "found", "size", "mood", "sign"]
theorem sc_coming_live : FnScope nLive ["rule"] (defScope s_coming_live) := ⟨rfl, rfl, rfl, by decide +kernel, rfl, by decide +kernel, by decide +kernel⟩
theorem ok_coming_live (T : Txt K mg) : Fn P w K mg base 6 "coming_live" ["rule"] (spLive K) := by
  have G : Fn P w K mg base 5 "goal_of" ["rule", "mood", "sign"] (spGoalOf K) := (ok_goal_of T).mono (by decide)
  have GC : Fn P w K mg base 5 "coming" ["rule"] (spComing K) := ok_coming T
  have GF : Gt P w K mg base "good" (spGood K) := ok_good T
  have GS : Gt P w K mg base "signs" (spSigns K) := ok_signs T
  refine T.d_coming_live.fn sc_coming_live (fun _ _ _ _ _ _ us hl => match us, hl with | [_], _ => rfl) (fun vs H Q E h => ?_) (fun cdv A outer s H vs Q E hr h => ?_)
  · obtain ⟨p, B, rfl, _⟩ := h
    rfl
  · obtain ⟨p, B, rfl, hR, ok, k⟩ := h
    have hr2 : Room (3 + 2) _ := hr
    refine ⟨_, pss_cons (ps_set (i := 1) sc_coming_live.nd rfl (.inl rfl) (pe_callTy (call_list_dK rfl) (by rfl) T.f_list (by decide +kernel) (pa_cons (pcall GC hr (pa_cons (pv 0) pa_nil)) pa_nil)))
      (pss_cons (ps_set (i := 2) sc_coming_live.nd rfl (.inr rfl) (pe_dc (own := [("mood", 4)]) (g := gName 4) (tt := tTest (tOp (rIn K false) (tVar 4) (tPr K (spGood K) (tVar 0)))) rfl sc_coming_live.nd (pi_list (pv 1)) (blkOk_by (N := nLive) (sc := defScope s_coming_live) (by decide +kernel))
          (fun _ _ _ _ _ => pg_name (i := 4) sc_coming_live.nd rfl (Or.inl rfl)) (fun _ _ _ _ _ => pts_one (pt_cmpR op_in_seq (pv 4) (pprop GF hr2 (pv 0)) (by rfl))) (fun _ _ _ _ _ => pv 4) (fun _ _ _ _ _ => pe_bl)))
      (pss_cons (ps_set (i := 3) sc_coming_live.nd rfl (.inl rfl) (pe_un un_neg pe_int))
      (pss_cons (ps_while PassesOwn.never (pt_cmpR op_ne (pv 3) (pe_callB call_lenD (by rfl) T.f_len PySem.boot_len (pa_cons (pv 2) pa_nil)) (nomark _))
        (pss_cons (ps_set (i := 3) sc_coming_live.nd rfl (.inl rfl) (pe_callB call_lenD (by rfl) T.f_len PySem.boot_len (pa_cons (pv 2) pa_nil)))
        (pss_one (ps_for PassesOwn.never rfl (pi_list (pv 1)) (pg_name (i := 4) sc_coming_live.nd rfl (.inr rfl))
          (pss_one (ps_if (pt_val (pe_callB (cr_any rfl) (by rfl) T.f_any (by decide +kernel) (pa_cons (pe_lc (own := [("sign", 5)]) (g := gName 5) (tt := tYes) (te := tDIn (tCl (spGoalOf K) (tCons (tVar 0) (tCons (tVar 4) (tCons (tVar 5) tNil)))) (tVar 2)) rfl sc_coming_live.nd (pi_str (pprop GS hr2 (pv 0))) (blkOk_by (N := nLive) (sc := defScope s_coming_live) (by decide +kernel))
            (fun _ _ _ _ _ => pg_name (i := 5) sc_coming_live.nd rfl (Or.inl rfl)) (fun _ _ _ _ _ => pts_nil)
            (fun _ _ _ _ _ => pe_cmp (pc_din (hu_of hr) (pcall G hr (pa_cons (pv 0) (pa_cons (pv 4) (pa_cons (pv 5) pa_nil)))) (pv 2)) (by rfl))) pa_nil)))
            (pss_one (ps_dput (hu_of hr) (pv 2) (pv 4) pe_bl rfl)) pss_nil))))))
      (pss_one (ps_ret (pv 2)))))), ?_⟩
    walk_at "rd"
    refine ⟨p, B, rfl, hR, ok, fun H1 q0 l e1 hq0 rl => ?_⟩
    walk_at "rd"
    refine ⟨q0, _, rfl, hq0, ?_⟩
    have ek : (keysT l).map (fun kv => kV kv.1) = l.map V.str := by unfold keysT; rw [List.map_map]; rfl
    rw [ek]
    walk_at "nw"
    rename_i ml nml H2 e2 hml
    walk_at "rd"
    refine ⟨ml, rfl, ⟨_, SqL.of hml⟩, ?_⟩
    have l5 : l.length ≤ 5 := Nat.le_trans (nodup_len rl.nd rl.sub) ok.t5
    refine dc_filt (fun t => decide (t ∈ B.fn)) (SqL.of hml) rl.nd (by omega) (fun y => rfl) (fun y => rfl) (fun t H' ht s Q q => ?_) (fun fo H3 nfo e3 hfo => ?_)
    · walk_at "rd"
      refine r_good (hR.same ((e1.trans e2).trans s)) (fun fi hfi => ?_)
      walk_at "rd"
      refine r_inL (.inr (SqT.of hfi)) ?_
      walk_at "rd"
      exact q _ (Same.refl _)
    walk_at "rd"
    have f0 : ∀ t, t ∈ l.filter (fun t => decide (t ∈ B.fn)) ↔ t ∈ l ∧ t ∈ B.fn := fun t => by rw [List.mem_filter]; simp
    have esz : ∀ m : List Str, (keysT m).length = m.length := fun m => by unfold keysT; rw [List.length_map]
    refine ⟨fun n σ H' => ∃ z : Int, ∃ v4 v5 m, n = 2 * (l.length - m.length) + (if z = m.length then 0 else 1) ∧ σ = [some (.ref p), some (.ref ml), some (.ref fo), some (.int z), v4, v5] ∧ Same H2 H' ∧ H' fo = some (.dK (keysT m)) ∧
      m.Nodup ∧ (∀ t ∈ m, t ∈ l) ∧ (∀ t ∈ l, t ∈ B.fn → t ∈ m) ∧ (z = m.length → ∀ t ∈ l, ∀ c ∈ B.sg, B.gl t c ∈ m → t ∈ m),
      ⟨_, -1, none, none, _, rfl, rfl, e3, hfo, rl.nd.filter _, fun t ht => ((f0 t).mp ht).1, fun t h1 h2 => (f0 t).mpr ⟨h1, h2⟩, fun z => ?_⟩, ?_⟩
    · exact absurd z (by omega)
    rintro n σ H4 ⟨z, v4, v5, m, rfl, rfl, e4, hf4, nd, sub, fine, back⟩
    have lm := nodup_len nd sub
    walk_at "rd"
    refine ⟨fo, _, rfl, hf4, ?_⟩
    rw [esz]
    walk_at "rd"
    by_cases hz : z = m.length
    · have hd : (!decide (V.int z = V.int ((m.length : Nat) : Int))) = false := by rw [hz]; simp
      rw [hd]
      refine iteF ?_
      walk_at "rd"
      exact k _ _ l m ((e1.trans e2).trans e4) hf4 rl ⟨nd, sub, fine, back hz⟩
    · have hd : (!decide (V.int z = V.int ((m.length : Nat) : Int))) = true := by
        rw [decide_eq_false (fun e => hz (V.int.inj e))]
        rfl
      rw [hd]
      refine iteT ⟨_, fun σ' H' h => h, ?_⟩
      rw [if_neg hz]
      walk_at "rd"
      refine ⟨fo, _, rfl, hf4, ?_⟩
      rw [esz]
      walk_at "rd"
      refine ⟨ml, rfl, ⟨_, SqL.of (e4 _ _ hml)⟩, ?_⟩
      refine for_it (walk_list (K := K) (a := ml) (xs := l.map V.str))
        (fun i σ' H' => ∃ v4 v5 m', σ' = [some (.ref p), some (.ref ml), some (.ref fo), some (.int (m.length : Nat)), v4, v5] ∧ Same H2 H' ∧ H' fo = some (.dK (keysT m')) ∧
          m'.Nodup ∧ (∀ t ∈ m', t ∈ l) ∧ (∀ t ∈ l, t ∈ B.fn → t ∈ m') ∧ ((m' = m ∧ ∀ t ∈ l.take i, ∀ c ∈ B.sg, B.gl t c ∈ m → t ∈ m) ∨ m.length < m'.length))
        ⟨v4, v5, m, rfl, e4, hf4, nd, sub, fine, .inl ⟨rfl, by intro t ht; cases ht⟩⟩ (fun i σ' H' _ q => ?_) ?_ ?_
      · obtain ⟨_, _, _, _, e5, _⟩ := q
        exact SqL.of (e5 _ _ hml)
      · rintro i x σ' H' H'' hi ⟨v4, v5, m', rfl, e5, hf5, nd5, sub5, fine5, alt⟩ ⟨rfl, hy⟩
        rw [List.getElem?_map] at hy
        cases e : l[i]? with
        | none => rw [e] at hy; cases hy
        | some t =>
        rw [e] at hy
        have ex : V.str t = x := Option.some.inj hy
        subst ex
        have ht : t ∈ l := List.mem_of_getElem? e
        have R5 := hR.same ((e1.trans e2).trans e5)
        walk_at "rd"
        refine r_signs R5 ?_
        walk_at "rd"
        refine lc_S (z := B.sg) (fun _ => true) (fun c => .bl (decide (B.gl t c ∈ m'))) (Nat.lt_of_le_of_lt ok.s3 (by decide)) (fun y => rfl) (fun c H' hx s Q q => ?_) (fun c H' hx hf s Q q => ?_) (fun q3 H7 nq3 e7 h7 => ?_)
        · walk_at "rd"
          exact q _ (Same.refl _)
        · walk_at "rd"
          refine ⟨p, B, t, c, rfl, R5.same s, rl.sub t ht, hx, fun H6 s6 => ?_⟩
          walk_at "rd"
          refine ⟨fo, _, rfl, DGet.k (k := .inr (B.gl t c)) (s6 _ _ (s _ _ hf5)), ?_⟩
          rw [val_keysT]
          exact q H6 s6
        rw [filter_all] at h7
        walk_at "rd"
        have h8 : H7 q3 = some (.lst ((B.sg.map fun c => decide (B.gl t c ∈ m')).map V.bl)) := by rw [h7, List.map_map]; rfl
        refine ⟨q3, _, rfl, SqL.of h8, ?_⟩
        have ea : (B.sg.map fun c => decide (B.gl t c ∈ m')).any id = B.sg.any fun c => decide (B.gl t c ∈ m') := by rw [List.any_map]; rfl
        rw [ea]
        have hf7 := e7 _ _ hf5
        walk_at "rd"
        by_cases hb : ∃ c ∈ B.sg, B.gl t c ∈ m'
        · have hb' : (B.sg.any fun c => decide (B.gl t c ∈ m')) = true := by
            obtain ⟨c, hc, h⟩ := hb
            exact List.any_eq_true.mpr ⟨c, hc, decide_eq_true h⟩
          rw [hb']
          refine iteT ?_
          walk_at "rd"
          have lm' := nodup_len nd5 sub5
          refine ⟨fo, _, rfl, DPut.k (k := .inr t) hf7 (by rw [esz]; exact small1000 (by omega)), ?_⟩
          have s8 : ∀ o, Same H2 (upd H7 fo o) := fun o => same_upd_new (e5.trans e7) nfo
          by_cases hin : t ∈ m'
          · rw [put_keysT_old hin]
            refine ⟨_, _, m', rfl, s8 _, upd_same, nd5, sub5, fine5, ?_⟩
            rcases alt with ⟨rfl, hc⟩ | alt
            · refine .inl ⟨rfl, fun t' ht' c hc' hg => ?_⟩
              rw [take_more e] at ht'
              rcases List.mem_append.mp ht' with h | h
              · exact hc t' h c hc' hg
              · rw [List.mem_singleton.mp h]
                exact hin
            · exact .inr alt
          · rw [put_keysT hin]
            have ll : (m' ++ [t]).length = m'.length + 1 := by simp
            refine ⟨_, _, m' ++ [t], rfl, s8 _, upd_same, ?_, fun x hx => ?_, fun x hx hfx => List.mem_append_left _ (fine5 x hx hfx), .inr ?_⟩
            · rw [List.nodup_append]
              exact ⟨nd5, by simp, fun a ha b hb e => hin (by rw [← List.mem_singleton.mp hb, ← e]; exact ha)⟩
            · rcases List.mem_append.mp hx with h | h
              · exact sub5 x h
              · rw [List.mem_singleton.mp h]
                exact ht
            · rcases alt with ⟨rfl, hc⟩ | alt <;> omega
        · have hb' : (B.sg.any fun c => decide (B.gl t c ∈ m')) = false := by
            rw [List.any_eq_false]
            intro c hc h
            exact hb ⟨c, hc, of_decide_eq_true h⟩
          rw [hb']
          refine iteF ?_
          walk_at "rd"
          refine ⟨_, _, m', rfl, e5.trans e7, hf7, nd5, sub5, fine5, ?_⟩
          rcases alt with ⟨rfl, hc⟩ | alt
          · refine .inl ⟨rfl, fun t' ht' c hc' hg => ?_⟩
            rw [take_more e] at ht'
            rcases List.mem_append.mp ht' with h | h
            · exact hc t' h c hc' hg
            · rw [List.mem_singleton.mp h] at hg ⊢
              exact absurd ⟨c, hc', hg⟩ hb
          · exact .inr alt
      · rintro σ' H' ⟨v4, v5, m', rfl, e5, hf5, nd5, sub5, fine5, alt⟩
        rw [List.length_map, List.take_length] at alt
        have lm' := nodup_len nd5 sub5
        refine ⟨_, ?_, ((m.length : Nat) : Int), v4, v5, m', rfl, rfl, e5, hf5, nd5, sub5, fine5, fun hz2 => ?_⟩
        · rcases alt with ⟨rfl, hc⟩ | alt
          · rw [if_pos rfl]
            omega
          · split <;> omega
        · rcases alt with ⟨rfl, hc⟩ | alt
          · exact hc
          · omega
end
end K73

set_option Elab.async false
set_option linter.all false
set_option maxRecDepth 100000
set_option maxHeartbeats 4000000
namespace K73
open PySem PySem.Spec PyProof.Rows L2
local macro_rules | `(tactic| walk_at "rd") => `(tactic| repeat (first | with_reducible refine r_seq ?_ | with_reducible refine r_asg ?_ | with_reducible refine r_ret ?_ | with_reducible refine r_op ?_ | with_reducible refine r_var (by with_unfolding_all rfl) ?_ | with_reducible refine r_c ?_ | with_reducible refine r_cons ?_ | with_reducible refine r_nil ?_ | with_reducible refine r_gname ?_ | with_reducible refine r_ifS ?_ | with_reducible refine r_test ?_ | with_reducible refine r_bl ?_ | with_reducible refine r_I0 ?_ | with_reducible refine r_cb ?_ | with_reducible refine r_cl ?_ | with_reducible refine r_tup ?_ | with_reducible refine r_lst ?_ | with_reducible refine r_gsub ?_ | with_reducible refine r_gcons ?_ | with_reducible refine r_gnil ?_ | with_reducible refine r_drop ?_ | with_reducible refine r_next ?_ | with_reducible refine r_par ?_ | with_reducible refine r_par2 ?_ | with_reducible refine r_and ?_ | with_reducible refine r_or ?_ | with_reducible refine r_not ?_ | with_reducible refine r_yes ?_ | with_reducible refine r_andV ?_ | with_reducible refine r_orV ?_ | with_reducible refine r_notV ?_ | with_reducible refine r_if ?_ | with_reducible refine r_chain ?_ | with_reducible refine r_U ?_ | with_reducible refine r_un ?_ | with_reducible refine r_eq (by with_unfolding_all rfl) ?_ | with_reducible refine r_ne (by with_unfolding_all rfl) ?_ | with_reducible refine r_int ?_ | with_reducible refine r_sl ?_ | with_reducible refine r_nopart ?_ | with_reducible refine r_part ?_ | with_reducible refine r_exI ?_ | with_reducible refine r_dget ?_ | with_reducible refine r_din ?_ | with_reducible refine r_dnotin ?_ | with_reducible refine r_dput ?_ | with_reducible refine r_isN ?_ | with_reducible refine r_notN ?_ | with_reducible refine r_bm ?_ | with_reducible refine r_bm0 ?_ | with_reducible refine r_retN ?_ | with_reducible refine r_lc ?_ | with_reducible refine r_for ?_ | with_reducible refine r_iStr ?_ | with_reducible refine r_exS ?_ | with_reducible refine r_iList ?_ | with_reducible refine r_iTup ?_ | with_reducible refine r_iRng ?_ | with_reducible refine r_m1 ?_ | with_reducible refine r_strM ?_ | with_reducible refine r_tB ?_ | with_reducible refine r_dc ?_ | with_reducible refine r_iZipS ?_ | with_reducible refine r_lc2 ?_ | with_reducible refine r_iZip ?_ | with_reducible refine r_tCmp ?_ | with_reducible refine r_newT ?_ | with_reducible refine r_newK ?_ | with_reducible refine r_sfld ?_ | with_reducible refine r_fld ?_ | with_reducible refine r_make ?_ | with_reducible refine r_pr ?_ | with_reducible refine r_dt ?_))
local macro_rules | `(tactic| walk_at "nw") => `(tactic| (intro q nq; generalize hH : upd _ q _ = H1; have s1 := same_upd_eq nq hH; have hq := upd_eq hH; clear hH))
section
variable {P : Program} {w : World} {K : PySem.W.Frag} {mg : Str → Option Value} {base : Heap}
def spArePairs (K : PySem.W.Frag) : Sp := fun vs H Q _ => ∃ (pa p1 p2 : Addr) (A B : Box) (ys : List V) (ps : List (Str × Str)), vs = [.ref pa, .ref p1, .ref p2] ∧ RuleAt K H p1 A ∧ RuleAt K H p2 B ∧ H pa = some (.tup ys) ∧ PairsAt H ys ps ∧ ys.length ≤ 1000 ∧
  ∀ H' b, Same H H' → (b = true → ∀ p ∈ ps, p.1 ∈ A.tg ∧ p.2 ∈ B.tg) → Q (.bl b) H'
abbrev nArePairs : List Str := ["paper", "one", "other", "pair", "mood"]
theorem sc_are_pairs : FnScope nArePairs ["paper", "one", "other"] (defScope s_are_pairs) := ⟨rfl, rfl, rfl, by decide +kernel, rfl, by decide +kernel, by decide +kernel⟩
theorem hu0 {k : Nat} {A : Around} (hr : Room k A) : A.units < cLine := by
  have := hr.units
  omega
theorem mem_take_succ {α : Type} {l : List α} {i : Nat} {x y : α} (h : l[i]? = some x) (hy : y ∈ l.take (i + 1)) : y ∈ l.take i ∨ y = x := by
  rw [take_more h] at hy
  rcases List.mem_append.mp hy with h | h
  · exact .inl h
  · exact .inr (List.mem_singleton.mp h)
theorem ok_are_pairs (T : Txt K mg) : Fn P w K mg base 3 "are_pairs" ["paper", "one", "other"] (spArePairs K) := by
  have GM : Gt P w K mg base "moods" (spMoods K) := ok_moods T
  refine T.d_are_pairs.fn sc_are_pairs (fun _ _ _ _ _ _ us hl => match us, hl with | [_, _, _], _ => rfl) (fun vs H Q E h => ?_) (fun cdv A outer s H vs Q E hr h => ?_)
  · obtain ⟨pa, p1, p2, A, B, ys, ps, rfl, _⟩ := h
    rfl
  · obtain ⟨pa, p1, p2, A, B, ys, ps, rfl, R1, R2, hpa, hP, hn, k⟩ := h
    have hr2 : Room (0 + 2) _ := hr
    refine ⟨_, pss_cons (ps_if (pt_not (pt_val (pe_isi (n := "tuple") T.f_isinstance (pv 0) T.f_tuple))) (pss_one (ps_ret pe_bl)) pss_nil)
      (pss_cons (ps_for PassesOwn.never rfl (pi_tup (pv 0)) (pg_name (i := 3) sc_are_pairs.nd rfl (.inl rfl))
        (pss_cons (ps_if (PW.pt (pw_or (pt_not (pt_val (pe_isi (n := "tuple") T.f_isinstance (pv 3) T.f_tuple))) (pw_or (pt_cmpR op_ne (pe_callB call_len_seq (by rfl) T.f_len PySem.boot_len (pa_cons (pv 3) pa_nil)) pe_int (nomark _))
            (pw_or1 (pt_not (pt_val (pe_callB (cr_all rfl) (by rfl) T.f_all (by decide +kernel) (pa_cons (pe_lc (own := [("mood", 4)]) (g := gName 4) (tt := tYes) (te := tCB (rIsi K) (tCons (tVar 4) (tCons (tC (.ty "str")) tNil))) rfl sc_are_pairs.nd (pi_tup (pv 3)) (blkOk_by (N := nArePairs) (sc := defScope s_are_pairs) (by decide +kernel))
              (fun _ _ _ _ _ => pg_name (i := 4) sc_are_pairs.nd rfl (Or.inl rfl)) (fun _ _ _ _ _ => pts_nil)
              (fun _ _ _ _ _ => pe_isi (n := "str") T.f_isinstance (pv 4) T.f_str)) pa_nil)))))))) (pss_one (ps_ret pe_bl)) pss_nil)
        (pss_one (ps_if (PW.pt (pw_or (pt_cmpR op_notIn_seq (pe_ix ix_tup (pv 3) pe_int (fun _ _ => rfl)) (pprop GM hr2 (pv 1)) (by rfl)) (pw_or1 (pt_cmpR op_notIn_seq (pe_ix ix_tup (pv 3) pe_int (fun _ _ => rfl)) (pprop GM hr2 (pv 2)) (by rfl))))) (pss_one (ps_ret pe_bl)) pss_nil))))
      (pss_one (ps_ret (pe_cmpR op_eq (pe_callB call_len_dT (by rfl) T.f_len PySem.boot_len (pa_cons (pe_dt (own := [("pair", 3)]) (g := gName 3) (tt := tYes) (hu0 hr) rfl sc_are_pairs.nd (pi_tup (pv 0)) (blkOk_by (N := nArePairs) (sc := defScope s_are_pairs) (by decide +kernel))
          (fun _ _ _ _ _ => pg_name (i := 3) sc_are_pairs.nd rfl (Or.inl rfl)) (fun _ _ _ _ _ => pts_nil) (fun _ _ _ _ _ => pv 3) (fun _ _ _ _ _ => pe_bl)) pa_nil)) (pe_callB call_len_seq (by rfl) T.f_len PySem.boot_len (pa_cons (pv 0) pa_nil)) (nomark _))))), ?_⟩
    walk_at "rd"
    refine isi_tup hpa ?_
    walk_at "rd"
    refine iteF ?_
    walk_at "rd"
    refine ⟨pa, rfl, ⟨_, SqT.of hpa⟩, ?_⟩
    have hl := Paired.length hP
    refine for_it (walk_tup (K := K) (a := pa) (xs := ys)) (fun i σ' H' => ∃ v3 v4, σ' = [some (.ref pa), some (.ref p1), some (.ref p2), v3, v4] ∧ Same H H' ∧ ∀ p ∈ ps.take i, p.1 ∈ A.tg ∧ p.2 ∈ B.tg)
      ⟨none, none, rfl, Same.refl _, by intro p hp; cases hp⟩ (fun i σ' H' _ q => ?_) ?_ ?_
    · obtain ⟨_, _, _, e, _⟩ := q
      exact SqT.of (e _ _ hpa)
    · rintro i x σ' H' H'' hi ⟨v3, v4, rfl, e1, hg⟩ ⟨rfl, hy⟩
      have hi2 : i < ps.length := by omega
      have hp : ps[i]? = some ps[i] := List.getElem?_eq_getElem hi2
      generalize ps[i] = pq at hp
      obtain ⟨x', hx', b, rfl, hb⟩ := paired_get hP hp
      have ex := Option.some.inj (hy.symm.trans hx')
      subst ex
      have hb1 := e1 _ _ hb
      walk_at "rd"
      refine isi_tup hb1 ?_
      walk_at "rd"
      refine iteF ?_
      walk_at "rd"
      refine ⟨b, _, rfl, .inr (SqT.of hb1), ?_⟩
      walk_at "rd"
      refine iteF ?_
      walk_at "rd"
      refine ⟨b, rfl, ⟨_, SqT.of hb1⟩, ?_⟩
      have estr : ∀ x : V, x ∈ [V.str pq.1, V.str pq.2] → ∃ z, x = .str z := fun x hx => by
        rcases List.mem_cons.mp hx with rfl | hx
        · exact ⟨_, rfl⟩
        · exact ⟨_, List.mem_singleton.mp hx⟩
      refine lc_T (xs := [V.str pq.1, V.str pq.2]) (SqT.of hb1) (fun _ => true) (fun _ => .bl true) (by show 2 < sizeLine; decide) (fun y => rfl) (fun x H' hx s Q q => ?_) (fun x H' hx hf s Q q => ?_) (fun q3 H4 nq3 e4 h4 => ?_)
      · walk_at "rd"
        exact q _ (Same.refl _)
      · obtain ⟨z, rfl⟩ := estr x hx
        walk_at "rd"
        refine isi_str ?_
        exact q _ (Same.refl _)
      rw [filter_all] at h4
      walk_at "rd"
      refine ⟨q3, [true, true], rfl, SqL.of h4, ?_⟩
      walk_at "rd"
      refine iteF ?_
      walk_at "rd"
      have e14 := e1.trans e4
      have hb4 := e4 _ _ hb1
      refine r_ixT (v := .str pq.1) (SqT.of hb4) (atI_nat (j := 0) rfl) ?_
      walk_at "rd"
      refine r_moods (R1.same e14) (fun tm htm => ?_)
      walk_at "rd"
      refine r_notInL (.inr (SqT.of htm)) ?_
      walk_at "rd"
      by_cases h1 : pq.1 ∈ A.tg
      · rw [decide_eq_true h1]
        refine iteF ?_
        walk_at "rd"
        refine r_ixT (v := .str pq.2) (SqT.of hb4) (atI_nat (j := 1) rfl) ?_
        walk_at "rd"
        refine r_moods (R2.same e14) (fun tm2 htm2 => ?_)
        walk_at "rd"
        refine r_notInL (.inr (SqT.of htm2)) ?_
        walk_at "rd"
        by_cases h2 : pq.2 ∈ B.tg
        · rw [decide_eq_true h2]
          refine iteF ?_
          walk_at "rd"
          refine ⟨_, _, rfl, e14, fun p hp' => ?_⟩
          rcases mem_take_succ hp hp' with h | rfl
          · exact hg p h
          · exact ⟨h1, h2⟩
        · rw [decide_eq_false h2]
          refine iteT ?_
          walk_at "rd"
          exact k _ false e14 (fun z => by cases z)
      · rw [decide_eq_false h1]
        refine iteT ?_
        refine iteT ?_
        walk_at "rd"
        exact k _ false e14 (fun z => by cases z)
    · rintro σ' H' ⟨v3, v4, rfl, e1, hg⟩
      rw [hl, List.take_length] at hg
      walk_at "rd"
      refine ⟨pa, rfl, ⟨_, SqT.of (e1 _ _ hpa)⟩, ?_⟩
      refine dt_pairs (SqT.of (e1 _ _ hpa)) (hP.same e1) hn (fun y => rfl) (fun y => rfl) (fun D H2 kvs nD e2 hD _ => ?_)
      walk_at "rd"
      refine ⟨D, kvs, rfl, hD, ?_⟩
      walk_at "rd"
      refine ⟨pa, _, rfl, .inr (SqT.of (e2 _ _ (e1 _ _ hpa))), ?_⟩
      walk_at "rd"
      exact k _ _ (e1.trans e2) (fun _ => hg)
end
end K73

set_option Elab.async false
set_option linter.all false
set_option maxRecDepth 100000
set_option maxHeartbeats 4000000
namespace K73
open PySem PySem.Spec PyProof.Rows L2
local macro_rules | `(tactic| walk_at "rd") => `(tactic| repeat (first | with_reducible refine r_seq ?_ | with_reducible refine r_asg ?_ | with_reducible refine r_ret ?_ | with_reducible refine r_op ?_ | with_reducible refine r_var (by with_unfolding_all rfl) ?_ | with_reducible refine r_c ?_ | with_reducible refine r_cons ?_ | with_reducible refine r_nil ?_ | with_reducible refine r_gname ?_ | with_reducible refine r_ifS ?_ | with_reducible refine r_test ?_ | with_reducible refine r_bl ?_ | with_reducible refine r_I0 ?_ | with_reducible refine r_cb ?_ | with_reducible refine r_cl ?_ | with_reducible refine r_tup ?_ | with_reducible refine r_lst ?_ | with_reducible refine r_gsub ?_ | with_reducible refine r_gcons ?_ | with_reducible refine r_gnil ?_ | with_reducible refine r_drop ?_ | with_reducible refine r_next ?_ | with_reducible refine r_par ?_ | with_reducible refine r_par2 ?_ | with_reducible refine r_and ?_ | with_reducible refine r_or ?_ | with_reducible refine r_not ?_ | with_reducible refine r_yes ?_ | with_reducible refine r_andV ?_ | with_reducible refine r_orV ?_ | with_reducible refine r_notV ?_ | with_reducible refine r_if ?_ | with_reducible refine r_chain ?_ | with_reducible refine r_U ?_ | with_reducible refine r_un ?_ | with_reducible refine r_eq (by with_unfolding_all rfl) ?_ | with_reducible refine r_ne (by with_unfolding_all rfl) ?_ | with_reducible refine r_int ?_ | with_reducible refine r_sl ?_ | with_reducible refine r_nopart ?_ | with_reducible refine r_part ?_ | with_reducible refine r_exI ?_ | with_reducible refine r_dget ?_ | with_reducible refine r_din ?_ | with_reducible refine r_dnotin ?_ | with_reducible refine r_dput ?_ | with_reducible refine r_isN ?_ | with_reducible refine r_notN ?_ | with_reducible refine r_bm ?_ | with_reducible refine r_bm0 ?_ | with_reducible refine r_retN ?_ | with_reducible refine r_lc ?_ | with_reducible refine r_for ?_ | with_reducible refine r_iStr ?_ | with_reducible refine r_exS ?_ | with_reducible refine r_iList ?_ | with_reducible refine r_iTup ?_ | with_reducible refine r_iRng ?_ | with_reducible refine r_m1 ?_ | with_reducible refine r_strM ?_ | with_reducible refine r_tB ?_ | with_reducible refine r_dc ?_ | with_reducible refine r_iZipS ?_ | with_reducible refine r_lc2 ?_ | with_reducible refine r_iZip ?_ | with_reducible refine r_tCmp ?_ | with_reducible refine r_newT ?_ | with_reducible refine r_newK ?_ | with_reducible refine r_sfld ?_ | with_reducible refine r_fld ?_ | with_reducible refine r_make ?_ | with_reducible refine r_pr ?_ | with_reducible refine r_dt ?_))
local macro_rules | `(tactic| walk_at "nw") => `(tactic| (intro q nq; generalize hH : upd _ q _ = H1; have s1 := same_upd_eq nq hH; have hq := upd_eq hH; clear hH))
section
variable {P : Program} {w : World} {K : PySem.W.Frag} {mg : Str → Option Value} {base : Heap}
theorem with_rest {A R G : Prop} (h : (A → R) → G) (h2 : A → R) : G := h h2
def spShowsWithin (K : PySem.W.Frag) : Sp := fun vs H Q _ => ∃ (pa p1 p2 : Addr) (A B : Box) (ys : List V) (ps : List (Str × Str)), vs = [.ref pa, .ref p1, .ref p2] ∧ RuleAt K H p1 A ∧ RuleAt K H p2 B ∧ A.Ok ∧ B.Ok ∧ A.sg = B.sg ∧ H pa = some (.tup ys) ∧ PairsAt H ys ps ∧ ys.length ≤ 1000 ∧
  ∀ H' b, Same H H' → (b = true → SoIn A B) → Q (.bl b) H'
abbrev nShowsWithin : List Str := ["paper", "one", "other", "known", "pair", "mine", "others", "sign"]
theorem sc_shows_within : FnScope nShowsWithin ["paper", "one", "other"] (defScope s_shows_within) := ⟨rfl, rfl, rfl, by decide +kernel, rfl, by decide +kernel, by decide +kernel⟩
theorem ok_shows_within (T : Txt K mg) : Fn P w K mg base 4 "shows_within" ["paper", "one", "other"] (spShowsWithin K) := by
  have GM : Gt P w K mg base "moods" (spMoods K) := ok_moods T
  have GF : Gt P w K mg base "good" (spGood K) := ok_good T
  have GS : Gt P w K mg base "signs" (spSigns K) := ok_signs T
  have G : Fn P w K mg base 3 "goal_of" ["rule", "mood", "sign"] (spGoalOf K) := (ok_goal_of T).mono (by decide)
  have GP : Fn P w K mg base 3 "are_pairs" ["paper", "one", "other"] (spArePairs K) := ok_are_pairs T
  refine T.d_shows_within.fn sc_shows_within (fun _ _ _ _ _ _ us hl => match us, hl with | [_, _, _], _ => rfl) (fun vs H Q E h => ?_) (fun cdv Ar outer s H vs Q E hr h => ?_)
  · obtain ⟨pa, p1, p2, A, B, ys, ps, rfl, _⟩ := h
    rfl
  · obtain ⟨pa, p1, p2, A, B, ys, ps, rfl, R1, R2, okA, okB, esg, hpa, hP, hn, k⟩ := h
    have hr2 : Room (1 + 2) _ := hr
    refine ⟨_, pss_cons (ps_if (pt_not (pt_val (pcall GP hr (pa_cons (pv 0) (pa_cons (pv 1) (pa_cons (pv 2) pa_nil)))))) (pss_one (ps_ret pe_bl)) pss_nil)
      (pss_cons (ps_set (i := 3) sc_shows_within.nd rfl (.inr rfl) (pe_dt (own := [("pair", 4)]) (g := gName 4) (tt := tYes) (hu0 hr) rfl sc_shows_within.nd (pi_tup (pv 0)) (blkOk_by (N := nShowsWithin) (sc := defScope s_shows_within) (by decide +kernel))
          (fun _ _ _ _ _ => pg_name (i := 4) sc_shows_within.nd rfl (Or.inl rfl)) (fun _ _ _ _ _ => pts_nil) (fun _ _ _ _ _ => pv 4) (fun _ _ _ _ _ => pe_bl)))
      (pss_cons (ps_if (pt_cmp (pc_dnotin (hu_of hr) (pe_tup (pa_cons (pe_ix ix_tup (pprop GM hr2 (pv 1)) pe_int (fun _ _ => rfl)) (pa_cons (pe_ix ix_tup (pprop GM hr2 (pv 2)) pe_int (fun _ _ => rfl)) pa_nil))) (pv 3))) (pss_one (ps_ret pe_bl)) pss_nil)
      (pss_cons (ps_for PassesOwn.never rfl (pi_tup (pv 0)) (pg_tup rfl (pgs_cons (pg_name (i := 5) sc_shows_within.nd rfl (.inr rfl)) (pgs_cons (pg_name (i := 6) sc_shows_within.nd rfl (.inr rfl)) pgs_nil)))
        (pss_cons (ps_if (PW.pt (pw_and (pt_cmpR op_in_seq (pv 5) (pprop GF hr2 (pv 1)) (by rfl)) (pw_and1 (pt_cmpR op_notIn_seq (pv 6) (pprop GF hr2 (pv 2)) (by rfl))))) (pss_one (ps_ret pe_bl)) pss_nil)
        (pss_one (ps_if (pt_not (pt_val (pe_callB (cr_all rfl) (by rfl) T.f_all (by decide +kernel) (pa_cons (pe_lc (own := [("sign", 7)]) (g := gName 7) (tt := tYes) (te := tDIn (tTup (tCons (tCl (spGoalOf K) (tCons (tVar 1) (tCons (tVar 5) (tCons (tVar 7) tNil)))) (tCons (tCl (spGoalOf K) (tCons (tVar 2) (tCons (tVar 6) (tCons (tVar 7) tNil)))) tNil))) (tVar 3)) rfl sc_shows_within.nd (pi_str (pprop GS hr2 (pv 1))) (blkOk_by (N := nShowsWithin) (sc := defScope s_shows_within) (by decide +kernel))
            (fun _ _ _ _ _ => pg_name (i := 7) sc_shows_within.nd rfl (Or.inl rfl)) (fun _ _ _ _ _ => pts_nil)
            (fun _ _ _ _ _ => pe_cmp (pc_din (hu_of hr) (pe_tup (pa_cons (pcall G hr (pa_cons (pv 1) (pa_cons (pv 5) (pa_cons (pv 7) pa_nil)))) (pa_cons (pcall G hr (pa_cons (pv 2) (pa_cons (pv 6) (pa_cons (pv 7) pa_nil)))) pa_nil))) (pv 3)) (by rfl))) pa_nil)))) (pss_one (ps_ret pe_bl)) pss_nil))))
      (pss_one (ps_ret pe_bl))))), ?_⟩
    walk_at "rd"
    refine ⟨pa, p1, p2, A, B, ys, ps, rfl, R1, R2, hpa, hP, hn, fun H1 b e1 hb => ?_⟩
    walk_at "rd"
    cases b with
    | false =>
      refine iteT ?_
      walk_at "rd"
      exact k _ false e1 (fun z => by cases z)
    | true =>
    have hin := hb rfl
    refine iteF ?_
    walk_at "rd"
    refine ⟨pa, rfl, ⟨_, SqT.of (e1 _ _ hpa)⟩, ?_⟩
    refine dt_pairs (SqT.of (e1 _ _ hpa)) (hP.same e1) hn (fun y => rfl) (fun y => rfl) (fun kn H2 kvs nkn e2 hkn hk => ?_)
    have e12 := e1.trans e2
    walk_at "rd"
    refine r_moods (R1.same e12) (fun tm htm => ?_)
    walk_at "rd"
    refine r_ixT (v := .str A.first) (SqT.of htm) (atI_nat (j := 0) okA.head) ?_
    walk_at "rd"
    refine r_moods (R2.same e12) (fun tm2 htm2 => ?_)
    walk_at "rd"
    refine r_ixT (v := .str B.first) (SqT.of htm2) (atI_nat (j := 0) okB.head) ?_
    walk_at "rd"
    refine ⟨by show 2 ≤ sizeLine; decide, ?_⟩
    walk_at "nw"
    rename_i q nq H3 e3 hq
    walk_at "rd"
    refine ⟨kn, _, rfl, DGet.t (k := pk (A.first, B.first)) (e3 _ _ hkn) hq, ?_⟩
    rw [hk]
    have e13 := e12.trans e3
    by_cases hf : (A.first, B.first) ∈ ps
    · rw [decide_eq_true hf]
      walk_at "rd"
      refine iteF ?_
      walk_at "rd"
      refine ⟨pa, rfl, ⟨_, SqT.of (e13 _ _ hpa)⟩, ?_⟩
      have hl := Paired.length hP
      refine for_it (walk_tup (K := K) (a := pa) (xs := ys)) (fun i σ' H' => ∃ v4 v5 v6 v7, σ' = [some (.ref pa), some (.ref p1), some (.ref p2), some (.ref kn), v4, v5, v6, v7] ∧ Same H3 H' ∧ ∀ p ∈ ps.take i, (p.1 ∈ A.fn → p.2 ∈ B.fn) ∧ ∀ c ∈ A.sg, (A.gl p.1 c, B.gl p.2 c) ∈ ps)
        ⟨none, none, none, none, rfl, Same.refl _, by intro p hp; cases hp⟩ (fun i σ' H' _ q => ?_) ?_ ?_
      · obtain ⟨_, _, _, _, _, e, _⟩ := q
        exact SqT.of (e _ _ (e13 _ _ hpa))
      · rintro i x σ' H' H'' hi ⟨v4, v5, v6, v7, rfl, e4, hg⟩ ⟨rfl, hy⟩
        have hi2 : i < ps.length := by omega
        have hp : ps[i]? = some ps[i] := List.getElem?_eq_getElem hi2
        generalize ps[i] = pq at hp
        obtain ⟨x', hx', b, rfl, hb⟩ := paired_get hP hp
        have ex := Option.some.inj (hy.symm.trans hx')
        subst ex
        have hpq := hin pq (List.mem_of_getElem? hp)
        have e14 := e13.trans e4
        have hb4 := e14 _ _ hb
        refine ⟨b, _, rfl, SqT.of hb4, rfl, ?_⟩
        walk_at "rd"
        refine r_good (R1.same e14) (fun fi hfi => ?_)
        walk_at "rd"
        refine r_inL (.inr (SqT.of hfi)) ?_
        walk_at "rd"
        apply with_rest (A := pq.1 ∈ A.fn → pq.2 ∈ B.fn)
        · intro main
          by_cases h1 : pq.1 ∈ A.fn
          · rw [decide_eq_true h1]
            refine iteT ?_
            walk_at "rd"
            refine r_good (R2.same e14) (fun fi2 hfi2 => ?_)
            walk_at "rd"
            refine r_notInL (.inr (SqT.of hfi2)) ?_
            walk_at "rd"
            by_cases h2 : pq.2 ∈ B.fn
            · rw [decide_eq_true h2]
              refine iteF ?_
              exact main fun _ => h2
            · rw [decide_eq_false h2]
              refine iteT ?_
              walk_at "rd"
              exact k _ false e14 (fun z => by cases z)
          · rw [decide_eq_false h1]
            refine iteF ?_
            refine iteF ?_
            exact main fun z => absurd z h1
        intro hfine
        walk_at "rd"
        refine r_signs (R1.same e14) ?_
        walk_at "rd"
        refine lc_S (z := A.sg) (fun _ => true) (fun c => .bl (decide ((A.gl pq.1 c, B.gl pq.2 c) ∈ ps))) (Nat.lt_of_le_of_lt okA.s3 (by decide)) (fun y => rfl) (fun c H' hx s Q q => ?_) (fun c H' hx hf s Q q => ?_) (fun q3 H7 nq3 e7 h7 => ?_)
        · walk_at "rd"
          exact q _ (Same.refl _)
        · walk_at "rd"
          refine ⟨p1, A, pq.1, c, rfl, R1.same (e14.trans s), hpq.1, hx, fun H5 s5 => ?_⟩
          walk_at "rd"
          refine ⟨p2, B, pq.2, c, rfl, R2.same ((e14.trans s).trans s5), hpq.2, by rw [← esg]; exact hx, fun H6 s6 => ?_⟩
          walk_at "rd"
          refine ⟨by show 2 ≤ sizeLine; decide, ?_⟩
          walk_at "nw"
          rename_i u nu H8 e8 hu
          walk_at "rd"
          refine ⟨kn, _, rfl, DGet.t (k := pk (A.gl pq.1 c, B.gl pq.2 c)) (e8 _ _ (s6 _ _ (s5 _ _ (s _ _ (e4 _ _ (e3 _ _ hkn)))))) hu, ?_⟩
          rw [hk]
          exact q H8 ((s5.trans s6).trans e8)
        rw [filter_all] at h7
        walk_at "rd"
        have h8 : H7 q3 = some (.lst ((A.sg.map fun c => decide ((A.gl pq.1 c, B.gl pq.2 c) ∈ ps)).map V.bl)) := by rw [h7, List.map_map]; rfl
        refine ⟨q3, _, rfl, SqL.of h8, ?_⟩
        walk_at "rd"
        cases hb : (A.sg.map fun c => decide ((A.gl pq.1 c, B.gl pq.2 c) ∈ ps)).all id with
        | false =>
          refine iteT ?_
          walk_at "rd"
          exact k _ false (e14.trans e7) (fun z => by cases z)
        | true =>
          refine iteF ?_
          walk_at "rd"
          refine ⟨_, _, _, _, rfl, e4.trans e7, fun p hp' => ?_⟩
          rcases mem_take_succ hp hp' with h | rfl
          · exact hg p h
          · refine ⟨hfine, fun c hc => ?_⟩
            have := List.all_eq_true.mp hb _ (List.mem_map.mpr ⟨c, hc, rfl⟩)
            exact of_decide_eq_true this
      · rintro σ' H' ⟨v4, v5, v6, v7, rfl, e4, hg⟩
        rw [hl, List.take_length] at hg
        walk_at "rd"
        refine k _ true (e13.trans e4) (fun _ => so_in (fun p q => (p, q) ∈ ps) hf fun p q h => hg (p, q) h)
    · rw [decide_eq_false hf]
      walk_at "rd"
      refine iteT ?_
      walk_at "rd"
      exact k _ false e13 (fun z => by cases z)
end
end K73

set_option Elab.async false
set_option linter.all false
set_option maxRecDepth 100000
set_option maxHeartbeats 4000000
namespace K73
open PySem PySem.Spec PyProof.Rows L2
local macro_rules | `(tactic| walk_at "rd") => `(tactic| repeat (first | with_reducible refine r_seq ?_ | with_reducible refine r_asg ?_ | with_reducible refine r_ret ?_ | with_reducible refine r_op ?_ | with_reducible refine r_var (by with_unfolding_all rfl) ?_ | with_reducible refine r_c ?_ | with_reducible refine r_cons ?_ | with_reducible refine r_nil ?_ | with_reducible refine r_gname ?_ | with_reducible refine r_ifS ?_ | with_reducible refine r_test ?_ | with_reducible refine r_bl ?_ | with_reducible refine r_I0 ?_ | with_reducible refine r_cb ?_ | with_reducible refine r_cl ?_ | with_reducible refine r_tup ?_ | with_reducible refine r_lst ?_ | with_reducible refine r_gsub ?_ | with_reducible refine r_gcons ?_ | with_reducible refine r_gnil ?_ | with_reducible refine r_drop ?_ | with_reducible refine r_next ?_ | with_reducible refine r_par ?_ | with_reducible refine r_par2 ?_ | with_reducible refine r_and ?_ | with_reducible refine r_or ?_ | with_reducible refine r_not ?_ | with_reducible refine r_yes ?_ | with_reducible refine r_andV ?_ | with_reducible refine r_orV ?_ | with_reducible refine r_notV ?_ | with_reducible refine r_if ?_ | with_reducible refine r_chain ?_ | with_reducible refine r_U ?_ | with_reducible refine r_un ?_ | with_reducible refine r_eq (by with_unfolding_all rfl) ?_ | with_reducible refine r_ne (by with_unfolding_all rfl) ?_ | with_reducible refine r_int ?_ | with_reducible refine r_sl ?_ | with_reducible refine r_nopart ?_ | with_reducible refine r_part ?_ | with_reducible refine r_exI ?_ | with_reducible refine r_dget ?_ | with_reducible refine r_din ?_ | with_reducible refine r_dnotin ?_ | with_reducible refine r_dput ?_ | with_reducible refine r_isN ?_ | with_reducible refine r_notN ?_ | with_reducible refine r_bm ?_ | with_reducible refine r_bm0 ?_ | with_reducible refine r_retN ?_ | with_reducible refine r_lc ?_ | with_reducible refine r_for ?_ | with_reducible refine r_iStr ?_ | with_reducible refine r_exS ?_ | with_reducible refine r_iList ?_ | with_reducible refine r_iTup ?_ | with_reducible refine r_iRng ?_ | with_reducible refine r_m1 ?_ | with_reducible refine r_strM ?_ | with_reducible refine r_tB ?_ | with_reducible refine r_dc ?_ | with_reducible refine r_iZipS ?_ | with_reducible refine r_lc2 ?_ | with_reducible refine r_iZip ?_ | with_reducible refine r_tCmp ?_ | with_reducible refine r_newT ?_ | with_reducible refine r_newK ?_ | with_reducible refine r_sfld ?_ | with_reducible refine r_fld ?_ | with_reducible refine r_make ?_ | with_reducible refine r_pr ?_ | with_reducible refine r_dt ?_))
local macro_rules | `(tactic| walk_at "nw") => `(tactic| (intro q nq; generalize hH : upd _ q _ = H1; have s1 := same_upd_eq nq hH; have hq := upd_eq hH; clear hH))
/-! ### heights told by triples -/
abbrev TripsAt (H : Hp) : List V → List ((Str × Str) × Int) → Prop := Paired fun y t => ∃ a : Addr, y = .ref a ∧ H a = some (.tup [.str t.1.1, .str t.1.2, .int t.2])
theorem TripsAt.same {H H' : Hp} {ys : List V} {ts : List ((Str × Str) × Int)} (h : TripsAt H ys ts) (s : Same H H') : TripsAt H' ys ts := Paired.mapP h fun y t ⟨a, e, ha⟩ => ⟨a, e, s _ _ ha⟩
def HtOk (kvs : List (List Key × V)) (most : Int) : Prop := ∀ p, valV kvs (pk p) = none ∨ ∃ n : Int, valV kvs (pk p) = some (.int n) ∧ 1 ≤ n ∧ n ≤ most
theorem HtOk.nil {most : Int} : HtOk [] most := fun p => .inl rfl
theorem HtOk.put {kvs : List (List Key × V)} {most n : Int} (h : HtOk kvs most) (p : Str × Str) (h1 : 1 ≤ n) (h2 : n ≤ most) : HtOk (putK kvs (pk p) (.int n)) most := fun q => by
  rw [valV_put]
  by_cases e : pk q = pk p
  · rw [if_pos e]
    exact .inr ⟨n, rfl, h1, h2⟩
  · rw [if_neg e]
    exact h q
theorem r_slT {K : PySem.W.Frag} {H : Hp} {Q : VK} {p : Addr} {xs : List V} (h : SqT K H p xs) {k : Nat} (hk : k < xs.length) (q : ∀ b, H b = none → Q (.ref b) (upd H b (.tup (xs.take k)))) : rSlT K (.ref p) none (some (k : Int)) H Q := by
  refine ⟨p, xs, rfl, h, fun z => ?_, ?_⟩
  · have z2 := z.2
    rw [HT.sIx_nat] at z2
    omega
  · rw [cutV_to]
    exact q
section
variable {P : Program} {w : World} {K : PySem.W.Frag} {mg : Str → Option Value} {base : Heap}
def spHeightsIn (K : PySem.W.Frag) : Sp := fun vs H Q _ => ∃ (pa m : Addr) (l : List Str) (most : Int) (ys : List V) (ts : List ((Str × Str) × Int)), vs = [.ref pa, .ref m, .int most] ∧ H m = some (.dK (keysT l)) ∧ H pa = some (.tup ys) ∧ TripsAt H ys ts ∧ ys.length ≤ 1000 ∧
  (∀ H', Same H H' → Q .non H') ∧ ∀ H' q kvs, Same H H' → H' q = some (.dT kvs) → HtOk kvs most → Q (.ref q) H'
abbrev nHeightsIn : List Str := ["paper", "moods", "most", "found", "triple", "mood"]
theorem sc_heights_in : FnScope nHeightsIn ["paper", "moods", "most"] (defScope s_heights_in) := ⟨rfl, rfl, rfl, by decide +kernel, rfl, by decide +kernel, by decide +kernel⟩
theorem ok_heights_in (T : Txt K mg) : Fn P w K mg base 3 "heights_in" ["paper", "moods", "most"] (spHeightsIn K) := by
  have GB : Fn P w K mg base 2 "is_between" ["value", "least", "most"] spBetween := ok_is_between T
  refine T.d_heights_in.fn sc_heights_in (fun _ _ _ _ _ _ us hl => match us, hl with | [_, _, _], _ => rfl) (fun vs H Q E h => ?_) (fun cdv Ar outer s H vs Q E hr h => ?_)
  · obtain ⟨pa, m, l, most, ys, ts, rfl, _⟩ := h
    rfl
  · obtain ⟨pa, m, l, most, ys, ts, rfl, hm, hpa, hT, hn, kN, k⟩ := h
    refine ⟨_, pss_cons (ps_if (pt_not (pt_val (pe_isi (n := "tuple") T.f_isinstance (pv 0) T.f_tuple))) (pss_one (ps_ret pe_non)) pss_nil)
      (pss_cons (ps_set (i := 3) sc_heights_in.nd rfl (.inl rfl) pe_dnewT)
      (pss_cons (ps_for PassesOwn.never rfl (pi_tup (pv 0)) (pg_name (i := 4) sc_heights_in.nd rfl (.inl rfl))
        (pss_cons (ps_if (PW.pt (pw_or (pt_not (pt_val (pe_isi (n := "tuple") T.f_isinstance (pv 4) T.f_tuple))) (pw_or (pt_cmpR op_ne (pe_callB call_len_seq (by rfl) T.f_len PySem.boot_len (pa_cons (pv 4) pa_nil)) pe_int (nomark _))
            (pw_or1 (pt_not (pt_val (pcall GB hr (pa_cons (pe_ix ix_tup (pv 4) pe_int (fun _ _ => rfl)) (pa_cons pe_int (pa_cons (pv 2) pa_nil)))))))))) (pss_one (ps_ret pe_non)) pss_nil)
        (pss_cons (ps_if (PW.pt (pw_or (pt_not (pt_val (pe_callB (cr_all rfl) (by rfl) T.f_all (by decide +kernel) (pa_cons (pe_lc (own := [("mood", 5)]) (g := gName 5) (tt := tYes) (te := tAndV (tCB (rIsi K) (tCons (tVar 5) (tCons (tC (.ty "str")) tNil))) (tDIn (tVar 5) (tVar 1))) rfl sc_heights_in.nd (pi_tup (pe_slice sl_tup (pv 4) po_none (po_some pe_int))) (blkOk_by (N := nHeightsIn) (sc := defScope s_heights_in) (by decide +kernel))
              (fun _ _ _ _ _ => pg_name (i := 5) sc_heights_in.nd rfl (Or.inl rfl)) (fun _ _ _ _ _ => pts_nil)
              (fun _ _ _ _ _ => pe_and (pe_isi (n := "str") T.f_isinstance (pv 5) T.f_str) (pe_one (pe_cmp (pc_din (hu_of hr) (pv 5) (pv 1)) (by rfl))))) pa_nil))))
            (pw_or1 (pt_cmp (pc_din (hu_of hr) (pe_slice sl_tup (pv 4) po_none (po_some pe_int)) (pv 3)))))) (pss_one (ps_ret pe_non)) pss_nil)
        (pss_one (ps_dput (hu_of hr) (pv 3) (pe_slice sl_tup (pv 4) po_none (po_some pe_int)) (pe_ix ix_tup (pv 4) pe_int (fun _ _ => rfl)) rfl)))))
      (pss_one (ps_ret (pv 3))))), ?_⟩
    walk_at "rd"
    refine isi_tup hpa ?_
    walk_at "rd"
    refine iteF ?_
    walk_at "rd"
    walk_at "nw"
    rename_i fo nfo H1 e1 hfo
    walk_at "rd"
    refine ⟨pa, rfl, ⟨_, SqT.of (e1 _ _ hpa)⟩, ?_⟩
    have hl := Paired.length hT
    refine for_it (walk_tup (K := K) (a := pa) (xs := ys)) (fun i σ' H' => ∃ v4 v5 kvs, σ' = [some (.ref pa), some (.ref m), some (.int most), some (.ref fo), v4, v5] ∧ Same H H' ∧ H' fo = some (.dT kvs) ∧ kvs.length ≤ i ∧ HtOk kvs most)
      ⟨none, none, [], rfl, e1, hfo, Nat.le_refl _, HtOk.nil⟩ (fun i σ' H' _ q => ?_) ?_ ?_
    · obtain ⟨_, _, _, _, e, _⟩ := q
      exact SqT.of (e _ _ hpa)
    · rintro i x σ' H' H'' hi ⟨v4, v5, kvs, rfl, e2, hf, hk, hok⟩ ⟨rfl, hy⟩
      have hi2 : i < ts.length := by omega
      have hp : ts[i]? = some ts[i] := List.getElem?_eq_getElem hi2
      generalize ts[i] = t at hp
      obtain ⟨x', hx', b, rfl, hb⟩ := paired_get hT hp
      have ex := Option.some.inj (hy.symm.trans hx')
      subst ex
      have hb2 := e2 _ _ hb
      walk_at "rd"
      refine isi_tup hb2 ?_
      walk_at "rd"
      refine iteF ?_
      walk_at "rd"
      refine ⟨b, _, rfl, .inr (SqT.of hb2), ?_⟩
      walk_at "rd"
      refine iteF ?_
      walk_at "rd"
      refine r_ixT (v := .int t.2) (SqT.of hb2) (atI_nat (j := 2) rfl) ?_
      walk_at "rd"
      refine ⟨t.2, 1, most, rfl, ?_⟩
      walk_at "rd"
      by_cases hbt : 1 ≤ t.2 ∧ t.2 ≤ most
      · rw [decide_eq_true hbt.1, decide_eq_true hbt.2]
        refine iteF ?_
        walk_at "rd"
        refine r_slT (k := 2) (SqT.of hb2) (by show 2 < 3; decide) ?_
        walk_at "nw"
        rename_i q nq H3 e3 hq
        refine ⟨q, rfl, ⟨_, SqT.of hq⟩, ?_⟩
        refine lc_T (xs := [V.str t.1.1, V.str t.1.2]) (SqT.of hq) (fun _ => true) (fun x => match x with | .str z => .bl (decide (z ∈ l)) | _ => .non) (by show 2 < sizeLine; decide) (fun y => rfl) (fun x H' hx s Q q => ?_) (fun x H' hx hf s Q q => ?_) (fun q3 H4 nq3 e4 h4 => ?_)
        · walk_at "rd"
          exact q _ (Same.refl _)
        · obtain ⟨z, rfl⟩ : ∃ z, x = .str z := by
            rcases List.mem_cons.mp hx with rfl | hx
            · exact ⟨_, rfl⟩
            · exact ⟨_, List.mem_singleton.mp hx⟩
          walk_at "rd"
          refine isi_str ?_
          walk_at "rd"
          refine iteT ?_
          walk_at "rd"
          refine ⟨m, _, rfl, DGet.k (k := .inr z) (s _ _ (e3 _ _ (e2 _ _ hm))), ?_⟩
          rw [val_keysT]
          exact q _ (Same.refl _)
        rw [filter_all] at h4
        walk_at "rd"
        refine ⟨q3, [decide (t.1.1 ∈ l), decide (t.1.2 ∈ l)], rfl, SqL.of h4, ?_⟩
        walk_at "rd"
        have e34 := e3.trans e4
        cases hal : [decide (t.1.1 ∈ l), decide (t.1.2 ∈ l)].all id with
        | false =>
          refine iteT ?_
          refine iteT ?_
          walk_at "rd"
          exact kN _ (e2.trans e34)
        | true =>
          refine iteF ?_
          walk_at "rd"
          refine r_slT (k := 2) (SqT.of (e34 _ _ hb2)) (by show 2 < 3; decide) ?_
          walk_at "nw"
          rename_i q5 nq5 H5 e5 hq5
          walk_at "rd"
          refine ⟨fo, _, rfl, DGet.t (k := pk t.1) (e5 _ _ (e34 _ _ hf)) hq5, ?_⟩
          have e25 := (e2.trans e34).trans e5
          walk_at "rd"
          cases hs : (valV kvs (pk t.1)).isSome with
          | true =>
            refine iteT ?_
            walk_at "rd"
            exact kN _ e25
          | false =>
            refine iteF ?_
            walk_at "rd"
            refine r_ixT (v := .int t.2) (SqT.of (e5 _ _ (e34 _ _ hb2))) (atI_nat (j := 2) rfl) ?_
            walk_at "rd"
            refine r_slT (k := 2) (SqT.of (e5 _ _ (e34 _ _ hb2))) (by show 2 < 3; decide) ?_
            walk_at "nw"
            rename_i q6 nq6 H6 e6 hq6
            refine ⟨fo, _, rfl, DPut.t (k := pk t.1) (e6 _ _ (e5 _ _ (e34 _ _ hf))) hq6 (small1000 (by omega)), ?_⟩
            refine ⟨_, _, _, rfl, same_upd_new (e25.trans e6) nfo, upd_same, ?_, hok.put t.1 hbt.1 hbt.2⟩
            have := length_putK kvs (pk t.1) (V.int t.2)
            omega
      · have hf : (decide (1 ≤ t.2) && decide (t.2 ≤ most)) = false := by
          cases h : (decide (1 ≤ t.2) && decide (t.2 ≤ most)) with
          | false => rfl
          | true =>
            rw [Bool.and_eq_true] at h
            exact absurd ⟨of_decide_eq_true h.1, of_decide_eq_true h.2⟩ hbt
        rw [hf]
        refine iteT ?_
        walk_at "rd"
        exact kN _ e2
    · rintro σ' H' ⟨v4, v5, kvs, rfl, e2, hf, hk, hok⟩
      walk_at "rd"
      exact k _ fo kvs e2 hf hok
end
end K73

set_option Elab.async false
set_option linter.all false
set_option maxRecDepth 100000
set_option maxHeartbeats 4000000
namespace K73
open PySem PySem.Spec PyProof.Rows L2
local macro_rules | `(tactic| walk_at "rd") => `(tactic| repeat (first | with_reducible refine r_seq ?_ | with_reducible refine r_asg ?_ | with_reducible refine r_ret ?_ | with_reducible refine r_op ?_ | with_reducible refine r_var (by with_unfolding_all rfl) ?_ | with_reducible refine r_c ?_ | with_reducible refine r_cons ?_ | with_reducible refine r_nil ?_ | with_reducible refine r_gname ?_ | with_reducible refine r_ifS ?_ | with_reducible refine r_test ?_ | with_reducible refine r_bl ?_ | with_reducible refine r_I0 ?_ | with_reducible refine r_cb ?_ | with_reducible refine r_cl ?_ | with_reducible refine r_tup ?_ | with_reducible refine r_lst ?_ | with_reducible refine r_gsub ?_ | with_reducible refine r_gcons ?_ | with_reducible refine r_gnil ?_ | with_reducible refine r_drop ?_ | with_reducible refine r_next ?_ | with_reducible refine r_par ?_ | with_reducible refine r_par2 ?_ | with_reducible refine r_and ?_ | with_reducible refine r_or ?_ | with_reducible refine r_not ?_ | with_reducible refine r_yes ?_ | with_reducible refine r_andV ?_ | with_reducible refine r_orV ?_ | with_reducible refine r_notV ?_ | with_reducible refine r_if ?_ | with_reducible refine r_chain ?_ | with_reducible refine r_U ?_ | with_reducible refine r_un ?_ | with_reducible refine r_eq (by with_unfolding_all rfl) ?_ | with_reducible refine r_ne (by with_unfolding_all rfl) ?_ | with_reducible refine r_int ?_ | with_reducible refine r_sl ?_ | with_reducible refine r_nopart ?_ | with_reducible refine r_part ?_ | with_reducible refine r_exI ?_ | with_reducible refine r_dget ?_ | with_reducible refine r_din ?_ | with_reducible refine r_dnotin ?_ | with_reducible refine r_dput ?_ | with_reducible refine r_isN ?_ | with_reducible refine r_notN ?_ | with_reducible refine r_bm ?_ | with_reducible refine r_bm0 ?_ | with_reducible refine r_retN ?_ | with_reducible refine r_lc ?_ | with_reducible refine r_for ?_ | with_reducible refine r_iStr ?_ | with_reducible refine r_exS ?_ | with_reducible refine r_iList ?_ | with_reducible refine r_iTup ?_ | with_reducible refine r_iRng ?_ | with_reducible refine r_m1 ?_ | with_reducible refine r_strM ?_ | with_reducible refine r_tB ?_ | with_reducible refine r_dc ?_ | with_reducible refine r_iZipS ?_ | with_reducible refine r_lc2 ?_ | with_reducible refine r_iZip ?_ | with_reducible refine r_tCmp ?_ | with_reducible refine r_newT ?_ | with_reducible refine r_newK ?_ | with_reducible refine r_sfld ?_ | with_reducible refine r_fld ?_ | with_reducible refine r_make ?_ | with_reducible refine r_pr ?_ | with_reducible refine r_dt ?_))
local macro_rules | `(tactic| walk_at "nw") => `(tactic| (intro q nq; generalize hH : upd _ q _ = H1; have s1 := same_upd_eq nq hH; have hq := upd_eq hH; clear hH))
/-! ### a pair as heights need it -/
structure Settled (B : Box) (l : List Str) (kvs : List (List Key × V)) (x y : Str) : Prop where
  n1 : valV kvs (pk (x, y)) = none → (x ∈ B.fn ↔ y ∈ B.fn)
  n2 : valV kvs (pk (x, y)) = none → ∀ c ∈ B.sg, (B.gl x c ∈ l ↔ B.gl y c ∈ l) ∧ (B.gl x c ∈ l → valV kvs (pk (B.gl x c, B.gl y c)) = none)
  s : ∀ n : Int, valV kvs (pk (x, y)) = some (.int n) → ∀ c ∈ B.sg, B.gl x c ∈ l → B.gl y c ∈ l → ∀ m : Int, valV kvs (pk (B.gl x c, B.gl y c)) = some (.int m) → m < n
theorem Rd.same {H H' : Hp} {a : Addr} {u : HO} (h : Rd H a u) (s : Same H H') : Rd H' a u := by
  rcases h with h | ⟨o, h⟩
  · exact .inl (s _ _ h)
  · exact .inr ⟨o, s _ _ h⟩
theorem r_dget2 {σ : L2.St} {H : Hp} {Q : VK} {td ty tx : TE} (h : td σ H fun x H1 => ∃ a, x = .ref a ∧ IsD H1 a ∧ ty σ H1 fun y H2 => tx σ H2 fun z H3 => ∃ o, DGet H3 a y o ∧ Q (o.getD z) H3) : tDGet2 td ty tx σ H Q := h
theorem some_or {α : Type} (o : Option α) : (o = none ∧ o.isSome = false) ∨ ∃ v, o = some v ∧ o.isSome = true := by
  cases o with
  | none => exact .inl ⟨rfl, rfl⟩
  | some v => exact .inr ⟨v, rfl, rfl⟩
theorem DGet.rk {H : Hp} {a : Addr} {kvs : List (Key × V)} {k : Key} (e : Rd H a (.dK kvs)) : DGet H a (kV k) (valV kvs k) := .inl ⟨kvs, k, e, rfl, rfl⟩
section
variable {P : Program} {w : World} {K : PySem.W.Frag} {mg : Str → Option Value} {base : Heap}
def spSettled (K : PySem.W.Frag) : Sp := fun vs H Q _ => ∃ (p b m hd : Addr) (B : Box) (x y : Str) (l : List Str) (kvs : List (List Key × V)) (most : Int), vs = [.ref p, .ref b, .ref m, .ref hd] ∧ RuleAt K H p B ∧ B.Ok ∧ H b = some (.tup [.str x, .str y]) ∧ x ∈ B.tg ∧ y ∈ B.tg ∧ Rd H m (.dK (keysT l)) ∧
  H hd = some (.dT kvs) ∧ HtOk kvs most ∧ ∀ H' r, Same H H' → (r = true → Settled B l kvs x y) → Q (.bl r) H'
abbrev nSettled : List Str := ["rule", "pair", "moods", "heights", "one", "other", "sign", "goal", "inside", "mood"]
theorem sc_is_settled : FnScope nSettled ["rule", "pair", "moods", "heights"] (defScope s_is_settled) := ⟨rfl, rfl, rfl, by decide +kernel, rfl, by decide +kernel, by decide +kernel⟩
theorem ok_is_settled (T : Txt K mg) : Fn P w K mg base 3 "is_settled" ["rule", "pair", "moods", "heights"] (spSettled K) := by
  have G : Fn P w K mg base 2 "goal_of" ["rule", "mood", "sign"] (spGoalOf K) := (ok_goal_of T).mono (by decide)
  have GF : Gt P w K mg base "good" (spGood K) := ok_good T
  have GS : Gt P w K mg base "signs" (spSigns K) := ok_signs T
  refine T.d_is_settled.fn sc_is_settled (fun _ _ _ _ _ _ us hl => match us, hl with | [_, _, _, _], _ => rfl) (fun vs H Q E h => ?_) (fun cdv Ar outer s H vs Q E hr h => ?_)
  · obtain ⟨p, b, m, hd, B, x, y, l, kvs, most, rfl, _⟩ := h
    rfl
  · obtain ⟨p, b, m, hd, B, x, y, l, kvs, most, rfl, hR, ok, hb, hx, hy, hm, hh, hto, k⟩ := h
    have hr2 : Room (0 + 2) _ := hr
    refine ⟨_, pss_cons (ps_asg (pv 1) (pg_tup rfl (pgs_cons (pg_name (i := 4) sc_is_settled.nd rfl (.inl rfl)) (pgs_cons (pg_name (i := 5) sc_is_settled.nd rfl (.inl rfl)) pgs_nil))))
      (pss_cons (ps_if (PW.pt (pw_and (pt_cmp (pc_dnotin (hu_of hr) (pv 1) (pv 3))) (pw_and1 (pt_cmpR op_ne (pe_cmpR op_in_seq (pv 4) (pprop GF hr2 (pv 0)) (by rfl)) (pe_cmpR op_in_seq (pv 5) (pprop GF hr2 (pv 0)) (by rfl)) (nomark _))))) (pss_one (ps_ret pe_bl)) pss_nil)
      (pss_cons (ps_for PassesOwn.never rfl (pi_str (pprop GS hr2 (pv 0))) (pg_name (i := 6) sc_is_settled.nd rfl (.inl rfl))
        (pss_cons (ps_set (i := 7) sc_is_settled.nd rfl (.inl rfl) (pe_tup (pa_cons (pcall G hr (pa_cons (pv 0) (pa_cons (pv 4) (pa_cons (pv 6) pa_nil)))) (pa_cons (pcall G hr (pa_cons (pv 0) (pa_cons (pv 5) (pa_cons (pv 6) pa_nil)))) pa_nil))))
        (pss_cons (ps_setLc (i := 8) (own := [("mood", 9)]) (g := gName 9) (tt := tYes) (te := tDIn (tVar 9) (tVar 2)) rfl sc_is_settled.nd rfl rfl (sw_true rfl rfl rfl (by decide +kernel)) (pi_tup (pv 7)) (blkOk_by (N := nSettled) (sc := defScope s_is_settled) (by decide +kernel))
            (fun _ _ _ _ _ => pg_name (i := 9) sc_is_settled.nd rfl (Or.inl rfl)) (fun _ _ _ _ _ => pts_nil) (fun _ _ _ _ _ => pe_cmp (pc_din (hu_of hr) (pv 9) (pv 2)) (by rfl)))
        (pss_cons (ps_if (PW.pt (pw_and (pt_cmp (pc_dnotin (hu_of hr) (pv 1) (pv 3))) (pw_and1 (PW.pt (pw_or (pt_cmpR op_ne (pe_ix ix_list (pv 8) pe_int (fun _ _ => rfl)) (pe_ix ix_list (pv 8) pe_int (fun _ _ => rfl)) (nomark _)) (pw_or1 (PW.pt (pw_and (pt_val (pe_ix ix_list (pv 8) pe_int (fun _ _ => rfl))) (pw_and1 (pt_cmp (pc_din (hu_of hr) (pv 7) (pv 3)))))))))))) (pss_one (ps_ret pe_bl)) pss_nil)
        (pss_one (ps_if (PW.pt (pw_and (pt_cmp (pc_din (hu_of hr) (pv 1) (pv 3))) (pw_and (pt_cmpR (op_eqD hr.units) (pv 8) (pe_lst (pa_cons pe_bl (pa_cons pe_bl pa_nil))) (nomark _)) (pw_and1 (pt_cmpR op_ge (pe_dget2 (hu_of hr) (pv 3) (pv 7) pe_int ⟨by rfl, by rfl, by rfl, by rfl⟩) (pe_dget (hu_of hr) (pv 3) (pv 1) (fun _ _ => rfl)) (nomark _)))))) (pss_one (ps_ret pe_bl)) pss_nil))))))
      (pss_one (ps_ret pe_bl)))), ?_⟩
    walk_at "rd"
    refine ⟨b, _, rfl, SqT.of hb, rfl, ?_⟩
    walk_at "rd"
    have gP : ∀ H', Same H H' → DGet H' hd (.ref b) (valV kvs (pk (x, y))) := fun H' s => DGet.t (k := pk (x, y)) (s _ _ hh) (s _ _ hb)
    refine ⟨hd, _, rfl, gP _ (Same.refl _), ?_⟩
    walk_at "rd"
    apply with_rest (A := valV kvs (pk (x, y)) = none → (x ∈ B.fn ↔ y ∈ B.fn))
    · intro main
      rcases some_or (valV kvs (pk (x, y))) with ⟨hv, hs⟩ | ⟨v, hv, hs⟩
      case inr =>
        rw [hs]
        refine iteF ?_
        refine iteF ?_
        exact main fun z => by rw [hv] at z; cases z
      case inl =>
        rw [hs]
        refine iteT ?_
        walk_at "rd"
        refine r_good hR (fun fi hfi => ?_)
        walk_at "rd"
        refine r_inL (.inr (SqT.of hfi)) ?_
        walk_at "rd"
        refine r_good hR (fun fi hfi => ?_)
        walk_at "rd"
        refine r_inL (.inr (SqT.of hfi)) ?_
        walk_at "rd"
        by_cases hxy : (x ∈ B.fn ↔ y ∈ B.fn)
        · have e : (!decide (V.bl (decide (x ∈ B.fn)) = V.bl (decide (y ∈ B.fn)))) = false := by
            have : decide (x ∈ B.fn) = decide (y ∈ B.fn) := decide_eq_decide.mpr hxy
            rw [this]
            simp
          rw [e]
          refine iteF ?_
          exact main fun _ => hxy
        · have e : (!decide (V.bl (decide (x ∈ B.fn)) = V.bl (decide (y ∈ B.fn)))) = true := by
            have : ¬ (decide (x ∈ B.fn) = decide (y ∈ B.fn)) := fun z => hxy (decide_eq_decide.mp z)
            rw [decide_eq_false (fun z => this (V.bl.inj z))]
            rfl
          rw [e]
          refine iteT ?_
          walk_at "rd"
          exact k _ false (Same.refl _) (fun z => by cases z)
    intro hfine
    walk_at "rd"
    refine r_signs hR ?_
    walk_at "rd"
    have esz : (tx B.sg).cps.size = B.sg.length := by simp [tx]
    refine for_it (walk_str (z := tx B.sg)) (fun i σ' H' => ∃ v6 v7 v8 v9, σ' = [some (.ref p), some (.ref b), some (.ref m), some (.ref hd), some (.str x), some (.str y), v6, v7, v8, v9] ∧ Same H H' ∧ ∀ c ∈ B.sg.take i,
        (valV kvs (pk (x, y)) = none → (B.gl x c ∈ l ↔ B.gl y c ∈ l) ∧ (B.gl x c ∈ l → valV kvs (pk (B.gl x c, B.gl y c)) = none)) ∧
        ∀ n : Int, valV kvs (pk (x, y)) = some (.int n) → B.gl x c ∈ l → B.gl y c ∈ l → ∀ m : Int, valV kvs (pk (B.gl x c, B.gl y c)) = some (.int m) → m < n)
      ⟨none, none, none, none, rfl, Same.refl _, by intro c hc; cases hc⟩ (fun i σ' H' _ q => trivial) ?_ ?_
    · rintro i x0 σ' H' H'' hi ⟨v6, v7, v8, v9, rfl, e1, hg⟩ ⟨rfl, c, hc0, rfl⟩
      have hc' : B.sg[i]? = some c := by simpa [tx] using hc0
      have hc : c ∈ B.sg := List.mem_of_getElem? hc'
      walk_at "rd"
      refine ⟨p, B, x, c, rfl, hR.same e1, hx, hc, fun H2 e2 => ?_⟩
      walk_at "rd"
      refine ⟨p, B, y, c, rfl, hR.same (e1.trans e2), hy, hc, fun H3 e3 => ?_⟩
      walk_at "rd"
      refine ⟨by show 2 ≤ sizeLine; decide, ?_⟩
      walk_at "nw"
      rename_i q7 nq7 H4 e4 hq7
      walk_at "rd"
      refine ⟨q7, rfl, ⟨_, SqT.of hq7⟩, ?_⟩
      have s4 := ((e1.trans e2).trans e3).trans e4
      generalize hgx : B.gl x c = gx at *
      generalize hgy : B.gl y c = gy at *
      refine lc_T (xs := [V.str gx, V.str gy]) (SqT.of hq7) (fun _ => true) (fun x => match x with | .str z => .bl (decide (z ∈ l)) | _ => .non) (by show 2 < sizeLine; decide) (fun y => rfl) (fun x H' hx s Q q => ?_) (fun x H' hx hf s Q q => ?_) (fun q8 H5 nq8 e5 h8 => ?_)
      · walk_at "rd"
        exact q _ (Same.refl _)
      · obtain ⟨z, rfl⟩ : ∃ z, x = .str z := by
          rcases List.mem_cons.mp hx with rfl | hx
          · exact ⟨_, rfl⟩
          · exact ⟨_, List.mem_singleton.mp hx⟩
        walk_at "rd"
        refine ⟨m, _, rfl, DGet.rk (k := .inr z) (Rd.same hm (s4.trans s)), ?_⟩
        rw [val_keysT]
        exact q _ (Same.refl _)
      rw [filter_all] at h8
      have h8 : H5 q8 = some (.lst [.bl (decide (gx ∈ l)), .bl (decide (gy ∈ l))]) := h8
      have s5 := s4.trans e5
      have hq75 := e5 _ _ hq7
      have gG : ∀ H', Same H5 H' → DGet H' hd (.ref q7) (valV kvs (pk (gx, gy))) := fun H' s => DGet.t (k := pk (gx, gy)) (s _ _ (s5 _ _ hh)) (s _ _ hq75)
      walk_at "rd"
      refine ⟨hd, _, rfl, gP _ s5, ?_⟩
      walk_at "rd"
      apply with_rest (A := valV kvs (pk (x, y)) = none → (gx ∈ l ↔ gy ∈ l) ∧ (gx ∈ l → valV kvs (pk (gx, gy)) = none))
      · intro main
        rcases some_or (valV kvs (pk (x, y))) with ⟨hv, hs⟩ | ⟨v, hv, hs⟩
        case inr =>
          rw [hs]
          refine iteF ?_
          refine iteF ?_
          exact main fun z => by rw [hv] at z; cases z
        case inl =>
          rw [hs]
          refine iteT ?_
          walk_at "rd"
          refine r_ixL (v := .bl (decide (gx ∈ l))) (SqL.of h8) (atI_nat (j := 0) rfl) ?_
          walk_at "rd"
          refine r_ixL (v := .bl (decide (gy ∈ l))) (SqL.of h8) (atI_nat (j := 1) rfl) ?_
          walk_at "rd"
          by_cases hxy : (gx ∈ l ↔ gy ∈ l)
          · have e : (!decide (V.bl (decide (gx ∈ l)) = V.bl (decide (gy ∈ l)))) = false := by
              have : decide (gx ∈ l) = decide (gy ∈ l) := decide_eq_decide.mpr hxy
              rw [this]
              simp
            rw [e]
            refine iteF ?_
            walk_at "rd"
            refine r_ixL (v := .bl (decide (gx ∈ l))) (SqL.of h8) (atI_nat (j := 0) rfl) ?_
            walk_at "rd"
            by_cases hgl : gx ∈ l
            · rw [decide_eq_true hgl]
              refine iteT ?_
              walk_at "rd"
              refine ⟨hd, _, rfl, gG _ (Same.refl _), ?_⟩
              walk_at "rd"
              rcases some_or (valV kvs (pk (gx, gy))) with ⟨hw, hs2⟩ | ⟨v, hw, hs2⟩
              case inr =>
                rw [hs2]
                refine iteT ?_
                walk_at "rd"
                exact k _ false s5 (fun z => by cases z)
              case inl =>
                rw [hs2]
                refine iteF ?_
                exact main fun _ => ⟨hxy, fun _ => hw⟩
            · rw [decide_eq_false hgl]
              refine iteF ?_
              refine iteF ?_
              exact main fun _ => ⟨hxy, fun z => absurd z hgl⟩
          · have e : (!decide (V.bl (decide (gx ∈ l)) = V.bl (decide (gy ∈ l)))) = true := by
              have : ¬ (decide (gx ∈ l) = decide (gy ∈ l)) := fun z => hxy (decide_eq_decide.mp z)
              rw [decide_eq_false (fun z => this (V.bl.inj z))]
              rfl
            rw [e]
            refine iteT ?_
            refine iteT ?_
            walk_at "rd"
            exact k _ false s5 (fun z => by cases z)
      intro hn2
      walk_at "rd"
      refine ⟨hd, _, rfl, gP _ s5, ?_⟩
      walk_at "rd"
      have fin : ∀ H6, Same H5 H6 → (∀ n : Int, valV kvs (pk (x, y)) = some (.int n) → gx ∈ l → gy ∈ l → ∀ m : Int, valV kvs (pk (gx, gy)) = some (.int m) → m < n) →
          ∃ v6 v7 v8 v9' : Option V, ([some (.ref p), some (.ref b), some (.ref m), some (.ref hd), some (.str x), some (.str y), some (.str (⟨#[c]⟩ : Str)), some (.ref q7), some (.ref q8), v9] : L2.St) = [some (.ref p), some (.ref b), some (.ref m), some (.ref hd), some (.str x), some (.str y), v6, v7, v8, v9'] ∧ Same H H6 ∧ ∀ c ∈ B.sg.take (i + 1),
            (valV kvs (pk (x, y)) = none → (B.gl x c ∈ l ↔ B.gl y c ∈ l) ∧ (B.gl x c ∈ l → valV kvs (pk (B.gl x c, B.gl y c)) = none)) ∧
            ∀ n : Int, valV kvs (pk (x, y)) = some (.int n) → B.gl x c ∈ l → B.gl y c ∈ l → ∀ m : Int, valV kvs (pk (B.gl x c, B.gl y c)) = some (.int m) → m < n := fun H6 e6 h6 => by
        refine ⟨_, _, _, _, rfl, s5.trans e6, fun c' hc'' => ?_⟩
        rcases mem_take_succ hc' hc'' with h | rfl
        · exact hg c' h
        · rw [hgx, hgy]
          exact ⟨hn2, h6⟩
      rcases some_or (valV kvs (pk (x, y))) with ⟨hv, hs⟩ | ⟨v, hv, hs⟩
      case inl =>
        rw [hs]
        refine iteF ?_
        refine iteF ?_
        walk_at "rd"
        exact fin _ (Same.refl _) fun n z => by rw [hv] at z; cases z
      rw [hs]
      obtain ⟨n, en⟩ : ∃ n : Int, v = .int n := by
        rcases hto (x, y) with h | ⟨n, h, _⟩
        · rw [hv] at h; cases h
        · rw [hv] at h; exact ⟨n, Option.some.inj h⟩
      subst en
      refine iteT ?_
      walk_at "rd"
      refine ⟨by show 2 ≤ sizeLine; decide, ?_⟩
      walk_at "nw"
      rename_i q9 nq9 H6 e6 hq9
      refine ⟨_, _, .lst (SqL.of (e6 _ _ h8)) (.cons (.bl _) (.cons (.bl _) .nil)), .lst (SqL.of hq9) (.cons (.bl _) (.cons (.bl _) .nil)), by cases decide (gx ∈ l) <;> cases decide (gy ∈ l) <;> decide +kernel, by decide +kernel, ?_⟩
      by_cases hboth : gx ∈ l ∧ gy ∈ l
      · rw [decide_eq_true hboth.1, decide_eq_true hboth.2]
        have e7 : PyData.eqv (.list [.bool true, .bool true]) (.list [.bool true, .bool true]) = true := by decide +kernel
        rw [e7]
        walk_at "rd"
        refine iteT ?_
        walk_at "rd"
        refine r_dget2 ?_
        walk_at "rd"
        refine ⟨hd, rfl, .inr ⟨kvs, .inl (e6 _ _ (s5 _ _ hh))⟩, ?_⟩
        walk_at "rd"
        refine ⟨_, gG _ e6, ?_⟩
        walk_at "rd"
        refine ⟨hd, .int n, rfl, ?_, ?_⟩
        · rw [← hv]
          exact gP _ (s5.trans e6)
        obtain ⟨j, ej, hj⟩ : ∃ j : Int, (valV kvs (pk (gx, gy))).getD (.int 0) = .int j ∧ ∀ m : Int, valV kvs (pk (gx, gy)) = some (.int m) → m = j := by
          rcases hto (gx, gy) with h | ⟨j, h, _⟩
          · exact ⟨0, by rw [h]; rfl, fun m z => by rw [h] at z; cases z⟩
          · exact ⟨j, by rw [h]; rfl, fun m z => by rw [h] at z; exact (V.int.inj (Option.some.inj z)).symm⟩
        rw [ej]
        walk_at "rd"
        by_cases hnj : n ≤ j
        · rw [decide_eq_true hnj]
          refine iteT ?_
          walk_at "rd"
          exact k _ false (s5.trans e6) (fun z => by cases z)
        · rw [decide_eq_false hnj]
          refine iteF ?_
          walk_at "rd"
          exact fin _ e6 fun n' z _ _ m' z' => by
            rw [hv] at z
            have h1 := V.int.inj (Option.some.inj z)
            have h2 := hj m' z'
            omega
      · have e7 : PyData.eqv (.list [.bool (decide (gx ∈ l)), .bool (decide (gy ∈ l))]) (.list [.bool true, .bool true]) = false := by
          by_cases h1 : gx ∈ l
          · have h2 : ¬ gy ∈ l := fun z => hboth ⟨h1, z⟩
            rw [decide_eq_true h1, decide_eq_false h2]
            decide +kernel
          · rw [decide_eq_false h1]
            cases decide (gy ∈ l) <;> decide +kernel
        rw [e7]
        walk_at "rd"
        refine iteF ?_
        refine iteF ?_
        walk_at "rd"
        exact fin _ e6 fun n' _ h1 h2 => absurd ⟨h1, h2⟩ hboth
    · rintro σ' H' ⟨v6, v7, v8, v9, rfl, e1, hg⟩
      rw [esz, List.take_length] at hg
      walk_at "rd"
      exact k _ true e1 (fun _ => ⟨hfine, fun z c hc => (hg c hc).1 z, fun n z c hc => (hg c hc).2 n z⟩)
end
end K73

set_option Elab.async false
set_option linter.all false
set_option maxRecDepth 100000
set_option maxHeartbeats 4000000
namespace K73
open PySem PySem.Spec PyProof.Rows L2
local macro_rules | `(tactic| walk_at "rd") => `(tactic| repeat (first | with_reducible refine r_seq ?_ | with_reducible refine r_asg ?_ | with_reducible refine r_ret ?_ | with_reducible refine r_op ?_ | with_reducible refine r_var (by with_unfolding_all rfl) ?_ | with_reducible refine r_c ?_ | with_reducible refine r_cons ?_ | with_reducible refine r_nil ?_ | with_reducible refine r_gname ?_ | with_reducible refine r_ifS ?_ | with_reducible refine r_test ?_ | with_reducible refine r_bl ?_ | with_reducible refine r_I0 ?_ | with_reducible refine r_cb ?_ | with_reducible refine r_cl ?_ | with_reducible refine r_tup ?_ | with_reducible refine r_lst ?_ | with_reducible refine r_gsub ?_ | with_reducible refine r_gcons ?_ | with_reducible refine r_gnil ?_ | with_reducible refine r_drop ?_ | with_reducible refine r_next ?_ | with_reducible refine r_par ?_ | with_reducible refine r_par2 ?_ | with_reducible refine r_and ?_ | with_reducible refine r_or ?_ | with_reducible refine r_not ?_ | with_reducible refine r_yes ?_ | with_reducible refine r_andV ?_ | with_reducible refine r_orV ?_ | with_reducible refine r_notV ?_ | with_reducible refine r_if ?_ | with_reducible refine r_chain ?_ | with_reducible refine r_U ?_ | with_reducible refine r_un ?_ | with_reducible refine r_eq (by with_unfolding_all rfl) ?_ | with_reducible refine r_ne (by with_unfolding_all rfl) ?_ | with_reducible refine r_int ?_ | with_reducible refine r_sl ?_ | with_reducible refine r_nopart ?_ | with_reducible refine r_part ?_ | with_reducible refine r_exI ?_ | with_reducible refine r_dget ?_ | with_reducible refine r_din ?_ | with_reducible refine r_dnotin ?_ | with_reducible refine r_dput ?_ | with_reducible refine r_isN ?_ | with_reducible refine r_notN ?_ | with_reducible refine r_bm ?_ | with_reducible refine r_bm0 ?_ | with_reducible refine r_retN ?_ | with_reducible refine r_lc ?_ | with_reducible refine r_for ?_ | with_reducible refine r_iStr ?_ | with_reducible refine r_exS ?_ | with_reducible refine r_iList ?_ | with_reducible refine r_iTup ?_ | with_reducible refine r_iRng ?_ | with_reducible refine r_m1 ?_ | with_reducible refine r_strM ?_ | with_reducible refine r_tB ?_ | with_reducible refine r_dc ?_ | with_reducible refine r_iZipS ?_ | with_reducible refine r_lc2 ?_ | with_reducible refine r_iZip ?_ | with_reducible refine r_tCmp ?_ | with_reducible refine r_newT ?_ | with_reducible refine r_newK ?_ | with_reducible refine r_sfld ?_ | with_reducible refine r_fld ?_ | with_reducible refine r_make ?_ | with_reducible refine r_pr ?_ | with_reducible refine r_dt ?_))
local macro_rules | `(tactic| walk_at "nw") => `(tactic| (intro q nq; generalize hH : upd _ q _ = H1; have s1 := same_upd_eq nq hH; have hq := upd_eq hH; clear hH))
def htOf (kvs : List (List Key × V)) (p q : Str) : Option Int := match valV kvs (pk (p, q)) with
  | some (.int n) => some n
  | _ => none
theorem htOf_some {kvs : List (List Key × V)} {p q : Str} {n : Int} (h : htOf kvs p q = some n) : valV kvs (pk (p, q)) = some (.int n) := by
  unfold htOf at h
  split at h
  · rename_i m e
    rw [e]
    cases h
    rfl
  · cases h
theorem htOf_none {kvs : List (List Key × V)} {most : Int} (o : HtOk kvs most) {p q : Str} (h : htOf kvs p q = none) : valV kvs (pk (p, q)) = none := by
  rcases o (p, q) with e | ⟨n, e, _⟩
  · exact e
  · unfold htOf at h
    rw [e] at h
    cases h
theorem htOf_of_none {kvs : List (List Key × V)} {p q : Str} (h : valV kvs (pk (p, q)) = none) : htOf kvs p q = none := by
  unfold htOf
  rw [h]
theorem hts_of {B : Box} {l : List Str} {kvs : List (List Key × V)} {most : Int} (o : HtOk kvs most) (h : ∀ x ∈ l, ∀ y ∈ l, Settled B l kvs x y) : Hts B (· ∈ l) (htOf kvs) most where
  rng p q n e := by
    have e := htOf_some e
    rcases o (p, q) with z | ⟨m, z, h1, h2⟩
    · rw [z] at e; cases e
    · rw [z] at e
      have := V.int.inj (Option.some.inj e)
      omega
  fine p q hp hq e := (h p hp q hq).n1 (htOf_none o e)
  side p q hp hq e c hc := by
    have z := (h p hp q hq).n2 (htOf_none o e) c hc
    exact ⟨z.1, fun hl => htOf_of_none (z.2 hl)⟩
  down p q n hp hq e c hc h1 h2 m em := (h p hp q hq).s n (htOf_some e) c hc h1 h2 m (htOf_some em)
theorem RuleAt.but {K : PySem.W.Frag} {H H' : Hp} {p m : Addr} {B : Box} {kvs : List (Key × V)} (h : RuleAt K H p B) (e : But m H H') (hm : H m = some (.dK kvs)) : RuleAt K H' p B := by
  obtain ⟨dx, fs, q, h1, h2, dy, gs, tm, fi, gd, kv2, a1, a2, a3, a4, a5, a6, a7, a8, a9⟩ := h
  exact ⟨dx, fs, q, e _ _ (ne_of h1 hm (by intro z; cases z)) h1, h2, dy, gs, tm, fi, gd, kv2, e _ _ (ne_of a1 hm (by intro z; cases z)) a1, a2, a3, a4, a5, e _ _ (ne_of a6 hm (by intro z; cases z)) a6, e _ _ (ne_of a7 hm (by intro z; cases z)) a7, e _ _ (ne_of a8 hm (by intro z; cases z)) a8, a9⟩
section
variable {P : Program} {w : World} {K : PySem.W.Frag} {mg : Str → Option Value} {base : Heap}
def spShowsHeights (K : PySem.W.Frag) : Sp := fun vs H Q _ => ∃ (pa p m : Addr) (B : Box) (l : List Str) (most : Int) (ys : List V) (ts : List ((Str × Str) × Int)), vs = [.ref pa, .ref p, .ref m, .int most] ∧ RuleAt K H p B ∧ B.Ok ∧ H m = some (.dK (keysT l)) ∧ (∀ t ∈ l, t ∈ B.tg) ∧
  H pa = some (.tup ys) ∧ TripsAt H ys ts ∧ ys.length ≤ 1000 ∧ ∀ H' b, Same H H' → (b = true → ∃ ht, Hts B (· ∈ l) ht most) → Q (.bl b) H'
abbrev nShowsHeights : List Str := ["paper", "rule", "moods", "most", "heights", "one", "other"]
theorem sc_shows_heights : FnScope nShowsHeights ["paper", "rule", "moods", "most"] (defScope s_shows_heights) := ⟨rfl, rfl, rfl, by decide +kernel, rfl, by decide +kernel, by decide +kernel⟩
theorem r_iKeys {σ : L2.St} {H : Hp} {td : TE} {R : It → Hp → Prop} (h : td σ H fun x H1 => ∃ d o, x = .ref d ∧ ((∃ kvs, H1 d = some (.frz o (.dK kvs)) ∧ R (Itk d o kvs) H1) ∨ ∃ kvs, H1 d = some (.frz o (.dT kvs)) ∧ R (Itkt d o kvs) H1)) : iKeys td σ H R := h
theorem keysT_at {l : List Str} {i : Nat} {k : Key} {v : V} (h : (keysT l)[i]? = some (k, v)) : ∃ t, l[i]? = some t ∧ k = .inr t := by
  unfold keysT at h
  rw [List.getElem?_map] at h
  cases e : l[i]? with
  | none => rw [e] at h; cases h
  | some t =>
    rw [e] at h
    have := Option.some.inj h
    cases this
    exact ⟨t, rfl, rfl⟩
theorem ok_shows_heights (T : Txt K mg) : Fn P w K mg base 4 "shows_heights" ["paper", "rule", "moods", "most"] (spShowsHeights K) := by
  have GH : Fn P w K mg base 3 "heights_in" ["paper", "moods", "most"] (spHeightsIn K) := ok_heights_in T
  have GS : Fn P w K mg base 3 "is_settled" ["rule", "pair", "moods", "heights"] (spSettled K) := ok_is_settled T
  refine T.d_shows_heights.fn sc_shows_heights (fun _ _ _ _ _ _ us hl => match us, hl with | [_, _, _, _], _ => rfl) (fun vs H Q E h => ?_) (fun cdv Ar outer s H vs Q E hr h => ?_)
  · obtain ⟨pa, p, m, B, l, most, ys, ts, rfl, _⟩ := h
    rfl
  · obtain ⟨pa, p, m, B, l, most, ys, ts, rfl, hR, ok, hm, sub, hpa, hT, hn, k⟩ := h
    refine ⟨_, pss_cons (ps_set (i := 4) sc_shows_heights.nd rfl (.inl rfl) (pcall GH hr (pa_cons (pv 0) (pa_cons (pv 2) (pa_cons (pv 3) pa_nil)))))
      (pss_cons (ps_if (pt_cmpR op_isN (pv 4) pe_non (nomark _)) (pss_one (ps_ret pe_bl)) pss_nil)
      (pss_cons (ps_lock (ps_for PassesOwn.never rfl (pi_keys (pv 2)) (pg_name (i := 5) sc_shows_heights.nd rfl (.inl rfl))
        (pss_one (ps_for PassesOwn.never rfl (pi_keys (pv 2)) (pg_name (i := 6) sc_shows_heights.nd rfl (.inl rfl))
          (pss_one (ps_if (pt_not (pt_val (pcall GS hr (pa_cons (pv 1) (pa_cons (pe_tup (pa_cons (pv 5) (pa_cons (pv 6) pa_nil))) (pa_cons (pv 2) (pa_cons (pv 4) pa_nil))))))) (pss_one (ps_ret pe_bl)) pss_nil))))))
      (pss_one (ps_ret pe_bl)))), ?_⟩
    walk_at "rd"
    refine ⟨pa, m, l, most, ys, ts, rfl, hm, hpa, hT, hn, fun H1 e1 => ?_, fun H1 hd kvs e1 hhd hto => ?_⟩
    · walk_at "rd"
      refine ⟨rfl, ?_⟩
      walk_at "rd"
      refine iteT ?_
      walk_at "rd"
      exact k _ false e1 (fun z => by cases z)
    · walk_at "rd"
      refine ⟨rfl, ?_⟩
      walk_at "rd"
      refine iteF ?_
      walk_at "rd"
      have hm1 := e1 _ _ hm
      refine ⟨m, _, hm1, trivial, fun od => ?_⟩
      generalize hHf : upd H1 m (.frz od (.dK (keysT l))) = Hf
      have bf : But m H1 Hf := hHf ▸ But.upd
      have hmf : Hf m = some (.frz od (.dK (keysT l))) := hHf ▸ upd_same
      clear hHf
      have Rf := (hR.same e1).but bf hm1
      have hhf := bf _ _ (ne_of hhd hm1 (by intro z; cases z)) hhd
      have back : ∀ H', Same Hf H' → Same H (upd H' m (.dK (keysT l))) := fun H' s b o hb => by
        by_cases eb : b = m
        · subst eb
          rw [hm] at hb
          cases hb
          exact upd_same
        · rw [upd_ne eb]
          exact s _ _ (bf _ _ eb (e1 _ _ hb))
      have lk : (keysT l).length = l.length := by unfold keysT; rw [List.length_map]
      walk_at "rd"
      refine r_iKeys ?_
      walk_at "rd"
      refine ⟨m, od, rfl, .inl ⟨_, hmf, ?_⟩⟩
      refine for_it (walk_keys (d := m) (o := od) (kvs := keysT l)) (fun i σ' H' => ∃ v5 v6, σ' = [some (.ref pa), some (.ref p), some (.ref m), some (.int most), some (.ref hd), v5, v6] ∧ Same Hf H' ∧ ∀ x ∈ l.take i, ∀ y ∈ l, Settled B l kvs x y)
        ⟨none, none, rfl, Same.refl _, by intro c hc; cases hc⟩ (fun i σ' H' _ q => ?_) ?_ ?_
      · obtain ⟨_, _, _, e, _⟩ := q
        exact e _ _ hmf
      · rintro i x0 σ' H' H'' hi ⟨v5, v6, rfl, e2, hg⟩ ⟨rfl, kk, vv, hk, rfl⟩
        obtain ⟨x, hx, rfl⟩ := keysT_at hk
        have hxl : x ∈ l := List.mem_of_getElem? hx
        walk_at "rd"
        refine r_iKeys ?_
        walk_at "rd"
        refine ⟨m, od, rfl, .inl ⟨_, e2 _ _ hmf, ?_⟩⟩
        refine for_it (walk_keys (d := m) (o := od) (kvs := keysT l)) (fun j σ' H' => ∃ v6, σ' = [some (.ref pa), some (.ref p), some (.ref m), some (.int most), some (.ref hd), some (.str x), v6] ∧ Same Hf H' ∧ ∀ y ∈ l.take j, Settled B l kvs x y)
          ⟨v6, rfl, e2, by intro c hc; cases hc⟩ (fun j σ' H' _ q => ?_) ?_ ?_
        · obtain ⟨_, _, e, _⟩ := q
          exact e _ _ hmf
        · rintro j x0 σ' H' H'' hj ⟨v6, rfl, e3, hgj⟩ ⟨rfl, kk, vv, hk2, rfl⟩
          obtain ⟨y, hy, rfl⟩ := keysT_at hk2
          have hyl : y ∈ l := List.mem_of_getElem? hy
          walk_at "rd"
          refine ⟨by show 2 ≤ sizeLine; decide, ?_⟩
          walk_at "nw"
          rename_i q nq H4 e4 hq
          walk_at "rd"
          have e34 := e3.trans e4
          refine ⟨p, q, m, hd, B, x, y, l, kvs, most, rfl, Rf.same e34, ok, hq, sub x hxl, sub y hyl, .inr ⟨od, e34 _ _ hmf⟩, e34 _ _ hhf, hto, fun H5 r e5 hr => ?_⟩
          walk_at "rd"
          have e35 := e34.trans e5
          cases r with
          | false =>
            refine iteT ?_
            walk_at "rd"
            exact ⟨e35 _ _ hmf, k _ false (back _ e35) (fun z => by cases z)⟩
          | true =>
            refine iteF ?_
            walk_at "rd"
            refine ⟨_, rfl, e35, fun y' hy' => ?_⟩
            rcases mem_take_succ hy hy' with h | rfl
            · exact hgj y' h
            · exact hr rfl
        · rintro σ' H' ⟨v6, rfl, e3, hgj⟩
          rw [lk, List.take_length] at hgj
          refine ⟨_, _, rfl, e3, fun x' hx' => ?_⟩
          rcases mem_take_succ hx hx' with h | rfl
          · exact hg x' h
          · exact hgj
      · rintro σ' H' ⟨v5, v6, rfl, e2, hg⟩
        rw [lk, List.take_length] at hg
        refine ⟨e2 _ _ hmf, ?_⟩
        walk_at "rd"
        exact k _ true (back _ e2) (fun _ => ⟨_, hts_of hto hg⟩)
end
end K73

set_option Elab.async false
set_option linter.all false
set_option maxRecDepth 100000
set_option maxHeartbeats 4000000
namespace K73
open PySem PySem.Spec PyProof.Rows L2
local macro_rules | `(tactic| walk_at "rd") => `(tactic| repeat (first | with_reducible refine r_seq ?_ | with_reducible refine r_asg ?_ | with_reducible refine r_ret ?_ | with_reducible refine r_op ?_ | with_reducible refine r_var (by with_unfolding_all rfl) ?_ | with_reducible refine r_c ?_ | with_reducible refine r_cons ?_ | with_reducible refine r_nil ?_ | with_reducible refine r_gname ?_ | with_reducible refine r_ifS ?_ | with_reducible refine r_test ?_ | with_reducible refine r_bl ?_ | with_reducible refine r_I0 ?_ | with_reducible refine r_cb ?_ | with_reducible refine r_cl ?_ | with_reducible refine r_tup ?_ | with_reducible refine r_lst ?_ | with_reducible refine r_gsub ?_ | with_reducible refine r_gcons ?_ | with_reducible refine r_gnil ?_ | with_reducible refine r_drop ?_ | with_reducible refine r_next ?_ | with_reducible refine r_par ?_ | with_reducible refine r_par2 ?_ | with_reducible refine r_and ?_ | with_reducible refine r_or ?_ | with_reducible refine r_not ?_ | with_reducible refine r_yes ?_ | with_reducible refine r_andV ?_ | with_reducible refine r_orV ?_ | with_reducible refine r_notV ?_ | with_reducible refine r_if ?_ | with_reducible refine r_chain ?_ | with_reducible refine r_U ?_ | with_reducible refine r_un ?_ | with_reducible refine r_eq (by with_unfolding_all rfl) ?_ | with_reducible refine r_ne (by with_unfolding_all rfl) ?_ | with_reducible refine r_int ?_ | with_reducible refine r_sl ?_ | with_reducible refine r_nopart ?_ | with_reducible refine r_part ?_ | with_reducible refine r_exI ?_ | with_reducible refine r_dget ?_ | with_reducible refine r_din ?_ | with_reducible refine r_dnotin ?_ | with_reducible refine r_dput ?_ | with_reducible refine r_isN ?_ | with_reducible refine r_notN ?_ | with_reducible refine r_bm ?_ | with_reducible refine r_bm0 ?_ | with_reducible refine r_retN ?_ | with_reducible refine r_lc ?_ | with_reducible refine r_for ?_ | with_reducible refine r_iStr ?_ | with_reducible refine r_exS ?_ | with_reducible refine r_iList ?_ | with_reducible refine r_iTup ?_ | with_reducible refine r_iRng ?_ | with_reducible refine r_m1 ?_ | with_reducible refine r_strM ?_ | with_reducible refine r_tB ?_ | with_reducible refine r_dc ?_ | with_reducible refine r_iZipS ?_ | with_reducible refine r_lc2 ?_ | with_reducible refine r_iZip ?_ | with_reducible refine r_tCmp ?_ | with_reducible refine r_newT ?_ | with_reducible refine r_newK ?_ | with_reducible refine r_sfld ?_ | with_reducible refine r_fld ?_ | with_reducible refine r_make ?_ | with_reducible refine r_pr ?_ | with_reducible refine r_dt ?_))
local macro_rules | `(tactic| walk_at "nw") => `(tactic| (intro q nq; generalize hH : upd _ q _ = H1; have s1 := same_upd_eq nq hH; have hq := upd_eq hH; clear hH))
section
variable {P : Program} {w : World} {K : PySem.W.Frag} {mg : Str → Option Value} {base : Heap}
def spAcceptsTwo (K : PySem.W.Frag) : Sp := fun vs H Q _ => ∃ (pa p1 p2 : Addr) (A B : Box) (ys : List V) (ps : List (Str × Str)), vs = [.str "within", .ref p1, .ref p2, .ref pa] ∧ RuleAt K H p1 A ∧ RuleAt K H p2 B ∧ A.Ok ∧ B.Ok ∧ A.sg = B.sg ∧ H pa = some (.tup ys) ∧ PairsAt H ys ps ∧ ys.length ≤ 1000 ∧
  ∀ H' b, Same H H' → (b = true → SoIn A B) → Q (.bl b) H'
abbrev nAcceptsTwo : List Str := ["word", "one", "other", "paper"]
theorem sc_accepts_two : FnScope nAcceptsTwo ["word", "one", "other", "paper"] (defScope s_accepts_two) := ⟨rfl, rfl, rfl, by decide +kernel, rfl, by decide +kernel, by decide +kernel⟩
theorem ok_accepts_two (T : Txt K mg) : Fn P w K mg base 5 "accepts_two" ["word", "one", "other", "paper"] (spAcceptsTwo K) := by
  have GW : Fn P w K mg base 4 "shows_within" ["paper", "one", "other"] (spShowsWithin K) := ok_shows_within T
  have GS : Gt P w K mg base "signs" (spSigns K) := ok_signs T
  refine T.d_accepts_two.fn sc_accepts_two (fun _ _ _ _ _ _ us hl => match us, hl with | [_, _, _, _], _ => rfl) (fun vs H Q E h => ?_) (fun cdv Ar outer s H vs Q E hr h => ?_)
  · obtain ⟨pa, p1, p2, A, B, ys, ps, rfl, _⟩ := h
    rfl
  · obtain ⟨pa, p1, p2, A, B, ys, ps, rfl, R1, R2, okA, okB, esg, hpa, hP, hn, k⟩ := h
    have hr2 : Room (2 + 2) _ := hr
    refine ⟨_, pss_cons (ps_if (pt_cmpR op_ne (pprop GS hr2 (pv 1)) (pprop GS hr2 (pv 2)) (nomark _)) (pss_one (ps_ret pe_bl)) pss_nil)
      (pss_cons (ps_if (pt_cmpR op_eq (pv 0) pe_str (nomark _)) (pss_one (ps_ret (pcall GW hr (pa_cons (pv 3) (pa_cons (pv 1) (pa_cons (pv 2) pa_nil)))))) pss_nil)
      (pss_never)), ?_⟩
    walk_at "rd"
    refine r_signs R1 ?_
    walk_at "rd"
    refine r_signs R2 ?_
    walk_at "rd"
    rw [← esg]
    have e0 : (!decide (V.str (tx A.sg) = V.str (tx A.sg))) = false := by simp
    rw [e0]
    refine iteF ?_
    walk_at "rd"
    have e1 : decide (V.str ("within" : Str) = V.str ("within" : Str)) = true := by simp
    rw [e1]
    refine iteT ?_
    walk_at "rd"
    exact ⟨pa, p1, p2, A, B, ys, ps, rfl, R1, R2, okA, okB, esg, hpa, hP, hn, k⟩
/-! ### one rule and a number -/
theorem reach_so_last {B : Box} {l : List Str} {ht : Str → Str → Option Int} {k : Nat} (r : Reach B l) (T : Hts B (· ∈ l) ht k) : SoLast B k := so_last T r.fst fun p hp c hc => r.cl p hp c hc
theorem live_so_win {B : Box} (ok : B.Ok) {S m : List Str} {ht : Str → Str → Option Int} {k : Nat} (hk : 1 ≤ k) (r : Reach B S) (v : Live B S m) (T : Hts B (· ∈ m) ht ((k : Int) - 1)) : SoWin B k := by
  refine so_win (fun c hc => (ok.abc c hc).1) hk T fun w ho hg => ?_
  exact live_stay (S := (· ∈ S)) (fun p hp c hc => r.cl p hp c hc) (fun p hp hf => v.fine p hp hf) (fun p hp c hc hl => v.back p hp c hc hl) w B.first ho r.fst (of_decide_eq_true hg)
def spAcceptsOne (K : PySem.W.Frag) : Sp := fun vs H Q _ => ∃ (pa p : Addr) (B : Box) (word : Str) (n : Nat) (ys : List V) (ts : List ((Str × Str) × Int)), vs = [.str word, .ref p, .int n, .ref pa] ∧ (word = "last" ∨ word = "windows") ∧ 1 ≤ n ∧ n ≤ 4 ∧ RuleAt K H p B ∧ B.Ok ∧ H pa = some (.tup ys) ∧ TripsAt H ys ts ∧ ys.length ≤ 1000 ∧
  ∀ H' b, Same H H' → (b = true → (word = "last" → SoLast B n) ∧ (word = "windows" → SoWin B n)) → Q (.bl b) H'
abbrev nAcceptsOne : List Str := ["word", "rule", "told", "paper"]
theorem sc_accepts_one : FnScope nAcceptsOne ["word", "rule", "told", "paper"] (defScope s_accepts_one) := ⟨rfl, rfl, rfl, by decide +kernel, rfl, by decide +kernel, by decide +kernel⟩
theorem ok_accepts_one (T : Txt K mg) : Fn P w K mg base 7 "accepts_one" ["word", "rule", "told", "paper"] (spAcceptsOne K) := by
  have GH : Fn P w K mg base 6 "shows_heights" ["paper", "rule", "moods", "most"] (spShowsHeights K) := (ok_shows_heights T).mono (by decide)
  have GB : Fn P w K mg base 6 "is_between" ["value", "least", "most"] spBetween := (ok_is_between T).mono (by decide)
  have GC : Fn P w K mg base 6 "coming" ["rule"] (spComing K) := (ok_coming T).mono (by decide)
  have GL : Fn P w K mg base 6 "coming_live" ["rule"] (spLive K) := ok_coming_live T
  refine T.d_accepts_one.fn sc_accepts_one (fun _ _ _ _ _ _ us hl => match us, hl with | [_, _, _, _], _ => rfl) (fun vs H Q E h => ?_) (fun cdv Ar outer s H vs Q E hr h => ?_)
  · obtain ⟨pa, p, B, word, n, ys, ts, rfl, _⟩ := h
    rfl
  · obtain ⟨pa, p, B, word, n, ys, ts, rfl, hw, n1, n4, hR, ok, hpa, hT, hn, k⟩ := h
    obtain ⟨tk, hM⟩ := T.i_MOST_LOOK
    refine ⟨_, pss_cons (ps_if (pt_cmpR op_eq (pv 0) pe_str (nomark _)) (pss_one ps_never) pss_nil)
      (pss_cons (ps_if (pt_not (pt_val (pcall GB hr (pa_cons (pv 2) (pa_cons (pe_ifExp (pt_cmpR op_eq (pv 0) pe_str (nomark _)) pe_int pe_int) (pa_cons (pe_glob (v := .int 1000) (by rfl) hM ⟨_, rfl⟩) pa_nil)))))) (pss_one (ps_ret pe_bl)) pss_nil)
      (pss_cons (ps_if (pt_cmpR op_eq (pv 0) pe_str (nomark _)) (pss_one (ps_ret (pcall GH hr (pa_cons (pv 3) (pa_cons (pv 1) (pa_cons (pcall GC hr (pa_cons (pv 1) pa_nil)) (pa_cons (pv 2) pa_nil))))))) pss_nil)
      (pss_one (ps_ret (pcall GH hr (pa_cons (pv 3) (pa_cons (pv 1) (pa_cons (pcall GL hr (pa_cons (pv 1) pa_nil)) (pa_cons (pe_op op_sub (pv 2) pe_int) pa_nil))))))))), ?_⟩
    walk_at "rd"
    rcases hw with rfl | rfl
    · rw [show decide (V.str ("last" : Str) = V.str ("never" : Str)) = false by decide +kernel]
      refine iteF ?_
      walk_at "rd"
      rw [show decide (V.str ("last" : Str) = V.str ("last" : Str)) = true by decide +kernel]
      refine iteT ?_
      walk_at "rd"
      refine ⟨n, 0, 1000, rfl, ?_⟩
      walk_at "rd"
      rw [decide_eq_true (show (0 : Int) ≤ n by omega), decide_eq_true (show (n : Int) ≤ 1000 by omega)]
      refine iteF ?_
      walk_at "rd"
      rw [show decide (V.str ("last" : Str) = V.str ("last" : Str)) = true by decide +kernel]
      refine iteT ?_
      walk_at "rd"
      refine ⟨p, B, rfl, hR, ok, fun H1 q l e1 hq r => ?_⟩
      walk_at "rd"
      refine ⟨pa, p, q, B, l, n, ys, ts, rfl, hR.same e1, ok, hq, r.sub, e1 _ _ hpa, hT.same e1, hn, fun H2 b e2 hb => ?_⟩
      refine k _ b (e1.trans e2) fun z => ⟨fun _ => ?_, fun z2 => absurd z2 (by decide +kernel)⟩
      obtain ⟨ht, T⟩ := hb z
      exact reach_so_last r T
    · rw [show decide (V.str ("windows" : Str) = V.str ("never" : Str)) = false by decide +kernel]
      refine iteF ?_
      walk_at "rd"
      rw [show decide (V.str ("windows" : Str) = V.str ("last" : Str)) = false by decide +kernel]
      refine iteF ?_
      walk_at "rd"
      refine ⟨n, 1, 1000, rfl, ?_⟩
      walk_at "rd"
      rw [decide_eq_true (show (1 : Int) ≤ n by omega), decide_eq_true (show (n : Int) ≤ 1000 by omega)]
      refine iteF ?_
      walk_at "rd"
      rw [show decide (V.str ("windows" : Str) = V.str ("last" : Str)) = false by decide +kernel]
      refine iteF ?_
      walk_at "rd"
      refine ⟨p, B, rfl, hR, ok, fun H1 q S l e1 hq r v => ?_⟩
      walk_at "rd"
      refine ⟨pa, p, q, B, l, (n : Int) - 1, ys, ts, rfl, hR.same e1, ok, hq, fun t ht => r.sub t (v.sub t ht), e1 _ _ hpa, hT.same e1, hn, fun H2 b e2 hb => ?_⟩
      refine k _ b (e1.trans e2) fun z => ⟨fun z2 => absurd z2 (by decide +kernel), fun _ => ?_⟩
      obtain ⟨ht, T⟩ := hb z
      exact live_so_win ok n1 r v T
end
end K73

set_option Elab.async false
set_option linter.all false
set_option maxRecDepth 100000
set_option maxHeartbeats 4000000
namespace K73
open PySem PySem.Spec PyProof.Rows L2
local macro_rules | `(tactic| walk_at "rd") => `(tactic| repeat (first | with_reducible refine r_seq ?_ | with_reducible refine r_asg ?_ | with_reducible refine r_ret ?_ | with_reducible refine r_op ?_ | with_reducible refine r_var (by with_unfolding_all rfl) ?_ | with_reducible refine r_c ?_ | with_reducible refine r_cons ?_ | with_reducible refine r_nil ?_ | with_reducible refine r_gname ?_ | with_reducible refine r_ifS ?_ | with_reducible refine r_test ?_ | with_reducible refine r_bl ?_ | with_reducible refine r_I0 ?_ | with_reducible refine r_cb ?_ | with_reducible refine r_cl ?_ | with_reducible refine r_tup ?_ | with_reducible refine r_lst ?_ | with_reducible refine r_gsub ?_ | with_reducible refine r_gcons ?_ | with_reducible refine r_gnil ?_ | with_reducible refine r_drop ?_ | with_reducible refine r_next ?_ | with_reducible refine r_par ?_ | with_reducible refine r_par2 ?_ | with_reducible refine r_and ?_ | with_reducible refine r_or ?_ | with_reducible refine r_not ?_ | with_reducible refine r_yes ?_ | with_reducible refine r_andV ?_ | with_reducible refine r_orV ?_ | with_reducible refine r_notV ?_ | with_reducible refine r_if ?_ | with_reducible refine r_chain ?_ | with_reducible refine r_U ?_ | with_reducible refine r_un ?_ | with_reducible refine r_eq (by with_unfolding_all rfl) ?_ | with_reducible refine r_ne (by with_unfolding_all rfl) ?_ | with_reducible refine r_int ?_ | with_reducible refine r_sl ?_ | with_reducible refine r_nopart ?_ | with_reducible refine r_part ?_ | with_reducible refine r_exI ?_ | with_reducible refine r_dget ?_ | with_reducible refine r_din ?_ | with_reducible refine r_dnotin ?_ | with_reducible refine r_dput ?_ | with_reducible refine r_isN ?_ | with_reducible refine r_notN ?_ | with_reducible refine r_bm ?_ | with_reducible refine r_bm0 ?_ | with_reducible refine r_retN ?_ | with_reducible refine r_lc ?_ | with_reducible refine r_for ?_ | with_reducible refine r_iStr ?_ | with_reducible refine r_exS ?_ | with_reducible refine r_iList ?_ | with_reducible refine r_iTup ?_ | with_reducible refine r_iRng ?_ | with_reducible refine r_m1 ?_ | with_reducible refine r_strM ?_ | with_reducible refine r_tB ?_ | with_reducible refine r_dc ?_ | with_reducible refine r_iZipS ?_ | with_reducible refine r_lc2 ?_ | with_reducible refine r_iZip ?_ | with_reducible refine r_tCmp ?_ | with_reducible refine r_newT ?_ | with_reducible refine r_newK ?_ | with_reducible refine r_sfld ?_ | with_reducible refine r_fld ?_ | with_reducible refine r_make ?_ | with_reducible refine r_pr ?_ | with_reducible refine r_dt ?_))
local macro_rules | `(tactic| walk_at "nw") => `(tactic| (intro q nq; generalize hH : upd _ q _ = H1; have s1 := same_upd_eq nq hH; have hq := upd_eq hH; clear hH))
section
variable {P : Program} {w : World} {K : PySem.W.Frag} {mg : Str → Option Value} {base : Heap}
def spAccepts (K : PySem.W.Frag) : Sp := fun vs H Q _ => ∃ (c pa : Addr) (A : Box) (ys : List V), vs = [.ref c, .ref pa] ∧ A.Ok ∧ H pa = some (.tup ys) ∧ ys.length ≤ 1000 ∧
  ((∃ (B : Box) (ps : List (Str × Str)), B.Ok ∧ A.sg = B.sg ∧ H c = some (.tup [.str "within", .str A.text, .str B.text]) ∧ PairsAt H ys ps ∧ ∀ H' b, Same H H' → (b = true → SoIn A B) → Q (.bl b) H') ∨
   ∃ (word : Str) (n : Nat) (ts : List ((Str × Str) × Int)), (word = "last" ∨ word = "windows") ∧ 1 ≤ n ∧ n ≤ 4 ∧ H c = some (.tup [.str word, .str A.text, .int n]) ∧ TripsAt H ys ts ∧
    ∀ H' b, Same H H' → (b = true → (word = "last" → SoLast A n) ∧ (word = "windows" → SoWin A n)) → Q (.bl b) H')
abbrev nAccepts : List Str := ["claim", "paper", "word", "rule", "other"]
theorem sc_accepts : FnScope nAccepts ["claim", "paper"] (defScope s_accepts) := ⟨rfl, rfl, rfl, by decide +kernel, rfl, by decide +kernel, by decide +kernel⟩
theorem words_in (x : Str) (h : x = "within" ∨ x = "last" ∨ x = "windows") : decide (x ∈ (["apart", "within", "last", "windows", "never"] : List Str)) = true := by
  rcases h with rfl | rfl | rfl <;> decide +kernel
theorem ok_accepts (T : Txt K mg) : Fn P w K mg base 8 "accepts" ["claim", "paper"] (spAccepts K) := by
  have GR : Fn P w K mg base 7 "rule_in" ["text"] (spRuleIn K) := ok_rule_in T
  have G1 : Fn P w K mg base 7 "accepts_one" ["word", "rule", "told", "paper"] (spAcceptsOne K) := ok_accepts_one T
  have G2 : Fn P w K mg base 7 "accepts_two" ["word", "one", "other", "paper"] (spAcceptsTwo K) := (ok_accepts_two T).mono (by decide)
  refine T.d_accepts.fn sc_accepts (fun _ _ _ _ _ _ us hl => match us, hl with | [_, _], _ => rfl) (fun vs H Q E h => ?_) (fun cdv Ar outer s H vs Q E hr h => ?_)
  · obtain ⟨c, pa, A, ys, rfl, _⟩ := h
    rfl
  · obtain ⟨c, pa, A, ys, rfl, okA, hpa, hn, alt⟩ := h
    obtain ⟨tk, hC⟩ := T.i_CLAIM_SIZE
    refine ⟨_, pss_cons (ps_if (PW.pt (pw_or (pt_not (pt_val (pe_isi (n := "tuple") T.f_isinstance (pv 0) T.f_tuple))) (pw_or1 (pt_cmpR op_ne (pe_callB call_len_seq (by rfl) T.f_len PySem.boot_len (pa_cons (pv 0) pa_nil)) (pe_glob (v := .int 3) (by rfl) hC ⟨_, rfl⟩) (nomark _))))) (pss_one (ps_ret pe_bl)) pss_nil)
      (pss_cons (ps_set (i := 2) sc_accepts.nd rfl (.inl rfl) (pe_ix ix_tup (pv 0) pe_int (fun _ _ => rfl)))
      (pss_cons (ps_set (i := 3) sc_accepts.nd rfl (.inl rfl) (pcall GR hr (pa_cons (pe_ix ix_tup (pv 0) pe_int (fun _ _ => rfl)) pa_nil)))
      (pss_cons (ps_if (PW.pt (pw_or (pt_not (pt_val (pe_isi (n := "str") T.f_isinstance (pv 2) T.f_str))) (pw_or (pt_cmpR op_notIn_seq (pv 2) (pe_glob (v := .ref (He.ga K "WORDS")) (by rfl) T.g_WORDS rfl) (by rfl)) (pw_or1 (pt_cmpR op_isN (pv 3) pe_non (nomark _)))))) (pss_one (ps_ret pe_bl)) pss_nil)
      (pss_cons (ps_if (pt_cmpR op_notIn_seq (pv 2) (pe_tup (pa_cons pe_str (pa_cons pe_str pa_nil))) (by rfl)) (pss_one (ps_ret (pcall G1 hr (pa_cons (pv 2) (pa_cons (pv 3) (pa_cons (pe_ix ix_tup (pv 0) pe_int (fun _ _ => rfl)) (pa_cons (pv 1) pa_nil))))))) pss_nil)
      (pss_cons (ps_set (i := 4) sc_accepts.nd rfl (.inl rfl) (pcall GR hr (pa_cons (pe_ix ix_tup (pv 0) pe_int (fun _ _ => rfl)) pa_nil)))
      (pss_one (ps_ret (pe_and (pe_cmpR op_notN (pv 4) pe_non (nomark _)) (pe_one (pcall G2 hr (pa_cons (pv 2) (pa_cons (pv 3) (pa_cons (pv 4) (pa_cons (pv 1) pa_nil)))))))))))))), ?_⟩
    walk_at "rd"
    rcases alt with ⟨B, ps, okB, esg, hc, hP, k⟩ | ⟨word, n, ts, hword, n1, n4, hc, hT, k⟩
    · have hw : ("within" : Str) = "within" ∨ ("within" : Str) = "last" ∨ ("within" : Str) = "windows" := .inl rfl
      refine isi_tup hc ?_
      walk_at "rd"
      refine iteF ?_
      walk_at "rd"
      refine ⟨c, _, rfl, .inr (SqT.of hc), ?_⟩
      walk_at "rd"
      refine iteF ?_
      walk_at "rd"
      refine r_ixT (v := .str "within") (SqT.of hc) (atI_nat (j := 0) rfl) ?_
      walk_at "rd"
      refine r_ixT (v := .str A.text) (SqT.of hc) (atI_nat (j := 1) rfl) ?_
      walk_at "rd"
      refine ⟨A, rfl, okA, fun H1 p e1 R1 => ?_⟩
      walk_at "rd"
      refine isi_str ?_
      walk_at "rd"
      refine iteF ?_
      walk_at "rd"
      refine r_notInL (l := ["apart", "within", "last", "windows", "never"]) (.inr (T.w_WORDS H1)) ?_
      rw [words_in _ hw]
      walk_at "rd"
      refine iteF ?_
      walk_at "rd"
      refine ⟨rfl, ?_⟩
      walk_at "rd"
      refine iteF ?_
      walk_at "rd"
      refine ⟨by show 2 ≤ sizeLine; decide, ?_⟩
      walk_at "nw"
      rename_i q nq H2 e2 hq
      refine r_notInL (l := ["apart", "within"]) (.inr (SqT.of hq)) ?_
      rw [show decide (("within" : Str) ∈ (["apart", "within"] : List Str)) = true by decide +kernel]
      walk_at "rd"
      refine iteF ?_
      walk_at "rd"
      have e12 := e1.trans e2
      refine r_ixT (v := .str B.text) (SqT.of (e12 _ _ hc)) (atI_nat (j := 2) rfl) ?_
      walk_at "rd"
      refine ⟨B, rfl, okB, fun H3 p2 e3 R2 => ?_⟩
      walk_at "rd"
      refine ⟨rfl, ?_⟩
      walk_at "rd"
      refine iteT ?_
      walk_at "rd"
      have e13 := e12.trans e3
      exact ⟨pa, p, p2, A, B, ys, ps, rfl, R1.same (e2.trans e3), R2, okA, okB, esg, e13 _ _ hpa, hP.same e13, hn, fun H' b e => k H' b (e13.trans e)⟩
    · have hw : word = "within" ∨ word = "last" ∨ word = "windows" := .inr hword
      refine isi_tup hc ?_
      walk_at "rd"
      refine iteF ?_
      walk_at "rd"
      refine ⟨c, _, rfl, .inr (SqT.of hc), ?_⟩
      walk_at "rd"
      refine iteF ?_
      walk_at "rd"
      refine r_ixT (v := .str word) (SqT.of hc) (atI_nat (j := 0) rfl) ?_
      walk_at "rd"
      refine r_ixT (v := .str A.text) (SqT.of hc) (atI_nat (j := 1) rfl) ?_
      walk_at "rd"
      refine ⟨A, rfl, okA, fun H1 p e1 R1 => ?_⟩
      walk_at "rd"
      refine isi_str ?_
      walk_at "rd"
      refine iteF ?_
      walk_at "rd"
      refine r_notInL (l := ["apart", "within", "last", "windows", "never"]) (.inr (T.w_WORDS H1)) ?_
      rw [words_in _ hw]
      walk_at "rd"
      refine iteF ?_
      walk_at "rd"
      refine ⟨rfl, ?_⟩
      walk_at "rd"
      refine iteF ?_
      walk_at "rd"
      refine ⟨by show 2 ≤ sizeLine; decide, ?_⟩
      walk_at "nw"
      rename_i q nq H2 e2 hq
      refine r_notInL (l := ["apart", "within"]) (.inr (SqT.of hq)) ?_
      have hnot : decide (word ∈ (["apart", "within"] : List Str)) = false := by
        rcases hword with rfl | rfl <;> decide +kernel
      rw [hnot]
      walk_at "rd"
      refine iteT ?_
      walk_at "rd"
      have e12 := e1.trans e2
      refine r_ixT (v := .int n) (SqT.of (e12 _ _ hc)) (atI_nat (j := 2) rfl) ?_
      walk_at "rd"
      exact ⟨pa, p, A, word, n, ys, ts, rfl, hword, n1, n4, R1.same e2, okA, e12 _ _ hpa, hT.same e12, hn, fun H' b e => k H' b (e12.trans e)⟩
end
end K73

set_option Elab.async false
set_option linter.all false
set_option maxRecDepth 100000
set_option maxHeartbeats 4000000
namespace K73
open PySem PySem.Spec PyProof.Rows L2
local macro_rules | `(tactic| walk_at "rd") => `(tactic| repeat (first | with_reducible refine r_seq ?_ | with_reducible refine r_asg ?_ | with_reducible refine r_ret ?_ | with_reducible refine r_op ?_ | with_reducible refine r_var (by with_unfolding_all rfl) ?_ | with_reducible refine r_c ?_ | with_reducible refine r_cons ?_ | with_reducible refine r_nil ?_ | with_reducible refine r_gname ?_ | with_reducible refine r_ifS ?_ | with_reducible refine r_test ?_ | with_reducible refine r_bl ?_ | with_reducible refine r_I0 ?_ | with_reducible refine r_cb ?_ | with_reducible refine r_cl ?_ | with_reducible refine r_tup ?_ | with_reducible refine r_lst ?_ | with_reducible refine r_gsub ?_ | with_reducible refine r_gcons ?_ | with_reducible refine r_gnil ?_ | with_reducible refine r_drop ?_ | with_reducible refine r_next ?_ | with_reducible refine r_par ?_ | with_reducible refine r_par2 ?_ | with_reducible refine r_and ?_ | with_reducible refine r_or ?_ | with_reducible refine r_not ?_ | with_reducible refine r_yes ?_ | with_reducible refine r_andV ?_ | with_reducible refine r_orV ?_ | with_reducible refine r_notV ?_ | with_reducible refine r_if ?_ | with_reducible refine r_chain ?_ | with_reducible refine r_U ?_ | with_reducible refine r_un ?_ | with_reducible refine r_eq (by with_unfolding_all rfl) ?_ | with_reducible refine r_ne (by with_unfolding_all rfl) ?_ | with_reducible refine r_int ?_ | with_reducible refine r_sl ?_ | with_reducible refine r_nopart ?_ | with_reducible refine r_part ?_ | with_reducible refine r_exI ?_ | with_reducible refine r_dget ?_ | with_reducible refine r_din ?_ | with_reducible refine r_dnotin ?_ | with_reducible refine r_dput ?_ | with_reducible refine r_isN ?_ | with_reducible refine r_notN ?_ | with_reducible refine r_bm ?_ | with_reducible refine r_bm0 ?_ | with_reducible refine r_retN ?_ | with_reducible refine r_lc ?_ | with_reducible refine r_for ?_ | with_reducible refine r_iStr ?_ | with_reducible refine r_exS ?_ | with_reducible refine r_iList ?_ | with_reducible refine r_iTup ?_ | with_reducible refine r_iRng ?_ | with_reducible refine r_m1 ?_ | with_reducible refine r_strM ?_ | with_reducible refine r_tB ?_ | with_reducible refine r_dc ?_ | with_reducible refine r_iZipS ?_ | with_reducible refine r_lc2 ?_ | with_reducible refine r_iZip ?_ | with_reducible refine r_tCmp ?_ | with_reducible refine r_newT ?_ | with_reducible refine r_newK ?_ | with_reducible refine r_sfld ?_ | with_reducible refine r_fld ?_ | with_reducible refine r_make ?_ | with_reducible refine r_pr ?_ | with_reducible refine r_dt ?_ | with_reducible refine r_iKeys ?_ | with_reducible refine r_dget2 ?_))
local macro_rules | `(tactic| walk_at "nw") => `(tactic| (intro q nq; generalize hH : upd _ q _ = H1; have s1 := same_upd_eq nq hH; have hq := upd_eq hH; clear hH))
/-! ### lists of numbers compared -/
theorem dp_ints {K : PySem.W.Frag} {H : Hp} : ∀ l : List Int, DpAll K H (l.map V.int) (l.map PyData.int)
  | [] => .nil
  | x :: l => .cons (.int x) (dp_ints l)
theorem shaped_ints (l : List Int) : SeqAt.shaped (.list (l.map .int)) = true := by
  unfold SeqAt.shaped
  rw [Bool.and_eq_true]
  constructor
  · show PyData.canLayAll0 (l.map .int) = true
    induction l with
    | nil => rfl
    | cons x l ih =>
      show (PyData.canLay0 (.int x) && PyData.canLayAll0 (l.map .int)) = true
      rw [ih]
      rfl
  · refine decide_eq_true ?_
    show PyData.depthAll (l.map .int) + 1 ≤ 64
    have : PyData.depthAll (l.map .int) ≤ 1 := by
      induction l with
      | nil => decide
      | cons x l ih =>
        show max (PyData.depth (.int x)) (PyData.depthAll (l.map .int)) ≤ 1
        have : PyData.depth (.int x) ≤ 1 := by simp [PyData.depth]
        omega
    omega
section
variable {P : Program} {w : World} {K : PySem.W.Frag} {mg : Str → Option Value} {base : Heap}
/-! ### a cell, a purse -/
def spCell (K : PySem.W.Frag) : Sp := fun vs H Q _ => ∃ (a : Addr) (ns : List Int) (k : Nat), vs = [.ref a, .int k] ∧ k ≤ 100 ∧ SqL K H a (ns.map V.int) ∧ ∀ n H', Same H H' → Q (.int n) H'
abbrev nCell : List Str := ["_law_cells", "_law_k", "_law_seed", "_law_cell_here"]
theorem sc_cell : FnScope nCell ["_law_cells", "_law_k"] (defScope s_law_cell) := ⟨rfl, rfl, rfl, by decide +kernel, rfl, by decide +kernel, by decide +kernel⟩
theorem ok_cell (T : Txt K mg) : Fn P w K mg base 1 "_law_cell" ["_law_cells", "_law_k"] (spCell K) := by
  refine T.d_law_cell.fn sc_cell (fun _ _ _ _ _ _ us hl => match us, hl with | [_, _], _ => rfl) (fun vs H Q E h => ?_) (fun cdv Ar outer s H vs Q E hr h => ?_)
  · obtain ⟨a, ns, k, rfl, _⟩ := h
    rfl
  · obtain ⟨a, ns, j, rfl, hj, ha, k⟩ := h
    refine ⟨_, pss_cons (ps_if (pt_cmpR op_lt (pv 1) (pe_callB call_len_seq (by rfl) T.f_len PySem.boot_len (pa_cons (pv 0) pa_nil)) (nomark _)) (pss_one (ps_ret (pe_ix ix_list (pv 0) (pv 1) (fun _ _ => rfl)))) pss_nil)
      (pss_cons (ps_set (i := 2) sc_cell.nd rfl (.inl rfl) (pe_op op_add (pe_op op_add pe_int (pe_op op_mul (pe_op op_mul pe_int (pv 1)) (pv 1))) (pe_op op_mul pe_int (pv 1))))
      (pss_cons (ps_for PassesOwn.never rfl (pi_list (pe_slice sl_list (pv 0) po_none (po_some pe_int))) (pg_name (i := 3) sc_cell.nd rfl (.inl rfl))
        (pss_one (ps_set (i := 2) sc_cell.nd rfl (.inl rfl) (pe_op op_mod (pe_callTy call_int1 (by rfl) T.f_int (by decide +kernel) (pa_cons (pe_op op_add (pe_op op_mul (pv 2) pe_int) (pv 3)) pa_nil)) pe_int))))
      (pss_one (ps_ret (pv 2))))), ?_⟩
    walk_at "rd"
    refine ⟨a, _, rfl, .inl ha, ?_⟩
    walk_at "rd"
    refine ite2 (fun h => ?_) (fun h => ?_)
    · have hlt : j < (ns.map V.int).length := by
        have := of_decide_eq_true h
        omega
      have hlt2 : j < ns.length := by rw [List.length_map] at hlt; exact hlt
      walk_at "rd"
      refine r_ixL (v := .int ns[j]) ha (atI_nat (j := j) (by rw [List.getElem?_map, List.getElem?_eq_getElem hlt2]; rfl)) ?_
      exact k _ _ (Same.refl _)
    · walk_at "rd"
      refine r_I (.inl ⟨by decide, by decide⟩) ?_
      walk_at "rd"
      refine r_I (.inr ⟨by omega, by omega⟩) ?_
      walk_at "rd"
      refine r_I (.inl ⟨by decide, by decide⟩) ?_
      walk_at "rd"
      refine ⟨a, _, rfl, ha, ?_⟩
      rw [show (some (4 : Int)) = some (((4 : Nat) : Int)) from rfl, cutV_to]
      walk_at "nw"
      rename_i q nq H1 e1 hq
      refine ⟨q, rfl, ⟨_, SqL.of hq⟩, ?_⟩
      refine for_it (walk_list (K := K) (a := q) (xs := (ns.map V.int).take 4)) (fun i σ' H' => ∃ (z : Int) (v : Option V), σ' = [some (.ref a), some (.int j), some (.int z), v] ∧ H' = H1)
        ⟨_, none, rfl, rfl⟩ (fun i σ' H' _ q => ?_) ?_ ?_
      · obtain ⟨_, _, _, rfl⟩ := q
        exact SqL.of hq
      · rintro i x σ' H' H'' hi ⟨z, v, rfl, rfl⟩ ⟨rfl, hy⟩
        obtain ⟨c, _, rfl⟩ := List.mem_map.mp (List.mem_of_mem_take (List.mem_of_getElem? hy))
        walk_at "rd"
        refine r_I (.inr ⟨by decide, by decide⟩) ?_
        walk_at "rd"
        refine r_I (by decide) ?_
        walk_at "rd"
        exact ⟨_, _, rfl, rfl⟩
      · rintro σ' H' ⟨z, v, rfl, rfl⟩
        walk_at "rd"
        exact k _ _ e1
def spPurse : Sp := fun vs H Q _ => ∃ n : Int, vs = [.int n] ∧ ∀ H' p, H p = none → Same H H' → PurseAt H' p → Q (.ref p) H'
theorem sc_purse : FnScope ["_law_cell_here", "_law_digits"] ["_law_cell_here"] (defScope s_law_purse) := ⟨rfl, rfl, rfl, by decide +kernel, rfl, by decide +kernel, by decide +kernel⟩
theorem ok_purse (T : Txt K mg) : Fn P w K mg base 1 "_law_purse" ["_law_cell_here"] spPurse := by
  refine T.d_law_purse.fn sc_purse (fun _ _ _ _ _ _ us hl => match us, hl with | [_], _ => rfl) (fun vs H Q E h => ?_) (fun cdv Ar outer s H vs Q E hr h => ?_)
  · obtain ⟨n, rfl, _⟩ := h
    rfl
  · obtain ⟨n, rfl, k⟩ := h
    refine ⟨_, pss_cons (ps_set (i := 1) sc_purse.nd rfl (.inl rfl) (pe_ifExp (PW.pt (pw_or (pt_cmpR op_lt (pv 0) pe_int (nomark _)) (pw_or1 (pt_cmpR op_ge (pv 0) (pe_op op_pow pe_int pe_int) (nomark _))))) (pe_callB call_abs (by rfl) T.f_abs (by decide +kernel) (pa_cons (pv 0) pa_nil)) pe_int))
      (pss_one (ps_ret (pe_lst (pa_cons (pe_op op_mod (pe_callTy call_int1 (by rfl) T.f_int (by decide +kernel) (pa_cons (pe_op op_add (pe_op op_mul (pv 0) pe_int) pe_int) pa_nil)) pe_int) (pa_cons (pv 1) (pa_cons pe_int pa_nil)))))), ?_⟩
    have fin : ∀ d : Int, 0 ≤ d → (tRet (tLst (tCons (tOp (rI (fun _ j => 0 < j) fun i j => .int (i % j)) (tCB (fun xs H Q => (∃ i, xs = [.int i] ∧ Q (.int i) H) ∨ ∃ k, xs = [.bl k] ∧ Q (.int (if k then 1 else 0)) H) (tCons (tOp (rI0 fun i j => .int (i + j)) (tOp (rI CMul fun i j => .int (i * j)) (tVar 0) (tC (.int 48271))) (tC (.int 977))) tNil)) (tC (.int 2147483563))) (tCons (tVar 1) (tCons (tC (.int 0)) tNil))))) { nx := fun _ H' => Q .non H', rt := Q } [some (.int n), some (.int d)] H := fun d hd => by
      walk_at "rd"
      refine r_I (.inr ⟨by decide, by decide⟩) ?_
      walk_at "rd"
      refine r_I (by decide) ?_
      walk_at "rd"
      refine ⟨by show 3 ≤ sizeLine; decide, ?_⟩
      walk_at "nw"
      rename_i q nq H1 e1 hq
      exact k _ q nq e1 ⟨_, d, 0, hq, hd⟩
    walk_at "rd"
    refine ite2 (fun h => ?_) (fun h => ?_)
    · refine iteT ?_
      walk_at "rd"
      refine ⟨n, rfl, ?_⟩
      exact fin _ (by split <;> omega)
    · walk_at "rd"
      refine r_I ⟨by decide, by decide, by decide +kernel⟩ ?_
      walk_at "rd"
      refine ite2 (fun h2 => ?_) (fun h2 => ?_)
      · walk_at "rd"
        refine ⟨n, rfl, ?_⟩
        exact fin _ (by split <;> omega)
      · exact fin 0 (by omega)
end
end K73

set_option Elab.async false
set_option linter.all false
set_option maxRecDepth 100000
set_option maxHeartbeats 4000000
namespace K73
open PySem PySem.Spec PyProof.Rows L2
local macro_rules | `(tactic| walk_at "rd") => `(tactic| repeat (first | with_reducible refine r_seq ?_ | with_reducible refine r_asg ?_ | with_reducible refine r_ret ?_ | with_reducible refine r_op ?_ | with_reducible refine r_var (by with_unfolding_all rfl) ?_ | with_reducible refine r_c ?_ | with_reducible refine r_cons ?_ | with_reducible refine r_nil ?_ | with_reducible refine r_gname ?_ | with_reducible refine r_ifS ?_ | with_reducible refine r_test ?_ | with_reducible refine r_bl ?_ | with_reducible refine r_I0 ?_ | with_reducible refine r_cb ?_ | with_reducible refine r_cl ?_ | with_reducible refine r_tup ?_ | with_reducible refine r_lst ?_ | with_reducible refine r_gsub ?_ | with_reducible refine r_gcons ?_ | with_reducible refine r_gnil ?_ | with_reducible refine r_drop ?_ | with_reducible refine r_next ?_ | with_reducible refine r_par ?_ | with_reducible refine r_par2 ?_ | with_reducible refine r_and ?_ | with_reducible refine r_or ?_ | with_reducible refine r_not ?_ | with_reducible refine r_yes ?_ | with_reducible refine r_andV ?_ | with_reducible refine r_orV ?_ | with_reducible refine r_notV ?_ | with_reducible refine r_if ?_ | with_reducible refine r_chain ?_ | with_reducible refine r_U ?_ | with_reducible refine r_un ?_ | with_reducible refine r_eq (by with_unfolding_all rfl) ?_ | with_reducible refine r_ne (by with_unfolding_all rfl) ?_ | with_reducible refine r_int ?_ | with_reducible refine r_sl ?_ | with_reducible refine r_nopart ?_ | with_reducible refine r_part ?_ | with_reducible refine r_exI ?_ | with_reducible refine r_dget ?_ | with_reducible refine r_din ?_ | with_reducible refine r_dnotin ?_ | with_reducible refine r_dput ?_ | with_reducible refine r_isN ?_ | with_reducible refine r_notN ?_ | with_reducible refine r_bm ?_ | with_reducible refine r_bm0 ?_ | with_reducible refine r_retN ?_ | with_reducible refine r_lc ?_ | with_reducible refine r_for ?_ | with_reducible refine r_iStr ?_ | with_reducible refine r_exS ?_ | with_reducible refine r_iList ?_ | with_reducible refine r_iTup ?_ | with_reducible refine r_iRng ?_ | with_reducible refine r_m1 ?_ | with_reducible refine r_strM ?_ | with_reducible refine r_tB ?_ | with_reducible refine r_dc ?_ | with_reducible refine r_iZipS ?_ | with_reducible refine r_lc2 ?_ | with_reducible refine r_iZip ?_ | with_reducible refine r_tCmp ?_ | with_reducible refine r_newT ?_ | with_reducible refine r_newK ?_ | with_reducible refine r_sfld ?_ | with_reducible refine r_fld ?_ | with_reducible refine r_make ?_ | with_reducible refine r_pr ?_ | with_reducible refine r_dt ?_ | with_reducible refine r_iKeys ?_ | with_reducible refine r_dget2 ?_))
local macro_rules | `(tactic| walk_at "nw") => `(tactic| (intro q nq; generalize hH : upd _ q _ = H1; have s1 := same_upd_eq nq hH; have hq := upd_eq hH; clear hH))
/-! ### signs drawn -/
theorem r_ixS {H : Hp} {Q : VK} {z : Str} {i : Int} {c : Nat} (hz : z.length ≤ sizeLine) (h : atI z.cps.toList i = some c) (q : Q (.str (s1 c)) H) : rIxS (.str z) (.int i) H Q := ⟨z, i, c, rfl, rfl, hz, h, q⟩
theorem abc_at {i : Nat} (h : i < 26) : ("abcdefghijklmnopqrstuvwxyz" : Str).cps.toList[i]? = some (97 + i) := by
  have e : ("abcdefghijklmnopqrstuvwxyz" : Str).cps.toList = (List.range 26).map (97 + ·) := by decide +kernel
  rw [e, List.getElem?_map, List.getElem?_range h]
  rfl
theorem join_signs (l : List Nat) : Txt.join "" (l.map s1) = tx l := by
  refine TL.ext_tl ?_
  rw [tl_J, tl_tx, List.map_map]
  have e : TL.tl ("" : Str) = [] := by decide +kernel
  rw [e]
  induction l with
  | nil => rfl
  | cons a l ih =>
    cases l with
    | nil => rfl
    | cons b r =>
      show [a] ++ ([] ++ TL.joinL [] ((b :: r).map (TL.tl ∘ s1))) = _
      rw [ih]
      rfl
structure AscTo (n : Nat) (xs : List Int) : Prop where
  asc : xs.Pairwise (· < ·)
  lo : ∀ x ∈ xs, 0 ≤ x
  hi : ∀ (j : Nat) (x : Int), xs[j]? = some x → x ≤ 26 - n + j
theorem AscTo.nil {n : Nat} : AscTo n [] := ⟨List.Pairwise.nil, (by intro x h; cases h), (by intro j x h; simp at h)⟩
theorem AscTo.snoc {n : Nat} {xs : List Int} {v : Int} (h : AscTo n xs) (h0 : 0 ≤ v) (hl : ∀ x ∈ xs, x < v) (hv : v ≤ 26 - n + xs.length) : AscTo n (xs ++ [v]) where
  asc := by
    rw [List.pairwise_append]
    exact ⟨h.asc, List.pairwise_singleton _ _, fun a ha b hb => by rw [List.mem_singleton.mp hb]; exact hl a ha⟩
  lo x hx := by
    rcases List.mem_append.mp hx with z | z
    · exact h.lo x z
    · rw [List.mem_singleton.mp z]; exact h0
  hi j x hx := by
    by_cases hj : j < xs.length
    · rw [List.getElem?_append_left hj] at hx
      exact h.hi j x hx
    · have : j = xs.length := by
        have := (List.getElem?_eq_some_iff.mp hx).1
        rw [List.length_append, List.length_singleton] at this
        omega
      subst this
      rw [List.getElem?_append_right (Nat.le_refl _), Nat.sub_self] at hx
      have := Option.some.inj hx
      omega
section
variable {P : Program} {w : World} {K : PySem.W.Frag} {mg : Str → Option Value} {base : Heap}
def spLettersOf : Sp := fun vs H Q _ => ∃ (p : Addr) (n : Nat), vs = [.ref p, .int n] ∧ 1 ≤ n ∧ n ≤ 3 ∧ PurseAt H p ∧ ∀ H' l, But p H H' → PurseAt H' p → l.length = n → l.Pairwise (· < ·) → (∀ c ∈ l, 97 ≤ c ∧ c ≤ 122) → Q (.str (tx l)) H'
abbrev nLetters : List Str := ["_law_purse_here", "_law_size", "_law_abc", "_law_found", "_law_k", "_law_low", "_law_at"]
theorem sc_letters : FnScope nLetters ["_law_purse_here", "_law_size"] (defScope s_law_letters) := ⟨rfl, rfl, rfl, by decide +kernel, rfl, by decide +kernel, by decide +kernel⟩
theorem PurseAt.ne {H : Hp} {p a : Addr} {o : HO} (h : PurseAt H p) (e : H a = none) : p ≠ a := by
  obtain ⟨x, y, z, h, _⟩ := h
  exact ne_of_none h e
theorem ok_letters (T : Txt K mg) : Fn P w K mg base 2 "_law_letters" ["_law_purse_here", "_law_size"] spLettersOf := by
  have G : Fn P w K mg base 1 "_law_pick" ["_law_purse_here", "_law_size"] spPick := ok_pick T T.d_law_pick T.f_int T.f_divmod
  refine T.d_law_letters.fn sc_letters (fun _ _ _ _ _ _ us hl => match us, hl with | [_, _], _ => rfl) (fun vs H Q E h => ?_) (fun cdv Ar outer s H vs Q E hr h => ?_)
  · obtain ⟨p, n, rfl, _⟩ := h
    rfl
  · obtain ⟨p, n, rfl, n1, n3, hp, k⟩ := h
    refine ⟨_, pss_cons (ps_asg (pe_tup (pa_cons pe_str (pa_cons (pe_lst pa_nil) pa_nil))) (pg_tup rfl (pgs_cons (pg_name (i := 2) sc_letters.nd rfl (.inr rfl)) (pgs_cons (pg_name (i := 3) sc_letters.nd rfl (.inl rfl)) pgs_nil))))
      (pss_cons (ps_for PassesOwn.never rfl (pi_range1 (by rfl) T.f_range (pa_cons (pv 1) pa_nil)) (pg_name (i := 4) sc_letters.nd rfl (.inl rfl))
        (pss_cons (ps_set (i := 5) sc_letters.nd rfl (.inl rfl) (pe_ifExp (pt_cmpR (op_eqD hr.units) (pv 3) (pe_lst pa_nil) (nomark _)) pe_int (pe_op op_add (pe_ix ix_list (pv 3) (pe_un un_neg pe_int) (fun _ _ => rfl)) pe_int)))
        (pss_one (ps_expr (pe_bm PySem.F.plainAttrs_list PySem.F.slot_list_append PySem.F.type_list_append mt_append (pv 3) (pa_cons (pe_op op_add (pv 5) (pcall G hr (pa_cons (pv 0) (pa_cons (pe_op op_sub (pe_op op_add (pe_op op_sub pe_int (pv 1)) (pv 4)) (pv 5)) pa_nil)))) pa_nil))))))
      (pss_one (ps_ret (pe_join pe_str (pe_lc (own := [("_law_at", 6)]) (g := gName 6) (tt := tYes) rfl sc_letters.nd (pi_list (pv 3)) (blkOk_by (N := nLetters) (sc := defScope s_law_letters) (by decide +kernel))
          (fun _ _ _ _ _ => pg_name (i := 6) sc_letters.nd rfl (Or.inl rfl)) (fun _ _ _ _ _ => pts_nil) (fun _ _ _ _ _ => pe_ix ix_str (pv 2) (pv 6) (fun _ _ => rfl))))))), ?_⟩
    walk_at "rd"
    refine ⟨by show 0 ≤ sizeLine; decide, ?_⟩
    walk_at "nw"
    rename_i fo nfo H1 e1 hfo
    walk_at "rd"
    refine ⟨by show 2 ≤ sizeLine; decide, ?_⟩
    walk_at "nw"
    rename_i q nq H2 e2 hq
    refine ⟨q, _, rfl, SqT.of hq, rfl, ?_⟩
    walk_at "rd"
    refine ⟨(n : Int), rfl, by omega, by omega, ?_⟩
    rw [Int.toNat_natCast]
    have nfp : fo ≠ p := by
      obtain ⟨x, y, z, h, _⟩ := hp
      exact fun z => by rw [z, h] at nfo; cases nfo
    refine for_it (walk_range (lo := 0) (n := n)) (fun i σ' H' => ∃ v4 v5 v6 xs, σ' = [some (.ref p), some (.int n), some (.str "abcdefghijklmnopqrstuvwxyz"), some (.ref fo), v4, v5, v6] ∧ But p H H' ∧ PurseAt H' p ∧ H' fo = some (.lst (xs.map V.int)) ∧ xs.length = i ∧ AscTo n xs)
      ⟨none, none, none, [], rfl, But.of (e1.trans e2), hp.same (e1.trans e2), e2 _ _ hfo, rfl, AscTo.nil⟩ (fun i σ' H' _ q => trivial) ?_ ?_
    · rintro i x σ' H' H'' hi ⟨v4, v5, v6, xs, rfl, b1, hp1, hf, hlen, hdr⟩ ⟨rfl, rfl⟩
      walk_at "rd"
      refine ⟨by show 0 ≤ sizeLine; decide, ?_⟩
      walk_at "nw"
      rename_i q3 nq3 H3 e3 hq3
      refine ⟨_, _, .lst (SqL.of (e3 _ _ hf)) (dp_ints xs), .lst (SqL.of hq3) .nil, shaped_ints xs, by decide +kernel, ?_⟩
      rw [eqv_list, eqvAll_nil]
      have b3 : But p H H3 := b1.trans (But.of e3)
      have step : ∀ low : Int, 0 ≤ low → (∀ x ∈ xs, x < low) → low ≤ 26 - n + i → tDrop (tBM K "list" rAppend (tVar 3) (tCons (tOp (rI0 fun i j => .int (i + j)) (tVar 5) (tCl spPick (tCons (tVar 0) (tCons (tOp (rI0 fun i j => .int (i - j)) (tOp (rI0 fun i j => .int (i + j)) (tOp (rI0 fun i j => .int (i - j)) (tC (.int 27)) (tVar 1)) (tVar 4)) (tVar 5)) tNil)))) tNil))
          { nx := fun σ' H' => ∃ v4 v5 v6 xs, σ' = [some (.ref p), some (.int n), some (.str "abcdefghijklmnopqrstuvwxyz"), some (.ref fo), v4, v5, v6] ∧ But p H H' ∧ PurseAt H' p ∧ H' fo = some (.lst (xs.map V.int)) ∧ xs.length = i + 1 ∧ AscTo n xs, rt := Q }
          [some (.ref p), some (.int n), some (.str "abcdefghijklmnopqrstuvwxyz"), some (.ref fo), some (.int (0 + (i : Int))), some (.int low), v6] H3 := fun low l0 ll lh => by
        walk_at "rd"
        refine ⟨.inl ⟨rfl, _, SqL.of (e3 _ _ hf)⟩, ?_⟩
        walk_at "rd"
        refine ⟨p, _, rfl, by omega, by omega, hp1.same e3, fun H4 r b4 hp4 r0 r1 => ?_⟩
        walk_at "rd"
        have hf4 := b4 _ _ nfp (e3 _ _ hf)
        refine ⟨fo, _, _, rfl, rfl, hf4, ?_, ?_⟩
        · rw [List.length_map]
          exact small1000 (by omega)
        have em : xs.map V.int ++ [V.int (low + r)] = (xs ++ [low + r]).map V.int := by rw [List.map_append]; rfl
        rw [em]
        refine ⟨_, _, _, xs ++ [low + r], rfl, but_upd_new (b3.trans b4) nfo, ?_, upd_same, by rw [List.length_append, List.length_singleton, hlen], hdr.snoc (by omega) (fun x hx => ?_) (by omega)⟩
        · obtain ⟨x, y, z, h1, h2⟩ := hp4
          exact ⟨x, y, z, by rw [upd_ne nfp.symm]; exact h1, h2⟩
        · have := ll x hx
          omega
      rcases nil_or_snoc xs with rfl | ⟨ys, x, rfl⟩
      · walk_at "rd"
        refine iteT ?_
        refine step 0 (by omega) (by intro x hx; cases hx) ?_
        omega
      · have ne : ((ys ++ [x]).map PyData.int).isEmpty = false := by rw [List.map_append]; cases ys <;> rfl
        rw [ne]
        walk_at "rd"
        refine iteF ?_
        walk_at "rd"
        refine r_ixL (v := .int x) (SqL.of (e3 _ _ hf)) ?_ ?_
        · rw [List.map_append]
          exact atI_last _ _
        refine r_c (r_I0 (r_gname ?_))
        have hx0 := hdr.lo x (List.mem_append_right _ (List.mem_singleton.mpr rfl))
        have hxh := hdr.hi ys.length x (by simp)
        have hl2 : ys.length + 1 = i := by rw [← hlen]; simp
        have hlt : ∀ y ∈ ys ++ [x], y < x + 1 := fun y hy => by
          rcases List.mem_append.mp hy with z | z
          · have := (List.pairwise_append.mp hdr.asc).2.2 y z x (List.mem_singleton.mpr rfl)
            omega
          · rw [List.mem_singleton.mp z]; omega
        exact step (x + 1) (by omega) hlt (by omega)
    · rintro σ' H' ⟨v4, v5, v6, xs, rfl, b1, hp1, hf, hlen, hdr⟩
      walk_at "rd"
      refine ⟨fo, rfl, ⟨_, SqL.of hf⟩, ?_⟩
      have hdr26 : ∀ x ∈ xs, 0 ≤ x ∧ x < 26 := fun x hx => by
        obtain ⟨j, hj, e⟩ := List.mem_iff_getElem.mp hx
        have h1 := hdr.hi j x (by rw [List.getElem?_eq_getElem hj, e])
        exact ⟨hdr.lo x hx, by omega⟩
      refine lc_L (SqL.of hf) (fun _ => true) (fun x => match x with | .int i => .str (s1 (97 + i.toNat)) | _ => .non) (by rw [List.length_map]; exact small1000 (by omega)) (fun y => rfl) (fun x H' hx s Q q => ?_) (fun x H' hx hf' s Q q => ?_) (fun q3 H3 nq3 e3 h3 => ?_)
      · walk_at "rd"
        exact q _ (Same.refl _)
      · obtain ⟨x, hx2, rfl⟩ := List.mem_map.mp hx
        obtain ⟨h0, h26⟩ := hdr26 x hx2
        walk_at "rd"
        obtain ⟨j, rfl⟩ := Int.eq_ofNat_of_zero_le h0
        refine r_ixS (c := 97 + j) (by decide +kernel) (atI_nat (abc_at (by omega))) ?_
        exact q _ (Same.refl _)
      rw [filter_all, List.map_map] at h3
      have h4 : H3 q3 = some (.lst ((((xs.map fun i => 97 + i.toNat)).map s1).map V.str)) := by rw [h3, List.map_map, List.map_map]; rfl
      walk_at "rd"
      refine ⟨_, q3, (xs.map fun i => 97 + i.toNat).map s1, rfl, rfl, .inl (SqL.of h4), ?_, ?_⟩
      · have h1 := sum_le (fun z : Str => z.length) 1 ((xs.map fun i => 97 + i.toNat).map s1) (fun z hz => by
          obtain ⟨c, _, rfl⟩ := List.mem_map.mp hz
          exact Nat.le_refl _)
        have h0 : ("" : Str).length = 0 := by decide +kernel
        rw [h0]
        simp only [List.length_map] at h1 ⊢
        omega
      rw [join_signs]
      refine k _ _ (b1.trans (But.of e3)) (hp1.same e3) (by rw [List.length_map]; exact hlen) ?_ (fun c hc => ?_)
      · rw [List.pairwise_map]
        exact hdr.asc.imp_of_mem fun {a b} ha hb h => by
          have := (hdr26 a ha).1
          have := (hdr26 b hb).1
          omega
      · obtain ⟨x, hx, rfl⟩ := List.mem_map.mp hc
        have := hdr26 x hx
        omega
end
end K73

set_option Elab.async false
set_option linter.all false
set_option maxRecDepth 100000
set_option maxHeartbeats 4000000
namespace K73
open PySem PySem.Spec PyProof.Rows L2
local macro_rules | `(tactic| walk_at "rd") => `(tactic| repeat (first | with_reducible refine r_seq ?_ | with_reducible refine r_asg ?_ | with_reducible refine r_ret ?_ | with_reducible refine r_op ?_ | with_reducible refine r_var (by with_unfolding_all rfl) ?_ | with_reducible refine r_c ?_ | with_reducible refine r_cons ?_ | with_reducible refine r_nil ?_ | with_reducible refine r_gname ?_ | with_reducible refine r_ifS ?_ | with_reducible refine r_test ?_ | with_reducible refine r_bl ?_ | with_reducible refine r_I0 ?_ | with_reducible refine r_cb ?_ | with_reducible refine r_cl ?_ | with_reducible refine r_tup ?_ | with_reducible refine r_lst ?_ | with_reducible refine r_gsub ?_ | with_reducible refine r_gcons ?_ | with_reducible refine r_gnil ?_ | with_reducible refine r_drop ?_ | with_reducible refine r_next ?_ | with_reducible refine r_par ?_ | with_reducible refine r_par2 ?_ | with_reducible refine r_and ?_ | with_reducible refine r_or ?_ | with_reducible refine r_not ?_ | with_reducible refine r_yes ?_ | with_reducible refine r_andV ?_ | with_reducible refine r_orV ?_ | with_reducible refine r_notV ?_ | with_reducible refine r_if ?_ | with_reducible refine r_chain ?_ | with_reducible refine r_U ?_ | with_reducible refine r_un ?_ | with_reducible refine r_eq (by with_unfolding_all rfl) ?_ | with_reducible refine r_ne (by with_unfolding_all rfl) ?_ | with_reducible refine r_int ?_ | with_reducible refine r_sl ?_ | with_reducible refine r_nopart ?_ | with_reducible refine r_part ?_ | with_reducible refine r_exI ?_ | with_reducible refine r_dget ?_ | with_reducible refine r_din ?_ | with_reducible refine r_dnotin ?_ | with_reducible refine r_dput ?_ | with_reducible refine r_isN ?_ | with_reducible refine r_notN ?_ | with_reducible refine r_bm ?_ | with_reducible refine r_bm0 ?_ | with_reducible refine r_retN ?_ | with_reducible refine r_lc ?_ | with_reducible refine r_for ?_ | with_reducible refine r_iStr ?_ | with_reducible refine r_exS ?_ | with_reducible refine r_iList ?_ | with_reducible refine r_iTup ?_ | with_reducible refine r_iRng ?_ | with_reducible refine r_m1 ?_ | with_reducible refine r_strM ?_ | with_reducible refine r_tB ?_ | with_reducible refine r_dc ?_ | with_reducible refine r_iZipS ?_ | with_reducible refine r_lc2 ?_ | with_reducible refine r_iZip ?_ | with_reducible refine r_tCmp ?_ | with_reducible refine r_newT ?_ | with_reducible refine r_newK ?_ | with_reducible refine r_sfld ?_ | with_reducible refine r_fld ?_ | with_reducible refine r_make ?_ | with_reducible refine r_pr ?_ | with_reducible refine r_dt ?_ | with_reducible refine r_iKeys ?_ | with_reducible refine r_dget2 ?_))
local macro_rules | `(tactic| walk_at "nw") => `(tactic| (intro q nq; generalize hH : upd _ q _ = H1; have s1 := same_upd_eq nq hH; have hq := upd_eq hH; clear hH))
section
variable {P : Program} {w : World} {K : PySem.W.Frag} {mg : Str → Option Value} {base : Heap}
theorem int_eq {a b : Int} (h : decide (V.int a = V.int b) = true) : a = b := V.int.inj (of_decide_eq_true h)
theorem int_ne {a b : Int} (h : ¬ decide (V.int a = V.int b) = true) : a ≠ b := fun e => h (decide_eq_true (by rw [e]))
def spAim : Sp := fun vs H Q _ => ∃ (p : Addr) (way size count spot step : Int), vs = [.ref p, .int way, .int size, .int count, .int spot, .int step] ∧ 0 ≤ way ∧ way ≤ 5 ∧ 1 ≤ size ∧ size ≤ 5 ∧ 0 ≤ spot ∧ spot < size ∧ 0 ≤ step ∧ step < count ∧ count ≤ 3 ∧
  (way = 1 → size = count) ∧ (way = 2 → size = count + 2) ∧ (way = 4 → count = 2 ∧ size = 5) ∧ PurseAt H p ∧ ∀ H' r, But p H H' → PurseAt H' p → 0 ≤ r → r < size → Q (.int r) H'
abbrev nAim : List Str := ["_law_purse_here", "_law_way", "_law_size", "_law_count", "_law_spot", "_law_step", "_law_bad"]
theorem sc_aim : FnScope nAim ["_law_purse_here", "_law_way", "_law_size", "_law_count", "_law_spot", "_law_step"] (defScope s_law_aim) := ⟨rfl, rfl, rfl, by decide +kernel, rfl, by decide +kernel, by decide +kernel⟩
theorem ok_aim (T : Txt K mg) : Fn P w K mg base 2 "_law_aim" ["_law_purse_here", "_law_way", "_law_size", "_law_count", "_law_spot", "_law_step"] spAim := by
  have G : Fn P w K mg base 1 "_law_pick" ["_law_purse_here", "_law_size"] spPick := ok_pick T T.d_law_pick T.f_int T.f_divmod
  refine T.d_law_aim.fn sc_aim (fun _ _ _ _ _ _ us hl => match us, hl with | [_, _, _, _, _, _], _ => rfl) (fun vs H Q E h => ?_) (fun cdv Ar outer s H vs Q E hr h => ?_)
  · obtain ⟨p, way, size, count, spot, step, rfl, _⟩ := h
    rfl
  · obtain ⟨p, way, size, count, spot, step, rfl, w0, w5, s1, s5, p0, p1, t0, t1, c3, h1, h2, h4, hp, k⟩ := h
    have b0 := But.refl p H
    refine ⟨_, pss_cons (ps_if (pt_cmpR op_eq (pv 1) pe_int (nomark _)) (pss_one (ps_ret (pv 5))) pss_nil)
      (pss_cons (ps_if (pt_cmpR op_eq (pv 1) pe_int (nomark _))
        (pss_cons (ps_if (pt_cmpR op_eq (pv 4) (pe_op op_sub (pv 2) pe_int) (nomark _)) (pss_one (ps_ret (pv 4))) pss_nil)
        (pss_cons (ps_set (i := 6) sc_aim.nd rfl (.inl rfl) (pe_and (pe_cmpR op_gt (pv 4) pe_int (nomark _)) (pe_one (pe_cmpR op_eq (pcall G hr (pa_cons (pv 0) (pa_cons pe_int pa_nil))) pe_int (nomark _)))))
        (pss_one (ps_ret (pe_ifExp (pt_val (pv 6)) (pe_op op_sub (pv 2) pe_int) (pe_op op_add pe_int (pv 5))))))) pss_nil)
      (pss_cons (ps_if (pt_cmpR op_eq (pv 1) pe_int (nomark _)) (pss_one (ps_ret (pe_op op_mod (pe_callTy call_int1 (by rfl) T.f_int (by decide +kernel) (pa_cons (pe_op op_add (pe_op op_mul (pv 4) (pv 3)) (pv 5)) pa_nil)) (pv 2)))) pss_nil)
      (pss_cons (ps_if (pt_cmpR op_eq (pv 1) pe_int (nomark _)) (pss_one (ps_ret (pe_ifExp (pt_cmpR op_eq (pv 4) pe_int (nomark _)) (pe_op op_add pe_int (pe_op op_mul pe_int (pv 5))) (pe_op op_add (pe_op op_add pe_int (pe_op op_mul (pe_op op_fdiv (pe_op op_sub (pv 4) pe_int) pe_int) pe_int)) (pv 5))))) pss_nil)
      (pss_one (ps_ret (pcall G hr (pa_cons (pv 0) (pa_cons (pv 2) pa_nil)))))))), ?_⟩
    walk_at "rd"
    refine ite2 (fun h => ?_) (fun n1 => ?_)
    · have e := h1 (int_eq h)
      walk_at "rd"
      exact k _ _ b0 hp (by omega) (by omega)
    walk_at "rd"
    refine ite2 (fun h => ?_) (fun n2 => ?_)
    · have e := h2 (int_eq h)
      walk_at "rd"
      refine ite2 (fun h' => ?_) (fun h' => ?_)
      · walk_at "rd"
        exact k _ _ b0 hp (by omega) (by omega)
      · walk_at "rd"
        refine ite2 (fun h' => ?_) (fun h' => ?_)
        · walk_at "rd"
          refine ⟨p, 3, rfl, by decide, by decide, hp, fun H1 r b1 hp1 r0 r1 => ?_⟩
          walk_at "rd"
          refine ite2 (fun h' => ?_) (fun h' => ?_)
          · walk_at "rd"
            exact k _ _ b1 hp1 (by omega) (by omega)
          · walk_at "rd"
            exact k _ _ b1 hp1 (by omega) (by omega)
        · walk_at "rd"
          refine iteF ?_
          walk_at "rd"
          exact k _ _ b0 hp (by omega) (by omega)
    walk_at "rd"
    refine ite2 (fun h => ?_) (fun n3 => ?_)
    · walk_at "rd"
      refine r_I (.inl ⟨by omega, by omega⟩) ?_
      walk_at "rd"
      refine r_I (show (0 : Int) < size by omega) ?_
      exact k _ _ b0 hp (Int.emod_nonneg _ (by omega)) (Int.emod_lt_of_pos _ (by omega))
    walk_at "rd"
    refine ite2 (fun h => ?_) (fun n4 => ?_)
    · obtain ⟨e1, e2⟩ := h4 (int_eq h)
      walk_at "rd"
      refine ite2 (fun h' => ?_) (fun h' => ?_)
      · walk_at "rd"
        refine r_I (.inl ⟨by decide, by decide⟩) ?_
        walk_at "rd"
        exact k _ _ b0 hp (by omega) (by omega)
      · have e := int_ne h'
        walk_at "rd"
        refine r_I ⟨by decide, by decide⟩ ?_
        walk_at "rd"
        refine r_I (.inr ⟨by decide, by decide⟩) ?_
        walk_at "rd"
        exact k _ _ b0 hp (by omega) (by omega)
    · walk_at "rd"
      exact ⟨p, size, rfl, by omega, by omega, hp, k⟩
end
end K73

set_option Elab.async false
set_option linter.all false
set_option maxRecDepth 100000
set_option maxHeartbeats 4000000
namespace K73
open PySem PySem.Spec PyProof.Rows L2
/-! ### a drawn rule, as the script holds it -/
def BoxAt (H : Hp) (a : Addr) (B : Box) : Prop := ∃ (l1 l2 d : Addr) (kvs : List (List Key × V)), H a = some (.tup [.str (tx B.sg), .ref l1, .ref l2, .ref d]) ∧ H l1 = some (.lst (B.tg.map V.str)) ∧ H l2 = some (.lst (B.fn.map V.str)) ∧ H d = some (.dT kvs) ∧ GoalsOk kvs B
theorem BoxAt.same {H H' : Hp} {a : Addr} {B : Box} (h : BoxAt H a B) (s : Same H H') : BoxAt H' a B := by
  obtain ⟨l1, l2, d, kvs, h1, h2, h3, h4, h5⟩ := h
  exact ⟨l1, l2, d, kvs, s _ _ h1, s _ _ h2, s _ _ h3, s _ _ h4, h5⟩
theorem PurseAt.not_strs {H : Hp} {p a : Addr} {l : List Str} (h : PurseAt H p) (e : H a = some (.lst (l.map V.str))) : a ≠ p := fun z => by
  obtain ⟨x, y, w, h, _⟩ := h
  rw [z, h] at e
  cases l with
  | nil => cases e
  | cons b l => cases e
theorem PurseAt.not_tup {H : Hp} {p a : Addr} {xs : List V} (h : PurseAt H p) (e : H a = some (.tup xs)) : a ≠ p := fun z => by
  obtain ⟨x, y, w, h, _⟩ := h
  rw [z, h] at e
  cases e
theorem PurseAt.not_dT {H : Hp} {p a : Addr} {xs : List (List Key × V)} (h : PurseAt H p) (e : H a = some (.dT xs)) : a ≠ p := fun z => by
  obtain ⟨x, y, w, h, _⟩ := h
  rw [z, h] at e
  cases e
theorem PurseAt.not_free {H : Hp} {p a : Addr} (h : PurseAt H p) (e : H a = none) : a ≠ p := fun z => by
  obtain ⟨x, y, w, h, _⟩ := h
  rw [z, h] at e
  cases e
theorem PurseAt.upd {H : Hp} {p a : Addr} {o : HO} (h : PurseAt H p) (n : a ≠ p) : PurseAt (L2.upd H a o) p := by
  obtain ⟨x, y, z, h1, h2⟩ := h
  exact ⟨x, y, z, by rw [upd_ne n.symm]; exact h1, h2⟩
theorem BoxAt.but {H H' : Hp} {a p : Addr} {B : Box} (h : BoxAt H a B) (hp : PurseAt H p) (e : But p H H') : BoxAt H' a B := by
  obtain ⟨l1, l2, d, kvs, h1, h2, h3, h4, h5⟩ := h
  exact ⟨l1, l2, d, kvs, e _ _ (hp.not_tup h1) h1, e _ _ (hp.not_strs h2) h2, e _ _ (hp.not_strs h3) h3, e _ _ (hp.not_dT h4) h4, h5⟩
theorem But.strs {K : PySem.W.Frag} {H H' : Hp} {p a : Addr} {l : List Str} (b : But p H H') (hp : PurseAt H p) (h : SqL K H a (l.map V.str)) : SqL K H' a (l.map V.str) := by
  rcases h with (h | ⟨o, h⟩) | h
  · exact .inl (.inl (b _ _ (hp.not_strs h) h))
  · refine .inl (.inr ⟨o, b _ _ (fun z => ?_) h⟩)
    obtain ⟨x, y, w, h1, _⟩ := hp
    rw [z, h1] at h
    cases h
  · exact .inr h
theorem sub_filter {fn tg : List Str} (h : fn.Sublist tg) : tg.Nodup → fn = tg.filter fun t => decide (t ∈ fn) := by
  induction h with
  | slnil => intro _; rfl
  | @cons l1 l2 a h ih =>
    intro nd
    obtain ⟨h1, h2⟩ := List.nodup_cons.mp nd
    have hn : a ∉ l1 := fun z => h1 (h.subset z)
    rw [List.filter_cons, if_neg (by simpa using hn)]
    exact ih h2
  | @cons_cons l1 l2 a h ih =>
    intro nd
    obtain ⟨h1, h2⟩ := List.nodup_cons.mp nd
    rw [List.filter_cons, if_pos (decide_eq_true (List.mem_cons_self ..))]
    have e : (l2.filter fun t => decide (t ∈ a :: l1)) = l2.filter fun t => decide (t ∈ l1) := List.filter_congr fun t ht => by
      have : t ≠ a := fun z => h1 (z ▸ ht)
      simp [this]
    rw [e, ← ih h2]
/-! ### the words drawn for moods -/
abbrev stk : List Str := ["p", "pq", "q", "good", "maa", "signs", "ppq", "mab", "moods", "qqqqqqqq"]
def tagAt (f s k : Nat) : Str := stk.getD ((f + s * k) % 10) ""
def tagsOf (f s n : Nat) : List Str := (List.range n).map (tagAt f s)
theorem tags_take {f s n : Nat} (h : n ≤ 5) : tagsOf f s n = (tagsOf f s 5).take n := by
  unfold tagsOf
  rw [← List.map_take, List.take_range, Nat.min_eq_left h]
theorem tags_nd5 : ∀ f < 10, ∀ s ∈ [1, 3, 7, 9], (tagsOf f s 5).Nodup := by decide +kernel
theorem tags_nd {f s n : Nat} (hf : f < 10) (hs : s ∈ [1, 3, 7, 9]) (h : n ≤ 5) : (tagsOf f s n).Nodup := by
  rw [tags_take h]
  exact (List.take_sublist _ _).nodup (tags_nd5 f hf s hs)
theorem stk_wd : ∀ t ∈ stk, 1 ≤ t.cps.toList.length ∧ t.cps.toList.length ≤ 8 ∧ ∀ c ∈ t.cps.toList, 97 ≤ c ∧ c ≤ 122 := by decide +kernel
theorem stk_at {k : Nat} (h : k < 10) : (stk.map V.str)[k]? = some (.str (stk.getD k "")) := by
  have hk : k < stk.length := h
  rw [List.getElem?_map, List.getElem?_eq_getElem hk, List.getD_eq_getElem?_getD, List.getElem?_eq_getElem hk]
  rfl
theorem tags_wd {f s n : Nat} : ∀ t ∈ tagsOf f s n, Wd t := fun t ht => by
  obtain ⟨k, _, rfl⟩ := List.mem_map.mp ht
  have hk : (f + s * k) % 10 < stk.length := Nat.mod_lt _ (by decide)
  unfold tagAt
  rw [List.getD_eq_getElem?_getD, List.getElem?_eq_getElem hk]
  exact stk_wd _ (List.getElem_mem hk)
theorem tags_len (f s n : Nat) : (tagsOf f s n).length = n := by
  unfold tagsOf
  rw [List.length_map, List.length_range]
/-! ### what is kept by draws -/
theorem lc_draw {K : PySem.W.Frag} {σ : L2.St} {H1 : Hp} {vs : List Nat} {j : Nat} {tt : TT} {Qd : V → Hp → Prop} {p a : Addr} {l : List Str} (hx : SqL K H1 a (l.map V.str)) (hp : PurseAt H1 p) (hn : l.length ≤ 1000)
    (hj : ∀ y, ((wipe σ vs).set j (some y))[j]? = some (some y)) (hw : ∀ y : Option V, wipe ((wipe σ vs).set j y) vs = wipe σ vs)
    (ht : ∀ t H', t ∈ l → But p H1 H' → PurseAt H' p → ∀ Q : Bool → Hp → Prop, (∀ b H3, But p H' H3 → PurseAt H3 p → Q b H3) → tt ((wipe σ vs).set j (some (.str t))) H' Q)
    (hd : ∀ (D : Addr) (H' : Hp) (fs : List Str), H1 D = none → But p H1 H' → PurseAt H' p → H' D = some (.lst (fs.map V.str)) → fs.Sublist l → Qd (.ref D) H') : LcGoal (Itl K a) (gName j) tt (tVar j) vs σ H1 Qd := by
  intro D nD
  have nDp := hp.not_free nD
  refine lc_it (Qd := fun H => Qd (.ref D) H) (walk_list (K := K) (a := a) (xs := l.map V.str)) (fun i H' => But p H1 H' ∧ PurseAt H' p ∧ ∃ fs : List Str, H' D = some (.lst (fs.map V.str)) ∧ fs.Sublist (l.take i)) ⟨But.of (same_upd nD), hp.upd nDp, [], upd_same, List.nil_sublist _⟩ (fun i H' _ q => q.1.strs hp hx) (fun i x H' H'' hi q y => ?_) (fun H' q => ?_)
  · obtain ⟨rfl, hy⟩ := y
    obtain ⟨b, pu, fs, hD, sb⟩ := q
    rw [List.getElem?_map] at hy
    cases e : l[i]? with
    | none => rw [e] at hy; cases hy
    | some t =>
      rw [e] at hy
      have ex : V.str t = x := Option.some.inj hy
      subst ex
      refine ⟨hw _, ht t _ (List.mem_of_getElem? e) b pu _ fun c H3 b3 p3 => ?_⟩
      cases c with
      | true =>
        refine iteT (r_var (hj _) ?_)
        refine ⟨fs.map V.str, b3 _ _ nDp hD, ?_, ?_, p3.upd nDp, fs ++ [t], ?_, ?_⟩
        · rw [List.length_map]
          have := sb.length_le
          rw [List.length_take] at this
          exact small1000 (by omega)
        · exact but_upd_new (b.trans b3) nD
        · rw [List.map_append]
          exact upd_same
        · rw [take_more e]
          exact sb.append (List.Sublist.refl _)
      | false =>
        refine iteF ⟨b.trans b3, p3, fs, b3 _ _ nDp hD, ?_⟩
        rw [take_more e]
        exact sb.trans (List.sublist_append_left _ _)
  · obtain ⟨b, pu, fs, hD, sb⟩ := q
    rw [List.length_map, List.take_length] at sb
    exact hd D H' fs nD b pu hD sb
end K73

set_option Elab.async false
set_option linter.all false
set_option maxRecDepth 100000
set_option maxHeartbeats 4000000
namespace K73
open PySem PySem.Spec PyProof.Rows L2
local macro_rules | `(tactic| walk_at "rd") => `(tactic| repeat (first | with_reducible refine r_seq ?_ | with_reducible refine r_asg ?_ | with_reducible refine r_ret ?_ | with_reducible refine r_op ?_ | with_reducible refine r_var (by with_unfolding_all rfl) ?_ | with_reducible refine r_c ?_ | with_reducible refine r_cons ?_ | with_reducible refine r_nil ?_ | with_reducible refine r_gname ?_ | with_reducible refine r_ifS ?_ | with_reducible refine r_test ?_ | with_reducible refine r_bl ?_ | with_reducible refine r_I0 ?_ | with_reducible refine r_cb ?_ | with_reducible refine r_cl ?_ | with_reducible refine r_tup ?_ | with_reducible refine r_lst ?_ | with_reducible refine r_gsub ?_ | with_reducible refine r_gcons ?_ | with_reducible refine r_gnil ?_ | with_reducible refine r_drop ?_ | with_reducible refine r_next ?_ | with_reducible refine r_par ?_ | with_reducible refine r_par2 ?_ | with_reducible refine r_and ?_ | with_reducible refine r_or ?_ | with_reducible refine r_not ?_ | with_reducible refine r_yes ?_ | with_reducible refine r_andV ?_ | with_reducible refine r_orV ?_ | with_reducible refine r_notV ?_ | with_reducible refine r_if ?_ | with_reducible refine r_chain ?_ | with_reducible refine r_U ?_ | with_reducible refine r_un ?_ | with_reducible refine r_eq (by with_unfolding_all rfl) ?_ | with_reducible refine r_ne (by with_unfolding_all rfl) ?_ | with_reducible refine r_int ?_ | with_reducible refine r_sl ?_ | with_reducible refine r_nopart ?_ | with_reducible refine r_part ?_ | with_reducible refine r_exI ?_ | with_reducible refine r_dget ?_ | with_reducible refine r_din ?_ | with_reducible refine r_dnotin ?_ | with_reducible refine r_dput ?_ | with_reducible refine r_isN ?_ | with_reducible refine r_notN ?_ | with_reducible refine r_bm ?_ | with_reducible refine r_bm0 ?_ | with_reducible refine r_retN ?_ | with_reducible refine r_lc ?_ | with_reducible refine r_for ?_ | with_reducible refine r_iStr ?_ | with_reducible refine r_exS ?_ | with_reducible refine r_iList ?_ | with_reducible refine r_iTup ?_ | with_reducible refine r_iRng ?_ | with_reducible refine r_m1 ?_ | with_reducible refine r_strM ?_ | with_reducible refine r_tB ?_ | with_reducible refine r_dc ?_ | with_reducible refine r_iZipS ?_ | with_reducible refine r_lc2 ?_ | with_reducible refine r_iZip ?_ | with_reducible refine r_tCmp ?_ | with_reducible refine r_newT ?_ | with_reducible refine r_newK ?_ | with_reducible refine r_sfld ?_ | with_reducible refine r_fld ?_ | with_reducible refine r_make ?_ | with_reducible refine r_pr ?_ | with_reducible refine r_dt ?_ | with_reducible refine r_iKeys ?_ | with_reducible refine r_dget2 ?_))
local macro_rules | `(tactic| walk_at "nw") => `(tactic| (intro q nq; generalize hH : upd _ q _ = H1; have s1 := same_upd_eq nq hH; have hq := upd_eq hH; clear hH))
section
variable {P : Program} {w : World} {K : PySem.W.Frag} {mg : Str → Option Value} {base : Heap}
theorem with_restP {α : Type} {A : α → Prop} {R : α → Prop} {G : Prop} (h : (∀ x, A x → R x) → G) (h2 : ∀ x, A x → R x) : G := h h2
/-- all but what stands at p, at g is as it was -/
def But2 (p g : Addr) (H H' : Hp) : Prop := ∀ b o, b ≠ p → b ≠ g → H b = some o → H' b = some o
def glOf (kvs : List (List Key × V)) (t : Str) (c : Nat) : Str := match valV kvs (gkey t c) with
  | some (.str z) => z
  | _ => t
def ValsIn (TG : List Str) (kvs : List (List Key × V)) : Prop := ∀ t c v, valV kvs (gkey t c) = some v → ∃ z ∈ TG, v = .str z
theorem ValsIn.put {TG : List Str} {kvs : List (List Key × V)} {t : Str} {c : Nat} {z : Str} (h : ValsIn TG kvs) (hz : z ∈ TG) : ValsIn TG (putK kvs (gkey t c) (.str z)) := fun u d v e => by
  rw [valV_put] at e
  by_cases ek : gkey u d = gkey t c
  · rw [if_pos ek] at e
    exact ⟨z, hz, (Option.some.inj e).symm⟩
  · rw [if_neg ek] at e
    exact h u d v e
theorem ValsIn.gl {TG : List Str} {kvs : List (List Key × V)} {t : Str} {c : Nat} (h : ValsIn TG kvs) (hs : (valV kvs (gkey t c)).isSome = true) : glOf kvs t c ∈ TG ∧ valV kvs (gkey t c) = some (.str (glOf kvs t c)) := by
  cases e : valV kvs (gkey t c) with
  | none => rw [e] at hs; cases hs
  | some v =>
    obtain ⟨z, hz, rfl⟩ := h t c v e
    unfold glOf
    rw [e]
    exact ⟨hz, rfl⟩
def spBox : Sp := fun vs H Q _ => ∃ (p : Addr) (l : List Nat), vs = [.ref p, .str (tx l)] ∧ 1 ≤ l.length ∧ l.length ≤ 3 ∧ l.Pairwise (· < ·) ∧ (∀ c ∈ l, 97 ≤ c ∧ c ≤ 122) ∧ PurseAt H p ∧ ∀ H' a B, But p H H' → PurseAt H' p → BoxAt H' a B → B.Ok → B.sg = l → Q (.ref a) H'
abbrev nBox : List Str := ["_law_purse_here", "_law_letters_here", "_law_count", "_law_way", "_law_size", "_law_stock", "_law_first", "_law_step", "_law_tags", "_law_goals", "_law_spot", "_law_at", "_law_fine", "_law_k", "_law_tag"]
theorem sc_box : FnScope nBox ["_law_purse_here", "_law_letters_here"] (defScope s_law_box) := ⟨rfl, rfl, rfl, by decide +kernel, rfl, by decide +kernel, by decide +kernel⟩
theorem ok_box (T : Txt K mg) : Fn P w K mg base 3 "_law_box" ["_law_purse_here", "_law_letters_here"] spBox := by
  have G : Fn P w K mg base 2 "_law_pick" ["_law_purse_here", "_law_size"] spPick := (ok_pick T T.d_law_pick T.f_int T.f_divmod).mono (by decide)
  have GA : Fn P w K mg base 2 "_law_aim" ["_law_purse_here", "_law_way", "_law_size", "_law_count", "_law_spot", "_law_step"] spAim := ok_aim T
  refine T.d_law_box.fn sc_box (fun _ _ _ _ _ _ us hl => match us, hl with | [_, _], _ => rfl) (fun vs H Q E h => ?_) (fun cdv Ar outer s H vs Q E hr h => ?_)
  · obtain ⟨p, l, rfl, _⟩ := h
    rfl
  · obtain ⟨p, l, rfl, l1, l3, asc, abc, hp, k⟩ := h
    refine ⟨_, pss_cons (ps_par (i := 2) (j := 3) rfl sc_box.nd rfl rfl (by decide) rfl rfl (pa_cons (pe_callB call_len_str (by rfl) T.f_len PySem.boot_len (pa_cons (pv 1) pa_nil)) (pa_cons (pcall G hr (pa_cons (pv 0) (pa_cons pe_int pa_nil))) pa_nil)) (by rfl))
      (pss_cons (ps_if (PW.pt (pw_and (pt_cmpR op_eq (pv 3) pe_int (nomark _)) (pw_and1 (pt_cmpR op_ne (pv 2) pe_int (nomark _))))) (pss_one (ps_set (i := 3) sc_box.nd rfl (.inl rfl) pe_int)) pss_nil)
      (pss_cons (ps_set (i := 4) sc_box.nd rfl (.inl rfl) (pe_op op_add pe_int (pcall G hr (pa_cons (pv 0) (pa_cons pe_int pa_nil)))))
      (pss_cons (ps_set (i := 4) sc_box.nd rfl (.inl rfl) (pe_ix ix_list (pe_lst (pa_cons (pv 4) (pa_cons (pv 2) (pa_cons (pe_op op_add (pv 2) pe_int) (pa_cons pe_int (pa_cons pe_int (pa_cons pe_int pa_nil))))))) (pv 3) (fun _ _ => rfl)))
      (pss_cons (ps_set (i := 5) sc_box.nd rfl (.inr rfl) (pe_lst (pa_cons pe_str (pa_cons pe_str (pa_cons pe_str (pa_cons pe_str (pa_cons pe_str (pa_cons pe_str (pa_cons pe_str (pa_cons pe_str (pa_cons pe_str (pa_cons pe_str pa_nil))))))))))))
      (pss_cons (ps_asg (pe_tup (pa_cons (pcall G hr (pa_cons (pv 0) (pa_cons pe_int pa_nil))) (pa_cons (pe_ix ix_list (pe_lst (pa_cons pe_int (pa_cons pe_int (pa_cons pe_int (pa_cons pe_int pa_nil))))) (pcall G hr (pa_cons (pv 0) (pa_cons pe_int pa_nil))) (fun _ _ => rfl)) pa_nil))) (pg_tup rfl (pgs_cons (pg_name (i := 6) sc_box.nd rfl (.inr rfl)) (pgs_cons (pg_name (i := 7) sc_box.nd rfl (.inr rfl)) pgs_nil))))
      (pss_cons (ps_asg (pe_tup (pa_cons (pe_lc (own := [("_law_k", 13)]) (g := gName 13) (tt := tYes) (te := tOp (rIxL K) (tVar 5) _) rfl sc_box.nd (pi_range1 (by rfl) T.f_range (pa_cons (pv 4) pa_nil)) (blkOk_by (N := nBox) (sc := defScope s_law_box) (by decide +kernel))
            (fun _ _ _ _ _ => pg_name (i := 13) sc_box.nd rfl (Or.inl rfl)) (fun _ _ _ _ _ => pts_nil)
            (fun _ _ _ _ _ => pe_ix ix_list (pv 5) (pe_op op_mod (pe_callTy call_int1 (by rfl) T.f_int (by decide +kernel) (pa_cons (pe_op op_add (pv 6) (pe_op op_mul (pv 7) (pv 13))) pa_nil)) pe_int) (fun _ _ => rfl))) (pa_cons pe_dnewT pa_nil))) (pg_tup rfl (pgs_cons (pg_name (i := 8) sc_box.nd rfl (.inr rfl)) (pgs_cons (pg_name (i := 9) sc_box.nd rfl (.inl rfl)) pgs_nil))))
      (pss_cons (ps_for PassesOwn.never rfl (pi_range1 (by rfl) T.f_range (pa_cons (pv 4) pa_nil)) (pg_name (i := 10) sc_box.nd rfl (.inl rfl))
        (pss_one (ps_for PassesOwn.never rfl (pi_range1 (by rfl) T.f_range (pa_cons (pv 2) pa_nil)) (pg_name (i := 11) sc_box.nd rfl (.inl rfl))
          (pss_one (ps_dput (hu_of hr) (pv 9) (pe_tup (pa_cons (pe_ix ix_list (pv 8) (pv 10) (fun _ _ => rfl)) (pa_cons (pe_ix ix_str (pv 1) (pv 11) (fun _ _ => rfl)) pa_nil))) (pe_ix ix_list (pv 8) (pcall GA hr (pa_cons (pv 0) (pa_cons (pv 3) (pa_cons (pv 4) (pa_cons (pv 2) (pa_cons (pv 10) (pa_cons (pv 11) pa_nil))))))) (fun _ _ => rfl)) rfl)))))
      (pss_cons (ps_setLc (i := 12) (own := [("_law_tag", 14)]) (g := gName 14) (tt := tTest (tOp rEq (tCl spPick (tCons (tVar 0) (tCons (tC (.int 2)) tNil))) (tC (.int 1)))) rfl sc_box.nd rfl rfl (sw_true rfl rfl rfl (by decide +kernel)) (pi_list (pv 8)) (blkOk_by (N := nBox) (sc := defScope s_law_box) (by decide +kernel))
            (fun _ _ _ _ _ => pg_name (i := 14) sc_box.nd rfl (Or.inl rfl)) (fun _ _ _ _ _ => pts_one (pt_cmpR op_eq (pcall G hr (pa_cons (pv 0) (pa_cons pe_int pa_nil))) pe_int (by rfl))) (fun _ _ _ _ _ => pv 14))
      (pss_cons (ps_if (pt_cmpR op_eq (pv 3) pe_int (nomark _)) (pss_one (ps_setLc (i := 12) (own := [("_law_tag", 14)]) (g := gName 14) (tt := tTest (tOp rNe (tVar 14) (tOp (rIxL K) (tVar 8) (tUn (rU fun i => .int (-i)) (tC (.int 1)))))) rfl sc_box.nd rfl rfl (sw_true rfl rfl rfl (by decide +kernel)) (pi_list (pv 12)) (blkOk_by (N := nBox) (sc := defScope s_law_box) (by decide +kernel))
            (fun _ _ _ _ _ => pg_name (i := 14) sc_box.nd rfl (Or.inl rfl)) (fun _ _ _ _ _ => pts_one (pt_cmpR op_ne (pv 14) (pe_ix ix_list (pv 8) (pe_un un_neg pe_int) (fun _ _ => rfl)) (by rfl))) (fun _ _ _ _ _ => pv 14))) pss_nil)
      (pss_one (ps_ret (pe_tup (pa_cons (pv 1) (pa_cons (pv 8) (pa_cons (pv 12) (pa_cons (pv 9) pa_nil)))))))))))))))), ?_⟩
    walk_at "rd"
    have ltx : (tx l).length = l.length := tx_len l
    refine ⟨_, rfl, by rw [ltx]; exact Nat.le_trans l3 (by decide), ?_⟩
    rw [ltx]
    walk_at "rd"
    refine ⟨p, 6, rfl, by decide, by decide, hp, fun H1 way b1 hp1 w0 w6 => ?_⟩
    walk_at "rd"
    apply with_restP (A := fun v : V => ∃ wy : Int, v = .int wy ∧ 0 ≤ wy ∧ wy ≤ 5 ∧ (wy = 4 → l.length = 2))
    · intro main
      refine ite2 (fun h => ?_) (fun h => ?_)
      · have e4 := int_eq h
        walk_at "rd"
        refine ite2 (fun h2 => ?_) (fun h2 => ?_)
        · walk_at "rd"
          generalize hv : V.int 0 = v
          exact main v ⟨0, hv.symm, by omega, by omega, fun z => by omega⟩
        · walk_at "rd"
          generalize hv : V.int way = v
          refine main v ⟨way, hv.symm, by omega, by omega, fun z => ?_⟩
          have h3 : ¬ (!decide (V.int ((l.length : Nat) : Int) = V.int 2)) = true := h2
          by_cases h4 : V.int ((l.length : Nat) : Int) = V.int 2
          · have := V.int.inj h4
            omega
          · rw [decide_eq_false h4] at h3
            exact absurd rfl h3
      · have e4 := int_ne h
        refine iteF ?_
        walk_at "rd"
        generalize hv : V.int way = v
        exact main v ⟨way, hv.symm, by omega, by omega, fun z => absurd z e4⟩
    rintro v ⟨wy, rfl, w0', w5, w4⟩
    clear w0 w6
    walk_at "rd"
    refine ⟨p, 4, rfl, by decide, by decide, hp1, fun H2 r2 b2 hp2 r20 r24 => ?_⟩
    walk_at "rd"
    refine ⟨by show 6 ≤ sizeLine; decide, ?_⟩
    walk_at "nw"
    rename_i q3 nq3 H3 e3 hq3
    walk_at "rd"
    obtain ⟨sz, hsz, sz1, sz5, e1, e2, e4⟩ : ∃ sz : Int, atI [V.int (1 + r2), V.int (l.length : Nat), V.int ((l.length : Nat) + 2), V.int 4, V.int 5, V.int 2] wy = some (.int sz) ∧ 1 ≤ sz ∧ sz ≤ 5 ∧ (wy = 1 → sz = (l.length : Nat)) ∧ (wy = 2 → sz = (l.length : Nat) + 2) ∧ (wy = 4 → sz = 5) := by
      have hw : wy = 0 ∨ wy = 1 ∨ wy = 2 ∨ wy = 3 ∨ wy = 4 ∨ wy = 5 := by omega
      rcases hw with rfl | rfl | rfl | rfl | rfl | rfl
      · exact ⟨_, atI_nat (j := 0) rfl, by omega, by omega, by omega, by omega, by omega⟩
      · exact ⟨_, atI_nat (j := 1) rfl, by omega, by omega, by omega, by omega, by omega⟩
      · exact ⟨_, atI_nat (j := 2) rfl, by omega, by omega, by omega, by omega, by omega⟩
      · exact ⟨_, atI_nat (j := 3) rfl, by omega, by omega, by omega, by omega, by omega⟩
      · exact ⟨_, atI_nat (j := 4) rfl, by omega, by omega, by omega, by omega, by omega⟩
      · exact ⟨_, atI_nat (j := 5) rfl, by omega, by omega, by omega, by omega, by omega⟩
    obtain ⟨n, rfl⟩ := Int.eq_ofNat_of_zero_le (show 0 ≤ sz by omega)
    refine r_ixL (SqL.of hq3) hsz ?_
    walk_at "rd"
    refine ⟨by show 10 ≤ sizeLine; decide, ?_⟩
    walk_at "nw"
    rename_i st nst H4 e4' hst
    walk_at "rd"
    refine ⟨p, 10, rfl, by decide, by decide, (hp2.same e3).same e4', fun H5 r5 b5 hp5 r50 r510 => ?_⟩
    walk_at "rd"
    refine ⟨by show 4 ≤ sizeLine; decide, ?_⟩
    walk_at "nw"
    rename_i q6 nq6 H6 e6 hq6
    walk_at "rd"
    refine ⟨p, 4, rfl, by decide, by decide, hp5.same e6, fun H7 r7 b7 hp7 r70 r74 => ?_⟩
    walk_at "rd"
    obtain ⟨s, hs, hsm⟩ : ∃ s : Nat, atI [V.int 1, V.int 3, V.int 7, V.int 9] r7 = some (.int s) ∧ s ∈ [1, 3, 7, 9] := by
      have hw : r7 = 0 ∨ r7 = 1 ∨ r7 = 2 ∨ r7 = 3 := by omega
      rcases hw with rfl | rfl | rfl | rfl
      · exact ⟨1, atI_nat (j := 0) rfl, by decide⟩
      · exact ⟨3, atI_nat (j := 1) rfl, by decide⟩
      · exact ⟨7, atI_nat (j := 2) rfl, by decide⟩
      · exact ⟨9, atI_nat (j := 3) rfl, by decide⟩
    have nq6p : q6 ≠ p := hp5.not_free nq6
    refine r_ixL (SqL.of (b7 _ _ nq6p hq6)) hs ?_
    obtain ⟨f, rfl⟩ := Int.eq_ofNat_of_zero_le r50
    have hf10 : f < 10 := by omega
    have hs9 : s ≤ 9 := by
      simp only [List.mem_cons, List.not_mem_nil, or_false] at hsm
      omega
    walk_at "rd"
    refine ⟨by show 2 ≤ sizeLine; decide, ?_⟩
    walk_at "nw"
    rename_i q8 nq8 H8 e8 hq8
    refine ⟨q8, _, rfl, SqT.of hq8, rfl, ?_⟩
    walk_at "rd"
    refine ⟨(n : Int), rfl, by omega, by omega, ?_⟩
    rw [Int.toNat_natCast]
    have hp8 := hp7.same e8
    have hst8 : H8 st = some (.lst (stk.map V.str)) := by
      have nstp : st ≠ p := (hp2.same e3).not_free nst
      exact e8 _ _ (b7 _ _ nstp (e6 _ _ (b5 _ _ nstp hst)))
    have b08 : But p H H8 := (((((b1.trans b2).trans (But.of e3)).trans (But.of e4')).trans b5).trans (But.of e6)).trans (b7.trans (But.of e8))
    refine lc_R (fun _ => true) (fun i => .str (tagAt f s i)) (small1000 (by omega)) (fun y => rfl) (fun i H' hi s' Q q => ?_) (fun i H' hi hf s' Q q => ?_) (fun tl H9 ntl e9 htl => ?_)
    · walk_at "rd"
      exact q _ (Same.refl _)
    · walk_at "rd"
      refine r_I (.inl ⟨by omega, by omega⟩) ?_
      walk_at "rd"
      refine r_I (by decide) ?_
      walk_at "rd"
      refine r_ixL (v := .str (tagAt f s i)) (SqL.of (s' _ _ hst8)) ?_ ?_
      · have ei : ((f : Int) + (s : Int) * (0 + (i : Int))) % 10 = (((f + s * i) % 10 : Nat) : Int) := by
          rw [Int.natCast_emod, Int.natCast_add, Int.natCast_mul, Int.zero_add]
          rfl
        rw [ei]
        exact atI_nat (stk_at (Nat.mod_lt _ (by decide)))
      exact q _ (Same.refl _)
    rw [made_range] at htl
    have htl : H9 tl = some (.lst ((tagsOf f s n).map V.str)) := by rw [htl]; unfold tagsOf; rw [List.map_map]; rfl
    generalize hTG : tagsOf f s n = TG at htl
    have TGlen : TG.length = n := by rw [← hTG]; exact tags_len f s n
    have TGnd : TG.Nodup := by rw [← hTG]; exact tags_nd hf10 hsm (by omega)
    have TGwd : ∀ t ∈ TG, Wd t := by rw [← hTG]; exact tags_wd
    clear hTG
    walk_at "rd"
    walk_at "nw"
    rename_i gd ngd H10 e10 hgd
    walk_at "rd"
    refine ⟨by show 2 ≤ sizeLine; decide, ?_⟩
    walk_at "nw"
    rename_i q11 nq11 H11 e11 hq11
    refine ⟨q11, _, rfl, SqT.of hq11, rfl, ?_⟩
    walk_at "rd"
    refine ⟨(n : Int), rfl, by omega, by omega, ?_⟩
    rw [Int.toNat_natCast]
    have e911 := e10.trans e11
    have htl11 := e911 _ _ htl
    have hgd11 := e11 _ _ hgd
    have hp9 := hp8.same e9
    have hp11 := hp9.same e911
    have ngd9 : gd ≠ p := hp9.not_free ngd
    have ntg : tl ≠ gd := ne_of_none htl ngd
    have ntp : tl ≠ p := hp11.not_strs htl11
    have b09 : But p H H9 := b08.trans (But.of e9)
    have ngH : H gd = none := b09.free ngd9 ngd
    have two : ∀ H', But2 p gd H11 H' → But p H H' := fun H' b a o na ha => b a o na (ne_of_none ha ngH) (e911 _ _ (b09 a o na ha))
    refine for_it (walk_range (lo := 0) (n := n)) (fun i σ' H' => ∃ v10 v11 v12 v13 v14 kvs, σ' = [some (.ref p), some (.str (tx l)), some (.int (l.length : Nat)), some (.int wy), some (.int n), some (.ref st), some (.int f), some (.int s), some (.ref tl), some (.ref gd), v10, v11, v12, v13, v14] ∧
        But2 p gd H11 H' ∧ PurseAt H' p ∧ H' gd = some (.dT kvs) ∧ kvs.length ≤ i * l.length ∧ ValsIn TG kvs ∧ ∀ q ∈ places (TG.take i) l, (valV kvs (gkey q.1 q.2)).isSome = true)
      ⟨none, none, none, none, none, [], rfl, fun a o _ _ h => h, hp11, hgd11, Nat.zero_le _, (fun t c v h => by cases h), (by intro q hq; simp [places] at hq)⟩ (fun i σ' H' _ q => trivial) ?_ ?_
    · rintro i x σ' H' H'' hi ⟨v10, v11, v12, v13, v14, kvs, rfl, bb, hpi, hg, hk, hv, hc⟩ ⟨rfl, rfl⟩
      have hi2 : i < TG.length := by omega
      have hti : TG[i]? = some TG[i] := List.getElem?_eq_getElem hi2
      generalize TG[i] = t at hti
      have htm : t ∈ TG := List.mem_of_getElem? hti
      walk_at "rd"
      refine ⟨((l.length : Nat) : Int), rfl, by omega, by omega, ?_⟩
      rw [Int.toNat_natCast]
      refine for_it (walk_range (lo := 0) (n := l.length)) (fun j σ' H' => ∃ v11 v12 v13 v14 kvs, σ' = [some (.ref p), some (.str (tx l)), some (.int (l.length : Nat)), some (.int wy), some (.int n), some (.ref st), some (.int f), some (.int s), some (.ref tl), some (.ref gd), some (.int (0 + (i : Int))), v11, v12, v13, v14] ∧
          But2 p gd H11 H' ∧ PurseAt H' p ∧ H' gd = some (.dT kvs) ∧ kvs.length ≤ i * l.length + j ∧ ValsIn TG kvs ∧ ∀ q ∈ places (TG.take i) l ++ (l.take j).map (fun c => (t, c)), (valV kvs (gkey q.1 q.2)).isSome = true)
        ⟨v11, v12, v13, v14, kvs, rfl, bb, hpi, hg, hk, hv, by simpa using hc⟩ (fun i σ' H' _ q => trivial) ?_ ?_
      · rintro j x σ' H' H'' hj ⟨v11, v12, v13, v14, kvs, rfl, bb, hpi, hg, hk, hv, hc⟩ ⟨rfl, rfl⟩
        have hcj : l[j]? = some l[j] := List.getElem?_eq_getElem hj
        generalize l[j] = c at hcj
        walk_at "rd"
        refine ⟨p, wy, n, (l.length : Nat), 0 + (i : Int), 0 + (j : Int), rfl, w0', w5, sz1, sz5, by omega, by omega, by omega, by omega, by omega, e1, e2, fun z => ⟨by have := w4 z; omega, e4 z⟩, hpi, fun H12 r b12 hp12 r0 rn => ?_⟩
        obtain ⟨r', rfl⟩ := Int.eq_ofNat_of_zero_le r0
        have hr2 : r' < TG.length := by omega
        have hzr : TG[r']? = some TG[r'] := List.getElem?_eq_getElem hr2
        generalize TG[r'] = z at hzr
        have hzm : z ∈ TG := List.mem_of_getElem? hzr
        have htl12 : H12 tl = some (.lst (TG.map V.str)) := b12 _ _ ntp (bb _ _ ntp ntg htl11)
        have hg12 := b12 _ _ ngd9 hg
        refine r_ixL (v := .str z) (SqL.of htl12) (atI_nat (by rw [List.getElem?_map, hzr]; rfl)) ?_
        walk_at "rd"
        refine r_ixL (v := .str t) (SqL.of htl12) (by rw [Int.zero_add]; exact atI_nat (by rw [List.getElem?_map, hti]; rfl)) ?_
        walk_at "rd"
        refine r_ixS (c := c) (by rw [ltx]; exact Nat.le_trans l3 (by decide)) (by rw [tx_toList, Int.zero_add]; exact atI_nat hcj) ?_
        walk_at "rd"
        refine ⟨by show 2 ≤ sizeLine; decide, ?_⟩
        walk_at "nw"
        rename_i q13 nq13 H13 e13 hq13
        refine ⟨gd, _, rfl, DPut.t (k := gkey t c) (e13 _ _ hg12) hq13 (small1000 ?_), ?_⟩
        · have : i * l.length ≤ 5 * 3 := Nat.mul_le_mul (by omega) l3
          omega
        refine ⟨_, _, _, _, _, rfl, fun a o na ng ha => ?_, (hp12.same e13).upd ngd9, upd_same, ?_, hv.put hzm, fun q hq => ?_⟩
        · rw [upd_ne ng]
          exact e13 _ _ (b12 _ _ na (bb _ _ na ng ha))
        · have := length_putK kvs (gkey t c) (V.str z)
          omega
        · rw [valV_put]
          by_cases ek : gkey q.1 q.2 = gkey t c
          · rw [if_pos ek]
            rfl
          · rw [if_neg ek]
            rw [take_more hcj, List.map_append, ← List.append_assoc] at hq
            rcases List.mem_append.mp hq with h | h
            · exact hc q h
            · have : q = (t, c) := List.mem_singleton.mp h
              rw [this] at ek
              exact absurd rfl ek
      · rintro σ' H' ⟨v11, v12, v13, v14, kvs, rfl, bb, hpi, hg, hk, hv, hc⟩
        refine ⟨_, _, _, _, _, kvs, rfl, bb, hpi, hg, ?_, hv, ?_⟩
        · rw [Nat.add_mul, Nat.one_mul]
          exact hk
        · rw [places_more hti]
          rw [List.take_length] at hc
          exact hc
    · rintro σ' H' ⟨v10, v11, v12, v13, v14, kvs, rfl, bb, hpi, hg, hk, hv, hc⟩
      have etake : TG.take n = TG := by rw [← TGlen, List.take_length]
      rw [etake] at hc
      have htl' : H' tl = some (.lst (TG.map V.str)) := bb _ _ ntp ntg htl11
      have fin : ∀ (H2 : Hp) (fa : Addr) (fs : List Str), But p H' H2 → PurseAt H2 p → H2 fa = some (.lst (fs.map V.str)) → fs.Sublist TG → ∀ q, H2 q = none → Q (.ref q) (upd H2 q (.tup [.str (tx l), .ref tl, .ref fa, .ref gd])) := fun H2 fa fs b hp2 hfa sb q nq => by
        have ok : (Box.mk l TG fs (glOf kvs)).Ok := by
          refine ⟨l1, l3, asc, abc, ?_, ?_, TGnd, TGwd, sub_filter sb TGnd, fun t ht c hcc => ?_⟩
          · show 1 ≤ TG.length
            omega
          · show TG.length ≤ 5
            omega
          · exact (hv.gl (hc (t, c) (in_places ht hcc))).1
        refine k _ q (Box.mk l TG fs (glOf kvs)) ((two _ bb).trans (b.trans (But.of (same_upd nq)))) (hp2.upd (hp2.not_free nq)) ⟨tl, fa, gd, kvs, upd_same, ?_, ?_, ?_, fun t ht c hcc => (hv.gl (hc (t, c) (in_places ht hcc))).2⟩ ok rfl
        · exact same_upd nq _ _ (b _ _ ntp htl')
        · exact same_upd nq _ _ hfa
        · exact same_upd nq _ _ (b _ _ ngd9 hg)
      walk_at "rd"
      refine ⟨tl, rfl, ⟨_, SqL.of htl'⟩, ?_⟩
      refine lc_draw (l := TG) (SqL.of htl') hpi (by omega) (fun y => rfl) (fun y => rfl) (fun t H2 ht b2 hp2 Q q => ?_) (fun fa H2 fs nfa b2 hp2 hfa sb => ?_)
      · walk_at "rd"
        refine ⟨p, 2, rfl, by decide, by decide, hp2, fun H3 r b3 hp3 _ _ => ?_⟩
        walk_at "rd"
        exact q _ _ b3 hp3
      walk_at "rd"
      refine ite2 (fun h => ?_) (fun h => ?_)
      · walk_at "rd"
        refine ⟨fa, rfl, ⟨_, SqL.of hfa⟩, ?_⟩
        have lfs : fs.length ≤ 5 := Nat.le_trans sb.length_le (by omega)
        obtain ⟨ys, lt, rfl⟩ : ∃ ys lt, TG = ys ++ [lt] := by
          rcases nil_or_snoc TG with h | h
          · rw [h] at TGlen
            simp at TGlen
            omega
          · exact h
        refine lc_L (xs := fs.map V.str) (SqL.of hfa) (fun x => !decide (x = .str lt)) (fun x => x) (by rw [List.length_map]; exact small1000 (by omega)) (fun y => rfl) (fun x H3 hx s3 Q q => ?_) (fun x H3 hx hf s3 Q q => ?_) (fun fa2 H3 nfa2 e3 hfa2 => ?_)
        · obtain ⟨t, ht, rfl⟩ := List.mem_map.mp hx
          walk_at "rd"
          refine r_ixL (v := .str lt) (SqL.of (s3 _ _ (b2 _ _ ntp htl'))) ?_ ?_
          · rw [List.map_append]
            exact atI_last _ _
          walk_at "rd"
          exact q _ (Same.refl _)
        · walk_at "rd"
          exact q _ (Same.refl _)
        have ef : ((fs.map V.str).filter fun x => !decide (x = .str lt)).map (fun x => x) = (fs.filter fun t => !decide (t = lt)).map V.str := by
          rw [List.map_id', List.filter_map]
          congr 1
          refine List.filter_congr fun t _ => ?_
          show (!decide (V.str t = V.str lt)) = !decide (t = lt)
          by_cases e : t = lt
          · rw [e]; simp
          · rw [decide_eq_false e, decide_eq_false (fun z => e (V.str.inj z))]
        rw [ef] at hfa2
        walk_at "rd"
        refine ⟨by show 4 ≤ sizeLine; decide, fun q nq => ?_⟩
        exact fin H3 fa2 _ (b2.trans (But.of e3)) (hp2.same e3) hfa2 (List.filter_sublist.trans sb) q nq
      · walk_at "rd"
        refine ⟨by show 4 ≤ sizeLine; decide, fun q nq => ?_⟩
        exact fin H2 fa fs b2 hp2 hfa sb q nq
end
end K73

set_option Elab.async false
set_option linter.all false
set_option maxRecDepth 100000
set_option maxHeartbeats 4000000
namespace K73
open PySem PySem.Spec PyProof.Rows L2
local macro_rules | `(tactic| walk_at "rd") => `(tactic| repeat (first | with_reducible refine r_seq ?_ | with_reducible refine r_asg ?_ | with_reducible refine r_ret ?_ | with_reducible refine r_op ?_ | with_reducible refine r_var (by with_unfolding_all rfl) ?_ | with_reducible refine r_c ?_ | with_reducible refine r_cons ?_ | with_reducible refine r_nil ?_ | with_reducible refine r_gname ?_ | with_reducible refine r_ifS ?_ | with_reducible refine r_test ?_ | with_reducible refine r_bl ?_ | with_reducible refine r_I0 ?_ | with_reducible refine r_cb ?_ | with_reducible refine r_cl ?_ | with_reducible refine r_tup ?_ | with_reducible refine r_lst ?_ | with_reducible refine r_gsub ?_ | with_reducible refine r_gcons ?_ | with_reducible refine r_gnil ?_ | with_reducible refine r_drop ?_ | with_reducible refine r_next ?_ | with_reducible refine r_par ?_ | with_reducible refine r_par2 ?_ | with_reducible refine r_and ?_ | with_reducible refine r_or ?_ | with_reducible refine r_not ?_ | with_reducible refine r_yes ?_ | with_reducible refine r_andV ?_ | with_reducible refine r_orV ?_ | with_reducible refine r_notV ?_ | with_reducible refine r_if ?_ | with_reducible refine r_chain ?_ | with_reducible refine r_U ?_ | with_reducible refine r_un ?_ | with_reducible refine r_eq (by with_unfolding_all rfl) ?_ | with_reducible refine r_ne (by with_unfolding_all rfl) ?_ | with_reducible refine r_int ?_ | with_reducible refine r_sl ?_ | with_reducible refine r_nopart ?_ | with_reducible refine r_part ?_ | with_reducible refine r_exI ?_ | with_reducible refine r_dget ?_ | with_reducible refine r_din ?_ | with_reducible refine r_dnotin ?_ | with_reducible refine r_dput ?_ | with_reducible refine r_isN ?_ | with_reducible refine r_notN ?_ | with_reducible refine r_bm ?_ | with_reducible refine r_bm0 ?_ | with_reducible refine r_retN ?_ | with_reducible refine r_lc ?_ | with_reducible refine r_for ?_ | with_reducible refine r_iStr ?_ | with_reducible refine r_exS ?_ | with_reducible refine r_iList ?_ | with_reducible refine r_iTup ?_ | with_reducible refine r_iRng ?_ | with_reducible refine r_m1 ?_ | with_reducible refine r_strM ?_ | with_reducible refine r_tB ?_ | with_reducible refine r_dc ?_ | with_reducible refine r_iZipS ?_ | with_reducible refine r_lc2 ?_ | with_reducible refine r_iZip ?_ | with_reducible refine r_tCmp ?_ | with_reducible refine r_newT ?_ | with_reducible refine r_newK ?_ | with_reducible refine r_sfld ?_ | with_reducible refine r_fld ?_ | with_reducible refine r_make ?_ | with_reducible refine r_pr ?_ | with_reducible refine r_dt ?_ | with_reducible refine r_iKeys ?_ | with_reducible refine r_dget2 ?_))
local macro_rules | `(tactic| walk_at "nw") => `(tactic| (intro q nq; generalize hH : upd _ q _ = H1; have s1 := same_upd_eq nq hH; have hq := upd_eq hH; clear hH))
theorem filt_txs {l : List Str} {f : V → Bool} {g : Str → Bool} (h : ∀ t, f (.str t) = g t) : ((l.map V.str).filter f).map (fun x => x) = (l.filter g).map V.str := by
  rw [List.map_id', List.filter_map]
  congr 1
  exact List.filter_congr fun t _ => h t
section
variable {P : Program} {w : World} {K : PySem.W.Frag} {mg : Str → Option Value} {base : Heap}
/-! ### one more good mood -/
def spWider : Sp := fun vs H Q _ => ∃ (p a : Addr) (B : Box), vs = [.ref p, .ref a] ∧ PurseAt H p ∧ BoxAt H a B ∧ B.Ok ∧ ∀ H' b M, But p H H' → PurseAt H' p → BoxAt H' b M → M.Ok → M.sg = B.sg → Q (.ref b) H'
abbrev nWider : List Str := ["_law_purse_here", "_law_box_here", "_law_more", "_law_here"]
theorem sc_wider : FnScope nWider ["_law_purse_here", "_law_box_here"] (defScope s_law_wider) := ⟨rfl, rfl, rfl, by decide +kernel, rfl, by decide +kernel, by decide +kernel⟩
theorem ok_wider (T : Txt K mg) : Fn P w K mg base 2 "_law_wider" ["_law_purse_here", "_law_box_here"] spWider := by
  have G : Fn P w K mg base 1 "_law_pick" ["_law_purse_here", "_law_size"] spPick := ok_pick T T.d_law_pick T.f_int T.f_divmod
  refine T.d_law_wider.fn sc_wider (fun _ _ _ _ _ _ us hl => match us, hl with | [_, _], _ => rfl) (fun vs H Q E h => ?_) (fun cdv Ar outer s H vs Q E hr h => ?_)
  · obtain ⟨p, a, B, rfl, _⟩ := h
    rfl
  · obtain ⟨p, a, B, rfl, hp, hB, ok, k⟩ := h
    refine ⟨_, pss_cons (ps_set (i := 2) sc_wider.nd rfl (.inr rfl) (pe_ix ix_list (pe_ix ix_tup (pv 1) pe_int (fun _ _ => rfl)) (pcall G hr (pa_cons (pv 0) (pa_cons (pe_callB call_len_seq (by rfl) T.f_len PySem.boot_len (pa_cons (pe_ix ix_tup (pv 1) pe_int (fun _ _ => rfl)) pa_nil)) pa_nil))) (fun _ _ => rfl)))
      (pss_one (ps_ret (pe_tup (pa_cons (pe_ix ix_tup (pv 1) pe_int (fun _ _ => rfl)) (pa_cons (pe_ix ix_tup (pv 1) pe_int (fun _ _ => rfl)) (pa_cons
        (pe_lc (own := [("_law_here", 3)]) (g := gName 3) (tt := tOr (tTest (tOp (rIn K false) (tVar 3) (tOp (rIxT K) (tVar 1) (tC (.int 2))))) (tTest (tOp rEq (tVar 3) (tVar 2)))) rfl sc_wider.nd (pi_list (pe_ix ix_tup (pv 1) pe_int (fun _ _ => rfl))) (blkOk_by (N := nWider) (sc := defScope s_law_wider) (by decide +kernel))
          (fun _ _ _ _ _ => pg_name (i := 3) sc_wider.nd rfl (Or.inl rfl)) (fun _ _ _ _ _ => pts_one (PW.pt (pw_or (pt_cmpR op_in_seq (pv 3) (pe_ix ix_tup (pv 1) pe_int (fun _ _ => rfl)) (by rfl)) (pw_or1 (pt_cmpR op_eq (pv 3) (pv 2) (by rfl)))))) (fun _ _ _ _ _ => pv 3))
        (pa_cons (pe_ix ix_tup (pv 1) pe_int (fun _ _ => rfl)) pa_nil))))))), ?_⟩
    have hB0 := hB
    obtain ⟨l1, l2, d, kvs, ha, h1, h2, hd, gk⟩ := hB
    have t1 := ok.t1
    have t5 := ok.t5
    walk_at "rd"
    refine r_ixT (v := .ref l1) (SqT.of ha) (atI_nat (j := 1) rfl) ?_
    walk_at "rd"
    refine r_ixT (v := .ref l1) (SqT.of ha) (atI_nat (j := 1) rfl) ?_
    walk_at "rd"
    refine ⟨l1, _, rfl, .inl (SqL.of h1), ?_⟩
    walk_at "rd"
    have el : (B.tg.map V.str).length = B.tg.length := List.length_map _
    refine ⟨p, _, rfl, by omega, by omega, hp, fun H1 r b1 hp1 r0 rn => ?_⟩
    obtain ⟨r', rfl⟩ := Int.eq_ofNat_of_zero_le r0
    have hr2 : r' < B.tg.length := by omega
    have hzr : B.tg[r']? = some B.tg[r'] := List.getElem?_eq_getElem hr2
    generalize B.tg[r'] = z at hzr
    have h1' := b1 _ _ (hp.not_strs h1) h1
    refine r_ixL (v := .str z) (SqL.of h1') (atI_nat (by rw [List.getElem?_map, hzr]; rfl)) ?_
    have ha' := b1 _ _ (hp.not_tup ha) ha
    have h2' := b1 _ _ (hp.not_strs h2) h2
    have hd' := b1 _ _ (hp.not_dT hd) hd
    walk_at "rd"
    refine r_ixT (v := .str (tx B.sg)) (SqT.of ha') (atI_nat (j := 0) rfl) ?_
    walk_at "rd"
    refine r_ixT (v := .ref l1) (SqT.of ha') (atI_nat (j := 1) rfl) ?_
    walk_at "rd"
    refine r_ixT (v := .ref l1) (SqT.of ha') (atI_nat (j := 1) rfl) ?_
    walk_at "rd"
    refine ⟨l1, rfl, ⟨_, SqL.of h1'⟩, ?_⟩
    refine lc_L (xs := B.tg.map V.str) (SqL.of h1') (fun x => match x with | .str t => decide (t ∈ B.fn) || decide (t = z) | _ => false) (fun x => x) (by rw [el]; exact small1000 (by omega)) (fun y => rfl) (fun x H3 hx s3 Q q => ?_) (fun x H3 hx hf s3 Q q => ?_) (fun fa H3 nfa e3 hfa => ?_)
    · obtain ⟨t, ht, rfl⟩ := List.mem_map.mp hx
      walk_at "rd"
      refine r_ixT (v := .ref l2) (SqT.of (s3 _ _ ha')) (atI_nat (j := 2) rfl) ?_
      walk_at "rd"
      refine r_inL (.inl (SqL.of (s3 _ _ h2'))) ?_
      walk_at "rd"
      by_cases hin : t ∈ B.fn
      · have q' : Q true H3 := by
          have := q H3 (Same.refl _)
          simpa [hin] using this
        rw [decide_eq_true hin]
        exact iteT q'
      · rw [decide_eq_false hin]
        refine iteF ?_
        walk_at "rd"
        have := q H3 (Same.refl _)
        have e : decide (V.str t = V.str z) = decide (t = z) := by
          by_cases h : t = z
          · rw [h]; simp
          · rw [decide_eq_false h, decide_eq_false (fun c => h (V.str.inj c))]
        rw [e]
        simpa [hin] using this
    · walk_at "rd"
      exact q _ (Same.refl _)
    rw [filt_txs (g := fun t => decide (t ∈ B.fn) || decide (t = z)) (fun t => rfl)] at hfa
    walk_at "rd"
    refine r_ixT (v := .ref d) (SqT.of (e3 _ _ ha')) (atI_nat (j := 3) rfl) ?_
    walk_at "rd"
    refine ⟨by show 4 ≤ sizeLine; decide, fun q nq => ?_⟩
    have s4 := same_upd (o := .tup [V.str (tx B.sg), V.ref l1, V.ref fa, V.ref d]) nq
    refine k _ q (Box.mk B.sg B.tg (B.tg.filter fun t => decide (t ∈ B.fn) || decide (t = z)) B.gl) ((b1.trans (But.of e3)).trans (But.of s4)) ((hp1.same e3).upd ((hp1.same e3).not_free nq)) ⟨l1, fa, d, kvs, upd_same, s4 _ _ (e3 _ _ h1'), s4 _ _ hfa, s4 _ _ (e3 _ _ hd'), gk⟩ ?_ rfl
    exact ⟨ok.s1, ok.s3, ok.asc, ok.abc, ok.t1, ok.t5, ok.nd, ok.wd, sub_filter List.filter_sublist ok.nd, ok.cl⟩
end
end K73

set_option Elab.async false
set_option linter.all false
set_option maxRecDepth 100000
set_option maxHeartbeats 4000000
namespace K73
open PySem PySem.Spec PyProof.Rows L2
local macro_rules | `(tactic| walk_at "rd") => `(tactic| repeat (first | with_reducible refine r_seq ?_ | with_reducible refine r_asg ?_ | with_reducible refine r_ret ?_ | with_reducible refine r_op ?_ | with_reducible refine r_var (by with_unfolding_all rfl) ?_ | with_reducible refine r_c ?_ | with_reducible refine r_cons ?_ | with_reducible refine r_nil ?_ | with_reducible refine r_gname ?_ | with_reducible refine r_ifS ?_ | with_reducible refine r_test ?_ | with_reducible refine r_bl ?_ | with_reducible refine r_I0 ?_ | with_reducible refine r_cb ?_ | with_reducible refine r_cl ?_ | with_reducible refine r_tup ?_ | with_reducible refine r_lst ?_ | with_reducible refine r_gsub ?_ | with_reducible refine r_gcons ?_ | with_reducible refine r_gnil ?_ | with_reducible refine r_drop ?_ | with_reducible refine r_next ?_ | with_reducible refine r_par ?_ | with_reducible refine r_par2 ?_ | with_reducible refine r_and ?_ | with_reducible refine r_or ?_ | with_reducible refine r_not ?_ | with_reducible refine r_yes ?_ | with_reducible refine r_andV ?_ | with_reducible refine r_orV ?_ | with_reducible refine r_notV ?_ | with_reducible refine r_if ?_ | with_reducible refine r_chain ?_ | with_reducible refine r_U ?_ | with_reducible refine r_un ?_ | with_reducible refine r_eq (by with_unfolding_all rfl) ?_ | with_reducible refine r_ne (by with_unfolding_all rfl) ?_ | with_reducible refine r_int ?_ | with_reducible refine r_sl ?_ | with_reducible refine r_nopart ?_ | with_reducible refine r_part ?_ | with_reducible refine r_exI ?_ | with_reducible refine r_dget ?_ | with_reducible refine r_din ?_ | with_reducible refine r_dnotin ?_ | with_reducible refine r_dput ?_ | with_reducible refine r_isN ?_ | with_reducible refine r_notN ?_ | with_reducible refine r_bm ?_ | with_reducible refine r_bm0 ?_ | with_reducible refine r_retN ?_ | with_reducible refine r_lc ?_ | with_reducible refine r_for ?_ | with_reducible refine r_iStr ?_ | with_reducible refine r_exS ?_ | with_reducible refine r_iList ?_ | with_reducible refine r_iTup ?_ | with_reducible refine r_iRng ?_ | with_reducible refine r_m1 ?_ | with_reducible refine r_strM ?_ | with_reducible refine r_tB ?_ | with_reducible refine r_dc ?_ | with_reducible refine r_iZipS ?_ | with_reducible refine r_lc2 ?_ | with_reducible refine r_iZip ?_ | with_reducible refine r_tCmp ?_ | with_reducible refine r_newT ?_ | with_reducible refine r_newK ?_ | with_reducible refine r_sfld ?_ | with_reducible refine r_fld ?_ | with_reducible refine r_make ?_ | with_reducible refine r_pr ?_ | with_reducible refine r_dt ?_ | with_reducible refine r_iKeys ?_ | with_reducible refine r_dget2 ?_))
local macro_rules | `(tactic| walk_at "nw") => `(tactic| (intro q nq; generalize hH : upd _ q _ = H1; have s1 := same_upd_eq nq hH; have hq := upd_eq hH; clear hH))
section
variable {P : Program} {w : World} {K : PySem.W.Frag} {mg : Str → Option Value} {base : Heap}
/-! ### its text -/
def spText : Sp := fun vs H Q _ => ∃ (a : Addr) (B : Box), vs = [.ref a] ∧ BoxAt H a B ∧ B.Ok ∧ ∀ H', Same H H' → Q (.str B.text) H'
abbrev nText : List Str := ["_law_box_here", "_law_lines", "_law_here", "_law_letter"]
theorem sc_text : FnScope nText ["_law_box_here"] (defScope s_law_text) := ⟨rfl, rfl, rfl, by decide +kernel, rfl, by decide +kernel, by decide +kernel⟩
def heads (B : Box) : List Str := [line0 B.sg, line1 B.tg, line2 B.fn]
def goalsOf (B : Box) (ps : List (Str × Nat)) : List Str := ps.map fun p => lineG p.1 p.2 (B.gl p.1 p.2)
theorem r_cat {H : Hp} {Q : VK} {a b : Addr} {xs ys : List V} (ha : H a = some (.lst xs)) (hb : H b = some (.lst ys)) (hz : xs.length + ys.length ≤ sizeLine) (q : ∀ p, H p = none → Q (.ref p) (upd H p (.lst (xs ++ ys)))) : rCat (.ref a) (.ref b) H Q := ⟨a, b, xs, ys, rfl, rfl, ha, hb, hz, q⟩
theorem ok_text (T : Txt K mg) : Fn P w K mg base 1 "_law_text" ["_law_box_here"] spText := by
  refine T.d_law_text.fn sc_text (fun _ _ _ _ _ _ us hl => match us, hl with | [_], _ => rfl) (fun vs H Q E h => ?_) (fun cdv Ar outer s H vs Q E hr h => ?_)
  · obtain ⟨a, B, rfl, _⟩ := h
    rfl
  · obtain ⟨a, B, rfl, hB, ok, k⟩ := h
    refine ⟨_, pss_cons (ps_set (i := 1) sc_text.nd rfl (.inl rfl) (pe_lst (pa_cons (pe_op op_add_str pe_str (pe_ix ix_tup (pv 0) pe_int (fun _ _ => rfl))) (pa_cons (pe_join pe_str (pe_op op_cat (pe_lst (pa_cons pe_str pa_nil)) (pe_ix ix_tup (pv 0) pe_int (fun _ _ => rfl)))) (pa_cons (pe_join pe_str (pe_op op_cat (pe_lst (pa_cons pe_str pa_nil)) (pe_ix ix_tup (pv 0) pe_int (fun _ _ => rfl)))) pa_nil)))))
      (pss_cons (ps_for PassesOwn.never rfl (pi_list (pe_ix ix_tup (pv 0) pe_int (fun _ _ => rfl))) (pg_name (i := 2) sc_text.nd rfl (.inl rfl))
        (pss_one (ps_for PassesOwn.never rfl (pi_str (pe_ix ix_tup (pv 0) pe_int (fun _ _ => rfl))) (pg_name (i := 3) sc_text.nd rfl (.inl rfl))
          (pss_one (ps_expr (pe_bm PySem.F.plainAttrs_list PySem.F.slot_list_append PySem.F.type_list_append mt_append (pv 1) (pa_cons (pe_op op_add_str (pe_op op_add_str (pe_op op_add_str (pe_op op_add_str (pv 2) pe_str) (pv 3)) pe_str) (pe_dget (hu_of hr) (pe_ix ix_tup (pv 0) pe_int (fun _ _ => rfl)) (pe_tup (pa_cons (pv 2) (pa_cons (pv 3) pa_nil))) (fun _ _ => rfl))) pa_nil)))))))
      (pss_one (ps_ret (pe_join pe_str (pv 1))))), ?_⟩
    obtain ⟨l1, l2, d, kvs, ha, h1, h2, hd, gk⟩ := hB
    have f5 := ok.fn5
    have fw := ok.fn_wd
    have t5 := ok.t5
    have s3 := ok.s3
    walk_at "rd"
    refine r_ixT (v := .str (tx B.sg)) (SqT.of ha) (atI_nat (j := 0) rfl) ?_
    walk_at "rd"
    have l6 : ("signs " : Str).length = 6 := by decide +kernel
    have lsg : (tx B.sg).length ≤ 3 := by rw [tx_len]; exact s3
    refine r_addS (Nat.le_trans (m := 100) (by omega) (by decide)) ?_
    walk_at "rd"
    refine ⟨by show 1 ≤ sizeLine; decide, ?_⟩
    walk_at "nw"
    rename_i q1 nq1 H1 e1 hq1
    walk_at "rd"
    refine r_ixT (v := .ref l1) (SqT.of (e1 _ _ ha)) (atI_nat (j := 1) rfl) ?_
    refine r_cat hq1 (e1 _ _ h1) (by rw [List.length_map]; exact Nat.le_trans (m := 100) (by show 1 + _ ≤ _; omega) (by decide)) ?_
    walk_at "nw"
    rename_i q2 nq2 H2 e2 hq2
    have em : [V.str ("moods" : Str)] ++ B.tg.map V.str = (("moods" : Str) :: B.tg).map V.str := rfl
    rw [em] at hq2
    refine ⟨_, q2, _, rfl, rfl, .inl (SqL.of hq2), Nat.le_trans (len_words (by decide +kernel) ok.wd t5) (by decide), ?_⟩
    walk_at "rd"
    refine ⟨by show 1 ≤ sizeLine; decide, ?_⟩
    walk_at "nw"
    rename_i q3 nq3 H3 e3 hq3
    walk_at "rd"
    have e13 := (e1.trans e2).trans e3
    refine r_ixT (v := .ref l2) (SqT.of (e13 _ _ ha)) (atI_nat (j := 2) rfl) ?_
    refine r_cat hq3 (e13 _ _ h2) (by rw [List.length_map]; exact Nat.le_trans (m := 100) (by show 1 + _ ≤ _; omega) (by decide)) ?_
    walk_at "nw"
    rename_i q4 nq4 H4 e4 hq4
    have em2 : [V.str ("good" : Str)] ++ B.fn.map V.str = (("good" : Str) :: B.fn).map V.str := rfl
    rw [em2] at hq4
    refine ⟨_, q4, _, rfl, rfl, .inl (SqL.of hq4), Nat.le_trans (len_words (by decide +kernel) fw f5) (by decide), ?_⟩
    walk_at "rd"
    refine ⟨by show 3 ≤ sizeLine; decide, ?_⟩
    walk_at "nw"
    rename_i ll nll H5 e5 hll
    have e15 := (e13.trans e4).trans e5
    have hll : H5 ll = some (.lst ((heads B ++ goalsOf B (places (B.tg.take 0) B.sg)).map V.str)) := hll
    have nllH : H ll = none := (e13.trans e4).free nll
    walk_at "rd"
    refine r_ixT (v := .ref l1) (SqT.of (e15 _ _ ha)) (atI_nat (j := 1) rfl) ?_
    refine ⟨l1, rfl, ⟨_, SqL.of (e15 _ _ h1)⟩, ?_⟩
    have esz : (tx B.sg).cps.size = B.sg.length := by simp [tx]
    have hcount : ∀ ps : List (Str × Nat), ps.length ≤ 15 → (heads B ++ goalsOf B ps).length ≤ 18 := fun ps h => by
      unfold heads goalsOf
      rw [List.length_append, List.length_map]
      show 3 + _ ≤ _
      omega
    refine for_it (walk_list (K := K) (a := l1) (xs := B.tg.map V.str)) (fun i σ' H' => ∃ v2 v3, σ' = [some (.ref a), some (.ref ll), v2, v3] ∧ Same H H' ∧ H' ll = some (.lst ((heads B ++ goalsOf B (places (B.tg.take i) B.sg)).map V.str)))
      ⟨none, none, rfl, e15, hll⟩ (fun i σ' H' _ q => ?_) ?_ ?_
    · obtain ⟨_, _, _, e, _⟩ := q
      exact SqL.of (e _ _ h1)
    · rintro i x σ' H' H'' hi ⟨v2, v3, rfl, e6, hl6⟩ ⟨rfl, hy⟩
      rw [List.getElem?_map] at hy
      cases e : B.tg[i]? with
      | none => rw [e] at hy; cases hy
      | some t =>
      rw [e] at hy
      have ex : V.str t = x := Option.some.inj hy
      subst ex
      have ht := List.mem_of_getElem? e
      have hi5 : i < B.tg.length := (List.getElem?_eq_some_iff.mp e).1
      walk_at "rd"
      refine r_ixT (v := .str (tx B.sg)) (SqT.of (e6 _ _ ha)) (atI_nat (j := 0) rfl) ?_
      walk_at "rd"
      refine for_it (walk_str (z := tx B.sg)) (fun j σ' H' => ∃ v3, σ' = [some (.ref a), some (.ref ll), some (.str t), v3] ∧ Same H H' ∧ H' ll = some (.lst ((heads B ++ goalsOf B (places (B.tg.take i) B.sg ++ (B.sg.take j).map fun c => (t, c))).map V.str)))
        ⟨v3, rfl, e6, by simpa using hl6⟩ (fun j σ' H' _ q => trivial) ?_ ?_
      · rintro j x σ' H' H'' hj ⟨v3, rfl, e7, hl7⟩ ⟨rfl, c, hc0, rfl⟩
        have hc' : B.sg[j]? = some c := by simpa [tx] using hc0
        have hc := List.mem_of_getElem? hc'
        have wt := wd_len (ok.wd t ht)
        have wg := wd_len (ok.wd _ (ok.cl t ht c hc))
        have l1' : (" " : Str).length = 1 := by decide +kernel
        have lc : (⟨#[c]⟩ : Str).length = 1 := rfl
        walk_at "rd"
        refine ⟨.inl ⟨rfl, _, SqL.of hl7⟩, ?_⟩
        walk_at "rd"
        refine r_addS (Nat.le_trans (m := 100) (by omega) (by decide)) ?_
        have la : (t ++ (" " : Str)).length ≤ 9 := by rw [TL.len_tl, TL.tl_append, List.length_append, ← TL.len_tl, ← TL.len_tl]; omega
        walk_at "rd"
        refine r_addS (Nat.le_trans (m := 100) (by omega) (by decide)) ?_
        have lb : (t ++ (" " : Str) ++ (⟨#[c]⟩ : Str)).length ≤ 10 := by rw [TL.len_tl, TL.tl_append, List.length_append, ← TL.len_tl, ← TL.len_tl]; omega
        walk_at "rd"
        refine r_addS (Nat.le_trans (m := 100) (by omega) (by decide)) ?_
        have ld : (t ++ (" " : Str) ++ (⟨#[c]⟩ : Str) ++ (" " : Str)).length ≤ 11 := by rw [TL.len_tl, TL.tl_append, List.length_append, ← TL.len_tl, ← TL.len_tl]; omega
        walk_at "rd"
        refine r_ixT (v := .ref d) (SqT.of (e7 _ _ ha)) (atI_nat (j := 3) rfl) ?_
        walk_at "rd"
        refine ⟨by show 2 ≤ sizeLine; decide, ?_⟩
        walk_at "nw"
        rename_i q8 nq8 H8 e8 hq8
        have g := DGet.t (k := gkey t c) (e8 _ _ (e7 _ _ hd)) hq8
        rw [gk t ht c hc] at g
        refine ⟨d, _, rfl, g, ?_⟩
        refine r_addS (Nat.le_trans (m := 100) (by omega) (by decide)) ?_
        walk_at "rd"
        have hl8 := e8 _ _ hl7
        refine ⟨ll, _, _, rfl, rfl, hl8, ?_, ?_⟩
        · rw [List.length_map]
          have lp : (places (B.tg.take i) B.sg ++ (B.sg.take j).map fun c => (t, c)).length ≤ 15 := by
            rw [List.length_append, len_places, List.length_map, List.length_take, List.length_take]
            have hj2 : j < B.sg.length := by rw [← esz]; exact hj
            have h6 : min i B.tg.length * B.sg.length ≤ 4 * 3 := Nat.mul_le_mul (by omega) s3
            omega
          exact Nat.lt_of_le_of_lt (hcount _ lp) (by decide)
        · refine ⟨_, rfl, same_upd_new (e7.trans e8) nllH, ?_⟩
          have : (heads B ++ goalsOf B (places (B.tg.take i) B.sg ++ (B.sg.take j ++ [c]).map (fun c => (t, c)))) = (heads B ++ goalsOf B (places (B.tg.take i) B.sg ++ (B.sg.take j).map fun c => (t, c))) ++ [lineG t c (B.gl t c)] := by
            unfold goalsOf
            simp [List.map_append, List.append_assoc]
          rw [take_more hc', this, List.map_append (l₂ := [lineG t c (B.gl t c)])]
          exact upd_same
      · rintro σ' H' ⟨v3, rfl, e7, hl7⟩
        rw [esz, List.take_length] at hl7
        refine ⟨_, _, rfl, e7, ?_⟩
        rw [places_more e]
        exact hl7
    · rintro σ' H' ⟨v2, v3, rfl, e6, hl6⟩
      rw [List.length_map, List.take_length] at hl6
      have hl6 : H' ll = some (.lst (B.lines.map V.str)) := hl6
      walk_at "rd"
      refine ⟨_, ll, _, rfl, rfl, .inl (SqL.of hl6), Nat.le_trans ok.fits (by decide), ?_⟩
      exact k _ e6
end
end K73

set_option Elab.async false
set_option linter.all false
set_option maxRecDepth 100000
set_option maxHeartbeats 4000000
namespace K73
open PySem PySem.Spec PyProof.Rows L2
local macro_rules | `(tactic| walk_at "rd") => `(tactic| repeat (first | with_reducible refine r_seq ?_ | with_reducible refine r_asg ?_ | with_reducible refine r_ret ?_ | with_reducible refine r_op ?_ | with_reducible refine r_var (by with_unfolding_all rfl) ?_ | with_reducible refine r_c ?_ | with_reducible refine r_cons ?_ | with_reducible refine r_nil ?_ | with_reducible refine r_gname ?_ | with_reducible refine r_ifS ?_ | with_reducible refine r_test ?_ | with_reducible refine r_bl ?_ | with_reducible refine r_I0 ?_ | with_reducible refine r_cb ?_ | with_reducible refine r_cl ?_ | with_reducible refine r_tup ?_ | with_reducible refine r_lst ?_ | with_reducible refine r_gsub ?_ | with_reducible refine r_gcons ?_ | with_reducible refine r_gnil ?_ | with_reducible refine r_drop ?_ | with_reducible refine r_next ?_ | with_reducible refine r_par ?_ | with_reducible refine r_par2 ?_ | with_reducible refine r_and ?_ | with_reducible refine r_or ?_ | with_reducible refine r_not ?_ | with_reducible refine r_yes ?_ | with_reducible refine r_andV ?_ | with_reducible refine r_orV ?_ | with_reducible refine r_notV ?_ | with_reducible refine r_if ?_ | with_reducible refine r_chain ?_ | with_reducible refine r_U ?_ | with_reducible refine r_un ?_ | with_reducible refine r_eq (by with_unfolding_all rfl) ?_ | with_reducible refine r_ne (by with_unfolding_all rfl) ?_ | with_reducible refine r_int ?_ | with_reducible refine r_sl ?_ | with_reducible refine r_nopart ?_ | with_reducible refine r_part ?_ | with_reducible refine r_exI ?_ | with_reducible refine r_dget ?_ | with_reducible refine r_din ?_ | with_reducible refine r_dnotin ?_ | with_reducible refine r_dput ?_ | with_reducible refine r_isN ?_ | with_reducible refine r_notN ?_ | with_reducible refine r_bm ?_ | with_reducible refine r_bm0 ?_ | with_reducible refine r_retN ?_ | with_reducible refine r_lc ?_ | with_reducible refine r_for ?_ | with_reducible refine r_iStr ?_ | with_reducible refine r_exS ?_ | with_reducible refine r_iList ?_ | with_reducible refine r_iTup ?_ | with_reducible refine r_iRng ?_ | with_reducible refine r_m1 ?_ | with_reducible refine r_strM ?_ | with_reducible refine r_tB ?_ | with_reducible refine r_dc ?_ | with_reducible refine r_iZipS ?_ | with_reducible refine r_lc2 ?_ | with_reducible refine r_iZip ?_ | with_reducible refine r_tCmp ?_ | with_reducible refine r_newT ?_ | with_reducible refine r_newK ?_ | with_reducible refine r_sfld ?_ | with_reducible refine r_fld ?_ | with_reducible refine r_make ?_ | with_reducible refine r_pr ?_ | with_reducible refine r_dt ?_ | with_reducible refine r_iKeys ?_ | with_reducible refine r_dget2 ?_))
local macro_rules | `(tactic| walk_at "nw") => `(tactic| (intro q nq; generalize hH : upd _ q _ = H1; have s1 := same_upd_eq nq hH; have hq := upd_eq hH; clear hH))
section
variable {P : Program} {w : World} {K : PySem.W.Frag} {mg : Str → Option Value} {base : Heap}
/-! ### rows led -/
def spEnd : Sp := fun vs H Q _ => ∃ (a : Addr) (B : Box) (t : Str) (r : List Nat), vs = [.ref a, .str t, .str (tx r)] ∧ BoxAt H a B ∧ B.Ok ∧ t ∈ B.tg ∧ Over B.sg r ∧ ∀ H', Same H H' → Q (.str (B.run t r)) H'
abbrev nEnd : List Str := ["_law_box_here", "_law_begin", "_law_line", "_law_here", "_law_letter"]
theorem sc_end : FnScope nEnd ["_law_box_here", "_law_begin", "_law_line"] (defScope s_law_end) := ⟨rfl, rfl, rfl, by decide +kernel, rfl, by decide +kernel, by decide +kernel⟩
theorem Box.Ok.run_in {B : Box} (ok : B.Ok) : ∀ (r : List Nat) (t : Str), t ∈ B.tg → Over B.sg r → B.run t r ∈ B.tg
  | [], t, ht, _ => ht
  | c :: r, t, ht, ho => ok.run_in r (B.gl t c) (ok.cl t ht c ho.cons.1) ho.cons.2
theorem Over.take {sg r : List Nat} (h : Over sg r) (i : Nat) : Over sg (r.take i) := fun c hc => h c (List.mem_of_mem_take hc)
theorem ok_end (T : Txt K mg) : Fn P w K mg base 1 "_law_end" ["_law_box_here", "_law_begin", "_law_line"] spEnd := by
  refine T.d_law_end.fn sc_end (fun _ _ _ _ _ _ us hl => match us, hl with | [_, _, _], _ => rfl) (fun vs H Q E h => ?_) (fun cdv Ar outer s H vs Q E hr h => ?_)
  · obtain ⟨a, B, t, r, rfl, _⟩ := h
    rfl
  · obtain ⟨a, B, t, r, rfl, hB, ok, ht, ho, k⟩ := h
    refine ⟨_, pss_cons (ps_set (i := 3) sc_end.nd rfl (.inl rfl) (pv 1))
      (pss_cons (ps_for PassesOwn.never rfl (pi_str (pv 2)) (pg_name (i := 4) sc_end.nd rfl (.inl rfl))
        (pss_one (ps_set (i := 3) sc_end.nd rfl (.inl rfl) (pe_dget (hu_of hr) (pe_ix ix_tup (pv 0) pe_int (fun _ _ => rfl)) (pe_tup (pa_cons (pv 3) (pa_cons (pv 4) pa_nil))) (fun _ _ => rfl)))))
      (pss_one (ps_ret (pv 3)))), ?_⟩
    obtain ⟨l1, l2, d, kvs, ha, h1, h2, hd, gk⟩ := hB
    have esz : (tx r).cps.size = r.length := by simp [tx]
    walk_at "rd"
    refine for_it (walk_str (z := tx r)) (fun i σ' H' => ∃ v4, σ' = [some (.ref a), some (.str t), some (.str (tx r)), some (.str (B.run t (r.take i))), v4] ∧ Same H H')
      ⟨none, rfl, Same.refl _⟩ (fun i σ' H' _ q => trivial) ?_ ?_
    · rintro i x σ' H' H'' hi ⟨v4, rfl, e1⟩ ⟨rfl, c, hc0, rfl⟩
      have hc' : r[i]? = some c := by simpa [tx] using hc0
      have hc : c ∈ B.sg := ho c (List.mem_of_getElem? hc')
      have hrun := ok.run_in (r.take i) t ht (ho.take i)
      walk_at "rd"
      refine r_ixT (v := .ref d) (SqT.of (e1 _ _ ha)) (atI_nat (j := 3) rfl) ?_
      walk_at "rd"
      refine ⟨by show 2 ≤ sizeLine; decide, ?_⟩
      walk_at "nw"
      rename_i q2 nq2 H2 e2 hq2
      have g := DGet.t (k := gkey (B.run t (r.take i)) c) (e2 _ _ (e1 _ _ hd)) hq2
      rw [gk _ hrun c hc] at g
      refine ⟨d, _, rfl, g, ?_⟩
      walk_at "rd"
      refine ⟨some (.str ⟨#[c]⟩), ?_, e1.trans e2⟩
      rw [take_more hc', Box.run_app]
      rfl
    · rintro σ' H' ⟨v4, rfl, e1⟩
      rw [esz, List.take_length]
      walk_at "rd"
      exact k _ e1
def spIsFine : Sp := fun vs H Q _ => ∃ (a : Addr) (B : Box) (r : List Nat), vs = [.ref a, .str (tx r)] ∧ BoxAt H a B ∧ B.Ok ∧ Over B.sg r ∧ ∀ H', Same H H' → Q (.bl (B.good r)) H'
theorem sc_is_fine : FnScope ["_law_box_here", "_law_line"] ["_law_box_here", "_law_line"] (defScope s_law_is_fine) := ⟨rfl, rfl, rfl, by decide +kernel, rfl, by decide +kernel, by decide +kernel⟩
theorem ok_is_fine (T : Txt K mg) : Fn P w K mg base 2 "_law_is_fine" ["_law_box_here", "_law_line"] spIsFine := by
  have G : Fn P w K mg base 1 "_law_end" ["_law_box_here", "_law_begin", "_law_line"] spEnd := ok_end T
  refine T.d_law_is_fine.fn sc_is_fine (fun _ _ _ _ _ _ us hl => match us, hl with | [_, _], _ => rfl) (fun vs H Q E h => ?_) (fun cdv Ar outer s H vs Q E hr h => ?_)
  · obtain ⟨a, B, r, rfl, _⟩ := h
    rfl
  · obtain ⟨a, B, r, rfl, hB, ok, ho, k⟩ := h
    refine ⟨_, pss_one (ps_ret (pe_cmpR op_in_seq (pcall G hr (pa_cons (pv 0) (pa_cons (pe_ix ix_list (pe_ix ix_tup (pv 0) pe_int (fun _ _ => rfl)) pe_int (fun _ _ => rfl)) (pa_cons (pv 1) pa_nil)))) (pe_ix ix_tup (pv 0) pe_int (fun _ _ => rfl)) (by rfl))), ?_⟩
    have hB0 := hB
    obtain ⟨l1, l2, d, kvs, ha, h1, h2, hd, gk⟩ := hB
    walk_at "rd"
    refine r_ixT (v := .ref l1) (SqT.of ha) (atI_nat (j := 1) rfl) ?_
    walk_at "rd"
    refine r_ixL (v := .str B.first) (SqL.of h1) (atI_nat (j := 0) ok.head) ?_
    walk_at "rd"
    refine ⟨a, B, B.first, r, rfl, hB0, ok, ok.first_in, ho, fun H1 e1 => ?_⟩
    walk_at "rd"
    refine r_ixT (v := .ref l2) (SqT.of (e1 _ _ ha)) (atI_nat (j := 2) rfl) ?_
    refine r_inL (.inl (SqL.of (e1 _ _ h2))) ?_
    exact k _ e1
/-! ### moods that come behind a mood -/
def spReached : Sp := fun vs H Q _ => ∃ (a : Addr) (B : Box) (t : Str), vs = [.ref a, .str t] ∧ BoxAt H a B ∧ B.Ok ∧ t ∈ B.tg ∧ ∀ (H' : Hp) (f : Addr) (l : List Str), Same H H' → H' f = some (.lst (l.map V.str)) → l.Nodup → (∀ t ∈ l, t ∈ B.tg) → Q (.ref f) H'
abbrev nReached : List Str := ["_law_box_here", "_law_begin", "_law_found", "_law_at", "_law_letter", "_law_aim_here"]
theorem sc_reached : FnScope nReached ["_law_box_here", "_law_begin"] (defScope s_law_reached) := ⟨rfl, rfl, rfl, by decide +kernel, rfl, by decide +kernel, by decide +kernel⟩
theorem nodup_snoc {α : Type} {l : List α} {x : α} (h : l.Nodup) (n : x ∉ l) : (l ++ [x]).Nodup := by
  rw [List.nodup_append]
  exact ⟨h, by simp, fun a ha b hb e => n (by rw [← List.mem_singleton.mp hb, ← e]; exact ha)⟩
theorem ok_reached (T : Txt K mg) : Fn P w K mg base 1 "_law_reached" ["_law_box_here", "_law_begin"] spReached := by
  refine T.d_law_reached.fn sc_reached (fun _ _ _ _ _ _ us hl => match us, hl with | [_, _], _ => rfl) (fun vs H Q E h => ?_) (fun cdv Ar outer s H vs Q E hr h => ?_)
  · obtain ⟨a, B, t, rfl, _⟩ := h
    rfl
  · obtain ⟨a, B, t, rfl, hB, ok, ht, k⟩ := h
    refine ⟨_, pss_cons (ps_par (i := 2) (j := 3) rfl sc_reached.nd rfl rfl (by decide) rfl rfl (pa_cons (pe_lst (pa_cons (pv 1) pa_nil)) (pa_cons pe_int pa_nil)) (by rfl))
      (pss_cons (ps_while PassesOwn.never (pt_cmpR op_lt (pv 3) (pe_callB call_len_seq (by rfl) T.f_len PySem.boot_len (pa_cons (pv 2) pa_nil)) (nomark _))
        (pss_cons (ps_for PassesOwn.never rfl (pi_str (pe_ix ix_tup (pv 0) pe_int (fun _ _ => rfl))) (pg_name (i := 4) sc_reached.nd rfl (.inl rfl))
          (pss_cons (ps_set (i := 5) sc_reached.nd rfl (.inl rfl) (pe_dget (hu_of hr) (pe_ix ix_tup (pv 0) pe_int (fun _ _ => rfl)) (pe_tup (pa_cons (pe_ix ix_list (pv 2) (pv 3) (fun _ _ => rfl)) (pa_cons (pv 4) pa_nil))) (fun _ _ => rfl)))
          (pss_one (ps_if (pt_cmpR op_notIn_seq (pv 5) (pv 2) (by rfl)) (pss_one (ps_expr (pe_bm PySem.F.plainAttrs_list PySem.F.slot_list_append PySem.F.type_list_append mt_append (pv 2) (pa_cons (pv 5) pa_nil)))) pss_nil))))
        (pss_one (ps_set (i := 3) sc_reached.nd rfl (.inl rfl) (pe_op op_add (pv 3) pe_int)))))
      (pss_one (ps_ret (pv 2)))), ?_⟩
    obtain ⟨l1, l2, d, kvs, ha, h1, h2, hd, gk⟩ := hB
    have esz : (tx B.sg).cps.size = B.sg.length := by simp [tx]
    walk_at "rd"
    refine ⟨by show 1 ≤ sizeLine; decide, ?_⟩
    walk_at "nw"
    rename_i fo nfo H1 e1 hfo
    walk_at "rd"
    refine ⟨fun m σ H' => ∃ (i : Nat), ∃ v4 v5 l, m = B.tg.length - i ∧ σ = [some (.ref a), some (.str t), some (.ref fo), some (.int i), v4, v5] ∧ Same H H' ∧ H' fo = some (.lst (l.map V.str)) ∧ l.Nodup ∧ (∀ t ∈ l, t ∈ B.tg), ⟨_, 0, none, none, [t], rfl, rfl, e1, hfo, by simp, fun x hx => by rw [List.mem_singleton.mp hx]; exact ht⟩, ?_⟩
    rintro m σ H2 ⟨i, v4, v5, l, rfl, rfl, e2, hf, nd, sub⟩
    have ll := nodup_len nd sub
    walk_at "rd"
    refine ⟨fo, _, rfl, .inl (SqL.of hf), ?_⟩
    rw [List.length_map]
    walk_at "rd"
    refine ite2 (fun hlt => ?_) (fun hlt => ?_)
    · have hi : i < l.length := by
        have := of_decide_eq_true hlt
        omega
      have hu : l[i]? = some l[i] := List.getElem?_eq_getElem hi
      generalize l[i] = u at hu
      have hut := sub u (List.mem_of_getElem? hu)
      refine ⟨_, fun σ' H' h => h, ?_⟩
      walk_at "rd"
      refine r_ixT (v := .str (tx B.sg)) (SqT.of (e2 _ _ ha)) (atI_nat (j := 0) rfl) ?_
      walk_at "rd"
      refine for_it (walk_str (z := tx B.sg)) (fun j σ' H' => ∃ v4 v5 l', σ' = [some (.ref a), some (.str t), some (.ref fo), some (.int i), v4, v5] ∧ Same H H' ∧ H' fo = some (.lst (l'.map V.str)) ∧ l'.Nodup ∧ (∀ t ∈ l', t ∈ B.tg) ∧ l'[i]? = some u)
        ⟨v4, v5, l, rfl, e2, hf, nd, sub, hu⟩ (fun j σ' H' _ q => trivial) ?_ ?_
      · rintro j x σ' H' H'' hj ⟨v4, v5, l', rfl, e3, hf3, nd3, sub3, hu3⟩ ⟨rfl, c, hc0, rfl⟩
        have hc' : B.sg[j]? = some c := by simpa [tx] using hc0
        have hc := List.mem_of_getElem? hc'
        walk_at "rd"
        refine r_ixT (v := .ref d) (SqT.of (e3 _ _ ha)) (atI_nat (j := 3) rfl) ?_
        walk_at "rd"
        refine r_ixL (v := .str u) (SqL.of hf3) (atI_nat (by rw [List.getElem?_map, hu3]; rfl)) ?_
        walk_at "rd"
        refine ⟨by show 2 ≤ sizeLine; decide, ?_⟩
        walk_at "nw"
        rename_i q4 nq4 H4 e4 hq4
        have g := DGet.t (k := gkey u c) (e4 _ _ (e3 _ _ hd)) hq4
        rw [gk u hut c hc] at g
        refine ⟨d, _, rfl, g, ?_⟩
        walk_at "rd"
        have hf4 := e4 _ _ hf3
        refine r_notInL (.inl (SqL.of hf4)) ?_
        walk_at "rd"
        by_cases hin : B.gl u c ∈ l'
        · rw [decide_eq_true hin]
          refine iteF ?_
          walk_at "rd"
          exact ⟨_, _, l', rfl, e3.trans e4, hf4, nd3, sub3, hu3⟩
        · rw [decide_eq_false hin]
          refine iteT ?_
          walk_at "rd"
          refine ⟨.inl ⟨rfl, _, SqL.of hf4⟩, ?_⟩
          walk_at "rd"
          have ll3 := nodup_len nd3 sub3
          have t5 := ok.t5
          refine ⟨fo, _, _, rfl, rfl, hf4, by rw [List.length_map]; exact small1000 (by omega), ?_⟩
          refine ⟨_, _, l' ++ [B.gl u c], rfl, same_upd_new (e3.trans e4) nfo, ?_, nodup_snoc nd3 hin, fun x hx => ?_, ?_⟩
          · rw [List.map_append]
            exact upd_same
          · rcases List.mem_append.mp hx with h | h
            · exact sub3 x h
            · rw [List.mem_singleton.mp h]
              exact ok.cl u hut c hc
          · rw [List.getElem?_append_left (List.getElem?_eq_some_iff.mp hu3).1]
            exact hu3
      · rintro σ' H' ⟨v4, v5, l', rfl, e3, hf3, nd3, sub3, hu3⟩
        walk_at "rd"
        exact ⟨B.tg.length - (i + 1), by omega, i + 1, _, _, l', rfl, rfl, e3, hf3, nd3, sub3⟩
    · walk_at "rd"
      exact k _ fo l e2 hf nd sub
end
end K73

set_option Elab.async false
set_option linter.all false
set_option maxRecDepth 100000
set_option maxHeartbeats 4000000
namespace K73
open PySem PySem.Spec PyProof.Rows L2
local macro_rules | `(tactic| walk_at "rd") => `(tactic| repeat (first | with_reducible refine r_seq ?_ | with_reducible refine r_asg ?_ | with_reducible refine r_ret ?_ | with_reducible refine r_op ?_ | with_reducible refine r_var (by with_unfolding_all rfl) ?_ | with_reducible refine r_c ?_ | with_reducible refine r_cons ?_ | with_reducible refine r_nil ?_ | with_reducible refine r_gname ?_ | with_reducible refine r_ifS ?_ | with_reducible refine r_test ?_ | with_reducible refine r_bl ?_ | with_reducible refine r_I0 ?_ | with_reducible refine r_cb ?_ | with_reducible refine r_cl ?_ | with_reducible refine r_tup ?_ | with_reducible refine r_lst ?_ | with_reducible refine r_gsub ?_ | with_reducible refine r_gcons ?_ | with_reducible refine r_gnil ?_ | with_reducible refine r_drop ?_ | with_reducible refine r_next ?_ | with_reducible refine r_par ?_ | with_reducible refine r_par2 ?_ | with_reducible refine r_and ?_ | with_reducible refine r_or ?_ | with_reducible refine r_not ?_ | with_reducible refine r_yes ?_ | with_reducible refine r_andV ?_ | with_reducible refine r_orV ?_ | with_reducible refine r_notV ?_ | with_reducible refine r_if ?_ | with_reducible refine r_chain ?_ | with_reducible refine r_U ?_ | with_reducible refine r_un ?_ | with_reducible refine r_eq (by with_unfolding_all rfl) ?_ | with_reducible refine r_ne (by with_unfolding_all rfl) ?_ | with_reducible refine r_int ?_ | with_reducible refine r_sl ?_ | with_reducible refine r_nopart ?_ | with_reducible refine r_part ?_ | with_reducible refine r_exI ?_ | with_reducible refine r_dget ?_ | with_reducible refine r_din ?_ | with_reducible refine r_dnotin ?_ | with_reducible refine r_dput ?_ | with_reducible refine r_isN ?_ | with_reducible refine r_notN ?_ | with_reducible refine r_bm ?_ | with_reducible refine r_bm0 ?_ | with_reducible refine r_retN ?_ | with_reducible refine r_lc ?_ | with_reducible refine r_for ?_ | with_reducible refine r_iStr ?_ | with_reducible refine r_exS ?_ | with_reducible refine r_iList ?_ | with_reducible refine r_iTup ?_ | with_reducible refine r_iRng ?_ | with_reducible refine r_m1 ?_ | with_reducible refine r_strM ?_ | with_reducible refine r_tB ?_ | with_reducible refine r_dc ?_ | with_reducible refine r_iZipS ?_ | with_reducible refine r_lc2 ?_ | with_reducible refine r_iZip ?_ | with_reducible refine r_tCmp ?_ | with_reducible refine r_newT ?_ | with_reducible refine r_newK ?_ | with_reducible refine r_sfld ?_ | with_reducible refine r_fld ?_ | with_reducible refine r_make ?_ | with_reducible refine r_pr ?_ | with_reducible refine r_dt ?_ | with_reducible refine r_iKeys ?_ | with_reducible refine r_dget2 ?_))
local macro_rules | `(tactic| walk_at "nw") => `(tactic| (intro q nq; generalize hH : upd _ q _ = H1; have s1 := same_upd_eq nq hH; have hq := upd_eq hH; clear hH))
section
variable {P : Program} {w : World} {K : PySem.W.Frag} {mg : Str → Option Value} {base : Heap}
def spLiveL : Sp := fun vs H Q _ => ∃ (a : Addr) (B : Box), vs = [.ref a] ∧ BoxAt H a B ∧ B.Ok ∧ ∀ (H' : Hp) (f : Addr) (l : List Str), Same H H' → H' f = some (.lst (l.map V.str)) → l.length ≤ 5 → (∀ t ∈ l, t ∈ B.tg) → Q (.ref f) H'
abbrev nLiveL : List Str := ["_law_box_here", "_law_come", "_law_here", "_law_aim_here"]
theorem sc_live : FnScope nLiveL ["_law_box_here"] (defScope s_law_live) := ⟨rfl, rfl, rfl, by decide +kernel, rfl, by decide +kernel, by decide +kernel⟩
theorem ok_live (T : Txt K mg) : Fn P w K mg base 2 "_law_live" ["_law_box_here"] spLiveL := by
  have G : Fn P w K mg base 1 "_law_reached" ["_law_box_here", "_law_begin"] spReached := ok_reached T
  refine T.d_law_live.fn sc_live (fun _ _ _ _ _ _ us hl => match us, hl with | [_], _ => rfl) (fun vs H Q E h => ?_) (fun cdv Ar outer s H vs Q E hr h => ?_)
  · obtain ⟨a, B, rfl, _⟩ := h
    rfl
  · obtain ⟨a, B, rfl, hB, ok, k⟩ := h
    refine ⟨_, pss_cons (ps_set (i := 1) sc_live.nd rfl (.inl rfl) (pcall G hr (pa_cons (pv 0) (pa_cons (pe_ix ix_list (pe_ix ix_tup (pv 0) pe_int (fun _ _ => rfl)) pe_int (fun _ _ => rfl)) pa_nil))))
      (pss_one (ps_ret (pe_lc (own := [("_law_here", 2)]) (g := gName 2) (tt := tTest (tOp (rNeD K) (tLc (iList K (tCl spReached (tCons (tVar 0) (tCons (tVar 2) tNil)))) (gName 3) (tTest (tOp (rIn K false) (tVar 3) (tOp (rIxT K) (tVar 0) (tC (.int 2))))) (tVar 3) [3]) (tLst tNil))) rfl sc_live.nd (pi_list (pv 1)) (blkOk_by (N := nLiveL) (sc := defScope s_law_live) (by decide +kernel))
        (fun _ _ _ _ _ => pg_name (i := 2) sc_live.nd rfl (Or.inl rfl))
        (fun _ _ _ _ _ => pts_one (pt_cmpR (op_neD hr.units) (pe_lc (own := [("_law_aim_here", 3)]) (g := gName 3) (tt := tTest (tOp (rIn K false) (tVar 3) (tOp (rIxT K) (tVar 0) (tC (.int 2))))) rfl sc_live.nd (pi_list (pcall G hr (pa_cons (pv 0) (pa_cons (pv 2) pa_nil)))) (blkOk_by (by kernel_rfl))
            (fun _ _ _ _ _ => pg_name (i := 3) sc_live.nd rfl (Or.inl rfl)) (fun _ _ _ _ _ => pts_one (pt_cmpR op_in_seq (pv 3) (pe_ix ix_tup (pv 0) pe_int (fun _ _ => rfl)) (by rfl))) (fun _ _ _ _ _ => pv 3)) (pe_lst pa_nil) (by rfl)))
        (fun _ _ _ _ _ => pv 2)))), ?_⟩
    have hB0 := hB
    obtain ⟨l1, l2, d, kvs, ha, h1, h2, hd, gk⟩ := hB
    walk_at "rd"
    refine r_ixT (v := .ref l1) (SqT.of ha) (atI_nat (j := 1) rfl) ?_
    walk_at "rd"
    refine r_ixL (v := .str B.first) (SqL.of h1) (atI_nat (j := 0) ok.head) ?_
    walk_at "rd"
    refine ⟨a, B, B.first, rfl, hB0, ok, ok.first_in, fun H1 f l e1 hf nd sub => ?_⟩
    walk_at "rd"
    refine ⟨f, rfl, ⟨_, SqL.of hf⟩, ?_⟩
    have l5 : l.length ≤ 5 := Nat.le_trans (nodup_len nd sub) ok.t5
    -- which of them are kept hangs on lists that the walk chooses: kept by turn
    intro D nD
    refine lc_it (Qd := fun H => Q (.ref D) H) (walk_list (K := K) (a := f) (xs := l.map V.str)) (fun i H' => Same H1 H' ∧ ∃ fs : List Str, H' D = some (.lst (fs.map V.str)) ∧ fs.Sublist (l.take i)) ⟨same_upd nD, [], upd_same, List.nil_sublist _⟩ (fun i H' _ q => SqL.of (q.1 _ _ hf)) (fun i x H' H'' hi q y => ?_) (fun H' q => ?_)
    · obtain ⟨rfl, hy⟩ := y
      obtain ⟨s2, fs, hD, sb⟩ := q
      rw [List.getElem?_map] at hy
      cases e : l[i]? with
      | none => rw [e] at hy; cases hy
      | some t =>
      rw [e] at hy
      have ex : V.str t = x := Option.some.inj hy
      subst ex
      have ht := sub t (List.mem_of_getElem? e)
      refine ⟨rfl, ?_⟩
      walk_at "rd"
      refine ⟨a, B, t, rfl, hB0.same (e1.trans s2), ok, ht, fun H3 f3 m e3 hf3 nd3 sub3 => ?_⟩
      walk_at "rd"
      refine ⟨f3, rfl, ⟨_, SqL.of hf3⟩, ?_⟩
      have m5 : m.length ≤ 5 := Nat.le_trans (nodup_len nd3 sub3) ok.t5
      refine lc_L (xs := m.map V.str) (SqL.of hf3) (fun x => match x with | .str t => decide (t ∈ B.fn) | _ => false) (fun x => x) (by rw [List.length_map]; exact small1000 (by omega)) (fun y => rfl) (fun x H4 hx s4 Q q => ?_) (fun x H4 hx hf' s4 Q q => ?_) (fun g H4 ng e4 hg => ?_)
      · obtain ⟨u, hu, rfl⟩ := List.mem_map.mp hx
        walk_at "rd"
        have s14 := ((e1.trans s2).trans e3).trans s4
        refine r_ixT (v := .ref l2) (SqT.of (s14 _ _ ha)) (atI_nat (j := 2) rfl) ?_
        walk_at "rd"
        refine r_inL (.inl (SqL.of (s14 _ _ h2))) ?_
        walk_at "rd"
        exact q _ (Same.refl _)
      · walk_at "rd"
        exact q _ (Same.refl _)
      rw [filt_txs (g := fun t => decide (t ∈ B.fn)) (fun t => rfl)] at hg
      walk_at "rd"
      refine ⟨by show 0 ≤ sizeLine; decide, ?_⟩
      walk_at "nw"
      rename_i q5 nq5 H5 e5 hq5
      refine ⟨_, _, .lst (SqL.of (e5 _ _ hg)) (dp_strs _), .lst (SqL.of hq5) .nil, shaped_list (fun x hx => sok_wd (ok.wd x (sub3 x (List.mem_filter.mp hx).1))), by decide +kernel, ?_⟩
      have s25 := ((s2.trans e3).trans e4).trans e5
      have s5 := (e3.trans e4).trans e5
      walk_at "rd"
      refine ite2 (fun _ => ?_) (fun _ => ?_)
      · walk_at "rd"
        refine ⟨fs.map V.str, s5 _ _ hD, ?_, same_upd_new s25 nD, fs ++ [t], ?_, ?_⟩
        · rw [List.length_map]
          have := sb.length_le
          rw [List.length_take] at this
          exact small1000 (by omega)
        · rw [List.map_append]
          exact upd_same
        · rw [take_more e]
          exact sb.append (List.Sublist.refl _)
      · refine ⟨s25, fs, s5 _ _ hD, ?_⟩
        rw [take_more e]
        exact sb.trans (List.sublist_append_left _ _)
    · obtain ⟨s2, fs, hD, sb⟩ := q
      rw [List.length_map, List.take_length] at sb
      exact k _ D fs (e1.trans s2) hD (Nat.le_trans sb.length_le l5) fun t ht => sub t (sb.subset ht)
end
end K73

set_option Elab.async false
set_option linter.all false
set_option maxRecDepth 100000
set_option maxHeartbeats 4000000
namespace K73
open PySem PySem.Spec PyProof.Rows L2
local macro_rules | `(tactic| walk_at "rd") => `(tactic| repeat (first | with_reducible refine r_seq ?_ | with_reducible refine r_asg ?_ | with_reducible refine r_ret ?_ | with_reducible refine r_op ?_ | with_reducible refine r_var (by with_unfolding_all rfl) ?_ | with_reducible refine r_c ?_ | with_reducible refine r_cons ?_ | with_reducible refine r_nil ?_ | with_reducible refine r_gname ?_ | with_reducible refine r_ifS ?_ | with_reducible refine r_test ?_ | with_reducible refine r_bl ?_ | with_reducible refine r_I0 ?_ | with_reducible refine r_cb ?_ | with_reducible refine r_cl ?_ | with_reducible refine r_tup ?_ | with_reducible refine r_lst ?_ | with_reducible refine r_gsub ?_ | with_reducible refine r_gcons ?_ | with_reducible refine r_gnil ?_ | with_reducible refine r_drop ?_ | with_reducible refine r_next ?_ | with_reducible refine r_par ?_ | with_reducible refine r_par2 ?_ | with_reducible refine r_and ?_ | with_reducible refine r_or ?_ | with_reducible refine r_not ?_ | with_reducible refine r_yes ?_ | with_reducible refine r_andV ?_ | with_reducible refine r_orV ?_ | with_reducible refine r_notV ?_ | with_reducible refine r_if ?_ | with_reducible refine r_chain ?_ | with_reducible refine r_U ?_ | with_reducible refine r_un ?_ | with_reducible refine r_eq (by with_unfolding_all rfl) ?_ | with_reducible refine r_ne (by with_unfolding_all rfl) ?_ | with_reducible refine r_int ?_ | with_reducible refine r_sl ?_ | with_reducible refine r_nopart ?_ | with_reducible refine r_part ?_ | with_reducible refine r_exI ?_ | with_reducible refine r_dget ?_ | with_reducible refine r_din ?_ | with_reducible refine r_dnotin ?_ | with_reducible refine r_dput ?_ | with_reducible refine r_isN ?_ | with_reducible refine r_notN ?_ | with_reducible refine r_bm ?_ | with_reducible refine r_bm0 ?_ | with_reducible refine r_retN ?_ | with_reducible refine r_lc ?_ | with_reducible refine r_for ?_ | with_reducible refine r_iStr ?_ | with_reducible refine r_exS ?_ | with_reducible refine r_iList ?_ | with_reducible refine r_iTup ?_ | with_reducible refine r_iRng ?_ | with_reducible refine r_m1 ?_ | with_reducible refine r_strM ?_ | with_reducible refine r_tB ?_ | with_reducible refine r_dc ?_ | with_reducible refine r_iZipS ?_ | with_reducible refine r_lc2 ?_ | with_reducible refine r_iZip ?_ | with_reducible refine r_tCmp ?_ | with_reducible refine r_newT ?_ | with_reducible refine r_newK ?_ | with_reducible refine r_sfld ?_ | with_reducible refine r_fld ?_ | with_reducible refine r_make ?_ | with_reducible refine r_pr ?_ | with_reducible refine r_dt ?_ | with_reducible refine r_iKeys ?_ | with_reducible refine r_dget2 ?_))
local macro_rules | `(tactic| walk_at "nw") => `(tactic| (intro q nq; generalize hH : upd _ q _ = H1; have s1 := same_upd_eq nq hH; have hq := upd_eq hH; clear hH))
/-! ### dicts whose keys are pairs of moods -/
def allP (tg : List Str) : List (Str × Str) := tg.flatMap fun x => tg.map fun y => (x, y)
theorem in_allP {tg : List Str} {p : Str × Str} (h1 : p.1 ∈ tg) (h2 : p.2 ∈ tg) : p ∈ allP tg := List.mem_flatMap.mpr ⟨p.1, h1, List.mem_map.mpr ⟨p.2, h2, rfl⟩⟩
theorem of_allP {tg : List Str} {p : Str × Str} (h : p ∈ allP tg) : p.1 ∈ tg ∧ p.2 ∈ tg := by
  obtain ⟨x, hx, h⟩ := List.mem_flatMap.mp h
  obtain ⟨y, hy, rfl⟩ := List.mem_map.mp h
  exact ⟨hx, hy⟩
theorem len_flat {α β : Type} (f : α → List β) (k : Nat) : ∀ l : List α, (∀ x ∈ l, (f x).length = k) → (l.flatMap f).length = l.length * k
  | [], _ => by simp
  | x :: l, h => by
    rw [List.flatMap_cons, List.length_append, h x (List.mem_cons_self ..), len_flat f k l fun y hy => h y (List.mem_cons_of_mem _ hy), List.length_cons, Nat.add_mul, Nat.one_mul, Nat.add_comm]
theorem len_allP (tg : List Str) : (allP tg).length = tg.length * tg.length := len_flat _ _ _ fun _ _ => List.length_map _
theorem allP_25 {tg : List Str} (h : tg.length ≤ 5) : (allP tg).length ≤ 25 := by
  rw [len_allP]
  exact Nat.mul_le_mul h h
structure KeysIn (tg : List Str) (kvs : List (List Key × V)) : Prop where
  nd : (kvs.map (·.1)).Nodup
  sub : ∀ k ∈ kvs.map (·.1), k ∈ (allP tg).map pk
theorem KeysIn.nil {tg : List Str} : KeysIn tg [] := ⟨List.nodup_nil, fun k h => nomatch h⟩
theorem KeysIn.len {tg : List Str} {kvs : List (List Key × V)} (h : KeysIn tg kvs) (h5 : tg.length ≤ 5) : kvs.length ≤ 25 := by
  have := nodup_len h.nd h.sub
  rw [List.length_map, List.length_map] at this
  exact Nat.le_trans this (allP_25 h5)
theorem KeysIn.put {tg : List Str} {kvs : List (List Key × V)} {p : Str × Str} {v : V} (h : KeysIn tg kvs) (h1 : p.1 ∈ tg) (h2 : p.2 ∈ tg) : KeysIn tg (putK kvs (pk p) v) := by
  unfold putK
  by_cases e : (kvs.any fun kv => decide (kv.1 = pk p)) = true
  · rw [if_pos e]
    have ek : (kvs.map fun kv => if kv.1 = pk p then (kv.1, v) else kv).map (·.1) = kvs.map (·.1) := by
      rw [List.map_map]
      refine List.map_congr_left fun kv _ => ?_
      show (if kv.1 = pk p then (kv.1, v) else kv).1 = kv.1
      split <;> rfl
    exact ⟨by rw [ek]; exact h.nd, by rw [ek]; exact h.sub⟩
  · rw [if_neg e]
    have hn : pk p ∉ kvs.map (·.1) := fun z => by
      obtain ⟨kv, hkv, e2⟩ := List.mem_map.mp z
      exact e (List.any_eq_true.mpr ⟨kv, hkv, decide_eq_true e2⟩)
    refine ⟨?_, fun k hk => ?_⟩
    · rw [List.map_append]
      exact nodup_snoc h.nd hn
    · rw [List.map_append] at hk
      rcases List.mem_append.mp hk with z | z
      · exact h.sub k z
      · rw [List.mem_singleton.mp z]
        exact List.mem_map.mpr ⟨p, in_allP h1 h2, rfl⟩
/-! ### lists of pairs made and sifted -/
section
variable {K : PySem.W.Frag} {σ : L2.St} {H1 : Hp} {vs : List Nat} {j : Nat} {te : TE} {tt : TT} {Qd : V → Hp → Prop}
theorem lc_prs {l : List Nat} {f : Nat → Str × Str} (hn : l.length ≤ 100) (hw : ∀ y : Option V, wipe ((wipe σ vs).set j y) vs = wipe σ vs)
    (he : ∀ c H', c ∈ l → Same H1 H' → ∀ Q : VK, (∀ q H3, Same H' H3 → H3 q = some (.tup [.str (f c).1, .str (f c).2]) → Q (.ref q) H3) → te ((wipe σ vs).set j (some (.str ⟨#[c]⟩))) H' Q)
    (hd : ∀ D H' ys, H1 D = none → Same H1 H' → H' D = some (.lst ys) → PairsAt H' ys (l.map f) → Qd (.ref D) H') : LcGoal (Its ⟨l.toArray⟩) (gName j) tYes te vs σ H1 Qd := by
  intro D nD
  have ez : (⟨l.toArray⟩ : Str).cps.size = l.length := by simp
  refine lc_it (Qd := fun H => Qd (.ref D) H) (walk_str (z := ⟨l.toArray⟩)) (fun i H' => Same H1 H' ∧ ∃ ys, H' D = some (.lst ys) ∧ PairsAt H' ys ((l.take i).map f)) ⟨same_upd nD, [], upd_same, .nil⟩ (fun i H' _ _ => trivial) (fun i x H' H'' hi q y => ?_) (fun H' q => ?_)
  · obtain ⟨rfl, c, hc0, rfl⟩ := y
    obtain ⟨s, ys, hD, hP⟩ := q
    have hc : l[i]? = some c := by simpa using hc0
    refine ⟨hw _, r_yes (iteT ?_)⟩
    refine he c _ (List.mem_of_getElem? hc) s _ fun q H3 s3 hq => ⟨ys, s3 _ _ hD, ?_, same_upd_new (s.trans s3) nD, ys ++ [.ref q], upd_same, ?_⟩
    · have := Paired.length hP
      rw [List.length_map, List.length_take] at this
      exact small1000 (by omega)
    · rw [take_more hc, List.map_append]
      refine PairsAt.snoc (a := q) (x := (f c).1) (y := (f c).2) ((hP.same s3).keep fun a xs h => ?_) ?_
      · rw [upd_ne (ne_of h (s3 _ _ hD) (by intro z; cases z))]
        exact h
      · rw [upd_ne (ne_of hq (s3 _ _ hD) (by intro z; cases z))]
        exact hq
  · obtain ⟨s, ys, hD, hP⟩ := q
    rw [ez, List.take_length] at hP
    exact hd D H' ys nD s hD hP
theorem lc_pfilt {a : Addr} {ys : List V} {ps : List (Str × Str)} (g : Str × Str → Bool) (hx : SqL K H1 a ys) (hP : PairsAt H1 ys ps) (hn : ys.length ≤ 1000)
    (hj : ∀ y, ((wipe σ vs).set j (some y))[j]? = some (some y)) (hw : ∀ y : Option V, wipe ((wipe σ vs).set j y) vs = wipe σ vs)
    (ht : ∀ b p H', p ∈ ps → Same H1 H' → H' b = some (.tup [.str p.1, .str p.2]) → ∀ Q : Bool → Hp → Prop, (∀ H3, Same H' H3 → Q (g p) H3) → tt ((wipe σ vs).set j (some (.ref b))) H' Q)
    (hd : ∀ D H' zs, H1 D = none → Same H1 H' → H' D = some (.lst zs) → PairsAt H' zs (ps.filter g) → zs.length ≤ ys.length → Qd (.ref D) H') : LcGoal (Itl K a) (gName j) tt (tVar j) vs σ H1 Qd := by
  intro D nD
  have hl := Paired.length hP
  refine lc_it (Qd := fun H => Qd (.ref D) H) (walk_list (K := K) (a := a) (xs := ys)) (fun i H' => Same H1 H' ∧ ∃ zs, H' D = some (.lst zs) ∧ PairsAt H' zs ((ps.take i).filter g) ∧ zs.length ≤ i) ⟨same_upd nD, [], upd_same, .nil, Nat.le_refl _⟩ (fun i H' _ q => q.1.seq hx) (fun i x H' H'' hi q y => ?_) (fun H' q => ?_)
  · obtain ⟨rfl, hy⟩ := y
    obtain ⟨s, zs, hD, hZ, hzl⟩ := q
    have hi2 : i < ps.length := by omega
    have hp : ps[i]? = some ps[i] := List.getElem?_eq_getElem hi2
    generalize ps[i] = p at hp
    obtain ⟨x', hx', b, rfl, hb⟩ := paired_get hP hp
    have ex := Option.some.inj (hy.symm.trans hx')
    subst ex
    refine ⟨hw _, ht b p _ (List.mem_of_getElem? hp) s (s _ _ hb) _ fun H3 s3 => ?_⟩
    cases hg : g p with
    | true =>
      refine iteT (r_var (hj _) ?_)
      refine ⟨zs, s3 _ _ hD, small1000 (by omega), same_upd_new (s.trans s3) nD, zs ++ [.ref b], upd_same, ?_, by rw [List.length_append, List.length_singleton]; omega⟩
      rw [take_more hp, List.filter_append, List.filter_cons, if_pos hg]
      refine PairsAt.snoc (a := b) (x := p.1) (y := p.2) ((hZ.same s3).keep fun a xs h => ?_) ?_
      · rw [upd_ne (ne_of h (s3 _ _ hD) (by intro z; cases z))]
        exact h
      · have h3 := s3 _ _ (s _ _ hb)
        rw [upd_ne (ne_of h3 (s3 _ _ hD) (by intro z; cases z))]
        exact h3
    | false =>
      refine iteF ⟨s.trans s3, zs, s3 _ _ hD, ?_, by omega⟩
      rw [take_more hp, List.filter_append, List.filter_cons, if_neg (by rw [hg]; decide), List.filter_nil, List.append_nil]
      exact hZ.same s3
  · obtain ⟨s, zs, hD, hZ, hzl⟩ := q
    rw [hl, List.take_length] at hZ
    exact hd D H' zs nD s hD hZ hzl
end
end K73

set_option Elab.async false
set_option linter.all false
set_option maxRecDepth 100000
set_option maxHeartbeats 4000000
namespace K73
open PySem PySem.Spec PyProof.Rows L2
local macro_rules | `(tactic| walk_at "rd") => `(tactic| repeat (first | with_reducible refine r_seq ?_ | with_reducible refine r_asg ?_ | with_reducible refine r_ret ?_ | with_reducible refine r_op ?_ | with_reducible refine r_var (by with_unfolding_all rfl) ?_ | with_reducible refine r_c ?_ | with_reducible refine r_cons ?_ | with_reducible refine r_nil ?_ | with_reducible refine r_gname ?_ | with_reducible refine r_ifS ?_ | with_reducible refine r_test ?_ | with_reducible refine r_bl ?_ | with_reducible refine r_I0 ?_ | with_reducible refine r_cb ?_ | with_reducible refine r_cl ?_ | with_reducible refine r_tup ?_ | with_reducible refine r_lst ?_ | with_reducible refine r_gsub ?_ | with_reducible refine r_gcons ?_ | with_reducible refine r_gnil ?_ | with_reducible refine r_drop ?_ | with_reducible refine r_next ?_ | with_reducible refine r_par ?_ | with_reducible refine r_par2 ?_ | with_reducible refine r_and ?_ | with_reducible refine r_or ?_ | with_reducible refine r_not ?_ | with_reducible refine r_yes ?_ | with_reducible refine r_andV ?_ | with_reducible refine r_orV ?_ | with_reducible refine r_notV ?_ | with_reducible refine r_if ?_ | with_reducible refine r_chain ?_ | with_reducible refine r_U ?_ | with_reducible refine r_un ?_ | with_reducible refine r_eq (by with_unfolding_all rfl) ?_ | with_reducible refine r_ne (by with_unfolding_all rfl) ?_ | with_reducible refine r_int ?_ | with_reducible refine r_sl ?_ | with_reducible refine r_nopart ?_ | with_reducible refine r_part ?_ | with_reducible refine r_exI ?_ | with_reducible refine r_dget ?_ | with_reducible refine r_din ?_ | with_reducible refine r_dnotin ?_ | with_reducible refine r_dput ?_ | with_reducible refine r_isN ?_ | with_reducible refine r_notN ?_ | with_reducible refine r_bm ?_ | with_reducible refine r_bm0 ?_ | with_reducible refine r_retN ?_ | with_reducible refine r_lc ?_ | with_reducible refine r_for ?_ | with_reducible refine r_iStr ?_ | with_reducible refine r_exS ?_ | with_reducible refine r_iList ?_ | with_reducible refine r_iTup ?_ | with_reducible refine r_iRng ?_ | with_reducible refine r_m1 ?_ | with_reducible refine r_strM ?_ | with_reducible refine r_tB ?_ | with_reducible refine r_dc ?_ | with_reducible refine r_iZipS ?_ | with_reducible refine r_lc2 ?_ | with_reducible refine r_iZip ?_ | with_reducible refine r_tCmp ?_ | with_reducible refine r_newT ?_ | with_reducible refine r_newK ?_ | with_reducible refine r_sfld ?_ | with_reducible refine r_fld ?_ | with_reducible refine r_make ?_ | with_reducible refine r_pr ?_ | with_reducible refine r_dt ?_ | with_reducible refine r_iKeys ?_ | with_reducible refine r_dget2 ?_))
local macro_rules | `(tactic| walk_at "nw") => `(tactic| (intro q nq; generalize hH : upd _ q _ = H1; have s1 := same_upd_eq nq hH; have hq := upd_eq hH; clear hH))
section
variable {P : Program} {w : World} {K : PySem.W.Frag} {mg : Str → Option Value} {base : Heap}
def spUnlike : Sp := fun vs H Q _ => ∃ (a : Addr) (B : Box), vs = [.ref a] ∧ BoxAt H a B ∧ B.Ok ∧ ∀ (H' : Hp) (f : Addr) (kvs : List (List Key × V)), Same H H' → H' f = some (.dT kvs) → KeysIn B.tg kvs → Q (.ref f) H'
abbrev nUnlike : List Str := ["_law_box_here", "_law_found", "_law_first", "_law_second", "_law_turn", "_law_ends", "_law_letter", "_law_pair"]
theorem sc_unlike : FnScope nUnlike ["_law_box_here"] (defScope s_law_unlike) := ⟨rfl, rfl, rfl, by decide +kernel, rfl, by decide +kernel, by decide +kernel⟩
theorem strs_at {l : List Str} {i : Nat} {x : V} (h : (l.map V.str)[i]? = some x) : ∃ t, l[i]? = some t ∧ x = .str t := by
  rw [List.getElem?_map] at h
  cases e : l[i]? with
  | none => rw [e] at h; cases h
  | some t =>
    rw [e] at h
    exact ⟨t, rfl, (Option.some.inj h).symm⟩
theorem ok_unlike (T : Txt K mg) : Fn P w K mg base 1 "_law_unlike" ["_law_box_here"] spUnlike := by
  refine T.d_law_unlike.fn sc_unlike (fun _ _ _ _ _ _ us hl => match us, hl with | [_], _ => rfl) (fun vs H Q E h => ?_) (fun cdv Ar outer s H vs Q E hr h => ?_)
  · obtain ⟨a, B, rfl, _⟩ := h
    rfl
  · obtain ⟨a, B, rfl, hB, ok, k⟩ := h
    refine ⟨_, pss_cons (ps_set (i := 1) sc_unlike.nd rfl (.inr rfl) pe_dnewT)
      (pss_cons (ps_for PassesOwn.never rfl (pi_list (pe_ix ix_tup (pv 0) pe_int (fun _ _ => rfl))) (pg_name (i := 2) sc_unlike.nd rfl (.inr rfl))
        (pss_one (ps_for PassesOwn.never rfl (pi_list (pe_ix ix_tup (pv 0) pe_int (fun _ _ => rfl))) (pg_name (i := 3) sc_unlike.nd rfl (.inr rfl))
          (pss_one (ps_if (pt_cmpR op_ne (pe_cmpR op_in_seq (pv 2) (pe_ix ix_tup (pv 0) pe_int (fun _ _ => rfl)) (by rfl)) (pe_cmpR op_in_seq (pv 3) (pe_ix ix_tup (pv 0) pe_int (fun _ _ => rfl)) (by rfl)) (nomark _))
            (pss_one (ps_dput (hu_of hr) (pv 1) (pe_tup (pa_cons (pv 2) (pa_cons (pv 3) pa_nil))) pe_bl rfl)) pss_nil)))))
      (pss_cons (ps_for PassesOwn.never rfl (pi_range1 (by rfl) T.f_range (pa_cons (pe_callB call_len_seq (by rfl) T.f_len PySem.boot_len (pa_cons (pe_ix ix_tup (pv 0) pe_int (fun _ _ => rfl)) pa_nil)) pa_nil)) (pg_name (i := 4) sc_unlike.nd rfl (.inl rfl))
        (pss_one (ps_for PassesOwn.never rfl (pi_list (pe_ix ix_tup (pv 0) pe_int (fun _ _ => rfl))) (pg_name (i := 2) sc_unlike.nd rfl (.inr rfl))
          (pss_one (ps_for PassesOwn.never rfl (pi_list (pe_ix ix_tup (pv 0) pe_int (fun _ _ => rfl))) (pg_name (i := 3) sc_unlike.nd rfl (.inr rfl))
            (pss_cons (ps_setLc (i := 5) (own := [("_law_letter", 6)]) (g := gName 6) (tt := tYes) (te := tTup (tCons (tDGet (tOp (rIxT K) (tVar 0) (tC (.int 3))) (tTup (tCons (tVar 2) (tCons (tVar 6) tNil)))) (tCons (tDGet (tOp (rIxT K) (tVar 0) (tC (.int 3))) (tTup (tCons (tVar 3) (tCons (tVar 6) tNil)))) tNil))) rfl sc_unlike.nd rfl rfl (sw_true rfl rfl rfl (by decide +kernel)) (pi_str (pe_ix ix_tup (pv 0) pe_int (fun _ _ => rfl))) (blkOk_by (N := nUnlike) (sc := defScope s_law_unlike) (by decide +kernel))
                (fun _ _ _ _ _ => pg_name (i := 6) sc_unlike.nd rfl (Or.inl rfl)) (fun _ _ _ _ _ => pts_nil)
                (fun _ _ _ _ _ => pe_tup (pa_cons (pe_dget (hu_of hr) (pe_ix ix_tup (pv 0) pe_int (fun _ _ => rfl)) (pe_tup (pa_cons (pv 2) (pa_cons (pv 6) pa_nil))) (fun _ _ => rfl)) (pa_cons (pe_dget (hu_of hr) (pe_ix ix_tup (pv 0) pe_int (fun _ _ => rfl)) (pe_tup (pa_cons (pv 3) (pa_cons (pv 6) pa_nil))) (fun _ _ => rfl)) pa_nil))))
            (pss_one (ps_if (pt_cmpR (op_neD hr.units) (pe_lc (own := [("_law_pair", 7)]) (g := gName 7) (tt := tDIn (tVar 7) (tVar 1) |> tB) rfl sc_unlike.nd (pi_list (pv 5)) (blkOk_by (N := nUnlike) (sc := defScope s_law_unlike) (by decide +kernel))
                (fun _ _ _ _ _ => pg_name (i := 7) sc_unlike.nd rfl (Or.inl rfl)) (fun _ _ _ _ _ => pts_one (pt_cmp (pc_din (hu_of hr) (pv 7) (pv 1)) (by rfl))) (fun _ _ _ _ _ => pv 7)) (pe_lst pa_nil) (nomark _))
              (pss_one (ps_dput (hu_of hr) (pv 1) (pe_tup (pa_cons (pv 2) (pa_cons (pv 3) pa_nil))) pe_bl rfl)) pss_nil))))))))
      (pss_one (ps_ret (pv 1))))), ?_⟩
    obtain ⟨l1, l2, d, kvg, ha, h1, h2, hd, gk⟩ := hB
    have t5 := ok.t5
    have s3 := ok.s3
    walk_at "rd"
    walk_at "nw"
    rename_i fo nfo H1 e1 hfo
    walk_at "rd"
    refine r_ixT (v := .ref l1) (SqT.of (e1 _ _ ha)) (atI_nat (j := 1) rfl) ?_
    refine ⟨l1, rfl, ⟨_, SqL.of (e1 _ _ h1)⟩, ?_⟩
    refine for_it (walk_list (K := K) (a := l1) (xs := B.tg.map V.str)) (fun i σ' H' => ∃ v2 v3 v4 v5 v6 v7 kvs, σ' = [some (.ref a), some (.ref fo), v2, v3, v4, v5, v6, v7] ∧ Same H H' ∧ H' fo = some (.dT kvs) ∧ KeysIn B.tg kvs)
      ⟨none, none, none, none, none, none, [], rfl, e1, hfo, KeysIn.nil⟩ (fun i σ' H' _ q => ?_) ?_ ?_
    · obtain ⟨_, _, _, _, _, _, _, _, e, _⟩ := q
      exact SqL.of (e _ _ h1)
    · rintro i x0 σ' H' H'' hi ⟨v2, v3, v4, v5, v6, v7, kvs, rfl, e2, hf, ki⟩ ⟨rfl, hy⟩
      obtain ⟨x, hx, rfl⟩ := strs_at hy
      have hxt := List.mem_of_getElem? hx
      walk_at "rd"
      refine r_ixT (v := .ref l1) (SqT.of (e2 _ _ ha)) (atI_nat (j := 1) rfl) ?_
      refine ⟨l1, rfl, ⟨_, SqL.of (e2 _ _ h1)⟩, ?_⟩
      refine for_it (walk_list (K := K) (a := l1) (xs := B.tg.map V.str)) (fun i σ' H' => ∃ v3 v4 v5 v6 v7 kvs, σ' = [some (.ref a), some (.ref fo), some (.str x), v3, v4, v5, v6, v7] ∧ Same H H' ∧ H' fo = some (.dT kvs) ∧ KeysIn B.tg kvs)
        ⟨v3, v4, v5, v6, v7, kvs, rfl, e2, hf, ki⟩ (fun i σ' H' _ q => ?_) ?_ ?_
      · obtain ⟨_, _, _, _, _, _, _, e, _⟩ := q
        exact SqL.of (e _ _ h1)
      · rintro j y0 σ' H' H'' hj ⟨v3, v4, v5, v6, v7, kvs, rfl, e3, hf, ki⟩ ⟨rfl, hy⟩
        obtain ⟨y, hy2, rfl⟩ := strs_at hy
        have hyt := List.mem_of_getElem? hy2
        walk_at "rd"
        refine r_ixT (v := .ref l2) (SqT.of (e3 _ _ ha)) (atI_nat (j := 2) rfl) ?_
        refine r_inL (.inl (SqL.of (e3 _ _ h2))) ?_
        walk_at "rd"
        refine r_ixT (v := .ref l2) (SqT.of (e3 _ _ ha)) (atI_nat (j := 2) rfl) ?_
        refine r_inL (.inl (SqL.of (e3 _ _ h2))) ?_
        walk_at "rd"
        refine ite2 (fun _ => ?_) (fun _ => ?_)
        · walk_at "rd"
          refine ⟨by show 2 ≤ sizeLine; decide, ?_⟩
          walk_at "nw"
          rename_i q nq H4 e4 hq
          have := ki.len t5
          refine ⟨fo, _, rfl, DPut.t (k := pk (x, y)) (e4 _ _ hf) hq (small1000 (by omega)), ?_⟩
          exact ⟨_, _, _, _, _, _, rfl, same_upd_new (e3.trans e4) nfo, upd_same, ki.put hxt hyt⟩
        · walk_at "rd"
          exact ⟨_, _, _, _, _, kvs, rfl, e3, hf, ki⟩
      · rintro σ' H' ⟨v3, v4, v5, v6, v7, kvs, rfl, e3, hf, ki⟩
        exact ⟨_, _, _, _, _, _, kvs, rfl, e3, hf, ki⟩
    · rintro σ' H' ⟨v2, v3, v4, v5, v6, v7, kvs, rfl, e2, hf, ki⟩
      walk_at "rd"
      refine r_ixT (v := .ref l1) (SqT.of (e2 _ _ ha)) (atI_nat (j := 1) rfl) ?_
      walk_at "rd"
      refine ⟨l1, _, rfl, .inl (SqL.of (e2 _ _ h1)), ?_⟩
      rw [List.length_map]
      walk_at "rd"
      refine ⟨((B.tg.length : Nat) : Int), rfl, by omega, by omega, ?_⟩
      rw [Int.toNat_natCast]
      refine for_it (walk_range (lo := 0) (n := B.tg.length)) (fun i σ' H' => ∃ v2 v3 v4 v5 v6 v7 kvs, σ' = [some (.ref a), some (.ref fo), v2, v3, v4, v5, v6, v7] ∧ Same H H' ∧ H' fo = some (.dT kvs) ∧ KeysIn B.tg kvs)
        ⟨v2, v3, v4, v5, v6, v7, kvs, rfl, e2, hf, ki⟩ (fun i σ' H' _ q => trivial) ?_ ?_
      · rintro u x0 σ' H' H'' hi ⟨v2, v3, v4, v5, v6, v7, kvs, rfl, e2, hf, ki⟩ ⟨rfl, rfl⟩
        walk_at "rd"
        refine r_ixT (v := .ref l1) (SqT.of (e2 _ _ ha)) (atI_nat (j := 1) rfl) ?_
        refine ⟨l1, rfl, ⟨_, SqL.of (e2 _ _ h1)⟩, ?_⟩
        refine for_it (walk_list (K := K) (a := l1) (xs := B.tg.map V.str)) (fun i σ' H' => ∃ v2 v3 v4 v5 v6 v7 kvs, σ' = [some (.ref a), some (.ref fo), v2, v3, v4, v5, v6, v7] ∧ Same H H' ∧ H' fo = some (.dT kvs) ∧ KeysIn B.tg kvs)
          ⟨_, _, _, _, _, _, kvs, rfl, e2, hf, ki⟩ (fun i σ' H' _ q => ?_) ?_ ?_
        · obtain ⟨_, _, _, _, _, _, _, _, e, _⟩ := q
          exact SqL.of (e _ _ h1)
        · rintro i x0 σ' H' H'' hi ⟨v2, v3, v4, v5, v6, v7, kvs, rfl, e2, hf, ki⟩ ⟨rfl, hy⟩
          obtain ⟨x, hx, rfl⟩ := strs_at hy
          have hxt := List.mem_of_getElem? hx
          walk_at "rd"
          refine r_ixT (v := .ref l1) (SqT.of (e2 _ _ ha)) (atI_nat (j := 1) rfl) ?_
          refine ⟨l1, rfl, ⟨_, SqL.of (e2 _ _ h1)⟩, ?_⟩
          refine for_it (walk_list (K := K) (a := l1) (xs := B.tg.map V.str)) (fun i σ' H' => ∃ v3 v4 v5 v6 v7 kvs, σ' = [some (.ref a), some (.ref fo), some (.str x), v3, v4, v5, v6, v7] ∧ Same H H' ∧ H' fo = some (.dT kvs) ∧ KeysIn B.tg kvs)
            ⟨v3, v4, v5, v6, v7, kvs, rfl, e2, hf, ki⟩ (fun i σ' H' _ q => ?_) ?_ ?_
          · obtain ⟨_, _, _, _, _, _, _, e, _⟩ := q
            exact SqL.of (e _ _ h1)
          · rintro j y0 σ' H' H'' hj ⟨v3, v4, v5, v6, v7, kvs, rfl, e3, hf, ki⟩ ⟨rfl, hy⟩
            obtain ⟨y, hy2, rfl⟩ := strs_at hy
            have hyt := List.mem_of_getElem? hy2
            walk_at "rd"
            refine r_ixT (v := .str (tx B.sg)) (SqT.of (e3 _ _ ha)) (atI_nat (j := 0) rfl) ?_
            walk_at "rd"
            refine lc_prs (l := B.sg) (f := fun c => (B.gl x c, B.gl y c)) (by omega) (fun y => rfl) (fun c H4 hc s4 Q q => ?_) (fun D H4 ys nD e4 hD hP => ?_)
            · have s14 := e3.trans s4
              walk_at "rd"
              refine r_ixT (v := .ref d) (SqT.of (s14 _ _ ha)) (atI_nat (j := 3) rfl) ?_
              walk_at "rd"
              refine ⟨by show 2 ≤ sizeLine; decide, ?_⟩
              walk_at "nw"
              rename_i q5 nq5 H5 e5 hq5
              have g := DGet.t (k := gkey x c) (e5 _ _ (s14 _ _ hd)) hq5
              rw [gk x hxt c hc] at g
              refine ⟨d, _, rfl, g, ?_⟩
              walk_at "rd"
              have s15 := s14.trans e5
              refine r_ixT (v := .ref d) (SqT.of (s15 _ _ ha)) (atI_nat (j := 3) rfl) ?_
              walk_at "rd"
              refine ⟨by show 2 ≤ sizeLine; decide, ?_⟩
              walk_at "nw"
              rename_i q6 nq6 H6 e6 hq6
              have g := DGet.t (k := gkey y c) (e6 _ _ (s15 _ _ hd)) hq6
              rw [gk y hyt c hc] at g
              refine ⟨d, _, rfl, g, ?_⟩
              walk_at "rd"
              refine ⟨by show 2 ≤ sizeLine; decide, ?_⟩
              walk_at "nw"
              rename_i q7 nq7 H7 e7 hq7
              exact q q7 H7 ((e5.trans e6).trans e7) hq7
            walk_at "rd"
            refine ⟨D, rfl, ⟨_, SqL.of hD⟩, ?_⟩
            have hlen := Paired.length hP
            rw [List.length_map] at hlen
            refine lc_pfilt (fun p => (valV kvs (pk p)).isSome) (SqL.of hD) hP (by omega) (fun y => rfl) (fun y => rfl) (fun b p H5 hp s5 hb Q q => ?_) (fun D2 H5 zs nD2 e5 hD2 hZ hzl => ?_)
            · walk_at "rd"
              refine ⟨fo, _, rfl, DGet.t (k := pk p) (s5 _ _ (e4 _ _ hf)) hb, ?_⟩
              walk_at "rd"
              exact q _ (Same.refl _)
            walk_at "rd"
            refine ⟨by show 0 ≤ sizeLine; decide, ?_⟩
            walk_at "nw"
            rename_i q6 nq6 H6 e6 hq6
            refine ⟨_, _, .lst (SqL.of (e6 _ _ hD2)) (dp_pairs (hZ.same e6)), .lst (SqL.of hq6) .nil, shaped_pds (fun p hp => ?_), by decide +kernel, ?_⟩
            · obtain ⟨c, hc, rfl⟩ := List.mem_map.mp (List.mem_filter.mp hp).1
              exact ⟨sok_wd (ok.wd _ (ok.cl x hxt c hc)), sok_wd (ok.wd _ (ok.cl y hyt c hc))⟩
            have e36 := ((e3.trans e4).trans e5).trans e6
            have hf6 := e6 _ _ (e5 _ _ (e4 _ _ hf))
            walk_at "rd"
            refine ite2 (fun _ => ?_) (fun _ => ?_)
            · walk_at "rd"
              refine ⟨by show 2 ≤ sizeLine; decide, ?_⟩
              walk_at "nw"
              rename_i q7 nq7 H7 e7 hq7
              have := ki.len t5
              refine ⟨fo, _, rfl, DPut.t (k := pk (x, y)) (e7 _ _ hf6) hq7 (small1000 (by omega)), ?_⟩
              exact ⟨_, _, _, _, _, _, rfl, same_upd_new (e36.trans e7) nfo, upd_same, ki.put hxt hyt⟩
            · walk_at "rd"
              exact ⟨_, _, _, _, _, kvs, rfl, e36, hf6, ki⟩
          · rintro σ' H' ⟨v3, v4, v5, v6, v7, kvs, rfl, e3, hf, ki⟩
            exact ⟨_, _, _, _, _, _, kvs, rfl, e3, hf, ki⟩
        · rintro σ' H' ⟨v2, v3, v4, v5, v6, v7, kvs, rfl, e2, hf, ki⟩
          exact ⟨_, _, _, _, _, _, kvs, rfl, e2, hf, ki⟩
      · rintro σ' H' ⟨v2, v3, v4, v5, v6, v7, kvs, rfl, e2, hf, ki⟩
        walk_at "rd"
        exact k _ fo kvs e2 hf ki
end
end K73

set_option Elab.async false
set_option linter.all false
set_option maxRecDepth 100000
set_option maxHeartbeats 4000000
namespace K73
open PySem PySem.Spec PyProof.Rows L2
/-! ### dict(a list of pairs whose keys are tuples) -/
abbrev En := Addr × Addr × List Key × V
def mergeT (kvs : List (List Key × V)) (ps : List En) : List (List Key × V) := ps.foldl (fun acc e => putK acc e.2.2.1 e.2.2.2) kvs
theorem mergeT_len : ∀ (ps : List En) (kvs : List (List Key × V)), (mergeT kvs ps).length ≤ kvs.length + ps.length
  | [], kvs => Nat.le_refl _
  | e :: ps, kvs => by
    have h1 := length_putK kvs e.2.2.1 e.2.2.2
    have h2 := mergeT_len ps (putK kvs e.2.2.1 e.2.2.2)
    show (mergeT (putK kvs e.2.2.1 e.2.2.2) ps).length ≤ _
    rw [List.length_cons]
    omega
theorem mergeT_kt {H : Hp} {s : Heap} : ∀ {ps : List En} {L : List (List Key × Addr × Value)} {kvs : List (List Key × V)} {xs : List (List Key × Addr × Value)}, Paired (fun (e : En) (x : List Key × Addr × Value) => x.1 = e.2.2.1 ∧ x.2.1 = e.2.1 ∧ RelV e.2.2.2 x.2.2 ∧ IsTup s e.1 #[.ref x.2.1, x.2.2]) ps L →
    (∀ e ∈ ps, H e.2.1 = some (.tup (e.2.2.1.map kV))) → KT H kvs xs → KT H (mergeT kvs ps) (storedAllH xs L)
  | _, _, _, _, .nil, _, k => k
  | _, _, kvs, xs, .cons (a := e) (b := x) r t, h, k => by
    obtain ⟨h1, h2, h3, _⟩ := r
    show KT H (mergeT (putK kvs e.2.2.1 e.2.2.2) _) (storedAllH (storedH xs x.1 x.2.1 x.2.2) _)
    refine mergeT_kt t (fun e' he' => h e' (List.mem_cons_of_mem _ he')) ?_
    rw [h1, h2]
    exact k.put e.2.2.1 (h e (List.mem_cons_self ..)) h3
section
variable {X : Cx}
theorem ens_of {pins : List (Addr × Obj)} {σ : L2.St} {H : Hp} {s : Shared} (I : Inv X pins σ H s) : ∀ es : List En, (∀ e ∈ es, H e.1 = some (.tup [.ref e.2.1, e.2.2.2])) →
    ∃ L : List (List Key × Addr × Value), Paired (fun (e : En) (x : List Key × Addr × Value) => x.1 = e.2.2.1 ∧ x.2.1 = e.2.1 ∧ RelV e.2.2.2 x.2.2 ∧ IsTup s.heap e.1 #[.ref x.2.1, x.2.2]) es L
  | [], _ => ⟨[], .nil⟩
  | e :: es, h => by
    obtain ⟨L, hL⟩ := ens_of I es fun e' he' => h e' (List.mem_cons_of_mem _ he')
    obtain ⟨_, its, rv, ht⟩ := (show ObjOk X.prog X.w H s.heap e.1 (.tup [.ref e.2.1, e.2.2.2]) from I.hok _ _ (h e (List.mem_cons_self ..)))
    obtain ⟨u, y, ei, ru, ry⟩ := vals2 rv
    subst ei
    cases (show u = Value.ref e.2.1 from ru)
    exact ⟨(e.2.2.1, e.2.1, y) :: L, .cons ⟨rfl, rfl, ry, ht⟩ hL⟩
theorem call_dictTP (hc : X.calm = true) (hu : X.A.units + 2 < cLine) : CallR X (.type "dict") (fun xs H Q => ∃ (a : Addr) (es : List En), xs = [.ref a] ∧ H a = some (.lst (es.map fun e => V.ref e.1)) ∧
    (∀ e ∈ es, H e.1 = some (.tup [.ref e.2.1, e.2.2.2]) ∧ H e.2.1 = some (.tup (e.2.2.1.map kV))) ∧ ∀ p, H p = none → Q (.ref p) (upd H p (.dT (mergeT [] es)))) := by
  intro pins s σ H xs us Q I r q
  obtain ⟨a, es, rfl, ha, he, q⟩ := q
  obtain ⟨u, rfl, rx⟩ := r.one
  cases rx
  obtain ⟨z, its, nn, rv, lz, e0⟩ := I.lstM ha
  have ei := refs_at (ps := es.map (·.1)) (us := its) (by rw [List.map_map]; exact rv)
  subst ei
  obtain ⟨L, hL⟩ := ens_of I es fun e h => (he e h).1
  have lL := Paired.length hL
  have hget : ∀ j (x : List Key × Addr × Value), L[j]? = some x → ∃ e, es[j]? = some e ∧ e ∈ es ∧ x.1 = e.2.2.1 ∧ x.2.1 = e.2.1 ∧ IsTup s.heap e.1 #[.ref x.2.1, x.2.2] := fun j x hx => by
    obtain ⟨e, h1, h2, h3, _, h5⟩ := paired_get hL hx
    exact ⟨e, h1, List.mem_of_getElem? h1, h2, h3, h5⟩
  have P := PairArg.list (prog := X.prog) (w := X.w) a ((es.map (·.1)).map Value.ref).toArray (fun j => (es.map (·.1)).getD j 0) (L.map fun x => (Value.ref x.2.1, x.2.2))
  refine call_dict_pairsH (knd := tupleKind (mixKind X.prog X.w)) (ps := L) P (I.ok.hd hc) hu ⟨⟨_, _, e0, rfl, rfl, rfl⟩, ?_, fun j k v hj => ?_⟩ ⟨by rw [List.length_map], fun i key v hi => ?_⟩ (fun h' hk x hx => ?_) ?_ fun h' tk hd' hk => ?_
  · simp [lL]
  · rw [List.getElem?_map] at hj
    cases hx : L[j]? with
    | none => rw [hx] at hj; cases hj
    | some x =>
    rw [hx] at hj
    have ex := Option.some.inj hj
    cases ex
    obtain ⟨e, h1, h2, h3, h4, h5⟩ := hget j x hx
    have eg : (es.map (·.1)).getD j 0 = e.1 := by rw [List.getD_eq_getElem?_getD, List.getElem?_map, h1]; rfl
    refine ⟨?_, ?_⟩
    · show ((es.map (·.1)).map Value.ref).toArray[j]? = some (.ref ((es.map (·.1)).getD j 0))
      rw [eg]
      simp [h1]
    · show PairAt s.heap ((es.map (·.1)).getD j 0) _ _
      rw [eg]
      exact .inl h5
  · have hi : (L.map fun x => (Value.ref x.2.1, x.2.2))[i]? = some (key, v) := hi
    rw [List.getElem?_map] at hi
    cases hx : L[i]? with
    | none => rw [hx] at hi; cases hi
    | some x =>
    rw [hx] at hi
    cases Option.some.inj hi
    exact ⟨x.1, x.2.1, rfl, rfl⟩
  · obtain ⟨j, hj, ej⟩ := List.mem_iff_getElem.mp hx
    obtain ⟨e, h1, h2, h3, h4, h5⟩ := hget j x (by rw [List.getElem?_eq_getElem hj, ej])
    have k0 : (tupleKind (mixKind X.prog X.w)).is s.heap x.1 x.2.1 := by
      rw [h3, h4]
      exact key_of I.hok (he e h2).2
    exact tupleKind_stays.stays (fun b o vs n eb _ => hk b o (Nat.ne_of_lt (Heap.lt_size eb)) (fun z => nomatch z) eb) k0
  · rw [List.length_map, ← lL]
    rw [List.length_map] at z
    exact z
  · obtain ⟨o, es', ep, g1, g2, g3, g4, g5, g6⟩ := hd'
    have hm : (s.heap.objs.size == sysModules) = false := beq_eq_false_iff_ne.mpr (Nat.ne_of_gt I.big)
    have hz : (mergeT [] es).length ≤ sizeLine := by
      have := mergeT_len es []
      rw [List.length_map] at z
      rw [List.length_nil] at this
      omega
    refine ⟨.ref s.heap.objs.size, _, I.laid (t' := tk) (o := .dT (mergeT [] es)) (fun b o e => hk b o (fun z => nomatch z) e) (Nat.le_refl _) ⟨hz, hm, storedAllH [] L, ?_, o, es', ep, g1, g2, g3, g4, g6⟩, rfl, q _ (I.hok.fresh (Nat.le_refl _))⟩
    refine (mergeT_kt hL (fun e h => (he e h).2) .nil).keeps fun b ys hb => ?_
    rw [upd_ne (ne_of_none hb I.fresh)]
    exact hb
end
end K73

set_option Elab.async false
set_option linter.all false
set_option maxRecDepth 100000
set_option maxHeartbeats 4000000
namespace K73
open PySem PySem.Spec PyProof.Rows L2
local macro_rules | `(tactic| walk_at "rd") => `(tactic| repeat (first | with_reducible refine r_seq ?_ | with_reducible refine r_asg ?_ | with_reducible refine r_ret ?_ | with_reducible refine r_op ?_ | with_reducible refine r_var (by with_unfolding_all rfl) ?_ | with_reducible refine r_c ?_ | with_reducible refine r_cons ?_ | with_reducible refine r_nil ?_ | with_reducible refine r_gname ?_ | with_reducible refine r_ifS ?_ | with_reducible refine r_test ?_ | with_reducible refine r_bl ?_ | with_reducible refine r_I0 ?_ | with_reducible refine r_cb ?_ | with_reducible refine r_cl ?_ | with_reducible refine r_tup ?_ | with_reducible refine r_lst ?_ | with_reducible refine r_gsub ?_ | with_reducible refine r_gcons ?_ | with_reducible refine r_gnil ?_ | with_reducible refine r_drop ?_ | with_reducible refine r_next ?_ | with_reducible refine r_par ?_ | with_reducible refine r_par2 ?_ | with_reducible refine r_and ?_ | with_reducible refine r_or ?_ | with_reducible refine r_not ?_ | with_reducible refine r_yes ?_ | with_reducible refine r_andV ?_ | with_reducible refine r_orV ?_ | with_reducible refine r_notV ?_ | with_reducible refine r_if ?_ | with_reducible refine r_chain ?_ | with_reducible refine r_U ?_ | with_reducible refine r_un ?_ | with_reducible refine r_eq (by with_unfolding_all rfl) ?_ | with_reducible refine r_ne (by with_unfolding_all rfl) ?_ | with_reducible refine r_int ?_ | with_reducible refine r_sl ?_ | with_reducible refine r_nopart ?_ | with_reducible refine r_part ?_ | with_reducible refine r_exI ?_ | with_reducible refine r_dget ?_ | with_reducible refine r_din ?_ | with_reducible refine r_dnotin ?_ | with_reducible refine r_dput ?_ | with_reducible refine r_isN ?_ | with_reducible refine r_notN ?_ | with_reducible refine r_bm ?_ | with_reducible refine r_bm0 ?_ | with_reducible refine r_retN ?_ | with_reducible refine r_lc ?_ | with_reducible refine r_for ?_ | with_reducible refine r_iStr ?_ | with_reducible refine r_exS ?_ | with_reducible refine r_iList ?_ | with_reducible refine r_iTup ?_ | with_reducible refine r_iRng ?_ | with_reducible refine r_m1 ?_ | with_reducible refine r_strM ?_ | with_reducible refine r_tB ?_ | with_reducible refine r_dc ?_ | with_reducible refine r_iZipS ?_ | with_reducible refine r_lc2 ?_ | with_reducible refine r_iZip ?_ | with_reducible refine r_tCmp ?_ | with_reducible refine r_newT ?_ | with_reducible refine r_newK ?_ | with_reducible refine r_sfld ?_ | with_reducible refine r_fld ?_ | with_reducible refine r_make ?_ | with_reducible refine r_pr ?_ | with_reducible refine r_dt ?_ | with_reducible refine r_iKeys ?_ | with_reducible refine r_dget2 ?_))
local macro_rules | `(tactic| walk_at "nw") => `(tactic| (intro q nq; generalize hH : upd _ q _ = H1; have s1 := same_upd_eq nq hH; have hq := upd_eq hH; clear hH))
def InTg (tg : List Str) (ps : List (Str × Str)) : Prop := ∀ p ∈ ps, p.1 ∈ tg ∧ p.2 ∈ tg
def IntsIn (kvs : List (List Key × V)) : Prop := ∀ p v, valV kvs (pk p) = some v → ∃ n : Int, v = .int n
theorem IntsIn.nil : IntsIn [] := fun p v h => by cases h
theorem IntsIn.put {kvs : List (List Key × V)} {p : Str × Str} {n : Int} (h : IntsIn kvs) : IntsIn (putK kvs (pk p) (.int n)) := fun q v e => by
  rw [valV_put] at e
  by_cases ek : pk q = pk p
  · rw [if_pos ek] at e
    exact ⟨n, (Option.some.inj e).symm⟩
  · rw [if_neg ek] at e
    exact h q v e
theorem pairs_of_keys {tg : List Str} {H : Hp} : ∀ {kvs : List (List Key × V)} {bs : List Addr}, IsKeys H kvs bs → (∀ k ∈ kvs.map (·.1), k ∈ (allP tg).map pk) → ∃ ps, PairsAt H (bs.map V.ref) ps ∧ InTg tg ps ∧ kvs.map (·.1) = ps.map pk
  | _, _, .nil, _ => ⟨[], .nil, (fun _ h => nomatch h), rfl⟩
  | _, _, .cons (a := kv) (b := b) r t, h => by
    obtain ⟨ps, h1, h2, h3⟩ := pairs_of_keys t fun k hk => h k (List.mem_cons_of_mem _ hk)
    obtain ⟨p, hp, e⟩ := List.mem_map.mp (h kv.1 (List.mem_cons_self ..))
    refine ⟨p :: ps, .cons ⟨b, rfl, ?_⟩ h1, fun q hq => ?_, ?_⟩
    · rw [← e] at r
      exact r
    · rcases List.mem_cons.mp hq with rfl | hq
      · exact of_allP hp
      · exact h2 q hq
    · rw [List.map_cons, List.map_cons, h3, e]
section
variable {K : PySem.W.Frag} {σ : L2.St} {H1 : Hp} {vs : List Nat} {j : Nat} {te : TE} {tt : TT} {Qd : V → Hp → Prop}
/-- over pairs: what is made of each, nothing but new -/
theorem lc_pmap {a : Addr} {ys : List V} {ps : List (Str × Str)} (v : Str × Str → V) (hx : SqL K H1 a ys) (hP : PairsAt H1 ys ps) (hn : ys.length ≤ 1000) (hw : ∀ y : Option V, wipe ((wipe σ vs).set j y) vs = wipe σ vs)
    (he : ∀ b p H', p ∈ ps → Same H1 H' → H' b = some (.tup [.str p.1, .str p.2]) → ∀ Q : VK, (∀ H3, Same H' H3 → Q (v p) H3) → te ((wipe σ vs).set j (some (.ref b))) H' Q)
    (hd : ∀ D H', H1 D = none → Same H1 H' → H' D = some (.lst (ps.map v)) → Qd (.ref D) H') : LcGoal (Itl K a) (gName j) tYes te vs σ H1 Qd := by
  intro D nD
  have hl := Paired.length hP
  refine lc_it (Qd := fun H => Qd (.ref D) H) (walk_list (K := K) (a := a) (xs := ys)) (fun i H' => Same H1 H' ∧ H' D = some (.lst ((ps.take i).map v))) ⟨same_upd nD, upd_same⟩ (fun i H' _ q => q.1.seq hx) (fun i x H' H'' hi q y => ?_) (fun H' q => ?_)
  · obtain ⟨rfl, hy⟩ := y
    obtain ⟨s, hD⟩ := q
    have hi2 : i < ps.length := by omega
    have hp : ps[i]? = some ps[i] := List.getElem?_eq_getElem hi2
    generalize ps[i] = p at hp
    obtain ⟨x', hx', b, rfl, hb⟩ := paired_get hP hp
    have ex := Option.some.inj (hy.symm.trans hx')
    subst ex
    refine ⟨hw _, r_yes (iteT ?_)⟩
    refine he b p _ (List.mem_of_getElem? hp) s (s _ _ hb) _ fun H3 s3 => ⟨_, s3 _ _ hD, ?_, same_upd_new (s.trans s3) nD, ?_⟩
    · rw [List.length_map, List.length_take]
      exact small1000 (by omega)
    · rw [take_more hp, List.map_append]
      exact upd_same
  · obtain ⟨s, hD⟩ := q
    rw [hl, List.take_length] at hD
    exact hd D H' nD s hD
/-- .. a new tuple (pair, True) of each -/
theorem lc_pens {a : Addr} {ys : List V} {ps : List (Str × Str)} (hx : SqL K H1 a ys) (hP : PairsAt H1 ys ps) (hn : ys.length ≤ 1000) (hw : ∀ y : Option V, wipe ((wipe σ vs).set j y) vs = wipe σ vs) (hj : ∀ y, ((wipe σ vs).set j (some y))[j]? = some (some y))
    (hd : ∀ (D : Addr) (H' : Hp) (es : List En), H1 D = none → Same H1 H' → H' D = some (.lst (es.map fun e => V.ref e.1)) → (∀ e ∈ es, H' e.1 = some (.tup [.ref e.2.1, e.2.2.2]) ∧ H' e.2.1 = some (.tup (e.2.2.1.map kV))) → Qd (.ref D) H') :
    LcGoal (Itl K a) (gName j) tYes (tTup (tCons (tVar j) (tCons (tC (.bl true)) tNil))) vs σ H1 Qd := by
  intro D nD
  have hl := Paired.length hP
  refine lc_it (Qd := fun H => Qd (.ref D) H) (walk_list (K := K) (a := a) (xs := ys)) (fun i H' => Same H1 H' ∧ ∃ es : List En, H' D = some (.lst (es.map fun e => V.ref e.1)) ∧ es.length ≤ i ∧ ∀ e ∈ es, H' e.1 = some (.tup [.ref e.2.1, e.2.2.2]) ∧ H' e.2.1 = some (.tup (e.2.2.1.map kV))) ⟨same_upd nD, [], upd_same, Nat.le_refl _, fun e h => nomatch h⟩ (fun i H' _ q => q.1.seq hx) (fun i x H' H'' hi q y => ?_) (fun H' q => ?_)
  · obtain ⟨rfl, hy⟩ := y
    obtain ⟨s, es, hD, hle, he⟩ := q
    have hi2 : i < ps.length := by omega
    have hp : ps[i]? = some ps[i] := List.getElem?_eq_getElem hi2
    generalize ps[i] = p at hp
    obtain ⟨x', hx', b, rfl, hb⟩ := paired_get hP hp
    have ex := Option.some.inj (hy.symm.trans hx')
    subst ex
    refine ⟨hw _, r_yes (iteT ?_)⟩
    refine r_tup (r_cons (r_var (hj _) (r_cons (r_c (r_nil ⟨by show 2 ≤ sizeLine; decide, fun q nq => ?_⟩)))))
    have sq := same_upd (o := .tup [V.ref b, V.bl true]) nq
    have nqD : q ≠ D := fun z => by rw [z, hD] at nq; cases nq
    refine ⟨_, sq _ _ hD, ?_, same_upd_new (s.trans sq) nD, es ++ [(q, b, pk p, .bl true)], ?_, ?_, fun e hme => ?_⟩
    · rw [List.length_map]
      exact small1000 (by omega)
    · rw [List.map_append]
      exact upd_same
    · rw [List.length_append, List.length_singleton]
      omega
    · have keep : ∀ c xs, upd H'' q (.tup [V.ref b, V.bl true]) c = some (.tup xs) → upd (upd H'' q (.tup [V.ref b, V.bl true])) D (.lst (es.map (fun e => V.ref e.1) ++ [V.ref q])) c = some (.tup xs) := fun c xs h => by
        rw [upd_ne (ne_of h (sq _ _ hD) (by intro z; cases z))]
        exact h
      rcases List.mem_append.mp hme with h | h
      · obtain ⟨h1, h2⟩ := he e h
        exact ⟨keep _ _ (sq _ _ h1), keep _ _ (sq _ _ h2)⟩
      · rw [List.mem_singleton.mp h]
        exact ⟨keep _ _ upd_same, keep _ _ (sq _ _ (s _ _ hb))⟩
  · obtain ⟨s, es, hD, hle, he⟩ := q
    exact hd D H' es nD s hD he
end
section
variable {P : Program} {w : World} {K : PySem.W.Frag} {mg : Str → Option Value} {base : Heap}
def spHts : Sp := fun vs H Q _ => ∃ (a un so : Addr) (B : Box) (ku : List (List Key × V)) (ss : List Str), vs = [.ref a, .ref un, .ref so] ∧ BoxAt H a B ∧ B.Ok ∧ H un = some (.dT ku) ∧ KeysIn B.tg ku ∧ H so = some (.lst (ss.map V.str)) ∧
  ∀ (H' : Hp) (f : Addr) (kvs : List (List Key × V)), Same H H' → H' f = some (.dT kvs) → KeysIn B.tg kvs → IntsIn kvs → Q (.ref f) H'
abbrev nHts : List Str := ["_law_box_here", "_law_unlike_here", "_law_some", "_law_pair", "_law_left", "_law_found", "_law_inside", "_law_turn", "_law_later", "_law_goals", "_law_letter", "_law_aim_here"]
theorem sc_hts : FnScope nHts ["_law_box_here", "_law_unlike_here", "_law_some"] (defScope s_law_heights) := ⟨rfl, rfl, rfl, by decide +kernel, rfl, by decide +kernel, by decide +kernel⟩
theorem hu2 {k : Nat} {A : Around} (hr : Room k A) : A.units + 2 < cLine := by
  have := hr.units
  omega
theorem ok_hts (T : Txt K mg) : Fn P w K mg base 1 "_law_heights" ["_law_box_here", "_law_unlike_here", "_law_some"] spHts := by
  refine T.d_law_heights.fn sc_hts (fun _ _ _ _ _ _ us hl => match us, hl with | [_, _, _], _ => rfl) (fun vs H Q E h => ?_) (fun cdv Ar outer s H vs Q E hr h => ?_)
  · obtain ⟨a, un, so, B, ku, ss, rfl, _⟩ := h
    rfl
  · obtain ⟨a, un, so, B, ku, ss, rfl, hB, ok, hun, kin, hso, k⟩ := h
    refine ⟨_, pss_cons (ps_asg (pe_tup (pa_cons (pe_lc (own := [("_law_pair", 3)]) (g := gName 3) (tt := tAnd (tTest (tOp (rIn K false) (tOp (rIxT K) (tVar 3) (tC (.int 0))) (tVar 2))) (tTest (tOp (rIn K false) (tOp (rIxT K) (tVar 3) (tC (.int 1))) (tVar 2)))) rfl sc_hts.nd (pi_list (pe_callTy (call_list_dT rfl) (by rfl) T.f_list (by decide +kernel) (pa_cons (pv 1) pa_nil))) (blkOk_by (N := nHts) (sc := defScope s_law_heights) (by decide +kernel))
          (fun _ _ _ _ _ => pg_name (i := 3) sc_hts.nd rfl (Or.inl rfl)) (fun _ _ _ _ _ => pts_one (PW.pt (pw_and (pt_cmpR op_in_seq (pe_ix ix_tup (pv 3) pe_int (fun _ _ => rfl)) (pv 2) (by rfl)) (pw_and1 (pt_cmpR op_in_seq (pe_ix ix_tup (pv 3) pe_int (fun _ _ => rfl)) (pv 2) (by rfl)))))) (fun _ _ _ _ _ => pv 3))
          (pa_cons pe_dnewT pa_nil))) (pg_tup rfl (pgs_cons (pg_name (i := 4) sc_hts.nd rfl (.inl rfl)) (pgs_cons (pg_name (i := 5) sc_hts.nd rfl (.inr rfl)) pgs_nil))))
      (pss_cons (ps_set (i := 6) sc_hts.nd rfl (.inr rfl) (pe_callTy (call_dictTP rfl (hu2 hr)) (by rfl) T.f_dict (by decide +kernel) (pa_cons (pe_lc (own := [("_law_pair", 3)]) (g := gName 3) (tt := tYes) (te := tTup (tCons (tVar 3) (tCons (tC (.bl true)) tNil))) rfl sc_hts.nd (pi_list (pv 4)) (blkOk_by (N := nHts) (sc := defScope s_law_heights) (by decide +kernel))
          (fun _ _ _ _ _ => pg_name (i := 3) sc_hts.nd rfl (Or.inl rfl)) (fun _ _ _ _ _ => pts_nil) (fun _ _ _ _ _ => pe_tup (pa_cons (pv 3) (pa_cons pe_bl pa_nil)))) pa_nil)))
      (pss_cons (ps_for PassesOwn.never rfl (pi_range1 (by rfl) T.f_range (pa_cons (pe_callB call_len_seq (by rfl) T.f_len PySem.boot_len (pa_cons (pv 4) pa_nil)) pa_nil)) (pg_name (i := 7) sc_hts.nd rfl (.inl rfl))
        (pss_cons (ps_set (i := 8) sc_hts.nd rfl (.inl rfl) (pe_lst pa_nil))
        (pss_cons (ps_for PassesOwn.never rfl (pi_list (pv 4)) (pg_name (i := 3) sc_hts.nd rfl (.inr rfl))
          (pss_cons (ps_setLc (i := 9) (own := [("_law_letter", 10)]) (g := gName 10) (tt := tYes) (te := tTup (tCons (tDGet (tOp (rIxT K) (tVar 0) (tC (.int 3))) (tTup (tCons (tOp (rIxT K) (tVar 3) (tC (.int 0))) (tCons (tVar 10) tNil)))) (tCons (tDGet (tOp (rIxT K) (tVar 0) (tC (.int 3))) (tTup (tCons (tOp (rIxT K) (tVar 3) (tC (.int 1))) (tCons (tVar 10) tNil)))) tNil))) rfl sc_hts.nd rfl rfl (sw_true rfl rfl rfl (by decide +kernel)) (pi_str (pe_ix ix_tup (pv 0) pe_int (fun _ _ => rfl))) (blkOk_by (N := nHts) (sc := defScope s_law_heights) (by decide +kernel))
              (fun _ _ _ _ _ => pg_name (i := 10) sc_hts.nd rfl (Or.inl rfl)) (fun _ _ _ _ _ => pts_nil)
              (fun _ _ _ _ _ => pe_tup (pa_cons (pe_dget (hu_of hr) (pe_ix ix_tup (pv 0) pe_int (fun _ _ => rfl)) (pe_tup (pa_cons (pe_ix ix_tup (pv 3) pe_int (fun _ _ => rfl)) (pa_cons (pv 10) pa_nil))) (fun _ _ => rfl)) (pa_cons (pe_dget (hu_of hr) (pe_ix ix_tup (pv 0) pe_int (fun _ _ => rfl)) (pe_tup (pa_cons (pe_ix ix_tup (pv 3) pe_int (fun _ _ => rfl)) (pa_cons (pv 10) pa_nil))) (fun _ _ => rfl)) pa_nil))))
          (pss_cons (ps_setLc (i := 9) (own := [("_law_aim_here", 11)]) (g := gName 11) (tt := tB (tDIn (tVar 11) (tVar 6))) rfl sc_hts.nd rfl rfl (sw_true rfl rfl rfl (by decide +kernel)) (pi_list (pv 9)) (blkOk_by (N := nHts) (sc := defScope s_law_heights) (by decide +kernel))
              (fun _ _ _ _ _ => pg_name (i := 11) sc_hts.nd rfl (Or.inl rfl)) (fun _ _ _ _ _ => pts_one (pt_cmp (pc_din (hu_of hr) (pv 11) (pv 6)) (by rfl))) (fun _ _ _ _ _ => pv 11))
          (pss_one (ps_if (pt_cmpR (op_eqD hr.units) (pe_lc (own := [("_law_aim_here", 11)]) (g := gName 11) (tt := tB (tDNotIn (tVar 11) (tVar 5))) rfl sc_hts.nd (pi_list (pv 9)) (blkOk_by (N := nHts) (sc := defScope s_law_heights) (by decide +kernel))
                (fun _ _ _ _ _ => pg_name (i := 11) sc_hts.nd rfl (Or.inl rfl)) (fun _ _ _ _ _ => pts_one (pt_cmp (pc_dnotin (hu_of hr) (pv 11) (pv 5)) (by rfl))) (fun _ _ _ _ _ => pv 11)) (pe_lst pa_nil) (nomark _))
              (pss_one (ps_dput (hu_of hr) (pv 5) (pv 3) (pe_op op_add pe_int (pe_callB (cr_max rfl) (by rfl) T.f_max (by decide +kernel) (pa_cons (pe_op op_cat (pe_lst (pa_cons pe_int pa_nil)) (pe_lc (own := [("_law_aim_here", 11)]) (g := gName 11) (tt := tYes) (te := tDGet (tVar 5) (tVar 11)) rfl sc_hts.nd (pi_list (pv 9)) (blkOk_by (N := nHts) (sc := defScope s_law_heights) (by decide +kernel))
                (fun _ _ _ _ _ => pg_name (i := 11) sc_hts.nd rfl (Or.inl rfl)) (fun _ _ _ _ _ => pts_nil) (fun _ _ _ _ _ => pe_dget (hu_of hr) (pv 5) (pv 11) (fun _ _ => rfl)))) pa_nil))) rfl))
              (pss_one (ps_expr (pe_bm PySem.F.plainAttrs_list PySem.F.slot_list_append PySem.F.type_list_append mt_append (pv 8) (pa_cons (pv 3) pa_nil)))))))))
        (pss_one (ps_set (i := 4) sc_hts.nd rfl (.inl rfl) (pv 8))))))
      (pss_one (ps_ret (pv 5))))), ?_⟩
    obtain ⟨l1, l2, d, kvg, ha, h1, h2, hd, gk⟩ := hB
    have t5 := ok.t5
    have s3 := ok.s3
    walk_at "rd"
    refine ⟨un, ku, rfl, .inl hun, fun q0 bs nq0 hbs => ?_⟩
    obtain ⟨ps0, hP0, hin0, hks⟩ := pairs_of_keys hbs kin.sub
    have lps0 : ps0.length ≤ 25 := by
      have h1 := kin.len t5
      have h2 := congrArg List.length hks
      rw [List.length_map, List.length_map] at h2
      omega
    have lbs : (bs.map V.ref).length ≤ 25 := by rw [Paired.length hP0]; exact lps0
    generalize hH : upd H q0 (.lst (bs.map V.ref)) = H1
    have e1 := same_upd_eq nq0 hH
    have hq0 := upd_eq hH
    clear hH
    walk_at "rd"
    refine ⟨q0, rfl, ⟨_, SqL.of hq0⟩, ?_⟩
    refine lc_pfilt (fun p => decide (p.1 ∈ ss) && decide (p.2 ∈ ss)) (SqL.of hq0) (hP0.same e1) (by omega) (fun y => rfl) (fun y => rfl) (fun b p H2 hp s2 hb Q q => ?_) (fun la H2 ys nla e2 hla hP hyl => ?_)
    · have hso2 := s2 _ _ (e1 _ _ hso)
      walk_at "rd"
      refine r_ixT (v := .str p.1) (SqT.of hb) (atI_nat (j := 0) rfl) ?_
      walk_at "rd"
      refine r_inL (.inl (SqL.of hso2)) ?_
      walk_at "rd"
      have q2 := q H2 (Same.refl _)
      cases hx : decide (p.1 ∈ ss) with
      | false =>
        rw [hx] at q2
        exact iteF q2
      | true =>
        rw [hx, Bool.true_and] at q2
        refine iteT ?_
        walk_at "rd"
        refine r_ixT (v := .str p.2) (SqT.of hb) (atI_nat (j := 1) rfl) ?_
        walk_at "rd"
        refine r_inL (.inl (SqL.of hso2)) ?_
        walk_at "rd"
        exact q2
    generalize hps : ps0.filter (fun p => decide (p.1 ∈ ss) && decide (p.2 ∈ ss)) = ps at hP
    have hin : InTg B.tg ps := by
      rw [← hps]
      exact fun p hp => hin0 p (List.mem_filter.mp hp).1
    clear hps
    have hyl25 : ys.length ≤ 25 := Nat.le_trans hyl lbs
    walk_at "rd"
    walk_at "nw"
    rename_i fo nfo H3 e3 hfo
    walk_at "rd"
    refine ⟨by show 2 ≤ sizeLine; decide, ?_⟩
    walk_at "nw"
    rename_i q4 nq4 H4 e4 hq4
    refine ⟨q4, _, rfl, SqT.of hq4, rfl, ?_⟩
    walk_at "rd"
    have e24 := e3.trans e4
    refine ⟨la, rfl, ⟨_, SqL.of (e24 _ _ hla)⟩, ?_⟩
    refine lc_pens (SqL.of (e24 _ _ hla)) (hP.same e24) (by omega) (fun y => rfl) (fun y => rfl) (fun D H5 es nD e5 hD hes => ?_)
    walk_at "rd"
    refine ⟨D, es, rfl, hD, hes, ?_⟩
    walk_at "nw"
    rename_i ins nins H6 e6 hins
    walk_at "rd"
    have e26 := (e24.trans e5).trans e6
    have hla6 := e26 _ _ hla
    refine ⟨la, _, rfl, .inl (SqL.of hla6), ?_⟩
    walk_at "rd"
    refine ⟨((ys.length : Nat) : Int), rfl, by omega, by omega, ?_⟩
    rw [Int.toNat_natCast]
    have s26 := (e1.trans e2).trans e26
    have nfoH : H fo = none := (e1.trans e2).free nfo
    have hfo6 : H6 fo = some (.dT []) := e6 _ _ (e5 _ _ (e4 _ _ hfo))
    have nif : ins ≠ fo := fun z => by
      rw [z] at nins
      rw [e5 _ _ (e4 _ _ hfo)] at nins
      cases nins
    refine for_it (walk_range (lo := 0) (n := ys.length)) (fun u σ' H' => ∃ v3 la v7 v8 v9 v10 v11 kvs ki ys ps, σ' = [some (.ref a), some (.ref un), some (.ref so), v3, some (.ref la), some (.ref fo), some (.ref ins), v7, v8, v9, v10, v11] ∧
        Same H H' ∧ H' fo = some (.dT kvs) ∧ KeysIn B.tg kvs ∧ IntsIn kvs ∧ H' ins = some (.dT ki) ∧ H' la = some (.lst ys) ∧ PairsAt H' ys ps ∧ ys.length ≤ 25 ∧ InTg B.tg ps)
      ⟨_, la, _, _, _, _, _, [], _, ys, ps, rfl, s26, hfo6, KeysIn.nil, IntsIn.nil, hins, hla6, hP.same e26, hyl25, hin⟩ (fun i σ' H' _ q => trivial) ?_ ?_
    · rintro u x0 σ' H' H'' hu ⟨v3, la, v7, v8, v9, v10, v11, kvs, ki, ys, ps, rfl, s7, hf, kk, ii, hins, hla, hP, hyl25, hin⟩ ⟨rfl, rfl⟩
      walk_at "rd"
      refine ⟨by show 0 ≤ sizeLine; decide, ?_⟩
      walk_at "nw"
      rename_i lb nlb Hs e8 hlb
      walk_at "rd"
      have hlas := e8 _ _ hla
      refine ⟨la, rfl, ⟨_, SqL.of hlas⟩, ?_⟩
      have hl := Paired.length hP
      have nlab : la ≠ lb := ne_of_none hla nlb
      have nlf : lb ≠ fo := (ne_of_none hf nlb).symm
      have nlafo : la ≠ fo := ne_of hla hf (by intro z; cases z)
      have ninsb : ins ≠ lb := ne_of_none hins nlb
      have nlbH : H lb = none := s7.free nlb
      have s8 := s7.trans e8
      have hPs := hP.same e8
      have two : ∀ H', But2 lb fo Hs H' → Same H H' := fun H' b c o hc => b c o (ne_of_none hc nlbH) (ne_of_none hc nfoH) (s8 _ _ hc)
      refine for_it (walk_list (K := K) (a := la) (xs := ys)) (fun i σ' H' => ∃ v3 v9 v10 v11 kvs zs qs, σ' = [some (.ref a), some (.ref un), some (.ref so), v3, some (.ref la), some (.ref fo), some (.ref ins), some (.int (0 + (u : Int))), some (.ref lb), v9, v10, v11] ∧
          But2 lb fo Hs H' ∧ H' fo = some (.dT kvs) ∧ KeysIn B.tg kvs ∧ IntsIn kvs ∧ H' lb = some (.lst zs) ∧ PairsAt H' zs qs ∧ zs.length ≤ i ∧ InTg B.tg qs)
        ⟨v3, v9, v10, v11, kvs, [], [], rfl, fun c o _ _ h => h, e8 _ _ hf, kk, ii, hlb, .nil, Nat.le_refl _, (fun p h => nomatch h)⟩ (fun i σ' H' _ q => ?_) ?_ ?_
      · obtain ⟨_, _, _, _, _, _, _, _, b, _⟩ := q
        exact SqL.of (b _ _ nlab nlafo hlas)
      · rintro i x0 σ' H' H'' hi ⟨v3, v9, v10, v11, kvs, zs, qs, rfl, bb, hf, kk, ii, hlb, hZ, hzl, hqs⟩ ⟨rfl, hy⟩
        have hi2 : i < ps.length := by omega
        have hp : ps[i]? = some ps[i] := List.getElem?_eq_getElem hi2
        generalize ps[i] = pq at hp
        obtain ⟨x', hx', b, rfl, hbs'⟩ := paired_get hPs hp
        have ex := Option.some.inj (hy.symm.trans hx')
        subst ex
        obtain ⟨px, py⟩ := hin pq (List.mem_of_getElem? hp)
        have s9 := two _ bb
        have hb : H'' b = some (.tup [.str pq.1, .str pq.2]) := bb _ _ (ne_of hbs' ‹Hs lb = some (.lst [])› (by intro z; cases z)) (ne_of hbs' (e8 _ _ ‹_›) (by intro z; cases z)) hbs'
        walk_at "rd"
        refine r_ixT (v := .str (tx B.sg)) (SqT.of (s9 _ _ ha)) (atI_nat (j := 0) rfl) ?_
        walk_at "rd"
        refine lc_prs (l := B.sg) (f := fun c => (B.gl pq.1 c, B.gl pq.2 c)) (by omega) (fun y => rfl) (fun c H4 hc s4 Q q => ?_) (fun D H4 gs nD e4 hD hG => ?_)
        · have s14 := s9.trans s4
          walk_at "rd"
          refine r_ixT (v := .ref d) (SqT.of (s14 _ _ ha)) (atI_nat (j := 3) rfl) ?_
          walk_at "rd"
          refine r_ixT (v := .str pq.1) (SqT.of (s4 _ _ hb)) (atI_nat (j := 0) rfl) ?_
          walk_at "rd"
          refine ⟨by show 2 ≤ sizeLine; decide, ?_⟩
          walk_at "nw"
          rename_i q5 nq5 H5 e5 hq5
          have g := DGet.t (k := gkey pq.1 c) (e5 _ _ (s14 _ _ hd)) hq5
          rw [gk pq.1 px c hc] at g
          refine ⟨d, _, rfl, g, ?_⟩
          walk_at "rd"
          have s15 := s14.trans e5
          refine r_ixT (v := .ref d) (SqT.of (s15 _ _ ha)) (atI_nat (j := 3) rfl) ?_
          walk_at "rd"
          refine r_ixT (v := .str pq.2) (SqT.of (e5 _ _ (s4 _ _ hb))) (atI_nat (j := 1) rfl) ?_
          walk_at "rd"
          refine ⟨by show 2 ≤ sizeLine; decide, ?_⟩
          walk_at "nw"
          rename_i q6 nq6 H6 e6 hq6
          have g := DGet.t (k := gkey pq.2 c) (e6 _ _ (s15 _ _ hd)) hq6
          rw [gk pq.2 py c hc] at g
          refine ⟨d, _, rfl, g, ?_⟩
          walk_at "rd"
          refine ⟨by show 2 ≤ sizeLine; decide, ?_⟩
          walk_at "nw"
          rename_i q7 nq7 H7 e7 hq7
          exact q q7 H7 ((e5.trans e6).trans e7) hq7
        walk_at "rd"
        refine ⟨D, rfl, ⟨_, SqL.of hD⟩, ?_⟩
        have lG := Paired.length hG
        rw [List.length_map] at lG
        have hins9 : H'' ins = some (.dT ki) := bb _ _ ninsb nif (e8 _ _ ‹_›)
        refine lc_pfilt (fun p => (valV ki (pk p)).isSome) (SqL.of hD) hG (by omega) (fun y => rfl) (fun y => rfl) (fun b2 p H5 hp2 s5 hb2 Q q => ?_) (fun D2 H5 gs2 nD2 e5 hD2 hG2 hgl2 => ?_)
        · walk_at "rd"
          refine ⟨ins, _, rfl, DGet.t (k := pk p) (s5 _ _ (e4 _ _ hins9)) hb2, ?_⟩
          walk_at "rd"
          exact q _ (Same.refl _)
        walk_at "rd"
        refine ⟨D2, rfl, ⟨_, SqL.of hD2⟩, ?_⟩
        have e45 := e4.trans e5
        have inG : ∀ p ∈ (B.sg.map fun c => (B.gl pq.1 c, B.gl pq.2 c)).filter (fun p => (valV ki (pk p)).isSome), p.1 ∈ B.tg ∧ p.2 ∈ B.tg := fun p hp => by
          obtain ⟨c, hc, rfl⟩ := List.mem_map.mp (List.mem_filter.mp hp).1
          exact ⟨ok.cl _ px c hc, ok.cl _ py c hc⟩
        generalize (B.sg.map fun c => (B.gl pq.1 c, B.gl pq.2 c)).filter (fun p => (valV ki (pk p)).isSome) = gps at hG2 inG
        refine lc_pfilt (fun p => !(valV kvs (pk p)).isSome) (SqL.of hD2) hG2 (by omega) (fun y => rfl) (fun y => rfl) (fun b2 p H6 hp2 s6 hb2 Q q => ?_) (fun D3 H6 gs3 nD3 e6 hD3 hG3 hgl3 => ?_)
        · walk_at "rd"
          refine ⟨fo, _, rfl, DGet.t (k := pk p) (s6 _ _ (e45 _ _ hf)) hb2, ?_⟩
          walk_at "rd"
          exact q _ (Same.refl _)
        walk_at "rd"
        refine ⟨by show 0 ≤ sizeLine; decide, ?_⟩
        walk_at "nw"
        rename_i q7 nq7 H7 e7 hq7
        refine ⟨_, _, .lst (SqL.of (e7 _ _ hD3)) (dp_pairs (hG3.same e7)), .lst (SqL.of hq7) .nil, shaped_pds (fun p hp => ?_), by decide +kernel, ?_⟩
        · obtain ⟨z1, z2⟩ := inG p (List.mem_filter.mp hp).1
          exact ⟨sok_wd (ok.wd _ z1), sok_wd (ok.wd _ z2)⟩
        rw [eqv_list, eqvAll_nil]
        have e47 := (e45.trans e6).trans e7
        have e57 := e6.trans e7
        have hf7 := e47 _ _ hf
        have hb7 := e47 _ _ hb
        have b7 : ∀ H8, Same H7 H8 → But2 lb fo Hs H8 := fun H8 s c o n1 n2 h => s _ _ (e47 _ _ (bb c o n1 n2 h))
        have k25 := kk.len t5
        walk_at "rd"
        refine ite2 (fun hemp => ?_) (fun _ => ?_)
        · have hall : ∀ p ∈ gps, (valV kvs (pk p)).isSome = true := fun p hp => by
            cases hz : (valV kvs (pk p)).isSome with
            | true => rfl
            | false =>
              have hm : p ∈ gps.filter (fun p => !(valV kvs (pk p)).isSome) := List.mem_filter.mpr ⟨hp, by rw [hz]; rfl⟩
              cases hq : gps.filter (fun p => !(valV kvs (pk p)).isSome) with
              | nil => rw [hq] at hm; cases hm
              | cons x r => rw [hq] at hemp; cases hemp
          walk_at "rd"
          refine ⟨by show 1 ≤ sizeLine; decide, ?_⟩
          walk_at "nw"
          rename_i q8 nq8 H8 e8' hq8
          walk_at "rd"
          have e58 := e57.trans e8'
          refine ⟨D2, rfl, ⟨_, SqL.of (e58 _ _ hD2)⟩, ?_⟩
          refine lc_pmap (ps := gps) (fun p => .int ((htOf kvs p.1 p.2).getD 0)) (SqL.of (e58 _ _ hD2)) (hG2.same e58) (by omega) (fun y => rfl) (fun b2 p H9 hp2 s9 hb2 Q q => ?_) (fun D4 H9 nD4 e9 hD4 => ?_)
          · walk_at "rd"
            obtain ⟨v, hv⟩ := Option.isSome_iff_exists.mp (hall p hp2)
            obtain ⟨n, rfl⟩ := ii p v hv
            have g := DGet.t (k := pk p) (s9 _ _ (e8' _ _ hf7)) hb2
            rw [hv] at g
            refine ⟨fo, _, rfl, g, ?_⟩
            have q2 := q H9 (Same.refl _)
            have eh : htOf kvs p.1 p.2 = some n := by
              unfold htOf
              have : valV kvs (pk (p.1, p.2)) = some (.int n) := hv
              rw [this]
            rw [eh] at q2
            exact q2
          have lgp : gps.length ≤ 3 := by
            have := Paired.length hG2
            omega
          refine r_cat (e9 _ _ hq8) hD4 (by rw [List.length_map]; exact Nat.le_trans (m := 100) (by show 1 + _ ≤ _; omega) (by decide)) ?_
          walk_at "nw"
          rename_i q10 nq10 H10 e10 hq10
          have em : [V.int 0] ++ gps.map (fun p => V.int ((htOf kvs p.1 p.2).getD 0)) = (0 :: gps.map fun p => (htOf kvs p.1 p.2).getD 0).map V.int := by
            rw [List.map_cons, List.map_map]
            rfl
          rw [em] at hq10
          walk_at "rd"
          refine ⟨q10, _, rfl, SqL.of hq10, by rw [List.length_cons]; omega, fun m _ _ => ?_⟩
          walk_at "rd"
          have e710 := (e8'.trans e9).trans e10
          refine ⟨fo, _, rfl, DPut.t (k := pk pq) (e710 _ _ hf7) (e710 _ _ hb7) (small1000 (by omega)), ?_⟩
          have bT := b7 _ e710
          refine ⟨_, _, _, _, _, zs, qs, rfl, fun c o n1 n2 h => ?_, upd_same, kk.put px py, ii.put, ?_, ?_, by omega, hqs⟩
          · rw [upd_ne n2]
            exact bT c o n1 n2 h
          · rw [upd_ne nlf]
            exact e710 _ _ (e47 _ _ hlb)
          · refine ((hZ.same e47).same e710).keep fun c xs h => ?_
            rw [upd_ne (ne_of h (e710 _ _ hf7) (by intro z; cases z))]
            exact h
        · walk_at "rd"
          have hlb7 := e47 _ _ hlb
          refine ⟨.inl ⟨rfl, _, SqL.of hlb7⟩, ?_⟩
          walk_at "rd"
          refine ⟨lb, _, _, rfl, rfl, hlb7, small1000 (by omega), ?_⟩
          have bT := b7 _ (Same.refl _)
          refine ⟨_, _, _, _, kvs, zs ++ [.ref b], qs ++ [pq], rfl, fun c o n1 n2 h => ?_, ?_, kk, ii, upd_same, ?_, by rw [List.length_append, List.length_singleton]; omega, fun p hp2 => ?_⟩
          · rw [upd_ne n1]
            exact bT c o n1 n2 h
          · rw [upd_ne nlf.symm]
            exact hf7
          · refine PairsAt.snoc (a := b) (x := pq.1) (y := pq.2) ((hZ.same e47).keep fun c xs h => ?_) ?_
            · rw [upd_ne (ne_of h hlb7 (by intro z; cases z))]
              exact h
            · rw [upd_ne (ne_of hb7 hlb7 (by intro z; cases z))]
              exact hb7
          · rcases List.mem_append.mp hp2 with h | h
            · exact hqs p h
            · rw [List.mem_singleton.mp h]
              exact ⟨px, py⟩
      · rintro σ' H' ⟨v3, v9, v10, v11, kvs, zs, qs, rfl, bb, hf, kk, ii, hlb, hZ, hzl, hqs⟩
        walk_at "rd"
        exact ⟨_, lb, _, _, _, _, _, kvs, ki, zs, qs, rfl, two _ bb, hf, kk, ii, bb _ _ ninsb nif (e8 _ _ ‹_›), hlb, hZ, by omega, hqs⟩
    · rintro σ' H' ⟨v3, la, v7, v8, v9, v10, v11, kvs, ki, ys, ps, rfl, s7, hf, kk, ii, hins, hla, hP, hyl25, hin⟩
      walk_at "rd"
      exact k _ fo kvs s7 hf kk ii
end
end K73

set_option Elab.async false
set_option linter.all false
set_option maxRecDepth 100000
set_option maxHeartbeats 4000000
namespace K73
open PySem PySem.Spec PyProof.Rows L2
local macro_rules | `(tactic| walk_at "rd") => `(tactic| repeat (first | with_reducible refine r_seq ?_ | with_reducible refine r_asg ?_ | with_reducible refine r_ret ?_ | with_reducible refine r_op ?_ | with_reducible refine r_var (by with_unfolding_all rfl) ?_ | with_reducible refine r_c ?_ | with_reducible refine r_cons ?_ | with_reducible refine r_nil ?_ | with_reducible refine r_gname ?_ | with_reducible refine r_ifS ?_ | with_reducible refine r_test ?_ | with_reducible refine r_bl ?_ | with_reducible refine r_I0 ?_ | with_reducible refine r_cb ?_ | with_reducible refine r_cl ?_ | with_reducible refine r_tup ?_ | with_reducible refine r_lst ?_ | with_reducible refine r_gsub ?_ | with_reducible refine r_gcons ?_ | with_reducible refine r_gnil ?_ | with_reducible refine r_drop ?_ | with_reducible refine r_next ?_ | with_reducible refine r_par ?_ | with_reducible refine r_par2 ?_ | with_reducible refine r_and ?_ | with_reducible refine r_or ?_ | with_reducible refine r_not ?_ | with_reducible refine r_yes ?_ | with_reducible refine r_andV ?_ | with_reducible refine r_orV ?_ | with_reducible refine r_notV ?_ | with_reducible refine r_if ?_ | with_reducible refine r_chain ?_ | with_reducible refine r_U ?_ | with_reducible refine r_un ?_ | with_reducible refine r_eq (by with_unfolding_all rfl) ?_ | with_reducible refine r_ne (by with_unfolding_all rfl) ?_ | with_reducible refine r_int ?_ | with_reducible refine r_sl ?_ | with_reducible refine r_nopart ?_ | with_reducible refine r_part ?_ | with_reducible refine r_exI ?_ | with_reducible refine r_dget ?_ | with_reducible refine r_din ?_ | with_reducible refine r_dnotin ?_ | with_reducible refine r_dput ?_ | with_reducible refine r_isN ?_ | with_reducible refine r_notN ?_ | with_reducible refine r_bm ?_ | with_reducible refine r_bm0 ?_ | with_reducible refine r_retN ?_ | with_reducible refine r_lc ?_ | with_reducible refine r_for ?_ | with_reducible refine r_iStr ?_ | with_reducible refine r_exS ?_ | with_reducible refine r_iList ?_ | with_reducible refine r_iTup ?_ | with_reducible refine r_iRng ?_ | with_reducible refine r_m1 ?_ | with_reducible refine r_strM ?_ | with_reducible refine r_tB ?_ | with_reducible refine r_dc ?_ | with_reducible refine r_iZipS ?_ | with_reducible refine r_lc2 ?_ | with_reducible refine r_iZip ?_ | with_reducible refine r_tCmp ?_ | with_reducible refine r_newT ?_ | with_reducible refine r_newK ?_ | with_reducible refine r_sfld ?_ | with_reducible refine r_fld ?_ | with_reducible refine r_make ?_ | with_reducible refine r_pr ?_ | with_reducible refine r_dt ?_ | with_reducible refine r_iKeys ?_ | with_reducible refine r_dget2 ?_))
local macro_rules | `(tactic| walk_at "nw") => `(tactic| (intro q nq; generalize hH : upd _ q _ = H1; have s1 := same_upd_eq nq hH; have hq := upd_eq hH; clear hH))
theorem tx_app (u v : List Nat) : tx u ++ tx v = tx (u ++ v) := by
  refine TL.ext_tl ?_
  rw [TL.tl_append, tl_tx, tl_tx, tl_tx]
theorem cutS_win (l : List Nat) (i k : Nat) (h : i + k ≤ l.length) : cutS (tx l) (some (i : Int)) (some ((i + k : Nat) : Int)) = tx ((l.drop i).take k) := by
  have e1 : (tx l).length = l.length := tx_len l
  refine TL.ext_tl ?_
  rw [tl_tx]
  show (((tx l).cps.toList.drop (HT.sIx (tx l).length 0 (some (i : Int)))).take (HT.sIx (tx l).length (tx l).length (some ((i + k : Nat) : Int)) - HT.sIx (tx l).length 0 (some (i : Int)))).toArray.toList = _
  rw [tx_toList, e1, HT.sIx_nat, HT.sIx_nat, show min i l.length = i by omega, show min (i + k) l.length = i + k by omega, show i + k - i = k by omega]
section
variable {P : Program} {w : World} {K : PySem.W.Frag} {mg : Str → Option Value} {base : Heap}
/-! ### all rows -/
abbrev txv (r : List Nat) : V := .str (tx r)
def RowsOk (sg : List Nat) (n : Nat) (ws : List (List Nat)) : Prop := ∀ r ∈ ws, Over sg r ∧ r.length ≤ n
def spRows : Sp := fun vs H Q _ => ∃ (sg : List Nat) (m : Nat), vs = [.str (tx sg), .int m] ∧ sg.length ≤ 3 ∧ m ≤ 7 ∧ ∀ (H' : Hp) (f : Addr) (ws : List (List Nat)), Same H H' → H' f = some (.lst (ws.map txv)) → RowsOk sg 7 ws → ws.length ≤ 20000 → Q (.ref f) H'
abbrev nRows : List Str := ["_law_letters_here", "_law_most", "_law_found", "_law_last", "_law_turn", "_law_fresh", "_law_line", "_law_letter"]
theorem sc_rows : FnScope nRows ["_law_letters_here", "_law_most"] (defScope s_law_rows_to) := ⟨rfl, rfl, rfl, by decide +kernel, rfl, by decide +kernel, by decide +kernel⟩
theorem big20 {n : Nat} (h : n ≤ 1000000) : n < sizeLine := Nat.lt_of_le_of_lt h (by decide)
theorem pow_le {u : Nat} (h : u ≤ 7) : 3 ^ u ≤ 2187 := Nat.le_trans (Nat.pow_le_pow_right (by decide) h) (by decide)
theorem ok_rows (T : Txt K mg) : Fn P w K mg base 1 "_law_rows_to" ["_law_letters_here", "_law_most"] spRows := by
  refine T.d_law_rows_to.fn sc_rows (fun _ _ _ _ _ _ us hl => match us, hl with | [_, _], _ => rfl) (fun vs H Q E h => ?_) (fun cdv Ar outer s H vs Q E hr h => ?_)
  · obtain ⟨sg, m, rfl, _⟩ := h
    rfl
  · obtain ⟨sg, m, rfl, s3, m7, k⟩ := h
    refine ⟨_, pss_cons (ps_par (i := 2) (j := 3) rfl sc_rows.nd rfl rfl (by decide) rfl rfl (pa_cons (pe_lst (pa_cons pe_str pa_nil)) (pa_cons (pe_lst (pa_cons pe_str pa_nil)) pa_nil)) (by rfl))
      (pss_cons (ps_for PassesOwn.never rfl (pi_range1 (by rfl) T.f_range (pa_cons (pv 1) pa_nil)) (pg_name (i := 4) sc_rows.nd rfl (.inl rfl))
        (pss_cons (ps_set (i := 5) sc_rows.nd rfl (.inl rfl) (pe_lst pa_nil))
        (pss_cons (ps_for PassesOwn.never rfl (pi_list (pv 3)) (pg_name (i := 6) sc_rows.nd rfl (.inr rfl))
          (pss_one (ps_set (i := 5) sc_rows.nd rfl (.inl rfl) (pe_op op_cat (pv 5) (pe_lc (own := [("_law_letter", 7)]) (g := gName 7) (tt := tYes) rfl sc_rows.nd (pi_str (pv 0)) (blkOk_by (N := nRows) (sc := defScope s_law_rows_to) (by decide +kernel))
              (fun _ _ _ _ _ => pg_name (i := 7) sc_rows.nd rfl (Or.inl rfl)) (fun _ _ _ _ _ => pts_nil) (fun _ _ _ _ _ => pe_op op_add_str (pv 6) (pv 7)))))))
        (pss_cons (ps_set (i := 3) sc_rows.nd rfl (.inl rfl) (pv 5))
        (pss_one (ps_set (i := 2) sc_rows.nd rfl (.inl rfl) (pe_op op_cat (pv 2) (pv 3))))))))
      (pss_one (ps_ret (pv 2)))), ?_⟩
    have over_nil : Over sg [] := fun c hc => nomatch hc
    walk_at "rd"
    refine ⟨by show 1 ≤ sizeLine; decide, ?_⟩
    walk_at "nw"
    rename_i q1 nq1 H1 e1 hq1
    walk_at "rd"
    refine ⟨by show 1 ≤ sizeLine; decide, ?_⟩
    walk_at "nw"
    rename_i q2 nq2 H2 e2 hq2
    walk_at "rd"
    refine ⟨(m : Int), rfl, by omega, by omega, ?_⟩
    rw [Int.toNat_natCast]
    refine for_it (walk_range (lo := 0) (n := m)) (fun u σ' H' => ∃ fa la v4 v5 v6 v7 fs ls, σ' = [some (.str (tx sg)), some (.int m), some (.ref fa), some (.ref la), v4, v5, v6, v7] ∧ Same H H' ∧ H' fa = some (.lst (fs.map txv)) ∧ H' la = some (.lst (ls.map txv)) ∧ RowsOk sg u fs ∧ RowsOk sg u ls ∧ ls.length ≤ 3 ^ u ∧ fs.length ≤ (u + 1) * 2187)
      ⟨q1, q2, none, none, none, none, [[]], [[]], rfl, e1.trans e2, e2 _ _ hq1, hq2, (fun r hr => by rw [List.mem_singleton.mp hr]; exact ⟨over_nil, Nat.le_refl _⟩), (fun r hr => by rw [List.mem_singleton.mp hr]; exact ⟨over_nil, Nat.le_refl _⟩), Nat.le_refl _, (by show 1 ≤ 1 * 2187; decide)⟩ (fun i σ' H' _ q => trivial) ?_ ?_
    · rintro u x0 σ' H' H'' hu ⟨fa, la, v4, v5, v6, v7, fs, ls, rfl, s3', hfa, hla, rf, rl, ll, lf⟩ ⟨rfl, rfl⟩
      have p7 := pow_le (show u ≤ 7 by omega)
      walk_at "rd"
      refine ⟨by show 0 ≤ sizeLine; decide, ?_⟩
      walk_at "nw"
      rename_i q4 nq4 H4 e4 hq4
      walk_at "rd"
      refine ⟨la, rfl, ⟨_, SqL.of (e4 _ _ hla)⟩, ?_⟩
      refine for_it (walk_list (K := K) (a := la) (xs := ls.map txv)) (fun i σ' H' => ∃ ga v6 v7 gs, σ' = [some (.str (tx sg)), some (.int m), some (.ref fa), some (.ref la), some (.int (0 + (u : Int))), some (.ref ga), v6, v7] ∧ Same H4 H' ∧ H' ga = some (.lst (gs.map txv)) ∧ RowsOk sg (u + 1) gs ∧ gs.length ≤ i * 3)
        ⟨q4, v6, v7, [], rfl, Same.refl _, hq4, (fun r hr => nomatch hr), Nat.zero_le _⟩ (fun i σ' H' _ q => ?_) ?_ ?_
      · obtain ⟨_, _, _, _, _, e, _⟩ := q
        exact SqL.of (e _ _ (e4 _ _ hla))
      · rintro i x0 σ' H' H'' hi ⟨ga, v6, v7, gs, rfl, e5, hga, rg, lg⟩ ⟨rfl, hy⟩
        rw [List.length_map] at hi
        have hr' : ls[i]? = some ls[i] := List.getElem?_eq_getElem hi
        generalize ls[i] = r at hr'
        rw [List.getElem?_map, hr'] at hy
        have ex : txv r = x0 := Option.some.inj hy
        subst ex
        obtain ⟨ro, rlen⟩ := rl r (List.mem_of_getElem? hr')
        walk_at "rd"
        refine lc_S (z := sg) (fun _ => true) (fun c => txv (r ++ [c])) (big20 (by omega)) (fun y => rfl) (fun c H6 hc s6 Q q => ?_) (fun c H6 hc hf s6 Q q => ?_) (fun q6 H6 nq6 e6 h6 => ?_)
        · walk_at "rd"
          exact q _ (Same.refl _)
        · walk_at "rd"
          refine r_addS (Nat.le_trans (m := 1000) (by
            have h1 : (tx r).length = r.length := tx_len r
            have h2 : (⟨#[c]⟩ : Str).length = 1 := rfl
            omega) (by decide)) ?_
          have ea : tx r ++ (⟨#[c]⟩ : Str) = tx (r ++ [c]) := tx_app r [c]
          rw [ea]
          exact q _ (Same.refl _)
        rw [filter_all] at h6
        refine r_cat (e6 _ _ hga) h6 (by rw [List.length_map, List.length_map]; exact Nat.le_of_lt (big20 (by omega))) ?_
        walk_at "nw"
        rename_i q7 nq7 H7 e7 hq7
        have em : gs.map txv ++ sg.map (fun c => txv (r ++ [c])) = (gs ++ sg.map fun c => r ++ [c]).map txv := by rw [List.map_append, List.map_map]; rfl
        rw [em] at hq7
        walk_at "rd"
        refine ⟨q7, _, _, gs ++ sg.map (fun c => r ++ [c]), rfl, (e5.trans e6).trans e7, hq7, fun x hx => ?_, ?_⟩
        · rcases List.mem_append.mp hx with h | h
          · exact rg x h
          · obtain ⟨c, hc, rfl⟩ := List.mem_map.mp h
            refine ⟨fun d hd => ?_, by rw [List.length_append, List.length_singleton]; omega⟩
            rcases List.mem_append.mp hd with z | z
            · exact ro d z
            · rw [List.mem_singleton.mp z]
              exact hc
        · rw [List.length_append, List.length_map, Nat.add_mul]
          omega
      · rintro σ' H' ⟨ga, v6, v7, gs, rfl, e5, hga, rg, lg⟩
        rw [List.length_map] at lg
        have lg2 : gs.length ≤ 3 ^ (u + 1) := by
          rw [Nat.pow_succ]
          omega
        have p8 := pow_le (show u + 1 ≤ 7 by omega)
        walk_at "rd"
        have lf8 : (u + 1) * 2187 ≤ 7 * 2187 := Nat.mul_le_mul_right _ (by omega)
        refine r_cat (e5 _ _ (e4 _ _ hfa)) hga (by rw [List.length_map, List.length_map]; exact Nat.le_of_lt (big20 (by omega))) ?_
        walk_at "nw"
        rename_i q7 nq7 H7 e7 hq7
        rw [← List.map_append] at hq7
        walk_at "rd"
        refine ⟨q7, ga, _, _, _, _, fs ++ gs, gs, rfl, ((s3'.trans e4).trans e5).trans e7, hq7, e7 _ _ hga, fun r hr => ?_, rg, lg2, ?_⟩
        · rcases List.mem_append.mp hr with h | h
          · obtain ⟨h1, h2⟩ := rf r h
            exact ⟨h1, by omega⟩
          · exact rg r h
        · rw [List.length_append, Nat.add_mul (u + 1) 1]
          omega
    · rintro σ' H' ⟨fa, la, v4, v5, v6, v7, fs, ls, rfl, s3', hfa, hla, rf, rl, ll, lf⟩
      walk_at "rd"
      have lf8 : (m + 1) * 2187 ≤ 8 * 2187 := Nat.mul_le_mul_right _ (by omega)
      exact k _ fa fs s3' hfa (fun r hr => ⟨(rf r hr).1, by have := (rf r hr).2; omega⟩) (by omega)
/-! ### looks, pieces -/
def lookW (k : Nat) (r : List Nat) : List Nat := if r.length < k then r else r.drop (r.length - k)
def spLook : Sp := fun vs H Q _ => ∃ (k : Nat) (r : List Nat), vs = [.str "last", .int k, .str (tx r)] ∧ r.length ≤ 7 ∧ ∀ (H' : Hp) (q : Addr), Same H H' → H' q = some (.tup [txv (lookW k r), .bl (decide (r.length < k))]) → Q (.ref q) H'
theorem sc_look : FnScope ["_law_sort", "_law_size", "_law_line"] ["_law_sort", "_law_size", "_law_line"] (defScope s_law_look) := ⟨rfl, rfl, rfl, by decide +kernel, rfl, by decide +kernel, by decide +kernel⟩
theorem ok_look (T : Txt K mg) : Fn P w K mg base 1 "_law_look" ["_law_sort", "_law_size", "_law_line"] spLook := by
  refine T.d_law_look.fn sc_look (fun _ _ _ _ _ _ us hl => match us, hl with | [_, _, _], _ => rfl) (fun vs H Q E h => ?_) (fun cdv Ar outer s H vs Q E hr h => ?_)
  · obtain ⟨k, r, rfl, _⟩ := h
    rfl
  · obtain ⟨n, r, rfl, r7, k⟩ := h
    refine ⟨_, pss_cons (ps_if (pt_cmpR op_eq (pv 0) pe_str (nomark _)) (pss_one (ps_ret (pe_ifExp (pt_cmpR op_lt (pe_callB call_len_str (by rfl) T.f_len PySem.boot_len (pa_cons (pv 2) pa_nil)) (pv 1) (nomark _)) (pe_tup (pa_cons (pv 2) (pa_cons pe_bl pa_nil))) (pe_tup (pa_cons (pe_slice sl_str (pv 2) (po_some (pe_op op_sub (pe_callB call_len_str (by rfl) T.f_len PySem.boot_len (pa_cons (pv 2) pa_nil)) (pv 1))) po_none) (pa_cons pe_bl pa_nil)))))) pss_nil)
      pss_never, ?_⟩
    have el : (tx r).length = r.length := tx_len r
    have els : (tx r).length ≤ sizeLine := by rw [el]; exact Nat.le_trans r7 (by decide)
    walk_at "rd"
    rw [show decide (V.str ("last" : Str) = V.str ("last" : Str)) = true by simp]
    refine iteT ?_
    walk_at "rd"
    refine ⟨_, rfl, els, ?_⟩
    walk_at "rd"
    rw [el]
    by_cases hlt : r.length < n
    · rw [decide_eq_true (show ((r.length : Nat) : Int) < n by omega)]
      refine iteT ?_
      walk_at "rd"
      refine ⟨by show 2 ≤ sizeLine; decide, ?_⟩
      walk_at "nw"
      rename_i q nq H1 e1 hq
      refine k H1 q e1 ?_
      rw [decide_eq_true hlt]
      unfold lookW
      rw [if_pos hlt]
      exact hq
    · rw [decide_eq_false (show ¬ ((r.length : Nat) : Int) < n by omega)]
      refine iteF ?_
      walk_at "rd"
      refine ⟨_, rfl, els, ?_⟩
      rw [el]
      walk_at "rd"
      refine ⟨tx r, rfl, els, ?_⟩
      have en : ((r.length : Nat) : Int) - (n : Int) = ((r.length - n : Nat) : Int) := by omega
      rw [en, cutS_from _ _ (by omega)]
      walk_at "rd"
      refine ⟨by show 2 ≤ sizeLine; decide, ?_⟩
      walk_at "nw"
      rename_i q nq H1 e1 hq
      refine k H1 q e1 ?_
      rw [decide_eq_false hlt]
      unfold lookW
      rw [if_neg hlt]
      exact hq
def spPieces : Sp := fun vs H Q _ => ∃ (k : Nat) (r : List Nat), vs = [.int k, .str (tx r)] ∧ k ≤ 100 ∧ r.length ≤ 7 ∧ ∀ (H' : Hp) (f : Addr), Same H H' → H' f = some (.lst ((pieces k r).map txv)) → Q (.ref f) H'
abbrev nPieces : List Str := ["_law_size", "_law_line", "_law_marked", "_law_at"]
theorem sc_pieces : FnScope nPieces ["_law_size", "_law_line"] (defScope s_law_pieces) := ⟨rfl, rfl, rfl, by decide +kernel, rfl, by decide +kernel, by decide +kernel⟩
theorem ok_pieces (T : Txt K mg) : Fn P w K mg base 1 "_law_pieces" ["_law_size", "_law_line"] spPieces := by
  refine T.d_law_pieces.fn sc_pieces (fun _ _ _ _ _ _ us hl => match us, hl with | [_, _], _ => rfl) (fun vs H Q E h => ?_) (fun cdv Ar outer s H vs Q E hr h => ?_)
  · obtain ⟨k, r, rfl, _⟩ := h
    rfl
  · obtain ⟨n, r, rfl, n100, r7, k⟩ := h
    refine ⟨_, pss_cons (ps_set (i := 2) sc_pieces.nd rfl (.inr rfl) (pe_op op_add_str (pe_op op_add_str pe_str (pv 1)) pe_str))
      (pss_cons (ps_if (pt_cmpR op_lt (pe_callB call_len_str (by rfl) T.f_len PySem.boot_len (pa_cons (pv 2) pa_nil)) (pv 0) (nomark _)) (pss_one (ps_ret (pe_lst (pa_cons (pv 2) pa_nil)))) pss_nil)
      (pss_one (ps_ret (pe_lc (own := [("_law_at", 3)]) (g := gName 3) (tt := tYes) rfl sc_pieces.nd (pi_range1 (by rfl) T.f_range (pa_cons (pe_op op_add (pe_op op_sub (pe_callB call_len_str (by rfl) T.f_len PySem.boot_len (pa_cons (pv 2) pa_nil)) (pv 0)) pe_int) pa_nil)) (blkOk_by (N := nPieces) (sc := defScope s_law_pieces) (by decide +kernel))
          (fun _ _ _ _ _ => pg_name (i := 3) sc_pieces.nd rfl (Or.inl rfl)) (fun _ _ _ _ _ => pts_nil) (fun _ _ _ _ _ => pe_slice sl_str (pv 2) (po_some (pv 3)) (po_some (pe_op op_add (pv 3) (pv 0)))))))), ?_⟩
    have el : (tx r).length = r.length := tx_len r
    have e62 : (">" : Str) = tx [62] := by decide +kernel
    have e60 : ("<" : Str) = tx [60] := by decide +kernel
    have em : (">" : Str) ++ tx r ++ ("<" : Str) = tx (marked r) := by
      rw [e62, e60, tx_app, tx_app]
      rfl
    have lm := len_marked r
    have elm : (tx (marked r)).length = r.length + 2 := by rw [tx_len, lm]
    have elms : (tx (marked r)).length ≤ sizeLine := by rw [elm]; exact Nat.le_trans (m := 1000) (by omega) (by decide)
    walk_at "rd"
    refine r_addS (Nat.le_trans (m := 1000) (by
      have : (">" : Str).length = 1 := by decide +kernel
      omega) (by decide)) ?_
    walk_at "rd"
    have l2 : ((">" : Str) ++ tx r).length = r.length + 1 := by
      rw [e62, tx_app, tx_len]
      simp
    refine r_addS (Nat.le_trans (m := 1000) (by
      have : ("<" : Str).length = 1 := by decide +kernel
      omega) (by decide)) ?_
    rw [em]
    walk_at "rd"
    refine ⟨_, rfl, elms, ?_⟩
    rw [elm]
    walk_at "rd"
    by_cases hlt : r.length + 2 < n
    · rw [decide_eq_true (show ((r.length + 2 : Nat) : Int) < n by omega)]
      refine iteT ?_
      walk_at "rd"
      refine ⟨by show 1 ≤ sizeLine; decide, ?_⟩
      walk_at "nw"
      rename_i q nq H1 e1 hq
      refine k H1 q e1 ?_
      unfold pieces
      rw [if_pos (by omega)]
      exact hq
    · rw [decide_eq_false (show ¬ ((r.length + 2 : Nat) : Int) < n by omega)]
      refine iteF ?_
      walk_at "rd"
      refine ⟨_, rfl, elms, ?_⟩
      rw [elm]
      walk_at "rd"
      refine ⟨_, rfl, by omega, by omega, ?_⟩
      have en : (((r.length + 2 : Nat) : Int) - (n : Int) + 1).toNat = r.length + 2 - n + 1 := by omega
      rw [en]
      refine lc_R (fun _ => true) (fun i => txv (((marked r).drop i).take n)) (big20 (by omega)) (fun y => rfl) (fun i H' hi s' Q q => ?_) (fun i H' hi hf s' Q q => ?_) (fun q H1 nq e1 hq => ?_)
      · walk_at "rd"
        exact q _ (Same.refl _)
      · walk_at "rd"
        refine ⟨tx (marked r), rfl, elms, ?_⟩
        have e1 : (0 : Int) + (i : Int) = (i : Int) := by omega
        have e2 : (0 : Int) + (i : Int) + (n : Int) = ((i + n : Nat) : Int) := by omega
        rw [e2, e1, cutS_win _ _ _ (by omega)]
        exact q _ (Same.refl _)
      rw [made_range] at hq
      refine k H1 q e1 ?_
      unfold pieces
      rw [if_neg (by omega), lm, List.map_map]
      exact hq
end
end K73

set_option Elab.async false
set_option linter.all false
set_option maxRecDepth 100000
set_option maxHeartbeats 4000000
namespace K73
open PySem PySem.Spec PyProof.Rows L2
local macro_rules | `(tactic| walk_at "rd") => `(tactic| repeat (first | with_reducible refine r_seq ?_ | with_reducible refine r_asg ?_ | with_reducible refine r_ret ?_ | with_reducible refine r_op ?_ | with_reducible refine r_var (by with_unfolding_all rfl) ?_ | with_reducible refine r_c ?_ | with_reducible refine r_cons ?_ | with_reducible refine r_nil ?_ | with_reducible refine r_gname ?_ | with_reducible refine r_ifS ?_ | with_reducible refine r_test ?_ | with_reducible refine r_bl ?_ | with_reducible refine r_I0 ?_ | with_reducible refine r_cb ?_ | with_reducible refine r_cl ?_ | with_reducible refine r_tup ?_ | with_reducible refine r_lst ?_ | with_reducible refine r_gsub ?_ | with_reducible refine r_gcons ?_ | with_reducible refine r_gnil ?_ | with_reducible refine r_drop ?_ | with_reducible refine r_next ?_ | with_reducible refine r_par ?_ | with_reducible refine r_par2 ?_ | with_reducible refine r_and ?_ | with_reducible refine r_or ?_ | with_reducible refine r_not ?_ | with_reducible refine r_yes ?_ | with_reducible refine r_andV ?_ | with_reducible refine r_orV ?_ | with_reducible refine r_notV ?_ | with_reducible refine r_if ?_ | with_reducible refine r_chain ?_ | with_reducible refine r_U ?_ | with_reducible refine r_un ?_ | with_reducible refine r_eq (by with_unfolding_all rfl) ?_ | with_reducible refine r_ne (by with_unfolding_all rfl) ?_ | with_reducible refine r_int ?_ | with_reducible refine r_sl ?_ | with_reducible refine r_nopart ?_ | with_reducible refine r_part ?_ | with_reducible refine r_exI ?_ | with_reducible refine r_dget ?_ | with_reducible refine r_din ?_ | with_reducible refine r_dnotin ?_ | with_reducible refine r_dput ?_ | with_reducible refine r_isN ?_ | with_reducible refine r_notN ?_ | with_reducible refine r_bm ?_ | with_reducible refine r_bm0 ?_ | with_reducible refine r_retN ?_ | with_reducible refine r_lc ?_ | with_reducible refine r_for ?_ | with_reducible refine r_iStr ?_ | with_reducible refine r_exS ?_ | with_reducible refine r_iList ?_ | with_reducible refine r_iTup ?_ | with_reducible refine r_iRng ?_ | with_reducible refine r_m1 ?_ | with_reducible refine r_strM ?_ | with_reducible refine r_tB ?_ | with_reducible refine r_dc ?_ | with_reducible refine r_iZipS ?_ | with_reducible refine r_lc2 ?_ | with_reducible refine r_iZip ?_ | with_reducible refine r_tCmp ?_ | with_reducible refine r_newT ?_ | with_reducible refine r_newK ?_ | with_reducible refine r_sfld ?_ | with_reducible refine r_fld ?_ | with_reducible refine r_make ?_ | with_reducible refine r_pr ?_ | with_reducible refine r_dt ?_ | with_reducible refine r_iKeys ?_ | with_reducible refine r_dget2 ?_))
local macro_rules | `(tactic| walk_at "nw") => `(tactic| (intro q nq; generalize hH : upd _ q _ = H1; have s1 := same_upd_eq nq hH; have hq := upd_eq hH; clear hH))
def twoP (t1 t2 : List Str) : List (Str × Str) := t1.flatMap fun x => t2.map fun y => (x, y)
theorem in_twoP {t1 t2 : List Str} {p : Str × Str} (h1 : p.1 ∈ t1) (h2 : p.2 ∈ t2) : p ∈ twoP t1 t2 := List.mem_flatMap.mpr ⟨p.1, h1, List.mem_map.mpr ⟨p.2, h2, rfl⟩⟩
theorem of_twoP {t1 t2 : List Str} {p : Str × Str} (h : p ∈ twoP t1 t2) : p.1 ∈ t1 ∧ p.2 ∈ t2 := by
  obtain ⟨x, hx, h⟩ := List.mem_flatMap.mp h
  obtain ⟨y, hy, rfl⟩ := List.mem_map.mp h
  exact ⟨hx, hy⟩
theorem twoP_25 {t1 t2 : List Str} (h1 : t1.length ≤ 5) (h2 : t2.length ≤ 5) : (twoP t1 t2).length ≤ 25 := by
  have := len_flat (fun x => t2.map fun y => (x, y)) t2.length t1 fun _ _ => List.length_map _
  unfold twoP
  rw [this]
  exact Nat.mul_le_mul h1 h2
theorem PairsAt.but {H H' : Hp} {p : Addr} {ys : List V} {ps : List (Str × Str)} (h : PairsAt H ys ps) (hp : PurseAt H p) (b : But p H H') : PairsAt H' ys ps := h.keep fun a xs q => b _ _ (hp.not_tup q) q
theorem TripsAt.but {H H' : Hp} {p : Addr} {ys : List V} {ts : List ((Str × Str) × Int)} (h : TripsAt H ys ts) (hp : PurseAt H p) (b : But p H H') : TripsAt H' ys ts := Paired.mapP h fun y t ⟨a, e, ha⟩ => ⟨a, e, b _ _ (hp.not_tup ha) ha⟩
theorem paired_drop {α β : Type} {F : α → β → Prop} : ∀ (k : Nat) {xs : List α} {ys : List β}, Paired F xs ys → Paired F (xs.drop k) (ys.drop k)
  | 0, _, _, h => h
  | _ + 1, _, _, .nil => .nil
  | k + 1, _, _, .cons _ t => paired_drop k t
theorem cutV_drop (xs : List V) (d : Nat) : cutV xs (some (d : Int)) none = xs.drop d := by
  by_cases h : d ≤ xs.length
  · exact cutV_from h
  · unfold cutV
    rw [HT.sIx_nat, HT.sIx_none, show min d xs.length = xs.length by omega, List.drop_length, List.drop_eq_nil_of_le (by omega), List.take_nil]
theorem with_restS {A : Hp → Addr → Prop} {R : Hp → Addr → Prop} {G : Prop} (h : (∀ H a, A H a → R H a) → G) (h2 : ∀ H a, A H a → R H a) : G := h h2
/-- a new triple of each -/
theorem lc_trips {K : PySem.W.Frag} {σ : L2.St} {H1 : Hp} {vs : List Nat} {j : Nat} {te : TE} {Qd : V → Hp → Prop} {a : Addr} {xs : List V} (hx : SqL K H1 a xs) (hn : xs.length ≤ 1000) (hw : ∀ y : Option V, wipe ((wipe σ vs).set j y) vs = wipe σ vs)
    (he : ∀ x H', x ∈ xs → Same H1 H' → ∀ Q : VK, (∀ (q : Addr) (H3 : Hp) (t : (Str × Str) × Int), Same H' H3 → H3 q = some (.tup [.str t.1.1, .str t.1.2, .int t.2]) → Q (.ref q) H3) → te ((wipe σ vs).set j (some x)) H' Q)
    (hd : ∀ (D : Addr) (H' : Hp) (ys : List V) (ts : List ((Str × Str) × Int)), H1 D = none → Same H1 H' → H' D = some (.lst ys) → TripsAt H' ys ts → ys.length ≤ xs.length → Qd (.ref D) H') : LcGoal (Itl K a) (gName j) tYes te vs σ H1 Qd := by
  intro D nD
  refine lc_it (Qd := fun H => Qd (.ref D) H) (walk_list (K := K) (a := a) (xs := xs)) (fun i H' => Same H1 H' ∧ ∃ ys ts, H' D = some (.lst ys) ∧ TripsAt H' ys ts ∧ ys.length ≤ i) ⟨same_upd nD, [], [], upd_same, .nil, Nat.le_refl _⟩ (fun i H' _ q => q.1.seq hx) (fun i x H' H'' hi q y => ?_) (fun H' q => ?_)
  · obtain ⟨rfl, hy⟩ := y
    obtain ⟨s, ys, ts, hD, hT, hle⟩ := q
    refine ⟨hw _, r_yes (iteT ?_)⟩
    refine he x _ (List.mem_of_getElem? hy) s _ fun q H3 t s3 hq => ⟨ys, s3 _ _ hD, small1000 (by omega), same_upd_new (s.trans s3) nD, ys ++ [.ref q], ts ++ [t], upd_same, ?_, by rw [List.length_append, List.length_singleton]; omega⟩
    refine Paired.snoc (Paired.mapP (hT.same s3) fun y t ⟨a, e, h⟩ => ⟨a, e, ?_⟩) ⟨q, rfl, ?_⟩
    · rw [upd_ne (ne_of h (s3 _ _ hD) (by intro z; cases z))]
      exact h
    · rw [upd_ne (ne_of hq (s3 _ _ hD) (by intro z; cases z))]
      exact hq
  · obtain ⟨s, ys, ts, hD, hT, hle⟩ := q
    exact hd D H' ys ts nD s hD hT hle
section
variable {P : Program} {w : World} {K : PySem.W.Frag} {mg : Str → Option Value} {base : Heap}
def spSlip : Sp := fun vs H Q _ => ∃ (p a b : Addr) (A B : Box) (sort : Str), vs = [.ref p, .ref a, .ref b, .str sort] ∧ PurseAt H p ∧ BoxAt H a A ∧ BoxAt H b B ∧ A.Ok ∧ B.Ok ∧ A.sg = B.sg ∧ (sort = "within" ∨ sort = "last" ∨ sort = "windows") ∧
  (sort = "within" → ∀ (H' : Hp) (q : Addr) (ys : List V) (ps : List (Str × Str)), But p H H' → PurseAt H' p → H' q = some (.tup ys) → PairsAt H' ys ps → ys.length ≤ 1000 → Q (.ref q) H') ∧
  (sort = "last" ∨ sort = "windows" → ∀ (H' : Hp) (q : Addr) (ys : List V) (ts : List ((Str × Str) × Int)), But p H H' → PurseAt H' p → H' q = some (.tup ys) → TripsAt H' ys ts → ys.length ≤ 1000 → Q (.ref q) H')
abbrev nSlip : List Str := ["_law_purse_here", "_law_box_here", "_law_mate", "_law_sort", "_law_found", "_law_at", "_law_letter", "_law_pair", "_law_some", "_law_heights_here", "_law_things", "_law_low", "_law_thing"]
theorem sc_slip : FnScope nSlip ["_law_purse_here", "_law_box_here", "_law_mate", "_law_sort"] (defScope s_law_slip) := ⟨rfl, rfl, rfl, by decide +kernel, rfl, by decide +kernel, by decide +kernel⟩
theorem hu65 {k : Nat} {A : Around} (hr : Room k A) : A.units + 65 < cLine := by
  have := hr.un
  omega
/-- the end of a slip: tuple(xs[pick // 3:]) -/
theorem slip_cut {p l : Addr} {ys : List V} {H : Hp} {Q : VK} {σ : L2.St} {j : Nat} {u : Option Int} (hp : PurseAt H p) (hl : H l = some (.lst ys)) (nlp : l ≠ p)
    (hσ0 : σ[0]? = some (some (.ref p))) (hσj : σ[j]? = some (some (.ref l)))
    (k : ∀ (H' : Hp) (q : Addr) (d : Nat), But p H H' → PurseAt H' p → H' q = some (.tup (ys.drop d)) → Q (.ref q) H') :
    tCB (fun xs H Q => ∃ p ys, xs = [V.ref p] ∧ ((SqL K H p ys ∧ ∀ l, H l = none → Q (.ref l) (upd H l (.tup ys))) ∨ (SqT K H p ys ∧ Q (.ref p) H))) (tCons (tSl (rSlL K) (tVar j) (tPart (tOp (rI CDiv fun i j => .int (i / j)) (tCl spPick (tCons (tVar 0) (tCons (tC (.int 4)) tNil))) (tC (.int 3)))) tNoPart) tNil) σ H Q := by
  refine r_cb (r_cons (r_sl (r_var hσj (r_part (r_op (r_cl (r_cons (r_var hσ0 (r_cons (r_c (r_nil ?_)))))))))))
  refine ⟨p, 4, rfl, by decide, by decide, hp, fun H1 r b1 hp1 r0 r4 => ?_⟩
  refine r_c (r_I ⟨by decide, by decide⟩ (r_exI (r_nopart ?_)))
  obtain ⟨r', rfl⟩ := Int.eq_ofNat_of_zero_le r0
  have ed : ((r' : Int) / 3) = ((r' / 3 : Nat) : Int) := by omega
  have hl1 := b1 _ _ nlp hl
  rw [ed]
  refine ⟨l, ys, rfl, SqL.of hl1, ?_⟩
  rw [cutV_drop]
  walk_at "nw"
  rename_i q2 nq2 H2 e2 hq2
  refine r_nil ⟨q2, _, rfl, .inl ⟨SqL.of hq2, ?_⟩⟩
  walk_at "nw"
  rename_i q3 nq3 H3 e3 hq3
  exact k H3 q3 _ ((b1.trans (But.of e2)).trans (But.of e3)) ((hp1.same e2).same e3) hq3
theorem ok_slip (T : Txt K mg) : Fn P w K mg base 3 "_law_slip" ["_law_purse_here", "_law_box_here", "_law_mate", "_law_sort"] spSlip := by
  have G : Fn P w K mg base 2 "_law_pick" ["_law_purse_here", "_law_size"] spPick := (ok_pick T T.d_law_pick T.f_int T.f_divmod).mono (by decide)
  have GR : Fn P w K mg base 2 "_law_reached" ["_law_box_here", "_law_begin"] spReached := (ok_reached T).mono (by decide)
  have GL : Fn P w K mg base 2 "_law_live" ["_law_box_here"] spLiveL := ok_live T
  have GU : Fn P w K mg base 2 "_law_unlike" ["_law_box_here"] spUnlike := (ok_unlike T).mono (by decide)
  have GH : Fn P w K mg base 2 "_law_heights" ["_law_box_here", "_law_unlike_here", "_law_some"] spHts := (ok_hts T).mono (by decide)
  refine T.d_law_slip.fn sc_slip (fun _ _ _ _ _ _ us hl => match us, hl with | [_, _, _, _], _ => rfl) (fun vs H Q E h => ?_) (fun cdv Ar outer s H vs Q E hr h => ?_)
  · obtain ⟨p, a, b, A, B, sort, rfl, _⟩ := h
    rfl
  · obtain ⟨p, a, b, A, B, sort, rfl, hp, hA, hB, okA, okB, esg, hsort, kW, kH⟩ := h
    have hA0 := hA
    obtain ⟨l1, l2, d, kvA, ha, h1, h2, hd, gA⟩ := hA
    obtain ⟨m1, m2, e, kvB, hb, hm1, hm2, he, gB⟩ := hB
    by_cases hw : sort = "within"
    · subst hw
      have kW := kW rfl
      refine ⟨_, pss_cons (ps_if (pt_cmpR op_eq (pv 3) pe_str (nomark _))
        (pss_cons (ps_par (i := 4) (j := 5) rfl sc_slip.nd rfl rfl (by decide) rfl rfl (pa_cons (pe_lst (pa_cons (pe_tup (pa_cons (pe_ix ix_list (pe_ix ix_tup (pv 1) pe_int (fun _ _ => rfl)) pe_int (fun _ _ => rfl)) (pa_cons (pe_ix ix_list (pe_ix ix_tup (pv 2) pe_int (fun _ _ => rfl)) pe_int (fun _ _ => rfl)) pa_nil))) pa_nil)) (pa_cons pe_int pa_nil)) (by rfl))
        (pss_cons (ps_while PassesOwn.never (pt_cmpR op_lt (pv 5) (pe_callB call_len_seq (by rfl) T.f_len PySem.boot_len (pa_cons (pv 4) pa_nil)) (nomark _))
          (pss_cons (ps_for PassesOwn.never rfl (pi_str (pe_ix ix_tup (pv 1) pe_int (fun _ _ => rfl))) (pg_name (i := 6) sc_slip.nd rfl (.inl rfl))
            (pss_cons (ps_set (i := 7) sc_slip.nd rfl (.inl rfl) (pe_tup (pa_cons (pe_dget (hu_of hr) (pe_ix ix_tup (pv 1) pe_int (fun _ _ => rfl)) (pe_tup (pa_cons (pe_ix ix_tup (pe_ix ix_list (pv 4) (pv 5) (fun _ _ => rfl)) pe_int (fun _ _ => rfl)) (pa_cons (pv 6) pa_nil))) (fun _ _ => rfl))
                (pa_cons (pe_dget (hu_of hr) (pe_ix ix_tup (pv 2) pe_int (fun _ _ => rfl)) (pe_tup (pa_cons (pe_ix ix_tup (pe_ix ix_list (pv 4) (pv 5) (fun _ _ => rfl)) pe_int (fun _ _ => rfl)) (pa_cons (pv 6) pa_nil))) (fun _ _ => rfl)) pa_nil))))
            (pss_one (ps_if (pt_cmpR (op_notInD (hu65 hr)) (pv 7) (pv 4) (by rfl)) (pss_one (ps_expr (pe_bm PySem.F.plainAttrs_list PySem.F.slot_list_append PySem.F.type_list_append mt_append (pv 4) (pa_cons (pv 7) pa_nil)))) pss_nil))))
          (pss_one (ps_set (i := 5) sc_slip.nd rfl (.inl rfl) (pe_op op_add (pv 5) pe_int)))))
        (pss_one (ps_ret (pe_callTy call_tuple_of (by rfl) T.f_tuple (by decide +kernel) (pa_cons (pe_slice sl_list (pv 4) (po_some (pe_op op_fdiv (pcall G hr (pa_cons (pv 0) (pa_cons pe_int pa_nil))) pe_int)) po_none) pa_nil)))))) pss_nil)
        pss_never, ?_⟩
      walk_at "rd"
      rw [show decide (V.str ("within" : Str) = V.str ("within" : Str)) = true by simp]
      refine iteT ?_
      walk_at "rd"
      refine r_ixT (v := .ref l1) (SqT.of ha) (atI_nat (j := 1) rfl) ?_
      walk_at "rd"
      refine r_ixL (v := .str A.first) (SqL.of h1) (atI_nat (j := 0) okA.head) ?_
      walk_at "rd"
      refine r_ixT (v := .ref m1) (SqT.of hb) (atI_nat (j := 1) rfl) ?_
      walk_at "rd"
      refine r_ixL (v := .str B.first) (SqL.of hm1) (atI_nat (j := 0) okB.head) ?_
      walk_at "rd"
      refine ⟨by show 2 ≤ sizeLine; decide, ?_⟩
      walk_at "nw"
      rename_i q1 nq1 H1 e1 hq1
      walk_at "rd"
      refine ⟨by show 1 ≤ sizeLine; decide, ?_⟩
      walk_at "nw"
      rename_i fo nfo H2 e2 hfo
      walk_at "rd"
      have nfoH : H fo = none := e1.free nfo
      have nfp : fo ≠ p := hp.not_free nfoH
      have n5 : ∀ ps : List (Str × Str), ps.Nodup → (∀ q ∈ ps, q ∈ twoP A.tg B.tg) → ps.length ≤ 25 := fun ps nd sub => Nat.le_trans (nodup_len nd sub) (twoP_25 okA.t5 okB.t5)
      refine ⟨fun m σ H' => ∃ i : Nat, ∃ v6 v7 v8 v9 v10 v11 v12 ys ps, m = 25 - i ∧ σ = [some (.ref p), some (.ref a), some (.ref b), some (.str "within"), some (.ref fo), some (.int i), v6, v7, v8, v9, v10, v11, v12] ∧ Same H H' ∧ H' fo = some (.lst ys) ∧ PairsAt H' ys ps ∧ ps.Nodup ∧ (∀ q ∈ ps, q ∈ twoP A.tg B.tg),
        ⟨_, 0, none, none, none, none, none, none, none, [.ref q1], [(A.first, B.first)], rfl, rfl, e1.trans e2, hfo, .cons ⟨q1, rfl, e2 _ _ hq1⟩ .nil, by simp, fun q hq => by rw [List.mem_singleton.mp hq]; exact in_twoP okA.first_in okB.first_in⟩, ?_⟩
      rintro m σ H3 ⟨i, v6, v7, v8, v9, v10, v11, v12, ys, ps, rfl, rfl, e3, hf, hP, nd, sub⟩
      have l25 := n5 ps nd sub
      have hl := Paired.length hP
      walk_at "rd"
      refine ⟨fo, _, rfl, .inl (SqL.of hf), ?_⟩
      walk_at "rd"
      refine ite2 (fun hlt => ?_) (fun hlt => ?_)
      · have hi : i < ys.length := by
          have := of_decide_eq_true hlt
          omega
        have hi2 : i < ps.length := by omega
        have hp0 : ps[i]? = some ps[i] := List.getElem?_eq_getElem hi2
        generalize ps[i] = pq at hp0
        obtain ⟨pa, pb⟩ := of_twoP (sub pq (List.mem_of_getElem? hp0))
        refine ⟨_, fun σ' H' h => h, ?_⟩
        walk_at "rd"
        refine r_ixT (v := .str (tx A.sg)) (SqT.of (e3 _ _ ha)) (atI_nat (j := 0) rfl) ?_
        walk_at "rd"
        refine for_it (walk_str (z := tx A.sg)) (fun j σ' H' => ∃ v6 v7 v8 v9 v10 v11 v12 ys ps, σ' = [some (.ref p), some (.ref a), some (.ref b), some (.str "within"), some (.ref fo), some (.int i), v6, v7, v8, v9, v10, v11, v12] ∧ Same H H' ∧ H' fo = some (.lst ys) ∧ PairsAt H' ys ps ∧ ps.Nodup ∧ (∀ q ∈ ps, q ∈ twoP A.tg B.tg) ∧ ps[i]? = some pq)
          ⟨v6, v7, v8, v9, v10, v11, v12, ys, ps, rfl, e3, hf, hP, nd, sub, hp0⟩ (fun j σ' H' _ q => trivial) ?_ ?_
        · rintro j x σ' H' H'' hj ⟨v6, v7, v8, v9, v10, v11, v12, ys, ps, rfl, e4, hf, hP, nd, sub, hp0⟩ ⟨rfl, c, hc0, rfl⟩
          have hc' : A.sg[j]? = some c := by simpa [tx] using hc0
          have hc := List.mem_of_getElem? hc'
          have hcB : c ∈ B.sg := by rw [← esg]; exact hc
          obtain ⟨x', hx', t, rfl, ht⟩ := paired_get hP hp0
          walk_at "rd"
          refine r_ixT (v := .ref d) (SqT.of (e4 _ _ ha)) (atI_nat (j := 3) rfl) ?_
          walk_at "rd"
          refine r_ixL (v := .ref t) (SqL.of hf) (atI_nat hx') ?_
          walk_at "rd"
          refine r_ixT (v := .str pq.1) (SqT.of ht) (atI_nat (j := 0) rfl) ?_
          walk_at "rd"
          refine ⟨by show 2 ≤ sizeLine; decide, ?_⟩
          walk_at "nw"
          rename_i q5 nq5 H5 e5 hq5
          have g := DGet.t (k := gkey pq.1 c) (e5 _ _ (e4 _ _ hd)) hq5
          rw [gA pq.1 pa c hc] at g
          refine ⟨d, _, rfl, g, ?_⟩
          walk_at "rd"
          have e45 := e4.trans e5
          refine r_ixT (v := .ref e) (SqT.of (e45 _ _ hb)) (atI_nat (j := 3) rfl) ?_
          walk_at "rd"
          refine r_ixL (v := .ref t) (SqL.of (e5 _ _ hf)) (atI_nat hx') ?_
          walk_at "rd"
          refine r_ixT (v := .str pq.2) (SqT.of (e5 _ _ ht)) (atI_nat (j := 1) rfl) ?_
          walk_at "rd"
          refine ⟨by show 2 ≤ sizeLine; decide, ?_⟩
          walk_at "nw"
          rename_i q6 nq6 H6 e6 hq6
          have g := DGet.t (k := gkey pq.2 c) (e6 _ _ (e45 _ _ he)) hq6
          rw [gB pq.2 pb c hcB] at g
          refine ⟨e, _, rfl, g, ?_⟩
          walk_at "rd"
          refine ⟨by show 2 ≤ sizeLine; decide, ?_⟩
          walk_at "nw"
          rename_i q7 nq7 H7 e7 hq7
          walk_at "rd"
          have e57 := (e5.trans e6).trans e7
          have hf7 := e57 _ _ hf
          have hP7 := hP.same e57
          have inA := okA.cl _ pa c hc
          have inB := okB.cl _ pb c hcB
          refine ⟨_, _, dp_pair hq7, .lst (SqL.of hf7) (dp_pairs hP7), shaped_pd ⟨sok_wd (okA.wd _ inA), sok_wd (okB.wd _ inB)⟩, shaped_pds (fun q hq => ?_), ?_⟩
          · obtain ⟨z1, z2⟩ := of_twoP (sub q hq)
            exact ⟨sok_wd (okA.wd _ z1), sok_wd (okB.wd _ z2)⟩
          rw [any_pd]
          walk_at "rd"
          by_cases hin : (A.gl pq.1 c, B.gl pq.2 c) ∈ ps
          · rw [decide_eq_true hin]
            refine iteF ?_
            walk_at "rd"
            exact ⟨_, _, _, _, _, _, _, ys, ps, rfl, e4.trans e57, hf7, hP7, nd, sub, hp0⟩
          · rw [decide_eq_false hin]
            refine iteT ?_
            walk_at "rd"
            refine ⟨.inl ⟨rfl, _, SqL.of hf7⟩, ?_⟩
            walk_at "rd"
            have := n5 ps nd sub
            have := Paired.length hP
            refine ⟨fo, _, _, rfl, rfl, hf7, small1000 (by omega), ?_⟩
            refine ⟨_, _, _, _, _, _, _, ys ++ [.ref q7], ps ++ [(A.gl pq.1 c, B.gl pq.2 c)], rfl, same_upd_new (e4.trans e57) nfoH, upd_same, ?_, nodup_snoc nd hin, fun q hq => ?_, ?_⟩
            · refine PairsAt.snoc (a := q7) (x := A.gl pq.1 c) (y := B.gl pq.2 c) (hP7.keep fun c xs h => ?_) ?_
              · rw [upd_ne (ne_of h hf7 (by intro z; cases z))]
                exact h
              · rw [upd_ne (ne_of hq7 hf7 (by intro z; cases z))]
                exact hq7
            · rcases List.mem_append.mp hq with h | h
              · exact sub q h
              · rw [List.mem_singleton.mp h]
                exact in_twoP inA inB
            · rw [List.getElem?_append_left (List.getElem?_eq_some_iff.mp hp0).1]
              exact hp0
        · rintro σ' H' ⟨v6, v7, v8, v9, v10, v11, v12, ys, ps, rfl, e4, hf, hP, nd, sub, hp0⟩
          walk_at "rd"
          exact ⟨25 - (i + 1), by omega, i + 1, _, _, _, _, _, _, _, ys, ps, rfl, rfl, e4, hf, hP, nd, sub⟩
      · refine slip_cut (K := K) (j := 4) (u := none) (hp.same e3) hf nfp rfl rfl fun H' q dd b1 hp1 hq => ?_
        refine kW H' q _ (ps.drop dd) ((But.of e3).trans b1) hp1 hq (paired_drop dd (hP.but (hp.same e3) b1)) ?_
        rw [List.length_drop]
        omega
    · have hs2 : sort = "last" ∨ sort = "windows" := hsort.resolve_left hw
      have kH := kH hs2
      refine ⟨_, pss_cons (ps_if (pt_cmpR op_eq (pv 3) pe_str (nomark _)) pss_never pss_nil)
        (pss_cons (ps_set (i := 8) sc_slip.nd rfl (.inl rfl) (pe_ifExp (pt_cmpR op_eq (pv 3) pe_str (nomark _)) (pcall GR hr (pa_cons (pv 1) (pa_cons (pe_ix ix_list (pe_ix ix_tup (pv 1) pe_int (fun _ _ => rfl)) pe_int (fun _ _ => rfl)) pa_nil))) (pcall GL hr (pa_cons (pv 1) pa_nil))))
        (pss_cons (ps_set (i := 9) sc_slip.nd rfl (.inr rfl) (pcall GH hr (pa_cons (pv 1) (pa_cons (pcall GU hr (pa_cons (pv 1) pa_nil)) (pa_cons (pv 8) pa_nil)))))
        (pss_cons (ps_setLc (i := 10) (own := [("_law_pair", 7)]) (g := gName 7) (tt := tYes) (te := tTup (tCons (tOp (rIxT K) (tVar 7) (tC (.int 0))) (tCons (tOp (rIxT K) (tVar 7) (tC (.int 1))) (tCons (tDGet (tVar 9) (tVar 7)) tNil)))) rfl sc_slip.nd rfl rfl (sw_true rfl rfl rfl (by decide +kernel)) (pi_list (pe_callTy (call_list_dT rfl) (by rfl) T.f_list (by decide +kernel) (pa_cons (pv 9) pa_nil))) (blkOk_by (N := nSlip) (sc := defScope s_law_slip) (by decide +kernel))
            (fun _ _ _ _ _ => pg_name (i := 7) sc_slip.nd rfl (Or.inl rfl)) (fun _ _ _ _ _ => pts_nil) (fun _ _ _ _ _ => pe_tup (pa_cons (pe_ix ix_tup (pv 7) pe_int (fun _ _ => rfl)) (pa_cons (pe_ix ix_tup (pv 7) pe_int (fun _ _ => rfl)) (pa_cons (pe_dget (hu_of hr) (pv 9) (pv 7) (fun _ _ => rfl)) pa_nil)))))
        (pss_cons (ps_if (pt_cmpR op_eq (pcall G hr (pa_cons (pv 0) (pa_cons pe_int pa_nil))) pe_int (nomark _))
          (pss_cons (ps_set (i := 11) sc_slip.nd rfl (.inr rfl) (pcall G hr (pa_cons (pv 0) (pa_cons pe_int pa_nil))))
          (pss_one (ps_setLc (i := 10) (own := [("_law_thing", 12)]) (g := gName 12) (tt := tYes) (te := tTup (tCons (tOp (rIxT K) (tVar 12) (tC (.int 0))) (tCons (tOp (rIxT K) (tVar 12) (tC (.int 1))) (tCons (tCB _ (tCons (tC (.int 1)) (tCons (tOp (rI0 fun i j => .int (i - j)) (tOp (rIxT K) (tVar 12) (tC (.int 2))) (tVar 11)) tNil))) tNil)))) rfl sc_slip.nd rfl rfl (sw_true rfl rfl rfl (by decide +kernel)) (pi_list (pv 10)) (blkOk_by (N := nSlip) (sc := defScope s_law_slip) (by decide +kernel))
            (fun _ _ _ _ _ => pg_name (i := 12) sc_slip.nd rfl (Or.inl rfl)) (fun _ _ _ _ _ => pts_nil) (fun _ _ _ _ _ => pe_tup (pa_cons (pe_ix ix_tup (pv 12) pe_int (fun _ _ => rfl)) (pa_cons (pe_ix ix_tup (pv 12) pe_int (fun _ _ => rfl)) (pa_cons (pe_callB (call_max2 rfl) (by rfl) T.f_max (by decide +kernel) (pa_cons pe_int (pa_cons (pe_op op_sub (pe_ix ix_tup (pv 12) pe_int (fun _ _ => rfl)) (pv 11)) pa_nil))) pa_nil))))))) pss_nil)
        (pss_one (ps_ret (pe_callTy call_tuple_of (by rfl) T.f_tuple (by decide +kernel) (pa_cons (pe_slice sl_list (pv 10) (po_some (pe_op op_fdiv (pcall G hr (pa_cons (pv 0) (pa_cons pe_int pa_nil))) pe_int)) po_none) pa_nil)))))))), ?_⟩
      walk_at "rd"
      rw [decide_eq_false (show ¬ V.str sort = V.str ("within" : Str) from fun z => hw (V.str.inj z))]
      refine iteF ?_
      walk_at "rd"
      apply with_restS (A := fun H1 so => Same H H1 ∧ ∃ ss : List Str, H1 so = some (.lst (ss.map V.str)))
      · intro main
        refine ite2 (fun _ => ?_) (fun _ => ?_)
        · walk_at "rd"
          refine r_ixT (v := .ref l1) (SqT.of ha) (atI_nat (j := 1) rfl) ?_
          walk_at "rd"
          refine r_ixL (v := .str A.first) (SqL.of h1) (atI_nat (j := 0) okA.head) ?_
          walk_at "rd"
          refine ⟨a, A, A.first, rfl, hA0, okA, okA.first_in, fun H1 f l e1 hf _ _ => ?_⟩
          exact main H1 f ⟨e1, l, hf⟩
        · walk_at "rd"
          refine ⟨a, A, rfl, hA0, okA, fun H1 f l e1 hf _ _ => ?_⟩
          exact main H1 f ⟨e1, l, hf⟩
      rintro H1 so ⟨e1, ss, hso⟩
      walk_at "rd"
      refine ⟨a, A, rfl, hA0.same e1, okA, fun H2 un ku e2 hun kin => ?_⟩
      walk_at "rd"
      have e12 := e1.trans e2
      refine ⟨a, un, so, A, ku, ss, rfl, hA0.same e12, okA, hun, kin, e2 _ _ hso, fun H3 hh kvs e3 hhh kk ii => ?_⟩
      walk_at "rd"
      have e13 := e12.trans e3
      refine ⟨hh, kvs, rfl, .inl hhh, fun q0 bs nq0 hbs => ?_⟩
      obtain ⟨ps0, hP0, hin0, hks⟩ := pairs_of_keys hbs kk.sub
      have lps0 : ps0.length ≤ 25 := by
        have h1 := kk.len okA.t5
        have h2 := congrArg List.length hks
        rw [List.length_map, List.length_map] at h2
        omega
      have lbs : (bs.map V.ref).length ≤ 25 := by rw [Paired.length hP0]; exact lps0
      generalize hHH : upd H3 q0 (.lst (bs.map V.ref)) = H4
      have e4 := same_upd_eq nq0 hHH
      have hq0 := upd_eq hHH
      clear hHH
      refine ⟨q0, rfl, ⟨_, SqL.of hq0⟩, ?_⟩
      refine lc_trips (SqL.of hq0) (by omega) (fun y => rfl) (fun x H5 hx s5 Q q => ?_) (fun ta H5 ys ts nta e5 hta hT hyl => ?_)
      · obtain ⟨i, hi, ei⟩ := List.mem_iff_getElem.mp hx
        have hi2 : i < ps0.length := by rw [← Paired.length hP0]; exact hi
        have hpi : ps0[i]? = some ps0[i] := List.getElem?_eq_getElem hi2
        generalize hpq : ps0[i] = pq at hpi
        obtain ⟨x', hx', b, rfl, hb'⟩ := paired_get hP0 hpi
        have ex : x = .ref b := by
          rw [List.getElem?_eq_getElem hi] at hx'
          rw [← ei]
          exact Option.some.inj hx'
        subst ex
        have hb5 := s5 _ _ (e4 _ _ hb')
        have hsome : ∃ v, valV kvs (pk pq) = some v := by
          have hmem : pk pq ∈ kvs.map (·.1) := by
            rw [hks]
            exact List.mem_map.mpr ⟨pq, List.mem_of_getElem? hpi, rfl⟩
          obtain ⟨kv, hkv, ek⟩ := List.mem_map.mp hmem
          have : (kvs.any fun kv => decide (kv.1 = pk pq)) = true := List.any_eq_true.mpr ⟨kv, hkv, decide_eq_true ek⟩
          rw [valV_any] at this
          exact Option.isSome_iff_exists.mp this
        obtain ⟨v, hv⟩ := hsome
        obtain ⟨n, rfl⟩ := ii pq v hv
        walk_at "rd"
        refine r_ixT (v := .str pq.1) (SqT.of hb5) (atI_nat (j := 0) rfl) ?_
        walk_at "rd"
        refine r_ixT (v := .str pq.2) (SqT.of hb5) (atI_nat (j := 1) rfl) ?_
        walk_at "rd"
        have g := DGet.t (k := pk pq) (s5 _ _ (e4 _ _ hhh)) hb5
        rw [hv] at g
        refine ⟨hh, _, rfl, g, ?_⟩
        walk_at "rd"
        refine ⟨by show 3 ≤ sizeLine; decide, ?_⟩
        walk_at "nw"
        rename_i q9 nq9 H9 e9 hq9
        exact q q9 H9 (pq, n) e9 hq9
      have hyl25 : ys.length ≤ 25 := Nat.le_trans hyl lbs
      have e15 := (e13.trans e4).trans e5
      have hp5 := hp.same e15
      have ntap : ta ≠ p := fun z => by
        rw [z] at nta
        obtain ⟨x, y, w, h, _⟩ := hp.same (e13.trans e4)
        rw [h] at nta
        cases nta
      walk_at "rd"
      refine ⟨p, 3, rfl, by decide, by decide, hp5, fun H6 r b6 hp6 r0 r3 => ?_⟩
      have bT : But p H H6 := (But.of e15).trans b6
      have hta6 := b6 _ _ ntap hta
      have hT6 := hT.but hp5 b6
      walk_at "rd"
      refine ite2 (fun _ => ?_) (fun _ => ?_)
      · walk_at "rd"
        refine ⟨p, 2, rfl, by decide, by decide, hp6, fun H7 low b7 hp7 r0 r2 => ?_⟩
        have hta7 := b7 _ _ ntap hta6
        have hT7 := hT6.but hp6 b7
        walk_at "rd"
        refine ⟨ta, rfl, ⟨_, SqL.of hta7⟩, ?_⟩
        refine lc_trips (SqL.of hta7) (by omega) (fun y => rfl) (fun x H8 hx s8 Q q => ?_) (fun tb H8 ys2 ts2 ntb e8 htb hT8 hyl2 => ?_)
        · obtain ⟨i, hi, ei⟩ := List.mem_iff_getElem.mp hx
          have hi2 : i < ts.length := by rw [← Paired.length hT]; exact hi
          have hpi : ts[i]? = some ts[i] := List.getElem?_eq_getElem hi2
          generalize ts[i] = t at hpi
          obtain ⟨x', hx', b, rfl, hb'⟩ := paired_get hT7 hpi
          have ex : x = .ref b := by
            rw [List.getElem?_eq_getElem hi] at hx'
            rw [← ei]
            exact Option.some.inj hx'
          subst ex
          have hb8 := s8 _ _ hb'
          walk_at "rd"
          refine r_ixT (v := .str t.1.1) (SqT.of hb8) (atI_nat (j := 0) rfl) ?_
          walk_at "rd"
          refine r_ixT (v := .str t.1.2) (SqT.of hb8) (atI_nat (j := 1) rfl) ?_
          walk_at "rd"
          refine r_ixT (v := .int t.2) (SqT.of hb8) (atI_nat (j := 2) rfl) ?_
          walk_at "rd"
          refine ⟨_, _, rfl, ?_⟩
          walk_at "rd"
          refine ⟨by show 3 ≤ sizeLine; decide, ?_⟩
          walk_at "nw"
          rename_i q9 nq9 H9 e9 hq9
          exact q q9 H9 (t.1, if t.2 - low > 1 then t.2 - low else 1) e9 hq9
        have ntbp : tb ≠ p := hp7.not_free ntb
        refine slip_cut (K := K) (j := 10) (u := none) (hp7.same e8) htb ntbp rfl rfl fun H' q dd b1 hp1 hq => ?_
        refine kH H' q _ (ts2.drop dd) (((bT.trans b7).trans (But.of e8)).trans b1) hp1 hq (paired_drop dd (hT8.but (hp7.same e8) b1)) ?_
        rw [List.length_drop]
        omega
      · refine slip_cut (K := K) (j := 10) (u := none) hp6 hta6 ntap rfl rfl fun H' q dd b1 hp1 hq => ?_
        refine kH H' q _ (ts.drop dd) (bT.trans b1) hp1 hq (paired_drop dd (hT6.but hp6 b1)) ?_
        rw [List.length_drop]
        omega
end
end K73

set_option Elab.async false
set_option linter.all false
set_option maxRecDepth 100000
set_option maxHeartbeats 4000000
namespace K73
open PySem PySem.Spec PyProof.Rows L2
/-! ### a dict whose keys are tuples (text, bool) -/
def lkOf (rb : List Nat × Bool) : NestedKey := .tup [.text (tx rb.1), .num (if rb.2 = true then 1 else 0)]
theorem tx_inj {u v : List Nat} (h : tx u = tx v) : u = v := by
  have := congrArg TL.tl h
  rw [tl_tx, tl_tx] at this
  exact this
theorem lkOf_inj {x y : List Nat × Bool} (h : lkOf x = lkOf y) : x = y := by
  unfold lkOf at h
  injection h with h
  injection h with h1 h2
  injection h2 with h2 _
  injection h1 with h1
  injection h2 with h2
  have e1 := tx_inj h1
  obtain ⟨a, b⟩ := x
  obtain ⟨c, d⟩ := y
  cases b <;> cases d <;> simp_all
theorem atKey_iff {T : Type} [DecidableEq T] {xs : List (T × Addr × Value)} {k : T} : (atKey xs k).isSome = true ↔ ∃ x ∈ xs, x.1 = k := by
  unfold atKey
  rw [Option.isSome_map, List.find?_isSome]
  constructor
  · rintro ⟨x, hx, h⟩
    exact ⟨x, hx, of_decide_eq_true h⟩
  · rintro ⟨x, hx, h⟩
    exact ⟨x, hx, decide_eq_true h⟩
theorem storedH_iff {T : Type} [DecidableEq T] {xs : List (T × Addr × Value)} {k k' : T} {a : Addr} {v : Value} : (∃ x ∈ storedH xs k a v, x.1 = k') ↔ k' = k ∨ ∃ x ∈ xs, x.1 = k' := by
  constructor
  · rintro ⟨x, hx, rfl⟩
    rcases mem_storedH_key hx with ⟨y, hy, e, _⟩ | ⟨e, _⟩
    · exact .inr ⟨y, hy, e.symm⟩
    · exact .inl e
  · intro h
    unfold storedH
    by_cases e : (atKey xs k).isSome = true
    · rw [if_pos e]
      obtain ⟨y, hy, ey⟩ := atKey_iff.mp e
      have go : ∀ x ∈ xs, ∃ z ∈ xs.map (putAt k v), z.1 = x.1 := fun x hx => ⟨putAt k v x, List.mem_map.mpr ⟨x, hx, rfl⟩, by unfold putAt; split <;> rfl⟩
      rcases h with rfl | ⟨x, hx, rfl⟩
      · obtain ⟨z, hz, ez⟩ := go y hy
        exact ⟨z, hz, ez.trans ey⟩
      · exact go x hx
    · rw [if_neg e]
      rcases h with rfl | ⟨x, hx, rfl⟩
      · exact ⟨(k', a, v), List.mem_append_right _ (List.mem_singleton.mpr rfl), rfl⟩
      · exact ⟨x, List.mem_append_left _ hx, rfl⟩
def LooksAt (P : Program) (w : World) (H : Hp) (D : Addr) (ks : List (List Nat × Bool)) : Prop := ∃ (o : Obj) (es : Array DictEntry) (ep : Nat) (xs : List (NestedKey × Addr × Value)), H D = some (.ext fun h => h.get? D = some o) ∧ (D == sysModules) = false ∧
  o.ExactDict ∧ o.data = .dict es ep ∧ es.toList = xs.map (entryOfKey (nestedKind P w)) ∧ (xs.map (·.1)).Nodup ∧ (∀ x ∈ xs, ∃ rb : List Nat × Bool, x.1 = lkOf rb ∧ H x.2.1 = some (.tup [txv rb.1, .bl rb.2])) ∧
  (∀ rb, (∃ x ∈ xs, x.1 = lkOf rb) ↔ rb ∈ ks) ∧ xs.length ≤ ks.length
theorem LooksAt.same {P : Program} {w : World} {H H' : Hp} {D : Addr} {ks : List (List Nat × Bool)} (h : LooksAt P w H D ks) (s : Same H H') : LooksAt P w H' D ks := by
  obtain ⟨o, es, ep, xs, h1, h2, h3, h4, h5, h6, h7, h8, h9⟩ := h
  exact ⟨o, es, ep, xs, s _ _ h1, h2, h3, h4, h5, h6, (fun x hx => let ⟨rb, e, q⟩ := h7 x hx; ⟨rb, e, s _ _ q⟩), h8, h9⟩
section
variable {X : Cx} {pins : List (Addr × Obj)} {σ : L2.St} {H : Hp} {s : Shared}
theorem lk_is (I : Inv X pins σ H s) {b : Addr} {rb : List Nat × Bool} (e : H b = some (.tup [txv rb.1, .bl rb.2])) : (nestedKind X.prog X.w).is s.heap (lkOf rb) b := by
  obtain ⟨_, its, rv, o, h1, h2, n, h3⟩ := (show ObjOk X.prog X.w H s.heap b (.tup [txv rb.1, .bl rb.2]) from I.hok b _ e)
  obtain ⟨u, y, ei, ru, ry⟩ := vals2 rv
  subst ei
  obtain ⟨t, rfl⟩ := (show ∃ t, u = Value.str (tx rb.1) t from ru)
  cases (show y = Value.bool rb.2 from ry)
  exact ⟨NestedIs.tup h1 h2 h3 (.cons (.text _ _) (.cons (.bool rfl) .nil)), by show NestedKey.depth (lkOf rb) ≤ 8; unfold lkOf; simp [NestedKey.depth, NestedKey.depthAll]⟩
theorem lk_dict (I : Inv X pins σ H s) {D : Addr} {ks : List (List Nat × Bool)} (h : LooksAt X.prog X.w H D ks) : ∃ xs, s.heap.DictOfH (nestedKind X.prog X.w) D xs ∧ (D == sysModules) = false ∧ Mut (H D) ∧
    (∀ x ∈ xs, ∃ rb : List Nat × Bool, x.1 = lkOf rb ∧ H x.2.1 = some (.tup [txv rb.1, .bl rb.2])) ∧ (∀ rb, (∃ x ∈ xs, x.1 = lkOf rb) ↔ rb ∈ ks) ∧ xs.length ≤ ks.length := by
  obtain ⟨o, es, ep, xs, h1, h2, h3, h4, h5, h6, h7, h8, h9⟩ := h
  have ho : s.heap.get? D = some o := (show ObjOk X.prog X.w H s.heap D _ from I.hok D _ h1).1
  refine ⟨xs, ⟨o, es, ep, ho, h3, h4, h5, fun x hx => ?_, h6⟩, h2, by rw [h1]; trivial, h7, h8, h9⟩
  obtain ⟨rb, e, q⟩ := h7 x hx
  rw [e]
  exact lk_is I q
end
/-- {}, to be such a dict -/
def tDNewL (P : Program) (w : World) : TE := fun _ H Q => ∀ p H', H p = none → Same H H' → LooksAt P w H' p [] → Q (.ref p) H'
/-- y in it -/
def tLIn (P : Program) (w : World) (ty td : TE) : TE := fun σ H Q => ty σ H fun y H1 => td σ H1 fun x H2 => ∃ a b rb ks, x = .ref a ∧ y = .ref b ∧ LooksAt P w H2 a ks ∧ H2 b = some (.tup [txv rb.1, .bl rb.2]) ∧ Q (.bl (decide (rb ∈ ks))) H2
def sLPut (P : Program) (w : World) (td ty tv : TE) : TS := fun D σ H => tv σ H fun v H1 => td σ H1 fun x H2 => ty σ H2 fun y H3 => ∃ a b rb ks, x = .ref a ∧ y = .ref b ∧ LooksAt P w H3 a ks ∧ H3 b = some (.tup [txv rb.1, .bl rb.2]) ∧ ks.length < 1000000 ∧
  ∀ H4, But a H3 H4 → LooksAt P w H4 a (rb :: ks) → D.nx σ H4
section
variable {X : Cx} {o i e value : Expr} {pos pos' tpos : Pos} {td ty tv : TE}
theorem pe_dnewL : PE X (.Dict [] [] pos) (tDNewL X.prog X.w) := ⟨fun pins s σ H Q I h => by
  have nf := I.fresh
  have big : (s.heap.objs.size == sysModules) = false := beq_eq_false_iff_ne.mpr (Nat.ne_of_gt I.big)
  refine wpAny_Dict_empty ⟨.ref s.heap.objs.size, _, I.laid (a := s.heap.objs.size) (o := .ext fun h => h.get? s.heap.objs.size = some { cls := .type "dict", data := .dict #[] }) (t' := s.toks) (fun _ _ q => Heap.get?_push_of_some _ q) (Nat.le_refl _) ⟨Heap.get?_push_size _ rfl, ⟨_, Heap.get?_push_size _ rfl⟩, fun h1 h2 e k => k _ e⟩, rfl, ?_⟩
  exact h _ _ nf (same_upd nf) ⟨_, #[], 0, [], upd_same, big, ⟨rfl, rfl, rfl⟩, rfl, rfl, List.nodup_nil, (fun x hx => by cases hx), (fun rb => ⟨(fun z => by obtain ⟨x, hx, _⟩ := z; cases hx), (fun h => by cases h)⟩), Nat.le_refl _⟩⟩
theorem pc_lin (hu : X.A.units + 20 < cLine) (hi : PE X i ty) (ho : PE X o td) : PC X .In i o (tLIn X.prog X.w ty td) := by
  refine ⟨fun pins s σ H Q I h => ?_⟩
  refine thn (hi.run pins s σ H _ I h) fun iv s1 ⟨y, H1, I1, ry, q1⟩ => thn (ho.run pins s1 σ H1 _ I1 q1) fun u s2 ⟨x, H2, I2, rx, a, b, rb, ks, ex, ey, hL, hb, q2⟩ => ?_
  subst ex ey
  obtain rfl : u = Value.ref a := rx
  obtain rfl : iv = Value.ref b := ry
  obtain ⟨xs, hd, hs, _, _, h8, _⟩ := lk_dict I2 hL
  refine wpAny_in_heap (knd := nestedKind X.prog X.w) (by show X.A.units + 1 + 8 < cLine; omega) (lk_is I2 hb) hs hd ?_
  have e : (atKey xs (lkOf rb)).isSome = decide (rb ∈ ks) := by
    by_cases hm : rb ∈ ks
    · rw [decide_eq_true hm]
      exact atKey_iff.mpr ((h8 rb).mpr hm)
    · rw [decide_eq_false hm]
      cases hz : (atKey xs (lkOf rb)).isSome with
      | false => rfl
      | true => exact absurd ((h8 rb).mp (atKey_iff.mp hz)) hm
  rw [e]
  exact ⟨.bl (decide (rb ∈ ks)), H2, I2.tok _, rfl, q2⟩
theorem ps_lput (hu : X.A.units + 20 < cLine) (ho : PE X o td) (hi : PE X i ty) (hv : PE X value tv) (hs : swapsWith value (some (.Subscript o i pos')) pos.line X.env = pure false) : PS X (.Assign [.Subscript o i pos'] value pos) (sLPut X.prog X.w td ty tv) := by
  refine ⟨fun pins s σ H D I h => ?_⟩
  refine wpAny_Assign_Subscript (thn (hv.run pins s σ H _ I h) fun r s1 ⟨v, H1, I1, rv, q1⟩ => thn (ho.run pins s1 σ H1 _ I1 q1) fun u s2 ⟨x, H2, I2, rx, q2⟩ => thn (hi.run pins s2 σ H2 _ I2 q2) fun iv s3 ⟨y, H3, I3, ry, a, b, rb, ks, ex, ey, hL, hb, hz, q3⟩ => ?_) hs
  subst ex ey
  obtain rfl : u = Value.ref a := rx
  obtain rfl : iv = Value.ref b := ry
  obtain ⟨xs, hd, hsm, mu, h7, h8, h9⟩ := lk_dict I3 hL
  refine wpAny_setItem_heap (knd := nestedKind X.prog X.w) (hsz := Nat.le_of_lt (big20 (by omega))) (by show X.A.units + 1 + 8 < cLine; omega) (lk_is I3 hb) hd fun h' dd' sb => ?_
  obtain ⟨o', es, ep, ho', g2, g3, g4, _, g6⟩ := dd'
  have keep : ∀ c ys, H3 c = some (.tup ys) → c ≠ a := fun c ys hc z => by
    rw [z] at hc
    rw [hc] at mu
    exact mu
  refine ⟨σ, _, d_write (ob := .ext fun h => h.get? a = some o') I3 mu sb ⟨o', ho'⟩ ⟨ho', ⟨o', ho'⟩, fun h1 h2 e k => k _ e⟩, ?_⟩
  refine q3 _ But.upd ⟨o', es, ep, storedH xs (lkOf rb) b r, upd_same, hsm, g2, g3, g4, g6, fun x hx => ?_, fun rb' => ?_, ?_⟩
  · rcases mem_storedH_key hx with ⟨y, hy, e1, e2⟩ | ⟨e1, e2⟩
    · obtain ⟨rb', e3, e4⟩ := h7 y hy
      refine ⟨rb', e1.trans e3, ?_⟩
      rw [e2, upd_ne (keep _ _ e4)]
      exact e4
    · refine ⟨rb, e1, ?_⟩
      rw [e2, upd_ne (keep _ _ hb)]
      exact hb
  · rw [storedH_iff, h8 rb']
    constructor
    · rintro (e | e)
      · rw [lkOf_inj e]
        exact List.mem_cons_self ..
      · exact List.mem_cons_of_mem _ e
    · intro hm
      rcases List.mem_cons.mp hm with rfl | hm
      · exact .inl rfl
      · exact .inr hm
  · have := storedH_length xs (lkOf rb) b r
    rw [List.length_cons]
    omega
end
end K73

set_option Elab.async false
set_option linter.all false
set_option maxRecDepth 100000
set_option maxHeartbeats 4000000
namespace K73
open PySem PySem.Spec PyProof.Rows L2
local macro_rules | `(tactic| walk_at "rd") => `(tactic| repeat (first | with_reducible refine r_seq ?_ | with_reducible refine r_asg ?_ | with_reducible refine r_ret ?_ | with_reducible refine r_op ?_ | with_reducible refine r_var (by with_unfolding_all rfl) ?_ | with_reducible refine r_c ?_ | with_reducible refine r_cons ?_ | with_reducible refine r_nil ?_ | with_reducible refine r_gname ?_ | with_reducible refine r_ifS ?_ | with_reducible refine r_test ?_ | with_reducible refine r_bl ?_ | with_reducible refine r_I0 ?_ | with_reducible refine r_cb ?_ | with_reducible refine r_cl ?_ | with_reducible refine r_tup ?_ | with_reducible refine r_lst ?_ | with_reducible refine r_gsub ?_ | with_reducible refine r_gcons ?_ | with_reducible refine r_gnil ?_ | with_reducible refine r_drop ?_ | with_reducible refine r_next ?_ | with_reducible refine r_par ?_ | with_reducible refine r_par2 ?_ | with_reducible refine r_and ?_ | with_reducible refine r_or ?_ | with_reducible refine r_not ?_ | with_reducible refine r_yes ?_ | with_reducible refine r_andV ?_ | with_reducible refine r_orV ?_ | with_reducible refine r_notV ?_ | with_reducible refine r_if ?_ | with_reducible refine r_chain ?_ | with_reducible refine r_U ?_ | with_reducible refine r_un ?_ | with_reducible refine r_eq (by with_unfolding_all rfl) ?_ | with_reducible refine r_ne (by with_unfolding_all rfl) ?_ | with_reducible refine r_int ?_ | with_reducible refine r_sl ?_ | with_reducible refine r_nopart ?_ | with_reducible refine r_part ?_ | with_reducible refine r_exI ?_ | with_reducible refine r_dget ?_ | with_reducible refine r_din ?_ | with_reducible refine r_dnotin ?_ | with_reducible refine r_dput ?_ | with_reducible refine r_isN ?_ | with_reducible refine r_notN ?_ | with_reducible refine r_bm ?_ | with_reducible refine r_bm0 ?_ | with_reducible refine r_retN ?_ | with_reducible refine r_lc ?_ | with_reducible refine r_for ?_ | with_reducible refine r_iStr ?_ | with_reducible refine r_exS ?_ | with_reducible refine r_iList ?_ | with_reducible refine r_iTup ?_ | with_reducible refine r_iRng ?_ | with_reducible refine r_m1 ?_ | with_reducible refine r_strM ?_ | with_reducible refine r_tB ?_ | with_reducible refine r_dc ?_ | with_reducible refine r_iZipS ?_ | with_reducible refine r_lc2 ?_ | with_reducible refine r_iZip ?_ | with_reducible refine r_tCmp ?_ | with_reducible refine r_newT ?_ | with_reducible refine r_newK ?_ | with_reducible refine r_sfld ?_ | with_reducible refine r_fld ?_ | with_reducible refine r_make ?_ | with_reducible refine r_pr ?_ | with_reducible refine r_dt ?_ | with_reducible refine r_iKeys ?_ | with_reducible refine r_dget2 ?_))
local macro_rules | `(tactic| walk_at "nw") => `(tactic| (intro q nq; generalize hH : upd _ q _ = H1; have s1 := same_upd_eq nq hH; have hq := upd_eq hH; clear hH))
theorem filt_rows {l : List (List Nat)} {f : V → Bool} {g : List Nat → Bool} (h : ∀ r, f (txv r) = g r) : ((l.map txv).filter f).map (fun x => x) = (l.filter g).map txv := by
  rw [List.map_id', List.filter_map]
  congr 1
  exact List.filter_congr fun t _ => h t
def goodV (B : Box) : V → Bool
  | .str z => B.good z.cps.toList
  | _ => false
theorem goodV_tx (B : Box) (r : List Nat) : goodV B (txv r) = B.good r := by
  show B.good (tx r).cps.toList = _
  rw [tx_toList]
theorem map_txv (l : List (List Nat)) : l.map txv = (l.map tx).map V.str := by rw [List.map_map]; rfl
theorem mem_tx {l : List (List Nat)} {r : List Nat} : tx r ∈ l.map tx ↔ r ∈ l := by
  constructor
  · intro h
    obtain ⟨u, hu, e⟩ := List.mem_map.mp h
    rw [← tx_inj e]
    exact hu
  · exact fun h => List.mem_map.mpr ⟨r, h, rfl⟩
theorem mem_pieces {k : Nat} {r p : List Nat} (h : p ∈ pieces k r) : ∀ c ∈ p, c ∈ marked r := by
  unfold pieces at h
  split at h
  · rw [List.mem_singleton.mp h]
    exact fun c hc => hc
  · obtain ⟨i, _, rfl⟩ := List.mem_map.mp h
    exact fun c hc => List.mem_of_mem_drop (List.mem_of_mem_take hc)
theorem len_pieces (k : Nat) (r : List Nat) : (pieces k r).length ≤ r.length + 3 := by
  unfold pieces
  have := len_marked r
  split
  · simp
  · rw [List.length_map, List.length_range]
    omega
theorem sok_piece {B : Box} (ok : B.Ok) {k : Nat} {r p : List Nat} (ho : Over B.sg r) (h : p ∈ pieces k r) : Sok (tx p) := sok_of fun c hc => by
  rw [tx_toList] at hc
  have := mem_pieces h c hc
  unfold marked at this
  rcases List.mem_cons.mp this with rfl | this
  · omega
  rcases List.mem_append.mp this with h1 | h1
  · have := (ok.abc c (ho c h1)).2
    omega
  · rw [List.mem_singleton.mp h1]
    omega
theorem look_so {B : Box} {k : Nat} (h : SoLast B k) {u v : List Nat} (ou : Over B.sg u) (ov : Over B.sg v) (e : (lookW k u, decide (u.length < k)) = (lookW k v, decide (v.length < k))) : B.good u = B.good v := by
  have e1 : lookW k u = lookW k v := congrArg Prod.fst e
  have e2 : decide (u.length < k) = decide (v.length < k) := congrArg Prod.snd e
  have e3 : u.length < k ↔ v.length < k := decide_eq_decide.mp e2
  unfold lookW at e1
  by_cases hu : u.length < k
  · rw [if_pos hu, if_pos (e3.mp hu)] at e1
    rw [e1]
  · rw [if_neg hu, if_neg (fun z => hu (e3.mpr z))] at e1
    have := fun z => hu (e3.mpr z)
    exact h u v ou ov (by omega) (by omega) e1
section
variable {σ : L2.St} {H : Hp} {Q : VK} {P : Program} {w : World} {D : Ends} {ty td tv : TE}
theorem r_newL (h : ∀ p H', H p = none → Same H H' → LooksAt P w H' p [] → Q (.ref p) H') : tDNewL P w σ H Q := h
theorem r_lin (h : ty σ H fun y H1 => td σ H1 fun x H2 => ∃ a b rb ks, x = .ref a ∧ y = .ref b ∧ LooksAt P w H2 a ks ∧ H2 b = some (.tup [txv rb.1, .bl rb.2]) ∧ Q (.bl (decide (rb ∈ ks))) H2) : tLIn P w ty td σ H Q := h
theorem r_lput (h : tv σ H fun v H1 => td σ H1 fun x H2 => ty σ H2 fun y H3 => ∃ a b rb ks, x = .ref a ∧ y = .ref b ∧ LooksAt P w H3 a ks ∧ H3 b = some (.tup [txv rb.1, .bl rb.2]) ∧ ks.length < 1000000 ∧
  ∀ H4, But a H3 H4 → LooksAt P w H4 a (rb :: ks) → D.nx σ H4) : sLPut P w td ty tv D σ H := h
end
section
variable {P : Program} {w : World} {K : PySem.W.Frag} {mg : Str → Option Value} {base : Heap}
def spIsSo : Sp := fun vs H Q _ => ∃ (a b la : Addr) (A : Box) (sort : Str) (n : Nat) (ws : List (List Nat)), vs = [.ref a, .ref b, .str sort, .int n, .ref la] ∧ BoxAt H a A ∧ A.Ok ∧ H la = some (.lst (ws.map txv)) ∧ RowsOk A.sg 7 ws ∧ ws.length ≤ 20000 ∧ 1 ≤ n ∧ n ≤ 4 ∧
  ((sort = "within" ∧ ∃ B, BoxAt H b B ∧ B.Ok ∧ A.sg = B.sg ∧ SoIn A B) ∨ (sort = "last" ∧ SoLast A n) ∨ (sort = "windows" ∧ SoWin A n)) ∧ ∀ H', Same H H' → Q (.bl true) H'
abbrev nIsSo : List Str := ["_law_box_here", "_law_mate", "_law_sort", "_law_size", "_law_lines", "_law_line", "_law_good", "_law_looks_here", "_law_piece"]
theorem sc_is_so : FnScope nIsSo ["_law_box_here", "_law_mate", "_law_sort", "_law_size", "_law_lines"] (defScope s_law_is_so) := ⟨rfl, rfl, rfl, by decide +kernel, rfl, by decide +kernel, by decide +kernel⟩
theorem hu20 {k : Nat} {A : Around} (hr : Room k A) : A.units + 20 < cLine := by
  have := hr.un
  omega
theorem ok_is_so (T : Txt K mg) : Fn P w K mg base 3 "_law_is_so" ["_law_box_here", "_law_mate", "_law_sort", "_law_size", "_law_lines"] spIsSo := by
  have GF : Fn P w K mg base 2 "_law_is_fine" ["_law_box_here", "_law_line"] spIsFine := ok_is_fine T
  have GK : Fn P w K mg base 2 "_law_look" ["_law_sort", "_law_size", "_law_line"] spLook := (ok_look T).mono (by decide)
  have GP : Fn P w K mg base 2 "_law_pieces" ["_law_size", "_law_line"] spPieces := (ok_pieces T).mono (by decide)
  refine T.d_law_is_so.fn sc_is_so (fun _ _ _ _ _ _ us hl => match us, hl with | [_, _, _, _, _], _ => rfl) (fun vs H Q E h => ?_) (fun cdv Ar outer s H vs Q E hr h => ?_)
  · obtain ⟨a, b, la, A, sort, n, ws, rfl, _⟩ := h
    rfl
  · obtain ⟨a, b, la, A, sort, n, ws, rfl, hA, okA, hla, hws, hlen, n1, n4, alt, k⟩ := h
    have mkGood : ∀ (Qd : V → Hp → Prop), (∀ ga H1, H ga = none → Same H H1 → H1 ga = some (.lst ((ws.filter A.good).map txv)) → Qd (.ref ga) H1) → LcGoal (Itl K la) (gName 5) (tB (tCl spIsFine (tCons (tVar 0) (tCons (tVar 5) tNil)))) (tVar 5) [5] [some (.ref a), some (.ref b), some (.str sort), some (.int n), some (.ref la), none, none, none, none] H Qd := fun Qd hQ => by
      refine lc_L (xs := ws.map txv) (SqL.of hla) (goodV A) (fun x => x) (by rw [List.length_map]; exact big20 (by omega)) (fun y => rfl) (fun x H' hx s Q q => ?_) (fun x H' hx hf s Q q => ?_) (fun ga H1 nga e1 hga => ?_)
      · obtain ⟨r, hr', rfl⟩ := List.mem_map.mp hx
        rw [goodV_tx] at q
        walk_at "rd"
        refine ⟨a, A, r, rfl, hA.same s, okA, (hws r hr').1, fun H5 e5 => ?_⟩
        walk_at "rd"
        exact q H5 e5
      · walk_at "rd"
        exact q _ (Same.refl _)
      · rw [filt_rows (g := A.good) (goodV_tx A)] at hga
        exact hQ ga H1 nga e1 hga
    have goodOf : ∀ r, r ∈ ws.filter A.good → r ∈ ws ∧ A.good r = true := fun r h => List.mem_filter.mp h
    have lgood : (ws.filter A.good).length ≤ 20000 := Nat.le_trans (List.length_filter_le _ _) hlen
    rcases alt with ⟨rfl, B, hB, okB, esg, so⟩ | ⟨rfl, so⟩ | ⟨rfl, so⟩
    · refine ⟨_, pss_cons (ps_setLc (i := 6) (own := [("_law_line", 5)]) (g := gName 5) (tt := tB (tCl spIsFine (tCons (tVar 0) (tCons (tVar 5) tNil)))) rfl sc_is_so.nd rfl rfl (sw_true rfl rfl rfl (by decide +kernel)) (pi_list (pv 4)) (blkOk_by (N := nIsSo) (sc := defScope s_law_is_so) (by decide +kernel))
            (fun _ _ _ _ _ => pg_name (i := 5) sc_is_so.nd rfl (Or.inl rfl)) (fun _ _ _ _ _ => pts_one (pt_val (pcall GF hr (pa_cons (pv 0) (pa_cons (pv 5) pa_nil))))) (fun _ _ _ _ _ => pv 5))
        (pss_cons (ps_if (pt_cmpR op_eq (pv 2) pe_str (nomark _)) (pss_one (ps_ret (pe_cmpR (op_eqD hr.units) (pe_lc (own := [("_law_line", 5)]) (g := gName 5) (tt := tNot (tB (tCl spIsFine (tCons (tVar 1) (tCons (tVar 5) tNil))))) rfl sc_is_so.nd (pi_list (pv 6)) (blkOk_by (N := nIsSo) (sc := defScope s_law_is_so) (by decide +kernel))
            (fun _ _ _ _ _ => pg_name (i := 5) sc_is_so.nd rfl (Or.inl rfl)) (fun _ _ _ _ _ => pts_one (pt_not (pt_val (pcall GF hr (pa_cons (pv 1) (pa_cons (pv 5) pa_nil)))))) (fun _ _ _ _ _ => pv 5)) (pe_lst pa_nil) (nomark _)))) pss_nil) pss_never), ?_⟩
      walk_at "rd"
      refine ⟨la, rfl, ⟨_, SqL.of hla⟩, ?_⟩
      refine mkGood _ fun ga H1 nga e1 hga => ?_
      walk_at "rd"
      rw [show decide (V.str ("within" : Str) = V.str ("within" : Str)) = true by simp]
      refine iteT ?_
      walk_at "rd"
      refine ⟨ga, rfl, ⟨_, SqL.of hga⟩, ?_⟩
      refine lc_L (xs := (ws.filter A.good).map txv) (SqL.of hga) (fun x => !goodV B x) (fun x => x) (by rw [List.length_map]; exact big20 (by omega)) (fun y => rfl) (fun x H' hx s Q q => ?_) (fun x H' hx hf s Q q => ?_) (fun D H2 nD e2 hD => ?_)
      · obtain ⟨r, hr', rfl⟩ := List.mem_map.mp hx
        simp only [goodV_tx] at q
        walk_at "rd"
        refine ⟨b, B, r, rfl, hB.same (e1.trans s), okB, by rw [← esg]; exact (hws r (goodOf r hr').1).1, fun H5 e5 => ?_⟩
        walk_at "rd"
        exact q H5 e5
      · walk_at "rd"
        exact q _ (Same.refl _)
      rw [filt_rows (g := fun r => !B.good r) (fun r => by rw [goodV_tx])] at hD
      have emp : (ws.filter A.good).filter (fun r => !B.good r) = [] := by
        rw [List.filter_eq_nil_iff]
        intro r hr'
        obtain ⟨h1, h2⟩ := goodOf r hr'
        rw [so r (hws r h1).1 h2]
        decide
      rw [emp] at hD
      walk_at "rd"
      refine ⟨by show 0 ≤ sizeLine; decide, ?_⟩
      walk_at "nw"
      rename_i q nq H3 e3 hq
      refine ⟨_, _, .lst (SqL.of (e3 _ _ hD)) .nil, .lst (SqL.of hq) .nil, by decide +kernel, by decide +kernel, ?_⟩
      rw [show PyData.eqv (.list []) (.list []) = true by decide +kernel]
      exact k _ ((e1.trans e2).trans e3)
    · refine ⟨_, pss_cons (ps_setLc (i := 6) (own := [("_law_line", 5)]) (g := gName 5) (tt := tB (tCl spIsFine (tCons (tVar 0) (tCons (tVar 5) tNil)))) rfl sc_is_so.nd rfl rfl (sw_true rfl rfl rfl (by decide +kernel)) (pi_list (pv 4)) (blkOk_by (N := nIsSo) (sc := defScope s_law_is_so) (by decide +kernel))
            (fun _ _ _ _ _ => pg_name (i := 5) sc_is_so.nd rfl (Or.inl rfl)) (fun _ _ _ _ _ => pts_one (pt_val (pcall GF hr (pa_cons (pv 0) (pa_cons (pv 5) pa_nil))))) (fun _ _ _ _ _ => pv 5))
        (pss_cons (ps_if (pt_cmpR op_eq (pv 2) pe_str (nomark _)) pss_never pss_nil)
        (pss_cons (ps_set (i := 7) sc_is_so.nd rfl (.inr rfl) pe_dnewL)
        (pss_cons (ps_for PassesOwn.never rfl (pi_list (pv 6)) (pg_name (i := 5) sc_is_so.nd rfl (.inl rfl))
          (pss_one (ps_if (pt_cmpR op_eq (pv 2) pe_str (nomark _)) (pss_one (ps_lput (hu20 hr) (pv 7) (pcall GK hr (pa_cons pe_str (pa_cons (pv 3) (pa_cons (pv 5) pa_nil)))) pe_bl rfl)) pss_never)))
        (pss_cons (ps_for PassesOwn.never rfl (pi_list (pv 4)) (pg_name (i := 5) sc_is_so.nd rfl (.inl rfl))
          (pss_cons (ps_if (PW.pt (pw_and (pt_cmpR op_notIn_seq (pv 5) (pv 6) (by rfl)) (pw_and (pt_cmpR op_eq (pv 2) pe_str (nomark _)) (pw_and1 (pt_cmp (pc_lin (hu20 hr) (pcall GK hr (pa_cons pe_str (pa_cons (pv 3) (pa_cons (pv 5) pa_nil)))) (pv 7))))))) (pss_one (ps_ret pe_bl)) pss_nil)
          (pss_one (ps_if (PW.pt (pw_and (pt_cmpR op_notIn_seq (pv 5) (pv 6) (by rfl)) (pw_and1 (pt_cmpR op_eq (pv 2) pe_str (nomark _))))) pss_never pss_nil))))
        (pss_one (ps_ret pe_bl)))))), ?_⟩
      walk_at "rd"
      refine ⟨la, rfl, ⟨_, SqL.of hla⟩, ?_⟩
      refine mkGood _ fun ga H1 nga e1 hga => ?_
      walk_at "rd"
      rw [show decide (V.str ("last" : Str) = V.str ("within" : Str)) = false by decide +kernel]
      refine iteF ?_
      walk_at "rd"
      refine r_newL fun lk H2 nlk e2 hlk => ?_
      walk_at "rd"
      refine ⟨ga, rfl, ⟨_, SqL.of (e2 _ _ hga)⟩, ?_⟩
      refine for_it (walk_list (K := K) (a := ga) (xs := (ws.filter A.good).map txv)) (fun i σ' H' => ∃ v5 v8 ks, σ' = [some (.ref a), some (.ref b), some (.str "last"), some (.int n), some (.ref la), v5, some (.ref ga), some (.ref lk), v8] ∧ Same H1 H' ∧ LooksAt P w H' lk ks ∧ ks.length ≤ i ∧ ∀ rb ∈ ks, ∃ g, g ∈ ws.filter A.good ∧ rb = (lookW n g, decide (g.length < n)))
        ⟨none, none, [], rfl, e2, hlk, Nat.le_refl _, (fun rb h => by cases h)⟩ (fun i σ' H' _ q => ?_) ?_ ?_
      · obtain ⟨_, _, _, _, e, _⟩ := q
        exact SqL.of (e _ _ hga)
      · rintro i x σ' H' H'' hi ⟨v5, v8, ks, rfl, e3, hL, hk, hks⟩ ⟨rfl, hy⟩
        rw [List.length_map] at hi
        have hr' : (ws.filter A.good)[i]? = some (ws.filter A.good)[i] := List.getElem?_eq_getElem hi
        generalize (ws.filter A.good)[i] = r at hr'
        rw [List.getElem?_map, hr'] at hy
        have ex : txv r = x := Option.some.inj hy
        subst ex
        have hrg := List.mem_of_getElem? hr'
        obtain ⟨hrw, _⟩ := goodOf r hrg
        walk_at "rd"
        rw [show decide (V.str ("last" : Str) = V.str ("last" : Str)) = true by simp]
        refine iteT ?_
        refine r_lput ?_
        walk_at "rd"
        refine ⟨n, r, rfl, (hws r hrw).2, fun H4 q e4 hq => ?_⟩
        refine ⟨lk, q, (lookW n r, decide (r.length < n)), ks, rfl, rfl, hL.same e4, hq, by omega, fun H5 b5 hL5 => ?_⟩
        refine ⟨_, _, _, rfl, fun c o hc => b5 _ _ (ne_of_none hc nlk) (e4 _ _ (e3 _ _ hc)), hL5, by rw [List.length_cons]; omega, fun rb hrb => ?_⟩
        rcases List.mem_cons.mp hrb with rfl | hrb
        · exact ⟨r, hrg, rfl⟩
        · exact hks rb hrb
      · rintro σ' H' ⟨v5, v8, ks, rfl, e3, hL, hk, hks⟩
        walk_at "rd"
        refine ⟨la, rfl, ⟨_, SqL.of (e3 _ _ (e1 _ _ hla))⟩, ?_⟩
        refine for_it (walk_list (K := K) (a := la) (xs := ws.map txv)) (fun i σ'' H'' => ∃ v5, σ'' = [some (.ref a), some (.ref b), some (.str "last"), some (.int n), some (.ref la), v5, some (.ref ga), some (.ref lk), v8] ∧ Same H' H'')
          ⟨v5, rfl, Same.refl _⟩ (fun i σ' H' _ q => ?_) ?_ ?_
        · obtain ⟨_, _, e⟩ := q
          exact SqL.of (e _ _ (e3 _ _ (e1 _ _ hla)))
        · rintro i x σ' H4 H'' hi ⟨v5, rfl, e4⟩ ⟨rfl, hy⟩
          rw [List.length_map] at hi
          have hr' : ws[i]? = some ws[i] := List.getElem?_eq_getElem hi
          generalize ws[i] = r at hr'
          rw [List.getElem?_map, hr'] at hy
          have ex : txv r = x := Option.some.inj hy
          subst ex
          have hrw := List.mem_of_getElem? hr'
          have hga4 := e4 _ _ (e3 _ _ hga)
          rw [map_txv] at hga4
          walk_at "rd"
          refine r_notInL (.inl (SqL.of hga4)) ?_
          walk_at "rd"
          by_cases hin : r ∈ ws.filter A.good
          · rw [decide_eq_true (mem_tx.mpr hin)]
            refine iteF ?_
            refine iteF ?_
            walk_at "rd"
            refine r_notInL (.inl (SqL.of hga4)) ?_
            walk_at "rd"
            rw [decide_eq_true (mem_tx.mpr hin)]
            refine iteF ?_
            refine iteF ?_
            walk_at "rd"
            exact ⟨_, rfl, e4⟩
          · rw [decide_eq_false (fun z => hin (mem_tx.mp z))]
            have hbad : A.good r = false := by
              cases hz : A.good r with
              | false => rfl
              | true => exact absurd (List.mem_filter.mpr ⟨hrw, hz⟩) hin
            refine iteT ?_
            walk_at "rd"
            rw [show decide (V.str ("last" : Str) = V.str ("last" : Str)) = true by simp]
            refine iteT ?_
            walk_at "rd"
            refine r_lin ?_
            walk_at "rd"
            refine ⟨n, r, rfl, (hws r hrw).2, fun H5 q e5 hq => ?_⟩
            walk_at "rd"
            refine ⟨lk, q, (lookW n r, decide (r.length < n)), ks, rfl, rfl, (hL.same e4).same e5, hq, ?_⟩
            have hno : (lookW n r, decide (r.length < n)) ∉ ks := fun hm => by
              obtain ⟨g, hg, e⟩ := hks _ hm
              obtain ⟨hgw, hgg⟩ := goodOf g hg
              have := look_so so (hws r hrw).1 (hws g hgw).1 e
              rw [hbad, hgg] at this
              cases this
            rw [decide_eq_false hno]
            walk_at "rd"
            refine iteF ?_
            walk_at "rd"
            refine r_notInL (.inl (SqL.of (e5 _ _ hga4))) ?_
            walk_at "rd"
            rw [decide_eq_false (fun z => hin (mem_tx.mp z))]
            refine iteT ?_
            walk_at "rd"
            rw [show decide (V.str ("last" : Str) = V.str ("windows" : Str)) = false by decide +kernel]
            refine iteF ?_
            walk_at "rd"
            exact ⟨_, rfl, e4.trans e5⟩
        · rintro σ' H4 ⟨v5, rfl, e4⟩
          walk_at "rd"
          exact k _ ((e1.trans e3).trans e4)
    · refine ⟨_, pss_cons (ps_setLc (i := 6) (own := [("_law_line", 5)]) (g := gName 5) (tt := tB (tCl spIsFine (tCons (tVar 0) (tCons (tVar 5) tNil)))) rfl sc_is_so.nd rfl rfl (sw_true rfl rfl rfl (by decide +kernel)) (pi_list (pv 4)) (blkOk_by (N := nIsSo) (sc := defScope s_law_is_so) (by decide +kernel))
            (fun _ _ _ _ _ => pg_name (i := 5) sc_is_so.nd rfl (Or.inl rfl)) (fun _ _ _ _ _ => pts_one (pt_val (pcall GF hr (pa_cons (pv 0) (pa_cons (pv 5) pa_nil))))) (fun _ _ _ _ _ => pv 5))
        (pss_cons (ps_if (pt_cmpR op_eq (pv 2) pe_str (nomark _)) pss_never pss_nil)
        (pss_cons (ps_set (i := 7) sc_is_so.nd rfl (.inr rfl) pe_dnewK)
        (pss_cons (ps_for PassesOwn.never rfl (pi_list (pv 6)) (pg_name (i := 5) sc_is_so.nd rfl (.inl rfl))
          (pss_one (ps_if (pt_cmpR op_eq (pv 2) pe_str (nomark _)) pss_never
            (pss_one (ps_for PassesOwn.never rfl (pi_list (pcall GP hr (pa_cons (pv 3) (pa_cons (pv 5) pa_nil)))) (pg_name (i := 8) sc_is_so.nd rfl (.inl rfl))
              (pss_one (ps_dput (hu_of hr) (pv 7) (pv 8) pe_bl rfl)))))))
        (pss_cons (ps_for PassesOwn.never rfl (pi_list (pv 4)) (pg_name (i := 5) sc_is_so.nd rfl (.inl rfl))
          (pss_cons (ps_if (PW.pt (pw_and (pt_cmpR op_notIn_seq (pv 5) (pv 6) (by rfl)) (pw_and (pt_cmpR op_eq (pv 2) pe_str (nomark _)) (pw_and1 (pt_cmp (pc_din (hu_of hr) (pcall GK hr (pa_cons pe_str (pa_cons (pv 3) (pa_cons (pv 5) pa_nil)))) (pv 7))))))) (pss_one (ps_ret pe_bl)) pss_nil)
          (pss_one (ps_if (PW.pt (pw_and (pt_cmpR op_notIn_seq (pv 5) (pv 6) (by rfl)) (pw_and1 (pt_cmpR op_eq (pv 2) pe_str (nomark _)))))
            (pss_one (ps_if (pt_cmpR (op_eqD hr.units) (pe_lc (own := [("_law_piece", 8)]) (g := gName 8) (tt := tB (tDNotIn (tVar 8) (tVar 7))) rfl sc_is_so.nd (pi_list (pcall GP hr (pa_cons (pv 3) (pa_cons (pv 5) pa_nil)))) (blkOk_by (N := nIsSo) (sc := defScope s_law_is_so) (by decide +kernel))
              (fun _ _ _ _ _ => pg_name (i := 8) sc_is_so.nd rfl (Or.inl rfl)) (fun _ _ _ _ _ => pts_one (pt_cmp (pc_dnotin (hu_of hr) (pv 8) (pv 7)) (by rfl))) (fun _ _ _ _ _ => pv 8)) (pe_lst pa_nil) (nomark _)) (pss_one (ps_ret pe_bl)) pss_nil)) pss_nil))))
        (pss_one (ps_ret pe_bl)))))), ?_⟩
      walk_at "rd"
      refine ⟨la, rfl, ⟨_, SqL.of hla⟩, ?_⟩
      refine mkGood _ fun ga H1 nga e1 hga => ?_
      walk_at "rd"
      rw [show decide (V.str ("windows" : Str) = V.str ("within" : Str)) = false by decide +kernel]
      refine iteF ?_
      walk_at "rd"
      walk_at "nw"
      rename_i lk nlk H2 e2 hlk
      walk_at "rd"
      refine ⟨ga, rfl, ⟨_, SqL.of (e2 _ _ hga)⟩, ?_⟩
      have esz : ∀ m : List Str, (keysT m).length = m.length := fun m => by unfold keysT; rw [List.length_map]
      refine for_it (walk_list (K := K) (a := ga) (xs := (ws.filter A.good).map txv)) (fun i σ' H' => ∃ v5 v8 ks, σ' = [some (.ref a), some (.ref b), some (.str "windows"), some (.int n), some (.ref la), v5, some (.ref ga), some (.ref lk), v8] ∧ Same H1 H' ∧ H' lk = some (.dK (keysT ks)) ∧ ks.length ≤ i * 10 ∧ ∀ z ∈ ks, ∃ g, g ∈ ws.filter A.good ∧ ∃ p ∈ pieces n g, z = tx p)
        ⟨none, none, [], rfl, e2, hlk, Nat.le_refl _, (fun z h => by cases h)⟩ (fun i σ' H' _ q => ?_) ?_ ?_
      · obtain ⟨_, _, _, _, e, _⟩ := q
        exact SqL.of (e _ _ hga)
      · rintro i x σ' H' H'' hi ⟨v5, v8, ks, rfl, e3, hL, hk, hks⟩ ⟨rfl, hy⟩
        rw [List.length_map] at hi
        have hr' : (ws.filter A.good)[i]? = some (ws.filter A.good)[i] := List.getElem?_eq_getElem hi
        generalize (ws.filter A.good)[i] = r at hr'
        rw [List.getElem?_map, hr'] at hy
        have ex : txv r = x := Option.some.inj hy
        subst ex
        have hrg := List.mem_of_getElem? hr'
        obtain ⟨hrw, _⟩ := goodOf r hrg
        have r7 := (hws r hrw).2
        have lp := len_pieces n r
        walk_at "rd"
        rw [show decide (V.str ("windows" : Str) = V.str ("last" : Str)) = false by decide +kernel]
        refine iteF ?_
        walk_at "rd"
        refine ⟨n, r, rfl, by omega, r7, fun H4 pl e4 hpl => ?_⟩
        walk_at "rd"
        refine ⟨pl, rfl, ⟨_, SqL.of hpl⟩, ?_⟩
        have nplk : pl ≠ lk := ne_of hpl (e4 _ _ hL) (by intro z; cases z)
        refine for_it (walk_list (K := K) (a := pl) (xs := (pieces n r).map txv)) (fun j σ' H' => ∃ v8 ks, σ' = [some (.ref a), some (.ref b), some (.str "windows"), some (.int n), some (.ref la), some (txv r), some (.ref ga), some (.ref lk), v8] ∧ But lk H4 H' ∧ H' lk = some (.dK (keysT ks)) ∧ ks.length ≤ i * 10 + j ∧ ∀ z ∈ ks, ∃ g, g ∈ ws.filter A.good ∧ ∃ p ∈ pieces n g, z = tx p)
          ⟨v8, ks, rfl, But.refl _ _, e4 _ _ hL, by omega, hks⟩ (fun j σ' H' _ q => ?_) ?_ ?_
        · obtain ⟨_, _, _, e, _⟩ := q
          exact SqL.of (e _ _ nplk hpl)
        · rintro j x σ' H' H'' hj ⟨v8, ks, rfl, b5, hL, hk, hks⟩ ⟨rfl, hy⟩
          rw [List.length_map] at hj
          have hp' : (pieces n r)[j]? = some (pieces n r)[j] := List.getElem?_eq_getElem hj
          generalize (pieces n r)[j] = pc at hp'
          rw [List.getElem?_map, hp'] at hy
          have ex : txv pc = x := Option.some.inj hy
          subst ex
          have hpm := List.mem_of_getElem? hp'
          walk_at "rd"
          refine ⟨lk, _, rfl, DPut.k (k := .inr (tx pc)) hL (by rw [esz]; exact big20 (by omega)), ?_⟩
          by_cases hin : tx pc ∈ ks
          · rw [put_keysT_old hin]
            refine ⟨_, ks, rfl, b5.trans But.upd, upd_same, by omega, hks⟩
          · rw [put_keysT hin]
            refine ⟨_, ks ++ [tx pc], rfl, b5.trans But.upd, upd_same, by rw [List.length_append, List.length_singleton]; omega, fun z hz => ?_⟩
            rcases List.mem_append.mp hz with h | h
            · exact hks z h
            · exact ⟨r, hrg, pc, hpm, List.mem_singleton.mp h⟩
        · rintro σ' H' ⟨v8, ks, rfl, b5, hL, hk, hks⟩
          rw [List.length_map] at hk
          exact ⟨_, _, ks, rfl, fun c o hc => b5 _ _ (ne_of_none hc nlk) (e4 _ _ (e3 _ _ hc)), hL, by omega, hks⟩
      · rintro σ' H' ⟨v5, v8, ks, rfl, e3, hL, hk, hks⟩
        walk_at "rd"
        refine ⟨la, rfl, ⟨_, SqL.of (e3 _ _ (e1 _ _ hla))⟩, ?_⟩
        refine for_it (walk_list (K := K) (a := la) (xs := ws.map txv)) (fun i σ'' H'' => ∃ v5 v8, σ'' = [some (.ref a), some (.ref b), some (.str "windows"), some (.int n), some (.ref la), v5, some (.ref ga), some (.ref lk), v8] ∧ Same H' H'')
          ⟨v5, v8, rfl, Same.refl _⟩ (fun i σ' H' _ q => ?_) ?_ ?_
        · obtain ⟨_, _, _, e⟩ := q
          exact SqL.of (e _ _ (e3 _ _ (e1 _ _ hla)))
        · rintro i x σ' H4 H'' hi ⟨v5, v8, rfl, e4⟩ ⟨rfl, hy⟩
          rw [List.length_map] at hi
          have hr' : ws[i]? = some ws[i] := List.getElem?_eq_getElem hi
          generalize ws[i] = r at hr'
          rw [List.getElem?_map, hr'] at hy
          have ex : txv r = x := Option.some.inj hy
          subst ex
          have hrw := List.mem_of_getElem? hr'
          obtain ⟨ro, r7⟩ := hws r hrw
          have lp := len_pieces n r
          have hga4 := e4 _ _ (e3 _ _ hga)
          rw [map_txv] at hga4
          walk_at "rd"
          refine r_notInL (.inl (SqL.of hga4)) ?_
          walk_at "rd"
          by_cases hin : r ∈ ws.filter A.good
          · rw [decide_eq_true (mem_tx.mpr hin)]
            refine iteF ?_
            refine iteF ?_
            walk_at "rd"
            refine r_notInL (.inl (SqL.of hga4)) ?_
            walk_at "rd"
            rw [decide_eq_true (mem_tx.mpr hin)]
            refine iteF ?_
            refine iteF ?_
            walk_at "rd"
            exact ⟨_, _, rfl, e4⟩
          · rw [decide_eq_false (fun z => hin (mem_tx.mp z))]
            have hbad : A.good r = false := by
              cases hz : A.good r with
              | false => rfl
              | true => exact absurd (List.mem_filter.mpr ⟨hrw, hz⟩) hin
            obtain ⟨pc, hpc, hno⟩ := so r ro hbad
            have hnk : tx pc ∉ ks := fun hm => by
              obtain ⟨g, hg, p, hp, e⟩ := hks _ hm
              obtain ⟨hgw, hgg⟩ := goodOf g hg
              rw [tx_inj e] at hno
              exact hno g (hws g hgw).1 hgg hp
            refine iteT ?_
            walk_at "rd"
            rw [show decide (V.str ("windows" : Str) = V.str ("last" : Str)) = false by decide +kernel]
            refine iteF ?_
            refine iteF ?_
            walk_at "rd"
            refine r_notInL (.inl (SqL.of hga4)) ?_
            walk_at "rd"
            rw [decide_eq_false (fun z => hin (mem_tx.mp z))]
            refine iteT ?_
            walk_at "rd"
            rw [show decide (V.str ("windows" : Str) = V.str ("windows" : Str)) = true by simp]
            refine iteT ?_
            walk_at "rd"
            refine ⟨n, r, rfl, by omega, r7, fun H5 pl e5 hpl => ?_⟩
            walk_at "rd"
            refine ⟨pl, rfl, ⟨_, SqL.of hpl⟩, ?_⟩
            rw [map_txv] at hpl
            refine lc_L (xs := ((pieces n r).map tx).map V.str) (SqL.of hpl) (fun x => match x with | .str z => !decide (z ∈ ks) | _ => false) (fun x => x) (by rw [List.length_map, List.length_map]; exact big20 (by omega)) (fun y => rfl) (fun x H6 hx s Q q => ?_) (fun x H6 hx hf s Q q => ?_) (fun D H6 nD e6 hD => ?_)
            · obtain ⟨z, hz, rfl⟩ := List.mem_map.mp hx
              walk_at "rd"
              refine ⟨lk, _, rfl, DGet.k (k := .inr z) (s _ _ (e5 _ _ (e4 _ _ hL))), ?_⟩
              rw [val_keysT]
              walk_at "rd"
              exact q _ (Same.refl _)
            · walk_at "rd"
              exact q _ (Same.refl _)
            rw [filt_txs (g := fun z => !decide (z ∈ ks)) (fun t => rfl)] at hD
            walk_at "rd"
            refine ⟨by show 0 ≤ sizeLine; decide, ?_⟩
            walk_at "nw"
            rename_i q nq H7 e7 hq
            refine ⟨_, _, .lst (SqL.of (e7 _ _ hD)) (dp_strs _), .lst (SqL.of hq) .nil, shaped_list (fun x hx => ?_), by decide +kernel, ?_⟩
            · obtain ⟨p, hp, rfl⟩ := List.mem_map.mp (List.mem_filter.mp hx).1
              exact sok_piece okA ro hp
            rw [eqv_list, eqvAll_nil]
            have hne : ((((pieces n r).map tx).filter fun z => !decide (z ∈ ks)).map PyData.str).isEmpty = false := by
              have hm : tx pc ∈ ((pieces n r).map tx).filter fun z => !decide (z ∈ ks) := List.mem_filter.mpr ⟨List.mem_map.mpr ⟨pc, hpc, rfl⟩, by rw [decide_eq_false hnk]; rfl⟩
              cases hz : ((pieces n r).map tx).filter fun z => !decide (z ∈ ks) with
              | nil => rw [hz] at hm; cases hm
              | cons x l => rfl
            rw [hne]
            walk_at "rd"
            refine iteF ?_
            walk_at "rd"
            exact ⟨_, _, rfl, ((e4.trans e5).trans e6).trans e7⟩
        · rintro σ' H4 ⟨v5, v8, rfl, e4⟩
          walk_at "rd"
          exact k _ ((e1.trans e3).trans e4)
end
end K73

set_option Elab.async false
set_option linter.all false
set_option maxRecDepth 100000
set_option maxHeartbeats 4000000
namespace K73
open PySem PySem.Spec PyProof.Rows L2
local macro_rules | `(tactic| walk_at "rd") => `(tactic| repeat (first | with_reducible refine r_seq ?_ | with_reducible refine r_asg ?_ | with_reducible refine r_ret ?_ | with_reducible refine r_op ?_ | with_reducible refine r_var (by with_unfolding_all rfl) ?_ | with_reducible refine r_c ?_ | with_reducible refine r_cons ?_ | with_reducible refine r_nil ?_ | with_reducible refine r_gname ?_ | with_reducible refine r_ifS ?_ | with_reducible refine r_test ?_ | with_reducible refine r_bl ?_ | with_reducible refine r_I0 ?_ | with_reducible refine r_cb ?_ | with_reducible refine r_cl ?_ | with_reducible refine r_tup ?_ | with_reducible refine r_lst ?_ | with_reducible refine r_gsub ?_ | with_reducible refine r_gcons ?_ | with_reducible refine r_gnil ?_ | with_reducible refine r_drop ?_ | with_reducible refine r_next ?_ | with_reducible refine r_par ?_ | with_reducible refine r_par2 ?_ | with_reducible refine r_and ?_ | with_reducible refine r_or ?_ | with_reducible refine r_not ?_ | with_reducible refine r_yes ?_ | with_reducible refine r_andV ?_ | with_reducible refine r_orV ?_ | with_reducible refine r_notV ?_ | with_reducible refine r_if ?_ | with_reducible refine r_chain ?_ | with_reducible refine r_U ?_ | with_reducible refine r_un ?_ | with_reducible refine r_eq (by with_unfolding_all rfl) ?_ | with_reducible refine r_ne (by with_unfolding_all rfl) ?_ | with_reducible refine r_int ?_ | with_reducible refine r_sl ?_ | with_reducible refine r_nopart ?_ | with_reducible refine r_part ?_ | with_reducible refine r_exI ?_ | with_reducible refine r_dget ?_ | with_reducible refine r_din ?_ | with_reducible refine r_dnotin ?_ | with_reducible refine r_dput ?_ | with_reducible refine r_isN ?_ | with_reducible refine r_notN ?_ | with_reducible refine r_bm ?_ | with_reducible refine r_bm0 ?_ | with_reducible refine r_retN ?_ | with_reducible refine r_lc ?_ | with_reducible refine r_for ?_ | with_reducible refine r_iStr ?_ | with_reducible refine r_exS ?_ | with_reducible refine r_iList ?_ | with_reducible refine r_iTup ?_ | with_reducible refine r_iRng ?_ | with_reducible refine r_m1 ?_ | with_reducible refine r_strM ?_ | with_reducible refine r_tB ?_ | with_reducible refine r_dc ?_ | with_reducible refine r_iZipS ?_ | with_reducible refine r_lc2 ?_ | with_reducible refine r_iZip ?_ | with_reducible refine r_tCmp ?_ | with_reducible refine r_newT ?_ | with_reducible refine r_newK ?_ | with_reducible refine r_sfld ?_ | with_reducible refine r_fld ?_ | with_reducible refine r_make ?_ | with_reducible refine r_pr ?_ | with_reducible refine r_dt ?_ | with_reducible refine r_iKeys ?_ | with_reducible refine r_dget2 ?_))
local macro_rules | `(tactic| walk_at "nw") => `(tactic| (intro q nq; generalize hH : upd _ q _ = H1; have s1 := same_upd_eq nq hH; have hq := upd_eq hH; clear hH))
section
variable {P : Program} {w : World} {K : PySem.W.Frag} {mg : Str → Option Value} {base : Heap}
def spRight : Sp := fun vs H Q _ => ∃ p : Addr, vs = [.ref p] ∧ PurseAt H p ∧ ∀ H', But p H H' → Q (.bl true) H'
abbrev nRight : List Str := ["_law_purse_here", "_law_letters_here", "_law_box_here", "_law_mate", "_law_lines", "_law_turn", "_law_sort", "_law_size", "_law_thing"]
theorem sc_right : FnScope nRight ["_law_purse_here"] (defScope s_law_right) := ⟨rfl, rfl, rfl, by decide +kernel, rfl, by decide +kernel, by decide +kernel⟩
theorem PurseAt.not_txv {H : Hp} {p a : Addr} {l : List (List Nat)} (h : PurseAt H p) (e : H a = some (.lst (l.map txv))) : a ≠ p := h.not_strs (l := l.map tx) (by rw [← map_txv]; exact e)
theorem ok_right (T : Txt K mg) : Fn P w K mg base 9 "_law_right" ["_law_purse_here"] spRight := by
  have G : Fn P w K mg base 8 "_law_pick" ["_law_purse_here", "_law_size"] spPick := (ok_pick T T.d_law_pick T.f_int T.f_divmod).mono (by decide)
  have GLt : Fn P w K mg base 8 "_law_letters" ["_law_purse_here", "_law_size"] spLettersOf := (ok_letters T).mono (by decide)
  have GB : Fn P w K mg base 8 "_law_box" ["_law_purse_here", "_law_letters_here"] spBox := (ok_box T).mono (by decide)
  have GW : Fn P w K mg base 8 "_law_wider" ["_law_purse_here", "_law_box_here"] spWider := (ok_wider T).mono (by decide)
  have GR : Fn P w K mg base 8 "_law_rows_to" ["_law_letters_here", "_law_most"] spRows := (ok_rows T).mono (by decide)
  have GT : Fn P w K mg base 8 "_law_text" ["_law_box_here"] spText := (ok_text T).mono (by decide)
  have GA : Fn P w K mg base 8 "accepts" ["claim", "paper"] (spAccepts K) := ok_accepts T
  have GS : Fn P w K mg base 8 "_law_slip" ["_law_purse_here", "_law_box_here", "_law_mate", "_law_sort"] spSlip := (ok_slip T).mono (by decide)
  have GI : Fn P w K mg base 8 "_law_is_so" ["_law_box_here", "_law_mate", "_law_sort", "_law_size", "_law_lines"] spIsSo := (ok_is_so T).mono (by decide)
  refine T.d_law_right.fn sc_right (fun _ _ _ _ _ _ us hl => match us, hl with | [_], _ => rfl) (fun vs H Q E h => ?_) (fun cdv Ar outer s H vs Q E hr h => ?_)
  · obtain ⟨p, rfl, _⟩ := h
    rfl
  · obtain ⟨p, rfl, hp, k⟩ := h
    refine ⟨_, pss_cons (ps_set (i := 1) sc_right.nd rfl (.inl rfl) (pcall GLt hr (pa_cons (pv 0) (pa_cons (pe_op op_add pe_int (pcall G hr (pa_cons (pv 0) (pa_cons pe_int pa_nil)))) pa_nil))))
      (pss_cons (ps_set (i := 2) sc_right.nd rfl (.inl rfl) (pcall GB hr (pa_cons (pv 0) (pa_cons (pv 1) pa_nil))))
      (pss_cons (ps_set (i := 3) sc_right.nd rfl (.inl rfl) (pe_ifExp (pt_cmpR op_eq (pcall G hr (pa_cons (pv 0) (pa_cons pe_int pa_nil))) pe_int (nomark _)) (pcall GW hr (pa_cons (pv 0) (pa_cons (pv 2) pa_nil))) (pcall GB hr (pa_cons (pv 0) (pa_cons (pv 1) pa_nil)))))
      (pss_cons (ps_set (i := 4) sc_right.nd rfl (.inl rfl) (pcall GR hr (pa_cons (pv 1) (pa_cons (pe_ix ix_list (pe_lst (pa_cons pe_int (pa_cons pe_int (pa_cons pe_int pa_nil)))) (pe_op op_sub (pe_callB call_len_str (by rfl) T.f_len PySem.boot_len (pa_cons (pv 1) pa_nil)) pe_int) (fun _ _ => rfl)) pa_nil))))
      (pss_cons (ps_for PassesOwn.never rfl (pi_range1 (by rfl) T.f_range (pa_cons pe_int pa_nil)) (pg_name (i := 5) sc_right.nd rfl (.inl rfl))
        (pss_cons (ps_par (i := 6) (j := 7) rfl sc_right.nd rfl rfl (by decide) rfl rfl (pa_cons (pe_ix ix_list (pe_lst (pa_cons pe_str (pa_cons pe_str (pa_cons pe_str pa_nil)))) (pcall G hr (pa_cons (pv 0) (pa_cons pe_int pa_nil))) (fun _ _ => rfl)) (pa_cons (pe_op op_add pe_int (pcall G hr (pa_cons (pv 0) (pa_cons pe_int pa_nil)))) pa_nil)) (by rfl))
        (pss_cons (ps_set (i := 8) sc_right.nd rfl (.inl rfl) (pe_tup (pa_cons (pv 6) (pa_cons (pcall GT hr (pa_cons (pv 2) pa_nil)) (pa_cons (pe_ifExp (pt_cmpR op_eq (pv 6) pe_str (nomark _)) (pcall GT hr (pa_cons (pv 3) pa_nil)) (pv 7)) pa_nil)))))
        (pss_one (ps_if (PW.pt (pw_and (pt_val (pcall GA hr (pa_cons (pv 8) (pa_cons (pcall GS hr (pa_cons (pv 0) (pa_cons (pv 2) (pa_cons (pv 3) (pa_cons (pv 6) pa_nil))))) pa_nil)))) (pw_and1 (pt_not (pt_val (pcall GI hr (pa_cons (pv 2) (pa_cons (pv 3) (pa_cons (pv 6) (pa_cons (pv 7) (pa_cons (pv 4) pa_nil)))))))))))
          (pss_one (ps_ret pe_bl)) pss_nil)))))
      (pss_one (ps_ret pe_bl)))))), ?_⟩
    walk_at "rd"
    refine ⟨p, 3, rfl, by decide, by decide, hp, fun H1 r1 b1 hp1 r10 r13 => ?_⟩
    walk_at "rd"
    obtain ⟨n, hn⟩ := Int.eq_ofNat_of_zero_le (show 0 ≤ 1 + r1 by omega)
    rw [hn]
    refine ⟨p, n, rfl, by omega, by omega, hp1, fun H2 l b2 hp2 ll asc abc => ?_⟩
    walk_at "rd"
    refine ⟨p, l, rfl, by omega, by omega, asc, abc, hp2, fun H3 a A b3 hp3 hA okA hAl => ?_⟩
    walk_at "rd"
    refine ⟨p, 2, rfl, by decide, by decide, hp3, fun H4 r4 b4 hp4 r40 r42 => ?_⟩
    have hA4 := hA.but hp3 b4
    have b14 := ((b1.trans b2).trans b3).trans b4
    walk_at "rd"
    apply with_restS (A := fun H5 b => But p H H5 ∧ PurseAt H5 p ∧ BoxAt H5 a A ∧ ∃ B, BoxAt H5 b B ∧ B.Ok ∧ B.sg = l)
    · intro main
      refine ite2 (fun _ => ?_) (fun _ => ?_)
      · walk_at "rd"
        refine ⟨p, a, A, rfl, hp4, hA4, okA, fun H5 b M b5 hp5 hM okM hMs => ?_⟩
        exact main H5 b ⟨b14.trans b5, hp5, hA4.but hp4 b5, M, hM, okM, hMs.trans hAl⟩
      · walk_at "rd"
        refine ⟨p, l, rfl, by omega, by omega, asc, abc, hp4, fun H5 b M b5 hp5 hM okM hMs => ?_⟩
        exact main H5 b ⟨b14.trans b5, hp5, hA4.but hp4 b5, M, hM, okM, hMs⟩
    rintro H5 b ⟨b05, hp5, hA5, B, hB5, okB, hBl⟩
    have esg : A.sg = B.sg := hAl.trans hBl.symm
    walk_at "rd"
    refine ⟨by show 3 ≤ sizeLine; decide, ?_⟩
    walk_at "nw"
    rename_i q6 nq6 H6 e6 hq6
    walk_at "rd"
    have ltx : (tx l).length = l.length := tx_len l
    refine ⟨_, rfl, by rw [ltx]; exact Nat.le_trans (show l.length ≤ 3 by omega) (by decide), ?_⟩
    rw [ltx]
    walk_at "rd"
    obtain ⟨m, hm, m7⟩ : ∃ m : Nat, atI [V.int 7, V.int 6, V.int 4] (((l.length : Nat) : Int) - 1) = some (.int m) ∧ m ≤ 7 := by
      have hw : l.length = 1 ∨ l.length = 2 ∨ l.length = 3 := by omega
      rcases hw with h | h | h <;> rw [h]
      · exact ⟨7, atI_nat (j := 0) rfl, by decide⟩
      · exact ⟨6, atI_nat (j := 1) rfl, by decide⟩
      · exact ⟨4, atI_nat (j := 2) rfl, by decide⟩
    refine r_ixL (SqL.of hq6) hm ?_
    walk_at "rd"
    refine ⟨l, m, rfl, by omega, m7, fun H7 la ws e7 hla hws hlen => ?_⟩
    walk_at "rd"
    refine ⟨8, rfl, by decide, by decide, ?_⟩
    have e57 := e6.trans e7
    refine for_it (walk_range (lo := 0) (n := (8 : Int).toNat)) (fun i σ' H' => ∃ v5 v6 v7 v8, σ' = [some (.ref p), some (.str (tx l)), some (.ref a), some (.ref b), some (.ref la), v5, v6, v7, v8] ∧ But p H H' ∧ PurseAt H' p ∧ BoxAt H' a A ∧ BoxAt H' b B ∧ H' la = some (.lst (ws.map txv)))
      ⟨none, none, none, none, rfl, b05.trans (But.of e57), hp5.same e57, hA5.same e57, hB5.same e57, hla⟩ (fun i σ' H' _ q => trivial) ?_ ?_
    · rintro i x σ' H' H'' hi ⟨v5, v6, v7, v8, rfl, bb, hpi, hAi, hBi, hlai⟩ ⟨rfl, rfl⟩
      walk_at "rd"
      refine ⟨by show 3 ≤ sizeLine; decide, ?_⟩
      walk_at "nw"
      rename_i q8 nq8 H8 e8 hq8
      have hp8 := hpi.same e8
      walk_at "rd"
      refine ⟨p, 3, rfl, by decide, by decide, hp8, fun H9 r9 b9 hp9 r90 r93 => ?_⟩
      have nq8p : q8 ≠ p := hpi.not_free nq8
      obtain ⟨sort, hs, hsort⟩ : ∃ z : Str, atI [V.str "last", V.str "windows", V.str "within"] r9 = some (.str z) ∧ (z = "within" ∨ z = "last" ∨ z = "windows") := by
        have hw : r9 = 0 ∨ r9 = 1 ∨ r9 = 2 := by omega
        rcases hw with rfl | rfl | rfl
        · exact ⟨_, atI_nat (j := 0) rfl, .inr (.inl rfl)⟩
        · exact ⟨_, atI_nat (j := 1) rfl, .inr (.inr rfl)⟩
        · exact ⟨_, atI_nat (j := 2) rfl, .inl rfl⟩
      refine r_ixL (SqL.of (b9 _ _ nq8p hq8)) hs ?_
      walk_at "rd"
      refine ⟨p, 4, rfl, by decide, by decide, hp9, fun H10 r10' b10 hp10 r100 r104 => ?_⟩
      walk_at "rd"
      obtain ⟨n', hn'⟩ := Int.eq_ofNat_of_zero_le (show 0 ≤ 1 + r10' by omega)
      rw [hn']
      have hA8 := (((hAi.same e8).but hp8 b9).but hp9 b10)
      have hB8 := (((hBi.same e8).but hp8 b9).but hp9 b10)
      have hla10 : H10 la = some (.lst (ws.map txv)) := b10 _ _ (hpi.not_txv hlai) (b9 _ _ (hpi.not_txv hlai) (e8 _ _ hlai))
      have b010 : But p H H10 := ((bb.trans (But.of e8)).trans b9).trans b10
      walk_at "rd"
      refine ⟨a, A, rfl, hA8, okA, fun H11 e11 => ?_⟩
      walk_at "rd"
      have nla : la ≠ p := hpi.not_txv hlai
      rcases hsort with rfl | hs2
      · rw [show decide (V.str ("within" : Str) = V.str ("within" : Str)) = true by simp]
        refine iteT ?_
        walk_at "rd"
        refine ⟨b, B, rfl, hB8.same e11, okB, fun H12 e12 => ?_⟩
        walk_at "rd"
        refine ⟨by show 3 ≤ sizeLine; decide, ?_⟩
        walk_at "nw"
        rename_i th nth H13 e13 hth
        walk_at "rd"
        have e113 := (e11.trans e12).trans e13
        have hp13 := hp10.same e113
        refine ⟨p, a, b, A, B, "within", rfl, hp13, hA8.same e113, hB8.same e113, okA, okB, esg, .inl rfl, fun _ H14 q ys ps b14 hp14 hq hP hn => ?_, fun z => ?_⟩
        · walk_at "rd"
          have hth14 := b14 _ _ (hp13.not_tup hth) hth
          have hA14 := (hA8.same e113).but hp13 b14
          have hB14 := (hB8.same e113).but hp13 b14
          have hla14 := b14 _ _ nla (e113 _ _ hla10)
          have b014 : But p H H14 := (b010.trans (But.of e113)).trans b14
          refine ⟨th, q, A, ys, rfl, okA, hq, hn, .inl ⟨B, ps, okB, esg, hth14, hP, fun H15 r e15 hr => ?_⟩⟩
          walk_at "rd"
          cases r with
          | false =>
            refine iteF ?_
            refine iteF ?_
            walk_at "rd"
            exact ⟨_, _, _, _, rfl, b014.trans (But.of e15), hp14.same e15, hA14.same e15, hB14.same e15, e15 _ _ hla14⟩
          | true =>
            refine iteT ?_
            walk_at "rd"
            refine ⟨a, b, la, A, "within", n', ws, rfl, hA14.same e15, okA, e15 _ _ hla14, by rw [hAl]; exact hws, hlen, by omega, by omega, .inl ⟨rfl, B, hB14.same e15, okB, esg, hr rfl⟩, fun H16 e16 => ?_⟩
            walk_at "rd"
            refine iteF ?_
            walk_at "rd"
            have e156 := e15.trans e16
            exact ⟨_, _, _, _, rfl, b014.trans (But.of e156), hp14.same e156, hA14.same e156, hB14.same e156, e156 _ _ hla14⟩
        · rcases z with z | z
          · exact absurd z (by decide +kernel)
          · exact absurd z (by decide +kernel)
      · have hnw : sort ≠ "within" := by
          rcases hs2 with rfl | rfl <;> decide +kernel
        rw [decide_eq_false (show ¬ V.str sort = V.str ("within" : Str) from fun z => hnw (V.str.inj z))]
        refine iteF ?_
        walk_at "rd"
        refine ⟨by show 3 ≤ sizeLine; decide, ?_⟩
        walk_at "nw"
        rename_i th nth H13 e13 hth
        walk_at "rd"
        have e113 := e11.trans e13
        have hp13 := hp10.same e113
        refine ⟨p, a, b, A, B, sort, rfl, hp13, hA8.same e113, hB8.same e113, okA, okB, esg, .inr hs2, fun z => absurd z hnw, fun _ H14 q ys ts b14 hp14 hq hT hn => ?_⟩
        walk_at "rd"
        have hth14 := b14 _ _ (hp13.not_tup hth) hth
        have hA14 := (hA8.same e113).but hp13 b14
        have hB14 := (hB8.same e113).but hp13 b14
        have hla14 := b14 _ _ nla (e113 _ _ hla10)
        have b014 : But p H H14 := (b010.trans (But.of e113)).trans b14
        refine ⟨th, q, A, ys, rfl, okA, hq, hn, .inr ⟨sort, n', ts, hs2, by omega, by omega, hth14, hT, fun H15 r e15 hr => ?_⟩⟩
        walk_at "rd"
        cases r with
        | false =>
          refine iteF ?_
          refine iteF ?_
          walk_at "rd"
          exact ⟨_, _, _, _, rfl, b014.trans (But.of e15), hp14.same e15, hA14.same e15, hB14.same e15, e15 _ _ hla14⟩
        | true =>
          have hr := hr rfl
          refine iteT ?_
          walk_at "rd"
          refine ⟨a, b, la, A, sort, n', ws, rfl, hA14.same e15, okA, e15 _ _ hla14, by rw [hAl]; exact hws, hlen, by omega, by omega, .inr (hs2.imp (fun z => ⟨z, hr.1 z⟩) (fun z => ⟨z, hr.2 z⟩)), fun H16 e16 => ?_⟩
          walk_at "rd"
          refine iteF ?_
          walk_at "rd"
          have e156 := e15.trans e16
          exact ⟨_, _, _, _, rfl, b014.trans (But.of e156), hp14.same e156, hA14.same e156, hB14.same e156, e156 _ _ hla14⟩
    · rintro σ' H' ⟨v5, v6, v7, v8, rfl, bb, hpi, hAi, hBi, hlai⟩
      walk_at "rd"
      exact k _ bb
end
end K73

set_option Elab.async false
set_option linter.all false
set_option maxRecDepth 100000
set_option maxHeartbeats 4000000
namespace K73
open PySem PySem.Spec PyProof.Rows L2
local macro_rules | `(tactic| walk_at "rd") => `(tactic| repeat (first | with_reducible refine r_seq ?_ | with_reducible refine r_asg ?_ | with_reducible refine r_ret ?_ | with_reducible refine r_op ?_ | with_reducible refine r_var (by with_unfolding_all rfl) ?_ | with_reducible refine r_c ?_ | with_reducible refine r_cons ?_ | with_reducible refine r_nil ?_ | with_reducible refine r_gname ?_ | with_reducible refine r_ifS ?_ | with_reducible refine r_test ?_ | with_reducible refine r_bl ?_ | with_reducible refine r_I0 ?_ | with_reducible refine r_cb ?_ | with_reducible refine r_cl ?_ | with_reducible refine r_tup ?_ | with_reducible refine r_lst ?_ | with_reducible refine r_gsub ?_ | with_reducible refine r_gcons ?_ | with_reducible refine r_gnil ?_ | with_reducible refine r_drop ?_ | with_reducible refine r_next ?_ | with_reducible refine r_par ?_ | with_reducible refine r_par2 ?_ | with_reducible refine r_and ?_ | with_reducible refine r_or ?_ | with_reducible refine r_not ?_ | with_reducible refine r_yes ?_ | with_reducible refine r_andV ?_ | with_reducible refine r_orV ?_ | with_reducible refine r_notV ?_ | with_reducible refine r_if ?_ | with_reducible refine r_chain ?_ | with_reducible refine r_U ?_ | with_reducible refine r_un ?_ | with_reducible refine r_eq (by with_unfolding_all rfl) ?_ | with_reducible refine r_ne (by with_unfolding_all rfl) ?_ | with_reducible refine r_int ?_ | with_reducible refine r_sl ?_ | with_reducible refine r_nopart ?_ | with_reducible refine r_part ?_ | with_reducible refine r_exI ?_ | with_reducible refine r_dget ?_ | with_reducible refine r_din ?_ | with_reducible refine r_dnotin ?_ | with_reducible refine r_dput ?_ | with_reducible refine r_isN ?_ | with_reducible refine r_notN ?_ | with_reducible refine r_bm ?_ | with_reducible refine r_bm0 ?_ | with_reducible refine r_retN ?_ | with_reducible refine r_lc ?_ | with_reducible refine r_for ?_ | with_reducible refine r_iStr ?_ | with_reducible refine r_exS ?_ | with_reducible refine r_iList ?_ | with_reducible refine r_iTup ?_ | with_reducible refine r_iRng ?_ | with_reducible refine r_m1 ?_ | with_reducible refine r_strM ?_ | with_reducible refine r_tB ?_ | with_reducible refine r_dc ?_ | with_reducible refine r_iZipS ?_ | with_reducible refine r_lc2 ?_ | with_reducible refine r_iZip ?_ | with_reducible refine r_tCmp ?_ | with_reducible refine r_newT ?_ | with_reducible refine r_newK ?_ | with_reducible refine r_sfld ?_ | with_reducible refine r_fld ?_ | with_reducible refine r_make ?_ | with_reducible refine r_pr ?_ | with_reducible refine r_dt ?_ | with_reducible refine r_iKeys ?_ | with_reducible refine r_dget2 ?_))
local macro_rules | `(tactic| walk_at "nw") => `(tactic| (intro q nq; generalize hH : upd _ q _ = H1; have s1 := same_upd_eq nq hH; have hq := upd_eq hH; clear hH))
section
variable {P : Program} {w : World} {K : PySem.W.Frag} {mg : Str → Option Value} {base : Heap}
theorem Df.fnA {x : Str} {st : Stmt} {N ps : List Str} {k : Nat} {sp : Sp} (D : Df K mg x st) (S : FnScope N ps (defScope st))
    (len : ∀ vs H Q E, sp vs H Q E → vs.length = ps.length)
    (hbody : ∀ (base : Heap) (cdv : Value) (A : Around) (outer : List Env) (s : Shared) (H : Hp) (vs : List V) (Q : VK) (E : XK), Room k (A.deeper (envOfC x (defScope st) s.heap.objs.size (He.ga K x) cdv)) → sp vs H Q E →
      ∃ t, PSs (cxOf CX0 P w K mg base N x (defScope st) (He.ga K x) cdv A outer s H E).nox (defBody st) t ∧ t { nx := fun _ H' => Q .non H', rt := Q } (start N vs) H) :
    ∃ fd, FunD K x x (defArgs st) (defBody st) (defScope st) [] [] (He.ga K x) fd ∧ ∀ base, FnOk P w K mg base CX0 (k + 1) (He.ga K x) fd ps sp := by
  obtain ⟨fd, F⟩ := D.ex
  refine ⟨fd, F, fun base => F.ok S len fun cdv A outer s H vs Q E hr h => ?_⟩
  obtain ⟨t, h1, h2⟩ := hbody base cdv A outer s H vs Q E hr h
  exact ⟨t, PSs.nox h1, h2⟩
def spLaw (K : PySem.W.Frag) : Sp := fun vs H Q _ => ∃ (a : Addr) (ns : List Int), vs = [.ref a] ∧ ns.length ≤ 63 ∧ SqL K H a (ns.map V.int) ∧ ∀ H', Same H H' → Q (.bl true) H'
abbrev nLaw : List Str := ["_law_script", "_law_k"]
theorem sc_law : FnScope nLaw ["_law_script"] (defScope s_law) := ⟨rfl, rfl, rfl, by decide +kernel, rfl, by decide +kernel, by decide +kernel⟩
theorem ok_law (T : Txt K mg) : ∃ fd, FunD K "law" "law" (defArgs s_law) (defBody s_law) (defScope s_law) [] [] (He.ga K "law") fd ∧ ∀ base, FnOk P w K mg base CX0 10 (He.ga K "law") fd ["_law_script"] (spLaw K) := by
  refine T.d_law.fnA sc_law (fun vs H Q E h => ?_) (fun base cdv Ar outer s H vs Q E hr h => ?_)
  · obtain ⟨a, ns, rfl, _⟩ := h
    rfl
  · have GR : Fn P w K mg base 9 "_law_right" ["_law_purse_here"] spRight := ok_right T
    have GC : Fn P w K mg base 9 "_law_cell" ["_law_cells", "_law_k"] (spCell K) := (ok_cell T).mono (by decide)
    have GP : Fn P w K mg base 9 "_law_purse" ["_law_cell_here"] spPurse := (ok_purse T).mono (by decide)
    obtain ⟨a, ns, rfl, h63, ha, k⟩ := h
    refine ⟨_, pss_one (ps_ret (pe_callB (cr_all rfl) (by rfl) T.f_all (by decide +kernel) (pa_cons (pe_lc (own := [("_law_k", 1)]) (g := gName 1) (tt := tYes) (te := tCl spRight (tCons (tCl spPurse (tCons (tCl (spCell K) (tCons (tVar 0) (tCons (tVar 1) tNil))) tNil)) tNil)) rfl sc_law.nd
        (pi_range1 (by rfl) T.f_range (pa_cons (pe_callB (call_max2 rfl) (by rfl) T.f_max (by decide +kernel) (pa_cons pe_int (pa_cons (pe_callB (call_min2 rfl) (by rfl) T.f_min (by decide +kernel) (pa_cons (pe_callB call_len_seq (by rfl) T.f_len PySem.boot_len (pa_cons (pv 0) pa_nil)) (pa_cons pe_int pa_nil))) pa_nil))) pa_nil)) (blkOk_by (N := nLaw) (sc := defScope s_law) (by decide +kernel))
        (fun _ _ _ _ _ => pg_name (i := 1) sc_law.nd rfl (Or.inl rfl)) (fun _ _ _ _ _ => pts_nil)
        (fun _ _ _ _ _ => pcall GR hr (pa_cons (pcall GP hr (pa_cons (pcall GC hr (pa_cons (pv 0) (pa_cons (pv 1) pa_nil))) pa_nil)) pa_nil))) pa_nil))), ?_⟩
    walk_at "rd"
    refine ⟨a, _, rfl, .inl ha, ?_⟩
    walk_at "rd"
    refine ⟨_, _, rfl, ?_⟩
    walk_at "rd"
    refine ⟨_, _, rfl, ?_⟩
    walk_at "rd"
    generalize hj : (if (if (3 : Int) < (((ns.map V.int).length : Nat) : Int) then (3 : Int) else (((ns.map V.int).length : Nat) : Int)) > 2 then (if (3 : Int) < (((ns.map V.int).length : Nat) : Int) then (3 : Int) else (((ns.map V.int).length : Nat) : Int)) else 2) = j
    have j3 : 2 ≤ j ∧ j ≤ 3 := by
      rw [← hj]
      split <;> split <;> omega
    refine ⟨j, rfl, by omega, by omega, ?_⟩
    refine lc_R (fun _ => true) (fun _ => .bl true) (big20 (by omega)) (fun y => rfl) (fun i H' hi s' Q q => ?_) (fun i H' hi hf s' Q q => ?_) (fun D H1 nD e1 hD => ?_)
    · walk_at "rd"
      exact q _ (Same.refl _)
    · walk_at "rd"
      rw [Int.zero_add]
      refine ⟨a, ns, i, rfl, by omega, s'.seq ha, fun n H2 e2 => ?_⟩
      walk_at "rd"
      refine ⟨n, rfl, fun H3 p np e3 hp => ?_⟩
      walk_at "rd"
      refine ⟨p, rfl, hp, fun H4 b4 => ?_⟩
      exact q H4 fun c o hc => b4 _ _ (ne_of_none (e2 _ _ hc) np) (e3 _ _ (e2 _ _ hc))
    walk_at "rd"
    rw [made_range] at hD
    have hD2 : H1 D = some (.lst ((List.replicate j.toNat true).map V.bl)) := by
      rw [hD]
      congr 2
      rw [List.map_const', List.length_range, List.map_replicate]
    refine ⟨D, _, rfl, SqL.of hD2, ?_⟩
    have ea : (List.replicate j.toNat true).all id = true := by
      rw [List.all_eq_true]
      intro x hx
      rw [List.eq_of_mem_replicate hx]
      rfl
    rw [ea]
    exact k _ e1
end
end K73

set_option Elab.async false
set_option linter.all false
set_option maxRecDepth 100000
set_option maxHeartbeats 0
namespace K73
open PySem PySem.Spec PyProof.Rows L2
theorem facts {P : Program} {w : World} {K : PySem.W.Frag} {h : Heap} {mg : Str → Option Value} {f : Addr} (X : K.In h) (G : h.Ns mainGlobals mg) (hfa : mg ("law" : Str) = some (.ref f)) (c : SaysP fa fn prs K73.ex K) :
    ∃ fd : FuncData, (∀ (s : Shared) (v : Value), BindsTo s fd ⟨[v], []⟩ [("_law_script", v)]) ∧ ∀ base : Heap, K.In base → base.Ns mainGlobals mg → FnOk P w K mg base CX0 10 f fd ["_law_script"] (spLaw K) := by
  have T : Txt K mg := ⟨⟨h, X, G⟩, c⟩
  obtain ⟨fd, F, ok⟩ := ok_law (P := P) (w := w) T
  have e := hfa.symm.trans T.d_law.mg
  cases e
  have b := FunD.bindsA (ps := ["_law_script"]) F fun _ _ _ _ _ _ us hl => match us, hl with | [_], _ => rfl
  exact ⟨fd, fun s v => b s [v] rfl, fun base _ _ => ok base⟩
end K73
open PySem PySem.W PySem.Calls PyProof.Rows
theorem PySem.Challenge.cw_shortlooks_k73_whole_what_is_accepted_is_holds : PySem.Challenge.rw_shortlooks_k73_whole_what_is_accepted_is.Holds := by
  w_on; o_law
  refine HandSHeadRun.head_any (r := OpenLaw.row PySem.Challenge.rw_shortlooks_k73_whole_what_is_accepted_is) (q := view (OpenLaw.row PySem.Challenge.rw_shortlooks_k73_whole_what_is_accepted_is).prog [77]) (H := K73.hk) (ob := K73.ob) (M := 6000) (loose := K73.loose) (d := HandSHeadRun.topDef (OpenLaw.row PySem.Challenge.rw_shortlooks_k73_whole_what_is_accepted_is).prog 77) (kwd := []) K73.ob_eq
    (by kernel_rfl) (fun s => by kernel_rfl) K73.run (by kernel_rfl) (by kernel_rfl) (by kernel_rfl) (by rfl) (by first | assumption | decide +kernel) (by decide +kernel) ⟨rfl, rfl, rfl, rfl, rfl, by decide +kernel⟩ ?hw ?hc
  case hw => w_witness2
  case hc =>
    refine L2.walk_ofE (l := PySem.Challenge.rw_shortlooks_k73_whole_what_is_accepted_is) (n := 63) (k := 10) (x := "_law_script") (CX := L2.CX0) rfl (by decide) (by kernel_rfl) ⟨rfl, by decide, by decide⟩ ?F (fun _ _ _ _ z => z)
    intro w mg fa h Y G hmg0
    obtain ⟨K, KX, c⟩ := Y
    have hmg : mg ("law" : PySem.Str) = some (.ref fa) := by
      have e : (HandSHeadRun.topDef (OpenLaw.row PySem.Challenge.rw_shortlooks_k73_whole_what_is_accepted_is).prog 77).name = ("law" : PySem.Str) := by kernel_rfl
      rw [← e]
      exact hmg0
    obtain ⟨fd, hb, hF⟩ := K73.facts (P := (PySem.Challenge.rw_shortlooks_k73_whole_what_is_accepted_is).prog) (w := w) KX G hmg c
    exact ⟨K, fd, K73.spLaw K, KX, hb, fun H a ns hl _ hS => ⟨a, ns, rfl, hl, hS, fun _ _ => rfl⟩, hF⟩

