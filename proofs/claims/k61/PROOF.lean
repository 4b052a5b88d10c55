import PyProof.Rows.All
import Wide.All
import OpenK.AllK
import Wide.FinOn
import HandS.ForMost
import HandS.HeadHook1
import HandS.HeadHook2
import HandS.Property
import HandS.Defaults
import HandS.Head0
import HandS.Head1
import HandS.Head2
import HandS.HeadEnd
import HandS.ExcIs
import HandS.MakeKw
import HandS.Wide
import HandS.WideMore
import HandS.IsInst
import HandS.Deep
import HandS.TupAny
import HandS.NoneIn
import HandS.Small
import HandS.Conv
import HandS.More
import KE.GoesEnum
import KE.GoesMore
import HandS.Flow
import HandS.Style
import HandS.Strs
import HandS.MakeKwOnly
import HandS.TryOnly
import KE.IntBitsLaws
import HandS.Exc
import HandS.ExcOwn
import PySem.Challenge.RW_lettersdesk_k61_whole_undone
set_option Elab.async false
set_option linter.all false
set_option maxRecDepth 100000
set_option maxHeartbeats 4000000
namespace BV
open PySem PySem.Spec PyProof.Rows L2
/-! ### what the top leaves, told -/
/-- all that is named, in n rounds from these on -/
def near (g : Addr → Option Obj) : Nat → List Addr → List Addr
  | 0, _ => []
  | n + 1, l => l ++ near g n (l.flatMap fun a => ((g a).map He.refsD).getD [])
def frX (n : Nat) (g : Addr → Option Obj) : PySem.W.Frag := He.frG g (near g n [mainGlobals])
/-- a def: how its object is found, its name, its qualified name, its parts -/
structure GetD where
  adr : PySem.W.Frag → Addr
  nm : Str
  ql : Str
  pr : Arguments
  bd : List Stmt
  sc : Scope
abbrev FnT : Type := Str × Str × Arguments × FuncBody × Scope × Addr × List (Str × Addr) × Addr
def toldF (K : PySem.W.Frag) (a : Addr) : Option FuncData := (K.lookup a).bind fun ob => match ob.data with
  | .func g => some g
  | _ => none
def eightF (g : FuncData) : FnT := (g.name, g.qualname, g.params, g.body, g.scope, g.globals, g.closure, g.builtins)
def GetD.obs (K : PySem.W.Frag) (d : GetD) : Option FnT := (toldF K (d.adr K)).map eightF
def GetD.val (d : GetD) : Option FnT := some (d.nm, d.ql, d.pr, .stmts d.bd, d.sc, mainGlobals, [], builtinsNs)
def GetD.ok (K : PySem.W.Frag) (d : GetD) : Bool := PySem.W.keepIn K (.ref (d.adr K)) && match toldF K (d.adr K) with
  | some g => PySem.W.codeIn K g.code d.ql && (He.dflB K g.defaults [] && He.kwdB K g.kwdefaults [])
  | none => false
theorem GetD.funD {K : PySem.W.Frag} {d : GetD} (e : d.obs K = d.val) (c : d.ok K = true) : ∃ fd, FunD K d.nm d.ql d.pr d.bd d.sc [] [] (d.adr K) fd := by
  obtain ⟨kp, c2⟩ := He.ba c
  unfold GetD.obs at e
  cases q : toldF K (d.adr K) with
  | none =>
    rw [q] at c2
    cases c2
  | some g =>
    rw [q] at c2 e
    obtain ⟨b1, b2⟩ := He.ba c2
    obtain ⟨b3, b4⟩ := He.ba b2
    have lk : ∃ oc od sl, K.lookup (d.adr K) = some ⟨oc, od, .func g, sl⟩ := by
      unfold toldF at q
      obtain ⟨⟨oc, od, dt, sl⟩, ho, hq⟩ := Option.bind_eq_some_iff.mp q
      cases dt with
      | func z =>
        cases hq
        exact ⟨oc, od, sl, ho⟩
      | _ => cases hq
    obtain ⟨oc, od, sl, lk⟩ := lk
    obtain ⟨g1, g2, g3, g4, g5, g6, g7, g8, g9, g10, g11, g12, g13, g14, g15⟩ := g
    have e2 : (some (g1, g2, g3, g4, g5, g6, g7, g15) : Option FnT) = some (d.nm, d.ql, d.pr, .stmts d.bd, d.sc, mainGlobals, [], builtinsNs) := e
    simp only [Option.some.injEq, Prod.mk.injEq] at e2
    obtain ⟨h1, h2, h3, h4, h5, h6, h7, h8⟩ := e2
    subst h1 h2 h3 h4 h5 h6 h7 h8
    exact ⟨_, ⟨oc, od, g8, g9, g10, g11, g12, g13, g14, sl, rfl, lk, b1, He.dflB_ok b3, He.kwdB_ok b4⟩, kp⟩
def obsX (fs : List He.Fa) (ck : PySem.W.Frag → Bool) (ds : List GetD) (K : PySem.W.Frag) : Bool × List (Option FnT) := (fs.all (fun z => z.ok K) && (ck K && ds.all fun z => z.ok K), ds.map fun z => z.obs K)
def hookX (n : Nat) (fs : List He.Fa) (ck : PySem.W.Frag → Bool) (ds : List GetD) : PySem.W.Hook where
  α := Bool × List (Option FnT)
  obs := fun s => obsX fs ck ds (frX n s.heap.get?)
  val := fun _ => (true, ds.map GetD.val)
  says := fun _ h => ∃ F : PySem.W.Frag, F.In h ∧ obsX fs ck ds F = (true, ds.map GetD.val)
  of := fun _ _ z => ⟨_, He.frG_in, z⟩
  keeps := fun _ _ _ ⟨F, inF, z⟩ st => ⟨F, PySem.W.Frag.In.keeps inF st, z⟩
section
variable {fs : List He.Fa} {ck : PySem.W.Frag → Bool} {ds : List GetD} {K : PySem.W.Frag}
structure SaysX (fs : List He.Fa) (ck : PySem.W.Frag → Bool) (ds : List GetD) (K : PySem.W.Frag) : Prop where
  fs : ∀ z ∈ fs, z.ok K = true
  ck : ck K = true
  ds : ∀ z ∈ ds, ∃ fd, FunD K z.nm z.ql z.pr z.bd z.sc [] [] (z.adr K) fd
theorem saysX (h : obsX fs ck ds K = (true, ds.map GetD.val)) : SaysX fs ck ds K := by
  have h1 : (fs.all (fun z => z.ok K) && (ck K && ds.all fun z => z.ok K)) = true := congrArg Prod.fst h
  have h2 : ds.map (fun z => z.obs K) = ds.map GetD.val := congrArg Prod.snd h
  obtain ⟨a, b⟩ := He.ba h1
  obtain ⟨b, c⟩ := He.ba b
  refine ⟨List.all_eq_true.mp a, b, fun z hz => GetD.funD ?_ (List.all_eq_true.mp c z hz)⟩
  exact List.map_inj_left.mp h2 z hz
theorem SaysX.fact (c : SaysX fs ck ds K) (i : Nat) {z : He.Fa} (h : fs[i]? = some z := by rfl) : z.ok K = true := c.fs z (List.mem_of_getElem? h)
theorem SaysX.fn (c : SaysX fs ck ds K) (i : Nat) {z : GetD} (h : ds[i]? = some z := by rfl) : ∃ fd, FunD K z.nm z.ql z.pr z.bd z.sc [] [] (z.adr K) fd := c.ds z (List.mem_of_getElem? h)
end
/-- the i-th function of a class's property -/
def gA (K : PySem.W.Frag) (C f : Str) (i : Nat) : Addr := match PySem.W.recIn K (He.ma K (He.ga K C) f) "property" with
  | some vs => (match vs[i]? with
    | some (.ref g) => g
    | _ => 0)
  | none => 0
/-! ### constants, properties -/
inductive Kc where
  | int (i : Int) | str (z : Str) | txs (l : List Str)
def kcB (K : PySem.W.Frag) (x : Str) : Kc → Bool
  | .int i => (He.Fa.int x i).ok K
  | .str z => (He.Fa.str x z).ok K
  | .txs l => (He.Fa.glo x).ok K && He.tupB K x (l.map He.Dv.str)
def prB (K : PySem.W.Frag) (C f : Str) : Bool := He.eqO (PySem.W.findIn K (.ref (He.ga K C)) f) (some (some (.ref (He.ma K (He.ga K C) f)))) && (He.eqO (PySem.W.specialIn K (.ref (He.ma K (He.ga K C) f)) "__get__") (some (some (.builtin "property.__get__"))) && (decide (PySem.W.takesIn K (.ref (He.ma K (He.ga K C) f)) = some true) && match PySem.W.recIn K (He.ma K (He.ga K C) f) "property" with
  | some (v :: _) => decide (v = .ref (gA K C f 0))
  | _ => false))
theorem pr_ok {K : PySem.W.Frag} {C f : Str} (c : prB K C f = true) : PropOf K (He.ga K C) f (He.ma K (He.ga K C) f) (gA K C f 0) := by
  obtain ⟨c1, c⟩ := He.ba c
  obtain ⟨c2, c⟩ := He.ba c
  obtain ⟨c3, c4⟩ := He.ba c
  refine ⟨He.eqO_ok c1, He.eqO_ok c2, of_decide_eq_true c3, ?_⟩
  cases q : PySem.W.recIn K (He.ma K (He.ga K C) f) "property" with
  | none =>
    rw [q] at c4
    cases c4
  | some vs =>
    rw [q] at c4
    cases vs with
    | nil => cases c4
    | cons v r => exact ⟨r, by rw [of_decide_eq_true (show decide (v = .ref (gA K C f 0)) = true from c4)]⟩
theorem ckAt {l : List Bool} (h : l.all id = true) (i : Nat) {b : Bool} (e : l[i]? = some b) : b = true := List.all_eq_true.mp h b (List.mem_of_getElem? e)
end BV
set_option maxHeartbeats 4000000
namespace BV
open PySem PySem.Spec PyProof.Rows L2
/-- what a class of errors says of isinstance -/
def exB (K : PySem.W.Frag) (c : Str) : Bool := He.eqO (PySem.W.findIn K (.ref (He.ga K c)) "__getattribute__") (some (some (.builtin "BaseException.__getattribute__"))) && (He.eqO (PySem.W.findIn K (.ref (He.ga K c)) "__getattr__") (some none) && (decide (PySem.W.subIn K (.ref (He.ga K c)) (.type "BaseException") = some true) && (PySem.W.hasDictIn K (He.ga K c) && (He.eqO (PySem.W.findIn K (.ref (He.ga K c)) "__class__") (some (some (.builtin "object.__class__"))) && (He.eqO (PySem.W.specialIn K (.builtin "object.__class__") "__get__") (some (some (.builtin "getset_descriptor.__get__"))) && (decide (PySem.W.takesIn K (.builtin "object.__class__") = some true) && decide (PySem.W.mroIn K (He.ga K c) (.type "object") = some true)))))))
theorem exB_ok {K : PySem.W.Frag} {c : Str} (h : exB K c = true) : ExcC K (He.ga K c) := by
  obtain ⟨h1, h⟩ := He.ba h
  obtain ⟨h2, h⟩ := He.ba h
  obtain ⟨h3, h⟩ := He.ba h
  obtain ⟨h4, h⟩ := He.ba h
  obtain ⟨h5, h⟩ := He.ba h
  obtain ⟨h6, h⟩ := He.ba h
  obtain ⟨h7, h8⟩ := He.ba h
  exact ⟨He.eqO_ok h1, He.eqO_ok h2, of_decide_eq_true h3, h4, He.eqO_ok h5, He.eqO_ok h6, of_decide_eq_true h7, of_decide_eq_true h8⟩
end BV
set_option maxHeartbeats 0
namespace BV
open PySem PySem.Spec PyProof.Rows L2
def top (i : Nat) : Stmt := PySem.Challenge.pw_lettersdesk_k61_whole_undone.main.body.getD i (.Pass ⟨0, 0, 0, 0⟩)
abbrev s_Book_desks : Stmt := inClass (top 34) 7
abbrev s_Book_rules : Stmt := inClass (top 34) 8
abbrev s_Desk___init__ : Stmt := inClass (top 24) 0
abbrev s_Desk___len__ : Stmt := inClass (top 24) 4
abbrev s_Desk_book : Stmt := inClass (top 24) 1
abbrev s_Desk_people : Stmt := inClass (top 24) 13
abbrev s_Desk_remember : Stmt := inClass (top 24) 6
abbrev s_Desk_replies : Stmt := inClass (top 24) 3
abbrev s_Desk_undo : Stmt := inClass (top 24) 10
abbrev s_TicketWork_go_to : Stmt := inClass (top 20) 2
abbrev s_TicketWork_holds : Stmt := inClass (top 20) 6
abbrev s_TicketWork_told : Stmt := inClass (top 20) 8
abbrev s_TicketWork_turn_to : Stmt := inClass (top 20) 3
abbrev s__law_draw : Stmt := top 37
abbrev s__law_well : Stmt := top 36
abbrev s_is_action : Stmt := top 32
abbrev s_is_name : Stmt := top 15
abbrev s_is_whole : Stmt := top 14
abbrev s_Desk___contains__ : Stmt := inClass (top 24) 5
abbrev s_Desk_at : Stmt := inClass (top 24) 14
abbrev s_Desk_change : Stmt := inClass (top 24) 11
abbrev s_Desk_ticket : Stmt := inClass (top 24) 12
abbrev s_TicketWork_carry_out : Stmt := inClass (top 20) 7
abbrev s_TicketWork_start : Stmt := inClass (top 20) 1
abbrev s__law_pick : Stmt := top 38
abbrev s__law_undone : Stmt := top 45
abbrev s_are_desks : Stmt := top 16
abbrev s_is_deed : Stmt := top 17
abbrev s_is_test : Stmt := top 31
abbrev s_report_of : Stmt := top 22
abbrev s_TicketWork_handle : Stmt := inClass (top 20) 5
abbrev s__law_action : Stmt := top 41
abbrev s__law_deed : Stmt := top 43
abbrev s__law_names : Stmt := top 39
abbrev s__law_stand : Stmt := top 47
abbrev s__law_test : Stmt := top 40
abbrev s_is_rule : Stmt := top 33
abbrev s_Book___init__ : Stmt := inClass (top 34) 0
abbrev s_TicketWork_handle_all : Stmt := inClass (top 20) 4
abbrev s__law_next : Stmt := top 49
abbrev s__law_rules : Stmt := top 42
abbrev s_TicketWork___init__ : Stmt := inClass (top 20) 0
abbrev s_Desk_work_at : Stmt := inClass (top 24) 7
abbrev s_Desk_day : Stmt := inClass (top 24) 9
abbrev s_Desk_do : Stmt := inClass (top 24) 8
abbrev s__law_made : Stmt := top 46
abbrev s__law_same : Stmt := top 44
abbrev s__law_all_back : Stmt := top 50
abbrev s__law_as_new : Stmt := top 48
abbrev s_law : Stmt := top 51
def hFa0 : List He.Fa := [.cls "Book", .cls "Desk", .cls "TicketWork", .noat "Book" "desk_names", .noat "Book" "rule_row", .noat "Desk" "earlier", .noat "Desk" "rulebook", .noat "Desk" "tickets", .noat "Desk" "total", .noat "TicketWork" "acted", .noat "TicketWork" "is_answered", .noat "TicketWork" "is_endless", .noat "TicketWork" "is_marked", .noat "TicketWork" "is_shut", .noat "TicketWork" "phase", .noat "TicketWork" "place", .noat "TicketWork" "plan", .noat "TicketWork" "row", .noat "TicketWork" "sent", .noat "TicketWork" "sent_again", .noat "TicketWork" "waited", .meth "Book" "desks", .meth "Book" "rules", .meth "Desk" "__contains__", .meth "Desk" "__len__", .meth "Desk" "at", .meth "Desk" "change", .meth "Desk" "day", .meth "Desk" "do", .meth "Desk" "people"]
def hFa1 : List He.Fa := [.meth "Desk" "remember", .meth "Desk" "ticket", .meth "Desk" "undo", .meth "Desk" "work_at", .meth "TicketWork" "carry_out", .meth "TicketWork" "go_to", .meth "TicketWork" "handle", .meth "TicketWork" "handle_all", .meth "TicketWork" "holds", .meth "TicketWork" "start", .meth "TicketWork" "told", .meth "TicketWork" "turn_to", .glo "Book", .glo "Desk", .glo "DeskError", .glo "NothingToUndo", .glo "TicketWork", .glo "_law_action", .glo "_law_all_back", .glo "_law_as_new", .glo "_law_deed", .glo "_law_draw", .glo "_law_made", .glo "_law_names", .glo "_law_next", .glo "_law_pick", .glo "_law_rules", .glo "_law_same", .glo "_law_stand", .glo "_law_test"]
def hFa2 : List He.Fa := [.glo "_law_undone", .glo "_law_well", .glo "are_desks", .glo "is_action", .glo "is_deed", .glo "is_name", .glo "is_rule", .glo "is_test", .glo "is_whole", .glo "report_of", .mkr "Book", .mkr "Desk", .mkr "TicketWork", .free "abs", .free "all", .free "bool", .free "dict", .free "enumerate", .free "int", .free "isinstance", .free "len", .free "list", .free "max", .free "min", .free "range", .free "set", .free "str", .free "tuple", .exc "NothingToUndo", .glo "NothingToUndo"]
def hFa3 : List He.Fa := [.exm "NothingToUndo" "NothingToUndo" true, .glo "law"]
def hFa : List He.Fa := hFa0 ++ hFa1 ++ hFa2 ++ hFa3
def hCk (K : PySem.W.Frag) : Bool := List.all [prB K "Desk" "book", prB K "Desk" "replies", exB K "NothingToUndo", decide (PySem.W.kitOne K (.ref (He.ga K "NothingToUndo")) (.ref (He.ga K "DeskError")) = some true), kcB K "EVENTS" (.txs ["letter", "answer", "day", "moved", "status", "replied"]), kcB K "LETTERS" (.str "abcdefghijklmnopqrstuvwxyz"), kcB K "MOST_ACTIONS" (.int 4), kcB K "MOST_DAYS" (.int 30), kcB K "MOST_EVENTS" (.int 50), kcB K "MOST_RULES" (.int 8), kcB K "MOST_TESTS" (.int 4), kcB K "PLAIN_DEEDS" (.txs ["letter", "answer", "day"]), kcB K "STATUSES" (.txs ["new", "open", "waiting", "closed"])] id
def hFn0 : List GetD := [⟨fun K => He.fAd K ("Book", some "desks"), "desks", "Book.desks", defArgs s_Book_desks, defBody s_Book_desks, defScope s_Book_desks⟩, ⟨fun K => He.fAd K ("Book", some "rules"), "rules", "Book.rules", defArgs s_Book_rules, defBody s_Book_rules, defScope s_Book_rules⟩, ⟨fun K => He.fAd K ("Desk", some "__init__"), "__init__", "Desk.__init__", defArgs s_Desk___init__, defBody s_Desk___init__, defScope s_Desk___init__⟩, ⟨fun K => He.fAd K ("Desk", some "__len__"), "__len__", "Desk.__len__", defArgs s_Desk___len__, defBody s_Desk___len__, defScope s_Desk___len__⟩, ⟨fun K => gA K "Desk" "book" 0, "book", "Desk.book", defArgs s_Desk_book, defBody s_Desk_book, defScope s_Desk_book⟩, ⟨fun K => He.fAd K ("Desk", some "people"), "people", "Desk.people", defArgs s_Desk_people, defBody s_Desk_people, defScope s_Desk_people⟩, ⟨fun K => He.fAd K ("Desk", some "remember"), "remember", "Desk.remember", defArgs s_Desk_remember, defBody s_Desk_remember, defScope s_Desk_remember⟩, ⟨fun K => gA K "Desk" "replies" 0, "replies", "Desk.replies", defArgs s_Desk_replies, defBody s_Desk_replies, defScope s_Desk_replies⟩, ⟨fun K => He.fAd K ("Desk", some "undo"), "undo", "Desk.undo", defArgs s_Desk_undo, defBody s_Desk_undo, defScope s_Desk_undo⟩, ⟨fun K => He.fAd K ("TicketWork", some "go_to"), "go_to", "TicketWork.go_to", defArgs s_TicketWork_go_to, defBody s_TicketWork_go_to, defScope s_TicketWork_go_to⟩, ⟨fun K => He.fAd K ("TicketWork", some "holds"), "holds", "TicketWork.holds", defArgs s_TicketWork_holds, defBody s_TicketWork_holds, defScope s_TicketWork_holds⟩, ⟨fun K => He.fAd K ("TicketWork", some "told"), "told", "TicketWork.told", defArgs s_TicketWork_told, defBody s_TicketWork_told, defScope s_TicketWork_told⟩, ⟨fun K => He.fAd K ("TicketWork", some "turn_to"), "turn_to", "TicketWork.turn_to", defArgs s_TicketWork_turn_to, defBody s_TicketWork_turn_to, defScope s_TicketWork_turn_to⟩, ⟨fun K => He.fAd K ("_law_draw", none), "_law_draw", "_law_draw", defArgs s__law_draw, defBody s__law_draw, defScope s__law_draw⟩, ⟨fun K => He.fAd K ("_law_well", none), "_law_well", "_law_well", defArgs s__law_well, defBody s__law_well, defScope s__law_well⟩, ⟨fun K => He.fAd K ("is_action", none), "is_action", "is_action", defArgs s_is_action, defBody s_is_action, defScope s_is_action⟩, ⟨fun K => He.fAd K ("is_name", none), "is_name", "is_name", defArgs s_is_name, defBody s_is_name, defScope s_is_name⟩, ⟨fun K => He.fAd K ("is_whole", none), "is_whole", "is_whole", defArgs s_is_whole, defBody s_is_whole, defScope s_is_whole⟩, ⟨fun K => He.fAd K ("Desk", some "__contains__"), "__contains__", "Desk.__contains__", defArgs s_Desk___contains__, defBody s_Desk___contains__, defScope s_Desk___contains__⟩, ⟨fun K => He.fAd K ("Desk", some "at"), "at", "Desk.at", defArgs s_Desk_at, defBody s_Desk_at, defScope s_Desk_at⟩, ⟨fun K => He.fAd K ("Desk", some "change"), "change", "Desk.change", defArgs s_Desk_change, defBody s_Desk_change, defScope s_Desk_change⟩, ⟨fun K => He.fAd K ("Desk", some "ticket"), "ticket", "Desk.ticket", defArgs s_Desk_ticket, defBody s_Desk_ticket, defScope s_Desk_ticket⟩, ⟨fun K => He.fAd K ("TicketWork", some "carry_out"), "carry_out", "TicketWork.carry_out", defArgs s_TicketWork_carry_out, defBody s_TicketWork_carry_out, defScope s_TicketWork_carry_out⟩, ⟨fun K => He.fAd K ("TicketWork", some "start"), "start", "TicketWork.start", defArgs s_TicketWork_start, defBody s_TicketWork_start, defScope s_TicketWork_start⟩, ⟨fun K => He.fAd K ("_law_pick", none), "_law_pick", "_law_pick", defArgs s__law_pick, defBody s__law_pick, defScope s__law_pick⟩, ⟨fun K => He.fAd K ("_law_undone", none), "_law_undone", "_law_undone", defArgs s__law_undone, defBody s__law_undone, defScope s__law_undone⟩, ⟨fun K => He.fAd K ("are_desks", none), "are_desks", "are_desks", defArgs s_are_desks, defBody s_are_desks, defScope s_are_desks⟩, ⟨fun K => He.fAd K ("is_deed", none), "is_deed", "is_deed", defArgs s_is_deed, defBody s_is_deed, defScope s_is_deed⟩, ⟨fun K => He.fAd K ("is_test", none), "is_test", "is_test", defArgs s_is_test, defBody s_is_test, defScope s_is_test⟩, ⟨fun K => He.fAd K ("report_of", none), "report_of", "report_of", defArgs s_report_of, defBody s_report_of, defScope s_report_of⟩]
def hFn1 : List GetD := [⟨fun K => He.fAd K ("TicketWork", some "handle"), "handle", "TicketWork.handle", defArgs s_TicketWork_handle, defBody s_TicketWork_handle, defScope s_TicketWork_handle⟩, ⟨fun K => He.fAd K ("_law_action", none), "_law_action", "_law_action", defArgs s__law_action, defBody s__law_action, defScope s__law_action⟩, ⟨fun K => He.fAd K ("_law_deed", none), "_law_deed", "_law_deed", defArgs s__law_deed, defBody s__law_deed, defScope s__law_deed⟩, ⟨fun K => He.fAd K ("_law_names", none), "_law_names", "_law_names", defArgs s__law_names, defBody s__law_names, defScope s__law_names⟩, ⟨fun K => He.fAd K ("_law_stand", none), "_law_stand", "_law_stand", defArgs s__law_stand, defBody s__law_stand, defScope s__law_stand⟩, ⟨fun K => He.fAd K ("_law_test", none), "_law_test", "_law_test", defArgs s__law_test, defBody s__law_test, defScope s__law_test⟩, ⟨fun K => He.fAd K ("is_rule", none), "is_rule", "is_rule", defArgs s_is_rule, defBody s_is_rule, defScope s_is_rule⟩, ⟨fun K => He.fAd K ("Book", some "__init__"), "__init__", "Book.__init__", defArgs s_Book___init__, defBody s_Book___init__, defScope s_Book___init__⟩, ⟨fun K => He.fAd K ("TicketWork", some "handle_all"), "handle_all", "TicketWork.handle_all", defArgs s_TicketWork_handle_all, defBody s_TicketWork_handle_all, defScope s_TicketWork_handle_all⟩, ⟨fun K => He.fAd K ("_law_next", none), "_law_next", "_law_next", defArgs s__law_next, defBody s__law_next, defScope s__law_next⟩, ⟨fun K => He.fAd K ("_law_rules", none), "_law_rules", "_law_rules", defArgs s__law_rules, defBody s__law_rules, defScope s__law_rules⟩, ⟨fun K => He.fAd K ("TicketWork", some "__init__"), "__init__", "TicketWork.__init__", defArgs s_TicketWork___init__, defBody s_TicketWork___init__, defScope s_TicketWork___init__⟩, ⟨fun K => He.fAd K ("Desk", some "work_at"), "work_at", "Desk.work_at", defArgs s_Desk_work_at, defBody s_Desk_work_at, defScope s_Desk_work_at⟩, ⟨fun K => He.fAd K ("Desk", some "day"), "day", "Desk.day", defArgs s_Desk_day, defBody s_Desk_day, defScope s_Desk_day⟩, ⟨fun K => He.fAd K ("Desk", some "do"), "do", "Desk.do", defArgs s_Desk_do, defBody s_Desk_do, defScope s_Desk_do⟩, ⟨fun K => He.fAd K ("_law_made", none), "_law_made", "_law_made", defArgs s__law_made, defBody s__law_made, defScope s__law_made⟩, ⟨fun K => He.fAd K ("_law_same", none), "_law_same", "_law_same", defArgs s__law_same, defBody s__law_same, defScope s__law_same⟩, ⟨fun K => He.fAd K ("_law_all_back", none), "_law_all_back", "_law_all_back", defArgs s__law_all_back, defBody s__law_all_back, defScope s__law_all_back⟩, ⟨fun K => He.fAd K ("_law_as_new", none), "_law_as_new", "_law_as_new", defArgs s__law_as_new, defBody s__law_as_new, defScope s__law_as_new⟩, ⟨fun K => He.fAd K ("law", none), "law", "law", defArgs s_law, defBody s_law, defScope s_law⟩]
def hFn : List GetD := hFn0 ++ hFn1
def hNm0 : List PySem.Str := ["_wall", "__name__", "DeskError", "NoDesks", "NoPerson", "NothingToUndo", "NoRule", "NoDeed", "NoTicket", "NoDesk", "LETTERS", "STATUSES", "PLAIN_DEEDS", "is_whole", "is_name", "are_desks", "is_deed", "MOST_EVENTS", "TicketWork", "report_of", "Desk", "EVENTS", "MOST_RULES", "MOST_TESTS", "MOST_ACTIONS", "MOST_DAYS", "is_test", "is_action", "is_rule", "Book"]
def hNm1 : List PySem.Str := ["_law_well", "_law_draw", "_law_pick", "_law_names", "_law_test", "_law_action", "_law_rules", "_law_deed", "_law_same", "_law_undone", "_law_made", "_law_stand", "_law_as_new", "_law_next", "_law_all_back"]
def hNm : List PySem.Str := hNm0 ++ hNm1
abbrev hR : PySem.W.OpenRow := PySem.W.OpenLaw.row PySem.Challenge.rw_lettersdesk_k61_whole_undone
def hob (s : PySem.W.SharedT) : Bool × List (Option FnT) := obsX hFa hCk hFn (frX 6 (HandSHeadRun.getT s))
theorem hob_eq (s : PySem.W.SharedT) : hob s = (hookX 6 hFa hCk hFn).obs s.abs := by
  have e : HandSHeadRun.getT s = s.abs.heap.get? := funext fun a => HandSHeadRun.getT_eq s a
  unfold hob
  rw [e]
  rfl
theorem hrun (w : World) : HandSHeadRun.RunEq hR (PySem.W.view hR.prog [51]) (hookX 6 hFa hCk hFn) hob 60000 hNm w := by
  intro os
  kernel_rfl
end BV
section
open PySem PySem.W PySem.Calls PyProof.Rows
theorem BV.hwalk (hc : PySem.W.WalkO (view BV.hR.prog [51]) BV.hNm (PySem.W.XL (view BV.hR.prog [51]) []) (BV.hookX 6 BV.hFa BV.hCk BV.hFn).says BV.hR.toRowW (HandSHeadRun.topDef BV.hR.prog 51) [] fun f vs => PySem.call f vs) : PySem.Challenge.rw_lettersdesk_k61_whole_undone.Holds := by
  w_on; o_law
  refine HandSHeadRun.head_any (r := BV.hR) (q := view BV.hR.prog [51]) (H := BV.hookX 6 BV.hFa BV.hCk BV.hFn) (ob := BV.hob) (M := 60000) (loose := BV.hNm) (d := HandSHeadRun.topDef BV.hR.prog 51) (kwd := []) BV.hob_eq (by kernel_rfl) (fun s => by kernel_rfl) BV.hrun (by kernel_rfl) (by kernel_rfl) (by kernel_rfl) (by rfl) (by first | assumption | decide +kernel) (by decide +kernel) ⟨rfl, rfl, rfl, rfl, rfl, by decide +kernel⟩ ?hw hc
  case hw => w_witness2
end
set_option maxHeartbeats 4000000
/-! BV: data by value over the hand layer. -/
namespace BV
open PySem PySem.Spec PyProof.Rows L2
/-! ### data by value; owned objects -/
/-- the classes of the program, their attributes in the order of their first stores -/
inductive Cl where
  | work | book | desk | step
  deriving DecidableEq
def Cl.nm : Cl → Str
  | .work => "TicketWork" | .book => "Book" | .desk => "Desk" | .step => "Step"
def lay : Cl → List Str
  | .work => ["plan", "phase", "place", "is_answered", "waited", "is_marked", "row", "acted", "sent", "sent_again", "is_shut", "is_endless"]
  | .book => ["desk_names", "rule_row"]
  | .desk => ["rulebook", "tickets", "total", "earlier"]
  | .step => ["deeds", "work"]
theorem lay_nd : ∀ c, (lay c).Nodup := by intro c; cases c <;> decide +kernel
theorem lay_le : ∀ c, (lay c).length ≤ 20 := by intro c; cases c <;> decide
abbrev ca (K : PySem.W.Frag) (c : Cl) : Addr := He.ga K c.nm
inductive D where
  | non | bl (b : Bool) | int (i : Int) | str (x : Str) | ty (n : String)
  | tup (ds : List D) | lst (ds : List D) | ins (c : Cl) (ds : List D) | ref (a : Addr)
  /-- the script: read, never written -/
  | scr (ns : List Int)
instance : Inhabited D := ⟨.non⟩
abbrev HZ : Hp := fun _ => none
def TAt (K : PySem.W.Frag) (L : List Addr) (H : Hp) (a : Addr) (vs : List V) : Prop := (a ∉ L ∧ H a = some (.tup vs)) ∨ SqT K HZ a vs
def LAt (L : List Addr) (H : Hp) (a : Addr) (vs : List V) : Prop := a ∉ L ∧ H a = some (.lst vs)
def FAt (K : PySem.W.Frag) (L : List Addr) (H : Hp) (a : Addr) (vs : List V) : Prop := (a ∉ L ∧ Rd H a (.lst vs)) ∨ SqL K HZ a vs
/-- what is not owned stays, and is not owned later -/
def Fr (H : Hp) (L : List Addr) (H' : Hp) (L' : List Addr) : Prop := ∀ a o, a ∉ L → H a = some o → H' a = some o ∧ a ∉ L'
theorem Fr.refl {H : Hp} {L : List Addr} : Fr H L H L := fun _ _ n h => ⟨h, n⟩
theorem Fr.trans {H H1 H2 : Hp} {L L1 L2 : List Addr} (f : Fr H L H1 L1) (g : Fr H1 L1 H2 L2) : Fr H L H2 L2 := fun a o n h =>
  let ⟨h1, n1⟩ := f a o n h
  g a o n1 h1
theorem rd0 {a : Addr} {u : HO} (h : Rd HZ a u) : False := by
  rcases h with h | ⟨_, h⟩ <;> cases h
theorem rd_fr {H H' : Hp} {L L' : List Addr} {a : Addr} {u : HO} (f : Fr H L H' L') (n : a ∉ L) (h : Rd H a u) : Rd H' a u ∧ a ∉ L' := by
  rcases h with h | ⟨o, h⟩
  · exact ⟨.inl (f a _ n h).1, (f a _ n h).2⟩
  · exact ⟨.inr ⟨o, (f a _ n h).1⟩, (f a _ n h).2⟩
section
variable {K : PySem.W.Frag} {L L' : List Addr} {H H' : Hp} {a : Addr} {vs : List V}
theorem TAt.mono (f : Fr H L H' L') (h : TAt K L H a vs) : TAt K L' H' a vs := by
  rcases h with ⟨n, h⟩ | h
  · exact .inl ⟨(f _ _ n h).2, (f _ _ n h).1⟩
  · exact .inr h
theorem FAt.mono (f : Fr H L H' L') (h : FAt K L H a vs) : FAt K L' H' a vs := by
  rcases h with ⟨n, h⟩ | h
  · exact .inl ⟨(rd_fr f n h).2, (rd_fr f n h).1⟩
  · exact .inr h
theorem LAt.mono (f : Fr H L H' L') (h : LAt L H a vs) : LAt L' H' a vs := ⟨(f _ _ h.1 h.2).2, (f _ _ h.1 h.2).1⟩
theorem TAt.sq (h : TAt K L H a vs) : SqT K H a vs := by
  rcases h with ⟨_, h⟩ | h
  · exact .inl (.inl h)
  · rcases h with h | h
    · exact (rd0 h).elim
    · exact .inr h
theorem FAt.sq (h : FAt K L H a vs) : SqL K H a vs := by
  rcases h with ⟨_, h⟩ | h
  · exact .inl h
  · rcases h with h | h
    · exact (rd0 h).elim
    · exact .inr h
theorem LAt.sq (h : LAt L H a vs) : SqL K H a vs := .inl (.inl h.2)
end
mutual
inductive DV (K : PySem.W.Frag) (L : List Addr) (H : Hp) : V → D → Prop
  | non : DV K L H .non .non
  | bl (b : Bool) : DV K L H (.bl b) (.bl b)
  | int (i : Int) : DV K L H (.int i) (.int i)
  | str (x : Str) : DV K L H (.str x) (.str x)
  | ty (n : String) : DV K L H (.ty n) (.ty n)
  | ref (a : Addr) : DV K L H (.ref a) (.ref a)
  | tup {a : Addr} {vs : List V} {ds : List D} : TAt K L H a vs → DVs K L H vs ds → DV K L H (.ref a) (.tup ds)
  | lst {a : Addr} {vs : List V} {ds : List D} : LAt L H a vs → DVs K L H vs ds → DV K L H (.ref a) (.lst ds)
  | scr {a : Addr} {ns : List Int} : FAt K L H a (ns.map V.int) → DV K L H (.ref a) (.scr ns)
  | ins {a dx : Addr} {vs : List V} {c : Cl} {ds : List D} : H a = some (.ins (ca K c) dx ((lay c).zip vs)) → a ∉ L → vs.length ≤ (lay c).length → DVs K L H vs ds → DV K L H (.ref a) (.ins c ds)
inductive DVs (K : PySem.W.Frag) (L : List Addr) (H : Hp) : List V → List D → Prop
  | nil : DVs K L H [] []
  | cons {v : V} {vs : List V} {d : D} {ds : List D} : DV K L H v d → DVs K L H vs ds → DVs K L H (v :: vs) (d :: ds)
end
section
variable {K : PySem.W.Frag} {L L' : List Addr} {H H' : Hp}
mutual
theorem DV.mono (f : Fr H L H' L') : ∀ {v : V} {d : D}, DV K L H v d → DV K L' H' v d
  | _, _, .non => .non
  | _, _, .bl b => .bl b
  | _, _, .int i => .int i
  | _, _, .str x => .str x
  | _, _, .ty n => .ty n
  | _, _, .ref a => .ref a
  | _, _, .tup h hs => .tup (h.mono f) (DVs.mono f hs)
  | _, _, .lst h hs => .lst (h.mono f) (DVs.mono f hs)
  | _, _, .scr h => .scr (h.mono f)
  | _, _, .ins h n hl hs => .ins (f _ _ n h).1 (f _ _ n h).2 hl (DVs.mono f hs)
theorem DVs.mono (f : Fr H L H' L') : ∀ {vs : List V} {ds : List D}, DVs K L H vs ds → DVs K L' H' vs ds
  | _, _, .nil => .nil
  | _, _, .cons h hs => .cons (DV.mono f h) (DVs.mono f hs)
end
theorem DVs.length : ∀ {vs : List V} {ds : List D}, DVs K L H vs ds → vs.length = ds.length
  | _, _, .nil => rfl
  | _, _, .cons _ hs => congrArg (· + 1) (DVs.length hs)
theorem DVs.append : ∀ {vs ws : List V} {ds es : List D}, DVs K L H vs ds → DVs K L H ws es → DVs K L H (vs ++ ws) (ds ++ es)
  | _, _, _, _, .nil, h => h
  | _, _, _, _, .cons h hs, h2 => .cons h (DVs.append hs h2)
theorem DVs.snoc {vs : List V} {ds : List D} {v : V} {d : D} (h : DVs K L H vs ds) (h1 : DV K L H v d) : DVs K L H (vs ++ [v]) (ds ++ [d]) := h.append (.cons h1 .nil)
theorem DVs.get : ∀ {vs : List V} {ds : List D} {i : Nat} {d : D}, DVs K L H vs ds → ds[i]? = some d → ∃ v, vs[i]? = some v ∧ DV K L H v d
  | _, _, _, _, .nil, e => by simp at e
  | _, _, 0, _, .cons h _, e => by
    simp at e
    subst e
    exact ⟨_, rfl, h⟩
  | _, _, i + 1, _, .cons _ hs, e => by
    obtain ⟨v, h1, h2⟩ := DVs.get (i := i) hs (by simpa using e)
    exact ⟨v, by simpa using h1, h2⟩
theorem DVs.getV : ∀ {vs : List V} {ds : List D} {i : Nat} {v : V}, DVs K L H vs ds → vs[i]? = some v → ∃ d, ds[i]? = some d ∧ DV K L H v d
  | _, _, _, _, .nil, e => by simp at e
  | _, _, 0, _, .cons h _, e => by
    simp at e
    subst e
    exact ⟨_, rfl, h⟩
  | _, _, i + 1, _, .cons _ hs, e => by
    obtain ⟨v, h1, h2⟩ := DVs.getV (i := i) hs (by simpa using e)
    exact ⟨v, by simpa using h1, h2⟩
theorem DVs.set : ∀ {vs : List V} {ds : List D} {v : V} {d : D} (i : Nat), DVs K L H vs ds → DV K L H v d → DVs K L H (vs.set i v) (ds.set i d)
  | _, _, _, _, _, .nil, _ => .nil
  | _, _, _, _, 0, .cons _ hs, h1 => .cons h1 hs
  | _, _, _, _, i + 1, .cons h hs, h1 => .cons h (DVs.set i hs h1)
theorem DVs.drop : ∀ {vs : List V} {ds : List D} (n : Nat), DVs K L H vs ds → DVs K L H (vs.drop n) (ds.drop n)
  | _, _, 0, h => h
  | _, _, _ + 1, .nil => .nil
  | _, _, n + 1, .cons _ hs => DVs.drop n hs
theorem DVs.take : ∀ {vs : List V} {ds : List D} (n : Nat), DVs K L H vs ds → DVs K L H (vs.take n) (ds.take n)
  | _, _, 0, _ => .nil
  | _, _, _ + 1, .nil => .nil
  | _, _, n + 1, .cons h hs => .cons h (DVs.take n hs)
theorem DVs.eraseIdx : ∀ {vs : List V} {ds : List D} (n : Nat), DVs K L H vs ds → DVs K L H (vs.eraseIdx n) (ds.eraseIdx n)
  | _, _, _, .nil => .nil
  | _, _, 0, .cons _ hs => hs
  | _, _, n + 1, .cons h hs => .cons h (DVs.eraseIdx n hs)
end
/-- an owned object -/
inductive MO where
  | lst (ds : List D) | dct (kvs : List (Str × D)) | dcl (o : Obj) (ws : List (Key × V)) (kvs : List (Str × D)) | ins (c : Cl) (ds : List D)
inductive DVk (K : PySem.W.Frag) (L : List Addr) (H : Hp) : List (Key × V) → List (Str × D) → Prop
  | nil : DVk K L H [] []
  | cons {f : Str} {v : V} {vs : List (Key × V)} {d : D} {ds : List (Str × D)} : DV K L H v d → DVk K L H vs ds → DVk K L H ((.inr f, v) :: vs) ((f, d) :: ds)
theorem DVk.mono {K : PySem.W.Frag} {L L' : List Addr} {H H' : Hp} (f : Fr H L H' L') : ∀ {vs : List (Key × V)} {ds : List (Str × D)}, DVk K L H vs ds → DVk K L' H' vs ds
  | _, _, .nil => .nil
  | _, _, .cons h hs => .cons (h.mono f) (DVk.mono f hs)
def OV (K : PySem.W.Frag) (L : List Addr) (H : Hp) (a : Addr) : MO → Prop
  | .lst ds => ∃ vs, H a = some (.lst vs) ∧ DVs K L H vs ds
  | .dct kvs => ∃ ws, H a = some (.dK ws) ∧ DVk K L H ws kvs
  | .dcl o ws kvs => H a = some (.frz o (.dK ws)) ∧ DVk K L H ws kvs
  | .ins c ds => ∃ dx vs, H a = some (.ins (ca K c) dx ((lay c).zip vs)) ∧ vs.length ≤ (lay c).length ∧ DVs K L H vs ds
abbrev Mm := List (Addr × MO)
abbrev keys (M : Mm) : List Addr := M.map (·.1)
structure SR (K : PySem.W.Frag) (H : Hp) (M : Mm) : Prop where
  nd : (keys M).Nodup
  at_ : ∀ p ∈ M, OV K (keys M) H p.1 p.2
section
variable {K : PySem.W.Frag} {L L' : List Addr} {H H' : Hp} {M M' : Mm} {a : Addr} {o : MO}
/-- the same content in an H' that has all of L -/
theorem OV.here (h : OV K L H a o) : ∃ u, H a = some u := by
  cases o with
  | lst ds => obtain ⟨_, h, _⟩ := h; exact ⟨_, h⟩
  | dct ds => obtain ⟨_, h, _⟩ := h; exact ⟨_, h⟩
  | dcl o ws ds => obtain ⟨h, _⟩ := h; exact ⟨_, h⟩
  | ins c fs => obtain ⟨_, _, h, _⟩ := h; exact ⟨_, h⟩
theorem OV.mono (f : Fr H L H' L') (e : H' a = H a) (h : OV K L H a o) : OV K L' H' a o := by
  cases o with
  | lst ds => obtain ⟨vs, h, hs⟩ := h; exact ⟨vs, e.trans h, hs.mono f⟩
  | dct ds => obtain ⟨vs, h, hs⟩ := h; exact ⟨vs, e.trans h, hs.mono f⟩
  | dcl o ws ds => obtain ⟨h, hs⟩ := h; exact ⟨e.trans h, hs.mono f⟩
  | ins c fs => obtain ⟨x, vs, h, hl, hs⟩ := h; exact ⟨x, vs, e.trans h, hl, hs.mono f⟩
theorem SR.fresh (s : SR K H M) (h : H a = none) : a ∉ keys M := fun q => by
  obtain ⟨p, hp, e⟩ := List.mem_map.mp q
  obtain ⟨u, hu⟩ := (s.at_ p hp).here
  rw [e, h] at hu
  cases hu
theorem fr_new {u : HO} (s : SR K H M) (h : H a = none) : Fr H (keys M) (upd H a u) (keys M) := fun b o n e => ⟨by rw [upd_ne (ne_of_none e h)]; exact e, n⟩
theorem fr_own {u : HO} (s : SR K H M) (h : H a = none) : Fr H (keys M) (upd H a u) (a :: keys M) := fun b o n e => ⟨by rw [upd_ne (ne_of_none e h)]; exact e, by
  intro q
  rcases List.mem_cons.mp q with q | q
  · rw [q, h] at e
    cases e
  · exact n q⟩
/-- a new object that is not owned -/
theorem SR.new {u : HO} (s : SR K H M) (h : H a = none) : SR K (upd H a u) M := ⟨s.nd, fun p hp => (s.at_ p hp).mono (fr_new s h) (upd_ne fun e => s.fresh h (e ▸ List.mem_map.mpr ⟨p, hp, rfl⟩))⟩
/-- a new owned object -/
theorem SR.own {u : HO} (s : SR K H M) (h : H a = none) (ho : OV K (a :: keys M) (upd H a u) a o) : SR K (upd H a u) ((a, o) :: M) := ⟨List.nodup_cons.mpr ⟨s.fresh h, s.nd⟩, fun p hp => by
  rcases List.mem_cons.mp hp with e | hp
  · subst e
    exact ho
  · exact (s.at_ p hp).mono (fr_own s h) (upd_ne fun e => s.fresh h (e ▸ List.mem_map.mpr ⟨p, hp, rfl⟩))⟩
/-- the first owned object is changed -/
theorem fr_put {u : HO} : Fr H (a :: L) (upd H a u) (a :: L) := fun b o n e => ⟨by rw [upd_ne (show b ≠ a from fun q => n (by rw [q]; exact List.mem_cons_self))]; exact e, n⟩
theorem SR.put {u : HO} {o' : MO} (s : SR K H ((a, o) :: M)) (ho : OV K (a :: keys M) (upd H a u) a o') : SR K (upd H a u) ((a, o') :: M) := ⟨s.nd, fun p hp => by
  rcases List.mem_cons.mp hp with e | hp
  · subst e
    exact ho
  · exact (s.at_ p (List.mem_cons_of_mem _ hp)).mono fr_put (upd_ne fun e => (List.nodup_cons.mp s.nd).1 (e ▸ List.mem_map.mpr ⟨p, hp, rfl⟩))⟩
theorem fr_sub (h : ∀ a ∈ L', a ∈ L) : Fr H L H L' := fun a o n e => ⟨e, fun q => n (h a q)⟩
theorem keys_perm (p : M.Perm M') : (keys M).Perm (keys M') := p.map _
theorem SR.perm (s : SR K H M) (p : M.Perm M') : SR K H M' := ⟨(keys_perm p).nodup_iff.mp s.nd, fun q hq => (s.at_ q (p.mem_iff.mpr hq)).mono (fr_sub fun a h => (keys_perm p).mem_iff.mpr h) rfl⟩
theorem fr_perm (p : M.Perm M') : Fr H (keys M) H (keys M') := fr_sub fun a h => (keys_perm p).mem_iff.mpr h
/-- given up -/
theorem SR.drop (s : SR K H ((a, o) :: M)) : SR K H M := ⟨(List.nodup_cons.mp s.nd).2, fun p hp => (s.at_ p (List.mem_cons_of_mem _ hp)).mono (fr_sub fun a h => List.mem_cons_of_mem _ h) rfl⟩
theorem fr_drop : Fr H (a :: L) H L := fr_sub fun a h => List.mem_cons_of_mem _ h
theorem SR.off (s : SR K H ((a, o) :: M)) : a ∉ keys M := (List.nodup_cons.mp s.nd).1
end
/-- where an owned object stands; what is put there -/
inductive At : Mm → Addr → MO → (MO → Mm) → Prop
  | here {a : Addr} {o : MO} {M : Mm} : At ((a, o) :: M) a o (fun o' => (a, o') :: M)
  | there {x : Addr × MO} {a : Addr} {o : MO} {M : Mm} {k : MO → Mm} : At M a o k → At (x :: M) a o (fun o' => x :: k o')
  | app {G : Mm} {a : Addr} {o : MO} {M : Mm} {k : MO → Mm} : At M a o k → At (G ++ M) a o (fun o' => G ++ k o')
theorem At.perm {M : Mm} {a : Addr} {o : MO} {k : MO → Mm} (h : At M a o k) : ∃ M0, M.Perm ((a, o) :: M0) ∧ ∀ o', (k o').Perm ((a, o') :: M0) := by
  induction h with
  | here => exact ⟨_, .refl _, fun _ => .refl _⟩
  | @there x _ _ _ _ _ ih =>
    obtain ⟨M0, p, q⟩ := ih
    exact ⟨x :: M0, (p.cons x).trans (.swap _ _ _), fun o' => ((q o').cons x).trans (.swap _ _ _)⟩
  | @app G _ _ _ _ _ ih =>
    obtain ⟨M0, p, q⟩ := ih
    exact ⟨G ++ M0, (p.append_left G).trans List.perm_middle, fun o' => ((q o').append_left G).trans List.perm_middle⟩
theorem At.mem {M : Mm} {a : Addr} {o : MO} {k : MO → Mm} (h : At M a o k) : (a, o) ∈ M := by
  obtain ⟨M0, p, _⟩ := h.perm
  exact p.mem_iff.mpr List.mem_cons_self
theorem At.keys {M : Mm} {a : Addr} {o : MO} {k : MO → Mm} (h : At M a o k) (o' : MO) : (keys M).Perm (keys (k o')) := by
  obtain ⟨M0, p, q⟩ := h.perm
  exact (keys_perm p).trans (keys_perm (q o')).symm
theorem At.hid {M Fm : Mm} {a : Addr} {o : MO} {k : MO → Mm} (h : At M a o k) : At (M ++ Fm) a o (fun o' => k o' ++ Fm) := by
  induction h with
  | here => exact .here
  | there _ ih => exact .there ih
  | @app G _ _ _ _ _ ih =>
    have := At.app (G := G) ih
    simpa [List.append_assoc] using this
section
variable {K : PySem.W.Frag} {H : Hp} {M Fm : Mm} {a : Addr} {o o' : MO} {k : MO → Mm} {u : HO}
theorem SR.at (s : SR K H M) (h : At M a o k) : OV K (keys M) H a o := s.at_ _ h.mem
theorem fr_at (h : At M a o k) : Fr H (keys M) (upd H a u) (keys (k o')) := fun b ob n e => ⟨by
  rw [upd_ne (show b ≠ a from fun q => n (by rw [q]; exact List.mem_map.mpr ⟨_, h.mem, rfl⟩))]
  exact e, fun q => n ((h.keys o').mem_iff.mpr q)⟩
theorem SR.upd (s : SR K H M) (h : At M a o k) (ho : OV K (keys (k o')) (upd H a u) a o') : SR K (upd H a u) (k o') := by
  obtain ⟨M0, p, q⟩ := h.perm
  have s1 := s.perm p
  have ho1 : OV K (a :: keys M0) (L2.upd H a u) a o' := ho.mono (fr_perm (q o')) rfl
  exact (s1.put ho1).perm (q o').symm
end
/-! ### attributes by place -/
theorem zip_look {f : Str} : ∀ {l : List Str} {vs : List V} {i : Nat}, l.Nodup → l[i]? = some f → (l.zip vs).lookup f = vs[i]?
  | [], _, _, _, h => by simp at h
  | _ :: _, [], i, _, _ => by simp
  | g :: l, v :: vs, 0, _, h => by
    have e : g = f := by simpa using h
    subst e
    simp
  | g :: l, v :: vs, i + 1, nd, h => by
    have h1 : l[i]? = some f := by simpa using h
    have n : (f == g) = false := by
      rw [beq_eq_false_iff_ne]
      intro e
      exact (List.nodup_cons.mp nd).1 (e ▸ List.mem_of_getElem? h1)
    rw [List.zip_cons_cons, List.lookup_cons, n]
    simpa using zip_look (vs := vs) (List.nodup_cons.mp nd).2 h1
theorem zip_put {f : Str} {v : V} : ∀ {l : List Str} {vs : List V} {i : Nat}, l.Nodup → l[i]? = some f → i < vs.length → putF f v (l.zip vs) = l.zip (vs.set i v)
  | [], _, _, _, h, _ => by simp at h
  | _ :: _, [], i, _, _, h => by simp at h
  | g :: l, w :: vs, 0, _, h, _ => by
    have e : g = f := by simpa using h
    subst e
    show (if g = g then (g, v) :: l.zip vs else (g, w) :: putF g v (l.zip vs)) = (g, v) :: l.zip vs
    rw [if_pos rfl]
  | g :: l, w :: vs, i + 1, nd, h, hi => by
    have h1 : l[i]? = some f := by simpa using h
    have n : ¬ g = f := fun e => (List.nodup_cons.mp nd).1 (e ▸ List.mem_of_getElem? h1)
    show (if g = f then _ else (g, w) :: putF f v (l.zip vs)) = (g, w) :: l.zip (vs.set i v)
    rw [if_neg n, zip_put (List.nodup_cons.mp nd).2 h1 (by simpa using hi)]
theorem zip_add {f : Str} {v : V} : ∀ {l : List Str} {vs : List V}, l.Nodup → l[vs.length]? = some f → putF f v (l.zip vs) = l.zip (vs ++ [v])
  | [], _, _, h => by simp at h
  | g :: l, [], _, h => by
    have e : g = f := by simpa using h
    subst e
    rw [List.zip_nil_right, List.nil_append, List.zip_cons_cons, List.zip_nil_right]
    rfl
  | g :: l, w :: vs, nd, h => by
    have h1 : l[vs.length]? = some f := by simpa using h
    have n : ¬ g = f := fun e => (List.nodup_cons.mp nd).1 (e ▸ List.mem_of_getElem? h1)
    show (if g = f then _ else (g, w) :: putF f v (l.zip vs)) = (g, w) :: l.zip (vs ++ [v])
    rw [if_neg n, zip_add (List.nodup_cons.mp nd).2 h1]
end BV
set_option maxHeartbeats 4000000
namespace BV
open PySem PySem.Spec PyProof.Rows L2
/-! ### readings by value -/
abbrev BSt := List (Option D)
abbrev BQ := D → Mm → Prop
/-- what is raised: a class's name, its fields -/
abbrev BX := Str → List D → Mm → Prop
abbrev RE := BX → BSt → Mm → BQ → Prop
abbrev RT := BX → BSt → Mm → (Bool → Mm → Prop) → Prop
abbrev RA := BX → BSt → Mm → (List D → Mm → Prop) → Prop
structure BEnds where
  ex : BX
  nx : BSt → Mm → Prop
  rt : BQ
  bk : BSt → Mm → Prop := fun _ _ => False
  ct : BSt → Mm → Prop := fun _ _ => False
abbrev RS := BEnds → BSt → Mm → Prop
def Sg (K : PySem.W.Frag) (L : List Addr) (H : Hp) (σ : L2.St) (τ : BSt) : Prop := σ.length = τ.length ∧ ∀ (i : Nat) (d : D), τ[i]? = some (some d) → ∃ v, σ[i]? = some (some v) ∧ DV K L H v d
def XP (K : PySem.W.Frag) (H : Hp) (L : List Addr) (Fm : Mm) (ex : BX) (E : XK) : Prop := ∀ (c : Str) (fs : List D) (M' : Mm) (H' : Hp), SR K H' (M' ++ Fm) → Fr H L H' (keys (M' ++ Fm)) → ex c fs M' →
  (fs = [] → E (.ref (He.ga K c)) none H') ∧ ∀ (f : Str) (d : D) (v : V) (a : Addr), fs = [d] → H' a = some (.xd [(f, v)]) → DV K (keys (M' ++ Fm)) H' v d → E (.ref (He.ga K c)) (some a) H'
theorem Sg.mono {K : PySem.W.Frag} {L L' : List Addr} {H H' : Hp} {σ : L2.St} {τ : BSt} (f : Fr H L H' L') (h : Sg K L H σ τ) : Sg K L' H' σ τ := ⟨h.1, fun i d e => let ⟨v, a, b⟩ := h.2 i d e; ⟨v, a, b.mono f⟩⟩
theorem XP.mono {K : PySem.W.Frag} {L L' : List Addr} {H H' : Hp} {Fm : Mm} {ex : BX} {E : XK} (f : Fr H L H' L') (h : XP K H L Fm ex E) : XP K H' L' Fm ex E := fun c fs M' H2 s g x => h c fs M' H2 s (f.trans g) x
/-- the state: slots, owned objects, hidden ones -/
structure Wl (K : PySem.W.Frag) (E : XK) (σ : L2.St) (H : Hp) (τ : BSt) (M Fm : Mm) (ex : BX) : Prop where
  sg : Sg K (keys (M ++ Fm)) H σ τ
  sr : SR K H (M ++ Fm)
  xp : XP K H (keys (M ++ Fm)) Fm ex E
section
variable {K : PySem.W.Frag} {E : XK} {σ : L2.St} {H H' : Hp} {τ : BSt} {M M' Fm : Mm} {ex : BX}
theorem Wl.step (w : Wl K E σ H τ M Fm ex) (s : SR K H' (M' ++ Fm)) (f : Fr H (keys (M ++ Fm)) H' (keys (M' ++ Fm))) : Wl K E σ H' τ M' Fm ex := ⟨w.sg.mono f, s, w.xp.mono f⟩
end
/-- behind: a value -/
def Af (K : PySem.W.Frag) (H : Hp) (M Fm : Mm) (R : BQ) (Q : VK) : Prop := ∀ v H' d M', DV K (keys (M' ++ Fm)) H' v d → SR K H' (M' ++ Fm) → Fr H (keys (M ++ Fm)) H' (keys (M' ++ Fm)) → R d M' → Q v H'
def liftE (K : PySem.W.Frag) (E : XK) (t : RE) : TE := fun σ H Q => ∃ τ M Fm R ex, Wl K E σ H τ M Fm ex ∧ t ex τ M R ∧ Af K H M Fm R Q
def liftT (K : PySem.W.Frag) (E : XK) (t : RT) : TT := fun σ H Q => ∃ τ M Fm R ex, Wl K E σ H τ M Fm ex ∧ t ex τ M R ∧ ∀ b H' M', SR K H' (M' ++ Fm) → Fr H (keys (M ++ Fm)) H' (keys (M' ++ Fm)) → R b M' → Q b H'
def liftA (K : PySem.W.Frag) (E : XK) (t : RA) : TA := fun σ H Q => ∃ τ M Fm R ex, Wl K E σ H τ M Fm ex ∧ t ex τ M R ∧ ∀ vs H' ds M', DVs K (keys (M' ++ Fm)) H' vs ds → SR K H' (M' ++ Fm) → Fr H (keys (M ++ Fm)) H' (keys (M' ++ Fm)) → R ds M' → Q vs H'
/-- behind: the slots -/
def AfS (K : PySem.W.Frag) (H : Hp) (M Fm : Mm) (R : BSt → Mm → Prop) (Q : L2.St → Hp → Prop) : Prop := ∀ σ' H' τ' M', Sg K (keys (M' ++ Fm)) H' σ' τ' → SR K H' (M' ++ Fm) → Fr H (keys (M ++ Fm)) H' (keys (M' ++ Fm)) → R τ' M' → Q σ' H'
theorem Af.mono {K : PySem.W.Frag} {H H1 : Hp} {M M1 Fm : Mm} {R : BQ} {Q : VK} (f : Fr H (keys (M ++ Fm)) H1 (keys (M1 ++ Fm))) (h : Af K H M Fm R Q) : Af K H1 M1 Fm R Q := fun v H' d M' dv s g r => h v H' d M' dv s (f.trans g) r
theorem AfS.mono {K : PySem.W.Frag} {H H1 : Hp} {M M1 Fm : Mm} {R : BSt → Mm → Prop} {Q : L2.St → Hp → Prop} (f : Fr H (keys (M ++ Fm)) H1 (keys (M1 ++ Fm))) (h : AfS K H M Fm R Q) : AfS K H1 M1 Fm R Q := fun v H' d M' dv s g r => h v H' d M' dv s (f.trans g) r
def liftS (K : PySem.W.Frag) (E : XK) (t : RS) : TS := fun Dn σ H => ∃ τ M Fm B, Wl K E σ H τ M Fm B.ex ∧ t B τ M ∧ AfS K H M Fm B.nx Dn.nx ∧ Af K H M Fm B.rt Dn.rt ∧ AfS K H M Fm B.bk Dn.bk ∧ AfS K H M Fm B.ct Dn.ct
def BE (X : Cx) (E : XK) (e : Expr) (t : RE) : Prop := PE X e (liftE X.K E t)
def BT (X : Cx) (E : XK) (e : Expr) (t : RT) : Prop := PT X e (liftT X.K E t)
def BW (X : Cx) (E : XK) (e : Expr) (t : RT) : Prop := PW X e (liftT X.K E t)
def BA (X : Cx) (E : XK) (es : List Expr) (t : RA) : Prop := PA X es (liftA X.K E t)
def BS (X : Cx) (E : XK) (st : Stmt) (t : RS) : Prop := PS X st (liftS X.K E t)
def BSs (X : Cx) (E : XK) (st : List Stmt) (t : RS) : Prop := PSs X st (liftS X.K E t)
section
variable {X : Cx} {E : XK} {e a b : Expr} {es : List Expr} {pos : Pos}
theorem PE.weak {t t2 : TE} (h : PE X e t) (w : ∀ σ H Q, t2 σ H Q → t σ H Q) : PE X e t2 := ⟨fun pins s σ H Q I q => h.run pins s σ H Q I (w _ _ _ q)⟩
theorem PT.weak {t t2 : TT} (h : PT X e t) (w : ∀ σ H Q, t2 σ H Q → t σ H Q) : PT X e t2 := ⟨fun pins s σ H Q I q => h.run pins s σ H Q I (w _ _ _ q)⟩
theorem PW.weak {t t2 : TT} (h : PW X e t) (w : ∀ σ H Q, t2 σ H Q → t σ H Q) : PW X e t2 := ⟨fun whole pins s σ H Q I q => h.run whole pins s σ H Q I (w _ _ _ q)⟩
theorem PA.weak {t t2 : TA} (h : PA X es t) (w : ∀ σ H Q, t2 σ H Q → t σ H Q) : PA X es t2 := ⟨fun pos pins s σ H Q I q => h.run pos pins s σ H Q I (w _ _ _ q)⟩
theorem PS.weak {st : Stmt} {t t2 : TS} (h : PS X st t) (w : ∀ D σ H, t2 D σ H → t D σ H) : PS X st t2 := ⟨fun pins s σ H D I q => h.run pins s σ H D I (w _ _ _ q)⟩
theorem PSs.weak {st : List Stmt} {t t2 : TS} (h : PSs X st t) (w : ∀ D σ H, t2 D σ H → t D σ H) : PSs X st t2 := ⟨fun pins s σ H D I q => h.run pins s σ H D I (w _ _ _ q)⟩
/-! ### names, constants -/
def rVar (i : Nat) : RE := fun _ τ M R => ∃ d, τ[i]? = some (some d) ∧ R d M
def rC (d : D) : RE := fun _ _ M R => R d M
theorem be_var {i : Nat} {x : Str} (h : PE X (.Name x pos) (tVar i)) : BE X E (.Name x pos) (rVar i) := PE.weak h fun σ H Q ⟨τ, M, Fm, R, ex, w, ⟨d, hd, r⟩, k⟩ => by
  obtain ⟨v, hv, dv⟩ := w.sg.2 i d hd
  exact ⟨v, hv, k v H d M dv w.sr .refl r⟩
theorem be_const {v : V} {d : D} (h : PE X e (tC v)) (hd : ∀ L H, DV X.K L H v d) : BE X E e (rC d) := PE.weak h fun σ H Q ⟨τ, M, Fm, R, ex, w, r, k⟩ => k v H d M (hd _ _) w.sr .refl r
theorem be_int {i : Int} {j} : BE X E (.Constant (.int i) j pos) (rC (.int i)) := be_const pe_int fun _ _ => .int i
theorem be_str {x : Str} {j} : BE X E (.Constant (.str x) j pos) (rC (.str x)) := be_const pe_str fun _ _ => .str x
theorem be_bl {x : Bool} {j} : BE X E (.Constant (.bool x) j pos) (rC (.bl x)) := be_const pe_bl fun _ _ => .bl x
theorem be_non {j} : BE X E (.Constant .none j pos) (rC .non) := be_const pe_non fun _ _ => .non
/-! ### operators by values -/
abbrev R2B := D → D → Mm → BQ → Prop
/-- a reading of two values -/
def lift2 (K : PySem.W.Frag) (r : R2B) : R2 := fun x y H Q => ∃ d e M Fm R, DV K (keys (M ++ Fm)) H x d ∧ DV K (keys (M ++ Fm)) H y e ∧ SR K H (M ++ Fm) ∧ r d e M R ∧ Af K H M Fm R Q
def BOp (X : Cx) (f : Value → Value → Sem Value) (r : R2B) : Prop := OpR X f (lift2 X.K r)
theorem OpR.weak {f : Value → Value → Sem Value} {r r2 : R2} (h : OpR X f r) (w : ∀ x y H Q, r2 x y H Q → r x y H Q) : OpR X f r2 := fun pins s σ H x y v u Q I rx ry q => h pins s σ H x y v u Q I rx ry (w _ _ _ _ q)
def rOp (r : R2B) (ta tb : RE) : RE := fun ex τ M R => ta ex τ M fun d M1 => tb ex τ M1 fun e M2 => r d e M2 R
theorem op_lift {r : R2B} {ta tb : RE} {σ : L2.St} {H : Hp} {Q : VK} (h : liftE X.K E (rOp r ta tb) σ H Q) : tOp (lift2 X.K r) (liftE X.K E ta) (liftE X.K E tb) σ H Q := by
  obtain ⟨τ, M, Fm, R, ex, w, h, k⟩ := h
  refine ⟨τ, M, Fm, _, ex, w, h, fun v H1 d M1 dv s1 f1 h1 => ⟨τ, M1, Fm, _, ex, w.step s1 f1, h1, fun u H2 e M2 du s2 f2 h2 => ⟨d, e, M2, Fm, R, dv.mono f2, du, s2, h2, (k.mono f1).mono f2⟩⟩⟩
theorem be_op {op : Operator} {r : R2B} {ta tb : RE} (ho : BOp X (binaryOp op) r) (ha : BE X E a ta) (hb : BE X E b tb) : BE X E (.BinOp a op b pos) (rOp r ta tb) := PE.weak (pe_op ho ha hb) fun _ _ _ h => op_lift h
theorem be_cmp {op : CmpOp} {r : R2B} {ta tb : RE} (ho : BOp X (compareOp op) r) (hm : behindInMarks op b = false) (ha : BE X E a ta) (hb : BE X E b tb) : BE X E (.Compare a [op] [b] pos) (rOp r ta tb) := PE.weak (pe_cmpR ho ha hb hm) fun _ _ _ h => op_lift h
def rTst (t : RE) : RT := fun ex τ M R => t ex τ M fun d M1 => ∃ b, d = .bl b ∧ R b M1
theorem bt_cmp {op : CmpOp} {r : R2B} {ta tb : RE} (ho : BOp X (compareOp op) r) (hm : behindInMarks op b = false) (ha : BE X E a ta) (hb : BE X E b tb) : BT X E (.Compare a [op] [b] pos) (rTst (rOp r ta tb)) := PT.weak (pt_cmpR ho ha hb hm) fun σ H Q ⟨τ, M, Fm, R, ex, w, h, k⟩ => by
  refine op_lift ⟨τ, M, Fm, _, ex, w, h, fun v H1 d M1 dv s1 f1 ⟨b, e, r⟩ => ?_⟩
  subst e
  cases dv
  exact ⟨b, rfl, k b H1 M1 s1 f1 r⟩
theorem bt_val {t : RE} (h : BE X E e t) (he : ∀ whole, isTrue e X.env whole = (do let v ← whole; standAt e.pos; holding [v] (truthy v)) := by intro _; rfl) : BT X E e (rTst t) := PT.weak (pt_val h he) fun σ H Q ⟨τ, M, Fm, R, ex, w, h, k⟩ => by
  refine ⟨τ, M, Fm, _, ex, w, h, fun v H1 d M1 dv s1 f1 ⟨b, e, r⟩ => ?_⟩
  subst e
  cases dv
  exact ⟨b, rfl, k b H1 M1 s1 f1 r⟩
/-! ### and, or, not, if else -/
variable {ta tb : RE} {tc td : RT} {rest : List Expr}
def rAnd (t u : RT) : RT := fun ex τ M R => t ex τ M fun c M1 => if c = true then u ex τ M1 R else R false M1
def rOr (t u : RT) : RT := fun ex τ M R => t ex τ M fun c M1 => if c = true then R true M1 else u ex τ M1 R
def rNot (t : RT) : RT := fun ex τ M R => t ex τ M fun c M1 => R (!c) M1
theorem bw_pt (h : BW X E e tc) : BT X E e tc := PW.pt h
theorem bw_and1 (h : BT X E a tc) : BW X E (.BoolOp .And [a] pos) tc := pw_and1 h
theorem bw_or1 (h : BT X E a tc) : BW X E (.BoolOp .Or [a] pos) tc := pw_or1 h
theorem bw_and (ha : BT X E a tc) (hb : BW X E (.BoolOp .And (b :: rest) pos) td) : BW X E (.BoolOp .And (a :: b :: rest) pos) (rAnd tc td) := PW.weak (pw_and ha hb) fun σ H Q ⟨τ, M, Fm, R, ex, w, h, k⟩ => by
  refine ⟨τ, M, Fm, _, ex, w, h, fun c H1 M1 s1 f1 h1 => ?_⟩
  cases c with
  | true => exact ⟨τ, M1, Fm, R, ex, w.step s1 f1, h1, fun b H' M' s f r => k b H' M' s (f1.trans f) r⟩
  | false => exact k false H1 M1 s1 f1 h1
theorem bw_or (ha : BT X E a tc) (hb : BW X E (.BoolOp .Or (b :: rest) pos) td) : BW X E (.BoolOp .Or (a :: b :: rest) pos) (rOr tc td) := PW.weak (pw_or ha hb) fun σ H Q ⟨τ, M, Fm, R, ex, w, h, k⟩ => by
  refine ⟨τ, M, Fm, _, ex, w, h, fun c H1 M1 s1 f1 h1 => ?_⟩
  cases c with
  | true => exact k true H1 M1 s1 f1 h1
  | false => exact ⟨τ, M1, Fm, R, ex, w.step s1 f1, h1, fun b H' M' s f r => k b H' M' s (f1.trans f) r⟩
theorem bt_not (ha : BT X E a tc) : BT X E (.UnaryOp .Not a pos) (rNot tc) := PT.weak (pt_not ha) fun σ H Q ⟨τ, M, Fm, R, ex, w, h, k⟩ => ⟨τ, M, Fm, _, ex, w, h, fun c H1 M1 s1 f1 h1 => k _ H1 M1 s1 f1 h1⟩
/-- as values -/
def rAndV (ta tb : RE) : RE := fun ex τ M R => ta ex τ M fun d M1 => ∃ c, d = .bl c ∧ if c = true then tb ex τ M1 R else R (.bl false) M1
def rOrV (ta tb : RE) : RE := fun ex τ M R => ta ex τ M fun d M1 => ∃ c, d = .bl c ∧ if c = true then R (.bl true) M1 else tb ex τ M1 R
def rNotV (ta : RE) : RE := fun ex τ M R => ta ex τ M fun d M1 => ∃ c, d = .bl c ∧ R (.bl (!c)) M1
theorem be_one {op} {t : RE} (h : BE X E a t) : BE X E (.BoolOp op [a] pos) t := pe_one h
theorem be_and (ha : BE X E a ta) (hb : BE X E (.BoolOp .And (b :: rest) pos) tb) : BE X E (.BoolOp .And (a :: b :: rest) pos) (rAndV ta tb) := PE.weak (pe_and ha hb) fun σ H Q ⟨τ, M, Fm, R, ex, w, h, k⟩ => by
  refine ⟨τ, M, Fm, _, ex, w, h, fun v H1 d M1 dv s1 f1 ⟨c, e, h1⟩ => ?_⟩
  subst e
  cases dv
  refine ⟨c, rfl, ?_⟩
  cases c with
  | true => exact ⟨τ, M1, Fm, R, ex, w.step s1 f1, h1, k.mono f1⟩
  | false => exact k _ H1 _ M1 (.bl false) s1 f1 h1
theorem be_or (ha : BE X E a ta) (hb : BE X E (.BoolOp .Or (b :: rest) pos) tb) : BE X E (.BoolOp .Or (a :: b :: rest) pos) (rOrV ta tb) := PE.weak (pe_or ha hb) fun σ H Q ⟨τ, M, Fm, R, ex, w, h, k⟩ => by
  refine ⟨τ, M, Fm, _, ex, w, h, fun v H1 d M1 dv s1 f1 ⟨c, e, h1⟩ => ?_⟩
  subst e
  cases dv
  refine ⟨c, rfl, ?_⟩
  cases c with
  | true => exact k _ H1 _ M1 (.bl true) s1 f1 h1
  | false => exact ⟨τ, M1, Fm, R, ex, w.step s1 f1, h1, k.mono f1⟩
theorem be_not (ha : BE X E a ta) : BE X E (.UnaryOp .Not a pos) (rNotV ta) := PE.weak (pe_not ha) fun σ H Q ⟨τ, M, Fm, R, ex, w, h, k⟩ => by
  refine ⟨τ, M, Fm, _, ex, w, h, fun v H1 d M1 dv s1 f1 ⟨c, e, h1⟩ => ?_⟩
  subst e
  cases dv
  exact ⟨c, rfl, k _ H1 _ M1 (.bl _) s1 f1 h1⟩
def rIf (t : RT) (ta tb : RE) : RE := fun ex τ M R => t ex τ M fun c M1 => if c = true then ta ex τ M1 R else tb ex τ M1 R
theorem be_if {c : Expr} (hc : BT X E c tc) (ha : BE X E a ta) (hb : BE X E b tb) : BE X E (.IfExp c a b pos) (rIf tc ta tb) := PE.weak (pe_ifExp hc ha hb) fun σ H Q ⟨τ, M, Fm, R, ex, w, h, k⟩ => by
  refine ⟨τ, M, Fm, _, ex, w, h, fun c H1 M1 s1 f1 h1 => ?_⟩
  cases c with
  | true => exact ⟨τ, M1, Fm, R, ex, w.step s1 f1, h1, k.mono f1⟩
  | false => exact ⟨τ, M1, Fm, R, ex, w.step s1 f1, h1, k.mono f1⟩
/-! ### arguments, tuples, lists -/
variable {t : RA}
def rNil : RA := fun _ _ M R => R [] M
def rCons (ta : RE) (tr : RA) : RA := fun ex τ M R => ta ex τ M fun d M1 => tr ex τ M1 fun ds M2 => R (d :: ds) M2
theorem ba_nil : BA X E [] rNil := PA.weak pa_nil fun σ H Q ⟨τ, M, Fm, R, ex, w, h, k⟩ => k [] H [] M .nil w.sr .refl h
theorem ba_cons (ha : BE X E e ta) (hr : BA X E es t) (he : starEach (e :: es) X.env = (false, eval e X.env) :: starEach es X.env := by rfl) : BA X E (e :: es) (rCons ta t) := PA.weak (pa_cons ha hr he) fun σ H Q ⟨τ, M, Fm, R, ex, w, h, k⟩ => by
  refine ⟨τ, M, Fm, _, ex, w, h, fun v H1 d M1 dv s1 f1 h1 => ⟨τ, M1, Fm, _, ex, w.step s1 f1, h1, fun vs H2 ds M2 dvs s2 f2 h2 => ?_⟩⟩
  exact k (v :: vs) H2 (d :: ds) M2 (.cons (dv.mono f2) dvs) s2 (f1.trans f2) h2
theorem new_tup {K : PySem.W.Frag} {H : Hp} {M Fm : Mm} {p : Addr} {vs : List V} {ds : List D} (s : SR K H (M ++ Fm)) (dv : DVs K (keys (M ++ Fm)) H vs ds) (hp : H p = none) : DV K (keys (M ++ Fm)) (upd H p (.tup vs)) (.ref p) (.tup ds) :=
  .tup (.inl ⟨s.fresh hp, upd_same⟩) (dv.mono (fr_new s hp))
theorem new_lst {K : PySem.W.Frag} {H : Hp} {M Fm : Mm} {p : Addr} {vs : List V} {ds : List D} (s : SR K H (M ++ Fm)) (dv : DVs K (keys (M ++ Fm)) H vs ds) (hp : H p = none) : DV K (keys (M ++ Fm)) (upd H p (.lst vs)) (.ref p) (.lst ds) :=
  .lst ⟨s.fresh hp, upd_same⟩ (dv.mono (fr_new s hp))
/-- short: a size that is no question -/
def Sz (n : Nat) : Prop := n ≤ 16000000
theorem Sz.line {n : Nat} (h : Sz n) : n ≤ sizeLine := by
  rw [sizeLine_eq]
  exact Nat.le_trans h (by decide)
theorem Sz.lt {n : Nat} (h : Sz n) : n < sizeLine := by
  rw [sizeLine_eq]
  exact Nat.lt_of_le_of_lt h (by decide)
def rTup (t : RA) : RE := fun ex τ M R => t ex τ M fun ds M1 => Sz ds.length ∧ R (.tup ds) M1
/-- a list by value; an owned one -/
def rLstV (t : RA) : RE := fun ex τ M R => t ex τ M fun ds M1 => Sz ds.length ∧ R (.lst ds) M1
def rLstO (t : RA) : RE := fun ex τ M R => t ex τ M fun ds M1 => Sz ds.length ∧ ∀ p, R (.ref p) ((p, .lst ds) :: M1)
theorem be_tup {k} (h : BA X E es t) : BE X E (.Tuple es k pos) (rTup t) := PE.weak (pe_tup h) fun σ H Q ⟨τ, M, Fm, R, ex, w, h, k⟩ => by
  refine ⟨τ, M, Fm, _, ex, w, h, fun vs H1 ds M1 dv s1 f1 ⟨z, r⟩ => ⟨by rw [dv.length]; exact z.line, fun p hp => ?_⟩⟩
  exact k _ _ _ M1 (new_tup s1 dv hp) (s1.new hp) (f1.trans (fr_new s1 hp)) r
theorem be_lstV (h : BA X E es t) : BE X E (.List es pos) (rLstV t) := PE.weak (pe_lst h) fun σ H Q ⟨τ, M, Fm, R, ex, w, h, k⟩ => by
  refine ⟨τ, M, Fm, _, ex, w, h, fun vs H1 ds M1 dv s1 f1 ⟨z, r⟩ => ⟨by rw [dv.length]; exact z.line, fun p hp => ?_⟩⟩
  exact k _ _ _ M1 (new_lst s1 dv hp) (s1.new hp) (f1.trans (fr_new s1 hp)) r
theorem be_lstO (h : BA X E es t) : BE X E (.List es pos) (rLstO t) := PE.weak (pe_lst h) fun σ H Q ⟨τ, M, Fm, R, ex, w, h, k⟩ => by
  refine ⟨τ, M, Fm, _, ex, w, h, fun vs H1 ds M1 dv s1 f1 ⟨z, r⟩ => ⟨by rw [dv.length]; exact z.line, fun p hp => ?_⟩⟩
  exact k _ _ _ ((p, .lst ds) :: M1) (.ref p) (s1.own (o := .lst ds) hp ⟨vs, upd_same, dv.mono (fr_own s1 hp)⟩) (f1.trans (fr_own s1 hp)) (r p)
end
end BV
set_option maxHeartbeats 4000000
namespace BV
open PySem PySem.Spec PyProof.Rows L2
/-! ### another view of the same state -/
def Cv (τ : BSt) (M : Mm) (τ2 : BSt) (M2 : Mm) : Prop := ∀ (K : PySem.W.Frag) (H : Hp) (σ : L2.St) (Fm : Mm), Sg K (keys (M ++ Fm)) H σ τ → SR K H (M ++ Fm) → Sg K (keys (M2 ++ Fm)) H σ τ2 ∧ SR K H (M2 ++ Fm) ∧ ∀ a ∈ keys (M2 ++ Fm), a ∈ keys (M ++ Fm)
def CvA (ds : List D) (M : Mm) (ds2 : List D) (M2 : Mm) : Prop := ∀ (K : PySem.W.Frag) (H : Hp) (vs : List V) (Fm : Mm), DVs K (keys (M ++ Fm)) H vs ds → SR K H (M ++ Fm) → DVs K (keys (M2 ++ Fm)) H vs ds2 ∧ SR K H (M2 ++ Fm) ∧ ∀ a ∈ keys (M2 ++ Fm), a ∈ keys (M ++ Fm)
theorem Cv.refl {τ : BSt} {M : Mm} : Cv τ M τ M := fun _ _ _ _ s r => ⟨s, r, fun _ h => h⟩
theorem CvA.refl {τ : List D} {M : Mm} : CvA τ M τ M := fun _ _ _ _ s r => ⟨s, r, fun _ h => h⟩
theorem Cv.trans {τ τ1 τ2 : BSt} {M M1 M2 : Mm} (a : Cv τ M τ1 M1) (b : Cv τ1 M1 τ2 M2) : Cv τ M τ2 M2 := fun K H σ Fm s r => by
  obtain ⟨s1, r1, k1⟩ := a K H σ Fm s r
  obtain ⟨s2, r2, k2⟩ := b K H σ Fm s1 r1
  exact ⟨s2, r2, fun x h => k1 x (k2 x h)⟩
theorem CvA.trans {τ τ1 τ2 : List D} {M M1 M2 : Mm} (a : CvA τ M τ1 M1) (b : CvA τ1 M1 τ2 M2) : CvA τ M τ2 M2 := fun K H σ Fm s r => by
  obtain ⟨s1, r1, k1⟩ := a K H σ Fm s r
  obtain ⟨s2, r2, k2⟩ := b K H σ Fm s1 r1
  exact ⟨s2, r2, fun x h => k1 x (k2 x h)⟩
theorem Cv.perm {τ : BSt} {M M2 : Mm} (p : M.Perm M2) : Cv τ M τ M2 := fun K H σ Fm s r => ⟨s.mono (fr_perm (p.append_right Fm)), r.perm (p.append_right Fm), fun a h => (keys_perm (p.append_right Fm)).mem_iff.mpr h⟩
theorem CvA.perm {τ : List D} {M M2 : Mm} (p : M.Perm M2) : CvA τ M τ M2 := fun K H σ Fm s r => ⟨s.mono (fr_perm (p.append_right Fm)), r.perm (p.append_right Fm), fun a h => (keys_perm (p.append_right Fm)).mem_iff.mpr h⟩
theorem Cv.drop {τ : BSt} {M : Mm} {x : Addr × MO} : Cv τ (x :: M) τ M := fun K H σ Fm s r => ⟨s.mono fr_drop, SR.drop (a := x.1) (o := x.2) r, fun a h => List.mem_cons_of_mem _ h⟩
theorem CvA.drop {τ : List D} {M : Mm} {x : Addr × MO} : CvA τ (x :: M) τ M := fun K H σ Fm s r => ⟨s.mono fr_drop, SR.drop (a := x.1) (o := x.2) r, fun a h => List.mem_cons_of_mem _ h⟩
/-- what a given-up object is by value -/
inductive Fz : MO → D → Prop
  | lst (ds : List D) : Fz (.lst ds) (.lst ds)
  | ins (c : Cl) (ds : List D) : Fz (.ins c ds) (.ins c ds)
theorem SR.fz {K : PySem.W.Frag} {H : Hp} {M : Mm} {a : Addr} {o : MO} {d : D} (s : SR K H ((a, o) :: M)) (z : Fz o d) : DV K (keys M) H (.ref a) d := by
  have h := s.at_ _ List.mem_cons_self
  cases z with
  | lst ds =>
    obtain ⟨vs, h, hs⟩ := h
    exact .lst ⟨s.off, h⟩ (hs.mono fr_drop)
  | ins c ds =>
    obtain ⟨dx, vs, h, hl, hs⟩ := h
    exact .ins h s.off hl (hs.mono fr_drop)
mutual
/-- d with the object at a by value (some places) -/
inductive Sub (a : Addr) (z : D) : D → D → Prop
  | rfl (d : D) : Sub a z d d
  | here : Sub a z (.ref a) z
  | tup {ds es : List D} : Subs a z ds es → Sub a z (.tup ds) (.tup es)
  | lst {ds es : List D} : Subs a z ds es → Sub a z (.lst ds) (.lst es)
  | ins {c : Cl} {ds es : List D} : Subs a z ds es → Sub a z (.ins c ds) (.ins c es)
inductive Subs (a : Addr) (z : D) : List D → List D → Prop
  | nil : Subs a z [] []
  | cons {d e : D} {ds es : List D} : Sub a z d e → Subs a z ds es → Subs a z (d :: ds) (e :: es)
end
section
variable {K : PySem.W.Frag} {L : List Addr} {H : Hp} {a : Addr} {z : D}
mutual
theorem Sub.dv (hz : DV K L H (.ref a) z) : ∀ {d e : D} {v : V}, Sub a z d e → DV K L H v d → DV K L H v e
  | _, _, _, .rfl _, h => h
  | _, _, _, .here, h => by
    cases h
    exact hz
  | _, _, _, .tup s, h => by
    cases h with
    | tup h hs => exact .tup h (Subs.dv hz s hs)
  | _, _, _, .lst s, h => by
    cases h with
    | lst h hs => exact .lst h (Subs.dv hz s hs)
  | _, _, _, .ins s, h => by
    cases h with
    | ins h n hl hs => exact .ins h n hl (Subs.dv hz s hs)
theorem Subs.dv (hz : DV K L H (.ref a) z) : ∀ {ds es : List D} {vs : List V}, Subs a z ds es → DVs K L H vs ds → DVs K L H vs es
  | _, _, _, .nil, h => h
  | _, _, _, .cons s ss, h => by
    cases h with
    | cons h hs => exact .cons (Sub.dv hz s h) (Subs.dv hz ss hs)
end
end
/-- given up, and seen by value in the values told -/
theorem CvA.fz {ds es : List D} {M : Mm} {a : Addr} {o : MO} {z : D} (hz : Fz o z) (s : Subs a z ds es) : CvA ds ((a, o) :: M) es M := fun K H vs Fm h r =>
  ⟨Subs.dv (r.fz hz) s (h.mono fr_drop), SR.drop (a := a) (o := o) r, fun x h => List.mem_cons_of_mem _ h⟩
/-- given up, and seen by value in a slot -/
theorem Cv.fz {τ : BSt} {M : Mm} {a : Addr} {o : MO} {z d e : D} {i : Nat} (hz : Fz o z) (hi : τ[i]? = some (some d)) (s : Sub a z d e) : Cv τ ((a, o) :: M) (τ.set i (some e)) M := fun K H σ Fm h r => by
  refine ⟨⟨by rw [List.length_set]; exact h.1, fun j x hj => ?_⟩, SR.drop (a := a) (o := o) r, fun x h => List.mem_cons_of_mem _ h⟩
  have h1 := h.mono (fr_drop (H := H) (a := a) (L := keys (M ++ Fm)))
  by_cases e1 : i = j
  · subst e1
    have hl : i < τ.length := (List.getElem?_eq_some_iff.mp hi).1
    rw [List.getElem?_set_self hl] at hj
    obtain ⟨v, hv, dv⟩ := h1.2 i d hi
    have e2 := Option.some.inj (Option.some.inj hj)
    subst e2
    exact ⟨v, hv, Sub.dv (r.fz hz) s dv⟩
  · rw [List.getElem?_set_ne e1] at hj
    exact h1.2 j x hj
/-- .. in an owned object that holds it -/
theorem Cv.fzIn {τ : BSt} {M : Mm} {a b : Addr} {o : MO} {z : D} {ds es : List D} {mk : List D → MO} (hmk : mk = .lst ∨ ∃ c, mk = .ins c) (hz : Fz o z) (s : Subs a z ds es) : Cv τ ((a, o) :: (b, mk ds) :: M) τ ((b, mk es) :: M) := fun K H σ Fm h r => by
  have h1 := h.mono (fr_drop (H := H) (a := a) (L := keys (((b, mk ds) :: M) ++ Fm)))
  have r1 : SR K H (((b, mk ds) :: M) ++ Fm) := SR.drop (a := a) (o := o) r
  refine ⟨h1, ⟨r1.nd, fun p hp => ?_⟩, fun x h => List.mem_cons_of_mem _ h⟩
  rcases List.mem_cons.mp hp with e | hp2
  · subst e
    have h2 := r1.at_ (b, mk ds) List.mem_cons_self
    have dz := r.fz hz
    rcases hmk with rfl | ⟨c, rfl⟩
    · obtain ⟨vs, h3, hs⟩ := h2
      exact ⟨vs, h3, Subs.dv dz s hs⟩
    · obtain ⟨dx, vs, h3, hl, hs⟩ := h2
      exact ⟨dx, vs, h3, hl, Subs.dv dz s hs⟩
  · exact r1.at_ p (List.mem_cons_of_mem _ hp2)
theorem Cv.forget {τ : BSt} {M : Mm} {i : Nat} : Cv τ M (τ.set i none) M := fun K H σ Fm h r => ⟨⟨by rw [List.length_set]; exact h.1, fun j x hj => by
  by_cases e1 : i = j
  · subst e1
    by_cases hl : i < τ.length
    · rw [List.getElem?_set_self hl] at hj
      cases Option.some.inj hj
    · rw [List.getElem?_eq_none (by rw [List.length_set]; omega)] at hj
      cases hj
  · rw [List.getElem?_set_ne e1] at hj
    exact h.2 j x hj⟩, r, fun _ h => h⟩
def CvS (τ : BSt) (M : Mm) (P : BSt → Mm → Prop) : Prop := ∃ τ2 M2, Cv τ M τ2 M2 ∧ P τ2 M2
theorem CvS.go {τ : BSt} {M : Mm} {P : BSt → Mm → Prop} (h : P τ M) : CvS τ M P := ⟨τ, M, .refl, h⟩
def CvV (d : D) (M : Mm) (R : BQ) : Prop := ∃ d2 M2, CvA [d] M [d2] M2 ∧ R d2 M2
theorem CvV.go {d : D} {M : Mm} {R : BQ} (h : R d M) : CvV d M R := ⟨d, M, .refl, h⟩
/-! ### statements -/
section
variable {X : Cx} {E : XK} {st : Stmt} {rest : List Stmt} {e a b : Expr} {es : List Expr} {pos : Pos} {t u : RS} {te : RE} {tc : RT}
def sSkip : RS := fun B τ M => B.nx τ M
def sSeq (t u : RS) : RS := fun B τ M => t { B with nx := fun τ M => CvS τ M (u B) } τ M
def sDrop (te : RE) : RS := fun B τ M => te B.ex τ M fun _ M1 => B.nx τ M1
def sRet (te : RE) : RS := fun B τ M => te B.ex τ M fun d M1 => CvV d M1 B.rt
def sRetN : RS := fun B _ M => B.rt .non M
def sIf (c : RT) (t u : RS) : RS := fun B τ M => c B.ex τ M fun b M1 => if b = true then t B τ M1 else u B τ M1
def sBreak : RS := fun B τ M => B.bk τ M
def sCont : RS := fun B τ M => B.ct τ M
def sNever : RS := fun _ _ _ => False
theorem bss_nil : BSs X E [] sSkip := PSs.weak pss_nil fun Dn σ H ⟨τ, M, Fm, B, w, h, kn, kr, kb, kc⟩ => kn σ H τ M w.sg w.sr .refl h
theorem bs_pass : BS X E (.Pass pos) sSkip := PS.weak ps_pass fun Dn σ H ⟨τ, M, Fm, B, w, h, kn, kr, kb, kc⟩ => kn σ H τ M w.sg w.sr .refl h
theorem bs_break : BS X E (.Break pos) sBreak := PS.weak ps_break fun Dn σ H ⟨τ, M, Fm, B, w, h, kn, kr, kb, kc⟩ => kb σ H τ M w.sg w.sr .refl h
theorem bs_continue : BS X E (.Continue pos) sCont := PS.weak ps_continue fun Dn σ H ⟨τ, M, Fm, B, w, h, kn, kr, kb, kc⟩ => kc σ H τ M w.sg w.sr .refl h
theorem bs_never : BS X E st sNever := PS.weak ps_never fun Dn σ H ⟨τ, M, Fm, B, w, h, _⟩ => h
theorem bss_one (h : BS X E st t) : BSs X E [st] t := pss_one h
/-- a state seen anew -/
theorem Wl.cv {K : PySem.W.Frag} {σ : L2.St} {H : Hp} {τ τ2 : BSt} {M M2 Fm : Mm} {ex : BX} (w : Wl K E σ H τ M Fm ex) (c : Cv τ M τ2 M2) : Wl K E σ H τ2 M2 Fm ex ∧ Fr H (keys (M ++ Fm)) H (keys (M2 ++ Fm)) := by
  obtain ⟨s, r, k⟩ := c K H σ Fm w.sg w.sr
  have f : Fr H (keys (M ++ Fm)) H (keys (M2 ++ Fm)) := fr_sub k
  exact ⟨⟨s, r, w.xp.mono f⟩, f⟩
theorem bss_cons (h1 : BS X E st t) (h2 : BSs X E rest u) : BSs X E (st :: rest) (sSeq t u) := PSs.weak (pss_cons h1 h2) fun Dn σ H ⟨τ, M, Fm, B, w, h, kn, kr, kb, kc⟩ => by
  refine ⟨τ, M, Fm, { B with nx := fun τ M => CvS τ M (u B) }, w, h, fun σ' H' τ' M' sg sr f ⟨τ2, M2, c, h'⟩ => ?_, kr, kb, kc⟩
  obtain ⟨w2, f2⟩ := Wl.cv (⟨sg, sr, w.xp.mono f⟩ : Wl X.K E σ' H' τ' M' Fm B.ex) c
  have g := f.trans f2
  exact ⟨τ2, M2, Fm, B, w2, h', kn.mono g, kr.mono g, kb.mono g, kc.mono g⟩
theorem bs_expr (he : BE X E e te) (hs : swapsWith e none pos.line X.env = pure false := by rfl) : BS X E (.Expr e pos) (sDrop te) := PS.weak (ps_expr he hs) fun Dn σ H ⟨τ, M, Fm, B, w, h, kn, kr, kb, kc⟩ =>
  ⟨τ, M, Fm, _, _, w, h, fun v H' d M' _ sr f h' => kn σ H' τ M' (w.sg.mono f) sr f h'⟩
theorem af_cv {K : PySem.W.Frag} {H : Hp} {M Fm : Mm} {R : BQ} {Q : VK} (k : Af K H M Fm R Q) : Af K H M Fm (fun d M1 => CvV d M1 R) Q := fun v H' d M' dv sr f ⟨d2, M2, c, r⟩ => by
  obtain ⟨dv2, sr2, k2⟩ := c K H' [v] Fm (.cons dv .nil) sr
  cases dv2 with
  | cons dv3 _ => exact k v H' d2 M2 dv3 sr2 (f.trans (fr_sub k2)) r
theorem bs_ret (he : BE X E e te) : BS X E (.Return (some e) pos) (sRet te) := PS.weak (ps_ret he) fun Dn σ H ⟨τ, M, Fm, B, w, h, kn, kr, kb, kc⟩ => ⟨τ, M, Fm, _, _, w, h, af_cv kr⟩
theorem bs_retN : BS X E (.Return none pos) sRetN := PS.weak ps_retN fun Dn σ H ⟨τ, M, Fm, B, w, h, kn, kr, kb, kc⟩ => kr .non H .non M .non w.sr .refl h
theorem bs_if {c : Expr} {p q : List Stmt} (hc : BT X E c tc) (ha : BSs X E p t) (hb : BSs X E q u) : BS X E (.If c p q pos) (sIf tc t u) := PS.weak (ps_if hc ha hb) fun Dn σ H ⟨τ, M, Fm, B, w, h, kn, kr, kb, kc⟩ => by
  refine ⟨τ, M, Fm, _, _, w, h, fun b H1 M1 sr f h1 => ?_⟩
  cases b with
  | true => exact ⟨τ, M1, Fm, B, w.step sr f, h1, kn.mono f, kr.mono f, kb.mono f, kc.mono f⟩
  | false => exact ⟨τ, M1, Fm, B, w.step sr f, h1, kn.mono f, kr.mono f, kb.mono f, kc.mono f⟩
/-! ### targets -/
abbrev RG := BX → D → BSt → Mm → (BSt → Mm → Prop) → Prop
abbrev RGs := BX → List D → BSt → Mm → (BSt → Mm → Prop) → Prop
def liftG (K : PySem.W.Frag) (E : XK) (g : RG) : TG := fun v σ H Q => ∃ d τ M Fm R ex, DV K (keys (M ++ Fm)) H v d ∧ Wl K E σ H τ M Fm ex ∧ g ex d τ M R ∧ AfS K H M Fm R Q
def liftGs (K : PySem.W.Frag) (E : XK) (g : RGs) : TGs := fun vs σ H Q => ∃ ds τ M Fm R ex, DVs K (keys (M ++ Fm)) H vs ds ∧ Wl K E σ H τ M Fm ex ∧ g ex ds τ M R ∧ AfS K H M Fm R Q
def BG (X : Cx) (E : XK) (e : Expr) (g : RG) : Prop := PG X e (liftG X.K E g)
def BGs (X : Cx) (E : XK) (es : List Expr) (g : RGs) : Prop := PGs X es (liftGs X.K E g)
theorem PG.weak {t t2 : TG} (h : PG X e t) (w : ∀ v σ H Q, t2 v σ H Q → t v σ H Q) : PG X e t2 := ⟨fun pins s σ H v u Q I r q => h.run pins s σ H v u Q I r (w _ _ _ _ q)⟩
theorem PGs.weak {t t2 : TGs} (h : PGs X es t) (w : ∀ v σ H Q, t2 v σ H Q → t v σ H Q) : PGs X es t2 := ⟨fun pins s σ H v u Q I r q => h.run pins s σ H v u Q I r (w _ _ _ _ q)⟩
def gN (i : Nat) : RG := fun _ d τ M R => R (τ.set i (some d)) M
theorem Sg.set {K : PySem.W.Frag} {L : List Addr} {H : Hp} {σ : L2.St} {τ : BSt} {i : Nat} {v : V} {d : D} (s : Sg K L H σ τ) (h : DV K L H v d) : Sg K L H (σ.set i (some v)) (τ.set i (some d)) := ⟨by rw [List.length_set, List.length_set]; exact s.1, fun j x hj => by
  by_cases e1 : i = j
  · subst e1
    by_cases hl : i < τ.length
    · rw [List.getElem?_set_self hl] at hj
      have e2 := Option.some.inj (Option.some.inj hj)
      subst e2
      exact ⟨v, List.getElem?_set_self (by rw [s.1]; exact hl), h⟩
    · rw [List.getElem?_eq_none (by rw [List.length_set]; omega)] at hj
      cases hj
  · rw [List.getElem?_set_ne e1] at hj
    rw [List.getElem?_set_ne e1]
    exact s.2 j x hj⟩
theorem bg_name {i : Nat} {x : Str} (h : PG X (.Name x pos) (gName i)) : BG X E (.Name x pos) (gN i) := PG.weak h fun v σ H Q ⟨d, τ, M, Fm, R, ex, dv, w, r, k⟩ => k _ H _ M (w.sg.set dv) w.sr .refl r
def gNil : RGs := fun _ ds τ M R => ds = [] ∧ R τ M
def gCons (g : RG) (gs : RGs) : RGs := fun ex ds τ M R => ∃ d r, ds = d :: r ∧ g ex d τ M fun τ1 M1 => gs ex r τ1 M1 R
theorem bgs_nil : BGs X E [] gNil := PGs.weak pgs_nil fun vs σ H Q ⟨ds, τ, M, Fm, R, ex, dv, w, ⟨e, r⟩, k⟩ => by
  subst e
  cases dv
  exact ⟨rfl, k σ H τ M w.sg w.sr .refl r⟩
theorem bgs_cons {g : RG} {gs : RGs} (h1 : BG X E e g) (h2 : BGs X E es gs) (hs : (assignEach (e :: es) X.env).map (·.2) = assign e X.env :: (assignEach es X.env).map (·.2) := by rfl) : BGs X E (e :: es) (gCons g gs) := PGs.weak (pgs_cons h1 h2 hs) fun vs σ H Q ⟨ds, τ, M, Fm, R, ex, dv, w, ⟨d, r, e, h⟩, k⟩ => by
  subst e
  cases dv with
  | cons dv dvs =>
    refine ⟨_, _, rfl, d, τ, M, Fm, _, ex, dv, w, h, fun σ1 H1 τ1 M1 sg sr f h1 => ?_⟩
    exact ⟨r, τ1, M1, Fm, R, ex, dvs.mono f, ⟨sg, sr, w.xp.mono f⟩, h1, k.mono f⟩
def gTup (n : Nat) (gs : RGs) : RG := fun ex d τ M R => ∃ ds, d = .tup ds ∧ ds.length = n ∧ gs ex ds τ M R
theorem bg_tup {k : Nat} {gs : RGs} {n : Nat} (hc : X.calm = true) (h : BGs X E es gs) (hn : (assignEach es X.env).length = n := by rfl) (hst : (assignEach es X.env).findIdx? (·.1) = none := by rfl) : BG X E (.Tuple es k pos) (gTup n gs) := PG.weak (pg_tup hc h hn hst) fun v σ H Q ⟨d, τ, M, Fm, R, ex, dv, w, ⟨ds, e, hl, h⟩, k⟩ => by
  subst e
  cases dv with
  | tup ht hs => exact ⟨_, _, rfl, ht.sq, hs.length.trans hl, ds, τ, M, Fm, R, ex, hs, w, h, k⟩
def sAsg (te : RE) (g : RG) : RS := fun B τ M => te B.ex τ M fun d M1 => g B.ex d τ M1 B.nx
theorem asg_lift {g : RG} {Dn : Ends} {σ : L2.St} {H : Hp} (h : liftS X.K E (sAsg te g) Dn σ H) : tAsg (liftE X.K E te) (liftG X.K E g) Dn σ H := by
  obtain ⟨τ, M, Fm, B, w, h, kn, kr, kb, kc⟩ := h
  exact ⟨τ, M, Fm, _, _, w, h, fun v H1 d M1 dv sr f h1 => ⟨d, τ, M1, Fm, _, _, dv, w.step sr f, h1, kn.mono f⟩⟩
theorem bs_asg {tg : Expr} {g : RG} (he : BE X E e te) (hg : BG X E tg g) (hs : swapsWithSole [tg] e pos.line X.env = pure false := by rfl) (hw : swappedStores [tg] e X.env = pure none := by rfl)
    (h1 : (assignEach [tg] X.env).map (·.2) = [assign tg X.env] := by rfl) : BS X E (.Assign [tg] e pos) (sAsg te g) := PS.weak (ps_asg he hg hs hw h1) fun Dn σ H h => asg_lift h
/-- x = e, by a rule of the layer that stores into a slot -/
theorem bs_setOf {i : Nat} (h : PS X st (tAsg (liftE X.K E te) (gName i))) : BS X E st (sAsg te (gN i)) := PS.weak h fun Dn σ H ⟨τ, M, Fm, B, w, h, kn, kr, kb, kc⟩ =>
  ⟨τ, M, Fm, _, _, w, h, fun v H1 d M1 dv sr f h1 => kn _ H1 _ M1 ((w.sg.mono f).set dv) sr f h1⟩
/-- two, three names at once -/
def sPar (i j : Nat) (ta : RA) : RS := fun B τ M => ta B.ex τ M fun ds M1 => ∃ d e, ds = [d, e] ∧ B.nx ((τ.set i (some d)).set j (some e)) M1
theorem bs_par {i j : Nat} {ta : RA} (h : PS X st (tPar i j (liftA X.K E ta))) : BS X E st (sPar i j ta) := PS.weak h fun Dn σ H ⟨τ, M, Fm, B, w, h, kn, kr, kb, kc⟩ => by
  refine ⟨τ, M, Fm, _, _, w, h, fun vs H1 ds M1 dv sr f ⟨d, e, eq, h1⟩ => ?_⟩
  subst eq
  cases dv with
  | cons dv dvs =>
    cases dvs with
    | cons dv2 dvs =>
      cases dvs
      exact ⟨_, _, rfl, kn _ H1 _ M1 (((w.sg.mono f).set dv).set dv2) sr f h1⟩
end
end BV
set_option maxHeartbeats 4000000
namespace BV
open PySem PySem.Spec PyProof.Rows L2
/-! ### attributes -/
def putI : Nat → D → List D → List D
  | 0, v, [] => [v]
  | 0, v, _ :: ds => v :: ds
  | i + 1, v, d :: ds => d :: putI i v ds
  | _ + 1, _, [] => []
theorem putI_set {v : D} : ∀ {ds : List D} {i : Nat}, i < ds.length → putI i v ds = ds.set i v
  | [], _, h => by simp at h
  | _ :: _, 0, _ => rfl
  | d :: ds, i + 1, h => by
    show d :: putI i v ds = d :: ds.set i v
    rw [putI_set (by simpa using h)]
theorem putI_add {v : D} : ∀ {ds : List D}, putI ds.length v ds = ds ++ [v]
  | [] => rfl
  | d :: ds => by
    show d :: putI ds.length v ds = d :: (ds ++ [v])
    rw [putI_add]
theorem put_ov {K : PySem.W.Frag} {L : List Addr} {H : Hp} {a dx : Addr} {c : Cl} {f : Str} {i : Nat} {vs : List V} {ds : List D} {v : V} {d : D} (hl : vs.length ≤ (lay c).length) (hs : DVs K L H vs ds) (hv : DV K L H v d) (hf : (lay c)[i]? = some f) (hi : i ≤ ds.length)
    (h : H a = some (.ins (ca K c) dx (putF f v ((lay c).zip vs)))) : OV K L H a (.ins c (putI i d ds)) := by
  have hlen := hs.length
  by_cases e : i < ds.length
  · rw [putI_set e]
    rw [zip_put (lay_nd c) hf (by omega)] at h
    exact ⟨dx, _, h, by rw [List.length_set]; exact hl, hs.set i hv⟩
  · have e2 : i = ds.length := by omega
    subst e2
    rw [putI_add]
    rw [← hlen] at hf
    rw [zip_add (lay_nd c) hf] at h
    have : vs.length < (lay c).length := (List.getElem?_eq_some_iff.mp hf).1
    exact ⟨dx, _, h, by simp; omega, hs.snoc hv⟩
theorem zip_len {l : List Str} {vs : List V} (h : vs.length ≤ l.length) (h2 : l.length ≤ 20) : (l.zip vs).length < 1000 := by rw [List.length_zip]; omega
theorem get_lt {i : Nat} {c : Cl} {f : Str} {vs : List V} (hf : (lay c)[i]? = some f) : ((lay c).zip vs).lookup f = vs[i]? := zip_look (lay_nd c) hf
section
variable {X : Cx} {E : XK} {st : Stmt} {rest : List Stmt} {e a b o value : Expr} {es : List Expr} {pos pos' apos p : Pos} {t u : RS} {te ta tv : RE} {tc : RT} {tr : RA} {x m : Str}
def FGet (c : Cl) (i : Nat) (d : D) (M : Mm) (P : D → Prop) : Prop := ∃ v, ((∃ a ds k, d = .ref a ∧ At M a (.ins c ds) k ∧ ds[i]? = some v) ∨ ∃ ds, d = .ins c ds ∧ ds[i]? = some v) ∧ P v
def FPut (c : Cl) (i : Nat) (d v : D) (M : Mm) (P : Mm → Prop) : Prop := ∃ a ds k, d = .ref a ∧ At M a (.ins c ds) k ∧ i ≤ ds.length ∧ P (k (.ins c (putI i v ds)))
def rFld (c : Cl) (i : Nat) (te : RE) : RE := fun ex τ M R => te ex τ M fun d M1 => FGet c i d M1 fun v => R v M1
theorem be_fld {c : Cl} {i : Nat} {f : Str} (hc : Cls X.K (ca X.K c)) (hn : NoAttr X.K (ca X.K c) f) (hf : (lay c)[i]? = some f) (he : BE X E e te) (hb : attributeBase e f X.env (eval e X.env) = eval e X.env) : BE X E (.Attribute e f pos) (rFld c i te) :=
  PE.weak (pe_fld he hb) fun σ H Q ⟨τ, M, Fm, R, ex, w, h, k⟩ => by
  refine ⟨τ, M, Fm, _, ex, w, h, fun v H1 d M1 dv s1 f1 ⟨z, h1, r⟩ => ?_⟩
  rcases h1 with ⟨a, ds, kk, e1, h1, hz⟩ | ⟨ds, e1, hz⟩
  · subst e1
    cases dv
    obtain ⟨dx, vs, h2, hl, hs⟩ := s1.at h1.hid
    obtain ⟨y, hy, dy⟩ := hs.get hz
    exact ⟨a, _, dx, _, y, rfl, h2, hc, hn, by rw [get_lt hf]; exact hy, k y H1 z M1 dy s1 f1 r⟩
  · subst e1
    cases dv with
    | ins h2 n hl hs =>
      obtain ⟨y, hy, dy⟩ := hs.get hz
      exact ⟨_, _, _, _, y, rfl, h2, hc, hn, by rw [get_lt hf]; exact hy, k y H1 z M1 dy s1 f1 r⟩
/-- a store -/
def gFld (c : Cl) (i : Nat) (te : RE) : RG := fun ex v τ M R => te ex τ M fun d M1 => FPut c i d v M1 fun M2 => R τ M2
def tgFld (K : PySem.W.Frag) (ta : TE) (f : Str) : TG := fun y σ H1 Q => ta σ H1 fun x H2 => ∃ a C dx fs, x = .ref a ∧ H2 a = some (.ins C dx fs) ∧ Cls K C ∧ NoAttr K C f ∧ fs.length < 1000 ∧ Q σ (upd H2 a (.ins C dx (putF f y fs)))
theorem pg_fld {f : Str} {t : TE} (ha : PE X o t) : PG X (.Attribute o f pos) (tgFld X.K t f) := by
  refine ⟨fun pins s σ H v u Q I r h => ?_⟩
  rw [assign_Attribute]
  refine wpAny_bind (wpAny_holding (thn (ha.run pins s σ H _ I h) fun ov s1 ⟨x, H1, I1, r1, q1⟩ => ?_))
  obtain ⟨a, C, dx, fs, e1, ea, c, n, l, q2⟩ := q1
  subst e1
  obtain rfl : ov = Value.ref a := r1
  refine wpAny_bind (wpAny_standAt (wpAny_bind (wpAny_holding (setattr_ok I1 ea c n l r fun s3 I3 => ?_))))
  exact wpAny_release ⟨σ, _, I3, q2⟩
theorem bg_fld {c : Cl} {i : Nat} {f : Str} (hc : Cls X.K (ca X.K c)) (hn : NoAttr X.K (ca X.K c) f) (hf : (lay c)[i]? = some f) (he : BE X E e te) : BG X E (.Attribute e f pos) (gFld c i te) :=
  PG.weak (pg_fld he) fun v σ H Q ⟨d, τ, M, Fm, R, ex, dv, w, h, k⟩ => by
  refine ⟨τ, M, Fm, _, ex, w, h, fun y H1 d1 M1 dy s1 f1 ⟨a, ds, kk, e1, h1, hi, r⟩ => ?_⟩
  subst e1
  cases dy
  obtain ⟨dx, vs, h2, hl, hs⟩ := s1.at h1.hid
  have f2 : Fr H1 (keys (M1 ++ Fm)) (L2.upd H1 a (.ins (ca X.K c) dx (putF f v ((lay c).zip vs)))) (keys (kk (.ins c (putI i d ds)) ++ Fm)) := fr_at (o' := .ins c (putI i d ds)) h1.hid
  have dv1 := dv.mono f1
  have s2 := SR.upd (o' := .ins c (putI i d ds)) (u := .ins (ca X.K c) dx (putF f v ((lay c).zip vs))) s1 h1.hid (put_ov hl (hs.mono f2) (dv1.mono f2) hf hi upd_same)
  exact ⟨a, _, dx, _, rfl, h2, hc, hn, zip_len hl (lay_le c), k _ _ _ _ ((w.sg.mono f1).mono f2) s2 (f1.trans f2) r⟩
def lift2i (K : PySem.W.Frag) (r : R2B) : V → V → Hp → VK → Prop := lift2 K r
def sFldAug (c : Cl) (i : Nat) (ta tv : RE) (r : R2B) : RS := fun B τ M => ta B.ex τ M fun d M1 => (∃ a, d = .ref a) ∧ FGet c i d M1 fun v => tv B.ex τ M1 fun y M2 => r v y M2 fun z M3 => FPut c i d z M3 fun M4 => B.nx τ M4
theorem bs_fldaug {c : Cl} {i : Nat} {f : Str} {op : Operator} {r : R2B} {tpos : Pos} (hc : Cls X.K (ca X.K c)) (hn : NoAttr X.K (ca X.K c) f) (hf : (lay c)[i]? = some f) (ha : BE X E o ta) (hv : BE X E value tv) (hop : InOp X op (lift2i X.K r)) :
    BS X E (.AugAssign (.Attribute o f tpos) op value pos) (sFldAug c i ta tv r) := PS.weak (ps_fldaug ha hv hop) fun Dn σ H ⟨τ, M, Fm, B, w, h, kn, kr, kb, kc⟩ => by
  refine ⟨τ, M, Fm, _, _, w, h, fun x H1 d M1 dx s1 f1 ⟨⟨a, e1⟩, h0⟩ => ?_⟩
  subst e1
  cases dx
  obtain ⟨v, h1, h2⟩ := h0
  obtain ⟨a1, ds, kk, e2, h1, hi⟩ : ∃ a1 ds k, D.ref a = .ref a1 ∧ At M1 a1 (.ins c ds) k ∧ ds[i]? = some v := by
    rcases h1 with h1 | ⟨_, h1, _⟩
    · exact h1
    · cases h1
  cases e2
  obtain ⟨dx, vs, h3, hl, hs⟩ := s1.at h1.hid
  obtain ⟨v0, hv0, dv0⟩ := hs.get hi
  refine ⟨a, _, dx, _, v0, rfl, h3, hc, hn, by rw [get_lt hf]; exact hv0, τ, M1, Fm, _, _, w.step s1 f1, h2, fun y H2 dy M2 hy s2 f2 h4 => ?_⟩
  refine ⟨v, dy, M2, Fm, _, dv0.mono f2, hy, s2, h4, fun z H3 dz M3 hz s3 f3 ⟨a2, ds', k', e3, h5, hi', r⟩ => ?_⟩
  cases e3
  obtain ⟨dx', vs', h6, hl', hs'⟩ := s3.at h5.hid
  have f4 : Fr H3 (keys (M3 ++ Fm)) (L2.upd H3 a (.ins (ca X.K c) dx' (putF f z ((lay c).zip vs')))) (keys (k' (.ins c (putI i dz ds')) ++ Fm)) := fr_at (o' := .ins c (putI i dz ds')) h5.hid
  have s4 := SR.upd (o' := .ins c (putI i dz ds')) (u := .ins (ca X.K c) dx' (putF f z ((lay c).zip vs'))) s3 h5.hid (put_ov hl' (hs'.mono f4) (hz.mono f4) hf hi' upd_same)
  exact ⟨dx', _, h6, zip_len hl' (lay_le c), kn _ _ _ _ (w.sg.mono ((f1.trans f2).trans (f3.trans f4))) s4 ((f1.trans f2).trans (f3.trans f4)) r⟩
/-! ### defs -/
abbrev BSp := BX → List D → Mm → BQ → Prop
def liftSp (K : PySem.W.Frag) (sp : BSp) : Sp := fun vs H Q E => ∃ ds M Fm R ex, DVs K (keys (M ++ Fm)) H vs ds ∧ SR K H (M ++ Fm) ∧ XP K H (keys (M ++ Fm)) Fm ex E ∧ sp ex ds M R ∧ Af K H M Fm R Q
/-- a call on a part of what is owned -/
def Cf (sp : BSp) (ex : BX) (ds : List D) (M : Mm) (R : BQ) : Prop := ∃ ds2 Mc Fc, CvA ds M ds2 (Mc ++ Fc) ∧ sp (fun c fs M' => ex c fs (M' ++ Fc)) ds2 Mc (fun r M' => R r (M' ++ Fc))
def nox : BX := fun _ _ _ => False
theorem cf_lift {K : PySem.W.Frag} {sp : BSp} {ex : BX} {H : Hp} {vs : List V} {ds : List D} {M Fm : Mm} {R : BQ} {Q : VK} (dv : DVs K (keys (M ++ Fm)) H vs ds) (sr : SR K H (M ++ Fm)) (xp : XP K H (keys (M ++ Fm)) Fm ex E) (h : Cf sp ex ds M R) (k : Af K H M Fm R Q) : liftSp K sp vs H Q E := by
  obtain ⟨ds2, Mc, Fc, c, h⟩ := h
  obtain ⟨dv2, sr2, k2⟩ := c K H vs Fm dv sr
  have e : ∀ M', (M' ++ Fc) ++ Fm = M' ++ (Fc ++ Fm) := fun M' => List.append_assoc _ _ _
  have f : Fr H (keys (M ++ Fm)) H (keys (Mc ++ (Fc ++ Fm))) := by rw [← e]; exact fr_sub k2
  rw [e] at dv2 sr2
  refine ⟨ds2, Mc, Fc ++ Fm, _, _, dv2, sr2, fun c fs M' H' s g x => ?_, h, fun v H' d M' dvr s g r => ?_⟩
  · have g2 : Fr H (keys (M ++ Fm)) H' (keys ((M' ++ Fc) ++ Fm)) := by
      rw [e]
      exact f.trans g
    rw [← e] at s ⊢
    exact xp c fs (M' ++ Fc) H' s g2 x
  · have g2 : Fr H (keys (M ++ Fm)) H' (keys ((M' ++ Fc) ++ Fm)) := by
      rw [e]
      exact f.trans g
    rw [← e] at s dvr
    exact k v H' d (M' ++ Fc) dvr s g2 r
theorem xp_nox {K : PySem.W.Frag} {H : Hp} {L : List Addr} {Fm : Mm} {E : XK} : XP K H L Fm nox E := fun _ _ _ _ _ _ x => x.elim
/-- a def that lets an exception out, and one that doesn't -/
def rCall (sp : BSp) (t : RA) : RE := fun ex τ M R => t ex τ M fun ds M1 => Cf sp ex ds M1 R
def rCall0 (sp : BSp) (t : RA) : RE := fun ex τ M R => t ex τ M fun ds M1 => Cf sp nox ds M1 R
theorem be_callOf {sp : BSp} (h : PE X e (tCall (liftSp X.K sp) [] E (liftA X.K E tr))) : BE X E e (rCall sp tr) := PE.weak h fun σ H Q ⟨τ, M, Fm, R, ex, w, h, k⟩ => by
  refine ⟨τ, M, Fm, _, ex, w, h, fun vs H1 ds M1 dv s1 f1 h1 => ?_⟩
  show liftSp X.K sp (vs ++ []) H1 Q E
  rw [List.append_nil]
  exact cf_lift dv s1 (w.xp.mono f1) h1 (k.mono f1)
theorem be_callOf0 {sp : BSp} (h : PE X e (tCall (liftSp X.K sp) [] E0 (liftA X.K E tr))) : BE X E e (rCall0 sp tr) := PE.weak h fun σ H Q ⟨τ, M, Fm, R, ex, w, h, k⟩ => by
  refine ⟨τ, M, Fm, _, ex, w, h, fun vs H1 ds M1 dv s1 f1 h1 => ?_⟩
  show liftSp X.K sp (vs ++ []) H1 Q E0
  rw [List.append_nil]
  exact cf_lift dv s1 xp_nox h1 (k.mono f1)
/-- an instance of c -/
def IsI (c : Cl) (d : D) (M : Mm) : Prop := (∃ a ds k, d = .ref a ∧ At M a (.ins c ds) k) ∨ ∃ ds, d = .ins c ds
theorem IsI.ho {K : PySem.W.Frag} {H : Hp} {c : Cl} {v : V} {d : D} {M Fm : Mm} (h : IsI c d M) (dv : DV K (keys (M ++ Fm)) H v d) (sr : SR K H (M ++ Fm)) : ∃ a dx vs, v = .ref a ∧ H a = some (.ins (ca K c) dx ((lay c).zip vs)) := by
  rcases h with ⟨a, ds, k, e, h⟩ | ⟨ds, e⟩
  · subst e
    cases dv
    obtain ⟨dx, vs, h2, _⟩ := sr.at h.hid
    exact ⟨a, dx, vs, rfl, h2⟩
  · subst e
    cases dv with
    | ins h2 _ _ _ => exact ⟨_, _, _, rfl, h2⟩
def rMeth (c : Cl) (sp : BSp) (te : RE) (t : RA) : RE := fun ex τ M R => te ex τ M fun d M1 => IsI c d M1 ∧ t ex τ M1 fun ds M2 => Cf sp ex (d :: ds) M2 R
def rMeth0 (c : Cl) (sp : BSp) (te : RE) (t : RA) : RE := fun ex τ M R => te ex τ M fun d M1 => IsI c d M1 ∧ t ex τ M1 fun ds M2 => Cf sp nox (d :: ds) M2 R
theorem look_none {l : List Str} {m : Str} (h : m ∉ l) {vs : List V} : (l.zip vs).lookup m = none := by
  induction l generalizing vs with
  | nil => rfl
  | cons g l ih =>
    cases vs with
    | nil => rfl
    | cons v vs =>
      rw [List.zip_cons_cons, List.lookup_cons]
      have n : (m == g) = false := by
        rw [beq_eq_false_iff_ne]
        intro e
        exact h (e ▸ List.mem_cons_self)
      rw [n]
      exact ih fun q => h (List.mem_cons_of_mem _ q)
theorem be_methOf {c : Cl} {sp : BSp} {E' : XK} (hm : m ∉ lay c) (h : PE X e (tMeth (ca X.K c) m (liftSp X.K sp) [] E (liftE X.K E ta) (liftA X.K E tr))) : BE X E e (rMeth c sp ta tr) := PE.weak h fun σ H Q ⟨τ, M, Fm, R, ex, w, h, k⟩ => by
  refine ⟨τ, M, Fm, _, ex, w, h, fun v H1 d M1 dv s1 f1 ⟨hi, h1⟩ => ?_⟩
  obtain ⟨a, dx, vs, e1, h2⟩ := hi.ho dv s1
  refine ⟨a, dx, _, e1, h2, look_none hm, τ, M1, Fm, _, ex, w.step s1 f1, h1, fun ws H2 ds M2 dw s2 f2 h3 => ?_⟩
  show liftSp X.K sp (v :: (ws ++ [])) H2 Q E
  rw [List.append_nil]
  exact cf_lift (.cons (dv.mono f2) dw) s2 ((w.xp.mono f1).mono f2) h3 ((k.mono f1).mono f2)
theorem be_methOf0 {c : Cl} {sp : BSp} (hm : m ∉ lay c) (h : PE X e (tMeth (ca X.K c) m (liftSp X.K sp) [] E0 (liftE X.K E ta) (liftA X.K E tr))) : BE X E e (rMeth0 c sp ta tr) := PE.weak h fun σ H Q ⟨τ, M, Fm, R, ex, w, h, k⟩ => by
  refine ⟨τ, M, Fm, _, ex, w, h, fun v H1 d M1 dv s1 f1 ⟨hi, h1⟩ => ?_⟩
  obtain ⟨a, dx, vs, e1, h2⟩ := hi.ho dv s1
  refine ⟨a, dx, _, e1, h2, look_none hm, τ, M1, Fm, _, ex, w.step s1 f1, h1, fun ws H2 ds M2 dw s2 f2 h3 => ?_⟩
  show liftSp X.K sp (v :: (ws ++ [])) H2 Q E0
  rw [List.append_nil]
  exact cf_lift (.cons (dv.mono f2) dw) s2 xp_nox h3 ((k.mono f1).mono f2)
/-- t without arguments -/
theorem nil_lift {σ : L2.St} {H : Hp} {Q : List V → Hp → Prop} (h : liftA X.K E rNil σ H Q) : tNil σ H Q := by
  obtain ⟨τ, M, Fm, R, ex, w, h, k⟩ := h
  exact k [] H [] M .nil w.sr .refl h
theorem be_meth0Of {c : Cl} {sp : BSp} (hm : m ∉ lay c) (h : PE X e (tMeth (ca X.K c) m (liftSp X.K sp) [] E (liftE X.K E ta) tNil)) : BE X E e (rMeth c sp ta rNil) :=
  be_methOf (E' := E) hm (PE.weak h fun σ H Q ⟨τ, M, Fm, R, ex, w, h, k⟩ => ⟨τ, M, Fm, R, ex, w, h, fun v H1 d M1 dv s1 f1 r => by
    obtain ⟨a, dx, fs, e1, h2, hl, h3⟩ := k v H1 d M1 dv s1 f1 r
    exact ⟨a, dx, fs, e1, h2, hl, nil_lift h3⟩⟩)
theorem be_meth0Of0 {c : Cl} {sp : BSp} (hm : m ∉ lay c) (h : PE X e (tMeth (ca X.K c) m (liftSp X.K sp) [] E0 (liftE X.K E ta) tNil)) : BE X E e (rMeth0 c sp ta rNil) :=
  be_methOf0 hm (PE.weak h fun σ H Q ⟨τ, M, Fm, R, ex, w, h, k⟩ => ⟨τ, M, Fm, R, ex, w, h, fun v H1 d M1 dv s1 f1 r => by
    obtain ⟨a, dx, fs, e1, h2, hl, h3⟩ := k v H1 d M1 dv s1 f1 r
    exact ⟨a, dx, fs, e1, h2, hl, nil_lift h3⟩⟩)
/-- a new instance -/
def rMake (c : Cl) (sp : BSp) (t : RA) : RE := fun ex τ M R => t ex τ M fun ds M1 => ∀ p, Cf sp ex (.ref p :: ds) ((p, .ins c []) :: M1) fun v M2 => v = .non ∧ R (.ref p) M2
def rMake0 (c : Cl) (sp : BSp) (t : RA) : RE := fun ex τ M R => t ex τ M fun ds M1 => ∀ p, Cf sp nox (.ref p :: ds) ((p, .ins c []) :: M1) fun v M2 => v = .non ∧ R (.ref p) M2
theorem make_lift {sp : BSp} {c : Cl} {E' : XK} {ex' : BX} {K : PySem.W.Frag} {H1 : Hp} {vs : List V} {ds : List D} {M1 Fm : Mm} {R : BQ} {Q : VK} (dv : DVs K (keys (M1 ++ Fm)) H1 vs ds) (s1 : SR K H1 (M1 ++ Fm)) (xp : ∀ H2 L2, Fr H1 (keys (M1 ++ Fm)) H2 L2 → XP K H2 L2 Fm ex' E')
    (h : ∀ p, Cf sp ex' (.ref p :: ds) ((p, .ins c []) :: M1) fun v M2 => v = .non ∧ R (.ref p) M2) (k : Af K H1 M1 Fm R Q) (x dx : Addr) (hx : H1 x = none) (hdx : H1 dx = none) (ne : dx ≠ x) :
    liftSp K sp (.ref x :: (vs ++ [])) (upd (upd H1 dx (.own x)) x (.ins (ca K c) dx [])) (fun v H2 => v = .non ∧ Q (.ref x) H2) E' := by
  rw [List.append_nil]
  have s2 := s1.new (u := .own x) hdx
  have f2 := fr_new (u := .own x) s1 hdx
  have hx2 : upd H1 dx (.own x) x = none := by rw [upd_ne (fun q => ne q.symm)]; exact hx
  have f3 := fr_own (u := .ins (ca K c) dx []) s2 hx2
  have s3 : SR K (upd (upd H1 dx (.own x)) x (.ins (ca K c) dx [])) ((x, .ins c []) :: (M1 ++ Fm)) := s2.own (o := .ins c []) hx2 ⟨dx, [], by rw [upd_same, List.zip_nil_right], Nat.zero_le _, .nil⟩
  refine cf_lift (M := (x, .ins c []) :: M1) (.cons (.ref x) ((dv.mono f2).mono f3)) s3 (xp _ _ (f2.trans f3)) (h x) fun v H' d M' dvr s g ⟨e1, r⟩ => ?_
  subst e1
  cases dvr
  exact ⟨rfl, k _ H' _ M' (.ref x) s ((f2.trans f3).trans g) r⟩
theorem be_makeOf {c : Cl} {sp : BSp} (h : PE X e (tMake (ca X.K c) (liftSp X.K sp) [] E (liftA X.K E tr))) : BE X E e (rMake c sp tr) := PE.weak h fun σ H Q ⟨τ, M, Fm, R, ex, w, h, k⟩ => by
  refine ⟨τ, M, Fm, _, ex, w, h, fun vs H1 ds M1 dv s1 f1 h1 => fun x dx hx hdx ne => ?_⟩
  exact make_lift dv s1 (fun H2 L2 f2 => (w.xp.mono f1).mono f2) h1 (k.mono f1) x dx hx hdx ne
theorem be_makeOf0 {c : Cl} {sp : BSp} (h : PE X e (tMake (ca X.K c) (liftSp X.K sp) [] E0 (liftA X.K E tr))) : BE X E e (rMake0 c sp tr) := PE.weak h fun σ H Q ⟨τ, M, Fm, R, ex, w, h, k⟩ => by
  refine ⟨τ, M, Fm, _, ex, w, h, fun vs H1 ds M1 dv s1 f1 h1 => fun x dx hx hdx ne => ?_⟩
  exact make_lift dv s1 (fun H2 L2 f2 => xp_nox) h1 (k.mono f1) x dx hx hdx ne
/-- a property -/
def rProp0 (c : Cl) (sp : BSp) (te : RE) : RE := fun ex τ M R => te ex τ M fun d M1 => IsI c d M1 ∧ Cf sp nox [d] M1 R
theorem be_propOf0 {c : Cl} {sp : BSp} (h : PE X e (tProp (ca X.K c) (liftSp X.K sp) [] E0 (liftE X.K E ta))) : BE X E e (rProp0 c sp ta) := PE.weak h fun σ H Q ⟨τ, M, Fm, R, ex, w, h, k⟩ => by
  refine ⟨τ, M, Fm, _, ex, w, h, fun v H1 d M1 dv s1 f1 ⟨hi, h1⟩ => ?_⟩
  obtain ⟨a, dx, vs, e1, h2⟩ := hi.ho dv s1
  subst e1
  exact ⟨a, dx, _, rfl, h2, cf_lift (.cons dv .nil) s1 xp_nox h1 (k.mono f1)⟩
/-! ### built-in functions by values -/
abbrev RB := List D → Mm → BQ → Prop
def liftB (K : PySem.W.Frag) (r : RB) : List V → Hp → VK → Prop := fun vs H Q => ∃ ds M Fm R, DVs K (keys (M ++ Fm)) H vs ds ∧ SR K H (M ++ Fm) ∧ r ds M R ∧ Af K H M Fm R Q
def BC (X : Cx) (f : Value) (r : RB) : Prop := CallR X f (liftB X.K r)
theorem CallR.weak {f : Value} {r r2 : List V → Hp → VK → Prop} (h : CallR X f r) (w : ∀ x H Q, r2 x H Q → r x H Q) : CallR X f r2 := fun pins s σ H xs us Q I rx q => h pins s σ H xs us Q I rx (w _ _ _ q)
def rCB (r : RB) (t : RA) : RE := fun ex τ M R => t ex τ M fun ds M1 => r ds M1 R
theorem be_cbOf {r : RB} (h : PE X e (tCB (liftB X.K r) (liftA X.K E tr))) : BE X E e (rCB r tr) := PE.weak h fun σ H Q ⟨τ, M, Fm, R, ex, w, h, k⟩ =>
  ⟨τ, M, Fm, _, ex, w, h, fun vs H1 ds M1 dv s1 f1 h1 => ⟨ds, M1, Fm, R, dv, s1, h1, k.mono f1⟩⟩
end
end BV
set_option maxHeartbeats 4000000
namespace BV
open PySem PySem.Spec PyProof.Rows L2
/-! ### what is walked: a list of data -/
abbrev RI := BX → BSt → Mm → (List D → Mm → Prop) → Prop
/-- J yields ds, one by one, while G holds of what is owned -/
def Its (K : PySem.W.Frag) (H0 : Hp) (L0 : List Addr) (G : Mm → Prop) (J : It) (ds : List D) : Prop := ∀ (H1 : Hp) (M1 F1 : Mm), SR K H1 (M1 ++ F1) → Fr H0 L0 H1 (keys (M1 ++ F1)) → G M1 → (∀ i, i < ds.length → J.go i H1) ∧ J.stop ds.length H1 ∧
  ∀ i x H2, i < ds.length → J.yld i H1 x H2 → ∃ d, ds[i]? = some d ∧ DV K (keys (M1 ++ F1)) H2 x d ∧ Fr H1 (keys (M1 ++ F1)) H2 (keys (M1 ++ F1)) ∧ SR K H2 (M1 ++ F1)
def GT : Mm → Prop := fun _ => True
def liftIG (K : PySem.W.Frag) (E : XK) (G : Mm → Prop) (t : RI) : TI := fun σ H R => ∃ τ M Fm Rb ex, Wl K E σ H τ M Fm ex ∧ t ex τ M Rb ∧ ∀ J H' ds M', SR K H' (M' ++ Fm) → Fr H (keys (M ++ Fm)) H' (keys (M' ++ Fm)) → Its K H' (keys (M' ++ Fm)) G J ds → Rb ds M' → R J H'
def liftI (K : PySem.W.Frag) (E : XK) (t : RI) : TI := liftIG K E GT t
def BI (X : Cx) (E : XK) (tg iter : Expr) (t : RI) : Prop := PI X tg iter (liftI X.K E t)
theorem PI.weak {X : Cx} {tg e : Expr} {t t2 : TI} (h : PI X tg e t) (w : ∀ σ H Q, t2 σ H Q → t σ H Q) : PI X tg e t2 := ⟨fun pins s σ H R I q => h.run pins s σ H R I (w _ _ _ q)⟩
theorem PI.or {X : Cx} {tg e : Expr} {t t2 : TI} (h : PI X tg e t) (h2 : PI X tg e t2) : PI X tg e (fun σ H R => t σ H R ∨ t2 σ H R) := ⟨fun pins s σ H R I q => by
  rcases q with q | q
  · exact h.run pins s σ H R I q
  · exact h2.run pins s σ H R I q⟩
/-- the loop over the items -/
def forW (g : RG) (body : RS) (B : BEnds) : List D → BSt → Mm → Prop
  | [], τ, M => CvS τ M B.nx
  | d :: ds, τ, M => g B.ex d τ M fun τ1 M1 => body { B with nx := fun τ2 M2 => CvS τ2 M2 (forW g body B ds), ct := fun τ2 M2 => CvS τ2 M2 (forW g body B ds), bk := B.nx } τ1 M1
/-- .. while G holds -/
def forG (G : Mm → Prop) (g : RG) (body : RS) (B : BEnds) : List D → BSt → Mm → Prop
  | [], τ, M => G M ∧ CvS τ M B.nx
  | d :: ds, τ, M => G M ∧ g B.ex d τ M fun τ1 M1 => body { B with nx := fun τ2 M2 => CvS τ2 M2 (forG G g body B ds), ct := fun τ2 M2 => CvS τ2 M2 (forG G g body B ds), bk := B.nx } τ1 M1
theorem forG_eq {g : RG} {body : RS} {B : BEnds} : ∀ ds : List D, forG GT g body B ds = forW g body B ds
  | [] => by
    funext τ M
    exact propext ⟨fun h => h.2, fun h => ⟨True.intro, h⟩⟩
  | d :: ds => by
    funext τ M
    unfold forG forW
    rw [forG_eq ds]
    exact propext ⟨fun h => h.2, fun h => ⟨True.intro, h⟩⟩
def sFor (it : RI) (g : RG) (body : RS) : RS := fun B τ M => it B.ex τ M fun ds M1 => forW g body B ds τ M1
section
variable {X : Cx} {E : XK} {st : Stmt} {rest : List Stmt} {e a b o value tg iter : Expr} {es : List Expr} {pos pos' apos p : Pos} {t u body : RS} {te ta tv : RE} {tc : RT} {tr : RA} {x m : Str} {g : RG} {it : RI}
theorem for_lift {G : Mm → Prop} {B : BEnds} {Dn : Ends} {σ : L2.St} {H : Hp} {τ : BSt} {M Fm : Mm} (w : Wl X.K E σ H τ M Fm B.ex) (h : it B.ex τ M fun ds M1 => forG G g body B ds τ M1)
    (kn : AfS X.K H M Fm B.nx Dn.nx) (kr : Af X.K H M Fm B.rt Dn.rt) (kb : AfS X.K H M Fm B.bk Dn.bk) (kc : AfS X.K H M Fm B.ct Dn.ct) : tFor (liftIG X.K E G it) (liftG X.K E g) (liftS X.K E body) Dn σ H := by
  refine ⟨τ, M, Fm, _, _, w, h, fun J H1 ds M1 s1 f1 its h1 => ?_⟩
  let Gs : Nat → L2.St → Hp → Prop := fun i σ2 H2 => ∃ τ2 M2, Sg X.K (keys (M2 ++ Fm)) H2 σ2 τ2 ∧ SR X.K H2 (M2 ++ Fm) ∧ Fr H1 (keys (M1 ++ Fm)) H2 (keys (M2 ++ Fm)) ∧ CvS τ2 M2 (forG G g body B (ds.drop i))
  refine ⟨fun i m σ2 H2 => m = ds.length - i ∧ i ≤ ds.length ∧ Gs i σ2 H2, ⟨ds.length, by omega, Nat.zero_le _, τ, M1, w.sg.mono f1, s1, .refl, .go h1⟩, ?_⟩
  rintro i m σ2 H2 ⟨rfl, hi, τ2, M2, sg2, sr2, f2, τ3, M3, c3, h3⟩
  obtain ⟨w3, f3⟩ := Wl.cv (⟨sg2, sr2, (w.xp.mono f1).mono f2⟩ : Wl X.K E σ2 H2 τ2 M2 Fm B.ex) c3
  have f23 := f2.trans f3
  by_cases e1 : i < ds.length
  · have ed : ∀ d, ds[i]? = some d → ds.drop i = d :: ds.drop (i + 1) := fun d hd => (List.drop_eq_getElem_cons e1).trans (by rw [List.getElem?_eq_getElem e1] at hd; rw [Option.some.inj hd])
    rw [ed _ (List.getElem?_eq_getElem e1)] at h3
    obtain ⟨g3, h3⟩ := h3
    obtain ⟨hgo, hstop, hy⟩ := its H2 M3 Fm w3.sr f23 g3
    refine .inr ⟨hgo i e1, Gs (i + 1), fun σ' H' q => ⟨ds.length - (i + 1), by omega, rfl, by omega, q⟩, fun x H' hx => ?_⟩
    obtain ⟨d, hd, dv, f4, s4⟩ := hy i x H' e1 hx
    rw [List.getElem?_eq_getElem e1] at hd
    have ed2 := Option.some.inj hd
    subst ed2
    have f24 := f23.trans f4
    refine ⟨_, τ3, M3, Fm, _, B.ex, dv, w3.step s4 f4, h3, fun σ5 H5 τ5 M5 sg5 sr5 f5 h5 => ?_⟩
    have f25 := f24.trans f5
    have f15 := f1.trans f25
    refine ⟨τ5, M5, Fm, { B with nx := fun τ2 M2 => CvS τ2 M2 (forG G g body B (ds.drop (i + 1))), ct := fun τ2 M2 => CvS τ2 M2 (forG G g body B (ds.drop (i + 1))), bk := B.nx }, ⟨sg5, sr5, w.xp.mono f15⟩, h5, ?_, kr.mono f15, kn.mono f15, ?_⟩
    · exact fun σ6 H6 τ6 M6 sg6 sr6 f6 h6 => ⟨τ6, M6, sg6, sr6, f25.trans f6, h6⟩
    · exact fun σ6 H6 τ6 M6 sg6 sr6 f6 h6 => ⟨τ6, M6, sg6, sr6, f25.trans f6, h6⟩
  · have e2 : i = ds.length := by omega
    subst e2
    rw [List.drop_length] at h3
    obtain ⟨g3, τ4, M4, c4, h4⟩ := h3
    obtain ⟨hgo, hstop, hy⟩ := its H2 M3 Fm w3.sr f23 g3
    obtain ⟨w4, f4⟩ := Wl.cv w3 c4
    exact .inl ⟨hstop, kn _ _ _ _ w4.sg w4.sr ((f1.trans f23).trans f4) h4⟩
theorem bs_for {bd : List Stmt} (hp : PassesOwn (model X.prog X.w) X.A X.env X.xe) (hc : X.calm = true) (hi : BI X E tg iter it) (hg : BG X E tg g) (hb : BSs X E bd body) (hs : ∀ x, foldedSetIterable iter X.env x = pure x := by intro _; rfl) : BS X E (.For tg iter bd [] pos) (sFor it g body) :=
  PS.weak (ps_for hp hc hi hg hb hs) fun Dn σ H ⟨τ, M, Fm, B, w, h, kn, kr, kb, kc⟩ => by
  refine for_lift (G := GT) w ?_ kn kr kb kc
  have e : (fun ds M1 => forG GT g body B ds τ M1) = fun ds M1 => forW g body B ds τ M1 := by
    funext ds M1
    rw [forG_eq]
  rw [e]
  exact h
/-! ### sources -/
theorem its_list {K : PySem.W.Frag} {H : Hp} {L : List Addr} {a : Addr} {vs : List V} {ds : List D} (h : LAt L H a vs) (hs : DVs K L H vs ds) : Its K H L GT (Itl K a) ds := fun H1 M1 F1 s1 f _ => by
  have h1 : SqL K H1 a vs := (h.mono f).sq
  have hs1 := hs.mono f
  have hl := hs.length
  refine ⟨fun i hi => ⟨vs, vs[i]'(by omega), h1, List.getElem?_eq_getElem _⟩, ⟨vs, h1, by omega⟩, fun i x H2 hi hx => ?_⟩
  obtain ⟨rfl, hx⟩ := hx
  obtain ⟨d, hd, dv⟩ := hs1.getV (hx vs h1)
  exact ⟨d, hd, dv, .refl, s1⟩
theorem its_tup {K : PySem.W.Frag} {H : Hp} {L : List Addr} {a : Addr} {vs : List V} {ds : List D} (h : TAt K L H a vs) (hs : DVs K L H vs ds) : Its K H L GT (Itt K a) ds := fun H1 M1 F1 s1 f _ => by
  have h1 := (h.mono f).sq
  have hs1 := hs.mono f
  have hl := hs.length
  refine ⟨fun i hi => ⟨vs, vs[i]'(by omega), h1, List.getElem?_eq_getElem _⟩, ⟨vs, h1, by omega⟩, fun i x H2 hi hx => ?_⟩
  obtain ⟨rfl, hx⟩ := hx
  obtain ⟨d, hd, dv⟩ := hs1.getV (hx vs h1)
  exact ⟨d, hd, dv, .refl, s1⟩
def iSeqL (te : RE) : RI := fun ex τ M R => te ex τ M fun d M1 => ∃ ds, d = .lst ds ∧ R ds M1
def iSeqT (te : RE) : RI := fun ex τ M R => te ex τ M fun d M1 => ∃ ds, d = .tup ds ∧ R ds M1
def iSeq (te : RE) : RI := fun ex τ M R => iSeqL te ex τ M R ∨ iSeqT te ex τ M R
theorem bi_lst (he : BE X E e te) : BI X E tg e (iSeqL te) := PI.weak (pi_list he) fun σ H R ⟨τ, M, Fm, Rb, ex, w, h, k⟩ => by
  refine ⟨τ, M, Fm, _, ex, w, h, fun v H1 d M1 dv s1 f1 ⟨ds, e1, r⟩ => ?_⟩
  subst e1
  cases dv with
  | lst hl hs => exact ⟨_, rfl, ⟨_, hl.sq⟩, k _ H1 ds M1 s1 f1 (its_list hl hs) r⟩
theorem bi_tup (he : BE X E e te) : BI X E tg e (iSeqT te) := PI.weak (pi_tup he) fun σ H R ⟨τ, M, Fm, Rb, ex, w, h, k⟩ => by
  refine ⟨τ, M, Fm, _, ex, w, h, fun v H1 d M1 dv s1 f1 ⟨ds, e1, r⟩ => ?_⟩
  subst e1
  cases dv with
  | tup hl hs => exact ⟨_, rfl, ⟨_, hl.sq⟩, k _ H1 ds M1 s1 f1 (its_tup hl hs) r⟩
theorem bi_seq (he : BE X E e te) : BI X E tg e (iSeq te) := PI.weak (PI.or (bi_lst (X := X) (E := E) (tg := tg) he) (bi_tup (X := X) (E := E) (tg := tg) he)) fun σ H R ⟨τ, M, Fm, Rb, ex, w, h, k⟩ => by
  rcases h with h | h
  · exact .inl ⟨τ, M, Fm, Rb, ex, w, h, k⟩
  · exact .inr ⟨τ, M, Fm, Rb, ex, w, h, k⟩
def rngD (lo : Int) (n : Nat) : List D := (List.range n).map fun i => .int (lo + (i : Nat))
theorem its_rng {K : PySem.W.Frag} {H : Hp} {L : List Addr} {lo : Int} {n : Nat} : Its K H L GT (Itr lo n) (rngD lo n) := fun H1 M1 F1 s1 f _ => by
  have hl : (rngD lo n).length = n := by simp [rngD]
  rw [hl]
  refine ⟨fun i hi => hi, Nat.le_refl _, fun i x H2 hi hx => ?_⟩
  obtain ⟨rfl, rfl⟩ := hx
  exact ⟨.int (lo + i), by simp [rngD, show i < n from hl ▸ hi], .int _, .refl, s1⟩
def Bd62 (j : Int) : Prop := -(2 ^ 62) ≤ j ∧ j < 2 ^ 62
def iRng1 (tr : RA) : RI := fun ex τ M R => tr ex τ M fun ds M1 => ∃ j : Int, ds = [.int j] ∧ Bd62 j ∧ R (rngD 0 j.toNat) M1
def iRng2 (tr : RA) : RI := fun ex τ M R => tr ex τ M fun ds M1 => ∃ i j : Int, ds = [.int i, .int j] ∧ Bd62 i ∧ Bd62 j ∧ R (rngD i (j - i).toNat) M1
theorem bi_rng1Of (hh : PI X tg e (L2.iRng1 (liftA X.K E tr))) : BI X E tg e (iRng1 tr) := PI.weak hh fun σ H R ⟨τ, M, Fm, Rb, ex, w, h, k⟩ => by
  refine ⟨τ, M, Fm, _, ex, w, h, fun vs H1 d M1 dv s1 f1 ⟨j, e1, b, r⟩ => ?_⟩
  subst e1
  cases dv with
  | cons h1 h2 =>
    cases h1
    cases h2
    exact ⟨j, rfl, b.1, b.2, k _ H1 _ M1 s1 f1 its_rng r⟩
theorem bi_rng2Of (hh : PI X tg e (L2.iRng2 (liftA X.K E tr))) : BI X E tg e (iRng2 tr) := PI.weak hh fun σ H R ⟨τ, M, Fm, Rb, ex, w, h, k⟩ => by
  refine ⟨τ, M, Fm, _, ex, w, h, fun vs H1 d M1 dv s1 f1 ⟨i, j, e1, b1, b2, r⟩ => ?_⟩
  subst e1
  cases dv with
  | cons h1 h2 =>
    cases h1
    cases h2 with
    | cons h2 h3 =>
      cases h2
      cases h3
      exact ⟨i, j, rfl, ⟨b1.1, b1.2, b2.1, b2.2⟩, k _ H1 _ M1 s1 f1 its_rng r⟩
/-- sign by sign -/
def signsD (z : Str) : List D := z.cps.toList.map fun c => .str ⟨#[c]⟩
def iStrB (te : RE) : RI := fun ex τ M R => te ex τ M fun d M1 => ∃ z, d = .str z ∧ R (signsD z) M1
theorem bi_str (he : BE X E e te) : BI X E tg e (iStrB te) := PI.weak (pi_str he) fun σ H R ⟨τ, M, Fm, Rb, ex, w, h, k⟩ => by
  refine ⟨τ, M, Fm, _, ex, w, h, fun v H1 d M1 dv s1 f1 ⟨z, e1, r⟩ => ?_⟩
  subst e1
  cases dv
  refine ⟨z, rfl, k _ H1 _ M1 s1 f1 ?_ r⟩
  intro H1 M1 F1 s1 f _
  have hl : (signsD z).length = z.cps.size := by simp [signsD]
  rw [hl]
  refine ⟨fun i hi => hi, Nat.le_refl _, fun i x H2 hi hx => ?_⟩
  obtain ⟨rfl, c, hc, rfl⟩ := hx
  refine ⟨.str ⟨#[c]⟩, ?_, .str _, .refl, s1⟩
  have h2 : z.cps.toList[i]? = some c := by rw [Array.getElem?_toList]; exact hc
  simp [signsD, h2]
/-! ### comprehensions -/
def wipeB (τ : BSt) : List Nat → BSt
  | [] => τ
  | v :: vs => (wipeB τ vs).set v none
theorem Sg.wipe {K : PySem.W.Frag} {L : List Addr} {H : Hp} {σ : L2.St} {τ : BSt} (s : Sg K L H σ τ) : ∀ vs : List Nat, Sg K L H (wipe σ vs) (wipeB τ vs)
  | [] => s
  | v :: vs => by
    have s1 := Sg.wipe s vs
    refine ⟨by unfold L2.wipe wipeB; rw [List.length_set, List.length_set]; exact s1.1, fun j x hj => ?_⟩
    unfold wipeB at hj
    unfold L2.wipe
    by_cases e1 : v = j
    · subst e1
      by_cases hl : v < (wipeB τ vs).length
      · rw [List.getElem?_set_self hl] at hj
        cases Option.some.inj hj
      · rw [List.getElem?_eq_none (by rw [List.length_set]; omega)] at hj
        cases hj
    · rw [List.getElem?_set_ne e1] at hj
      rw [List.getElem?_set_ne e1]
      exact s1.2 j x hj
theorem wipe_set {σ : L2.St} {i : Nat} {o : Option V} : ∀ {vs : List Nat}, i ∈ vs → wipe (σ.set i o) vs = wipe σ vs
  | [], h => by simp at h
  | v :: vs, h => by
    unfold wipe
    by_cases e1 : i ∈ vs
    · rw [wipe_set e1]
    · have e2 : i = v := by
        rcases List.mem_cons.mp h with q | q
        · exact q
        · exact (e1 q).elim
      subst e2
      have : wipe (σ.set i o) vs = (wipe σ vs).set i o := by
        clear h
        induction vs with
        | nil => rfl
        | cons w ws ih =>
          unfold wipe
          rw [ih fun q => e1 (List.mem_cons_of_mem _ q), List.set_comm]
          exact fun q => e1 (q ▸ List.mem_cons_self)
      rw [this, List.set_set]
theorem wipe_wipe {σ : L2.St} : ∀ {vs : List Nat}, wipe (wipe σ vs) vs = wipe σ vs := by
  intro vs
  have key : ∀ ws : List Nat, (∀ v ∈ ws, v ∈ vs) → wipe (wipe σ ws) vs = wipe σ vs := by
    intro ws
    induction ws with
    | nil => intro _; rfl
    | cons w ws ih =>
      intro h
      show wipe ((wipe σ ws).set w none) vs = wipe σ vs
      rw [wipe_set (h w List.mem_cons_self)]
      exact ih fun v hv => h v (List.mem_cons_of_mem _ hv)
  exact key vs fun _ h => h
/-- one item of the comprehension: what its names hold -/
abbrev RCg := D → BSt → (BSt → Prop) → Prop
def cN (i : Nat) : RCg := fun d τ k => k (τ.set i (some d))
def cT2 (i j : Nat) : RCg := fun d τ k => ∃ a b, d = .tup [a, b] ∧ k ((τ.set i (some a)).set j (some b))
def lcW (g : RCg) (tt : RT) (te : RE) (ex : BX) (τ : BSt) (R : List D → Mm → Prop) : List D → List D → Mm → Prop
  | [], acc, M => R acc M
  | d :: ds, acc, M => g d τ fun τ1 => tt ex τ1 M fun b M1 => if b = true then te ex τ1 M1 fun y M2 => Sz (acc.length + 1) ∧ lcW g tt te ex τ R ds (acc ++ [y]) M2 else lcW g tt te ex τ R ds acc M1
/-- .. while G holds -/
def lcG (G : Mm → Prop) (g : RCg) (tt : RT) (te : RE) (ex : BX) (τ : BSt) (R : List D → Mm → Prop) : List D → List D → Mm → Prop
  | [], acc, M => G M ∧ R acc M
  | d :: ds, acc, M => G M ∧ g d τ fun τ1 => tt ex τ1 M fun b M1 => if b = true then te ex τ1 M1 fun y M2 => Sz (acc.length + 1) ∧ lcG G g tt te ex τ R ds (acc ++ [y]) M2 else lcG G g tt te ex τ R ds acc M1
theorem lcG_eq {g : RCg} {tt : RT} {te : RE} {ex : BX} {τ : BSt} {R : List D → Mm → Prop} : ∀ ds : List D, lcG GT g tt te ex τ R ds = lcW g tt te ex τ R ds
  | [] => by
    funext acc M
    exact propext ⟨fun h => h.2, fun h => ⟨True.intro, h⟩⟩
  | d :: ds => by
    funext acc M
    unfold lcG lcW
    rw [lcG_eq ds]
    exact propext ⟨fun h => h.2, fun h => ⟨True.intro, h⟩⟩
def rYes : RT := fun _ _ M R => R true M
def rLc (it : RI) (g : RCg) (tt : RT) (te : RE) (vs : List Nat) : RE := fun ex τ M R => it ex τ M fun ds M1 => lcW g tt te nox (wipeB τ vs) (fun acc M2 => R (.lst acc) M2) ds [] M1
def rLcO (it : RI) (g : RCg) (tt : RT) (te : RE) (vs : List Nat) : RE := fun ex τ M R => it ex τ M fun ds M1 => lcW g tt te nox (wipeB τ vs) (fun acc M2 => ∀ p, R (.ref p) ((p, .lst acc) :: M2)) ds [] M1
/-- how the layer stores an item, and ours -/
def CgOk (K : PySem.W.Frag) (vs : List Nat) (g : RCg) (tg : TG) : Prop := ∀ (H : Hp) (L : List Addr) (σ : L2.St) (τ : BSt) (v : V) (d : D) (k : BSt → Prop) (Q : L2.St → Hp → Prop), Sg K L H σ τ → DV K L H v d → g d τ k →
  (∀ σ' τ', Sg K L H σ' τ' → wipe σ' vs = wipe σ vs → k τ' → Q σ' H) → tg v σ H Q
theorem cg_n {K : PySem.W.Frag} {vs : List Nat} {i : Nat} (hi : i ∈ vs) : CgOk K vs (cN i) (gName i) := fun H L σ τ v d k Q s dv h q => q _ _ (s.set dv) (wipe_set hi) h
theorem cg_t2 {K : PySem.W.Frag} {vs : List Nat} {i j : Nat} (hi : i ∈ vs) (hj : j ∈ vs) : CgOk K vs (cT2 i j) (L2.gTup K 2 (L2.gCons (gName i) (L2.gCons (gName j) L2.gNil))) := fun H L σ τ v d k Q s dv h q => by
  obtain ⟨a, b, e1, h⟩ := h
  subst e1
  cases dv with
  | tup ht hs =>
    cases hs with
    | cons h1 hs =>
      cases hs with
      | cons h2 hs =>
        cases hs
        exact ⟨_, _, rfl, ht.sq, rfl, _, _, rfl, _, _, rfl, rfl, q _ _ ((s.set h1).set h2) ((wipe_set hj).trans (wipe_set hi)) h⟩
theorem lc_lift {G : Mm → Prop} {g : RCg} {gt : TG} {tt : RT} {te : RE} {vs : List Nat} (cg : CgOk X.K vs g gt) {σ : L2.St} {H : Hp} {Q : VK} {τ : BSt} {M Fm : Mm} {R : List D → Mm → Prop} {ex : BX} (w : Wl X.K E σ H τ M Fm ex)
    (h : it ex τ M fun ds M1 => lcG G g tt te nox (wipeB τ vs) R ds [] M1)
    (k : ∀ (D : Addr) (ws : List V) (ds : List BV.D) (H2 : Hp) (M2 : Mm), H2 D = some (.lst ws) → DVs X.K (keys (M2 ++ Fm)) H2 ws ds → SR X.K H2 (M2 ++ Fm) → Fr H (keys (M ++ Fm)) H2 (D :: keys (M2 ++ Fm)) → SR X.K H2 ((D, .lst ds) :: (M2 ++ Fm)) → R ds M2 → Q (.ref D) H2) :
    tLc (liftIG X.K E G it) gt (liftT X.K (fun _ _ _ => False) tt) (liftE X.K (fun _ _ _ => False) te) vs σ H Q := by
  refine ⟨τ, M, Fm, _, ex, w, h, fun J H1 ds M1 s1 f1 its h1 => fun D hD => ?_⟩
  -- the list itself is owned while it is filled
  let Fd : List BV.D → Mm → Mm := fun acc M2 => (D, MO.lst acc) :: (M2 ++ Fm)
  have pm : ∀ (acc : List BV.D) (M : Mm), (M ++ (D, MO.lst acc) :: Fm).Perm ((D, MO.lst acc) :: (M ++ Fm)) := fun acc M => List.perm_middle
  let Gs : Nat → Hp → Prop := fun i H2 => ∃ acc M2, SR X.K H2 (Fd acc M2) ∧ Fr H1 (keys (M1 ++ Fm)) H2 (D :: keys (M2 ++ Fm)) ∧ lcG G g tt te nox (wipeB τ vs) R (ds.drop i) acc M2
  have s2 : SR X.K (upd H1 D (.lst [])) ((D, MO.lst []) :: (M1 ++ Fm)) := s1.own (o := .lst []) hD ⟨[], upd_same, .nil⟩
  refine ⟨fun i m H2 => m = ds.length - i ∧ i ≤ ds.length ∧ Gs i H2, ⟨ds.length, by omega, Nat.zero_le _, [], M1, s2, fr_own s1 hD, h1⟩, ?_⟩
  rintro i m H2 ⟨rfl, hi, acc, M2, sr2, f2, h2⟩
  have sr2' := sr2.perm (pm acc M2).symm
  have f2' := f2.trans (fr_perm (H := H2) (pm acc M2).symm)
  by_cases e1 : i < ds.length
  · rw [show ds.drop i = ds[i] :: ds.drop (i + 1) from List.drop_eq_getElem_cons e1] at h2
    obtain ⟨g2, h2⟩ := h2
    obtain ⟨hgo, hstop, hy⟩ := its H2 M2 ((D, MO.lst acc) :: Fm) sr2' f2' g2
    refine .inr ⟨hgo i e1, Gs (i + 1), fun H' q => ⟨ds.length - (i + 1), by omega, rfl, by omega, q⟩, fun x H' hx => ?_⟩
    obtain ⟨d, hd, dv, f4, s4⟩ := hy i x H' e1 hx
    rw [List.getElem?_eq_getElem e1] at hd
    have ed2 := Option.some.inj hd
    subst ed2
    have f24 := f2'.trans f4
    have sgw : Sg X.K (keys (M2 ++ (D, MO.lst acc) :: Fm)) H' (wipe σ vs) (wipeB τ vs) := ((w.sg.mono f1).mono f24).wipe vs
    refine cg H' _ _ _ x _ _ _ sgw dv h2 fun σ' τ' sg' ew h5 => ⟨ew.trans wipe_wipe, ?_⟩
    -- hidden: the list at its place behind what is owned
    have w5 : Wl X.K (fun _ _ _ => False) σ' H' τ' M2 ((D, MO.lst acc) :: Fm) nox := ⟨sg', s4, xp_nox⟩
    refine ⟨τ', M2, (D, MO.lst acc) :: Fm, _, nox, w5, h5, fun b H5 M5 s5 f5 h6 => ?_⟩
    have f25 := f24.trans f5
    cases b with
    | true =>
      refine ⟨τ', M5, (D, MO.lst acc) :: Fm, _, nox, w5.step s5 f5, h6, fun y H6 dy M6 dvy s6 f6 ⟨z, h7⟩ => ?_⟩
      have f26 := (f25.trans f6).trans (fr_perm (H := H6) (pm acc M6))
      have s7 := s6.perm (pm acc M6)
      obtain ⟨ws, hws, dws⟩ := s7.at_ _ List.mem_cons_self
      have f7 : Fr H6 (D :: keys (M6 ++ Fm)) (upd H6 D (.lst (ws ++ [y]))) (D :: keys (M6 ++ Fm)) := fr_put
      have dvy2 := dvy.mono (fr_perm (H := H6) (pm acc M6))
      refine ⟨ws, hws, by rw [dws.length]; have := z.lt; omega, acc ++ [dy], M6, s7.put ⟨_, upd_same, (dws.mono f7).snoc (dvy2.mono f7)⟩, f26.trans f7, h7⟩
    | false => exact ⟨acc, M5, s5.perm (pm acc M5), f25.trans (fr_perm (pm acc M5)), h6⟩
  · have e2 : i = ds.length := by omega
    subst e2
    rw [List.drop_length] at h2
    obtain ⟨g2, h2⟩ := h2
    obtain ⟨hgo, hstop, hy⟩ := its H2 M2 ((D, MO.lst acc) :: Fm) sr2' f2' g2
    refine .inl ⟨hstop, ?_⟩
    obtain ⟨ws, hws, dws⟩ := sr2.at_ _ List.mem_cons_self
    have s3 : SR X.K H2 (M2 ++ Fm) := SR.drop (a := D) (o := .lst acc) sr2
    exact k D ws acc H2 M2 hws (dws.mono fr_drop) s3 (f1.trans f2) sr2 h2
theorem lc_eq {g : RCg} {tt : RT} {te : RE} {vs : List Nat} {R : List D → Mm → Prop} {ex : BX} {τ : BSt} {M : Mm} (h : it ex τ M fun ds M1 => lcW g tt te nox (wipeB τ vs) R ds [] M1) : it ex τ M fun ds M1 => lcG GT g tt te nox (wipeB τ vs) R ds [] M1 := by
  have e : (fun (ds : List D) (M1 : Mm) => lcG GT g tt te nox (wipeB τ vs) R ds [] M1) = fun ds M1 => lcW g tt te nox (wipeB τ vs) R ds [] M1 := by
    funext ds M1
    rw [lcG_eq]
  rw [e]
  exact h
theorem be_lcOf {g : RCg} {gt : TG} {tt : RT} {te : RE} {vs : List Nat} (cg : CgOk X.K vs g gt) (h : PE X e (tLc (liftI X.K E it) gt (liftT X.K (fun _ _ _ => False) tt) (liftE X.K (fun _ _ _ => False) te) vs)) : BE X E e (rLc it g tt te vs) :=
  PE.weak h fun σ H Q ⟨τ, M, Fm, R, ex, w, h, k⟩ => lc_lift (G := GT) cg w (lc_eq h) fun D ws ds H2 M2 h1 h2 s2 f2 s3 r =>
    k _ H2 _ M2 (.lst ⟨SR.off (a := D) (o := .lst ds) s3, h1⟩ h2) s2 (f2.trans fr_drop) r
theorem be_lcOfO {g : RCg} {gt : TG} {tt : RT} {te : RE} {vs : List Nat} (cg : CgOk X.K vs g gt) (h : PE X e (tLc (liftI X.K E it) gt (liftT X.K (fun _ _ _ => False) tt) (liftE X.K (fun _ _ _ => False) te) vs)) : BE X E e (rLcO it g tt te vs) :=
  PE.weak h fun σ H Q ⟨τ, M, Fm, R, ex, w, h, k⟩ => lc_lift (G := GT) cg w (lc_eq h) fun D ws ds H2 M2 h1 h2 s2 f2 s3 r =>
    k _ H2 _ ((D, .lst ds) :: M2) (.ref D) s3 f2 (r D)
/-- y = [..] -/
theorem bs_setLcOf {i : Nat} {g : RCg} {gt : TG} {tt : RT} {te : RE} {vs : List Nat} (cg : CgOk X.K vs g gt) (h : PS X st (tAsg (tLc (liftI X.K E it) gt (liftT X.K (fun _ _ _ => False) tt) (liftE X.K (fun _ _ _ => False) te) vs) (gName i))) : BS X E st (sAsg (rLc it g tt te vs) (gN i)) :=
  PS.weak h fun Dn σ H ⟨τ, M, Fm, B, w, h, kn, kr, kb, kc⟩ => lc_lift (G := GT) cg w (lc_eq h) fun D ws ds H2 M2 h1 h2 s2 f2 s3 r =>
    kn _ H2 _ M2 ((w.sg.mono (f2.trans fr_drop)).set (.lst ⟨SR.off (a := D) (o := .lst ds) s3, h1⟩ h2)) s2 (f2.trans fr_drop) r
theorem bs_setLcOfO {i : Nat} {g : RCg} {gt : TG} {tt : RT} {te : RE} {vs : List Nat} (cg : CgOk X.K vs g gt) (h : PS X st (tAsg (tLc (liftI X.K E it) gt (liftT X.K (fun _ _ _ => False) tt) (liftE X.K (fun _ _ _ => False) te) vs) (gName i))) : BS X E st (sAsg (rLcO it g tt te vs) (gN i)) :=
  PS.weak h fun Dn σ H ⟨τ, M, Fm, B, w, h, kn, kr, kb, kc⟩ => lc_lift (G := GT) cg w (lc_eq h) fun D ws ds H2 M2 h1 h2 s2 f2 s3 r =>
    kn _ H2 _ ((D, .lst ds) :: M2) ((w.sg.mono f2).set (.ref D)) s3 f2 (r D)
/-! ### while, by so many turns -/
def whW (c : RT) (body : RS) (B : BEnds) : Nat → BSt → Mm → Prop
  | 0, _, _ => False
  | n + 1, τ, M => c B.ex τ M fun b M1 => if b = true then body { B with nx := fun τ2 M2 => CvS τ2 M2 (whW c body B n), ct := fun τ2 M2 => CvS τ2 M2 (whW c body B n), bk := B.nx } τ M1 else B.nx τ M1
def sWhile (c : RT) (body : RS) : RS := fun B τ M => ∃ n, whW c body B n τ M
theorem bs_while {c : Expr} {bd : List Stmt} (hp : PassesOwn (model X.prog X.w) X.A X.env X.xe) (hc : BT X E c tc) (hb : BSs X E bd body) : BS X E (.While c bd [] pos) (sWhile tc body) :=
  PS.weak (ps_while hp hc hb) fun Dn σ H ⟨τ, M, Fm, B, w, ⟨n, h⟩, kn, kr, kb, kc⟩ => by
  let G : Nat → L2.St → Hp → Prop := fun i σ2 H2 => ∃ τ2 M2, Sg X.K (keys (M2 ++ Fm)) H2 σ2 τ2 ∧ SR X.K H2 (M2 ++ Fm) ∧ Fr H (keys (M ++ Fm)) H2 (keys (M2 ++ Fm)) ∧ CvS τ2 M2 (whW tc body B i)
  refine ⟨G, ⟨n, τ, M, w.sg, w.sr, .refl, .go h⟩, ?_⟩
  rintro m σ2 H2 ⟨τ2, M2, sg2, sr2, f2, τ3, M3, c3, h3⟩
  obtain ⟨w3, f3⟩ := Wl.cv (⟨sg2, sr2, w.xp.mono f2⟩ : Wl X.K E σ2 H2 τ2 M2 Fm B.ex) c3
  have f23 := f2.trans f3
  cases m with
  | zero => exact h3.elim
  | succ m =>
    refine ⟨τ3, M3, Fm, _, B.ex, w3, h3, fun b H4 M4 s4 f4 h4 => ?_⟩
    have f24 := f23.trans f4
    cases b with
    | true =>
      refine ⟨G m, fun σ' H' q => ⟨m, Nat.lt_succ_self _, q⟩, ?_⟩
      refine ⟨τ3, M4, Fm, { B with nx := fun τ2 M2 => CvS τ2 M2 (whW tc body B m), ct := fun τ2 M2 => CvS τ2 M2 (whW tc body B m), bk := B.nx }, w3.step s4 f4, h4, ?_, kr.mono f24, kn.mono f24, ?_⟩
      · exact fun σ6 H6 τ6 M6 sg6 sr6 f6 h6 => ⟨τ6, M6, sg6, sr6, f24.trans f6, h6⟩
      · exact fun σ6 H6 τ6 M6 sg6 sr6 f6 h6 => ⟨τ6, M6, sg6, sr6, f24.trans f6, h6⟩
    | false => exact kn _ _ _ _ (w3.sg.mono f4) s4 f24 h4
end
end BV
set_option maxHeartbeats 4000000
namespace BV
open PySem PySem.Spec PyProof.Rows L2
section
variable {X : Cx} {E : XK} {st : Stmt} {rest : List Stmt} {e a b o value tg iter : Expr} {es : List Expr} {pos pos' apos p : Pos} {t u body : RS} {te ta tv : RE} {tc : RT} {tr : RA} {x m : Str}
/-! ### ints, texts -/
def rI2 (C : Int → Int → Prop) (g : Int → Int → D) : R2B := fun d e M R => ∃ i j, d = .int i ∧ e = .int j ∧ C i j ∧ R (g i j) M
def Yes2 : Int → Int → Prop := fun _ _ => True
theorem bop_of {f : Value → Value → Sem Value} {C : Int → Int → Prop} {g : Int → Int → V} {g' : Int → Int → D} (h : OpR X f (rI C g)) (hg : ∀ i j K L H, DV K L H (g i j) (g' i j)) : BOp X f (rI2 C g') := OpR.weak h fun x y H Q ⟨d, e, M, Fm, R, dx, dy, sr, ⟨i, j, e1, e2, c, r⟩, k⟩ => by
  subst e1 e2
  cases dx
  cases dy
  exact ⟨i, j, rfl, rfl, c, k _ H _ M (hg i j _ _ _) sr .refl r⟩
theorem bop_of0 {f : Value → Value → Sem Value} {g : Int → Int → V} {g' : Int → Int → D} (h : OpR X f (rI0 g)) (hg : ∀ i j K L H, DV K L H (g i j) (g' i j)) : BOp X f (rI2 Yes2 g') := OpR.weak h fun x y H Q ⟨d, e, M, Fm, R, dx, dy, sr, ⟨i, j, e1, e2, c, r⟩, k⟩ => by
  subst e1 e2
  cases dx
  cases dy
  exact ⟨i, j, rfl, rfl, k _ H _ M (hg i j _ _ _) sr .refl r⟩
def oAdd : R2B := rI2 Yes2 fun i j => .int (i + j)
def oSub : R2B := rI2 Yes2 fun i j => .int (i - j)
def oMul : R2B := rI2 CMulW fun i j => .int (i * j)
def oDiv : R2B := rI2 CDivW fun i j => .int (i / j)
def oMod : R2B := rI2 (fun _ j => 0 < j) fun i j => .int (i % j)
def CPowB (i j : Int) : Prop := 0 ≤ j ∧ (Builtin.Int.intBits i : Int) * j ≤ 2 ^ 27
def oPow : R2B := rI2 CPowB fun i j => .int (i ^ j.toNat)
def oLt : R2B := rI2 Yes2 fun i j => .bl (decide (i < j))
def oLe : R2B := rI2 Yes2 fun i j => .bl (decide (i ≤ j))
def oGt : R2B := rI2 Yes2 fun i j => .bl (decide (j < i))
def oGe : R2B := rI2 Yes2 fun i j => .bl (decide (j ≤ i))
theorem bo_add : BOp X (binaryOp .Add) oAdd := bop_of0 op_add fun _ _ _ _ _ => .int _
theorem bo_sub : BOp X (binaryOp .Sub) oSub := bop_of0 op_sub fun _ _ _ _ _ => .int _
theorem bo_mul : BOp X (binaryOp .Mult) oMul := bop_of op_mulW fun _ _ _ _ _ => .int _
theorem bo_div : BOp X (binaryOp .FloorDiv) oDiv := bop_of op_fdivW fun _ _ _ _ _ => .int _
theorem bo_mod : BOp X (binaryOp .Mod) oMod := bop_of (C := fun _ j => 0 < j) (g := fun i j => .int (i % j)) (opI fun i j _ _ _ _ _ hc q => by
  have h1 : (0 : Int) < j := hc
  exact mod_int' (by omega) (by rw [Int.fmod_eq_emod_of_nonneg i (by omega)]; exact q)) fun _ _ _ _ _ => .int _
theorem bo_pow : BOp X (binaryOp .Pow) oPow := bop_of (C := CPowB) (g := fun i j => .int (i ^ j.toNat)) (opI fun _ _ _ _ _ _ _ hc q => pow_int hc.1 hc.2 q) fun _ _ _ _ _ => .int _
theorem bo_lt : BOp X (compareOp .Lt) oLt := bop_of0 op_lt fun _ _ _ _ _ => .bl _
theorem bo_le : BOp X (compareOp .LtE) oLe := bop_of0 op_le fun _ _ _ _ _ => .bl _
theorem bo_gt : BOp X (compareOp .Gt) oGt := bop_of0 op_gt fun _ _ _ _ _ => .bl _
theorem bo_ge : BOp X (compareOp .GtE) oGe := bop_of0 op_ge fun _ _ _ _ _ => .bl _
theorem BOp.or {f : Value → Value → Sem Value} {r r' : R2B} (h : BOp X f r) (h' : BOp X f r') : BOp X f (fun d e M R => r d e M R ∨ r' d e M R) := fun pins s σ H x y v u Q I rx ry ⟨d, e, M, Fm, R, dx, dy, sr, q, k⟩ => by
  rcases q with q | q
  · exact h pins s σ H x y v u Q I rx ry ⟨d, e, M, Fm, R, dx, dy, sr, q, k⟩
  · exact h' pins s σ H x y v u Q I rx ry ⟨d, e, M, Fm, R, dx, dy, sr, q, k⟩
/-- texts, lists, tuples put together -/
def oAddS : R2B := fun d e M R => ∃ i j, d = .str i ∧ e = .str j ∧ Sz (i.length + j.length) ∧ R (.str (i ++ j)) M
theorem bo_addS : BOp X (binaryOp .Add) oAddS := OpR.weak op_add_str fun x y H Q ⟨d, e, M, Fm, R, dx, dy, sr, ⟨i, j, e1, e2, z, r⟩, k⟩ => by
  subst e1 e2
  cases dx
  cases dy
  exact ⟨i, j, rfl, rfl, z.line, k _ H _ M (.str _) sr .refl r⟩
/-- a list, by value or owned -/
def LstD (d : D) (M : Mm) (ds : List D) : Prop := d = .lst ds ∨ ∃ a k, d = .ref a ∧ At M a (.lst ds) k
theorem LstD.ho {K : PySem.W.Frag} {H : Hp} {v : V} {d : D} {M Fm : Mm} {ds : List D} (h : LstD d M ds) (dv : DV K (keys (M ++ Fm)) H v d) (sr : SR K H (M ++ Fm)) : ∃ a vs, v = .ref a ∧ H a = some (.lst vs) ∧ DVs K (keys (M ++ Fm)) H vs ds := by
  rcases h with e | ⟨a, k, e, h⟩
  · subst e
    cases dv with
    | lst h hs => exact ⟨_, _, rfl, h.2, hs⟩
  · subst e
    cases dv
    obtain ⟨vs, h2, hs⟩ := sr.at h.hid
    exact ⟨a, vs, rfl, h2, hs⟩
/-- a list or tuple, by value or owned -/
def SqD (d : D) (M : Mm) (ds : List D) : Prop := d = .tup ds ∨ LstD d M ds
theorem SqD.ho {K : PySem.W.Frag} {H : Hp} {v : V} {d : D} {M Fm : Mm} {ds : List D} (h : SqD d M ds) (dv : DV K (keys (M ++ Fm)) H v d) (sr : SR K H (M ++ Fm)) : ∃ a vs, v = .ref a ∧ (SqL K H a vs ∨ SqT K H a vs) ∧ DVs K (keys (M ++ Fm)) H vs ds := by
  rcases h with e | h
  · subst e
    cases dv with
    | tup h hs => exact ⟨_, _, rfl, .inr h.sq, hs⟩
  · obtain ⟨a, vs, e1, h1, hs⟩ := h.ho dv sr
    exact ⟨a, vs, e1, .inl (.of h1), hs⟩
def oCatL : R2B := fun d e M R => ∃ ds es, LstD d M ds ∧ LstD e M es ∧ Sz (ds.length + es.length) ∧ R (.lst (ds ++ es)) M
theorem bo_catL : BOp X (binaryOp .Add) oCatL := OpR.weak op_cat fun x y H Q ⟨d, e, M, Fm, R, dx, dy, sr, ⟨ds, es, h1, h2, z, r⟩, k⟩ => by
  obtain ⟨a, vs, e1, q1, s1⟩ := h1.ho dx sr
  obtain ⟨b, ws, e2, q2, s2⟩ := h2.ho dy sr
  refine ⟨a, b, vs, ws, e1, e2, q1, q2, by rw [s1.length, s2.length]; exact z.line, fun p hp => ?_⟩
  exact k _ _ _ M (new_lst sr (s1.append s2) hp) (sr.new hp) (fr_new sr hp) r
def oCatT : R2B := fun d e M R => ∃ ds es, d = .tup ds ∧ e = .tup es ∧ Sz (ds.length + es.length) ∧ R (.tup (ds ++ es)) M
theorem bo_catT : BOp X (binaryOp .Add) oCatT := OpR.weak op_catA fun x y H Q ⟨d, e, M, Fm, R, dx, dy, sr, ⟨ds, es, h1, h2, z, r⟩, k⟩ => by
  subst h1 h2
  cases dx with
  | @tup a vs _ q1 s1 =>
    cases dy with
    | @tup b ws _ q2 s2 =>
      refine ⟨a, b, vs, ws, rfl, rfl, q1.sq, q2.sq, by rw [s1.length, s2.length]; exact z.line, fun e0 => ?_, fun _ e0 => ?_, fun _ _ p hp => ?_⟩
      · subst e0
        cases s1
        exact k _ H _ M (.tup q2 s2) sr .refl r
      · subst e0
        cases s2
        rw [List.append_nil] at r
        exact k _ H _ M (.tup q1 s1) sr .refl r
      · exact k _ _ _ M (new_tup sr (s1.append s2) hp) (sr.new hp) (fr_new sr hp) r
/-- + of any of these -/
def oAddX : R2B := fun d e M R => oAdd d e M R ∨ oAddS d e M R ∨ oCatL d e M R ∨ oCatT d e M R
theorem bo_addX : BOp X (binaryOp .Add) oAddX := BOp.or bo_add (BOp.or bo_addS (BOp.or bo_catL bo_catT))
/-! ### equality -/
mutual
def toP : D → PyData
  | .non => .none
  | .bl b => .bool b
  | .int i => .int i
  | .str x => .str x
  | .tup ds => .tuple (toPs ds)
  | .lst ds => .list (toPs ds)
  | .ty _ => .none
  | .ins _ _ => .none
  | .ref _ => .none
  | .scr _ => .none
def toPs : List D → List PyData
  | [] => []
  | d :: ds => toP d :: toPs ds
end
mutual
/-- plain data, of such a depth -/
def pd : Nat → D → Bool
  | _, .non => true
  | _, .bl _ => true
  | _, .int _ => true
  | _, .str x => PyData.strOk x
  | n + 1, .tup ds => pds n ds
  | n + 1, .lst ds => pds n ds
  | 0, .tup _ => false
  | 0, .lst _ => false
  | _, .ty _ => false
  | _, .ins _ _ => false
  | _, .ref _ => false
  | _, .scr _ => false
def pds : Nat → List D → Bool
  | _, [] => true
  | n, d :: ds => pd n d && pds n ds
end
mutual
theorem pd_ok : ∀ {d : D} {n : Nat}, pd n d = true → (toP d).canLay0 = true ∧ (toP d).depth ≤ n
  | .non, n, h => by simp [toP, PyData.canLay0, PyData.depth]
  | .bl b, n, h => by simp [toP, PyData.canLay0, PyData.depth]
  | .int i, n, h => by simp [toP, PyData.canLay0, PyData.depth]
  | .str x, n, h => by
    have h1 : PyData.strOk x = true := by cases n <;> simpa [pd] using h
    simp [toP, PyData.canLay0, PyData.depth, h1]
  | .tup ds, n + 1, h => by
    obtain ⟨a, b⟩ := pds_ok (ds := ds) (n := n) (by simpa [pd] using h)
    simp [toP, PyData.canLay0, PyData.depth, a, b]
  | .lst ds, n + 1, h => by
    obtain ⟨a, b⟩ := pds_ok (ds := ds) (n := n) (by simpa [pd] using h)
    simp [toP, PyData.canLay0, PyData.depth, a, b]
  | .tup ds, 0, h => by simp [pd] at h
  | .lst ds, 0, h => by simp [pd] at h
  | .ty _, n, h => by simp [pd] at h
  | .ins _ _, n, h => by simp [pd] at h
  | .ref _, n, h => by simp [pd] at h
  | .scr _, n, h => by simp [pd] at h
theorem pds_ok : ∀ {ds : List D} {n : Nat}, pds n ds = true → PyData.canLayAll0 (toPs ds) = true ∧ PyData.depthAll (toPs ds) ≤ n
  | [], n, h => by simp [toPs, PyData.canLayAll0, PyData.depthAll]
  | d :: ds, n, h => by
    have h' : pd n d = true ∧ pds n ds = true := by simpa [pds] using h
    obtain ⟨a, b⟩ := pd_ok h'.1
    obtain ⟨c, e⟩ := pds_ok h'.2
    simp [toPs, PyData.canLayAll0, PyData.depthAll, a, c]
    omega
end
mutual
theorem pd_dp {K : PySem.W.Frag} {L : List Addr} {H : Hp} : ∀ {d : D} {n : Nat} {v : V}, pd n d = true → DV K L H v d → Dp K H v (toP d)
  | .non, n, _, h, dv => by cases dv; exact .non
  | .bl b, n, _, h, dv => by cases dv; exact .bl b
  | .int i, n, _, h, dv => by cases dv; exact .int i
  | .str x, n, _, h, dv => by cases dv; exact .str x
  | .tup ds, n + 1, _, h, dv => by
    cases dv with
    | tup ht hs => exact .tup ht.sq (pds_dp (by simpa [pd] using h) hs)
  | .lst ds, n + 1, _, h, dv => by
    cases dv with
    | lst ht hs => exact .lst ht.sq (pds_dp (by simpa [pd] using h) hs)
  | .tup ds, 0, _, h, _ => by simp [pd] at h
  | .lst ds, 0, _, h, _ => by simp [pd] at h
  | .ty _, n, _, h, _ => by simp [pd] at h
  | .ins _ _, n, _, h, _ => by simp [pd] at h
  | .ref _, n, _, h, _ => by simp [pd] at h
  | .scr _, n, _, h, _ => by simp [pd] at h
theorem pds_dp {K : PySem.W.Frag} {L : List Addr} {H : Hp} : ∀ {ds : List D} {n : Nat} {vs : List V}, pds n ds = true → DVs K L H vs ds → DpAll K H vs (toPs ds)
  | [], n, _, h, dv => by cases dv; exact .nil
  | d :: ds, n, _, h, dv => by
    have h' : pd n d = true ∧ pds n ds = true := by simpa [pds] using h
    cases dv with
    | cons h1 h2 => exact .cons (pd_dp h'.1 h1) (pds_dp h'.2 h2)
end
theorem pd_sh {d : D} {n : Nat} (hn : n ≤ 64) (h : pd n d = true) : SeqAt.shaped (toP d) = true := by
  obtain ⟨a, b⟩ := pd_ok h
  unfold SeqAt.shaped
  rw [a, Bool.true_and]
  exact decide_eq_true (by omega)
/-- Python's == of plain data -/
def deq (d e : D) : Bool := PyData.eqv (toP d) (toP e)
/-- as it is seen: an owned list by its content -/
def Vw (d : D) (M : Mm) (e : D) : Prop := (∃ ds, e = .lst ds ∧ ∃ a k, d = .ref a ∧ At M a (.lst ds) k) ∨ d = e
theorem Vw.dp {K : PySem.W.Frag} {H : Hp} {v : V} {d e : D} {M Fm : Mm} {n : Nat} (h : Vw d M e) (dv : DV K (keys (M ++ Fm)) H v d) (sr : SR K H (M ++ Fm)) (hp : pd n e = true) : Dp K H v (toP e) := by
  rcases h with ⟨ds, e1, a, k, e2, h⟩ | e1
  · subst e1 e2
    cases dv
    obtain ⟨vs, h2, hs⟩ := sr.at h.hid
    cases n with
    | zero => simp [pd] at hp
    | succ n => exact .lst (.of h2) (pds_dp (by simpa [pd] using hp) hs)
  · subst e1
    exact pd_dp hp dv
def oEq : R2B := fun d e M R => ∃ d' e', Vw d M d' ∧ Vw e M e' ∧ pd 60 d' = true ∧ pd 60 e' = true ∧ R (.bl (deq d' e')) M
def oNe : R2B := fun d e M R => ∃ d' e', Vw d M d' ∧ Vw e M e' ∧ pd 60 d' = true ∧ pd 60 e' = true ∧ R (.bl (!deq d' e')) M
theorem bo_eq (hu : X.A.units + 64 < cLine) : BOp X (compareOp .Eq) oEq := OpR.weak (op_eqD hu) fun x y H Q ⟨d, e, M, Fm, R, dx, dy, sr, ⟨d', e', h1, h2, p1, p2, r⟩, k⟩ =>
  ⟨toP d', toP e', h1.dp dx sr p1, h2.dp dy sr p2, pd_sh (by decide) p1, pd_sh (by decide) p2, k _ H _ M (.bl _) sr .refl r⟩
theorem bo_ne (hu : X.A.units + 64 < cLine) : BOp X (compareOp .NotEq) oNe := OpR.weak (op_neD hu) fun x y H Q ⟨d, e, M, Fm, R, dx, dy, sr, ⟨d', e', h1, h2, p1, p2, r⟩, k⟩ =>
  ⟨toP d', toP e', h1.dp dx sr p1, h2.dp dy sr p2, pd_sh (by decide) p1, pd_sh (by decide) p2, k _ H _ M (.bl _) sr .refl r⟩
/-- is None -/
def isN : D → Bool
  | .non => true
  | _ => false
theorem isN_v {K : PySem.W.Frag} {L : List Addr} {H : Hp} {v : V} {d : D} (h : DV K L H v d) : decide (v = .non) = isN d := by
  cases h <;> simp [isN]
def oIsN : R2B := fun d e M R => e = .non ∧ R (.bl (isN d)) M
def oNotN : R2B := fun d e M R => e = .non ∧ R (.bl (!isN d)) M
theorem bo_isN : BOp X (compareOp .Is) oIsN := OpR.weak op_isN fun x y H Q ⟨d, e, M, Fm, R, dx, dy, sr, ⟨e1, r⟩, k⟩ => by
  subst e1
  cases dy
  exact ⟨rfl, k _ H _ M (by rw [isN_v dx]; exact .bl _) sr .refl r⟩
theorem bo_notN : BOp X (compareOp .IsNot) oNotN := OpR.weak op_notN fun x y H Q ⟨d, e, M, Fm, R, dx, dy, sr, ⟨e1, r⟩, k⟩ => by
  subst e1
  cases dy
  exact ⟨rfl, k _ H _ M (by rw [isN_v dx]; exact .bl _) sr .refl r⟩
/-! ### subscripts -/
def oIx : R2B := fun d e M R => (∃ ds i z, SqD d M ds ∧ e = .int i ∧ atI ds i = some z ∧ R z M) ∨ (∃ z i c, d = .str z ∧ e = .int i ∧ Sz z.length ∧ atI z.cps.toList i = some c ∧ R (.str ⟨#[c]⟩) M) ∨ ∃ ns i z, d = .scr ns ∧ e = .int i ∧ atI ns i = some z ∧ R (.int z) M
def BIx (X : Cx) (r : R2B) : Prop := IxR X (lift2 X.K r)
theorem IxR.weak {r r2 : R2} (h : IxR X r) (w : ∀ x y H Q, r2 x y H Q → r x y H Q) : IxR X r2 := fun value slice pins s σ H x y v u Q I rx ry q => h value slice pins s σ H x y v u Q I rx ry (w _ _ _ _ q)
theorem atI_get {K : PySem.W.Frag} {L : List Addr} {H : Hp} {vs : List V} {ds : List D} {i : Int} {z : D} (hs : DVs K L H vs ds) (h : atI ds i = some z) : ∃ v, atI vs i = some v ∧ DV K L H v z := by
  unfold atI at h ⊢
  rw [hs.length]
  cases e : ixN ds.length i with
  | none =>
    rw [e] at h
    cases h
  | some j =>
    rw [e] at h
    obtain ⟨v, h1, h2⟩ := hs.get (i := j) (d := z) h
    exact ⟨v, h1, h2⟩
theorem atI_map {ns : List Int} {i z : Int} (h : atI ns i = some z) : atI (ns.map V.int) i = some (.int z) := by
  unfold atI at h ⊢
  rw [List.length_map]
  cases e : ixN ns.length i with
  | none =>
    rw [e] at h
    cases h
  | some j =>
    rw [e] at h
    have h2 : ns[j]? = some z := h
    show (ns.map V.int)[j]? = _
    rw [List.getElem?_map, h2]
    rfl
theorem bix : BIx X oIx := IxR.weak ix_seq fun x y H Q ⟨d, e, M, Fm, R, dx, dy, sr, h, k⟩ => by
  rcases h with ⟨ds, i, z, h1, e1, h2, r⟩ | ⟨z, i, c, e1, e2, hz, h2, r⟩ | ⟨ns, i, z, e1, e2, h2, r⟩
  · subst e1
    cases dy
    obtain ⟨a, vs, e1, q, hs⟩ := h1.ho dx sr
    obtain ⟨v, hv, dv⟩ := atI_get hs h2
    rcases q with q | q
    · exact .inl ⟨a, vs, i, v, e1, rfl, q, hv, k _ H _ M dv sr .refl r⟩
    · exact .inr (.inl ⟨a, vs, i, v, e1, rfl, q, hv, k _ H _ M dv sr .refl r⟩)
  · subst e1 e2
    cases dx
    cases dy
    exact .inr (.inr ⟨z, i, c, rfl, rfl, hz.line, h2, k _ H _ M (.str _) sr .refl r⟩)
  · subst e1 e2
    cases dy
    cases dx with
    | scr hq => exact .inl ⟨_, _, i, _, rfl, rfl, hq.sq, atI_map h2, k _ H _ M (.int _) sr .refl r⟩
theorem be_ix {r : R2B} {ta tb : RE} (hr : BIx X r) (ha : BE X E a ta) (hb : BE X E b tb) (hs : PlainIx b := by exact fun _ _ => rfl) : BE X E (.Subscript a b pos) (rOp r ta tb) := PE.weak (pe_ix hr ha hb hs) fun _ _ _ h => op_lift h
/-! ### membership -/
def oIn (neg : Bool) : R2B := fun d e M R => ∃ es e', (e' = .lst es ∨ e' = .tup es) ∧ Vw e M e' ∧ pd 60 d = true ∧ pds 60 es = true ∧ R (.bl (if neg then !es.any (deq · d) else es.any (deq · d))) M
theorem any_p {d : D} : ∀ {es : List D}, (toPs es).any (fun z => PyData.eqv z (toP d)) = es.any (deq · d)
  | [] => rfl
  | e :: es => by
    show (PyData.eqv (toP e) (toP d) || (toPs es).any _) = _
    rw [any_p (es := es)]
    rfl
theorem in_any {K : PySem.W.Frag} {pins : List (Addr × Obj)} {s : Shared} {σ : L2.St} {H : Hp} {x y : V} {d e e' : D} {M Fm : Mm} {es : List D} (he : e' = .lst es ∨ e' = .tup es) (h1 : Vw e M e') (dx : DV X.K (keys (M ++ Fm)) H x d) (dy : DV X.K (keys (M ++ Fm)) H y e) (sr : SR X.K H (M ++ Fm)) (p1 : pd 60 d = true) (p2 : pds 60 es = true) :
    Dp X.K H x (toP d) ∧ (Dp X.K H y (.list (toPs es)) ∨ Dp X.K H y (.tuple (toPs es))) := by
  refine ⟨pd_dp p1 dx, ?_⟩
  rcases he with e1 | e1
  · subst e1
    exact .inl (h1.dp dy sr (n := 61) (by simpa [pd] using p2))
  · subst e1
    exact .inr (h1.dp dy sr (n := 61) (by simpa [pd] using p2))
theorem bo_in (hu : X.A.units + 65 < cLine) : BOp X (compareOp .In) (oIn false) := fun pins s σ H x y v u Q I rx ry ⟨d, e, M, Fm, R, dx, dy, sr, ⟨es, e', he, h1, p1, p2, r⟩, k⟩ => by
  obtain ⟨q1, q2⟩ := in_any (K := X.K) (pins := pins) (s := s) (σ := σ) he h1 dx dy sr p1 p2
  have c1 := SeqAt.canLay_of_shaped (pd_sh (n := 60) (by decide) p1)
  have c2 : PyData.canLayAll0 (toPs es) = true := (pds_ok p2).1
  have c3 : X.A.units + 1 + min (PyData.depthAll (toPs es)) (toP d).depth < cLine := by have := (pd_ok p1).2; omega
  have r' : Q (.bl ((toPs es).any fun z => PyData.eqv z (toP d))) H := by
    rw [any_p]
    exact k _ H _ M (.bl _) sr .refl r
  obtain ⟨as, r1⟩ := Dp.reads I _ x v q1 rx
  rcases q2 with q2 | q2
  · obtain ⟨bs, r2⟩ := Dp.reads I _ y u q2 ry
    exact SeqAt.in_list_reads r2 r1 c2 c1 c3 ⟨.bl _, H, I, rfl, r'⟩
  · obtain ⟨bs, r2⟩ := Dp.reads I _ y u q2 ry
    exact SeqAt.in_tuple_reads r2 r1 c2 c1 c3 ⟨.bl _, H, I, rfl, r'⟩
theorem bo_notIn (hu : X.A.units + 65 < cLine) : BOp X (compareOp .NotIn) (oIn true) := fun pins s σ H x y v u Q I rx ry ⟨d, e, M, Fm, R, dx, dy, sr, ⟨es, e', he, h1, p1, p2, r⟩, k⟩ => by
  obtain ⟨q1, q2⟩ := in_any (K := X.K) (pins := pins) (s := s) (σ := σ) he h1 dx dy sr p1 p2
  have c1 := SeqAt.canLay_of_shaped (pd_sh (n := 60) (by decide) p1)
  have c2 : PyData.canLayAll0 (toPs es) = true := (pds_ok p2).1
  have c3 : X.A.units + 1 + min (PyData.depthAll (toPs es)) (toP d).depth < cLine := by have := (pd_ok p1).2; omega
  have r' : Q (.bl (!(toPs es).any fun z => PyData.eqv z (toP d))) H := by
    rw [any_p]
    exact k _ H _ M (.bl _) sr .refl r
  obtain ⟨as, r1⟩ := Dp.reads I _ x v q1 rx
  rcases q2 with q2 | q2
  · obtain ⟨bs, r2⟩ := Dp.reads I _ y u q2 ry
    exact SeqAt.notIn_list_reads r2 r1 c2 c1 c3 ⟨.bl _, H, I, rfl, r'⟩
  · obtain ⟨bs, r2⟩ := Dp.reads I _ y u q2 ry
    exact SeqAt.notIn_tuple_reads r2 r1 c2 c1 c3 ⟨.bl _, H, I, rfl, r'⟩
/-- a sign in a text -/
def oInS : R2B := fun d e M R => ∃ c z, d = .str ⟨#[c]⟩ ∧ e = .str z ∧ R (.bl (decide (c ∈ z.cps.toList))) M
theorem bo_inS : BOp X (compareOp .In) oInS := OpR.weak op_in_sign fun x y H Q ⟨d, e, M, Fm, R, dx, dy, sr, ⟨c, z, e1, e2, r⟩, k⟩ => by
  subst e1 e2
  cases dx
  cases dy
  exact ⟨c, z, rfl, rfl, k _ H _ M (.bl _) sr .refl r⟩
def oInX : R2B := fun d e M R => oIn false d e M R ∨ oInS d e M R
theorem bo_inX (hu : X.A.units + 65 < cLine) : BOp X (compareOp .In) oInX := BOp.or (bo_in hu) bo_inS
end
end BV
set_option maxHeartbeats 4000000
namespace BV
open PySem PySem.Spec PyProof.Rows L2
section
variable {X : Cx} {E : XK} {st : Stmt} {rest : List Stmt} {e a b o value tg iter : Expr} {es : List Expr} {pos pos' apos p : Pos} {t u body : RS} {te ta tv : RE} {tc : RT} {tr : RA} {x m : Str}
/-! ### built-in functions -/
theorem BC.or {f : Value} {r r' : RB} (h : BC X f r) (h' : BC X f r') : BC X f (fun ds M R => r ds M R ∨ r' ds M R) := fun pins s σ H xs us Q I rs ⟨ds, M, Fm, R, dv, sr, q, k⟩ => by
  rcases q with q | q
  · exact h pins s σ H xs us Q I rs ⟨ds, M, Fm, R, dv, sr, q, k⟩
  · exact h' pins s σ H xs us Q I rs ⟨ds, M, Fm, R, dv, sr, q, k⟩
theorem dvs1 {K : PySem.W.Frag} {L : List Addr} {H : Hp} {vs : List V} {d : D} (h : DVs K L H vs [d]) : ∃ v, vs = [v] ∧ DV K L H v d := by
  cases h with
  | cons h hs =>
    cases hs
    exact ⟨_, rfl, h⟩
theorem dvs2 {K : PySem.W.Frag} {L : List Addr} {H : Hp} {vs : List V} {d e : D} (h : DVs K L H vs [d, e]) : ∃ v w, vs = [v, w] ∧ DV K L H v d ∧ DV K L H w e := by
  cases h with
  | cons h hs =>
    obtain ⟨w, rfl, hw⟩ := dvs1 hs
    exact ⟨_, w, rfl, h, hw⟩
/-- len -/
def bLen : RB := fun ds M R => ∃ d, ds = [d] ∧ ((∃ es, SqD d M es ∧ R (.int es.length) M) ∨ (∃ z, d = .str z ∧ Sz z.length ∧ R (.int z.length) M) ∨ ∃ ns, d = .scr ns ∧ R (.int ns.length) M)
theorem bc_len : BC X (.builtin "len") bLen := CallR.weak call_len fun xs H Q ⟨ds, M, Fm, R, dv, sr, ⟨d, e1, h⟩, k⟩ => by
  subst e1
  obtain ⟨v, rfl, dz⟩ := dvs1 dv
  rcases h with ⟨es, h1, r⟩ | ⟨z, e1, hz, r⟩ | ⟨ns, e1, r⟩
  · obtain ⟨a, vs, rfl, q, hs⟩ := h1.ho dz sr
    refine ⟨_, es.length, rfl, ?_, k _ H _ M (.int _) sr .refl r⟩
    rcases q with q | q
    · exact .inl ⟨vs, q, hs.length.symm⟩
    · exact .inr ⟨vs, q, hs.length.symm⟩
  · subst e1
    cases dz
    exact ⟨_, z.length, rfl, ⟨hz.line, rfl⟩, k _ H _ M (.int _) sr .refl r⟩
  · subst e1
    cases dz with
    | scr hq => exact ⟨_, ns.length, rfl, .inl ⟨_, hq.sq, by rw [List.length_map]⟩, k _ H _ M (.int _) sr .refl r⟩
def bLenD : RB := fun ds M R => ∃ a kvs k, ds = [.ref a] ∧ At M a (.dct kvs) k ∧ R (.int kvs.length) M
theorem DVk.length {K : PySem.W.Frag} {L : List Addr} {H : Hp} : ∀ {vs : List (Key × V)} {ds : List (Str × D)}, DVk K L H vs ds → vs.length = ds.length
  | _, _, .nil => rfl
  | _, _, .cons _ hs => congrArg (· + 1) (DVk.length hs)
theorem bc_lenD : BC X (.builtin "len") bLenD := CallR.weak call_lenD fun xs H Q ⟨ds, M, Fm, R, dv, sr, ⟨a, kvs, kk, e1, h, r⟩, k⟩ => by
  subst e1
  obtain ⟨v, rfl, dz⟩ := dvs1 dv
  cases dz
  obtain ⟨ws, hw, hs⟩ := sr.at h.hid
  exact ⟨a, ws, rfl, hw, k _ H _ M (by rw [hs.length]; exact .int _) sr .refl r⟩
/-- all of truth values -/
def bAll : RB := fun ds M R => ∃ bs : List Bool, ds = [.lst (bs.map .bl)] ∧ R (.bl (bs.all id)) M
theorem dvs_bl {K : PySem.W.Frag} {L : List Addr} {H : Hp} : ∀ {bs : List Bool} {vs : List V}, DVs K L H vs (bs.map .bl) → vs = bs.map V.bl
  | [], _, h => by cases h; rfl
  | b :: bs, _, h => by
    cases h with
    | cons h hs =>
      cases h
      rw [dvs_bl hs]
      rfl
theorem bc_all (hc : X.calm = true) : BC X (.builtin "all") bAll := CallR.weak (cr_all hc) fun xs H Q ⟨ds, M, Fm, R, dv, sr, ⟨bs, e1, r⟩, k⟩ => by
  subst e1
  obtain ⟨v, rfl, dz⟩ := dvs1 dv
  cases dz with
  | lst hl hs =>
    have e2 := dvs_bl hs
    subst e2
    exact ⟨_, bs, rfl, hl.sq, k _ H _ M (.bl _) sr .refl r⟩
/-- int(n), int(flag), abs, max, min of two -/
def bInt : RB := fun ds M R => (∃ i, ds = [.int i] ∧ R (.int i) M) ∨ ∃ c : Bool, ds = [.bl c] ∧ R (.int (if c then 1 else 0)) M
theorem bc_int : BC X (.type "int") bInt := CallR.weak call_int1 fun xs H Q ⟨ds, M, Fm, R, dv, sr, h, k⟩ => by
  rcases h with ⟨i, e1, r⟩ | ⟨c, e1, r⟩
  · subst e1
    obtain ⟨v, rfl, dz⟩ := dvs1 dv
    cases dz
    exact .inl ⟨i, rfl, k _ H _ M (.int _) sr .refl r⟩
  · subst e1
    obtain ⟨v, rfl, dz⟩ := dvs1 dv
    cases dz
    exact .inr ⟨c, rfl, k _ H _ M (.int _) sr .refl r⟩
def bAbs : RB := fun ds M R => ∃ i, ds = [.int i] ∧ R (.int (if i < 0 then -i else i)) M
theorem bc_abs : BC X (.builtin "abs") bAbs := CallR.weak call_abs fun xs H Q ⟨ds, M, Fm, R, dv, sr, ⟨i, e1, r⟩, k⟩ => by
  subst e1
  obtain ⟨v, rfl, dz⟩ := dvs1 dv
  cases dz
  exact ⟨i, rfl, k _ H _ M (.int _) sr .refl r⟩
def bMax : RB := fun ds M R => ∃ i j, ds = [.int i, .int j] ∧ R (.int (if j > i then j else i)) M
theorem bc_max (hc : X.calm = true) : BC X (.builtin "max") bMax := CallR.weak (call_max2 hc) fun xs H Q ⟨ds, M, Fm, R, dv, sr, ⟨i, j, e1, r⟩, k⟩ => by
  subst e1
  obtain ⟨v, w, rfl, dz, dw⟩ := dvs2 dv
  cases dz
  cases dw
  exact ⟨i, j, rfl, k _ H _ M (.int _) sr .refl r⟩
def bMin : RB := fun ds M R => ∃ i j, ds = [.int i, .int j] ∧ R (.int (if j < i then j else i)) M
theorem bc_min (hc : X.calm = true) : BC X (.builtin "min") bMin := CallR.weak (call_min2 hc) fun xs H Q ⟨ds, M, Fm, R, dv, sr, ⟨i, j, e1, r⟩, k⟩ => by
  subst e1
  obtain ⟨v, w, rfl, dz, dw⟩ := dvs2 dv
  cases dz
  cases dw
  exact ⟨i, j, rfl, k _ H _ M (.int _) sr .refl r⟩
/-- list(x), owned or by value; tuple(x) -/
def bListO : RB := fun ds M R => ∃ d es, ds = [d] ∧ SqD d M es ∧ ∀ p, R (.ref p) ((p, .lst es) :: M)
def bListV : RB := fun ds M R => ∃ d es, ds = [d] ∧ SqD d M es ∧ R (.lst es) M
theorem bc_listO : BC X (.type "list") bListO := CallR.weak call_list_of fun xs H Q ⟨ds, M, Fm, R, dv, sr, ⟨d, es, e1, h, r⟩, k⟩ => by
  subst e1
  obtain ⟨v, rfl, dz⟩ := dvs1 dv
  obtain ⟨a, vs, rfl, q, hs⟩ := h.ho dz sr
  exact ⟨a, vs, rfl, q, fun l hl => k _ _ _ ((l, .lst es) :: M) (.ref l) (sr.own (o := .lst es) hl ⟨vs, upd_same, hs.mono (fr_own sr hl)⟩) (fr_own sr hl) (r l)⟩
theorem bc_listV : BC X (.type "list") bListV := CallR.weak call_list_of fun xs H Q ⟨ds, M, Fm, R, dv, sr, ⟨d, es, e1, h, r⟩, k⟩ => by
  subst e1
  obtain ⟨v, rfl, dz⟩ := dvs1 dv
  obtain ⟨a, vs, rfl, q, hs⟩ := h.ho dz sr
  exact ⟨a, vs, rfl, q, fun l hl => k _ _ _ M (new_lst sr hs hl) (sr.new hl) (fr_new sr hl) r⟩
def bTuple : RB := fun ds M R => ∃ d es, ds = [d] ∧ SqD d M es ∧ R (.tup es) M
theorem bc_tuple : BC X (.type "tuple") bTuple := CallR.weak call_tuple_of fun xs H Q ⟨ds, M, Fm, R, dv, sr, ⟨d, es, e1, h, r⟩, k⟩ => by
  subst e1
  obtain ⟨v, rfl, dz⟩ := dvs1 dv
  rcases h with e1 | h
  · subst e1
    cases dz with
    | tup ht hs => exact ⟨_, _, rfl, .inr ⟨ht.sq, k _ H _ M (.tup ht hs) sr .refl r⟩⟩
  · obtain ⟨a, vs, rfl, q, hs⟩ := h.ho dz sr
    exact ⟨a, vs, rfl, .inl ⟨.of q, fun l hl => k _ _ _ M (new_tup sr hs hl) (sr.new hl) (fr_new sr hl) r⟩⟩
/-- dict(d), list(d) -/
def bDictO : RB := fun ds M R => ∃ a kvs k, ds = [.ref a] ∧ At M a (.dct kvs) k ∧ ∀ p, R (.ref p) ((p, .dct kvs) :: M)
theorem bc_dictO : BC X (.type "dict") bDictO := CallR.weak call_dictD fun xs H Q ⟨ds, M, Fm, R, dv, sr, ⟨a, kvs, kk, e1, h, r⟩, k⟩ => by
  subst e1
  obtain ⟨v, rfl, dz⟩ := dvs1 dv
  cases dz
  obtain ⟨ws, hw, hs⟩ := sr.at h.hid
  exact ⟨a, ws, rfl, .inl hw, fun l hl => k _ _ _ ((l, .dct kvs) :: M) (.ref l) (sr.own (o := .dct kvs) hl ⟨ws, upd_same, hs.mono (fr_own sr hl)⟩) (fr_own sr hl) (r l)⟩
def keysD (kvs : List (Str × D)) : List D := kvs.map fun kv => .str kv.1
def bKeysV : RB := fun ds M R => ∃ a kvs k, ds = [.ref a] ∧ At M a (.dct kvs) k ∧ R (.lst (keysD kvs)) M
theorem DVk.keys {K : PySem.W.Frag} {L : List Addr} {H : Hp} : ∀ {vs : List (Key × V)} {ds : List (Str × D)}, DVk K L H vs ds → DVs K L H (vs.map fun kv => kV kv.1) (keysD ds)
  | _, _, .nil => .nil
  | _, _, .cons _ hs => .cons (.str _) (DVk.keys hs)
theorem bc_keysV (hc : X.calm = true) : BC X (.type "list") bKeysV := CallR.weak (call_listD hc) fun xs H Q ⟨ds, M, Fm, R, dv, sr, ⟨a, kvs, kk, e1, h, r⟩, k⟩ => by
  subst e1
  obtain ⟨v, rfl, dz⟩ := dvs1 dv
  cases dz
  obtain ⟨ws, hw, hs⟩ := sr.at h.hid
  exact ⟨a, ws, rfl, .inl hw, fun l hl => k _ _ _ M (new_lst sr hs.keys hl) (sr.new hl) (fr_new sr hl) r⟩
def bListX : RB := fun ds M R => bListV ds M R ∨ bKeysV ds M R
theorem bc_listX (hc : X.calm = true) : BC X (.type "list") bListX := BC.or bc_listV (bc_keysV hc)
def bLenX : RB := fun ds M R => bLen ds M R ∨ bLenD ds M R
theorem bc_lenX : BC X (.builtin "len") bLenX := BC.or bc_len bc_lenD
/-! ### isinstance -/
inductive TyN where
  | non | bl | int | str | tup | lst | dct
  deriving DecidableEq
def TyN.nm : TyN → String
  | .non => "NoneType" | .bl => "bool" | .int => "int" | .str => "str" | .tup => "tuple" | .lst => "list" | .dct => "dict"
inductive TyD (M : Mm) : D → TyN → Prop
  | non : TyD M .non .non
  | bl (b : Bool) : TyD M (.bl b) .bl
  | int (i : Int) : TyD M (.int i) .int
  | str (x : Str) : TyD M (.str x) .str
  | tup (ds : List D) : TyD M (.tup ds) .tup
  | lst (ds : List D) : TyD M (.lst ds) .lst
  | ref {a : Addr} {ds : List D} {k : MO → Mm} : At M a (.lst ds) k → TyD M (.ref a) .lst
  | dct {a : Addr} {ds : List (Str × D)} {k : MO → Mm} : At M a (.dct ds) k → TyD M (.ref a) .dct
def subTy (a b : TyN) : Bool := decide (a = b) || (decide (a = .bl) && decide (b = .int))
theorem kit_sub (K : PySem.W.Frag) : ∀ a b : TyN, PySem.W.kitOne K (.type a.nm) (.type b.nm) = some (subTy a b) := by
  intro a b
  cases a <;> cases b <;> exact kit_ty (by decide +kernel)
theorem TyD.tyx {K : PySem.W.Frag} {H : Hp} {M Fm : Mm} {d : D} {t : TyN} {v : V} (h : TyD M d t) (dv : DV K (keys (M ++ Fm)) H v d) (sr : SR K H (M ++ Fm)) : TyX K H v (.type t.nm) := by
  cases h with
  | non => cases dv; exact .base .non
  | bl b => cases dv; exact .base (.bl b)
  | int i => cases dv; exact .base (.int i)
  | str x => cases dv; exact .base (.str x)
  | tup ds =>
    cases dv with
    | tup ht hs =>
      rcases ht with ⟨_, h⟩ | h
      · exact .base (.tup h)
      · rcases h with h | ⟨o, its, n, h1, h2, _⟩
        · exact (rd0 h).elim
        · exact .kTuple h1 h2
  | lst ds =>
    cases dv with
    | lst hl hs => exact .base (.lst hl.2)
  | ref h =>
    cases dv
    obtain ⟨vs, h2, _⟩ := sr.at h.hid
    exact .base (.lst h2)
  | dct h =>
    cases dv
    obtain ⟨vs, h2, _⟩ := sr.at h.hid
    exact .base (.dK h2)
def bIsi (n : TyN) : RB := fun ds M R => ∃ d t, ds = [d, .ty n.nm] ∧ TyD M d t ∧ R (.bl (subTy t n)) M
theorem bc_isi (n : TyN) : BC X (.builtin "isinstance") (bIsi n) := CallR.weak call_isi fun xs H Q ⟨ds, M, Fm, R, dv, sr, ⟨d, t, e1, h, r⟩, k⟩ => by
  subst e1
  obtain ⟨v, w, rfl, dz, dw⟩ := dvs2 dv
  cases dw
  exact ⟨v, _, _, _, _, rfl, .ty _, h.tyx dz sr, kit_sub X.K t n, k _ H _ M (.bl _) sr .refl r⟩
/-- isinstance(x, (list, tuple)) -/
theorem kit_any (K : PySem.W.Frag) (a b c : TyN) : PySem.W.kitAny K (.type a.nm) [.type b.nm, .type c.nm] = some (subTy a b || subTy a c) := by
  unfold PySem.W.kitAny PySem.W.kitAny PySem.W.kitAny
  rw [kit_sub K a b, kit_sub K a c]
  cases subTy a b <;> cases subTy a c <;> rfl
def bIsi2 (n m : TyN) : RB := fun ds M R => ∃ d t, ds = [d, .tup [.ty n.nm, .ty m.nm]] ∧ TyD M d t ∧ R (.bl (subTy t n || subTy t m)) M
theorem bc_isi2 (n m : TyN) : BC X (.builtin "isinstance") (bIsi2 n m) := CallR.weak (call_isiT.or call_isiK) fun xs H Q ⟨ds, M, Fm, R, dv, sr, ⟨d, t, e1, h, r⟩, k⟩ => by
  subst e1
  obtain ⟨v, w, rfl, dz, dw⟩ := dvs2 dv
  cases dw with
  | tup ht hs =>
    obtain ⟨v1, v2, e2, d1, d2⟩ := dvs2 hs
    subst e2
    cases d1
    cases d2
    rcases ht with ⟨_, ht⟩ | ht
    · exact .inl ⟨v, _, _, _, _, _, rfl, ht, .cons (.ty _) (.cons (.ty _) .nil), h.tyx dz sr, kit_any X.K t n m, k _ H _ M (.bl _) sr .refl r⟩
    · rcases ht with ht | ⟨ob, its, nn, h1, h2, h3, h4, h5⟩
      · exact (rd0 ht).elim
      · obtain ⟨oc, od, dt, sl⟩ := ob
        simp only at h2 h3
        subst h2 h3
        obtain ⟨u1, u2, e3, r1, r2⟩ := vals2 h5
        cases r1
        cases r2
        refine .inr ⟨v, _, od, [.type n.nm, .type m.nm], nn, sl, _, _, rfl, ?_, h.tyx dz sr, kit_any X.K t n m, k _ H _ M (.bl _) sr .refl r⟩
        rw [h1, ← e3]
/-! ### dicts by text keys -/
def getK : List (Str × D) → Str → Option D
  | [], _ => none
  | (f, d) :: r, k => if f = k then some d else getK r k
def setK (kvs : List (Str × D)) (k : Str) (v : D) : List (Str × D) := if (kvs.any fun kv => decide (kv.1 = k)) = true then kvs.map (fun kv => if kv.1 = k then (kv.1, v) else kv) else kvs ++ [(k, v)]
theorem DVk.get {K : PySem.W.Frag} {L : List Addr} {H : Hp} {k : Str} : ∀ {vs : List (Key × V)} {ds : List (Str × D)}, DVk K L H vs ds →
    (∀ d, getK ds k = some d → ∃ v, valV vs (.inr k) = some v ∧ DV K L H v d) ∧ (getK ds k = none → valV vs (.inr k) = none)
  | _, _, .nil => ⟨fun d h => (by cases h), fun _ => rfl⟩
  | _, _, .cons (f := f) (v := v) (d := d) h hs => by
    obtain ⟨i1, i2⟩ := DVk.get (k := k) hs
    by_cases e : f = k
    · subst e
      have e1 : ∀ r : List (Key × V), valV ((Sum.inr f, v) :: r) (Sum.inr f : Key) = some v := fun r => valV_pos rfl
      refine ⟨fun d' h' => ?_, fun h' => ?_⟩
      · unfold getK at h'
        rw [if_pos rfl] at h'
        cases h'
        exact ⟨v, e1 _, h⟩
      · unfold getK at h'
        rw [if_pos rfl] at h'
        cases h'
    · have e1 : ∀ r : List (Key × V), valV ((Sum.inr f, v) :: r) (Sum.inr k : Key) = valV r (Sum.inr k) := fun r => by
        unfold valV
        rw [List.find?_cons, show decide ((Sum.inr f : Key) = Sum.inr k) = false from decide_eq_false fun q => e (Sum.inr.inj q)]
      unfold getK
      rw [if_neg e]
      exact ⟨fun d' h' => by rw [e1]; exact i1 d' h', fun h' => by rw [e1]; exact i2 h'⟩
end
end BV
set_option maxHeartbeats 4000000
namespace BV
open PySem PySem.Spec PyProof.Rows L2
section
variable {X : Cx} {E : XK} {st : Stmt} {rest : List Stmt} {e a b o value tg iter : Expr} {es : List Expr} {pos pos' apos p : Pos} {t u body : RS} {te ta tv : RE} {tc : RT} {tr : RA} {x m : Str}
/-! ### dicts by text keys -/
theorem DVk.any {K : PySem.W.Frag} {L : List Addr} {H : Hp} {k : Str} : ∀ {vs : List (Key × V)} {ds : List (Str × D)}, DVk K L H vs ds → (vs.any fun kv => decide (kv.1 = (Sum.inr k : Key))) = ds.any fun kv => decide (kv.1 = k)
  | _, _, .nil => rfl
  | _, _, .cons (f := f) h hs => by
    rw [List.any_cons, List.any_cons, DVk.any hs]
    congr 1
    by_cases e : f = k
    · subst e
      simp
    · rw [decide_eq_false e]
      exact decide_eq_false fun q => e (Sum.inr.inj q)
theorem DVk.mapSet {K : PySem.W.Frag} {L : List Addr} {H : Hp} {k : Str} {v : V} {d : D} (h0 : DV K L H v d) : ∀ {vs : List (Key × V)} {ds : List (Str × D)}, DVk K L H vs ds → DVk K L H (vs.map fun kv => if kv.1 = (Sum.inr k : Key) then (kv.1, v) else kv) (ds.map fun kv => if kv.1 = k then (kv.1, d) else kv)
  | _, _, .nil => .nil
  | _, _, .cons (f := f) h hs => by
    rw [List.map_cons, List.map_cons]
    by_cases e : f = k
    · subst e
      rw [if_pos rfl, if_pos rfl]
      exact .cons h0 (DVk.mapSet h0 hs)
    · rw [if_neg e, if_neg fun q => e (Sum.inr.inj q)]
      exact .cons h (DVk.mapSet h0 hs)
theorem DVk.snoc {K : PySem.W.Frag} {L : List Addr} {H : Hp} {k : Str} {v : V} {d : D} (h0 : DV K L H v d) : ∀ {vs : List (Key × V)} {ds : List (Str × D)}, DVk K L H vs ds → DVk K L H (vs ++ [(Sum.inr k, v)]) (ds ++ [(k, d)])
  | _, _, .nil => .cons h0 .nil
  | _, _, .cons h hs => .cons h (DVk.snoc h0 hs)
theorem DVk.put {K : PySem.W.Frag} {L : List Addr} {H : Hp} {k : Str} {v : V} {d : D} {vs : List (Key × V)} {ds : List (Str × D)} (hs : DVk K L H vs ds) (h0 : DV K L H v d) : DVk K L H (putK vs (.inr k) v) (setK ds k d) := by
  unfold putK setK
  rw [hs.any]
  split
  · exact hs.mapSet h0
  · exact hs.snoc h0
/-- a dict that is read: as it stands, or while it is walked -/
def DctD (d : D) (M : Mm) (kvs : List (Str × D)) : Prop := ∃ a k, d = .ref a ∧ (At M a (.dct kvs) k ∨ ∃ o ws, At M a (.dcl o ws kvs) k)
theorem DctD.ho {K : PySem.W.Frag} {H : Hp} {v : V} {d : D} {M Fm : Mm} {kvs : List (Str × D)} (h : DctD d M kvs) (dv : DV K (keys (M ++ Fm)) H v d) (sr : SR K H (M ++ Fm)) : ∃ a ws, v = .ref a ∧ Rd H a (.dK ws) ∧ DVk K (keys (M ++ Fm)) H ws kvs := by
  obtain ⟨a, k, e1, h⟩ := h
  subst e1
  cases dv
  rcases h with h | h
  · obtain ⟨ws, hw, hs⟩ := sr.at h.hid
    exact ⟨a, ws, rfl, .inl hw, hs⟩
  · obtain ⟨o, ws, h⟩ := h
    obtain ⟨hw, hs⟩ := sr.at h.hid
    exact ⟨a, ws, rfl, .inr ⟨o, hw⟩, hs⟩
def rDGet (td ty : RE) : RE := fun ex τ M R => td ex τ M fun d M1 => ty ex τ M1 fun y M2 => ∃ kvs k, DctD d M2 kvs ∧ y = .str k ∧ ∃ z, getK kvs k = some z ∧ R z M2
theorem be_dgetOf {td ty : RE} (h : PE X e (tDGet (liftE X.K E td) (liftE X.K E ty))) : BE X E e (rDGet td ty) := PE.weak h fun σ H Q ⟨τ, M, Fm, R, ex, w, h, k⟩ => by
  refine ⟨τ, M, Fm, _, ex, w, h, fun v H1 d M1 dv s1 f1 h1 => ⟨τ, M1, Fm, _, ex, w.step s1 f1, h1, fun y H2 dy M2 hy s2 f2 ⟨kvs, kk, hd, e1, z, hg, r⟩ => ?_⟩⟩
  subst e1
  cases hy
  obtain ⟨a, ws, rfl, hw, hs⟩ := hd.ho (dv.mono f2) s2
  obtain ⟨v, hv, dz⟩ := (hs.get (k := kk)).1 z hg
  exact ⟨a, v, rfl, .inl ⟨ws, .inr kk, hw, rfl, hv.symm⟩, k _ H2 z M2 dz s2 (f1.trans f2) r⟩
theorem dget_o {K : PySem.W.Frag} {L : List Addr} {H : Hp} {ws : List (Key × V)} {kvs : List (Str × D)} {kk : Str} (hs : DVk K L H ws kvs) : (valV ws (.inr kk)).isSome = (getK kvs kk).isSome ∧ DV K L H ((valV ws (.inr kk)).getD .non) ((getK kvs kk).getD .non) := by
  obtain ⟨h1, h2⟩ := hs.get (k := kk)
  cases e : getK kvs kk with
  | none =>
    rw [h2 e]
    exact ⟨rfl, .non⟩
  | some d =>
    obtain ⟨v, hv, dv⟩ := h1 d e
    rw [hv]
    exact ⟨rfl, dv⟩
/-- y in d, y not in d -/
def rDIn (neg : Bool) (ty td : RE) : RE := fun ex τ M R => ty ex τ M fun y M1 => td ex τ M1 fun d M2 => ∃ kvs k, DctD d M2 kvs ∧ y = .str k ∧ R (.bl (if neg then !(getK kvs k).isSome else (getK kvs k).isSome)) M2
theorem din_lift {td ty : RE} {σ : L2.St} {H : Hp} {Q : VK} (h : liftE X.K E (rDIn false ty td) σ H Q) : tDIn (liftE X.K E ty) (liftE X.K E td) σ H Q := by
  obtain ⟨τ, M, Fm, R, ex, w, h, k⟩ := h
  refine ⟨τ, M, Fm, _, ex, w, h, fun y H1 dy M1 hy s1 f1 h1 => ⟨τ, M1, Fm, _, ex, w.step s1 f1, h1, fun v H2 d M2 dv s2 f2 ⟨kvs, kk, hd, e1, r⟩ => ?_⟩⟩
  subst e1
  cases hy
  obtain ⟨a, ws, rfl, hw, hs⟩ := hd.ho dv s2
  exact ⟨a, _, rfl, .inl ⟨ws, .inr kk, hw, rfl, rfl⟩, k _ H2 _ M2 (by rw [(dget_o hs).1]; exact .bl _) s2 (f1.trans f2) r⟩
theorem dnotin_lift {td ty : RE} {σ : L2.St} {H : Hp} {Q : VK} (h : liftE X.K E (rDIn true ty td) σ H Q) : tDNotIn (liftE X.K E ty) (liftE X.K E td) σ H Q := by
  obtain ⟨τ, M, Fm, R, ex, w, h, k⟩ := h
  refine ⟨τ, M, Fm, _, ex, w, h, fun y H1 dy M1 hy s1 f1 h1 => ⟨τ, M1, Fm, _, ex, w.step s1 f1, h1, fun v H2 d M2 dv s2 f2 ⟨kvs, kk, hd, e1, r⟩ => ?_⟩⟩
  subst e1
  cases hy
  obtain ⟨a, ws, rfl, hw, hs⟩ := hd.ho dv s2
  exact ⟨a, _, rfl, .inl ⟨ws, .inr kk, hw, rfl, rfl⟩, k _ H2 _ M2 (by rw [(dget_o hs).1]; exact .bl _) s2 (f1.trans f2) r⟩
theorem be_dinOf {td ty : RE} (h : PE X e (tDIn (liftE X.K E ty) (liftE X.K E td))) : BE X E e (rDIn false ty td) := PE.weak h fun _ _ _ h => din_lift h
theorem be_dnotinOf {td ty : RE} (h : PE X e (tDNotIn (liftE X.K E ty) (liftE X.K E td))) : BE X E e (rDIn true ty td) := PE.weak h fun _ _ _ h => dnotin_lift h
theorem tB_lift {tB0 : TE} {t : RE} (hw : ∀ σ H Q, liftE X.K E t σ H Q → tB0 σ H Q) {σ : L2.St} {H : Hp} {Q : Bool → Hp → Prop} (h : liftT X.K E (rTst t) σ H Q) : tB tB0 σ H Q := by
  obtain ⟨τ, M, Fm, R, ex, w, h, k⟩ := h
  refine hw σ H _ ⟨τ, M, Fm, _, ex, w, h, fun v H1 d M1 dv s1 f1 ⟨c, e1, r⟩ => ?_⟩
  subst e1
  cases dv
  exact ⟨c, rfl, k _ H1 M1 s1 f1 r⟩
theorem bt_dinOf {td ty : RE} (h : PT X e (tB (tDIn (liftE X.K E ty) (liftE X.K E td)))) : BT X E e (rTst (rDIn false ty td)) := PT.weak h fun _ _ _ h => tB_lift (fun _ _ _ q => din_lift q) h
theorem bt_dnotinOf {td ty : RE} (h : PT X e (tB (tDNotIn (liftE X.K E ty) (liftE X.K E td)))) : BT X E e (rTst (rDIn true ty td)) := PT.weak h fun _ _ _ h => tB_lift (fun _ _ _ q => dnotin_lift q) h
/-- d.get(y) -/
def rDGet1 (td ty : RE) : RE := fun ex τ M R => td ex τ M fun d M1 => (∃ kvs, DctD d M1 kvs) ∧ ty ex τ M1 fun y M2 => ∃ kvs k, DctD d M2 kvs ∧ y = .str k ∧ R ((getK kvs k).getD .non) M2
theorem be_dget1Of {td ty : RE} (h : PE X e (tDGet1 (liftE X.K E td) (liftE X.K E ty))) : BE X E e (rDGet1 td ty) := PE.weak h fun σ H Q ⟨τ, M, Fm, R, ex, w, h, k⟩ => by
  refine ⟨τ, M, Fm, _, ex, w, h, fun v H1 d M1 dv s1 f1 ⟨⟨kvs0, hd0⟩, h1⟩ => ?_⟩
  obtain ⟨a, ws, rfl, hw, hs⟩ := hd0.ho dv s1
  refine ⟨a, rfl, .inl ⟨ws, hw⟩, τ, M1, Fm, _, ex, w.step s1 f1, h1, fun y H2 dy M2 hy s2 f2 ⟨kvs, kk, hd, e1, r⟩ => ?_⟩
  subst e1
  cases hy
  obtain ⟨a2, ws2, e2, hw2, hs2⟩ := hd.ho (dv.mono f2) s2
  cases e2
  exact ⟨_, .inl ⟨ws2, .inr kk, hw2, rfl, rfl⟩, k _ H2 _ M2 (dget_o hs2).2 s2 (f1.trans f2) r⟩
/-! ### o[i] = v -/
abbrev RSet := D → D → D → Mm → (Mm → Prop) → Prop
def liftSet (K : PySem.W.Frag) (r : RSet) : TSet := fun o i v H Q => ∃ d e z M Fm R, DV K (keys (M ++ Fm)) H o d ∧ DV K (keys (M ++ Fm)) H i e ∧ DV K (keys (M ++ Fm)) H v z ∧ SR K H (M ++ Fm) ∧ r d e z M R ∧ ∀ H' M', SR K H' (M' ++ Fm) → Fr H (keys (M ++ Fm)) H' (keys (M' ++ Fm)) → R M' → Q H'
def BSet (X : Cx) (r : RSet) : Prop := PSet X (liftSet X.K r)
theorem PSet.weak {r r2 : TSet} (h : PSet X r) (w : ∀ o i v H Q, r2 o i v H Q → r o i v H Q) : PSet X r2 := fun pins s σ H o i v ov iv u Q I ro ri rv q => h pins s σ H o i v ov iv u Q I ro ri rv (w _ _ _ _ _ q)
def gSub (to ti : RE) (r : RSet) : RG := fun ex v τ M R => to ex τ M fun d M1 => ti ex τ M1 fun e M2 => r d e v M2 fun M3 => R τ M3
theorem bg_subOf {to ti : RE} {r : RSet} (h : PG X e (L2.gSub (liftE X.K E to) (liftE X.K E ti) (liftSet X.K r))) : BG X E e (gSub to ti r) := PG.weak h fun v σ H Q ⟨z, τ, M, Fm, R, ex, dv, w, h, k⟩ => by
  refine ⟨τ, M, Fm, _, ex, w, h, fun o H1 d M1 dd s1 f1 h1 => ⟨τ, M1, Fm, _, ex, w.step s1 f1, h1, fun i H2 e M2 de s2 f2 h2 => ?_⟩⟩
  refine ⟨d, e, z, M2, Fm, _, dd.mono f2, de, (dv.mono f1).mono f2, s2, h2, fun H' M' s f r => ?_⟩
  have g := (f1.trans f2).trans f
  exact k _ H' _ M' (w.sg.mono g) s g r
def oSetL : RSet := fun d e v M R => ∃ a ds i j k, d = .ref a ∧ At M a (.lst ds) k ∧ e = .int i ∧ ixN ds.length i = some j ∧ R (k (.lst (ds.set j v)))
theorem bset_list : BSet X oSetL := PSet.weak set_list fun o i v H Q ⟨d, e, z, M, Fm, R, dd, de, dz, sr, ⟨a, ds, ii, j, kk, e1, h, e2, hj, r⟩, k⟩ => by
  subst e1 e2
  cases dd
  cases de
  obtain ⟨vs, hv, hs⟩ := sr.at h.hid
  have f2 : Fr H (keys (M ++ Fm)) (L2.upd H a (.lst (vs.set j v))) (keys (kk (.lst (ds.set j z)) ++ Fm)) := fr_at (o' := .lst (ds.set j z)) h.hid
  refine ⟨a, vs, ii, j, rfl, rfl, hv, by rw [hs.length]; exact hj, k _ _ (SR.upd (o' := .lst (ds.set j z)) sr h.hid ⟨_, upd_same, (hs.mono f2).set j (dz.mono f2)⟩) f2 r⟩
def oSetD : RSet := fun d e v M R => ∃ a kvs kk k, d = .ref a ∧ At M a (.dct kvs) k ∧ e = .str kk ∧ Sz kvs.length ∧ R (k (.dct (setK kvs kk v)))
theorem bset_dict (hu : X.A.units + 1 < cLine) : BSet X oSetD := PSet.weak (set_dict hu) fun o i v H Q ⟨d, e, z, M, Fm, R, dd, de, dz, sr, ⟨a, kvs, key, kk, e1, h, e2, hz, r⟩, k⟩ => by
  subst e1 e2
  cases dd
  cases de
  obtain ⟨vs, hv, hs⟩ := sr.at h.hid
  have f2 : Fr H (keys (M ++ Fm)) (L2.upd H a (.dK (putK vs (.inr key) v))) (keys (kk (.dct (setK kvs key z)) ++ Fm)) := fr_at (o' := .dct (setK kvs key z)) h.hid
  exact ⟨a, _, rfl, .inl ⟨vs, .inr key, hv, rfl, by rw [hs.length]; exact hz.lt, rfl⟩, k _ _ (SR.upd (o' := .dct (setK kvs key z)) sr h.hid ⟨_, upd_same, (hs.mono f2).put (dz.mono f2)⟩) f2 r⟩
/-! ### methods of built-in types -/
abbrev RM := D → List D → Mm → BQ → Prop
def liftM (K : PySem.W.Frag) (r : RM) : V → List V → Hp → VK → Prop := fun x vs H Q => ∃ d ds M Fm R, DV K (keys (M ++ Fm)) H x d ∧ DVs K (keys (M ++ Fm)) H vs ds ∧ SR K H (M ++ Fm) ∧ r d ds M R ∧ Af K H M Fm R Q
def BM (X : Cx) (id : String) (r : RM) : Prop := MtR X id (liftM X.K r)
theorem MtR.weak {id : String} {r r2 : V → List V → Hp → VK → Prop} (h : MtR X id r) (w : ∀ x vs H Q, r2 x vs H Q → r x vs H Q) : MtR X id r2 := fun pins s σ H x xs v us Q I rx rs q => h pins s σ H x xs v us Q I rx rs (w _ _ _ _ q)
/-- the receiver is such a thing -/
inductive Tp (M : Mm) : D → String → Prop
  | str (x : Str) : Tp M (.str x) "str"
  | lst (ds : List D) : Tp M (.lst ds) "list"
  | own {a : Addr} {ds : List D} {k : MO → Mm} : At M a (.lst ds) k → Tp M (.ref a) "list"
  | dct {a : Addr} {ds : List (Str × D)} {k : MO → Mm} : At M a (.dct ds) k → Tp M (.ref a) "dict"
theorem Tp.ty {K : PySem.W.Frag} {H : Hp} {M Fm : Mm} {d : D} {T : String} {v : V} (h : Tp M d T) (dv : DV K (keys (M ++ Fm)) H v d) (sr : SR K H (M ++ Fm)) : tyV K T v H := by
  cases h with
  | str x => cases dv; rfl
  | lst ds =>
    cases dv with
    | lst hl hs => exact .inl ⟨rfl, _, .of hl.2⟩
  | own h =>
    cases dv
    obtain ⟨vs, h2, _⟩ := sr.at h.hid
    exact .inl ⟨rfl, _, .of h2⟩
  | dct h =>
    cases dv
    obtain ⟨vs, h2, _⟩ := sr.at h.hid
    exact .inr (.inr (.inl ⟨rfl, .inl ⟨_, h2⟩⟩))
def rBM (T : String) (r : RM) (te : RE) (t : RA) : RE := fun ex τ M R => te ex τ M fun d M1 => Tp M1 d T ∧ t ex τ M1 fun ds M2 => r d ds M2 R
theorem be_bmOf {T : String} {r : RM} (h : PE X e (tBM X.K T (liftM X.K r) (liftE X.K E te) (liftA X.K E tr))) : BE X E e (rBM T r te tr) := PE.weak h fun σ H Q ⟨τ, M, Fm, R, ex, w, h, k⟩ => by
  refine ⟨τ, M, Fm, _, ex, w, h, fun v H1 d M1 dv s1 f1 ⟨tp, h1⟩ => ⟨tp.ty dv s1, τ, M1, Fm, _, ex, w.step s1 f1, h1, fun vs H2 ds M2 dvs s2 f2 h2 => ?_⟩⟩
  exact ⟨d, ds, M2, Fm, R, dv.mono f2, dvs, s2, h2, (k.mono f1).mono f2⟩
theorem be_bm0Of {T : String} {r : RM} (h : PE X e (tBM0 X.K T (liftM X.K r) (liftE X.K E te))) : BE X E e (rBM T r te rNil) := PE.weak h fun σ H Q ⟨τ, M, Fm, R, ex, w, h, k⟩ => by
  refine ⟨τ, M, Fm, _, ex, w, h, fun v H1 d M1 dv s1 f1 ⟨tp, h1⟩ => ⟨tp.ty dv s1, ?_⟩⟩
  exact ⟨d, [], M1, Fm, R, dv, .nil, s1, h1, k.mono f1⟩
def mAppend : RM := fun d ds M R => ∃ a es z k, d = .ref a ∧ ds = [z] ∧ At M a (.lst es) k ∧ Sz es.length ∧ R .non (k (.lst (es ++ [z])))
theorem bm_append : BM X "list.append" mAppend := MtR.weak mt_append fun x vs H Q ⟨d, ds, M, Fm, R, dx, dvs, sr, ⟨a, es, z, kk, e1, e2, h, hz, r⟩, k⟩ => by
  subst e1 e2
  cases dx
  obtain ⟨w, rfl, dw⟩ := dvs1 dvs
  obtain ⟨us, hv, hs⟩ := sr.at h.hid
  have f2 : Fr H (keys (M ++ Fm)) (L2.upd H a (.lst (us ++ [w]))) (keys (kk (.lst (es ++ [z])) ++ Fm)) := fr_at (o' := .lst (es ++ [z])) h.hid
  exact ⟨a, us, w, rfl, rfl, hv, by rw [hs.length]; exact hz.lt, k _ _ _ _ .non (SR.upd (o' := .lst (es ++ [z])) sr h.hid ⟨_, upd_same, (hs.mono f2).snoc (dw.mono f2)⟩) f2 r⟩
def mExtend : RM := fun d ds M R => ∃ a es z zs k, d = .ref a ∧ ds = [z] ∧ At M a (.lst es) k ∧ LstD z M zs ∧ Sz (es.length + zs.length) ∧ R .non (k (.lst (es ++ zs)))
theorem bm_extend : BM X "list.extend" mExtend := MtR.weak mt_extend fun x vs H Q ⟨d, ds, M, Fm, R, dx, dvs, sr, ⟨a, es, z, zs, kk, e1, e2, h, hl, hz, r⟩, k⟩ => by
  subst e1 e2
  cases dx
  obtain ⟨w, rfl, dw⟩ := dvs1 dvs
  obtain ⟨us, hv, hs⟩ := sr.at h.hid
  obtain ⟨b, ws, rfl, hw, hss⟩ := hl.ho dw sr
  have f2 : Fr H (keys (M ++ Fm)) (L2.upd H a (.lst (us ++ ws))) (keys (kk (.lst (es ++ zs)) ++ Fm)) := fr_at (o' := .lst (es ++ zs)) h.hid
  exact ⟨a, b, us, ws, rfl, rfl, hv, hw, by rw [hs.length, hss.length]; exact hz.line, k _ _ _ _ .non (SR.upd (o' := .lst (es ++ zs)) sr h.hid ⟨_, upd_same, (hs.mono f2).append (hss.mono f2)⟩) f2 r⟩
theorem DVs.dropLast {K : PySem.W.Frag} {L : List Addr} {H : Hp} {vs : List V} {ds : List D} (h : DVs K L H vs ds) : DVs K L H vs.dropLast ds.dropLast := by
  rw [List.dropLast_eq_take, List.dropLast_eq_take, h.length]
  exact h.take _
def mPop : RM := fun d ds M R => ∃ a es z k, d = .ref a ∧ ds = [] ∧ At M a (.lst (es ++ [z])) k ∧ R z (k (.lst es))
theorem bm_pop : BM X "list.pop" mPop := MtR.weak mt_pop fun x vs H Q ⟨d, ds, M, Fm, R, dx, dvs, sr, ⟨a, es, z, kk, e1, e2, h, r⟩, k⟩ => by
  subst e1 e2
  cases dx
  cases dvs
  obtain ⟨us, hv, hs⟩ := sr.at h.hid
  have hl := hs.length
  simp at hl
  obtain ⟨y, hy, dy⟩ := hs.get (i := us.length - 1) (d := z) (by rw [hl]; simp)
  have hd := hs.dropLast
  rw [List.dropLast_concat] at hd
  have f2 : Fr H (keys (M ++ Fm)) (L2.upd H a (.lst us.dropLast)) (keys (kk (.lst es) ++ Fm)) := fr_at (o' := .lst es) h.hid
  exact ⟨a, us, y, rfl, rfl, hv, hy, k _ _ _ _ (dy.mono f2) (SR.upd (o' := .lst es) sr h.hid ⟨_, upd_same, hd.mono f2⟩) f2 r⟩
/-- pop(0) -/
def mPop0 : RM := fun d ds M R => ∃ a es z k, d = .ref a ∧ ds = [.int 0] ∧ At M a (.lst (z :: es)) k ∧ R z (k (.lst es))
theorem bm_pop0 : BM X "list.pop" mPop0 := MtR.weak mt_popAt fun x vs H Q ⟨d, ds, M, Fm, R, dx, dvs, sr, ⟨a, es, z, kk, e1, e2, h, r⟩, k⟩ => by
  subst e1 e2
  cases dx
  obtain ⟨w, rfl, dw⟩ := dvs1 dvs
  cases dw
  obtain ⟨us, hv, hs⟩ := sr.at h.hid
  cases hs with
  | cons h0 hs =>
    rename_i y us
    have f2 : Fr H (keys (M ++ Fm)) (L2.upd H a (.lst us)) (keys (kk (.lst es) ++ Fm)) := fr_at (o' := .lst es) h.hid
    refine ⟨a, _, 0, 0, y, rfl, rfl, hv, by decide, by decide, ?_, rfl, k _ _ _ _ (h0.mono f2) (SR.upd (o' := .lst es) sr h.hid ⟨_, upd_same, hs.mono f2⟩) f2 r⟩
    unfold seqIndex?
    simp
def mClear : RM := fun d ds M R => ∃ a es k, d = .ref a ∧ ds = [] ∧ At M a (.lst es) k ∧ R .non (k (.lst []))
theorem bm_clear : BM X "list.clear" mClear := MtR.weak mt_clear fun x vs H Q ⟨d, ds, M, Fm, R, dx, dvs, sr, ⟨a, es, kk, e1, e2, h, r⟩, k⟩ => by
  subst e1 e2
  cases dx
  cases dvs
  obtain ⟨us, hv, hs⟩ := sr.at h.hid
  exact ⟨a, us, rfl, rfl, hv, k _ _ _ _ .non (SR.upd (o' := .lst []) sr h.hid ⟨_, upd_same, .nil⟩) (fr_at (o' := .lst []) h.hid) r⟩
/-- ''.join of texts -/
def catS : List Str → Str
  | [] => Str.empty
  | z :: zs => z ++ catS zs
/-! ### slices -/
abbrev RSl := D → Option Int → Option Int → Mm → BQ → Prop
abbrev RO := BX → BSt → Mm → (Option Int → Mm → Prop) → Prop
def liftO (K : PySem.W.Frag) (E : XK) (t : RO) : TO := fun σ H Q => ∃ τ M Fm R ex, Wl K E σ H τ M Fm ex ∧ t ex τ M R ∧ ∀ i H' M', SR K H' (M' ++ Fm) → Fr H (keys (M ++ Fm)) H' (keys (M' ++ Fm)) → R i M' → Q i H'
def BO (X : Cx) (E : XK) (e : Option Expr) (t : RO) : Prop := PO X e (liftO X.K E t)
def rNoP : RO := fun _ _ M R => R none M
def rPt (te : RE) : RO := fun ex τ M R => te ex τ M fun d M1 => ∃ i, d = .int i ∧ R (some i) M1
theorem PO.weak {e : Option Expr} {t t2 : TO} (h : PO X e t) (w : ∀ σ H Q, t2 σ H Q → t σ H Q) : PO X e t2 := ⟨fun pins s σ H Q I q => h.run pins s σ H Q I (w _ _ _ q)⟩
theorem bo_none : BO X E none rNoP := PO.weak po_none fun σ H Q ⟨τ, M, Fm, R, ex, w, h, k⟩ => k none H M w.sr .refl h
theorem bo_some (h : BE X E e te) : BO X E (some e) (rPt te) := PO.weak (po_some h) fun σ H Q ⟨τ, M, Fm, R, ex, w, h, k⟩ => by
  refine ⟨τ, M, Fm, _, ex, w, h, fun v H1 d M1 dv s1 f1 ⟨i, e1, r⟩ => ?_⟩
  subst e1
  cases dv
  exact ⟨i, rfl, k _ H1 M1 s1 f1 r⟩
def liftSl (K : PySem.W.Frag) (r : RSl) : V → Option Int → Option Int → Hp → VK → Prop := fun x lo hi H Q => ∃ d M Fm R, DV K (keys (M ++ Fm)) H x d ∧ SR K H (M ++ Fm) ∧ r d lo hi M R ∧ Af K H M Fm R Q
def BSl (X : Cx) (r : RSl) : Prop := L2.SlR X (liftSl X.K r)
theorem SlR.weak {r r2 : V → Option Int → Option Int → Hp → VK → Prop} (h : L2.SlR X r) (w : ∀ x lo hi H Q, r2 x lo hi H Q → r x lo hi H Q) : L2.SlR X r2 := fun pins s σ H x v vl vu lo hi sl Q I rx hs pl pu q => h pins s σ H x v vl vu lo hi sl Q I rx hs pl pu (w _ _ _ _ _ q)
def rSl (r : RSl) (te : RE) (tl th : RO) : RE := fun ex τ M R => te ex τ M fun d M1 => tl ex τ M1 fun lo M2 => th ex τ M2 fun hi M3 => r d lo hi M3 R
theorem be_slice {lo hi : Option Expr} {p2 : Pos} {r : RSl} {tl th : RO} (hr : BSl X r) (he : BE X E e te) (hl : BO X E lo tl) (hu : BO X E hi th) : BE X E (.Subscript e (.Slice lo hi none p2) pos) (rSl r te tl th) := PE.weak (pe_slice hr he hl hu) fun σ H Q ⟨τ, M, Fm, R, ex, w, h, k⟩ => by
  refine ⟨τ, M, Fm, _, ex, w, h, fun v H1 d M1 dv s1 f1 h1 => ⟨τ, M1, Fm, _, ex, w.step s1 f1, h1, fun lo H2 M2 s2 f2 h2 => ⟨τ, M2, Fm, _, ex, (w.step s1 f1).step s2 f2, h2, fun hi H3 M3 s3 f3 h3 => ?_⟩⟩⟩
  exact ⟨d, M3, Fm, R, (dv.mono f2).mono f3, s3, h3, ((k.mono f1).mono f2).mono f3⟩
def cutD (ds : List D) (lo hi : Option Int) : List D := (ds.drop (HT.sIx ds.length 0 lo)).take (HT.sIx ds.length ds.length hi - HT.sIx ds.length 0 lo)
theorem DVs.cut {K : PySem.W.Frag} {L : List Addr} {H : Hp} {vs : List V} {ds : List D} (h : DVs K L H vs ds) (lo hi : Option Int) : DVs K L H (cutV vs lo hi) (cutD ds lo hi) := by
  unfold cutV cutD
  rw [h.length]
  exact (h.drop _).take _
def oSl : RSl := fun d lo hi M R => (∃ ds, LstD d M ds ∧ R (.lst (cutD ds lo hi)) M) ∨ (∃ ds, d = .tup ds ∧ R (.tup (cutD ds lo hi)) M) ∨ ∃ z, d = .str z ∧ Sz z.length ∧ R (.str (cutS z lo hi)) M
theorem cutV_all {vs : List V} {lo hi : Option Int} (h : HT.sIx vs.length 0 lo = 0 ∧ HT.sIx vs.length vs.length hi = vs.length) : cutV vs lo hi = vs := by
  unfold cutV
  rw [h.1, h.2]
  simp
theorem bsl : BSl X oSl := SlR.weak (L2.SlR.or sl_list (L2.SlR.or sl_tupA sl_str)) fun x lo hi H Q ⟨d, M, Fm, R, dx, sr, h, k⟩ => by
  rcases h with ⟨ds, h, r⟩ | ⟨ds, e1, r⟩ | ⟨z, e1, hz, r⟩
  · obtain ⟨a, vs, rfl, hv, hs⟩ := h.ho dx sr
    exact .inl ⟨a, vs, rfl, .of hv, fun p hp => k _ _ _ M (new_lst sr (hs.cut lo hi) hp) (sr.new hp) (fr_new sr hp) r⟩
  · subst e1
    cases dx with
    | tup ht hs =>
      have hc := hs.cut lo hi
      refine .inr (.inl ⟨_, _, rfl, ht.sq, fun q => ?_, fun _ p hp => k _ _ _ M (new_tup sr hc hp) (sr.new hp) (fr_new sr hp) r⟩)
      rw [cutV_all q] at hc
      exact k _ H _ M (.tup ht hc) sr .refl r
  · subst e1
    cases dx
    exact .inr (.inr ⟨z, rfl, hz.line, k _ H _ M (.str _) sr .refl r⟩)
end
end BV
set_option maxHeartbeats 4000000
namespace BV
open PySem PySem.Spec PyProof.Rows L2
/-! ### defs that keep their promise -/
abbrev At_ := Str × Option Str
def startB (n : Nat) (ds : List D) : BSt := ds.map some ++ List.replicate (n - ds.length) none
/-- the def whose object is at f (no exception leaves it) -/
def OkA (P : Program) (w : World) (K : PySem.W.Frag) (mg : Str → Option Value) (base : Heap) (k : Nat) (f : Addr) (ps : List Str) (sp : BSp) : Prop :=
  ∃ fd, FnOk P w K mg base CX0 k f fd ps (liftSp K sp) ∧ Binds K fd ps [] ∧ PySem.W.keepIn K (.ref f) = true ∧ ∃ oc od osl, K.lookup f = some ⟨oc, od, .func fd, osl⟩
/-- the def at at_ -/
abbrev Ok (P : Program) (w : World) (K : PySem.W.Frag) (mg : Str → Option Value) (base : Heap) (k : Nat) (at_ : At_) (ps : List Str) (sp : BSp) : Prop := OkA P w K mg base k (He.fAd K at_) ps sp
theorem Ok.mono {P : Program} {w : World} {K : PySem.W.Frag} {mg : Str → Option Value} {base : Heap} {j k : Nat} {at_ : At_} {ps : List Str} {sp : BSp} (h : Ok P w K mg base j at_ ps sp) (hk : j ≤ k) : Ok P w K mg base k at_ ps sp := by
  obtain ⟨fd, F, b, kp, lk⟩ := h
  exact ⟨fd, F.mono hk, b, kp, lk⟩
/-- a weaker promise -/
theorem Ok.imp {P : Program} {w : World} {K : PySem.W.Frag} {mg : Str → Option Value} {base : Heap} {k : Nat} {at_ : At_} {ps : List Str} {sp sp' : BSp} (h : Ok P w K mg base k at_ ps sp) (hs : ∀ ex ds M R, sp' ex ds M R → sp ex ds M R) : Ok P w K mg base k at_ ps sp' := by
  obtain ⟨fd, F, b, kp, lk⟩ := h
  exact ⟨fd, F.imp fun vs H Q E ⟨ds, M, Fm, R, ex, a1, a2, a3, a4, a5⟩ => ⟨ds, M, Fm, R, ex, a1, a2, a3, hs _ _ _ _ a4, a5⟩, b, kp, lk⟩
theorem start_sg {K : PySem.W.Frag} {L : List Addr} {H : Hp} {N : List Str} {vs : List V} {ds : List D} (h : DVs K L H vs ds) : Sg K L H (start N vs) (startB N.length ds) := by
  have hl := h.length
  refine ⟨by simp [L2.start, startB, hl], fun i d hi => ?_⟩
  unfold startB at hi
  unfold L2.start
  by_cases e : i < ds.length
  · rw [List.getElem?_append_left (by simpa using e), List.getElem?_map] at hi
    cases q : ds[i]? with
    | none =>
      rw [q] at hi
      cases hi
    | some z =>
      rw [q] at hi
      have e2 : z = d := Option.some.inj (Option.some.inj hi)
      subst e2
      obtain ⟨v, hv, dv⟩ := h.get q
      refine ⟨v, ?_, dv⟩
      rw [List.getElem?_append_left (by simp; omega), List.getElem?_map, hv]
      rfl
  · rw [List.getElem?_append_right (by simpa using Nat.le_of_not_lt e)] at hi
    rw [List.getElem?_replicate] at hi
    split at hi
    · cases Option.some.inj hi
    · cases hi
section
variable {P : Program} {w : World} {K : PySem.W.Frag} {mg : Str → Option Value} {base : Heap} {x qual : Str} {params : Arguments} {body : List Stmt} {scope : Scope} {N ps : List Str} {k : Nat} {sp : BSp} {t : RS} {f : Addr}
/-- THE RULE for a def that lets nothing out -/
theorem ok_def (F : ∃ fd, FunD K x qual params body scope [] [] f fd) (S : FnScope N ps scope)
    (hb : ∀ (kV doc pm : Value) (an : Option Addr) (cdv ct : Value) (us : List Value), us.length = ps.length → bindArgs (PySem.W.fnOf x qual params body scope .none kV doc pm an cdv ct) ⟨us, []⟩ = pure (ps.zip us))
    (len : ∀ ex ds M R, sp ex ds M R → ds.length = ps.length)
    (hbody : ∀ (cdv : Value) (A : Around) (outer : List Env) (s : Shared) (H : Hp) (E : XK), Room k (A.deeper (envOfC qual scope s.heap.objs.size f cdv)) → BSs (cxOf CX0 P w K mg base N qual scope f cdv A outer s H E).nox E body t)
    (hpure : ∀ ex ds M R, sp ex ds M R → t { ex := ex, nx := fun _ M' => R .non M', rt := R } (startB N.length ds) M) : OkA P w K mg base (k + 1) f ps sp := by
  obtain ⟨fd, F⟩ := F
  have lk : ∃ oc od osl, K.lookup f = some ⟨oc, od, .func fd, osl⟩ := by
    obtain ⟨oc, od, dV, kV, doc, pm, an, cdv, ct, osl, rfl, lk, _⟩ := F.ex
    exact ⟨oc, od, osl, lk⟩
  refine ⟨fd, ?_, F.bindsN hb, F.kp, lk⟩
  refine F.ok S (fun vs H Q E ⟨ds, M, Fm, R, ex, dv, _, _, h, _⟩ => dv.length.trans (len _ _ _ _ h)) fun cdv A outer s H vs Q E hr ⟨ds, M, Fm, R, ex, dv, sr, xp, h, k⟩ => ?_
  refine ⟨_, (hbody cdv A outer s H E hr).nox, startB N.length ds, M, Fm, { ex := ex, nx := fun _ M' => R .non M', rt := R }, ⟨start_sg dv, sr, xp⟩, hpure _ _ _ _ h, ?_, k, ?_, ?_⟩
  · exact fun σ' H' τ' M' _ sr' f r => k .non H' .non M' .non sr' f r
  · exact fun _ _ _ _ _ _ _ r => r.elim
  · exact fun _ _ _ _ _ _ _ r => r.elim
end
section
variable {X : Cx} {E : XK} {st : Stmt} {rest : List Stmt} {e a b o value tg iter : Expr} {es : List Expr} {pos pos' apos p : Pos} {t u body : RS} {te ta tv : RE} {tc : RT} {tr : RA} {x m : Str} {k : Nat} {ps : List Str} {sp : BSp}
theorem be_call0 (O : Ok X.prog X.w X.K X.mg X.base k (x, none) ps sp) (hr : Room k X.A) (hg : Gl X x) (hm : X.mg x = some (.ref (He.ga X.K x))) (ha : BA X E (e :: es) tr) (hdb : (x == ("__debug__" : Str)) = false := by decide)
    (he : starEach (e :: es) X.env = (false, eval e X.env) :: starEach es X.env := by rfl) (hpl : (backTo pos (starEach es X.env)).any (·.1) = false := by rfl) : BE X E (.Call (.Name x p) (e :: es) [] pos) (rCall0 sp tr) := by
  obtain ⟨fd, F, b, kp, lk⟩ := O
  exact be_callOf0 (pe_call F hr hg hm kp b .nil pass0 ha hdb he hpl)
theorem be_meth0 {c : Cl} (O : Ok X.prog X.w X.K X.mg X.base k (c.nm, some m) ps sp) (hr : Room k X.A) (hc : Cls X.K (ca X.K c)) (hm : Meth X.K (ca X.K c) m (He.ma X.K (ca X.K c) m)) (hl : m ∉ lay c) (he : BE X E o te) (ha : BA X E (e :: es) tr)
    (hst : starEach (e :: es) X.env = (false, eval e X.env) :: starEach es X.env := by rfl) (hpl : (backTo pos (starEach es X.env)).any (·.1) = false := by rfl) {pl : Sem Bool}
    (ht : eval (.Call (.Attribute o m apos) (e :: es) [] pos) X.env = (do
      let ov ← eval o X.env
      standAt apos.atName
      let (f, first) ← holding [ov] (getMethod ov m pl)
      callWith pos f first (backTo pos (starEach (e :: es) X.env)) (backToKw pos (keywordEach [] X.env))) := by rfl) : BE X E (.Call (.Attribute o m apos) (e :: es) [] pos) (rMeth0 c sp te tr) := by
  obtain ⟨fd, F, b, kp, lk⟩ := O
  exact be_methOf0 hl (pe_meth he hc hm F hr b .nil pass0 ha hst hpl ht)
theorem be_meth00 {c : Cl} (O : Ok X.prog X.w X.K X.mg X.base k (c.nm, some m) ps sp) (hr : Room k X.A) (hc : Cls X.K (ca X.K c)) (hm : Meth X.K (ca X.K c) m (He.ma X.K (ca X.K c) m)) (hl : m ∉ lay c) (he : BE X E o te) {pl : Sem Bool}
    (ht : eval (.Call (.Attribute o m apos) [] [] pos) X.env = (do
      let ov ← eval o X.env
      standAt apos.atName
      let (f, first) ← holding [ov] (getMethod ov m pl)
      callWith pos f first (backTo pos (starEach [] X.env)) (backToKw pos (keywordEach [] X.env))) := by rfl) : BE X E (.Call (.Attribute o m apos) [] [] pos) (rMeth0 c sp te rNil) := by
  obtain ⟨fd, F, b, kp, lk⟩ := O
  exact be_meth0Of0 hl (pe_meth0 he hc hm F hr b .nil pass0 ht)
theorem be_make0 {c : Cl} (O : Ok X.prog X.w X.K X.mg X.base k (c.nm, some "__init__") ps sp) (hr : Room (k + 1) X.A) (hk : Mk X.K (ca X.K c) (He.ma X.K (ca X.K c) "__init__")) (hx : c.nm = x) (hg : Gl X x) (hm : X.mg x = some (.ref (He.ga X.K x))) (ha : BA X E (e :: es) tr) (hdb : (x == ("__debug__" : Str)) = false := by decide)
    (he : starEach (e :: es) X.env = (false, eval e X.env) :: starEach es X.env := by rfl) (hpl : (backTo pos (starEach es X.env)).any (·.1) = false := by rfl) : BE X E (.Call (.Name x p) (e :: es) [] pos) (rMake0 c sp tr) := by
  obtain ⟨fd, F, b, kp, lk⟩ := O
  subst hx
  exact be_makeOf0 (pe_make hk F hr hg hm b .nil pass0 ha hdb he hpl)
end
end BV
set_option maxHeartbeats 4000000
/-! enumerate of a tuple, for the layer -/
namespace PySem
open Sem (wp)
set_option maxHeartbeats 1000000 in
theorem bvMeetsEnum {v : Value} {o : Obj} {H : Heap → Prop} (bg : Begins v o H) :
    Meets (Builtin.«enumerate.__new__» ⟨[.type "enumerate", v], []⟩) (fun _ R s => H s.heap ∧
      R (.ok (.ret (.ref (s.heap.push o).objs.size))) { s with heap := (s.heap.push o).push { cls := .type "enumerate", data := .fields #[.none, .bool false, .ref s.heap.objs.size, rawInt 0, .none, .none] } }) :=
  .of_wp fun prog w A R st hh => by
    obtain ⟨hp, gg, dd, tk, os⟩ := st
    obtain ⟨hv, hh⟩ := hh
    have hsub := sub_enumerate
    have qi : ∀ {A' : Around} {E : Value → Shared → Prop} {Q : Value → Shared → Prop}, Q (.ref hp.objs.size) ⟨hp.push o, gg, dd, tk, os⟩ → wpAny (model prog w) A' (pyIter v) Q E ⟨hp, gg, dd, tk, os⟩ :=
      fun q => bg.iter prog w _ _ ⟨hp, gg, dd, tk, os⟩ _ hv q
    wp_walk using qi
    refine wpAny_stack_any fun st => wpAny_pure ?_
    split
    · rename_i c _ _ _ _ _
      cases (c == Value.type "enumerate") <;> (wp_walk using qi; exact ⟨_, rfl, hh⟩)
    · wp_walk using qi
      exact ⟨_, rfl, hh⟩
end PySem
set_option maxHeartbeats 4000000
namespace PySem
theorem bvCallEnum {prog : Program} {w : World} {A : Around} {E : Value → Shared → Prop} {s : Shared} {v : Value} {o : Obj} {H : Heap → Prop} {Q : Value → Shared → Prop} (bg : Begins v o H) (h1 : H s.heap)
    (hq : ∀ g, IsEnum g (s.heap.objs.size + 1) s.heap.objs.size 0 .none → g.get? s.heap.objs.size = some o → (∀ b u, s.heap.get? b = some u → g.get? b = some u) → Q (.ref (s.heap.objs.size + 1)) { s with heap := g }) :
    wpAny (model prog w) A (call (.type "enumerate") [v]) Q E s := by
  refine callType_new F.called_enumerate (by decide) (F.typeCall_enumerate_1 _) (F.newCall_enumerate_1 _) (fun obj => F.args_object_init_2 obj _) F.entry_enumerate_new (bvMeetsEnum bg) ⟨h1, ?_⟩
  have hz : (s.heap.push o).objs.size = s.heap.objs.size + 1 := Heap.size_push ..
  show _ ∧ _
  rw [hz]
  have he : IsEnum ((s.heap.push o).push { cls := .type "enumerate", data := .fields #[.none, .bool false, .ref s.heap.objs.size, rawInt 0, .none, .none] }) (s.heap.objs.size + 1) s.heap.objs.size 0 .none := by
    have q := Heap.get?_push_size (s.heap.push o) (o := { cls := .type "enumerate", data := .fields #[.none, .bool false, .ref s.heap.objs.size, rawInt 0, .none, .none] }) rfl
    rw [hz] at q
    exact q
  exact ⟨⟨_, he, rfl⟩, hq _ he (Heap.get?_push_of_some _ (Heap.get?_push_size _ bg.free)) fun b u x => Heap.get?_push_of_some _ (Heap.get?_push_of_some _ x)⟩
end PySem
namespace BV
open PySem PySem.Spec PyProof.Rows L2
/-- the tuple at a, counted -/
def ItT (K : PySem.W.Frag) (a : Addr) : It :=
  ⟨fun i H => ∃ (xs : List V) (x : V), SqT K H a xs ∧ xs[i]? = some x, fun i H v G => ∃ T x, v = .ref T ∧ H T = none ∧ G = upd H T (.tup [.int (i : Nat), x]) ∧ ∀ xs, SqT K H a xs → xs[i]? = some x, fun i H => ∃ xs : List V, SqT K H a xs ∧ xs.length = i⟩
theorem tup_ne {h : Heap} {e t it : Addr} {i : Int} {old : Value} {items : Array Value} (he : IsEnum h e it i old) (ht : IsTup h t items) : e ≠ t := fun q => by
  obtain ⟨o, h1, h2, _⟩ := ht
  have he2 : h.get? e = _ := he
  rw [q, h1] at he2
  rw [Option.some.inj he2] at h2
  simp at h2
theorem turnT {P : Program} {w : World} {K : PySem.W.Frag} {elts : List Expr} {kk : Nat} {tpos : Pos} (a e it : Addr) :
    Turn P w K (.Tuple elts kk tpos) (ItT K a) [e, it] e (fun i h => (∃ old, IsEnum h e it ((i : Nat) : Int) old) ∧ h.IsTupleIter it a i ∧ e ≠ it) where
  mem := by simp
  obj := fun i h st b hb => by
    obtain ⟨⟨old, he⟩, ⟨o, ho, _, hd⟩, _⟩ := st
    have q : b = e ∨ b = it := by simpa using hb
    rcases q with q | q <;> rw [q]
    · exact ⟨_, he, fun v z => nomatch z⟩
    · exact ⟨o, ho, fun v z => by rw [hd] at z; cases z⟩
  keep := fun i h h' st k => let ⟨⟨old, he⟩, hi, ne⟩ := st; ⟨⟨old, k e (by simp) _ he⟩, hi.at fun o q => k it (by simp) o q, ne⟩
  item := by
    intro X h1 h2 h3 hc i pins s σ H E I hf st hg
    subst h1 h2 h3
    obtain ⟨⟨old, he⟩, hit, hne⟩ := st
    obtain ⟨xs, x, hq, hx⟩ := hg
    obtain ⟨its, rv, pt, hz⟩ := I.tuple hq
    obtain ⟨u, hu, ru⟩ := rv.get hx
    have hea : e ≠ a := tup_ne he pt
    have hel : e < s.heap.objs.size := Heap.lt_size he
    have hil : it < s.heap.objs.size := by
      obtain ⟨_, q, _⟩ := hit
      exact Heap.lt_size q
    have hta : a ≠ it := fun q => by
      obtain ⟨o, g1, g2, _⟩ := pt
      obtain ⟨o2, g3, g4, _⟩ := hit
      rw [q, g3] at g1
      rw [← Option.some.inj g1, g4] at g2
      simp at g2
    have dr := Draws.tuple (prog := X.prog) (w := X.w) (A := X.A.in1) (I.ok.hd hc) it a hta its.toArray
    have hlt : i < its.toArray.size := by
      have := (List.getElem?_eq_some_iff.mp hu).1
      simpa using this
    refine wpAny_pyNext_enum_itemD dr he ⟨hit, pt⟩ hlt hne (by simp [hne, hea]) fun y h' tk hy ho hs2 hT hsz hk => ?_
    have ey : y = u := by
      have q : its[i]? = some y := by simpa using hy
      rw [hu] at q
      exact (Option.some.inj q).symm
    subst ey
    refine ⟨_, rfl, wpAny_letOwnedTupleGo_enum (s := { s with heap := h', toks := tk + 1 }) ho fun h'' he' sb => ?_⟩
    have hT2 : h''.get? s.heap.objs.size = some { cls := .type "tuple", data := .seq #[.int i tk, y] } := (sb.2 _ (Nat.ne_of_gt hel)).trans hT
    have nw : ObjOk X.prog X.w (upd H s.heap.objs.size (.tup [.int (i : Nat), x])) h'' s.heap.objs.size (.tup [.int (i : Nat), x]) :=
      ⟨by show 2 ≤ sizeLine; decide, [.int i tk, y], .cons ⟨_, rfl⟩ (.cons ru .nil), ⟨_, hT2, rfl, _, rfl⟩⟩
    have J : Inv X pins σ (upd H s.heap.objs.size (.tup [.int (i : Nat), x])) { s with heap := h'', toks := tk + 1 } :=
      I.turnedNew (ch := [e, it]) (fun b ob hb q => (sb.2 b fun z => hb (by simp [z])).trans (hk b ob (fun z => hb (by simp [z])) (fun z => hb (by simp [z])) q)) hf (Nat.le_refl _) nw
    refine ⟨.ref s.heap.objs.size, _, J, rfl, ⟨_, x, rfl, I.hok.fresh (Nat.le_refl _), rfl, fun ys hy => by rw [I.tuple_inj hy hq]; exact hx⟩, ⟨⟨y, ?_⟩, hs2.1.at fun o q => (sb.2 it (Ne.symm hne)).trans q, hne⟩, fun b hb => ?_⟩
    · rw [show ((i + 1 : Nat) : Int) = (i : Int) + 1 by omega]
      exact he'
    · have hb2 : b < s.heap.objs.size := by
        have q : b = e ∨ b = it := by simpa using hb
        rcases q with q | q <;> rw [q]
        · exact hel
        · exact hil
      rw [upd_ne (Nat.ne_of_lt hb2)]
      exact (hf b hb).1
  done := by
    intro X h1 h2 h3 hc i pins s σ H E I hf st hg
    subst h1 h2 h3
    obtain ⟨⟨old, he⟩, hit, hne⟩ := st
    obtain ⟨xs, hq, hx⟩ := hg
    obtain ⟨its, rv, pt, hz⟩ := I.tuple hq
    obtain ⟨f0, f1, f2, f3, f4, f5⟩ := hf it (by simp)
    have hl := rv.length
    have hta : a ≠ it := fun q => by
      obtain ⟨o, g1, g2, _⟩ := pt
      obtain ⟨o2, g3, g4, _⟩ := hit
      rw [q, g3] at g1
      rw [← Option.some.inj g1, g4] at g2
      simp at g2
    have dr := Draws.tuple (prog := X.prog) (w := X.w) (A := X.A.in1) (I.ok.hd hc) it a hta its.toArray
    have en : its.toArray.size = i := by simp; omega
    refine wpAny_pyNext_enum_endD dr he (by rw [en]; exact ⟨hit, pt⟩) fun h' xb => ⟨rfl, I.turned (t' := s.toks) (fun b o hb q => ?_) f0 f1 f3 f4 f5⟩
    exact xb b o hb q
  self := fun A i s Q E st h => let ⟨⟨_, he⟩, _⟩ := st; wpAny_pyIter_enum he h
def iEnT (K : PySem.W.Frag) (ta : TA) : TI := fun σ H R => ta σ H fun vs H1 => ∃ a xs, vs = [.ref a] ∧ SqT K H1 a xs ∧ R (ItT K a) H1
theorem pi_enumT {X : Cx} {e : Expr} {ta : TA} {p pos tpos : Pos} {elts : List Expr} {kk : Nat} (hg : Gl X "enumerate") (hm : X.mg "enumerate" = none) (ha : PA X [e] ta) (hs : starEach [e] X.env = [(false, eval e X.env)] := by rfl) :
    PI X (.Tuple elts kk tpos) (.Call (.Name "enumerate" p) [e] [] pos) (iEnT X.K ta) := by
  refine ⟨fun pins s σ H R I h => ?_⟩
  refine Call_ (ld_blt I hg hm boot_enumerate (PyProof.Rows.callWith_type1 (thn (ha.run pos pins s σ H _ I h) fun us s1 ⟨vs, H1, I1, r1, a, xs, ex, hq, q⟩ => ?_) hs rfl))
  subst ex
  cases r1 with
  | cons r rr =>
    cases rr
    cases r
    obtain ⟨its, rv, pt, hz⟩ := I1.tuple hq
    refine bvCallEnum (begins_tuple a its.toArray) pt fun g he ho hk => wpAny_pyIter_enum he ?_
    have I2 : Inv X pins σ H1 { s1 with heap := g } := I1.kept (t' := s1.toks) hk
    refine ⟨s1.heap.objs.size + 1, [s1.heap.objs.size + 1, s1.heap.objs.size], _, _, H1, rfl, I2, turnT a (s1.heap.objs.size + 1) s1.heap.objs.size, ⟨⟨.none, he⟩, ⟨_, ho, rfl, rfl⟩, Nat.succ_ne_self _⟩, fun b hb => ?_, q⟩
    have hle : s1.heap.objs.size ≤ b := by
      have z : b = s1.heap.objs.size + 1 ∨ b = s1.heap.objs.size := by simpa using hb
      rcases z with z | z <;> rw [z]
      · exact Nat.le_add_right _ _
      · exact Nat.le_refl _
    exact I1.fpOk hle (I1.hok.fresh hle)
/-- items with their places -/
def enumD : Nat → List D → List D
  | _, [] => []
  | i, d :: ds => .tup [.int (i : Nat), d] :: enumD (i + 1) ds
theorem enumD_len : ∀ {ds : List D} {i : Nat}, (enumD i ds).length = ds.length
  | [], _ => rfl
  | _ :: ds, i => congrArg (· + 1) (enumD_len (ds := ds) (i := i + 1))
theorem enumD_get : ∀ {ds : List D} {i j : Nat} {d : D}, ds[j]? = some d → (enumD i ds)[j]? = some (.tup [.int ((i + j : Nat) : Int), d])
  | [], _, _, _, h => by simp at h
  | z :: ds, i, 0, d, h => by
    have e : z = d := by simpa using h
    subst e
    rfl
  | z :: ds, i, j + 1, d, h => by
    have h1 : ds[j]? = some d := by simpa using h
    have q := enumD_get (i := i + 1) h1
    rw [show i + (j + 1) = i + 1 + j by omega]
    simpa [enumD] using q
def iEnumT (tr : RA) : RI := fun ex τ M R => tr ex τ M fun ds M1 => ∃ es, ds = [.tup es] ∧ R (enumD 0 es) M1
def iEnumL (tr : RA) : RI := fun ex τ M R => tr ex τ M fun ds M1 => ∃ es, ds = [.lst es] ∧ R (enumD 0 es) M1
theorem its_enumT {K : PySem.W.Frag} {H : Hp} {L : List Addr} {a : Addr} {vs : List V} {ds : List D} (h : TAt K L H a vs) (hs : DVs K L H vs ds) : Its K H L GT (ItT K a) (enumD 0 ds) := fun H1 M1 F1 s1 f _ => by
  have h1 := (h.mono f).sq
  have hs1 := hs.mono f
  have hl := hs.length
  rw [enumD_len]
  refine ⟨fun i hi => ⟨vs, vs[i]'(by omega), h1, List.getElem?_eq_getElem _⟩, ⟨vs, h1, by omega⟩, fun i x H2 hi hx => ?_⟩
  obtain ⟨T, y, rfl, hT, rfl, hy⟩ := hx
  obtain ⟨d, hd, dv⟩ := hs1.getV (hy vs h1)
  have q := enumD_get (i := 0) hd
  rw [Nat.zero_add] at q
  exact ⟨_, q, .tup (.inl ⟨s1.fresh hT, upd_same⟩) (.cons (.int _) (.cons (dv.mono (fr_new s1 hT)) .nil)), fr_new s1 hT, s1.new hT⟩
theorem its_enumL {K : PySem.W.Frag} {H : Hp} {L : List Addr} {a : Addr} {vs : List V} {ds : List D} (h : LAt L H a vs) (hs : DVs K L H vs ds) : Its K H L GT (Ite K a) (enumD 0 ds) := fun H1 M1 F1 s1 f _ => by
  have h1 : SqL K H1 a vs := (h.mono f).sq
  have hs1 := hs.mono f
  have hl := hs.length
  rw [enumD_len]
  refine ⟨fun i hi => ⟨vs, vs[i]'(by omega), h1, List.getElem?_eq_getElem _⟩, ⟨vs, h1, by omega⟩, fun i x H2 hi hx => ?_⟩
  obtain ⟨T, y, rfl, hT, rfl, hy⟩ := hx
  obtain ⟨d, hd, dv⟩ := hs1.getV (hy vs h1)
  have q := enumD_get (i := 0) hd
  rw [Nat.zero_add] at q
  exact ⟨_, q, .tup (.inl ⟨s1.fresh hT, upd_same⟩) (.cons (.int _) (.cons (dv.mono (fr_new s1 hT)) .nil)), fr_new s1 hT, s1.new hT⟩
section
variable {X : Cx} {E : XK} {e tg : Expr} {tr : RA}
theorem bi_enumTOf (h : PI X tg e (iEnT X.K (liftA X.K E tr))) : BI X E tg e (iEnumT tr) := PI.weak h fun σ H R ⟨τ, M, Fm, Rb, ex, w, h, k⟩ => by
  refine ⟨τ, M, Fm, _, ex, w, h, fun vs H1 ds M1 dv s1 f1 ⟨es, e1, r⟩ => ?_⟩
  subst e1
  obtain ⟨v, rfl, dz⟩ := dvs1 dv
  cases dz with
  | tup ht hs => exact ⟨_, _, rfl, ht.sq, k _ H1 _ M1 s1 f1 (its_enumT ht hs) r⟩
theorem bi_enumLOf (h : PI X tg e (iEnum X.K (liftA X.K E tr))) : BI X E tg e (iEnumL tr) := PI.weak h fun σ H R ⟨τ, M, Fm, Rb, ex, w, h, k⟩ => by
  refine ⟨τ, M, Fm, _, ex, w, h, fun vs H1 ds M1 dv s1 f1 ⟨es, e1, r⟩ => ?_⟩
  subst e1
  obtain ⟨v, rfl, dz⟩ := dvs1 dv
  cases dz with
  | lst ht hs => exact ⟨_, _, rfl, .of ht.2, k _ H1 _ M1 s1 f1 (its_enumL ht hs) r⟩
/-- a is None or .., by truth -/
def truD : D → Option Bool
  | .non => some false
  | .bl b => some b
  | .int i => some (i != 0)
  | .tup ds => some (!ds.isEmpty)
  | .lst ds => some (!ds.isEmpty)
  | _ => none
def rOrT (ta tb : RE) : RE := fun ex τ M R => ta ex τ M fun d M1 => ∃ k, truD d = some k ∧ if k = true then R d M1 else tb ex τ M1 R
theorem isEmpty_dvs {K : PySem.W.Frag} {L : List Addr} {H : Hp} {vs : List V} {ds : List D} (h : DVs K L H vs ds) : vs.isEmpty = ds.isEmpty := by cases h <;> rfl
theorem tru_v {K : PySem.W.Frag} {L : List Addr} {H : Hp} {v : V} {d : D} {k : Bool} (dv : DV K L H v d) (h : truD d = some k) : TruV K v H k := by
  cases dv with
  | non => exact (Option.some.inj h).symm
  | bl b => exact (Option.some.inj h).symm
  | int i => exact (Option.some.inj h).symm
  | tup ht hs => exact .inr (.inl ⟨_, ht.sq, by rw [isEmpty_dvs hs]; exact (Option.some.inj h).symm⟩)
  | lst ht hs => exact .inl ⟨_, .of ht.2, by rw [isEmpty_dvs hs]; exact (Option.some.inj h).symm⟩
  | _ => cases h
theorem be_orTOf {ta tb : RE} (h : PE X e (L2.tOrT X.K (liftE X.K E ta) (liftE X.K E tb))) : BE X E e (rOrT ta tb) := PE.weak h fun σ H Q ⟨τ, M, Fm, R, ex, w, h, k⟩ => by
  refine ⟨τ, M, Fm, _, ex, w, h, fun v H1 d M1 dv s1 f1 ⟨c, hc, h1⟩ => ⟨c, tru_v dv hc, ?_⟩⟩
  cases c with
  | true => exact k v H1 d M1 dv s1 f1 h1
  | false => exact ⟨τ, M1, Fm, R, ex, w.step s1 f1, h1, k.mono f1⟩
/-- a < b < c -/
def rChain (r r' : R2B) (ta tb tc : RE) : RE := fun ex τ M R => ta ex τ M fun d M1 => tb ex τ M1 fun e M2 => r d e M2 fun z M3 => ∃ k, z = .bl k ∧ if k = true then tc ex τ M3 fun f M4 => r' e f M4 R else R (.bl false) M3
theorem chain_lift {r r' : R2B} {ta tb tc : RE} {σ : L2.St} {H : Hp} {Q : VK} (h : liftE X.K E (rChain r r' ta tb tc) σ H Q) : tChain (lift2 X.K r) (lift2 X.K r') (liftE X.K E ta) (liftE X.K E tb) (liftE X.K E tc) σ H Q := by
  obtain ⟨τ, M, Fm, R, ex, w, h, k⟩ := h
  refine ⟨τ, M, Fm, _, ex, w, h, fun v H1 d M1 dv s1 f1 h1 => ⟨τ, M1, Fm, _, ex, w.step s1 f1, h1, fun u H2 e M2 du s2 f2 h2 => ⟨d, e, M2, Fm, _, dv.mono f2, du, s2, h2, fun z H3 dz M3 hz s3 f3 ⟨c, e1, h3⟩ => ?_⟩⟩⟩
  subst e1
  cases hz
  refine ⟨c, rfl, ?_⟩
  cases c with
  | true =>
    exact ⟨τ, M3, Fm, _, ex, ((w.step s1 f1).step s2 f2).step s3 f3, h3, fun y H4 f M4 dy s4 f4 h4 => ⟨e, f, M4, Fm, R, (du.mono f3).mono f4, dy, s4, h4, (((k.mono f1).mono f2).mono f3).mono f4⟩⟩
  | false => exact k _ H3 _ M3 (.bl _) s3 ((f1.trans f2).trans f3) h3
theorem be_chainOf {r r' : R2B} {ta tb tc : RE} (h : PE X e (tChain (lift2 X.K r) (lift2 X.K r') (liftE X.K E ta) (liftE X.K E tb) (liftE X.K E tc))) : BE X E e (rChain r r' ta tb tc) := PE.weak h fun _ _ _ q => chain_lift q
theorem bt_chainOf {r r' : R2B} {ta tb tc : RE} (h : PT X e (tTest (tChain (lift2 X.K r) (lift2 X.K r') (liftE X.K E ta) (liftE X.K E tb) (liftE X.K E tc)))) : BT X E e (rTst (rChain r r' ta tb tc)) := PT.weak h fun σ H Q ⟨τ, M, Fm, R, ex, w, h, k⟩ => by
  refine chain_lift ⟨τ, M, Fm, _, ex, w, h, fun v H1 d M1 dv s1 f1 ⟨b, e1, r⟩ => ?_⟩
  subst e1
  cases dv
  exact ⟨b, rfl, k b H1 M1 s1 f1 r⟩
/-- -a -/
def rNeg (ta : RE) : RE := fun ex τ M R => ta ex τ M fun d M1 => ∃ i, d = .int i ∧ R (.int (-i)) M1
theorem be_neg {a : Expr} {pos : Pos} {ta : RE} (ha : BE X E a ta) : BE X E (.UnaryOp .USub a pos) (rNeg ta) := PE.weak (pe_un un_neg ha) fun σ H Q ⟨τ, M, Fm, R, ex, w, h, k⟩ => by
  refine ⟨τ, M, Fm, _, ex, w, h, fun v H1 d M1 dv s1 f1 ⟨i, e1, r⟩ => ?_⟩
  subst e1
  cases dv
  exact ⟨i, rfl, k _ H1 _ M1 (.int _) s1 f1 r⟩
/-- x += e -/
def sAug (i : Nat) (te : RE) (r : R2B) : RS := fun B τ M => ∃ d, τ[i]? = some (some d) ∧ te B.ex τ M fun e M1 => r d e M1 fun z M2 => B.nx (τ.set i (some z)) M2
theorem bs_augOf {st : Stmt} {i : Nat} {te : RE} {r : R2B} (h : PS X st (tAug i (liftE X.K E te) (lift2 X.K r))) : BS X E st (sAug i te r) := PS.weak h fun Dn σ H ⟨τ, M, Fm, B, w, ⟨d, hd, h⟩, kn, kr, kb, kc⟩ => by
  obtain ⟨v, hv, dv⟩ := w.sg.2 i d hd
  refine ⟨v, hv, τ, M, Fm, _, _, w, h, fun y H1 e M1 dy s1 f1 h1 => ⟨d, e, M1, Fm, _, dv.mono f1, dy, s1, h1, fun z H2 dz M2 hz s2 f2 r => ?_⟩⟩
  exact kn _ H2 _ M2 (((w.sg.mono f1).mono f2).set hz) s2 (f1.trans f2) r
theorem inop_add : InOp X .Add (lift2i X.K oAdd) := fun pins s σ H x y u v Q I rx ry ⟨d, e, M, Fm, R, dx, dy, sr, ⟨i, j, e1, e2, _, r⟩, k⟩ => by
  subst e1 e2
  cases dx
  cases dy
  exact in_add pins s σ H _ _ u v Q I rx ry ⟨i, j, rfl, rfl, k _ H _ M (.int _) sr .refl r⟩
theorem ipop_add : PIp X .Add (lift2 X.K oAdd) := fun pins s σ H x y u v Q I rx ry ⟨d, e, M, Fm, R, dx, dy, sr, ⟨i, j, e1, e2, _, r⟩, k⟩ => by
  subst e1 e2
  cases dx
  cases dy
  exact ip_add pins s σ H _ _ u v Q I rx ry ⟨i, j, rfl, rfl, k _ H _ M (.int _) sr .refl r⟩
/-- three names at once -/
def sPar3 (i j l : Nat) (ta : RA) : RS := fun B τ M => ta B.ex τ M fun ds M1 => ∃ d e f, ds = [d, e, f] ∧ B.nx (((τ.set i (some d)).set j (some e)).set l (some f)) M1
theorem bs_par3Of {st : Stmt} {i j l : Nat} {ta : RA} (h : PS X st (fun Dn σ H => (liftA X.K E ta) σ H fun vs H1 => ∃ u v w, vs = [u, v, w] ∧ Dn.nx (((σ.set i (some u)).set j (some v)).set l (some w)) H1)) : BS X E st (sPar3 i j l ta) := PS.weak h fun Dn σ H ⟨τ, M, Fm, B, w, h, kn, kr, kb, kc⟩ => by
  refine ⟨τ, M, Fm, _, _, w, h, fun vs H1 ds M1 dv sr f ⟨d, e, g, eq, h1⟩ => ?_⟩
  subst eq
  cases dv with
  | cons dv dvs =>
    obtain ⟨v2, v3, rfl, d2, d3⟩ := dvs2 dvs
    exact ⟨_, _, _, rfl, kn _ H1 _ M1 ((((w.sg.mono f).set dv).set d2).set d3) sr f h1⟩
end
end BV
set_option maxHeartbeats 4000000
namespace BV
open PySem
/-! ### stepping through a reading -/
theorem hu65 {A : Around} {k : Nat} (h : L2.Room k A) : A.units + 65 < cLine := by have := h.un; omega
section
variable {ex : BX} {τ : BSt} {M : Mm} {R : BQ} {B : BEnds} {ta tb tc te : RE} {t u : RS} {ct cu : RT} {r : R2B} {d e : D} {i : Nat} {tr : RA} {RA' : List D → Mm → Prop} {RT' : Bool → Mm → Prop}
theorem q_seq (h : t { B with nx := fun τ M => CvS τ M (u B) } τ M) : sSeq t u B τ M := h
theorem q_go {P : BSt → Mm → Prop} (h : P τ M) : CvS τ M P := .go h
theorem q_goV (h : R d M) : CvV d M R := .go h
theorem q_var (h : τ[i]? = some (some d)) (k : R d M) : rVar i ex τ M R := ⟨d, h, k⟩
theorem q_c (k : R d M) : rC d ex τ M R := k
theorem q_op (k : ta ex τ M fun d M1 => tb ex τ M1 fun e M2 => r d e M2 R) : rOp r ta tb ex τ M R := k
theorem q_if (k : ct B.ex τ M fun b M1 => if b = true then t B τ M1 else u B τ M1) : sIf ct t u B τ M := k
theorem q_ifE (k : ct ex τ M fun c M1 => if c = true then ta ex τ M1 R else tb ex τ M1 R) : rIf ct ta tb ex τ M R := k
theorem q_tst (k : te ex τ M fun d M1 => ∃ b, d = .bl b ∧ RT' b M1) : rTst te ex τ M RT' := k
theorem q_bl {b : Bool} {P : Bool → Prop} (k : P b) : ∃ c, D.bl b = .bl c ∧ P c := ⟨b, rfl, k⟩
theorem q_not (k : ct ex τ M fun c M1 => RT' (!c) M1) : rNot ct ex τ M RT' := k
theorem q_and (k : ct ex τ M fun c M1 => if c = true then cu ex τ M1 RT' else RT' false M1) : rAnd ct cu ex τ M RT' := k
theorem q_or (k : ct ex τ M fun c M1 => if c = true then RT' true M1 else cu ex τ M1 RT') : rOr ct cu ex τ M RT' := k
theorem q_andV (k : ta ex τ M fun d M1 => ∃ c, d = .bl c ∧ if c = true then tb ex τ M1 R else R (.bl false) M1) : rAndV ta tb ex τ M R := k
theorem q_orV (k : ta ex τ M fun d M1 => ∃ c, d = .bl c ∧ if c = true then R (.bl true) M1 else tb ex τ M1 R) : rOrV ta tb ex τ M R := k
theorem q_notV (k : ta ex τ M fun d M1 => ∃ c, d = .bl c ∧ R (.bl (!c)) M1) : rNotV ta ex τ M R := k
theorem q_iteT {c : Bool} {A B : Prop} (h : c = true) (k : A) : if c = true then A else B := by rw [if_pos h]; exact k
theorem q_iteF {c : Bool} {A B : Prop} (h : c = false) (k : B) : if c = true then A else B := by rw [h, if_neg Bool.false_ne_true]; exact k
theorem q_ite {c : Bool} {A B : Prop} (h1 : c = true → A) (h2 : c = false → B) : if c = true then A else B := by
  cases c with
  | true => exact h1 rfl
  | false => exact h2 rfl
theorem q_iteD {p : Prop} [Decidable p] {A B : Prop} (h1 : p → A) (h2 : ¬ p → B) : if decide p = true then A else B := by
  by_cases h : p
  · rw [decide_eq_true h, if_pos rfl]; exact h1 h
  · rw [decide_eq_false h, if_neg Bool.false_ne_true]; exact h2 h
theorem q_iteND {p : Prop} [Decidable p] {A B : Prop} (h1 : ¬ p → A) (h2 : p → B) : if (!decide p) = true then A else B := by
  by_cases h : p
  · rw [decide_eq_true h, Bool.not_true, if_neg Bool.false_ne_true]; exact h2 h
  · rw [decide_eq_false h, Bool.not_false, if_pos rfl]; exact h1 h
theorem q_drop (k : te B.ex τ M fun _ M1 => B.nx τ M1) : sDrop te B τ M := k
theorem q_ret (k : te B.ex τ M fun d M1 => CvV d M1 B.rt) : sRet te B τ M := k
theorem q_retN (k : B.rt .non M) : sRetN B τ M := k
theorem q_skip (k : B.nx τ M) : sSkip B τ M := k
theorem q_asg {g : RG} (k : te B.ex τ M fun d M1 => g B.ex d τ M1 B.nx) : sAsg te g B τ M := k
theorem q_gN {Q : BSt → Mm → Prop} (k : Q (τ.set i (some d)) M) : gN i ex d τ M Q := k
theorem q_nil (k : RA' [] M) : rNil ex τ M RA' := k
theorem q_cons (k : ta ex τ M fun d M1 => tr ex τ M1 fun ds M2 => RA' (d :: ds) M2) : rCons ta tr ex τ M RA' := k
theorem q_tup (k : tr ex τ M fun ds M1 => Sz ds.length ∧ R (.tup ds) M1) : rTup tr ex τ M R := k
theorem q_lstV (k : tr ex τ M fun ds M1 => Sz ds.length ∧ R (.lst ds) M1) : rLstV tr ex τ M R := k
theorem q_lstO (k : tr ex τ M fun ds M1 => Sz ds.length ∧ ∀ p, R (.ref p) ((p, .lst ds) :: M1)) : rLstO tr ex τ M R := k
theorem q_fld {c : Cl} (k : te ex τ M fun d M1 => FGet c i d M1 fun v => R v M1) : rFld c i te ex τ M R := k
theorem q_fldR {c : Cl} {a : Addr} {ds : List D} {k : MO → Mm} {v : D} {P : D → Prop} (h : At M a (.ins c ds) k) (hv : ds[i]? = some v) (kk : P v) : FGet c i (.ref a) M P := ⟨v, .inl ⟨a, ds, k, rfl, h, hv⟩, kk⟩
theorem q_fldV {c : Cl} {ds : List D} {v : D} {P : D → Prop} (hv : ds[i]? = some v) (kk : P v) : FGet c i (.ins c ds) M P := ⟨v, .inr ⟨ds, rfl, hv⟩, kk⟩
theorem q_gFld {c : Cl} {Q : BSt → Mm → Prop} (k : te ex τ M fun d1 M1 => FPut c i d1 d M1 fun M2 => Q τ M2) : gFld c i te ex d τ M Q := k
theorem q_put {c : Cl} {a : Addr} {ds es : List D} {v : D} {k : MO → Mm} {P : Mm → Prop} (h : At M a (.ins c ds) k) (hl : Nat.ble i ds.length = true) (he : putI i v ds = es) (kk : P (k (.ins c es))) : FPut c i (.ref a) v M P := by
  subst he
  exact ⟨a, ds, k, rfl, h, Nat.le_of_ble_eq_true hl, kk⟩
theorem q_aug {c : Cl} (k : ta B.ex τ M fun d M1 => (∃ a, d = .ref a) ∧ FGet c i d M1 fun v => te B.ex τ M1 fun y M2 => r v y M2 fun z M3 => FPut c i d z M3 fun M4 => B.nx τ M4) : sFldAug c i ta te r B τ M := k
theorem q_isRef {a : Addr} {P : Prop} (k : P) : (∃ b, D.ref a = .ref b) ∧ P := ⟨⟨a, rfl⟩, k⟩
theorem q_bm {T : String} {rm : RM} (k : te ex τ M fun d M1 => Tp M1 d T ∧ tr ex τ M1 fun ds M2 => rm d ds M2 R) : rBM T rm te tr ex τ M R := k
theorem q_own {a : Addr} {ds : List D} {k : MO → Mm} {P : Prop} (h : At M a (.lst ds) k) (kk : P) : Tp M (.ref a) "list" ∧ P := ⟨.own h, kk⟩
theorem q_append {a : Addr} {es : List D} {z : D} {k : MO → Mm} (h : At M a (.lst es) k) (hz : Sz es.length) (kk : R .non (k (.lst (es ++ [z])))) : mAppend (.ref a) [z] M R := ⟨a, es, z, k, rfl, rfl, h, hz, kk⟩
theorem deq_str {a b : Str} : deq (.str a) (.str b) = decide (a = b) := by
  unfold deq toP PyData.eqv
  exact Bool.beq_eq_decide_eq a b
theorem deq_bl {a b : Bool} : deq (.bl a) (.bl b) = (a == b) := by unfold deq toP PyData.eqv; rfl
theorem deq_int {a b : Int} : deq (.int a) (.int b) = decide (a = b) := by
  unfold deq toP PyData.eqv
  exact Bool.beq_eq_decide_eq a b
def sok (a : Str) : Prop := PyData.strOk a = true
theorem pd_str {n : Nat} {a : Str} (h : sok a) : pd n (.str a) = true := by
  cases n <;> (unfold pd; exact h)
theorem pd_int {n : Nat} {a : Int} : pd n (.int a) = true := by cases n <;> rfl
theorem pd_bl {n : Nat} {a : Bool} : pd n (.bl a) = true := by cases n <;> rfl
theorem q_eqS {a b : Str} (ha : sok a) (hb : sok b) (k : R (.bl (decide (a = b))) M) : oEq (.str a) (.str b) M R := ⟨_, _, .inr rfl, .inr rfl, pd_str ha, pd_str hb, by rw [deq_str]; exact k⟩
theorem q_neS {a b : Str} (ha : sok a) (hb : sok b) (k : R (.bl (!decide (a = b))) M) : oNe (.str a) (.str b) M R := ⟨_, _, .inr rfl, .inr rfl, pd_str ha, pd_str hb, by rw [deq_str]; exact k⟩
theorem q_eqB {a b : Bool} (k : R (.bl (a == b)) M) : oEq (.bl a) (.bl b) M R := ⟨_, _, .inr rfl, .inr rfl, pd_bl, pd_bl, by rw [deq_bl]; exact k⟩
theorem q_eqI {a b : Int} (k : R (.bl (decide (a = b))) M) : oEq (.int a) (.int b) M R := ⟨_, _, .inr rfl, .inr rfl, pd_int, pd_int, by rw [deq_int]; exact k⟩
theorem q_neI {a b : Int} (k : R (.bl (!decide (a = b))) M) : oNe (.int a) (.int b) M R := ⟨_, _, .inr rfl, .inr rfl, pd_int, pd_int, by rw [deq_int]; exact k⟩
theorem q_eqX {d' e' : D} (h1 : Vw d M d') (h2 : Vw e M e') (p1 : pd 60 d' = true) (p2 : pd 60 e' = true) {b : Bool} (hb : deq d' e' = b) (k : R (.bl b) M) : oEq d e M R := ⟨_, _, h1, h2, p1, p2, by rw [hb]; exact k⟩
theorem q_neX {d' e' : D} (h1 : Vw d M d') (h2 : Vw e M e') (p1 : pd 60 d' = true) (p2 : pd 60 e' = true) {b : Bool} (hb : deq d' e' = b) (k : R (.bl (!b)) M) : oNe d e M R := ⟨_, _, h1, h2, p1, p2, by rw [hb]; exact k⟩
theorem q_I2 {C : Int → Int → Prop} {g : Int → Int → D} {i j : Int} (h : C i j) (k : R (g i j) M) : rI2 C g (.int i) (.int j) M R := ⟨i, j, rfl, rfl, h, k⟩
theorem q_addI {i j : Int} (k : R (.int (i + j)) M) : oAddX (.int i) (.int j) M R := .inl ⟨i, j, rfl, rfl, True.intro, k⟩
theorem q_isN (k : R (.bl (isN d)) M) : oIsN d .non M R := ⟨rfl, k⟩
theorem q_notN (k : R (.bl (!isN d)) M) : oNotN d .non M R := ⟨rfl, k⟩
/-- an item by a place that is known -/
theorem q_ixT {ds : List D} {j : Int} {z : D} (h : L2.atI ds j = some z) (k : R z M) : oIx (.tup ds) (.int j) M R := .inl ⟨ds, j, z, .inl rfl, rfl, h, k⟩
theorem q_ixL {ds : List D} {j : Int} {z : D} (h : L2.atI ds j = some z) (k : R z M) : oIx (.lst ds) (.int j) M R := .inl ⟨ds, j, z, .inr (.inl rfl), rfl, h, k⟩
theorem q_ixR {a : Addr} {ds : List D} {kk : MO → Mm} {j : Int} {z : D} (ha : At M a (.lst ds) kk) (h : L2.atI ds j = some z) (k : R z M) : oIx (.ref a) (.int j) M R := .inl ⟨ds, j, z, .inr (.inr ⟨a, kk, rfl, ha⟩), rfl, h, k⟩
/-- a call -/
theorem q_call0 {sp : BSp} (k : tr ex τ M fun ds M1 => Cf sp nox ds M1 R) : rCall0 sp tr ex τ M R := k
theorem q_meth0 {c : Cl} {sp : BSp} (k : te ex τ M fun d M1 => IsI c d M1 ∧ tr ex τ M1 fun ds M2 => Cf sp nox (d :: ds) M2 R) : rMeth0 c sp te tr ex τ M R := k
theorem q_isR {c : Cl} {a : Addr} {ds : List D} {k : MO → Mm} {P : Prop} (h : At M a (.ins c ds) k) (kk : P) : IsI c (.ref a) M ∧ P := ⟨.inl ⟨a, ds, k, rfl, h⟩, kk⟩
theorem q_isV {c : Cl} {ds : List D} {P : Prop} (kk : P) : IsI c (.ins c ds) M ∧ P := ⟨.inr ⟨ds, rfl⟩, kk⟩
/-- a callee that needs nothing that is owned -/
theorem cf_pure {sp : BSp} {ds : List D} (h : sp (fun c fs M' => ex c fs (M' ++ M)) ds [] fun r M' => R r (M' ++ M)) : Cf sp ex ds M R := ⟨ds, [], M, .refl, h⟩
/-- .. that needs a part -/
theorem cf_part {sp : BSp} {ds : List D} {Mc Fc : Mm} (p : M.Perm (Mc ++ Fc)) (h : sp (fun c fs M' => ex c fs (M' ++ Fc)) ds Mc fun r M' => R r (M' ++ Fc)) : Cf sp ex ds M R := ⟨ds, Mc, Fc, .perm p, h⟩
end
end BV
set_option maxHeartbeats 4000000
namespace BV
open PySem PySem.Spec PyProof.Rows L2
section
variable {X : Cx} {E : XK} {st : Stmt} {rest : List Stmt} {e a b o value tg iter : Expr} {es : List Expr} {pos pos' apos p : Pos} {t u body : RS} {te ta tv : RE} {tc : RT} {tr : RA} {x m : Str} {k : Nat} {ps : List Str} {sp : BSp} {c : Cl}
/-! ### constants of the module -/
def KG (K : PySem.W.Frag) (mg : Str → Option Value) (x : Str) (d : D) : Prop := ∃ u v, mg x = some u ∧ RelV v u ∧ ∀ L H, DV K L H v d
theorem be_kg {d : D} (h : KG X.K X.mg x d) (hg : Gl X x) (hd : (x == ("__debug__" : Str)) = false := by decide) : BE X E (.Name x pos) (rC d) := by
  obtain ⟨u, v, h1, h2, h3⟩ := h
  exact be_const (pe_glob hg h1 h2 hd) h3
theorem pts_yes : PTs X [] (liftT X.K E rYes) := ⟨fun pins s σ H Q I ⟨τ, M, Fm, R, ex, w, h, k⟩ => wpAny_tests_nil ⟨H, I, k true H M w.sr .refl h⟩⟩
theorem be_prop0 {f : Str} {g : Addr} (hp : PropOf X.K (ca X.K c) f (He.ma X.K (ca X.K c) f) g) (O : OkA X.prog X.w X.K X.mg X.base k g ps sp) (hr : Room (k + 1) X.A) (hc : Cls X.K (ca X.K c)) (he : BE X E e te)
    (hab : attributeBase e f X.env (eval e X.env) = eval e X.env) : BE X E (.Attribute e f pos) (rProp0 c sp te) := by
  obtain ⟨fd, F, b, kp, lk⟩ := O
  exact be_propOf0 (pe_prop he hc hp F hr b .nil (fun _ _ _ _ _ _ _ h => h.elim) hab)
/-! ### a new dict; own __len__, __contains__, __getitem__ -/
def rDictO : RE := fun _ τ M R => ∀ p, R (.ref p) ((p, .dct []) :: M)
theorem be_dict0 : BE X E (.Dict [] [] pos) rDictO := PE.weak pe_dnewK fun σ H Q ⟨τ, M, Fm, R, ex, w, h, k⟩ p hp =>
  k _ _ _ ((p, .dct []) :: M) (.ref p) (w.sr.own (o := .dct []) hp ⟨[], upd_same, .nil⟩) (fr_own w.sr hp) (h p)
theorem inst_of {pins : List (Addr × Obj)} {s : Shared} {σ : L2.St} {H : Hp} {y C dx : Addr} {fs : List (Str × V)} (I : Inv X pins σ H s) (e : H y = some (.ins C dx fs)) : ∃ ox od, PySem.W.InstAt s.heap y ox C od := by
  obtain ⟨mA, O, _⟩ := ins_get I.hok e
  obtain ⟨od, J, _⟩ := O.look
  exact ⟨_, od, J⟩
def oInOwn (c : Cl) (sp : BSp) (neg : Bool) : R2B := fun d e M R => IsI c e M ∧ Cf sp nox [e, d] M fun r M' => ∃ b, r = .bl b ∧ R (.bl (if neg then !b else b)) M'
theorem own_back {pins : List (Addr × Obj)} {σ : L2.St} {Q : VK} {neg : Bool} {r : Value} {s' : Shared} {E2 : Value → Shared → Prop} (h : EP X pins σ (fun v H' => ∃ b, v = .bl b ∧ Q (.bl (if neg then !b else b)) H') r s') :
    wpAny (model X.prog X.w) X.A (truthy r) (fun b => EP X pins σ Q (.bool (if neg then !b else b))) E2 s' := by
  obtain ⟨v, H', I, rv, b, e1, q⟩ := h
  subst e1
  cases (show r = Value.bool b from rv)
  exact wpAny_pure ⟨.bl (if neg then !b else b), H', I, rfl, q⟩
theorem bo_inOwn (O : Ok X.prog X.w X.K X.mg X.base k (c.nm, some "__contains__") ps sp) (hr : Room k X.A) (hm : Meth X.K (ca X.K c) "__contains__" (He.ma X.K (ca X.K c) "__contains__")) : BOp X (compareOp .In) (oInOwn c sp false) := fun pins s σ H x y v u Q I rx ry ⟨d, e, M, Fm, R, dx, dy, sr, ⟨hi, h⟩, kk⟩ => by
  obtain ⟨fd, F, b, kp, lk⟩ := O
  obtain ⟨y0, dxx, vs, e1, h2⟩ := hi.ho dy sr
  subst e1
  cases (show u = Value.ref y0 from ry)
  obtain ⟨ox, od, J⟩ := inst_of I h2
  obtain ⟨mm, fr⟩ := I.fr
  have hcf := cf_lift (E := E0) (Q := fun v H' => ∃ b, v = .bl b ∧ Q (.bl (if false then !b else b)) H') (.cons dy (.cons dx .nil)) sr xp_nox h (fun v H' d' M' dv' s' f' ⟨b, e2, r⟩ => by
    subst e2
    cases dv'
    exact ⟨b, rfl, kk _ H' _ M' (.bl _) s' f' r⟩)
  refine PySem.W.in_K fr I.mod.kin J hm.at_ hm.fn (thn (run_fn F hr b .nil pass0 I (.cons (show RelV (.ref y0) (.ref y0) from rfl) (.cons rx .nil)) (by rw [List.append_nil]; exact hcf)) fun r s' hq => own_back hq)
theorem bo_notInOwn (O : Ok X.prog X.w X.K X.mg X.base k (c.nm, some "__contains__") ps sp) (hr : Room k X.A) (hm : Meth X.K (ca X.K c) "__contains__" (He.ma X.K (ca X.K c) "__contains__")) : BOp X (compareOp .NotIn) (oInOwn c sp true) := fun pins s σ H x y v u Q I rx ry ⟨d, e, M, Fm, R, dx, dy, sr, ⟨hi, h⟩, kk⟩ => by
  obtain ⟨fd, F, b, kp, lk⟩ := O
  obtain ⟨y0, dxx, vs, e1, h2⟩ := hi.ho dy sr
  subst e1
  cases (show u = Value.ref y0 from ry)
  obtain ⟨ox, od, J⟩ := inst_of I h2
  obtain ⟨mm, fr⟩ := I.fr
  have hcf := cf_lift (E := E0) (Q := fun v H' => ∃ b, v = .bl b ∧ Q (.bl (if true then !b else b)) H') (.cons dy (.cons dx .nil)) sr xp_nox h (fun v H' d' M' dv' s' f' ⟨b, e2, r⟩ => by
    subst e2
    cases dv'
    exact ⟨b, rfl, kk _ H' _ M' (.bl _) s' f' r⟩)
  refine PySem.W.notIn_K fr I.mod.kin J hm.at_ hm.fn (thn (run_fn F hr b .nil pass0 I (.cons (show RelV (.ref y0) (.ref y0) from rfl) (.cons rx .nil)) (by rw [List.append_nil]; exact hcf)) fun r s' hq => own_back hq)
def bLenOwn (c : Cl) (sp : BSp) : RB := fun ds M R => ∃ d, ds = [d] ∧ IsI c d M ∧ Cf sp nox [d] M fun r M' => ∃ n : Int, r = .int n ∧ 0 ≤ n ∧ n < 2 ^ 63 ∧ R (.int n) M'
theorem run_in1 {X : Cx} {CX : CXT} {k : Nat} {f : Addr} {fd : FuncData} {ps : List Str} {sp : Sp} {E : XK} {pins : List (Addr × Obj)} {σ : L2.St} {H : Hp} {s : Shared} {Q : VK} {us : List Value} {vs : List V} {E' : Value → Shared → Prop} (F : FnOk X.prog X.w X.K X.mg X.base CX k f fd ps sp) (hr : Room (k + 1) X.A) (hb : Binds X.K fd ps []) (hx : Passes CX X.nox E)
    (I : Inv X pins σ H s) (r : Vals vs us) (h : sp vs H Q E) : wpAny (model X.prog X.w) X.A.in1 (call (.ref f) us) (EP X pins σ Q) E' s := by
  have hl : (us ++ []).length = ps.length := by rw [List.append_nil, ← r.length]; exact F.len _ _ _ _ h
  have hb2 := hb s us I.kIn hl
  rw [List.append_nil] at hb2
  refine wpAny_call (codeAny_mono (F.run X.A.in1 X.stack s H ⟨us, []⟩ us vs Q E hr.in1 I.env0.in1 hb2 r h) fun r s' hq => ?_)
  cases r with
  | error er => exact False.elim (hx pins σ H s er s' (I.wish _) hq)
  | ok fl =>
    cases fl with
    | ret u => exact I.after hq
    | next => exact False.elim hq
    | brk => exact False.elim hq
    | cont => exact False.elim hq
theorem bc_lenOwn (O : Ok X.prog X.w X.K X.mg X.base k (c.nm, some "__len__") ps sp) (hr : Room (k + 1) X.A) (hm : Meth X.K (ca X.K c) "__len__" (He.ma X.K (ca X.K c) "__len__")) : BC X (.builtin "len") (bLenOwn c sp) := fun pins s σ H xs us Q I rs ⟨ds, M, Fm, R, dv, sr, ⟨d, e1, hi, h⟩, kk⟩ => by
  subst e1
  obtain ⟨fd, F, b, kp, lk⟩ := O
  obtain ⟨v, rfl, dz⟩ := dvs1 dv
  obtain ⟨y0, dxx, vs, e1, h2⟩ := hi.ho dz sr
  subst e1
  obtain ⟨u, rfl, ru⟩ := vals1 rs
  cases (show u = Value.ref y0 from ru)
  obtain ⟨ox, od, J⟩ := inst_of I h2
  obtain ⟨mm, fr⟩ := I.fr
  have hcf := cf_lift (E := E0) (Q := fun v H' => ∃ n : Int, v = .int n ∧ 0 ≤ n ∧ n < 2 ^ 63 ∧ Q (.int n) H') dv sr xp_nox h (fun v H' d' M' dv' s' f' ⟨n, e2, q1, q2, r⟩ => by
    subst e2
    cases dv'
    exact ⟨n, rfl, q1, q2, kk _ H' _ M' (.int _) s' f' r⟩)
  refine PySem.W.len_K fr I.mod.kin J hm.at_ hm.fn (thn (run_in1 F hr b (fun _ _ _ _ _ _ _ h => h.elim) I (.cons (show RelV (.ref y0) (.ref y0) from rfl) .nil) hcf) fun r s' hq => ?_)
  obtain ⟨v, H', I', rv, n, e2, q1, q2, q⟩ := hq
  subst e2
  obtain ⟨tk, rfl⟩ := (show ∃ t, r = Value.int n t from rv)
  exact ⟨⟨q1, q2⟩, .int n, H', I'.tok _, ⟨_, rfl⟩, q⟩
/-! ### sum, list.index, join -/
def bSum : RB := fun ds M R => ∃ ns : List Int, ds = [.lst (ns.map .int)] ∧ R (.int ns.sum) M
theorem dvs_int {K : PySem.W.Frag} {L : List Addr} {H : Hp} : ∀ {bs : List Int} {vs : List V}, DVs K L H vs (bs.map .int) → vs = bs.map V.int
  | [], _, h => by cases h; rfl
  | b :: bs, _, h => by
    cases h with
    | cons h hs =>
      cases h
      rw [dvs_int hs]
      rfl
theorem dvs_str {K : PySem.W.Frag} {L : List Addr} {H : Hp} : ∀ {bs : List Str} {vs : List V}, DVs K L H vs (bs.map .str) → vs = bs.map V.str
  | [], _, h => by cases h; rfl
  | b :: bs, _, h => by
    cases h with
    | cons h hs =>
      cases h
      rw [dvs_str hs]
      rfl
theorem bc_sum (hc : X.calm = true) : BC X (.builtin "sum") bSum := CallR.weak (cr_sum hc) fun xs H Q ⟨ds, M, Fm, R, dv, sr, ⟨ns, e1, r⟩, k⟩ => by
  subst e1
  obtain ⟨v, rfl, dz⟩ := dvs1 dv
  cases dz with
  | lst hl hs =>
    have e2 := dvs_int hs
    subst e2
    exact ⟨_, ns, rfl, hl.sq, k _ H _ M (.int _) sr .refl r⟩
/-- ["a", "b"].index(x) -/
def idxS (x : Str) : List Str → Option Nat
  | [] => none
  | y :: ys => if y = x then some 0 else (idxS x ys).map (· + 1)
theorem idxS_some {x : Str} : ∀ {ys : List Str} {j : Nat}, idxS x ys = some j → ys[j]? = some x ∧ ∀ m z, m < j → ys[m]? = some z → z ≠ x
  | [], _, h => by cases h
  | y :: ys, j, h => by
    unfold idxS at h
    by_cases e : y = x
    · rw [if_pos e] at h
      cases h
      exact ⟨by rw [e]; rfl, fun m z hm => absurd hm (Nat.not_lt_zero m)⟩
    · rw [if_neg e] at h
      cases q : idxS x ys with
      | none =>
        rw [q] at h
        cases h
      | some i =>
        rw [q] at h
        have ej : i + 1 = j := Option.some.inj h
        subst ej
        obtain ⟨h1, h2⟩ := idxS_some q
        refine ⟨by simpa using h1, fun m z hm hz => ?_⟩
        cases m with
        | zero =>
          have e3 : y = z := by simpa using hz
          exact e3 ▸ e
        | succ m => exact h2 m z (by omega) (by simpa using hz)
def mIndex : RM := fun d ds M R => ∃ (ys : List Str) (x : Str) (j : Nat), d = .lst (ys.map .str) ∧ ds = [.str x] ∧ idxS x ys = some j ∧ R (.int (j : Nat)) M
theorem bm_index : BM X "list.index" mIndex := MtR.weak mt_index fun x vs H Q ⟨d, ds, M, Fm, R, dx, dvs, sr, ⟨ys, z, j, e1, e2, hj, r⟩, k⟩ => by
  subst e1 e2
  obtain ⟨w, rfl, dw⟩ := dvs1 dvs
  cases dw
  cases dx with
  | lst hl hs =>
    have e2 := dvs_str hs
    subst e2
    obtain ⟨h1, h2⟩ := idxS_some hj
    refine ⟨_, ys.map V.str, .str z, j, .str z, rfl, rfl, hl.sq, rfl, by simp [flatV], by rw [List.getElem?_map, h1]; rfl, by simp [eqV], fun m z' hm hz => ?_, k _ H _ M (.int _) sr .refl r⟩
    rw [List.getElem?_map] at hz
    cases q : ys[m]? with
    | none =>
      rw [q] at hz
      cases hz
    | some y =>
      rw [q] at hz
      cases hz
      have ne := h2 m y hm q
      simp [eqV, ne]
/-- sep.join(texts) -/
def rJoin (to te : RE) : RE := fun ex τ M R => to ex τ M fun d M1 => (∃ a, d = .str a) ∧ te ex τ M1 fun e M2 => ∃ (a : Str) (ys : List Str), d = .str a ∧ (e = .lst (ys.map .str) ∨ e = .tup (ys.map .str)) ∧ (ys.map (·.length)).sum + ys.length * a.length ≤ 16777216 ∧ R (.str (Txt.join a ys)) M2
theorem be_joinOf {to te : RE} (h : PE X e (tM1 (fun x xs H Q => ∃ a p, ∃ ys : List Str, x = .str a ∧ xs = [.ref p] ∧ (SqL X.K H p (ys.map V.str) ∨ SqT X.K H p (ys.map V.str)) ∧
      (ys.map (·.length)).sum + ys.length * a.length ≤ 16777216 ∧ Q (.str (Txt.join a ys)) H) (liftE X.K E to) (liftE X.K E te))) : BE X E e (rJoin to te) := PE.weak h fun σ H Q ⟨τ, M, Fm, R, ex, w, h, k⟩ => by
  refine ⟨τ, M, Fm, _, ex, w, h, fun v H1 d M1 dv s1 f1 ⟨⟨a0, e0⟩, h1⟩ => ?_⟩
  subst e0
  cases dv
  refine ⟨⟨a0, rfl⟩, τ, M1, Fm, _, ex, w.step s1 f1, h1, fun u H2 e M2 du s2 f2 ⟨a, ys, e1, e2, hz, r⟩ => ?_⟩
  cases e1
  rcases e2 with e2 | e2
  · subst e2
    cases du with
    | lst hl hs =>
      have e3 := dvs_str hs
      subst e3
      exact ⟨a0, _, ys, rfl, rfl, .inl hl.sq, hz, k _ H2 _ M2 (.str _) s2 (f1.trans f2) r⟩
  · subst e2
    cases du with
    | tup hl hs =>
      have e3 := dvs_str hs
      subst e3
      exact ⟨a0, _, ys, rfl, rfl, .inr hl.sq, hz, k _ H2 _ M2 (.str _) s2 (f1.trans f2) r⟩
/-! ### a walk over a dict, locked meanwhile -/
def GD (a : Addr) (o : Obj) (ws : List (Key × V)) (kvs : List (Str × D)) : Mm → Prop := fun M => ∃ k, At M a (.dcl o ws kvs) k
theorem unlock {K : PySem.W.Frag} {H : Hp} {M Fm : Mm} {a : Addr} {o : Obj} {ws : List (Key × V)} {kvs : List (Str × D)} {k : MO → Mm} (s : SR K H (M ++ Fm)) (h : At M a (.dcl o ws kvs) k) :
    H a = some (.frz o (.dK ws)) ∧ SR K (upd H a (.dK ws)) (k (.dct kvs) ++ Fm) ∧ Fr H (keys (M ++ Fm)) (upd H a (.dK ws)) (keys (k (.dct kvs) ++ Fm)) := by
  obtain ⟨h1, hs⟩ := s.at h.hid
  have f : Fr H (keys (M ++ Fm)) (upd H a (.dK ws)) (keys (k (.dct kvs) ++ Fm)) := fr_at (o' := .dct kvs) h.hid
  exact ⟨h1, SR.upd (o' := .dct kvs) s h.hid ⟨ws, upd_same, hs.mono f⟩, f⟩
theorem lock {K : PySem.W.Frag} {H : Hp} {M Fm : Mm} {a : Addr} {kvs : List (Str × D)} {k : MO → Mm} (s : SR K H (M ++ Fm)) (h : At M a (.dct kvs) k) :
    ∃ ws, H a = some (.dK ws) ∧ ∀ o, SR K (upd H a (.frz o (.dK ws))) (k (.dcl o ws kvs) ++ Fm) ∧ Fr H (keys (M ++ Fm)) (upd H a (.frz o (.dK ws))) (keys (k (.dcl o ws kvs) ++ Fm)) := by
  obtain ⟨ws, h1, hs⟩ := s.at h.hid
  refine ⟨ws, h1, fun o => ?_⟩
  have f : Fr H (keys (M ++ Fm)) (upd H a (.frz o (.dK ws))) (keys (k (.dcl o ws kvs) ++ Fm)) := fr_at (o' := .dcl o ws kvs) h.hid
  exact ⟨SR.upd (o' := .dcl o ws kvs) s h.hid ⟨upd_same, hs.mono f⟩, f⟩
def itemsD (kvs : List (Str × D)) : List D := kvs.map fun kv => .tup [.str kv.1, kv.2]
theorem DVk.at {K : PySem.W.Frag} {L : List Addr} {H : Hp} : ∀ {vs : List (Key × V)} {ds : List (Str × D)} {i : Nat} {kk : Key} {v : V}, DVk K L H vs ds → vs[i]? = some (kk, v) → ∃ f d, kk = .inr f ∧ ds[i]? = some (f, d) ∧ DV K L H v d
  | _, _, _, _, _, .nil, h => by simp at h
  | _, _, 0, kk, v, .cons (f := f) (d := d) h hs, e => by
    have e2 := Option.some.inj (show some _ = some _ from e)
    cases e2
    exact ⟨f, d, rfl, rfl, h⟩
  | _, _, i + 1, kk, v, .cons h hs, e => by
    obtain ⟨f, d, h1, h2, h3⟩ := DVk.at (i := i) hs (by simpa using e)
    exact ⟨f, d, h1, by simpa using h2, h3⟩
theorem its_keys {K : PySem.W.Frag} {H : Hp} {L : List Addr} {a : Addr} {o : Obj} {ws : List (Key × V)} {kvs : List (Str × D)} : Its K H L (GD a o ws kvs) (Itk a o ws) (keysD kvs) := fun H1 M1 F1 s1 f ⟨k, h⟩ => by
  obtain ⟨h1, hs⟩ := s1.at h.hid
  have hl := hs.length
  have hl2 : (keysD kvs).length = kvs.length := by simp [keysD]
  rw [hl2]
  refine ⟨fun i hi => ⟨h1, by omega⟩, ⟨h1, by omega⟩, fun i x H2 hi hx => ?_⟩
  obtain ⟨rfl, kk, v, hk, rfl⟩ := hx
  obtain ⟨f, d, rfl, hd, dv⟩ := hs.at hk
  exact ⟨.str f, by simp [keysD, hd], .str f, .refl, s1⟩
theorem its_items {K : PySem.W.Frag} {H : Hp} {L : List Addr} {a : Addr} {o : Obj} {ws : List (Key × V)} {kvs : List (Str × D)} : Its K H L (GD a o ws kvs) (Iti a o ws) (itemsD kvs) := fun H1 M1 F1 s1 f ⟨k, h⟩ => by
  obtain ⟨h1, hs⟩ := s1.at h.hid
  have hl := hs.length
  have hl2 : (itemsD kvs).length = kvs.length := by simp [itemsD]
  rw [hl2]
  refine ⟨fun i hi => ⟨h1, by omega⟩, ⟨h1, by omega⟩, fun i x H2 hi hx => ?_⟩
  obtain ⟨T, kk, v, hk, rfl, hT, rfl⟩ := hx
  obtain ⟨f, d, rfl, hd, dv⟩ := hs.at hk
  exact ⟨.tup [.str f, d], by simp [itemsD, hd], .tup (.inl ⟨s1.fresh hT, upd_same⟩) (.cons (.str _) (.cons (dv.mono (fr_new s1 hT)) .nil)), fr_new s1 hT, s1.new hT⟩
def iDct (mk : List (Str × D) → List D) (te : RE) (a : Addr) (o : Obj) (ws : List (Key × V)) (kvs : List (Str × D)) : RI := fun ex τ M R => te ex τ M fun d M1 => d = .ref a ∧ (∃ k, At M1 a (.dcl o ws kvs) k) ∧ R (mk kvs) M1
/-- some dict's -/
def wDct (K : PySem.W.Frag) (E : XK) (mk : List (Str × D) → List D) (te : RE) : TI := fun σ H R => ∃ a o ws kvs, liftIG K E (GD a o ws kvs) (iDct mk te a o ws kvs) σ H R
theorem pi_dctK (he : BE X E e te) : PI X tg e (wDct X.K E keysD te) := PI.weak (pi_keys he) fun σ H R ⟨a, o, ws, kvs, τ, M, Fm, Rb, ex, w, h, k⟩ => by
  refine ⟨τ, M, Fm, _, ex, w, h, fun v H1 d M1 dv s1 f1 ⟨e1, ⟨kk, ha⟩, r⟩ => ?_⟩
  subst e1
  cases dv
  obtain ⟨h1, hs⟩ := s1.at ha.hid
  exact ⟨a, o, rfl, .inl ⟨ws, h1, k _ H1 _ M1 s1 f1 its_keys r⟩⟩
theorem pi_dctI (h : PI X tg iter (iItems (liftE X.K E te))) : PI X tg iter (wDct X.K E itemsD te) := PI.weak h fun σ H R ⟨a, o, ws, kvs, τ, M, Fm, Rb, ex, w, h, k⟩ => by
  refine ⟨τ, M, Fm, _, ex, w, h, fun v H1 d M1 dv s1 f1 ⟨e1, ⟨kk, ha⟩, r⟩ => ?_⟩
  subst e1
  cases dv
  obtain ⟨h1, hs⟩ := s1.at ha.hid
  exact ⟨a, o, ws, rfl, h1, k _ H1 _ M1 s1 f1 its_items r⟩
/-- the ends of what runs while the dict is locked -/
def lkEnds (B : BEnds) (a : Addr) (o : Obj) (ws : List (Key × V)) (kvs : List (Str × D)) : BEnds where
  ex := nox
  nx := fun τ M => ∃ k, At M a (.dcl o ws kvs) k ∧ B.nx τ (k (.dct kvs))
  rt := fun d M => ∃ k, At M a (.dcl o ws kvs) k ∧ B.rt d (k (.dct kvs))
  bk := fun τ M => ∃ k, At M a (.dcl o ws kvs) k ∧ B.bk τ (k (.dct kvs))
  ct := fun τ M => ∃ k, At M a (.dcl o ws kvs) k ∧ B.ct τ (k (.dct kvs))
def sForD (mk : List (Str × D) → List D) (te : RE) (g : RG) (body : RS) : RS := fun B τ M => ∃ a kvs k, At M a (.dct kvs) k ∧ ∀ o ws, iDct mk te a o ws kvs nox τ (k (.dcl o ws kvs)) fun ds M1 => forG (GD a o ws kvs) g body (lkEnds B a o ws kvs) ds τ M1
theorem afs_un {K : PySem.W.Frag} {H H2 : Hp} {M M2 Fm : Mm} {R : BSt → Mm → Prop} {Q : L2.St → Hp → Prop} {a : Addr} {o : Obj} {ws : List (Key × V)} {kvs : List (Str × D)} (f : Fr H (keys (M ++ Fm)) H2 (keys (M2 ++ Fm))) (kn : AfS K H M Fm R Q) :
    AfS K H2 M2 Fm (fun τ M => ∃ k, At M a (.dcl o ws kvs) k ∧ R τ (k (.dct kvs))) (fun σ' H' => H' a = some (.frz o (.dK ws)) ∧ Q σ' (upd H' a (.dK ws))) := fun σ' H' τ' M' sg sr g ⟨k, hk, r⟩ => by
  obtain ⟨h1, s2, f2⟩ := unlock sr hk
  exact ⟨h1, kn _ _ _ _ (sg.mono f2) s2 ((f.trans g).trans f2) r⟩
theorem af_un {K : PySem.W.Frag} {H H2 : Hp} {M M2 Fm : Mm} {R : BQ} {Q : VK} {a : Addr} {o : Obj} {ws : List (Key × V)} {kvs : List (Str × D)} (f : Fr H (keys (M ++ Fm)) H2 (keys (M2 ++ Fm))) (kn : Af K H M Fm R Q) :
    Af K H2 M2 Fm (fun d M => ∃ k, At M a (.dcl o ws kvs) k ∧ R d (k (.dct kvs))) (fun v H' => H' a = some (.frz o (.dK ws)) ∧ Q v (upd H' a (.dK ws))) := fun v H' d M' dv sr g ⟨k, hk, r⟩ => by
  obtain ⟨h1, s2, f2⟩ := unlock sr hk
  exact ⟨h1, kn _ _ _ _ (dv.mono f2) s2 ((f.trans g).trans f2) r⟩
theorem bs_forD {mk : List (Str × D) → List D} {bd : List Stmt} (hp : PassesOwn (model X.prog X.w) X.A X.env X.xe) (hc : X.calm = true) (hi : PI X tg iter (wDct X.K E0 mk te)) (hg : BG X E0 tg g) (hb : BSs X E0 bd body) (hs : ∀ x, foldedSetIterable iter X.env x = pure x := by intro _; rfl) : BS X E (.For tg iter bd [] pos) (sForD mk te g body) :=
  PS.weak (ps_lock (ps_for hp hc hi hg hb hs)) fun Dn σ H ⟨τ, M, Fm, B, w, ⟨a, kvs, k, ha, h⟩, kn, kr, kb, kc⟩ => by
  obtain ⟨ws, h1, hl⟩ := lock w.sr ha
  refine ⟨a, .dK ws, h1, trivial, fun o => ?_⟩
  obtain ⟨s2, f2⟩ := hl o
  have w2 : Wl X.K E0 σ (upd H a (.frz o (.dK ws))) τ (k (.dcl o ws kvs)) Fm nox := ⟨w.sg.mono f2, s2, xp_nox⟩
  have q := for_lift (X := X) (E := E0) (it := iDct mk te a o ws kvs) (G := GD a o ws kvs) (g := g) (body := body) (B := lkEnds B a o ws kvs) w2 (h o ws) (afs_un f2 kn) (af_un f2 kr) (afs_un f2 kb) (afs_un f2 kc)
    (Dn := ⟨fun σ' H' => H' a = some (.frz o (.dK ws)) ∧ Dn.nx σ' (upd H' a (.dK ws)), fun v H' => H' a = some (.frz o (.dK ws)) ∧ Dn.rt v (upd H' a (.dK ws)), fun σ' H' => H' a = some (.frz o (.dK ws)) ∧ Dn.bk σ' (upd H' a (.dK ws)), fun σ' H' => H' a = some (.frz o (.dK ws)) ∧ Dn.ct σ' (upd H' a (.dK ws))⟩)
  exact ⟨a, o, ws, kvs, q⟩
def rLcD (mk : List (Str × D) → List D) (te0 : RE) (g : RCg) (tt : RT) (te : RE) (vs : List Nat) : RE := fun ex τ M R => ∃ a kvs k, At M a (.dct kvs) k ∧ ∀ o ws, iDct mk te0 a o ws kvs nox τ (k (.dcl o ws kvs)) fun ds M1 => lcG (GD a o ws kvs) g tt te nox (wipeB τ vs) (fun acc M2 => ∃ k, At M2 a (.dcl o ws kvs) k ∧ R (.lst acc) (k (.dct kvs))) ds [] M1
theorem lcD_lift {mk : List (Str × D) → List D} {te0 : RE} {g : RCg} {gt : TG} {tt : RT} {vs : List Nat} (cg : CgOk X.K vs g gt) {σ : L2.St} {H : Hp} {Q : VK} (h : liftE X.K E (rLcD mk te0 g tt te vs) σ H Q) :
    tLockE (tLc (wDct X.K E0 mk te0) gt (liftT X.K (fun _ _ _ => False) tt) (liftE X.K (fun _ _ _ => False) te) vs) σ H Q := by
  obtain ⟨τ, M, Fm, R, ex, w, ⟨a, kvs, k, ha, h⟩, kk⟩ := h
  obtain ⟨ws, h1, hl⟩ := lock w.sr ha
  refine ⟨a, .dK ws, h1, trivial, fun o => ?_⟩
  obtain ⟨s2, f2⟩ := hl o
  have w2 : Wl X.K E0 σ (upd H a (.frz o (.dK ws))) τ (k (.dcl o ws kvs)) Fm nox := ⟨w.sg.mono f2, s2, xp_nox⟩
  have q := lc_lift (X := X) (E := E0) (it := iDct mk te0 a o ws kvs) (G := GD a o ws kvs) cg w2 (h o ws) (Q := fun v H' => H' a = some (.frz o (.dK ws)) ∧ Q v (upd H' a (.dK ws))) fun D ws' ds H2 M2 q1 q2 q3 q4 q5 ⟨k2, hk2, r⟩ => by
    obtain ⟨z1, z2, z3⟩ := unlock q3 hk2
    have dz : DV X.K (keys (M2 ++ Fm)) H2 (.ref D) (.lst ds) := .lst ⟨SR.off (a := D) (o := .lst ds) q5, q1⟩ q2
    exact ⟨z1, kk _ _ _ _ (dz.mono z3) z2 ((f2.trans (q4.trans fr_drop)).trans z3) r⟩
  exact ⟨a, o, ws, kvs, q⟩
theorem be_lcDOf {mk : List (Str × D) → List D} {te0 : RE} {g : RCg} {gt : TG} {tt : RT} {vs : List Nat} (cg : CgOk X.K vs g gt) (h : PE X e (tLc (wDct X.K E0 mk te0) gt (liftT X.K (fun _ _ _ => False) tt) (liftE X.K (fun _ _ _ => False) te) vs)) : BE X E e (rLcD mk te0 g tt te vs) :=
  PE.weak (pe_lock h) fun _ _ _ q => lcD_lift cg q
theorem bs_setLcDOf {i : Nat} {mk : List (Str × D) → List D} {te0 : RE} {g : RCg} {gt : TG} {tt : RT} {te : RE} {vs : List Nat} (cg : CgOk X.K vs g gt) (h : PS X st (tAsg (tLc (wDct X.K E0 mk te0) gt (liftT X.K (fun _ _ _ => False) tt) (liftE X.K (fun _ _ _ => False) te) vs) (gName i))) :
    BS X E st (sAsg (rLcD mk te0 g tt te vs) (gN i)) := PS.weak (ps_lock h) fun Dn σ H ⟨τ, M, Fm, B, w, h, kn, kr, kb, kc⟩ => by
  have q := lcD_lift cg (Q := fun v H1 => Dn.nx (σ.set i (some v)) H1) ⟨τ, M, Fm, _, _, w, h, fun v H1 d M1 dv s1 f1 r => kn _ H1 _ M1 ((w.sg.mono f1).set dv) s1 f1 r⟩
  exact q
end
end BV
set_option maxHeartbeats 4000000
/-! len(set(texts)) of any short tuple or list of texts -/
namespace BVS
open PySem PySem.Spec PyProof.Rows L2
/-- how many unlike ones among the first -/
def unl : List Str → List Str → Nat
  | _, [] => 0
  | seen, x :: r => if seen.any (· == x) then unl seen r else unl (seen ++ [x]) r + 1
def cntS (xs : List Str) : Nat → Nat
  | 0 => 0
  | i + 1 => if (xs.take i).any (· == xs.getD i Str.empty) then cntS xs i else cntS xs i + 1
theorem cnt_le (xs : List Str) : ∀ i, cntS xs i ≤ i
  | 0 => Nat.le_refl _
  | i + 1 => by
    have := cnt_le xs i
    unfold cntS
    split <;> omega
section
variable {prog : Program} {w : World} {A : Around} {R : Result → Shared → Prop} {I : Addr} {fp wr : List Addr} {G : Array GenState → Array GenState → Prop} {n : Nat} {P : Nat → Value → Prop} {St : Nat → Shared → Prop}
theorem loopT (W : WalksS prog w A.in1 I fp wr G n P St) (S : Addr) (nS : S ∉ fp) (xs : List Str) (hl : xs.length = n) (few : n < 1000)
    (val : ∀ i v, P i v → ∃ t, v = .str (xs.getD i Str.empty) t) :
    ∀ (k i : Nat) (s : Shared), n - i = k → i ≤ n → St i s →
      s.heap.SetOf (PySem.strKind prog w) S (fun z => (xs.take i).any (· == z)) (cntS xs i) →
      (∀ s', Moved (S :: wr) G s s' → s'.heap.SetOf (PySem.strKind prog w) S (fun z => (xs.take n).any (· == z)) (cntS xs n) → R (.ok (.ret .none)) s') →
      codeAny (model prog w) A (.builtin "set.update.loop" ⟨[.ref S, .ref I], []⟩) R s := by
  have nw : S ∉ wr := fun q => nS (W.sub _ q)
  have up : ∀ b ∈ wr, b ∈ S :: wr := fun b q => List.mem_cons_of_mem _ q
  intro k
  induction k with
  | zero =>
    intro i s e0 le st hS hR
    obtain rfl : i = n := by omega
    refine codeAny_builtin F.entry_set_update_loop ?_
    rw [Around.under_plainId F.plain_set_update_loop _]
    show wpAny _ A.in1 (pyNext (.ref I) >>= _) _ _ s
    refine wpAny_bind (W.done s _ _ st fun s' mv => ?_)
    refine wpAny_pure (hR s' (mv.mono up) ?_)
    obtain ⟨o, es, ep, t, ho, more⟩ := hS
    exact ⟨o, es, ep, t, mv.heap S _ nw ho, more⟩
  | succ k ih =>
    intro i s e0 le st hS hR
    have lt : i < n := by omega
    refine codeAny_builtin F.entry_set_update_loop ?_
    rw [Around.under_plainId F.plain_set_update_loop _]
    show wpAny _ A.in1 (pyNext (.ref I) >>= _) _ _ s
    refine wpAny_bind (W.item i s _ _ lt st fun v s' hP st' mv => ?_)
    obtain ⟨t, rfl⟩ := val i v hP
    have hS1 : s'.heap.SetOf (PySem.strKind prog w) S (fun z => (xs.take i).any (· == z)) (cntS xs i) := by
      obtain ⟨o, es, ep, t2, ho, more⟩ := hS
      exact ⟨o, es, ep, t2, mv.heap S _ nw ho, more⟩
    show wpAny _ A.in1 (holding [Value.str (xs.getD i Str.empty) t] (setAdd S (.str (xs.getD i Str.empty) t)) >>= _) _ _ s'
    refine wpAny_bind (wpAny_holding ?_)
    unfold setAdd
    refine wpAny_holding (wpAny_bind ((PySem.strKind prog w).pyHash (k := xs.getD i Str.empty) (strKind_is _ _ _ _) ?_))
    have cl := cnt_le xs i
    refine wpAny_setAddHashed_of (knd := PySem.strKind prog w) (s := { s' with toks := s'.toks + 1 }) (strKind_is _ _ _ _) rfl hS1 (by unfold scanBound; omega) fun g sb hS2 => ?_
    have hS3 : g.SetOf (PySem.strKind prog w) S (fun z => (xs.take (i + 1)).any (· == z)) (cntS xs (i + 1)) := by
      refine SetOf_congr hS2 (fun z => ?_) rfl
      have hi : i < xs.length := by omega
      have et : xs.take (i + 1) = xs.take i ++ [xs.getD i Str.empty] := by
        rw [List.take_succ, List.getElem?_eq_getElem hi]
        simp [List.getD_eq_getElem?_getD, List.getElem?_eq_getElem hi]
      have e2 : (xs.getD i Str.empty == z) = decide (z = xs.getD i Str.empty) := by
        by_cases q : z = xs.getD i Str.empty
        · rw [q]; simp
        · rw [decide_eq_false q]
          exact beq_eq_false_iff_ne.mpr fun h => q h.symm
      rw [et, List.any_append, List.any_cons, List.any_nil, Bool.or_false, e2]
    refine wpAny_pure ⟨plainId_quiet F.plain_set_update_loop _, ih (i + 1) _ (by omega) lt (W.frame _ s' _ _ st' (Nat.le_succ _) fun b hb o e => ?_) hS3 fun s2 mv2 q => ?_⟩
    · rw [sb.2 b fun q : b = S => nS (q ▸ hb)]
      exact e
    · refine hR s2 (Moved.trans W.gtrans ((mv.mono up).then_heap (Nat.le_succ _) fun b o hb e => ?_) mv2) q
      rw [sb.2 b fun q : b = S => hb (q ▸ List.mem_cons_self)]
      exact e
end
section
variable {prog : Program} {w : World} {A : Around} {E : Value → Shared → Prop} {s : Shared}
set_option maxHeartbeats 3200000 in
theorem setOfTup {l : Addr} {items : Array Value} {xs : List Str} {Q : Value → Shared → Prop} (hh : A.handled = none) (ht : s.heap.IsTuple l items) (hi : StrsAre items.toList xs) (few : xs.length < 1000)
    (hq : ∀ (g : Heap) (tk : Nat), g.SetOf (PySem.strKind prog w) s.heap.objs.size (fun z => (xs.take items.size).any (· == z)) (cntS xs items.size) → (∀ b o, b < s.heap.objs.size → s.heap.get? b = some o → g.get? b = some o) → Q (.ref s.heap.objs.size) { s with heap := g, toks := tk }) :
    wpAny (model prog w) A (call (.type "set") [.ref l]) Q E s := by
  obtain ⟨c, tl, mro⟩ := PySem.F.called_set.mro
  have made := PySem.F.called_set.made
  have sub := PySem.F.called_set.sub
  refine wpAny_call (codeAny_of_tree ?_)
  show wpAny _ _ (callAny (.type "set") _) _ _ _
  refine wpAny_pure ⟨Code.quiet_builtin _ (by decide +kernel), codeAny_builtin PySem.F.entry_type_call ?_⟩
  rw [Around.under_plain (weight_type_call_type "set" [.ref l] []) rfl]
  have q1 := PySem.F.called_set.notType
  have q2 := PySem.F.called_set.canCreate
  have q3 := PySem.F.typeCall_set_1 (.ref l)
  repeat (any_goals (first | assumption | wp_step))
  let emp : Bool → Obj := fun led => { cls := .type "set", dict := none, data := .set #[] 0 (.fresh 0 0 led) }
  refine codeAny_mono (code_set_new_1 (.ref l) (E := E) (Q₁ := fun u s₁ => ∃ led : Bool, u = .ref s.heap.objs.size ∧ s₁ = { s with heap := s.heap.push (emp led) }) fun led => ⟨led, rfl, rfl⟩) fun r s₁ hr => ?_
  cases r with
  | error e => exact hr
  | ok fl =>
    cases fl with
    | ret u =>
      obtain ⟨led, rfl, rfl⟩ := hr
      have hS : (s.heap.push (emp led)).get? s.heap.objs.size = some (emp led) := Heap.get?_push_size _ rfl
      have hT : Shared.TypeIs { s with heap := s.heap.push (emp led) } (.ref s.heap.objs.size) "set" := ⟨_, hS, rfl⟩
      have q4 := PySem.F.called_set.init.lookup
      have q5 := PySem.F.called_set.init.bind (.ref s.heap.objs.size)
      repeat (any_goals (first | assumption | wp_step))
      refine codeAny_mono (codeAny_call_builtin (R := wants (fun r s₂ => r = .none ∧ ∃ g tk, s₂ = { s with heap := g, toks := tk } ∧ g.SetOf (PySem.strKind prog w) s.heap.objs.size (fun z => (xs.take items.size).any (· == z)) (cntS xs items.size) ∧
          (∀ b o, b < s.heap.objs.size → s.heap.get? b = some o → g.get? b = some o)) E) PySem.F.called_set.init.plain PySem.F.entry_set_init (check_set_init_1 hT ?_)) fun r₂ s₂ hr₂ => ?_
      · obtain ⟨⟨oc, od, dt, sl⟩, hol, hcl, nl, hdl⟩ := ht
        simp only at hcl hdl
        subst hcl hdl
        have hol2 : (s.heap.push (emp led)).get? l = some { cls := .type "tuple", dict := od, data := .seq items nl, slots := sl } := Heap.get?_push_of_some _ hol
        have q6 := PySem.F.sub_tuple_set
        have q7 := PySem.F.sub_tuple_frozenset
        have q8 : (Value.type "tuple" == Value.type "dict") = false := by decide
        have ht2 : (s.heap.push (emp led)).IsTuple l items := ⟨_, hol2, rfl, nl, rfl⟩
        have hol3 : (s.heap.push { cls := .type "set", dict := none, data := .set #[] 0 (.fresh 0 0 led) }).get? l = some { cls := .type "tuple", dict := od, data := .seq items nl, slots := sl } := hol2
        unfold Builtin.«set.__init__» noKeywords Builtin.Frozenset.updateFrom
        generalize hPI : pyIter = PI
        wp_walk
        subst hPI
        refine wpAny_pyIter_tuple ht2 (wpAny_bind (wpAny_runValue ?_))
        have ls : l < s.heap.objs.size := Heap.lt_size hol
        have h3 : A.in1.in1.in1.handled = none := by simp [hh]
        have zz : (s.heap.push (emp led)).objs.size = s.heap.objs.size + 1 := Heap.size_push ..
        have ne : l ≠ (s.heap.push (emp led)).objs.size := by
          rw [zz]
          exact Nat.ne_of_lt (Nat.lt_succ_of_lt ls)
        have nf : s.heap.objs.size ∉ [(s.heap.push (emp led)).objs.size, l] := by
          rw [zz]
          simp only [List.mem_cons, List.not_mem_nil, or_false, not_or]
          exact ⟨Nat.ne_of_lt (Nat.lt_succ_self _), Nat.ne_of_gt ls⟩
        have es : xs.length = items.size := by rw [← StrsAre.len_eq hi, Array.length_toList]
        have vv : ∀ (i : Nat) (v : Value), items[i]? = some v → ∃ t, v = .str (xs.getD i Str.empty) t := fun i v hv => SS.strs_at hi i v (by rw [Array.getElem?_toList]; exact hv)
        refine loopT ((Walks.tuple h3 _ l ne items).toS) s.heap.objs.size nf xs es (by omega) vv (items.size - 0) 0 _ (by omega) (Nat.zero_le _) ⟨⟨_, Heap.get?_push_size _ rfl, rfl, rfl⟩, (ht2.push _)⟩ ?g0 ?g1
        case g0 =>
          have hget : ((s.heap.push (emp led)).push { cls := .type "tuple_iterator", data := .fields #[.ref l, .int 0 0] }).get? s.heap.objs.size = some (emp led) := Heap.get?_push_of_some _ hS
          exact SetOf_congr ((setObjOf_fresh (knd := PySem.strKind prog w) led).setOf hget (by unfold scanBound; omega)) (fun _ => rfl) rfl
        case g1 =>
          intro s' mv hS2
          obtain ⟨g, gs, dd, tk, os⟩ := s'
          obtain rfl : gs = s.gens := mv.gens
          obtain rfl : dd = s.drawn := mv.drawn
          obtain rfl : os = s.os := mv.os
          refine wpAny_pure (wpAny_pure ⟨rfl, g, tk, rfl, hS2, fun b o hb e => ?_⟩)
          refine mv.heap b o ?_ (Heap.get?_push_of_some _ (Heap.get?_push_of_some _ e))
          show ¬ b ∈ _
          have z2 : (s.heap.push { cls := .type "set", dict := none, data := .set #[] 0 (.fresh 0 0 led) }).objs.size = s.heap.objs.size + 1 := zz
          rw [z2]
          simp only [List.mem_cons, List.not_mem_nil, or_false, not_or]
          exact ⟨Nat.ne_of_lt hb, Nat.ne_of_lt (Nat.lt_succ_of_lt hb)⟩
      · cases r₂ with
        | error e => exact hr₂
        | ok fl₂ =>
          cases fl₂ with
          | ret r =>
            obtain ⟨rfl, g, tk, rfl, hS2, hk2⟩ := hr₂
            repeat (any_goals (first | assumption | wp_step))
            exact hq _ _ hS2 hk2
          | _ => exact hr₂.elim
    | _ => exact hr.elim
end
end BVS
namespace BV
open PySem PySem.Spec PyProof.Rows L2
/-- how many unlike texts -/
def unlS (xs : List Str) : Nat := BVS.cntS xs xs.length
def rLenSet (ta : RE) : RE := fun ex τ M R => ta ex τ M fun d M1 => ∃ xs : List Str, d = .tup (xs.map .str) ∧ xs.length < 1000 ∧ R (.int (unlS xs : Nat)) M1
theorem be_lenSet {X : Cx} {E : XK} {a : Expr} {ta : RE} {p p2 q pos : Pos} (hc : X.calm = true) (hg : Gl X "len") (hm : X.mg "len" = none) (hg2 : Gl X "set") (hm2 : X.mg "set" = none) (ha : BE X E a ta)
    (na : starEach [a] X.env = (false, eval a X.env) :: starEach [] X.env := by rfl) : BE X E (.Call (.Name "len" p) [.Call (.Name "set" p2) [a] [] q] [] pos) (rLenSet ta) := by
  refine ⟨fun pins s σ H Q I h => ?_⟩
  obtain ⟨τ, M, Fm, R, ex, w, h, k⟩ := h
  refine Call_ (ld_blt I hg hm boot_len (callWith_builtin1 (args_cons ?_ rfl) rfl rfl))
  refine Call_ (ld_blt I hg2 hm2 boot_set (callWith_type1 (args_cons (thn (ha.run pins s σ H (fun v H1 => ∃ (l : Addr) (xs : List Str), v = .ref l ∧ SqT X.K H1 l (xs.map V.str) ∧ xs.length < 1000 ∧ Q (.int (unlS xs : Nat)) H1) I ⟨τ, M, Fm, _, ex, w, h, fun v H1 d M1 dv s1 f1 ⟨xs, e1, z, r⟩ => ?_⟩) fun v s1 ⟨x, H1, I1, r1, q1⟩ => args_nil ?_) na) na rfl))
  · subst e1
    cases dv with
    | tup ht hs =>
      have e2 := dvs_str hs
      subst e2
      exact ⟨_, xs, rfl, ht.sq, z, k _ H1 _ M1 (.int _) s1 f1 r⟩
  · obtain ⟨l, xs, rfl, hq, z, q1⟩ := q1
    cases r1
    obtain ⟨its, r, pl, hz⟩ := I1.tuple hq
    have hl : its.toArray.size = xs.length := by rw [List.size_toArray, ← r.length, List.length_map]
    refine BVS.setOfTup (I1.ok.hd hc) pl (by simpa using strsAre_of r) z fun g tk hS hk => args_nil ?_
    rw [hl] at hS
    obtain ⟨o, es, ep, t, ho, hex, hd, _, _, _, hf, hn⟩ := hS
    have I2 : Inv X pins σ H1 { s1 with heap := g, toks := tk } := I1.kept fun b o e => hk b o (Heap.lt_size e) e
    have cl := BVS.cnt_le xs xs.length
    exact call_len_set ho hex hd hf (by rw [hn]; omega) ⟨.int (unlS xs : Nat), H1, I2.tok _, ⟨_, by rw [hn]; rfl⟩, q1⟩
end BV
set_option maxHeartbeats 4000000
/-! calls by keywords alone -/
namespace BV
open PySem PySem.Spec PyProof.Rows L2
/-- the keywords' values in the order of the parameters -/
def pk {α : Type} (perm : List Nat) (zs : List α) : List α := perm.filterMap fun i => zs[i]?
theorem pk_dvs {K : PySem.W.Frag} {L : List Addr} {H : Hp} {vs : List V} {ds : List D} (h : DVs K L H vs ds) : ∀ perm : List Nat, DVs K L H (pk perm vs) (pk perm ds)
  | [] => .nil
  | i :: r => by
    unfold pk
    rw [List.filterMap_cons, List.filterMap_cons]
    cases e : ds[i]? with
    | some d =>
      obtain ⟨v, hv, dv⟩ := h.get e
      rw [hv]
      exact .cons dv (pk_dvs h r)
    | none =>
      have hl := h.length
      rw [show vs[i]? = none from List.getElem?_eq_none (by rw [hl]; exact List.getElem?_eq_none_iff.mp e)]
      exact pk_dvs h r
theorem pk_vals {vs : List V} {us : List Value} (h : Vals vs us) : ∀ perm : List Nat, Vals (pk perm vs) (pk perm us)
  | [] => .nil
  | i :: r => by
    unfold pk
    rw [List.filterMap_cons, List.filterMap_cons]
    cases e : vs[i]? with
    | some v =>
      obtain ⟨u, hu, ru⟩ := h.get e
      rw [hu]
      exact .cons ru (pk_vals h r)
    | none =>
      rw [h.none_of e]
      exact pk_vals h r
/-- the def at at_, called with n values and these keywords -/
def OkK (P : Program) (w : World) (K : PySem.W.Frag) (mg : Str → Option Value) (base : Heap) (k : Nat) (at_ : At_) (ps : List Str) (sp : BSp) (n : Nat) (ks : List Str) (perm : List Nat) : Prop :=
  ∃ fd, FnOk P w K mg base CX0 k (He.fAd K at_) fd ps (liftSp K sp) ∧ (∀ us ws : List Value, us.length = n → ws.length = ks.length → bindArgs fd ⟨us, ks.zip ws⟩ = pure (ps.zip (us ++ pk perm ws))) ∧ PySem.W.keepIn K (.ref (He.fAd K at_)) = true
section
variable {P : Program} {w : World} {K : PySem.W.Frag} {mg : Str → Option Value} {base : Heap} {x qual : Str} {params : Arguments} {body : List Stmt} {scope : Scope} {ps : List Str} {k : Nat} {sp : BSp} {at_ : At_}
theorem okK_of (O : Ok P w K mg base k at_ ps sp) (F : ∃ fd, FunD K x qual params body scope [] [] (He.fAd K at_) fd) {n : Nat} {ks : List Str} {perm : List Nat}
    (h : ∀ (kV doc pm : Value) (an : Option Addr) (cdv ct : Value) (us ws : List Value), us.length = n → ws.length = ks.length → bindArgs (PySem.W.fnOf x qual params body scope .none kV doc pm an cdv ct) ⟨us, ks.zip ws⟩ = pure (ps.zip (us ++ pk perm ws))) : OkK P w K mg base k at_ ps sp n ks perm := by
  obtain ⟨fd, G, b, kp, oc, od, osl, lk⟩ := O
  obtain ⟨fd', F⟩ := F
  refine ⟨fd, G, ?_, kp⟩
  obtain ⟨oc', od', dV, kV, doc, pm, an, cdv, ct, osl', e1, lk', hcd, hD, _⟩ := F.ex
  subst e1
  rw [lk] at lk'
  have e2 : fd = PySem.W.fnOf x qual params body scope dV kV doc pm an cdv ct := by
    injection (Option.some.inj lk') with _ _ h3 _
    injection h3
  subst e2
  rcases hD with ⟨_, rfl⟩ | ⟨e, _⟩
  · exact h kV doc pm an cdv ct
  · exact absurd rfl e
end
section
variable {X : Cx} {E : XK} {e o : Expr} {es : List Expr} {pos apos p kpos : Pos} {te : RE} {tr : RA} {x m : Str} {k : Nat} {ps : List Str} {sp : BSp} {c : Cl} {kws : List Keyword} {ks : List Str} {perm : List Nat} {nm : Option Str}
def BK (X : Cx) (E : XK) (kws : List Keyword) (t : RA) : Prop := PK X kws (liftA X.K E t)
theorem PK.weak {t t2 : TA} (h : PK X kws t) (w : ∀ σ H Q, t2 σ H Q → t σ H Q) : PK X kws t2 := ⟨fun pos pins s σ H Q I q => h.run pos pins s σ H Q I (w _ _ _ q)⟩
theorem bk_nil : BK X E [] rNil := PK.weak pk_nil fun σ H Q q => nil_lift q
theorem bk_cons (ha : BE X E e te) (hr : BK X E kws tr) : BK X E (⟨nm, e, kpos⟩ :: kws) (rCons te tr) := PK.weak (pk_cons ha hr) fun σ H Q ⟨τ, M, Fm, R, ex, w, h, k⟩ => by
  refine ⟨τ, M, Fm, _, ex, w, h, fun v H1 d M1 dv s1 f1 h1 => ⟨τ, M1, Fm, _, ex, w.step s1 f1, h1, fun vs H2 ds M2 dvs s2 f2 h2 => ?_⟩⟩
  exact k (v :: vs) H2 (d :: ds) M2 (.cons (dv.mono f2) dvs) s2 (f1.trans f2) h2
def rCallK (sp : BSp) (m : Nat) (perm : List Nat) (tk : RA) : RE := fun ex τ M R => tk ex τ M fun zs M2 => zs.length = m ∧ Cf sp nox (pk perm zs) M2 R
def rMethK (c : Cl) (sp : BSp) (m : Nat) (perm : List Nat) (te : RE) (tk : RA) : RE := fun ex τ M R => te ex τ M fun d M1 => IsI c d M1 ∧ tk ex τ M1 fun zs M2 => zs.length = m ∧ Cf sp nox (d :: pk perm zs) M2 R
def rMakeK (c : Cl) (sp : BSp) (m : Nat) (perm : List Nat) (tk : RA) : RE := fun ex τ M R => tk ex τ M fun zs M2 => zs.length = m ∧ ∀ p, Cf sp nox (.ref p :: pk perm zs) ((p, .ins c []) :: M2) fun v M3 => v = .non ∧ R (.ref p) M3
theorem run_kw {X : Cx} {CX : CXT} {k : Nat} {f : Addr} {fd : FuncData} {ps ks : List Str} {sp : Sp} {E : XK} {pins : List (Addr × Obj)} {σ : L2.St} {H : Hp} {s : Shared} {Q : VK} {us ws : List Value} {vs zs : List V} {perm : List Nat} (F : FnOk X.prog X.w X.K X.mg X.base CX k f fd ps sp) (hr : Room k X.A)
    (hb : bindArgs fd ⟨us, ks.zip ws⟩ = pure (ps.zip (us ++ pk perm ws))) (hx : Passes CX X E) (I : Inv X pins σ H s) (r : Vals vs us) (rz : Vals zs ws) (h : sp (vs ++ pk perm zs) H Q E) : wpAny (model X.prog X.w) X.A (call (.ref f) us (ks.zip ws)) (EP X pins σ Q) X.xe s := by
  refine wpAny_call (codeAny_mono (F.run X.A X.stack s H ⟨us, ks.zip ws⟩ (us ++ pk perm ws) (vs ++ pk perm zs) Q E hr I.env0 (.of_eq hb) (r.append (pk_vals rz perm)) h) fun r s' hq => ?_)
  cases r with
  | error e => exact hx pins σ H s e s' I hq
  | ok fl =>
    cases fl with
    | ret u => exact I.after hq
    | next => exact False.elim hq
    | brk => exact False.elim hq
    | cont => exact False.elim hq
theorem be_callK {nk : Nat} (O : OkK X.prog X.w X.K X.mg X.base k (x, none) ps sp 0 ks perm) (hr : Room k X.A) (hg : Gl X x) (hm : X.mg x = some (.ref (He.ga X.K x))) (hkw : BK X E kws tr)
    (hn : ks.length = nk := by rfl) (hall : (backToKw pos (keywordEach kws X.env)).all (·.1.isSome) = true := by rfl) (hks : (backToKw pos (keywordEach kws X.env)).filterMap (·.1) = ks := by rfl) (hdb : (x == ("__debug__" : Str)) = false := by decide)
    (hpl : ((backTo pos (starEach [] X.env)).any (·.1) || (backToKw pos (keywordEach kws X.env)).any (·.1.isNone)) = false := by rfl) : BE X E (.Call (.Name x p) [] kws pos) (rCallK sp nk perm tr) := by
  subst hn
  obtain ⟨fd, F, hb, kp⟩ := O
  refine ⟨fun pins s σ H Q I ⟨τ, M, Fm, R, ex, w, h, kk⟩ => ?_⟩
  refine wpAny_Call_Name_kw (ld_glob I hg hm ?_ hdb)
  refine PySem.W.callWith_KW0 (h₀ := X.base) I.ok.mod.kin kp hall (thn (hkw.run pos pins s σ H (fun zs H2 => zs.length = ks.length ∧ liftSp X.K sp (pk perm zs) H2 Q E0) I ⟨τ, M, Fm, _, ex, w, h, fun vs H2 ds M2 dvs s2 f2 ⟨l, q⟩ => ⟨dvs.length.trans l, cf_lift (pk_dvs dvs perm) s2 xp_nox q (kk.mono f2)⟩⟩) fun ws s2 ⟨zs, H2, I2, rz, l, q2⟩ => ⟨I2.kIn, ?_⟩) hpl
  rw [hks]
  exact run_kw (us := []) (vs := []) F hr (hb [] ws rfl (rz.length.symm.trans l)) pass0 I2 .nil rz q2
theorem be_methK {nk : Nat} (O : OkK X.prog X.w X.K X.mg X.base k (c.nm, some m) ps sp 1 ks perm) (hr : Room k X.A) (hc : Cls X.K (ca X.K c)) (hm : Meth X.K (ca X.K c) m (He.ma X.K (ca X.K c) m)) (hl : m ∉ lay c) (he : BE X E o te) (hkw : BK X E kws tr)
    (hn : ks.length = nk := by rfl) (hall : (backToKw pos (keywordEach kws X.env)).all (·.1.isSome) = true := by rfl) (hks : (backToKw pos (keywordEach kws X.env)).filterMap (·.1) = ks := by rfl)
    (hpl : ((backTo pos (starEach [] X.env)).any (·.1) || (backToKw pos (keywordEach kws X.env)).any (·.1.isNone)) = false := by rfl) {pl : Sem Bool}
    (ht : eval (.Call (.Attribute o m apos) [] kws pos) X.env = (do
      let ov ← eval o X.env
      standAt apos.atName
      let (f, first) ← holding [ov] (getMethod ov m pl)
      callWith pos f first (backTo pos (starEach [] X.env)) (backToKw pos (keywordEach kws X.env))) := by rfl) : BE X E (.Call (.Attribute o m apos) [] kws pos) (rMethK c sp nk perm te tr) := by
  subst hn
  obtain ⟨fd, F, hb, kp⟩ := O
  refine ⟨fun pins s σ H Q I ⟨τ, M, Fm, R, ex, w, h, kk⟩ => ?_⟩
  refine PySem.W.methodCall_KW (pl := pl) (thn (he.run pins s σ H (fun v H1 => ∃ a dx vs, v = .ref a ∧ H1 a = some (.ins (ca X.K c) dx ((lay c).zip vs)) ∧ liftA X.K E tr σ H1 fun zs H2 => zs.length = ks.length ∧ liftSp X.K sp (.ref a :: pk perm zs) H2 Q E0) I ⟨τ, M, Fm, _, ex, w, h, fun v H1 d M1 dv s1 f1 ⟨hi, h1⟩ => ?_⟩) fun u s1 ⟨v, H1, I1, rv, a, dx, vs, e1, h2, h3⟩ => ?_) ht
  · obtain ⟨a, dx, vs, e1, h2⟩ := hi.ho dv s1
    subst e1
    exact ⟨a, dx, vs, rfl, h2, τ, M1, Fm, _, ex, w.step s1 f1, h1, fun zs H2 ds M2 dvs s2 f2 ⟨l, q⟩ => ⟨dvs.length.trans l, cf_lift (.cons (dv.mono f2) (pk_dvs dvs perm)) s2 xp_nox q ((kk.mono f1).mono f2)⟩⟩
  · subst e1
    obtain rfl : u = Value.ref a := rv
    refine getmeth_ok I1 h2 hc hm (look_none hl) ?_
    refine PySem.W.callWith_KW0 (first := [.ref a]) (h₀ := X.base) I1.ok.mod.kin hm.kp hall (thn (hkw.run pos pins s1 σ H1 _ I1 h3) fun ws s2 ⟨zs, H2, I2, rz, l, q2⟩ => ⟨I2.kIn, ?_⟩) hpl
    rw [hks]
    exact run_kw (us := [.ref a]) (vs := [.ref a]) F hr (hb [.ref a] ws rfl (rz.length.symm.trans l)) pass0 I2 (.cons rfl .nil) rz q2
theorem be_makeK {nk : Nat} (O : OkK X.prog X.w X.K X.mg X.base k (c.nm, some "__init__") ps sp 1 ks perm) (hr : Room (k + 1) X.A) (hk : Mk X.K (ca X.K c) (He.ma X.K (ca X.K c) "__init__")) (hx : c.nm = x) (hg : Gl X x) (hm : X.mg x = some (.ref (He.ga X.K x))) (hkw : BK X E kws tr)
    (hn : ks.length = nk := by rfl) (hall : (backToKw pos (keywordEach kws X.env)).all (·.1.isSome) = true := by rfl) (hks : (backToKw pos (keywordEach kws X.env)).filterMap (·.1) = ks := by rfl) (hdb : (x == ("__debug__" : Str)) = false := by decide)
    (hpl : ((backTo pos (starEach [] X.env)).any (·.1) || (backToKw pos (keywordEach kws X.env)).any (·.1.isNone)) = false := by rfl) : BE X E (.Call (.Name x p) [] kws pos) (rMakeK c sp nk perm tr) := by
  subst hn
  obtain ⟨fd, F, hb, kp⟩ := O
  subst hx
  have hb2 : KBn X.K fd ps 1 ks (fun us ws => us ++ pk perm ws) (fun vs zs => vs ++ pk perm zs) := ⟨fun s us ws _ l1 l2 => .of_eq (hb us ws l1 l2), fun r1 r2 => r1.append (pk_vals r2 perm)⟩
  refine PE.weak (pe_makeK0 hk F hr hg hm hb2 pass0 hkw hall hks hdb hpl) fun σ H Q ⟨τ, M, Fm, R, ex, w, h, kk⟩ => ?_
  show liftA X.K E tr σ H _
  refine ⟨τ, M, Fm, _, ex, w, h, fun vs H1 ds M1 dvs s1 f1 ⟨l, h1⟩ => ⟨rfl, dvs.length.trans l, fun x dx hx hdx ne => ?_⟩⟩
  have q := make_lift (E' := E0) (pk_dvs dvs perm) s1 (fun H2 L2 f2 => xp_nox) h1 (kk.mono f1) x dx hx hdx ne
  rw [List.append_nil] at q
  exact q
end
section
variable {X : Cx} {E : XK} {es : List Expr} {pos : Pos} {st : List Stmt}
theorem bss_never : BSs X E st sNever := ⟨fun pins s σ H Dn I ⟨τ, M, Fm, B, w, h, _⟩ => h.elim⟩
/-- a, b, .. = an owned list of that length -/
def gLst (n : Nat) (gs : RGs) : RG := fun ex d τ M R => ∃ a ds k, d = .ref a ∧ At M a (.lst ds) k ∧ ds.length = n ∧ gs ex ds τ M R
theorem bg_lst {k : Nat} {gs : RGs} {n : Nat} (hc : X.calm = true) (h : BGs X E es gs) (hn : (assignEach es X.env).length = n := by rfl) (hst : (assignEach es X.env).findIdx? (·.1) = none := by rfl) : BG X E (.Tuple es k pos) (gLst n gs) := PG.weak (pg_lst hc h hn hst) fun v σ H Q ⟨d, τ, M, Fm, R, ex, dv, w, ⟨a, ds, k, e, ha, hl, h⟩, kk⟩ => by
  subst e
  cases dv
  obtain ⟨vs, h1, hs⟩ := w.sr.at ha.hid
  exact ⟨_, _, rfl, .inl (.inl h1), hs.length.trans hl, ds, τ, M, Fm, R, ex, hs, w, h, kk⟩
end
end BV
set_option maxHeartbeats 4000000
namespace BV
open PySem
/-! ### more steps -/
section
variable {ex : BX} {τ : BSt} {M : Mm} {R : BQ} {B : BEnds} {ta tb tc te : RE} {t u : RS} {ct cu : RT} {r r' : R2B} {d e f : D} {i : Nat} {tr : RA} {RA' : List D → Mm → Prop} {RT' : Bool → Mm → Prop} {Q : BSt → Mm → Prop}
theorem q_inT {es : List D} {b : Bool} (p1 : pd 60 d = true) (p2 : pds 60 es = true) (hb : es.any (deq · d) = b) (k : R (.bl b) M) : oInX d (.tup es) M R := .inl ⟨es, .tup es, .inr rfl, .inr rfl, p1, p2, by subst hb; exact k⟩
theorem q_inS {c : Nat} {z : Str} (k : R (.bl (decide (c ∈ z.cps.toList))) M) : oInX (.str ⟨#[c]⟩) (.str z) M R := .inr ⟨c, z, rfl, rfl, k⟩
theorem q_notInT {es : List D} {b : Bool} (p1 : pd 60 d = true) (p2 : pds 60 es = true) (hb : es.any (deq · d) = b) (k : R (.bl (!b)) M) : oIn true d (.tup es) M R := ⟨es, .tup es, .inr rfl, .inr rfl, p1, p2, by subst hb; exact k⟩
theorem q_notInR {es : List D} {a : Addr} {kk : MO → Mm} {b : Bool} (h : At M a (.lst es) kk) (p1 : pd 60 d = true) (p2 : pds 60 es = true) (hb : es.any (deq · d) = b) (k : R (.bl (!b)) M) : oIn true d (.ref a) M R := ⟨es, .lst es, .inl rfl, .inl ⟨es, rfl, a, kk, rfl, h⟩, p1, p2, by subst hb; exact k⟩
theorem q_ownV {ds : List D} {P : Prop} (kk : P) : Tp M (.lst ds) "list" ∧ P := ⟨.lst ds, kk⟩
theorem q_index2 {a b x : Str} {j : Nat} (h : idxS x [a, b] = some j) (k : R (.int (j : Nat)) M) : mIndex (.lst [.str a, .str b]) [.str x] M R := ⟨[a, b], x, j, rfl, rfl, h, k⟩
theorem q_indexA {a b : Str} (k : R (.int 0) M) : mIndex (.lst [.str a, .str b]) [.str a] M R := ⟨[a, b], a, 0, rfl, rfl, by unfold idxS; rw [if_pos rfl], k⟩
theorem q_indexB {a b : Str} (h : decide (a = b) = false) (k : R (.int 1) M) : mIndex (.lst [.str a, .str b]) [.str b] M R := ⟨[a, b], b, 1, rfl, rfl, by
  unfold idxS
  rw [if_neg (of_decide_eq_false h)]
  unfold idxS
  rw [if_pos rfl]
  rfl, k⟩
theorem q_gSub {rs : RSet} (k : ta ex τ M fun d1 M1 => tb ex τ M1 fun e M2 => rs d1 e d M2 fun M3 => Q τ M3) : gSub ta tb rs ex d τ M Q := k
theorem q_setL {a : Addr} {ds es : List D} {n : Int} {j : Nat} {v : D} {kk : MO → Mm} {P : Mm → Prop} (h : At M a (.lst ds) kk) (hj : L2.ixN ds.length n = some j) (he : ds.set j v = es) (k : P (kk (.lst es))) : oSetL (.ref a) (.int n) v M P := by
  subst he
  exact ⟨a, ds, n, j, kk, rfl, h, rfl, hj, k⟩
theorem q_setD {a : Addr} {kvs : List (Str × D)} {x : Str} {v : D} {kk : MO → Mm} {P : Mm → Prop} (h : At M a (.dct kvs) kk) (hz : Sz kvs.length) (k : P (kk (.dct (setK kvs x v)))) : oSetD (.ref a) (.str x) v M P := ⟨a, kvs, x, kk, rfl, h, rfl, hz, k⟩
theorem q_cb {rb : RB} (k : tr ex τ M fun ds M1 => rb ds M1 R) : rCB rb tr ex τ M R := k
theorem q_isi {n : TyN} {t : TyN} {s : String} (hn : n.nm = s) (h : TyD M d t) (k : R (.bl (subTy t n)) M) : bIsi n [d, .ty s] M R := by
  subst hn
  exact ⟨d, t, rfl, h, k⟩
theorem q_isi2 {n m : TyN} {t : TyN} {s s2 : String} (hn : n.nm = s) (hm : m.nm = s2) (h : TyD M d t) (k : R (.bl (subTy t n || subTy t m)) M) : bIsi2 n m [d, .tup [.ty s, .ty s2]] M R := by
  subst hn
  subst hm
  exact ⟨d, t, rfl, h, k⟩
theorem q_lenT {es : List D} (k : R (.int es.length) M) : bLenX [.tup es] M R := .inl ⟨_, rfl, .inl ⟨es, .inl rfl, k⟩⟩
theorem q_lenL {es : List D} (k : R (.int es.length) M) : bLenX [.lst es] M R := .inl ⟨_, rfl, .inl ⟨es, .inr (.inl rfl), k⟩⟩
theorem q_lenR {a : Addr} {es : List D} {kk : MO → Mm} (h : At M a (.lst es) kk) (k : R (.int es.length) M) : bLenX [.ref a] M R := .inl ⟨_, rfl, .inl ⟨es, .inr (.inr ⟨a, kk, rfl, h⟩), k⟩⟩
theorem q_lenS {z : Str} (h : Sz z.length) (k : R (.int z.length) M) : bLenX [.str z] M R := .inl ⟨_, rfl, .inr (.inl ⟨z, rfl, h, k⟩)⟩
theorem q_lenSc {ns : List Int} (k : R (.int ns.length) M) : bLenX [.scr ns] M R := .inl ⟨_, rfl, .inr (.inr ⟨ns, rfl, k⟩)⟩
theorem q_lenD {a : Addr} {kvs : List (Str × D)} {kk : MO → Mm} (h : At M a (.dct kvs) kk) (k : R (.int kvs.length) M) : bLenX [.ref a] M R := .inr ⟨a, kvs, kk, rfl, h, k⟩
theorem q_all {bs : List Bool} (k : R (.bl (bs.all id)) M) : bAll [.lst (bs.map .bl)] M R := ⟨bs, rfl, k⟩
theorem q_intI {j : Int} (k : R (.int j) M) : bInt [.int j] M R := .inl ⟨j, rfl, k⟩
theorem q_intB {b : Bool} (k : R (.int (if b then 1 else 0)) M) : bInt [.bl b] M R := .inr ⟨b, rfl, k⟩
theorem q_listR {a : Addr} {es : List D} {kk : MO → Mm} (h : At M a (.lst es) kk) (k : R (.lst es) M) : bListX [.ref a] M R := .inl ⟨_, es, rfl, .inr (.inr ⟨a, kk, rfl, h⟩), k⟩
theorem q_listT {es : List D} (k : R (.lst es) M) : bListX [.tup es] M R := .inl ⟨_, es, rfl, .inl rfl, k⟩
theorem q_listL {es : List D} (k : R (.lst es) M) : bListX [.lst es] M R := .inl ⟨_, es, rfl, .inr (.inl rfl), k⟩
theorem q_listD {a : Addr} {kvs : List (Str × D)} {kk : MO → Mm} (h : At M a (.dct kvs) kk) (k : R (.lst (keysD kvs)) M) : bListX [.ref a] M R := .inr ⟨a, kvs, kk, rfl, h, k⟩
theorem q_listO {a : Addr} {es : List D} {kk : MO → Mm} (h : At M a (.lst es) kk) (k : ∀ p, R (.ref p) ((p, .lst es) :: M)) : bListO [.ref a] M R := ⟨_, es, rfl, .inr (.inr ⟨a, kk, rfl, h⟩), k⟩
theorem q_listOT {es : List D} (k : ∀ p, R (.ref p) ((p, .lst es) :: M)) : bListO [.tup es] M R := ⟨_, es, rfl, .inl rfl, k⟩
theorem q_tupR {a : Addr} {es : List D} {kk : MO → Mm} (h : At M a (.lst es) kk) (k : R (.tup es) M) : bTuple [.ref a] M R := ⟨_, es, rfl, .inr (.inr ⟨a, kk, rfl, h⟩), k⟩
theorem q_tupL {es : List D} (k : R (.tup es) M) : bTuple [.lst es] M R := ⟨_, es, rfl, .inr (.inl rfl), k⟩
theorem q_dictO {a : Addr} {kvs : List (Str × D)} {kk : MO → Mm} (h : At M a (.dct kvs) kk) (k : ∀ p, R (.ref p) ((p, .dct kvs) :: M)) : bDictO [.ref a] M R := ⟨a, kvs, kk, rfl, h, k⟩
theorem q_chain (k : ta ex τ M fun d M1 => tb ex τ M1 fun e M2 => r d e M2 fun z M3 => ∃ k, z = .bl k ∧ if k = true then tc ex τ M3 fun f M4 => r' e f M4 R else R (.bl false) M3) : rChain r r' ta tb tc ex τ M R := k
theorem q_gTup {n : Nat} {gs : RGs} {ds : List D} (hl : ds.length = n) (k : gs ex ds τ M Q) : BV.gTup n gs ex (.tup ds) τ M Q := ⟨ds, rfl, hl, k⟩
theorem q_gLst {n : Nat} {gs : RGs} {a : Addr} {ds : List D} {kk : MO → Mm} (h : At M a (.lst ds) kk) (hl : ds.length = n) (k : gs ex ds τ M Q) : gLst n gs ex (.ref a) τ M Q := ⟨a, ds, kk, rfl, h, hl, k⟩
theorem q_gCons {g : RG} {gs : RGs} {ds : List D} (k : g ex d τ M fun τ1 M1 => gs ex ds τ1 M1 Q) : BV.gCons g gs ex (d :: ds) τ M Q := ⟨d, ds, rfl, k⟩
theorem q_gNil (k : Q τ M) : BV.gNil ex [] τ M Q := ⟨rfl, k⟩
theorem q_par {a b : Nat} (k : tr B.ex τ M fun ds M1 => ∃ d e, ds = [d, e] ∧ B.nx ((τ.set a (some d)).set b (some e)) M1) : sPar a b tr B τ M := k
theorem q_two {P : D → D → Prop} (k : P d e) : ∃ d' e', [d, e] = [d', e'] ∧ P d' e' := ⟨d, e, rfl, k⟩
theorem q_par3 {a b c : Nat} (k : tr B.ex τ M fun ds M1 => ∃ d e f, ds = [d, e, f] ∧ B.nx (((τ.set a (some d)).set b (some e)).set c (some f)) M1) : sPar3 a b c tr B τ M := k
theorem q_three {P : D → D → D → Prop} (k : P d e f) : ∃ d' e' f', [d, e, f] = [d', e', f'] ∧ P d' e' f' := ⟨d, e, f, rfl, k⟩
theorem q_saug {n : Nat} (h : τ[n]? = some (some d)) (k : te B.ex τ M fun e M1 => r d e M1 fun z M2 => B.nx (τ.set n (some z)) M2) : sAug n te r B τ M := ⟨d, h, k⟩
theorem q_dictN (k : ∀ p, R (.ref p) ((p, .dct []) :: M)) : rDictO ex τ M R := k
theorem q_for {it : RI} {g : RG} {body : RS} (k : it B.ex τ M fun ds M1 => forW g body B ds τ M1) : sFor it g body B τ M := k
theorem q_rng1 (k : tr ex τ M fun ds M1 => ∃ j : Int, ds = [.int j] ∧ Bd62 j ∧ RA' (rngD 0 j.toNat) M1) : iRng1 tr ex τ M RA' := k
theorem q_rng2 (k : tr ex τ M fun ds M1 => ∃ i j : Int, ds = [.int i, .int j] ∧ Bd62 i ∧ Bd62 j ∧ RA' (rngD i (j - i).toNat) M1) : iRng2 tr ex τ M RA' := k
theorem q_lc {it : RI} {g : RCg} {tt : RT} {vs : List Nat} (k : it ex τ M fun ds M1 => lcW g tt te nox (wipeB τ vs) (fun acc M2 => R (.lst acc) M2) ds [] M1) : rLc it g tt te vs ex τ M R := k
theorem q_lcO {it : RI} {g : RCg} {tt : RT} {vs : List Nat} (k : it ex τ M fun ds M1 => lcW g tt te nox (wipeB τ vs) (fun acc M2 => ∀ p, R (.ref p) ((p, .lst acc) :: M2)) ds [] M1) : rLcO it g tt te vs ex τ M R := k
theorem q_yes (k : RT' true M) : rYes ex τ M RT' := k
theorem q_cN {Q : BSt → Prop} (k : Q (τ.set i (some d))) : cN i d τ Q := k
theorem q_make0 {c : Cl} {sp : BSp} (k : tr ex τ M fun ds M1 => ∀ p, Cf sp nox (.ref p :: ds) ((p, .ins c []) :: M1) fun v M2 => v = .non ∧ R (.ref p) M2) : rMake0 c sp tr ex τ M R := k
theorem q_isP {c : Cl} {P : Prop} (h : IsI c d M) (kk : P) : IsI c d M ∧ P := ⟨h, kk⟩
theorem at_nat {l : List D} {j : Nat} {z : D} (h : l[j]? = some z) : L2.atI l (j : Nat) = some z := by
  have hl : j < l.length := (List.getElem?_eq_some_iff.mp h).1
  unfold L2.atI L2.ixN
  rw [if_pos (by omega), if_pos (by omega)]
  exact h
theorem at_zero {l : List D} {z : D} : L2.atI (z :: l) 0 = some z := at_nat (j := 0) rfl
theorem q_strI (k : te ex τ M fun d M1 => ∃ z, d = .str z ∧ RA' (signsD z) M1) : iStrB te ex τ M RA' := k
theorem q_enumT (k : tr ex τ M fun ds M1 => ∃ es, ds = [.tup es] ∧ RA' (enumD 0 es) M1) : iEnumT tr ex τ M RA' := k
def Stop (p : Prop) : Prop := p
theorem q_stop (h : t { B with nx := fun τ M => Stop (CvS τ M (u B)) } τ M) : sSeq t u B τ M := h
theorem stop_go {P : BSt → Mm → Prop} (h : P τ M) : Stop (CvS τ M P) := .go h
theorem stop_cv {P : BSt → Mm → Prop} {τ2 : BSt} {M2 : Mm} (c : Cv τ M τ2 M2) (h : P τ2 M2) : Stop (CvS τ M P) := ⟨τ2, M2, c, h⟩
theorem q_retS (k : te B.ex τ M fun d M1 => Stop (CvV d M1 B.rt)) : sRet te B τ M := k
theorem stopV_go (h : R d M) : Stop (CvV d M R) := .go h
theorem stopV_cv {M2 : Mm} {d2 : D} (c : CvA [d] M [d2] M2) (h : R d2 M2) : Stop (CvV d M R) := ⟨d2, M2, c, h⟩
theorem q_goS (h : u B τ M) : CvS τ M (u B) := .go h
theorem q_sz {n : Nat} {P : Prop} (h : Sz n) (k : P) : Sz n ∧ P := ⟨h, k⟩
theorem q_szA {n : Nat} {P : Addr → Prop} (h : Sz n) (k : ∀ p, P p) : Sz n ∧ ∀ p, P p := ⟨h, k⟩
theorem q_oadd {i j : Int} (k : R (.int (i + j)) M) : oAdd (.int i) (.int j) M R := ⟨i, j, rfl, rfl, True.intro, k⟩
theorem q_osub {i j : Int} (k : R (.int (i - j)) M) : oSub (.int i) (.int j) M R := ⟨i, j, rfl, rfl, True.intro, k⟩
theorem q_omod {i j : Int} (h : 0 < j) (k : R (.int (i % j)) M) : oMod (.int i) (.int j) M R := ⟨i, j, rfl, rfl, h, k⟩
theorem q_odiv {i j : Int} (h : L2.CDivW i j) (k : R (.int (i / j)) M) : oDiv (.int i) (.int j) M R := ⟨i, j, rfl, rfl, h, k⟩
theorem q_omul {i j : Int} (h : L2.CMulW i j) (k : R (.int (i * j)) M) : oMul (.int i) (.int j) M R := ⟨i, j, rfl, rfl, h, k⟩
theorem q_opow {i j : Int} (h : CPowB i j) (k : R (.int (i ^ j.toNat)) M) : oPow (.int i) (.int j) M R := ⟨i, j, rfl, rfl, h, k⟩
theorem q_lt {i j : Int} (k : R (.bl (decide (i < j))) M) : oLt (.int i) (.int j) M R := ⟨i, j, rfl, rfl, True.intro, k⟩
theorem q_le {i j : Int} (k : R (.bl (decide (i ≤ j))) M) : oLe (.int i) (.int j) M R := ⟨i, j, rfl, rfl, True.intro, k⟩
theorem q_gt {i j : Int} (k : R (.bl (decide (j < i))) M) : oGt (.int i) (.int j) M R := ⟨i, j, rfl, rfl, True.intro, k⟩
theorem q_ge {i j : Int} (k : R (.bl (decide (j ≤ i))) M) : oGe (.int i) (.int j) M R := ⟨i, j, rfl, rfl, True.intro, k⟩
/-- an iteration over what is a list or a tuple -/
theorem q_seqI (k : te ex τ M fun d M1 => ∃ ds, d = .lst ds ∧ RA' ds M1) : iSeq te ex τ M RA' := .inl k
theorem q_seqT (k : te ex τ M fun d M1 => ∃ ds, d = .tup ds ∧ RA' ds M1) : iSeq te ex τ M RA' := .inr k
theorem q_lstX {ds : List D} {P : List D → Prop} (k : P ds) : ∃ es, D.lst ds = .lst es ∧ P es := ⟨ds, rfl, k⟩
theorem q_tupX {ds : List D} {P : List D → Prop} (k : P ds) : ∃ es, D.tup ds = .tup es ∧ P es := ⟨ds, rfl, k⟩
theorem q_popO {a : Addr} {z : D} {es : List D} {kk : MO → Mm} (h : At M a (.lst (z :: es)) kk) (k : R z (kk (.lst es))) : mPop0 (.ref a) [.int 0] M R := ⟨a, es, z, kk, rfl, rfl, h, k⟩
end
section
variable {ex : BX} {M : Mm} {R : BQ} {sp : BSp} {ds : List D}
/-- a callee that takes what is ahead -/
theorem cf_head {Mc Fc : Mm} (h : sp (fun c fs M' => ex c fs (M' ++ Fc)) ds Mc fun r M' => R r (M' ++ Fc)) : Cf sp ex ds (Mc ++ Fc) R := ⟨ds, Mc, Fc, .refl, h⟩
/-- a callee that takes all -/
theorem cf_whole (h : sp ex ds M R) : Cf sp ex ds M R := ⟨ds, M, [], by rw [List.append_nil]; exact .refl, by simp only [List.append_nil]; exact h⟩
end
end BV
namespace BV
open PySem
section
variable {α : Type} {enc val : α → D} {i : Nat} {te : RE} {tt : RT} {τ : BSt} {K : List D → Mm → Prop} {M : Mm}
/-- a comprehension that leaves the heap as it is -/
theorem lc_map : ∀ {xs : List α} {acc : List D}, (∀ x ∈ xs, ∀ R : BQ, R (val x) M → te nox (τ.set i (some (enc x))) M R) → Sz (acc.length + xs.length) → K (acc ++ xs.map val) M → lcW (cN i) rYes te nox τ K (xs.map enc) acc M
  | [], acc, _, _, k => by
    rw [List.map_nil, List.append_nil] at k
    exact k
  | x :: xs, acc, h, hz, k => by
    rw [List.length_cons] at hz
    show te nox (τ.set i (some (enc x))) M _
    refine h x List.mem_cons_self _ ⟨Nat.le_trans (by omega) hz, ?_⟩
    refine lc_map (fun y hy => h y (List.mem_cons_of_mem _ hy)) (by rw [List.length_append, List.length_singleton]; exact Nat.le_trans (by omega) hz) ?_
    rw [List.append_assoc]
    exact k
theorem lc_filter {p : α → Bool} : ∀ {xs : List α} {acc : List D}, (∀ x ∈ xs, ∀ R : Bool → Mm → Prop, R (p x) M → tt nox (τ.set i (some (enc x))) M R) → (∀ x ∈ xs, p x = true → ∀ R : BQ, R (val x) M → te nox (τ.set i (some (enc x))) M R) → Sz (acc.length + xs.length) → K (acc ++ (xs.filter p).map val) M → lcW (cN i) tt te nox τ K (xs.map enc) acc M
  | [], acc, _, _, _, k => by
    rw [List.filter_nil, List.map_nil, List.append_nil] at k
    exact k
  | x :: xs, acc, h, h2, hz, k => by
    rw [List.length_cons] at hz
    show tt nox (τ.set i (some (enc x))) M _
    refine h x List.mem_cons_self _ ?_
    have hp : ∀ y ∈ xs, _ := fun y hy => h y (List.mem_cons_of_mem _ hy)
    have hp2 : ∀ y ∈ xs, _ := fun y hy => h2 y (List.mem_cons_of_mem _ hy)
    cases e : p x with
    | true =>
      rw [List.filter_cons, if_pos e] at k
      rw [if_pos rfl]
      refine h2 x List.mem_cons_self e _ ⟨Nat.le_trans (by omega) hz, ?_⟩
      refine lc_filter hp hp2 (by rw [List.length_append, List.length_singleton]; exact Nat.le_trans (by omega) hz) ?_
      rw [List.append_assoc]
      exact k
    | false =>
      rw [List.filter_cons, if_neg (by rw [e]; exact Bool.false_ne_true)] at k
      rw [if_neg Bool.false_ne_true]
      exact lc_filter hp hp2 (Nat.le_trans (by omega) hz) k
end
theorem all_map_id {α : Type} {f : α → Bool} {l : List α} : (l.map f).all id = l.all f := by
  rw [List.all_map]
  rfl
theorem map_bl {α : Type} {f : α → Bool} {l : List α} : l.map (fun x => D.bl (f x)) = (l.map f).map .bl := by rw [List.map_map]; rfl
section
variable {ex : BX} {τ : BSt} {M : Mm} {R : BQ} {td ty te : RE} {x : Str} {a : Addr} {kvs : List (Str × D)} {kk : MO → Mm} {z : D}
theorem q_dget (k : td ex τ M fun d M1 => ty ex τ M1 fun y M2 => ∃ kvs k, DctD d M2 kvs ∧ y = .str k ∧ ∃ z, getK kvs k = some z ∧ R z M2) : rDGet td ty ex τ M R := k
theorem q_dinT (k : ty ex τ M fun y M1 => td ex τ M1 fun d M2 => ∃ kvs k, DctD d M2 kvs ∧ y = .str k ∧ R (.bl (!(getK kvs k).isSome)) M2) : rDIn true ty td ex τ M R := k
theorem q_dinF (k : ty ex τ M fun y M1 => td ex τ M1 fun d M2 => ∃ kvs k, DctD d M2 kvs ∧ y = .str k ∧ R (.bl (getK kvs k).isSome) M2) : rDIn false ty td ex τ M R := k
theorem q_dctE {P : List (Str × D) → Str → Prop} (h : At M a (.dct kvs) kk) (k : P kvs x) : ∃ kvs k, DctD (.ref a) M kvs ∧ D.str x = .str k ∧ P kvs k := ⟨kvs, x, ⟨a, kk, rfl, .inl h⟩, rfl, k⟩
theorem q_dctL {P : List (Str × D) → Str → Prop} {o : Obj} {ws : List (L2.Key × L2.V)} (h : At M a (.dcl o ws kvs) kk) (k : P kvs x) : ∃ kvs k, DctD (.ref a) M kvs ∧ D.str x = .str k ∧ P kvs k := ⟨kvs, x, ⟨a, kk, rfl, .inr ⟨o, ws, h⟩⟩, rfl, k⟩
theorem q_getE {P : D → Prop} {k : List (Str × D)} (hz : getK k x = some z) (kk : P z) : ∃ z, getK k x = some z ∧ P z := ⟨z, hz, kk⟩
theorem q_dget1 (k : td ex τ M fun d M1 => (∃ kvs, DctD d M1 kvs) ∧ ty ex τ M1 fun y M2 => ∃ kvs k, DctD d M2 kvs ∧ y = .str k ∧ R ((getK kvs k).getD .non) M2) : rDGet1 td ty ex τ M R := k
theorem q_isDct {P : Prop} (h : At M a (.dct kvs) kk) (k : P) : (∃ kvs, DctD (.ref a) M kvs) ∧ P := ⟨⟨kvs, a, kk, rfl, .inl h⟩, k⟩
theorem q_orT {ta tb : RE} (k : ta ex τ M fun d M1 => ∃ k, truD d = some k ∧ if k = true then R d M1 else tb ex τ M1 R) : rOrT ta tb ex τ M R := k
theorem q_orTT {b : Bool} {d : D} {A B : Prop} (h : truD d = some b) (k : if b = true then A else B) : ∃ k, truD d = some k ∧ if k = true then A else B := ⟨b, h, k⟩
theorem q_bool {sp : BSp} {d : D} {b : Bool} {P : D → Bool → Mm → Prop} (k : P (.bl b) b M) : ∃ b', D.bl b = .bl b' ∧ P (.bl b) b' M := ⟨b, rfl, k⟩
end
theorem q_dct {ex : BX} {τ : BSt} {M : Mm} {te : RE} {RA' : List D → Mm → Prop} {mk : List (Str × D) → List D} {a : Addr} {o : Obj} {ws : List (L2.Key × L2.V)} {kvs : List (Str × D)} (k : te ex τ M fun d M1 => d = .ref a ∧ (∃ k, At M1 a (.dcl o ws kvs) k) ∧ RA' (mk kvs) M1) : iDct mk te a o ws kvs ex τ M RA' := k
theorem lcG_filter {α : Type} {G : Mm → Prop} {g : RCg} {tt : RT} {te : RE} {τ : BSt} {K : List D → Mm → Prop} {M : Mm} {enc val : α → D} {σ : α → BSt} {p : α → Bool} (hG : G M) : ∀ {xs : List α} {acc : List D}, (∀ x ∈ xs, ∀ Q : BSt → Prop, Q (σ x) → g (enc x) τ Q) → (∀ x ∈ xs, ∀ R : Bool → Mm → Prop, R (p x) M → tt nox (σ x) M R) → (∀ x ∈ xs, p x = true → ∀ R : BQ, R (val x) M → te nox (σ x) M R) → Sz (acc.length + xs.length) → K (acc ++ (xs.filter p).map val) M → lcG G g tt te nox τ K (xs.map enc) acc M
  | [], acc, _, _, _, _, k => by
    rw [List.filter_nil, List.map_nil, List.append_nil] at k
    exact ⟨hG, k⟩
  | x :: xs, acc, hc, h, h2, hz, k => by
    rw [List.length_cons] at hz
    refine ⟨hG, hc x List.mem_cons_self _ ?_⟩
    refine h x List.mem_cons_self _ ?_
    have hc2 : ∀ y ∈ xs, _ := fun y hy => hc y (List.mem_cons_of_mem _ hy)
    have hp : ∀ y ∈ xs, _ := fun y hy => h y (List.mem_cons_of_mem _ hy)
    have hp2 : ∀ y ∈ xs, _ := fun y hy => h2 y (List.mem_cons_of_mem _ hy)
    cases e : p x with
    | true =>
      rw [List.filter_cons, if_pos e] at k
      rw [if_pos rfl]
      refine h2 x List.mem_cons_self e _ ⟨Nat.le_trans (by omega) hz, ?_⟩
      refine lcG_filter hG hc2 hp hp2 (by rw [List.length_append, List.length_singleton]; exact Nat.le_trans (by omega) hz) ?_
      rw [List.append_assoc]
      exact k
    | false =>
      rw [List.filter_cons, if_neg (by rw [e]; exact Bool.false_ne_true)] at k
      rw [if_neg Bool.false_ne_true]
      exact lcG_filter hG hc2 hp hp2 (Nat.le_trans (by omega) hz) k
end BV
set_option maxHeartbeats 4000000
/-! the plain law of tickets: what a work does -/
namespace BV
open PySem
structure Tk where
  ph : Str
  pl : Str
  an : Bool
  wa : Int
  ma : Bool
def Tk.l (t : Tk) : List D := [.str t.ph, .str t.pl, .bl t.an, .int t.wa, .bl t.ma]
def Tk.d (t : Tk) : D := .tup t.l
def Tk.ok (t : Tk) : Prop := sok t.ph ∧ sok t.pl
inductive Tst where
  | sta (s : Str) (b : Bool) | dsk (s : Str) (b : Bool) | day (n : Int) | ans (b : Bool) | mrk (b : Bool)
def Tst.l : Tst → List D
  | .sta s b => [.str "status", .str s, .bl b]
  | .dsk s b => [.str "desk", .str s, .bl b]
  | .day n => [.str "days", .int n]
  | .ans b => [.str "answered", .bl b]
  | .mrk b => [.str "marked", .bl b]
def Tst.d (t : Tst) : D := .tup t.l
def Tst.sk : Tst → Prop
  | .sta s _ => sok s
  | .dsk s _ => sok s
  | _ => True
inductive Act where
  | sta (s : Str) | dsk (s : Str) | mrk (b : Bool) | reply | stop
def Act.l : Act → List D
  | .sta s => [.str "status", .str s]
  | .dsk s => [.str "desk", .str s]
  | .mrk b => [.str "mark", .bl b]
  | .reply => [.str "reply"]
  | .stop => [.str "stop"]
def Act.d (t : Act) : D := .tup t.l
def Act.sk : Act → Prop
  | .sta s => sok s
  | .dsk s => sok s
  | _ => True
structure Rule where
  ev : Str
  ts : List Tst
  as : List Act
def Rule.d (r : Rule) : D := .tup [.str r.ev, .tup (r.ts.map Tst.d), .tup (r.as.map Act.d)]
def Rule.sk (r : Rule) : Prop := sok r.ev ∧ (∀ t ∈ r.ts, t.sk) ∧ (∀ a ∈ r.as, a.sk) ∧ r.as.length ≤ 4 ∧ r.ts.length ≤ 4
structure Bk where
  desks : List Str
  rules : List Rule
def Bk.l (b : Bk) : List D := [.tup (b.desks.map .str), .tup (b.rules.map Rule.d)]
def Bk.d (b : Bk) : D := .ins .book b.l
def Bk.sk (b : Bk) : Prop := (∀ s ∈ b.desks, sok s) ∧ b.desks ≠ [] ∧ (∀ r ∈ b.rules, r.sk) ∧ b.rules.length ≤ 8
inductive Deed where
  | letter | answer | day | hand (s : Str) | sett (s : Str)
  deriving DecidableEq
def Deed.l : Deed → List D
  | .letter => [.str "letter"]
  | .answer => [.str "answer"]
  | .day => [.str "day"]
  | .hand s => [.str "hand", .str s]
  | .sett s => [.str "set", .str s]
def Deed.d (t : Deed) : D := .tup t.l
def Deed.sk : Deed → Prop
  | .hand s => sok s
  | .sett s => sok s
  | _ => True
/-- a work -/
structure Wk where
  bk : Bk
  tk : Tk
  row : List Str
  acted : List Nat
  sent : Int
  again : Int
  shut : Bool
  endl : Bool
def Wk.ds (w : Wk) (r a : Addr) : List D := [w.bk.d, .str w.tk.ph, .str w.tk.pl, .bl w.tk.an, .int w.tk.wa, .bl w.tk.ma, .ref r, .ref a, .int w.sent, .int w.again, .bl w.shut, .bl w.endl]
def nats (l : List Nat) : List D := l.map fun (n : Nat) => .int (n : Int)
def sts (l : List Str) : List D := l.map .str
/-- its three objects -/
def Wk.m (w : Wk) (p r a : Addr) : Mm := [(a, .lst (nats w.acted)), (r, .lst (sts w.row)), (p, .ins .work (w.ds r a))]
theorem sts_snoc {l : List Str} {x : Str} : sts (l ++ [x]) = sts l ++ [.str x] := List.map_append
theorem nats_snoc {l : List Nat} {x : Nat} : nats (l ++ [x]) = nats l ++ [.int (x : Nat)] := List.map_append
theorem sts_len {l : List Str} : (sts l).length = l.length := List.length_map _
theorem nats_len {l : List Nat} : (nats l).length = l.length := List.length_map _
def goTo (s : Str) (w : Wk) : Wk := if s = w.tk.pl then w else { w with tk := { w.tk with pl := s }, row := w.row ++ [("moved" : Str)] }
def turnTo (s : Str) (w : Wk) : Wk := if s = w.tk.ph then w else { w with tk := { w.tk with ph := s }, row := w.row ++ [("status" : Str)] }
def hold (t : Tk) : Tst → Bool
  | .sta s b => decide (t.ph = s) == b
  | .dsk s b => decide (t.pl = s) == b
  | .day n => decide (n ≤ t.wa)
  | .ans b => t.an == b
  | .mrk b => t.ma == b
def bI (b : Bool) : Int := if b then 1 else 0
def carry : Act → Wk → Wk
  | .sta s, w => if s ≠ w.tk.ph ∧ s = "closed" then { turnTo s w with shut := true } else turnTo s w
  | .dsk s, w => goTo s w
  | .mrk b, w => { w with tk := { w.tk with ma := b } }
  | _, w => { w with tk := { w.tk with an := true, wa := 0 }, sent := w.sent + 1, again := w.again + bI w.tk.an, row := w.row ++ [("replied" : Str)] }
/-- the actions; is it ended? -/
def carryAll : List Act → Wk → Wk × Bool
  | [], w => (w, false)
  | .stop :: _, w => (w, true)
  | a :: r, w => carryAll r (carry a w)
def fits (ev : Str) (t : Tk) (r : Rule) : Bool := decide (r.ev = ev) && r.ts.all (hold t)
def handleFrom (ev : Str) : Nat → List Rule → Wk → Wk
  | _, [], w => w
  | i, r :: rs, w =>
    if fits ev w.tk r = true then
      let c := carryAll r.as { w with acted := w.acted ++ [i] }
      if c.2 = true then c.1 else handleFrom ev (i + 1) rs c.1
    else handleFrom ev (i + 1) rs w
def handle (ev : Str) (w : Wk) : Wk := handleFrom ev 0 w.bk.rules w
/-- all that stands in the row, n events yet -/
def handleAll : Nat → Wk → Wk
  | 0, w => if w.row = [] then w else { w with endl := true, row := [] }
  | n + 1, w => match w.row with
    | [] => w
    | ev :: r => handleAll n (handle ev { w with row := r })
def start (before : Option Tk) (d : Deed) (w : Wk) : Wk :=
  match before with
  | none => { w with tk := { w.tk with ph := "new", pl := w.bk.desks.headD "" }, row := w.row ++ [("letter" : Str)] }
  | some _ => match d with
    | .letter => { w with tk := { w.tk with an := false, wa := 0 }, row := w.row ++ [("letter" : Str)] }
    | .answer => { w with tk := { w.tk with an := true, wa := 0 }, row := w.row ++ [("answer" : Str)] }
    | .day => { w with tk := { w.tk with wa := w.tk.wa + 1 }, row := w.row ++ [("day" : Str)] }
    | .hand s => goTo s w
    | .sett s => turnTo s w
def fresh (b : Bk) (before : Option Tk) : Wk := ⟨b, before.getD ⟨"", "", false, 0, false⟩, [], [], 0, 0, false, false⟩
def work (b : Bk) (before : Option Tk) (d : Deed) : Wk := handleAll 50 (start before d (fresh b before))
/-- its report -/
def Wk.rep (w : Wk) : List D := [.lst (nats w.acted), .int w.sent, w.tk.d, .bl w.endl]
def optTk : Option Tk → D
  | none => .non
  | some t => t.d
/-! sizes, texts -/
theorem goTo_row {s : Str} {w : Wk} : (goTo s w).row.length ≤ w.row.length + 1 := by
  unfold goTo
  split
  · omega
  · simp
theorem turnTo_row {s : Str} {w : Wk} : (turnTo s w).row.length ≤ w.row.length + 1 := by
  unfold turnTo
  split
  · omega
  · simp
theorem carry_row {a : Act} {w : Wk} : (carry a w).row.length ≤ w.row.length + 1 := by
  cases a with
  | sta s =>
    simp only [carry]
    split
    · exact turnTo_row
    · exact turnTo_row
  | dsk s => exact goTo_row
  | mrk b => exact Nat.le_succ _
  | reply => simp [carry]
  | stop => simp [carry]
theorem carryAll_row : ∀ {as : List Act} {w : Wk}, (carryAll as w).1.row.length ≤ w.row.length + as.length
  | [], w => by simp [carryAll]
  | a :: r, w => by
    cases a with
    | stop => simp [carryAll]
    | _ =>
      refine Nat.le_trans (carryAll_row (as := r)) ?_
      simp only [List.length_cons]
      exact Nat.le_trans (Nat.add_le_add_right (carry_row) _) (by omega)
/-- the strings of a work -/
structure Wk.ok (w : Wk) : Prop where
  bk : w.bk.sk
  tk : w.tk.ok
  row : ∀ x ∈ w.row, sok x
theorem ok_row {l : List Str} {x : Str} (h : ∀ y ∈ l, sok y) (hx : sok x) : ∀ y ∈ l ++ [x], sok y := fun y hy => by
  rcases List.mem_append.mp hy with e | e
  · exact h y e
  · rw [List.mem_singleton.mp e]; exact hx
theorem goTo_ok {s : Str} {w : Wk} (h : w.ok) (hs : sok s) : (goTo s w).ok := by
  unfold goTo
  split
  · exact h
  · exact ⟨h.bk, ⟨h.tk.1, hs⟩, ok_row h.row (show PyData.strOk _ = true by decide +kernel)⟩
theorem turnTo_ok {s : Str} {w : Wk} (h : w.ok) (hs : sok s) : (turnTo s w).ok := by
  unfold turnTo
  split
  · exact h
  · exact ⟨h.bk, ⟨hs, h.tk.2⟩, ok_row h.row (show PyData.strOk _ = true by decide +kernel)⟩
theorem carry_ok {a : Act} {w : Wk} (h : w.ok) (ha : a.sk) : (carry a w).ok := by
  cases a with
  | sta s =>
    simp only [carry]
    split
    · exact ⟨(turnTo_ok h ha).bk, (turnTo_ok h ha).tk, (turnTo_ok h ha).row⟩
    · exact turnTo_ok h ha
  | dsk s => exact goTo_ok h ha
  | mrk b => exact ⟨h.bk, h.tk, h.row⟩
  | reply => exact ⟨h.bk, h.tk, ok_row h.row (show PyData.strOk _ = true by decide +kernel)⟩
  | stop => exact ⟨h.bk, h.tk, ok_row h.row (show PyData.strOk _ = true by decide +kernel)⟩
theorem carry_bk {a : Act} {w : Wk} : (carry a w).bk = w.bk := by
  cases a <;> simp only [carry, goTo, turnTo] <;> split <;> (try split) <;> rfl
theorem carry_acted {a : Act} {w : Wk} : (carry a w).acted = w.acted := by
  cases a <;> simp only [carry, goTo, turnTo] <;> split <;> (try split) <;> rfl
/-! ### the desk -/
def getT : List (Str × Tk) → Str → Option Tk
  | [], _ => none
  | (f, d) :: r, k => if f = k then some d else getT r k
def setT (l : List (Str × Tk)) (k : Str) (v : Tk) : List (Str × Tk) := if (l.any fun kv => decide (kv.1 = k)) = true then l.map (fun kv => if kv.1 = k then (kv.1, v) else kv) else l ++ [(k, v)]
def kvD (l : List (Str × Tk)) : List (Str × D) := l.map fun x => (x.1, x.2.d)
theorem getK_kvD {k : Str} : ∀ {l : List (Str × Tk)}, getK (kvD l) k = (getT l k).map Tk.d
  | [] => rfl
  | (f, d) :: r => by
    show (if f = k then some d.d else getK (kvD r) k) = Option.map Tk.d (if f = k then some d else getT r k)
    split
    · rfl
    · exact getK_kvD
theorem setK_kvD {k : Str} {v : Tk} {l : List (Str × Tk)} : setK (kvD l) k v.d = kvD (setT l k v) := by
  unfold setK setT
  have e : ((kvD l).any fun kv => decide (kv.1 = k)) = l.any fun kv => decide (kv.1 = k) := by
    unfold kvD
    rw [List.any_map]
    rfl
  rw [e]
  split
  · unfold kvD
    rw [List.map_map, List.map_map]
    refine List.map_congr_left fun x _ => ?_
    simp only [Function.comp]
    split <;> rfl
  · unfold kvD
    rw [List.map_append]
    rfl
theorem getD_kvD {k : Str} {l : List (Str × Tk)} : (getK (kvD l) k).getD .non = optTk (getT l k) := by
  rw [getK_kvD]
  cases getT l k <;> rfl
theorem some_kvD {k : Str} {l : List (Str × Tk)} : (getK (kvD l) k).isSome = (getT l k).isSome := by
  rw [getK_kvD, Option.isSome_map]
theorem kvD_len {l : List (Str × Tk)} : (kvD l).length = l.length := List.length_map _
/-- what is kept for an undo -/
structure Sv where
  a : Addr
  bk : Bk
  tk : List (Str × Tk)
  total : Int
def Sv.d (s : Sv) : D := .tup [s.bk.d, .ref s.a, .int s.total]
/-- a desk: its book, tickets, replies, what is kept (the last one ahead) -/
structure Hs where
  bk : Bk
  tk : List (Str × Tk)
  total : Int
  saved : List Sv
def Hs.c (h : Hs) : Mm := h.saved.map fun s => (s.a, .dct (kvD s.tk))
def Hs.rows (h : Hs) : List D := h.saved.reverse.map Sv.d
def Hs.m (h : Hs) (p t e : Addr) : Mm := h.c ++ [(p, .ins .desk [h.bk.d, .ref t, .int h.total, .ref e]), (t, .dct (kvD h.tk)), (e, .lst h.rows)]
theorem rows_len {h : Hs} : h.rows.length = h.saved.length := by unfold Hs.rows; simp
def Hs.save (h : Hs) (a : Addr) : Hs := { h with saved := ⟨a, h.bk, h.tk, h.total⟩ :: h.saved }
theorem save_rows {h : Hs} {a : Addr} : (h.save a).rows = h.rows ++ [.tup [h.bk.d, .ref a, .int h.total]] := by
  unfold Hs.rows Hs.save
  simp only [List.reverse_cons, List.map_append]
  rfl
/-- a deed at the desk -/
def Hs.put (h : Hs) (x : Str) (d : Deed) : Hs := { h with tk := setT h.tk x (work h.bk (getT h.tk x) d).tk, total := h.total + (work h.bk (getT h.tk x) d).sent }
structure Hs.ok (h : Hs) : Prop where
  bk : h.bk.sk
  tk : ∀ x ∈ h.tk, sok x.1 ∧ x.2.ok
  few : h.tk.length ≤ 1000
  sv : h.saved.length ≤ 1000000
theorem getT_ok {l : List (Str × Tk)} {x : Str} {t : Tk} (h : ∀ y ∈ l, sok y.1 ∧ y.2.ok) (e : getT l x = some t) : t.ok := by
  induction l with
  | nil => cases e
  | cons y r ih =>
    obtain ⟨f, d⟩ := y
    unfold getT at e
    split at e
    · cases e
      exact (h _ List.mem_cons_self).2
    · exact ih (fun z hz => h z (List.mem_cons_of_mem _ hz)) e
theorem setT_ok {l : List (Str × Tk)} {x : Str} {t : Tk} (h : ∀ y ∈ l, sok y.1 ∧ y.2.ok) (hx : sok x) (ht : t.ok) : ∀ y ∈ setT l x t, sok y.1 ∧ y.2.ok := by
  unfold setT
  intro y hy
  split at hy
  · obtain ⟨z, hz, e⟩ := List.mem_map.mp hy
    split at e
    · subst e
      exact ⟨(h z hz).1, ht⟩
    · subst e
      exact h z hz
  · rcases List.mem_append.mp hy with q | q
    · exact h y q
    · rw [List.mem_singleton.mp q]
      exact ⟨hx, ht⟩
theorem setT_len {l : List (Str × Tk)} {x : Str} {t : Tk} : (setT l x t).length ≤ l.length + 1 := by
  unfold setT
  split <;> simp
theorem start_ok {bf : Option Tk} {d : Deed} {w : Wk} (h : w.ok) (hd : d.sk) : (start bf d w).ok := by
  cases bf with
  | none =>
    refine ⟨h.bk, ⟨show PyData.strOk "new" = true by decide +kernel, ?_⟩, ok_row h.row (show PyData.strOk _ = true by decide +kernel)⟩
    simp only [start]
    have h1 := h.bk.1
    have h2 := h.bk.2.1
    cases e : w.bk.desks with
    | nil => exact (h2 e).elim
    | cons s r => exact h1 s (by rw [e]; exact List.mem_cons_self)
  | some t =>
    cases d with
    | letter => exact ⟨h.bk, h.tk, ok_row h.row (show PyData.strOk _ = true by decide +kernel)⟩
    | answer => exact ⟨h.bk, h.tk, ok_row h.row (show PyData.strOk _ = true by decide +kernel)⟩
    | day => exact ⟨h.bk, h.tk, ok_row h.row (show PyData.strOk _ = true by decide +kernel)⟩
    | hand s => exact goTo_ok h hd
    | sett s => exact turnTo_ok h hd
theorem start_row {bf : Option Tk} {d : Deed} {w : Wk} : (start bf d w).row.length ≤ w.row.length + 1 := by
  cases bf with
  | none => simp [start]
  | some t =>
    cases d with
    | hand s => exact goTo_row
    | sett s => exact turnTo_row
    | _ => simp [start]
theorem start_acted {bf : Option Tk} {d : Deed} {w : Wk} : (start bf d w).acted = w.acted := by
  cases bf with
  | none => simp [start]
  | some t =>
    cases d with
    | hand s => simp only [start, goTo]; split <;> rfl
    | sett s => simp only [start, turnTo]; split <;> rfl
    | _ => simp [start]
theorem start_bk {bf : Option Tk} {d : Deed} {w : Wk} : (start bf d w).bk = w.bk := by
  cases bf with
  | none => simp [start]
  | some t =>
    cases d with
    | hand s => simp only [start, goTo]; split <;> rfl
    | sett s => simp only [start, turnTo]; split <;> rfl
    | _ => simp [start]
theorem fresh_ok {b : Bk} {bf : Option Tk} (hb : b.sk) (hf : ∀ t, bf = some t → t.ok) : (fresh b bf).ok := by
  refine ⟨hb, ?_, fun x hx => by cases hx⟩
  cases bf with
  | none => exact ⟨show PyData.strOk "" = true by decide +kernel, show PyData.strOk "" = true by decide +kernel⟩
  | some t => exact hf t rfl
/-- a day for all of these -/
def Hs.days : List Str → Hs → List D × Hs
  | [], h => ([], h)
  | x :: r, h => (.tup [.str x, .tup (work h.bk (getT h.tk x) .day).rep] :: (Hs.days r (h.put x .day)).1, (Hs.days r (h.put x .day)).2)
def keysT (l : List (Str × Tk)) : List Str := l.map (·.1)
theorem getT_mem {l : List (Str × Tk)} {x : Str} : (getT l x).isSome = decide (x ∈ keysT l) := by
  induction l with
  | nil => rfl
  | cons y r ih =>
    obtain ⟨f, d⟩ := y
    show (if f = x then some d else getT r x).isSome = decide (x ∈ f :: keysT r)
    by_cases h : f = x
    · rw [if_pos h]; subst h; simp
    · rw [if_neg h, ih]
      simp [List.mem_cons, show ¬ x = f from fun q => h q.symm]
theorem any_key {l : List (Str × Tk)} {x : Str} : (l.any fun kv => decide (kv.1 = x)) = decide (x ∈ keysT l) := by
  induction l with
  | nil => rfl
  | cons y r ih =>
    show (decide (y.1 = x) || r.any _) = decide (x ∈ y.1 :: keysT r)
    rw [ih]
    by_cases h : y.1 = x
    · subst h; simp
    · simp [List.mem_cons, h, show ¬ x = y.1 from fun q => h q.symm]
theorem setT_keys {l : List (Str × Tk)} {x : Str} {t : Tk} : keysT (setT l x t) = if x ∈ keysT l then keysT l else keysT l ++ [x] := by
  unfold setT
  rw [any_key]
  by_cases h : x ∈ keysT l
  · rw [if_pos h, if_pos (decide_eq_true h)]
    unfold keysT
    rw [List.map_map]
    refine List.map_congr_left fun y _ => ?_
    simp only [Function.comp]
    split <;> rfl
  · rw [if_neg h, if_neg (by rw [decide_eq_false h]; exact Bool.false_ne_true)]
    unfold keysT
    rw [List.map_append]
    rfl
theorem keysT_len {l : List (Str × Tk)} : (keysT l).length = l.length := List.length_map _
def Act.isRep : Act → Bool
  | .reply => true
  | _ => false
theorem carry_sent {c : Act} {w : Wk} (h : c ≠ .stop) : (carry c w).sent = w.sent + bI c.isRep := by
  cases c with
  | sta s => simp only [carry, turnTo, Act.isRep, bI]; split <;> split <;> simp
  | dsk s => simp only [carry, goTo, Act.isRep, bI]; split <;> simp
  | mrk b => simp [carry, Act.isRep, bI]
  | reply => simp [carry, Act.isRep, bI]
  | stop => exact (h rfl).elim
/-- events ahead of the row -/
def prep (pre : List Str) (w : Wk) : Wk := { w with row := pre ++ w.row }
theorem goTo_prep {pre : List Str} {s : Str} {w : Wk} : goTo s (prep pre w) = prep pre (goTo s w) := by
  unfold goTo prep
  simp only
  split
  · rfl
  · simp only [List.append_assoc]
theorem turnTo_prep {pre : List Str} {s : Str} {w : Wk} : turnTo s (prep pre w) = prep pre (turnTo s w) := by
  unfold turnTo prep
  simp only
  split
  · rfl
  · simp only [List.append_assoc]
theorem carry_prep {pre : List Str} {c : Act} {w : Wk} : carry c (prep pre w) = prep pre (carry c w) := by
  cases c with
  | sta s =>
    simp only [carry, turnTo_prep]
    show (if s ≠ w.tk.ph ∧ s = "closed" then _ else _) = _
    split <;> rfl
  | dsk s => exact goTo_prep
  | mrk b => rfl
  | reply => simp only [carry, prep, List.append_assoc]
  | stop => simp only [carry, prep, List.append_assoc]
theorem carryAll_prep {pre : List Str} : ∀ {as : List Act} {w : Wk}, carryAll as (prep pre w) = (prep pre (carryAll as w).1, (carryAll as w).2)
  | [], w => rfl
  | c :: as, w => by
    cases c with
    | stop => rfl
    | _ =>
      simp only [carryAll, carry_prep]
      exact carryAll_prep (as := as)
theorem handleFrom_prep {pre : List Str} {ev : Str} : ∀ {rs : List Rule} {i : Nat} {w : Wk}, handleFrom ev i rs (prep pre w) = prep pre (handleFrom ev i rs w)
  | [], i, w => rfl
  | r :: rs, i, w => by
    unfold handleFrom
    show (if fits ev w.tk r = true then _ else _) = _
    split
    · have e : ({ prep pre w with acted := (prep pre w).acted ++ [i] } : Wk) = prep pre { w with acted := w.acted ++ [i] } := rfl
      simp only [e, carryAll_prep]
      split
      · rfl
      · exact handleFrom_prep
    · exact handleFrom_prep
theorem carry_endl {c : Act} {w : Wk} : (carry c w).endl = w.endl := by
  cases c <;> simp only [carry, goTo, turnTo] <;> split <;> (try split) <;> rfl
theorem carryAll_endl : ∀ {as : List Act} {w : Wk}, (carryAll as w).1.endl = w.endl
  | [], w => rfl
  | c :: as, w => by
    cases c with
    | stop => rfl
    | _ => exact (carryAll_endl (as := as)).trans carry_endl
theorem handleFrom_endl {ev : Str} : ∀ {rs : List Rule} {i : Nat} {w : Wk}, (handleFrom ev i rs w).endl = w.endl
  | [], _, _ => rfl
  | ru :: rs, i, w => by
    unfold handleFrom
    split
    · simp only
      split
      · exact carryAll_endl
      · exact handleFrom_endl.trans carryAll_endl
    · exact handleFrom_endl
theorem start_endl {bf : Option Tk} {d : Deed} {w : Wk} : (start bf d w).endl = w.endl := by
  cases bf with
  | none => simp [start]
  | some t =>
    cases d with
    | hand s => simp only [start, goTo]; split <;> rfl
    | sett s => simp only [start, turnTo]; split <;> rfl
    | _ => simp [start]
theorem start_sent {bf : Option Tk} {d : Deed} {w : Wk} : (start bf d w).sent = w.sent := by
  cases bf with
  | none => simp [start]
  | some t =>
    cases d with
    | hand s => simp only [start, goTo]; split <;> rfl
    | sett s => simp only [start, turnTo]; split <;> rfl
    | _ => simp [start]
end BV
set_option maxHeartbeats 4000000
namespace BV
open PySem
local macro_rules | `(tactic| walk_at "pd") => `(tactic| (first | rfl | assumption | (apply pd_str; assumption) | decide +kernel))
local macro_rules | `(tactic| walk_at "ty") => `(tactic| (first | exact TyD.tup _ | exact TyD.str _ | exact TyD.lst _ | exact TyD.bl _ | exact TyD.int _ | exact TyD.non | (apply TyD.ref; walk_at "at")))
local macro_rules | `(tactic| walk_at "sz") => `(tactic| (first | assumption | exact Nat.le_of_ble_eq_true rfl))
local macro_rules | `(tactic| walk_at "at") => `(tactic| (repeat (first | exact At.here | apply At.there | apply At.app)))
local macro_rules | `(tactic| walk_at "sok") => `(tactic| (first | assumption | (show PyData.strOk _ = true; decide +kernel)))
local macro_rules | `(tactic| walk_at "b1") => `(tactic| first
  | with_reducible refine q_seq ?_
  | with_reducible refine q_if ?_
  | with_reducible refine q_tst ?_
  | with_reducible refine q_op ?_
  | with_reducible refine q_c ?_
  | ((with_reducible refine' q_var ?b1 ?_); (case b1 => rfl))
  | with_reducible refine q_fld ?_
  | ((with_reducible refine' q_fldR ?b1 ?b2 ?_); (case b1 => walk_at "at"); (case b2 => rfl))
  | ((with_reducible refine' q_fldV ?b2 ?_); (case b2 => rfl))
  | ((with_reducible refine' q_eqS ?b1 ?b2 ?_); (case b1 => walk_at "sok"); (case b2 => walk_at "sok"))
  | ((with_reducible refine' q_neS ?b1 ?b2 ?_); (case b1 => walk_at "sok"); (case b2 => walk_at "sok"))
  | with_reducible refine q_eqB ?_
  | with_reducible refine q_eqI ?_
  | with_reducible refine q_neI ?_
  | with_reducible refine q_addI ?_
  | with_reducible refine q_oadd ?_
  | with_reducible refine q_osub ?_
  | with_reducible refine q_lt ?_
  | with_reducible refine q_le ?_
  | with_reducible refine q_gt ?_
  | with_reducible refine q_ge ?_
  | with_reducible refine q_isN ?_
  | with_reducible refine q_notN ?_
  | ((with_reducible refine' q_ixT ?b2 ?_); (case b2 => rfl))
  | ((with_reducible refine' q_ixL ?b2 ?_); (case b2 => rfl))
  | ((with_reducible refine' q_ixR ?b1 ?b2 ?_); (case b1 => walk_at "at"); (case b2 => rfl))
  | with_reducible refine q_bl ?_
  | with_reducible refine q_ret ?_
  | with_reducible refine q_retN ?_
  | with_reducible refine q_skip ?_
  | with_reducible refine q_drop ?_
  | with_reducible refine q_asg ?_
  | with_reducible refine q_gN ?_
  | with_reducible refine q_gFld ?_
  | with_reducible refine q_aug ?_
  | with_reducible refine q_isRef ?_
  | ((with_reducible refine' q_put ?b1 ?b2 ?b3 ?_); (case b1 => walk_at "at"); (case b2 => rfl); (case b3 => rfl))
  | with_reducible refine q_nil ?_
  | with_reducible refine q_cons ?_
  | with_reducible refine q_not ?_
  | with_reducible refine q_and ?_
  | with_reducible refine q_or ?_
  | with_reducible refine q_andV ?_
  | with_reducible refine q_orV ?_
  | with_reducible refine q_notV ?_
  | with_reducible refine q_ifE ?_
  | with_reducible refine q_tup ?_
  | ((with_reducible refine' q_szA ?b1 fun p => ?_); (case b1 => walk_at "sz"))
  | ((with_reducible refine' q_sz ?b1 ?_); (case b1 => walk_at "sz"))
  | with_reducible refine q_bm ?_
  | ((with_reducible refine' q_own ?b1 ?_); (case b1 => walk_at "at"))
  | ((with_reducible refine' q_append ?b1 ?b2 ?_); (case b1 => walk_at "at"); (case b2 => walk_at "sz"))
  | with_reducible refine q_call0 ?_
  | with_reducible refine q_meth0 ?_
  | ((with_reducible refine' q_isR ?b1 ?_); (case b1 => walk_at "at"))
  | ((with_reducible refine' q_isP ?b1 ?_); (case b1 => exact Or.inr ⟨_, rfl⟩))
  | with_reducible refine q_dct ?_
  | with_reducible refine q_dget ?_
  | ((with_reducible refine' q_dctE ?b1 ?_); (case b1 => walk_at "at"))
  | with_reducible refine q_dinT ?_
  | with_reducible refine q_dinF ?_
  | with_reducible refine q_dget1 ?_
  | ((with_reducible refine' q_isDct ?b1 ?_); (case b1 => walk_at "at"))
  | ((with_reducible refine' q_setD ?b1 ?b2 ?_); (case b1 => walk_at "at"); (case b2 => walk_at "sz"))
  | with_reducible refine q_orT ?_
  | ((with_reducible refine' q_orTT ?b1 ?_); (case b1 => rfl))
  | with_reducible refine q_cb ?_
  | ((with_reducible refine' q_inT ?b1 ?b2 rfl ?_); (case b1 => walk_at "pd"); (case b2 => walk_at "pd"))
  | ((with_reducible refine' q_notInT ?b1 ?b2 rfl ?_); (case b1 => walk_at "pd"); (case b2 => walk_at "pd"))
  | ((with_reducible refine' q_isi rfl ?b1 ?_); (case b1 => walk_at "ty"))
  | ((with_reducible refine' q_isi2 rfl rfl ?b1 ?_); (case b1 => walk_at "ty"))
  | with_reducible refine q_lenT ?_
  | with_reducible refine q_lenL ?_
  | ((with_reducible refine' q_lenR ?b1 ?_); (case b1 => walk_at "at"))
  | ((with_reducible refine' q_lenD ?b1 ?_); (case b1 => walk_at "at"))
  | ((with_reducible refine' q_lenS ?b1 ?_); (case b1 => walk_at "sz"))
  | with_reducible refine q_lenSc ?_
  | with_reducible refine q_intI ?_
  | with_reducible refine q_intB ?_
  | with_reducible refine q_listT ?_
  | with_reducible refine q_listL ?_
  | ((with_reducible refine' q_listR ?b1 ?_); (case b1 => walk_at "at"))
  | ((with_reducible refine' q_listD ?b1 ?_); (case b1 => walk_at "at"))
  | ((with_reducible refine' q_tupR ?b1 ?_); (case b1 => walk_at "at"))
  | with_reducible refine q_tupL ?_
  | ((with_reducible refine' q_dictO ?b1 fun p => ?_); (case b1 => walk_at "at"))
  | with_reducible refine q_dictN fun p => ?_
  | with_reducible refine q_lstO ?_
  | with_reducible refine q_lstV ?_
  | with_reducible refine q_chain ?_
  | ((with_reducible refine' q_gTup ?b1 ?_); (case b1 => rfl))
  | with_reducible refine q_gCons ?_
  | with_reducible refine q_gNil ?_
  | with_reducible refine q_par ?_
  | with_reducible refine q_par3 ?_
  | with_reducible refine q_two ?_
  | with_reducible refine q_three ?_
  | ((with_reducible refine' q_saug ?b1 ?_); (case b1 => rfl))
  | with_reducible refine q_gSub ?_
  | ((with_reducible refine' q_setL ?b1 ?b2 ?b3 ?_); (case b1 => walk_at "at"); (case b2 => rfl); (case b3 => rfl))
  | with_reducible refine q_ownV ?_
  | with_reducible refine q_indexA ?_
  | ((with_reducible refine' q_indexB ?b1 ?_); (case b1 => decide +kernel))
  | ((with_reducible refine' q_listO ?b1 fun p => ?_); (case b1 => walk_at "at"))
  | with_reducible refine q_listOT fun p => ?_
  | ((with_reducible refine' q_popO ?b1 ?_); (case b1 => walk_at "at"))
  | with_reducible refine q_yes ?_
  | with_reducible refine q_cN ?_
  | with_reducible refine q_make0 ?_
  | with_reducible refine q_lstX ?_
  | with_reducible refine q_tupX ?_
  | ((with_reducible refine' q_iteT ?b1 ?_); (case b1 => first | rfl | decide +kernel))
  | ((with_reducible refine' q_iteF ?b1 ?_); (case b1 => first | rfl | decide +kernel))
  | with_reducible refine q_goS ?_
  | with_reducible refine q_goV ?_)
local macro_rules | `(tactic| walk_at "bv") => `(tactic| (repeat (walk_at "b1")))
/-! TicketWork -/
def t_TicketWork_go_to : RS := sIf (rTst (rOp oNe (rVar 1) (rFld .work 2 (rVar 0)))) (sSeq (sAsg (rVar 1) (gFld .work 2 (rVar 0))) (sDrop (rBM "list" mAppend (rFld .work 6 (rVar 0)) (rCons (rC (.str "moved")) rNil)))) (sSkip)
def t_TicketWork_turn_to : RS := sSeq (sIf (rTst (rOp oEq (rVar 1) (rFld .work 1 (rVar 0)))) (sRet (rC (.bl false))) (sSkip)) (sSeq (sAsg (rVar 1) (gFld .work 1 (rVar 0))) (sSeq (sDrop (rBM "list" mAppend (rFld .work 6 (rVar 0)) (rCons (rC (.str "status")) rNil))) (sRet (rC (.bl true)))))
def t_TicketWork_told : RS := sRet (rTup (rCons (rFld .work 1 (rVar 0)) (rCons (rFld .work 2 (rVar 0)) (rCons (rFld .work 3 (rVar 0)) (rCons (rFld .work 4 (rVar 0)) (rCons (rFld .work 5 (rVar 0)) rNil))))))
def t_TicketWork_holds : RS := sSeq (sIf (rTst (rOp oEq (rOp oIx (rVar 1) (rC (.int 0))) (rC (.str "status")))) (sRet (rOp oEq (rOp oEq (rFld .work 1 (rVar 0)) (rOp oIx (rVar 1) (rC (.int 1)))) (rOp oIx (rVar 1) (rC (.int 2))))) (sSkip)) (sSeq (sIf (rTst (rOp oEq (rOp oIx (rVar 1) (rC (.int 0))) (rC (.str "desk")))) (sRet (rOp oEq (rOp oEq (rFld .work 2 (rVar 0)) (rOp oIx (rVar 1) (rC (.int 1)))) (rOp oIx (rVar 1) (rC (.int 2))))) (sSkip)) (sSeq (sIf (rTst (rOp oEq (rOp oIx (rVar 1) (rC (.int 0))) (rC (.str "days")))) (sRet (rOp oGe (rFld .work 4 (rVar 0)) (rOp oIx (rVar 1) (rC (.int 1))))) (sSkip)) (sRet (rOp oEq (rIf (rTst (rOp oEq (rOp oIx (rVar 1) (rC (.int 0))) (rC (.str "answered")))) (rFld .work 3 (rVar 0)) (rFld .work 5 (rVar 0))) (rOp oIx (rVar 1) (rC (.int 1)))))))
def sp_TicketWork_go_to : BSp := fun ex ds M R => ∃ p r a s w, ds = [.ref p, .str s] ∧ sok s ∧ w.tk.ok ∧ Sz w.row.length ∧ M = Wk.m w p r a ∧ R .non (Wk.m (goTo s w) p r a)
theorem len_TicketWork_go_to : ∀ ex ds M R, sp_TicketWork_go_to ex ds M R → ds.length = 2 := by
  rintro ex ds M R ⟨p, r, a, s, w, rfl, _⟩
  rfl
theorem pure_TicketWork_go_to : ∀ ex ds M R, sp_TicketWork_go_to ex ds M R → t_TicketWork_go_to { ex := ex, nx := fun _ M' => R .non M', rt := R } (startB 2 ds) M := by
  rintro ex ds M R ⟨p, r, a, s, w, rfl, sd, ⟨s1, s2⟩, hz, rfl, k⟩
  unfold t_TicketWork_go_to Wk.m Wk.ds
  unfold goTo at k
  have hz' : Sz (sts w.row).length := by rw [sts_len]; exact hz
  walk_at "bv"
  refine q_iteND (fun h => ?_) (fun h => ?_)
  · rw [if_neg h] at k
    unfold Wk.m Wk.ds at k
    rw [sts_snoc] at k
    walk_at "bv"
    exact k
  · rw [if_pos h] at k
    walk_at "bv"
    exact k
def sp_TicketWork_turn_to : BSp := fun ex ds M R => ∃ p r a s w, ds = [.ref p, .str s] ∧ sok s ∧ w.tk.ok ∧ Sz w.row.length ∧ M = Wk.m w p r a ∧ R (.bl (!decide (s = w.tk.ph))) (Wk.m (turnTo s w) p r a)
theorem len_TicketWork_turn_to : ∀ ex ds M R, sp_TicketWork_turn_to ex ds M R → ds.length = 2 := by
  rintro ex ds M R ⟨p, r, a, s, w, rfl, _⟩
  rfl
theorem pure_TicketWork_turn_to : ∀ ex ds M R, sp_TicketWork_turn_to ex ds M R → t_TicketWork_turn_to { ex := ex, nx := fun _ M' => R .non M', rt := R } (startB 2 ds) M := by
  rintro ex ds M R ⟨p, r, a, s, w, rfl, sd, ⟨s1, s2⟩, hz, rfl, k⟩
  unfold t_TicketWork_turn_to Wk.m Wk.ds
  unfold turnTo at k
  have hz' : Sz (sts w.row).length := by rw [sts_len]; exact hz
  walk_at "bv"
  refine q_iteD (fun h => ?_) (fun h => ?_)
  · rw [if_pos h, decide_eq_true h] at k
    walk_at "bv"
    exact k
  · rw [if_neg h, decide_eq_false h] at k
    unfold Wk.m Wk.ds at k
    rw [sts_snoc] at k
    walk_at "bv"
    exact k
def sp_TicketWork_told : BSp := fun ex ds M R => ∃ p r a w, ds = [.ref p] ∧ M = Wk.m w p r a ∧ R w.tk.d M
theorem len_TicketWork_told : ∀ ex ds M R, sp_TicketWork_told ex ds M R → ds.length = 1 := by
  rintro ex ds M R ⟨p, r, a, w, rfl, _⟩
  rfl
theorem pure_TicketWork_told : ∀ ex ds M R, sp_TicketWork_told ex ds M R → t_TicketWork_told { ex := ex, nx := fun _ M' => R .non M', rt := R } (startB 1 ds) M := by
  rintro ex ds M R ⟨p, r, a, w, rfl, rfl, k⟩
  unfold t_TicketWork_told Wk.m Wk.ds
  walk_at "bv"
  exact k
def sp_TicketWork_holds : BSp := fun ex ds M R => ∃ p r a w t, ds = [.ref p, Tst.d t] ∧ t.sk ∧ w.tk.ok ∧ M = Wk.m w p r a ∧ R (.bl (hold w.tk t)) M
theorem len_TicketWork_holds : ∀ ex ds M R, sp_TicketWork_holds ex ds M R → ds.length = 2 := by
  rintro ex ds M R ⟨p, r, a, w, t, rfl, _⟩
  rfl
theorem pure_TicketWork_holds : ∀ ex ds M R, sp_TicketWork_holds ex ds M R → t_TicketWork_holds { ex := ex, nx := fun _ M' => R .non M', rt := R } (startB 2 ds) M := by
  rintro ex ds M R ⟨p, r, a, w, t, rfl, ht, ⟨s1, s2⟩, rfl, k⟩
  unfold t_TicketWork_holds Wk.m Wk.ds
  cases t with
  | sta s b =>
    have ht' : sok s := ht
    unfold Tst.d Tst.l
    walk_at "bv"
    exact k
  | dsk s b =>
    have ht' : sok s := ht
    unfold Tst.d Tst.l
    walk_at "bv"
    exact k
  | day n =>
    unfold Tst.d Tst.l
    walk_at "bv"
    exact k
  | ans b =>
    unfold Tst.d Tst.l
    walk_at "bv"
    exact k
  | mrk b =>
    unfold Tst.d Tst.l
    walk_at "bv"
    exact k
def t_TicketWork_carry_out : RS := sIf (rTst (rOp oEq (rOp oIx (rVar 1) (rC (.int 0))) (rC (.str "status")))) (sIf (rAnd (rTst (rMeth0 .work sp_TicketWork_turn_to (rVar 0) (rCons (rOp oIx (rVar 1) (rC (.int 1))) rNil))) (rTst (rOp oEq (rOp oIx (rVar 1) (rC (.int 1))) (rC (.str "closed"))))) (sAsg (rC (.bl true)) (gFld .work 10 (rVar 0))) (sSkip)) (sIf (rTst (rOp oEq (rOp oIx (rVar 1) (rC (.int 0))) (rC (.str "desk")))) (sDrop (rMeth0 .work sp_TicketWork_go_to (rVar 0) (rCons (rOp oIx (rVar 1) (rC (.int 1))) rNil))) (sIf (rTst (rOp oEq (rOp oIx (rVar 1) (rC (.int 0))) (rC (.str "mark")))) (sAsg (rOp oIx (rVar 1) (rC (.int 1))) (gFld .work 5 (rVar 0))) (sSeq (sFldAug .work 8 (rVar 0) (rC (.int 1)) oAdd) (sSeq (sFldAug .work 9 (rVar 0) (rCB bInt (rCons (rFld .work 3 (rVar 0)) rNil)) oAdd) (sSeq (sAsg (rTup (rCons (rC (.bl true)) (rCons (rC (.int 0)) rNil))) (BV.gTup 2 (BV.gCons (gFld .work 3 (rVar 0)) (BV.gCons (gFld .work 4 (rVar 0)) BV.gNil)))) (sDrop (rBM "list" mAppend (rFld .work 6 (rVar 0)) (rCons (rC (.str "replied")) rNil))))))))
def sp_TicketWork_carry_out : BSp := fun ex ds M R => ∃ p r a w c, ds = [.ref p, Act.d c] ∧ c ≠ .stop ∧ c.sk ∧ w.tk.ok ∧ Sz w.row.length ∧ M = Wk.m w p r a ∧ R .non (Wk.m (carry c w) p r a)
theorem len_TicketWork_carry_out : ∀ ex ds M R, sp_TicketWork_carry_out ex ds M R → ds.length = 2 := by
  rintro ex ds M R ⟨p, r, a, w, c, rfl, _⟩
  rfl
theorem pure_TicketWork_carry_out : ∀ ex ds M R, sp_TicketWork_carry_out ex ds M R → t_TicketWork_carry_out { ex := ex, nx := fun _ M' => R .non M', rt := R } (startB 2 ds) M := by
  rintro ex ds M R ⟨p, r, a, w, c, rfl, hc, hk, ok, hz, rfl, k⟩
  unfold t_TicketWork_carry_out
  have hz' : Sz (sts w.row).length := by rw [sts_len]; exact hz
  cases c with
  | sta s =>
    have ht' : sok s := hk
    unfold Act.d Act.l
    walk_at "bv"
    refine cf_whole ⟨p, r, a, s, w, rfl, ht', ok, hz, rfl, ?_⟩
    show _
    simp only [carry] at k
    unfold Wk.m Wk.ds
    by_cases h1 : s = w.tk.ph
    · rw [if_neg (by rintro ⟨h, _⟩; exact h h1)] at k
      rw [decide_eq_true h1]
      walk_at "bv"
      exact k
    · rw [decide_eq_false h1]
      by_cases h2 : s = "closed"
      · rw [if_pos ⟨h1, h2⟩] at k
        walk_at "bv"
        rw [decide_eq_true h2]
        walk_at "bv"
        exact k
      · rw [if_neg (by rintro ⟨_, h⟩; exact h2 h)] at k
        walk_at "bv"
        rw [decide_eq_false h2]
        walk_at "bv"
        exact k
  | dsk s =>
    have ht' : sok s := hk
    unfold Act.d Act.l
    walk_at "bv"
    refine cf_whole ⟨p, r, a, s, w, rfl, ht', ok, hz, rfl, ?_⟩
    exact k
  | mrk b =>
    unfold Act.d Act.l Wk.m Wk.ds
    walk_at "bv"
    exact k
  | reply =>
    unfold Act.d Act.l Wk.m Wk.ds
    simp only [carry] at k
    unfold Wk.m Wk.ds at k
    rw [sts_snoc] at k
    walk_at "bv"
    exact k
  | stop => exact (hc rfl).elim
end BV
set_option maxHeartbeats 4000000
namespace BV
open PySem
local macro_rules | `(tactic| walk_at "pd") => `(tactic| (first | rfl | assumption | (apply pd_str; assumption) | decide +kernel))
local macro_rules | `(tactic| walk_at "ty") => `(tactic| (first | exact TyD.tup _ | exact TyD.str _ | exact TyD.lst _ | exact TyD.bl _ | exact TyD.int _ | exact TyD.non | (apply TyD.ref; walk_at "at")))
local macro_rules | `(tactic| walk_at "sz") => `(tactic| (first | assumption | exact Nat.le_of_ble_eq_true rfl))
local macro_rules | `(tactic| walk_at "at") => `(tactic| (repeat (first | exact At.here | apply At.there | apply At.app)))
local macro_rules | `(tactic| walk_at "sok") => `(tactic| (first | assumption | (show PyData.strOk _ = true; decide +kernel)))
local macro_rules | `(tactic| walk_at "b1") => `(tactic| first
  | with_reducible refine q_seq ?_
  | with_reducible refine q_if ?_
  | with_reducible refine q_tst ?_
  | with_reducible refine q_op ?_
  | with_reducible refine q_c ?_
  | ((with_reducible refine' q_var ?b1 ?_); (case b1 => rfl))
  | with_reducible refine q_fld ?_
  | ((with_reducible refine' q_fldR ?b1 ?b2 ?_); (case b1 => walk_at "at"); (case b2 => rfl))
  | ((with_reducible refine' q_fldV ?b2 ?_); (case b2 => rfl))
  | ((with_reducible refine' q_eqS ?b1 ?b2 ?_); (case b1 => walk_at "sok"); (case b2 => walk_at "sok"))
  | ((with_reducible refine' q_neS ?b1 ?b2 ?_); (case b1 => walk_at "sok"); (case b2 => walk_at "sok"))
  | with_reducible refine q_eqB ?_
  | with_reducible refine q_eqI ?_
  | with_reducible refine q_neI ?_
  | with_reducible refine q_addI ?_
  | with_reducible refine q_oadd ?_
  | with_reducible refine q_osub ?_
  | with_reducible refine q_lt ?_
  | with_reducible refine q_le ?_
  | with_reducible refine q_gt ?_
  | with_reducible refine q_ge ?_
  | with_reducible refine q_isN ?_
  | with_reducible refine q_notN ?_
  | ((with_reducible refine' q_ixT ?b2 ?_); (case b2 => rfl))
  | ((with_reducible refine' q_ixL ?b2 ?_); (case b2 => rfl))
  | ((with_reducible refine' q_ixR ?b1 ?b2 ?_); (case b1 => walk_at "at"); (case b2 => rfl))
  | with_reducible refine q_bl ?_
  | with_reducible refine q_ret ?_
  | with_reducible refine q_retN ?_
  | with_reducible refine q_skip ?_
  | with_reducible refine q_drop ?_
  | with_reducible refine q_asg ?_
  | with_reducible refine q_gN ?_
  | with_reducible refine q_gFld ?_
  | with_reducible refine q_aug ?_
  | with_reducible refine q_isRef ?_
  | ((with_reducible refine' q_put ?b1 ?b2 ?b3 ?_); (case b1 => walk_at "at"); (case b2 => rfl); (case b3 => rfl))
  | with_reducible refine q_nil ?_
  | with_reducible refine q_cons ?_
  | with_reducible refine q_not ?_
  | with_reducible refine q_and ?_
  | with_reducible refine q_or ?_
  | with_reducible refine q_andV ?_
  | with_reducible refine q_orV ?_
  | with_reducible refine q_notV ?_
  | with_reducible refine q_ifE ?_
  | with_reducible refine q_tup ?_
  | ((with_reducible refine' q_szA ?b1 fun p => ?_); (case b1 => walk_at "sz"))
  | ((with_reducible refine' q_sz ?b1 ?_); (case b1 => walk_at "sz"))
  | with_reducible refine q_bm ?_
  | ((with_reducible refine' q_own ?b1 ?_); (case b1 => walk_at "at"))
  | ((with_reducible refine' q_append ?b1 ?b2 ?_); (case b1 => walk_at "at"); (case b2 => walk_at "sz"))
  | with_reducible refine q_call0 ?_
  | with_reducible refine q_meth0 ?_
  | ((with_reducible refine' q_isR ?b1 ?_); (case b1 => walk_at "at"))
  | ((with_reducible refine' q_isP ?b1 ?_); (case b1 => exact Or.inr ⟨_, rfl⟩))
  | with_reducible refine q_dct ?_
  | with_reducible refine q_dget ?_
  | ((with_reducible refine' q_dctE ?b1 ?_); (case b1 => walk_at "at"))
  | with_reducible refine q_dinT ?_
  | with_reducible refine q_dinF ?_
  | with_reducible refine q_dget1 ?_
  | ((with_reducible refine' q_isDct ?b1 ?_); (case b1 => walk_at "at"))
  | ((with_reducible refine' q_setD ?b1 ?b2 ?_); (case b1 => walk_at "at"); (case b2 => walk_at "sz"))
  | with_reducible refine q_orT ?_
  | ((with_reducible refine' q_orTT ?b1 ?_); (case b1 => rfl))
  | with_reducible refine q_cb ?_
  | ((with_reducible refine' q_inT ?b1 ?b2 rfl ?_); (case b1 => walk_at "pd"); (case b2 => walk_at "pd"))
  | ((with_reducible refine' q_notInT ?b1 ?b2 rfl ?_); (case b1 => walk_at "pd"); (case b2 => walk_at "pd"))
  | ((with_reducible refine' q_isi rfl ?b1 ?_); (case b1 => walk_at "ty"))
  | ((with_reducible refine' q_isi2 rfl rfl ?b1 ?_); (case b1 => walk_at "ty"))
  | with_reducible refine q_lenT ?_
  | with_reducible refine q_lenL ?_
  | ((with_reducible refine' q_lenR ?b1 ?_); (case b1 => walk_at "at"))
  | ((with_reducible refine' q_lenD ?b1 ?_); (case b1 => walk_at "at"))
  | ((with_reducible refine' q_lenS ?b1 ?_); (case b1 => walk_at "sz"))
  | with_reducible refine q_lenSc ?_
  | with_reducible refine q_intI ?_
  | with_reducible refine q_intB ?_
  | with_reducible refine q_listT ?_
  | with_reducible refine q_listL ?_
  | ((with_reducible refine' q_listR ?b1 ?_); (case b1 => walk_at "at"))
  | ((with_reducible refine' q_listD ?b1 ?_); (case b1 => walk_at "at"))
  | ((with_reducible refine' q_tupR ?b1 ?_); (case b1 => walk_at "at"))
  | with_reducible refine q_tupL ?_
  | ((with_reducible refine' q_dictO ?b1 fun p => ?_); (case b1 => walk_at "at"))
  | with_reducible refine q_dictN fun p => ?_
  | with_reducible refine q_lstO ?_
  | with_reducible refine q_lstV ?_
  | with_reducible refine q_chain ?_
  | ((with_reducible refine' q_gTup ?b1 ?_); (case b1 => rfl))
  | with_reducible refine q_gCons ?_
  | with_reducible refine q_gNil ?_
  | with_reducible refine q_par ?_
  | with_reducible refine q_par3 ?_
  | with_reducible refine q_two ?_
  | with_reducible refine q_three ?_
  | ((with_reducible refine' q_saug ?b1 ?_); (case b1 => rfl))
  | with_reducible refine q_gSub ?_
  | ((with_reducible refine' q_setL ?b1 ?b2 ?b3 ?_); (case b1 => walk_at "at"); (case b2 => rfl); (case b3 => rfl))
  | with_reducible refine q_ownV ?_
  | with_reducible refine q_indexA ?_
  | ((with_reducible refine' q_indexB ?b1 ?_); (case b1 => decide +kernel))
  | ((with_reducible refine' q_listO ?b1 fun p => ?_); (case b1 => walk_at "at"))
  | with_reducible refine q_listOT fun p => ?_
  | ((with_reducible refine' q_popO ?b1 ?_); (case b1 => walk_at "at"))
  | with_reducible refine q_yes ?_
  | with_reducible refine q_cN ?_
  | with_reducible refine q_make0 ?_
  | with_reducible refine q_lstX ?_
  | with_reducible refine q_tupX ?_
  | ((with_reducible refine' q_iteT ?b1 ?_); (case b1 => first | rfl | decide +kernel))
  | ((with_reducible refine' q_iteF ?b1 ?_); (case b1 => first | rfl | decide +kernel))
  | with_reducible refine q_goS ?_
  | with_reducible refine q_goV ?_)
local macro_rules | `(tactic| walk_at "bv") => `(tactic| (repeat (walk_at "b1")))
def sp_Book_desks : BSp := fun ex ds M R => ∃ b, ds = [Bk.d b] ∧ M = [] ∧ R (.tup (b.desks.map .str)) []
theorem len_Book_desks : ∀ ex ds M R, sp_Book_desks ex ds M R → ds.length = 1 := by
  rintro ex ds M R ⟨b, rfl, _⟩
  rfl
def t_Book_desks : RS := sRet (rFld .book 0 (rVar 0))
def t_Book_rules : RS := sRet (rFld .book 1 (rVar 0))
theorem pure_Book_desks : ∀ ex ds M R, sp_Book_desks ex ds M R → t_Book_desks { ex := ex, nx := fun _ M' => R .non M', rt := R } (startB 1 ds) M := by
  rintro ex ds M R ⟨b, rfl, rfl, k⟩
  unfold t_Book_desks Bk.d Bk.l
  walk_at "bv"
  exact k
def sp_Book_rules : BSp := fun ex ds M R => ∃ b, ds = [Bk.d b] ∧ M = [] ∧ R (.tup (b.rules.map Rule.d)) []
theorem len_Book_rules : ∀ ex ds M R, sp_Book_rules ex ds M R → ds.length = 1 := by
  rintro ex ds M R ⟨b, rfl, _⟩
  rfl
theorem pure_Book_rules : ∀ ex ds M R, sp_Book_rules ex ds M R → t_Book_rules { ex := ex, nx := fun _ M' => R .non M', rt := R } (startB 1 ds) M := by
  rintro ex ds M R ⟨b, rfl, rfl, k⟩
  unfold t_Book_rules Bk.d Bk.l
  walk_at "bv"
  exact k
def t_TicketWork_start : RS := sIf (rTst (rVar 2)) (sSeq (sAsg (rTup (rCons (rC (.str "new")) (rCons (rOp oIx (rMeth0 .book sp_Book_desks (rFld .work 0 (rVar 0)) rNil) (rC (.int 0))) rNil))) (BV.gTup 2 (BV.gCons (gFld .work 1 (rVar 0)) (BV.gCons (gFld .work 2 (rVar 0)) BV.gNil)))) (sDrop (rBM "list" mAppend (rFld .work 6 (rVar 0)) (rCons (rC (.str "letter")) rNil)))) (sIf (rTst (rOp oEq (rOp oIx (rVar 1) (rC (.int 0))) (rC (.str "letter")))) (sSeq (sAsg (rTup (rCons (rC (.bl false)) (rCons (rC (.int 0)) rNil))) (BV.gTup 2 (BV.gCons (gFld .work 3 (rVar 0)) (BV.gCons (gFld .work 4 (rVar 0)) BV.gNil)))) (sDrop (rBM "list" mAppend (rFld .work 6 (rVar 0)) (rCons (rC (.str "letter")) rNil)))) (sIf (rTst (rOp oEq (rOp oIx (rVar 1) (rC (.int 0))) (rC (.str "answer")))) (sSeq (sAsg (rTup (rCons (rC (.bl true)) (rCons (rC (.int 0)) rNil))) (BV.gTup 2 (BV.gCons (gFld .work 3 (rVar 0)) (BV.gCons (gFld .work 4 (rVar 0)) BV.gNil)))) (sDrop (rBM "list" mAppend (rFld .work 6 (rVar 0)) (rCons (rC (.str "answer")) rNil)))) (sIf (rTst (rOp oEq (rOp oIx (rVar 1) (rC (.int 0))) (rC (.str "day")))) (sSeq (sFldAug .work 4 (rVar 0) (rC (.int 1)) oAdd) (sDrop (rBM "list" mAppend (rFld .work 6 (rVar 0)) (rCons (rC (.str "day")) rNil)))) (sIf (rTst (rOp oEq (rOp oIx (rVar 1) (rC (.int 0))) (rC (.str "hand")))) (sDrop (rMeth0 .work sp_TicketWork_go_to (rVar 0) (rCons (rOp oIx (rVar 1) (rC (.int 1))) rNil))) (sDrop (rMeth0 .work sp_TicketWork_turn_to (rVar 0) (rCons (rOp oIx (rVar 1) (rC (.int 1))) rNil)))))))
def sp_TicketWork_start : BSp := fun ex ds M R => ∃ p r a w d bf, ds = [.ref p, Deed.d d, .bl (isN (optTk bf))] ∧ d.sk ∧ w.ok ∧ Sz w.row.length ∧ M = Wk.m w p r a ∧ R .non (Wk.m (start bf d w) p r a)
theorem len_TicketWork_start : ∀ ex ds M R, sp_TicketWork_start ex ds M R → ds.length = 3 := by
  rintro ex ds M R ⟨p, r, a, w, d, bf, rfl, _⟩
  rfl
theorem pure_TicketWork_start : ∀ ex ds M R, sp_TicketWork_start ex ds M R → t_TicketWork_start { ex := ex, nx := fun _ M' => R .non M', rt := R } (startB 3 ds) M := by
  rintro ex ds M R ⟨p, r, a, w, d, bf, rfl, hd, ok, hz, rfl, k⟩
  unfold t_TicketWork_start
  have hz' : Sz (sts w.row).length := by rw [sts_len]; exact hz
  have tko := ok.tk
  cases bf with
  | none =>
    simp only [start] at k
    unfold Wk.m Wk.ds at k ⊢
    rw [sts_snoc] at k
    unfold optTk isN
    have hb := ok.bk.2.1
    obtain ⟨bk, tk, row, acted, sent, again, shut, endl⟩ := w
    obtain ⟨desks, rules⟩ := bk
    cases desks with
    | nil => exact (hb rfl).elim
    | cons s0 sr =>
      unfold Bk.d Bk.l at k ⊢
      walk_at "bv"
      refine cf_pure ⟨⟨s0 :: sr, rules⟩, rfl, rfl, ?_⟩
      walk_at "bv"
      refine q_ixT at_zero ?_
      walk_at "bv"
      exact k
  | some t0 =>
    cases d with
    | letter =>
      simp only [start] at k
      unfold Wk.m Wk.ds at k ⊢
      rw [sts_snoc] at k
      unfold optTk Tk.d isN Deed.d Deed.l
      walk_at "bv"
      exact k
    | answer =>
      simp only [start] at k
      unfold Wk.m Wk.ds at k ⊢
      rw [sts_snoc] at k
      unfold optTk Tk.d isN Deed.d Deed.l
      walk_at "bv"
      exact k
    | day =>
      simp only [start] at k
      unfold Wk.m Wk.ds at k ⊢
      rw [sts_snoc] at k
      unfold optTk Tk.d isN Deed.d Deed.l
      walk_at "bv"
      exact k
    | hand s =>
      have hd' : sok s := hd
      unfold optTk Tk.d isN Deed.d Deed.l
      walk_at "bv"
      exact cf_whole ⟨p, r, a, s, w, rfl, hd', tko, hz, rfl, k⟩
    | sett s =>
      have hd' : sok s := hd
      unfold optTk Tk.d isN Deed.d Deed.l
      walk_at "bv"
      exact cf_whole ⟨p, r, a, s, w, rfl, hd', tko, hz, rfl, k⟩
def t_report_of : RS := sRet (rTup (rCons (rCB bListX (rCons (rFld .work 7 (rVar 0)) rNil)) (rCons (rFld .work 8 (rVar 0)) (rCons (rMeth0 .work sp_TicketWork_told (rVar 0) rNil) (rCons (rFld .work 11 (rVar 0)) rNil)))))
def sp_report_of : BSp := fun ex ds M R => ∃ p r a w, ds = [.ref p] ∧ M = Wk.m w p r a ∧ R (.tup w.rep) M
theorem len_report_of : ∀ ex ds M R, sp_report_of ex ds M R → ds.length = 1 := by
  rintro ex ds M R ⟨p, r, a, w, rfl, _⟩
  rfl
theorem pure_report_of : ∀ ex ds M R, sp_report_of ex ds M R → t_report_of { ex := ex, nx := fun _ M' => R .non M', rt := R } (startB 1 ds) M := by
  rintro ex ds M R ⟨p, r, a, w, rfl, rfl, k⟩
  unfold t_report_of Wk.m Wk.ds
  walk_at "bv"
  refine cf_whole ⟨p, r, a, w, rfl, rfl, ?_⟩
  walk_at "bv"
  exact k
end BV
set_option maxHeartbeats 4000000
namespace BV
open PySem
local macro_rules | `(tactic| walk_at "pd") => `(tactic| (first | rfl | assumption | (apply pd_str; assumption) | decide +kernel))
local macro_rules | `(tactic| walk_at "ty") => `(tactic| (first | exact TyD.tup _ | exact TyD.str _ | exact TyD.lst _ | exact TyD.bl _ | exact TyD.int _ | exact TyD.non | (apply TyD.ref; walk_at "at")))
local macro_rules | `(tactic| walk_at "sz") => `(tactic| (first | assumption | exact Nat.le_of_ble_eq_true rfl))
local macro_rules | `(tactic| walk_at "at") => `(tactic| (repeat (first | exact At.here | apply At.there | apply At.app)))
local macro_rules | `(tactic| walk_at "sok") => `(tactic| (first | assumption | (show PyData.strOk _ = true; decide +kernel)))
local macro_rules | `(tactic| walk_at "b1") => `(tactic| first
  | with_reducible refine q_seq ?_
  | with_reducible refine q_if ?_
  | with_reducible refine q_tst ?_
  | with_reducible refine q_op ?_
  | with_reducible refine q_c ?_
  | ((with_reducible refine' q_var ?b1 ?_); (case b1 => rfl))
  | with_reducible refine q_fld ?_
  | ((with_reducible refine' q_fldR ?b1 ?b2 ?_); (case b1 => walk_at "at"); (case b2 => rfl))
  | ((with_reducible refine' q_fldV ?b2 ?_); (case b2 => rfl))
  | ((with_reducible refine' q_eqS ?b1 ?b2 ?_); (case b1 => walk_at "sok"); (case b2 => walk_at "sok"))
  | ((with_reducible refine' q_neS ?b1 ?b2 ?_); (case b1 => walk_at "sok"); (case b2 => walk_at "sok"))
  | with_reducible refine q_eqB ?_
  | with_reducible refine q_eqI ?_
  | with_reducible refine q_neI ?_
  | with_reducible refine q_addI ?_
  | with_reducible refine q_oadd ?_
  | with_reducible refine q_osub ?_
  | with_reducible refine q_lt ?_
  | with_reducible refine q_le ?_
  | with_reducible refine q_gt ?_
  | with_reducible refine q_ge ?_
  | with_reducible refine q_isN ?_
  | with_reducible refine q_notN ?_
  | ((with_reducible refine' q_ixT ?b2 ?_); (case b2 => rfl))
  | ((with_reducible refine' q_ixL ?b2 ?_); (case b2 => rfl))
  | ((with_reducible refine' q_ixR ?b1 ?b2 ?_); (case b1 => walk_at "at"); (case b2 => rfl))
  | with_reducible refine q_bl ?_
  | with_reducible refine q_ret ?_
  | with_reducible refine q_retN ?_
  | with_reducible refine q_skip ?_
  | with_reducible refine q_drop ?_
  | with_reducible refine q_asg ?_
  | with_reducible refine q_gN ?_
  | with_reducible refine q_gFld ?_
  | with_reducible refine q_aug ?_
  | with_reducible refine q_isRef ?_
  | ((with_reducible refine' q_put ?b1 ?b2 ?b3 ?_); (case b1 => walk_at "at"); (case b2 => rfl); (case b3 => rfl))
  | with_reducible refine q_nil ?_
  | with_reducible refine q_cons ?_
  | with_reducible refine q_not ?_
  | with_reducible refine q_and ?_
  | with_reducible refine q_or ?_
  | with_reducible refine q_andV ?_
  | with_reducible refine q_orV ?_
  | with_reducible refine q_notV ?_
  | with_reducible refine q_ifE ?_
  | with_reducible refine q_tup ?_
  | ((with_reducible refine' q_szA ?b1 fun p => ?_); (case b1 => walk_at "sz"))
  | ((with_reducible refine' q_sz ?b1 ?_); (case b1 => walk_at "sz"))
  | with_reducible refine q_bm ?_
  | ((with_reducible refine' q_own ?b1 ?_); (case b1 => walk_at "at"))
  | ((with_reducible refine' q_append ?b1 ?b2 ?_); (case b1 => walk_at "at"); (case b2 => walk_at "sz"))
  | with_reducible refine q_call0 ?_
  | with_reducible refine q_meth0 ?_
  | ((with_reducible refine' q_isR ?b1 ?_); (case b1 => walk_at "at"))
  | ((with_reducible refine' q_isP ?b1 ?_); (case b1 => exact Or.inr ⟨_, rfl⟩))
  | with_reducible refine q_dct ?_
  | with_reducible refine q_dget ?_
  | ((with_reducible refine' q_dctE ?b1 ?_); (case b1 => walk_at "at"))
  | with_reducible refine q_dinT ?_
  | with_reducible refine q_dinF ?_
  | with_reducible refine q_dget1 ?_
  | ((with_reducible refine' q_isDct ?b1 ?_); (case b1 => walk_at "at"))
  | ((with_reducible refine' q_setD ?b1 ?b2 ?_); (case b1 => walk_at "at"); (case b2 => walk_at "sz"))
  | with_reducible refine q_orT ?_
  | ((with_reducible refine' q_orTT ?b1 ?_); (case b1 => rfl))
  | with_reducible refine q_cb ?_
  | ((with_reducible refine' q_inT ?b1 ?b2 rfl ?_); (case b1 => walk_at "pd"); (case b2 => walk_at "pd"))
  | ((with_reducible refine' q_notInT ?b1 ?b2 rfl ?_); (case b1 => walk_at "pd"); (case b2 => walk_at "pd"))
  | ((with_reducible refine' q_isi rfl ?b1 ?_); (case b1 => walk_at "ty"))
  | ((with_reducible refine' q_isi2 rfl rfl ?b1 ?_); (case b1 => walk_at "ty"))
  | with_reducible refine q_lenT ?_
  | with_reducible refine q_lenL ?_
  | ((with_reducible refine' q_lenR ?b1 ?_); (case b1 => walk_at "at"))
  | ((with_reducible refine' q_lenD ?b1 ?_); (case b1 => walk_at "at"))
  | ((with_reducible refine' q_lenS ?b1 ?_); (case b1 => walk_at "sz"))
  | with_reducible refine q_lenSc ?_
  | with_reducible refine q_intI ?_
  | with_reducible refine q_intB ?_
  | with_reducible refine q_listT ?_
  | with_reducible refine q_listL ?_
  | ((with_reducible refine' q_listR ?b1 ?_); (case b1 => walk_at "at"))
  | ((with_reducible refine' q_listD ?b1 ?_); (case b1 => walk_at "at"))
  | ((with_reducible refine' q_tupR ?b1 ?_); (case b1 => walk_at "at"))
  | with_reducible refine q_tupL ?_
  | ((with_reducible refine' q_dictO ?b1 fun p => ?_); (case b1 => walk_at "at"))
  | with_reducible refine q_dictN fun p => ?_
  | with_reducible refine q_lstO ?_
  | with_reducible refine q_lstV ?_
  | with_reducible refine q_chain ?_
  | ((with_reducible refine' q_gTup ?b1 ?_); (case b1 => rfl))
  | with_reducible refine q_gCons ?_
  | with_reducible refine q_gNil ?_
  | with_reducible refine q_par ?_
  | with_reducible refine q_par3 ?_
  | with_reducible refine q_two ?_
  | with_reducible refine q_three ?_
  | ((with_reducible refine' q_saug ?b1 ?_); (case b1 => rfl))
  | with_reducible refine q_gSub ?_
  | ((with_reducible refine' q_setL ?b1 ?b2 ?b3 ?_); (case b1 => walk_at "at"); (case b2 => rfl); (case b3 => rfl))
  | with_reducible refine q_ownV ?_
  | with_reducible refine q_indexA ?_
  | ((with_reducible refine' q_indexB ?b1 ?_); (case b1 => decide +kernel))
  | ((with_reducible refine' q_listO ?b1 fun p => ?_); (case b1 => walk_at "at"))
  | with_reducible refine q_listOT fun p => ?_
  | ((with_reducible refine' q_popO ?b1 ?_); (case b1 => walk_at "at"))
  | with_reducible refine q_yes ?_
  | with_reducible refine q_cN ?_
  | with_reducible refine q_make0 ?_
  | with_reducible refine q_lstX ?_
  | with_reducible refine q_tupX ?_
  | ((with_reducible refine' q_iteT ?b1 ?_); (case b1 => first | rfl | decide +kernel))
  | ((with_reducible refine' q_iteF ?b1 ?_); (case b1 => first | rfl | decide +kernel))
  | with_reducible refine q_goS ?_
  | with_reducible refine q_goV ?_)
local macro_rules | `(tactic| walk_at "bv") => `(tactic| (repeat (walk_at "b1")))
theorem act_pd {c : Act} (h : c.sk) : pd 60 c.d = true := by
  cases c with
  | sta s =>
    have h' : PyData.strOk s = true := h
    simp only [Act.d, Act.l, pd, pds, h', Bool.and_true]
    decide +kernel
  | dsk s =>
    have h' : PyData.strOk s = true := h
    simp only [Act.d, Act.l, pd, pds, h', Bool.and_true]
    decide +kernel
  | mrk b =>
    simp only [Act.d, Act.l, pd, pds, Bool.and_true]
    decide +kernel
  | reply => decide +kernel
  | stop => decide +kernel
def Act.isStop : Act → Bool
  | .stop => true
  | _ => false
theorem act_stop {c : Act} : deq c.d (.tup [.str "stop"]) = c.isStop := by
  cases c with
  | sta s => rfl
  | dsk s => rfl
  | mrk b => rfl
  | reply => rfl
  | stop => rfl
def t_TicketWork_handle : RS := sFor (iEnumT (rCons (rMeth0 .book sp_Book_rules (rFld .work 0 (rVar 0)) rNil) rNil)) (BV.gTup 2 (BV.gCons (gN 2) (BV.gCons (gN 3) BV.gNil))) (sIf (rAnd (rTst (rOp oEq (rOp oIx (rVar 3) (rC (.int 0))) (rVar 1))) (rTst (rCB bAll (rCons (rLc (iSeq (rOp oIx (rVar 3) (rC (.int 1)))) (cN 5) (rYes) (rMeth0 .work sp_TicketWork_holds (rVar 0) (rCons (rVar 5) rNil)) [5]) rNil)))) (sSeq (sDrop (rBM "list" mAppend (rFld .work 7 (rVar 0)) (rCons (rVar 2) rNil))) (sFor (iSeq (rOp oIx (rVar 3) (rC (.int 2)))) (gN 4) (sSeq (sIf (rTst (rOp oEq (rVar 4) (rTup (rCons (rC (.str "stop")) rNil)))) (sRetN) (sSkip)) (sDrop (rMeth0 .work sp_TicketWork_carry_out (rVar 0) (rCons (rVar 4) rNil)))))) (sSkip))
def b_hIn : RS := sSeq (sIf (rTst (rOp oEq (rVar 4) (rTup (rCons (rC (.str "stop")) rNil)))) (sRetN) (sSkip)) (sDrop (rMeth0 .work sp_TicketWork_carry_out (rVar 0) (rCons (rVar 4) rNil)))
def b_hOut : RS := sIf (rAnd (rTst (rOp oEq (rOp oIx (rVar 3) (rC (.int 0))) (rVar 1))) (rTst (rCB bAll (rCons (rLc (iSeq (rOp oIx (rVar 3) (rC (.int 1)))) (cN 5) (rYes) (rMeth0 .work sp_TicketWork_holds (rVar 0) (rCons (rVar 5) rNil)) [5]) rNil)))) (sSeq (sDrop (rBM "list" mAppend (rFld .work 7 (rVar 0)) (rCons (rVar 2) rNil))) (sFor (iSeq (rOp oIx (rVar 3) (rC (.int 2)))) (gN 4) b_hIn)) (sSkip)
theorem handle_in {B : BEnds} {p r a : Addr} {x1 x2 x3 x5 : Option D} : ∀ (as : List Act) (w : Wk) (x4 : Option D), w.ok → (∀ c ∈ as, c.sk) → Sz (w.row.length + as.length) →
    (((carryAll as w).2 = true → B.rt .non (Wk.m (carryAll as w).1 p r a)) ∧ ((carryAll as w).2 = false → ∀ x4, B.nx [some (.ref p), x1, x2, x3, x4, x5] (Wk.m (carryAll as w).1 p r a))) →
    forW (gN 4) b_hIn B (as.map Act.d) [some (.ref p), x1, x2, x3, x4, x5] (Wk.m w p r a)
  | [], w, x4, _, _, _, k => .go (k.2 rfl x4)
  | c :: as, w, x4, ok, hs, hz, k => by
    rw [List.map_cons]
    unfold forW
    refine q_gN ?_
    unfold b_hIn
    walk_at "bv"
    refine q_eqX (.inr rfl) (.inr rfl) (act_pd (hs c List.mem_cons_self)) (by decide +kernel) act_stop ?_
    walk_at "bv"
    rw [List.length_cons] at hz
    have hs2 : ∀ c ∈ as, c.sk := fun y hy => hs y (List.mem_cons_of_mem _ hy)
    have hz1 : Sz w.row.length := Nat.le_trans (by omega) hz
    by_cases hc : c = .stop
    · subst hc
      refine q_iteT rfl ?_
      exact k.1 rfl
    · have e1 : c.isStop = false := by cases c with
        | stop => exact (hc rfl).elim
        | _ => rfl
      have e2 : carryAll (c :: as) w = carryAll as (carry c w) := by cases c with
        | stop => exact (hc rfl).elim
        | _ => rfl
      refine q_iteF e1 ?_
      rw [e2] at k
      walk_at "bv"
      refine cf_whole ⟨p, r, a, w, c, rfl, hc, hs c List.mem_cons_self, ok.tk, hz1, rfl, ?_⟩
      refine .go ?_
      exact handle_in as (carry c w) (some c.d) (carry_ok ok (hs c List.mem_cons_self)) hs2 (Nat.le_trans (Nat.add_le_add_right carry_row _) (Nat.le_trans (by omega) hz)) k
theorem sk_get {α : Type} {P : α → Prop} {x : α} {l : List α} (h : ∀ y ∈ x :: l, P y) : P x ∧ ∀ y ∈ l, P y := ⟨h x List.mem_cons_self, fun y hy => h y (List.mem_cons_of_mem _ hy)⟩
theorem carryAll_ok : ∀ {as : List Act} {w : Wk}, w.ok → (∀ c ∈ as, c.sk) → (carryAll as w).1.ok
  | [], w, ok, _ => ok
  | c :: as, w, ok, hs => by
    cases c with
    | stop => exact ok
    | _ => exact carryAll_ok (as := as) (carry_ok ok (hs _ List.mem_cons_self)) (fun y hy => hs y (List.mem_cons_of_mem _ hy))
theorem carryAll_bk : ∀ {as : List Act} {w : Wk}, (carryAll as w).1.bk = w.bk
  | [], w => rfl
  | c :: as, w => by
    cases c with
    | stop => rfl
    | _ => exact (carryAll_bk (as := as)).trans carry_bk
theorem carryAll_acted : ∀ {as : List Act} {w : Wk}, (carryAll as w).1.acted = w.acted
  | [], w => rfl
  | c :: as, w => by
    cases c with
    | stop => rfl
    | _ => exact (carryAll_acted (as := as)).trans carry_acted
theorem tst_enc {w : Wk} {p r a : Addr} {x1 x2 x3 x4 : Option D} {R : BQ} {t : Tst} (ok : w.ok) (ht : t.sk) (k : R (.bl (hold w.tk t)) (Wk.m w p r a)) : rMeth0 .work sp_TicketWork_holds (rVar 0) (rCons (rVar 5) rNil) nox [some (.ref p), x1, x2, x3, x4, some t.d] (Wk.m w p r a) R := by
  walk_at "bv"
  exact cf_whole ⟨p, r, a, w, t, rfl, ht, ok.tk, rfl, k⟩
theorem handle_out {B : BEnds} {p r a : Addr} {ev : Str} (hev : sok ev) : ∀ (rs : List Rule) (i : Nat) (w : Wk) (x2 x3 x4 x5 : Option D), w.ok → (∀ c ∈ rs, c.sk) → Sz (w.row.length + 4 * rs.length) → Sz (w.acted.length + rs.length) →
    (B.rt .non (Wk.m (handleFrom ev i rs w) p r a) ∧ ∀ x2 x3 x4 x5, B.nx [some (.ref p), some (.str ev), x2, x3, x4, x5] (Wk.m (handleFrom ev i rs w) p r a)) →
    forW (BV.gTup 2 (BV.gCons (gN 2) (BV.gCons (gN 3) BV.gNil))) b_hOut B (enumD i (rs.map Rule.d)) [some (.ref p), some (.str ev), x2, x3, x4, x5] (Wk.m w p r a)
  | [], i, w, x2, x3, x4, x5, _, _, _, _, k => .go (k.2 _ _ _ _)
  | ru :: rs, i, w, x2, x3, x4, x5, ok, hs, hz, hz2, k => by
    obtain ⟨hr, hs2⟩ := sk_get hs
    rw [List.length_cons] at hz hz2
    rw [List.map_cons]
    unfold enumD forW
    unfold handleFrom at k
    walk_at "bv"
    unfold b_hOut
    have hre : sok ru.ev := hr.1
    unfold Rule.d
    walk_at "bv"
    have nt : Sz w.row.length := Nat.le_trans (by omega) hz
    have hza : Sz (nats w.acted).length := by rw [nats_len]; exact Nat.le_trans (by omega) hz2
    refine q_iteD (fun h1 => ?_) (fun h1 => ?_)
    · walk_at "bv"
      refine q_lc (q_seqT ?_)
      walk_at "bv"
      refine lc_map (val := fun t => .bl (hold w.tk t)) (fun t ht R kk => tst_enc ok (hr.2.1 t ht) kk) ?_ ?_
      · exact Nat.le_trans (show 0 + ru.ts.length ≤ 4 by have := hr.2.2.2.2; omega) (by decide)
      · rw [List.nil_append, map_bl]
        walk_at "bv"
        refine q_all ?_
        rw [all_map_id]
        walk_at "bv"
        refine q_ite (fun h2 => ?_) (fun h2 => ?_)
        · have hf : fits ev w.tk ru = true := by unfold fits; rw [decide_eq_true h1, h2]; rfl
          rw [if_pos hf] at k
          unfold Wk.m Wk.ds
          walk_at "bv"
          rw [← nats_snoc]
          refine q_for (q_seqT ?_)
          walk_at "bv"
          refine handle_in ru.as { w with acted := w.acted ++ [i] } _ ⟨ok.bk, ok.tk, ok.row⟩ hr.2.2.1 ?_ ⟨fun h3 => ?_, fun h3 x4 => ?_⟩
          · exact Nat.le_trans (show w.row.length + ru.as.length ≤ w.row.length + 4 * (rs.length + 1) by have := hr.2.2.2.1; omega) hz
          · rw [if_pos h3] at k
            exact k.1
          · rw [if_neg (by rw [h3]; exact Bool.false_ne_true)] at k
            refine .go ?_
            refine handle_out hev rs (i + 1) _ _ _ _ _ ?_ hs2 ?_ ?_ k
            · exact carryAll_ok ⟨ok.bk, ok.tk, ok.row⟩ hr.2.2.1
            · have := carryAll_row (as := ru.as) (w := { w with acted := w.acted ++ [i] })
              have h4 := hr.2.2.2.1
              exact Nat.le_trans (show _ ≤ w.row.length + 4 * (rs.length + 1) by show _ ≤ w.row.length + 4 * (rs.length + 1); simp only at this; omega) hz
            · rw [carryAll_acted]
              exact Nat.le_trans (show (w.acted ++ [i]).length + rs.length ≤ w.acted.length + (rs.length + 1) by simp; omega) hz2
        · have hf : ¬ fits ev w.tk ru = true := by unfold fits; rw [h2, Bool.and_false]; exact Bool.false_ne_true
          rw [if_neg hf] at k
          walk_at "bv"
          exact .go <| handle_out hev rs (i + 1) w _ _ _ _ ok hs2 (Nat.le_trans (by omega) hz) (Nat.le_trans (by omega) hz2) k
    · have hf : ¬ fits ev w.tk ru = true := by unfold fits; rw [decide_eq_false h1]; exact Bool.false_ne_true
      rw [if_neg hf] at k
      walk_at "bv"
      exact .go <| handle_out hev rs (i + 1) w _ _ _ _ ok hs2 (Nat.le_trans (by omega) hz) (Nat.le_trans (by omega) hz2) k
theorem handleFrom_ok {ev : Str} : ∀ {rs : List Rule} {i : Nat} {w : Wk}, w.ok → (∀ c ∈ rs, c.sk) → (handleFrom ev i rs w).ok
  | [], _, _, ok, _ => ok
  | ru :: rs, i, w, ok, hs => by
    obtain ⟨hr, hs2⟩ := sk_get hs
    unfold handleFrom
    split
    · have h1 := carryAll_ok (as := ru.as) (w := { w with acted := w.acted ++ [i] }) ⟨ok.bk, ok.tk, ok.row⟩ hr.2.2.1
      simp only
      split
      · exact h1
      · exact handleFrom_ok h1 hs2
    · exact handleFrom_ok ok hs2
theorem handleFrom_bk {ev : Str} : ∀ {rs : List Rule} {i : Nat} {w : Wk}, (handleFrom ev i rs w).bk = w.bk
  | [], _, _ => rfl
  | ru :: rs, i, w => by
    unfold handleFrom
    split
    · simp only
      split
      · exact carryAll_bk
      · exact handleFrom_bk.trans carryAll_bk
    · exact handleFrom_bk
theorem handleFrom_row {ev : Str} : ∀ {rs : List Rule} {i : Nat} {w : Wk}, (∀ c ∈ rs, c.sk) → (handleFrom ev i rs w).row.length ≤ w.row.length + 4 * rs.length
  | [], _, w, _ => by simp [handleFrom]
  | ru :: rs, i, w, hs => by
    obtain ⟨hr, hs2⟩ := sk_get hs
    have h4 := hr.2.2.2.1
    rw [List.length_cons]
    unfold handleFrom
    split
    · have h1 := carryAll_row (as := ru.as) (w := { w with acted := w.acted ++ [i] })
      simp only at h1 ⊢
      split
      · omega
      · exact Nat.le_trans (handleFrom_row hs2) (by omega)
    · exact Nat.le_trans (handleFrom_row hs2) (by omega)
theorem handleFrom_acted {ev : Str} : ∀ {rs : List Rule} {i : Nat} {w : Wk}, (handleFrom ev i rs w).acted.length ≤ w.acted.length + rs.length
  | [], _, w => by simp [handleFrom]
  | ru :: rs, i, w => by
    rw [List.length_cons]
    unfold handleFrom
    split
    · have h1 := carryAll_acted (as := ru.as) (w := { w with acted := w.acted ++ [i] })
      simp only at h1 ⊢
      split
      · rw [h1]; simp <;> omega
      · refine Nat.le_trans handleFrom_acted ?_
        rw [h1]; simp <;> omega
    · exact Nat.le_trans handleFrom_acted (by omega)
def sp_TicketWork_handle : BSp := fun ex ds M R => ∃ p r a w ev, ds = [.ref p, .str ev] ∧ sok ev ∧ w.ok ∧ w.row.length ≤ 1000000 ∧ w.acted.length ≤ 1000000 ∧ M = Wk.m w p r a ∧ R .non (Wk.m (handle ev w) p r a)
theorem len_TicketWork_handle : ∀ ex ds M R, sp_TicketWork_handle ex ds M R → ds.length = 2 := by
  rintro ex ds M R ⟨p, r, a, w, ev, rfl, _⟩
  rfl
theorem pure_TicketWork_handle : ∀ ex ds M R, sp_TicketWork_handle ex ds M R → t_TicketWork_handle { ex := ex, nx := fun _ M' => R .non M', rt := R } (startB 6 ds) M := by
  rintro ex ds M R ⟨p, r, a, w, ev, rfl, hev, ok, hz, hz2, rfl, k⟩
  unfold t_TicketWork_handle
  refine q_for (q_enumT ?_)
  walk_at "bv"
  refine cf_pure ⟨w.bk, rfl, rfl, ?_⟩
  walk_at "bv"
  refine ⟨_, rfl, ?_⟩
  have h8 := ok.bk.2.2.2
  exact handle_out hev w.bk.rules 0 w _ _ _ _ ok ok.bk.2.2.1 (Nat.le_trans (show _ ≤ 1000032 by omega) (by decide)) (Nat.le_trans (show _ ≤ 1000032 by omega) (by decide)) ⟨k, fun _ _ _ _ => k⟩
def t_TicketWork_handle_all : RS := sSeq (sAsg (rC (.int 0)) (gN 1)) (sWhile (rTst (rOp oNe (rFld .work 6 (rVar 0)) (rLstV rNil))) (sIf (rTst (rOp oEq (rVar 1) (rC (.int 50)))) (sSeq (sAsg (rC (.bl true)) (gFld .work 11 (rVar 0))) (sAsg (rLstO rNil) (gFld .work 6 (rVar 0)))) (sSeq (sAsg (rBM "list" mPop0 (rFld .work 6 (rVar 0)) (rCons (rC (.int 0)) rNil)) (gN 2)) (sSeq (sAug 1 (rC (.int 1)) oAdd) (sDrop (rMeth0 .work sp_TicketWork_handle (rVar 0) (rCons (rVar 2) rNil)))))))
theorem perm_mid {α : Type} {x y z w : α} : [x, y, z, w].Perm [z, y, x, w] :=
  ((List.Perm.swap y x [z, w]).trans ((List.Perm.swap z x [w]).cons y)).trans (List.Perm.swap z y [x, w])
theorem sts_pd : ∀ {l : List Str} {n : Nat}, (∀ x ∈ l, sok x) → pds n (sts l) = true
  | [], n, _ => by unfold sts; simp only [List.map_nil, pds]
  | x :: l, n, h => by
    unfold sts
    rw [List.map_cons]
    simp only [pds]
    rw [pd_str (h x List.mem_cons_self)]
    exact sts_pd (fun y hy => h y (List.mem_cons_of_mem _ hy))
theorem lst_pd {l : List Str} (h : ∀ x ∈ l, sok x) : pd 60 (.lst (sts l)) = true := by
  simp only [pd]
  exact sts_pd h
theorem deq_nil {ds : List D} : deq (.lst ds) (.lst []) = decide (ds = []) := by
  cases ds with
  | nil => rfl
  | cons d r => rfl
theorem handleAll_nil {n : Nat} {w : Wk} (h : w.row = []) : handleAll n w = w := by
  cases n with
  | zero => unfold handleAll; rw [if_pos h]
  | succ n => unfold handleAll; rw [h]
def c_ha : RT := rTst (rOp oNe (rFld .work 6 (rVar 0)) (rLstV rNil))
def b_ha : RS := sIf (rTst (rOp oEq (rVar 1) (rC (.int 50)))) (sSeq (sAsg (rC (.bl true)) (gFld .work 11 (rVar 0))) (sAsg (rLstO rNil) (gFld .work 6 (rVar 0)))) (sSeq (sAsg (rBM "list" mPop0 (rFld .work 6 (rVar 0)) (rCons (rC (.int 0)) rNil)) (gN 2)) (sSeq (sAug 1 (rC (.int 1)) oAdd) (sDrop (rMeth0 .work sp_TicketWork_handle (rVar 0) (rCons (rVar 2) rNil)))))
theorem ha_loop {B : BEnds} {p a : Addr} : ∀ (j : Nat) (h : Int) (r : Addr) (w : Wk) (x2 : Option D), h + j = 50 → w.ok → w.row.length + 32 * (j + 1) ≤ 1000000 → w.acted.length + 8 * (j + 1) ≤ 1000000 →
    (∀ r x1 x2, B.nx [some (.ref p), x1, x2] (Wk.m (handleAll j w) p r a)) → whW c_ha b_ha B (j + 2) [some (.ref p), some (.int h), x2] (Wk.m w p r a) := by
  intro j
  induction j with
  | zero =>
    intro h r w x2 hj ok hz hz2 k
    have hh : h = 50 := by omega
    subst hh
    unfold whW c_ha
    have hp := lst_pd ok.row
    walk_at "bv"
    refine q_neX (.inl ⟨sts w.row, rfl, r, _, rfl, .there .here⟩) (.inr rfl) hp (by decide +kernel) deq_nil ?_
    refine q_bl ?_
    by_cases e : w.row = []
    · refine q_iteF (by rw [e]; rfl) ?_
      have k2 := k r (some (.int 50)) x2
      rw [handleAll_nil e] at k2
      exact k2
    · refine q_iteT ?_ ?_
      · have : ¬ sts w.row = [] := fun q => e (List.map_eq_nil_iff.mp q)
        rw [decide_eq_false this]; rfl
      unfold b_ha Wk.m Wk.ds
      walk_at "bv"
      rename_i r2
      have k2 := k r2 (some (.int 50)) x2
      unfold handleAll at k2
      rw [if_neg e] at k2
      refine ⟨_, _, (Cv.perm perm_mid).trans Cv.drop, ?_⟩
      unfold whW
      walk_at "bv"
      refine q_neX (.inl ⟨[], rfl, r2, _, rfl, .there .here⟩) (.inr rfl) (by decide +kernel) (by decide +kernel) deq_nil ?_
      walk_at "bv"
      exact k2
  | succ n ih =>
    intro h r w x2 hj ok hz hz2 k
    unfold whW c_ha
    have hp := lst_pd ok.row
    walk_at "bv"
    refine q_neX (.inl ⟨sts w.row, rfl, r, _, rfl, .there .here⟩) (.inr rfl) hp (by decide +kernel) deq_nil ?_
    refine q_bl ?_
    cases e : w.row with
    | nil =>
      refine q_iteF rfl ?_
      have k2 := k r (some (.int h)) x2
      rw [handleAll_nil e] at k2
      exact k2
    | cons ev rest =>
      refine q_iteT rfl ?_
      unfold handleAll at k
      rw [e] at k
      rw [e, List.length_cons] at hz
      have hev := sk_get (P := sok) (x := ev) (l := rest) (by have := ok.row; rw [e] at this; exact this)
      unfold b_ha Wk.m Wk.ds
      rw [e]
      unfold sts
      rw [List.map_cons]
      walk_at "bv"
      refine q_iteF (decide_eq_false (by omega)) ?_
      walk_at "bv"
      have ok2 : ({ w with row := rest } : Wk).ok := ⟨ok.bk, ok.tk, hev.2⟩
      have h8 := ok.bk.2.2.2
      refine cf_whole ⟨p, r, a, { w with row := rest }, ev, rfl, hev.1, ok2, by simp only; omega, by simp only; omega, rfl, ?_⟩
      refine .go ?_
      refine ih (h + 1) r _ _ (by omega) (handleFrom_ok ok2 ok.bk.2.2.1) ?_ ?_ k
      · have := handleFrom_row (ev := ev) (i := 0) (w := { w with row := rest }) ok.bk.2.2.1
        unfold handle
        simp only at this ⊢
        omega
      · have := handleFrom_acted (ev := ev) (i := 0) (rs := w.bk.rules) (w := { w with row := rest })
        unfold handle
        simp only at this ⊢
        omega
def sp_TicketWork_handle_all : BSp := fun ex ds M R => ∃ p r a w, ds = [.ref p] ∧ w.ok ∧ w.row.length ≤ 1000 ∧ w.acted.length ≤ 1000 ∧ M = Wk.m w p r a ∧ ∀ r, R .non (Wk.m (handleAll 50 w) p r a)
theorem len_TicketWork_handle_all : ∀ ex ds M R, sp_TicketWork_handle_all ex ds M R → ds.length = 1 := by
  rintro ex ds M R ⟨p, r, a, w, rfl, _⟩
  rfl
theorem pure_TicketWork_handle_all : ∀ ex ds M R, sp_TicketWork_handle_all ex ds M R → t_TicketWork_handle_all { ex := ex, nx := fun _ M' => R .non M', rt := R } (startB 3 ds) M := by
  rintro ex ds M R ⟨p, r, a, w, rfl, ok, hz, hz2, rfl, k⟩
  unfold t_TicketWork_handle_all
  walk_at "bv"
  exact ⟨52, ha_loop 50 0 r w _ (by omega) ok (by omega) (by omega) fun r _ _ => k r⟩
end BV
set_option maxHeartbeats 4000000
namespace BV
open PySem
local macro_rules | `(tactic| walk_at "pd") => `(tactic| (first | rfl | assumption | (apply pd_str; assumption) | decide +kernel))
local macro_rules | `(tactic| walk_at "ty") => `(tactic| (first | exact TyD.tup _ | exact TyD.str _ | exact TyD.lst _ | exact TyD.bl _ | exact TyD.int _ | exact TyD.non | (apply TyD.ref; walk_at "at")))
local macro_rules | `(tactic| walk_at "sz") => `(tactic| (first | assumption | exact Nat.le_of_ble_eq_true rfl))
local macro_rules | `(tactic| walk_at "at") => `(tactic| (repeat (first | exact At.here | apply At.there | apply At.app)))
local macro_rules | `(tactic| walk_at "sok") => `(tactic| (first | assumption | (show PyData.strOk _ = true; decide +kernel)))
local macro_rules | `(tactic| walk_at "b1") => `(tactic| first
  | with_reducible refine q_seq ?_
  | with_reducible refine q_if ?_
  | with_reducible refine q_tst ?_
  | with_reducible refine q_op ?_
  | with_reducible refine q_c ?_
  | ((with_reducible refine' q_var ?b1 ?_); (case b1 => rfl))
  | with_reducible refine q_fld ?_
  | ((with_reducible refine' q_fldR ?b1 ?b2 ?_); (case b1 => walk_at "at"); (case b2 => rfl))
  | ((with_reducible refine' q_fldV ?b2 ?_); (case b2 => rfl))
  | ((with_reducible refine' q_eqS ?b1 ?b2 ?_); (case b1 => walk_at "sok"); (case b2 => walk_at "sok"))
  | ((with_reducible refine' q_neS ?b1 ?b2 ?_); (case b1 => walk_at "sok"); (case b2 => walk_at "sok"))
  | with_reducible refine q_eqB ?_
  | with_reducible refine q_eqI ?_
  | with_reducible refine q_neI ?_
  | with_reducible refine q_addI ?_
  | with_reducible refine q_oadd ?_
  | with_reducible refine q_osub ?_
  | with_reducible refine q_lt ?_
  | with_reducible refine q_le ?_
  | with_reducible refine q_gt ?_
  | with_reducible refine q_ge ?_
  | with_reducible refine q_isN ?_
  | with_reducible refine q_notN ?_
  | ((with_reducible refine' q_ixT ?b2 ?_); (case b2 => rfl))
  | ((with_reducible refine' q_ixL ?b2 ?_); (case b2 => rfl))
  | ((with_reducible refine' q_ixR ?b1 ?b2 ?_); (case b1 => walk_at "at"); (case b2 => rfl))
  | with_reducible refine q_bl ?_
  | with_reducible refine q_ret ?_
  | with_reducible refine q_retN ?_
  | with_reducible refine q_skip ?_
  | with_reducible refine q_drop ?_
  | with_reducible refine q_asg ?_
  | with_reducible refine q_gN ?_
  | with_reducible refine q_gFld ?_
  | with_reducible refine q_aug ?_
  | with_reducible refine q_isRef ?_
  | ((with_reducible refine' q_put ?b1 ?b2 ?b3 ?_); (case b1 => walk_at "at"); (case b2 => rfl); (case b3 => rfl))
  | with_reducible refine q_nil ?_
  | with_reducible refine q_cons ?_
  | with_reducible refine q_not ?_
  | with_reducible refine q_and ?_
  | with_reducible refine q_or ?_
  | with_reducible refine q_andV ?_
  | with_reducible refine q_orV ?_
  | with_reducible refine q_notV ?_
  | with_reducible refine q_ifE ?_
  | with_reducible refine q_tup ?_
  | ((with_reducible refine' q_szA ?b1 fun p => ?_); (case b1 => walk_at "sz"))
  | ((with_reducible refine' q_sz ?b1 ?_); (case b1 => walk_at "sz"))
  | with_reducible refine q_bm ?_
  | ((with_reducible refine' q_own ?b1 ?_); (case b1 => walk_at "at"))
  | ((with_reducible refine' q_append ?b1 ?b2 ?_); (case b1 => walk_at "at"); (case b2 => walk_at "sz"))
  | with_reducible refine q_call0 ?_
  | with_reducible refine q_meth0 ?_
  | ((with_reducible refine' q_isR ?b1 ?_); (case b1 => walk_at "at"))
  | ((with_reducible refine' q_isP ?b1 ?_); (case b1 => exact Or.inr ⟨_, rfl⟩))
  | with_reducible refine q_dct ?_
  | with_reducible refine q_dget ?_
  | ((with_reducible refine' q_dctE ?b1 ?_); (case b1 => walk_at "at"))
  | with_reducible refine q_dinT ?_
  | with_reducible refine q_dinF ?_
  | with_reducible refine q_dget1 ?_
  | ((with_reducible refine' q_isDct ?b1 ?_); (case b1 => walk_at "at"))
  | ((with_reducible refine' q_setD ?b1 ?b2 ?_); (case b1 => walk_at "at"); (case b2 => walk_at "sz"))
  | with_reducible refine q_orT ?_
  | ((with_reducible refine' q_orTT ?b1 ?_); (case b1 => rfl))
  | with_reducible refine q_cb ?_
  | ((with_reducible refine' q_inT ?b1 ?b2 rfl ?_); (case b1 => walk_at "pd"); (case b2 => walk_at "pd"))
  | ((with_reducible refine' q_notInT ?b1 ?b2 rfl ?_); (case b1 => walk_at "pd"); (case b2 => walk_at "pd"))
  | ((with_reducible refine' q_isi rfl ?b1 ?_); (case b1 => walk_at "ty"))
  | ((with_reducible refine' q_isi2 rfl rfl ?b1 ?_); (case b1 => walk_at "ty"))
  | with_reducible refine q_lenT ?_
  | with_reducible refine q_lenL ?_
  | ((with_reducible refine' q_lenR ?b1 ?_); (case b1 => walk_at "at"))
  | ((with_reducible refine' q_lenD ?b1 ?_); (case b1 => walk_at "at"))
  | ((with_reducible refine' q_lenS ?b1 ?_); (case b1 => walk_at "sz"))
  | with_reducible refine q_lenSc ?_
  | with_reducible refine q_intI ?_
  | with_reducible refine q_intB ?_
  | with_reducible refine q_listT ?_
  | with_reducible refine q_listL ?_
  | ((with_reducible refine' q_listR ?b1 ?_); (case b1 => walk_at "at"))
  | ((with_reducible refine' q_listD ?b1 ?_); (case b1 => walk_at "at"))
  | ((with_reducible refine' q_tupR ?b1 ?_); (case b1 => walk_at "at"))
  | with_reducible refine q_tupL ?_
  | ((with_reducible refine' q_dictO ?b1 fun p => ?_); (case b1 => walk_at "at"))
  | with_reducible refine q_dictN fun p => ?_
  | with_reducible refine q_lstO ?_
  | with_reducible refine q_lstV ?_
  | with_reducible refine q_chain ?_
  | ((with_reducible refine' q_gTup ?b1 ?_); (case b1 => rfl))
  | with_reducible refine q_gCons ?_
  | with_reducible refine q_gNil ?_
  | with_reducible refine q_par ?_
  | with_reducible refine q_par3 ?_
  | with_reducible refine q_two ?_
  | with_reducible refine q_three ?_
  | ((with_reducible refine' q_saug ?b1 ?_); (case b1 => rfl))
  | with_reducible refine q_gSub ?_
  | ((with_reducible refine' q_setL ?b1 ?b2 ?b3 ?_); (case b1 => walk_at "at"); (case b2 => rfl); (case b3 => rfl))
  | with_reducible refine q_ownV ?_
  | with_reducible refine q_indexA ?_
  | ((with_reducible refine' q_indexB ?b1 ?_); (case b1 => decide +kernel))
  | ((with_reducible refine' q_listO ?b1 fun p => ?_); (case b1 => walk_at "at"))
  | with_reducible refine q_listOT fun p => ?_
  | ((with_reducible refine' q_popO ?b1 ?_); (case b1 => walk_at "at"))
  | with_reducible refine q_yes ?_
  | with_reducible refine q_cN ?_
  | with_reducible refine q_make0 ?_
  | with_reducible refine q_lstX ?_
  | with_reducible refine q_tupX ?_
  | ((with_reducible refine' q_iteT ?b1 ?_); (case b1 => first | rfl | decide +kernel))
  | ((with_reducible refine' q_iteF ?b1 ?_); (case b1 => first | rfl | decide +kernel))
  | with_reducible refine q_goS ?_
  | with_reducible refine q_goV ?_)
local macro_rules | `(tactic| walk_at "bv") => `(tactic| (repeat (walk_at "b1")))
theorem handleAll_ok : ∀ {n : Nat} {w : Wk}, w.ok → (handleAll n w).ok
  | 0, w, ok => by
    unfold handleAll
    split
    · exact ok
    · exact ⟨ok.bk, ok.tk, fun x hx => by cases hx⟩
  | n + 1, w, ok => by
    unfold handleAll
    cases e : w.row with
    | nil => exact ok
    | cons ev r =>
      have h2 := sk_get (P := sok) (x := ev) (l := r) (by have := ok.row; rw [e] at this; exact this)
      exact handleAll_ok (handleFrom_ok ⟨ok.bk, ok.tk, h2.2⟩ ok.bk.2.2.1)
theorem work_ok {b : Bk} {bf : Option Tk} {d : Deed} (hb : b.sk) (hf : ∀ t, bf = some t → t.ok) (hd : d.sk) : (work b bf d).ok := handleAll_ok (start_ok (fresh_ok hb hf) hd)
def t_TicketWork___init__ : RS := sSeq (sAsg (rVar 1) (gFld .work 0 (rVar 0))) (sSeq (sAsg (rOrT (rVar 2) (rTup (rCons (rC (.str "")) (rCons (rC (.str "")) (rCons (rC (.bl false)) (rCons (rC (.int 0)) (rCons (rC (.bl false)) rNil))))))) (BV.gTup 5 (BV.gCons (gFld .work 1 (rVar 0)) (BV.gCons (gFld .work 2 (rVar 0)) (BV.gCons (gFld .work 3 (rVar 0)) (BV.gCons (gFld .work 4 (rVar 0)) (BV.gCons (gFld .work 5 (rVar 0)) BV.gNil))))))) (sSeq (sAsg (rLstO rNil) (gFld .work 6 (rVar 0))) (sSeq (sAsg (rLstO rNil) (gFld .work 7 (rVar 0))) (sSeq (sAsg (rC (.int 0)) (gFld .work 8 (rVar 0))) (sSeq (sAsg (rC (.int 0)) (gFld .work 9 (rVar 0))) (sSeq (sAsg (rC (.bl false)) (gFld .work 10 (rVar 0))) (sSeq (sAsg (rC (.bl false)) (gFld .work 11 (rVar 0))) (sSeq (sDrop (rMeth0 .work sp_TicketWork_start (rVar 0) (rCons (rVar 3) (rCons (rOp oIsN (rVar 2) (rC .non)) rNil)))) (sDrop (rMeth0 .work sp_TicketWork_handle_all (rVar 0) rNil))))))))))
def sp_TicketWork___init__ : BSp := fun ex ds M R => ∃ p b bf d, ds = [.ref p, Bk.d b, optTk bf, Deed.d d] ∧ b.sk ∧ (∀ t, bf = some t → t.ok) ∧ d.sk ∧ M = [(p, .ins .work [])] ∧ ∀ r a, R .non (Wk.m (work b bf d) p r a)
theorem len_TicketWork___init__ : ∀ ex ds M R, sp_TicketWork___init__ ex ds M R → ds.length = 4 := by
  rintro ex ds M R ⟨p, b, bf, d, rfl, _⟩
  rfl
theorem pure_TicketWork___init__ : ∀ ex ds M R, sp_TicketWork___init__ ex ds M R → t_TicketWork___init__ { ex := ex, nx := fun _ M' => R .non M', rt := R } (startB 4 ds) M := by
  rintro ex ds M R ⟨p, b, bf, d, rfl, hb, hf, hd, rfl, k⟩
  unfold t_TicketWork___init__
  have ok := fresh_ok hb hf
  have go : ∀ r a, Cf sp_TicketWork_start nox [.ref p, d.d, .bl (isN (optTk bf))] (Wk.m (fresh b bf) p r a) (fun _ M1 => CvS (startB 4 [.ref p, b.d, optTk bf, d.d]) M1 (sDrop (rMeth0 .work sp_TicketWork_handle_all (rVar 0) rNil) { ex := ex, nx := fun _ M' => R .non M', rt := R })) := fun r a => by
    refine cf_whole ⟨p, r, a, _, d, bf, rfl, hd, ok, Nat.le_of_ble_eq_true rfl, rfl, ?_⟩
    walk_at "bv"
    refine cf_whole ⟨p, r, a, _, rfl, start_ok ok hd, Nat.le_trans start_row (Nat.le_of_ble_eq_true rfl), ?_, rfl, fun r => k r a⟩
    rw [start_acted]
    exact Nat.le_of_ble_eq_true rfl
  cases bf with
  | none =>
    unfold optTk at go ⊢
    walk_at "bv"
    rename_i r a
    exact go r a
  | some t =>
    unfold optTk Tk.d Tk.l at go ⊢
    walk_at "bv"
    rename_i r a
    exact go r a
/-! Desk -/
def t_Desk___init__ : RS := sSeq (sAsg (rVar 1) (gFld .desk 0 (rVar 0))) (sSeq (sAsg (rDictO) (gFld .desk 1 (rVar 0))) (sSeq (sAsg (rC (.int 0)) (gFld .desk 2 (rVar 0))) (sAsg (rLstO rNil) (gFld .desk 3 (rVar 0)))))
def t_Desk___len__ : RS := sRet (rCB bLenX (rCons (rFld .desk 3 (rVar 0)) rNil))
def t_Desk_people : RS := sRet (rCB bListX (rCons (rFld .desk 1 (rVar 0)) rNil))
def t_Desk_remember : RS := sDrop (rBM "list" mAppend (rFld .desk 3 (rVar 0)) (rCons (rTup (rCons (rFld .desk 0 (rVar 0)) (rCons (rCB bDictO (rCons (rFld .desk 1 (rVar 0)) rNil)) (rCons (rFld .desk 2 (rVar 0)) rNil)))) rNil))
def t_Desk_replies : RS := sRet (rFld .desk 2 (rVar 0))
def sp_Desk___init__ : BSp := fun ex ds M R => ∃ p b, ds = [.ref p, Bk.d b] ∧ M = [(p, .ins .desk [])] ∧ ∀ t e, R .non [(e, .lst []), (t, .dct []), (p, .ins .desk [b.d, .ref t, .int 0, .ref e])]
theorem len_Desk___init__ : ∀ ex ds M R, sp_Desk___init__ ex ds M R → ds.length = 2 := by
  rintro ex ds M R ⟨p, b, rfl, _⟩
  rfl
theorem pure_Desk___init__ : ∀ ex ds M R, sp_Desk___init__ ex ds M R → t_Desk___init__ { ex := ex, nx := fun _ M' => R .non M', rt := R } (startB 2 ds) M := by
  rintro ex ds M R ⟨p, b, rfl, rfl, k⟩
  unfold t_Desk___init__
  walk_at "bv"
  exact k _ _
def sp_Desk___len__ : BSp := fun ex ds M R => ∃ p t e h, ds = [.ref p] ∧ M = Hs.m h p t e ∧ R (.int h.saved.length) M
theorem len_Desk___len__ : ∀ ex ds M R, sp_Desk___len__ ex ds M R → ds.length = 1 := by
  rintro ex ds M R ⟨p, t, e, h, rfl, _⟩
  rfl
theorem pure_Desk___len__ : ∀ ex ds M R, sp_Desk___len__ ex ds M R → t_Desk___len__ { ex := ex, nx := fun _ M' => R .non M', rt := R } (startB 1 ds) M := by
  rintro ex ds M R ⟨p, t, e, h, rfl, rfl, k⟩
  unfold t_Desk___len__
  rw [← rows_len] at k
  walk_at "bv"
  exact k
def sp_Desk_people : BSp := fun ex ds M R => ∃ p t e h, ds = [.ref p] ∧ M = Hs.m h p t e ∧ R (.lst (sts (h.tk.map (·.1)))) M
theorem len_Desk_people : ∀ ex ds M R, sp_Desk_people ex ds M R → ds.length = 1 := by
  rintro ex ds M R ⟨p, t, e, h, rfl, _⟩
  rfl
theorem keysD_kvD {l : List (Str × Tk)} : keysD (kvD l) = sts (l.map (·.1)) := by
  unfold keysD kvD sts
  rw [List.map_map, List.map_map]
  rfl
theorem pure_Desk_people : ∀ ex ds M R, sp_Desk_people ex ds M R → t_Desk_people { ex := ex, nx := fun _ M' => R .non M', rt := R } (startB 1 ds) M := by
  rintro ex ds M R ⟨p, t, e, h, rfl, rfl, k⟩
  unfold t_Desk_people
  rw [← keysD_kvD] at k
  walk_at "bv"
  exact k
def sp_Desk_replies : BSp := fun ex ds M R => ∃ p t e h, ds = [.ref p] ∧ M = Hs.m h p t e ∧ R (.int h.total) M
theorem len_Desk_replies : ∀ ex ds M R, sp_Desk_replies ex ds M R → ds.length = 1 := by
  rintro ex ds M R ⟨p, t, e, h, rfl, _⟩
  rfl
theorem pure_Desk_replies : ∀ ex ds M R, sp_Desk_replies ex ds M R → t_Desk_replies { ex := ex, nx := fun _ M' => R .non M', rt := R } (startB 1 ds) M := by
  rintro ex ds M R ⟨p, t, e, h, rfl, rfl, k⟩
  unfold t_Desk_replies
  walk_at "bv"
  exact k
def sp_Desk_remember : BSp := fun ex ds M R => ∃ p t e h, ds = [.ref p] ∧ h.saved.length ≤ 1000000 ∧ M = Hs.m h p t e ∧ ∀ a, R .non (Hs.m (h.save a) p t e)
theorem len_Desk_remember : ∀ ex ds M R, sp_Desk_remember ex ds M R → ds.length = 1 := by
  rintro ex ds M R ⟨p, t, e, h, rfl, _⟩
  rfl
theorem pure_Desk_remember : ∀ ex ds M R, sp_Desk_remember ex ds M R → t_Desk_remember { ex := ex, nx := fun _ M' => R .non M', rt := R } (startB 1 ds) M := by
  rintro ex ds M R ⟨p, t, e, h, rfl, hz, rfl, k⟩
  unfold t_Desk_remember
  have hz' : Sz h.rows.length := by rw [rows_len]; exact Nat.le_trans hz (by decide)
  walk_at "bv"
  rename_i a
  have k2 := k a
  unfold Hs.m at k2
  rw [save_rows] at k2
  exact k2
def t_Desk_work_at : RS := sSeq (sAsg (rMake0 .work sp_TicketWork___init__ (rCons (rFld .desk 0 (rVar 0)) (rCons (rDGet1 (rFld .desk 1 (rVar 0)) (rVar 1)) (rCons (rVar 2) rNil)))) (gN 3)) (sSeq (sAsg (rMeth0 .work sp_TicketWork_told (rVar 3) rNil) (BV.gSub (rFld .desk 1 (rVar 0)) (rVar 1) oSetD)) (sSeq (sFldAug .desk 2 (rVar 0) (rFld .work 8 (rVar 3)) oAdd) (sRet (rCall0 sp_report_of (rCons (rVar 3) rNil)))))
theorem fz3 {d : D} {w : Wk} {p r a : Addr} {M : Mm} : CvA [d] (Wk.m w p r a ++ M) [d] M := CvA.drop.trans (CvA.drop.trans CvA.drop)
def sp_Desk_work_at : BSp := fun ex ds M R => ∃ p t e h x d, ds = [.ref p, .str x, Deed.d d] ∧ h.ok ∧ sok x ∧ d.sk ∧ M = Hs.m h p t e ∧ R (.tup (work h.bk (getT h.tk x) d).rep) (Hs.m (h.put x d) p t e)
theorem len_Desk_work_at : ∀ ex ds M R, sp_Desk_work_at ex ds M R → ds.length = 3 := by
  rintro ex ds M R ⟨p, t, e, h, x, d, rfl, _⟩
  rfl
theorem pure_Desk_work_at : ∀ ex ds M R, sp_Desk_work_at ex ds M R → t_Desk_work_at { ex := ex, nx := fun _ M' => R .non M', rt := R } (startB 4 ds) M := by
  rintro ex ds M R ⟨p, t, e, h, x, d, rfl, ok, hx, hd, rfl, k⟩
  unfold t_Desk_work_at
  walk_at "bv"
  rw [getD_kvD]
  intro q
  refine cf_head (Mc := [(q, .ins .work [])]) ⟨q, h.bk, getT h.tk x, d, rfl, ok.bk, fun t0 e0 => getT_ok ok.tk e0, hd, rfl, fun r a => ⟨rfl, ?_⟩⟩
  walk_at "bv"
  refine cf_head ⟨q, r, a, _, rfl, rfl, ?_⟩
  have hz' : Sz (kvD h.tk).length := by rw [kvD_len]; exact Nat.le_trans ok.few (by decide)
  walk_at "bv"
  rw [setK_kvD]
  exact cf_head (Mc := Wk.m _ q r a) (Fc := Hs.m (h.put x d) p t e) ⟨q, r, a, _, rfl, rfl, _, _, fz3, k⟩
/-! names and the like -/
def isNm (s : Str) : Bool := decide (1 ≤ s.length) && decide (s.length ≤ 8) && s.cps.toList.all fun c => decide (c ∈ ("abcdefghijklmnopqrstuvwxyz" : Str).cps.toList)
def t_is_name : RS := sRet (rAndV (rCB (bIsi .str) (rCons (rVar 0) (rCons (rC (.ty "str")) rNil))) (rAndV (rChain oLe oLe (rC (.int 1)) (rCB bLenX (rCons (rVar 0) rNil)) (rC (.int 8))) (rCB bAll (rCons (rLc (iStrB (rVar 0)) (cN 1) (rYes) (rOp oInX (rVar 1) (rC (.str "abcdefghijklmnopqrstuvwxyz"))) [1]) rNil))))
def t_is_whole : RS := sRet (rAndV (rCB (bIsi .int) (rCons (rVar 0) (rCons (rC (.ty "int")) rNil))) (rNotV (rCB (bIsi .bl) (rCons (rVar 0) (rCons (rC (.ty "bool")) rNil)))))
def sp_is_name : BSp := fun ex ds M R => ∃ s, ds = [.str s] ∧ Sz s.length ∧ M = [] ∧ R (.bl (isNm s)) []
theorem len_is_name : ∀ ex ds M R, sp_is_name ex ds M R → ds.length = 1 := by
  rintro ex ds M R ⟨s, rfl, _⟩
  rfl
theorem pure_is_name : ∀ ex ds M R, sp_is_name ex ds M R → t_is_name { ex := ex, nx := fun _ M' => R .non M', rt := R } (startB 2 ds) M := by
  rintro ex ds M R ⟨s, rfl, hz, rfl, k⟩
  unfold t_is_name
  unfold isNm at k
  walk_at "bv"
  refine q_ite (fun h1 => ?_) (fun h1 => ?_)
  · walk_at "bv"
    refine q_ite (fun h2 => ?_) (fun h2 => ?_)
    · have h1' : decide (1 ≤ s.length) = true := by rw [decide_eq_true_eq] at h1 ⊢; omega
      have h2' : decide (s.length ≤ 8) = true := by rw [decide_eq_true_eq] at h2 ⊢; omega
      rw [h1', h2', Bool.true_and, Bool.true_and] at k
      walk_at "bv"
      refine q_lc ?_
      refine q_strI ?_
      walk_at "bv"
      refine ⟨s, rfl, ?_⟩
      refine lc_map (enc := fun c => .str ⟨#[c]⟩) (val := fun c => .bl (decide (c ∈ ("abcdefghijklmnopqrstuvwxyz" : Str).cps.toList))) (xs := s.cps.toList) (fun c _ R kk => ?_) ?_ ?_
      · walk_at "bv"
        exact q_inS kk
      · show Sz (0 + s.cps.toList.length)
        rw [Nat.zero_add, Array.length_toList]
        exact hz
      · rw [List.nil_append, map_bl]
        walk_at "bv"
        refine q_all ?_
        rw [all_map_id]
        walk_at "bv"
        exact k
    · have h2' : decide (s.length ≤ 8) = false := by rw [decide_eq_false_iff_not] at h2 ⊢; omega
      rw [h2', Bool.and_false, Bool.false_and] at k
      walk_at "bv"
      exact k
  · have h1' : decide (1 ≤ s.length) = false := by rw [decide_eq_false_iff_not] at h1 ⊢; omega
    rw [h1', Bool.false_and, Bool.false_and] at k
    walk_at "bv"
    exact k
def sp_is_whole : BSp := fun ex ds M R => ∃ i, ds = [.int i] ∧ M = [] ∧ R (.bl true) []
theorem len_is_whole : ∀ ex ds M R, sp_is_whole ex ds M R → ds.length = 1 := by
  rintro ex ds M R ⟨i, rfl, _⟩
  rfl
theorem pure_is_whole : ∀ ex ds M R, sp_is_whole ex ds M R → t_is_whole { ex := ex, nx := fun _ M' => R .non M', rt := R } (startB 1 ds) M := by
  rintro ex ds M R ⟨i, rfl, rfl, k⟩
  unfold t_is_whole
  walk_at "bv"
  exact k
end BV
set_option maxHeartbeats 4000000
namespace BV
open PySem
local macro_rules | `(tactic| walk_at "pd") => `(tactic| (first | rfl | assumption | (apply pd_str; assumption) | decide +kernel))
local macro_rules | `(tactic| walk_at "ty") => `(tactic| (first | exact TyD.tup _ | exact TyD.str _ | exact TyD.lst _ | exact TyD.bl _ | exact TyD.int _ | exact TyD.non | (apply TyD.ref; walk_at "at")))
local macro_rules | `(tactic| walk_at "sz") => `(tactic| (first | assumption | exact Nat.le_of_ble_eq_true rfl))
local macro_rules | `(tactic| walk_at "at") => `(tactic| (repeat (first | exact At.here | apply At.there | apply At.app)))
local macro_rules | `(tactic| walk_at "sok") => `(tactic| (first | assumption | (show PyData.strOk _ = true; decide +kernel)))
local macro_rules | `(tactic| walk_at "b1") => `(tactic| first
  | with_reducible refine q_seq ?_
  | with_reducible refine q_if ?_
  | with_reducible refine q_tst ?_
  | with_reducible refine q_op ?_
  | with_reducible refine q_c ?_
  | ((with_reducible refine' q_var ?b1 ?_); (case b1 => rfl))
  | with_reducible refine q_fld ?_
  | ((with_reducible refine' q_fldR ?b1 ?b2 ?_); (case b1 => walk_at "at"); (case b2 => rfl))
  | ((with_reducible refine' q_fldV ?b2 ?_); (case b2 => rfl))
  | ((with_reducible refine' q_eqS ?b1 ?b2 ?_); (case b1 => walk_at "sok"); (case b2 => walk_at "sok"))
  | ((with_reducible refine' q_neS ?b1 ?b2 ?_); (case b1 => walk_at "sok"); (case b2 => walk_at "sok"))
  | with_reducible refine q_eqB ?_
  | with_reducible refine q_eqI ?_
  | with_reducible refine q_neI ?_
  | with_reducible refine q_addI ?_
  | with_reducible refine q_oadd ?_
  | with_reducible refine q_osub ?_
  | with_reducible refine q_lt ?_
  | with_reducible refine q_le ?_
  | with_reducible refine q_gt ?_
  | with_reducible refine q_ge ?_
  | with_reducible refine q_isN ?_
  | with_reducible refine q_notN ?_
  | ((with_reducible refine' q_ixT ?b2 ?_); (case b2 => rfl))
  | ((with_reducible refine' q_ixL ?b2 ?_); (case b2 => rfl))
  | ((with_reducible refine' q_ixR ?b1 ?b2 ?_); (case b1 => walk_at "at"); (case b2 => rfl))
  | with_reducible refine q_bl ?_
  | with_reducible refine q_ret ?_
  | with_reducible refine q_retN ?_
  | with_reducible refine q_skip ?_
  | with_reducible refine q_drop ?_
  | with_reducible refine q_asg ?_
  | with_reducible refine q_gN ?_
  | with_reducible refine q_gFld ?_
  | with_reducible refine q_aug ?_
  | with_reducible refine q_isRef ?_
  | ((with_reducible refine' q_put ?b1 ?b2 ?b3 ?_); (case b1 => walk_at "at"); (case b2 => rfl); (case b3 => rfl))
  | with_reducible refine q_nil ?_
  | with_reducible refine q_cons ?_
  | with_reducible refine q_not ?_
  | with_reducible refine q_and ?_
  | with_reducible refine q_or ?_
  | with_reducible refine q_andV ?_
  | with_reducible refine q_orV ?_
  | with_reducible refine q_notV ?_
  | with_reducible refine q_ifE ?_
  | with_reducible refine q_tup ?_
  | ((with_reducible refine' q_szA ?b1 fun p => ?_); (case b1 => walk_at "sz"))
  | ((with_reducible refine' q_sz ?b1 ?_); (case b1 => walk_at "sz"))
  | with_reducible refine q_bm ?_
  | ((with_reducible refine' q_own ?b1 ?_); (case b1 => walk_at "at"))
  | ((with_reducible refine' q_append ?b1 ?b2 ?_); (case b1 => walk_at "at"); (case b2 => walk_at "sz"))
  | with_reducible refine q_call0 ?_
  | with_reducible refine q_meth0 ?_
  | ((with_reducible refine' q_isR ?b1 ?_); (case b1 => walk_at "at"))
  | ((with_reducible refine' q_isP ?b1 ?_); (case b1 => exact Or.inr ⟨_, rfl⟩))
  | with_reducible refine q_dct ?_
  | with_reducible refine q_dget ?_
  | ((with_reducible refine' q_dctE ?b1 ?_); (case b1 => walk_at "at"))
  | with_reducible refine q_dinT ?_
  | with_reducible refine q_dinF ?_
  | with_reducible refine q_dget1 ?_
  | ((with_reducible refine' q_isDct ?b1 ?_); (case b1 => walk_at "at"))
  | ((with_reducible refine' q_setD ?b1 ?b2 ?_); (case b1 => walk_at "at"); (case b2 => walk_at "sz"))
  | with_reducible refine q_orT ?_
  | ((with_reducible refine' q_orTT ?b1 ?_); (case b1 => rfl))
  | with_reducible refine q_cb ?_
  | ((with_reducible refine' q_inT ?b1 ?b2 rfl ?_); (case b1 => walk_at "pd"); (case b2 => walk_at "pd"))
  | ((with_reducible refine' q_notInT ?b1 ?b2 rfl ?_); (case b1 => walk_at "pd"); (case b2 => walk_at "pd"))
  | ((with_reducible refine' q_isi rfl ?b1 ?_); (case b1 => walk_at "ty"))
  | ((with_reducible refine' q_isi2 rfl rfl ?b1 ?_); (case b1 => walk_at "ty"))
  | with_reducible refine q_lenT ?_
  | with_reducible refine q_lenL ?_
  | ((with_reducible refine' q_lenR ?b1 ?_); (case b1 => walk_at "at"))
  | ((with_reducible refine' q_lenD ?b1 ?_); (case b1 => walk_at "at"))
  | ((with_reducible refine' q_lenS ?b1 ?_); (case b1 => walk_at "sz"))
  | with_reducible refine q_lenSc ?_
  | with_reducible refine q_intI ?_
  | with_reducible refine q_intB ?_
  | with_reducible refine q_listT ?_
  | with_reducible refine q_listL ?_
  | ((with_reducible refine' q_listR ?b1 ?_); (case b1 => walk_at "at"))
  | ((with_reducible refine' q_listD ?b1 ?_); (case b1 => walk_at "at"))
  | ((with_reducible refine' q_tupR ?b1 ?_); (case b1 => walk_at "at"))
  | with_reducible refine q_tupL ?_
  | ((with_reducible refine' q_dictO ?b1 fun p => ?_); (case b1 => walk_at "at"))
  | with_reducible refine q_dictN fun p => ?_
  | with_reducible refine q_lstO ?_
  | with_reducible refine q_lstV ?_
  | with_reducible refine q_chain ?_
  | ((with_reducible refine' q_gTup ?b1 ?_); (case b1 => rfl))
  | with_reducible refine q_gCons ?_
  | with_reducible refine q_gNil ?_
  | with_reducible refine q_par ?_
  | with_reducible refine q_par3 ?_
  | with_reducible refine q_two ?_
  | with_reducible refine q_three ?_
  | ((with_reducible refine' q_saug ?b1 ?_); (case b1 => rfl))
  | with_reducible refine q_gSub ?_
  | ((with_reducible refine' q_setL ?b1 ?b2 ?b3 ?_); (case b1 => walk_at "at"); (case b2 => rfl); (case b3 => rfl))
  | with_reducible refine q_ownV ?_
  | with_reducible refine q_indexA ?_
  | ((with_reducible refine' q_indexB ?b1 ?_); (case b1 => decide +kernel))
  | ((with_reducible refine' q_listO ?b1 fun p => ?_); (case b1 => walk_at "at"))
  | with_reducible refine q_listOT fun p => ?_
  | ((with_reducible refine' q_popO ?b1 ?_); (case b1 => walk_at "at"))
  | with_reducible refine q_yes ?_
  | with_reducible refine q_cN ?_
  | with_reducible refine q_make0 ?_
  | with_reducible refine q_lstX ?_
  | with_reducible refine q_tupX ?_
  | ((with_reducible refine' q_iteT ?b1 ?_); (case b1 => first | rfl | decide +kernel))
  | ((with_reducible refine' q_iteF ?b1 ?_); (case b1 => first | rfl | decide +kernel))
  | with_reducible refine q_goS ?_
  | with_reducible refine q_goV ?_)
local macro_rules | `(tactic| walk_at "bv") => `(tactic| (repeat (walk_at "b1")))
theorem nm_sok {s : Str} (h : isNm s = true) : sok s := by
  unfold isNm at h
  have h1 := ((Bool.and_eq_true _ _).mp h).2
  show s.cps.all _ = true
  rw [Array.all_eq_true_iff_forall_mem]
  intro c hc
  have h2 := List.all_eq_true.mp h1 c (Array.mem_toList_iff.mpr hc)
  rw [decide_eq_true_eq] at h2 ⊢
  have h3 : ∀ c ∈ ("abcdefghijklmnopqrstuvwxyz" : Str).cps.toList, c < 0x110000 := by decide +kernel
  exact h3 c h2
theorem nm_sz {s : Str} (h : isNm s = true) : Sz s.length := by
  unfold isNm at h
  have h1 := ((Bool.and_eq_true _ _).mp ((Bool.and_eq_true _ _).mp h).1).2
  rw [decide_eq_true_eq] at h1
  exact Nat.le_trans h1 (Nat.le_of_ble_eq_true rfl)
theorem any_str {s : Str} : ∀ {xs : List Str}, (sts xs).any (deq · (.str s)) = decide (s ∈ xs)
  | [] => by simp [sts]
  | x :: xs => by
    have ih := any_str (s := s) (xs := xs)
    show (deq (.str x) (.str s) || (sts xs).any (deq · (.str s))) = _
    rw [ih, deq_str]
    by_cases h : x = s
    · subst h; simp
    · rw [decide_eq_false h, Bool.false_or]
      simp [List.mem_cons, Ne.symm h, show ¬ s = x from fun q => h q.symm]
theorem q_inSts {M : Mm} {R : BQ} {s : Str} {xs : List Str} (hs : sok s) (hx : ∀ x ∈ xs, sok x) (k : R (.bl (decide (s ∈ xs))) M) : oInX (.str s) (.tup (sts xs)) M R := q_inT (pd_str hs) (sts_pd hx) any_str k
theorem q_notSts {M : Mm} {R : BQ} {s : Str} {xs : List Str} (hs : sok s) (hx : ∀ x ∈ xs, sok x) (k : R (.bl (!decide (s ∈ xs))) M) : oIn true (.str s) (.tup (sts xs)) M R := q_notInT (pd_str hs) (sts_pd hx) any_str k
theorem cnt_nodup {xs : List Str} (h : xs.Nodup) : ∀ n, n ≤ xs.length → BVS.cntS xs n = n
  | 0, _ => rfl
  | n + 1, hn => by
    unfold BVS.cntS
    have e : xs.getD n Str.empty = xs[n] := by
      rw [List.getD_eq_getElem?_getD, List.getElem?_eq_getElem (by omega)]; rfl
    rw [if_neg ?_, cnt_nodup h n (by omega)]
    rw [e]
    intro q
    obtain ⟨y, hy, hq⟩ := List.any_eq_true.mp q
    have hq' : y = xs[n] := eq_of_beq hq
    rw [hq'] at hy
    obtain ⟨i, hi, e2⟩ := List.mem_iff_getElem.mp hy
    rw [List.length_take] at hi
    rw [List.getElem_take] at e2
    exact List.pairwise_iff_getElem.mp h i n (by omega) (by omega) (by omega) e2
structure DesksOk (xs : List Str) : Prop where
  few : 1 ≤ xs.length ∧ xs.length ≤ 4
  nm : ∀ x ∈ xs, isNm x = true
  nd : xs.Nodup
theorem DesksOk.sok {xs : List Str} (h : DesksOk xs) : ∀ x ∈ xs, BV.sok x := fun x hx => nm_sok (h.nm x hx)
def t_are_desks : RS := sSeq (sIf (rOr (rNot (rTst (rCB (bIsi .tup) (rCons (rVar 0) (rCons (rC (.ty "tuple")) rNil))))) (rNot (rTst (rChain oLe oLe (rC (.int 1)) (rCB bLenX (rCons (rVar 0) rNil)) (rC (.int 4)))))) (sRet (rC (.bl false))) (sSkip)) (sRet (rAndV (rCB bAll (rCons (rLc (iSeq (rVar 0)) (cN 1) (rYes) (rCall0 sp_is_name (rCons (rVar 1) rNil)) [1]) rNil)) (rOp oEq (rLenSet (rVar 0)) (rCB bLenX (rCons (rVar 0) rNil)))))
def t_is_deed : RS := sSeq (sIf (rOr (rNot (rTst (rCB (bIsi .tup) (rCons (rVar 1) (rCons (rC (.ty "tuple")) rNil))))) (rOr (rTst (rOp (oIn true) (rCB bLenX (rCons (rVar 1) rNil)) (rTup (rCons (rC (.int 1)) (rCons (rC (.int 2)) rNil))))) (rNot (rTst (rCB (bIsi .str) (rCons (rOp oIx (rVar 1) (rC (.int 0))) (rCons (rC (.ty "str")) rNil))))))) (sRet (rC (.bl false))) (sSkip)) (sSeq (sIf (rTst (rOp oEq (rCB bLenX (rCons (rVar 1) rNil)) (rC (.int 1)))) (sRet (rOp oInX (rOp oIx (rVar 1) (rC (.int 0))) (rC (.tup [(.str "letter"), (.str "answer"), (.str "day")])))) (sSkip)) (sSeq (sIf (rTst (rOp oEq (rOp oIx (rVar 1) (rC (.int 0))) (rC (.str "hand")))) (sRet (rAndV (rCall0 sp_is_name (rCons (rOp oIx (rVar 1) (rC (.int 1))) rNil)) (rOrV (rOp oIsN (rVar 0) (rC .non)) (rOp oInX (rOp oIx (rVar 1) (rC (.int 1))) (rVar 0))))) (sSkip)) (sRet (rAndV (rOp oEq (rOp oIx (rVar 1) (rC (.int 0))) (rC (.str "set"))) (rAndV (rCB (bIsi .str) (rCons (rOp oIx (rVar 1) (rC (.int 1))) (rCons (rC (.ty "str")) rNil))) (rOp oInX (rOp oIx (rVar 1) (rC (.int 1))) (rC (.tup [(.str "new"), (.str "open"), (.str "waiting"), (.str "closed")]))))))))
def t_is_action : RS := sSeq (sIf (rTst (rOp oInX (rVar 1) (rTup (rCons (rTup (rCons (rC (.str "reply")) rNil)) (rCons (rTup (rCons (rC (.str "stop")) rNil)) rNil))))) (sRet (rC (.bl true))) (sSkip)) (sSeq (sIf (rOr (rNot (rTst (rCB (bIsi .tup) (rCons (rVar 1) (rCons (rC (.ty "tuple")) rNil))))) (rTst (rOp oNe (rCB bLenX (rCons (rVar 1) rNil)) (rC (.int 2))))) (sRet (rC (.bl false))) (sSkip)) (sSeq (sIf (rTst (rOp oEq (rOp oIx (rVar 1) (rC (.int 0))) (rC (.str "mark")))) (sRet (rCB (bIsi .bl) (rCons (rOp oIx (rVar 1) (rC (.int 1))) (rCons (rC (.ty "bool")) rNil)))) (sSkip)) (sSeq (sAsg (rIf (rTst (rOp oEq (rOp oIx (rVar 1) (rC (.int 0))) (rC (.str "desk")))) (rVar 0) (rC (.tup [(.str "new"), (.str "open"), (.str "waiting"), (.str "closed")]))) (gN 2)) (sRet (rAndV (rOp oInX (rOp oIx (rVar 1) (rC (.int 0))) (rTup (rCons (rC (.str "status")) (rCons (rC (.str "desk")) rNil)))) (rOp oInX (rOp oIx (rVar 1) (rC (.int 1))) (rVar 2)))))))
def sp_are_desks : BSp := fun ex ds M R => ∃ xs, ds = [.tup (sts xs)] ∧ DesksOk xs ∧ M = [] ∧ R (.bl true) []
theorem len_are_desks : ∀ ex ds M R, sp_are_desks ex ds M R → ds.length = 1 := by
  rintro ex ds M R ⟨s, rfl, _⟩
  rfl
theorem pure_are_desks : ∀ ex ds M R, sp_are_desks ex ds M R → t_are_desks { ex := ex, nx := fun _ M' => R .non M', rt := R } (startB 2 ds) M := by
  rintro ex ds M R ⟨xs, rfl, ok, rfl, k⟩
  unfold t_are_desks
  have h1 := ok.few.1
  have h4 := ok.few.2
  walk_at "bv"
  rw [sts_len]
  refine q_iteT (decide_eq_true (by omega)) ?_
  walk_at "bv"
  rw [show decide ((xs.length : Int) ≤ 4) = true from decide_eq_true (by omega)]
  walk_at "bv"
  refine q_lc (q_seqT ?_)
  walk_at "bv"
  refine lc_map (enc := .str) (val := fun _ => .bl true) (xs := xs) (fun c hc R kk => ?_) (Nat.le_trans (show 0 + xs.length ≤ 4 by omega) (Nat.le_of_ble_eq_true rfl)) ?_
  · walk_at "bv"
    refine cf_pure ⟨c, rfl, nm_sz (ok.nm c hc), rfl, ?_⟩
    rw [ok.nm c hc]
    exact kk
  · rw [List.nil_append, map_bl]
    walk_at "bv"
    refine q_all ?_
    rw [all_map_id, show (xs.all fun _ => true) = true by simp]
    walk_at "bv"
    refine ⟨_, rfl, xs, rfl, by omega, ?_⟩
    walk_at "bv"
    rw [sts_len, show unlS xs = xs.length from cnt_nodup ok.nd _ (Nat.le_refl _)]
    rw [decide_eq_true rfl] 
    exact k
def stas : List Str := ["new", "open", "waiting", "closed"]
def Deed.okIn (desks : List Str) : Deed → Prop
  | .hand s => isNm s = true ∧ s ∈ desks
  | .sett s => s ∈ stas
  | _ => True
theorem any_stas {s : Str} (h : s ∈ stas) : (List.any [D.str "new", D.str "open", D.str "waiting", D.str "closed"] fun x => deq x (.str s)) = true := (any_str (xs := stas)).trans (decide_eq_true h)
theorem stas_ok : ∀ s ∈ stas, sok s := by
  intro s hs
  have : ∀ s ∈ stas, PyData.strOk s = true := by decide +kernel
  exact this s hs
theorem Deed.okIn.sk {desks : List Str} {d : Deed} (h : d.okIn desks) : d.sk := by
  cases d with
  | hand s => exact nm_sok h.1
  | sett s => exact stas_ok s h
  | _ => trivial
def sp_is_deed : BSp := fun ex ds M R => ∃ xs d, ds = [.tup (sts xs), Deed.d d] ∧ DesksOk xs ∧ d.okIn xs ∧ M = [] ∧ R (.bl true) []
theorem len_is_deed : ∀ ex ds M R, sp_is_deed ex ds M R → ds.length = 2 := by
  rintro ex ds M R ⟨s, d, rfl, _⟩
  rfl
theorem pure_is_deed : ∀ ex ds M R, sp_is_deed ex ds M R → t_is_deed { ex := ex, nx := fun _ M' => R .non M', rt := R } (startB 2 ds) M := by
  rintro ex ds M R ⟨xs, d, rfl, ok, hd, rfl, k⟩
  unfold t_is_deed
  cases d with
  | letter =>
    unfold Deed.d Deed.l
    walk_at "bv"
    exact k
  | answer =>
    unfold Deed.d Deed.l
    walk_at "bv"
    exact k
  | day =>
    unfold Deed.d Deed.l
    walk_at "bv"
    exact k
  | hand s =>
    have hs : isNm s = true := hd.1
    unfold Deed.d Deed.l
    walk_at "bv"
    refine cf_pure ⟨s, rfl, nm_sz hs, rfl, ?_⟩
    rw [hs]
    walk_at "bv"
    refine q_inSts (nm_sok hs) ok.sok ?_
    rw [decide_eq_true hd.2]
    exact .go k
  | sett s =>
    have hs : sok s := stas_ok s hd
    unfold Deed.d Deed.l
    walk_at "bv"
    rw [any_stas hd]
    exact k
def Act.okIn (desks : List Str) : Act → Prop
  | .sta s => s ∈ stas
  | .dsk s => s ∈ desks
  | _ => True
theorem Act.okIn.sk {desks : List Str} {c : Act} (ok : DesksOk desks) (h : c.okIn desks) : c.sk := by
  cases c with
  | sta s => exact stas_ok s h
  | dsk s => exact ok.sok s h
  | _ => trivial
def sp_is_action : BSp := fun ex ds M R => ∃ xs c, ds = [.tup (sts xs), Act.d c] ∧ DesksOk xs ∧ c.okIn xs ∧ M = [] ∧ R (.bl true) []
theorem len_is_action : ∀ ex ds M R, sp_is_action ex ds M R → ds.length = 2 := by
  rintro ex ds M R ⟨s, d, rfl, _⟩
  rfl
theorem pure_is_action : ∀ ex ds M R, sp_is_action ex ds M R → t_is_action { ex := ex, nx := fun _ M' => R .non M', rt := R } (startB 3 ds) M := by
  rintro ex ds M R ⟨xs, c, rfl, ok, hc, rfl, k⟩
  unfold t_is_action
  have hp := act_pd (hc.sk ok)
  cases c with
  | sta s =>
    have hs : sok s := stas_ok s hc
    unfold Act.d Act.l at hp ⊢
    walk_at "bv"
    rw [any_stas hc]
    exact k
  | dsk s =>
    have hs : sok s := ok.sok s hc
    unfold Act.d Act.l at hp ⊢
    walk_at "bv"
    refine q_inSts hs ok.sok ?_
    rw [decide_eq_true (show s ∈ xs from hc)]
    exact .go k
  | mrk b =>
    unfold Act.d Act.l at hp ⊢
    walk_at "bv"
    exact k
  | reply =>
    unfold Act.d Act.l at hp ⊢
    walk_at "bv"
    exact k
  | stop =>
    unfold Act.d Act.l at hp ⊢
    walk_at "bv"
    exact k
def t_is_test : RS := sSeq (sIf (rOr (rNot (rTst (rCB (bIsi .tup) (rCons (rVar 1) (rCons (rC (.ty "tuple")) rNil))))) (rTst (rOp (oIn true) (rCB bLenX (rCons (rVar 1) rNil)) (rTup (rCons (rC (.int 2)) (rCons (rC (.int 3)) rNil)))))) (sRet (rC (.bl false))) (sSkip)) (sSeq (sIf (rTst (rOp oEq (rCB bLenX (rCons (rVar 1) rNil)) (rC (.int 3)))) (sSeq (sAsg (rIf (rTst (rOp oEq (rOp oIx (rVar 1) (rC (.int 0))) (rC (.str "desk")))) (rVar 0) (rC (.tup [(.str "new"), (.str "open"), (.str "waiting"), (.str "closed")]))) (gN 2)) (sRet (rAndV (rOp oInX (rOp oIx (rVar 1) (rC (.int 0))) (rTup (rCons (rC (.str "status")) (rCons (rC (.str "desk")) rNil)))) (rAndV (rOp oInX (rOp oIx (rVar 1) (rC (.int 1))) (rVar 2)) (rCB (bIsi .bl) (rCons (rOp oIx (rVar 1) (rC (.int 2))) (rCons (rC (.ty "bool")) rNil))))))) (sSkip)) (sSeq (sIf (rTst (rOp oEq (rOp oIx (rVar 1) (rC (.int 0))) (rC (.str "days")))) (sRet (rAndV (rCall0 sp_is_whole (rCons (rOp oIx (rVar 1) (rC (.int 1))) rNil)) (rChain oLe oLe (rC (.int 1)) (rOp oIx (rVar 1) (rC (.int 1))) (rC (.int 30))))) (sSkip)) (sRet (rAndV (rOp oInX (rOp oIx (rVar 1) (rC (.int 0))) (rTup (rCons (rC (.str "answered")) (rCons (rC (.str "marked")) rNil)))) (rCB (bIsi .bl) (rCons (rOp oIx (rVar 1) (rC (.int 1))) (rCons (rC (.ty "bool")) rNil)))))))
def Tst.okIn (desks : List Str) : Tst → Prop
  | .sta s _ => s ∈ stas
  | .dsk s _ => s ∈ desks
  | .day n => 1 ≤ n ∧ n ≤ 30
  | _ => True
theorem Tst.okIn.sk {desks : List Str} {c : Tst} (ok : DesksOk desks) (h : c.okIn desks) : c.sk := by
  cases c with
  | sta s _ => exact stas_ok s h
  | dsk s _ => exact ok.sok s h
  | _ => trivial
def sp_is_test : BSp := fun ex ds M R => ∃ xs c, ds = [.tup (sts xs), Tst.d c] ∧ DesksOk xs ∧ c.okIn xs ∧ M = [] ∧ R (.bl true) []
theorem len_is_test : ∀ ex ds M R, sp_is_test ex ds M R → ds.length = 2 := by
  rintro ex ds M R ⟨s, d, rfl, _⟩
  rfl
theorem pure_is_test : ∀ ex ds M R, sp_is_test ex ds M R → t_is_test { ex := ex, nx := fun _ M' => R .non M', rt := R } (startB 3 ds) M := by
  rintro ex ds M R ⟨xs, c, rfl, ok, hc, rfl, k⟩
  unfold t_is_test
  cases c with
  | sta s b =>
    have hs : sok s := stas_ok s hc
    unfold Tst.d Tst.l
    walk_at "bv"
    rw [any_stas hc]
    walk_at "bv"
    exact k
  | dsk s b =>
    have hs : sok s := ok.sok s hc
    unfold Tst.d Tst.l
    walk_at "bv"
    refine q_inSts hs ok.sok ?_
    rw [decide_eq_true (show s ∈ xs from hc)]
    walk_at "bv"
    exact k
  | day n =>
    have h1 : 1 ≤ n := hc.1
    have h2 : n ≤ 30 := hc.2
    unfold Tst.d Tst.l
    walk_at "bv"
    refine cf_pure ⟨n, rfl, rfl, ?_⟩
    walk_at "bv"
    rw [decide_eq_true h1]
    walk_at "bv"
    rw [decide_eq_true h2]
    exact k
  | ans b =>
    unfold Tst.d Tst.l
    walk_at "bv"
    exact k
  | mrk b =>
    unfold Tst.d Tst.l
    walk_at "bv"
    exact k
end BV
set_option maxHeartbeats 4000000
namespace BV
open PySem
local macro_rules | `(tactic| walk_at "pd") => `(tactic| (first | rfl | assumption | (apply pd_str; assumption) | decide +kernel))
local macro_rules | `(tactic| walk_at "ty") => `(tactic| (first | exact TyD.tup _ | exact TyD.str _ | exact TyD.lst _ | exact TyD.bl _ | exact TyD.int _ | exact TyD.non | (apply TyD.ref; walk_at "at")))
local macro_rules | `(tactic| walk_at "sz") => `(tactic| (first | assumption | exact Nat.le_of_ble_eq_true rfl))
local macro_rules | `(tactic| walk_at "at") => `(tactic| (repeat (first | exact At.here | apply At.there | apply At.app)))
local macro_rules | `(tactic| walk_at "sok") => `(tactic| (first | assumption | (show PyData.strOk _ = true; decide +kernel)))
local macro_rules | `(tactic| walk_at "b1") => `(tactic| first
  | with_reducible refine q_seq ?_
  | with_reducible refine q_if ?_
  | with_reducible refine q_tst ?_
  | with_reducible refine q_op ?_
  | with_reducible refine q_c ?_
  | ((with_reducible refine' q_var ?b1 ?_); (case b1 => rfl))
  | with_reducible refine q_fld ?_
  | ((with_reducible refine' q_fldR ?b1 ?b2 ?_); (case b1 => walk_at "at"); (case b2 => rfl))
  | ((with_reducible refine' q_fldV ?b2 ?_); (case b2 => rfl))
  | ((with_reducible refine' q_eqS ?b1 ?b2 ?_); (case b1 => walk_at "sok"); (case b2 => walk_at "sok"))
  | ((with_reducible refine' q_neS ?b1 ?b2 ?_); (case b1 => walk_at "sok"); (case b2 => walk_at "sok"))
  | with_reducible refine q_eqB ?_
  | with_reducible refine q_eqI ?_
  | with_reducible refine q_neI ?_
  | with_reducible refine q_addI ?_
  | with_reducible refine q_oadd ?_
  | with_reducible refine q_osub ?_
  | with_reducible refine q_lt ?_
  | with_reducible refine q_le ?_
  | with_reducible refine q_gt ?_
  | with_reducible refine q_ge ?_
  | with_reducible refine q_isN ?_
  | with_reducible refine q_notN ?_
  | ((with_reducible refine' q_ixT ?b2 ?_); (case b2 => rfl))
  | ((with_reducible refine' q_ixL ?b2 ?_); (case b2 => rfl))
  | ((with_reducible refine' q_ixR ?b1 ?b2 ?_); (case b1 => walk_at "at"); (case b2 => rfl))
  | with_reducible refine q_bl ?_
  | with_reducible refine q_ret ?_
  | with_reducible refine q_retN ?_
  | with_reducible refine q_skip ?_
  | with_reducible refine q_drop ?_
  | with_reducible refine q_asg ?_
  | with_reducible refine q_gN ?_
  | with_reducible refine q_gFld ?_
  | with_reducible refine q_aug ?_
  | with_reducible refine q_isRef ?_
  | ((with_reducible refine' q_put ?b1 ?b2 ?b3 ?_); (case b1 => walk_at "at"); (case b2 => rfl); (case b3 => rfl))
  | with_reducible refine q_nil ?_
  | with_reducible refine q_cons ?_
  | with_reducible refine q_not ?_
  | with_reducible refine q_and ?_
  | with_reducible refine q_or ?_
  | with_reducible refine q_andV ?_
  | with_reducible refine q_orV ?_
  | with_reducible refine q_notV ?_
  | with_reducible refine q_ifE ?_
  | with_reducible refine q_tup ?_
  | ((with_reducible refine' q_szA ?b1 fun p => ?_); (case b1 => walk_at "sz"))
  | ((with_reducible refine' q_sz ?b1 ?_); (case b1 => walk_at "sz"))
  | with_reducible refine q_bm ?_
  | ((with_reducible refine' q_own ?b1 ?_); (case b1 => walk_at "at"))
  | ((with_reducible refine' q_append ?b1 ?b2 ?_); (case b1 => walk_at "at"); (case b2 => walk_at "sz"))
  | with_reducible refine q_call0 ?_
  | with_reducible refine q_meth0 ?_
  | ((with_reducible refine' q_isR ?b1 ?_); (case b1 => walk_at "at"))
  | ((with_reducible refine' q_isP ?b1 ?_); (case b1 => exact Or.inr ⟨_, rfl⟩))
  | with_reducible refine q_dct ?_
  | with_reducible refine q_dget ?_
  | ((with_reducible refine' q_dctE ?b1 ?_); (case b1 => walk_at "at"))
  | with_reducible refine q_dinT ?_
  | with_reducible refine q_dinF ?_
  | with_reducible refine q_dget1 ?_
  | ((with_reducible refine' q_isDct ?b1 ?_); (case b1 => walk_at "at"))
  | ((with_reducible refine' q_setD ?b1 ?b2 ?_); (case b1 => walk_at "at"); (case b2 => walk_at "sz"))
  | with_reducible refine q_orT ?_
  | ((with_reducible refine' q_orTT ?b1 ?_); (case b1 => rfl))
  | with_reducible refine q_cb ?_
  | ((with_reducible refine' q_inT ?b1 ?b2 rfl ?_); (case b1 => walk_at "pd"); (case b2 => walk_at "pd"))
  | ((with_reducible refine' q_notInT ?b1 ?b2 rfl ?_); (case b1 => walk_at "pd"); (case b2 => walk_at "pd"))
  | ((with_reducible refine' q_isi rfl ?b1 ?_); (case b1 => walk_at "ty"))
  | ((with_reducible refine' q_isi2 rfl rfl ?b1 ?_); (case b1 => walk_at "ty"))
  | with_reducible refine q_lenT ?_
  | with_reducible refine q_lenL ?_
  | ((with_reducible refine' q_lenR ?b1 ?_); (case b1 => walk_at "at"))
  | ((with_reducible refine' q_lenD ?b1 ?_); (case b1 => walk_at "at"))
  | ((with_reducible refine' q_lenS ?b1 ?_); (case b1 => walk_at "sz"))
  | with_reducible refine q_lenSc ?_
  | with_reducible refine q_intI ?_
  | with_reducible refine q_intB ?_
  | with_reducible refine q_listT ?_
  | with_reducible refine q_listL ?_
  | ((with_reducible refine' q_listR ?b1 ?_); (case b1 => walk_at "at"))
  | ((with_reducible refine' q_listD ?b1 ?_); (case b1 => walk_at "at"))
  | ((with_reducible refine' q_tupR ?b1 ?_); (case b1 => walk_at "at"))
  | with_reducible refine q_tupL ?_
  | ((with_reducible refine' q_dictO ?b1 fun p => ?_); (case b1 => walk_at "at"))
  | with_reducible refine q_dictN fun p => ?_
  | with_reducible refine q_lstO ?_
  | with_reducible refine q_lstV ?_
  | with_reducible refine q_chain ?_
  | ((with_reducible refine' q_gTup ?b1 ?_); (case b1 => rfl))
  | with_reducible refine q_gCons ?_
  | with_reducible refine q_gNil ?_
  | with_reducible refine q_par ?_
  | with_reducible refine q_par3 ?_
  | with_reducible refine q_two ?_
  | with_reducible refine q_three ?_
  | ((with_reducible refine' q_saug ?b1 ?_); (case b1 => rfl))
  | with_reducible refine q_gSub ?_
  | ((with_reducible refine' q_setL ?b1 ?b2 ?b3 ?_); (case b1 => walk_at "at"); (case b2 => rfl); (case b3 => rfl))
  | with_reducible refine q_ownV ?_
  | with_reducible refine q_indexA ?_
  | ((with_reducible refine' q_indexB ?b1 ?_); (case b1 => decide +kernel))
  | ((with_reducible refine' q_listO ?b1 fun p => ?_); (case b1 => walk_at "at"))
  | with_reducible refine q_listOT fun p => ?_
  | ((with_reducible refine' q_popO ?b1 ?_); (case b1 => walk_at "at"))
  | with_reducible refine q_yes ?_
  | with_reducible refine q_cN ?_
  | with_reducible refine q_make0 ?_
  | with_reducible refine q_lstX ?_
  | with_reducible refine q_tupX ?_
  | ((with_reducible refine' q_iteT ?b1 ?_); (case b1 => first | rfl | decide +kernel))
  | ((with_reducible refine' q_iteF ?b1 ?_); (case b1 => first | rfl | decide +kernel))
  | with_reducible refine q_goS ?_
  | with_reducible refine q_goV ?_)
local macro_rules | `(tactic| walk_at "bv") => `(tactic| (repeat (walk_at "b1")))
def evs : List Str := ["letter", "answer", "day", "moved", "status", "replied"]
theorem evs_ok : ∀ s ∈ evs, sok s := by
  intro s hs
  have : ∀ s ∈ evs, PyData.strOk s = true := by decide +kernel
  exact this s hs
theorem any_evs {s : Str} (h : s ∈ evs) : (List.any [D.str "letter", D.str "answer", D.str "day", D.str "moved", D.str "status", D.str "replied"] fun x => deq x (.str s)) = true := (any_str (xs := evs)).trans (decide_eq_true h)
structure Rule.okIn (desks : List Str) (r : Rule) : Prop where
  ev : r.ev ∈ evs
  tn : r.ts.length ≤ 4
  an : 1 ≤ r.as.length ∧ r.as.length ≤ 4
  ts : ∀ t ∈ r.ts, t.okIn desks
  as : ∀ a ∈ r.as, a.okIn desks
structure Bk.good (b : Bk) : Prop where
  desks : DesksOk b.desks
  few : b.rules.length ≤ 8
  rules : ∀ r ∈ b.rules, r.okIn b.desks
theorem Rule.okIn.sk {desks : List Str} {r : Rule} (ok : DesksOk desks) (h : r.okIn desks) : r.sk := ⟨evs_ok _ h.ev, fun t ht => (h.ts t ht).sk ok, fun a ha => (h.as a ha).sk ok, h.an.2, h.tn⟩
theorem Bk.good.sk {b : Bk} (h : b.good) : b.sk := ⟨h.desks.sok, fun e => by have := h.desks.few.1; rw [e] at this; simp at this, fun r hr => (h.rules r hr).sk h.desks, h.few⟩
def t_is_rule : RS := sSeq (sIf (rOr (rNot (rTst (rCB (bIsi .tup) (rCons (rVar 1) (rCons (rC (.ty "tuple")) rNil))))) (rTst (rOp oNe (rCB bLenX (rCons (rVar 1) rNil)) (rC (.int 3))))) (sRet (rC (.bl false))) (sSkip)) (sSeq (sAsg (rVar 1) (BV.gTup 3 (BV.gCons (gN 2) (BV.gCons (gN 3) (BV.gCons (gN 4) BV.gNil))))) (sSeq (sIf (rOr (rTst (rOp (oIn true) (rVar 2) (rC (.tup [(.str "letter"), (.str "answer"), (.str "day"), (.str "moved"), (.str "status"), (.str "replied")])))) (rOr (rNot (rTst (rCB (bIsi .tup) (rCons (rVar 3) (rCons (rC (.ty "tuple")) rNil))))) (rNot (rTst (rCB (bIsi .tup) (rCons (rVar 4) (rCons (rC (.ty "tuple")) rNil))))))) (sRet (rC (.bl false))) (sSkip)) (sSeq (sIf (rOr (rTst (rOp oGt (rCB bLenX (rCons (rVar 3) rNil)) (rC (.int 4)))) (rNot (rTst (rChain oLe oLe (rC (.int 1)) (rCB bLenX (rCons (rVar 4) rNil)) (rC (.int 4)))))) (sRet (rC (.bl false))) (sSkip)) (sSeq (sIf (rNot (rTst (rCB bAll (rCons (rLc (iSeq (rVar 3)) (cN 6) (rYes) (rCall0 sp_is_test (rCons (rVar 0) (rCons (rVar 6) rNil))) [6]) rNil)))) (sRet (rC (.bl false))) (sSkip)) (sRet (rCB bAll (rCons (rLc (iSeq (rVar 4)) (cN 5) (rYes) (rCall0 sp_is_action (rCons (rVar 0) (rCons (rVar 5) rNil))) [5]) rNil)))))))
def sp_is_rule : BSp := fun ex ds M R => ∃ xs r, ds = [.tup (sts xs), Rule.d r] ∧ DesksOk xs ∧ r.okIn xs ∧ M = [] ∧ R (.bl true) []
theorem len_is_rule : ∀ ex ds M R, sp_is_rule ex ds M R → ds.length = 2 := by
  rintro ex ds M R ⟨s, d, rfl, _⟩
  rfl
theorem pure_is_rule : ∀ ex ds M R, sp_is_rule ex ds M R → t_is_rule { ex := ex, nx := fun _ M' => R .non M', rt := R } (startB 7 ds) M := by
  rintro ex ds M R ⟨xs, r, rfl, ok, hr, rfl, k⟩
  unfold t_is_rule Rule.d
  have he : sok r.ev := evs_ok _ hr.ev
  have h1 := hr.tn
  have h2 := hr.an.1
  have h3 := hr.an.2
  walk_at "bv"
  rw [any_evs hr.ev]
  walk_at "bv"
  rw [List.length_map]
  refine q_iteF (decide_eq_false (by omega)) ?_
  walk_at "bv"
  rw [List.length_map]
  refine q_iteT (decide_eq_true (by omega)) ?_
  walk_at "bv"
  rw [show decide ((r.as.length : Int) ≤ 4) = true from decide_eq_true (by omega)]
  walk_at "bv"
  refine q_lc (q_seqT ?_)
  walk_at "bv"
  refine lc_map (enc := Tst.d) (val := fun _ => .bl true) (xs := r.ts) (fun c hc R kk => ?_) (Nat.le_trans (show 0 + r.ts.length ≤ 4 by omega) (Nat.le_of_ble_eq_true rfl)) ?_
  · walk_at "bv"
    exact cf_pure ⟨xs, c, rfl, ok, hr.ts c hc, rfl, kk⟩
  · rw [List.nil_append, map_bl]
    walk_at "bv"
    refine q_all ?_
    rw [all_map_id, show (r.ts.all fun _ => true) = true by simp]
    walk_at "bv"
    refine q_lc (q_seqT ?_)
    walk_at "bv"
    refine lc_map (enc := Act.d) (val := fun _ => .bl true) (xs := r.as) (fun c hc R kk => ?_) (Nat.le_trans (show 0 + r.as.length ≤ 4 by omega) (Nat.le_of_ble_eq_true rfl)) ?_
    · walk_at "bv"
      exact cf_pure ⟨xs, c, rfl, ok, hr.as c hc, rfl, kk⟩
    · rw [List.nil_append, map_bl]
      walk_at "bv"
      refine q_all ?_
      rw [all_map_id, show (r.as.all fun _ => true) = true by simp]
      exact .go k
def t_Book___init__ : RS := sSeq (sIf (rNot (rTst (rCall0 sp_are_desks (rCons (rVar 1) rNil)))) (sNever) (sSkip)) (sSeq (sIf (rNot (rTst (rCB (bIsi .tup) (rCons (rVar 2) (rCons (rC (.ty "tuple")) rNil))))) (sNever) (sSkip)) (sSeq (sFor (iEnumT (rCons (rVar 2) rNil)) (BV.gTup 2 (BV.gCons (gN 3) (BV.gCons (gN 4) BV.gNil))) (sIf (rOr (rTst (rOp oGe (rVar 3) (rC (.int 8)))) (rNot (rTst (rCall0 sp_is_rule (rCons (rVar 1) (rCons (rVar 4) rNil)))))) (sNever) (sSkip))) (sSeq (sAsg (rVar 1) (gFld .book 0 (rVar 0))) (sAsg (rVar 2) (gFld .book 1 (rVar 0))))))
def b_bi : RS := sIf (rOr (rTst (rOp oGe (rVar 3) (rC (.int 8)))) (rNot (rTst (rCall0 sp_is_rule (rCons (rVar 1) (rCons (rVar 4) rNil)))))) (sNever) (sSkip)
theorem bi_loop {B : BEnds} {x0 x2 : Option D} {xs : List Str} (ok : DesksOk xs) {M : Mm} : ∀ (rs : List Rule) (i : Nat) (x3 x4 : Option D), i + rs.length ≤ 8 → (∀ r ∈ rs, r.okIn xs) → (∀ x3 x4, B.nx [x0, some (.tup (sts xs)), x2, x3, x4] M) →
    forW (BV.gTup 2 (BV.gCons (gN 3) (BV.gCons (gN 4) BV.gNil))) b_bi B (enumD i (rs.map Rule.d)) [x0, some (.tup (sts xs)), x2, x3, x4] M
  | [], i, x3, x4, _, _, k => .go (k _ _)
  | r :: rs, i, x3, x4, hi, hs, k => by
    obtain ⟨hr, hs2⟩ := sk_get hs
    rw [List.length_cons] at hi
    rw [List.map_cons]
    unfold enumD forW
    walk_at "bv"
    unfold b_bi
    walk_at "bv"
    refine q_iteF (decide_eq_false (by omega)) ?_
    walk_at "bv"
    refine cf_pure ⟨xs, r, rfl, ok, hr, rfl, ?_⟩
    walk_at "bv"
    exact .go (bi_loop ok rs (i + 1) _ _ (by omega) hs2 k)
def sp_Book___init__ : BSp := fun ex ds M R => ∃ p b, ds = [.ref p, .tup (sts b.desks), .tup (b.rules.map Rule.d)] ∧ Bk.good b ∧ M = [(p, .ins .book [])] ∧ R .non [(p, .ins .book b.l)]
theorem len_Book___init__ : ∀ ex ds M R, sp_Book___init__ ex ds M R → ds.length = 3 := by
  rintro ex ds M R ⟨s, d, rfl, _⟩
  rfl
theorem pure_Book___init__ : ∀ ex ds M R, sp_Book___init__ ex ds M R → t_Book___init__ { ex := ex, nx := fun _ M' => R .non M', rt := R } (startB 5 ds) M := by
  rintro ex ds M R ⟨p, b, rfl, ok, rfl, k⟩
  unfold t_Book___init__
  walk_at "bv"
  refine cf_pure ⟨b.desks, rfl, ok.desks, rfl, ?_⟩
  walk_at "bv"
  refine q_for (q_enumT ?_)
  walk_at "bv"
  refine ⟨_, rfl, ?_⟩
  refine bi_loop ok.desks b.rules 0 _ _ (by have := ok.few; omega) ok.rules fun x3 x4 => ?_
  refine .go ?_
  walk_at "bv"
  exact k
def t_Desk___contains__ : RS := sRet (rAndV (rCall0 sp_is_name (rCons (rVar 1) rNil)) (rDIn false (rVar 1) (rFld .desk 1 (rVar 0))))
def t_Desk_ticket : RS := sSeq (sIf (rOr (rNot (rTst (rCall0 sp_is_name (rCons (rVar 1) rNil)))) (rTst (rDIn true (rVar 1) (rFld .desk 1 (rVar 0))))) (sNever) (sSkip)) (sRet (rDGet (rFld .desk 1 (rVar 0)) (rVar 1)))
def t_Desk_at : RS := sSeq (sIf (rOr (rNot (rTst (rCall0 sp_is_name (rCons (rVar 1) rNil)))) (rTst (rOp (oIn true) (rVar 1) (rMeth0 .book sp_Book_desks (rFld .desk 0 (rVar 0)) rNil)))) (sNever) (sSkip)) (sRet (rLcD itemsD (rFld .desk 1 (rVar 0)) (cT2 2 3) (rAnd (rTst (rOp oEq (rOp oIx (rVar 3) (rC (.int 1))) (rVar 1))) (rTst (rOp oNe (rOp oIx (rVar 3) (rC (.int 0))) (rC (.str "closed"))))) (rVar 2) [2, 3]))
def sp_Desk___contains__ : BSp := fun ex ds M R => ∃ p t e h x, ds = [.ref p, .str x] ∧ isNm x = true ∧ M = Hs.m h p t e ∧ R (.bl (getT h.tk x).isSome) M
theorem len_Desk___contains__ : ∀ ex ds M R, sp_Desk___contains__ ex ds M R → ds.length = 2 := by
  rintro ex ds M R ⟨p, t, e, h, x, rfl, _⟩
  rfl
theorem pure_Desk___contains__ : ∀ ex ds M R, sp_Desk___contains__ ex ds M R → t_Desk___contains__ { ex := ex, nx := fun _ M' => R .non M', rt := R } (startB 2 ds) M := by
  rintro ex ds M R ⟨p, t, e, h, x, rfl, hx, rfl, k⟩
  unfold t_Desk___contains__
  rw [← some_kvD] at k
  walk_at "bv"
  refine cf_pure ⟨x, rfl, nm_sz hx, rfl, ?_⟩
  rw [hx]
  walk_at "bv"
  exact k
def sp_Desk_ticket : BSp := fun ex ds M R => ∃ p t e h x y, ds = [.ref p, .str x] ∧ isNm x = true ∧ getT h.tk x = some y ∧ M = Hs.m h p t e ∧ R y.d M
theorem len_Desk_ticket : ∀ ex ds M R, sp_Desk_ticket ex ds M R → ds.length = 2 := by
  rintro ex ds M R ⟨p, t, e, h, x, y, rfl, _⟩
  rfl
theorem pure_Desk_ticket : ∀ ex ds M R, sp_Desk_ticket ex ds M R → t_Desk_ticket { ex := ex, nx := fun _ M' => R .non M', rt := R } (startB 2 ds) M := by
  rintro ex ds M R ⟨p, t, e, h, x, y, rfl, hx, hy, rfl, k⟩
  unfold t_Desk_ticket
  walk_at "bv"
  refine cf_pure ⟨x, rfl, nm_sz hx, rfl, ?_⟩
  rw [hx]
  walk_at "bv"
  rw [some_kvD, hy]
  walk_at "bv"
  exact ⟨y.d, by rw [getK_kvD, hy]; rfl, .go k⟩
def atP (name : Str) (y : Str × Tk) : Bool := decide (y.2.pl = name) && !decide (y.2.ph = "closed")
def encT (y : Str × Tk) : D := .tup [.str y.1, y.2.d]
theorem Hs.at_t {h : Hs} {p t e : Addr} : At (h.m p t e) t (.dct (kvD h.tk)) (fun o' => h.c ++ [(p, .ins .desk [h.bk.d, .ref t, .int h.total, .ref e]), (t, o'), (e, .lst h.rows)]) := .app (.there .here)
theorem itemsD_kvD {l : List (Str × Tk)} : itemsD (kvD l) = l.map encT := by
  unfold itemsD kvD
  rw [List.map_map]
  rfl
def sp_Desk_at : BSp := fun ex ds M R => ∃ p t e h x, ds = [.ref p, .str x] ∧ isNm x = true ∧ x ∈ h.bk.desks ∧ h.ok ∧ M = Hs.m h p t e ∧ R (.lst (sts ((h.tk.filter (atP x)).map (·.1)))) M
theorem len_Desk_at : ∀ ex ds M R, sp_Desk_at ex ds M R → ds.length = 2 := by
  rintro ex ds M R ⟨p, t, e, h, x, rfl, _⟩
  rfl
theorem pure_Desk_at : ∀ ex ds M R, sp_Desk_at ex ds M R → t_Desk_at { ex := ex, nx := fun _ M' => R .non M', rt := R } (startB 4 ds) M := by
  rintro ex ds M R ⟨p, t, e, h, x, rfl, hx, hm, ok, rfl, k⟩
  unfold t_Desk_at
  have hs := nm_sok hx
  walk_at "bv"
  refine cf_pure ⟨x, rfl, nm_sz hx, rfl, ?_⟩
  rw [hx]
  walk_at "bv"
  refine cf_pure ⟨h.bk, rfl, rfl, ?_⟩
  walk_at "bv"
  refine q_notSts hs ok.bk.1 ?_
  rw [decide_eq_true hm]
  walk_at "bv"
  refine ⟨t, kvD h.tk, _, Hs.at_t, fun o ws => ?_⟩
  walk_at "bv"
  refine ⟨rfl, ⟨_, .app (.there .here)⟩, ?_⟩
  rw [itemsD_kvD]
  refine lcG_filter (σ := fun (y : Str × Tk) => [some (.ref p), some (.str x), some (.str y.1), some y.2.d]) (p := atP x) (val := fun (y : Str × Tk) => .str y.1) (xs := h.tk) ⟨_, .app (.there .here)⟩ (fun y hy Q q => ⟨.str y.1, y.2.d, rfl, q⟩) (fun y hy R q => ?_) (fun y hy _ R q => ?_) (Nat.le_trans (show 0 + h.tk.length ≤ 1000 by have := ok.few; omega) (Nat.le_of_ble_eq_true rfl)) ⟨_, .app (.there .here), .go ?_⟩
  · obtain ⟨y1, ph, pl, an, wa, ma⟩ := y
    have h1 : sok ph := (ok.tk _ hy).2.1
    have h2 : sok pl := (ok.tk _ hy).2.2
    unfold atP at q
    simp only at q
    unfold Tk.d Tk.l
    walk_at "bv"
    refine q_iteD (fun h3 => ?_) (fun h3 => ?_)
    · rw [decide_eq_true h3, Bool.true_and] at q
      walk_at "bv"
      exact q
    · rw [decide_eq_false h3, Bool.false_and] at q
      exact q
  · walk_at "bv"
    exact q
  · rw [List.nil_append]
    unfold sts at k
    rw [List.map_map] at k
    exact k
end BV
set_option maxHeartbeats 4000000
namespace BV
open PySem
local macro_rules | `(tactic| walk_at "pd") => `(tactic| (first | rfl | assumption | (apply pd_str; assumption) | decide +kernel))
local macro_rules | `(tactic| walk_at "ty") => `(tactic| (first | exact TyD.tup _ | exact TyD.str _ | exact TyD.lst _ | exact TyD.bl _ | exact TyD.int _ | exact TyD.non | (apply TyD.ref; walk_at "at")))
local macro_rules | `(tactic| walk_at "sz") => `(tactic| (first | assumption | exact Nat.le_of_ble_eq_true rfl))
local macro_rules | `(tactic| walk_at "at") => `(tactic| (repeat (first | exact At.here | apply At.there | apply At.app)))
local macro_rules | `(tactic| walk_at "sok") => `(tactic| (first | assumption | (show PyData.strOk _ = true; decide +kernel)))
local macro_rules | `(tactic| walk_at "b1") => `(tactic| first
  | with_reducible refine q_seq ?_
  | with_reducible refine q_if ?_
  | with_reducible refine q_tst ?_
  | with_reducible refine q_op ?_
  | with_reducible refine q_c ?_
  | ((with_reducible refine' q_var ?b1 ?_); (case b1 => rfl))
  | with_reducible refine q_fld ?_
  | ((with_reducible refine' q_fldR ?b1 ?b2 ?_); (case b1 => walk_at "at"); (case b2 => rfl))
  | ((with_reducible refine' q_fldV ?b2 ?_); (case b2 => rfl))
  | ((with_reducible refine' q_eqS ?b1 ?b2 ?_); (case b1 => walk_at "sok"); (case b2 => walk_at "sok"))
  | ((with_reducible refine' q_neS ?b1 ?b2 ?_); (case b1 => walk_at "sok"); (case b2 => walk_at "sok"))
  | with_reducible refine q_eqB ?_
  | with_reducible refine q_eqI ?_
  | with_reducible refine q_neI ?_
  | with_reducible refine q_addI ?_
  | with_reducible refine q_oadd ?_
  | with_reducible refine q_osub ?_
  | with_reducible refine q_lt ?_
  | with_reducible refine q_le ?_
  | with_reducible refine q_gt ?_
  | with_reducible refine q_ge ?_
  | with_reducible refine q_isN ?_
  | with_reducible refine q_notN ?_
  | ((with_reducible refine' q_ixT ?b2 ?_); (case b2 => rfl))
  | ((with_reducible refine' q_ixL ?b2 ?_); (case b2 => rfl))
  | ((with_reducible refine' q_ixR ?b1 ?b2 ?_); (case b1 => walk_at "at"); (case b2 => rfl))
  | with_reducible refine q_bl ?_
  | with_reducible refine q_ret ?_
  | with_reducible refine q_retN ?_
  | with_reducible refine q_skip ?_
  | with_reducible refine q_drop ?_
  | with_reducible refine q_asg ?_
  | with_reducible refine q_gN ?_
  | with_reducible refine q_gFld ?_
  | with_reducible refine q_aug ?_
  | with_reducible refine q_isRef ?_
  | ((with_reducible refine' q_put ?b1 ?b2 ?b3 ?_); (case b1 => walk_at "at"); (case b2 => rfl); (case b3 => rfl))
  | with_reducible refine q_nil ?_
  | with_reducible refine q_cons ?_
  | with_reducible refine q_not ?_
  | with_reducible refine q_and ?_
  | with_reducible refine q_or ?_
  | with_reducible refine q_andV ?_
  | with_reducible refine q_orV ?_
  | with_reducible refine q_notV ?_
  | with_reducible refine q_ifE ?_
  | with_reducible refine q_tup ?_
  | ((with_reducible refine' q_szA ?b1 fun p => ?_); (case b1 => walk_at "sz"))
  | ((with_reducible refine' q_sz ?b1 ?_); (case b1 => walk_at "sz"))
  | with_reducible refine q_bm ?_
  | ((with_reducible refine' q_own ?b1 ?_); (case b1 => walk_at "at"))
  | ((with_reducible refine' q_append ?b1 ?b2 ?_); (case b1 => walk_at "at"); (case b2 => walk_at "sz"))
  | with_reducible refine q_call0 ?_
  | with_reducible refine q_meth0 ?_
  | ((with_reducible refine' q_isR ?b1 ?_); (case b1 => walk_at "at"))
  | ((with_reducible refine' q_isP ?b1 ?_); (case b1 => exact Or.inr ⟨_, rfl⟩))
  | with_reducible refine q_dct ?_
  | with_reducible refine q_dget ?_
  | ((with_reducible refine' q_dctE ?b1 ?_); (case b1 => walk_at "at"))
  | with_reducible refine q_dinT ?_
  | with_reducible refine q_dinF ?_
  | with_reducible refine q_dget1 ?_
  | ((with_reducible refine' q_isDct ?b1 ?_); (case b1 => walk_at "at"))
  | ((with_reducible refine' q_setD ?b1 ?b2 ?_); (case b1 => walk_at "at"); (case b2 => walk_at "sz"))
  | with_reducible refine q_orT ?_
  | ((with_reducible refine' q_orTT ?b1 ?_); (case b1 => rfl))
  | with_reducible refine q_cb ?_
  | ((with_reducible refine' q_inT ?b1 ?b2 rfl ?_); (case b1 => walk_at "pd"); (case b2 => walk_at "pd"))
  | ((with_reducible refine' q_notInT ?b1 ?b2 rfl ?_); (case b1 => walk_at "pd"); (case b2 => walk_at "pd"))
  | ((with_reducible refine' q_isi rfl ?b1 ?_); (case b1 => walk_at "ty"))
  | ((with_reducible refine' q_isi2 rfl rfl ?b1 ?_); (case b1 => walk_at "ty"))
  | with_reducible refine q_lenT ?_
  | with_reducible refine q_lenL ?_
  | ((with_reducible refine' q_lenR ?b1 ?_); (case b1 => walk_at "at"))
  | ((with_reducible refine' q_lenD ?b1 ?_); (case b1 => walk_at "at"))
  | ((with_reducible refine' q_lenS ?b1 ?_); (case b1 => walk_at "sz"))
  | with_reducible refine q_lenSc ?_
  | with_reducible refine q_intI ?_
  | with_reducible refine q_intB ?_
  | with_reducible refine q_listT ?_
  | with_reducible refine q_listL ?_
  | ((with_reducible refine' q_listR ?b1 ?_); (case b1 => walk_at "at"))
  | ((with_reducible refine' q_listD ?b1 ?_); (case b1 => walk_at "at"))
  | ((with_reducible refine' q_tupR ?b1 ?_); (case b1 => walk_at "at"))
  | with_reducible refine q_tupL ?_
  | ((with_reducible refine' q_dictO ?b1 fun p => ?_); (case b1 => walk_at "at"))
  | with_reducible refine q_dictN fun p => ?_
  | with_reducible refine q_lstO ?_
  | with_reducible refine q_lstV ?_
  | with_reducible refine q_chain ?_
  | ((with_reducible refine' q_gTup ?b1 ?_); (case b1 => rfl))
  | with_reducible refine q_gCons ?_
  | with_reducible refine q_gNil ?_
  | with_reducible refine q_par ?_
  | with_reducible refine q_par3 ?_
  | with_reducible refine q_two ?_
  | with_reducible refine q_three ?_
  | ((with_reducible refine' q_saug ?b1 ?_); (case b1 => rfl))
  | with_reducible refine q_gSub ?_
  | ((with_reducible refine' q_setL ?b1 ?b2 ?b3 ?_); (case b1 => walk_at "at"); (case b2 => rfl); (case b3 => rfl))
  | with_reducible refine q_ownV ?_
  | with_reducible refine q_indexA ?_
  | ((with_reducible refine' q_indexB ?b1 ?_); (case b1 => decide +kernel))
  | ((with_reducible refine' q_listO ?b1 fun p => ?_); (case b1 => walk_at "at"))
  | with_reducible refine q_listOT fun p => ?_
  | ((with_reducible refine' q_popO ?b1 ?_); (case b1 => walk_at "at"))
  | with_reducible refine q_yes ?_
  | with_reducible refine q_cN ?_
  | with_reducible refine q_make0 ?_
  | with_reducible refine q_lstX ?_
  | with_reducible refine q_tupX ?_
  | ((with_reducible refine' q_iteT ?b1 ?_); (case b1 => first | rfl | decide +kernel))
  | ((with_reducible refine' q_iteF ?b1 ?_); (case b1 => first | rfl | decide +kernel))
  | with_reducible refine q_goS ?_
  | with_reducible refine q_goV ?_)
local macro_rules | `(tactic| walk_at "bv") => `(tactic| (repeat (walk_at "b1")))
theorem handleAll_bk : ∀ {n : Nat} {w : Wk}, (handleAll n w).bk = w.bk
  | 0, w => by
    unfold handleAll
    split <;> rfl
  | n + 1, w => by
    unfold handleAll
    cases e : w.row with
    | nil => rfl
    | cons ev r => exact handleAll_bk.trans handleFrom_bk
theorem getK_ok {h : Hs} (ok : h.ok) {x : Str} : ∀ t, getT h.tk x = some t → t.ok := fun _ e => getT_ok ok.tk e
theorem put_ok {h : Hs} {x : Str} {d : Deed} (ok : h.ok) (hx : sok x) (hd : d.sk) (hl : x ∈ keysT h.tk ∨ h.tk.length + 1 ≤ 1000) : (h.put x d).ok := by
  refine ⟨ok.bk, setT_ok ok.tk hx (work_ok ok.bk (getK_ok ok) hd).tk, ?_, ok.sv⟩
  show (setT h.tk x _).length ≤ 1000
  rcases hl with hm | hl
  · have := setT_keys (l := h.tk) (x := x) (t := (work h.bk (getT h.tk x) d).tk)
    rw [if_pos hm] at this
    have e := congrArg List.length this
    rw [keysT_len, keysT_len] at e
    rw [e]
    exact ok.few
  · exact Nat.le_trans setT_len hl
theorem put_keys {h : Hs} {x : Str} {d : Deed} : keysT (h.put x d).tk = if x ∈ keysT h.tk then keysT h.tk else keysT h.tk ++ [x] := setT_keys
theorem save_ok {h : Hs} {a : Addr} (ok : h.ok) (hl : h.saved.length + 1 ≤ 1000000) : (h.save a).ok := ⟨ok.bk, ok.tk, ok.few, hl⟩
theorem deed_pd {c : Deed} (h : c.sk) : pd 60 c.d = true := by
  cases c with
  | hand s =>
    have h' : PyData.strOk s = true := h
    simp only [Deed.d, Deed.l, pd, pds, h', Bool.and_true]
    decide +kernel
  | sett s =>
    have h' : PyData.strOk s = true := h
    simp only [Deed.d, Deed.l, pd, pds, h', Bool.and_true]
    decide +kernel
  | letter => decide +kernel
  | answer => decide +kernel
  | day => decide +kernel
def Deed.isLet : Deed → Bool
  | .letter => true
  | _ => false
theorem deed_let {c : Deed} : deq c.d (.tup [.str "letter"]) = c.isLet := by cases c <;> rfl
def t_Desk_do : RS := sSeq (sIf (rNot (rTst (rCall0 sp_is_name (rCons (rVar 1) rNil)))) (sNever) (sSkip)) (sSeq (sIf (rNot (rTst (rCall0 sp_is_deed (rCons (rMeth0 .book sp_Book_desks (rFld .desk 0 (rVar 0)) rNil) (rCons (rVar 2) rNil))))) (sNever) (sSkip)) (sSeq (sIf (rAnd (rTst (rDIn true (rVar 1) (rFld .desk 1 (rVar 0)))) (rTst (rOp oNe (rVar 2) (rTup (rCons (rC (.str "letter")) rNil))))) (sNever) (sSkip)) (sSeq (sDrop (rMeth0 .desk sp_Desk_remember (rVar 0) rNil)) (sRet (rMeth0 .desk sp_Desk_work_at (rVar 0) (rCons (rVar 1) (rCons (rVar 2) rNil)))))))
def t_Desk_day : RS := sSeq (sDrop (rMeth0 .desk sp_Desk_remember (rVar 0) rNil)) (sSeq (sAsg (rMeth0 .desk sp_Desk_people (rVar 0) rNil) (gN 1)) (sRet (rLc (iSeq (rVar 1)) (cN 2) (rYes) (rTup (rCons (rVar 2) (rCons (rMeth0 .desk sp_Desk_work_at (rVar 0) (rCons (rVar 2) (rCons (rTup (rCons (rC (.str "day")) rNil)) rNil))) rNil))) [2])))
def sp_Desk_do : BSp := fun ex ds M R => ∃ p t e h x d, ds = [.ref p, .str x, Deed.d d] ∧ h.ok ∧ h.saved.length + 1 ≤ 1000000 ∧ DesksOk h.bk.desks ∧ isNm x = true ∧ d.okIn h.bk.desks ∧ (x ∈ keysT h.tk ∨ d = .letter) ∧ M = Hs.m h p t e ∧ ∀ a, R (.tup (work h.bk (getT h.tk x) d).rep) (Hs.m ((h.save a).put x d) p t e)
theorem len_Desk_do : ∀ ex ds M R, sp_Desk_do ex ds M R → ds.length = 3 := by
  rintro ex ds M R ⟨p, t, e, h, x, d, rfl, _⟩
  rfl
theorem pure_Desk_do : ∀ ex ds M R, sp_Desk_do ex ds M R → t_Desk_do { ex := ex, nx := fun _ M' => R .non M', rt := R } (startB 3 ds) M := by
  rintro ex ds M R ⟨p, t, e, h, x, d, rfl, ok, hl, hds, hx, hd, hk, rfl, k⟩
  unfold t_Desk_do
  have hs := nm_sok hx
  walk_at "bv"
  refine cf_pure ⟨x, rfl, nm_sz hx, rfl, ?_⟩
  rw [hx]
  walk_at "bv"
  refine cf_pure ⟨h.bk, rfl, rfl, ?_⟩
  walk_at "bv"
  refine cf_pure ⟨h.bk.desks, d, rfl, hds, hd, rfl, ?_⟩
  walk_at "bv"
  rw [some_kvD, getT_mem]
  have fin : Cf sp_Desk_remember nox [.ref p] (Hs.m h p t e) (fun _ M1 => CvS (startB 3 [.ref p, .str x, d.d]) M1 (sRet (rMeth0 .desk sp_Desk_work_at (rVar 0) (rCons (rVar 1) (rCons (rVar 2) rNil))) { ex := ex, nx := fun _ M' => R .non M', rt := R })) := by
    refine cf_whole ⟨p, t, e, h, rfl, by omega, rfl, fun a => ?_⟩
    walk_at "bv"
    refine cf_whole ⟨p, t, e, h.save a, x, d, rfl, save_ok ok hl, hs, hd.sk, rfl, .go (k a)⟩
  refine q_ite (fun h1 => ?_) (fun h1 => ?_)
  · walk_at "bv"
    refine q_neX (.inr rfl) (.inr rfl) (deed_pd hd.sk) (by decide +kernel) deed_let ?_
    have e1 : d = .letter := by
      rcases hk with hk | hk
      · rw [decide_eq_true hk] at h1
        cases h1
      · exact hk
    subst e1
    walk_at "bv"
    exact fin
  · walk_at "bv"
    exact fin
theorem days_ok : ∀ {l : List Str} {h : Hs}, h.ok → (∀ x ∈ l, x ∈ keysT h.tk) → (Hs.days l h).2.ok ∧ keysT (Hs.days l h).2.tk = keysT h.tk
  | [], h, ok, _ => ⟨ok, rfl⟩
  | x :: r, h, ok, hk => by
    have hm := hk x List.mem_cons_self
    have hs : sok x := by
      obtain ⟨y, hy, e⟩ := List.mem_map.mp hm
      rw [← e]
      exact (ok.tk y hy).1
    have e2 : keysT (h.put x .day).tk = keysT h.tk := by rw [put_keys, if_pos hm]
    have := days_ok (l := r) (put_ok (d := .day) ok hs trivial (.inl hm)) (fun y hy => by rw [e2]; exact hk y (List.mem_cons_of_mem _ hy))
    exact ⟨this.1, this.2.trans e2⟩
def e_day : RE := rTup (rCons (rVar 2) (rCons (rMeth0 .desk sp_Desk_work_at (rVar 0) (rCons (rVar 2) (rCons (rTup (rCons (rC (.str "day")) rNil)) rNil))) rNil))
theorem day_loop {K : List D → Mm → Prop} {p t e : Addr} {x1 x2 : Option D} : ∀ (l : List Str) (h : Hs) (acc : List D), h.ok → (∀ x ∈ l, x ∈ keysT h.tk) → Sz (acc.length + l.length) → K (acc ++ (Hs.days l h).1) (Hs.m (Hs.days l h).2 p t e) →
    lcW (cN 2) rYes e_day nox [some (.ref p), x1, x2] K (l.map .str) acc (Hs.m h p t e)
  | [], h, acc, _, _, _, k => by
    unfold Hs.days at k
    rw [List.append_nil] at k
    exact k
  | x :: r, h, acc, ok, hk, hz, k => by
    have hm := hk x List.mem_cons_self
    have hs : sok x := by
      obtain ⟨y, hy, e⟩ := List.mem_map.mp hm
      rw [← e]
      exact (ok.tk y hy).1
    have e2 : keysT (h.put x .day).tk = keysT h.tk := by rw [put_keys, if_pos hm]
    rw [List.length_cons] at hz
    rw [List.map_cons]
    unfold lcW e_day
    walk_at "bv"
    refine cf_whole ⟨p, t, e, h, x, .day, rfl, ok, hs, trivial, rfl, ?_⟩
    walk_at "bv"
    refine ⟨Nat.le_trans (by omega) hz, ?_⟩
    refine day_loop r (h.put x .day) _ (put_ok ok hs trivial (.inl hm)) (fun y hy => by rw [e2]; exact hk y (List.mem_cons_of_mem _ hy)) (by rw [List.length_append, List.length_singleton]; exact Nat.le_trans (by omega) hz) ?_
    rw [List.append_assoc]
    exact k
def sp_Desk_day : BSp := fun ex ds M R => ∃ p t e h, ds = [.ref p] ∧ h.ok ∧ h.saved.length + 1 ≤ 1000000 ∧ M = Hs.m h p t e ∧ ∀ a, R (.lst (Hs.days (keysT h.tk) (h.save a)).1) (Hs.m (Hs.days (keysT h.tk) (h.save a)).2 p t e)
theorem len_Desk_day : ∀ ex ds M R, sp_Desk_day ex ds M R → ds.length = 1 := by
  rintro ex ds M R ⟨p, t, e, h, rfl, _⟩
  rfl
theorem pure_Desk_day : ∀ ex ds M R, sp_Desk_day ex ds M R → t_Desk_day { ex := ex, nx := fun _ M' => R .non M', rt := R } (startB 3 ds) M := by
  rintro ex ds M R ⟨p, t, e, h, rfl, ok, hl, rfl, k⟩
  unfold t_Desk_day
  walk_at "bv"
  refine cf_whole ⟨p, t, e, h, rfl, by omega, rfl, fun a => ?_⟩
  walk_at "bv"
  refine cf_whole ⟨p, t, e, h.save a, rfl, rfl, ?_⟩
  walk_at "bv"
  refine q_lc (q_seqI ?_)
  walk_at "bv"
  refine day_loop (keysT h.tk) (h.save a) [] (save_ok ok hl) (fun x hx => hx) ?_ (.go (k a))
  rw [keysT_len]
  exact Nat.le_trans (show 0 + h.tk.length ≤ 1000 by have := ok.few; omega) (Nat.le_of_ble_eq_true rfl)
end BV
set_option maxHeartbeats 4000000
namespace BV
open PySem
local macro_rules | `(tactic| walk_at "pd") => `(tactic| (first | rfl | assumption | (apply pd_str; assumption) | decide +kernel))
local macro_rules | `(tactic| walk_at "ty") => `(tactic| (first | exact TyD.tup _ | exact TyD.str _ | exact TyD.lst _ | exact TyD.bl _ | exact TyD.int _ | exact TyD.non | (apply TyD.ref; walk_at "at")))
local macro_rules | `(tactic| walk_at "sz") => `(tactic| (first | assumption | exact Nat.le_of_ble_eq_true rfl))
local macro_rules | `(tactic| walk_at "at") => `(tactic| (repeat (first | exact At.here | apply At.there | apply At.app)))
local macro_rules | `(tactic| walk_at "sok") => `(tactic| (first | assumption | (show PyData.strOk _ = true; decide +kernel)))
local macro_rules | `(tactic| walk_at "b1") => `(tactic| first
  | with_reducible refine q_seq ?_
  | with_reducible refine q_if ?_
  | with_reducible refine q_tst ?_
  | with_reducible refine q_op ?_
  | with_reducible refine q_c ?_
  | ((with_reducible refine' q_var ?b1 ?_); (case b1 => rfl))
  | with_reducible refine q_fld ?_
  | ((with_reducible refine' q_fldR ?b1 ?b2 ?_); (case b1 => walk_at "at"); (case b2 => rfl))
  | ((with_reducible refine' q_fldV ?b2 ?_); (case b2 => rfl))
  | ((with_reducible refine' q_eqS ?b1 ?b2 ?_); (case b1 => walk_at "sok"); (case b2 => walk_at "sok"))
  | ((with_reducible refine' q_neS ?b1 ?b2 ?_); (case b1 => walk_at "sok"); (case b2 => walk_at "sok"))
  | with_reducible refine q_eqB ?_
  | with_reducible refine q_eqI ?_
  | with_reducible refine q_neI ?_
  | with_reducible refine q_addI ?_
  | with_reducible refine q_oadd ?_
  | with_reducible refine q_osub ?_
  | with_reducible refine q_lt ?_
  | with_reducible refine q_le ?_
  | with_reducible refine q_gt ?_
  | with_reducible refine q_ge ?_
  | with_reducible refine q_isN ?_
  | with_reducible refine q_notN ?_
  | ((with_reducible refine' q_ixT ?b2 ?_); (case b2 => rfl))
  | ((with_reducible refine' q_ixL ?b2 ?_); (case b2 => rfl))
  | ((with_reducible refine' q_ixR ?b1 ?b2 ?_); (case b1 => walk_at "at"); (case b2 => rfl))
  | with_reducible refine q_bl ?_
  | with_reducible refine q_ret ?_
  | with_reducible refine q_retN ?_
  | with_reducible refine q_skip ?_
  | with_reducible refine q_drop ?_
  | with_reducible refine q_asg ?_
  | with_reducible refine q_gN ?_
  | with_reducible refine q_gFld ?_
  | with_reducible refine q_aug ?_
  | with_reducible refine q_isRef ?_
  | ((with_reducible refine' q_put ?b1 ?b2 ?b3 ?_); (case b1 => walk_at "at"); (case b2 => rfl); (case b3 => rfl))
  | with_reducible refine q_nil ?_
  | with_reducible refine q_cons ?_
  | with_reducible refine q_not ?_
  | with_reducible refine q_and ?_
  | with_reducible refine q_or ?_
  | with_reducible refine q_andV ?_
  | with_reducible refine q_orV ?_
  | with_reducible refine q_notV ?_
  | with_reducible refine q_ifE ?_
  | with_reducible refine q_tup ?_
  | ((with_reducible refine' q_szA ?b1 fun p => ?_); (case b1 => walk_at "sz"))
  | ((with_reducible refine' q_sz ?b1 ?_); (case b1 => walk_at "sz"))
  | with_reducible refine q_bm ?_
  | ((with_reducible refine' q_own ?b1 ?_); (case b1 => walk_at "at"))
  | ((with_reducible refine' q_append ?b1 ?b2 ?_); (case b1 => walk_at "at"); (case b2 => walk_at "sz"))
  | with_reducible refine q_call0 ?_
  | with_reducible refine q_meth0 ?_
  | ((with_reducible refine' q_isR ?b1 ?_); (case b1 => walk_at "at"))
  | ((with_reducible refine' q_isP ?b1 ?_); (case b1 => exact Or.inr ⟨_, rfl⟩))
  | with_reducible refine q_dct ?_
  | with_reducible refine q_dget ?_
  | ((with_reducible refine' q_dctE ?b1 ?_); (case b1 => walk_at "at"))
  | with_reducible refine q_dinT ?_
  | with_reducible refine q_dinF ?_
  | with_reducible refine q_dget1 ?_
  | ((with_reducible refine' q_isDct ?b1 ?_); (case b1 => walk_at "at"))
  | ((with_reducible refine' q_setD ?b1 ?b2 ?_); (case b1 => walk_at "at"); (case b2 => walk_at "sz"))
  | with_reducible refine q_orT ?_
  | ((with_reducible refine' q_orTT ?b1 ?_); (case b1 => rfl))
  | with_reducible refine q_cb ?_
  | ((with_reducible refine' q_inT ?b1 ?b2 rfl ?_); (case b1 => walk_at "pd"); (case b2 => walk_at "pd"))
  | ((with_reducible refine' q_notInT ?b1 ?b2 rfl ?_); (case b1 => walk_at "pd"); (case b2 => walk_at "pd"))
  | ((with_reducible refine' q_isi rfl ?b1 ?_); (case b1 => walk_at "ty"))
  | ((with_reducible refine' q_isi2 rfl rfl ?b1 ?_); (case b1 => walk_at "ty"))
  | with_reducible refine q_lenT ?_
  | with_reducible refine q_lenL ?_
  | ((with_reducible refine' q_lenR ?b1 ?_); (case b1 => walk_at "at"))
  | ((with_reducible refine' q_lenD ?b1 ?_); (case b1 => walk_at "at"))
  | ((with_reducible refine' q_lenS ?b1 ?_); (case b1 => walk_at "sz"))
  | with_reducible refine q_lenSc ?_
  | with_reducible refine q_intI ?_
  | with_reducible refine q_intB ?_
  | with_reducible refine q_listT ?_
  | with_reducible refine q_listL ?_
  | ((with_reducible refine' q_listR ?b1 ?_); (case b1 => walk_at "at"))
  | ((with_reducible refine' q_listD ?b1 ?_); (case b1 => walk_at "at"))
  | ((with_reducible refine' q_tupR ?b1 ?_); (case b1 => walk_at "at"))
  | with_reducible refine q_tupL ?_
  | ((with_reducible refine' q_dictO ?b1 fun p => ?_); (case b1 => walk_at "at"))
  | with_reducible refine q_dictN fun p => ?_
  | with_reducible refine q_lstO ?_
  | with_reducible refine q_lstV ?_
  | with_reducible refine q_chain ?_
  | ((with_reducible refine' q_gTup ?b1 ?_); (case b1 => rfl))
  | with_reducible refine q_gCons ?_
  | with_reducible refine q_gNil ?_
  | with_reducible refine q_par ?_
  | with_reducible refine q_par3 ?_
  | with_reducible refine q_two ?_
  | with_reducible refine q_three ?_
  | ((with_reducible refine' q_saug ?b1 ?_); (case b1 => rfl))
  | with_reducible refine q_gSub ?_
  | ((with_reducible refine' q_setL ?b1 ?b2 ?b3 ?_); (case b1 => walk_at "at"); (case b2 => rfl); (case b3 => rfl))
  | with_reducible refine q_ownV ?_
  | with_reducible refine q_indexA ?_
  | ((with_reducible refine' q_indexB ?b1 ?_); (case b1 => decide +kernel))
  | ((with_reducible refine' q_listO ?b1 fun p => ?_); (case b1 => walk_at "at"))
  | with_reducible refine q_listOT fun p => ?_
  | ((with_reducible refine' q_popO ?b1 ?_); (case b1 => walk_at "at"))
  | with_reducible refine q_yes ?_
  | with_reducible refine q_cN ?_
  | with_reducible refine q_make0 ?_
  | with_reducible refine q_lstX ?_
  | with_reducible refine q_tupX ?_
  | ((with_reducible refine' q_iteT ?b1 ?_); (case b1 => first | rfl | decide +kernel))
  | ((with_reducible refine' q_iteF ?b1 ?_); (case b1 => first | rfl | decide +kernel))
  | with_reducible refine q_goS ?_
  | with_reducible refine q_goV ?_)
local macro_rules | `(tactic| walk_at "bv") => `(tactic| (repeat (walk_at "b1")))
def t__law_holds : RS := sSeq (sIf (rTst (rOp oEq (rOp oIx (rVar 1) (rC (.int 0))) (rC (.str "days")))) (sRet (rOp oGe (rOp oIx (rVar 0) (rC (.int 3))) (rOp oIx (rVar 1) (rC (.int 1))))) (sSkip)) (sSeq (sIf (rTst (rOp oInX (rOp oIx (rVar 1) (rC (.int 0))) (rTup (rCons (rC (.str "status")) (rCons (rC (.str "desk")) rNil))))) (sRet (rOp oEq (rOp oEq (rOp oIx (rVar 0) (rBM "list" mIndex (rLstV (rCons (rC (.str "status")) (rCons (rC (.str "desk")) rNil))) (rCons (rOp oIx (rVar 1) (rC (.int 0))) rNil))) (rOp oIx (rVar 1) (rC (.int 1)))) (rOp oIx (rVar 1) (rC (.int 2))))) (sSkip)) (sRet (rOp oEq (rOp oIx (rVar 0) (rOp oIx (rLstV (rCons (rC (.int 2)) (rCons (rC (.int 4)) rNil))) (rBM "list" mIndex (rLstV (rCons (rC (.str "answered")) (rCons (rC (.str "marked")) rNil))) (rCons (rOp oIx (rVar 1) (rC (.int 0))) rNil)))) (rOp oIx (rVar 1) (rC (.int 1))))))
def t__law_carry : RS := sSeq (sIf (rTst (rOp oEq (rOp oIx (rVar 1) (rC (.int 0))) (rC (.str "mark")))) (sAsg (rOp oIx (rVar 1) (rC (.int 1))) (BV.gSub (rVar 0) (rC (.int 4)) oSetL)) (sIf (rTst (rOp oInX (rOp oIx (rVar 1) (rC (.int 0))) (rTup (rCons (rC (.str "status")) (rCons (rC (.str "desk")) rNil))))) (sSeq (sAsg (rBM "list" mIndex (rLstV (rCons (rC (.str "status")) (rCons (rC (.str "desk")) rNil))) (rCons (rOp oIx (rVar 1) (rC (.int 0))) rNil)) (gN 3)) (sIf (rTst (rOp oNe (rOp oIx (rVar 0) (rVar 3)) (rOp oIx (rVar 1) (rC (.int 1))))) (sSeq (sAsg (rOp oIx (rVar 1) (rC (.int 1))) (BV.gSub (rVar 0) (rVar 3) oSetL)) (sDrop (rBM "list" mAppend (rVar 2) (rCons (rOp oIx (rLstV (rCons (rC (.str "status")) (rCons (rC (.str "moved")) rNil))) (rVar 3)) rNil)))) (sSkip))) (sSeq (sAsg (rC (.bl true)) (BV.gSub (rVar 0) (rC (.int 2)) oSetL)) (sSeq (sAsg (rC (.int 0)) (BV.gSub (rVar 0) (rC (.int 3)) oSetL)) (sDrop (rBM "list" mAppend (rVar 2) (rCons (rC (.str "replied")) rNil))))))) (sRet (rCB bInt (rCons (rOp oEq (rOp oIx (rVar 1) (rC (.int 0))) (rC (.str "reply"))) rNil)))
def sp__law_holds : BSp := fun ex ds M R => ∃ a t c, ds = [.ref a, Tst.d c] ∧ Tk.ok t ∧ c.sk ∧ M = [(a, .lst t.l)] ∧ R (.bl (hold t c)) M
theorem len__law_holds : ∀ ex ds M R, sp__law_holds ex ds M R → ds.length = 2 := by
  rintro ex ds M R ⟨a, t, c, rfl, _⟩
  rfl
theorem pure__law_holds : ∀ ex ds M R, sp__law_holds ex ds M R → t__law_holds { ex := ex, nx := fun _ M' => R .non M', rt := R } (startB 2 ds) M := by
  rintro ex ds M R ⟨a, t, c, rfl, ⟨s1, s2⟩, hc, rfl, k⟩
  unfold t__law_holds Tk.l
  unfold Tk.l at k
  cases c with
  | sta s b =>
    have ht' : sok s := hc
    unfold Tst.d Tst.l
    walk_at "bv"
    exact k
  | dsk s b =>
    have ht' : sok s := hc
    unfold Tst.d Tst.l
    walk_at "bv"
    exact k
  | day n =>
    unfold Tst.d Tst.l
    walk_at "bv"
    exact k
  | ans b =>
    unfold Tst.d Tst.l
    walk_at "bv"
    exact k
  | mrk b =>
    unfold Tst.d Tst.l
    walk_at "bv"
    exact k
def Wk.lw (w : Wk) (a e : Addr) : Mm := [(a, .lst w.tk.l), (e, .lst (sts w.row))]
def sp__law_carry : BSp := fun ex ds M R => ∃ a e w c, ds = [.ref a, Act.d c, .ref e] ∧ c ≠ .stop ∧ c.sk ∧ w.tk.ok ∧ Sz w.row.length ∧ M = Wk.lw w a e ∧ R (.int (bI c.isRep)) (Wk.lw (carry c w) a e)
theorem len__law_carry : ∀ ex ds M R, sp__law_carry ex ds M R → ds.length = 3 := by
  rintro ex ds M R ⟨p, r, w, c, rfl, _⟩
  rfl
theorem carry_tk {s : Str} {w : Wk} : (carry (.sta s) w).tk = (turnTo s w).tk ∧ (carry (.sta s) w).row = (turnTo s w).row := by
  simp only [carry]
  split <;> exact ⟨rfl, rfl⟩
theorem pure__law_carry : ∀ ex ds M R, sp__law_carry ex ds M R → t__law_carry { ex := ex, nx := fun _ M' => R .non M', rt := R } (startB 4 ds) M := by
  rintro ex ds M R ⟨a, e, w, c, rfl, hc, hk, ⟨s1, s2⟩, hz, rfl, k⟩
  unfold t__law_carry
  have hz' : Sz (sts w.row).length := by rw [sts_len]; exact hz
  cases c with
  | sta s =>
    have ht' : sok s := hk
    unfold Wk.lw at k ⊢
    rw [carry_tk.1, carry_tk.2] at k
    unfold Act.d Act.l Tk.l
    unfold turnTo Tk.l at k
    walk_at "bv"
    refine q_iteND (fun h => ?_) (fun h => ?_)
    · rw [if_neg (fun q => h q.symm)] at k
      simp only [sts_snoc] at k
      walk_at "bv"
      exact k
    · rw [if_pos h.symm] at k
      walk_at "bv"
      exact k
  | dsk s =>
    have ht' : sok s := hk
    unfold Wk.lw at k ⊢
    simp only [carry] at k
    unfold Act.d Act.l Tk.l
    unfold goTo Tk.l at k
    walk_at "bv"
    refine q_iteND (fun h => ?_) (fun h => ?_)
    · rw [if_neg (fun q => h q.symm)] at k
      simp only [sts_snoc] at k
      walk_at "bv"
      exact k
    · rw [if_pos h.symm] at k
      walk_at "bv"
      exact k
  | mrk b =>
    unfold Wk.lw at k ⊢
    unfold Act.d Act.l Tk.l
    walk_at "bv"
    exact k
  | reply =>
    unfold Wk.lw at k ⊢
    simp only [carry, sts_snoc] at k
    unfold Act.d Act.l Tk.l
    walk_at "bv"
    exact k
  | stop => exact (hc rfl).elim
def t__law_event : RS := sSeq (sAsg (rC (.int 0)) (gN 5)) (sSeq (sFor (iRng1 (rCons (rCB bLenX (rCons (rVar 0) rNil)) rNil)) (gN 6) (sSeq (sAsg (rOp oIx (rVar 0) (rVar 6)) (gN 7)) (sSeq (sAsg (rLc (iSeq (rOp oIx (rVar 7) (rC (.int 1)))) (cN 10) (rNot (rTst (rCall0 sp__law_holds (rCons (rVar 1) (rCons (rVar 10) rNil))))) (rVar 10) [10]) (gN 8)) (sIf (rAnd (rTst (rOp oEq (rOp oIx (rVar 7) (rC (.int 0))) (rVar 2))) (rTst (rOp oEq (rVar 8) (rLstV rNil)))) (sSeq (sDrop (rBM "list" mAppend (rVar 4) (rCons (rVar 6) rNil))) (sFor (iSeq (rOp oIx (rVar 7) (rC (.int 2)))) (gN 9) (sSeq (sIf (rTst (rOp oEq (rOp oIx (rVar 9) (rC (.int 0))) (rC (.str "stop")))) (sRet (rVar 5)) (sSkip)) (sAsg (rOp oAddX (rVar 5) (rCall0 sp__law_carry (rCons (rVar 1) (rCons (rVar 9) (rCons (rVar 3) rNil))))) (gN 5))))) (sSkip))))) (sRet (rVar 5)))
theorem tst_pd {c : Tst} {n : Nat} (h : c.sk) : pd (n + 1) c.d = true := by
  have e1 : PyData.strOk "status" = true := by decide +kernel
  have e2 : PyData.strOk "desk" = true := by decide +kernel
  have e3 : PyData.strOk "days" = true := by decide +kernel
  have e4 : PyData.strOk "answered" = true := by decide +kernel
  have e5 : PyData.strOk "marked" = true := by decide +kernel
  cases c with
  | sta s b =>
    have h' : PyData.strOk s = true := h
    simp only [Tst.d, Tst.l, pd, pds, h', pd_str e1, pd_str h, pd_bl, Bool.and_true]
    first | done | assumption
  | dsk s b =>
    have h' : PyData.strOk s = true := h
    simp only [Tst.d, Tst.l, pd, pds, h', pd_str e2, pd_str h, pd_bl, Bool.and_true]
    first | done | assumption
  | day n =>
    simp only [Tst.d, Tst.l, pd, pds, pd_str e3, pd_int, Bool.and_true]
    first | done | assumption
  | ans b =>
    simp only [Tst.d, Tst.l, pd, pds, pd_str e4, pd_bl, Bool.and_true]
    first | done | assumption
  | mrk b =>
    simp only [Tst.d, Tst.l, pd, pds, pd_str e5, pd_bl, Bool.and_true]
    first | done | assumption
theorem tsts_pd {n : Nat} : ∀ {l : List Tst}, (∀ t ∈ l, t.sk) → pds (n + 1) (l.map Tst.d) = true
  | [], _ => by simp only [List.map_nil, pds]
  | t :: l, h => by
    rw [List.map_cons]
    simp only [pds]
    rw [tst_pd (h t List.mem_cons_self), tsts_pd (fun y hy => h y (List.mem_cons_of_mem _ hy))]
    rfl
theorem fail_nil {α : Type} {p : α → Bool} {f : α → D} {l : List α} : decide ((l.filter fun x => !p x).map f = []) = l.all p := by
  by_cases h : l.all p = true
  · rw [h, decide_eq_true]
    rw [List.map_eq_nil_iff, List.filter_eq_nil_iff]
    intro x hx
    rw [List.all_eq_true.mp h x hx]
    exact Bool.false_ne_true
  · rw [Bool.eq_false_iff.mpr h, decide_eq_false]
    intro q
    rw [List.map_eq_nil_iff, List.filter_eq_nil_iff] at q
    refine h (List.all_eq_true.mpr fun x hx => ?_)
    have := q x hx
    cases e : p x with
    | true => rfl
    | false => rw [e] at this; exact (this rfl).elim
def Wk.le (w : Wk) (a e c : Addr) : Mm := [(a, .lst w.tk.l), (e, .lst (sts w.row)), (c, .lst (nats w.acted))]
def b_leIn : RS := sSeq (sIf (rTst (rOp oEq (rOp oIx (rVar 9) (rC (.int 0))) (rC (.str "stop")))) (sRet (rVar 5)) (sSkip)) (sAsg (rOp oAddX (rVar 5) (rCall0 sp__law_carry (rCons (rVar 1) (rCons (rVar 9) (rCons (rVar 3) rNil))))) (gN 5))
def b_leOut : RS := sSeq (sAsg (rOp oIx (rVar 0) (rVar 6)) (gN 7)) (sSeq (sAsg (rLc (iSeq (rOp oIx (rVar 7) (rC (.int 1)))) (cN 10) (rNot (rTst (rCall0 sp__law_holds (rCons (rVar 1) (rCons (rVar 10) rNil))))) (rVar 10) [10]) (gN 8)) (sIf (rAnd (rTst (rOp oEq (rOp oIx (rVar 7) (rC (.int 0))) (rVar 2))) (rTst (rOp oEq (rVar 8) (rLstV rNil)))) (sSeq (sDrop (rBM "list" mAppend (rVar 4) (rCons (rVar 6) rNil))) (sFor (iSeq (rOp oIx (rVar 7) (rC (.int 2)))) (gN 9) b_leIn)) (sSkip)))
theorem act_is {c : Act} : (c.isStop = true ∧ c = .stop) ∨ (c.isStop = false ∧ c ≠ .stop) := by
  cases c with
  | stop => exact .inl ⟨rfl, rfl⟩
  | _ => exact .inr ⟨rfl, by intro q; cases q⟩
theorem carryAll_go {c : Act} {as : List Act} {w : Wk} (h : c ≠ .stop) : carryAll (c :: as) w = carryAll as (carry c w) := by
  cases c with
  | stop => exact (h rfl).elim
  | _ => rfl
theorem le_in {B : BEnds} {a e c : Addr} {x0 x2 x4 x6 x7 x8 x10 : Option D} {s0 : Int} : ∀ (as : List Act) (w : Wk) (x9 : Option D), w.ok → (∀ c ∈ as, c.sk) → Sz (w.row.length + as.length) →
    (((carryAll as w).2 = true → B.rt (.int ((carryAll as w).1.sent - s0)) (Wk.le (carryAll as w).1 a e c)) ∧ ((carryAll as w).2 = false → ∀ x9, B.nx [x0, some (.ref a), x2, some (.ref e), x4, some (.int ((carryAll as w).1.sent - s0)), x6, x7, x8, x9, x10] (Wk.le (carryAll as w).1 a e c))) →
    forW (gN 9) b_leIn B (as.map Act.d) [x0, some (.ref a), x2, some (.ref e), x4, some (.int (w.sent - s0)), x6, x7, x8, x9, x10] (Wk.le w a e c)
  | [], w, x9, _, _, _, k => .go (k.2 rfl x9)
  | ac :: as, w, x9, ok, hs, hz, k => by
    rw [List.map_cons]
    unfold forW
    refine q_gN ?_
    unfold b_leIn
    rw [List.length_cons] at hz
    have hs2 : ∀ c ∈ as, c.sk := fun y hy => hs y (List.mem_cons_of_mem _ hy)
    have hz1 : Sz w.row.length := Nat.le_trans (by omega) hz
    have hk := hs ac List.mem_cons_self
    rcases act_is (c := ac) with ⟨e1, e2⟩ | ⟨e1, e2⟩
    · subst e2
      unfold Act.d Act.l
      walk_at "bv"
      exact k.1 rfl
    · rw [carryAll_go e2] at k
      have fin : Cf sp__law_carry nox [.ref a, ac.d, .ref e] (Wk.le w a e c) (fun d M1 => oAddX (.int (w.sent - s0)) d M1 fun z M2 => CvS [x0, some (.ref a), x2, some (.ref e), x4, some z, x6, x7, x8, some ac.d, x10] M2 (forW (gN 9) b_leIn B (as.map Act.d))) := by
        refine cf_head (Mc := Wk.lw w a e) (Fc := [(c, .lst (nats w.acted))]) ⟨a, e, w, ac, rfl, e2, hk, ok.tk, hz1, rfl, ?_⟩
        refine q_addI (.go ?_)
        have e3 : w.sent - s0 + bI ac.isRep = (carry ac w).sent - s0 := by rw [carry_sent e2]; omega
        rw [e3]
        have e4 : Wk.lw (carry ac w) a e ++ [(c, .lst (nats w.acted))] = Wk.le (carry ac w) a e c := by
          unfold Wk.lw Wk.le
          rw [carry_acted]
          rfl
        rw [e4]
        exact le_in as (carry ac w) (some ac.d) (carry_ok ok hk) hs2 (Nat.le_trans (Nat.add_le_add_right carry_row _) (Nat.le_trans (by omega) hz)) k
      cases ac with
      | stop => exact (e2 rfl).elim
      | sta s =>
        unfold Act.d Act.l at fin ⊢
        walk_at "bv"
        exact fin
      | dsk s =>
        unfold Act.d Act.l at fin ⊢
        walk_at "bv"
        exact fin
      | mrk s =>
        unfold Act.d Act.l at fin ⊢
        walk_at "bv"
        exact fin
      | reply =>
        unfold Act.d Act.l at fin ⊢
        walk_at "bv"
        exact fin
end BV
set_option maxHeartbeats 4000000
namespace BV
open PySem
local macro_rules | `(tactic| walk_at "pd") => `(tactic| (first | rfl | assumption | (apply pd_str; assumption) | decide +kernel))
local macro_rules | `(tactic| walk_at "ty") => `(tactic| (first | exact TyD.tup _ | exact TyD.str _ | exact TyD.lst _ | exact TyD.bl _ | exact TyD.int _ | exact TyD.non | (apply TyD.ref; walk_at "at")))
local macro_rules | `(tactic| walk_at "sz") => `(tactic| (first | assumption | exact Nat.le_of_ble_eq_true rfl))
local macro_rules | `(tactic| walk_at "at") => `(tactic| (repeat (first | exact At.here | apply At.there | apply At.app)))
local macro_rules | `(tactic| walk_at "sok") => `(tactic| (first | assumption | (show PyData.strOk _ = true; decide +kernel)))
local macro_rules | `(tactic| walk_at "b1") => `(tactic| first
  | with_reducible refine q_seq ?_
  | with_reducible refine q_if ?_
  | with_reducible refine q_tst ?_
  | with_reducible refine q_op ?_
  | with_reducible refine q_c ?_
  | ((with_reducible refine' q_var ?b1 ?_); (case b1 => rfl))
  | with_reducible refine q_fld ?_
  | ((with_reducible refine' q_fldR ?b1 ?b2 ?_); (case b1 => walk_at "at"); (case b2 => rfl))
  | ((with_reducible refine' q_fldV ?b2 ?_); (case b2 => rfl))
  | ((with_reducible refine' q_eqS ?b1 ?b2 ?_); (case b1 => walk_at "sok"); (case b2 => walk_at "sok"))
  | ((with_reducible refine' q_neS ?b1 ?b2 ?_); (case b1 => walk_at "sok"); (case b2 => walk_at "sok"))
  | with_reducible refine q_eqB ?_
  | with_reducible refine q_eqI ?_
  | with_reducible refine q_neI ?_
  | with_reducible refine q_addI ?_
  | with_reducible refine q_oadd ?_
  | with_reducible refine q_osub ?_
  | with_reducible refine q_lt ?_
  | with_reducible refine q_le ?_
  | with_reducible refine q_gt ?_
  | with_reducible refine q_ge ?_
  | with_reducible refine q_isN ?_
  | with_reducible refine q_notN ?_
  | ((with_reducible refine' q_ixT ?b2 ?_); (case b2 => rfl))
  | ((with_reducible refine' q_ixL ?b2 ?_); (case b2 => rfl))
  | ((with_reducible refine' q_ixR ?b1 ?b2 ?_); (case b1 => walk_at "at"); (case b2 => rfl))
  | with_reducible refine q_bl ?_
  | with_reducible refine q_ret ?_
  | with_reducible refine q_retN ?_
  | with_reducible refine q_skip ?_
  | with_reducible refine q_drop ?_
  | with_reducible refine q_asg ?_
  | with_reducible refine q_gN ?_
  | with_reducible refine q_gFld ?_
  | with_reducible refine q_aug ?_
  | with_reducible refine q_isRef ?_
  | ((with_reducible refine' q_put ?b1 ?b2 ?b3 ?_); (case b1 => walk_at "at"); (case b2 => rfl); (case b3 => rfl))
  | with_reducible refine q_nil ?_
  | with_reducible refine q_cons ?_
  | with_reducible refine q_not ?_
  | with_reducible refine q_and ?_
  | with_reducible refine q_or ?_
  | with_reducible refine q_andV ?_
  | with_reducible refine q_orV ?_
  | with_reducible refine q_notV ?_
  | with_reducible refine q_ifE ?_
  | with_reducible refine q_tup ?_
  | ((with_reducible refine' q_szA ?b1 fun p => ?_); (case b1 => walk_at "sz"))
  | ((with_reducible refine' q_sz ?b1 ?_); (case b1 => walk_at "sz"))
  | with_reducible refine q_bm ?_
  | ((with_reducible refine' q_own ?b1 ?_); (case b1 => walk_at "at"))
  | ((with_reducible refine' q_append ?b1 ?b2 ?_); (case b1 => walk_at "at"); (case b2 => walk_at "sz"))
  | with_reducible refine q_call0 ?_
  | with_reducible refine q_meth0 ?_
  | ((with_reducible refine' q_isR ?b1 ?_); (case b1 => walk_at "at"))
  | ((with_reducible refine' q_isP ?b1 ?_); (case b1 => exact Or.inr ⟨_, rfl⟩))
  | with_reducible refine q_dct ?_
  | with_reducible refine q_dget ?_
  | ((with_reducible refine' q_dctE ?b1 ?_); (case b1 => walk_at "at"))
  | with_reducible refine q_dinT ?_
  | with_reducible refine q_dinF ?_
  | with_reducible refine q_dget1 ?_
  | ((with_reducible refine' q_isDct ?b1 ?_); (case b1 => walk_at "at"))
  | ((with_reducible refine' q_setD ?b1 ?b2 ?_); (case b1 => walk_at "at"); (case b2 => walk_at "sz"))
  | with_reducible refine q_orT ?_
  | ((with_reducible refine' q_orTT ?b1 ?_); (case b1 => rfl))
  | with_reducible refine q_cb ?_
  | ((with_reducible refine' q_inT ?b1 ?b2 rfl ?_); (case b1 => walk_at "pd"); (case b2 => walk_at "pd"))
  | ((with_reducible refine' q_notInT ?b1 ?b2 rfl ?_); (case b1 => walk_at "pd"); (case b2 => walk_at "pd"))
  | ((with_reducible refine' q_isi rfl ?b1 ?_); (case b1 => walk_at "ty"))
  | ((with_reducible refine' q_isi2 rfl rfl ?b1 ?_); (case b1 => walk_at "ty"))
  | with_reducible refine q_lenT ?_
  | with_reducible refine q_lenL ?_
  | ((with_reducible refine' q_lenR ?b1 ?_); (case b1 => walk_at "at"))
  | ((with_reducible refine' q_lenD ?b1 ?_); (case b1 => walk_at "at"))
  | ((with_reducible refine' q_lenS ?b1 ?_); (case b1 => walk_at "sz"))
  | with_reducible refine q_lenSc ?_
  | with_reducible refine q_intI ?_
  | with_reducible refine q_intB ?_
  | with_reducible refine q_listT ?_
  | with_reducible refine q_listL ?_
  | ((with_reducible refine' q_listR ?b1 ?_); (case b1 => walk_at "at"))
  | ((with_reducible refine' q_listD ?b1 ?_); (case b1 => walk_at "at"))
  | ((with_reducible refine' q_tupR ?b1 ?_); (case b1 => walk_at "at"))
  | with_reducible refine q_tupL ?_
  | ((with_reducible refine' q_dictO ?b1 fun p => ?_); (case b1 => walk_at "at"))
  | with_reducible refine q_dictN fun p => ?_
  | with_reducible refine q_lstO ?_
  | with_reducible refine q_lstV ?_
  | with_reducible refine q_chain ?_
  | ((with_reducible refine' q_gTup ?b1 ?_); (case b1 => rfl))
  | with_reducible refine q_gCons ?_
  | with_reducible refine q_gNil ?_
  | with_reducible refine q_par ?_
  | with_reducible refine q_par3 ?_
  | with_reducible refine q_two ?_
  | with_reducible refine q_three ?_
  | ((with_reducible refine' q_saug ?b1 ?_); (case b1 => rfl))
  | with_reducible refine q_gSub ?_
  | ((with_reducible refine' q_setL ?b1 ?b2 ?b3 ?_); (case b1 => walk_at "at"); (case b2 => rfl); (case b3 => rfl))
  | with_reducible refine q_ownV ?_
  | with_reducible refine q_indexA ?_
  | ((with_reducible refine' q_indexB ?b1 ?_); (case b1 => decide +kernel))
  | ((with_reducible refine' q_listO ?b1 fun p => ?_); (case b1 => walk_at "at"))
  | with_reducible refine q_listOT fun p => ?_
  | ((with_reducible refine' q_popO ?b1 ?_); (case b1 => walk_at "at"))
  | with_reducible refine q_yes ?_
  | with_reducible refine q_cN ?_
  | with_reducible refine q_make0 ?_
  | with_reducible refine q_lstX ?_
  | with_reducible refine q_tupX ?_
  | ((with_reducible refine' q_iteT ?b1 ?_); (case b1 => first | rfl | decide +kernel))
  | ((with_reducible refine' q_iteF ?b1 ?_); (case b1 => first | rfl | decide +kernel))
  | with_reducible refine q_goS ?_
  | with_reducible refine q_goV ?_)
local macro_rules | `(tactic| walk_at "bv") => `(tactic| (repeat (walk_at "b1")))
theorem fmt_ev {ev : Str} {t : Tk} {r : Rule} : fits ev t r = (decide (r.ev = ev) && r.ts.all (hold t)) := rfl
theorem rngD_cons {i n : Nat} : rngD (i : Nat) (n + 1) = .int (i : Nat) :: rngD ((i + 1 : Nat) : Int) n := by
  unfold rngD
  rw [List.range_succ_eq_map, List.map_cons, List.map_map]
  rw [List.cons.injEq]
  refine ⟨by simp, List.map_congr_left fun x _ => ?_⟩
  show D.int ((i : Int) + ((x + 1 : Nat) : Int)) = D.int (((i + 1 : Nat) : Int) + (x : Int))
  rw [show (i : Int) + ((x + 1 : Nat) : Int) = ((i + 1 : Nat) : Int) + (x : Int) by omega]
theorem le_out {B : BEnds} {a e c : Addr} {ev : Str} {s0 : Int} (hev : sok ev) {all : List Rule} : ∀ (rs : List Rule) (i : Nat) (w : Wk) (x6 x7 x8 x9 x10 : Option D), all.drop i = rs → w.ok → (∀ c ∈ rs, c.sk) → Sz (w.row.length + 4 * rs.length) → Sz (w.acted.length + rs.length) →
    (B.rt (.int ((handleFrom ev i rs w).sent - s0)) (Wk.le (handleFrom ev i rs w) a e c) ∧ ∀ x6 x7 x8 x9 x10, B.nx [some (.tup (all.map Rule.d)), some (.ref a), some (.str ev), some (.ref e), some (.ref c), some (.int ((handleFrom ev i rs w).sent - s0)), x6, x7, x8, x9, x10] (Wk.le (handleFrom ev i rs w) a e c)) →
    forW (gN 6) b_leOut B (rngD (i : Nat) rs.length) [some (.tup (all.map Rule.d)), some (.ref a), some (.str ev), some (.ref e), some (.ref c), some (.int (w.sent - s0)), x6, x7, x8, x9, x10] (Wk.le w a e c)
  | [], i, w, x6, x7, x8, x9, x10, _, _, _, _, _, k => .go (k.2 _ _ _ _ _)
  | ru :: rs, i, w, x6, x7, x8, x9, x10, hd, ok, hs, hz, hz2, k => by
    obtain ⟨hr, hs2⟩ := sk_get hs
    rw [List.length_cons] at hz hz2 ⊢
    rw [rngD_cons]
    unfold forW
    refine q_gN ?_
    unfold b_leOut
    have hget : (all.map Rule.d)[i]? = some ru.d := by
      have h0 : all[i]? = some ru := by
        have := congrArg (fun l => l[0]?) hd
        simpa [List.getElem?_drop] using this
      rw [List.getElem?_map, h0]
      rfl
    have hd2 : all.drop (i + 1) = rs := by
      rw [← List.drop_drop, hd]
      rfl
    have hre : sok ru.ev := hr.1
    have hza : Sz (nats w.acted).length := by rw [nats_len]; exact Nat.le_trans (by omega) hz2
    have nt : ru.ts.length ≤ 4 := hr.2.2.2.2
    walk_at "bv"
    refine q_ixT (at_nat hget) ?_
    walk_at "bv"
    unfold Rule.d
    refine q_lc (q_seqT ?_)
    walk_at "bv"
    refine lc_filter (enc := Tst.d) (val := Tst.d) (p := fun t => !hold w.tk t) (xs := ru.ts) (fun t ht R kk => ?_) (fun t ht _ R kk => ?_) (Nat.le_trans (show 0 + ru.ts.length ≤ 4 by omega) (Nat.le_of_ble_eq_true rfl)) ?_
    · walk_at "bv"
      refine cf_head (Mc := [(a, .lst w.tk.l)]) ⟨a, w.tk, t, rfl, ok.tk, hr.2.1 t ht, rfl, ?_⟩
      walk_at "bv"
      exact kk
    · walk_at "bv"
      exact kk
    rw [List.nil_append]
    have hp : pd 60 (.lst ((ru.ts.filter fun t => !hold w.tk t).map Tst.d)) = true := by
      simp only [pd]
      exact tsts_pd fun t ht => hr.2.1 t (List.mem_filter.mp ht).1
    unfold handleFrom at k
    rw [fmt_ev] at k
    walk_at "bv"
    refine q_iteD (fun h1 => ?_) (fun h1 => ?_)
    · rw [decide_eq_true h1, Bool.true_and] at k
      walk_at "bv"
      refine q_eqX (.inr rfl) (.inr rfl) hp (by decide +kernel) (deq_nil.trans fail_nil) ?_
      refine q_bl ?_
      refine q_ite (fun h2 => ?_) (fun h2 => ?_)
      · rw [if_pos h2] at k
        unfold Wk.le
        walk_at "bv"
        rw [← nats_snoc]
        refine q_for (q_seqT ?_)
        walk_at "bv"
        refine le_in ru.as { w with acted := w.acted ++ [i] } _ ⟨ok.bk, ok.tk, ok.row⟩ hr.2.2.1 ?_ ⟨fun h3 => ?_, fun h3 x9 => ?_⟩
        · exact Nat.le_trans (show w.row.length + ru.as.length ≤ w.row.length + 4 * (rs.length + 1) by have := hr.2.2.2.1; omega) hz
        · rw [if_pos h3] at k
          exact k.1
        · rw [if_neg (by rw [h3]; exact Bool.false_ne_true)] at k
          refine .go ?_
          refine le_out hev rs (i + 1) _ _ _ _ _ _ hd2 ?_ hs2 ?_ ?_ k
          · exact carryAll_ok ⟨ok.bk, ok.tk, ok.row⟩ hr.2.2.1
          · have := carryAll_row (as := ru.as) (w := { w with acted := w.acted ++ [i] })
            have h4 := hr.2.2.2.1
            exact Nat.le_trans (show _ ≤ w.row.length + 4 * (rs.length + 1) by show _ ≤ w.row.length + 4 * (rs.length + 1); simp only at this; omega) hz
          · rw [carryAll_acted]
            exact Nat.le_trans (show (w.acted ++ [i]).length + rs.length ≤ w.acted.length + (rs.length + 1) by simp; omega) hz2
      · rw [if_neg (by rw [h2]; exact Bool.false_ne_true)] at k
        walk_at "bv"
        exact .go (le_out hev rs (i + 1) w _ _ _ _ _ hd2 ok hs2 (Nat.le_trans (by omega) hz) (Nat.le_trans (by omega) hz2) k)
    · rw [decide_eq_false h1, Bool.false_and, if_neg Bool.false_ne_true] at k
      walk_at "bv"
      exact .go (le_out hev rs (i + 1) w _ _ _ _ _ hd2 ok hs2 (Nat.le_trans (by omega) hz) (Nat.le_trans (by omega) hz2) k)
def sp__law_event : BSp := fun ex ds M R => ∃ a e c w ev rs, ds = [.tup (rs.map Rule.d), .ref a, .str ev, .ref e, .ref c] ∧ sok ev ∧ Wk.ok w ∧ (∀ r ∈ rs, Rule.sk r) ∧ rs.length ≤ 8 ∧ w.row.length ≤ 1000000 ∧ w.acted.length ≤ 1000000 ∧ M = Wk.le w a e c ∧ R (.int ((handleFrom ev 0 rs w).sent - w.sent)) (Wk.le (handleFrom ev 0 rs w) a e c)
theorem len__law_event : ∀ ex ds M R, sp__law_event ex ds M R → ds.length = 5 := by
  rintro ex ds M R ⟨p, r, w, c, ev, rs, rfl, _⟩
  rfl
theorem pure__law_event : ∀ ex ds M R, sp__law_event ex ds M R → t__law_event { ex := ex, nx := fun _ M' => R .non M', rt := R } (startB 11 ds) M := by
  rintro ex ds M R ⟨a, e, c, w, ev, rs, rfl, hev, ok, hs, h8, hz, hz2, rfl, k⟩
  unfold t__law_event
  walk_at "bv"
  refine q_for (q_rng1 ?_)
  walk_at "bv"
  refine ⟨_, rfl, ?_, ?_⟩
  · rw [List.length_map]
    exact ⟨by omega, by omega⟩
  rw [List.length_map, show ((rs.length : Int)).toNat = rs.length from Int.toNat_natCast _]
  have e0 : w.sent - w.sent = 0 := by omega
  have := le_out (B := { ex := ex, nx := fun τ M => CvS τ M (sRet (rVar 5) { ex := ex, nx := fun _ M' => R .non M', rt := R }), rt := R }) (a := a) (e := e) (c := c) (s0 := w.sent) hev (all := rs) rs 0 w none none none none none rfl ok hs (Nat.le_trans (show _ ≤ 1000032 by omega) (Nat.le_of_ble_eq_true rfl)) (Nat.le_trans (show _ ≤ 1000032 by omega) (Nat.le_of_ble_eq_true rfl)) ⟨k, fun x6 x7 x8 x9 x10 => by
    walk_at "bv"
    exact k⟩
  rw [e0] at this
  exact this
end BV
set_option maxHeartbeats 4000000
namespace BV
open PySem
local macro_rules | `(tactic| walk_at "pd") => `(tactic| (first | rfl | assumption | (apply pd_str; assumption) | decide +kernel))
local macro_rules | `(tactic| walk_at "ty") => `(tactic| (first | exact TyD.tup _ | exact TyD.str _ | exact TyD.lst _ | exact TyD.bl _ | exact TyD.int _ | exact TyD.non | (apply TyD.ref; walk_at "at")))
local macro_rules | `(tactic| walk_at "sz") => `(tactic| (first | assumption | exact Nat.le_of_ble_eq_true rfl))
local macro_rules | `(tactic| walk_at "at") => `(tactic| (repeat (first | exact At.here | apply At.there | apply At.app)))
local macro_rules | `(tactic| walk_at "sok") => `(tactic| (first | assumption | (show PyData.strOk _ = true; decide +kernel)))
local macro_rules | `(tactic| walk_at "b1") => `(tactic| first
  | with_reducible refine q_seq ?_
  | with_reducible refine q_if ?_
  | with_reducible refine q_tst ?_
  | with_reducible refine q_op ?_
  | with_reducible refine q_c ?_
  | ((with_reducible refine' q_var ?b1 ?_); (case b1 => rfl))
  | with_reducible refine q_fld ?_
  | ((with_reducible refine' q_fldR ?b1 ?b2 ?_); (case b1 => walk_at "at"); (case b2 => rfl))
  | ((with_reducible refine' q_fldV ?b2 ?_); (case b2 => rfl))
  | ((with_reducible refine' q_eqS ?b1 ?b2 ?_); (case b1 => walk_at "sok"); (case b2 => walk_at "sok"))
  | ((with_reducible refine' q_neS ?b1 ?b2 ?_); (case b1 => walk_at "sok"); (case b2 => walk_at "sok"))
  | with_reducible refine q_eqB ?_
  | with_reducible refine q_eqI ?_
  | with_reducible refine q_neI ?_
  | with_reducible refine q_addI ?_
  | with_reducible refine q_oadd ?_
  | with_reducible refine q_osub ?_
  | with_reducible refine q_lt ?_
  | with_reducible refine q_le ?_
  | with_reducible refine q_gt ?_
  | with_reducible refine q_ge ?_
  | with_reducible refine q_isN ?_
  | with_reducible refine q_notN ?_
  | ((with_reducible refine' q_ixT ?b2 ?_); (case b2 => rfl))
  | ((with_reducible refine' q_ixL ?b2 ?_); (case b2 => rfl))
  | ((with_reducible refine' q_ixR ?b1 ?b2 ?_); (case b1 => walk_at "at"); (case b2 => rfl))
  | with_reducible refine q_bl ?_
  | with_reducible refine q_ret ?_
  | with_reducible refine q_retN ?_
  | with_reducible refine q_skip ?_
  | with_reducible refine q_drop ?_
  | with_reducible refine q_asg ?_
  | with_reducible refine q_gN ?_
  | with_reducible refine q_gFld ?_
  | with_reducible refine q_aug ?_
  | with_reducible refine q_isRef ?_
  | ((with_reducible refine' q_put ?b1 ?b2 ?b3 ?_); (case b1 => walk_at "at"); (case b2 => rfl); (case b3 => rfl))
  | with_reducible refine q_nil ?_
  | with_reducible refine q_cons ?_
  | with_reducible refine q_not ?_
  | with_reducible refine q_and ?_
  | with_reducible refine q_or ?_
  | with_reducible refine q_andV ?_
  | with_reducible refine q_orV ?_
  | with_reducible refine q_notV ?_
  | with_reducible refine q_ifE ?_
  | with_reducible refine q_tup ?_
  | ((with_reducible refine' q_szA ?b1 fun p => ?_); (case b1 => walk_at "sz"))
  | ((with_reducible refine' q_sz ?b1 ?_); (case b1 => walk_at "sz"))
  | with_reducible refine q_bm ?_
  | ((with_reducible refine' q_own ?b1 ?_); (case b1 => walk_at "at"))
  | ((with_reducible refine' q_append ?b1 ?b2 ?_); (case b1 => walk_at "at"); (case b2 => walk_at "sz"))
  | with_reducible refine q_call0 ?_
  | with_reducible refine q_meth0 ?_
  | ((with_reducible refine' q_isR ?b1 ?_); (case b1 => walk_at "at"))
  | ((with_reducible refine' q_isP ?b1 ?_); (case b1 => exact Or.inr ⟨_, rfl⟩))
  | with_reducible refine q_dct ?_
  | with_reducible refine q_dget ?_
  | ((with_reducible refine' q_dctE ?b1 ?_); (case b1 => walk_at "at"))
  | with_reducible refine q_dinT ?_
  | with_reducible refine q_dinF ?_
  | with_reducible refine q_dget1 ?_
  | ((with_reducible refine' q_isDct ?b1 ?_); (case b1 => walk_at "at"))
  | ((with_reducible refine' q_setD ?b1 ?b2 ?_); (case b1 => walk_at "at"); (case b2 => walk_at "sz"))
  | with_reducible refine q_orT ?_
  | ((with_reducible refine' q_orTT ?b1 ?_); (case b1 => rfl))
  | with_reducible refine q_cb ?_
  | ((with_reducible refine' q_inT ?b1 ?b2 rfl ?_); (case b1 => walk_at "pd"); (case b2 => walk_at "pd"))
  | ((with_reducible refine' q_notInT ?b1 ?b2 rfl ?_); (case b1 => walk_at "pd"); (case b2 => walk_at "pd"))
  | ((with_reducible refine' q_isi rfl ?b1 ?_); (case b1 => walk_at "ty"))
  | ((with_reducible refine' q_isi2 rfl rfl ?b1 ?_); (case b1 => walk_at "ty"))
  | with_reducible refine q_lenT ?_
  | with_reducible refine q_lenL ?_
  | ((with_reducible refine' q_lenR ?b1 ?_); (case b1 => walk_at "at"))
  | ((with_reducible refine' q_lenD ?b1 ?_); (case b1 => walk_at "at"))
  | ((with_reducible refine' q_lenS ?b1 ?_); (case b1 => walk_at "sz"))
  | with_reducible refine q_lenSc ?_
  | with_reducible refine q_intI ?_
  | with_reducible refine q_intB ?_
  | with_reducible refine q_listT ?_
  | with_reducible refine q_listL ?_
  | ((with_reducible refine' q_listR ?b1 ?_); (case b1 => walk_at "at"))
  | ((with_reducible refine' q_listD ?b1 ?_); (case b1 => walk_at "at"))
  | ((with_reducible refine' q_tupR ?b1 ?_); (case b1 => walk_at "at"))
  | with_reducible refine q_tupL ?_
  | ((with_reducible refine' q_dictO ?b1 fun p => ?_); (case b1 => walk_at "at"))
  | with_reducible refine q_dictN fun p => ?_
  | with_reducible refine q_lstO ?_
  | with_reducible refine q_lstV ?_
  | with_reducible refine q_chain ?_
  | ((with_reducible refine' q_gTup ?b1 ?_); (case b1 => rfl))
  | with_reducible refine q_gCons ?_
  | with_reducible refine q_gNil ?_
  | with_reducible refine q_par ?_
  | with_reducible refine q_par3 ?_
  | with_reducible refine q_two ?_
  | with_reducible refine q_three ?_
  | ((with_reducible refine' q_saug ?b1 ?_); (case b1 => rfl))
  | with_reducible refine q_gSub ?_
  | ((with_reducible refine' q_setL ?b1 ?b2 ?b3 ?_); (case b1 => walk_at "at"); (case b2 => rfl); (case b3 => rfl))
  | with_reducible refine q_ownV ?_
  | with_reducible refine q_indexA ?_
  | ((with_reducible refine' q_indexB ?b1 ?_); (case b1 => decide +kernel))
  | ((with_reducible refine' q_listO ?b1 fun p => ?_); (case b1 => walk_at "at"))
  | with_reducible refine q_listOT fun p => ?_
  | ((with_reducible refine' q_popO ?b1 ?_); (case b1 => walk_at "at"))
  | with_reducible refine q_yes ?_
  | with_reducible refine q_cN ?_
  | with_reducible refine q_make0 ?_
  | with_reducible refine q_lstX ?_
  | with_reducible refine q_tupX ?_
  | ((with_reducible refine' q_iteT ?b1 ?_); (case b1 => first | rfl | decide +kernel))
  | ((with_reducible refine' q_iteF ?b1 ?_); (case b1 => first | rfl | decide +kernel))
  | with_reducible refine q_goS ?_
  | with_reducible refine q_goV ?_)
local macro_rules | `(tactic| walk_at "bv") => `(tactic| (repeat (walk_at "b1")))
def t__law_begun : RS := sSeq (sIf (rTst (rOp oInX (rOp oIx (rVar 1) (rC (.int 0))) (rTup (rCons (rC (.str "letter")) (rCons (rC (.str "answer")) rNil))))) (sSeq (sAsg (rOp oEq (rOp oIx (rVar 1) (rC (.int 0))) (rC (.str "answer"))) (BV.gSub (rVar 0) (rC (.int 2)) oSetL)) (sSeq (sAsg (rC (.int 0)) (BV.gSub (rVar 0) (rC (.int 3)) oSetL)) (sRet (rLstO (rCons (rOp oIx (rVar 1) (rC (.int 0))) rNil))))) (sSkip)) (sSeq (sIf (rTst (rOp oEq (rOp oIx (rVar 1) (rC (.int 0))) (rC (.str "day")))) (sSeq (sAsg (rOp oAddX (rOp oIx (rVar 0) (rC (.int 3))) (rC (.int 1))) (BV.gSub (rVar 0) (rC (.int 3)) oSetL)) (sRet (rLstO (rCons (rC (.str "day")) rNil)))) (sSkip)) (sSeq (sAsg (rBM "list" mIndex (rLstV (rCons (rC (.str "set")) (rCons (rC (.str "hand")) rNil))) (rCons (rOp oIx (rVar 1) (rC (.int 0))) rNil)) (gN 2)) (sSeq (sIf (rTst (rOp oEq (rOp oIx (rVar 0) (rVar 2)) (rOp oIx (rVar 1) (rC (.int 1))))) (sRet (rLstO rNil)) (sSkip)) (sSeq (sAsg (rOp oIx (rVar 1) (rC (.int 1))) (BV.gSub (rVar 0) (rVar 2) oSetL)) (sRet (rLstO (rCons (rOp oIx (rLstV (rCons (rC (.str "status")) (rCons (rC (.str "moved")) rNil))) (rVar 2)) rNil)))))))
def sp__law_begun : BSp := fun ex ds M R => ∃ a w t d, ds = [.ref a, Deed.d d] ∧ d.sk ∧ Tk.ok w.tk ∧ w.row = [] ∧ M = [(a, .lst w.tk.l)] ∧ ∀ e, R (.ref e) [(e, .lst (sts (start (some t) d w).row)), (a, .lst (start (some t) d w).tk.l)]
theorem len__law_begun : ∀ ex ds M R, sp__law_begun ex ds M R → ds.length = 2 := by
  rintro ex ds M R ⟨p, r, w, c, rfl, _⟩
  rfl
theorem pure__law_begun : ∀ ex ds M R, sp__law_begun ex ds M R → t__law_begun { ex := ex, nx := fun _ M' => R .non M', rt := R } (startB 3 ds) M := by
  rintro ex ds M R ⟨a, w, t, d, rfl, hd, ⟨s1, s2⟩, hr, rfl, k⟩
  unfold t__law_begun
  cases d with
  | letter =>
    simp only [start, hr, sts_snoc] at k
    unfold Tk.l at k
    unfold Deed.d Deed.l Tk.l
    walk_at "bv"
    exact k _
  | answer =>
    simp only [start, hr, sts_snoc] at k
    unfold Tk.l at k
    unfold Deed.d Deed.l Tk.l
    walk_at "bv"
    exact k _
  | day =>
    simp only [start, hr, sts_snoc] at k
    unfold Tk.l at k
    unfold Deed.d Deed.l Tk.l
    walk_at "bv"
    exact k _
  | hand s =>
    have hs : sok s := hd
    simp only [start] at k
    unfold goTo Tk.l at k
    unfold Deed.d Deed.l Tk.l
    walk_at "bv"
    refine q_iteD (fun h => ?_) (fun h => ?_)
    · rw [if_pos h.symm, hr] at k
      walk_at "bv"
      exact k _
    · rw [if_neg (fun q => h q.symm)] at k
      simp only [hr, sts_snoc] at k
      walk_at "bv"
      exact k _
  | sett s =>
    have hs : sok s := hd
    simp only [start] at k
    unfold turnTo Tk.l at k
    unfold Deed.d Deed.l Tk.l
    walk_at "bv"
    refine q_iteD (fun h => ?_) (fun h => ?_)
    · rw [if_pos h.symm, hr] at k
      walk_at "bv"
      exact k _
    · rw [if_neg (fun q => h q.symm)] at k
      simp only [hr, sts_snoc] at k
      walk_at "bv"
      exact k _
def t__law_work : RS := sSeq (sPar 4 5 (rCons (rLstO (rCons (rC (.str "new")) (rCons (rOp oIx (rVar 0) (rC (.int 0))) (rCons (rC (.bl false)) (rCons (rC (.int 0)) (rCons (rC (.bl false)) rNil)))))) (rCons (rLstO (rCons (rC (.str "letter")) rNil)) rNil))) (sSeq (sIf (rTst (rOp oNotN (rVar 2) (rC .non))) (sSeq (sAsg (rCB bListO (rCons (rVar 2) rNil)) (gN 4)) (sAsg (rCall0 sp__law_begun (rCons (rVar 4) (rCons (rVar 3) rNil))) (gN 5))) (sSkip)) (sSeq (sPar3 6 7 8 (rCons (rLstO rNil) (rCons (rC (.int 0)) (rCons (rC (.int 0)) rNil)))) (sSeq (sWhile (rAnd (rTst (rOp oLt (rVar 8) (rCB bLenX (rCons (rVar 5) rNil)))) (rTst (rOp oLt (rVar 8) (rC (.int 50))))) (sSeq (sAsg (rOp oAddX (rVar 7) (rCall0 sp__law_event (rCons (rVar 1) (rCons (rVar 4) (rCons (rOp oIx (rVar 5) (rVar 8)) (rCons (rVar 5) (rCons (rVar 6) rNil))))))) (gN 7)) (sAsg (rOp oAddX (rVar 8) (rC (.int 1))) (gN 8)))) (sRet (rTup (rCons (rVar 6) (rCons (rVar 7) (rCons (rCB bTuple (rCons (rVar 4) rNil)) (rCons (rOp oLt (rVar 8) (rCB bLenX (rCons (rVar 5) rNil))) rNil)))))))))
def c_lw : RT := rAnd (rTst (rOp oLt (rVar 8) (rCB bLenX (rCons (rVar 5) rNil)))) (rTst (rOp oLt (rVar 8) (rC (.int 50))))
def b_lw : RS := sSeq (sAsg (rOp oAddX (rVar 7) (rCall0 sp__law_event (rCons (rVar 1) (rCons (rVar 4) (rCons (rOp oIx (rVar 5) (rVar 8)) (rCons (rVar 5) (rCons (rVar 6) rNil))))))) (gN 7)) (sAsg (rOp oAddX (rVar 8) (rC (.int 1))) (gN 8))
theorem lw_loop {B : BEnds} {a e c : Addr} {x0 x2 x3 : Option D} {rs : List Rule} : ∀ (j : Nat) (pre : List Str) (w : Wk), pre.length + j = 50 → w.bk.rules = rs → (∀ x ∈ pre, sok x) → w.ok → w.endl = false → w.row.length + 32 * (j + 1) ≤ 900000 → w.acted.length + 8 * (j + 1) ≤ 1000000 →
    (∀ E n : List Str, n.length < E.length ∨ E.length = n.length → decide (n.length < E.length) = (handleAll j w).endl → B.nx [x0, some (.tup (rs.map Rule.d)), x2, x3, some (.ref a), some (.ref e), some (.ref c), some (.int (handleAll j w).sent), some (.int (n.length : Nat))] [(a, .lst (handleAll j w).tk.l), (e, .lst (sts E)), (c, .lst (nats (handleAll j w).acted))]) →
    whW c_lw b_lw B (j + 1) [x0, some (.tup (rs.map Rule.d)), x2, x3, some (.ref a), some (.ref e), some (.ref c), some (.int w.sent), some (.int (pre.length : Nat))] (Wk.le (prep pre w) a e c) := by
  intro j
  induction j with
  | zero =>
    intro pre w hj hrs hpre ok he hz hz2 k
    unfold whW c_lw
    walk_at "bv"
    rw [sts_len]
    have hl : (prep pre w).row.length = pre.length + w.row.length := by unfold prep; simp
    by_cases hr : w.row = []
    · refine q_iteF (decide_eq_false (by rw [hl, hr]; simp)) ?_
      refine q_iteF rfl ?_
      have k2 := k (pre ++ w.row) pre (.inr (by rw [hr]; simp)) (by rw [handleAll_nil hr, he, hr]; simp)
      rw [handleAll_nil hr] at k2
      exact k2
    · have hp : 0 < w.row.length := List.length_pos_iff.mpr hr
      refine q_iteT (decide_eq_true (by rw [hl]; omega)) ?_
      walk_at "bv"
      rw [show decide ((pre.length : Int) < 50) = false from decide_eq_false (by omega)]
      refine q_iteF rfl ?_
      have e0 : handleAll 0 w = { w with endl := true, row := [] } := by unfold handleAll; rw [if_neg hr]
      have k2 := k (pre ++ w.row) pre (.inl (by simp; omega)) (by rw [e0]; simp; omega)
      rw [e0] at k2
      exact k2
  | succ n ih =>
    intro pre w hj hrs hpre ok he hz hz2 k
    unfold whW c_lw
    walk_at "bv"
    rw [sts_len]
    have hl : (prep pre w).row.length = pre.length + w.row.length := by unfold prep; simp
    cases er : w.row with
    | nil =>
      refine q_iteF (decide_eq_false (by rw [hl, er]; simp)) ?_
      refine q_iteF rfl ?_
      have k2 := k (pre ++ w.row) pre (.inr (by rw [er]; simp)) (by rw [handleAll_nil er, he, er]; simp)
      rw [handleAll_nil er] at k2
      exact k2
    | cons ev rest =>
      refine q_iteT (decide_eq_true (by rw [hl, er]; simp; omega)) ?_
      walk_at "bv"
      rw [show decide ((pre.length : Int) < 50) = true from decide_eq_true (by omega)]
      refine q_iteT rfl ?_
      unfold handleAll at k
      rw [er] at k
      rw [er, List.length_cons] at hz
      have hev := sk_get (P := sok) (x := ev) (l := rest) (by have := ok.row; rw [er] at this; exact this)
      have ok2 : ({ w with row := rest } : Wk).ok := ⟨ok.bk, ok.tk, hev.2⟩
      have h8 := ok.bk.2.2.2
      have ep : prep pre w = prep (pre ++ [ev]) { w with row := rest } := by
        unfold prep
        rw [er]
        simp
      have hget : (sts (prep pre w).row)[pre.length]? = some (.str ev) := by
        unfold prep sts
        rw [er]
        simp
      unfold b_lw
      walk_at "bv"
      refine q_ixR (.there .here) (at_nat hget) ?_
      walk_at "bv"
      rw [ep]
      have okp : (prep (pre ++ [ev]) { w with row := rest }).ok := ⟨ok.bk, ok.tk, fun x hx => by
        rcases List.mem_append.mp hx with q | q
        · exact ok_row hpre hev.1 x q
        · exact hev.2 x q⟩
      have hrow : (prep (pre ++ [ev]) { w with row := rest }).row.length = pre.length + 1 + rest.length := by unfold prep; simp only [List.length_append, List.length_cons, List.length_nil]
      refine cf_whole ⟨a, e, c, prep (pre ++ [ev]) { w with row := rest }, ev, rs, rfl, hev.1, okp, by rw [← hrs]; exact ok.bk.2.2.1, by rw [← hrs]; exact h8, by rw [hrow]; omega, by show w.acted.length ≤ 1000000; omega, rfl, ?_⟩
      rw [handleFrom_prep]
      have eh : handleFrom ev 0 rs { w with row := rest } = handle ev { w with row := rest } := by unfold handle; rw [← hrs]
      rw [eh]
      refine q_addI ?_
      rw [show w.sent + ((prep (pre ++ [ev]) (handle ev { w with row := rest })).sent - (prep (pre ++ [ev]) { w with row := rest }).sent) = (handle ev { w with row := rest }).sent from by
        show w.sent + ((handle ev { w with row := rest }).sent - w.sent) = _
        omega]
      walk_at "bv"
      rw [show ((pre.length : Int) + 1) = ((pre ++ [ev]).length : Nat) by simp]
      refine .go (ih (pre ++ [ev]) (handle ev { w with row := rest }) (by simp; omega) ?_ (ok_row hpre hev.1) (handleFrom_ok ok2 ok.bk.2.2.1) ?_ ?_ ?_ k)
      · unfold handle
        rw [handleFrom_bk]
        exact hrs
      · unfold handle
        rw [handleFrom_endl]
        exact he
      · have := handleFrom_row (ev := ev) (i := 0) (w := { w with row := rest }) ok.bk.2.2.1
        unfold handle
        simp only at this ⊢
        omega
      · have := handleFrom_acted (ev := ev) (i := 0) (rs := w.bk.rules) (w := { w with row := rest })
        unfold handle
        simp only at this ⊢
        omega
def sp__law_work : BSp := fun ex ds M R => ∃ b bf d, ds = [.tup (sts (Bk.desks b)), .tup ((Bk.rules b).map Rule.d), optTk bf, Deed.d d] ∧ b.sk ∧ (∀ t, bf = some t → t.ok) ∧ d.sk ∧ M = [] ∧ R (.tup (work b bf d).rep) []
theorem len__law_work : ∀ ex ds M R, sp__law_work ex ds M R → ds.length = 4 := by
  rintro ex ds M R ⟨p, r, w, rfl, _⟩
  rfl
theorem subs_refl {a : Addr} {z : D} : ∀ {ds : List D}, Subs a z ds ds
  | [] => .nil
  | d :: ds => .cons (.rfl d) subs_refl
theorem pure__law_work : ∀ ex ds M R, sp__law_work ex ds M R → t__law_work { ex := ex, nx := fun _ M' => R .non M', rt := R } (startB 9 ds) M := by
  rintro ex ds M R ⟨b, bf, d, rfl, hb, hf, hd, rfl, k⟩
  unfold t__law_work
  have ok := start_ok (bf := bf) (fresh_ok hb hf) hd
  have tail : ∀ (a e : Addr), (sSeq (sPar3 6 7 8 (rCons (rLstO rNil) (rCons (rC (.int 0)) (rCons (rC (.int 0)) rNil)))) (sSeq (sWhile c_lw b_lw) (sRet (rTup (rCons (rVar 6) (rCons (rVar 7) (rCons (rCB bTuple (rCons (rVar 4) rNil)) (rCons (rOp oLt (rVar 8) (rCB bLenX (rCons (rVar 5) rNil))) rNil)))))) : RS) { ex := ex, nx := fun _ M' => R .non M', rt := R } [some (.tup (sts b.desks)), some (.tup (b.rules.map Rule.d)), some (optTk bf), some d.d, some (.ref a), some (.ref e), none, none, none] [(a, .lst (start bf d (fresh b bf)).tk.l), (e, .lst (sts (start bf d (fresh b bf)).row))]) := fun a e => by
    refine q_stop ?_
    walk_at "bv"
    rename_i c
    refine stop_cv (.perm ((List.Perm.swap _ _ _).trans ((List.Perm.swap _ _ _).cons _))) ?_
    refine q_seq ⟨51, ?_⟩
    have h1 : (start bf d (fresh b bf)).sent = 0 := start_sent.trans rfl
    have h2 : (start bf d (fresh b bf)).acted = [] := start_acted.trans rfl
    have q := lw_loop (B := { ex := ex, nx := fun τ M => CvS τ M (sRet (rTup (rCons (rVar 6) (rCons (rVar 7) (rCons (rCB bTuple (rCons (rVar 4) rNil)) (rCons (rOp oLt (rVar 8) (rCB bLenX (rCons (rVar 5) rNil))) rNil))))) { ex := ex, nx := fun _ M' => R .non M', rt := R }), rt := R }) (a := a) (e := e) (c := c) (x0 := some (.tup (sts b.desks))) (x2 := some (optTk bf)) (x3 := some d.d) (rs := b.rules) 50 [] (start bf d (fresh b bf)) rfl (by rw [start_bk]; rfl) (fun x hx => by cases hx) ok (by rw [start_endl]; rfl) (by have := start_row (bf := bf) (d := d) (w := fresh b bf); have e0 : (fresh b bf).row.length = 0 := rfl; omega) (by rw [h2]; show 0 + _ ≤ _; omega) fun E n _ hn => ?_
    · unfold Wk.le prep at q
      simp only [h1, h2] at q
      exact q
    refine .go (q_retS ?_)
    walk_at "bv"
    rw [sts_len, show decide ((n.length : Int) < (E.length : Int)) = decide (n.length < E.length) by simp, hn]
    refine stopV_cv ?_ k
    exact (CvA.drop.trans CvA.drop).trans (CvA.fz (.lst _) (.cons (.tup (.cons .here subs_refl)) .nil))
  cases bf with
  | none =>
    refine q_stop ?_
    have hb2 := hb.2.1
    obtain ⟨desks, rules⟩ := b
    cases desks with
    | nil => exact (hb2 rfl).elim
    | cons s0 sr =>
      walk_at "bv"
      refine q_ixT at_zero ?_
      walk_at "bv"
      refine stop_go (q_stop ?_)
      walk_at "bv"
      exact stop_cv (.perm (List.Perm.swap _ _ _)) (tail _ _)
  | some t =>
    have hb2 := hb.2.1
    have hb3 := hf t rfl
    refine q_stop ?_
    unfold optTk
    have at0 : ∃ s0, L2.atI (sts b.desks) 0 = some (.str s0) := by
      obtain ⟨desks, rules⟩ := b
      cases desks with
      | nil => exact (hb2 rfl).elim
      | cons s0 sr => exact ⟨s0, at_zero⟩
    obtain ⟨s0, at0⟩ := at0
    walk_at "bv"
    refine q_ixT at0 ?_
    walk_at "bv"
    refine stop_go (q_stop ?_)
    unfold Tk.d
    walk_at "bv"
    rename_i e0 t0 a
    refine cf_head (Mc := [(a, .lst t.l)]) ⟨a, fresh b (some t), t, d, rfl, hd, hb3, rfl, rfl, fun e => ?_⟩
    walk_at "bv"
    exact stop_cv (((Cv.perm (List.perm_append_comm (l₁ := [_, _]) (l₂ := [_, _]))).trans (Cv.drop.trans Cv.drop)).trans (.perm (List.Perm.swap _ _ _))) (tail _ _)
end BV
set_option maxHeartbeats 4000000
namespace BV
open PySem
local macro_rules | `(tactic| walk_at "pd") => `(tactic| (first | rfl | assumption | (apply pd_str; assumption) | decide +kernel))
local macro_rules | `(tactic| walk_at "ty") => `(tactic| (first | exact TyD.tup _ | exact TyD.str _ | exact TyD.lst _ | exact TyD.bl _ | exact TyD.int _ | exact TyD.non | (apply TyD.ref; walk_at "at")))
local macro_rules | `(tactic| walk_at "sz") => `(tactic| (first | assumption | exact Nat.le_of_ble_eq_true rfl))
local macro_rules | `(tactic| walk_at "at") => `(tactic| (repeat (first | exact At.here | apply At.there | apply At.app)))
local macro_rules | `(tactic| walk_at "sok") => `(tactic| (first | assumption | (show PyData.strOk _ = true; decide +kernel)))
local macro_rules | `(tactic| walk_at "b1") => `(tactic| first
  | with_reducible refine q_seq ?_
  | with_reducible refine q_if ?_
  | with_reducible refine q_tst ?_
  | with_reducible refine q_op ?_
  | with_reducible refine q_c ?_
  | ((with_reducible refine' q_var ?b1 ?_); (case b1 => rfl))
  | with_reducible refine q_fld ?_
  | ((with_reducible refine' q_fldR ?b1 ?b2 ?_); (case b1 => walk_at "at"); (case b2 => rfl))
  | ((with_reducible refine' q_fldV ?b2 ?_); (case b2 => rfl))
  | ((with_reducible refine' q_eqS ?b1 ?b2 ?_); (case b1 => walk_at "sok"); (case b2 => walk_at "sok"))
  | ((with_reducible refine' q_neS ?b1 ?b2 ?_); (case b1 => walk_at "sok"); (case b2 => walk_at "sok"))
  | with_reducible refine q_eqB ?_
  | with_reducible refine q_eqI ?_
  | with_reducible refine q_neI ?_
  | with_reducible refine q_addI ?_
  | with_reducible refine q_oadd ?_
  | with_reducible refine q_osub ?_
  | with_reducible refine q_lt ?_
  | with_reducible refine q_le ?_
  | with_reducible refine q_gt ?_
  | with_reducible refine q_ge ?_
  | with_reducible refine q_isN ?_
  | with_reducible refine q_notN ?_
  | ((with_reducible refine' q_ixT ?b2 ?_); (case b2 => rfl))
  | ((with_reducible refine' q_ixL ?b2 ?_); (case b2 => rfl))
  | ((with_reducible refine' q_ixR ?b1 ?b2 ?_); (case b1 => walk_at "at"); (case b2 => rfl))
  | with_reducible refine q_bl ?_
  | with_reducible refine q_ret ?_
  | with_reducible refine q_retN ?_
  | with_reducible refine q_skip ?_
  | with_reducible refine q_drop ?_
  | with_reducible refine q_asg ?_
  | with_reducible refine q_gN ?_
  | with_reducible refine q_gFld ?_
  | with_reducible refine q_aug ?_
  | with_reducible refine q_isRef ?_
  | ((with_reducible refine' q_put ?b1 ?b2 ?b3 ?_); (case b1 => walk_at "at"); (case b2 => rfl); (case b3 => rfl))
  | with_reducible refine q_nil ?_
  | with_reducible refine q_cons ?_
  | with_reducible refine q_not ?_
  | with_reducible refine q_and ?_
  | with_reducible refine q_or ?_
  | with_reducible refine q_andV ?_
  | with_reducible refine q_orV ?_
  | with_reducible refine q_notV ?_
  | with_reducible refine q_ifE ?_
  | with_reducible refine q_tup ?_
  | ((with_reducible refine' q_szA ?b1 fun p => ?_); (case b1 => walk_at "sz"))
  | ((with_reducible refine' q_sz ?b1 ?_); (case b1 => walk_at "sz"))
  | with_reducible refine q_bm ?_
  | ((with_reducible refine' q_own ?b1 ?_); (case b1 => walk_at "at"))
  | ((with_reducible refine' q_append ?b1 ?b2 ?_); (case b1 => walk_at "at"); (case b2 => walk_at "sz"))
  | with_reducible refine q_call0 ?_
  | with_reducible refine q_meth0 ?_
  | ((with_reducible refine' q_isR ?b1 ?_); (case b1 => walk_at "at"))
  | ((with_reducible refine' q_isP ?b1 ?_); (case b1 => exact Or.inr ⟨_, rfl⟩))
  | with_reducible refine q_dct ?_
  | with_reducible refine q_dget ?_
  | ((with_reducible refine' q_dctE ?b1 ?_); (case b1 => walk_at "at"))
  | with_reducible refine q_dinT ?_
  | with_reducible refine q_dinF ?_
  | with_reducible refine q_dget1 ?_
  | ((with_reducible refine' q_isDct ?b1 ?_); (case b1 => walk_at "at"))
  | ((with_reducible refine' q_setD ?b1 ?b2 ?_); (case b1 => walk_at "at"); (case b2 => walk_at "sz"))
  | with_reducible refine q_orT ?_
  | ((with_reducible refine' q_orTT ?b1 ?_); (case b1 => rfl))
  | with_reducible refine q_cb ?_
  | ((with_reducible refine' q_inT ?b1 ?b2 rfl ?_); (case b1 => walk_at "pd"); (case b2 => walk_at "pd"))
  | ((with_reducible refine' q_notInT ?b1 ?b2 rfl ?_); (case b1 => walk_at "pd"); (case b2 => walk_at "pd"))
  | ((with_reducible refine' q_isi rfl ?b1 ?_); (case b1 => walk_at "ty"))
  | ((with_reducible refine' q_isi2 rfl rfl ?b1 ?_); (case b1 => walk_at "ty"))
  | with_reducible refine q_lenT ?_
  | with_reducible refine q_lenL ?_
  | ((with_reducible refine' q_lenR ?b1 ?_); (case b1 => walk_at "at"))
  | ((with_reducible refine' q_lenD ?b1 ?_); (case b1 => walk_at "at"))
  | ((with_reducible refine' q_lenS ?b1 ?_); (case b1 => walk_at "sz"))
  | with_reducible refine q_lenSc ?_
  | with_reducible refine q_intI ?_
  | with_reducible refine q_intB ?_
  | with_reducible refine q_listT ?_
  | with_reducible refine q_listL ?_
  | ((with_reducible refine' q_listR ?b1 ?_); (case b1 => walk_at "at"))
  | ((with_reducible refine' q_listD ?b1 ?_); (case b1 => walk_at "at"))
  | ((with_reducible refine' q_tupR ?b1 ?_); (case b1 => walk_at "at"))
  | with_reducible refine q_tupL ?_
  | ((with_reducible refine' q_dictO ?b1 fun p => ?_); (case b1 => walk_at "at"))
  | with_reducible refine q_dictN fun p => ?_
  | with_reducible refine q_lstO ?_
  | with_reducible refine q_lstV ?_
  | with_reducible refine q_chain ?_
  | ((with_reducible refine' q_gTup ?b1 ?_); (case b1 => rfl))
  | with_reducible refine q_gCons ?_
  | with_reducible refine q_gNil ?_
  | with_reducible refine q_par ?_
  | with_reducible refine q_par3 ?_
  | with_reducible refine q_two ?_
  | with_reducible refine q_three ?_
  | ((with_reducible refine' q_saug ?b1 ?_); (case b1 => rfl))
  | with_reducible refine q_gSub ?_
  | ((with_reducible refine' q_setL ?b1 ?b2 ?b3 ?_); (case b1 => walk_at "at"); (case b2 => rfl); (case b3 => rfl))
  | with_reducible refine q_ownV ?_
  | with_reducible refine q_indexA ?_
  | ((with_reducible refine' q_indexB ?b1 ?_); (case b1 => decide +kernel))
  | ((with_reducible refine' q_listO ?b1 fun p => ?_); (case b1 => walk_at "at"))
  | with_reducible refine q_listOT fun p => ?_
  | ((with_reducible refine' q_popO ?b1 ?_); (case b1 => walk_at "at"))
  | with_reducible refine q_yes ?_
  | with_reducible refine q_cN ?_
  | with_reducible refine q_make0 ?_
  | with_reducible refine q_lstX ?_
  | with_reducible refine q_tupX ?_
  | ((with_reducible refine' q_iteT ?b1 ?_); (case b1 => first | rfl | decide +kernel))
  | ((with_reducible refine' q_iteF ?b1 ?_); (case b1 => first | rfl | decide +kernel))
  | with_reducible refine q_goS ?_
  | with_reducible refine q_goV ?_)
local macro_rules | `(tactic| walk_at "bv") => `(tactic| (repeat (walk_at "b1")))
/-- what numbers are drawn from -/
structure W3 where
  x0 : Int
  x1 : Int
  x2 : Int
def W3.l (x : W3) : List D := [.int x.x0, .int x.x1, .int x.x2]
def WB (x : W3) (n : Nat) : Prop := 0 ≤ x.x1 ∧ x.x1 < 2 ^ 130 ∧ 0 ≤ x.x2 ∧ x.x2 + n ≤ 2 ^ 60
theorem WB.le {x : W3} {m n : Nat} (h : WB x n) (hm : m ≤ n) : WB x m := ⟨h.1, h.2.1, h.2.2.1, by have := h.2.2.2; omega⟩
open PySem.Builtin PySem.Builtin.Int in
theorem cpow {i j : Int} {b : Nat} (h0 : 0 ≤ j) (h : i.natAbs < 2 ^ b) (hb : (b : Int) * j ≤ 2 ^ 27) : CPowB i j := ⟨h0, by
  have := intBits_le_iff.mpr h
  exact Int.le_trans (Int.mul_le_mul_of_nonneg_right (by omega) h0) hb⟩
def t__law_draw : RS := sSeq (sIf (rTst (rOp oGt (rOp oIx (rVar 0) (rC (.int 0))) (rC (.int 0)))) (sSeq (sAsg (rOp oMod (rCB bInt (rCons (rOp oIx (rVar 0) (rC (.int 0))) rNil)) (rVar 1)) (gN 4)) (sSeq (sAsg (rOp oDiv (rOp oIx (rVar 0) (rC (.int 0))) (rVar 1)) (BV.gSub (rVar 0) (rC (.int 0)) oSetL)) (sRet (rVar 4)))) (sSkip)) (sSeq (sAsg (rOp oAddX (rOp oIx (rVar 0) (rC (.int 2))) (rC (.int 1))) (BV.gSub (rVar 0) (rC (.int 2)) oSetL)) (sSeq (sAsg (rOp oMul (rC (.int 32452843)) (rOp oIx (rVar 0) (rC (.int 2)))) (gN 2)) (sSeq (sAsg (rOp oMod (rCB bInt (rCons (rOp oAddX (rOp oPow (rOp oAddX (rOp oIx (rVar 0) (rC (.int 1))) (rVar 2)) (rC (.int 3))) (rOp oMul (rC (.int 7)) (rVar 2))) rNil)) (rOp oAddX (rOp oPow (rC (.int 10)) (rC (.int 38))) (rC (.int 133)))) (gN 3)) (sSeq (sAsg (rOp oMod (rCB bInt (rCons (rOp oPow (rOp oAddX (rVar 3) (rOp oMul (rC (.int 49979687)) (rOp oIx (rVar 0) (rC (.int 2))))) (rC (.int 3))) rNil)) (rOp oAddX (rOp oPow (rC (.int 10)) (rC (.int 37))) (rC (.int 43)))) (gN 3)) (sRet (rOp oMod (rCB bInt (rCons (rOp oDiv (rVar 3) (rOp oPow (rC (.int 10)) (rC (.int 9)))) rNil)) (rVar 1)))))))
def sp__law_draw : BSp := fun ex ds M R => ∃ a x m n, ds = [.ref a, .int m] ∧ 0 < m ∧ m < 2 ^ 60 ∧ WB x (n + 1) ∧ M = [(a, .lst (W3.l x))] ∧ ∀ v y, 0 ≤ v → v < m → WB y n → R (.int v) [(a, .lst (W3.l y))]
theorem len__law_draw : ∀ ex ds M R, sp__law_draw ex ds M R → ds.length = 2 := by
  rintro ex ds M R ⟨a, x, m, n, rfl, _⟩
  rfl
theorem pure__law_draw : ∀ ex ds M R, sp__law_draw ex ds M R → t__law_draw { ex := ex, nx := fun _ M' => R .non M', rt := R } (startB 5 ds) M := by
  rintro ex ds M R ⟨a, x, m, n, rfl, hm, hm2, ⟨h1, h2, h3, h4⟩, rfl, k⟩
  unfold t__law_draw W3.l
  walk_at "bv"
  refine q_iteD (fun h => ?_) (fun h => ?_)
  · walk_at "bv"
    refine q_omod hm ?_
    walk_at "bv"
    refine q_odiv (L2.wide_div (b := 60) hm (by omega) (by decide) (by decide)) ?_
    walk_at "bv"
    exact k _ ⟨x.x0 / m, x.x1, x.x2⟩ (Int.emod_nonneg _ (by omega)) (Int.emod_lt_of_pos _ hm) ⟨h1, h2, h3, by show x.x2 + (n : Int) ≤ 2 ^ 60; omega⟩
  · walk_at "bv"
    have b2 : (x.x2 + 1).natAbs < 2 ^ 61 := by omega
    refine q_omul (L2.wide_mul (a := 26) (b := 61) (by decide) b2 (by decide) (by decide) (by decide)) ?_
    have bs : (32452843 * (x.x2 + 1)).natAbs < 2 ^ (26 + 61) := L2.wide_lt (by decide) b2
    walk_at "bv"
    refine q_opow (cpow (b := 131) (by decide) (by omega) (by decide)) ?_
    walk_at "bv"
    refine q_omul (L2.wide_mul (a := 3) (b := 26 + 61) (by decide) bs (by decide) (by decide) (by decide)) ?_
    walk_at "bv"
    refine q_opow (cpow (b := 4) (by decide) (by decide) (by decide)) ?_
    walk_at "bv"
    refine q_omod (by decide +kernel) ?_
    walk_at "bv"
    refine q_omul (L2.wide_mul (a := 26) (b := 61) (by decide) b2 (by decide) (by decide) (by decide)) ?_
    have bt : (49979687 * (x.x2 + 1)).natAbs < 2 ^ (26 + 61) := L2.wide_lt (by decide) b2
    walk_at "bv"
    refine q_opow (cpow (b := 131) (by decide) ?_ (by decide)) ?_
    · have e1 := Int.emod_nonneg ((x.x1 + 32452843 * (x.x2 + 1)) ^ (3 : Int).toNat + 7 * (32452843 * (x.x2 + 1))) (show (10 : Int) ^ (38 : Int).toNat + 133 ≠ 0 by decide +kernel)
      have e2 := Int.emod_lt_of_pos ((x.x1 + 32452843 * (x.x2 + 1)) ^ (3 : Int).toNat + 7 * (32452843 * (x.x2 + 1))) (show 0 < (10 : Int) ^ (38 : Int).toNat + 133 by decide +kernel)
      have e3 : (10 : Int) ^ (38 : Int).toNat + 133 < 2 ^ 128 := by decide +kernel
      omega
    walk_at "bv"
    refine q_opow (cpow (b := 4) (by decide) (by decide) (by decide)) ?_
    walk_at "bv"
    refine q_omod (by decide +kernel) ?_
    walk_at "bv"
    refine q_opow (cpow (b := 4) (by decide) (by decide) (by decide)) ?_
    refine q_odiv (L2.wide_div (b := 60) (by decide +kernel) (by decide +kernel) (by decide) (by decide)) ?_
    walk_at "bv"
    refine q_omod hm ?_
    exact .go (k _ ⟨x.x0, x.x1, x.x2 + 1⟩ (Int.emod_nonneg _ (by omega)) (Int.emod_lt_of_pos _ hm) ⟨h1, h2, by show 0 ≤ x.x2 + 1; omega, by show x.x2 + 1 + (n : Int) ≤ 2 ^ 60; omega⟩)
def t__law_well : RS := sSeq (sAsg (rC (.int 0)) (gN 2)) (sSeq (sIf (rTst (rOp oLt (rVar 1) (rCB bLenX (rCons (rVar 0) rNil)))) (sAsg (rCB bInt (rCons (rOp oIx (rVar 0) (rVar 1)) rNil)) (gN 2)) (sSkip)) (sRet (rLstO (rCons (rCB bMax (rCons (rC (.int 0)) (rCons (rOp oSub (rCB bAbs (rCons (rVar 2) rNil)) (rOp oPow (rC (.int 10)) (rC (.int 18)))) rNil))) (rCons (rOp oAddX (rOp oMod (rCB bInt (rCons (rVar 2) rNil)) (rOp oAddX (rOp oPow (rC (.int 10)) (rC (.int 36))) (rC (.int 67)))) (rOp oMul (rC (.int 7368787)) (rVar 1))) (rCons (rC (.int 1)) rNil))))))
def t__law_pick : RS := sRet (rOp oIx (rVar 1) (rCall0 sp__law_draw (rCons (rVar 0) (rCons (rCB bLenX (rCons (rVar 1) rNil)) rNil))))
def sp__law_well : BSp := fun ex ds M R => ∃ ns k, ds = [.scr ns, .int (k : Nat)] ∧ k ≤ 100 ∧ M = [] ∧ ∀ a y, WB y 1000000000 → R (.ref a) [(a, .lst (W3.l y))]
theorem len__law_well : ∀ ex ds M R, sp__law_well ex ds M R → ds.length = 2 := by
  rintro ex ds M R ⟨a, x, rfl, _⟩
  rfl
theorem at_natI {l : List Int} {j : Nat} {z : Int} (h : l[j]? = some z) : L2.atI l (j : Nat) = some z := by
  have hl : j < l.length := (List.getElem?_eq_some_iff.mp h).1
  unfold L2.atI L2.ixN
  rw [if_pos (by omega), if_pos (by omega)]
  exact h
theorem q_ixS {M : Mm} {R : BQ} {ns : List Int} {j z : Int} (h : L2.atI ns j = some z) (k : R (.int z) M) : oIx (.scr ns) (.int j) M R := .inr (.inr ⟨ns, j, z, rfl, rfl, h, k⟩)
theorem q_bmax {M : Mm} {R : BQ} {i j : Int} (k : R (.int (if j > i then j else i)) M) : bMax [.int i, .int j] M R := ⟨i, j, rfl, k⟩
theorem q_babs {M : Mm} {R : BQ} {i : Int} (k : R (.int (if i < 0 then -i else i)) M) : bAbs [.int i] M R := ⟨i, rfl, k⟩
theorem pure__law_well : ∀ ex ds M R, sp__law_well ex ds M R → t__law_well { ex := ex, nx := fun _ M' => R .non M', rt := R } (startB 3 ds) M := by
  rintro ex ds M R ⟨ns, k, rfl, hk, rfl, kk⟩
  unfold t__law_well
  refine q_stop ?_
  walk_at "bv"
  refine stop_go (q_stop ?_)
  walk_at "bv"
  have hm : L2.CMulW 7368787 ((k : Nat) : Int) := L2.wide_mul (a := 26) (b := 26) (by decide) (by omega) (by decide) (by decide) (by decide)
  have h36 : (10 : Int) ^ (36 : Int).toNat + 67 < 2 ^ 125 := by decide +kernel
  have w : ∀ c : Int, WB ⟨if (if c < 0 then -c else c) - 10 ^ (18 : Int).toNat > 0 then (if c < 0 then -c else c) - 10 ^ (18 : Int).toNat else 0, c % ((10 : Int) ^ (36 : Int).toNat + 67) + 7368787 * ((k : Nat) : Int), 1⟩ 1000000000 := fun c => by
    have e1 := Int.emod_nonneg c (show (10 : Int) ^ (36 : Int).toNat + 67 ≠ 0 by decide +kernel)
    have e2 := Int.emod_lt_of_pos c (show 0 < (10 : Int) ^ (36 : Int).toNat + 67 by decide +kernel)
    refine ⟨?_, ?_, show (0 : Int) ≤ 1 by decide, show (1 : Int) + ((1000000000 : Nat) : Int) ≤ 2 ^ 60 by decide⟩
    · show 0 ≤ c % ((10 : Int) ^ (36 : Int).toNat + 67) + 7368787 * ((k : Nat) : Int)
      omega
    · show c % ((10 : Int) ^ (36 : Int).toNat + 67) + 7368787 * ((k : Nat) : Int) < 2 ^ 130
      omega
  refine q_iteD (fun h => ?_) (fun h => ?_)
  · have hk2 : k < ns.length := by omega
    walk_at "bv"
    refine q_ixS (at_natI (List.getElem?_eq_getElem hk2)) ?_
    walk_at "bv"
    refine stop_go ?_
    walk_at "bv"
    refine q_babs ?_
    walk_at "bv"
    refine q_opow (cpow (b := 4) (by decide) (by decide) (by decide)) ?_
    walk_at "bv"
    refine q_bmax ?_
    walk_at "bv"
    refine q_opow (cpow (b := 4) (by decide) (by decide) (by decide)) ?_
    walk_at "bv"
    refine q_omod (by decide +kernel) ?_
    walk_at "bv"
    refine q_omul hm ?_
    walk_at "bv"
    exact kk _ _ (w _)
  · walk_at "bv"
    refine stop_go ?_
    walk_at "bv"
    refine q_babs ?_
    walk_at "bv"
    refine q_opow (cpow (b := 4) (by decide) (by decide) (by decide)) ?_
    walk_at "bv"
    refine q_bmax ?_
    walk_at "bv"
    refine q_opow (cpow (b := 4) (by decide) (by decide) (by decide)) ?_
    walk_at "bv"
    refine q_omod (by decide +kernel) ?_
    walk_at "bv"
    refine q_omul hm ?_
    walk_at "bv"
    exact kk _ _ (w 0)
inductive Pk (F : Mm) : D → List D → Prop
  | lst (es : List D) : Pk F (.lst es) es
  | tup (es : List D) : Pk F (.tup es) es
  | str (z : Str) : Sz z.length → Pk F (.str z) (signsD z)
  | ref {f : Addr} {es : List D} : F = [(f, .lst es)] → Pk F (.ref f) es
def sp__law_pick : BSp := fun ex ds M R => ∃ a x xs es F n, ds = [.ref a, xs] ∧ Pk F xs es ∧ es ≠ [] ∧ es.length < 2 ^ 60 ∧ WB x (n + 1) ∧ M = (a, .lst (W3.l x)) :: F ∧ ∀ v y, v ∈ es → WB y n → R v ((a, .lst (W3.l y)) :: F)
theorem len__law_pick : ∀ ex ds M R, sp__law_pick ex ds M R → ds.length = 2 := by
  rintro ex ds M R ⟨a, x, xs, es, F, n, rfl, _⟩
  rfl
theorem signs_len {z : Str} : (signsD z).length = z.length := by
  unfold signsD
  rw [List.length_map, Array.length_toList]
  rfl
theorem q_ixC {M : Mm} {R : BQ} {z : Str} {j : Int} {c : Nat} (hz : Sz z.length) (h : L2.atI z.cps.toList j = some c) (k : R (.str ⟨#[c]⟩) M) : oIx (.str z) (.int j) M R := .inr (.inl ⟨z, j, c, rfl, rfl, hz, h, k⟩)
theorem at_natN {l : List Nat} {j : Nat} {z : Nat} (h : l[j]? = some z) : L2.atI l (j : Nat) = some z := by
  have hl : j < l.length := (List.getElem?_eq_some_iff.mp h).1
  unfold L2.atI L2.ixN
  rw [if_pos (by omega), if_pos (by omega)]
  exact h
theorem pure__law_pick : ∀ ex ds M R, sp__law_pick ex ds M R → t__law_pick { ex := ex, nx := fun _ M' => R .non M', rt := R } (startB 2 ds) M := by
  rintro ex ds M R ⟨a, x, xs, es, F, n, rfl, hx, hne, hl, hw, rfl, k⟩
  have hp : 0 < es.length := List.length_pos_iff.mpr hne
  have fin : ∀ v y, 0 ≤ v → v < (es.length : Int) → WB y n → ∃ j : Nat, ∃ z, v = (j : Nat) ∧ es[j]? = some z ∧ z ∈ es := fun v y h0 h1 _ => ⟨v.toNat, es[v.toNat]'(by omega), by omega, List.getElem?_eq_getElem _, List.getElem_mem _⟩
  unfold t__law_pick
  cases hx with
  | lst =>
    walk_at "bv"
    refine cf_head (Mc := [(a, _)]) ⟨a, x, _, n, rfl, by omega, by omega, hw, rfl, fun v y h0 h1 wb => ?_⟩
    obtain ⟨j, z, rfl, hj, hz⟩ := fin v y h0 h1 wb
    exact q_ixL (at_nat hj) (.go (k z y hz wb))
  | tup =>
    walk_at "bv"
    refine cf_head (Mc := [(a, _)]) ⟨a, x, _, n, rfl, by omega, by omega, hw, rfl, fun v y h0 h1 wb => ?_⟩
    obtain ⟨j, z, rfl, hj, hz⟩ := fin v y h0 h1 wb
    exact q_ixT (at_nat hj) (.go (k z y hz wb))
  | str z hsz =>
    walk_at "bv"
    rw [signs_len] at hl hp
    refine cf_head (Mc := [(a, _)]) ⟨a, x, _, n, rfl, by omega, by omega, hw, rfl, fun v y h0 h1 wb => ?_⟩
    rw [← signs_len] at h1
    obtain ⟨j, u, rfl, hj, hz⟩ := fin v y h0 h1 wb
    unfold signsD at hj
    rw [List.getElem?_map] at hj
    cases e : z.cps.toList[j]? with
    | none =>
      rw [e] at hj
      cases hj
    | some c =>
      rw [e] at hj
      cases hj
      exact q_ixC hsz (at_natN e) (.go (k _ y hz wb))
  | ref hF =>
    subst hF
    walk_at "bv"
    refine cf_head (Mc := [(a, _)]) ⟨a, x, _, n, rfl, by omega, by omega, hw, rfl, fun v y h0 h1 wb => ?_⟩
    obtain ⟨j, z, rfl, hj, hz⟩ := fin v y h0 h1 wb
    exact q_ixR (.there .here) (at_nat hj) (.go (k z y hz wb))
end BV
set_option maxHeartbeats 4000000
namespace BV
open PySem
local macro_rules | `(tactic| walk_at "pd") => `(tactic| (first | rfl | assumption | (apply pd_str; assumption) | decide +kernel))
local macro_rules | `(tactic| walk_at "ty") => `(tactic| (first | exact TyD.tup _ | exact TyD.str _ | exact TyD.lst _ | exact TyD.bl _ | exact TyD.int _ | exact TyD.non | (apply TyD.ref; walk_at "at")))
local macro_rules | `(tactic| walk_at "sz") => `(tactic| (first | assumption | exact Nat.le_of_ble_eq_true rfl))
local macro_rules | `(tactic| walk_at "at") => `(tactic| (repeat (first | exact At.here | apply At.there | apply At.app)))
local macro_rules | `(tactic| walk_at "sok") => `(tactic| (first | assumption | (show PyData.strOk _ = true; decide +kernel)))
local macro_rules | `(tactic| walk_at "b1") => `(tactic| first
  | with_reducible refine q_seq ?_
  | with_reducible refine q_if ?_
  | with_reducible refine q_tst ?_
  | with_reducible refine q_op ?_
  | with_reducible refine q_c ?_
  | ((with_reducible refine' q_var ?b1 ?_); (case b1 => rfl))
  | with_reducible refine q_fld ?_
  | ((with_reducible refine' q_fldR ?b1 ?b2 ?_); (case b1 => walk_at "at"); (case b2 => rfl))
  | ((with_reducible refine' q_fldV ?b2 ?_); (case b2 => rfl))
  | ((with_reducible refine' q_eqS ?b1 ?b2 ?_); (case b1 => walk_at "sok"); (case b2 => walk_at "sok"))
  | ((with_reducible refine' q_neS ?b1 ?b2 ?_); (case b1 => walk_at "sok"); (case b2 => walk_at "sok"))
  | with_reducible refine q_eqB ?_
  | with_reducible refine q_eqI ?_
  | with_reducible refine q_neI ?_
  | with_reducible refine q_addI ?_
  | with_reducible refine q_oadd ?_
  | with_reducible refine q_osub ?_
  | with_reducible refine q_lt ?_
  | with_reducible refine q_le ?_
  | with_reducible refine q_gt ?_
  | with_reducible refine q_ge ?_
  | with_reducible refine q_isN ?_
  | with_reducible refine q_notN ?_
  | ((with_reducible refine' q_ixT ?b2 ?_); (case b2 => rfl))
  | ((with_reducible refine' q_ixL ?b2 ?_); (case b2 => rfl))
  | ((with_reducible refine' q_ixR ?b1 ?b2 ?_); (case b1 => walk_at "at"); (case b2 => rfl))
  | with_reducible refine q_bl ?_
  | with_reducible refine q_ret ?_
  | with_reducible refine q_retN ?_
  | with_reducible refine q_skip ?_
  | with_reducible refine q_drop ?_
  | with_reducible refine q_asg ?_
  | with_reducible refine q_gN ?_
  | with_reducible refine q_gFld ?_
  | with_reducible refine q_aug ?_
  | with_reducible refine q_isRef ?_
  | ((with_reducible refine' q_put ?b1 ?b2 ?b3 ?_); (case b1 => walk_at "at"); (case b2 => rfl); (case b3 => rfl))
  | with_reducible refine q_nil ?_
  | with_reducible refine q_cons ?_
  | with_reducible refine q_not ?_
  | with_reducible refine q_and ?_
  | with_reducible refine q_or ?_
  | with_reducible refine q_andV ?_
  | with_reducible refine q_orV ?_
  | with_reducible refine q_notV ?_
  | with_reducible refine q_ifE ?_
  | with_reducible refine q_tup ?_
  | ((with_reducible refine' q_szA ?b1 fun p => ?_); (case b1 => walk_at "sz"))
  | ((with_reducible refine' q_sz ?b1 ?_); (case b1 => walk_at "sz"))
  | with_reducible refine q_bm ?_
  | ((with_reducible refine' q_own ?b1 ?_); (case b1 => walk_at "at"))
  | ((with_reducible refine' q_append ?b1 ?b2 ?_); (case b1 => walk_at "at"); (case b2 => walk_at "sz"))
  | with_reducible refine q_call0 ?_
  | with_reducible refine q_meth0 ?_
  | ((with_reducible refine' q_isR ?b1 ?_); (case b1 => walk_at "at"))
  | ((with_reducible refine' q_isP ?b1 ?_); (case b1 => exact Or.inr ⟨_, rfl⟩))
  | with_reducible refine q_dct ?_
  | with_reducible refine q_dget ?_
  | ((with_reducible refine' q_dctE ?b1 ?_); (case b1 => walk_at "at"))
  | with_reducible refine q_dinT ?_
  | with_reducible refine q_dinF ?_
  | with_reducible refine q_dget1 ?_
  | ((with_reducible refine' q_isDct ?b1 ?_); (case b1 => walk_at "at"))
  | ((with_reducible refine' q_setD ?b1 ?b2 ?_); (case b1 => walk_at "at"); (case b2 => walk_at "sz"))
  | with_reducible refine q_orT ?_
  | ((with_reducible refine' q_orTT ?b1 ?_); (case b1 => rfl))
  | with_reducible refine q_cb ?_
  | ((with_reducible refine' q_inT ?b1 ?b2 rfl ?_); (case b1 => walk_at "pd"); (case b2 => walk_at "pd"))
  | ((with_reducible refine' q_notInT ?b1 ?b2 rfl ?_); (case b1 => walk_at "pd"); (case b2 => walk_at "pd"))
  | ((with_reducible refine' q_isi rfl ?b1 ?_); (case b1 => walk_at "ty"))
  | ((with_reducible refine' q_isi2 rfl rfl ?b1 ?_); (case b1 => walk_at "ty"))
  | with_reducible refine q_lenT ?_
  | with_reducible refine q_lenL ?_
  | ((with_reducible refine' q_lenR ?b1 ?_); (case b1 => walk_at "at"))
  | ((with_reducible refine' q_lenD ?b1 ?_); (case b1 => walk_at "at"))
  | ((with_reducible refine' q_lenS ?b1 ?_); (case b1 => walk_at "sz"))
  | with_reducible refine q_lenSc ?_
  | with_reducible refine q_intI ?_
  | with_reducible refine q_intB ?_
  | with_reducible refine q_listT ?_
  | with_reducible refine q_listL ?_
  | ((with_reducible refine' q_listR ?b1 ?_); (case b1 => walk_at "at"))
  | ((with_reducible refine' q_listD ?b1 ?_); (case b1 => walk_at "at"))
  | ((with_reducible refine' q_tupR ?b1 ?_); (case b1 => walk_at "at"))
  | with_reducible refine q_tupL ?_
  | ((with_reducible refine' q_dictO ?b1 fun p => ?_); (case b1 => walk_at "at"))
  | with_reducible refine q_dictN fun p => ?_
  | with_reducible refine q_lstO ?_
  | with_reducible refine q_lstV ?_
  | with_reducible refine q_chain ?_
  | ((with_reducible refine' q_gTup ?b1 ?_); (case b1 => rfl))
  | with_reducible refine q_gCons ?_
  | with_reducible refine q_gNil ?_
  | with_reducible refine q_par ?_
  | with_reducible refine q_par3 ?_
  | with_reducible refine q_two ?_
  | with_reducible refine q_three ?_
  | ((with_reducible refine' q_saug ?b1 ?_); (case b1 => rfl))
  | with_reducible refine q_gSub ?_
  | ((with_reducible refine' q_setL ?b1 ?b2 ?b3 ?_); (case b1 => walk_at "at"); (case b2 => rfl); (case b3 => rfl))
  | with_reducible refine q_ownV ?_
  | with_reducible refine q_indexA ?_
  | ((with_reducible refine' q_indexB ?b1 ?_); (case b1 => decide +kernel))
  | ((with_reducible refine' q_listO ?b1 fun p => ?_); (case b1 => walk_at "at"))
  | with_reducible refine q_listOT fun p => ?_
  | ((with_reducible refine' q_popO ?b1 ?_); (case b1 => walk_at "at"))
  | with_reducible refine q_yes ?_
  | with_reducible refine q_cN ?_
  | with_reducible refine q_make0 ?_
  | with_reducible refine q_lstX ?_
  | with_reducible refine q_tupX ?_
  | ((with_reducible refine' q_iteT ?b1 ?_); (case b1 => first | rfl | decide +kernel))
  | ((with_reducible refine' q_iteF ?b1 ?_); (case b1 => first | rfl | decide +kernel))
  | with_reducible refine q_goS ?_
  | with_reducible refine q_goV ?_)
local macro_rules | `(tactic| walk_at "bv") => `(tactic| (repeat (walk_at "b1")))
theorem mem_sts {v : D} {xs : List Str} (h : v ∈ sts xs) : ∃ s, s ∈ xs ∧ v = .str s := by
  obtain ⟨s, h1, h2⟩ := List.mem_map.mp h
  exact ⟨s, h1, h2.symm⟩
theorem sts_ne {xs : List Str} (h : DesksOk xs) : sts xs ≠ [] := fun q => by
  have := h.few.1
  have e : xs = [] := List.map_eq_nil_iff.mp q
  rw [e] at this
  exact absurd this (by decide)
def t__law_test : RS := sSeq (sPar 2 3 (rCons (rCall0 sp__law_draw (rCons (rVar 0) (rCons (rC (.int 5)) rNil))) (rCons (rOp oEq (rCall0 sp__law_draw (rCons (rVar 0) (rCons (rC (.int 2)) rNil))) (rC (.int 1))) rNil))) (sSeq (sIf (rTst (rOp oEq (rVar 2) (rC (.int 0)))) (sRet (rTup (rCons (rC (.str "status")) (rCons (rCall0 sp__law_pick (rCons (rVar 0) (rCons (rLstV (rCons (rC (.str "new")) (rCons (rC (.str "open")) (rCons (rC (.str "waiting")) (rCons (rC (.str "closed")) rNil))))) rNil))) (rCons (rVar 3) rNil))))) (sSkip)) (sSeq (sIf (rTst (rOp oEq (rVar 2) (rC (.int 1)))) (sRet (rTup (rCons (rC (.str "desk")) (rCons (rCall0 sp__law_pick (rCons (rVar 0) (rCons (rVar 1) rNil))) (rCons (rVar 3) rNil))))) (sSkip)) (sSeq (sIf (rTst (rOp oEq (rVar 2) (rC (.int 2)))) (sRet (rTup (rCons (rC (.str "days")) (rCons (rOp oIx (rLstV (rCons (rC (.int 1)) (rCons (rC (.int 2)) (rCons (rC (.int 3)) (rCons (rOp oAddX (rC (.int 1)) (rCall0 sp__law_draw (rCons (rVar 0) (rCons (rC (.int 30)) rNil)))) rNil))))) (rCall0 sp__law_draw (rCons (rVar 0) (rCons (rC (.int 4)) rNil)))) rNil)))) (sSkip)) (sRet (rTup (rCons (rOp oIx (rLstV (rCons (rC (.str "answered")) (rCons (rC (.str "marked")) rNil))) (rOp oSub (rVar 2) (rC (.int 3)))) (rCons (rVar 3) rNil)))))))
def t__law_action : RS := sSeq (sAsg (rCall0 sp__law_draw (rCons (rVar 0) (rCons (rC (.int 6)) rNil))) (gN 2)) (sSeq (sIf (rTst (rOp oLt (rVar 2) (rC (.int 2)))) (sRet (rTup (rCons (rC (.str "status")) (rCons (rCall0 sp__law_pick (rCons (rVar 0) (rCons (rLstV (rCons (rC (.str "new")) (rCons (rC (.str "open")) (rCons (rC (.str "waiting")) (rCons (rC (.str "closed")) rNil))))) rNil))) rNil)))) (sSkip)) (sSeq (sIf (rTst (rOp oEq (rVar 2) (rC (.int 2)))) (sRet (rTup (rCons (rC (.str "desk")) (rCons (rCall0 sp__law_pick (rCons (rVar 0) (rCons (rVar 1) rNil))) rNil)))) (sSkip)) (sRet (rOp oIx (rLstV (rCons (rTup (rCons (rC (.str "reply")) rNil)) (rCons (rTup (rCons (rC (.str "mark")) (rCons (rOp oGt (rCall0 sp__law_draw (rCons (rVar 0) (rCons (rC (.int 3)) rNil))) (rC (.int 0))) rNil))) (rCons (rTup (rCons (rC (.str "stop")) rNil)) rNil)))) (rOp oSub (rVar 2) (rC (.int 3)))))))
def t__law_deed : RS := sSeq (sAsg (rCall0 sp__law_draw (rCons (rVar 0) (rCons (rC (.int 8)) rNil))) (gN 2)) (sSeq (sIf (rTst (rOp oLt (rVar 2) (rC (.int 6)))) (sRet (rOp oIx (rLstV (rCons (rTup (rCons (rC (.str "letter")) rNil)) (rCons (rTup (rCons (rC (.str "answer")) rNil)) (rCons (rTup (rCons (rC (.str "day")) rNil)) (rCons (rTup (rCons (rC (.str "day")) rNil)) (rCons (rTup (rCons (rC (.str "letter")) rNil)) (rCons (rTup (rCons (rC (.str "answer")) rNil)) rNil))))))) (rVar 2))) (sSkip)) (sSeq (sIf (rTst (rOp oEq (rVar 2) (rC (.int 6)))) (sRet (rTup (rCons (rC (.str "hand")) (rCons (rCall0 sp__law_pick (rCons (rVar 0) (rCons (rVar 1) rNil))) rNil)))) (sSkip)) (sRet (rTup (rCons (rC (.str "set")) (rCons (rCall0 sp__law_pick (rCons (rVar 0) (rCons (rLstV (rCons (rC (.str "new")) (rCons (rC (.str "open")) (rCons (rC (.str "waiting")) (rCons (rC (.str "closed")) rNil))))) rNil))) rNil))))))
def sp__law_test : BSp := fun ex ds M R => ∃ a x xs n, ds = [.ref a, .tup (sts xs)] ∧ DesksOk xs ∧ WB x (n + 4) ∧ M = [(a, .lst (W3.l x))] ∧ ∀ c y, Tst.okIn xs c → WB y n → R c.d [(a, .lst (W3.l y))]
theorem len__law_test : ∀ ex ds M R, sp__law_test ex ds M R → ds.length = 2 := by
  rintro ex ds M R ⟨a, x, xs, n, rfl, _⟩
  rfl
theorem pure__law_test : ∀ ex ds M R, sp__law_test ex ds M R → t__law_test { ex := ex, nx := fun _ M' => R .non M', rt := R } (startB 4 ds) M := by
  rintro ex ds M R ⟨a, x, xs, n, rfl, ok, hw, rfl, k⟩
  unfold t__law_test
  have h4 := ok.few.2
  walk_at "bv"
  refine cf_whole ⟨a, x, _, n + 3, rfl, by decide, by decide, hw, rfl, fun v x1 v0 v1 w1 => ?_⟩
  walk_at "bv"
  refine cf_whole ⟨a, x1, _, n + 2, rfl, by decide, by decide, w1, rfl, fun u x2 u0 u1 w2 => ?_⟩
  walk_at "bv"
  refine q_iteD (fun h => ?_) (fun h => ?_)
  · walk_at "bv"
    refine cf_whole ⟨a, x2, _, _, [], n + 1, rfl, .lst _, by simp, by simp, w2, rfl, fun z x3 hz w3 => ?_⟩
    obtain ⟨s, hs, rfl⟩ := mem_sts (xs := stas) hz
    walk_at "bv"
    exact k (.sta s _) x3 hs (w3.le (by omega))
  walk_at "bv"
  refine q_iteD (fun h2 => ?_) (fun h2 => ?_)
  · walk_at "bv"
    refine cf_whole ⟨a, x2, _, _, [], n + 1, rfl, .tup _, sts_ne ok, by rw [sts_len]; omega, w2, rfl, fun z x3 hz w3 => ?_⟩
    obtain ⟨s, hs, rfl⟩ := mem_sts hz
    walk_at "bv"
    exact k (.dsk s _) x3 hs (w3.le (by omega))
  walk_at "bv"
  refine q_iteD (fun h3 => ?_) (fun h3 => ?_)
  · walk_at "bv"
    refine cf_whole ⟨a, x2, _, n + 1, rfl, by decide, by decide, w2, rfl, fun z x3 z0 z1 w3 => ?_⟩
    walk_at "bv"
    refine cf_whole ⟨a, x3, _, n, rfl, by decide, by decide, w3, rfl, fun t x4 t0 t1 w4 => ?_⟩
    have : t = 0 ∨ t = 1 ∨ t = 2 ∨ t = 3 := by omega
    rcases this with rfl | rfl | rfl | rfl
    · walk_at "bv"
      exact k (.day 1) x4 ⟨by decide, by decide⟩ w4
    · walk_at "bv"
      exact k (.day 2) x4 ⟨by decide, by decide⟩ w4
    · walk_at "bv"
      exact k (.day 3) x4 ⟨by decide, by decide⟩ w4
    · walk_at "bv"
      exact k (.day _) x4 ⟨by omega, by omega⟩ w4
  have : v = 3 ∨ v = 4 := by omega
  rcases this with rfl | rfl
  · walk_at "bv"
    exact k (.ans _) x2 trivial (w2.le (by omega))
  · walk_at "bv"
    exact k (.mrk _) x2 trivial (w2.le (by omega))
def sp__law_action : BSp := fun ex ds M R => ∃ a x xs n, ds = [.ref a, .tup (sts xs)] ∧ DesksOk xs ∧ WB x (n + 2) ∧ M = [(a, .lst (W3.l x))] ∧ ∀ c y, Act.okIn xs c → WB y n → R c.d [(a, .lst (W3.l y))]
theorem len__law_action : ∀ ex ds M R, sp__law_action ex ds M R → ds.length = 2 := by
  rintro ex ds M R ⟨a, x, xs, n, rfl, _⟩
  rfl
theorem pure__law_action : ∀ ex ds M R, sp__law_action ex ds M R → t__law_action { ex := ex, nx := fun _ M' => R .non M', rt := R } (startB 3 ds) M := by
  rintro ex ds M R ⟨a, x, xs, n, rfl, ok, hw, rfl, k⟩
  unfold t__law_action
  have h4 := ok.few.2
  walk_at "bv"
  refine cf_whole ⟨a, x, _, n + 1, rfl, by decide, by decide, hw, rfl, fun v x1 v0 v1 w1 => ?_⟩
  walk_at "bv"
  refine q_iteD (fun h => ?_) (fun h => ?_)
  · walk_at "bv"
    refine cf_whole ⟨a, x1, _, _, [], n, rfl, .lst _, by simp, by simp, w1, rfl, fun z x3 hz w3 => ?_⟩
    obtain ⟨s, hs, rfl⟩ := mem_sts (xs := stas) hz
    walk_at "bv"
    exact k (.sta s) x3 hs w3
  walk_at "bv"
  refine q_iteD (fun h2 => ?_) (fun h2 => ?_)
  · walk_at "bv"
    refine cf_whole ⟨a, x1, _, _, [], n, rfl, .tup _, sts_ne ok, by rw [sts_len]; omega, w1, rfl, fun z x3 hz w3 => ?_⟩
    obtain ⟨s, hs, rfl⟩ := mem_sts hz
    walk_at "bv"
    exact k (.dsk s) x3 hs w3
  walk_at "bv"
  refine cf_whole ⟨a, x1, _, n, rfl, by decide, by decide, w1, rfl, fun z x3 z0 z1 w3 => ?_⟩
  have : v = 3 ∨ v = 4 ∨ v = 5 := by omega
  rcases this with rfl | rfl | rfl
  · walk_at "bv"
    exact k .reply x3 trivial w3
  · walk_at "bv"
    exact k (.mrk _) x3 trivial w3
  · walk_at "bv"
    exact k .stop x3 trivial w3
def sp__law_deed : BSp := fun ex ds M R => ∃ a x xs n, ds = [.ref a, .tup (sts xs)] ∧ DesksOk xs ∧ WB x (n + 2) ∧ M = [(a, .lst (W3.l x))] ∧ ∀ c y, Deed.okIn xs c → WB y n → R c.d [(a, .lst (W3.l y))]
theorem len__law_deed : ∀ ex ds M R, sp__law_deed ex ds M R → ds.length = 2 := by
  rintro ex ds M R ⟨a, x, xs, n, rfl, _⟩
  rfl
theorem pure__law_deed : ∀ ex ds M R, sp__law_deed ex ds M R → t__law_deed { ex := ex, nx := fun _ M' => R .non M', rt := R } (startB 3 ds) M := by
  rintro ex ds M R ⟨a, x, xs, n, rfl, ok, hw, rfl, k⟩
  unfold t__law_deed
  have h4 := ok.few.2
  walk_at "bv"
  refine cf_whole ⟨a, x, _, n + 1, rfl, by decide, by decide, hw, rfl, fun v x1 v0 v1 w1 => ?_⟩
  walk_at "bv"
  have w1' := w1.le (show n ≤ n + 1 by omega)
  refine q_iteD (fun h => ?_) (fun h => ?_)
  · have : v = 0 ∨ v = 1 ∨ v = 2 ∨ v = 3 ∨ v = 4 ∨ v = 5 := by omega
    rcases this with rfl | rfl | rfl | rfl | rfl | rfl
    · walk_at "bv"
      exact k .letter x1 trivial w1'
    · walk_at "bv"
      exact k .answer x1 trivial w1'
    · walk_at "bv"
      exact k .day x1 trivial w1'
    · walk_at "bv"
      exact k .day x1 trivial w1'
    · walk_at "bv"
      exact k .letter x1 trivial w1'
    · walk_at "bv"
      exact k .answer x1 trivial w1'
  walk_at "bv"
  refine q_iteD (fun h2 => ?_) (fun h2 => ?_)
  · walk_at "bv"
    refine cf_whole ⟨a, x1, _, _, [], n, rfl, .tup _, sts_ne ok, by rw [sts_len]; omega, w1, rfl, fun z x3 hz w3 => ?_⟩
    obtain ⟨s, hs, rfl⟩ := mem_sts hz
    walk_at "bv"
    exact k (.hand s) x3 ⟨ok.nm s hs, hs⟩ w3
  walk_at "bv"
  refine cf_whole ⟨a, x1, _, _, [], n, rfl, .lst _, by simp, by simp, w1, rfl, fun z x3 hz w3 => ?_⟩
  obtain ⟨s, hs, rfl⟩ := mem_sts (xs := stas) hz
  walk_at "bv"
  exact k (.sett s) x3 hs w3
end BV
set_option maxHeartbeats 4000000
namespace BV
open PySem
local macro_rules | `(tactic| walk_at "pd") => `(tactic| (first | rfl | assumption | (apply pd_str; assumption) | decide +kernel))
local macro_rules | `(tactic| walk_at "ty") => `(tactic| (first | exact TyD.tup _ | exact TyD.str _ | exact TyD.lst _ | exact TyD.bl _ | exact TyD.int _ | exact TyD.non | (apply TyD.ref; walk_at "at")))
local macro_rules | `(tactic| walk_at "sz") => `(tactic| (first | assumption | exact Nat.le_of_ble_eq_true rfl))
local macro_rules | `(tactic| walk_at "at") => `(tactic| (repeat (first | exact At.here | apply At.there | apply At.app)))
local macro_rules | `(tactic| walk_at "sok") => `(tactic| (first | assumption | (show PyData.strOk _ = true; decide +kernel)))
local macro_rules | `(tactic| walk_at "b1") => `(tactic| first
  | with_reducible refine q_seq ?_
  | with_reducible refine q_if ?_
  | with_reducible refine q_tst ?_
  | with_reducible refine q_op ?_
  | with_reducible refine q_c ?_
  | ((with_reducible refine' q_var ?b1 ?_); (case b1 => rfl))
  | with_reducible refine q_fld ?_
  | ((with_reducible refine' q_fldR ?b1 ?b2 ?_); (case b1 => walk_at "at"); (case b2 => rfl))
  | ((with_reducible refine' q_fldV ?b2 ?_); (case b2 => rfl))
  | ((with_reducible refine' q_eqS ?b1 ?b2 ?_); (case b1 => walk_at "sok"); (case b2 => walk_at "sok"))
  | ((with_reducible refine' q_neS ?b1 ?b2 ?_); (case b1 => walk_at "sok"); (case b2 => walk_at "sok"))
  | with_reducible refine q_eqB ?_
  | with_reducible refine q_eqI ?_
  | with_reducible refine q_neI ?_
  | with_reducible refine q_addI ?_
  | with_reducible refine q_oadd ?_
  | with_reducible refine q_osub ?_
  | with_reducible refine q_lt ?_
  | with_reducible refine q_le ?_
  | with_reducible refine q_gt ?_
  | with_reducible refine q_ge ?_
  | with_reducible refine q_isN ?_
  | with_reducible refine q_notN ?_
  | ((with_reducible refine' q_ixT ?b2 ?_); (case b2 => rfl))
  | ((with_reducible refine' q_ixL ?b2 ?_); (case b2 => rfl))
  | ((with_reducible refine' q_ixR ?b1 ?b2 ?_); (case b1 => walk_at "at"); (case b2 => rfl))
  | with_reducible refine q_bl ?_
  | with_reducible refine q_ret ?_
  | with_reducible refine q_retN ?_
  | with_reducible refine q_skip ?_
  | with_reducible refine q_drop ?_
  | with_reducible refine q_asg ?_
  | with_reducible refine q_gN ?_
  | with_reducible refine q_gFld ?_
  | with_reducible refine q_aug ?_
  | with_reducible refine q_isRef ?_
  | ((with_reducible refine' q_put ?b1 ?b2 ?b3 ?_); (case b1 => walk_at "at"); (case b2 => rfl); (case b3 => rfl))
  | with_reducible refine q_nil ?_
  | with_reducible refine q_cons ?_
  | with_reducible refine q_not ?_
  | with_reducible refine q_and ?_
  | with_reducible refine q_or ?_
  | with_reducible refine q_andV ?_
  | with_reducible refine q_orV ?_
  | with_reducible refine q_notV ?_
  | with_reducible refine q_ifE ?_
  | with_reducible refine q_tup ?_
  | ((with_reducible refine' q_szA ?b1 fun p => ?_); (case b1 => walk_at "sz"))
  | ((with_reducible refine' q_sz ?b1 ?_); (case b1 => walk_at "sz"))
  | with_reducible refine q_bm ?_
  | ((with_reducible refine' q_own ?b1 ?_); (case b1 => walk_at "at"))
  | ((with_reducible refine' q_append ?b1 ?b2 ?_); (case b1 => walk_at "at"); (case b2 => walk_at "sz"))
  | with_reducible refine q_call0 ?_
  | with_reducible refine q_meth0 ?_
  | ((with_reducible refine' q_isR ?b1 ?_); (case b1 => walk_at "at"))
  | ((with_reducible refine' q_isP ?b1 ?_); (case b1 => exact Or.inr ⟨_, rfl⟩))
  | with_reducible refine q_dct ?_
  | with_reducible refine q_dget ?_
  | ((with_reducible refine' q_dctE ?b1 ?_); (case b1 => walk_at "at"))
  | with_reducible refine q_dinT ?_
  | with_reducible refine q_dinF ?_
  | with_reducible refine q_dget1 ?_
  | ((with_reducible refine' q_isDct ?b1 ?_); (case b1 => walk_at "at"))
  | ((with_reducible refine' q_setD ?b1 ?b2 ?_); (case b1 => walk_at "at"); (case b2 => walk_at "sz"))
  | with_reducible refine q_orT ?_
  | ((with_reducible refine' q_orTT ?b1 ?_); (case b1 => rfl))
  | with_reducible refine q_cb ?_
  | ((with_reducible refine' q_inT ?b1 ?b2 rfl ?_); (case b1 => walk_at "pd"); (case b2 => walk_at "pd"))
  | ((with_reducible refine' q_notInT ?b1 ?b2 rfl ?_); (case b1 => walk_at "pd"); (case b2 => walk_at "pd"))
  | ((with_reducible refine' q_isi rfl ?b1 ?_); (case b1 => walk_at "ty"))
  | ((with_reducible refine' q_isi2 rfl rfl ?b1 ?_); (case b1 => walk_at "ty"))
  | with_reducible refine q_lenT ?_
  | with_reducible refine q_lenL ?_
  | ((with_reducible refine' q_lenR ?b1 ?_); (case b1 => walk_at "at"))
  | ((with_reducible refine' q_lenD ?b1 ?_); (case b1 => walk_at "at"))
  | ((with_reducible refine' q_lenS ?b1 ?_); (case b1 => walk_at "sz"))
  | with_reducible refine q_lenSc ?_
  | with_reducible refine q_intI ?_
  | with_reducible refine q_intB ?_
  | with_reducible refine q_listT ?_
  | with_reducible refine q_listL ?_
  | ((with_reducible refine' q_listR ?b1 ?_); (case b1 => walk_at "at"))
  | ((with_reducible refine' q_listD ?b1 ?_); (case b1 => walk_at "at"))
  | ((with_reducible refine' q_tupR ?b1 ?_); (case b1 => walk_at "at"))
  | with_reducible refine q_tupL ?_
  | ((with_reducible refine' q_dictO ?b1 fun p => ?_); (case b1 => walk_at "at"))
  | with_reducible refine q_dictN fun p => ?_
  | with_reducible refine q_lstO ?_
  | with_reducible refine q_lstV ?_
  | with_reducible refine q_chain ?_
  | ((with_reducible refine' q_gTup ?b1 ?_); (case b1 => rfl))
  | with_reducible refine q_gCons ?_
  | with_reducible refine q_gNil ?_
  | with_reducible refine q_par ?_
  | with_reducible refine q_par3 ?_
  | with_reducible refine q_two ?_
  | with_reducible refine q_three ?_
  | ((with_reducible refine' q_saug ?b1 ?_); (case b1 => rfl))
  | with_reducible refine q_gSub ?_
  | ((with_reducible refine' q_setL ?b1 ?b2 ?b3 ?_); (case b1 => walk_at "at"); (case b2 => rfl); (case b3 => rfl))
  | with_reducible refine q_ownV ?_
  | with_reducible refine q_indexA ?_
  | ((with_reducible refine' q_indexB ?b1 ?_); (case b1 => decide +kernel))
  | ((with_reducible refine' q_listO ?b1 fun p => ?_); (case b1 => walk_at "at"))
  | with_reducible refine q_listOT fun p => ?_
  | ((with_reducible refine' q_popO ?b1 ?_); (case b1 => walk_at "at"))
  | with_reducible refine q_yes ?_
  | with_reducible refine q_cN ?_
  | with_reducible refine q_make0 ?_
  | with_reducible refine q_lstX ?_
  | with_reducible refine q_tupX ?_
  | ((with_reducible refine' q_iteT ?b1 ?_); (case b1 => first | rfl | decide +kernel))
  | ((with_reducible refine' q_iteF ?b1 ?_); (case b1 => first | rfl | decide +kernel))
  | with_reducible refine q_goS ?_
  | with_reducible refine q_goV ?_)
local macro_rules | `(tactic| walk_at "bv") => `(tactic| (repeat (walk_at "b1")))
/-- a comprehension that draws -/
theorem lc_draw {α : Type} {P : α → Prop} {enc : α → D} {i C : Nat} {a : Addr} {F : Mm} {te : RE} {τ : BSt} {K : List D → Mm → Prop}
    (step : ∀ d x n R, WB x (n + C) → (∀ c y, P c → WB y n → R (enc c) ((a, .lst (W3.l y)) :: F)) → te nox (τ.set i (some d)) ((a, .lst (W3.l x)) :: F) R) :
    ∀ (ds : List D) (acc : List D) (x : W3) (n : Nat), WB x (n + C * ds.length) → Sz (acc.length + ds.length) → (∀ (cs : List α) (y : W3), cs.length = ds.length → (∀ c ∈ cs, P c) → WB y n → K (acc ++ cs.map enc) ((a, .lst (W3.l y)) :: F)) → lcW (cN i) rYes te nox τ K ds acc ((a, .lst (W3.l x)) :: F)
  | [], acc, x, n, hw, _, k => by
    have := k [] x rfl (fun c hc => by cases hc) hw
    rw [List.map_nil, List.append_nil] at this
    exact this
  | d :: ds, acc, x, n, hw, hz, k => by
    rw [List.length_cons] at hw hz
    show te nox (τ.set i (some d)) _ _
    refine step d x (n + C * ds.length) _ (by rw [show n + C * ds.length + C = n + C * (ds.length + 1) by rw [Nat.mul_add]; omega]; exact hw) fun c y hc hy => ⟨Nat.le_trans (by omega) hz, ?_⟩
    refine lc_draw step ds _ y n hy (by rw [List.length_append, List.length_singleton]; exact Nat.le_trans (by omega) hz) fun cs y2 hl hp hy2 => ?_
    rw [List.append_assoc]
    exact k (c :: cs) y2 (by rw [List.length_cons, List.length_cons, hl]) (fun c' hc' => by
      rcases List.mem_cons.mp hc' with e | e
      · rw [e]; exact hc
      · exact hp c' e) hy2
theorem rngD_len {i : Int} {n : Nat} : (rngD i n).length = n := by unfold rngD; simp
def t__law_rules : RS := sSeq (sAsg (rLstO rNil) (gN 3)) (sSeq (sFor (iRng1 (rCons (rCall0 sp__law_draw (rCons (rVar 0) (rCons (rOp oAddX (rVar 2) (rC (.int 1))) rNil))) rNil)) (gN 4) (sSeq (sAsg (rCall0 sp__law_pick (rCons (rVar 0) (rCons (rLstV (rCons (rC (.str "letter")) (rCons (rC (.str "letter")) (rCons (rC (.str "answer")) (rCons (rC (.str "day")) (rCons (rC (.str "moved")) (rCons (rC (.str "status")) (rCons (rC (.str "replied")) rNil)))))))) rNil))) (gN 5)) (sSeq (sAsg (rLstV (rCons (rCall0 sp__law_draw (rCons (rVar 0) (rCons (rC (.int 3)) rNil))) (rCons (rOp oAddX (rC (.int 1)) (rCall0 sp__law_draw (rCons (rVar 0) (rCons (rC (.int 3)) rNil)))) rNil))) (gN 6)) (sSeq (sIf (rTst (rOp oEq (rCall0 sp__law_draw (rCons (rVar 0) (rCons (rC (.int 8)) rNil))) (rC (.int 0)))) (sAsg (rLstV (rCons (rC (.int 4)) (rCons (rC (.int 4)) rNil))) (gN 6)) (sSkip)) (sSeq (sAsg (rCB bTuple (rCons (rLc (iRng1 (rCons (rOp oIx (rVar 6) (rC (.int 0))) rNil)) (cN 8) (rYes) (rCall0 sp__law_test (rCons (rVar 0) (rCons (rVar 1) rNil))) [8]) rNil)) (gN 7)) (sDrop (rBM "list" mAppend (rVar 3) (rCons (rTup (rCons (rVar 5) (rCons (rVar 7) (rCons (rCB bTuple (rCons (rLc (iRng1 (rCons (rOp oIx (rVar 6) (rC (.int 1))) rNil)) (cN 8) (rYes) (rCall0 sp__law_action (rCons (rVar 0) (rCons (rVar 1) rNil))) [8]) rNil)) rNil)))) rNil)))))))) (sRet (rCB bTuple (rCons (rVar 3) rNil))))
def ev7 : List Str := ["letter", "letter", "answer", "day", "moved", "status", "replied"]
theorem ev7_evs : ∀ s ∈ ev7, s ∈ evs := by decide +kernel
def b_lr : RS := sSeq (sAsg (rCall0 sp__law_pick (rCons (rVar 0) (rCons (rLstV (rCons (rC (.str "letter")) (rCons (rC (.str "letter")) (rCons (rC (.str "answer")) (rCons (rC (.str "day")) (rCons (rC (.str "moved")) (rCons (rC (.str "status")) (rCons (rC (.str "replied")) rNil)))))))) rNil))) (gN 5)) (sSeq (sAsg (rLstV (rCons (rCall0 sp__law_draw (rCons (rVar 0) (rCons (rC (.int 3)) rNil))) (rCons (rOp oAddX (rC (.int 1)) (rCall0 sp__law_draw (rCons (rVar 0) (rCons (rC (.int 3)) rNil)))) rNil))) (gN 6)) (sSeq (sIf (rTst (rOp oEq (rCall0 sp__law_draw (rCons (rVar 0) (rCons (rC (.int 8)) rNil))) (rC (.int 0)))) (sAsg (rLstV (rCons (rC (.int 4)) (rCons (rC (.int 4)) rNil))) (gN 6)) (sSkip)) (sSeq (sAsg (rCB bTuple (rCons (rLc (iRng1 (rCons (rOp oIx (rVar 6) (rC (.int 0))) rNil)) (cN 8) (rYes) (rCall0 sp__law_test (rCons (rVar 0) (rCons (rVar 1) rNil))) [8]) rNil)) (gN 7)) (sDrop (rBM "list" mAppend (rVar 3) (rCons (rTup (rCons (rVar 5) (rCons (rVar 7) (rCons (rCB bTuple (rCons (rLc (iRng1 (rCons (rOp oIx (rVar 6) (rC (.int 1))) rNil)) (cN 8) (rYes) (rCall0 sp__law_action (rCons (rVar 0) (rCons (rVar 1) rNil))) [8]) rNil)) rNil)))) rNil))))))
theorem lr_body {a f : Addr} {xs : List Str} (ok : DesksOk xs) {x2 x4 x7 x8 : Option D} {rs : List Rule} (hr : rs.length ≤ 1000) {B : BEnds} {s : Str} (hs : s ∈ evs) {u v : Nat} (hu : u ≤ 4) (hv : 1 ≤ v ∧ v ≤ 4) {x : W3} {n : Nat} (hw : WB x (n + 24))
    (k : ∀ r y x7 x8, Rule.okIn xs r → WB y n → B.nx [some (.ref a), some (.tup (sts xs)), x2, some (.ref f), x4, some (.str s), some (.lst [.int u, .int v]), x7, x8] [(a, .lst (W3.l y)), (f, .lst ((rs ++ [r]).map Rule.d))]) :
    sSeq (sAsg (rCB bTuple (rCons (rLc (iRng1 (rCons (rOp oIx (rVar 6) (rC (.int 0))) rNil)) (cN 8) (rYes) (rCall0 sp__law_test (rCons (rVar 0) (rCons (rVar 1) rNil))) [8]) rNil)) (gN 7)) (sDrop (rBM "list" mAppend (rVar 3) (rCons (rTup (rCons (rVar 5) (rCons (rVar 7) (rCons (rCB bTuple (rCons (rLc (iRng1 (rCons (rOp oIx (rVar 6) (rC (.int 1))) rNil)) (cN 8) (rYes) (rCall0 sp__law_action (rCons (rVar 0) (rCons (rVar 1) rNil))) [8]) rNil)) rNil)))) rNil))) B [some (.ref a), some (.tup (sts xs)), x2, some (.ref f), x4, some (.str s), some (.lst [.int u, .int v]), x7, x8] [(a, .lst (W3.l x)), (f, .lst (rs.map Rule.d))] := by
  refine q_stop ?_
  walk_at "bv"
  refine q_lc (q_rng1 ?_)
  walk_at "bv"
  refine ⟨_, rfl, ⟨by omega, by omega⟩, ?_⟩
  rw [Int.toNat_natCast]
  refine lc_draw (P := Tst.okIn xs) (enc := Tst.d) (C := 4) (F := [(f, .lst (rs.map Rule.d))]) (fun d x n R hx kk => ?_) _ _ x (n + 8) (hw.le (by rw [rngD_len]; omega)) (by rw [rngD_len]; exact Nat.le_trans (show 0 + u ≤ 4 by omega) (Nat.le_of_ble_eq_true rfl)) fun cs y hl hp hy => ?_
  · walk_at "bv"
    exact cf_head (Mc := [(a, _)]) ⟨a, x, xs, n, rfl, ok, hx, rfl, kk⟩
  rw [rngD_len] at hl
  walk_at "bv"
  refine stop_go ?_
  walk_at "bv"
  refine q_lc (q_rng1 ?_)
  walk_at "bv"
  refine ⟨_, rfl, ⟨by omega, by omega⟩, ?_⟩
  rw [Int.toNat_natCast]
  refine lc_draw (P := Act.okIn xs) (enc := Act.d) (C := 2) (F := [(f, .lst (rs.map Rule.d))]) (fun d x n R hx kk => ?_) _ _ y n (hy.le (by rw [rngD_len]; omega)) (by rw [rngD_len]; exact Nat.le_trans (show 0 + v ≤ 4 by omega) (Nat.le_of_ble_eq_true rfl)) fun as y2 hl2 hp2 hy2 => ?_
  · walk_at "bv"
    exact cf_head (Mc := [(a, _)]) ⟨a, x, xs, n, rfl, ok, hx, rfl, kk⟩
  rw [rngD_len] at hl2
  have hz : Sz (rs.map Rule.d).length := by rw [List.length_map]; exact Nat.le_trans hr (Nat.le_of_ble_eq_true rfl)
  walk_at "bv"
  have e : (rs ++ [(⟨s, cs, as⟩ : Rule)]).map Rule.d = rs.map Rule.d ++ [.tup [.str s, .tup (cs.map Tst.d), .tup (as.map Act.d)]] := by rw [List.map_append]; rfl
  have k2 := k ⟨s, cs, as⟩ y2 (some (.tup (cs.map Tst.d))) x8 ⟨hs, by show cs.length ≤ 4; omega, ⟨by show 1 ≤ as.length; omega, by show as.length ≤ 4; omega⟩, hp, hp2⟩ hy2
  rw [e] at k2
  exact k2
theorem lr_loop {a f : Addr} {xs : List Str} (ok : DesksOk xs) {x2 : Option D} {B : BEnds} : ∀ (ds : List D) (rs : List Rule) (x : W3) (n : Nat) (x4 x5 x6 x7 x8 : Option D), rs.length + ds.length ≤ 1000 → (∀ r ∈ rs, Rule.okIn xs r) → WB x (n + 30 * ds.length) →
    (∀ (rs' : List Rule) y x4 x5 x6 x7 x8, rs'.length = rs.length + ds.length → (∀ r ∈ rs', Rule.okIn xs r) → WB y n → B.nx [some (.ref a), some (.tup (sts xs)), x2, some (.ref f), x4, x5, x6, x7, x8] [(a, .lst (W3.l y)), (f, .lst (rs'.map Rule.d))]) →
    forW (gN 4) b_lr B ds [some (.ref a), some (.tup (sts xs)), x2, some (.ref f), x4, x5, x6, x7, x8] [(a, .lst (W3.l x)), (f, .lst (rs.map Rule.d))]
  | [], rs, x, n, x4, x5, x6, x7, x8, _, hr, hw, k => .go (k rs x _ _ _ _ _ rfl hr hw)
  | d :: ds, rs, x, n, x4, x5, x6, x7, x8, hl, hr, hw, k => by
    rw [List.length_cons] at hl hw
    unfold forW
    refine q_gN ?_
    unfold b_lr
    refine q_stop ?_
    walk_at "bv"
    refine cf_head (Mc := [(a, _)]) ⟨a, x, _, _, [], n + 30 * ds.length + 29, rfl, .lst _, by simp, by simp, hw.le (by omega), rfl, fun z y1 hz w1 => ?_⟩
    obtain ⟨s, hs7, rfl⟩ := mem_sts (xs := ev7) hz
    have hs := ev7_evs s hs7
    walk_at "bv"
    refine stop_go (q_stop ?_)
    walk_at "bv"
    refine cf_head (Mc := [(a, _)]) ⟨a, y1, _, n + 30 * ds.length + 28, rfl, by decide, by decide, w1, rfl, fun u y2 u0 u1 w2 => ?_⟩
    walk_at "bv"
    refine cf_head (Mc := [(a, _)]) ⟨a, y2, _, n + 30 * ds.length + 27, rfl, by decide, by decide, w2, rfl, fun v y3 v0 v1 w3 => ?_⟩
    walk_at "bv"
    refine stop_go (q_stop ?_)
    walk_at "bv"
    refine cf_head (Mc := [(a, _)]) ⟨a, y3, _, n + 30 * ds.length + 26, rfl, by decide, by decide, w3, rfl, fun t y4 t0 t1 w4 => ?_⟩
    walk_at "bv"
    have nxt : ∀ (r : Rule) (y : W3) (z4 z5 z6 z7 z8 : Option D), r.okIn xs → WB y (n + 30 * ds.length) → CvS [some (.ref a), some (.tup (sts xs)), x2, some (.ref f), z4, z5, z6, z7, z8] [(a, .lst (W3.l y)), (f, .lst ((rs ++ [r]).map Rule.d))] (forW (gN 4) b_lr B ds) := fun r y z4 z5 z6 z7 z8 h1 h2 =>
      .go (lr_loop ok ds (rs ++ [r]) y n _ _ _ _ _ (by rw [List.length_append, List.length_singleton]; omega) (fun r' hr' => by
        rcases List.mem_append.mp hr' with q | q
        · exact hr r' q
        · rw [List.mem_singleton.mp q]; exact h1) h2 fun rs' y z4 z5 z6 z7 z8 h3 => k rs' y z4 z5 z6 z7 z8 (by rw [h3, List.length_append, List.length_singleton, List.length_cons]; omega))
    obtain ⟨un, rfl⟩ : ∃ un : Nat, u = (un : Nat) := ⟨u.toNat, by omega⟩
    obtain ⟨vn, rfl⟩ : ∃ vn : Nat, v = (vn : Nat) := ⟨v.toNat, by omega⟩
    rw [show (1 : Int) + (vn : Nat) = ((1 + vn : Nat) : Int) by omega]
    refine q_iteD (fun h => ?_) (fun h => ?_)
    · walk_at "bv"
      refine stop_go ?_
      exact lr_body ok (by omega) hs (u := 4) (v := 4) (by omega) (by omega) (w4.le (show n + 30 * ds.length + 24 ≤ n + 30 * ds.length + 26 by omega)) fun r y z7 z8 h1 h2 => nxt r y _ _ _ _ _ h1 h2
    · walk_at "bv"
      refine stop_go ?_
      exact lr_body ok (by omega) hs (u := un) (v := 1 + vn) (by omega) (by omega) (w4.le (show n + 30 * ds.length + 24 ≤ n + 30 * ds.length + 26 by omega)) fun r y z7 z8 h1 h2 => nxt r y _ _ _ _ _ h1 h2
def sp__law_rules : BSp := fun ex ds M R => ∃ a x xs m n, ds = [.ref a, .tup (sts xs), .int (m : Nat)] ∧ DesksOk xs ∧ m ≤ 8 ∧ WB x (n + 300) ∧ M = [(a, .lst (W3.l x))] ∧ ∀ (rs : List Rule) y, rs.length ≤ m → (∀ r ∈ rs, Rule.okIn xs r) → WB y n → R (.tup (rs.map Rule.d)) [(a, .lst (W3.l y))]
theorem len__law_rules : ∀ ex ds M R, sp__law_rules ex ds M R → ds.length = 3 := by
  rintro ex ds M R ⟨a, x, xs, m, n, rfl, _⟩
  rfl
theorem pure__law_rules : ∀ ex ds M R, sp__law_rules ex ds M R → t__law_rules { ex := ex, nx := fun _ M' => R .non M', rt := R } (startB 9 ds) M := by
  rintro ex ds M R ⟨a, x, xs, m, n, rfl, ok, hm, hw, rfl, k⟩
  unfold t__law_rules
  refine q_stop ?_
  walk_at "bv"
  rename_i f
  refine stop_cv (.perm (List.Perm.swap _ _ _)) (q_stop ?_)
  refine q_for (q_rng1 ?_)
  walk_at "bv"
  refine cf_head (Mc := [(a, _)]) ⟨a, x, _, n + 299, rfl, by omega, by omega, hw, rfl, fun v y1 v0 v1 w1 => ?_⟩
  walk_at "bv"
  refine ⟨_, rfl, ⟨by omega, by omega⟩, ?_⟩
  refine lr_loop ok _ [] y1 n _ _ _ _ _ (by rw [rngD_len]; simp; omega) (fun r hr => by cases hr) (w1.le (by rw [rngD_len]; omega)) fun rs y z4 z5 z6 z7 z8 h1 h2 h3 => ?_
  rw [rngD_len] at h1
  refine .go (q_retS ?_)
  walk_at "bv"
  exact stopV_cv (CvA.trans (.perm (List.Perm.swap _ _ _)) CvA.drop) (k rs y (by simp at h1; omega) h2 h3)
end BV
set_option maxHeartbeats 4000000
namespace BV
open PySem
local macro_rules | `(tactic| walk_at "pd") => `(tactic| (first | rfl | assumption | (apply pd_str; assumption) | decide +kernel))
local macro_rules | `(tactic| walk_at "ty") => `(tactic| (first | exact TyD.tup _ | exact TyD.str _ | exact TyD.lst _ | exact TyD.bl _ | exact TyD.int _ | exact TyD.non | (apply TyD.ref; walk_at "at")))
local macro_rules | `(tactic| walk_at "sz") => `(tactic| (first | assumption | exact Nat.le_of_ble_eq_true rfl))
local macro_rules | `(tactic| walk_at "at") => `(tactic| (repeat (first | exact At.here | apply At.there | apply At.app)))
local macro_rules | `(tactic| walk_at "sok") => `(tactic| (first | assumption | (show PyData.strOk _ = true; decide +kernel)))
local macro_rules | `(tactic| walk_at "b1") => `(tactic| first
  | with_reducible refine q_seq ?_
  | with_reducible refine q_if ?_
  | with_reducible refine q_tst ?_
  | with_reducible refine q_op ?_
  | with_reducible refine q_c ?_
  | ((with_reducible refine' q_var ?b1 ?_); (case b1 => rfl))
  | with_reducible refine q_fld ?_
  | ((with_reducible refine' q_fldR ?b1 ?b2 ?_); (case b1 => walk_at "at"); (case b2 => rfl))
  | ((with_reducible refine' q_fldV ?b2 ?_); (case b2 => rfl))
  | ((with_reducible refine' q_eqS ?b1 ?b2 ?_); (case b1 => walk_at "sok"); (case b2 => walk_at "sok"))
  | ((with_reducible refine' q_neS ?b1 ?b2 ?_); (case b1 => walk_at "sok"); (case b2 => walk_at "sok"))
  | with_reducible refine q_eqB ?_
  | with_reducible refine q_eqI ?_
  | with_reducible refine q_neI ?_
  | with_reducible refine q_addI ?_
  | with_reducible refine q_oadd ?_
  | with_reducible refine q_osub ?_
  | with_reducible refine q_lt ?_
  | with_reducible refine q_le ?_
  | with_reducible refine q_gt ?_
  | with_reducible refine q_ge ?_
  | with_reducible refine q_isN ?_
  | with_reducible refine q_notN ?_
  | ((with_reducible refine' q_ixT ?b2 ?_); (case b2 => rfl))
  | ((with_reducible refine' q_ixL ?b2 ?_); (case b2 => rfl))
  | ((with_reducible refine' q_ixR ?b1 ?b2 ?_); (case b1 => walk_at "at"); (case b2 => rfl))
  | with_reducible refine q_bl ?_
  | with_reducible refine q_ret ?_
  | with_reducible refine q_retN ?_
  | with_reducible refine q_skip ?_
  | with_reducible refine q_drop ?_
  | with_reducible refine q_asg ?_
  | with_reducible refine q_gN ?_
  | with_reducible refine q_gFld ?_
  | with_reducible refine q_aug ?_
  | with_reducible refine q_isRef ?_
  | ((with_reducible refine' q_put ?b1 ?b2 ?b3 ?_); (case b1 => walk_at "at"); (case b2 => rfl); (case b3 => rfl))
  | with_reducible refine q_nil ?_
  | with_reducible refine q_cons ?_
  | with_reducible refine q_not ?_
  | with_reducible refine q_and ?_
  | with_reducible refine q_or ?_
  | with_reducible refine q_andV ?_
  | with_reducible refine q_orV ?_
  | with_reducible refine q_notV ?_
  | with_reducible refine q_ifE ?_
  | with_reducible refine q_tup ?_
  | ((with_reducible refine' q_szA ?b1 fun p => ?_); (case b1 => walk_at "sz"))
  | ((with_reducible refine' q_sz ?b1 ?_); (case b1 => walk_at "sz"))
  | with_reducible refine q_bm ?_
  | ((with_reducible refine' q_own ?b1 ?_); (case b1 => walk_at "at"))
  | ((with_reducible refine' q_append ?b1 ?b2 ?_); (case b1 => walk_at "at"); (case b2 => walk_at "sz"))
  | with_reducible refine q_call0 ?_
  | with_reducible refine q_meth0 ?_
  | ((with_reducible refine' q_isR ?b1 ?_); (case b1 => walk_at "at"))
  | ((with_reducible refine' q_isP ?b1 ?_); (case b1 => exact Or.inr ⟨_, rfl⟩))
  | with_reducible refine q_dct ?_
  | with_reducible refine q_dget ?_
  | ((with_reducible refine' q_dctE ?b1 ?_); (case b1 => walk_at "at"))
  | with_reducible refine q_dinT ?_
  | with_reducible refine q_dinF ?_
  | with_reducible refine q_dget1 ?_
  | ((with_reducible refine' q_isDct ?b1 ?_); (case b1 => walk_at "at"))
  | ((with_reducible refine' q_setD ?b1 ?b2 ?_); (case b1 => walk_at "at"); (case b2 => walk_at "sz"))
  | with_reducible refine q_orT ?_
  | ((with_reducible refine' q_orTT ?b1 ?_); (case b1 => rfl))
  | with_reducible refine q_cb ?_
  | ((with_reducible refine' q_inT ?b1 ?b2 rfl ?_); (case b1 => walk_at "pd"); (case b2 => walk_at "pd"))
  | ((with_reducible refine' q_notInT ?b1 ?b2 rfl ?_); (case b1 => walk_at "pd"); (case b2 => walk_at "pd"))
  | ((with_reducible refine' q_isi rfl ?b1 ?_); (case b1 => walk_at "ty"))
  | ((with_reducible refine' q_isi2 rfl rfl ?b1 ?_); (case b1 => walk_at "ty"))
  | with_reducible refine q_lenT ?_
  | with_reducible refine q_lenL ?_
  | ((with_reducible refine' q_lenR ?b1 ?_); (case b1 => walk_at "at"))
  | ((with_reducible refine' q_lenD ?b1 ?_); (case b1 => walk_at "at"))
  | ((with_reducible refine' q_lenS ?b1 ?_); (case b1 => walk_at "sz"))
  | with_reducible refine q_lenSc ?_
  | with_reducible refine q_intI ?_
  | with_reducible refine q_intB ?_
  | with_reducible refine q_listT ?_
  | with_reducible refine q_listL ?_
  | ((with_reducible refine' q_listR ?b1 ?_); (case b1 => walk_at "at"))
  | ((with_reducible refine' q_listD ?b1 ?_); (case b1 => walk_at "at"))
  | ((with_reducible refine' q_tupR ?b1 ?_); (case b1 => walk_at "at"))
  | with_reducible refine q_tupL ?_
  | ((with_reducible refine' q_dictO ?b1 fun p => ?_); (case b1 => walk_at "at"))
  | with_reducible refine q_dictN fun p => ?_
  | with_reducible refine q_lstO ?_
  | with_reducible refine q_lstV ?_
  | with_reducible refine q_chain ?_
  | ((with_reducible refine' q_gTup ?b1 ?_); (case b1 => rfl))
  | with_reducible refine q_gCons ?_
  | with_reducible refine q_gNil ?_
  | with_reducible refine q_par ?_
  | with_reducible refine q_par3 ?_
  | with_reducible refine q_two ?_
  | with_reducible refine q_three ?_
  | ((with_reducible refine' q_saug ?b1 ?_); (case b1 => rfl))
  | with_reducible refine q_gSub ?_
  | ((with_reducible refine' q_setL ?b1 ?b2 ?b3 ?_); (case b1 => walk_at "at"); (case b2 => rfl); (case b3 => rfl))
  | with_reducible refine q_ownV ?_
  | with_reducible refine q_indexA ?_
  | ((with_reducible refine' q_indexB ?b1 ?_); (case b1 => decide +kernel))
  | ((with_reducible refine' q_listO ?b1 fun p => ?_); (case b1 => walk_at "at"))
  | with_reducible refine q_listOT fun p => ?_
  | ((with_reducible refine' q_popO ?b1 ?_); (case b1 => walk_at "at"))
  | with_reducible refine q_yes ?_
  | with_reducible refine q_cN ?_
  | with_reducible refine q_make0 ?_
  | with_reducible refine q_lstX ?_
  | with_reducible refine q_tupX ?_
  | ((with_reducible refine' q_iteT ?b1 ?_); (case b1 => first | rfl | decide +kernel))
  | ((with_reducible refine' q_iteF ?b1 ?_); (case b1 => first | rfl | decide +kernel))
  | with_reducible refine q_goS ?_
  | with_reducible refine q_goV ?_)
local macro_rules | `(tactic| walk_at "bv") => `(tactic| (repeat (walk_at "b1")))
def ltrs : List Nat := ("abcdefghijklmnopqrstuvwxyz" : Str).cps.toList
theorem nm_iff {s : Str} : isNm s = true ↔ (1 ≤ s.cps.toList.length ∧ s.cps.toList.length ≤ 8 ∧ ∀ c ∈ s.cps.toList, c ∈ ltrs) := by
  unfold isNm
  rw [Bool.and_eq_true, Bool.and_eq_true, decide_eq_true_eq, decide_eq_true_eq, List.all_eq_true]
  have e : s.length = s.cps.toList.length := by rw [Array.length_toList]; rfl
  rw [e]
  constructor
  · rintro ⟨⟨h1, h2⟩, h3⟩
    exact ⟨h1, h2, fun c hc => of_decide_eq_true (h3 c hc)⟩
  · rintro ⟨h1, h2, h3⟩
    exact ⟨⟨h1, h2⟩, fun c hc => decide_eq_true (h3 c hc)⟩
def isLt (s : Str) : Prop := ∃ c, c ∈ ltrs ∧ s = ⟨#[c]⟩
theorem TL.tl_append' (a b : Str) : (a ++ b).cps.toList = a.cps.toList ++ b.cps.toList := TL.tl_append a b
theorem joinL_nil : ∀ {l : List (List Nat)}, TL.joinL [] l = l.flatten
  | [] => rfl
  | [p] => by simp [TL.joinL]
  | p :: q :: r => by
    have := joinL_nil (l := q :: r)
    show p ++ ([] ++ TL.joinL [] (q :: r)) = _
    rw [this]
    rfl
theorem join_lt {cs : List Str} (h : ∀ s ∈ cs, isLt s) (h1 : 1 ≤ cs.length) (h8 : cs.length ≤ 8) : isNm (Txt.join "" cs) = true := by
  rw [nm_iff]
  have e : (Txt.join "" cs).cps.toList = (cs.map TL.tl).flatten := by
    rw [TL.join_eq]
    show TL.tl (Str.join "" cs) = _
    rw [TL.tl_join, show TL.tl (Str.ofString "") = [] by rfl, joinL_nil]
  rw [e]
  have e2 : ∀ {l : List Str}, (∀ s ∈ l, isLt s) → ((l.map TL.tl).flatten).length = l.length ∧ ∀ c ∈ (l.map TL.tl).flatten, c ∈ ltrs := by
    intro l hl
    induction l with
    | nil => exact ⟨rfl, fun c hc => by cases hc⟩
    | cons s r ih =>
      obtain ⟨i1, i2⟩ := ih fun y hy => hl y (List.mem_cons_of_mem _ hy)
      obtain ⟨c, hc, rfl⟩ := hl s List.mem_cons_self
      rw [List.map_cons, List.flatten_cons]
      have e3 : TL.tl ⟨#[c]⟩ = [c] := rfl
      rw [e3]
      refine ⟨by rw [List.length_append, i1, List.length_singleton, List.length_cons]; omega, fun d hd => ?_⟩
      rcases List.mem_append.mp hd with q | q
      · rw [List.mem_singleton.mp q]; exact hc
      · exact i2 d q
  obtain ⟨h2, h3⟩ := e2 h
  exact ⟨by omega, by omega, h3⟩
theorem cut_list {z : Str} {lo hi : Option Int} : (L2.cutS z lo hi).cps.toList = (z.cps.toList.drop (HT.sIx z.length 0 lo)).take (HT.sIx z.length z.length hi - HT.sIx z.length 0 lo) := rfl
/-- a name made of an old one -/
theorem mix_nm {old : Str} {c : Nat} {j t : Nat} (ho : isNm old = true) (hc : c ∈ ltrs) (hj : j ≤ old.length) : isNm (L2.cutS ((L2.cutS old none (some (j : Nat)) ++ ⟨#[c]⟩) ++ L2.cutS old (some ((j : Nat) + (t : Nat) : Int)) none) none (some 8)) = true := by
  rw [nm_iff] at ho ⊢
  obtain ⟨o1, o2, o3⟩ := ho
  have el : old.length = old.cps.toList.length := by rw [Array.length_toList]; rfl
  have ap : ∀ a b : Str, (a ++ b).cps.toList = a.cps.toList ++ b.cps.toList := fun a b => TL.tl_append a b
  rw [cut_list]
  have e1 : ∀ z : Str, HT.sIx z.length 0 none = 0 := fun z => rfl
  rw [e1, List.drop_zero]
  have e2 : ∀ z : Str, HT.sIx z.length z.length (some 8) = min 8 z.length := fun z => HT.sIx_nat _ _ 8
  rw [e2, Nat.sub_zero, ap, ap]
  have el2 : ∀ z : Str, z.length = z.cps.toList.length := fun z => by rw [Array.length_toList]; rfl
  rw [el2, ap, ap]
  have ec : ((⟨#[c]⟩ : Str).cps.toList) = [c] := rfl
  rw [ec]
  refine ⟨?_, ?_, fun d hd => ?_⟩
  · rw [List.length_take, List.length_append, List.length_append, List.length_singleton]; omega
  · rw [List.length_take]; omega
  · have hd2 := List.mem_of_mem_take hd
    rcases List.mem_append.mp hd2 with q | q
    · rcases List.mem_append.mp q with q | q
      · rw [cut_list] at q
        exact o3 d (List.mem_of_mem_drop (List.mem_of_mem_take q))
      · rw [List.mem_singleton.mp q]; exact hc
    · rw [cut_list] at q
      exact o3 d (List.mem_of_mem_drop (List.mem_of_mem_take q))
def wds : List Str := ["open", "letter", "day", "do", "if", "closed", "moved"]
theorem wds_nm : ∀ s ∈ wds, isNm s = true := by decide +kernel
def t__law_names : RS := sSeq (sAsg (rTup (rCons (rC (.str "abcdefghijklmnopqrstuvwxyz")) (rCons (rLstV (rCons (rC (.str "open")) (rCons (rC (.str "letter")) (rCons (rC (.str "day")) (rCons (rC (.str "do")) (rCons (rC (.str "if")) (rCons (rC (.str "closed")) (rCons (rC (.str "moved")) rNil)))))))) rNil))) (BV.gTup 2 (BV.gCons (gN 4) (BV.gCons (gN 5) BV.gNil)))) (sSeq (sAsg (rLstO rNil) (gN 2)) (sSeq (sFor (iRng1 (rCons (rOp oAddX (rC (.int 1)) (rCall0 sp__law_draw (rCons (rVar 0) (rCons (rVar 1) rNil)))) rNil)) (gN 3) (sSeq (sAsg (rCall0 sp__law_draw (rCons (rVar 0) (rCons (rC (.int 4)) rNil))) (gN 6)) (sSeq (sAsg (rJoin (rC (.str "")) (rLc (iRng1 (rCons (rOp oAddX (rC (.int 1)) (rCall0 sp__law_draw (rCons (rVar 0) (rCons (rC (.int 8)) rNil)))) rNil)) (cN 10) (rYes) (rCall0 sp__law_pick (rCons (rVar 0) (rCons (rVar 4) rNil))) [10])) (gN 7)) (sSeq (sIf (rTst (rOp oEq (rVar 6) (rC (.int 0)))) (sAsg (rCall0 sp__law_pick (rCons (rVar 0) (rCons (rVar 5) rNil))) (gN 7)) (sIf (rAnd (rTst (rOp oEq (rVar 6) (rC (.int 1)))) (rTst (rOp oNe (rVar 2) (rLstV rNil)))) (sSeq (sAsg (rCall0 sp__law_pick (rCons (rVar 0) (rCons (rVar 2) rNil))) (gN 8)) (sSeq (sAsg (rCall0 sp__law_draw (rCons (rVar 0) (rCons (rOp oAddX (rCB bLenX (rCons (rVar 8) rNil)) (rC (.int 1))) rNil))) (gN 9)) (sAsg (rSl oSl (rOp oAddX (rOp oAddX (rSl oSl (rVar 8) rNoP (rPt (rVar 9))) (rOp oIx (rVar 7) (rC (.int 0)))) (rSl oSl (rVar 8) (rPt (rOp oAddX (rVar 9) (rCall0 sp__law_draw (rCons (rVar 0) (rCons (rC (.int 2)) rNil))))) rNoP)) rNoP (rPt (rC (.int 8)))) (gN 7)))) (sSkip))) (sIf (rTst (rOp (oIn true) (rVar 7) (rVar 2))) (sDrop (rBM "list" mAppend (rVar 2) (rCons (rVar 7) rNil))) (sSkip)))))) (sRet (rVar 2))))
def b_ln1 : RS := sIf (rTst (rOp oEq (rVar 6) (rC (.int 0)))) (sAsg (rCall0 sp__law_pick (rCons (rVar 0) (rCons (rVar 5) rNil))) (gN 7)) (sIf (rAnd (rTst (rOp oEq (rVar 6) (rC (.int 1)))) (rTst (rOp oNe (rVar 2) (rLstV rNil)))) (sSeq (sAsg (rCall0 sp__law_pick (rCons (rVar 0) (rCons (rVar 2) rNil))) (gN 8)) (sSeq (sAsg (rCall0 sp__law_draw (rCons (rVar 0) (rCons (rOp oAddX (rCB bLenX (rCons (rVar 8) rNil)) (rC (.int 1))) rNil))) (gN 9)) (sAsg (rSl oSl (rOp oAddX (rOp oAddX (rSl oSl (rVar 8) rNoP (rPt (rVar 9))) (rOp oIx (rVar 7) (rC (.int 0)))) (rSl oSl (rVar 8) (rPt (rOp oAddX (rVar 9) (rCall0 sp__law_draw (rCons (rVar 0) (rCons (rC (.int 2)) rNil))))) rNoP)) rNoP (rPt (rC (.int 8)))) (gN 7)))) (sSkip))
def b_ln2 : RS := sIf (rTst (rOp (oIn true) (rVar 7) (rVar 2))) (sDrop (rBM "list" mAppend (rVar 2) (rCons (rVar 7) rNil))) (sSkip)
def b_ln : RS := sSeq (sAsg (rCall0 sp__law_draw (rCons (rVar 0) (rCons (rC (.int 4)) rNil))) (gN 6)) (sSeq (sAsg (rJoin (rC (.str "")) (rLc (iRng1 (rCons (rOp oAddX (rC (.int 1)) (rCall0 sp__law_draw (rCons (rVar 0) (rCons (rC (.int 8)) rNil)))) rNil)) (cN 10) (rYes) (rCall0 sp__law_pick (rCons (rVar 0) (rCons (rVar 4) rNil))) [10])) (gN 7)) (sSeq b_ln1 b_ln2))
def dLt : D := .str "abcdefghijklmnopqrstuvwxyz"
def dWd : D := .lst (sts wds)
theorem q_join {ex : BX} {τ : BSt} {M : Mm} {R : BQ} {to te : RE} (k : to ex τ M fun d M1 => (∃ a, d = .str a) ∧ te ex τ M1 fun e M2 => ∃ (a : Str) (ys : List Str), d = .str a ∧ (e = .lst (ys.map .str) ∨ e = .tup (ys.map .str)) ∧ (ys.map (·.length)).sum + ys.length * a.length ≤ 16777216 ∧ R (.str (Txt.join a ys)) M2) : rJoin to te ex τ M R := k
theorem q_sl {ex : BX} {τ : BSt} {M : Mm} {R : BQ} {te : RE} {tl th : RO} {r : RSl} (k : te ex τ M fun d M1 => tl ex τ M1 fun lo M2 => th ex τ M2 fun hi M3 => r d lo hi M3 R) : rSl r te tl th ex τ M R := k
theorem q_noP {ex : BX} {τ : BSt} {M : Mm} {Q : Option Int → Mm → Prop} (k : Q none M) : rNoP ex τ M Q := k
theorem q_pt {ex : BX} {τ : BSt} {M : Mm} {Q : Option Int → Mm → Prop} {te : RE} (k : te ex τ M fun d M1 => ∃ i, d = .int i ∧ Q (some i) M1) : rPt te ex τ M Q := k
theorem q_intX {i : Int} {P : Int → Prop} (k : P i) : ∃ j, D.int i = .int j ∧ P j := ⟨i, rfl, k⟩
theorem q_slS {M : Mm} {R : BQ} {z : Str} {lo hi : Option Int} (hz : Sz z.length) (k : R (.str (L2.cutS z lo hi)) M) : oSl (.str z) lo hi M R := .inr (.inr ⟨z, rfl, hz, k⟩)
theorem q_catS {M : Mm} {R : BQ} {y z : Str} (hz : Sz (y.length + z.length)) (k : R (.str (y ++ z)) M) : oAddX (.str y) (.str z) M R := .inr (.inl ⟨y, z, rfl, rfl, hz, k⟩)
theorem len_list (z : Str) : z.length = z.cps.toList.length := by rw [Array.length_toList]; rfl
theorem cut_le {z : Str} {lo hi : Option Int} : (L2.cutS z lo hi).length ≤ z.length := by
  rw [len_list, cut_list, len_list z, List.length_take, List.length_drop]
  omega
theorem app_len (a b : Str) : (a ++ b).length = a.length + b.length := by
  rw [len_list, TL.tl_append' a b, List.length_append, ← len_list, ← len_list]
theorem q_isStr {z : Str} {P : Prop} (k : P) : (∃ a, D.str z = .str a) ∧ P := ⟨⟨z, rfl⟩, k⟩
structure Nms (ns : List Str) : Prop where
  nm : ∀ s ∈ ns, isNm s = true
  nd : ns.Nodup
theorem Nms.sok {ns : List Str} (h : Nms ns) : ∀ s ∈ ns, BV.sok s := fun s hs => nm_sok (h.nm s hs)
theorem Nms.snoc {ns : List Str} (h : Nms ns) {s : Str} (hs : isNm s = true) (hn : s ∉ ns) : Nms (ns ++ [s]) := ⟨fun t ht => by
  rcases List.mem_append.mp ht with q | q
  · exact h.nm t q
  · rw [List.mem_singleton.mp q]; exact hs, by
  rw [List.nodup_append]
  exact ⟨h.nd, by simp, fun a ha b hb => by rw [List.mem_singleton.mp hb]; exact fun e => hn (e ▸ ha)⟩⟩
theorem ln_put {a f : Addr} {x1 x3 x4 x5 x6 x8 x9 x10 : Option D} {B : BEnds} {ns : List Str} {s : Str} {y : W3} (ok : Nms ns) (hs : isNm s = true) (hl : ns.length ≤ 1000)
    (k : ∀ ns', Nms ns' → ns' ≠ [] → ns'.length ≤ ns.length + 1 → B.nx [some (.ref a), x1, some (.ref f), x3, x4, x5, x6, some (.str s), x8, x9, x10] [(a, .lst (W3.l y)), (f, .lst (sts ns'))]) :
    b_ln2 B [some (.ref a), x1, some (.ref f), x3, x4, x5, x6, some (.str s), x8, x9, x10] [(a, .lst (W3.l y)), (f, .lst (sts ns))] := by
  unfold b_ln2
  have hz : Sz (sts ns).length := by rw [sts_len]; exact Nat.le_trans hl (Nat.le_of_ble_eq_true rfl)
  walk_at "bv"
  refine q_notInR (.there .here) (pd_str (nm_sok hs)) (sts_pd ok.sok) any_str ?_
  refine q_bl ?_
  refine q_iteND (fun h => ?_) (fun h => ?_)
  · walk_at "bv"
    rw [← sts_snoc]
    exact k _ (ok.snoc hs h) (by simp) (by simp)
  · walk_at "bv"
    exact k ns ok (fun e => by rw [e] at h; cases h) (by omega)
theorem ln_mid {a f : Addr} {x1 x3 x8 x9 x10 : Option D} {B : BEnds} {ns : List Str} {s : Str} {x : W3} {n : Nat} {v : Int} (ok : Nms ns) (hs : isNm s = true) (hl : ns.length ≤ 1000) (hw : WB x (n + 4))
    (k : ∀ s' y x8 x9, isNm s' = true → WB y n → B.nx [some (.ref a), x1, some (.ref f), x3, some dLt, some dWd, some (.int v), some (.str s'), x8, x9, x10] [(a, .lst (W3.l y)), (f, .lst (sts ns))]) :
    b_ln1 B [some (.ref a), x1, some (.ref f), x3, some dLt, some dWd, some (.int v), some (.str s), x8, x9, x10] [(a, .lst (W3.l x)), (f, .lst (sts ns))] := by
  unfold b_ln1
  walk_at "bv"
  refine q_iteD (fun h => ?_) (fun h => ?_)
  · walk_at "bv"
    refine cf_head (Mc := [(a, _)]) ⟨a, x, _, _, [], n + 3, rfl, .lst _, by simp [sts, wds], by simp [sts, wds], hw, rfl, fun z y1 hz w1 => ?_⟩
    obtain ⟨s', hs', rfl⟩ := mem_sts (xs := wds) hz
    walk_at "bv"
    exact k s' y1 _ _ (wds_nm s' hs') (w1.le (by omega))
  walk_at "bv"
  refine q_iteD (fun h1 => ?_) (fun h1 => ?_)
  · walk_at "bv"
    refine q_neX (.inl ⟨sts ns, rfl, f, _, rfl, .there .here⟩) (.inr rfl) (lst_pd ok.sok) (by decide +kernel) deq_nil ?_
    refine q_bl ?_
    refine q_iteND (fun h2 => ?_) (fun h2 => ?_)
    · refine q_stop ?_
      walk_at "bv"
      refine cf_whole ⟨a, x, _, _, [(f, .lst (sts ns))], n + 3, rfl, .ref rfl, h2, by rw [sts_len]; omega, hw, rfl, fun z y1 hz w1 => ?_⟩
      obtain ⟨old, ho, rfl⟩ := mem_sts hz
      have hon := ok.nm old ho
      have hos : Sz old.length := nm_sz hon
      have ho8 : old.length ≤ 8 := by have := (nm_iff.mp hon).2.1; rw [Array.length_toList] at this; exact this
      walk_at "bv"
      refine stop_go (q_stop ?_)
      walk_at "bv"
      refine cf_head (Mc := [(a, _)]) ⟨a, y1, _, n + 2, rfl, by omega, by omega, w1, rfl, fun j y2 j0 j1 w2 => ?_⟩
      obtain ⟨jn, rfl⟩ : ∃ jn : Nat, j = (jn : Nat) := ⟨j.toNat, by omega⟩
      walk_at "bv"
      refine stop_go ?_
      have s8 := nm_sz hs
      obtain ⟨n1, n2, n3⟩ := nm_iff.mp hs
      have hc : s.cps.toList[0]? = some (s.cps.toList[0]'(by omega)) := List.getElem?_eq_getElem _
      have hcl := n3 _ (List.getElem_mem (by omega : 0 < s.cps.toList.length))
      have z1 : (L2.cutS old none (some (jn : Nat))).length ≤ 8 := Nat.le_trans cut_le ho8
      have one : ∀ c : Nat, (⟨#[c]⟩ : Str).length = 1 := fun _ => rfl
      refine q_asg (q_sl (q_op (q_op (q_sl ?_))))
      walk_at "bv"
      refine q_noP (q_pt ?_)
      walk_at "bv"
      refine ⟨_, rfl, q_slS hos ?_⟩
      walk_at "bv"
      refine q_ixC s8 (at_natN (j := 0) hc) ?_
      refine q_catS (Nat.le_trans (by rw [one]; omega : _ ≤ 9) (Nat.le_of_ble_eq_true rfl)) ?_
      refine q_sl ?_
      walk_at "bv"
      refine q_pt ?_
      walk_at "bv"
      refine cf_head (Mc := [(a, _)]) ⟨a, y2, _, n + 1, rfl, by omega, by omega, w2, rfl, fun t y3 t0 t1 w3 => ?_⟩
      obtain ⟨tn, rfl⟩ : ∃ tn : Nat, t = (tn : Nat) := ⟨t.toNat, by omega⟩
      walk_at "bv"
      refine ⟨_, rfl, q_noP (q_slS hos ?_)⟩
      have z2 : (L2.cutS old (some ((jn : Int) + (tn : Int))) none).length ≤ 8 := Nat.le_trans cut_le ho8
      refine q_catS (Nat.le_trans (by rw [app_len, one]; omega : _ ≤ 17) (Nat.le_of_ble_eq_true rfl)) ?_
      refine q_noP (q_pt ?_)
      walk_at "bv"
      refine ⟨_, rfl, q_slS (Nat.le_trans (by rw [app_len, app_len, one]; omega : _ ≤ 17) (Nat.le_of_ble_eq_true rfl)) ?_⟩
      exact k _ y3 _ _ (mix_nm hon hcl (by omega)) (w3.le (by omega))
    · walk_at "bv"
      exact k s x _ _ hs (hw.le (by omega))
  · walk_at "bv"
    exact k s x _ _ hs (hw.le (by omega))
theorem ln_loop {a f : Addr} {x1 : Option D} {B : BEnds} : ∀ (ds : List D) (ns : List Str) (x : W3) (n : Nat) (x3 x6 x7 x8 x9 x10 : Option D), Nms ns → ns.length + ds.length ≤ 1000 → WB x (n + 20 * ds.length) →
    (∀ ns' y x3 x6 x7 x8 x9 x10, Nms ns' → (ns ≠ [] ∨ ds ≠ [] → ns' ≠ []) → ns'.length ≤ ns.length + ds.length → WB y n → B.nx [some (.ref a), x1, some (.ref f), x3, some dLt, some dWd, x6, x7, x8, x9, x10] [(a, .lst (W3.l y)), (f, .lst (sts ns'))]) →
    forW (gN 3) b_ln B ds [some (.ref a), x1, some (.ref f), x3, some dLt, some dWd, x6, x7, x8, x9, x10] [(a, .lst (W3.l x)), (f, .lst (sts ns))]
  | [], ns, x, n, x3, x6, x7, x8, x9, x10, ok, _, hw, k => .go (k ns x _ _ _ _ _ _ ok (fun h => by
      rcases h with h | h
      · exact h
      · exact (h rfl).elim) (by omega) hw)
  | d :: ds, ns, x, n, x3, x6, x7, x8, x9, x10, ok, hl, hw, k => by
    rw [List.length_cons] at hl hw
    unfold forW
    refine q_gN ?_
    unfold b_ln
    refine q_stop ?_
    walk_at "bv"
    refine cf_head (Mc := [(a, _)]) ⟨a, x, _, n + 20 * ds.length + 19, rfl, by decide, by decide, hw.le (by omega), rfl, fun v y1 v0 v1 w1 => ?_⟩
    walk_at "bv"
    refine stop_go (q_stop ?_)
    refine q_asg (q_join ?_)
    walk_at "bv"
    refine q_isStr ?_
    refine q_lc (q_rng1 ?_)
    walk_at "bv"
    refine cf_head (Mc := [(a, _)]) ⟨a, y1, _, n + 20 * ds.length + 18, rfl, by decide, by decide, w1, rfl, fun u y2 u0 u1 w2 => ?_⟩
    walk_at "bv"
    refine ⟨_, rfl, ⟨by omega, by omega⟩, ?_⟩
    refine lc_draw (P := isLt) (enc := .str) (C := 1) (F := [(f, .lst (sts ns))]) (fun d x n R hx kk => ?_) _ _ y2 (n + 20 * ds.length + 10) (w2.le (by rw [rngD_len]; omega)) (by rw [rngD_len]; exact Nat.le_trans (show 0 + (1 + u).toNat ≤ 8 by omega) (Nat.le_of_ble_eq_true rfl)) fun cs y3 hl3 hp hy3 => ?_
    · walk_at "bv"
      refine cf_head (Mc := [(a, _)]) ⟨a, x, _, _, [], n, rfl, .str _ (Nat.le_of_ble_eq_true rfl), by decide +kernel, by decide +kernel, hx, rfl, fun z y hz wy => ?_⟩
      obtain ⟨c, hc, rfl⟩ := List.mem_map.mp hz
      exact kk ⟨#[c]⟩ y ⟨c, hc, rfl⟩ wy
    rw [rngD_len] at hl3
    have l1 : 1 ≤ cs.length := by omega
    have l8 : cs.length ≤ 8 := by omega
    have hsum : (cs.map (·.length)).sum = cs.length := by
      have : ∀ {l : List Str}, (∀ s ∈ l, isLt s) → (l.map (·.length)).sum = l.length := by
        intro l hl
        induction l with
        | nil => rfl
        | cons s r ih =>
          obtain ⟨c, _, rfl⟩ := hl s List.mem_cons_self
          rw [List.map_cons, List.sum_cons, ih fun y hy => hl y (List.mem_cons_of_mem _ hy), List.length_cons]
          show 1 + r.length = r.length + 1
          omega
      exact this hp
    refine ⟨_, cs, rfl, .inl rfl, ?_, ?_⟩
    · rw [hsum]
      have : (Str.ofString "").length = 0 := by decide +kernel
      rw [this]
      omega
    walk_at "bv"
    refine stop_go (q_stop ?_)
    refine ln_mid ok (join_lt hp l1 l8) (by omega) (n := n + 20 * ds.length) (hy3.le (by omega)) fun s' y4 z8 z9 hs' hy4 => ?_
    refine stop_go ?_
    refine ln_put ok hs' (by omega) fun ns' ok' hne hln => ?_
    refine .go (ln_loop ds ns' y4 n _ _ _ _ _ _ ok' (by omega) hy4 fun ns2 y z3 z6 z7 z8 z9 z10 h1 h2 h3 => k ns2 y z3 z6 z7 z8 z9 z10 h1 (fun _ => h2 (.inl hne)) (by rw [List.length_cons]; omega))
def sp__law_names : BSp := fun ex ds M R => ∃ a x m n, ds = [.ref a, .int (m : Nat)] ∧ 1 ≤ m ∧ m ≤ 20 ∧ WB x (n + 401) ∧ M = [(a, .lst (W3.l x))] ∧ ∀ ns y, Nms ns → 1 ≤ ns.length → ns.length ≤ m → WB y n → R (.lst (sts ns)) [(a, .lst (W3.l y))]
theorem len__law_names : ∀ ex ds M R, sp__law_names ex ds M R → ds.length = 2 := by
  rintro ex ds M R ⟨a, x, m, n, rfl, _⟩
  rfl
theorem pure__law_names : ∀ ex ds M R, sp__law_names ex ds M R → t__law_names { ex := ex, nx := fun _ M' => R .non M', rt := R } (startB 11 ds) M := by
  rintro ex ds M R ⟨a, x, m, n, rfl, hm1, hm, hw, rfl, k⟩
  unfold t__law_names
  refine q_stop ?_
  walk_at "bv"
  refine stop_go (q_stop ?_)
  walk_at "bv"
  rename_i f
  refine stop_cv (.perm (List.Perm.swap _ _ _)) (q_stop ?_)
  refine q_for (q_rng1 ?_)
  walk_at "bv"
  refine cf_head (Mc := [(a, _)]) ⟨a, x, _, n + 400, rfl, by omega, by omega, hw, rfl, fun v y1 v0 v1 w1 => ?_⟩
  walk_at "bv"
  refine ⟨_, rfl, ⟨by omega, by omega⟩, ?_⟩
  refine ln_loop _ [] y1 n _ _ _ _ _ _ ⟨(fun s hs => by cases hs), List.nodup_nil⟩ (by rw [rngD_len]; simp; omega) (w1.le (by rw [rngD_len]; omega)) fun ns y z3 z6 z7 z8 z9 z10 h1 h2 h3 h4 => ?_
  rw [rngD_len] at h3
  refine .go (q_retS ?_)
  walk_at "bv"
  refine stopV_cv (CvA.trans (.perm (List.Perm.swap _ _ _)) (.fz (.lst _) (.cons .here .nil))) (k ns y h1 ?_ (by simp at h3; omega) h4)
  have : ns ≠ [] := h2 (.inr fun e => by have := congrArg List.length e; rw [rngD_len] at this; simp at this; omega)
  exact List.length_pos_iff.mpr this
end BV
set_option maxHeartbeats 4000000
namespace BV
open PySem
local macro_rules | `(tactic| walk_at "pd") => `(tactic| (first | rfl | assumption | (apply pd_str; assumption) | decide +kernel))
local macro_rules | `(tactic| walk_at "ty") => `(tactic| (first | exact TyD.tup _ | exact TyD.str _ | exact TyD.lst _ | exact TyD.bl _ | exact TyD.int _ | exact TyD.non | (apply TyD.ref; walk_at "at")))
local macro_rules | `(tactic| walk_at "sz") => `(tactic| (first | assumption | exact Nat.le_of_ble_eq_true rfl))
local macro_rules | `(tactic| walk_at "at") => `(tactic| (repeat (first | exact At.here | apply At.there | apply At.app)))
local macro_rules | `(tactic| walk_at "sok") => `(tactic| (first | assumption | (show PyData.strOk _ = true; decide +kernel)))
local macro_rules | `(tactic| walk_at "b1") => `(tactic| first
  | with_reducible refine q_seq ?_
  | with_reducible refine q_if ?_
  | with_reducible refine q_tst ?_
  | with_reducible refine q_op ?_
  | with_reducible refine q_c ?_
  | ((with_reducible refine' q_var ?b1 ?_); (case b1 => rfl))
  | with_reducible refine q_fld ?_
  | ((with_reducible refine' q_fldR ?b1 ?b2 ?_); (case b1 => walk_at "at"); (case b2 => rfl))
  | ((with_reducible refine' q_fldV ?b2 ?_); (case b2 => rfl))
  | ((with_reducible refine' q_eqS ?b1 ?b2 ?_); (case b1 => walk_at "sok"); (case b2 => walk_at "sok"))
  | ((with_reducible refine' q_neS ?b1 ?b2 ?_); (case b1 => walk_at "sok"); (case b2 => walk_at "sok"))
  | with_reducible refine q_eqB ?_
  | with_reducible refine q_eqI ?_
  | with_reducible refine q_neI ?_
  | with_reducible refine q_addI ?_
  | with_reducible refine q_oadd ?_
  | with_reducible refine q_osub ?_
  | with_reducible refine q_lt ?_
  | with_reducible refine q_le ?_
  | with_reducible refine q_gt ?_
  | with_reducible refine q_ge ?_
  | with_reducible refine q_isN ?_
  | with_reducible refine q_notN ?_
  | ((with_reducible refine' q_ixT ?b2 ?_); (case b2 => rfl))
  | ((with_reducible refine' q_ixL ?b2 ?_); (case b2 => rfl))
  | ((with_reducible refine' q_ixR ?b1 ?b2 ?_); (case b1 => walk_at "at"); (case b2 => rfl))
  | with_reducible refine q_bl ?_
  | with_reducible refine q_ret ?_
  | with_reducible refine q_retN ?_
  | with_reducible refine q_skip ?_
  | with_reducible refine q_drop ?_
  | with_reducible refine q_asg ?_
  | with_reducible refine q_gN ?_
  | with_reducible refine q_gFld ?_
  | with_reducible refine q_aug ?_
  | with_reducible refine q_isRef ?_
  | ((with_reducible refine' q_put ?b1 ?b2 ?b3 ?_); (case b1 => walk_at "at"); (case b2 => rfl); (case b3 => rfl))
  | with_reducible refine q_nil ?_
  | with_reducible refine q_cons ?_
  | with_reducible refine q_not ?_
  | with_reducible refine q_and ?_
  | with_reducible refine q_or ?_
  | with_reducible refine q_andV ?_
  | with_reducible refine q_orV ?_
  | with_reducible refine q_notV ?_
  | with_reducible refine q_ifE ?_
  | with_reducible refine q_tup ?_
  | ((with_reducible refine' q_szA ?b1 fun p => ?_); (case b1 => walk_at "sz"))
  | ((with_reducible refine' q_sz ?b1 ?_); (case b1 => walk_at "sz"))
  | with_reducible refine q_bm ?_
  | ((with_reducible refine' q_own ?b1 ?_); (case b1 => walk_at "at"))
  | ((with_reducible refine' q_append ?b1 ?b2 ?_); (case b1 => walk_at "at"); (case b2 => walk_at "sz"))
  | with_reducible refine q_call0 ?_
  | with_reducible refine q_meth0 ?_
  | ((with_reducible refine' q_isR ?b1 ?_); (case b1 => walk_at "at"))
  | ((with_reducible refine' q_isP ?b1 ?_); (case b1 => exact Or.inr ⟨_, rfl⟩))
  | with_reducible refine q_dct ?_
  | with_reducible refine q_dget ?_
  | ((with_reducible refine' q_dctE ?b1 ?_); (case b1 => walk_at "at"))
  | with_reducible refine q_dinT ?_
  | with_reducible refine q_dinF ?_
  | with_reducible refine q_dget1 ?_
  | ((with_reducible refine' q_isDct ?b1 ?_); (case b1 => walk_at "at"))
  | ((with_reducible refine' q_setD ?b1 ?b2 ?_); (case b1 => walk_at "at"); (case b2 => walk_at "sz"))
  | with_reducible refine q_orT ?_
  | ((with_reducible refine' q_orTT ?b1 ?_); (case b1 => rfl))
  | with_reducible refine q_cb ?_
  | ((with_reducible refine' q_inT ?b1 ?b2 rfl ?_); (case b1 => walk_at "pd"); (case b2 => walk_at "pd"))
  | ((with_reducible refine' q_notInT ?b1 ?b2 rfl ?_); (case b1 => walk_at "pd"); (case b2 => walk_at "pd"))
  | ((with_reducible refine' q_isi rfl ?b1 ?_); (case b1 => walk_at "ty"))
  | ((with_reducible refine' q_isi2 rfl rfl ?b1 ?_); (case b1 => walk_at "ty"))
  | with_reducible refine q_lenT ?_
  | with_reducible refine q_lenL ?_
  | ((with_reducible refine' q_lenR ?b1 ?_); (case b1 => walk_at "at"))
  | ((with_reducible refine' q_lenD ?b1 ?_); (case b1 => walk_at "at"))
  | ((with_reducible refine' q_lenS ?b1 ?_); (case b1 => walk_at "sz"))
  | with_reducible refine q_lenSc ?_
  | with_reducible refine q_intI ?_
  | with_reducible refine q_intB ?_
  | with_reducible refine q_listT ?_
  | with_reducible refine q_listL ?_
  | ((with_reducible refine' q_listR ?b1 ?_); (case b1 => walk_at "at"))
  | ((with_reducible refine' q_listD ?b1 ?_); (case b1 => walk_at "at"))
  | ((with_reducible refine' q_tupR ?b1 ?_); (case b1 => walk_at "at"))
  | with_reducible refine q_tupL ?_
  | ((with_reducible refine' q_dictO ?b1 fun p => ?_); (case b1 => walk_at "at"))
  | with_reducible refine q_dictN fun p => ?_
  | with_reducible refine q_lstO ?_
  | with_reducible refine q_lstV ?_
  | with_reducible refine q_chain ?_
  | ((with_reducible refine' q_gTup ?b1 ?_); (case b1 => rfl))
  | with_reducible refine q_gCons ?_
  | with_reducible refine q_gNil ?_
  | with_reducible refine q_par ?_
  | with_reducible refine q_par3 ?_
  | with_reducible refine q_two ?_
  | with_reducible refine q_three ?_
  | ((with_reducible refine' q_saug ?b1 ?_); (case b1 => rfl))
  | with_reducible refine q_gSub ?_
  | ((with_reducible refine' q_setL ?b1 ?b2 ?b3 ?_); (case b1 => walk_at "at"); (case b2 => rfl); (case b3 => rfl))
  | with_reducible refine q_ownV ?_
  | with_reducible refine q_indexA ?_
  | ((with_reducible refine' q_indexB ?b1 ?_); (case b1 => decide +kernel))
  | ((with_reducible refine' q_listO ?b1 fun p => ?_); (case b1 => walk_at "at"))
  | with_reducible refine q_listOT fun p => ?_
  | ((with_reducible refine' q_popO ?b1 ?_); (case b1 => walk_at "at"))
  | with_reducible refine q_yes ?_
  | with_reducible refine q_cN ?_
  | with_reducible refine q_make0 ?_
  | with_reducible refine q_lstX ?_
  | with_reducible refine q_tupX ?_
  | ((with_reducible refine' q_iteT ?b1 ?_); (case b1 => first | rfl | decide +kernel))
  | ((with_reducible refine' q_iteF ?b1 ?_); (case b1 => first | rfl | decide +kernel))
  | with_reducible refine q_goS ?_
  | with_reducible refine q_goV ?_)
local macro_rules | `(tactic| walk_at "bv") => `(tactic| (repeat (walk_at "b1")))
def leaf (d : D) : Prop := d = .non ∨ (∃ b, d = .bl b) ∨ (∃ i, d = .int i) ∨ ∃ s, d = .str s ∧ sok s
/-- plain data, of such a depth -/
def gd : Nat → D → Prop
  | 0, d => leaf d
  | n + 1, d => leaf d ∨ ∃ ds, (d = .tup ds ∨ d = .lst ds) ∧ ds.length ≤ 1000000 ∧ ∀ x ∈ ds, gd n x
theorem gd_leaf {n : Nat} {d : D} (h : leaf d) : gd n d := by
  cases n with
  | zero => exact h
  | succ n => exact .inl h
def spn__law_same : Nat → BSp
  | 0 => fun _ _ _ _ => False
  | n + 1 => fun ex ds M R => ∃ d, ds = [d, d] ∧ gd n d ∧ M = [] ∧ R (.bl true) []
def sp__law_same : BSp := spn__law_same 8
def t__law_same (n : Nat) : RS := sSeq (sIf (rTst (rCB (bIsi2 .lst .tup) (rCons (rVar 1) (rCons (rTup (rCons (rC (.ty "list")) (rCons (rC (.ty "tuple")) rNil))) rNil)))) (sSeq (sAsg (rIf (rTst (rCB (bIsi .lst) (rCons (rVar 1) (rCons (rC (.ty "list")) rNil)))) (rCB (bIsi .lst) (rCons (rVar 0) (rCons (rC (.ty "list")) rNil))) (rCB (bIsi .tup) (rCons (rVar 0) (rCons (rC (.ty "tuple")) rNil)))) (gN 2)) (sSeq (sIf (rOr (rNot (rTst (rVar 2))) (rTst (rOp oNe (rCB bLenX (rCons (rVar 0) rNil)) (rCB bLenX (rCons (rVar 1) rNil))))) (sRet (rC (.bl false))) (sSkip)) (sRet (rCB bAll (rCons (rLc (iRng1 (rCons (rCB bLenX (rCons (rVar 1) rNil)) rNil)) (cN 3) (rYes) (rCall0 (spn__law_same n) (rCons (rOp oIx (rVar 0) (rVar 3)) (rCons (rOp oIx (rVar 1) (rVar 3)) rNil))) [3]) rNil))))) (sSkip)) (sSeq (sIf (rTst (rOp oIsN (rVar 1) (rC .non))) (sRet (rOp oIsN (rVar 0) (rC .non))) (sSkip)) (sSeq (sIf (rTst (rCB (bIsi .str) (rCons (rVar 1) (rCons (rC (.ty "str")) rNil)))) (sRet (rAndV (rCB (bIsi .str) (rCons (rVar 0) (rCons (rC (.ty "str")) rNil))) (rOp oEq (rVar 0) (rVar 1)))) (sSkip)) (sRet (rAndV (rCB (bIsi .int) (rCons (rVar 0) (rCons (rC (.ty "int")) rNil))) (rAndV (rOp oEq (rCB (bIsi .bl) (rCons (rVar 0) (rCons (rC (.ty "bool")) rNil))) (rCB (bIsi .bl) (rCons (rVar 1) (rCons (rC (.ty "bool")) rNil)))) (rOp oEq (rVar 0) (rVar 1)))))))
theorem len__law_same (n : Nat) : ∀ ex ds M R, spn__law_same (n + 1) ex ds M R → ds.length = 2 := by
  rintro ex ds M R ⟨d, rfl, _⟩
  rfl
theorem same_leaf {n : Nat} {ex : BX} {R : BQ} {d : D} (h : leaf d) (k : R (.bl true) []) : t__law_same n { ex := ex, nx := fun _ M' => R .non M', rt := R } (startB 4 [d, d]) [] := by
  unfold t__law_same
  rcases h with rfl | ⟨b, rfl⟩ | ⟨i, rfl⟩ | ⟨s, rfl, hs⟩
  · walk_at "bv"
    exact k
  · walk_at "bv"
    rw [show (b == b) = true by cases b <;> rfl]
    exact k
  · walk_at "bv"
    rw [decide_eq_true rfl]
    exact k
  · walk_at "bv"
    rw [decide_eq_true rfl]
    exact k
theorem same_items {te : RE} {τ : BSt} {K : List D → Mm → Prop} {l : Nat} (hl : l ≤ 1000000) (h : ∀ i, i < l → ∀ R : BQ, R (.bl true) [] → te nox (τ.set 3 (some (.int (i : Nat)))) [] R) (k : K ((List.range l).map fun _ => .bl true) []) : lcW (cN 3) rYes te nox τ K (rngD 0 l) [] [] := by
  unfold rngD
  refine lc_map (enc := fun (i : Nat) => .int (0 + (i : Nat))) (val := fun _ => .bl true) (xs := List.range l) (fun i hi R kk => ?_) (Nat.le_trans (show 0 + (List.range l).length ≤ 1000000 by simpa using hl) (Nat.le_of_ble_eq_true rfl)) k
  have := h i (List.mem_range.mp hi) R kk
  rw [Int.zero_add]
  exact this
theorem all_true {l : Nat} : ((List.range l).map fun _ => D.bl true) = (List.replicate l true).map .bl := by
  rw [List.map_replicate, List.map_const', List.length_range]
theorem rep_all {l : Nat} : (List.replicate l true).all id = true := by simp
theorem pure__law_same (n : Nat) : ∀ ex ds M R, spn__law_same (n + 1) ex ds M R → t__law_same n { ex := ex, nx := fun _ M' => R .non M', rt := R } (startB 4 ds) M := by
  rintro ex ds M R ⟨d, rfl, hd, rfl, k⟩
  cases n with
  | zero => exact same_leaf hd k
  | succ n =>
    rcases hd with hd | ⟨es, he, hl, hs⟩
    · exact same_leaf hd k
    have sub : ∀ i, i < es.length → ∃ z, es[i]? = some z ∧ gd n z := fun i hi => ⟨es[i], List.getElem?_eq_getElem hi, hs _ (List.getElem_mem hi)⟩
    unfold t__law_same
    rcases he with rfl | rfl
    · walk_at "bv"
      rw [decide_eq_true rfl]
      walk_at "bv"
      refine q_lc (q_rng1 ?_)
      walk_at "bv"
      refine ⟨_, rfl, ⟨by omega, by omega⟩, ?_⟩
      rw [Int.toNat_natCast]
      refine same_items hl (fun i hi R kk => ?_) ?_
      · obtain ⟨z, hz, hg⟩ := sub i hi
        walk_at "bv"
        refine q_ixT (at_nat hz) ?_
        walk_at "bv"
        refine q_ixT (at_nat hz) ?_
        walk_at "bv"
        exact cf_whole ⟨z, rfl, hg, rfl, kk⟩
      · rw [all_true]
        walk_at "bv"
        refine q_all ?_
        rw [rep_all]
        exact .go k
    · walk_at "bv"
      rw [decide_eq_true rfl]
      walk_at "bv"
      refine q_lc (q_rng1 ?_)
      walk_at "bv"
      refine ⟨_, rfl, ⟨by omega, by omega⟩, ?_⟩
      rw [Int.toNat_natCast]
      refine same_items hl (fun i hi R kk => ?_) ?_
      · obtain ⟨z, hz, hg⟩ := sub i hi
        walk_at "bv"
        refine q_ixL (at_nat hz) ?_
        walk_at "bv"
        refine q_ixL (at_nat hz) ?_
        walk_at "bv"
        exact cf_whole ⟨z, rfl, hg, rfl, kk⟩
      · rw [all_true]
        walk_at "bv"
        refine q_all ?_
        rw [rep_all]
        exact .go k
end BV
set_option maxHeartbeats 4000000
namespace BV
open PySem
local macro_rules | `(tactic| walk_at "pd") => `(tactic| (first | rfl | assumption | (apply pd_str; assumption) | decide +kernel))
local macro_rules | `(tactic| walk_at "ty") => `(tactic| (first | exact TyD.tup _ | exact TyD.str _ | exact TyD.lst _ | exact TyD.bl _ | exact TyD.int _ | exact TyD.non | (apply TyD.ref; walk_at "at")))
local macro_rules | `(tactic| walk_at "sz") => `(tactic| (first | assumption | exact Nat.le_of_ble_eq_true rfl))
local macro_rules | `(tactic| walk_at "at") => `(tactic| (repeat (first | exact At.here | apply At.there | apply At.app)))
local macro_rules | `(tactic| walk_at "sok") => `(tactic| (first | assumption | (show PyData.strOk _ = true; decide +kernel)))
local macro_rules | `(tactic| walk_at "b1") => `(tactic| first
  | with_reducible refine q_seq ?_
  | with_reducible refine q_if ?_
  | with_reducible refine q_tst ?_
  | with_reducible refine q_op ?_
  | with_reducible refine q_c ?_
  | ((with_reducible refine' q_var ?b1 ?_); (case b1 => rfl))
  | with_reducible refine q_fld ?_
  | ((with_reducible refine' q_fldR ?b1 ?b2 ?_); (case b1 => walk_at "at"); (case b2 => rfl))
  | ((with_reducible refine' q_fldV ?b2 ?_); (case b2 => rfl))
  | ((with_reducible refine' q_eqS ?b1 ?b2 ?_); (case b1 => walk_at "sok"); (case b2 => walk_at "sok"))
  | ((with_reducible refine' q_neS ?b1 ?b2 ?_); (case b1 => walk_at "sok"); (case b2 => walk_at "sok"))
  | with_reducible refine q_eqB ?_
  | with_reducible refine q_eqI ?_
  | with_reducible refine q_neI ?_
  | with_reducible refine q_addI ?_
  | with_reducible refine q_oadd ?_
  | with_reducible refine q_osub ?_
  | with_reducible refine q_lt ?_
  | with_reducible refine q_le ?_
  | with_reducible refine q_gt ?_
  | with_reducible refine q_ge ?_
  | with_reducible refine q_isN ?_
  | with_reducible refine q_notN ?_
  | ((with_reducible refine' q_ixT ?b2 ?_); (case b2 => rfl))
  | ((with_reducible refine' q_ixL ?b2 ?_); (case b2 => rfl))
  | ((with_reducible refine' q_ixR ?b1 ?b2 ?_); (case b1 => walk_at "at"); (case b2 => rfl))
  | with_reducible refine q_bl ?_
  | with_reducible refine q_ret ?_
  | with_reducible refine q_retN ?_
  | with_reducible refine q_skip ?_
  | with_reducible refine q_drop ?_
  | with_reducible refine q_asg ?_
  | with_reducible refine q_gN ?_
  | with_reducible refine q_gFld ?_
  | with_reducible refine q_aug ?_
  | with_reducible refine q_isRef ?_
  | ((with_reducible refine' q_put ?b1 ?b2 ?b3 ?_); (case b1 => walk_at "at"); (case b2 => rfl); (case b3 => rfl))
  | with_reducible refine q_nil ?_
  | with_reducible refine q_cons ?_
  | with_reducible refine q_not ?_
  | with_reducible refine q_and ?_
  | with_reducible refine q_or ?_
  | with_reducible refine q_andV ?_
  | with_reducible refine q_orV ?_
  | with_reducible refine q_notV ?_
  | with_reducible refine q_ifE ?_
  | with_reducible refine q_tup ?_
  | ((with_reducible refine' q_szA ?b1 fun p => ?_); (case b1 => walk_at "sz"))
  | ((with_reducible refine' q_sz ?b1 ?_); (case b1 => walk_at "sz"))
  | with_reducible refine q_bm ?_
  | ((with_reducible refine' q_own ?b1 ?_); (case b1 => walk_at "at"))
  | ((with_reducible refine' q_append ?b1 ?b2 ?_); (case b1 => walk_at "at"); (case b2 => walk_at "sz"))
  | with_reducible refine q_call0 ?_
  | with_reducible refine q_meth0 ?_
  | ((with_reducible refine' q_isR ?b1 ?_); (case b1 => walk_at "at"))
  | ((with_reducible refine' q_isP ?b1 ?_); (case b1 => exact Or.inr ⟨_, rfl⟩))
  | with_reducible refine q_dct ?_
  | with_reducible refine q_dget ?_
  | ((with_reducible refine' q_dctE ?b1 ?_); (case b1 => walk_at "at"))
  | with_reducible refine q_dinT ?_
  | with_reducible refine q_dinF ?_
  | with_reducible refine q_dget1 ?_
  | ((with_reducible refine' q_isDct ?b1 ?_); (case b1 => walk_at "at"))
  | ((with_reducible refine' q_setD ?b1 ?b2 ?_); (case b1 => walk_at "at"); (case b2 => walk_at "sz"))
  | with_reducible refine q_orT ?_
  | ((with_reducible refine' q_orTT ?b1 ?_); (case b1 => rfl))
  | with_reducible refine q_cb ?_
  | ((with_reducible refine' q_inT ?b1 ?b2 rfl ?_); (case b1 => walk_at "pd"); (case b2 => walk_at "pd"))
  | ((with_reducible refine' q_notInT ?b1 ?b2 rfl ?_); (case b1 => walk_at "pd"); (case b2 => walk_at "pd"))
  | ((with_reducible refine' q_isi rfl ?b1 ?_); (case b1 => walk_at "ty"))
  | ((with_reducible refine' q_isi2 rfl rfl ?b1 ?_); (case b1 => walk_at "ty"))
  | with_reducible refine q_lenT ?_
  | with_reducible refine q_lenL ?_
  | ((with_reducible refine' q_lenR ?b1 ?_); (case b1 => walk_at "at"))
  | ((with_reducible refine' q_lenD ?b1 ?_); (case b1 => walk_at "at"))
  | ((with_reducible refine' q_lenS ?b1 ?_); (case b1 => walk_at "sz"))
  | with_reducible refine q_lenSc ?_
  | with_reducible refine q_intI ?_
  | with_reducible refine q_intB ?_
  | with_reducible refine q_listT ?_
  | with_reducible refine q_listL ?_
  | ((with_reducible refine' q_listR ?b1 ?_); (case b1 => walk_at "at"))
  | ((with_reducible refine' q_listD ?b1 ?_); (case b1 => walk_at "at"))
  | ((with_reducible refine' q_tupR ?b1 ?_); (case b1 => walk_at "at"))
  | with_reducible refine q_tupL ?_
  | ((with_reducible refine' q_dictO ?b1 fun p => ?_); (case b1 => walk_at "at"))
  | with_reducible refine q_dictN fun p => ?_
  | with_reducible refine q_lstO ?_
  | with_reducible refine q_lstV ?_
  | with_reducible refine q_chain ?_
  | ((with_reducible refine' q_gTup ?b1 ?_); (case b1 => rfl))
  | with_reducible refine q_gCons ?_
  | with_reducible refine q_gNil ?_
  | with_reducible refine q_par ?_
  | with_reducible refine q_par3 ?_
  | with_reducible refine q_two ?_
  | with_reducible refine q_three ?_
  | ((with_reducible refine' q_saug ?b1 ?_); (case b1 => rfl))
  | with_reducible refine q_gSub ?_
  | ((with_reducible refine' q_setL ?b1 ?b2 ?b3 ?_); (case b1 => walk_at "at"); (case b2 => rfl); (case b3 => rfl))
  | with_reducible refine q_ownV ?_
  | with_reducible refine q_indexA ?_
  | ((with_reducible refine' q_indexB ?b1 ?_); (case b1 => decide +kernel))
  | ((with_reducible refine' q_listO ?b1 fun p => ?_); (case b1 => walk_at "at"))
  | with_reducible refine q_listOT fun p => ?_
  | ((with_reducible refine' q_popO ?b1 ?_); (case b1 => walk_at "at"))
  | with_reducible refine q_yes ?_
  | with_reducible refine q_cN ?_
  | with_reducible refine q_make0 ?_
  | with_reducible refine q_lstX ?_
  | with_reducible refine q_tupX ?_
  | ((with_reducible refine' q_iteT ?b1 ?_); (case b1 => first | rfl | decide +kernel))
  | ((with_reducible refine' q_iteF ?b1 ?_); (case b1 => first | rfl | decide +kernel))
  | with_reducible refine q_goS ?_
  | with_reducible refine q_goV ?_)
local macro_rules | `(tactic| walk_at "bv") => `(tactic| (repeat (walk_at "b1")))
def t__law_shows : RS := sSeq (sIf (rNot (rTst (rCall0 sp__law_same (rCons (rLstV (rCons (rMeth0 .desk sp_Desk_people (rVar 0) rNil) (rCons (rCB (bLenOwn .desk sp_Desk___len__) (rCons (rVar 0) rNil)) (rCons (rProp0 .desk sp_Desk_replies (rVar 0)) rNil)))) (rCons (rLstV (rCons (rCB bListX (rCons (rVar 2) rNil)) (rCons (rVar 3) (rCons (rVar 4) rNil)))) rNil))))) (sRet (rC (.bl false))) (sSkip)) (sSeq (sForD keysD (rVar 2) (gN 5) (sIf (rOr (rNot (rTst (rCall0 sp__law_same (rCons (rMeth0 .desk sp_Desk_ticket (rVar 0) (rCons (rVar 5) rNil)) (rCons (rDGet (rVar 2) (rVar 5)) rNil))))) (rTst (rOp (oInOwn .desk sp_Desk___contains__ true) (rVar 5) (rVar 0)))) (sRet (rC (.bl false))) (sSkip))) (sSeq (sFor (iSeq (rVar 1)) (gN 6) (sSeq (sAsg (rLcD keysD (rVar 2) (cN 5) (rAnd (rTst (rOp oEq (rOp oIx (rDGet (rVar 2) (rVar 5)) (rC (.int 1))) (rVar 6))) (rTst (rOp oNe (rOp oIx (rDGet (rVar 2) (rVar 5)) (rC (.int 0))) (rC (.str "closed"))))) (rVar 5) [5]) (gN 7)) (sIf (rNot (rTst (rCall0 sp__law_same (rCons (rMeth0 .desk sp_Desk_at (rVar 0) (rCons (rVar 6) rNil)) (rCons (rVar 7) rNil))))) (sRet (rC (.bl false))) (sSkip)))) (sRet (rC (.bl true)))))
theorem q_prop0 {ex : BX} {τ : BSt} {M : Mm} {R : BQ} {te : RE} {c : Cl} {sp : BSp} (k : te ex τ M fun d M1 => IsI c d M1 ∧ Cf sp nox [d] M1 R) : rProp0 c sp te ex τ M R := k
/-- what a law asks of a desk's tickets -/
structure Hs.fit (h : Hs) : Prop where
  ok : h.ok
  nd : (keysT h.tk).Nodup
  desks : DesksOk h.bk.desks
  nm : ∀ x ∈ keysT h.tk, isNm x = true
def sp__law_shows : BSp := fun ex ds M R => ∃ p t e h tt, ds = [.ref p, .tup (sts (Bk.desks (Hs.bk h))), .ref tt, .int (h.saved.length : Nat), .int h.total] ∧ h.fit ∧ M = Hs.m h p t e ++ [(tt, .dct (kvD h.tk))] ∧ R (.bl true) M
theorem len__law_shows : ∀ ex ds M R, sp__law_shows ex ds M R → ds.length = 5 := by
  rintro ex ds M R ⟨p, t, e, h, tt, rfl, _⟩
  rfl
theorem at_m {h : Hs} {p t e : Addr} {F : Mm} : At (h.m p t e ++ F) p (.ins .desk [h.bk.d, .ref t, .int h.total, .ref e]) (fun o' => h.c ++ ((p, o') :: (t, .dct (kvD h.tk)) :: (e, .lst h.rows) :: F)) := by
  unfold Hs.m
  rw [List.append_assoc]
  exact .app .here
theorem isI_m {h : Hs} {p t e : Addr} {F : Mm} : IsI .desk (.ref p) (h.m p t e ++ F) := .inl ⟨p, _, _, rfl, at_m⟩
theorem at_tt {h : Hs} {p t e tt : Addr} {o : MO} : At (h.m p t e ++ [(tt, o)]) tt o (fun o' => h.m p t e ++ [(tt, o')]) := .app .here
theorem gd_names {n : Nat} {l : List Str} (h : ∀ x ∈ l, sok x) (hl : l.length ≤ 1000000) : gd (n + 1) (.lst (sts l)) := .inr ⟨_, .inr rfl, by rw [sts_len]; exact hl, fun x hx => by
  obtain ⟨s, hs, rfl⟩ := mem_sts hx
  exact gd_leaf (.inr (.inr (.inr ⟨s, rfl, h s hs⟩)))⟩
theorem gd_tk {n : Nat} {t : Tk} (h : t.ok) : gd (n + 1) t.d := .inr ⟨_, .inl rfl, by show 5 ≤ 1000000; decide, fun x hx => by
  unfold Tk.l at hx
  simp only [List.mem_cons, List.mem_nil_iff, or_false] at hx
  rcases hx with rfl | rfl | rfl | rfl | rfl
  · exact gd_leaf (.inr (.inr (.inr ⟨_, rfl, h.1⟩)))
  · exact gd_leaf (.inr (.inr (.inr ⟨_, rfl, h.2⟩)))
  · exact gd_leaf (.inr (.inl ⟨_, rfl⟩))
  · exact gd_leaf (.inr (.inr (.inl ⟨_, rfl⟩)))
  · exact gd_leaf (.inr (.inl ⟨_, rfl⟩))⟩
theorem keys_sok {h : Hs} (ok : h.fit) : ∀ x ∈ keysT h.tk, sok x := fun x hx => nm_sok (ok.nm x hx)
theorem keys_few {h : Hs} (ok : h.fit) : (keysT h.tk).length ≤ 1000 := by rw [keysT_len]; exact ok.ok.few
def b_s1 : RS := sIf (rOr (rNot (rTst (rCall0 sp__law_same (rCons (rMeth0 .desk sp_Desk_ticket (rVar 0) (rCons (rVar 5) rNil)) (rCons (rDGet (rVar 2) (rVar 5)) rNil))))) (rTst (rOp (oInOwn .desk sp_Desk___contains__ true) (rVar 5) (rVar 0)))) (sRet (rC (.bl false))) (sSkip)
theorem shows_loop {B : BEnds} {p t e tt : Addr} {h : Hs} {x1 x3 x4 x6 x7 : Option D} (ok : h.fit) {o : Obj} {ws : List (L2.Key × L2.V)} : ∀ (l : List Str) (x5 : Option D), (∀ x ∈ l, x ∈ keysT h.tk) →
    (∀ x5, B.nx [some (.ref p), x1, some (.ref tt), x3, x4, x5, x6, x7] (h.m p t e ++ [(tt, .dcl o ws (kvD h.tk))])) →
    forG (GD tt o ws (kvD h.tk)) (gN 5) b_s1 B (sts l) [some (.ref p), x1, some (.ref tt), x3, x4, x5, x6, x7] (h.m p t e ++ [(tt, .dcl o ws (kvD h.tk))])
  | [], x5, _, k => ⟨⟨_, at_tt⟩, .go (k _)⟩
  | x :: l, x5, hl, k => by
    have hm := hl x List.mem_cons_self
    have hnm := ok.nm x hm
    obtain ⟨y, hy⟩ : ∃ y, getT h.tk x = some y := by
      have := getT_mem (l := h.tk) (x := x)
      rw [decide_eq_true hm] at this
      exact Option.isSome_iff_exists.mp this
    refine ⟨⟨_, at_tt⟩, ?_⟩
    refine q_gN ?_
    unfold b_s1
    refine q_if (q_or (q_not (q_tst (q_call0 (q_cons (q_meth0 ?_))))))
    walk_at "bv"
    refine q_isP isI_m ?_
    walk_at "bv"
    refine cf_head ⟨p, t, e, h, x, y, rfl, hnm, hy, rfl, ?_⟩
    walk_at "bv"
    refine q_dctL at_tt ?_
    refine ⟨y.d, by rw [getK_kvD, hy]; rfl, ?_⟩
    walk_at "bv"
    refine cf_pure ⟨y.d, rfl, gd_tk (getT_ok ok.ok.tk hy), rfl, ?_⟩
    walk_at "bv"
    rw [List.nil_append]
    refine ⟨isI_m, cf_head ⟨p, t, e, h, x, rfl, hnm, rfl, _, rfl, ?_⟩⟩
    rw [hy]
    walk_at "bv"
    exact .go (shows_loop ok l _ (fun z hz => hl z (List.mem_cons_of_mem _ hz)) k)
def b_s2 : RS := sSeq (sAsg (rLcD keysD (rVar 2) (cN 5) (rAnd (rTst (rOp oEq (rOp oIx (rDGet (rVar 2) (rVar 5)) (rC (.int 1))) (rVar 6))) (rTst (rOp oNe (rOp oIx (rDGet (rVar 2) (rVar 5)) (rC (.int 0))) (rC (.str "closed"))))) (rVar 5) [5]) (gN 7)) (sIf (rNot (rTst (rCall0 sp__law_same (rCons (rMeth0 .desk sp_Desk_at (rVar 0) (rCons (rVar 6) rNil)) (rCons (rVar 7) rNil))))) (sRet (rC (.bl false))) (sSkip))
def atK (h : Hs) (name : Str) (x : Str) : Bool := match getT h.tk x with
  | some y => atP name (x, y)
  | none => false
theorem filt_keys {name : Str} : ∀ {l : List (Str × Tk)}, (keysT l).Nodup → ((keysT l).filter fun x => match getT l x with | some y => atP name (x, y) | none => false) = (l.filter (atP name)).map (·.1) := by
  intro l hn
  have key : ∀ {r : List (Str × Tk)}, (∀ y ∈ r, getT l y.1 = some y.2) → ((keysT r).filter fun x => match getT l x with | some y => atP name (x, y) | none => false) = (r.filter (atP name)).map (·.1) := by
    intro r hr
    induction r with
    | nil => rfl
    | cons y r ih =>
      have e := hr y List.mem_cons_self
      have i := ih fun z hz => hr z (List.mem_cons_of_mem _ hz)
      show ((y.1 :: keysT r).filter _) = _
      rw [List.filter_cons, List.filter_cons, e]
      simp only
      by_cases hq : atP name y = true
      · rw [if_pos (show atP name (y.1, y.2) = true from hq), if_pos hq, i]; rfl
      · rw [if_neg (show ¬ atP name (y.1, y.2) = true from hq), if_neg hq, i]
  refine key ?_
  clear key
  intro y hy
  induction l with
  | nil => cases hy
  | cons z r ih =>
    obtain ⟨f, d⟩ := z
    have hn2 : f ∉ keysT r ∧ (keysT r).Nodup := List.nodup_cons.mp hn
    rcases List.mem_cons.mp hy with e | hy2
    · subst e
      unfold getT
      rw [if_pos rfl]
    · unfold getT
      rw [if_neg (fun q => hn2.1 (by rw [q]; exact List.mem_map.mpr ⟨y, hy2, rfl⟩))]
      exact ih hn2.2 hy2
theorem shows_loop2 {B : BEnds} {p t e tt : Addr} {h : Hs} {x1 x3 x4 : Option D} (ok : h.fit) (hn : (keysT h.tk).Nodup) : ∀ (l : List Str) (x5 x6 x7 : Option D), (∀ x ∈ l, x ∈ h.bk.desks) →
    (∀ x5 x6 x7, B.nx [some (.ref p), x1, some (.ref tt), x3, x4, x5, x6, x7] (h.m p t e ++ [(tt, .dct (kvD h.tk))])) →
    forW (gN 6) b_s2 B (sts l) [some (.ref p), x1, some (.ref tt), x3, x4, x5, x6, x7] (h.m p t e ++ [(tt, .dct (kvD h.tk))])
  | [], x5, x6, x7, _, k => .go (k _ _ _)
  | x :: l, x5, x6, x7, hl, k => by
    have hm := hl x List.mem_cons_self
    have hnm := ok.desks.nm x hm
    have hxs := nm_sok hnm
    refine q_gN ?_
    unfold b_s2
    refine q_stop (q_asg ?_)
    refine ⟨tt, kvD h.tk, _, at_tt, fun o ws => ?_⟩
    walk_at "bv"
    refine ⟨rfl, ⟨_, at_tt⟩, ?_⟩
    rw [keysD_kvD]
    refine lcG_filter (enc := .str) (val := .str) (xs := keysT h.tk) (σ := fun (y : Str) => [some (.ref p), x1, some (.ref tt), x3, x4, some (.str y), some (.str x), x7]) (p := atK h x) ⟨_, at_tt⟩ (fun y hy Q q => q) (fun y hy R q => ?_) (fun y hy _ R q => ?_) (Nat.le_trans (show 0 + (keysT h.tk).length ≤ 1000 by have := keys_few ok; omega) (Nat.le_of_ble_eq_true rfl)) ⟨_, at_tt, ?_⟩
    · obtain ⟨w, hw⟩ : ∃ w, getT h.tk y = some w := by
        have := getT_mem (l := h.tk) (x := y)
        rw [decide_eq_true hy] at this
        exact Option.isSome_iff_exists.mp this
      have hwo := getT_ok ok.ok.tk hw
      have hg : getK (kvD h.tk) y = some w.d := by rw [getK_kvD, hw]; rfl
      unfold atK atP at q
      rw [hw] at q
      simp only at q
      have h1 := hwo.1
      have h2 := hwo.2
      unfold Tk.d Tk.l at hg
      walk_at "bv"
      refine q_dctL at_tt ⟨_, hg, ?_⟩
      walk_at "bv"
      refine q_iteD (fun h3 => ?_) (fun h3 => ?_)
      · rw [decide_eq_true h3, Bool.true_and] at q
        walk_at "bv"
        refine q_dctL at_tt ⟨_, hg, ?_⟩
        walk_at "bv"
        exact q
      · rw [decide_eq_false h3, Bool.false_and] at q
        exact q
    · walk_at "bv"
      exact q
    · rw [List.nil_append, show (keysT h.tk).filter (atK h x) = (h.tk.filter (atP x)).map (·.1) from filt_keys hn]
      walk_at "bv"
      refine stop_go ?_
      refine q_if (q_not (q_tst (q_call0 (q_cons (q_meth0 ?_)))))
      walk_at "bv"
      refine q_isP isI_m ?_
      walk_at "bv"
      refine cf_head ⟨p, t, e, h, x, rfl, hnm, hm, ok.ok, rfl, ?_⟩
      walk_at "bv"
      have hks : ∀ s ∈ (h.tk.filter (atP x)).map (·.1), sok s := fun s hs => by
        obtain ⟨y, hy, rfl⟩ := List.mem_map.mp hs
        exact (ok.ok.tk y (List.mem_filter.mp hy).1).1
      have hlen : ((h.tk.filter (atP x)).map (·.1)).length ≤ 1000000 := by
        rw [List.length_map]
        exact Nat.le_trans (List.length_filter_le _ _) (Nat.le_trans ok.ok.few (by decide))
      refine cf_pure ⟨_, rfl, gd_names hks hlen, rfl, ?_⟩
      walk_at "bv"
      rw [List.nil_append]
      exact .go (shows_loop2 ok hn l _ _ _ (fun z hz => hl z (List.mem_cons_of_mem _ hz)) k)
theorem pure__law_shows : ∀ ex ds M R, sp__law_shows ex ds M R → t__law_shows { ex := ex, nx := fun _ M' => R .non M', rt := R } (startB 8 ds) M := by
  rintro ex ds M R ⟨p, t, e, h, tt, rfl, ok, rfl, k⟩
  unfold t__law_shows
  refine q_stop (q_if (q_not (q_tst (q_call0 (q_cons (q_lstV (q_cons (q_meth0 ?_))))))))
  walk_at "bv"
  refine q_isP isI_m ?_
  walk_at "bv"
  refine cf_head ⟨p, t, e, h, rfl, rfl, ?_⟩
  walk_at "bv"
  have hsv := ok.ok.sv
  refine ⟨_, rfl, isI_m, cf_head ⟨p, t, e, h, rfl, rfl, _, rfl, by omega, by omega, ?_⟩⟩
  refine q_cons (q_prop0 ?_)
  walk_at "bv"
  refine q_isP isI_m ?_
  refine cf_head ⟨p, t, e, h, rfl, rfl, ?_⟩
  walk_at "bv"
  rw [keysD_kvD]
  have hk := gd_names (n := 6) (keys_sok ok) (Nat.le_trans (keys_few ok) (by decide))
  refine cf_pure ⟨_, rfl, .inr ⟨_, .inr rfl, by show 3 ≤ 1000000; decide, fun x hx => ?_⟩, rfl, ?_⟩
  · simp only [List.mem_cons, List.mem_nil_iff, or_false] at hx
    rcases hx with rfl | rfl | rfl
    · exact gd_names (n := 5) (keys_sok ok) (Nat.le_trans (keys_few ok) (by decide))
    · exact gd_leaf (.inr (.inr (.inl ⟨_, rfl⟩)))
    · exact gd_leaf (.inr (.inr (.inl ⟨_, rfl⟩)))
  walk_at "bv"
  rw [List.nil_append]
  refine stop_go (q_stop ?_)
  refine ⟨tt, kvD h.tk, _, at_tt, fun o ws => ?_⟩
  walk_at "bv"
  refine ⟨rfl, ⟨_, at_tt⟩, ?_⟩
  rw [keysD_kvD]
  refine shows_loop ok (keysT h.tk) _ (fun x hx => hx) fun x5 => ⟨_, at_tt, stop_go (q_stop ?_)⟩
  refine q_for (q_seqT ?_)
  walk_at "bv"
  refine shows_loop2 ok ok.nd h.bk.desks _ _ _ (fun x hx => hx) fun x5 x6 x7 => stop_go ?_
  walk_at "bv"
  exact k
end BV
set_option maxHeartbeats 4000000
namespace BV
open PySem PySem.Spec PyProof.Rows L2
/-! ### more rules: a list against the empty one; results seen by value -/
section
variable {X : Cx}
theorem vals_len {vs : List V} {us : List Value} (h : Vals vs us) : vs.length = us.length := by
  induction h with
  | nil => rfl
  | cons _ _ ih => simp [ih]
def oEqE : R2B := fun d e M R => ∃ ds, LstD d M ds ∧ e = .lst [] ∧ R (.bl ds.isEmpty) M
def oNeE : R2B := fun d e M R => ∃ ds, LstD d M ds ∧ e = .lst [] ∧ R (.bl (!ds.isEmpty)) M
theorem bo_eqE (hu : X.A.units < cLine) : BOp X (compareOp .Eq) oEqE := fun pins s σ H x y v u Q I rx ry h => by
  obtain ⟨d, e, M, Fm, R, dx, dy, sr, ⟨ds, hd, rfl, r⟩, k⟩ := h
  obtain ⟨a, vs, rfl, ha, dvs⟩ := hd.ho dx sr
  cases dy with
  | @lst b ws _ hb hs =>
    cases hs
    obtain ⟨its, n, rv, e1, _⟩ := Inv.lst I ha
    obtain ⟨its2, n2, rv2, e2, _⟩ := Inv.lst I hb.2
    cases rv2
    obtain rfl : v = .ref a := rx
    obtain rfl : u = .ref b := ry
    have q := k _ H _ M (.bl ds.isEmpty) sr .refl r
    have ln := dvs.length
    rw [vals_len rv] at ln
    cases ds with
    | nil =>
      have e0 : its = [] := List.eq_nil_of_length_eq_zero ln
      subst e0
      exact SeqAt.eq_listAt (e := fun _ => true) (PySem.IsL.isList e1) (PySem.IsL.isList e2) rfl hu (fun j h1 _ => by simp at h1) ⟨.bl true, H, I, rfl, q⟩
    | cons z zs =>
      refine SeqAt.eq_list_lengthsAt (PySem.IsL.isList e1) (PySem.IsL.isList e2) ?_ hu ⟨.bl false, H, I, rfl, q⟩
      simp only [List.size_toArray, List.length_nil]
      rw [ln]
      rfl
theorem bo_neE (hu : X.A.units < cLine) : BOp X (compareOp .NotEq) oNeE := fun pins s σ H x y v u Q I rx ry h => by
  obtain ⟨d, e, M, Fm, R, dx, dy, sr, ⟨ds, hd, rfl, r⟩, k⟩ := h
  obtain ⟨a, vs, rfl, ha, dvs⟩ := hd.ho dx sr
  cases dy with
  | @lst b ws _ hb hs =>
    cases hs
    obtain ⟨its, n, rv, e1, _⟩ := Inv.lst I ha
    obtain ⟨its2, n2, rv2, e2, _⟩ := Inv.lst I hb.2
    cases rv2
    obtain rfl : v = .ref a := rx
    obtain rfl : u = .ref b := ry
    have q := k _ H _ M (.bl (!ds.isEmpty)) sr .refl r
    have ln := dvs.length
    rw [vals_len rv] at ln
    cases ds with
    | nil =>
      have e0 : its = [] := List.eq_nil_of_length_eq_zero ln
      subst e0
      exact SeqAt.RcNeAt.lists (e := fun _ => true) (PySem.IsL.isList e1) (PySem.IsL.isList e2) rfl hu (fun j h1 _ => by simp at h1) X.prog X.w _ _ ⟨.bl false, H, I, rfl, q⟩
    | cons z zs =>
      refine SeqAt.RcNeAt.lists_lengths (PySem.IsL.isList e1) (PySem.IsL.isList e2) ?_ hu X.prog X.w _ _ ⟨.bl true, H, I, rfl, q⟩
      simp only [List.size_toArray, List.length_nil]
      rw [ln]
      rfl
end
theorem DVs.reverse {K : PySem.W.Frag} {L : List Addr} {H : Hp} : ∀ {vs : List V} {ds : List D}, DVs K L H vs ds → DVs K L H vs.reverse ds.reverse
  | _, _, .nil => .nil
  | _, _, .cons h hs => by
    rw [List.reverse_cons, List.reverse_cons]
    exact (DVs.reverse hs).snoc h
def mReverse : RM := fun d ds M R => ∃ a es k, d = .ref a ∧ ds = [] ∧ At M a (.lst es) k ∧ R .non (k (.lst es.reverse))
theorem bm_reverse {X : Cx} : BM X "list.reverse" mReverse := MtR.weak mt_reverse fun x vs H Q ⟨d, ds, M, Fm, R, dx, dvs, sr, ⟨a, es, kk, e1, e2, h, r⟩, k⟩ => by
  subst e1 e2
  cases dx
  cases dvs
  obtain ⟨us, hv, hs⟩ := sr.at h.hid
  have f2 : Fr H (keys (M ++ Fm)) (L2.upd H a (.lst us.reverse)) (keys (kk (.lst es.reverse) ++ Fm)) := fr_at (o' := .lst es.reverse) h.hid
  exact ⟨a, us, rfl, rfl, hv, k _ _ _ _ .non (SR.upd (o' := .lst es.reverse) sr h.hid ⟨_, upd_same, (hs.mono f2).reverse⟩) f2 r⟩
theorem q_reverse {M : Mm} {R : BQ} {a : Addr} {es : List D} {kk : MO → Mm} (h : At M a (.lst es) kk) (k : R .non (kk (.lst es.reverse))) : mReverse (.ref a) [] M R := ⟨a, es, kk, rfl, rfl, h, k⟩
theorem hu0 {A : Around} {k : Nat} (h : L2.Room k A) : A.units < cLine := Nat.lt_of_le_of_lt (Nat.le_add_right _ _) h.units
/-- ok_def, the state behind the body seen another way -/
theorem ok_defC {P : Program} {w : World} {K : PySem.W.Frag} {mg : Str → Option Value} {base : Heap} {x qual : Str} {params : Arguments} {body : List Stmt} {scope : Scope} {N ps : List Str} {k : Nat} {sp : BSp} {t : RS} {f : Addr}
    (F : ∃ fd, FunD K x qual params body scope [] [] f fd) (S : FnScope N ps scope)
    (hb : ∀ (kV doc pm : Value) (an : Option Addr) (cdv ct : Value) (us : List Value), us.length = ps.length → bindArgs (PySem.W.fnOf x qual params body scope .none kV doc pm an cdv ct) ⟨us, []⟩ = pure (ps.zip us))
    (len : ∀ ex ds M R, sp ex ds M R → ds.length = ps.length)
    (hbody : ∀ (cdv : Value) (A : Around) (outer : List Env) (s : Shared) (H : Hp) (E : XK), Room k (A.deeper (envOfC qual scope s.heap.objs.size f cdv)) → BSs (cxOf CX0 P w K mg base N qual scope f cdv A outer s H E).nox E body t)
    (hpure : ∀ ex ds M R, sp ex ds M R → t { ex := ex, nx := fun _ M' => Stop (CvV .non M' R), rt := R } (startB N.length ds) M) : OkA P w K mg base (k + 1) f ps sp := by
  obtain ⟨fd, F⟩ := F
  have lk : ∃ oc od osl, K.lookup f = some ⟨oc, od, .func fd, osl⟩ := by
    obtain ⟨oc, od, dV, kV, doc, pm, an, cdv, ct, osl, rfl, lk, _⟩ := F.ex
    exact ⟨oc, od, osl, lk⟩
  refine ⟨fd, ?_, F.bindsN hb, F.kp, lk⟩
  refine F.ok S (fun vs H Q E ⟨ds, M, Fm, R, ex, dv, _, _, h, _⟩ => dv.length.trans (len _ _ _ _ h)) fun cdv A outer s H vs Q E hr ⟨ds, M, Fm, R, ex, dv, sr, xp, h, k⟩ => ?_
  refine ⟨_, (hbody cdv A outer s H E hr).nox, startB N.length ds, M, Fm, { ex := ex, nx := fun _ M' => Stop (CvV .non M' R), rt := R }, ⟨start_sg dv, sr, xp⟩, hpure _ _ _ _ h, ?_, k, ?_, ?_⟩
  · intro σ' H' τ' M' _ sr' f ⟨d2, M2, c, r⟩
    obtain ⟨dv2, sr2, k2⟩ := c K H' [.non] Fm (.cons .non .nil) sr'
    cases dv2 with
    | cons dv2 _ => exact k .non H' d2 M2 dv2 sr2 (f.trans (fr_sub k2)) r
  · exact fun _ _ _ _ _ _ _ r => r.elim
  · exact fun _ _ _ _ _ _ _ r => r.elim
theorem bs_par3X {X : Cx} {E : XK} {st : Stmt} {i j l : Nat} {ta : RA} (h : PS X st (tPar3 i j l (liftA X.K E ta))) : BS X E st (sPar3 i j l ta) := bs_par3Of h
theorem OkA.weak {P : Program} {w : World} {K : PySem.W.Frag} {mg : Str → Option Value} {base : Heap} {k : Nat} {f : Addr} {ps : List Str} {sp sp' : BSp} (h : OkA P w K mg base k f ps sp) (hs : ∀ ex ds M R, sp' ex ds M R → sp ex ds M R) : OkA P w K mg base k f ps sp' := by
  obtain ⟨fd, F, b, kp, lk⟩ := h
  exact ⟨fd, F.imp fun vs H Q E ⟨ds, M, Fm, R, ex, a1, a2, a3, a4, a5⟩ => ⟨ds, M, Fm, R, ex, a1, a2, a3, hs _ _ _ _ a4, a5⟩, b, kp, lk⟩
/-- a result seen another way -/
theorem OkA.cv {P : Program} {w : World} {K : PySem.W.Frag} {mg : Str → Option Value} {base : Heap} {k : Nat} {f : Addr} {ps : List Str} {sp sp' : BSp} (h : OkA P w K mg base k f ps sp) (hs : ∀ ex ds M R, sp' ex ds M R → sp ex ds M fun d M' => CvV d M' R) : OkA P w K mg base k f ps sp' := by
  obtain ⟨fd, F, b, kp, lk⟩ := h
  refine ⟨fd, F.imp fun vs H Q E ⟨ds, M, Fm, R, ex, a1, a2, a3, a4, a5⟩ => ⟨ds, M, Fm, _, ex, a1, a2, a3, hs _ _ _ _ a4, fun v H' d M' dv sr f ⟨d2, M2, c, r⟩ => ?_⟩, b, kp, lk⟩
  obtain ⟨dv2, sr2, k2⟩ := c K H' [v] Fm (.cons dv .nil) sr
  cases dv2 with
  | cons dv2 _ => exact a5 v H' d2 M2 dv2 sr2 (f.trans (fr_sub k2)) r
section
variable {ex : BX} {τ : BSt} {M : Mm} {R : BQ} {ds : List D} {a : Addr} {kk : MO → Mm}
theorem q_eqE (h : At M a (.lst ds) kk) (k : R (.bl ds.isEmpty) M) : oEqE (.ref a) (.lst []) M R := ⟨ds, .inr ⟨a, kk, rfl, h⟩, rfl, k⟩
theorem q_neE (h : At M a (.lst ds) kk) (k : R (.bl (!ds.isEmpty)) M) : oNeE (.ref a) (.lst []) M R := ⟨ds, .inr ⟨a, kk, rfl, h⟩, rfl, k⟩
theorem q_eqEL (k : R (.bl ds.isEmpty) M) : oEqE (.lst ds) (.lst []) M R := ⟨ds, .inl rfl, rfl, k⟩
theorem q_neEL (k : R (.bl (!ds.isEmpty)) M) : oNeE (.lst ds) (.lst []) M R := ⟨ds, .inl rfl, rfl, k⟩
/-- the last item is taken -/
theorem q_pop {es : List D} {z : D} (h : At M a (.lst (es ++ [z])) kk) (k : R z (kk (.lst es))) : mPop (.ref a) [] M R := ⟨a, es, z, kk, rfl, rfl, h, k⟩
end
end BV
set_option maxHeartbeats 4000000
namespace BV
open PySem
local macro_rules | `(tactic| walk_at "pd") => `(tactic| (first | rfl | assumption | (apply pd_str; assumption) | decide +kernel))
local macro_rules | `(tactic| walk_at "ty") => `(tactic| (first | exact TyD.tup _ | exact TyD.str _ | exact TyD.lst _ | exact TyD.bl _ | exact TyD.int _ | exact TyD.non | (apply TyD.ref; walk_at "at")))
local macro_rules | `(tactic| walk_at "sz") => `(tactic| (first | assumption | exact Nat.le_of_ble_eq_true rfl))
local macro_rules | `(tactic| walk_at "at") => `(tactic| (repeat (first | exact At.here | apply At.there | apply At.app)))
local macro_rules | `(tactic| walk_at "sok") => `(tactic| (first | assumption | (show PyData.strOk _ = true; decide +kernel)))
local macro_rules | `(tactic| walk_at "b1") => `(tactic| first
  | with_reducible refine q_seq ?_
  | with_reducible refine q_if ?_
  | with_reducible refine q_tst ?_
  | with_reducible refine q_op ?_
  | with_reducible refine q_c ?_
  | ((with_reducible refine' q_var ?b1 ?_); (case b1 => rfl))
  | with_reducible refine q_fld ?_
  | ((with_reducible refine' q_fldR ?b1 ?b2 ?_); (case b1 => walk_at "at"); (case b2 => rfl))
  | ((with_reducible refine' q_fldV ?b2 ?_); (case b2 => rfl))
  | ((with_reducible refine' q_eqS ?b1 ?b2 ?_); (case b1 => walk_at "sok"); (case b2 => walk_at "sok"))
  | ((with_reducible refine' q_neS ?b1 ?b2 ?_); (case b1 => walk_at "sok"); (case b2 => walk_at "sok"))
  | with_reducible refine q_eqB ?_
  | with_reducible refine q_eqI ?_
  | with_reducible refine q_neI ?_
  | with_reducible refine q_addI ?_
  | with_reducible refine q_oadd ?_
  | with_reducible refine q_osub ?_
  | with_reducible refine q_lt ?_
  | with_reducible refine q_le ?_
  | with_reducible refine q_gt ?_
  | with_reducible refine q_ge ?_
  | with_reducible refine q_isN ?_
  | with_reducible refine q_notN ?_
  | ((with_reducible refine' q_ixT ?b2 ?_); (case b2 => rfl))
  | ((with_reducible refine' q_ixL ?b2 ?_); (case b2 => rfl))
  | ((with_reducible refine' q_ixR ?b1 ?b2 ?_); (case b1 => walk_at "at"); (case b2 => rfl))
  | with_reducible refine q_bl ?_
  | with_reducible refine q_ret ?_
  | with_reducible refine q_retN ?_
  | with_reducible refine q_skip ?_
  | with_reducible refine q_drop ?_
  | with_reducible refine q_asg ?_
  | with_reducible refine q_gN ?_
  | with_reducible refine q_gFld ?_
  | with_reducible refine q_aug ?_
  | with_reducible refine q_isRef ?_
  | ((with_reducible refine' q_put ?b1 ?b2 ?b3 ?_); (case b1 => walk_at "at"); (case b2 => rfl); (case b3 => rfl))
  | with_reducible refine q_nil ?_
  | with_reducible refine q_cons ?_
  | with_reducible refine q_not ?_
  | with_reducible refine q_and ?_
  | with_reducible refine q_or ?_
  | with_reducible refine q_andV ?_
  | with_reducible refine q_orV ?_
  | with_reducible refine q_notV ?_
  | with_reducible refine q_ifE ?_
  | with_reducible refine q_tup ?_
  | ((with_reducible refine' q_szA ?b1 fun p => ?_); (case b1 => walk_at "sz"))
  | ((with_reducible refine' q_sz ?b1 ?_); (case b1 => walk_at "sz"))
  | with_reducible refine q_bm ?_
  | ((with_reducible refine' q_own ?b1 ?_); (case b1 => walk_at "at"))
  | ((with_reducible refine' q_append ?b1 ?b2 ?_); (case b1 => walk_at "at"); (case b2 => walk_at "sz"))
  | with_reducible refine q_call0 ?_
  | with_reducible refine q_meth0 ?_
  | ((with_reducible refine' q_isR ?b1 ?_); (case b1 => walk_at "at"))
  | ((with_reducible refine' q_isP ?b1 ?_); (case b1 => exact Or.inr ⟨_, rfl⟩))
  | with_reducible refine q_dct ?_
  | with_reducible refine q_dget ?_
  | ((with_reducible refine' q_dctE ?b1 ?_); (case b1 => walk_at "at"))
  | with_reducible refine q_dinT ?_
  | with_reducible refine q_dinF ?_
  | with_reducible refine q_dget1 ?_
  | ((with_reducible refine' q_isDct ?b1 ?_); (case b1 => walk_at "at"))
  | ((with_reducible refine' q_setD ?b1 ?b2 ?_); (case b1 => walk_at "at"); (case b2 => walk_at "sz"))
  | with_reducible refine q_orT ?_
  | ((with_reducible refine' q_orTT ?b1 ?_); (case b1 => rfl))
  | with_reducible refine q_cb ?_
  | ((with_reducible refine' q_inT ?b1 ?b2 rfl ?_); (case b1 => walk_at "pd"); (case b2 => walk_at "pd"))
  | ((with_reducible refine' q_notInT ?b1 ?b2 rfl ?_); (case b1 => walk_at "pd"); (case b2 => walk_at "pd"))
  | ((with_reducible refine' q_isi rfl ?b1 ?_); (case b1 => walk_at "ty"))
  | ((with_reducible refine' q_isi2 rfl rfl ?b1 ?_); (case b1 => walk_at "ty"))
  | with_reducible refine q_lenT ?_
  | with_reducible refine q_lenL ?_
  | ((with_reducible refine' q_lenR ?b1 ?_); (case b1 => walk_at "at"))
  | ((with_reducible refine' q_lenD ?b1 ?_); (case b1 => walk_at "at"))
  | ((with_reducible refine' q_lenS ?b1 ?_); (case b1 => walk_at "sz"))
  | with_reducible refine q_lenSc ?_
  | with_reducible refine q_intI ?_
  | with_reducible refine q_intB ?_
  | with_reducible refine q_listT ?_
  | with_reducible refine q_listL ?_
  | ((with_reducible refine' q_listR ?b1 ?_); (case b1 => walk_at "at"))
  | ((with_reducible refine' q_listD ?b1 ?_); (case b1 => walk_at "at"))
  | ((with_reducible refine' q_tupR ?b1 ?_); (case b1 => walk_at "at"))
  | with_reducible refine q_tupL ?_
  | ((with_reducible refine' q_dictO ?b1 fun p => ?_); (case b1 => walk_at "at"))
  | with_reducible refine q_dictN fun p => ?_
  | with_reducible refine q_lstO ?_
  | with_reducible refine q_lstV ?_
  | with_reducible refine q_chain ?_
  | ((with_reducible refine' q_gTup ?b1 ?_); (case b1 => rfl))
  | with_reducible refine q_gCons ?_
  | with_reducible refine q_gNil ?_
  | with_reducible refine q_par ?_
  | with_reducible refine q_par3 ?_
  | with_reducible refine q_two ?_
  | with_reducible refine q_three ?_
  | ((with_reducible refine' q_saug ?b1 ?_); (case b1 => rfl))
  | with_reducible refine q_gSub ?_
  | ((with_reducible refine' q_setL ?b1 ?b2 ?b3 ?_); (case b1 => walk_at "at"); (case b2 => rfl); (case b3 => rfl))
  | with_reducible refine q_ownV ?_
  | with_reducible refine q_indexA ?_
  | ((with_reducible refine' q_indexB ?b1 ?_); (case b1 => decide +kernel))
  | ((with_reducible refine' q_listO ?b1 fun p => ?_); (case b1 => walk_at "at"))
  | with_reducible refine q_listOT fun p => ?_
  | ((with_reducible refine' q_popO ?b1 ?_); (case b1 => walk_at "at"))
  | with_reducible refine q_yes ?_
  | with_reducible refine q_cN ?_
  | with_reducible refine q_make0 ?_
  | with_reducible refine q_lstX ?_
  | with_reducible refine q_tupX ?_
  | ((with_reducible refine' q_iteT ?b1 ?_); (case b1 => first | rfl | decide +kernel))
  | ((with_reducible refine' q_iteF ?b1 ?_); (case b1 => first | rfl | decide +kernel))
  | with_reducible refine q_goS ?_
  | with_reducible refine q_goV ?_)
local macro_rules | `(tactic| walk_at "bv") => `(tactic| (repeat (walk_at "b1")))
local macro_rules | `(tactic| walk_at "pm") => `(tactic| (classical (refine List.perm_iff_count.mpr fun z => ?_; simp only [List.count_append, List.count_cons, List.count_nil]; omega)))
theorem put_key {h : Hs} {x : Str} {d : Deed} (hm : x ∈ keysT h.tk) : keysT (h.put x d).tk = keysT h.tk := by rw [put_keys, if_pos hm]
theorem key_sok {h : Hs} (ok : h.ok) {x : Str} (hm : x ∈ keysT h.tk) : sok x := by
  obtain ⟨y, hy, rfl⟩ := List.mem_map.mp hm
  exact (ok.tk y hy).1
theorem pm {A B C : Mm} : (A ++ (B ++ C)).Perm (B ++ (A ++ C)) := by
  rw [← List.append_assoc, ← List.append_assoc]
  exact List.perm_append_comm.append_right C
theorem rep_gd {n : Nat} {w : Wk} (ok : w.ok) (hl : w.acted.length ≤ 1000000) : gd (n + 2) (.tup w.rep) := .inr ⟨_, .inl rfl, by show 4 ≤ 1000000; decide, fun x hx => by
  unfold Wk.rep at hx
  simp only [List.mem_cons, List.mem_nil_iff, or_false] at hx
  rcases hx with rfl | rfl | rfl | rfl
  · refine .inr ⟨_, .inr rfl, by rw [nats_len]; exact hl, fun y hy => ?_⟩
    obtain ⟨z, _, rfl⟩ := List.mem_map.mp hy
    exact gd_leaf (.inr (.inr (.inl ⟨_, rfl⟩)))
  · exact gd_leaf (.inr (.inr (.inl ⟨_, rfl⟩)))
  · exact gd_tk ok.tk
  · exact gd_leaf (.inr (.inl ⟨_, rfl⟩))⟩
theorem handleAll_acted : ∀ {n : Nat} {w : Wk}, w.bk.rules.length ≤ 8 → (handleAll n w).acted.length ≤ w.acted.length + 8 * n
  | 0, w, _ => by
    unfold handleAll
    split <;> simp
  | n + 1, w, hb => by
    unfold handleAll
    cases e : w.row with
    | nil => simp only; omega
    | cons ev r =>
      have h1 := handleFrom_acted (ev := ev) (i := 0) (rs := w.bk.rules) (w := { w with row := r })
      have h2 := handleAll_acted (n := n) (w := handle ev { w with row := r }) (by unfold handle; rw [handleFrom_bk]; exact hb)
      unfold handle at h2 ⊢
      simp only at h1 h2 ⊢
      omega
theorem work_acted {b : Bk} {bf : Option Tk} {d : Deed} (hb : b.sk) : (work b bf d).acted.length ≤ 1000000 := by
  have := handleAll_acted (n := 50) (w := start bf d (fresh b bf)) (by rw [start_bk]; exact hb.2.2.2)
  rw [start_acted] at this
  have e : (fresh b bf).acted.length = 0 := rfl
  unfold work
  omega
theorem work_gd {n : Nat} {b : Bk} {bf : Option Tk} {d : Deed} (hb : b.sk) (hf : ∀ t, bf = some t → t.ok) (hd : d.sk) : gd (n + 2) (.tup (work b bf d).rep) := rep_gd (work_ok hb hf hd) (work_acted hb)
theorem days_gd {n : Nat} : ∀ {l : List Str} {h : Hs}, h.ok → (∀ x ∈ l, x ∈ keysT h.tk) → (∀ z ∈ (Hs.days l h).1, gd (n + 3) z) ∧ (Hs.days l h).1.length = l.length
  | [], h, _, _ => ⟨(fun z hz => by cases hz), rfl⟩
  | x :: l, h, ok, hk => by
    have hm := hk x List.mem_cons_self
    have hs := key_sok ok hm
    obtain ⟨i1, i2⟩ := days_gd (n := n) (l := l) (h := h.put x .day) (put_ok ok hs trivial (.inl hm)) (fun y hy => by rw [put_key hm]; exact hk y (List.mem_cons_of_mem _ hy))
    refine ⟨fun z hz => ?_, by unfold Hs.days; simp [i2]⟩
    unfold Hs.days at hz
    rcases List.mem_cons.mp hz with e | q
    · rw [e]
      refine .inr ⟨_, .inl rfl, by show 2 ≤ 1000000; decide, fun y hy => ?_⟩
      simp only [List.mem_cons, List.mem_nil_iff, or_false] at hy
      rcases hy with rfl | rfl
      · exact gd_leaf (.inr (.inr (.inr ⟨_, rfl, hs⟩)))
      · exact work_gd ok.bk (getK_ok ok) trivial
    · exact i1 z q
def Hs.sv (l : List Sv) (h : Hs) : Hs := { h with saved := l }
theorem save_sv {h : Hs} {a : Addr} : h.save a = h.sv (⟨a, h.bk, h.tk, h.total⟩ :: h.saved) := rfl
theorem days_sv {q : List Sv} : ∀ {l : List Str} {h : Hs}, Hs.days l (h.sv q) = ((Hs.days l h).1, (Hs.days l h).2.sv q)
  | [], h => rfl
  | x :: l, h => by
    have e : (h.sv q).put x .day = (h.put x .day).sv q := rfl
    unfold Hs.days
    rw [e, days_sv (l := l) (h := h.put x .day)]
    rfl
def daysL : List Str → Hs → List (Str × Wk)
  | [], _ => []
  | x :: l, h => (x, work h.bk (getT h.tk x) .day) :: daysL l (h.put x .day)
def encD (z : Str × Wk) : D := .tup [.str z.1, .tup z.2.rep]
theorem days_enc : ∀ {l : List Str} {h : Hs}, (Hs.days l h).1 = (daysL l h).map encD
  | [], h => rfl
  | x :: l, h => by
    unfold Hs.days daysL
    rw [List.map_cons, ← days_enc]
    rfl
theorem days_total : ∀ {l : List Str} {h : Hs}, (Hs.days l h).2.total = h.total + ((daysL l h).map (·.2.sent)).sum
  | [], h => by
    unfold Hs.days daysL
    simp
  | x :: l, h => by
    unfold Hs.days daysL
    rw [List.map_cons, List.sum_cons]
    show (Hs.days l (h.put x .day)).2.total = _
    rw [days_total (l := l) (h := h.put x .day)]
    show (h.total + (work h.bk (getT h.tk x) .day).sent) + _ = h.total + ((work h.bk (getT h.tk x) .day).sent + _)
    omega
theorem days_bk : ∀ {l : List Str} {h : Hs}, (Hs.days l h).2.bk = h.bk
  | [], h => rfl
  | x :: l, h => days_bk (l := l) (h := h.put x .day)
theorem days_saved : ∀ {l : List Str} {h : Hs}, (Hs.days l h).2.saved = h.saved
  | [], h => rfl
  | x :: l, h => days_saved (l := l) (h := h.put x .day)
theorem put_fit {h : Hs} {x : Str} {d : Deed} (ok : h.fit) (hx : isNm x = true) (hd : d.sk) (hl : x ∈ keysT h.tk ∨ h.tk.length + 1 ≤ 1000) : (h.put x d).fit := by
  refine ⟨put_ok ok.ok (nm_sok hx) hd hl, ?_, ok.desks, ?_⟩
  · rw [put_keys]
    split
    · exact ok.nd
    · rename_i hn
      rw [List.nodup_append]
      exact ⟨ok.nd, by simp, fun a ha b hb => by rw [List.mem_singleton.mp hb]; exact fun e => hn (e ▸ ha)⟩
  · rw [put_keys]
    split
    · exact ok.nm
    · intro y hy
      rcases List.mem_append.mp hy with q | q
      · exact ok.nm y q
      · rw [List.mem_singleton.mp q]; exact hx
theorem save_fit {h : Hs} {a : Addr} (ok : h.fit) (hl : h.saved.length + 1 ≤ 1000000) : (h.save a).fit := ⟨save_ok ok.ok hl, ok.nd, ok.desks, ok.nm⟩
theorem days_fit : ∀ {l : List Str} {h : Hs}, h.fit → (∀ x ∈ l, x ∈ keysT h.tk) → (Hs.days l h).2.fit
  | [], h, ok, _ => ok
  | x :: l, h, ok, hk => by
    have hm := hk x List.mem_cons_self
    exact days_fit (l := l) (put_fit ok (ok.nm x hm) trivial (.inl hm)) (fun y hy => by rw [put_key hm]; exact hk y (List.mem_cons_of_mem _ hy))
theorem pm2 {A B C E : Mm} : (A ++ (B ++ (C ++ E))).Perm (C ++ ((A ++ B) ++ E)) := by
  rw [← List.append_assoc]
  exact pm
theorem pm2' {A B C E : Mm} : (C ++ ((A ++ B) ++ E)).Perm (A ++ (B ++ (C ++ E))) := pm2.symm
theorem q_methK {ex : BX} {τ : BSt} {M : Mm} {R : BQ} {c : Cl} {sp : BSp} {m : Nat} {perm : List Nat} {te : RE} {tk : RA} (k : te ex τ M fun d M1 => IsI c d M1 ∧ tk ex τ M1 fun zs M2 => zs.length = m ∧ Cf sp nox (d :: pk perm zs) M2 R) : rMethK c sp m perm te tk ex τ M R := k
/-- wells -/
abbrev Ws := List (Addr × W3)
def wM (ws : Ws) : Mm := ws.map fun w => (w.1, .lst w.2.l)
theorem wM_cons {w : Addr × W3} {v : Ws} : wM (w :: v) = [(w.1, .lst w.2.l)] ++ wM v := rfl
theorem wM_app {u v : Ws} : wM (u ++ v) = wM u ++ wM v := List.map_append
theorem rngD_succ {i : Int} {n : Nat} : rngD i (n + 1) = .int i :: rngD (i + 1) n := by
  unfold rngD
  rw [List.range_succ_eq_map, List.map_cons, List.map_map]
  refine congr (congrArg List.cons ?_) (List.map_congr_left fun x _ => ?_)
  · show D.int (i + ((0 : Nat) : Int)) = _
    rw [Int.natCast_zero, Int.add_zero]
  · show D.int (i + ((x + 1 : Nat) : Int)) = D.int (i + 1 + (x : Int))
    congr 1
    omega
theorem lc_wells {i : Nat} {τ : BSt} {te : RE} {K : List D → Mm → Prop} {M : Mm} (step : ∀ k : Nat, k ≤ 100 → ∀ (M : Mm) (R : BQ), (∀ a y, WB y 1000000000 → R (.ref a) ((a, .lst (W3.l y)) :: M)) → te nox (τ.set i (some (.int (k : Nat)))) M R) :
    ∀ (n j : Nat) (rs : List Addr) (ws : Ws), j + n ≤ 100 → rs.length + n ≤ 1000 → (∀ r ∈ rs, ∃ x, (r, x) ∈ ws) → (∀ w ∈ ws, WB w.2 1000000000) → (∀ (rs' : List Addr) (ws' : Ws), rs'.length = rs.length + n → (∀ r ∈ rs', ∃ x, (r, x) ∈ ws') → (∀ w ∈ ws', WB w.2 1000000000) → K (rs'.map .ref) (wM ws' ++ M)) → lcW (cN i) rYes te nox τ K (rngD (j : Nat) n) (rs.map .ref) (wM ws ++ M)
  | 0, j, rs, ws, _, _, h1, h2, k => k rs ws rfl h1 h2
  | n + 1, j, rs, ws, hj, hz, h1, h2, k => by
    rw [rngD_succ]
    show te nox (τ.set i (some (.int (j : Nat)))) (wM ws ++ M) _
    refine step j (by omega) _ _ fun a y hy => ⟨Nat.le_trans (show (rs.map D.ref).length + 1 ≤ 1000 by rw [List.length_map]; omega) (Nat.le_of_ble_eq_true rfl), ?_⟩
    have q := lc_wells (i := i) (τ := τ) (te := te) (K := K) (M := M) step n (j + 1) (rs ++ [a]) ((a, y) :: ws) (by omega) (by rw [List.length_append, List.length_singleton]; omega) (fun r hr => by
      rcases List.mem_append.mp hr with e | e
      · obtain ⟨x, hx⟩ := h1 r e
        exact ⟨x, List.mem_cons_of_mem _ hx⟩
      · rw [List.mem_singleton.mp e]
        exact ⟨y, List.mem_cons_self⟩) (fun w hw => by
      rcases List.mem_cons.mp hw with e | e
      · rw [e]; exact hy
      · exact h2 w e) fun rs' ws' e1 e2 e3 => k rs' ws' (by rw [e1, List.length_append, List.length_singleton]; omega) e2 e3
    rw [List.map_append] at q
    exact q
theorem q_makeK {ex : BX} {τ : BSt} {M : Mm} {R : BQ} {c : Cl} {sp : BSp} {m : Nat} {perm : List Nat} {tk : RA} (k : tk ex τ M fun zs M2 => zs.length = m ∧ ∀ p, Cf sp nox (.ref p :: pk perm zs) ((p, .ins c []) :: M2) fun v M3 => v = .non ∧ R (.ref p) M3) : rMakeK c sp m perm tk ex τ M R := k
theorem q_bmin {M : Mm} {R : BQ} {i j : Int} (k : R (.int (if j < i then j else i)) M) : bMin [.int i, .int j] M R := ⟨i, j, rfl, k⟩
def Good (held : List D) : Prop := ∀ z ∈ held, ∃ d, z = .tup [d, d] ∧ gd 7 d
theorem Good.snoc {l : List D} {d : D} (h : Good l) (hd : gd 7 d) : Good (l ++ [.tup [d, d]]) := fun z hz => by
  rcases List.mem_append.mp hz with q | q
  · exact h z q
  · exact ⟨d, List.mem_singleton.mp q, hd⟩
/-- what is held, told twice -/
theorem Good.pairs : ∀ {l : List D}, Good l → ∃ ds : List D, l = ds.map (fun d => .tup [d, d]) ∧ ∀ d ∈ ds, gd 7 d
  | [], _ => ⟨[], rfl, fun d hd => by cases hd⟩
  | z :: l, h => by
    obtain ⟨ds, rfl, h2⟩ := Good.pairs (l := l) fun y hy => h y (List.mem_cons_of_mem _ hy)
    obtain ⟨d, rfl, hd⟩ := h z List.mem_cons_self
    exact ⟨d :: ds, rfl, fun y hy => by
      rcases List.mem_cons.mp hy with e | e
      · rw [e]; exact hd
      · exact h2 y e⟩
/-! ### undo -/
def Sv.h (s : Sv) (r : List Sv) : Hs := ⟨s.bk, s.tk, s.total, r⟩
def t_Desk_undo : RS := sSeq (sIf (rTst (rOp oEqE (rFld .desk 3 (rVar 0)) (rLstV rNil))) (sNever) (sSkip)) (sAsg (rBM "list" mPop (rFld .desk 3 (rVar 0)) rNil) (BV.gTup 3 (BV.gCons (gFld .desk 0 (rVar 0)) (BV.gCons (gFld .desk 1 (rVar 0)) (BV.gCons (gFld .desk 2 (rVar 0)) BV.gNil)))))
def sp_Desk_undo : BSp := fun ex ds M R => ∃ p t e h s r, ds = [.ref p] ∧ h.saved = s :: r ∧ M = Hs.m h p t e ∧ R .non (Hs.m (s.h r) p s.a e)
theorem len_Desk_undo : ∀ ex ds M R, sp_Desk_undo ex ds M R → ds.length = 1 := by
  rintro ex ds M R ⟨p, t, e, h, s, r, rfl, _⟩
  rfl
theorem p_undo {x p t e : Addr × MO} {c : Mm} : (x :: (c ++ [p, t, e])).Perm (t :: (c ++ [p, x, e])) := by walk_at "pm"
theorem pure_Desk_undo : ∀ ex ds M R, sp_Desk_undo ex ds M R → t_Desk_undo { ex := ex, nx := fun _ M' => Stop (CvV .non M' R), rt := R } (startB 1 ds) M := by
  rintro ex ds M R ⟨p, t, e, h, s, r, rfl, hs, rfl, k⟩
  unfold t_Desk_undo
  have e1 : h.rows = (r.reverse.map Sv.d) ++ [s.d] := by unfold Hs.rows; rw [hs]; simp
  walk_at "bv"
  have c1 : h.c = (s.a, .dct (kvD s.tk)) :: (r.map fun s => (s.a, MO.dct (kvD s.tk))) := by unfold Hs.c; rw [hs]; rfl
  unfold Hs.m
  rw [e1, c1]
  refine q_eqE (.app (.there (.there .here))) ?_
  rw [show ((r.reverse.map Sv.d) ++ [s.d]).isEmpty = false by simp]
  walk_at "bv"
  refine q_pop (.app (.there (.there .here))) ?_
  unfold Sv.d
  walk_at "bv"
  exact stopV_cv ((CvA.perm p_undo).trans .drop) k
/-! ### _law_same, where lists may be owned -/
def Sm (M : Mm) : Nat → D → D → Prop
  | 0, x, d => x = d ∧ leaf d
  | n + 1, x, d => (x = d ∧ leaf d) ∨ (∃ xs es : List D, x = .tup xs ∧ d = .tup es ∧ xs.length = es.length ∧ es.length ≤ 1000000 ∧ ∀ (i : Nat) (u z : D), xs[i]? = some u → es[i]? = some z → Sm M n u z) ∨ (∃ es : List D, d = .lst es ∧ es.length ≤ 1000000 ∧ (x = .lst es ∨ ∃ q k, x = .ref q ∧ At M q (.lst es) k) ∧ ∀ z ∈ es, Sm M n z z)
theorem sm_gd {M : Mm} : ∀ {n : Nat} {d : D}, gd n d → Sm M n d d
  | 0, d, h => ⟨rfl, h⟩
  | n + 1, d, h => by
    rcases h with h | ⟨es, rfl | rfl, hl, hs⟩
    · exact .inl ⟨rfl, h⟩
    · exact .inr (.inl ⟨es, es, rfl, rfl, rfl, hl, fun i u z h1 h2 => by
        rw [h1] at h2
        cases h2
        exact sm_gd (hs _ (List.mem_of_getElem? h1))⟩)
    · exact .inr (.inr ⟨es, rfl, hl, .inl rfl, fun z hz => sm_gd (hs z hz)⟩)
theorem sm_ref {M : Mm} {n : Nat} {q : Addr} {es : List D} {k : MO → Mm} (h : At M q (.lst es) k) (g : gd (n + 1) (.lst es)) : Sm M (n + 1) (.ref q) (.lst es) := by
  rcases g with h1 | ⟨ds, e, hl, hs⟩
  · rcases h1 with e | ⟨_, e⟩ | ⟨_, e⟩ | ⟨_, e, _⟩ <;> cases e
  · rcases e with e | e
    · cases e
    · cases e
      exact .inr (.inr ⟨es, rfl, hl, .inr ⟨q, k, rfl, h⟩, fun z hz => sm_gd (hs z hz)⟩)
def spn__law_sameR : Nat → BSp
  | 0 => fun _ _ _ _ => False
  | n + 1 => fun ex ds M R => ∃ x d, ds = [x, d] ∧ Sm M n x d ∧ R (.bl true) M
def sp__law_sameR : BSp := spn__law_sameR 8
def t__law_sameR (n : Nat) : RS := sSeq (sIf (rTst (rCB (bIsi2 .lst .tup) (rCons (rVar 1) (rCons (rTup (rCons (rC (.ty "list")) (rCons (rC (.ty "tuple")) rNil))) rNil)))) (sSeq (sAsg (rIf (rTst (rCB (bIsi .lst) (rCons (rVar 1) (rCons (rC (.ty "list")) rNil)))) (rCB (bIsi .lst) (rCons (rVar 0) (rCons (rC (.ty "list")) rNil))) (rCB (bIsi .tup) (rCons (rVar 0) (rCons (rC (.ty "tuple")) rNil)))) (gN 2)) (sSeq (sIf (rOr (rNot (rTst (rVar 2))) (rTst (rOp oNe (rCB bLenX (rCons (rVar 0) rNil)) (rCB bLenX (rCons (rVar 1) rNil))))) (sRet (rC (.bl false))) (sSkip)) (sRet (rCB bAll (rCons (rLc (iRng1 (rCons (rCB bLenX (rCons (rVar 1) rNil)) rNil)) (cN 3) (rYes) (rCall0 (spn__law_sameR n) (rCons (rOp oIx (rVar 0) (rVar 3)) (rCons (rOp oIx (rVar 1) (rVar 3)) rNil))) [3]) rNil))))) (sSkip)) (sSeq (sIf (rTst (rOp oIsN (rVar 1) (rC .non))) (sRet (rOp oIsN (rVar 0) (rC .non))) (sSkip)) (sSeq (sIf (rTst (rCB (bIsi .str) (rCons (rVar 1) (rCons (rC (.ty "str")) rNil)))) (sRet (rAndV (rCB (bIsi .str) (rCons (rVar 0) (rCons (rC (.ty "str")) rNil))) (rOp oEq (rVar 0) (rVar 1)))) (sSkip)) (sRet (rAndV (rCB (bIsi .int) (rCons (rVar 0) (rCons (rC (.ty "int")) rNil))) (rAndV (rOp oEq (rCB (bIsi .bl) (rCons (rVar 0) (rCons (rC (.ty "bool")) rNil))) (rCB (bIsi .bl) (rCons (rVar 1) (rCons (rC (.ty "bool")) rNil)))) (rOp oEq (rVar 0) (rVar 1)))))))
theorem len__law_sameR (n : Nat) : ∀ ex ds M R, spn__law_sameR (n + 1) ex ds M R → ds.length = 2 := by
  rintro ex ds M R ⟨x, d, rfl, _⟩
  rfl
theorem same_leafR {n : Nat} {ex : BX} {M : Mm} {R : BQ} {d : D} (h : leaf d) (k : R (.bl true) M) : t__law_sameR n { ex := ex, nx := fun _ M' => R .non M', rt := R } (startB 4 [d, d]) M := by
  unfold t__law_sameR
  rcases h with rfl | ⟨b, rfl⟩ | ⟨i, rfl⟩ | ⟨s, rfl, hs⟩
  · walk_at "bv"
    exact k
  · walk_at "bv"
    rw [show (b == b) = true by cases b <;> rfl]
    exact k
  · walk_at "bv"
    rw [decide_eq_true rfl]
    exact k
  · walk_at "bv"
    rw [decide_eq_true rfl]
    exact k
theorem same_itemsR {te : RE} {τ : BSt} {M : Mm} {K : List D → Mm → Prop} {l : Nat} (hl : l ≤ 1000000) (h : ∀ i, i < l → ∀ R : BQ, R (.bl true) M → te nox (τ.set 3 (some (.int (i : Nat)))) M R) (k : K ((List.range l).map fun _ => .bl true) M) : lcW (cN 3) rYes te nox τ K (rngD 0 l) [] M := by
  unfold rngD
  refine lc_map (enc := fun (i : Nat) => .int (0 + (i : Nat))) (val := fun _ => .bl true) (xs := List.range l) (fun i hi R kk => ?_) (Nat.le_trans (show 0 + (List.range l).length ≤ 1000000 by simpa using hl) (Nat.le_of_ble_eq_true rfl)) k
  have := h i (List.mem_range.mp hi) R kk
  rw [Int.zero_add]
  exact this
theorem pure__law_sameR (n : Nat) : ∀ ex ds M R, spn__law_sameR (n + 1) ex ds M R → t__law_sameR n { ex := ex, nx := fun _ M' => R .non M', rt := R } (startB 4 ds) M := by
  rintro ex ds M R ⟨x, d, rfl, hd, k⟩
  cases n with
  | zero =>
    obtain ⟨rfl, hd⟩ := hd
    exact same_leafR hd k
  | succ n =>
    rcases hd with ⟨rfl, hd⟩ | ⟨xs, es, rfl, rfl, hx, hl, hs⟩ | ⟨es, rfl, hl, hx, hs⟩
    · exact same_leafR hd k
    · unfold t__law_sameR
      walk_at "bv"
      rw [show decide ((xs.length : Int) = (es.length : Int)) = true from decide_eq_true (by omega)]
      walk_at "bv"
      refine q_lc (q_rng1 ?_)
      walk_at "bv"
      refine ⟨_, rfl, ⟨by omega, by omega⟩, ?_⟩
      rw [Int.toNat_natCast]
      refine same_itemsR hl (fun i hi R kk => ?_) ?_
      · have h1 : xs[i]? = some (xs[i]'(by omega)) := List.getElem?_eq_getElem _
        have h2 : es[i]? = some es[i] := List.getElem?_eq_getElem _
        walk_at "bv"
        refine q_ixT (at_nat h1) ?_
        walk_at "bv"
        refine q_ixT (at_nat h2) ?_
        walk_at "bv"
        exact cf_whole ⟨_, _, rfl, hs i _ _ h1 h2, kk⟩
      · rw [all_true]
        walk_at "bv"
        refine q_all ?_
        rw [rep_all]
        exact .go k
    · have sub : ∀ i, i < es.length → ∃ z, es[i]? = some z ∧ Sm M n z z := fun i hi => ⟨es[i], List.getElem?_eq_getElem hi, hs _ (List.getElem_mem hi)⟩
      unfold t__law_sameR
      rcases hx with rfl | ⟨q, kq, rfl, hq⟩
      · walk_at "bv"
        rw [decide_eq_true rfl]
        walk_at "bv"
        refine q_lc (q_rng1 ?_)
        walk_at "bv"
        refine ⟨_, rfl, ⟨by omega, by omega⟩, ?_⟩
        rw [Int.toNat_natCast]
        refine same_itemsR hl (fun i hi R kk => ?_) ?_
        · obtain ⟨z, hz, hg⟩ := sub i hi
          walk_at "bv"
          refine q_ixL (at_nat hz) ?_
          walk_at "bv"
          refine q_ixL (at_nat hz) ?_
          walk_at "bv"
          exact cf_whole ⟨z, z, rfl, hg, kk⟩
        · rw [all_true]
          walk_at "bv"
          refine q_all ?_
          rw [rep_all]
          exact .go k
      · walk_at "bv"
        refine q_isi rfl (TyD.ref hq) ?_
        walk_at "bv"
        refine q_lenR hq ?_
        walk_at "bv"
        rw [decide_eq_true rfl]
        walk_at "bv"
        refine q_lc (q_rng1 ?_)
        walk_at "bv"
        refine ⟨_, rfl, ⟨by omega, by omega⟩, ?_⟩
        rw [Int.toNat_natCast]
        refine same_itemsR hl (fun i hi R kk => ?_) ?_
        · obtain ⟨z, hz, hg⟩ := sub i hi
          walk_at "bv"
          refine q_ixR hq (at_nat hz) ?_
          walk_at "bv"
          refine q_ixL (at_nat hz) ?_
          walk_at "bv"
          exact cf_whole ⟨z, z, rfl, hg, kk⟩
        · rw [all_true]
          walk_at "bv"
          refine q_all ?_
          rw [rep_all]
          exact .go k
theorem imp__law_same : ∀ ex ds M R, sp__law_same ex ds M R → sp__law_sameR ex ds M R := by
  rintro ex ds M R ⟨d, rfl, hd, rfl, k⟩
  exact ⟨d, d, rfl, sm_gd hd, k⟩
end BV
set_option maxHeartbeats 4000000
namespace BV
open PySem PySem.Spec PyProof.Rows L2
/-! ### exceptions of the package -/
/-- a def that may let out what its spec tells -/
def OkX (P : Program) (w : World) (K : PySem.W.Frag) (mg : Str → Option Value) (base : Heap) (k : Nat) (at_ : At_) (ps : List Str) (sp : BSp) : Prop :=
  ∃ fd, FnOk P w K mg base (L2.CX P w) k (He.fAd K at_) fd ps (liftSp K sp) ∧ Binds K fd ps [] ∧ PySem.W.keepIn K (.ref (He.fAd K at_)) = true ∧ ∃ oc od osl, K.lookup (He.fAd K at_) = some ⟨oc, od, .func fd, osl⟩
/-- all that is raised is wished for -/
abbrev Tk1 (X : Cx) (E : XK) : Prop := Takes X fun c d _ H => E c d H
theorem ok_defX {P : Program} {w : World} {K : PySem.W.Frag} {mg : Str → Option Value} {base : Heap} {x qual : Str} {params : Arguments} {body : List Stmt} {scope : Scope} {N ps : List Str} {k : Nat} {sp : BSp} {t : RS} {at_ : At_}
    (F : ∃ fd, FunD K x qual params body scope [] [] (He.fAd K at_) fd) (S : FnScope N ps scope)
    (hb : ∀ (kV doc pm : Value) (an : Option Addr) (cdv ct : Value) (us : List Value), us.length = ps.length → bindArgs (PySem.W.fnOf x qual params body scope .none kV doc pm an cdv ct) ⟨us, []⟩ = pure (ps.zip us))
    (len : ∀ ex ds M R, sp ex ds M R → ds.length = ps.length)
    (hbody : ∀ (cdv : Value) (A : Around) (outer : List Env) (s : Shared) (H : Hp) (E : XK), Room k (A.deeper (envOfC qual scope s.heap.objs.size (He.fAd K at_) cdv)) → Tk1 (cxOf (L2.CX P w) P w K mg base N qual scope (He.fAd K at_) cdv A outer s H E) E → BSs (cxOf (L2.CX P w) P w K mg base N qual scope (He.fAd K at_) cdv A outer s H E) E body t)
    (hpure : ∀ ex ds M R, sp ex ds M R → t { ex := ex, nx := fun _ M' => Stop (CvV .non M' R), rt := R } (startB N.length ds) M) : OkX P w K mg base (k + 1) at_ ps sp := by
  obtain ⟨fd, F⟩ := F
  have lk : ∃ oc od osl, K.lookup (He.fAd K at_) = some ⟨oc, od, .func fd, osl⟩ := by
    obtain ⟨oc, od, dV, kV, doc, pm, an, cdv, ct, osl, rfl, lk, _⟩ := F.ex
    exact ⟨oc, od, osl, lk⟩
  refine ⟨fd, ?_, F.bindsN hb, F.kp, lk⟩
  refine F.ok S (fun vs H Q E ⟨ds, M, Fm, R, ex, dv, _, _, h, _⟩ => dv.length.trans (len _ _ _ _ h)) fun cdv A outer s H vs Q E hr ⟨ds, M, Fm, R, ex, dv, sr, xp, h, k⟩ => ?_
  refine ⟨_, hbody cdv A outer s H E hr (takes_of rfl rfl rfl rfl), startB N.length ds, M, Fm, { ex := ex, nx := fun _ M' => Stop (CvV .non M' R), rt := R }, ⟨start_sg dv, sr, xp⟩, hpure _ _ _ _ h, ?_, k, ?_, ?_⟩
  · intro σ' H' τ' M' _ sr' f ⟨d2, M2, c, r⟩
    obtain ⟨dv2, sr2, k2⟩ := c K H' [.non] Fm (.cons .non .nil) sr'
    cases dv2 with
    | cons dv2 _ => exact k .non H' d2 M2 dv2 sr2 (f.trans (fr_sub k2)) r
  · exact fun _ _ _ _ _ _ _ r => r.elim
  · exact fun _ _ _ _ _ _ _ r => r.elim
/-- one that lets nothing out -/
theorem OkX.quiet {P : Program} {w : World} {K : PySem.W.Frag} {mg : Str → Option Value} {base : Heap} {k : Nat} {at_ : At_} {ps : List Str} {sp : BSp} (h : OkX P w K mg base k at_ ps sp) : True := trivial
section
variable {X : Cx} {E : XK} {st : Stmt} {rest : List Stmt} {e a b o : Expr} {es : List Expr} {pos pos' apos p np : Pos} {t u : RS} {te ta : RE} {tr : RA} {x m n : Str} {k : Nat} {ps : List Str} {sp : BSp} {c : Cl}
theorem be_methX (O : OkX X.prog X.w X.K X.mg X.base k (c.nm, some m) ps sp) (tk : Tk1 X E) (hr : Room k X.A) (hc : Cls X.K (ca X.K c)) (hm : Meth X.K (ca X.K c) m (He.ma X.K (ca X.K c) m)) (hl : m ∉ lay c) (he : BE X E o te) (ha : BA X E (e :: es) tr)
    (hst : starEach (e :: es) X.env = (false, eval e X.env) :: starEach es X.env := by rfl) (hpl : (backTo pos (starEach es X.env)).any (·.1) = false := by rfl) {pl : Sem Bool}
    (ht : eval (.Call (.Attribute o m apos) (e :: es) [] pos) X.env = (do
      let ov ← eval o X.env
      standAt apos.atName
      let (f, first) ← holding [ov] (getMethod ov m pl)
      callWith pos f first (backTo pos (starEach (e :: es) X.env)) (backToKw pos (keywordEach [] X.env))) := by rfl) : BE X E (.Call (.Attribute o m apos) (e :: es) [] pos) (rMeth c sp te tr) := by
  obtain ⟨fd, F, b, kp, lk⟩ := O
  exact be_methOf (E' := E) hl (pe_meth he hc hm F hr b .nil (passes_call tk fun _ _ _ _ h => h) ha hst hpl ht)
theorem be_methX0 (O : OkX X.prog X.w X.K X.mg X.base k (c.nm, some m) ps sp) (tk : Tk1 X E) (hr : Room k X.A) (hc : Cls X.K (ca X.K c)) (hm : Meth X.K (ca X.K c) m (He.ma X.K (ca X.K c) m)) (hl : m ∉ lay c) (he : BE X E o te) {pl : Sem Bool}
    (ht : eval (.Call (.Attribute o m apos) [] [] pos) X.env = (do
      let ov ← eval o X.env
      standAt apos.atName
      let (f, first) ← holding [ov] (getMethod ov m pl)
      callWith pos f first (backTo pos (starEach [] X.env)) (backToKw pos (keywordEach [] X.env))) := by rfl) : BE X E (.Call (.Attribute o m apos) [] [] pos) (rMeth c sp te rNil) := by
  obtain ⟨fd, F, b, kp, lk⟩ := O
  exact be_meth0Of hl (pe_meth0 he hc hm F hr b .nil (passes_call tk fun _ _ _ _ h => h) ht)
/-- raise C('..') -/
def sRaise0 (c : Str) : RS := fun B _ M => B.ex c [] M
structure ExC (K : PySem.W.Frag) (mg : Str → Option Value) (c : Str) : Prop where
  g : mg c = some (.ref (He.ga K c))
  q : PySem.W.excIn K (He.ga K c) He.veBase "ValueError.__new__" = true
  kp : PySem.W.keepIn K (.ref (He.ga K c)) = true
  s : PySem.W.subIn K (.ref (He.ga K c)) (.type "BaseException") = some true
  t : PySem.W.typeIn K (.ref (He.ga K c)) = some (.type "type")
theorem bs_raise0 {tx : Str} {j : Nat} {p2 : Pos} (x1 : ExC X.K X.mg x) (tk : Tk1 X E) (hc : X.calm = true) (hg : Gl X x) (hdb : (x == ("__debug__" : Str)) = false := by decide) : BS X E (.Raise (some (.Call (.Name x p) [.Constant (.str tx) j p2] [] pos')) none pos) (sRaise0 x) :=
  PS.weak (ps_raise hc tk (pmk_own PySem.F.excBase_ValueError x1.q x1.g x1.kp (raises_own x1.s x1.t) hg hdb)) fun Dn σ H ⟨τ, M, Fm, B, w, h, _⟩ => (w.xp x [] M H w.sr .refl h).1 rfl
/-- try: .. except C as n: .. (behind it, only n is known) -/
def sTryAs (nn : Nat) (tb : RS) (c : Str) (i : Nat) (ts : Addr → RS) : RS := fun B τ M => tb { B with ex := fun c' fs M' => c' = c ∧ fs = [] ∧ ∀ a, ts a { ex := nox, nx := fun τ' M2 => B.nx (τ'.set i none) M2, rt := B.rt, bk := fun τ' M2 => B.bk (τ'.set i none) M2, ct := fun τ' M2 => B.ct (τ'.set i none) M2 } ((List.replicate nn none).set i (some (.ref a))) M' } τ M
theorem Sg.unset {K : PySem.W.Frag} {L : List Addr} {H : Hp} {σ : L2.St} {τ : BSt} {i : Nat} (h : Sg K L H σ τ) : Sg K L H (σ.set i none) (τ.set i none) := by
  refine ⟨by rw [List.length_set, List.length_set]; exact h.1, fun j d hj => ?_⟩
  by_cases e : i = j
  · subst e
    by_cases hl : i < τ.length
    · rw [List.getElem?_set_self hl] at hj
      cases Option.some.inj hj
    · rw [List.getElem?_eq_none (by rw [List.length_set]; omega)] at hj
      cases hj
  · rw [List.getElem?_set_ne e] at hj ⊢
    exact h.2 j d hj
theorem sg_only {K : PySem.W.Frag} {L : List Addr} {H : Hp} {σ : L2.St} {nn i : Nat} {a : Addr} (h : σ.length = nn) : Sg K L H (σ.set i (some (.ref a))) ((List.replicate nn none).set i (some (.ref a))) := by
  refine ⟨by simp [h], fun j d hj => ?_⟩
  by_cases e : i = j
  · subst e
    by_cases hl : i < nn
    · rw [List.getElem?_set_self (by simpa using hl)] at hj
      cases Option.some.inj (Option.some.inj hj)
      exact ⟨.ref a, by rw [List.getElem?_set_self (by omega)], .ref a⟩
    · rw [List.getElem?_eq_none (by simp; omega)] at hj
      cases hj
  · rw [List.getElem?_set_ne e, List.getElem?_replicate] at hj
    split at hj
    · cases Option.some.inj hj
    · cases hj
theorem afs_unset {K : PySem.W.Frag} {H H2 : Hp} {M M2 Fm : Mm} {R : BSt → Mm → Prop} {Q : L2.St → Hp → Prop} {i : Nat} (f : Fr H (keys (M ++ Fm)) H2 (keys (M2 ++ Fm))) (kn : AfS K H M Fm R Q) : AfS K H2 M2 Fm (fun τ M => R (τ.set i none) M) (fun σ H => Q (σ.set i none) H) := fun σ' H' τ' M' sg sr g r => kn _ _ _ _ sg.unset sr (f.trans g) r
theorem PSs.under {X : Cx} {st : List Stmt} {t : TS} {p : Prop} (h : p → PSs X st t) : PSs X st fun D σ H => p ∧ t D σ H := ⟨fun pins s σ H D I q => (h q.1).run pins s σ H D I q.2⟩
theorem bs_tryAs {i nn : Nat} {b₀ : Stmt} {body suite : List Stmt} {tb : RS} {ts : Addr → RS} (hs : X.stack = X.env :: X.outer) (hf : X.env.frame = some X.env.locals) (hN : X.N.Nodup) (hnn : X.N.length = nn) (hi : X.N[i]? = some n) (hln : X.env.kindOf n = some .local) (hg : Gl X x) (hm : X.mg x = some (.ref (He.ga X.K x)))
    (he : PySem.W.exmOne X.K (.ref (He.ga X.K x)) (.ref (He.ga X.K x)) = some true)
    (hb : ∀ (pn : List (Addr × Obj)) (xe : Value → Shared → Prop) (E' : XK), Tk1 (X.tr pn xe) E' → BSs (X.tr pn xe) E' body tb)
    (hsu : ∀ (a : Addr) (oe : Obj) (pn : List (Addr × Obj)), Zc (.ref (He.ga X.K x)) none oe → (∃ vs, oe.data = .fields vs) → BSs (X.suite a ((a, oe) :: pn)) E0 (b₀ :: suite) (ts a)) (hdb : (x == ("__debug__" : Str)) = false := by decide) :
    BS X E (.Try body [.ExceptHandler (some (.Name x np)) (some n) (b₀ :: suite) pos'] [] [] pos) (sTryAs nn tb x i ts) := by
  refine PS.weak (ps_try_as (i := i) (c := .ref (He.ga X.K x)) (Wout := fun _ _ _ _ => False) (tb := fun W => liftS X.K (fun cls d H => ∀ σ : L2.St, σ.length = nn → W cls d σ H) tb) (ts := fun a cls d D σ H => (cls = .ref (He.ga X.K x) ∧ d = none) ∧ liftS X.K E0 (ts a) D σ H)
    hs hf hN hi hln ⟨hg, hdb, .inl hm⟩ (fun u s' ⟨_, _, _, _, _, _, _, _, _, _, _, _, _, _, _, _, w⟩ => w.elim) (fun W pn xe tkW _ => ?_) (fun a oe cls d pn hz hv => ?_)) fun Dn σ H ⟨τ, M, Fm, B, w, h, kn, kr, kb, kc⟩ => ?_
  · refine hb pn xe _ fun u s' ⟨a, B, sI, pins, σ, H, cls, d, e, I, nb, up, sky, na, os, ag, w⟩ => ?_
    exact tkW u s' ⟨a, B, sI, pins, σ, H, cls, d, e, I, nb, up, sky, na, os, ag, w σ (I.len.trans hnn)⟩
  · refine PSs.under fun ⟨e1, e2⟩ => ?_
    subst e1 e2
    exact hsu a oe pn hz hv
  · refine ⟨τ, M, Fm, { B with ex := _ }, ⟨w.sg, w.sr, fun c' fs M' H' s f ⟨e1, e2, h2⟩ => ?_⟩, h, kn, kr, kb, kc⟩
    subst e1 e2
    refine ⟨fun _ σ' hl => ⟨true, he, fun _ a _ => ⟨⟨rfl, rfl⟩, ?_⟩, fun z => by cases z⟩, fun _ _ _ _ z => by cases z⟩
    exact ⟨_, M', Fm, _, ⟨sg_only hl, s, xp_nox⟩, h2 a, afs_unset f kn, (kr.mono f), afs_unset f kb, afs_unset f kc⟩
/-- isinstance(e, D), e the exception that the suite holds -/
def rIsE (a : Addr) (i : Nat) (b : Bool) : RE := fun _ τ M R => τ[i]? = some (some (.ref a)) ∧ R (.bl b) M
theorem be_isE {a : Addr} {oe : Obj} {pn : List (Addr × Obj)} {i : Nat} {D : Addr} {y : Str} {p1 p2 p3 : Pos} {bb : Bool} (C : ExcC X.K D) (hz : Zc (.ref D) none oe) (hv : ∃ vs, oe.data = .fields vs) (hgi : Gl X "isinstance") (hmi : X.mg "isinstance" = none)
    (hn : PE (X.suite a ((a, oe) :: pn)) (.Name n p1) (tVar i)) (hgy : Gl X y) (hmy : X.mg y = some (.ref (He.ga X.K y))) (hk : PySem.W.kitOne X.K (.ref D) (.ref (He.ga X.K y)) = some bb) (hdb : (y == ("__debug__" : Str)) = false := by decide) :
    BE (X.suite a ((a, oe) :: pn)) E (.Call (.Name "isinstance" p2) [.Name n p1, .Name y p3] [] pos) (rIsE a i bb) :=
  PE.weak (pe_callB (X := X.suite a ((a, oe) :: pn)) (call_isE C hz hv) hgi hmi (by decide +kernel) (pa_cons hn (pa_cons (pe_glob (v := .ref (He.ga X.K y)) hgy hmy rfl hdb) pa_nil))) fun σ H Q ⟨τ, M, Fm, R, ex, w, ⟨h1, h2⟩, kk⟩ => by
    obtain ⟨v, hv, dv⟩ := w.sg.2 i _ h1
    cases dv
    exact ⟨_, hv, .ref (He.ga X.K y), .ref (He.ga X.K y), bb, rfl, fun u r => r, hk, kk _ H _ M (.bl bb) w.sr .refl h2⟩
end
end BV
set_option maxHeartbeats 4000000
namespace BV
open PySem PySem.Spec PyProof.Rows L2
/-! ### lists that are owned: the keys of a dict, a walk over a dict; unpacking a list by value -/
section
variable {X : Cx} {E : XK} {st : Stmt} {e : Expr} {es : List Expr} {pos : Pos} {tt : RT} {te : RE}
def bKeysO : RB := fun ds M R => ∃ a kvs k, ds = [.ref a] ∧ At M a (.dct kvs) k ∧ ∀ p, R (.ref p) ((p, .lst (keysD kvs)) :: M)
theorem bc_keysO (hc : X.calm = true) : BC X (.type "list") bKeysO := CallR.weak (call_listD hc) fun xs H Q ⟨ds, M, Fm, R, dv, sr, ⟨a, kvs, kk, e1, h, r⟩, k⟩ => by
  subst e1
  obtain ⟨v, rfl, dz⟩ := dvs1 dv
  cases dz
  obtain ⟨ws, hw, hs⟩ := sr.at h.hid
  exact ⟨a, ws, rfl, .inl hw, fun l hl => k _ _ _ ((l, .lst (keysD kvs)) :: M) (.ref l) (sr.own (o := .lst (keysD kvs)) hl ⟨_, upd_same, hs.keys.mono (fr_own sr hl)⟩) (fr_own sr hl) (r l)⟩
def rLcDO (mk : List (Str × D) → List D) (te0 : RE) (g : RCg) (tt : RT) (te : RE) (vs : List Nat) : RE := fun ex τ M R => ∃ a kvs k, At M a (.dct kvs) k ∧ ∀ o ws, iDct mk te0 a o ws kvs nox τ (k (.dcl o ws kvs)) fun ds M1 => lcG (GD a o ws kvs) g tt te nox (wipeB τ vs) (fun acc M2 => ∃ k, At M2 a (.dcl o ws kvs) k ∧ ∀ p, R (.ref p) ((p, .lst acc) :: k (.dct kvs))) ds [] M1
theorem be_lcDOfO {mk : List (Str × D) → List D} {te0 : RE} {g : RCg} {gt : TG} {tt : RT} {vs : List Nat} (cg : CgOk X.K vs g gt) (h : PE X e (tLc (wDct X.K E0 mk te0) gt (liftT X.K (fun _ _ _ => False) tt) (liftE X.K (fun _ _ _ => False) te) vs)) : BE X E e (rLcDO mk te0 g tt te vs) :=
  PE.weak (pe_lock h) fun σ H Q ⟨τ, M, Fm, R, ex, w, ⟨a, kvs, k, ha, h⟩, kk⟩ => by
  obtain ⟨ws, h1, hl⟩ := lock w.sr ha
  refine ⟨a, .dK ws, h1, trivial, fun o => ?_⟩
  obtain ⟨s2, f2⟩ := hl o
  have w2 : Wl X.K E0 σ (upd H a (.frz o (.dK ws))) τ (k (.dcl o ws kvs)) Fm nox := ⟨w.sg.mono f2, s2, xp_nox⟩
  have q := lc_lift (X := X) (E := E0) (it := iDct mk te0 a o ws kvs) (G := GD a o ws kvs) cg w2 (h o ws) (Q := fun v H' => H' a = some (.frz o (.dK ws)) ∧ Q v (upd H' a (.dK ws))) fun D ws' ds H2 M2 q1 q2 q3 q4 q5 ⟨k2, hk2, r⟩ => by
    obtain ⟨z1, z2, z3⟩ := unlock (M := (D, .lst ds) :: M2) q5 (.there hk2)
    exact ⟨z1, kk _ _ _ _ (.ref D) z2 ((f2.trans q4).trans z3) (r D)⟩
  exact ⟨a, o, ws, kvs, q⟩
def gLstV (n : Nat) (gs : RGs) : RG := fun ex d τ M R => ∃ ds, d = .lst ds ∧ ds.length = n ∧ gs ex ds τ M R
theorem bg_lstV {k : Nat} {gs : RGs} {n : Nat} (hc : X.calm = true) (h : BGs X E es gs) (hn : (assignEach es X.env).length = n := by rfl) (hst : (assignEach es X.env).findIdx? (·.1) = none := by rfl) : BG X E (.Tuple es k pos) (gLstV n gs) := PG.weak (pg_lst hc h hn hst) fun v σ H Q ⟨d, τ, M, Fm, R, ex, dv, w, ⟨ds, e, hl, h⟩, kk⟩ => by
  subst e
  cases dv with
  | lst h1 hs => exact ⟨_, _, rfl, .inl (.inl h1.2), hs.length.trans hl, ds, τ, M, Fm, R, ex, hs, w, h, kk⟩
end
section
variable {ex : BX} {τ : BSt} {M : Mm} {R : BQ} {a : Addr} {kvs : List (Str × D)} {kk : MO → Mm} {Q : BSt → Mm → Prop}
theorem q_keysO (h : At M a (.dct kvs) kk) (k : ∀ p, R (.ref p) ((p, .lst (keysD kvs)) :: M)) : bKeysO [.ref a] M R := ⟨a, kvs, kk, rfl, h, k⟩
theorem q_gLstV {n : Nat} {gs : RGs} {ds : List D} (hl : ds.length = n) (k : gs ex ds τ M Q) : gLstV n gs ex (.lst ds) τ M Q := ⟨ds, rfl, hl, k⟩
end
end BV
set_option maxHeartbeats 4000000
namespace BV
open PySem PySem.Spec PyProof.Rows L2
/-! ### walks over a list that is owned; owned slices -/
def GL (a : Addr) (ds : List D) : Mm → Prop := fun M => ∃ k, At M a (.lst ds) k
theorem its_own {K : PySem.W.Frag} {H : Hp} {L : List Addr} {a : Addr} {ds : List D} : Its K H L (GL a ds) (Itl K a) ds := fun H1 M1 F1 s1 f ⟨k, h⟩ => by
  obtain ⟨vs, h1, hs⟩ := s1.at h.hid
  have h2 : SqL K H1 a vs := .of h1
  have hl := hs.length
  refine ⟨fun i hi => ⟨vs, vs[i]'(by omega), h2, List.getElem?_eq_getElem _⟩, ⟨vs, h2, by omega⟩, fun i x H2 hi hx => ?_⟩
  obtain ⟨rfl, hx⟩ := hx
  obtain ⟨d, hd, dv⟩ := hs.getV (hx vs h2)
  exact ⟨d, hd, dv, .refl, s1⟩
def iOwn (te : RE) (a : Addr) (ds : List D) : RI := fun ex τ M R => te ex τ M fun d M1 => d = .ref a ∧ (∃ k, At M1 a (.lst ds) k) ∧ R ds M1
/-- some list's -/
def wOwn (K : PySem.W.Frag) (E : XK) (te : RE) : TI := fun σ H R => ∃ a ds, liftIG K E (GL a ds) (iOwn te a ds) σ H R
section
variable {X : Cx} {E : XK} {st : Stmt} {e tg iter : Expr} {es : List Expr} {pos : Pos} {te te0 : RE} {tt : RT} {g : RG} {body : RS}
theorem pi_own (he : BE X E e te) : PI X tg e (wOwn X.K E te) := PI.weak (pi_list he) fun σ H R ⟨a, ds, τ, M, Fm, Rb, ex, w, h, k⟩ => by
  refine ⟨τ, M, Fm, _, ex, w, h, fun v H1 d M1 dv s1 f1 ⟨e1, ⟨kk, ha⟩, r⟩ => ?_⟩
  subst e1
  cases dv
  obtain ⟨vs, h1, hs⟩ := s1.at ha.hid
  exact ⟨a, rfl, ⟨vs, .of h1⟩, k _ H1 _ M1 s1 f1 its_own r⟩
def sForW (te : RE) (g : RG) (body : RS) : RS := fun B τ M => ∃ a ds, iOwn te a ds B.ex τ M fun ds M1 => forG (GL a ds) g body B ds τ M1
theorem bs_forW {bd : List Stmt} (hp : PassesOwn (model X.prog X.w) X.A X.env X.xe) (hc : X.calm = true) (hi : PI X tg iter (wOwn X.K E te)) (hg : BG X E tg g) (hb : BSs X E bd body) (hs : ∀ x, foldedSetIterable iter X.env x = pure x := by intro _; rfl) : BS X E (.For tg iter bd [] pos) (sForW te g body) :=
  PS.weak (ps_for hp hc hi hg hb hs) fun Dn σ H ⟨τ, M, Fm, B, w, ⟨a, ds, h⟩, kn, kr, kb, kc⟩ => by
  have h' : iOwn te a ds B.ex τ M fun ds' M1 => forG (GL a ds) g body B ds' τ M1 := h
  obtain ⟨τ1, M1, Fm1, Rb, ex1, w1, h1, k1⟩ := for_lift (X := X) (E := E) (it := iOwn te a ds) (G := GL a ds) (g := g) (body := body) (B := B) w h' kn kr kb kc
  exact ⟨a, ds, τ1, M1, Fm1, Rb, ex1, w1, h1, k1⟩
def rLcW (te0 : RE) (g : RCg) (tt : RT) (te : RE) (vs : List Nat) : RE := fun ex τ M R => ∃ a ds, iOwn te0 a ds ex τ M fun ds M1 => lcG (GL a ds) g tt te nox (wipeB τ vs) (fun acc M2 => R (.lst acc) M2) ds [] M1
theorem lcW_lift {g : RCg} {gt : TG} {vs : List Nat} (cg : CgOk X.K vs g gt) {σ : L2.St} {H : Hp} {Q : VK} (h : liftE X.K E (rLcW te0 g tt te vs) σ H Q) :
    tLc (wOwn X.K E te0) gt (liftT X.K (fun _ _ _ => False) tt) (liftE X.K (fun _ _ _ => False) te) vs σ H Q := by
  obtain ⟨τ, M, Fm, R, ex, w, ⟨a, ds, h⟩, kk⟩ := h
  have h' : iOwn te0 a ds ex τ M fun ds' M1 => lcG (GL a ds) g tt te nox (wipeB τ vs) (fun acc M2 => R (.lst acc) M2) ds' [] M1 := h
  obtain ⟨τ1, M1, Fm1, Rb, ex1, w1, h1, k1⟩ := lc_lift (X := X) (E := E) (it := iOwn te0 a ds) (G := GL a ds) cg w h' (Q := Q) fun D ws' ds H2 M2 q1 q2 q3 q4 q5 r => by
    have dz : DV X.K (keys (M2 ++ Fm)) H2 (.ref D) (.lst ds) := .lst ⟨SR.off (a := D) (o := .lst ds) q5, q1⟩ q2
    exact kk _ _ _ _ dz q3 (q4.trans fr_drop) r
  exact ⟨a, ds, τ1, M1, Fm1, Rb, ex1, w1, h1, k1⟩
theorem be_lcWOf {g : RCg} {gt : TG} {vs : List Nat} (cg : CgOk X.K vs g gt) (h : PE X e (tLc (wOwn X.K E te0) gt (liftT X.K (fun _ _ _ => False) tt) (liftE X.K (fun _ _ _ => False) te) vs)) : BE X E e (rLcW te0 g tt te vs) :=
  PE.weak h fun _ _ _ q => lcW_lift cg q
def oSlO : RSl := fun d lo hi M R => ∃ ds, LstD d M ds ∧ ∀ p, R (.ref p) ((p, .lst (cutD ds lo hi)) :: M)
theorem bslO : BSl X oSlO := SlR.weak sl_list fun x lo hi H Q ⟨d, M, Fm, R, dx, sr, ⟨ds, h, r⟩, k⟩ => by
  obtain ⟨a, vs, rfl, hv, hs⟩ := h.ho dx sr
  exact ⟨a, vs, rfl, .of hv, fun p hp => k _ _ _ ((p, .lst (cutD ds lo hi)) :: M) (.ref p) (sr.own (o := .lst (cutD ds lo hi)) hp ⟨_, upd_same, (hs.cut lo hi).mono (fr_own sr hp)⟩) (fr_own sr hp) (r p)⟩
end
end BV
set_option maxHeartbeats 4000000
namespace BV
open PySem
local macro_rules | `(tactic| walk_at "pd") => `(tactic| (first | rfl | assumption | (apply pd_str; assumption) | decide +kernel))
local macro_rules | `(tactic| walk_at "ty") => `(tactic| (first | exact TyD.tup _ | exact TyD.str _ | exact TyD.lst _ | exact TyD.bl _ | exact TyD.int _ | exact TyD.non | (apply TyD.ref; walk_at "at")))
local macro_rules | `(tactic| walk_at "sz") => `(tactic| (first | assumption | exact Nat.le_of_ble_eq_true rfl))
local macro_rules | `(tactic| walk_at "at") => `(tactic| (repeat (first | exact At.here | apply At.there | apply At.app)))
local macro_rules | `(tactic| walk_at "sok") => `(tactic| (first | assumption | (show PyData.strOk _ = true; decide +kernel)))
local macro_rules | `(tactic| walk_at "b1") => `(tactic| first
  | with_reducible refine q_seq ?_
  | with_reducible refine q_if ?_
  | with_reducible refine q_tst ?_
  | with_reducible refine q_op ?_
  | with_reducible refine q_c ?_
  | ((with_reducible refine' q_var ?b1 ?_); (case b1 => rfl))
  | with_reducible refine q_fld ?_
  | ((with_reducible refine' q_fldR ?b1 ?b2 ?_); (case b1 => walk_at "at"); (case b2 => rfl))
  | ((with_reducible refine' q_fldV ?b2 ?_); (case b2 => rfl))
  | ((with_reducible refine' q_eqS ?b1 ?b2 ?_); (case b1 => walk_at "sok"); (case b2 => walk_at "sok"))
  | ((with_reducible refine' q_neS ?b1 ?b2 ?_); (case b1 => walk_at "sok"); (case b2 => walk_at "sok"))
  | with_reducible refine q_eqB ?_
  | with_reducible refine q_eqI ?_
  | with_reducible refine q_neI ?_
  | with_reducible refine q_addI ?_
  | with_reducible refine q_oadd ?_
  | with_reducible refine q_osub ?_
  | with_reducible refine q_lt ?_
  | with_reducible refine q_le ?_
  | with_reducible refine q_gt ?_
  | with_reducible refine q_ge ?_
  | with_reducible refine q_isN ?_
  | with_reducible refine q_notN ?_
  | ((with_reducible refine' q_ixT ?b2 ?_); (case b2 => rfl))
  | ((with_reducible refine' q_ixL ?b2 ?_); (case b2 => rfl))
  | ((with_reducible refine' q_ixR ?b1 ?b2 ?_); (case b1 => walk_at "at"); (case b2 => rfl))
  | with_reducible refine q_bl ?_
  | with_reducible refine q_ret ?_
  | with_reducible refine q_retN ?_
  | with_reducible refine q_skip ?_
  | with_reducible refine q_drop ?_
  | with_reducible refine q_asg ?_
  | with_reducible refine q_gN ?_
  | with_reducible refine q_gFld ?_
  | with_reducible refine q_aug ?_
  | with_reducible refine q_isRef ?_
  | ((with_reducible refine' q_put ?b1 ?b2 ?b3 ?_); (case b1 => walk_at "at"); (case b2 => rfl); (case b3 => rfl))
  | with_reducible refine q_nil ?_
  | with_reducible refine q_cons ?_
  | with_reducible refine q_not ?_
  | with_reducible refine q_and ?_
  | with_reducible refine q_or ?_
  | with_reducible refine q_andV ?_
  | with_reducible refine q_orV ?_
  | with_reducible refine q_notV ?_
  | with_reducible refine q_ifE ?_
  | with_reducible refine q_tup ?_
  | ((with_reducible refine' q_szA ?b1 fun p => ?_); (case b1 => walk_at "sz"))
  | ((with_reducible refine' q_sz ?b1 ?_); (case b1 => walk_at "sz"))
  | with_reducible refine q_bm ?_
  | ((with_reducible refine' q_own ?b1 ?_); (case b1 => walk_at "at"))
  | ((with_reducible refine' q_append ?b1 ?b2 ?_); (case b1 => walk_at "at"); (case b2 => walk_at "sz"))
  | with_reducible refine q_call0 ?_
  | with_reducible refine q_meth0 ?_
  | ((with_reducible refine' q_isR ?b1 ?_); (case b1 => walk_at "at"))
  | ((with_reducible refine' q_isP ?b1 ?_); (case b1 => exact Or.inr ⟨_, rfl⟩))
  | with_reducible refine q_dct ?_
  | with_reducible refine q_dget ?_
  | ((with_reducible refine' q_dctE ?b1 ?_); (case b1 => walk_at "at"))
  | with_reducible refine q_dinT ?_
  | with_reducible refine q_dinF ?_
  | with_reducible refine q_dget1 ?_
  | ((with_reducible refine' q_isDct ?b1 ?_); (case b1 => walk_at "at"))
  | ((with_reducible refine' q_setD ?b1 ?b2 ?_); (case b1 => walk_at "at"); (case b2 => walk_at "sz"))
  | with_reducible refine q_orT ?_
  | ((with_reducible refine' q_orTT ?b1 ?_); (case b1 => rfl))
  | with_reducible refine q_cb ?_
  | ((with_reducible refine' q_inT ?b1 ?b2 rfl ?_); (case b1 => walk_at "pd"); (case b2 => walk_at "pd"))
  | ((with_reducible refine' q_notInT ?b1 ?b2 rfl ?_); (case b1 => walk_at "pd"); (case b2 => walk_at "pd"))
  | ((with_reducible refine' q_isi rfl ?b1 ?_); (case b1 => walk_at "ty"))
  | ((with_reducible refine' q_isi2 rfl rfl ?b1 ?_); (case b1 => walk_at "ty"))
  | with_reducible refine q_lenT ?_
  | with_reducible refine q_lenL ?_
  | ((with_reducible refine' q_lenR ?b1 ?_); (case b1 => walk_at "at"))
  | ((with_reducible refine' q_lenD ?b1 ?_); (case b1 => walk_at "at"))
  | ((with_reducible refine' q_lenS ?b1 ?_); (case b1 => walk_at "sz"))
  | with_reducible refine q_lenSc ?_
  | with_reducible refine q_intI ?_
  | with_reducible refine q_intB ?_
  | with_reducible refine q_listT ?_
  | with_reducible refine q_listL ?_
  | ((with_reducible refine' q_listR ?b1 ?_); (case b1 => walk_at "at"))
  | ((with_reducible refine' q_listD ?b1 ?_); (case b1 => walk_at "at"))
  | ((with_reducible refine' q_tupR ?b1 ?_); (case b1 => walk_at "at"))
  | with_reducible refine q_tupL ?_
  | ((with_reducible refine' q_dictO ?b1 fun p => ?_); (case b1 => walk_at "at"))
  | with_reducible refine q_dictN fun p => ?_
  | with_reducible refine q_lstO ?_
  | with_reducible refine q_lstV ?_
  | with_reducible refine q_chain ?_
  | ((with_reducible refine' q_gTup ?b1 ?_); (case b1 => rfl))
  | with_reducible refine q_gCons ?_
  | with_reducible refine q_gNil ?_
  | with_reducible refine q_par ?_
  | with_reducible refine q_par3 ?_
  | with_reducible refine q_two ?_
  | with_reducible refine q_three ?_
  | ((with_reducible refine' q_saug ?b1 ?_); (case b1 => rfl))
  | with_reducible refine q_gSub ?_
  | ((with_reducible refine' q_setL ?b1 ?b2 ?b3 ?_); (case b1 => walk_at "at"); (case b2 => rfl); (case b3 => rfl))
  | with_reducible refine q_ownV ?_
  | with_reducible refine q_indexA ?_
  | ((with_reducible refine' q_indexB ?b1 ?_); (case b1 => decide +kernel))
  | ((with_reducible refine' q_listO ?b1 fun p => ?_); (case b1 => walk_at "at"))
  | with_reducible refine q_listOT fun p => ?_
  | ((with_reducible refine' q_popO ?b1 ?_); (case b1 => walk_at "at"))
  | with_reducible refine q_yes ?_
  | with_reducible refine q_cN ?_
  | with_reducible refine q_make0 ?_
  | with_reducible refine q_lstX ?_
  | with_reducible refine q_tupX ?_
  | ((with_reducible refine' q_iteT ?b1 ?_); (case b1 => first | rfl | decide +kernel))
  | ((with_reducible refine' q_iteF ?b1 ?_); (case b1 => first | rfl | decide +kernel))
  | with_reducible refine q_goS ?_
  | with_reducible refine q_goV ?_)
local macro_rules | `(tactic| walk_at "bv") => `(tactic| (repeat (walk_at "b1")))
local macro_rules | `(tactic| walk_at "pm") => `(tactic| (classical (refine List.perm_iff_count.mpr fun z => ?_; simp only [List.count_append, List.count_cons, List.count_nil]; omega)))
/-! ### calls -/
inductive Op where
  | day
  | chg (b : Bk)
  | put (x : Str) (d : Deed)
def Op.l : Op → List D
  | .day => [.str "day", .non, .non]
  | .chg b => [.str "change", b.d, .non]
  | .put x d => [.str "do", .str x, d.d]
def Op.app (a : Addr) (h : Hs) : Op → Hs
  | .day => (Hs.days (keysT h.tk) (h.save a)).2
  | .chg b => { h.save a with bk := b }
  | .put x d => (h.save a).put x d
def Op.res (h : Hs) : Op → D
  | .day => .lst (Hs.days (keysT h.tk) h).1
  | .chg _ => .non
  | .put x d => .tup (work h.bk (getT h.tk x) d).rep
def Op.okAt (h : Hs) : Op → Prop
  | .day => True
  | .chg b => b.good ∧ b.desks = h.bk.desks
  | .put x d => isNm x = true ∧ d.okIn h.bk.desks ∧ (x ∈ keysT h.tk ∨ d = .letter)
theorem days_keys : ∀ {l : List Str} {h : Hs}, (∀ x ∈ l, x ∈ keysT h.tk) → keysT (Hs.days l h).2.tk = keysT h.tk
  | [], h, _ => rfl
  | x :: l, h, hk => by
    have hm := hk x List.mem_cons_self
    have e := put_key (d := .day) hm
    show keysT (Hs.days l (h.put x .day)).2.tk = _
    rw [days_keys (l := l) (h := h.put x .day) (fun y hy => by rw [e]; exact hk y (List.mem_cons_of_mem _ hy)), e]
theorem app_saved {a : Addr} {h : Hs} {o : Op} : (o.app a h).saved = ⟨a, h.bk, h.tk, h.total⟩ :: h.saved := by
  cases o with
  | day => exact days_saved
  | chg b => rfl
  | put x d => rfl
theorem sv_h {a : Addr} {h : Hs} : Sv.h ⟨a, h.bk, h.tk, h.total⟩ h.saved = h := rfl
theorem app_desks {a : Addr} {h : Hs} {o : Op} (k : o.okAt h) : (o.app a h).bk.desks = h.bk.desks := by
  cases o with
  | day => exact congrArg Bk.desks days_bk
  | chg b => exact k.2
  | put x d => rfl
theorem app_keys {a : Addr} {h : Hs} {o : Op} : ∀ y ∈ keysT h.tk, y ∈ keysT (o.app a h).tk := by
  intro y hy
  cases o with
  | day =>
    show y ∈ keysT (Hs.days (keysT h.tk) (h.save a)).2.tk
    rw [days_keys (l := keysT h.tk) (h := h.save a) (fun x hx => hx)]
    exact hy
  | chg b => exact hy
  | put x d =>
    show y ∈ keysT ((h.save a).put x d).tk
    rw [put_keys]
    split
    · exact hy
    · exact List.mem_append.mpr (.inl hy)
theorem app_new {a : Addr} {h : Hs} {x : Str} {d : Deed} : x ∈ keysT (Op.app a h (.put x d)).tk := by
  show x ∈ keysT ((h.save a).put x d).tk
  rw [put_keys]
  split
  · assumption
  · exact List.mem_append.mpr (.inr List.mem_cons_self)
theorem app_few {a : Addr} {h : Hs} {o : Op} : (o.app a h).tk.length ≤ h.tk.length + 1 := by
  cases o with
  | day =>
    have e := congrArg List.length (days_keys (l := keysT h.tk) (h := h.save a) (fun x hx => hx))
    rw [keysT_len, keysT_len] at e
    show (Hs.days (keysT h.tk) (h.save a)).2.tk.length ≤ _
    rw [e]
    exact Nat.le_succ _
  | chg b => exact Nat.le_succ _
  | put x d => exact setT_len
theorem app_fit {a : Addr} {h : Hs} {o : Op} (ok : h.fit) (k : o.okAt h) (hs : h.saved.length + 1 ≤ 1000000) (ht : h.tk.length + 1 ≤ 1000) : (o.app a h).fit := by
  have f1 := save_fit (a := a) ok hs
  cases o with
  | day => exact days_fit f1 (fun x hx => hx)
  | chg b => exact ⟨⟨k.1.sk, f1.ok.tk, f1.ok.few, f1.ok.sv⟩, f1.nd, k.1.desks, f1.nm⟩
  | put x d => exact put_fit f1 k.1 k.2.1.sk (.inr ht)
/-- alike but for what is kept -/
def Eqz (g h : Hs) : Prop := g.bk = h.bk ∧ g.tk = h.tk ∧ g.total = h.total ∧ g.saved.length = h.saved.length
theorem Eqz.is {g h : Hs} (e : Eqz g h) : g = h.sv g.saved := by
  obtain ⟨b, t, n, s⟩ := g
  obtain ⟨b2, t2, n2, s2⟩ := h
  obtain ⟨rfl, rfl, rfl, _⟩ := e
  rfl
theorem Eqz.rfl' {h : Hs} : Eqz h h := ⟨rfl, rfl, rfl, rfl⟩
theorem res_sv {h : Hs} {q : List Sv} {o : Op} : o.res (h.sv q) = o.res h := by
  cases o with
  | day =>
    have e : (Hs.days (keysT h.tk) (h.sv q)).1 = (Hs.days (keysT h.tk) h).1 := by rw [days_sv]
    exact congrArg D.lst e
  | chg b => rfl
  | put x d => rfl
theorem Eqz.res {g h : Hs} (e : Eqz g h) {o : Op} : o.res g = o.res h := by rw [e.is, res_sv]
theorem Eqz.okAt {g h : Hs} (e : Eqz g h) {o : Op} (k : o.okAt h) : o.okAt g := by
  rw [e.is]
  cases o with
  | day => trivial
  | chg b => exact k
  | put x d => exact k
theorem app_sv {h : Hs} {q : List Sv} {a a' : Addr} {o : Op} : o.app a (h.sv q) = (o.app a' h).sv (⟨a, h.bk, h.tk, h.total⟩ :: q) := by
  cases o with
  | day =>
    show (Hs.days (keysT h.tk) ((h.sv q).save a)).2 = ((Hs.days (keysT h.tk) (h.save a')).2).sv _
    rw [show (h.sv q).save a = (h.save a').sv (⟨a, h.bk, h.tk, h.total⟩ :: q) from rfl, days_sv]
  | chg b => rfl
  | put x d => rfl
theorem Eqz.app {g h : Hs} (e : Eqz g h) {o : Op} {a a' : Addr} : Eqz (o.app a g) (o.app a' h) := by
  have e1 := e.is
  have el := e.2.2.2
  generalize g.saved = q at e1 el
  subst e1
  rw [app_sv (a' := a')]
  refine ⟨rfl, rfl, rfl, ?_⟩
  show (_ :: q).length = _
  rw [app_saved, List.length_cons, List.length_cons, el]
theorem res_save {h : Hs} {a : Addr} {o : Op} : o.res (h.save a) = o.res h := res_sv (h := h)
/-- a call with what it told -/
abbrev Zo := Op × D
def callD (z : Zo) : D := .tup (z.1.l ++ [z.2])
def cD (l : List Zo) : List D := l.reverse.map callD
theorem cD_cons {z : Zo} {l : List Zo} : cD (z :: l) = cD l ++ [callD z] := by
  unfold cD
  rw [List.reverse_cons, List.map_append]
  rfl
theorem cD_len {l : List Zo} : (cD l).length = l.length := by unfold cD; simp
/-- the calls, the last one ahead, and where they led -/
inductive Rn (b0 : Bk) : List Zo → Hs → Prop
  | nil : Rn b0 [] ⟨b0, [], 0, []⟩
  | cons {l : List Zo} {h : Hs} {o : Op} {a : Addr} : Rn b0 l h → o.okAt h → Rn b0 ((o, o.res h) :: l) (o.app a h)
theorem Rn.len {b0 : Bk} {l : List Zo} {h : Hs} (r : Rn b0 l h) : h.saved.length = l.length := by
  induction r with
  | nil => rfl
  | cons _ _ ih => rw [app_saved, List.length_cons, List.length_cons, ih]
theorem Rn.few {b0 : Bk} {l : List Zo} {h : Hs} (r : Rn b0 l h) : h.tk.length ≤ l.length := by
  induction r with
  | nil => exact Nat.le_refl _
  | cons _ _ ih => exact Nat.le_trans app_few (Nat.succ_le_succ ih)
theorem Rn.fit {b0 : Bk} {l : List Zo} {h : Hs} (r : Rn b0 l h) (g : b0.good) (hl : l.length ≤ 900) : h.fit := by
  induction r with
  | nil => exact ⟨⟨g.sk, (fun x hx => by cases hx), by show 0 ≤ 1000; decide, by show 0 ≤ 1000000; decide⟩, List.nodup_nil, g.desks, fun x hx => by cases hx⟩
  | cons r k ih =>
    rw [List.length_cons] at hl
    have h1 := r.len
    have h2 := r.few
    exact app_fit (ih (by omega)) k (by omega) (by omega)
theorem Rn.desks {b0 : Bk} {l : List Zo} {h : Hs} (r : Rn b0 l h) : h.bk.desks = b0.desks := by
  induction r with
  | nil => rfl
  | cons _ k ih => rw [app_desks k, ih]
/-- who was called for -/
def Op.who : Op → List Str
  | .put x _ => [x]
  | _ => []
def dos (l : List Zo) : List Str := l.flatMap fun z => z.1.who
theorem Rn.who {b0 : Bk} {l : List Zo} {h : Hs} (r : Rn b0 l h) : ∀ x ∈ dos l, x ∈ keysT h.tk := by
  induction r with
  | nil => intro x hx; cases hx
  | @cons l h o a _ _ ih =>
    intro x hx
    rcases List.mem_append.mp (show x ∈ o.who ++ dos l from hx) with q | q
    · cases o with
      | put y d =>
        rw [List.mem_singleton.mp q]
        exact app_new
      | _ => cases q
    · exact app_keys x (ih x q)
/-- calls in their order -/
inductive Fw : Hs → List Zo → Hs → Prop
  | nil {h : Hs} : Fw h [] h
  | cons {h h' : Hs} {o : Op} {a : Addr} {l : List Zo} : o.okAt h → Fw (o.app a h) l h' → Fw h ((o, o.res h) :: l) h'
theorem Fw.snoc {h h' : Hs} {l : List Zo} {o : Op} {a : Addr} (f : Fw h l h') (k : o.okAt h') : Fw h (l ++ [(o, o.res h')]) (o.app a h') := by
  induction f with
  | nil => exact .cons k .nil
  | cons k1 _ ih => exact .cons k1 (ih k)
theorem Rn.fw {b0 : Bk} {l : List Zo} {h : Hs} (r : Rn b0 l h) : Fw ⟨b0, [], 0, []⟩ l.reverse h := by
  induction r with
  | nil => exact .nil
  | cons _ k ih =>
    rw [List.reverse_cons]
    exact ih.snoc k
end BV
set_option maxHeartbeats 4000000
namespace BV
open PySem
local macro_rules | `(tactic| walk_at "pd") => `(tactic| (first | rfl | assumption | (apply pd_str; assumption) | decide +kernel))
local macro_rules | `(tactic| walk_at "ty") => `(tactic| (first | exact TyD.tup _ | exact TyD.str _ | exact TyD.lst _ | exact TyD.bl _ | exact TyD.int _ | exact TyD.non | (apply TyD.ref; walk_at "at")))
local macro_rules | `(tactic| walk_at "sz") => `(tactic| (first | assumption | exact Nat.le_of_ble_eq_true rfl))
local macro_rules | `(tactic| walk_at "at") => `(tactic| (repeat (first | exact At.here | apply At.there | apply At.app)))
local macro_rules | `(tactic| walk_at "sok") => `(tactic| (first | assumption | (show PyData.strOk _ = true; decide +kernel)))
local macro_rules | `(tactic| walk_at "b1") => `(tactic| first
  | with_reducible refine q_seq ?_
  | with_reducible refine q_if ?_
  | with_reducible refine q_tst ?_
  | with_reducible refine q_op ?_
  | with_reducible refine q_c ?_
  | ((with_reducible refine' q_var ?b1 ?_); (case b1 => rfl))
  | with_reducible refine q_fld ?_
  | ((with_reducible refine' q_fldR ?b1 ?b2 ?_); (case b1 => walk_at "at"); (case b2 => rfl))
  | ((with_reducible refine' q_fldV ?b2 ?_); (case b2 => rfl))
  | ((with_reducible refine' q_eqS ?b1 ?b2 ?_); (case b1 => walk_at "sok"); (case b2 => walk_at "sok"))
  | ((with_reducible refine' q_neS ?b1 ?b2 ?_); (case b1 => walk_at "sok"); (case b2 => walk_at "sok"))
  | with_reducible refine q_eqB ?_
  | with_reducible refine q_eqI ?_
  | with_reducible refine q_neI ?_
  | with_reducible refine q_addI ?_
  | with_reducible refine q_oadd ?_
  | with_reducible refine q_osub ?_
  | with_reducible refine q_lt ?_
  | with_reducible refine q_le ?_
  | with_reducible refine q_gt ?_
  | with_reducible refine q_ge ?_
  | with_reducible refine q_isN ?_
  | with_reducible refine q_notN ?_
  | ((with_reducible refine' q_ixT ?b2 ?_); (case b2 => rfl))
  | ((with_reducible refine' q_ixL ?b2 ?_); (case b2 => rfl))
  | ((with_reducible refine' q_ixR ?b1 ?b2 ?_); (case b1 => walk_at "at"); (case b2 => rfl))
  | with_reducible refine q_bl ?_
  | with_reducible refine q_ret ?_
  | with_reducible refine q_retN ?_
  | with_reducible refine q_skip ?_
  | with_reducible refine q_drop ?_
  | with_reducible refine q_asg ?_
  | with_reducible refine q_gN ?_
  | with_reducible refine q_gFld ?_
  | with_reducible refine q_aug ?_
  | with_reducible refine q_isRef ?_
  | ((with_reducible refine' q_put ?b1 ?b2 ?b3 ?_); (case b1 => walk_at "at"); (case b2 => rfl); (case b3 => rfl))
  | with_reducible refine q_nil ?_
  | with_reducible refine q_cons ?_
  | with_reducible refine q_not ?_
  | with_reducible refine q_and ?_
  | with_reducible refine q_or ?_
  | with_reducible refine q_andV ?_
  | with_reducible refine q_orV ?_
  | with_reducible refine q_notV ?_
  | with_reducible refine q_ifE ?_
  | with_reducible refine q_tup ?_
  | ((with_reducible refine' q_szA ?b1 fun p => ?_); (case b1 => walk_at "sz"))
  | ((with_reducible refine' q_sz ?b1 ?_); (case b1 => walk_at "sz"))
  | with_reducible refine q_bm ?_
  | ((with_reducible refine' q_own ?b1 ?_); (case b1 => walk_at "at"))
  | ((with_reducible refine' q_append ?b1 ?b2 ?_); (case b1 => walk_at "at"); (case b2 => walk_at "sz"))
  | with_reducible refine q_call0 ?_
  | with_reducible refine q_meth0 ?_
  | ((with_reducible refine' q_isR ?b1 ?_); (case b1 => walk_at "at"))
  | ((with_reducible refine' q_isP ?b1 ?_); (case b1 => exact Or.inr ⟨_, rfl⟩))
  | with_reducible refine q_dct ?_
  | with_reducible refine q_dget ?_
  | ((with_reducible refine' q_dctE ?b1 ?_); (case b1 => walk_at "at"))
  | with_reducible refine q_dinT ?_
  | with_reducible refine q_dinF ?_
  | with_reducible refine q_dget1 ?_
  | ((with_reducible refine' q_isDct ?b1 ?_); (case b1 => walk_at "at"))
  | ((with_reducible refine' q_setD ?b1 ?b2 ?_); (case b1 => walk_at "at"); (case b2 => walk_at "sz"))
  | with_reducible refine q_orT ?_
  | ((with_reducible refine' q_orTT ?b1 ?_); (case b1 => rfl))
  | with_reducible refine q_cb ?_
  | ((with_reducible refine' q_inT ?b1 ?b2 rfl ?_); (case b1 => walk_at "pd"); (case b2 => walk_at "pd"))
  | ((with_reducible refine' q_notInT ?b1 ?b2 rfl ?_); (case b1 => walk_at "pd"); (case b2 => walk_at "pd"))
  | ((with_reducible refine' q_isi rfl ?b1 ?_); (case b1 => walk_at "ty"))
  | ((with_reducible refine' q_isi2 rfl rfl ?b1 ?_); (case b1 => walk_at "ty"))
  | with_reducible refine q_lenT ?_
  | with_reducible refine q_lenL ?_
  | ((with_reducible refine' q_lenR ?b1 ?_); (case b1 => walk_at "at"))
  | ((with_reducible refine' q_lenD ?b1 ?_); (case b1 => walk_at "at"))
  | ((with_reducible refine' q_lenS ?b1 ?_); (case b1 => walk_at "sz"))
  | with_reducible refine q_lenSc ?_
  | with_reducible refine q_intI ?_
  | with_reducible refine q_intB ?_
  | with_reducible refine q_listT ?_
  | with_reducible refine q_listL ?_
  | ((with_reducible refine' q_listR ?b1 ?_); (case b1 => walk_at "at"))
  | ((with_reducible refine' q_listD ?b1 ?_); (case b1 => walk_at "at"))
  | ((with_reducible refine' q_tupR ?b1 ?_); (case b1 => walk_at "at"))
  | with_reducible refine q_tupL ?_
  | ((with_reducible refine' q_dictO ?b1 fun p => ?_); (case b1 => walk_at "at"))
  | with_reducible refine q_dictN fun p => ?_
  | with_reducible refine q_lstO ?_
  | with_reducible refine q_lstV ?_
  | with_reducible refine q_chain ?_
  | ((with_reducible refine' q_gTup ?b1 ?_); (case b1 => rfl))
  | with_reducible refine q_gCons ?_
  | with_reducible refine q_gNil ?_
  | with_reducible refine q_par ?_
  | with_reducible refine q_par3 ?_
  | with_reducible refine q_two ?_
  | with_reducible refine q_three ?_
  | ((with_reducible refine' q_saug ?b1 ?_); (case b1 => rfl))
  | with_reducible refine q_gSub ?_
  | ((with_reducible refine' q_setL ?b1 ?b2 ?b3 ?_); (case b1 => walk_at "at"); (case b2 => rfl); (case b3 => rfl))
  | with_reducible refine q_ownV ?_
  | with_reducible refine q_indexA ?_
  | ((with_reducible refine' q_indexB ?b1 ?_); (case b1 => decide +kernel))
  | ((with_reducible refine' q_listO ?b1 fun p => ?_); (case b1 => walk_at "at"))
  | with_reducible refine q_listOT fun p => ?_
  | ((with_reducible refine' q_popO ?b1 ?_); (case b1 => walk_at "at"))
  | with_reducible refine q_yes ?_
  | with_reducible refine q_cN ?_
  | with_reducible refine q_make0 ?_
  | with_reducible refine q_lstX ?_
  | with_reducible refine q_tupX ?_
  | ((with_reducible refine' q_iteT ?b1 ?_); (case b1 => first | rfl | decide +kernel))
  | ((with_reducible refine' q_iteF ?b1 ?_); (case b1 => first | rfl | decide +kernel))
  | with_reducible refine q_goS ?_
  | with_reducible refine q_goV ?_)
local macro_rules | `(tactic| walk_at "bv") => `(tactic| (repeat (walk_at "b1")))
local macro_rules | `(tactic| walk_at "pm") => `(tactic| (classical (refine List.perm_iff_count.mpr fun z => ?_; simp only [List.count_append, List.count_cons, List.count_nil]; omega)))
def t_Desk_undoX : RS := sSeq (sIf (rTst (rOp oEqE (rFld .desk 3 (rVar 0)) (rLstV rNil))) (sRaise0 "NothingToUndo") (sSkip)) (sAsg (rBM "list" mPop (rFld .desk 3 (rVar 0)) rNil) (BV.gTup 3 (BV.gCons (gFld .desk 0 (rVar 0)) (BV.gCons (gFld .desk 1 (rVar 0)) (BV.gCons (gFld .desk 2 (rVar 0)) BV.gNil)))))
def t_Desk_change : RS := sSeq (sIf (rTst (rOp oNe (rMeth0 .book sp_Book_desks (rVar 1) rNil) (rMeth0 .book sp_Book_desks (rFld .desk 0 (rVar 0)) rNil))) (sNever) (sSkip)) (sSeq (sDrop (rMeth0 .desk sp_Desk_remember (rVar 0) rNil)) (sAsg (rVar 1) (gFld .desk 0 (rVar 0))))
def t_Desk_book : RS := sRet (rFld .desk 0 (rVar 0))
def sp_Desk_undoX : BSp := fun ex ds M R => ∃ p t e h, ds = [.ref p] ∧ M = Hs.m h p t e ∧ ((h.saved = [] ∧ ex "NothingToUndo" [] M) ∨ ∃ s r, h.saved = s :: r ∧ R .non (Hs.m (s.h r) p s.a e))
theorem len_Desk_undoX : ∀ ex ds M R, sp_Desk_undoX ex ds M R → ds.length = 1 := by
  rintro ex ds M R ⟨p, t, e, h, rfl, _⟩
  rfl
theorem pure_Desk_undoX : ∀ ex ds M R, sp_Desk_undoX ex ds M R → t_Desk_undoX { ex := ex, nx := fun _ M' => Stop (CvV .non M' R), rt := R } (startB 1 ds) M := by
  rintro ex ds M R ⟨p, t, e, h, rfl, rfl, ⟨hs, k⟩ | ⟨s, r, hs, k⟩⟩
  · unfold t_Desk_undoX
    have e1 : h.rows = [] := by unfold Hs.rows; rw [hs]; rfl
    walk_at "bv"
    unfold Hs.m at k ⊢
    rw [e1] at k ⊢
    refine q_eqE (.app (.there (.there .here))) ?_
    rw [show ([] : List D).isEmpty = true from rfl]
    walk_at "bv"
    exact k
  · unfold t_Desk_undoX
    have e1 : h.rows = (r.reverse.map Sv.d) ++ [s.d] := by unfold Hs.rows; rw [hs]; simp
    walk_at "bv"
    have c1 : h.c = (s.a, .dct (kvD s.tk)) :: (r.map fun s => (s.a, MO.dct (kvD s.tk))) := by unfold Hs.c; rw [hs]; rfl
    unfold Hs.m
    rw [e1, c1]
    refine q_eqE (.app (.there (.there .here))) ?_
    rw [show ((r.reverse.map Sv.d) ++ [s.d]).isEmpty = false by simp]
    walk_at "bv"
    refine q_pop (.app (.there (.there .here))) ?_
    unfold Sv.d
    walk_at "bv"
    exact stopV_cv ((CvA.perm p_undo).trans .drop) k
theorem deq_tup {ds es : List D} : deq (.tup ds) (.tup es) = deq (.lst ds) (.lst es) := by
  unfold deq
  simp only [toP, PyData.eqv]
theorem deq_cons {d e : D} {ds es : List D} : deq (.lst (d :: ds)) (.lst (e :: es)) = (deq d e && deq (.lst ds) (.lst es)) := by
  unfold deq
  simp only [toP, toPs, PyData.eqv, PyData.eqvAll]
theorem deq_sts : ∀ {l : List Str}, deq (.lst (sts l)) (.lst (sts l)) = true
  | [] => by decide +kernel
  | x :: l => by
    show deq (.lst (.str x :: sts l)) (.lst (.str x :: sts l)) = true
    rw [deq_cons, deq_str, deq_sts, decide_eq_true rfl]
    rfl
theorem tup_pd {l : List Str} (h : ∀ x ∈ l, sok x) : pd 60 (.tup (sts l)) = true := by
  simp only [pd]
  exact sts_pd h
def sp_Desk_change : BSp := fun ex ds M R => ∃ p t e h b, ds = [.ref p, Bk.d b] ∧ b.desks = (Hs.bk h).desks ∧ (∀ x ∈ b.desks, sok x) ∧ h.saved.length ≤ 1000000 ∧ M = Hs.m h p t e ∧ ∀ a, R .non (Hs.m { h.save a with bk := b } p t e)
theorem len_Desk_change : ∀ ex ds M R, sp_Desk_change ex ds M R → ds.length = 2 := by
  rintro ex ds M R ⟨p, t, e, h, b, rfl, _⟩
  rfl
theorem pure_Desk_change : ∀ ex ds M R, sp_Desk_change ex ds M R → t_Desk_change { ex := ex, nx := fun _ M' => R .non M', rt := R } (startB 2 ds) M := by
  rintro ex ds M R ⟨p, t, e, h, b, rfl, hb, hok, hl, rfl, k⟩
  unfold t_Desk_change
  walk_at "bv"
  refine cf_pure ⟨b, rfl, rfl, ?_⟩
  walk_at "bv"
  unfold Hs.m
  walk_at "bv"
  refine cf_pure ⟨h.bk, rfl, rfl, ?_⟩
  walk_at "bv"
  rw [← hb]
  refine q_neX (.inr rfl) (.inr rfl) (tup_pd hok) (tup_pd hok) (deq_tup.trans deq_sts) ?_
  walk_at "bv"
  refine cf_whole ⟨p, t, e, h, rfl, hl, rfl, fun a => ?_⟩
  have k2 := k a
  unfold Hs.m at k2 ⊢
  walk_at "bv"
  exact k2
def sp_Desk_book : BSp := fun ex ds M R => ∃ p t e h, ds = [.ref p] ∧ M = Hs.m h p t e ∧ R (Bk.d (Hs.bk h)) M
theorem len_Desk_book : ∀ ex ds M R, sp_Desk_book ex ds M R → ds.length = 1 := by
  rintro ex ds M R ⟨p, t, e, h, rfl, _⟩
  rfl
theorem pure_Desk_book : ∀ ex ds M R, sp_Desk_book ex ds M R → t_Desk_book { ex := ex, nx := fun _ M' => R .non M', rt := R } (startB 1 ds) M := by
  rintro ex ds M R ⟨p, t, e, h, rfl, rfl, k⟩
  unfold t_Desk_book Hs.m
  walk_at "bv"
  exact k
def t__law_undone : RS := sSeq (sAsg (rC (.str "odd")) (gN 1)) (sSeq (sTryAs 4 (sSeq (sAsg (rMeth .desk sp_Desk_undoX (rVar 0) rNil) (gN 3)) (sAsg (rIf (rTst (rOp oIsN (rVar 3) (rC .non))) (rC (.str "back")) (rC (.str "odd"))) (gN 1))) "NothingToUndo" 2 (fun a => sAsg (rIf (rTst (rIsE a 2 true)) (rC (.str "empty")) (rC (.str "odd"))) (gN 1))) (sRet (rVar 1)))
def sp__law_undone : BSp := fun ex ds M R => ∃ p t e h, ds = [.ref p] ∧ M = Hs.m h p t e ∧ ((h.saved = [] ∧ R (.str "empty") M) ∨ ∃ s r, h.saved = s :: r ∧ R (.str "back") (Hs.m (s.h r) p s.a e))
theorem len__law_undone : ∀ ex ds M R, sp__law_undone ex ds M R → ds.length = 1 := by
  rintro ex ds M R ⟨p, t, e, h, rfl, _⟩
  rfl
theorem q_try {nn : Nat} {tb : RS} {c : Str} {i : Nat} {ts : Addr → RS} {B : BEnds} {τ : BSt} {M : Mm} (k : tb { B with ex := fun c' fs M' => c' = c ∧ fs = [] ∧ ∀ a, ts a { ex := nox, nx := fun τ' M2 => B.nx (τ'.set i none) M2, rt := B.rt, bk := fun τ' M2 => B.bk (τ'.set i none) M2, ct := fun τ' M2 => B.ct (τ'.set i none) M2 } ((List.replicate nn none).set i (some (.ref a))) M' } τ M) : sTryAs nn tb c i ts B τ M := k
theorem q_meth {ex : BX} {τ : BSt} {M : Mm} {R : BQ} {c : Cl} {sp : BSp} {te : RE} {tr : RA} (k : te ex τ M fun d M1 => IsI c d M1 ∧ tr ex τ M1 fun ds M2 => Cf sp ex (d :: ds) M2 R) : rMeth c sp te tr ex τ M R := k
theorem q_isE {ex : BX} {τ : BSt} {M : Mm} {R : BQ} {a : Addr} {i : Nat} {b : Bool} (h : τ[i]? = some (some (.ref a))) (k : R (.bl b) M) : rIsE a i b ex τ M R := ⟨h, k⟩
theorem isI_m0 {h : Hs} {p t e : Addr} : IsI .desk (.ref p) (h.m p t e) := .inl ⟨p, _, _, rfl, .app .here⟩
theorem pure__law_undone : ∀ ex ds M R, sp__law_undone ex ds M R → t__law_undone { ex := ex, nx := fun _ M' => R .non M', rt := R } (startB 4 ds) M := by
  rintro ex ds M R ⟨p, t, e, h, rfl, rfl, ⟨hs, k⟩ | ⟨s, r, hs, k⟩⟩
  · unfold t__law_undone
    walk_at "bv"
    refine q_try ?_
    walk_at "bv"
    refine q_meth ?_
    walk_at "bv"
    refine cf_whole ⟨p, t, e, h, rfl, rfl, .inl ⟨hs, rfl, rfl, fun a => ?_⟩⟩
    walk_at "bv"
    refine q_isE rfl ?_
    walk_at "bv"
    exact k
  · unfold t__law_undone
    walk_at "bv"
    refine q_try ?_
    walk_at "bv"
    refine q_meth ?_
    walk_at "bv"
    refine cf_whole ⟨p, t, e, h, rfl, rfl, .inr ⟨s, r, hs, ?_⟩⟩
    walk_at "bv"
    exact k
def t__law_made : RS := sSeq (sIf (rTst (rOp oEq (rOp oIx (rVar 1) (rC (.int 0))) (rC (.str "day")))) (sRet (rMeth0 .desk sp_Desk_day (rVar 0) rNil)) (sSkip)) (sSeq (sIf (rTst (rOp oEq (rOp oIx (rVar 1) (rC (.int 0))) (rC (.str "do")))) (sRet (rMeth0 .desk sp_Desk_do (rVar 0) (rCons (rOp oIx (rVar 1) (rC (.int 1))) (rCons (rOp oIx (rVar 1) (rC (.int 2))) rNil)))) (sSkip)) (sRet (rMeth0 .desk sp_Desk_change (rVar 0) (rCons (rOp oIx (rVar 1) (rC (.int 1))) rNil))))
def sp__law_made : BSp := fun ex ds M R => ∃ p t e h o rest, ds = [.ref p, .tup (Op.l o ++ rest)] ∧ (rest = [] ∨ ∃ r, rest = [r]) ∧ h.fit ∧ o.okAt h ∧ h.saved.length + 1 ≤ 1000000 ∧ M = Hs.m h p t e ∧ ∀ a, R (o.res h) ((o.app a h).m p t e)
theorem len__law_made : ∀ ex ds M R, sp__law_made ex ds M R → ds.length = 2 := by
  rintro ex ds M R ⟨p, t, e, h, o, rest, rfl, _⟩
  rfl
theorem pure__law_made : ∀ ex ds M R, sp__law_made ex ds M R → t__law_made { ex := ex, nx := fun _ M' => R .non M', rt := R } (startB 2 ds) M := by
  rintro ex ds M R ⟨p, t, e, h, o, rest, rfl, hrs, ok, ho, hl, rfl, k⟩
  unfold t__law_made
  rcases hrs with rfl | ⟨r, rfl⟩ <;> cases o with
  | day =>
    walk_at "bv"
    refine cf_whole ⟨p, t, e, h, rfl, ok.ok, hl, rfl, fun a => ?_⟩
    walk_at "bv"
    have k2 := k a
    have e : (Hs.days (keysT h.tk) (h.save a)).1 = (Hs.days (keysT h.tk) h).1 := by rw [save_sv, days_sv]
    rw [e]
    exact k2
  | chg b =>
    walk_at "bv"
    refine cf_whole ⟨p, t, e, h, b, rfl, ho.2, ho.1.desks.sok, by omega, rfl, fun a => ?_⟩
    walk_at "bv"
    exact k a
  | put x d =>
    walk_at "bv"
    refine cf_whole ⟨p, t, e, h, x, d, rfl, ok.ok, hl, ok.desks, ho.1, ho.2.1, ho.2.2, rfl, fun a => ?_⟩
    walk_at "bv"
    exact k a
def t__law_stand : RS := sSeq (sAsg (rLstO (rCons (rMeth0 .desk sp_Desk_people (rVar 0) rNil) (rCons (rCB (bLenOwn .desk sp_Desk___len__) (rCons (rVar 0) rNil)) (rCons (rProp0 .desk sp_Desk_replies (rVar 0)) (rCons (rMeth0 .book sp_Book_rules (rProp0 .desk sp_Desk_book (rVar 0)) rNil) (rCons (rMeth0 .book sp_Book_desks (rProp0 .desk sp_Desk_book (rVar 0)) rNil) rNil)))))) (gN 3)) (sSeq (sFor (iSeq (rVar 2)) (gN 4) (sDrop (rBM "list" mAppend (rVar 3) (rCons (rIf (rTst (rOp (oInOwn .desk sp_Desk___contains__ false) (rVar 4) (rVar 0))) (rMeth0 .desk sp_Desk_ticket (rVar 0) (rCons (rVar 4) rNil)) (rC .non)) rNil)))) (sRet (rOp oAddX (rVar 3) (rLc (iSeq (rVar 1)) (cN 5) (rYes) (rMeth0 .desk sp_Desk_at (rVar 0) (rCons (rVar 5) rNil)) [5]))))
theorem q_catRL {M : Mm} {R : BQ} {ds es : List D} {a : Addr} {kk : MO → Mm} (ha : At M a (.lst ds) kk) (h : Sz (ds.length + es.length)) (k : R (.lst (ds ++ es)) M) : oAddX (.ref a) (.lst es) M R := .inr (.inr (.inl ⟨ds, es, .inr ⟨a, kk, rfl, ha⟩, .inl rfl, h, k⟩))
def standL (h : Hs) (ns : List Str) : List D := ([.lst (sts (keysT h.tk)), .int (h.saved.length : Nat), .int h.total, .tup (h.bk.rules.map Rule.d), .tup (sts h.bk.desks)] ++ ns.map (fun x => optTk (getT h.tk x))) ++ h.bk.desks.map (fun x => .lst (sts ((h.tk.filter (atP x)).map (·.1))))
theorem Eqz.stand {g h : Hs} (e : Eqz g h) {ns : List Str} : standL g ns = standL h ns := by
  unfold standL
  rw [e.1, e.2.1, e.2.2.1, e.2.2.2]
theorem gd_tst {n : Nat} {c : Tst} (h : c.sk) : gd (n + 1) c.d := .inr ⟨_, .inl rfl, by cases c <;> exact Nat.le_of_ble_eq_true rfl, fun x hx => gd_leaf (by
  cases c <;> (
    simp only [Tst.l, List.mem_cons, List.mem_nil_iff, or_false] at hx
    first
      | (rcases hx with rfl | rfl | rfl
         · exact .inr (.inr (.inr ⟨_, rfl, by walk_at "sok"⟩))
         · exact .inr (.inr (.inr ⟨_, rfl, h⟩))
         · exact .inr (.inl ⟨_, rfl⟩))
      | (rcases hx with rfl | rfl
         · exact .inr (.inr (.inr ⟨_, rfl, by walk_at "sok"⟩))
         · first | exact .inr (.inl ⟨_, rfl⟩) | exact .inr (.inr (.inl ⟨_, rfl⟩)))))⟩
theorem gd_act {n : Nat} {c : Act} (h : c.sk) : gd (n + 1) c.d := .inr ⟨_, .inl rfl, by cases c <;> exact Nat.le_of_ble_eq_true rfl, fun x hx => gd_leaf (by
  cases c <;> (
    simp only [Act.l, List.mem_cons, List.mem_nil_iff, or_false] at hx
    first
      | (rcases hx with rfl | rfl
         · exact .inr (.inr (.inr ⟨_, rfl, by walk_at "sok"⟩))
         · first | exact .inr (.inr (.inr ⟨_, rfl, h⟩)) | exact .inr (.inl ⟨_, rfl⟩))
      | (rcases hx with rfl
         exact .inr (.inr (.inr ⟨_, rfl, by walk_at "sok"⟩)))))⟩
theorem gd_rule {n : Nat} {r : Rule} (h : r.sk) : gd (n + 3) r.d := .inr ⟨_, .inl rfl, by show 3 ≤ 1000000; decide, fun x hx => by
  simp only [List.mem_cons, List.mem_nil_iff, or_false] at hx
  rcases hx with rfl | rfl | rfl
  · exact gd_leaf (.inr (.inr (.inr ⟨_, rfl, h.1⟩)))
  · refine .inr ⟨_, .inl rfl, by rw [List.length_map]; have := h.2.2.2.2; omega, fun y hy => ?_⟩
    obtain ⟨z, hz, rfl⟩ := List.mem_map.mp hy
    exact gd_tst (h.2.1 z hz)
  · refine .inr ⟨_, .inl rfl, by rw [List.length_map]; have := h.2.2.2.1; omega, fun y hy => ?_⟩
    obtain ⟨z, hz, rfl⟩ := List.mem_map.mp hy
    exact gd_act (h.2.2.1 z hz)⟩
theorem gd_rules {n : Nat} {b : Bk} (h : b.sk) : gd (n + 4) (.tup (b.rules.map Rule.d)) := .inr ⟨_, .inl rfl, by rw [List.length_map]; have := h.2.2.2; omega, fun y hy => by
  obtain ⟨z, hz, rfl⟩ := List.mem_map.mp hy
  exact gd_rule (h.2.2.1 z hz)⟩
theorem gd_stand {h : Hs} {ns : List Str} (ok : h.fit) (hn : ns.length ≤ 1000) : gd 7 (.lst (standL h ns)) := .inr ⟨_, .inr rfl, by
  have := ok.desks.few.2
  unfold standL
  simp only [List.length_append, List.length_map, List.length_cons, List.length_nil]
  omega, fun x hx => by
  rcases List.mem_append.mp hx with q | q
  · rcases List.mem_append.mp q with q | q
    · simp only [List.mem_cons, List.mem_nil_iff, or_false] at q
      rcases q with rfl | rfl | rfl | rfl | rfl
      · exact gd_names (n := 5) (keys_sok ok) (Nat.le_trans (keys_few ok) (by decide))
      · exact gd_leaf (.inr (.inr (.inl ⟨_, rfl⟩)))
      · exact gd_leaf (.inr (.inr (.inl ⟨_, rfl⟩)))
      · exact gd_rules (n := 2) ok.ok.bk
      · exact .inr ⟨_, .inl rfl, by rw [sts_len]; have := ok.desks.few.2; omega, fun y hy => by
          obtain ⟨s, hs, rfl⟩ := mem_sts hy
          exact gd_leaf (.inr (.inr (.inr ⟨s, rfl, ok.desks.sok s hs⟩)))⟩
    · obtain ⟨y, _, rfl⟩ := List.mem_map.mp q
      cases e : getT h.tk y with
      | none => exact gd_leaf (.inl rfl)
      | some t => exact gd_tk (n := 5) (getT_ok ok.ok.tk e)
  · obtain ⟨y, _, rfl⟩ := List.mem_map.mp q
    refine gd_names (n := 5) (fun s hs => ?_) ?_
    · obtain ⟨z, hz, rfl⟩ := List.mem_map.mp hs
      exact (ok.ok.tk z (List.mem_filter.mp hz).1).1
    · rw [List.length_map]
      exact Nat.le_trans (List.length_filter_le _ _) (Nat.le_trans ok.ok.few (by decide))⟩
def b_st : RS := sDrop (rBM "list" mAppend (rVar 3) (rCons (rIf (rTst (rOp (oInOwn .desk sp_Desk___contains__ false) (rVar 4) (rVar 0))) (rMeth0 .desk sp_Desk_ticket (rVar 0) (rCons (rVar 4) rNil)) (rC .non)) rNil))
theorem st_loop {B : BEnds} {p t e f : Addr} {h : Hs} {x1 x2 x5 : Option D} : ∀ (l : List Str) (acc : List D) (x4 : Option D), (∀ x ∈ l, isNm x = true) → acc.length + l.length ≤ 2000 →
    (∀ x4, B.nx [some (.ref p), x1, x2, some (.ref f), x4, x5] (h.m p t e ++ [(f, .lst (acc ++ l.map fun x => optTk (getT h.tk x)))])) →
    forW (gN 4) b_st B (sts l) [some (.ref p), x1, x2, some (.ref f), x4, x5] (h.m p t e ++ [(f, .lst acc)])
  | [], acc, x4, _, _, k => by
    have k2 := k x4
    rw [List.map_nil, List.append_nil] at k2
    exact .go k2
  | x :: l, acc, x4, hn, hl, k => by
    rw [List.length_cons] at hl
    have hx := hn x List.mem_cons_self
    have hz : Sz acc.length := Nat.le_trans (show acc.length ≤ 2000 by omega) (Nat.le_of_ble_eq_true rfl)
    refine q_gN ?_
    unfold b_st
    walk_at "bv"
    refine ⟨isI_m, cf_head ⟨p, t, e, h, x, rfl, hx, rfl, _, rfl, ?_⟩⟩
    have nxt : ∀ z, z = optTk (getT h.tk x) → CvS [some (.ref p), x1, x2, some (.ref f), some (.str x), x5] (h.m p t e ++ [(f, .lst (acc ++ [z]))]) (forW (gN 4) b_st B (sts l)) := fun z hzz => .go (st_loop l (acc ++ [z]) _ (fun y hy => hn y (List.mem_cons_of_mem _ hy)) (by simp; omega) fun x4 => by
      have k2 := k x4
      rw [List.map_cons, ← hzz] at k2
      rw [List.append_assoc]
      exact k2)
    cases e : getT h.tk x with
    | none =>
      walk_at "bv"
      exact nxt _ (by rw [e]; rfl)
    | some y =>
      walk_at "bv"
      refine q_isP isI_m ?_
      walk_at "bv"
      refine cf_head ⟨p, t, _, h, x, y, rfl, hx, e, rfl, ?_⟩
      walk_at "bv"
      exact nxt _ (by rw [e]; rfl)
def sp__law_stand : BSp := fun ex ds M R => ∃ p t e h ns, ds = [.ref p, .tup (sts (Bk.desks (Hs.bk h))), .lst (sts ns)] ∧ h.fit ∧ (∀ x ∈ ns, isNm x = true) ∧ ns.length ≤ 1000 ∧ M = Hs.m h p t e ∧ R (.lst (standL h ns)) M
theorem len__law_stand : ∀ ex ds M R, sp__law_stand ex ds M R → ds.length = 3 := by
  rintro ex ds M R ⟨p, t, e, h, ns, rfl, _⟩
  rfl
theorem pure__law_stand : ∀ ex ds M R, sp__law_stand ex ds M R → t__law_stand { ex := ex, nx := fun _ M' => R .non M', rt := R } (startB 6 ds) M := by
  rintro ex ds M R ⟨p, t, e, h, ns, rfl, ok, hn, hl, rfl, k⟩
  unfold t__law_stand
  have hsv := ok.ok.sv
  refine q_stop ?_
  walk_at "bv"
  refine cf_whole ⟨p, t, e, h, rfl, rfl, ?_⟩
  walk_at "bv"
  refine ⟨_, rfl, isI_m0, cf_whole ⟨p, t, e, h, rfl, rfl, _, rfl, by omega, by omega, ?_⟩⟩
  refine q_cons (q_prop0 ?_)
  walk_at "bv"
  refine cf_whole ⟨p, t, e, h, rfl, rfl, ?_⟩
  refine q_cons (q_meth0 (q_prop0 ?_))
  walk_at "bv"
  refine cf_whole ⟨p, t, e, h, rfl, rfl, ?_⟩
  walk_at "bv"
  refine cf_pure ⟨h.bk, rfl, rfl, ?_⟩
  refine q_cons (q_meth0 (q_prop0 ?_))
  walk_at "bv"
  refine cf_whole ⟨p, t, e, h, rfl, rfl, ?_⟩
  walk_at "bv"
  refine cf_pure ⟨h.bk, rfl, rfl, ?_⟩
  walk_at "bv"
  rename_i f
  refine stop_cv (.perm (List.perm_append_comm (l₁ := [(f, _)]))) (q_stop ?_)
  refine q_for (q_seqI ?_)
  walk_at "bv"
  refine st_loop ns _ _ hn (by show 5 + ns.length ≤ 2000; omega) fun x4 => stop_go (q_retS ?_)
  walk_at "bv"
  refine q_lc (q_seqT ?_)
  walk_at "bv"
  refine lc_map (enc := .str) (val := fun x => .lst (sts ((h.tk.filter (atP x)).map (·.1)))) (xs := h.bk.desks) (fun x hx R kk => ?_) (Nat.le_trans (show 0 + h.bk.desks.length ≤ 4 by have := ok.desks.few.2; omega) (Nat.le_of_ble_eq_true rfl)) ?_
  · walk_at "bv"
    refine q_isP isI_m ?_
    walk_at "bv"
    exact cf_head ⟨p, t, e, h, x, rfl, ok.desks.nm x hx, hx, ok.ok, rfl, kk⟩
  · refine q_catRL (.app .here) (Nat.le_trans (show _ ≤ 2000 by have := ok.desks.few.2; simp only [List.length_append, List.length_map, List.length_cons, List.length_nil]; omega) (Nat.le_of_ble_eq_true rfl)) ?_
    exact stopV_cv (CvA.trans (.perm (List.perm_append_comm (l₂ := [(f, _)]))) CvA.drop) k
end BV
set_option maxHeartbeats 4000000
namespace BV
open PySem
local macro_rules | `(tactic| walk_at "pd") => `(tactic| (first | rfl | assumption | (apply pd_str; assumption) | decide +kernel))
local macro_rules | `(tactic| walk_at "ty") => `(tactic| (first | exact TyD.tup _ | exact TyD.str _ | exact TyD.lst _ | exact TyD.bl _ | exact TyD.int _ | exact TyD.non | (apply TyD.ref; walk_at "at")))
local macro_rules | `(tactic| walk_at "sz") => `(tactic| (first | assumption | exact Nat.le_of_ble_eq_true rfl))
local macro_rules | `(tactic| walk_at "at") => `(tactic| (repeat (first | exact At.here | apply At.there | apply At.app)))
local macro_rules | `(tactic| walk_at "sok") => `(tactic| (first | assumption | (show PyData.strOk _ = true; decide +kernel)))
local macro_rules | `(tactic| walk_at "b1") => `(tactic| first
  | with_reducible refine q_seq ?_
  | with_reducible refine q_if ?_
  | with_reducible refine q_tst ?_
  | with_reducible refine q_op ?_
  | with_reducible refine q_c ?_
  | ((with_reducible refine' q_var ?b1 ?_); (case b1 => rfl))
  | with_reducible refine q_fld ?_
  | ((with_reducible refine' q_fldR ?b1 ?b2 ?_); (case b1 => walk_at "at"); (case b2 => rfl))
  | ((with_reducible refine' q_fldV ?b2 ?_); (case b2 => rfl))
  | ((with_reducible refine' q_eqS ?b1 ?b2 ?_); (case b1 => walk_at "sok"); (case b2 => walk_at "sok"))
  | ((with_reducible refine' q_neS ?b1 ?b2 ?_); (case b1 => walk_at "sok"); (case b2 => walk_at "sok"))
  | with_reducible refine q_eqB ?_
  | with_reducible refine q_eqI ?_
  | with_reducible refine q_neI ?_
  | with_reducible refine q_addI ?_
  | with_reducible refine q_oadd ?_
  | with_reducible refine q_osub ?_
  | with_reducible refine q_lt ?_
  | with_reducible refine q_le ?_
  | with_reducible refine q_gt ?_
  | with_reducible refine q_ge ?_
  | with_reducible refine q_isN ?_
  | with_reducible refine q_notN ?_
  | ((with_reducible refine' q_ixT ?b2 ?_); (case b2 => rfl))
  | ((with_reducible refine' q_ixL ?b2 ?_); (case b2 => rfl))
  | ((with_reducible refine' q_ixR ?b1 ?b2 ?_); (case b1 => walk_at "at"); (case b2 => rfl))
  | with_reducible refine q_bl ?_
  | with_reducible refine q_ret ?_
  | with_reducible refine q_retN ?_
  | with_reducible refine q_skip ?_
  | with_reducible refine q_drop ?_
  | with_reducible refine q_asg ?_
  | with_reducible refine q_gN ?_
  | with_reducible refine q_gFld ?_
  | with_reducible refine q_aug ?_
  | with_reducible refine q_isRef ?_
  | ((with_reducible refine' q_put ?b1 ?b2 ?b3 ?_); (case b1 => walk_at "at"); (case b2 => rfl); (case b3 => rfl))
  | with_reducible refine q_nil ?_
  | with_reducible refine q_cons ?_
  | with_reducible refine q_not ?_
  | with_reducible refine q_and ?_
  | with_reducible refine q_or ?_
  | with_reducible refine q_andV ?_
  | with_reducible refine q_orV ?_
  | with_reducible refine q_notV ?_
  | with_reducible refine q_ifE ?_
  | with_reducible refine q_tup ?_
  | ((with_reducible refine' q_szA ?b1 fun p => ?_); (case b1 => walk_at "sz"))
  | ((with_reducible refine' q_sz ?b1 ?_); (case b1 => walk_at "sz"))
  | with_reducible refine q_bm ?_
  | ((with_reducible refine' q_own ?b1 ?_); (case b1 => walk_at "at"))
  | ((with_reducible refine' q_append ?b1 ?b2 ?_); (case b1 => walk_at "at"); (case b2 => walk_at "sz"))
  | with_reducible refine q_call0 ?_
  | with_reducible refine q_meth0 ?_
  | ((with_reducible refine' q_isR ?b1 ?_); (case b1 => walk_at "at"))
  | ((with_reducible refine' q_isP ?b1 ?_); (case b1 => exact Or.inr ⟨_, rfl⟩))
  | with_reducible refine q_dct ?_
  | with_reducible refine q_dget ?_
  | ((with_reducible refine' q_dctE ?b1 ?_); (case b1 => walk_at "at"))
  | with_reducible refine q_dinT ?_
  | with_reducible refine q_dinF ?_
  | with_reducible refine q_dget1 ?_
  | ((with_reducible refine' q_isDct ?b1 ?_); (case b1 => walk_at "at"))
  | ((with_reducible refine' q_setD ?b1 ?b2 ?_); (case b1 => walk_at "at"); (case b2 => walk_at "sz"))
  | with_reducible refine q_orT ?_
  | ((with_reducible refine' q_orTT ?b1 ?_); (case b1 => rfl))
  | with_reducible refine q_cb ?_
  | ((with_reducible refine' q_inT ?b1 ?b2 rfl ?_); (case b1 => walk_at "pd"); (case b2 => walk_at "pd"))
  | ((with_reducible refine' q_notInT ?b1 ?b2 rfl ?_); (case b1 => walk_at "pd"); (case b2 => walk_at "pd"))
  | ((with_reducible refine' q_isi rfl ?b1 ?_); (case b1 => walk_at "ty"))
  | ((with_reducible refine' q_isi2 rfl rfl ?b1 ?_); (case b1 => walk_at "ty"))
  | with_reducible refine q_lenT ?_
  | with_reducible refine q_lenL ?_
  | ((with_reducible refine' q_lenR ?b1 ?_); (case b1 => walk_at "at"))
  | ((with_reducible refine' q_lenD ?b1 ?_); (case b1 => walk_at "at"))
  | ((with_reducible refine' q_lenS ?b1 ?_); (case b1 => walk_at "sz"))
  | with_reducible refine q_lenSc ?_
  | with_reducible refine q_intI ?_
  | with_reducible refine q_intB ?_
  | with_reducible refine q_listT ?_
  | with_reducible refine q_listL ?_
  | ((with_reducible refine' q_listR ?b1 ?_); (case b1 => walk_at "at"))
  | ((with_reducible refine' q_listD ?b1 ?_); (case b1 => walk_at "at"))
  | ((with_reducible refine' q_tupR ?b1 ?_); (case b1 => walk_at "at"))
  | with_reducible refine q_tupL ?_
  | ((with_reducible refine' q_dictO ?b1 fun p => ?_); (case b1 => walk_at "at"))
  | with_reducible refine q_dictN fun p => ?_
  | with_reducible refine q_lstO ?_
  | with_reducible refine q_lstV ?_
  | with_reducible refine q_chain ?_
  | ((with_reducible refine' q_gTup ?b1 ?_); (case b1 => rfl))
  | with_reducible refine q_gCons ?_
  | with_reducible refine q_gNil ?_
  | with_reducible refine q_par ?_
  | with_reducible refine q_par3 ?_
  | with_reducible refine q_two ?_
  | with_reducible refine q_three ?_
  | ((with_reducible refine' q_saug ?b1 ?_); (case b1 => rfl))
  | with_reducible refine q_gSub ?_
  | ((with_reducible refine' q_setL ?b1 ?b2 ?b3 ?_); (case b1 => walk_at "at"); (case b2 => rfl); (case b3 => rfl))
  | with_reducible refine q_ownV ?_
  | with_reducible refine q_indexA ?_
  | ((with_reducible refine' q_indexB ?b1 ?_); (case b1 => decide +kernel))
  | ((with_reducible refine' q_listO ?b1 fun p => ?_); (case b1 => walk_at "at"))
  | with_reducible refine q_listOT fun p => ?_
  | ((with_reducible refine' q_popO ?b1 ?_); (case b1 => walk_at "at"))
  | with_reducible refine q_yes ?_
  | with_reducible refine q_cN ?_
  | with_reducible refine q_make0 ?_
  | with_reducible refine q_lstX ?_
  | with_reducible refine q_tupX ?_
  | ((with_reducible refine' q_iteT ?b1 ?_); (case b1 => first | rfl | decide +kernel))
  | ((with_reducible refine' q_iteF ?b1 ?_); (case b1 => first | rfl | decide +kernel))
  | with_reducible refine q_goS ?_
  | with_reducible refine q_goV ?_)
local macro_rules | `(tactic| walk_at "bv") => `(tactic| (repeat (walk_at "b1")))
local macro_rules | `(tactic| walk_at "pm") => `(tactic| (classical (refine List.perm_iff_count.mpr fun z => ?_; simp only [List.count_append, List.count_cons, List.count_nil]; omega)))
def t__law_as_new : RS := sSeq (sAsg (rMake0 .desk sp_Desk___init__ (rCons (rOp oIx (rVar 1) (rC (.int 0))) rNil)) (gN 5)) (sSeq (sForW (rVar 4) (gN 6) (sIf (rNot (rTst (rCall0 sp__law_same (rCons (rCall0 sp__law_made (rCons (rVar 5) (rCons (rVar 6) rNil))) (rCons (rOp oIx (rVar 6) (rC (.int 3))) rNil))))) (sRet (rC (.bl false))) (sSkip))) (sRet (rCall0 sp__law_same (rCons (rCall0 sp__law_stand (rCons (rVar 0) (rCons (rVar 2) (rCons (rVar 3) rNil)))) (rCons (rCall0 sp__law_stand (rCons (rVar 5) (rCons (rVar 2) (rCons (rVar 3) rNil)))) rNil)))))
def b_an : RS := sIf (rNot (rTst (rCall0 sp__law_same (rCons (rCall0 sp__law_made (rCons (rVar 5) (rCons (rVar 6) rNil))) (rCons (rOp oIx (rVar 6) (rC (.int 3))) rNil))))) (sRet (rC (.bl false))) (sSkip)
theorem res_gd {h : Hs} {o : Op} (ok : h.fit) (k : o.okAt h) : gd 7 (o.res h) := by
  cases o with
  | day =>
    obtain ⟨d1, d2⟩ := days_gd (n := 3) (l := keysT h.tk) ok.ok (fun x hx => hx)
    exact .inr ⟨_, .inr rfl, by rw [d2, keysT_len]; exact Nat.le_trans ok.ok.few (by decide), d1⟩
  | chg b => exact gd_leaf (.inl rfl)
  | put x d => exact work_gd (n := 5) ok.ok.bk (getK_ok ok.ok) k.2.1.sk
theorem callD_at {z : Zo} : L2.atI (z.1.l ++ [z.2]) (3 : Int) = some z.2 := by
  obtain ⟨o, r⟩ := z
  cases o <;> rfl
theorem an_loop {B : BEnds} {p t e c : Addr} {h' : Hs} {F : Mm} {cl : List D} {x0 x1 x2 x3 x4 : Option D} : ∀ (u : List Zo) (g h : Hs) (x6 : Option D), Fw h u h' → Eqz g h → g.fit → g.saved.length + u.length ≤ 900 → g.tk.length + u.length ≤ 900 →
    (∀ g' x6, Eqz g' h' → g'.fit → B.nx [x0, x1, x2, x3, x4, some (.ref p), x6] (g'.m p t e ++ ([(c, .lst cl)] ++ F))) →
    forG (GL c cl) (gN 6) b_an B (u.map callD) [x0, x1, x2, x3, x4, some (.ref p), x6] (g.m p t e ++ ([(c, .lst cl)] ++ F))
  | [], g, h, x6, fw, ez, ok, _, _, k => by
    cases fw
    exact ⟨⟨_, .app .here⟩, .go (k g _ ez ok)⟩
  | z :: u, g, h, x6, fw, ez, ok, hl, ht, k => by
    rw [List.length_cons] at hl ht
    cases fw with
    | @cons _ _ o a _ ho fw =>
    refine ⟨⟨_, .app .here⟩, ?_⟩
    refine q_gN ?_
    unfold b_an
    refine q_if (q_not (q_tst (q_call0 (q_cons (q_call0 ?_)))))
    unfold callD
    walk_at "bv"
    refine cf_head ⟨p, t, e, g, o, [o.res h], rfl, .inr ⟨_, rfl⟩, ok, ez.okAt ho, by omega, rfl, fun a => ?_⟩
    walk_at "bv"
    refine q_ixT (callD_at (z := (o, o.res h))) ?_
    walk_at "bv"
    rw [ez.res]
    refine cf_pure ⟨_, rfl, ?_, rfl, ?_⟩
    · rw [← ez.res]
      exact res_gd ok (ez.okAt ho)
    walk_at "bv"
    have e2 : (o.app a g).saved.length = g.saved.length + 1 := by rw [app_saved, List.length_cons]
    have e3 := app_few (a := a) (h := g) (o := o)
    exact .go (an_loop u (o.app a g) _ _ fw ez.app (app_fit ok (ez.okAt ho) (by omega) (by omega)) (by omega) (by omega) k)
def sp__law_as_new : BSp := fun ex ds M R => ∃ p t e h c b0 b1 l ns, ds = [.ref p, .lst [Bk.d b0, Bk.d b1], .tup (sts (Bk.desks b0)), .lst (sts ns), .ref c] ∧ Rn b0 l h ∧ b0.good ∧ l.length ≤ 500 ∧ (∀ x ∈ ns, isNm x = true) ∧ ns.length ≤ 1000 ∧ M = h.m p t e ++ [(c, .lst (cD l))] ∧ R (.bl true) M
theorem len__law_as_new : ∀ ex ds M R, sp__law_as_new ex ds M R → ds.length = 5 := by
  rintro ex ds M R ⟨p, t, e, h, c, b0, b1, l, ns, rfl, _⟩
  rfl
theorem n_a {x t e : Addr × MO} {H C : Mm} : ([e, t, x] ++ (H ++ C)).Perm (([] ++ [x, t, e]) ++ (C ++ H)) := by walk_at "pm"
theorem n_b {N C H : Mm} : (N ++ (C ++ H)).Perm (H ++ (C ++ N)) := by walk_at "pm"
theorem n_c {N C H : Mm} : (H ++ (C ++ N)).Perm (N ++ (H ++ C)) := by walk_at "pm"
theorem n_d {N C H : Mm} : (N ++ (H ++ C)).Perm (N ++ (H ++ C)) := .refl _
theorem CvA.dropA {τ : List D} {M : Mm} : ∀ {A : Mm}, CvA τ (A ++ M) τ M
  | [] => .refl
  | _ :: A => CvA.drop.trans (CvA.dropA (A := A))
theorem pure__law_as_new : ∀ ex ds M R, sp__law_as_new ex ds M R → t__law_as_new { ex := ex, nx := fun _ M' => R .non M', rt := R } (startB 7 ds) M := by
  rintro ex ds M R ⟨p, t, e, h, c, b0, b1, l, ns, rfl, rn, good, hl, hn, hns, rfl, k⟩
  unfold t__law_as_new
  refine q_stop ?_
  walk_at "bv"
  intro q
  refine cf_head (Mc := [(q, _)]) ⟨q, b0, rfl, rfl, fun t2 e2 => ⟨rfl, ?_⟩⟩
  walk_at "bv"
  refine stop_cv (.perm n_a) (q_stop ?_)
  refine ⟨c, cD l, ?_⟩
  refine q_var rfl ⟨rfl, ⟨_, .app .here⟩, ?_⟩
  have fit := rn.fit good (by omega)
  have rl := rn.len
  have f0 : Hs.fit ⟨b0, [], 0, []⟩ := Rn.fit .nil good (by decide)
  refine an_loop (p := q) (t := t2) (e := e2) l.reverse ⟨b0, [], 0, []⟩ ⟨b0, [], 0, []⟩ _ rn.fw Eqz.rfl' f0 (by rw [List.length_reverse]; show 0 + l.length ≤ 900; omega) (by rw [List.length_reverse]; show 0 + l.length ≤ 900; omega) fun g x6 ez gf => stop_cv (.perm n_b) (q_retS (q_call0 (q_cons (q_call0 ?_))))
  have hd := rn.desks
  walk_at "bv"
  refine cf_head ⟨p, t, e, h, ns, by rw [hd], fit, hn, hns, rfl, ?_⟩
  refine q_cons (q_call0 ?_)
  walk_at "bv"
  refine cf_part n_c ⟨q, t2, e2, g, ns, by rw [ez.1, hd], gf, hn, hns, rfl, ?_⟩
  walk_at "bv"
  rw [ez.stand]
  refine cf_pure ⟨_, rfl, gd_stand fit hns, rfl, ?_⟩
  exact stopV_cv ((CvA.perm n_d).trans (CvA.dropA (A := g.m q t2 e2))) k
def t__law_next : RS := sSeq (sAsg (rCall0 sp__law_draw (rCons (rVar 0) (rCons (rC (.int 8)) rNil))) (gN 5)) (sSeq (sIf (rTst (rOp oEq (rVar 5) (rC (.int 0)))) (sRet (rTup (rCons (rC (.str "day")) (rCons (rC .non) (rCons (rC .non) rNil))))) (sSkip)) (sSeq (sIf (rTst (rOp oEq (rVar 5) (rC (.int 1)))) (sRet (rTup (rCons (rC (.str "change")) (rCons (rCall0 sp__law_pick (rCons (rVar 0) (rCons (rVar 1) rNil))) (rCons (rC .non) rNil))))) (sSkip)) (sSeq (sPar 6 7 (rCons (rCall0 sp__law_pick (rCons (rVar 0) (rCons (rVar 3) rNil))) (rCons (rCall0 sp__law_deed (rCons (rVar 0) (rCons (rVar 2) rNil))) rNil))) (sSeq (sIf (rTst (rOp (oIn true) (rVar 6) (rLcW (rVar 4) (cN 8) (rTst (rOp oEq (rOp oIx (rVar 8) (rC (.int 0))) (rC (.str "do")))) (rOp oIx (rVar 8) (rC (.int 1))) [8]))) (sAsg (rTup (rCons (rC (.str "letter")) rNil)) (gN 7)) (sSkip)) (sRet (rTup (rCons (rC (.str "do")) (rCons (rVar 6) (rCons (rVar 7) rNil)))))))))
def opIn (b0 b1 : Bk) (ns who : List Str) : Op → Prop
  | .day => True
  | .chg b => b = b0 ∨ b = b1
  | .put x d => x ∈ ns ∧ d.okIn b0.desks ∧ (x ∈ who ∨ d = .letter)
def isDo : Zo → Bool
  | (.put _ _, _) => true
  | _ => false
def whoD : Zo → D
  | (.put x _, _) => .str x
  | _ => .non
theorem filt_do : ∀ {l : List Zo}, (l.filter isDo).map whoD = sts (dos l)
  | [] => rfl
  | (o, r) :: l => by
    have ih := filt_do (l := l)
    cases o with
    | put x d =>
      show D.str x :: (l.filter isDo).map whoD = _
      rw [ih]
      rfl
    | day =>
      exact ih
    | chg b =>
      exact ih
theorem mem_dosR {l : List Zo} {x : Str} : x ∈ dos l.reverse ↔ x ∈ dos l := by
  unfold dos
  simp only [List.mem_flatMap, List.mem_reverse]
theorem q_notInL {M : Mm} {R : BQ} {d : D} {es : List D} {b : Bool} (p1 : pd 60 d = true) (p2 : pds 60 es = true) (hb : es.any (deq · d) = b) (k : R (.bl (!b)) M) : oIn true d (.lst es) M R := ⟨es, .lst es, .inl rfl, .inr rfl, p1, p2, by subst hb; exact k⟩
def sp__law_next : BSp := fun ex ds M R => ∃ a x c b0 b1 l ns n, ds = [.ref a, .lst [Bk.d b0, Bk.d b1], .tup (sts (Bk.desks b0)), .lst (sts ns), .ref c] ∧ DesksOk b0.desks ∧ Nms ns ∧ ns ≠ [] ∧ ns.length ≤ 1000 ∧ l.length ≤ 1000 ∧ (∀ y ∈ dos l, sok y) ∧ WB x (n + 10) ∧ M = [(a, .lst (W3.l x))] ++ [(c, .lst (cD l))] ∧ ∀ o y, opIn b0 b1 ns (dos l) o → WB y n → R (.tup (Op.l o)) ([(a, .lst (W3.l y))] ++ [(c, .lst (cD l))])
theorem len__law_next : ∀ ex ds M R, sp__law_next ex ds M R → ds.length = 5 := by
  rintro ex ds M R ⟨a, x, c, b0, b1, l, ns, n, rfl, _⟩
  rfl
theorem pure__law_next : ∀ ex ds M R, sp__law_next ex ds M R → t__law_next { ex := ex, nx := fun _ M' => R .non M', rt := R } (startB 9 ds) M := by
  rintro ex ds M R ⟨a, x, c, b0, b1, l, ns, n, rfl, dok, nok, nne, hns, hl, hsk, hw, rfl, k⟩
  unfold t__law_next
  refine q_stop ?_
  walk_at "bv"
  refine cf_head (Mc := [(a, _)]) ⟨a, x, 8, n + 9, rfl, by decide, by decide, hw, rfl, fun v y1 v0 v1 w1 => ?_⟩
  refine stop_go (q_stop ?_)
  walk_at "bv"
  refine q_iteD (fun h0 => ?_) (fun h0 => ?_)
  · walk_at "bv"
    exact k .day y1 trivial (w1.le (by omega))
  walk_at "bv"
  refine stop_go (q_stop ?_)
  walk_at "bv"
  refine q_iteD (fun h1 => ?_) (fun h1 => ?_)
  · walk_at "bv"
    refine cf_head (Mc := [(a, _)]) ⟨a, y1, _, _, [], n, rfl, .lst [b0.d, b1.d], by simp, by simp, w1.le (by omega), rfl, fun z y2 hz w2 => ?_⟩
    walk_at "bv"
    simp only [List.mem_cons, List.mem_nil_iff, or_false] at hz
    rcases hz with rfl | rfl
    · exact k (.chg b0) y2 (.inl rfl) w2
    · exact k (.chg b1) y2 (.inr rfl) w2
  walk_at "bv"
  refine stop_go (q_stop ?_)
  walk_at "bv"
  refine cf_head (Mc := [(a, _)]) ⟨a, y1, _, _, [], n + 5, rfl, .lst (sts ns), (fun q => nne (List.map_eq_nil_iff.mp q)), by rw [sts_len]; omega, w1.le (by omega), rfl, fun z y2 hz w2 => ?_⟩
  obtain ⟨nm, hnm, rfl⟩ := mem_sts hz
  walk_at "bv"
  refine cf_head (Mc := [(a, _)]) ⟨a, y2, b0.desks, n + 3, rfl, dok, w2, rfl, fun d y3 hd w3 => ?_⟩
  walk_at "bv"
  refine stop_go (q_stop ?_)
  walk_at "bv"
  refine ⟨c, cD l, q_var rfl ⟨rfl, ⟨_, .app .here⟩, ?_⟩⟩
  refine lcG_filter (enc := callD) (val := whoD) (xs := l.reverse) (σ := fun (z : Zo) => [some (.ref a), some (.lst [b0.d, b1.d]), some (.tup (sts b0.desks)), some (.lst (sts ns)), some (.ref c), some (.int v), some (.str nm), some d.d, some (callD z)]) (p := isDo) ⟨_, .app .here⟩ (fun z hz Q q => q) (fun z hz R q => ?_) (fun z hz hp R q => ?_) (Nat.le_trans (show 0 + l.reverse.length ≤ 1000 by rw [List.length_reverse]; omega) (Nat.le_of_ble_eq_true rfl)) ?_
  · obtain ⟨o, r⟩ := z
    cases o <;> (unfold callD; walk_at "bv"; exact q)
  · obtain ⟨o, r⟩ := z
    cases o with
    | put x d =>
      unfold callD
      walk_at "bv"
      exact q
    | _ => cases hp
  rw [List.nil_append, filt_do]
  have hsk2 : ∀ y ∈ dos l.reverse, sok y := fun y hy => hsk y (mem_dosR.mp hy)
  refine q_notInL (pd_str (nok.sok nm hnm)) (sts_pd hsk2) any_str ?_
  have fin : ∀ d : Deed, d.okIn b0.desks → (nm ∈ dos l ∨ d = .letter) → R (.tup (Op.l (.put nm d))) ([(a, .lst (W3.l y3))] ++ [(c, .lst (cD l))]) := fun d hd hk => k (.put nm d) y3 ⟨hnm, hd, hk⟩ (w3.le (by omega))
  by_cases hm : nm ∈ dos l.reverse
  · rw [decide_eq_true hm]
    walk_at "bv"
    refine stop_go (q_retS ?_)
    walk_at "bv"
    exact stopV_go (fin d hd (.inl (mem_dosR.mp hm)))
  · rw [decide_eq_false hm]
    walk_at "bv"
    refine stop_go (q_retS ?_)
    walk_at "bv"
    exact stopV_go (fin .letter trivial (.inr rfl))
end BV
set_option maxHeartbeats 4000000
namespace BV
open PySem
local macro_rules | `(tactic| walk_at "pd") => `(tactic| (first | rfl | assumption | (apply pd_str; assumption) | decide +kernel))
local macro_rules | `(tactic| walk_at "ty") => `(tactic| (first | exact TyD.tup _ | exact TyD.str _ | exact TyD.lst _ | exact TyD.bl _ | exact TyD.int _ | exact TyD.non | (apply TyD.ref; walk_at "at")))
local macro_rules | `(tactic| walk_at "sz") => `(tactic| (first | assumption | exact Nat.le_of_ble_eq_true rfl))
local macro_rules | `(tactic| walk_at "at") => `(tactic| (repeat (first | exact At.here | apply At.there | apply At.app)))
local macro_rules | `(tactic| walk_at "sok") => `(tactic| (first | assumption | (show PyData.strOk _ = true; decide +kernel)))
local macro_rules | `(tactic| walk_at "b1") => `(tactic| first
  | with_reducible refine q_seq ?_
  | with_reducible refine q_if ?_
  | with_reducible refine q_tst ?_
  | with_reducible refine q_op ?_
  | with_reducible refine q_c ?_
  | ((with_reducible refine' q_var ?b1 ?_); (case b1 => rfl))
  | with_reducible refine q_fld ?_
  | ((with_reducible refine' q_fldR ?b1 ?b2 ?_); (case b1 => walk_at "at"); (case b2 => rfl))
  | ((with_reducible refine' q_fldV ?b2 ?_); (case b2 => rfl))
  | ((with_reducible refine' q_eqS ?b1 ?b2 ?_); (case b1 => walk_at "sok"); (case b2 => walk_at "sok"))
  | ((with_reducible refine' q_neS ?b1 ?b2 ?_); (case b1 => walk_at "sok"); (case b2 => walk_at "sok"))
  | with_reducible refine q_eqB ?_
  | with_reducible refine q_eqI ?_
  | with_reducible refine q_neI ?_
  | with_reducible refine q_addI ?_
  | with_reducible refine q_oadd ?_
  | with_reducible refine q_osub ?_
  | with_reducible refine q_lt ?_
  | with_reducible refine q_le ?_
  | with_reducible refine q_gt ?_
  | with_reducible refine q_ge ?_
  | with_reducible refine q_isN ?_
  | with_reducible refine q_notN ?_
  | ((with_reducible refine' q_ixT ?b2 ?_); (case b2 => rfl))
  | ((with_reducible refine' q_ixL ?b2 ?_); (case b2 => rfl))
  | ((with_reducible refine' q_ixR ?b1 ?b2 ?_); (case b1 => walk_at "at"); (case b2 => rfl))
  | with_reducible refine q_bl ?_
  | with_reducible refine q_ret ?_
  | with_reducible refine q_retN ?_
  | with_reducible refine q_skip ?_
  | with_reducible refine q_drop ?_
  | with_reducible refine q_asg ?_
  | with_reducible refine q_gN ?_
  | with_reducible refine q_gFld ?_
  | with_reducible refine q_aug ?_
  | with_reducible refine q_isRef ?_
  | ((with_reducible refine' q_put ?b1 ?b2 ?b3 ?_); (case b1 => walk_at "at"); (case b2 => rfl); (case b3 => rfl))
  | with_reducible refine q_nil ?_
  | with_reducible refine q_cons ?_
  | with_reducible refine q_not ?_
  | with_reducible refine q_and ?_
  | with_reducible refine q_or ?_
  | with_reducible refine q_andV ?_
  | with_reducible refine q_orV ?_
  | with_reducible refine q_notV ?_
  | with_reducible refine q_ifE ?_
  | with_reducible refine q_tup ?_
  | ((with_reducible refine' q_szA ?b1 fun p => ?_); (case b1 => walk_at "sz"))
  | ((with_reducible refine' q_sz ?b1 ?_); (case b1 => walk_at "sz"))
  | with_reducible refine q_bm ?_
  | ((with_reducible refine' q_own ?b1 ?_); (case b1 => walk_at "at"))
  | ((with_reducible refine' q_append ?b1 ?b2 ?_); (case b1 => walk_at "at"); (case b2 => walk_at "sz"))
  | with_reducible refine q_call0 ?_
  | with_reducible refine q_meth0 ?_
  | ((with_reducible refine' q_isR ?b1 ?_); (case b1 => walk_at "at"))
  | ((with_reducible refine' q_isP ?b1 ?_); (case b1 => exact Or.inr ⟨_, rfl⟩))
  | with_reducible refine q_dct ?_
  | with_reducible refine q_dget ?_
  | ((with_reducible refine' q_dctE ?b1 ?_); (case b1 => walk_at "at"))
  | with_reducible refine q_dinT ?_
  | with_reducible refine q_dinF ?_
  | with_reducible refine q_dget1 ?_
  | ((with_reducible refine' q_isDct ?b1 ?_); (case b1 => walk_at "at"))
  | ((with_reducible refine' q_setD ?b1 ?b2 ?_); (case b1 => walk_at "at"); (case b2 => walk_at "sz"))
  | with_reducible refine q_orT ?_
  | ((with_reducible refine' q_orTT ?b1 ?_); (case b1 => rfl))
  | with_reducible refine q_cb ?_
  | ((with_reducible refine' q_inT ?b1 ?b2 rfl ?_); (case b1 => walk_at "pd"); (case b2 => walk_at "pd"))
  | ((with_reducible refine' q_notInT ?b1 ?b2 rfl ?_); (case b1 => walk_at "pd"); (case b2 => walk_at "pd"))
  | ((with_reducible refine' q_isi rfl ?b1 ?_); (case b1 => walk_at "ty"))
  | ((with_reducible refine' q_isi2 rfl rfl ?b1 ?_); (case b1 => walk_at "ty"))
  | with_reducible refine q_lenT ?_
  | with_reducible refine q_lenL ?_
  | ((with_reducible refine' q_lenR ?b1 ?_); (case b1 => walk_at "at"))
  | ((with_reducible refine' q_lenD ?b1 ?_); (case b1 => walk_at "at"))
  | ((with_reducible refine' q_lenS ?b1 ?_); (case b1 => walk_at "sz"))
  | with_reducible refine q_lenSc ?_
  | with_reducible refine q_intI ?_
  | with_reducible refine q_intB ?_
  | with_reducible refine q_listT ?_
  | with_reducible refine q_listL ?_
  | ((with_reducible refine' q_listR ?b1 ?_); (case b1 => walk_at "at"))
  | ((with_reducible refine' q_listD ?b1 ?_); (case b1 => walk_at "at"))
  | ((with_reducible refine' q_tupR ?b1 ?_); (case b1 => walk_at "at"))
  | with_reducible refine q_tupL ?_
  | ((with_reducible refine' q_dictO ?b1 fun p => ?_); (case b1 => walk_at "at"))
  | with_reducible refine q_dictN fun p => ?_
  | with_reducible refine q_lstO ?_
  | with_reducible refine q_lstV ?_
  | with_reducible refine q_chain ?_
  | ((with_reducible refine' q_gTup ?b1 ?_); (case b1 => rfl))
  | with_reducible refine q_gCons ?_
  | with_reducible refine q_gNil ?_
  | with_reducible refine q_par ?_
  | with_reducible refine q_par3 ?_
  | with_reducible refine q_two ?_
  | with_reducible refine q_three ?_
  | ((with_reducible refine' q_saug ?b1 ?_); (case b1 => rfl))
  | with_reducible refine q_gSub ?_
  | ((with_reducible refine' q_setL ?b1 ?b2 ?b3 ?_); (case b1 => walk_at "at"); (case b2 => rfl); (case b3 => rfl))
  | with_reducible refine q_ownV ?_
  | with_reducible refine q_indexA ?_
  | ((with_reducible refine' q_indexB ?b1 ?_); (case b1 => decide +kernel))
  | ((with_reducible refine' q_listO ?b1 fun p => ?_); (case b1 => walk_at "at"))
  | with_reducible refine q_listOT fun p => ?_
  | ((with_reducible refine' q_popO ?b1 ?_); (case b1 => walk_at "at"))
  | with_reducible refine q_yes ?_
  | with_reducible refine q_cN ?_
  | with_reducible refine q_make0 ?_
  | with_reducible refine q_lstX ?_
  | with_reducible refine q_tupX ?_
  | ((with_reducible refine' q_iteT ?b1 ?_); (case b1 => first | rfl | decide +kernel))
  | ((with_reducible refine' q_iteF ?b1 ?_); (case b1 => first | rfl | decide +kernel))
  | with_reducible refine q_goS ?_
  | with_reducible refine q_goV ?_)
local macro_rules | `(tactic| walk_at "bv") => `(tactic| (repeat (walk_at "b1")))
local macro_rules | `(tactic| walk_at "pm") => `(tactic| (classical (refine List.perm_iff_count.mpr fun z => ?_; simp only [List.count_append, List.count_cons, List.count_nil]; omega)))
def t__law_all_back : RS := sSeq (sFor (iRng1 (rCons (rCB bLenX (rCons (rVar 4) rNil)) rNil)) (gN 5) (sIf (rOr (rTst (rOp oNe (rCall0 sp__law_undone (rCons (rVar 0) rNil)) (rC (.str "back")))) (rTst (rOp oNe (rCB (bLenOwn .desk sp_Desk___len__) (rCons (rVar 0) rNil)) (rOp oSub (rOp oSub (rCB bLenX (rCons (rVar 4) rNil)) (rC (.int 1))) (rVar 5))))) (sRet (rC (.bl false))) (sSkip))) (sSeq (sAsg (rMake0 .desk sp_Desk___init__ (rCons (rOp oIx (rVar 1) (rC (.int 0))) rNil)) (gN 6)) (sSeq (sIf (rTst (rOp oNe (rLstV (rCons (rCall0 sp__law_undone (rCons (rVar 0) rNil)) (rCons (rCall0 sp__law_undone (rCons (rVar 6) rNil)) rNil))) (rLstV (rCons (rC (.str "empty")) (rCons (rC (.str "empty")) rNil))))) (sRet (rC (.bl false))) (sSkip)) (sSeq (sIf (rNot (rTst (rCall0 sp__law_same (rCons (rCall0 sp__law_stand (rCons (rVar 0) (rCons (rVar 2) (rCons (rVar 3) rNil)))) (rCons (rCall0 sp__law_stand (rCons (rVar 6) (rCons (rVar 2) (rCons (rVar 3) rNil)))) rNil))))) (sRet (rC (.bl false))) (sSkip)) (sRet (rCall0 sp__law_same (rCons (rMeth0 .desk sp_Desk_do (rVar 0) (rCons (rOp oIx (rVar 3) (rC (.int 0))) (rCons (rTup (rCons (rC (.str "letter")) rNil)) rNil))) (rCons (rMeth0 .desk sp_Desk_do (rVar 6) (rCons (rOp oIx (rVar 3) (rC (.int 0))) (rCons (rTup (rCons (rC (.str "letter")) rNil)) rNil))) rNil)))))))
def b_ab : RS := sIf (rOr (rTst (rOp oNe (rCall0 sp__law_undone (rCons (rVar 0) rNil)) (rC (.str "back")))) (rTst (rOp oNe (rCB (bLenOwn .desk sp_Desk___len__) (rCons (rVar 0) rNil)) (rOp oSub (rOp oSub (rCB bLenX (rCons (rVar 4) rNil)) (rC (.int 1))) (rVar 5))))) (sRet (rC (.bl false))) (sSkip)
theorem ab_loop {B : BEnds} {p e c : Addr} {cl : List D} {b0 : Bk} {x1 x2 x3 x6 : Option D} {L : Nat} (hL : cl.length = L) (hL2 : L ≤ 900) : ∀ (n j : Nat) (l : List Zo) (h : Hs) (t : Addr) (x5 : Option D), Rn b0 l h → l.length = n → j + n = L →
    (∀ h0 t x5, h0 = ⟨b0, [], 0, []⟩ → B.nx [some (.ref p), x1, x2, x3, some (.ref c), x5, x6] (Hs.m h0 p t e ++ [(c, .lst cl)])) →
    forW (gN 5) b_ab B (rngD (j : Nat) n) [some (.ref p), x1, x2, x3, some (.ref c), x5, x6] (h.m p t e ++ [(c, .lst cl)])
  | 0, j, l, h, t, x5, rn, hl, hj, k => by
    cases rn with
    | nil => exact .go (k _ t _ rfl)
    | cons r ho => cases hl
  | n + 1, j, l, h, t, x5, rn, hl, hj, k => by
    cases rn with
    | nil => cases hl
    | @cons l h0 o a rn ho =>
    rw [List.length_cons] at hl
    have rl := rn.len
    rw [rngD_succ]
    refine q_gN ?_
    unfold b_ab
    walk_at "bv"
    refine cf_head ⟨p, t, e, _, rfl, rfl, .inr ⟨_, _, app_saved, ?_⟩⟩
    rw [sv_h]
    walk_at "bv"
    refine ⟨_, rfl, isI_m, cf_head ⟨p, a, e, h0, rfl, rfl, _, rfl, by omega, by omega, ?_⟩⟩
    walk_at "bv"
    rw [hL, decide_eq_true (show ((h0.saved.length : Nat) : Int) = (L : Int) - 1 - (j : Nat) by omega)]
    walk_at "bv"
    have q := ab_loop (p := p) (e := e) (c := c) (b0 := b0) (x1 := x1) (x2 := x2) (x3 := x3) (x6 := x6) (B := B) hL hL2 n (j + 1) l h0 a (some (.int (j : Nat))) rn (by omega) (by omega) k
    exact .go q
def sp__law_all_back : BSp := fun ex ds M R => ∃ p t e h c b0 b1 l ns, ds = [.ref p, .lst [Bk.d b0, Bk.d b1], .tup (sts (Bk.desks b0)), .lst (sts ns), .ref c] ∧ Rn b0 l h ∧ b0.good ∧ l.length ≤ 500 ∧ (∀ x ∈ ns, isNm x = true) ∧ ns ≠ [] ∧ ns.length ≤ 1000 ∧ M = h.m p t e ++ [(c, .lst (cD l))] ∧ ∀ M', R (.bl true) M'
theorem len__law_all_back : ∀ ex ds M R, sp__law_all_back ex ds M R → ds.length = 5 := by
  rintro ex ds M R ⟨p, t, e, h, c, b0, b1, l, ns, rfl, _⟩
  rfl
theorem b_a {x t e : Addr × MO} {H C : Mm} : ([e, t, x] ++ (H ++ C)).Perm (([] ++ [x, t, e]) ++ (C ++ H)) := by walk_at "pm"
theorem b_a1 {b0 : Bk} {h1 : Hs} {q t2 e2 : Addr} {H C : Mm} (e : h1 = ⟨b0, [], 0, []⟩) : ([(e2, MO.lst []), (t2, .dct []), (q, .ins .desk [b0.d, .ref t2, .int 0, .ref e2])] ++ (H ++ C)).Perm (h1.m q t2 e2 ++ (C ++ H)) := by
  subst e
  exact b_a
theorem b_b {N C H : Mm} : (N ++ (C ++ H)).Perm (H ++ (N ++ C)) := by walk_at "pm"
theorem b_c {N C H : Mm} : (H ++ (N ++ C)).Perm (N ++ (C ++ H)) := by walk_at "pm"
theorem q_eqV {M : Mm} {R : BQ} {d e : D} (p1 : pd 60 d = true) (p2 : pd 60 e = true) {b : Bool} (hb : deq d e = b) (k : R (.bl (!b)) M) : oNe d e M R := q_neX (.inr rfl) (.inr rfl) p1 p2 hb k
theorem pure__law_all_back : ∀ ex ds M R, sp__law_all_back ex ds M R → t__law_all_back { ex := ex, nx := fun _ M' => R .non M', rt := R } (startB 7 ds) M := by
  rintro ex ds M R ⟨p, t, e, h, c, b0, b1, l, ns, rfl, rn, good, hl, hn, nne, hns, rfl, k⟩
  unfold t__law_all_back
  refine q_stop (q_for (q_rng1 ?_))
  walk_at "bv"
  refine ⟨_, rfl, ⟨by rw [cD_len]; omega, by rw [cD_len]; omega⟩, ?_⟩
  rw [Int.toNat_natCast, cD_len]
  refine ab_loop (L := l.length) cD_len (by omega) l.length 0 l h t _ rn rfl (by omega) fun h0 t x5 eh0 => stop_go (q_stop ?_)
  walk_at "bv"
  intro q
  refine cf_head (Mc := [(q, _)]) ⟨q, b0, rfl, rfl, fun t2 e2 => ⟨rfl, ?_⟩⟩
  walk_at "bv"
  obtain ⟨h1, eh1⟩ : ∃ h1 : Hs, h1 = ⟨b0, [], 0, []⟩ := ⟨_, rfl⟩
  refine stop_cv (.perm (b_a1 eh1)) (q_stop ?_)
  have f0 : h0.fit := by rw [eh0]; exact Rn.fit .nil good (by decide)
  have f1 : h1.fit := by rw [eh1]; exact Rn.fit .nil good (by decide)
  have s0 : h0.saved = [] := by rw [eh0]
  have s1 : h1.saved = [] := by rw [eh1]
  have d0 : h0.bk.desks = b0.desks := by rw [eh0]
  have d1 : h1.bk.desks = b0.desks := by rw [eh1]
  have ez : Eqz h1 h0 := by rw [eh0, eh1]; exact Eqz.rfl'
  refine q_if (q_tst (q_op (q_lstV (q_cons (q_call0 ?_)))))
  walk_at "bv"
  refine cf_part (b_b (N := h1.m q t2 e2)) ⟨p, t, e, h0, rfl, rfl, .inl ⟨s0, ?_⟩⟩
  refine q_cons (q_call0 ?_)
  walk_at "bv"
  refine cf_part (b_c (N := h1.m q t2 e2)) ⟨q, t2, e2, h1, rfl, rfl, .inl ⟨s1, ?_⟩⟩
  walk_at "bv"
  refine q_eqV (b := true) (by decide +kernel) (by decide +kernel) (by decide +kernel) ?_
  walk_at "bv"
  refine stop_go (q_stop (q_if (q_not (q_tst (q_call0 (q_cons (q_call0 ?_)))))))
  walk_at "bv"
  refine cf_part (b_b (N := h1.m q t2 e2)) ⟨p, t, e, h0, ns, by rw [d0], f0, hn, hns, rfl, ?_⟩
  refine q_cons (q_call0 ?_)
  walk_at "bv"
  refine cf_part (b_c (N := h1.m q t2 e2)) ⟨q, t2, e2, h1, ns, by rw [d1], f1, hn, hns, rfl, ?_⟩
  walk_at "bv"
  rw [ez.stand]
  refine cf_pure ⟨_, rfl, gd_stand f0 hns, rfl, ?_⟩
  walk_at "bv"
  obtain ⟨nm, r, rfl⟩ : ∃ nm r, ns = nm :: r := by
    cases ns with
    | nil => exact (nne rfl).elim
    | cons a b => exact ⟨a, b, rfl⟩
  have hnm := hn nm List.mem_cons_self
  refine stop_go (q_retS (q_call0 (q_cons (q_meth0 ?_))))
  walk_at "bv"
  have hat : L2.atI (sts (nm :: r)) (0 : Int) = some (.str nm) := at_nat (l := sts (nm :: r)) (j := 0) rfl
  refine q_ixL hat ?_
  walk_at "bv"
  refine cf_part (b_b (N := h1.m q t2 e2)) ⟨p, t, e, h0, nm, .letter, rfl, f0.ok, by rw [s0]; decide, f0.desks, hnm, trivial, .inr rfl, rfl, fun a => ?_⟩
  refine q_cons (q_meth0 ?_)
  walk_at "bv"
  refine q_isP (.inl ⟨q, _, _, rfl, .app at_m⟩) ?_
  walk_at "bv"
  refine q_ixL hat ?_
  walk_at "bv"
  refine cf_part (b_c (N := h1.m q t2 e2)) ⟨q, t2, e2, h1, nm, .letter, rfl, f1.ok, by rw [s1]; decide, f1.desks, hnm, trivial, .inr rfl, rfl, fun a => ?_⟩
  walk_at "bv"
  rw [ez.1, ez.2.1]
  refine cf_pure ⟨_, rfl, work_gd (n := 5) f0.ok.bk (getK_ok f0.ok) trivial, rfl, ?_⟩
  exact stopV_go (k _)
def sp_law : BSp := fun ex ds M R => ∃ ns, ds = [.scr ns] ∧ ns.length ≤ 63 ∧ M = [] ∧ ∀ M', R (.bl true) M'
theorem len_law : ∀ ex ds M R, sp_law ex ds M R → ds.length = 1 := by
  rintro ex ds M R ⟨ns, rfl, _⟩
  rfl
end BV
set_option maxHeartbeats 4000000
namespace BV
open PySem
local macro_rules | `(tactic| walk_at "pd") => `(tactic| (first | rfl | assumption | (apply pd_str; assumption) | decide +kernel))
local macro_rules | `(tactic| walk_at "ty") => `(tactic| (first | exact TyD.tup _ | exact TyD.str _ | exact TyD.lst _ | exact TyD.bl _ | exact TyD.int _ | exact TyD.non | (apply TyD.ref; walk_at "at")))
local macro_rules | `(tactic| walk_at "sz") => `(tactic| (first | assumption | exact Nat.le_of_ble_eq_true rfl))
local macro_rules | `(tactic| walk_at "at") => `(tactic| (repeat (first | exact At.here | apply At.there | apply At.app)))
local macro_rules | `(tactic| walk_at "sok") => `(tactic| (first | assumption | (show PyData.strOk _ = true; decide +kernel)))
local macro_rules | `(tactic| walk_at "b1") => `(tactic| first
  | with_reducible refine q_seq ?_
  | with_reducible refine q_if ?_
  | with_reducible refine q_tst ?_
  | with_reducible refine q_op ?_
  | with_reducible refine q_c ?_
  | ((with_reducible refine' q_var ?b1 ?_); (case b1 => rfl))
  | with_reducible refine q_fld ?_
  | ((with_reducible refine' q_fldR ?b1 ?b2 ?_); (case b1 => walk_at "at"); (case b2 => rfl))
  | ((with_reducible refine' q_fldV ?b2 ?_); (case b2 => rfl))
  | ((with_reducible refine' q_eqS ?b1 ?b2 ?_); (case b1 => walk_at "sok"); (case b2 => walk_at "sok"))
  | ((with_reducible refine' q_neS ?b1 ?b2 ?_); (case b1 => walk_at "sok"); (case b2 => walk_at "sok"))
  | with_reducible refine q_eqB ?_
  | with_reducible refine q_eqI ?_
  | with_reducible refine q_neI ?_
  | with_reducible refine q_addI ?_
  | with_reducible refine q_oadd ?_
  | with_reducible refine q_osub ?_
  | with_reducible refine q_lt ?_
  | with_reducible refine q_le ?_
  | with_reducible refine q_gt ?_
  | with_reducible refine q_ge ?_
  | with_reducible refine q_isN ?_
  | with_reducible refine q_notN ?_
  | ((with_reducible refine' q_ixT ?b2 ?_); (case b2 => rfl))
  | ((with_reducible refine' q_ixL ?b2 ?_); (case b2 => rfl))
  | ((with_reducible refine' q_ixR ?b1 ?b2 ?_); (case b1 => walk_at "at"); (case b2 => rfl))
  | with_reducible refine q_bl ?_
  | with_reducible refine q_ret ?_
  | with_reducible refine q_retN ?_
  | with_reducible refine q_skip ?_
  | with_reducible refine q_drop ?_
  | with_reducible refine q_asg ?_
  | with_reducible refine q_gN ?_
  | with_reducible refine q_gFld ?_
  | with_reducible refine q_aug ?_
  | with_reducible refine q_isRef ?_
  | ((with_reducible refine' q_put ?b1 ?b2 ?b3 ?_); (case b1 => walk_at "at"); (case b2 => rfl); (case b3 => rfl))
  | with_reducible refine q_nil ?_
  | with_reducible refine q_cons ?_
  | with_reducible refine q_not ?_
  | with_reducible refine q_and ?_
  | with_reducible refine q_or ?_
  | with_reducible refine q_andV ?_
  | with_reducible refine q_orV ?_
  | with_reducible refine q_notV ?_
  | with_reducible refine q_ifE ?_
  | with_reducible refine q_tup ?_
  | ((with_reducible refine' q_szA ?b1 fun p => ?_); (case b1 => walk_at "sz"))
  | ((with_reducible refine' q_sz ?b1 ?_); (case b1 => walk_at "sz"))
  | with_reducible refine q_bm ?_
  | ((with_reducible refine' q_own ?b1 ?_); (case b1 => walk_at "at"))
  | ((with_reducible refine' q_append ?b1 ?b2 ?_); (case b1 => walk_at "at"); (case b2 => walk_at "sz"))
  | with_reducible refine q_call0 ?_
  | with_reducible refine q_meth0 ?_
  | ((with_reducible refine' q_isR ?b1 ?_); (case b1 => walk_at "at"))
  | ((with_reducible refine' q_isP ?b1 ?_); (case b1 => exact Or.inr ⟨_, rfl⟩))
  | with_reducible refine q_dct ?_
  | with_reducible refine q_dget ?_
  | ((with_reducible refine' q_dctE ?b1 ?_); (case b1 => walk_at "at"))
  | with_reducible refine q_dinT ?_
  | with_reducible refine q_dinF ?_
  | with_reducible refine q_dget1 ?_
  | ((with_reducible refine' q_isDct ?b1 ?_); (case b1 => walk_at "at"))
  | ((with_reducible refine' q_setD ?b1 ?b2 ?_); (case b1 => walk_at "at"); (case b2 => walk_at "sz"))
  | with_reducible refine q_orT ?_
  | ((with_reducible refine' q_orTT ?b1 ?_); (case b1 => rfl))
  | with_reducible refine q_cb ?_
  | ((with_reducible refine' q_inT ?b1 ?b2 rfl ?_); (case b1 => walk_at "pd"); (case b2 => walk_at "pd"))
  | ((with_reducible refine' q_notInT ?b1 ?b2 rfl ?_); (case b1 => walk_at "pd"); (case b2 => walk_at "pd"))
  | ((with_reducible refine' q_isi rfl ?b1 ?_); (case b1 => walk_at "ty"))
  | ((with_reducible refine' q_isi2 rfl rfl ?b1 ?_); (case b1 => walk_at "ty"))
  | with_reducible refine q_lenT ?_
  | with_reducible refine q_lenL ?_
  | ((with_reducible refine' q_lenR ?b1 ?_); (case b1 => walk_at "at"))
  | ((with_reducible refine' q_lenD ?b1 ?_); (case b1 => walk_at "at"))
  | ((with_reducible refine' q_lenS ?b1 ?_); (case b1 => walk_at "sz"))
  | with_reducible refine q_lenSc ?_
  | with_reducible refine q_intI ?_
  | with_reducible refine q_intB ?_
  | with_reducible refine q_listT ?_
  | with_reducible refine q_listL ?_
  | ((with_reducible refine' q_listR ?b1 ?_); (case b1 => walk_at "at"))
  | ((with_reducible refine' q_listD ?b1 ?_); (case b1 => walk_at "at"))
  | ((with_reducible refine' q_tupR ?b1 ?_); (case b1 => walk_at "at"))
  | with_reducible refine q_tupL ?_
  | ((with_reducible refine' q_dictO ?b1 fun p => ?_); (case b1 => walk_at "at"))
  | with_reducible refine q_dictN fun p => ?_
  | with_reducible refine q_lstO ?_
  | with_reducible refine q_lstV ?_
  | with_reducible refine q_chain ?_
  | ((with_reducible refine' q_gTup ?b1 ?_); (case b1 => rfl))
  | with_reducible refine q_gCons ?_
  | with_reducible refine q_gNil ?_
  | with_reducible refine q_par ?_
  | with_reducible refine q_par3 ?_
  | with_reducible refine q_two ?_
  | with_reducible refine q_three ?_
  | ((with_reducible refine' q_saug ?b1 ?_); (case b1 => rfl))
  | with_reducible refine q_gSub ?_
  | ((with_reducible refine' q_setL ?b1 ?b2 ?b3 ?_); (case b1 => walk_at "at"); (case b2 => rfl); (case b3 => rfl))
  | with_reducible refine q_ownV ?_
  | with_reducible refine q_indexA ?_
  | ((with_reducible refine' q_indexB ?b1 ?_); (case b1 => decide +kernel))
  | ((with_reducible refine' q_listO ?b1 fun p => ?_); (case b1 => walk_at "at"))
  | with_reducible refine q_listOT fun p => ?_
  | ((with_reducible refine' q_popO ?b1 ?_); (case b1 => walk_at "at"))
  | with_reducible refine q_yes ?_
  | with_reducible refine q_cN ?_
  | with_reducible refine q_make0 ?_
  | with_reducible refine q_lstX ?_
  | with_reducible refine q_tupX ?_
  | ((with_reducible refine' q_iteT ?b1 ?_); (case b1 => first | rfl | decide +kernel))
  | ((with_reducible refine' q_iteF ?b1 ?_); (case b1 => first | rfl | decide +kernel))
  | with_reducible refine q_goS ?_
  | with_reducible refine q_goV ?_)
local macro_rules | `(tactic| walk_at "bv") => `(tactic| (repeat (walk_at "b1")))
local macro_rules | `(tactic| walk_at "pm") => `(tactic| (classical (refine List.perm_iff_count.mpr fun z => ?_; simp only [List.count_append, List.count_cons, List.count_nil]; omega)))
def t_law : RS := sSeq (sAsg (rCall0 sp__law_well (rCons (rVar 0) (rCons (rC (.int 0)) rNil))) (gN 1)) (sSeq (sPar 5 6 (rCons (rCB bTuple (rCons (rCall0 sp__law_names (rCons (rVar 1) (rCons (rC (.int 4)) rNil))) rNil)) (rCons (rLstO rNil) rNil))) (sSeq (sAsg (rLstV (rCons (rMake0 .book sp_Book___init__ (rCons (rVar 5) (rCons (rCall0 sp__law_rules (rCons (rVar 1) (rCons (rVar 5) (rCons (rC (.int 4)) rNil)))) rNil))) (rCons (rMake0 .book sp_Book___init__ (rCons (rVar 5) (rCons (rCall0 sp__law_rules (rCons (rVar 1) (rCons (rVar 5) (rCons (rC (.int 4)) rNil)))) rNil))) rNil))) (gN 2)) (sSeq (sPar 7 8 (rCons (rMake0 .desk sp_Desk___init__ (rCons (rOp oIx (rVar 2) (rC (.int 0))) rNil)) (rCons (rCall0 sp__law_names (rCons (rVar 1) (rCons (rC (.int 4)) rNil))) rNil))) (sSeq (sAsg (rLcO (iRng1 (rCons (rOp oAddX (rC (.int 1)) (rCall0 sp__law_draw (rCons (rVar 1) (rCons (rC (.int 16)) rNil)))) rNil)) (cN 9) (rYes) (rVar 1) [9]) (gN 3)) (sSeq (sDrop (rBM "list" mExtend (rVar 3) (rCons (rLc (iRng2 (rCons (rC (.int 1)) (rCons (rCB bMin (rCons (rC (.int 63)) (rCons (rCB bLenX (rCons (rVar 0) rNil)) rNil))) rNil))) (cN 9) (rYes) (rCall0 sp__law_well (rCons (rVar 0) (rCons (rVar 9) rNil))) [9]) rNil))) (sSeq (sFor (iSeq (rVar 3)) (gN 4) (sSeq (sIf (rTst (rOp oEq (rCall0 sp__law_draw (rCons (rVar 4) (rCons (rC (.int 3)) rNil))) (rC (.int 0)))) (sSeq (sIf (rTst (rOp oNe (rCall0 sp__law_undone (rCons (rVar 7) rNil)) (rIf (rTst (rOp oEqE (rVar 6) (rLstV rNil))) (rC (.str "empty")) (rC (.str "back"))))) (sRet (rC (.bl false))) (sSkip)) (sAsg (rSl oSlO (rVar 6) rNoP (rPt (rNeg (rC (.int 1))))) (gN 6))) (sSeq (sAsg (rCall0 sp__law_next (rCons (rVar 4) (rCons (rVar 2) (rCons (rVar 5) (rCons (rVar 8) (rCons (rVar 6) rNil)))))) (gN 10)) (sDrop (rBM "list" mAppend (rVar 6) (rCons (rTup (rCons (rOp oIx (rVar 10) (rC (.int 0))) (rCons (rOp oIx (rVar 10) (rC (.int 1))) (rCons (rOp oIx (rVar 10) (rC (.int 2))) (rCons (rCall0 sp__law_made (rCons (rVar 7) (rCons (rVar 10) rNil))) rNil))))) rNil))))) (sIf (rTst (rOp oNe (rCB (bLenOwn .desk sp_Desk___len__) (rCons (rVar 7) rNil)) (rCB bLenX (rCons (rVar 6) rNil)))) (sRet (rC (.bl false))) (sSkip)))) (sSeq (sIf (rNot (rTst (rCall0 sp__law_as_new (rCons (rVar 7) (rCons (rVar 2) (rCons (rVar 5) (rCons (rVar 8) (rCons (rVar 6) rNil)))))))) (sRet (rC (.bl false))) (sSkip)) (sRet (rCall0 sp__law_all_back (rCons (rVar 7) (rCons (rVar 2) (rCons (rVar 5) (rCons (rVar 8) (rCons (rVar 6) rNil))))))))))))))
theorem q_neg {ex : BX} {τ : BSt} {M : Mm} {R : BQ} {ta : RE} (k : ta ex τ M fun d M1 => ∃ i, d = .int i ∧ R (.int (-i)) M1) : rNeg ta ex τ M R := k
theorem cut_last {z : D} {l : List D} : cutD (l ++ [z]) none (some (-1)) = l := by
  unfold cutD
  have e1 : HT.sIx (l ++ [z]).length (l ++ [z]).length (some (-1)) = l.length := by
    show (if (-1 : Int) < 0 then ((-1 : Int) + ((l ++ [z]).length : Nat)).toNat else min (-1 : Int).toNat (l ++ [z]).length) = _
    rw [if_pos (by decide), List.length_append, List.length_singleton]
    omega
  rw [e1, HT.sIx_none, Nat.sub_zero, List.drop_zero]
  exact List.take_left
theorem cut_nil : cutD [] none (some (-1)) = [] := by
  unfold cutD
  simp
def r_lw : RS := sIf (rTst (rOp oNe (rCB (bLenOwn .desk sp_Desk___len__) (rCons (rVar 7) rNil)) (rCB bLenX (rCons (rVar 6) rNil)))) (sRet (rC (.bl false))) (sSkip)
def b_l61 : RS := sSeq (sIf (rTst (rOp oEq (rCall0 sp__law_draw (rCons (rVar 4) (rCons (rC (.int 3)) rNil))) (rC (.int 0)))) (sSeq (sIf (rTst (rOp oNe (rCall0 sp__law_undone (rCons (rVar 7) rNil)) (rIf (rTst (rOp oEqE (rVar 6) (rLstV rNil))) (rC (.str "empty")) (rC (.str "back"))))) (sRet (rC (.bl false))) (sSkip)) (sAsg (rSl oSlO (rVar 6) rNoP (rPt (rNeg (rC (.int 1))))) (gN 6))) (sSeq (sAsg (rCall0 sp__law_next (rCons (rVar 4) (rCons (rVar 2) (rCons (rVar 5) (rCons (rVar 8) (rCons (rVar 6) rNil)))))) (gN 10)) (sDrop (rBM "list" mAppend (rVar 6) (rCons (rTup (rCons (rOp oIx (rVar 10) (rC (.int 0))) (rCons (rOp oIx (rVar 10) (rC (.int 1))) (rCons (rOp oIx (rVar 10) (rC (.int 2))) (rCons (rCall0 sp__law_made (rCons (rVar 7) (rCons (rVar 10) rNil))) rNil))))) rNil))))) r_lw
theorem m_a {X H C U V : Mm} : ((U ++ (X ++ V)) ++ (H ++ C)).Perm (X ++ (H ++ (C ++ (U ++ V)))) := by walk_at "pm"
theorem m_b {X H W : Mm} : (X ++ (H ++ W)).Perm (H ++ (X ++ W)) := by walk_at "pm"
theorem m_c {X H C C2 U V : Mm} : (C2 ++ (H ++ (X ++ (C ++ (U ++ V))))).Perm (C ++ ((U ++ (X ++ V)) ++ (H ++ C2))) := by walk_at "pm"
theorem m_d {X H C W : Mm} : (X ++ (H ++ (C ++ W))).Perm ((X ++ C) ++ (H ++ W)) := by walk_at "pm"
theorem m_e {X H C W : Mm} : ((X ++ C) ++ (H ++ W)).Perm (H ++ (C ++ (X ++ W))) := by walk_at "pm"
theorem m_f {X H C U V : Mm} : (H ++ (C ++ (X ++ (U ++ V)))).Perm ((U ++ (X ++ V)) ++ (H ++ C)) := by walk_at "pm"
theorem m_g {W H C : Mm} : (W ++ (H ++ C)).Perm (H ++ (W ++ C)) := by walk_at "pm"
theorem m_g2 {W H C : Mm} : (H ++ (W ++ C)).Perm (W ++ (H ++ C)) := by walk_at "pm"
theorem op3 {o : Op} : ∃ a b c, o.l = [a, b, c] := by
  cases o <;> exact ⟨_, _, _, rfl⟩
theorem op_ok {b0 b1 : Bk} {l : List Zo} {h : Hs} {ns : List Str} {o : Op} (g0 : b0.good) (g1 : b1.good) (hd : b1.desks = b0.desks) (nok : Nms ns) (rn : Rn b0 l h) (k : opIn b0 b1 ns (dos l) o) : o.okAt h := by
  have e := rn.desks
  cases o with
  | day => trivial
  | chg b =>
    rcases k with rfl | rfl
    · exact ⟨g0, e.symm⟩
    · exact ⟨g1, hd.trans e.symm⟩
  | put x d => exact ⟨nok.nm x k.1, by rw [e]; exact k.2.1, k.2.2.imp (rn.who x) id⟩
theorem Rn.cs {b0 : Bk} {l : List Zo} {h : Hs} (r : Rn b0 l h) : (l = [] ∧ h.saved = []) ∨ ∃ z l' s r', l = z :: l' ∧ h.saved = s :: r' ∧ Rn b0 l' (s.h r') := by
  cases r with
  | nil => exact .inl ⟨rfl, rfl⟩
  | cons r _ => exact .inr ⟨_, _, _, _, rfl, app_saved, r⟩
theorem l61_loop {Bn : BEnds} {x0 x1 x3 x9 : Option D} {p e : Addr} {b0 b1 : Bk} {ns : List Str} (g0 : b0.good) (g1 : b1.good) (hd : b1.desks = b0.desks) (nok : Nms ns) (nne : ns ≠ []) (nl : ns.length ≤ 100) (k : ∀ (ws : Ws) c l h t x4 x10, Rn b0 l h → l.length ≤ 200 → Bn.nx [x0, x1, some (.lst [b0.d, b1.d]), x3, x4, some (.tup (sts b0.desks)), some (.ref c), some (.ref p), some (.lst (sts ns)), x9, x10] (wM ws ++ (h.m p t e ++ [(c, .lst (cD l))]))) :
    ∀ (rs : List Addr) (ws : Ws) (l : List Zo) (h : Hs) (t c : Addr) (x4 x10 : Option D), (∀ r ∈ rs, ∃ x, (r, x) ∈ ws) → (∀ w ∈ ws, WB w.2 (30 * rs.length + 100)) → Rn b0 l h → l.length + rs.length ≤ 200 →
    forW (gN 4) b_l61 Bn (rs.map .ref) [x0, x1, some (.lst [b0.d, b1.d]), x3, x4, some (.tup (sts b0.desks)), some (.ref c), some (.ref p), some (.lst (sts ns)), x9, x10] (wM ws ++ (h.m p t e ++ [(c, .lst (cD l))]))
  | [], ws, l, h, t, c, x4, x10, _, _, rn, hl => .go (k ws c l h t _ _ rn (by simpa using hl))
  | r :: rs, ws, l, h, t, c, x4, x10, hr, hw, rn, hl => by
    rw [List.length_cons] at hw hl
    obtain ⟨x, hx⟩ := hr r List.mem_cons_self
    obtain ⟨u, v, rfl⟩ := List.append_of_mem hx
    have hwx := hw (r, x) hx
    have hr2 : ∀ z, ∀ q ∈ rs, ∃ y, (q, y) ∈ u ++ (r, z) :: v := fun z q hq => by
      obtain ⟨y, hy⟩ := hr q (List.mem_cons_of_mem _ hq)
      rcases List.mem_append.mp hy with a | a
      · exact ⟨y, List.mem_append.mpr (.inl a)⟩
      rcases List.mem_cons.mp a with a | a
      · cases a
        exact ⟨z, List.mem_append.mpr (.inr List.mem_cons_self)⟩
      · exact ⟨y, List.mem_append.mpr (.inr (List.mem_cons_of_mem _ a))⟩
    have hw2 : ∀ z, WB z (30 * rs.length + 100) → ∀ w ∈ u ++ (r, z) :: v, WB w.2 (30 * rs.length + 100) := fun z hz w hw' => by
      rcases List.mem_append.mp hw' with a | a
      · exact (hw w (List.mem_append.mpr (.inl a))).le (by omega)
      rcases List.mem_cons.mp a with a | a
      · rw [a]; exact hz
      · exact (hw w (List.mem_append.mpr (.inr (List.mem_cons_of_mem _ a)))).le (by omega)
    have rl := rn.len
    have fit := rn.fit g0 (by omega)
    -- behind a turn
    have fin : ∀ (y : W3) (l2 : List Zo) (h2 : Hs) (t2 c2 : Addr) (x10 : Option D), WB y (30 * rs.length + 100) → Rn b0 l2 h2 → l2.length + rs.length ≤ 200 → r_lw ⟨Bn.ex, fun τ2 M2 => CvS τ2 M2 (forW (gN 4) b_l61 Bn (rs.map .ref)), Bn.rt, Bn.nx, fun τ2 M2 => CvS τ2 M2 (forW (gN 4) b_l61 Bn (rs.map .ref))⟩ [x0, x1, some (.lst [b0.d, b1.d]), x3, some (.ref r), some (.tup (sts b0.desks)), some (.ref c2), some (.ref p), some (.lst (sts ns)), x9, x10] ((wM u ++ ([(r, .lst y.l)] ++ wM v)) ++ (h2.m p t2 e ++ [(c2, .lst (cD l2))])) := fun y l2 h2 t2 c2 x10 hy r2 hl2 => by
      have r2l := r2.len
      unfold r_lw
      walk_at "bv"
      refine ⟨_, rfl, .inl ⟨p, _, _, rfl, .app at_m⟩, cf_part m_g ⟨p, t2, e, h2, rfl, rfl, _, rfl, by omega, by omega, ?_⟩⟩
      walk_at "bv"
      rw [cD_len, r2l, decide_eq_true rfl]
      walk_at "bv"
      have q := l61_loop (Bn := Bn) (x0 := x0) (x1 := x1) (x3 := x3) (x9 := x9) (p := p) (e := e) g0 g1 hd nok nne nl k rs (u ++ (r, y) :: v) l2 h2 t2 c2 (some (.ref r)) x10 (hr2 y) (hw2 y hy) r2 hl2
      rw [wM_app, wM_cons] at q
      exact ⟨_, _, .perm m_g2, q⟩
    refine q_gN ?_
    unfold b_l61
    rw [wM_app, wM_cons]
    refine q_stop (q_if (q_tst (q_op (q_call0 ?_))))
    walk_at "bv"
    refine cf_part (m_a (X := [(r, _)]) (C := [(c, _)])) ⟨r, x, 3, 30 * rs.length + 120, rfl, by decide, by decide, hwx.le (by omega), rfl, fun v' y1 v0 v1 w1 => ?_⟩
    walk_at "bv"
    refine q_iteD (fun h0 => ?_) (fun h0 => ?_)
    · refine q_stop (q_if (q_tst (q_op (q_call0 ?_))))
      walk_at "bv"
      have hgo : ∀ (l2 : List Zo) (h2 : Hs) (t2 : Addr), Rn b0 l2 h2 → l2.length ≤ l.length → cutD (cD l) none (some (-1)) = cD l2 → sAsg (rSl oSlO (rVar 6) rNoP (rPt (rNeg (rC (.int 1))))) (gN 6) ⟨Bn.ex, fun τ2 M2 => Stop (CvS τ2 M2 (r_lw ⟨Bn.ex, fun τ2 M2 => CvS τ2 M2 (forW (gN 4) b_l61 Bn (rs.map .ref)), Bn.rt, Bn.nx, fun τ2 M2 => CvS τ2 M2 (forW (gN 4) b_l61 Bn (rs.map .ref))⟩)), Bn.rt, Bn.nx, fun τ2 M2 => CvS τ2 M2 (forW (gN 4) b_l61 Bn (rs.map .ref))⟩ [x0, x1, some (.lst [b0.d, b1.d]), x3, some (.ref r), some (.tup (sts b0.desks)), some (.ref c), some (.ref p), some (.lst (sts ns)), x9, x10] (h2.m p t2 e ++ ([(r, .lst y1.l)] ++ ([(c, .lst (cD l))] ++ (wM u ++ wM v)))) := fun l2 h2 t2 r2 e1 e2 => by
        refine q_asg (q_sl ?_)
        walk_at "bv"
        refine q_noP (q_pt (q_neg ?_))
        walk_at "bv"
        refine ⟨1, rfl, -1, rfl, cD l, .inr ⟨c, _, rfl, by walk_at "at"⟩, fun c2 => ?_⟩
        walk_at "bv"
        rw [e2]
        refine stop_cv ((Cv.perm (m_c (C2 := [(c2, _)]) (X := [(r, _)]) (C := [(c, _)]))).trans Cv.drop) ?_
        exact fin y1 l2 h2 t2 c2 x10 (w1.le (by omega)) r2 (by omega)
      rcases rn.cs with ⟨el, es⟩ | ⟨z, l', s', r', el, es, rn'⟩
      · refine cf_part (m_b (X := [(r, _)])) ⟨p, t, e, h, rfl, rfl, .inl ⟨es, ?_⟩⟩
        walk_at "bv"
        refine q_eqE (by walk_at "at") ?_
        rw [show (cD l).isEmpty = true by rw [el]; rfl]
        walk_at "bv"
        exact stop_go (hgo l h t rn (Nat.le_refl _) (by rw [el]; exact cut_nil))
      · refine cf_part (m_b (X := [(r, _)])) ⟨p, t, e, h, rfl, rfl, .inr ⟨s', r', es, ?_⟩⟩
        walk_at "bv"
        refine q_eqE (by walk_at "at") ?_
        rw [show (cD l).isEmpty = false by rw [el, cD_cons]; simp]
        walk_at "bv"
        exact stop_go (hgo l' (s'.h r') s'.a rn' (by rw [el]; exact Nat.le_succ _) (by rw [el, cD_cons]; exact cut_last))
    · refine q_stop (q_asg (q_call0 ?_))
      walk_at "bv"
      refine cf_part (m_d (X := [(r, _)]) (C := [(c, _)])) ⟨r, y1, c, b0, b1, l, ns, 30 * rs.length + 100, rfl, g0.desks, nok, nne, by omega, by omega, fun y hy => nm_sok (fit.nm y (rn.who y hy)), w1.le (by omega), rfl, fun o y2 ho w2 => ?_⟩
      have okA := op_ok g0 g1 hd nok rn ho
      obtain ⟨o1, o2, o3, e3⟩ := op3 (o := o)
      rw [e3]
      refine q_gN (stop_cv (.perm (m_e (X := [(r, _)]) (C := [(c, _)]))) ?_)
      have hz : Sz (cD l).length := Nat.le_trans (show (cD l).length ≤ 200 by rw [cD_len]; omega) (Nat.le_of_ble_eq_true rfl)
      walk_at "bv"
      refine cf_head ⟨p, t, e, h, o, [], by rw [List.append_nil, e3], .inl rfl, fit, okA, by omega, rfl, fun a => ?_⟩
      walk_at "bv"
      have ec : cD l ++ [.tup [o1, o2, o3, o.res h]] = cD ((o, o.res h) :: l) := by
        rw [cD_cons]
        unfold callD
        rw [e3]
        rfl
      refine stop_cv (.perm (m_f (X := [(r, _)]) (C := [(c, _)]))) ?_
      rw [ec]
      exact fin y2 _ (o.app a h) t c _ w2 (.cons rn okA) (by rw [List.length_cons]; omega)
theorem m_h {p t e c a : Addr × MO} : [e, t, p, c, a].Perm ([a] ++ (([] ++ [p, t, e]) ++ [c])) := by walk_at "pm"
theorem m_i {x y : Addr × MO} {M : Mm} : ([x] ++ (y :: M)).Perm ([y] ++ (x :: M)) := List.Perm.swap _ _ _
theorem m_j {a p t e c : Addr × MO} : [e, t, p, a, c].Perm ([a] ++ (([] ++ [p, t, e]) ++ [c])) := by walk_at "pm"
theorem m_k {a p t e c : Addr × MO} : ([a] ++ (([] ++ [p, t, e]) ++ [c])).Perm ([a] ++ (([] ++ [p, t, e]) ++ [c])) := .refl _
theorem m_l {l a p t e c : Addr × MO} {W : Mm} : (W ++ (l :: a :: (([] ++ [p, t, e]) ++ [c]))).Perm (l :: ((W ++ [a]) ++ (([] ++ [p, t, e]) ++ [c]))) := by walk_at "pm"
theorem pure_law : ∀ ex ds M R, sp_law ex ds M R → t_law { ex := ex, nx := fun _ M' => R .non M', rt := R } (startB 11 ds) M := by
  rintro ex ds M R ⟨sc, rfl, hsc, rfl, k⟩
  unfold t_law
  refine q_stop ?_
  walk_at "bv"
  refine cf_pure ⟨sc, 0, rfl, by omega, rfl, fun a x wx => ?_⟩
  walk_at "bv"
  refine stop_go (q_stop ?_)
  walk_at "bv"
  refine cf_head (Mc := [(a, _)]) ⟨a, x, 4, 999990000, rfl, by decide, by decide, wx.le (by decide), rfl, fun xs y1 nx l1 l2 w1 => ?_⟩
  have dok : DesksOk xs := ⟨⟨l1, l2⟩, nx.nm, nx.nd⟩
  walk_at "bv"
  rename_i c
  refine stop_cv (.perm (List.Perm.swap _ _ _)) (q_stop ?_)
  refine q_asg (q_lstV (q_cons (q_make0 ?_)))
  walk_at "bv"
  refine cf_head (Mc := [(a, _)]) ⟨a, y1, xs, 4, 999980000, rfl, dok, by decide, w1.le (by decide), rfl, fun rs y2 l3 hrs w2 => ?_⟩
  have good : Bk.good ⟨xs, rs⟩ := ⟨dok, by show rs.length ≤ 8; omega, hrs⟩
  walk_at "bv"
  intro pb
  refine cf_head (Mc := [(pb, .ins .book [])]) ⟨pb, ⟨xs, rs⟩, rfl, good, rfl, rfl, ?_⟩
  refine q_cons (q_make0 ?_)
  walk_at "bv"
  refine cf_part m_i ⟨a, y2, xs, 4, 999970000, rfl, dok, by decide, w2.le (by decide), rfl, fun rs2 y3 l4 hrs2 w3 => ?_⟩
  have good2 : Bk.good ⟨xs, rs2⟩ := ⟨dok, by show rs2.length ≤ 8; omega, hrs2⟩
  walk_at "bv"
  intro pb2
  refine cf_head (Mc := [(pb2, .ins .book [])]) ⟨pb2, ⟨xs, rs2⟩, rfl, good2, rfl, rfl, ?_⟩
  walk_at "bv"
  refine stop_cv ((Cv.fz (i := 2) (.ins _ _) rfl (.lst (.cons (.rfl _) (.cons .here .nil)))).trans ((Cv.perm (List.Perm.swap _ _ _)).trans (Cv.fz (i := 2) (.ins _ _) rfl (.lst (.cons .here (.cons (.rfl _) .nil)))))) (q_stop ?_)
  walk_at "bv"
  intro p
  refine cf_head (Mc := [(p, _)]) ⟨p, ⟨xs, rs⟩, rfl, rfl, fun t e => ⟨rfl, ?_⟩⟩
  walk_at "bv"
  refine cf_part m_j ⟨a, y3, 4, 999960000, rfl, by decide, by decide, w3.le (by decide), rfl, fun ns y4 nok l5 l6 w4 => ?_⟩
  walk_at "bv"
  refine stop_cv (.perm m_k) (q_stop ?_)
  refine q_asg (q_lcO (q_rng1 ?_))
  walk_at "bv"
  refine cf_head (Mc := [(a, _)]) ⟨a, y4, _, 999950000, rfl, by decide, by decide, w4.le (by decide), rfl, fun v y5 v0 v1 w5 => ?_⟩
  walk_at "bv"
  refine ⟨_, rfl, ⟨by omega, by omega⟩, ?_⟩
  refine lc_draw (P := fun _ => True) (enc := fun _ : Unit => .ref a) (C := 0) (fun d x n R hx kk => ?_) _ _ y5 999950000 (by rw [Nat.zero_mul]; exact w5) (by rw [rngD_len]; exact Nat.le_trans (show 0 + (1 + v).toNat ≤ 16 by omega) (Nat.le_of_ble_eq_true rfl)) fun cs y6 hl5 _ w6 => ?_
  · walk_at "bv"
    exact kk () x trivial hx
  rw [rngD_len] at hl5
  rw [List.nil_append, show cs.map (fun _ : Unit => D.ref a) = (cs.map fun _ => a).map .ref by rw [List.map_map]; rfl]
  intro wl
  walk_at "bv"
  refine stop_go (q_stop ?_)
  walk_at "bv"
  refine q_lc (q_rng2 ?_)
  walk_at "bv"
  refine q_bmin ?_
  walk_at "bv"
  have hmin : (if (sc.length : Int) < 63 then (sc.length : Int) else 63) ≤ 63 := by split <;> omega
  have hmin0 : 0 ≤ (if (sc.length : Int) < 63 then (sc.length : Int) else 63) := by split <;> omega
  refine ⟨_, _, rfl, ⟨by decide, by decide⟩, ⟨by omega, by omega⟩, ?_⟩
  refine lc_wells (fun k hk M R kk => ?_) _ 1 [] [] (by omega) (by simp; omega) (fun r hr => by cases hr) (fun w hw => by cases hw) fun as ws hl6 has hws => ?_
  · walk_at "bv"
    exact cf_pure ⟨sc, k, rfl, hk, rfl, kk⟩
  walk_at "bv"
  refine ⟨wl, _, _, _, _, rfl, rfl, .app .here, .inl rfl, ?_, ?_⟩
  · exact Nat.le_trans (show _ ≤ 1000 by rw [List.length_map, List.length_map, List.length_map, hl5, hl6]; simp; omega) (Nat.le_of_ble_eq_true rfl)
  walk_at "bv"
  refine stop_cv ((Cv.perm m_l).trans (Cv.fz (i := 3) (.lst _) rfl .here)) (q_stop (q_for (q_seqI ?_)))
  walk_at "bv"
  have hlen : ((cs.map fun _ => a) ++ as).length ≤ 100 := by rw [List.length_append, List.length_map, hl5, hl6]; simp; omega
  rw [← List.map_append]
  have q := fun Bn x0 x1 x3 x9 x4 x10 k => l61_loop (Bn := Bn) (x0 := x0) (x1 := x1) (x3 := x3) (x9 := x9) (p := p) (e := e) (b0 := ⟨xs, rs⟩) (b1 := ⟨xs, rs2⟩) good good2 rfl nok (fun e => by rw [e] at l5; cases l5) (Nat.le_trans l6 (by decide)) k ((cs.map fun _ => a) ++ as) (ws ++ [(a, y6)]) [] ⟨⟨xs, rs⟩, [], 0, []⟩ t c x4 x10 (fun r hr => by
    rcases List.mem_append.mp hr with e | e
    · obtain ⟨_, _, rfl⟩ := List.mem_map.mp e
      exact ⟨y6, List.mem_append.mpr (.inr List.mem_cons_self)⟩
    · obtain ⟨y, hy⟩ := has r e
      exact ⟨y, List.mem_append.mpr (.inl hy)⟩) (fun w hw => by
    rcases List.mem_append.mp hw with e | e
    · exact (hws w e).le (by omega)
    · rw [List.mem_singleton.mp e]
      exact w6.le (by omega)) .nil (by show 0 + _ ≤ 200; omega)
  rw [wM_app] at q
  refine q _ _ _ _ _ _ _ fun ws c l h t x4 x10 rn hl => ?_
  clear q
  refine stop_go (q_stop (q_if (q_not (q_tst (q_call0 ?_)))))
  walk_at "bv"
  refine cf_part List.perm_append_comm ⟨p, t, e, h, c, ⟨xs, rs⟩, ⟨xs, rs2⟩, l, ns, rfl, rn, good, by omega, nok.nm, Nat.le_trans l6 (by decide), rfl, ?_⟩
  walk_at "bv"
  refine stop_go (q_retS (q_call0 ?_))
  walk_at "bv"
  refine cf_head ⟨p, t, e, h, c, ⟨xs, rs⟩, ⟨xs, rs2⟩, l, ns, rfl, rn, good, by omega, nok.nm, (fun e => by rw [e] at l5; cases l5), Nat.le_trans l6 (by decide), rfl, fun M' => ?_⟩
  exact stopV_go (k _)
end BV
set_option maxHeartbeats 4000000
namespace BV
open PySem PySem.Spec PyProof.Rows L2
theorem sc_Book_desks : FnScope ["self"] ["self"] (defScope s_Book_desks) := ⟨rfl, rfl, rfl, by decide +kernel, rfl, by decide +kernel, by decide +kernel⟩
theorem sc_Book_rules : FnScope ["self"] ["self"] (defScope s_Book_rules) := ⟨rfl, rfl, rfl, by decide +kernel, rfl, by decide +kernel, by decide +kernel⟩
theorem sc_Desk___init__ : FnScope ["self", "book"] ["self", "book"] (defScope s_Desk___init__) := ⟨rfl, rfl, rfl, by decide +kernel, rfl, by decide +kernel, by decide +kernel⟩
theorem sc_Desk___len__ : FnScope ["self"] ["self"] (defScope s_Desk___len__) := ⟨rfl, rfl, rfl, by decide +kernel, rfl, by decide +kernel, by decide +kernel⟩
theorem sc_Desk_book : FnScope ["self"] ["self"] (defScope s_Desk_book) := ⟨rfl, rfl, rfl, by decide +kernel, rfl, by decide +kernel, by decide +kernel⟩
theorem sc_Desk_people : FnScope ["self"] ["self"] (defScope s_Desk_people) := ⟨rfl, rfl, rfl, by decide +kernel, rfl, by decide +kernel, by decide +kernel⟩
theorem sc_Desk_remember : FnScope ["self"] ["self"] (defScope s_Desk_remember) := ⟨rfl, rfl, rfl, by decide +kernel, rfl, by decide +kernel, by decide +kernel⟩
theorem sc_Desk_replies : FnScope ["self"] ["self"] (defScope s_Desk_replies) := ⟨rfl, rfl, rfl, by decide +kernel, rfl, by decide +kernel, by decide +kernel⟩
theorem sc_Desk_undo : FnScope ["self"] ["self"] (defScope s_Desk_undo) := ⟨rfl, rfl, rfl, by decide +kernel, rfl, by decide +kernel, by decide +kernel⟩
theorem sc_TicketWork_go_to : FnScope ["self", "desk"] ["self", "desk"] (defScope s_TicketWork_go_to) := ⟨rfl, rfl, rfl, by decide +kernel, rfl, by decide +kernel, by decide +kernel⟩
theorem sc_TicketWork_holds : FnScope ["self", "test"] ["self", "test"] (defScope s_TicketWork_holds) := ⟨rfl, rfl, rfl, by decide +kernel, rfl, by decide +kernel, by decide +kernel⟩
theorem sc_TicketWork_told : FnScope ["self"] ["self"] (defScope s_TicketWork_told) := ⟨rfl, rfl, rfl, by decide +kernel, rfl, by decide +kernel, by decide +kernel⟩
theorem sc_TicketWork_turn_to : FnScope ["self", "status"] ["self", "status"] (defScope s_TicketWork_turn_to) := ⟨rfl, rfl, rfl, by decide +kernel, rfl, by decide +kernel, by decide +kernel⟩
theorem sc__law_draw : FnScope ["well", "many", "step", "mixed", "found"] ["well", "many"] (defScope s__law_draw) := ⟨rfl, rfl, rfl, by decide +kernel, rfl, by decide +kernel, by decide +kernel⟩
theorem sc__law_well : FnScope ["script", "k", "cell"] ["script", "k"] (defScope s__law_well) := ⟨rfl, rfl, rfl, by decide +kernel, rfl, by decide +kernel, by decide +kernel⟩
theorem sc_is_action : FnScope ["desks", "thing", "known"] ["desks", "thing"] (defScope s_is_action) := ⟨rfl, rfl, rfl, by decide +kernel, rfl, by decide +kernel, by decide +kernel⟩
theorem sc_is_name : FnScope ["thing", "sign"] ["thing"] (defScope s_is_name) := ⟨rfl, rfl, rfl, by decide +kernel, rfl, by decide +kernel, by decide +kernel⟩
theorem sc_is_whole : FnScope ["thing"] ["thing"] (defScope s_is_whole) := ⟨rfl, rfl, rfl, by decide +kernel, rfl, by decide +kernel, by decide +kernel⟩
theorem sc_Desk___contains__ : FnScope ["self", "person"] ["self", "person"] (defScope s_Desk___contains__) := ⟨rfl, rfl, rfl, by decide +kernel, rfl, by decide +kernel, by decide +kernel⟩
theorem sc_Desk_at : FnScope ["self", "name", "person", "ticket"] ["self", "name"] (defScope s_Desk_at) := ⟨rfl, rfl, rfl, by decide +kernel, rfl, by decide +kernel, by decide +kernel⟩
theorem sc_Desk_change : FnScope ["self", "book"] ["self", "book"] (defScope s_Desk_change) := ⟨rfl, rfl, rfl, by decide +kernel, rfl, by decide +kernel, by decide +kernel⟩
theorem sc_Desk_ticket : FnScope ["self", "person"] ["self", "person"] (defScope s_Desk_ticket) := ⟨rfl, rfl, rfl, by decide +kernel, rfl, by decide +kernel, by decide +kernel⟩
theorem sc_TicketWork_carry_out : FnScope ["self", "action"] ["self", "action"] (defScope s_TicketWork_carry_out) := ⟨rfl, rfl, rfl, by decide +kernel, rfl, by decide +kernel, by decide +kernel⟩
theorem sc_TicketWork_start : FnScope ["self", "deed", "is_new"] ["self", "deed", "is_new"] (defScope s_TicketWork_start) := ⟨rfl, rfl, rfl, by decide +kernel, rfl, by decide +kernel, by decide +kernel⟩
theorem sc__law_pick : FnScope ["well", "row"] ["well", "row"] (defScope s__law_pick) := ⟨rfl, rfl, rfl, by decide +kernel, rfl, by decide +kernel, by decide +kernel⟩
theorem sc__law_undone : FnScope ["house", "found", "e", "told"] ["house"] (defScope s__law_undone) := ⟨rfl, rfl, rfl, by decide +kernel, rfl, by decide +kernel, by decide +kernel⟩
theorem sc_are_desks : FnScope ["thing", "desk"] ["thing"] (defScope s_are_desks) := ⟨rfl, rfl, rfl, by decide +kernel, rfl, by decide +kernel, by decide +kernel⟩
theorem sc_is_deed : FnScope ["desks", "thing"] ["desks", "thing"] (defScope s_is_deed) := ⟨rfl, rfl, rfl, by decide +kernel, rfl, by decide +kernel, by decide +kernel⟩
theorem sc_is_test : FnScope ["desks", "thing", "known"] ["desks", "thing"] (defScope s_is_test) := ⟨rfl, rfl, rfl, by decide +kernel, rfl, by decide +kernel, by decide +kernel⟩
theorem sc_report_of : FnScope ["work"] ["work"] (defScope s_report_of) := ⟨rfl, rfl, rfl, by decide +kernel, rfl, by decide +kernel, by decide +kernel⟩
theorem sc_TicketWork_handle : FnScope ["self", "event", "index", "rule", "action", "test"] ["self", "event"] (defScope s_TicketWork_handle) := ⟨rfl, rfl, rfl, by decide +kernel, rfl, by decide +kernel, by decide +kernel⟩
theorem sc__law_action : FnScope ["well", "desks", "way"] ["well", "desks"] (defScope s__law_action) := ⟨rfl, rfl, rfl, by decide +kernel, rfl, by decide +kernel, by decide +kernel⟩
theorem sc__law_deed : FnScope ["well", "desks", "way"] ["well", "desks"] (defScope s__law_deed) := ⟨rfl, rfl, rfl, by decide +kernel, rfl, by decide +kernel, by decide +kernel⟩
theorem sc__law_names : FnScope ["well", "many", "names", "turn", "letters", "words", "way", "name", "old", "spot", "k"] ["well", "many"] (defScope s__law_names) := ⟨rfl, rfl, rfl, by decide +kernel, rfl, by decide +kernel, by decide +kernel⟩
theorem sc__law_stand : FnScope ["house", "desks", "names", "found", "name", "place"] ["house", "desks", "names"] (defScope s__law_stand) := ⟨rfl, rfl, rfl, by decide +kernel, rfl, by decide +kernel, by decide +kernel⟩
theorem sc__law_test : FnScope ["well", "desks", "way", "wanted"] ["well", "desks"] (defScope s__law_test) := ⟨rfl, rfl, rfl, by decide +kernel, rfl, by decide +kernel, by decide +kernel⟩
theorem sc_is_rule : FnScope ["desks", "thing", "event", "tests", "actions", "action", "test"] ["desks", "thing"] (defScope s_is_rule) := ⟨rfl, rfl, rfl, by decide +kernel, rfl, by decide +kernel, by decide +kernel⟩
theorem sc_Book___init__ : FnScope ["self", "desks", "rules", "index", "rule"] ["self", "desks", "rules"] (defScope s_Book___init__) := ⟨rfl, rfl, rfl, by decide +kernel, rfl, by decide +kernel, by decide +kernel⟩
theorem sc_TicketWork_handle_all : FnScope ["self", "handled", "event"] ["self"] (defScope s_TicketWork_handle_all) := ⟨rfl, rfl, rfl, by decide +kernel, rfl, by decide +kernel, by decide +kernel⟩
theorem sc__law_next : FnScope ["well", "plans", "desks", "names", "calls", "way", "name", "act", "call"] ["well", "plans", "desks", "names", "calls"] (defScope s__law_next) := ⟨rfl, rfl, rfl, by decide +kernel, rfl, by decide +kernel, by decide +kernel⟩
theorem sc__law_rules : FnScope ["well", "desks", "most", "found", "turn", "event", "many", "tests", "k"] ["well", "desks", "most"] (defScope s__law_rules) := ⟨rfl, rfl, rfl, by decide +kernel, rfl, by decide +kernel, by decide +kernel⟩
theorem sc_TicketWork___init__ : FnScope ["self", "book", "before", "deed"] ["self", "book", "before", "deed"] (defScope s_TicketWork___init__) := ⟨rfl, rfl, rfl, by decide +kernel, rfl, by decide +kernel, by decide +kernel⟩
theorem sc_Desk_work_at : FnScope ["self", "person", "deed", "work"] ["self", "person", "deed"] (defScope s_Desk_work_at) := ⟨rfl, rfl, rfl, by decide +kernel, rfl, by decide +kernel, by decide +kernel⟩
theorem sc_Desk_day : FnScope ["self", "people", "person"] ["self"] (defScope s_Desk_day) := ⟨rfl, rfl, rfl, by decide +kernel, rfl, by decide +kernel, by decide +kernel⟩
theorem sc_Desk_do : FnScope ["self", "person", "deed"] ["self", "person", "deed"] (defScope s_Desk_do) := ⟨rfl, rfl, rfl, by decide +kernel, rfl, by decide +kernel, by decide +kernel⟩
theorem sc__law_made : FnScope ["house", "call"] ["house", "call"] (defScope s__law_made) := ⟨rfl, rfl, rfl, by decide +kernel, rfl, by decide +kernel, by decide +kernel⟩
theorem sc__law_same : FnScope ["found", "due", "is_kind", "k"] ["found", "due"] (defScope s__law_same) := ⟨rfl, rfl, rfl, by decide +kernel, rfl, by decide +kernel, by decide +kernel⟩
theorem sc__law_all_back : FnScope ["house", "plans", "desks", "names", "calls", "k", "fresh"] ["house", "plans", "desks", "names", "calls"] (defScope s__law_all_back) := ⟨rfl, rfl, rfl, by decide +kernel, rfl, by decide +kernel, by decide +kernel⟩
theorem sc__law_as_new : FnScope ["house", "plans", "desks", "names", "calls", "other", "call"] ["house", "plans", "desks", "names", "calls"] (defScope s__law_as_new) := ⟨rfl, rfl, rfl, by decide +kernel, rfl, by decide +kernel, by decide +kernel⟩
theorem sc_law : FnScope ["script", "well", "plans", "wells", "spring", "desks", "calls", "house", "names", "k", "call"] ["script"] (defScope s_law) := ⟨rfl, rfl, rfl, by decide +kernel, rfl, by decide +kernel, by decide +kernel⟩
structure Fx (K : PySem.W.Frag) (mg : Str → Option Value) : Prop where
  c_book : Cls K (ca K .book)
  c_desk : Cls K (ca K .desk)
  c_work : Cls K (ca K .work)
  n_desk_names : NoAttr K (ca K .book) "desk_names"
  n_rule_row : NoAttr K (ca K .book) "rule_row"
  n_earlier : NoAttr K (ca K .desk) "earlier"
  n_rulebook : NoAttr K (ca K .desk) "rulebook"
  n_tickets : NoAttr K (ca K .desk) "tickets"
  n_total : NoAttr K (ca K .desk) "total"
  n_acted : NoAttr K (ca K .work) "acted"
  n_is_answered : NoAttr K (ca K .work) "is_answered"
  n_is_endless : NoAttr K (ca K .work) "is_endless"
  n_is_marked : NoAttr K (ca K .work) "is_marked"
  n_is_shut : NoAttr K (ca K .work) "is_shut"
  n_phase : NoAttr K (ca K .work) "phase"
  n_place : NoAttr K (ca K .work) "place"
  n_plan : NoAttr K (ca K .work) "plan"
  n_row : NoAttr K (ca K .work) "row"
  n_sent : NoAttr K (ca K .work) "sent"
  n_sent_again : NoAttr K (ca K .work) "sent_again"
  n_waited : NoAttr K (ca K .work) "waited"
  p_book : PropOf K (ca K .desk) "book" (He.ma K (ca K .desk) "book") (gA K "Desk" "book" 0)
  p_replies : PropOf K (ca K .desk) "replies" (He.ma K (ca K .desk) "replies") (gA K "Desk" "replies" 0)
  h_Book_desks : Meth K (ca K .book) "desks" (He.ma K (ca K .book) "desks")
  h_Book_rules : Meth K (ca K .book) "rules" (He.ma K (ca K .book) "rules")
  h_Desk___contains__ : Meth K (ca K .desk) "__contains__" (He.ma K (ca K .desk) "__contains__")
  h_Desk___len__ : Meth K (ca K .desk) "__len__" (He.ma K (ca K .desk) "__len__")
  h_Desk_at : Meth K (ca K .desk) "at" (He.ma K (ca K .desk) "at")
  h_Desk_change : Meth K (ca K .desk) "change" (He.ma K (ca K .desk) "change")
  h_Desk_day : Meth K (ca K .desk) "day" (He.ma K (ca K .desk) "day")
  h_Desk_do : Meth K (ca K .desk) "do" (He.ma K (ca K .desk) "do")
  h_Desk_people : Meth K (ca K .desk) "people" (He.ma K (ca K .desk) "people")
  h_Desk_remember : Meth K (ca K .desk) "remember" (He.ma K (ca K .desk) "remember")
  h_Desk_ticket : Meth K (ca K .desk) "ticket" (He.ma K (ca K .desk) "ticket")
  h_Desk_undo : Meth K (ca K .desk) "undo" (He.ma K (ca K .desk) "undo")
  h_Desk_work_at : Meth K (ca K .desk) "work_at" (He.ma K (ca K .desk) "work_at")
  h_TicketWork_carry_out : Meth K (ca K .work) "carry_out" (He.ma K (ca K .work) "carry_out")
  h_TicketWork_go_to : Meth K (ca K .work) "go_to" (He.ma K (ca K .work) "go_to")
  h_TicketWork_handle : Meth K (ca K .work) "handle" (He.ma K (ca K .work) "handle")
  h_TicketWork_handle_all : Meth K (ca K .work) "handle_all" (He.ma K (ca K .work) "handle_all")
  h_TicketWork_holds : Meth K (ca K .work) "holds" (He.ma K (ca K .work) "holds")
  h_TicketWork_start : Meth K (ca K .work) "start" (He.ma K (ca K .work) "start")
  h_TicketWork_told : Meth K (ca K .work) "told" (He.ma K (ca K .work) "told")
  h_TicketWork_turn_to : Meth K (ca K .work) "turn_to" (He.ma K (ca K .work) "turn_to")
  g_Book : mg "Book" = some (.ref (He.ga K "Book"))
  g_Desk : mg "Desk" = some (.ref (He.ga K "Desk"))
  g_DeskError : mg "DeskError" = some (.ref (He.ga K "DeskError"))
  g_NothingToUndo : mg "NothingToUndo" = some (.ref (He.ga K "NothingToUndo"))
  g_TicketWork : mg "TicketWork" = some (.ref (He.ga K "TicketWork"))
  g__law_action : mg "_law_action" = some (.ref (He.ga K "_law_action"))
  g__law_all_back : mg "_law_all_back" = some (.ref (He.ga K "_law_all_back"))
  g__law_as_new : mg "_law_as_new" = some (.ref (He.ga K "_law_as_new"))
  g__law_deed : mg "_law_deed" = some (.ref (He.ga K "_law_deed"))
  g__law_draw : mg "_law_draw" = some (.ref (He.ga K "_law_draw"))
  g__law_made : mg "_law_made" = some (.ref (He.ga K "_law_made"))
  g__law_names : mg "_law_names" = some (.ref (He.ga K "_law_names"))
  g__law_next : mg "_law_next" = some (.ref (He.ga K "_law_next"))
  g__law_pick : mg "_law_pick" = some (.ref (He.ga K "_law_pick"))
  g__law_rules : mg "_law_rules" = some (.ref (He.ga K "_law_rules"))
  g__law_same : mg "_law_same" = some (.ref (He.ga K "_law_same"))
  g__law_stand : mg "_law_stand" = some (.ref (He.ga K "_law_stand"))
  g__law_test : mg "_law_test" = some (.ref (He.ga K "_law_test"))
  g__law_undone : mg "_law_undone" = some (.ref (He.ga K "_law_undone"))
  g__law_well : mg "_law_well" = some (.ref (He.ga K "_law_well"))
  g_are_desks : mg "are_desks" = some (.ref (He.ga K "are_desks"))
  g_is_action : mg "is_action" = some (.ref (He.ga K "is_action"))
  g_is_deed : mg "is_deed" = some (.ref (He.ga K "is_deed"))
  g_is_name : mg "is_name" = some (.ref (He.ga K "is_name"))
  g_is_rule : mg "is_rule" = some (.ref (He.ga K "is_rule"))
  g_is_test : mg "is_test" = some (.ref (He.ga K "is_test"))
  g_is_whole : mg "is_whole" = some (.ref (He.ga K "is_whole"))
  g_report_of : mg "report_of" = some (.ref (He.ga K "report_of"))
  m_Book : Mk K (ca K .book) (He.ma K (ca K .book) "__init__")
  m_Desk : Mk K (ca K .desk) (He.ma K (ca K .desk) "__init__")
  m_TicketWork : Mk K (ca K .work) (He.ma K (ca K .work) "__init__")
  f_abs : mg "abs" = none
  f_all : mg "all" = none
  f_bool : mg "bool" = none
  f_dict : mg "dict" = none
  f_enumerate : mg "enumerate" = none
  f_int : mg "int" = none
  f_isinstance : mg "isinstance" = none
  f_len : mg "len" = none
  f_list : mg "list" = none
  f_max : mg "max" = none
  f_min : mg "min" = none
  f_range : mg "range" = none
  f_set : mg "set" = none
  f_str : mg "str" = none
  f_tuple : mg "tuple" = none
  e_NothingToUndo : ExC K mg "NothingToUndo"
  xm_NothingToUndo : PySem.W.exmOne K (.ref (He.ga K "NothingToUndo")) (.ref (He.ga K "NothingToUndo")) = some true
  x_NothingToUndo : ExcC K (He.ga K "NothingToUndo")
  kt_NothingToUndo_DeskError : PySem.W.kitOne K (.ref (He.ga K "NothingToUndo")) (.ref (He.ga K "DeskError")) = some true
  k_EVENTS : KG K mg "EVENTS" (.tup [(.str "letter"), (.str "answer"), (.str "day"), (.str "moved"), (.str "status"), (.str "replied")])
  k_LETTERS : KG K mg "LETTERS" (.str "abcdefghijklmnopqrstuvwxyz")
  k_MOST_ACTIONS : KG K mg "MOST_ACTIONS" (.int 4)
  k_MOST_DAYS : KG K mg "MOST_DAYS" (.int 30)
  k_MOST_EVENTS : KG K mg "MOST_EVENTS" (.int 50)
  k_MOST_RULES : KG K mg "MOST_RULES" (.int 8)
  k_MOST_TESTS : KG K mg "MOST_TESTS" (.int 4)
  k_PLAIN_DEEDS : KG K mg "PLAIN_DEEDS" (.tup [(.str "letter"), (.str "answer"), (.str "day")])
  k_STATUSES : KG K mg "STATUSES" (.tup [(.str "new"), (.str "open"), (.str "waiting"), (.str "closed")])
  F_Book_desks : ∃ fd, FunD K "desks" "Book.desks" (defArgs s_Book_desks) (defBody s_Book_desks) (defScope s_Book_desks) [] [] (He.fAd K ("Book", some "desks")) fd
  F_Book_rules : ∃ fd, FunD K "rules" "Book.rules" (defArgs s_Book_rules) (defBody s_Book_rules) (defScope s_Book_rules) [] [] (He.fAd K ("Book", some "rules")) fd
  F_Desk___init__ : ∃ fd, FunD K "__init__" "Desk.__init__" (defArgs s_Desk___init__) (defBody s_Desk___init__) (defScope s_Desk___init__) [] [] (He.fAd K ("Desk", some "__init__")) fd
  F_Desk___len__ : ∃ fd, FunD K "__len__" "Desk.__len__" (defArgs s_Desk___len__) (defBody s_Desk___len__) (defScope s_Desk___len__) [] [] (He.fAd K ("Desk", some "__len__")) fd
  F_Desk_book : ∃ fd, FunD K "book" "Desk.book" (defArgs s_Desk_book) (defBody s_Desk_book) (defScope s_Desk_book) [] [] (gA K "Desk" "book" 0) fd
  F_Desk_people : ∃ fd, FunD K "people" "Desk.people" (defArgs s_Desk_people) (defBody s_Desk_people) (defScope s_Desk_people) [] [] (He.fAd K ("Desk", some "people")) fd
  F_Desk_remember : ∃ fd, FunD K "remember" "Desk.remember" (defArgs s_Desk_remember) (defBody s_Desk_remember) (defScope s_Desk_remember) [] [] (He.fAd K ("Desk", some "remember")) fd
  F_Desk_replies : ∃ fd, FunD K "replies" "Desk.replies" (defArgs s_Desk_replies) (defBody s_Desk_replies) (defScope s_Desk_replies) [] [] (gA K "Desk" "replies" 0) fd
  F_Desk_undo : ∃ fd, FunD K "undo" "Desk.undo" (defArgs s_Desk_undo) (defBody s_Desk_undo) (defScope s_Desk_undo) [] [] (He.fAd K ("Desk", some "undo")) fd
  F_TicketWork_go_to : ∃ fd, FunD K "go_to" "TicketWork.go_to" (defArgs s_TicketWork_go_to) (defBody s_TicketWork_go_to) (defScope s_TicketWork_go_to) [] [] (He.fAd K ("TicketWork", some "go_to")) fd
  F_TicketWork_holds : ∃ fd, FunD K "holds" "TicketWork.holds" (defArgs s_TicketWork_holds) (defBody s_TicketWork_holds) (defScope s_TicketWork_holds) [] [] (He.fAd K ("TicketWork", some "holds")) fd
  F_TicketWork_told : ∃ fd, FunD K "told" "TicketWork.told" (defArgs s_TicketWork_told) (defBody s_TicketWork_told) (defScope s_TicketWork_told) [] [] (He.fAd K ("TicketWork", some "told")) fd
  F_TicketWork_turn_to : ∃ fd, FunD K "turn_to" "TicketWork.turn_to" (defArgs s_TicketWork_turn_to) (defBody s_TicketWork_turn_to) (defScope s_TicketWork_turn_to) [] [] (He.fAd K ("TicketWork", some "turn_to")) fd
  F__law_draw : ∃ fd, FunD K "_law_draw" "_law_draw" (defArgs s__law_draw) (defBody s__law_draw) (defScope s__law_draw) [] [] (He.fAd K ("_law_draw", none)) fd
  F__law_well : ∃ fd, FunD K "_law_well" "_law_well" (defArgs s__law_well) (defBody s__law_well) (defScope s__law_well) [] [] (He.fAd K ("_law_well", none)) fd
  F_is_action : ∃ fd, FunD K "is_action" "is_action" (defArgs s_is_action) (defBody s_is_action) (defScope s_is_action) [] [] (He.fAd K ("is_action", none)) fd
  F_is_name : ∃ fd, FunD K "is_name" "is_name" (defArgs s_is_name) (defBody s_is_name) (defScope s_is_name) [] [] (He.fAd K ("is_name", none)) fd
  F_is_whole : ∃ fd, FunD K "is_whole" "is_whole" (defArgs s_is_whole) (defBody s_is_whole) (defScope s_is_whole) [] [] (He.fAd K ("is_whole", none)) fd
  F_Desk___contains__ : ∃ fd, FunD K "__contains__" "Desk.__contains__" (defArgs s_Desk___contains__) (defBody s_Desk___contains__) (defScope s_Desk___contains__) [] [] (He.fAd K ("Desk", some "__contains__")) fd
  F_Desk_at : ∃ fd, FunD K "at" "Desk.at" (defArgs s_Desk_at) (defBody s_Desk_at) (defScope s_Desk_at) [] [] (He.fAd K ("Desk", some "at")) fd
  F_Desk_change : ∃ fd, FunD K "change" "Desk.change" (defArgs s_Desk_change) (defBody s_Desk_change) (defScope s_Desk_change) [] [] (He.fAd K ("Desk", some "change")) fd
  F_Desk_ticket : ∃ fd, FunD K "ticket" "Desk.ticket" (defArgs s_Desk_ticket) (defBody s_Desk_ticket) (defScope s_Desk_ticket) [] [] (He.fAd K ("Desk", some "ticket")) fd
  F_TicketWork_carry_out : ∃ fd, FunD K "carry_out" "TicketWork.carry_out" (defArgs s_TicketWork_carry_out) (defBody s_TicketWork_carry_out) (defScope s_TicketWork_carry_out) [] [] (He.fAd K ("TicketWork", some "carry_out")) fd
  F_TicketWork_start : ∃ fd, FunD K "start" "TicketWork.start" (defArgs s_TicketWork_start) (defBody s_TicketWork_start) (defScope s_TicketWork_start) [] [] (He.fAd K ("TicketWork", some "start")) fd
  F__law_pick : ∃ fd, FunD K "_law_pick" "_law_pick" (defArgs s__law_pick) (defBody s__law_pick) (defScope s__law_pick) [] [] (He.fAd K ("_law_pick", none)) fd
  F__law_undone : ∃ fd, FunD K "_law_undone" "_law_undone" (defArgs s__law_undone) (defBody s__law_undone) (defScope s__law_undone) [] [] (He.fAd K ("_law_undone", none)) fd
  F_are_desks : ∃ fd, FunD K "are_desks" "are_desks" (defArgs s_are_desks) (defBody s_are_desks) (defScope s_are_desks) [] [] (He.fAd K ("are_desks", none)) fd
  F_is_deed : ∃ fd, FunD K "is_deed" "is_deed" (defArgs s_is_deed) (defBody s_is_deed) (defScope s_is_deed) [] [] (He.fAd K ("is_deed", none)) fd
  F_is_test : ∃ fd, FunD K "is_test" "is_test" (defArgs s_is_test) (defBody s_is_test) (defScope s_is_test) [] [] (He.fAd K ("is_test", none)) fd
  F_report_of : ∃ fd, FunD K "report_of" "report_of" (defArgs s_report_of) (defBody s_report_of) (defScope s_report_of) [] [] (He.fAd K ("report_of", none)) fd
  F_TicketWork_handle : ∃ fd, FunD K "handle" "TicketWork.handle" (defArgs s_TicketWork_handle) (defBody s_TicketWork_handle) (defScope s_TicketWork_handle) [] [] (He.fAd K ("TicketWork", some "handle")) fd
  F__law_action : ∃ fd, FunD K "_law_action" "_law_action" (defArgs s__law_action) (defBody s__law_action) (defScope s__law_action) [] [] (He.fAd K ("_law_action", none)) fd
  F__law_deed : ∃ fd, FunD K "_law_deed" "_law_deed" (defArgs s__law_deed) (defBody s__law_deed) (defScope s__law_deed) [] [] (He.fAd K ("_law_deed", none)) fd
  F__law_names : ∃ fd, FunD K "_law_names" "_law_names" (defArgs s__law_names) (defBody s__law_names) (defScope s__law_names) [] [] (He.fAd K ("_law_names", none)) fd
  F__law_stand : ∃ fd, FunD K "_law_stand" "_law_stand" (defArgs s__law_stand) (defBody s__law_stand) (defScope s__law_stand) [] [] (He.fAd K ("_law_stand", none)) fd
  F__law_test : ∃ fd, FunD K "_law_test" "_law_test" (defArgs s__law_test) (defBody s__law_test) (defScope s__law_test) [] [] (He.fAd K ("_law_test", none)) fd
  F_is_rule : ∃ fd, FunD K "is_rule" "is_rule" (defArgs s_is_rule) (defBody s_is_rule) (defScope s_is_rule) [] [] (He.fAd K ("is_rule", none)) fd
  F_Book___init__ : ∃ fd, FunD K "__init__" "Book.__init__" (defArgs s_Book___init__) (defBody s_Book___init__) (defScope s_Book___init__) [] [] (He.fAd K ("Book", some "__init__")) fd
  F_TicketWork_handle_all : ∃ fd, FunD K "handle_all" "TicketWork.handle_all" (defArgs s_TicketWork_handle_all) (defBody s_TicketWork_handle_all) (defScope s_TicketWork_handle_all) [] [] (He.fAd K ("TicketWork", some "handle_all")) fd
  F__law_next : ∃ fd, FunD K "_law_next" "_law_next" (defArgs s__law_next) (defBody s__law_next) (defScope s__law_next) [] [] (He.fAd K ("_law_next", none)) fd
  F__law_rules : ∃ fd, FunD K "_law_rules" "_law_rules" (defArgs s__law_rules) (defBody s__law_rules) (defScope s__law_rules) [] [] (He.fAd K ("_law_rules", none)) fd
  F_TicketWork___init__ : ∃ fd, FunD K "__init__" "TicketWork.__init__" (defArgs s_TicketWork___init__) (defBody s_TicketWork___init__) (defScope s_TicketWork___init__) [] [] (He.fAd K ("TicketWork", some "__init__")) fd
  F_Desk_work_at : ∃ fd, FunD K "work_at" "Desk.work_at" (defArgs s_Desk_work_at) (defBody s_Desk_work_at) (defScope s_Desk_work_at) [] [] (He.fAd K ("Desk", some "work_at")) fd
  F_Desk_day : ∃ fd, FunD K "day" "Desk.day" (defArgs s_Desk_day) (defBody s_Desk_day) (defScope s_Desk_day) [] [] (He.fAd K ("Desk", some "day")) fd
  F_Desk_do : ∃ fd, FunD K "do" "Desk.do" (defArgs s_Desk_do) (defBody s_Desk_do) (defScope s_Desk_do) [] [] (He.fAd K ("Desk", some "do")) fd
  F__law_made : ∃ fd, FunD K "_law_made" "_law_made" (defArgs s__law_made) (defBody s__law_made) (defScope s__law_made) [] [] (He.fAd K ("_law_made", none)) fd
  F__law_same : ∃ fd, FunD K "_law_same" "_law_same" (defArgs s__law_same) (defBody s__law_same) (defScope s__law_same) [] [] (He.fAd K ("_law_same", none)) fd
  F__law_all_back : ∃ fd, FunD K "_law_all_back" "_law_all_back" (defArgs s__law_all_back) (defBody s__law_all_back) (defScope s__law_all_back) [] [] (He.fAd K ("_law_all_back", none)) fd
  F__law_as_new : ∃ fd, FunD K "_law_as_new" "_law_as_new" (defArgs s__law_as_new) (defBody s__law_as_new) (defScope s__law_as_new) [] [] (He.fAd K ("_law_as_new", none)) fd
  F_law : ∃ fd, FunD K "law" "law" (defArgs s_law) (defBody s_law) (defScope s_law) [] [] (He.fAd K ("law", none)) fd
section
variable {P : Program} {w : World} {K : PySem.W.Frag} {mg : Str → Option Value} {base : Heap}
theorem ok_Book_desks (x : Fx K mg) : Ok P w K mg base 1 ("Book", some "desks") ["self"] sp_Book_desks := by
  have sc := sc_Book_desks
  exact ok_def x.F_Book_desks sc (fun _ _ _ _ _ _ us hl => match us, hl with | [_], _ => rfl) len_Book_desks (fun cdv A outer s H E hr =>
    show BSs _ _ _ t_Book_desks from bss_one (bs_ret (be_fld x.c_book x.n_desk_names rfl (be_var (pv 0)) rfl))) pure_Book_desks
theorem ok_Book_rules (x : Fx K mg) : Ok P w K mg base 1 ("Book", some "rules") ["self"] sp_Book_rules := by
  have sc := sc_Book_rules
  exact ok_def x.F_Book_rules sc (fun _ _ _ _ _ _ us hl => match us, hl with | [_], _ => rfl) len_Book_rules (fun cdv A outer s H E hr =>
    show BSs _ _ _ t_Book_rules from bss_one (bs_ret (be_fld x.c_book x.n_rule_row rfl (be_var (pv 0)) rfl))) pure_Book_rules
theorem ok_Desk___init__ (x : Fx K mg) : Ok P w K mg base 1 ("Desk", some "__init__") ["self", "book"] sp_Desk___init__ := by
  have sc := sc_Desk___init__
  exact ok_def x.F_Desk___init__ sc (fun _ _ _ _ _ _ us hl => match us, hl with | [_, _], _ => rfl) len_Desk___init__ (fun cdv A outer s H E hr =>
    show BSs _ _ _ t_Desk___init__ from bss_cons (bs_asg (be_var (pv 1)) (bg_fld x.c_desk x.n_rulebook rfl (be_var (pv 0)))) (bss_cons (bs_asg (be_dict0) (bg_fld x.c_desk x.n_tickets rfl (be_var (pv 0)))) (bss_cons (bs_asg (be_int) (bg_fld x.c_desk x.n_total rfl (be_var (pv 0)))) (bss_one (bs_asg (be_lstO ba_nil) (bg_fld x.c_desk x.n_earlier rfl (be_var (pv 0)))))))) pure_Desk___init__
theorem ok_Desk___len__ (x : Fx K mg) : Ok P w K mg base 1 ("Desk", some "__len__") ["self"] sp_Desk___len__ := by
  have sc := sc_Desk___len__
  exact ok_def x.F_Desk___len__ sc (fun _ _ _ _ _ _ us hl => match us, hl with | [_], _ => rfl) len_Desk___len__ (fun cdv A outer s H E hr =>
    show BSs _ _ _ t_Desk___len__ from bss_one (bs_ret (be_cbOf (pe_callB bc_lenX rfl x.f_len (by decide +kernel) (ba_cons (be_fld x.c_desk x.n_earlier rfl (be_var (pv 0)) rfl) ba_nil))))) pure_Desk___len__
theorem ok_Desk_book (x : Fx K mg) : OkA P w K mg base 1 (gA K "Desk" "book" 0) ["self"] sp_Desk_book := by
  have sc := sc_Desk_book
  exact ok_def x.F_Desk_book sc (fun _ _ _ _ _ _ us hl => match us, hl with | [_], _ => rfl) len_Desk_book (fun cdv A outer s H E hr =>
    show BSs _ _ _ t_Desk_book from bss_one (bs_ret (be_fld x.c_desk x.n_rulebook rfl (be_var (pv 0)) rfl))) pure_Desk_book
theorem ok_Desk_people (x : Fx K mg) : Ok P w K mg base 1 ("Desk", some "people") ["self"] sp_Desk_people := by
  have sc := sc_Desk_people
  exact ok_def x.F_Desk_people sc (fun _ _ _ _ _ _ us hl => match us, hl with | [_], _ => rfl) len_Desk_people (fun cdv A outer s H E hr =>
    show BSs _ _ _ t_Desk_people from bss_one (bs_ret (be_cbOf (pe_callTy (bc_listX rfl) rfl x.f_list (by decide +kernel) (ba_cons (be_fld x.c_desk x.n_tickets rfl (be_var (pv 0)) rfl) ba_nil))))) pure_Desk_people
theorem ok_Desk_remember (x : Fx K mg) : Ok P w K mg base 1 ("Desk", some "remember") ["self"] sp_Desk_remember := by
  have sc := sc_Desk_remember
  exact ok_def x.F_Desk_remember sc (fun _ _ _ _ _ _ us hl => match us, hl with | [_], _ => rfl) len_Desk_remember (fun cdv A outer s H E hr =>
    show BSs _ _ _ t_Desk_remember from bss_one (bs_expr (be_bmOf (pe_bm PySem.F.plainAttrs_list PySem.F.slot_list_append PySem.F.type_list_append bm_append (be_fld x.c_desk x.n_earlier rfl (be_var (pv 0)) rfl) (ba_cons (be_tup (ba_cons (be_fld x.c_desk x.n_rulebook rfl (be_var (pv 0)) rfl) (ba_cons (be_cbOf (pe_callTy bc_dictO rfl x.f_dict (by decide +kernel) (ba_cons (be_fld x.c_desk x.n_tickets rfl (be_var (pv 0)) rfl) ba_nil))) (ba_cons (be_fld x.c_desk x.n_total rfl (be_var (pv 0)) rfl) ba_nil)))) ba_nil))))) pure_Desk_remember
theorem ok_Desk_replies (x : Fx K mg) : OkA P w K mg base 1 (gA K "Desk" "replies" 0) ["self"] sp_Desk_replies := by
  have sc := sc_Desk_replies
  exact ok_def x.F_Desk_replies sc (fun _ _ _ _ _ _ us hl => match us, hl with | [_], _ => rfl) len_Desk_replies (fun cdv A outer s H E hr =>
    show BSs _ _ _ t_Desk_replies from bss_one (bs_ret (be_fld x.c_desk x.n_total rfl (be_var (pv 0)) rfl))) pure_Desk_replies
theorem ok_Desk_undoX (x : Fx K mg) : OkX P w K mg base 1 ("Desk", some "undo") ["self"] sp_Desk_undoX := by
  have sc := sc_Desk_undo
  exact ok_defX x.F_Desk_undo sc (fun _ _ _ _ _ _ us hl => match us, hl with | [_], _ => rfl) len_Desk_undoX (fun cdv A outer s H E hr tk =>
    show BSs _ _ _ t_Desk_undoX from bss_cons (bs_if (bt_cmp (bo_eqE (hu0 hr)) (nomark _) (be_fld x.c_desk x.n_earlier rfl (be_var (pv 0)) rfl) (be_lstV ba_nil)) (bss_one (bs_raise0 x.e_NothingToUndo tk rfl rfl)) (bss_nil)) (bss_one (bs_asg (be_bm0Of (pe_bm0 PySem.F.plainAttrs_list PySem.F.slot_list_pop PySem.F.type_list_pop bm_pop (be_fld x.c_desk x.n_earlier rfl (be_var (pv 0)) rfl))) (bg_tup rfl (bgs_cons (bg_fld x.c_desk x.n_rulebook rfl (be_var (pv 0))) (bgs_cons (bg_fld x.c_desk x.n_tickets rfl (be_var (pv 0))) (bgs_cons (bg_fld x.c_desk x.n_total rfl (be_var (pv 0))) bgs_nil))))))) pure_Desk_undoX
theorem ok_TicketWork_go_to (x : Fx K mg) : Ok P w K mg base 1 ("TicketWork", some "go_to") ["self", "desk"] sp_TicketWork_go_to := by
  have sc := sc_TicketWork_go_to
  exact ok_def x.F_TicketWork_go_to sc (fun _ _ _ _ _ _ us hl => match us, hl with | [_, _], _ => rfl) len_TicketWork_go_to (fun cdv A outer s H E hr =>
    show BSs _ _ _ t_TicketWork_go_to from bss_one (bs_if (bt_cmp (bo_ne hr.units) (nomark _) (be_var (pv 1)) (be_fld x.c_work x.n_place rfl (be_var (pv 0)) rfl)) (bss_cons (bs_asg (be_var (pv 1)) (bg_fld x.c_work x.n_place rfl (be_var (pv 0)))) (bss_one (bs_expr (be_bmOf (pe_bm PySem.F.plainAttrs_list PySem.F.slot_list_append PySem.F.type_list_append bm_append (be_fld x.c_work x.n_row rfl (be_var (pv 0)) rfl) (ba_cons (be_str) ba_nil)))))) (bss_nil))) pure_TicketWork_go_to
theorem ok_TicketWork_holds (x : Fx K mg) : Ok P w K mg base 1 ("TicketWork", some "holds") ["self", "test"] sp_TicketWork_holds := by
  have sc := sc_TicketWork_holds
  exact ok_def x.F_TicketWork_holds sc (fun _ _ _ _ _ _ us hl => match us, hl with | [_, _], _ => rfl) len_TicketWork_holds (fun cdv A outer s H E hr =>
    show BSs _ _ _ t_TicketWork_holds from bss_cons (bs_if (bt_cmp (bo_eq hr.units) (nomark _) (be_ix bix (be_var (pv 1)) (be_int)) (be_str)) (bss_one (bs_ret (be_cmp (bo_eq hr.units) (nomark _) (be_cmp (bo_eq hr.units) (nomark _) (be_fld x.c_work x.n_phase rfl (be_var (pv 0)) rfl) (be_ix bix (be_var (pv 1)) (be_int))) (be_ix bix (be_var (pv 1)) (be_int))))) (bss_nil)) (bss_cons (bs_if (bt_cmp (bo_eq hr.units) (nomark _) (be_ix bix (be_var (pv 1)) (be_int)) (be_str)) (bss_one (bs_ret (be_cmp (bo_eq hr.units) (nomark _) (be_cmp (bo_eq hr.units) (nomark _) (be_fld x.c_work x.n_place rfl (be_var (pv 0)) rfl) (be_ix bix (be_var (pv 1)) (be_int))) (be_ix bix (be_var (pv 1)) (be_int))))) (bss_nil)) (bss_cons (bs_if (bt_cmp (bo_eq hr.units) (nomark _) (be_ix bix (be_var (pv 1)) (be_int)) (be_str)) (bss_one (bs_ret (be_cmp bo_ge (nomark _) (be_fld x.c_work x.n_waited rfl (be_var (pv 0)) rfl) (be_ix bix (be_var (pv 1)) (be_int))))) (bss_nil)) (bss_one (bs_ret (be_cmp (bo_eq hr.units) (nomark _) (be_if (bt_cmp (bo_eq hr.units) (nomark _) (be_ix bix (be_var (pv 1)) (be_int)) (be_str)) (be_fld x.c_work x.n_is_answered rfl (be_var (pv 0)) rfl) (be_fld x.c_work x.n_is_marked rfl (be_var (pv 0)) rfl)) (be_ix bix (be_var (pv 1)) (be_int)))))))) pure_TicketWork_holds
theorem ok_TicketWork_told (x : Fx K mg) : Ok P w K mg base 1 ("TicketWork", some "told") ["self"] sp_TicketWork_told := by
  have sc := sc_TicketWork_told
  exact ok_def x.F_TicketWork_told sc (fun _ _ _ _ _ _ us hl => match us, hl with | [_], _ => rfl) len_TicketWork_told (fun cdv A outer s H E hr =>
    show BSs _ _ _ t_TicketWork_told from bss_one (bs_ret (be_tup (ba_cons (be_fld x.c_work x.n_phase rfl (be_var (pv 0)) rfl) (ba_cons (be_fld x.c_work x.n_place rfl (be_var (pv 0)) rfl) (ba_cons (be_fld x.c_work x.n_is_answered rfl (be_var (pv 0)) rfl) (ba_cons (be_fld x.c_work x.n_waited rfl (be_var (pv 0)) rfl) (ba_cons (be_fld x.c_work x.n_is_marked rfl (be_var (pv 0)) rfl) ba_nil)))))))) pure_TicketWork_told
theorem ok_TicketWork_turn_to (x : Fx K mg) : Ok P w K mg base 1 ("TicketWork", some "turn_to") ["self", "status"] sp_TicketWork_turn_to := by
  have sc := sc_TicketWork_turn_to
  exact ok_def x.F_TicketWork_turn_to sc (fun _ _ _ _ _ _ us hl => match us, hl with | [_, _], _ => rfl) len_TicketWork_turn_to (fun cdv A outer s H E hr =>
    show BSs _ _ _ t_TicketWork_turn_to from bss_cons (bs_if (bt_cmp (bo_eq hr.units) (nomark _) (be_var (pv 1)) (be_fld x.c_work x.n_phase rfl (be_var (pv 0)) rfl)) (bss_one (bs_ret (be_bl))) (bss_nil)) (bss_cons (bs_asg (be_var (pv 1)) (bg_fld x.c_work x.n_phase rfl (be_var (pv 0)))) (bss_cons (bs_expr (be_bmOf (pe_bm PySem.F.plainAttrs_list PySem.F.slot_list_append PySem.F.type_list_append bm_append (be_fld x.c_work x.n_row rfl (be_var (pv 0)) rfl) (ba_cons (be_str) ba_nil)))) (bss_one (bs_ret (be_bl)))))) pure_TicketWork_turn_to
theorem ok__law_draw (x : Fx K mg) : Ok P w K mg base 1 ("_law_draw", none) ["well", "many"] sp__law_draw := by
  have sc := sc__law_draw
  exact ok_def x.F__law_draw sc (fun _ _ _ _ _ _ us hl => match us, hl with | [_, _], _ => rfl) len__law_draw (fun cdv A outer s H E hr =>
    show BSs _ _ _ t__law_draw from bss_cons (bs_if (bt_cmp bo_gt (nomark _) (be_ix bix (be_var (pv 0)) (be_int)) (be_int)) (bss_cons (bs_setOf (ps_set (i := 4) sc.nd rfl (by first | exact Or.inl rfl | exact Or.inr rfl) (be_op bo_mod (be_cbOf (pe_callTy bc_int rfl x.f_int (by decide +kernel) (ba_cons (be_ix bix (be_var (pv 0)) (be_int)) ba_nil))) (be_var (pv 1))))) (bss_cons (bs_asg (be_op bo_div (be_ix bix (be_var (pv 0)) (be_int)) (be_var (pv 1))) (bg_subOf (pg_sub (be_var (pv 0)) (be_int) bset_list))) (bss_one (bs_ret (be_var (pv 4)))))) (bss_nil)) (bss_cons (bs_asg (be_op bo_addX (be_ix bix (be_var (pv 0)) (be_int)) (be_int)) (bg_subOf (pg_sub (be_var (pv 0)) (be_int) bset_list))) (bss_cons (bs_setOf (ps_set (i := 2) sc.nd rfl (by first | exact Or.inl rfl | exact Or.inr rfl) (be_op bo_mul (be_int) (be_ix bix (be_var (pv 0)) (be_int))))) (bss_cons (bs_setOf (ps_set (i := 3) sc.nd rfl (by first | exact Or.inl rfl | exact Or.inr rfl) (be_op bo_mod (be_cbOf (pe_callTy bc_int rfl x.f_int (by decide +kernel) (ba_cons (be_op bo_addX (be_op bo_pow (be_op bo_addX (be_ix bix (be_var (pv 0)) (be_int)) (be_var (pv 2))) (be_int)) (be_op bo_mul (be_int) (be_var (pv 2)))) ba_nil))) (be_op bo_addX (be_op bo_pow (be_int) (be_int)) (be_int))))) (bss_cons (bs_setOf (ps_set (i := 3) sc.nd rfl (by first | exact Or.inl rfl | exact Or.inr rfl) (be_op bo_mod (be_cbOf (pe_callTy bc_int rfl x.f_int (by decide +kernel) (ba_cons (be_op bo_pow (be_op bo_addX (be_var (pv 3)) (be_op bo_mul (be_int) (be_ix bix (be_var (pv 0)) (be_int)))) (be_int)) ba_nil))) (be_op bo_addX (be_op bo_pow (be_int) (be_int)) (be_int))))) (bss_one (bs_ret (be_op bo_mod (be_cbOf (pe_callTy bc_int rfl x.f_int (by decide +kernel) (ba_cons (be_op bo_div (be_var (pv 3)) (be_op bo_pow (be_int) (be_int))) ba_nil))) (be_var (pv 1)))))))))) pure__law_draw
theorem ok__law_well (x : Fx K mg) : Ok P w K mg base 1 ("_law_well", none) ["script", "k"] sp__law_well := by
  have sc := sc__law_well
  exact ok_def x.F__law_well sc (fun _ _ _ _ _ _ us hl => match us, hl with | [_, _], _ => rfl) len__law_well (fun cdv A outer s H E hr =>
    show BSs _ _ _ t__law_well from bss_cons (bs_setOf (ps_set (i := 2) sc.nd rfl (by first | exact Or.inl rfl | exact Or.inr rfl) (be_int))) (bss_cons (bs_if (bt_cmp bo_lt (nomark _) (be_var (pv 1)) (be_cbOf (pe_callB bc_lenX rfl x.f_len (by decide +kernel) (ba_cons (be_var (pv 0)) ba_nil)))) (bss_one (bs_setOf (ps_set (i := 2) sc.nd rfl (by first | exact Or.inl rfl | exact Or.inr rfl) (be_cbOf (pe_callTy bc_int rfl x.f_int (by decide +kernel) (ba_cons (be_ix bix (be_var (pv 0)) (be_var (pv 1))) ba_nil)))))) (bss_nil)) (bss_one (bs_ret (be_lstO (ba_cons (be_cbOf (pe_callB (bc_max rfl) rfl x.f_max (by decide +kernel) (ba_cons (be_int) (ba_cons (be_op bo_sub (be_cbOf (pe_callB bc_abs rfl x.f_abs (by decide +kernel) (ba_cons (be_var (pv 2)) ba_nil))) (be_op bo_pow (be_int) (be_int))) ba_nil)))) (ba_cons (be_op bo_addX (be_op bo_mod (be_cbOf (pe_callTy bc_int rfl x.f_int (by decide +kernel) (ba_cons (be_var (pv 2)) ba_nil))) (be_op bo_addX (be_op bo_pow (be_int) (be_int)) (be_int))) (be_op bo_mul (be_int) (be_var (pv 1)))) (ba_cons (be_int) ba_nil)))))))) pure__law_well
theorem ok_is_action (x : Fx K mg) : Ok P w K mg base 1 ("is_action", none) ["desks", "thing"] sp_is_action := by
  have sc := sc_is_action
  exact ok_def x.F_is_action sc (fun _ _ _ _ _ _ us hl => match us, hl with | [_, _], _ => rfl) len_is_action (fun cdv A outer s H E hr =>
    show BSs _ _ _ t_is_action from bss_cons (bs_if (bt_cmp (bo_inX (hu65 hr)) (by rfl) (be_var (pv 1)) (be_tup (ba_cons (be_tup (ba_cons (be_str) ba_nil)) (ba_cons (be_tup (ba_cons (be_str) ba_nil)) ba_nil)))) (bss_one (bs_ret (be_bl))) (bss_nil)) (bss_cons (bs_if (bw_pt (bw_or (bt_not (bt_val (be_cbOf (pe_callB (bc_isi .tup) rfl x.f_isinstance (by decide +kernel) (ba_cons (be_var (pv 1)) (ba_cons (be_const (pe_bltn (v := .ty "tuple") rfl x.f_tuple (by decide +kernel) rfl) (fun _ _ => .ty "tuple")) ba_nil)))))) (bw_or1 (bt_cmp (bo_ne hr.units) (nomark _) (be_cbOf (pe_callB bc_lenX rfl x.f_len (by decide +kernel) (ba_cons (be_var (pv 1)) ba_nil))) (be_int))))) (bss_one (bs_ret (be_bl))) (bss_nil)) (bss_cons (bs_if (bt_cmp (bo_eq hr.units) (nomark _) (be_ix bix (be_var (pv 1)) (be_int)) (be_str)) (bss_one (bs_ret (be_cbOf (pe_callB (bc_isi .bl) rfl x.f_isinstance (by decide +kernel) (ba_cons (be_ix bix (be_var (pv 1)) (be_int)) (ba_cons (be_const (pe_bltn (v := .ty "bool") rfl x.f_bool (by decide +kernel) rfl) (fun _ _ => .ty "bool")) ba_nil)))))) (bss_nil)) (bss_cons (bs_setOf (ps_set (i := 2) sc.nd rfl (by first | exact Or.inl rfl | exact Or.inr rfl) (be_if (bt_cmp (bo_eq hr.units) (nomark _) (be_ix bix (be_var (pv 1)) (be_int)) (be_str)) (be_var (pv 0)) (be_kg x.k_STATUSES rfl)))) (bss_one (bs_ret (be_and (be_cmp (bo_inX (hu65 hr)) (by rfl) (be_ix bix (be_var (pv 1)) (be_int)) (be_tup (ba_cons (be_str) (ba_cons (be_str) ba_nil)))) (be_one (be_cmp (bo_inX (hu65 hr)) (by rfl) (be_ix bix (be_var (pv 1)) (be_int)) (be_var (pv 2))))))))))) pure_is_action
theorem ok_is_name (x : Fx K mg) : Ok P w K mg base 1 ("is_name", none) ["thing"] sp_is_name := by
  have sc := sc_is_name
  exact ok_def x.F_is_name sc (fun _ _ _ _ _ _ us hl => match us, hl with | [_], _ => rfl) len_is_name (fun cdv A outer s H E hr =>
    show BSs _ _ _ t_is_name from bss_one (bs_ret (be_and (be_cbOf (pe_callB (bc_isi .str) rfl x.f_isinstance (by decide +kernel) (ba_cons (be_var (pv 0)) (ba_cons (be_const (pe_bltn (v := .ty "str") rfl x.f_str (by decide +kernel) rfl) (fun _ _ => .ty "str")) ba_nil)))) (be_and (be_chainOf (pe_chain bo_le bo_le (be_int) (be_cbOf (pe_callB bc_lenX rfl x.f_len (by decide +kernel) (ba_cons (be_var (pv 0)) ba_nil))) (be_int))) (be_one (be_cbOf (pe_callB (bc_all rfl) rfl x.f_all (by decide +kernel) (ba_cons (be_lcOf (cg_n (by decide)) (pe_lc (own := [("sign", 1)]) rfl sc.nd (bi_str (be_var (pv 0))) (blkOk_by (N := ["thing", "sign"]) (sc := defScope s_is_name) (by decide +kernel)) (fun _ _ _ _ _ => pg_name (i := 1) sc.nd rfl (Or.inl rfl)) (fun _ _ _ _ _ => pts_yes) (fun _ _ _ _ _ => be_cmp (bo_inX (hu65 hr)) (by rfl) (be_var (pv 1)) (be_kg x.k_LETTERS rfl)))) ba_nil)))))))) pure_is_name
theorem ok_is_whole (x : Fx K mg) : Ok P w K mg base 1 ("is_whole", none) ["thing"] sp_is_whole := by
  have sc := sc_is_whole
  exact ok_def x.F_is_whole sc (fun _ _ _ _ _ _ us hl => match us, hl with | [_], _ => rfl) len_is_whole (fun cdv A outer s H E hr =>
    show BSs _ _ _ t_is_whole from bss_one (bs_ret (be_and (be_cbOf (pe_callB (bc_isi .int) rfl x.f_isinstance (by decide +kernel) (ba_cons (be_var (pv 0)) (ba_cons (be_const (pe_bltn (v := .ty "int") rfl x.f_int (by decide +kernel) rfl) (fun _ _ => .ty "int")) ba_nil)))) (be_one (be_not (be_cbOf (pe_callB (bc_isi .bl) rfl x.f_isinstance (by decide +kernel) (ba_cons (be_var (pv 0)) (ba_cons (be_const (pe_bltn (v := .ty "bool") rfl x.f_bool (by decide +kernel) rfl) (fun _ _ => .ty "bool")) ba_nil))))))))) pure_is_whole
theorem ok_Desk___contains__ (x : Fx K mg) (O_is_name : Ok P w K mg base 1 ("is_name", none) ["thing"] sp_is_name) : Ok P w K mg base 2 ("Desk", some "__contains__") ["self", "person"] sp_Desk___contains__ := by
  have sc := sc_Desk___contains__
  exact ok_def x.F_Desk___contains__ sc (fun _ _ _ _ _ _ us hl => match us, hl with | [_, _], _ => rfl) len_Desk___contains__ (fun cdv A outer s H E hr =>
    show BSs _ _ _ t_Desk___contains__ from bss_one (bs_ret (be_and (be_call0 O_is_name (hr.mono (by decide)) rfl x.g_is_name (ba_cons (be_var (pv 1)) ba_nil)) (be_one (be_dinOf (pe_cmp (pc_din (hu_of hr) (be_var (pv 1)) (be_fld x.c_desk x.n_tickets rfl (be_var (pv 0)) rfl)) (by rfl))))))) pure_Desk___contains__
theorem ok_Desk_at (x : Fx K mg) (O_Book_desks : Ok P w K mg base 1 ("Book", some "desks") ["self"] sp_Book_desks) (O_is_name : Ok P w K mg base 1 ("is_name", none) ["thing"] sp_is_name) : Ok P w K mg base 2 ("Desk", some "at") ["self", "name"] sp_Desk_at := by
  have sc := sc_Desk_at
  exact ok_def x.F_Desk_at sc (fun _ _ _ _ _ _ us hl => match us, hl with | [_, _], _ => rfl) len_Desk_at (fun cdv A outer s H E hr =>
    show BSs _ _ _ t_Desk_at from bss_cons (bs_if (bw_pt (bw_or (bt_not (bt_val (be_call0 O_is_name (hr.mono (by decide)) rfl x.g_is_name (ba_cons (be_var (pv 1)) ba_nil)))) (bw_or1 (bt_cmp (bo_notIn (hu65 hr)) (by rfl) (be_var (pv 1)) (be_meth00 (c := .book) O_Book_desks (hr.mono (by decide)) x.c_book x.h_Book_desks (by decide +kernel) (be_fld x.c_desk x.n_rulebook rfl (be_var (pv 0)) rfl)))))) (bss_one (bs_never)) (bss_nil)) (bss_one (bs_ret (be_lcDOf (cg_t2 (by decide) (by decide)) (pe_lc (own := [("person", 2), ("ticket", 3)]) rfl sc.nd (pi_dctI (pi_items (be_fld x.c_desk x.n_tickets rfl (be_var (pv 0)) rfl))) (blkOk_by (N := ["self", "name", "person", "ticket"]) (sc := defScope s_Desk_at) (by decide +kernel)) (fun _ _ _ _ _ => pg_tup rfl (pgs_cons (pg_name (i := 2) sc.nd rfl (Or.inl rfl)) (pgs_cons (pg_name (i := 3) sc.nd rfl (Or.inl rfl)) pgs_nil))) (fun _ _ _ _ _ => pts_one (bw_pt (bw_and (bt_cmp (bo_eq hr.units) (nomark _) (be_ix bix (be_var (pv 3)) (be_int)) (be_var (pv 1))) (bw_and1 (bt_cmp (bo_ne hr.units) (nomark _) (be_ix bix (be_var (pv 3)) (be_int)) (be_str)))))) (fun _ _ _ _ _ => be_var (pv 2))))))) pure_Desk_at
theorem ok_Desk_change (x : Fx K mg) (O_Book_desks : Ok P w K mg base 1 ("Book", some "desks") ["self"] sp_Book_desks) (O_Desk_remember : Ok P w K mg base 1 ("Desk", some "remember") ["self"] sp_Desk_remember) : Ok P w K mg base 2 ("Desk", some "change") ["self", "book"] sp_Desk_change := by
  have sc := sc_Desk_change
  exact ok_def x.F_Desk_change sc (fun _ _ _ _ _ _ us hl => match us, hl with | [_, _], _ => rfl) len_Desk_change (fun cdv A outer s H E hr =>
    show BSs _ _ _ t_Desk_change from bss_cons (bs_if (bt_cmp (bo_ne hr.units) (nomark _) (be_meth00 (c := .book) O_Book_desks (hr.mono (by decide)) x.c_book x.h_Book_desks (by decide +kernel) (be_var (pv 1))) (be_meth00 (c := .book) O_Book_desks (hr.mono (by decide)) x.c_book x.h_Book_desks (by decide +kernel) (be_fld x.c_desk x.n_rulebook rfl (be_var (pv 0)) rfl))) (bss_one (bs_never)) (bss_nil)) (bss_cons (bs_expr (be_meth00 (c := .desk) O_Desk_remember (hr.mono (by decide)) x.c_desk x.h_Desk_remember (by decide +kernel) (be_var (pv 0)))) (bss_one (bs_asg (be_var (pv 1)) (bg_fld x.c_desk x.n_rulebook rfl (be_var (pv 0))))))) pure_Desk_change
theorem ok_Desk_ticket (x : Fx K mg) (O_is_name : Ok P w K mg base 1 ("is_name", none) ["thing"] sp_is_name) : Ok P w K mg base 2 ("Desk", some "ticket") ["self", "person"] sp_Desk_ticket := by
  have sc := sc_Desk_ticket
  exact ok_def x.F_Desk_ticket sc (fun _ _ _ _ _ _ us hl => match us, hl with | [_, _], _ => rfl) len_Desk_ticket (fun cdv A outer s H E hr =>
    show BSs _ _ _ t_Desk_ticket from bss_cons (bs_if (bw_pt (bw_or (bt_not (bt_val (be_call0 O_is_name (hr.mono (by decide)) rfl x.g_is_name (ba_cons (be_var (pv 1)) ba_nil)))) (bw_or1 (bt_dnotinOf (pt_cmp (pc_dnotin (hu_of hr) (be_var (pv 1)) (be_fld x.c_desk x.n_tickets rfl (be_var (pv 0)) rfl)) (by rfl)))))) (bss_one (bs_never)) (bss_nil)) (bss_one (bs_ret (be_dgetOf (pe_dget (hu_of hr) (be_fld x.c_desk x.n_tickets rfl (be_var (pv 0)) rfl) (be_var (pv 1)) (fun _ _ => rfl)))))) pure_Desk_ticket
theorem ok_TicketWork_carry_out (x : Fx K mg) (O_TicketWork_go_to : Ok P w K mg base 1 ("TicketWork", some "go_to") ["self", "desk"] sp_TicketWork_go_to) (O_TicketWork_turn_to : Ok P w K mg base 1 ("TicketWork", some "turn_to") ["self", "status"] sp_TicketWork_turn_to) : Ok P w K mg base 2 ("TicketWork", some "carry_out") ["self", "action"] sp_TicketWork_carry_out := by
  have sc := sc_TicketWork_carry_out
  exact ok_def x.F_TicketWork_carry_out sc (fun _ _ _ _ _ _ us hl => match us, hl with | [_, _], _ => rfl) len_TicketWork_carry_out (fun cdv A outer s H E hr =>
    show BSs _ _ _ t_TicketWork_carry_out from bss_one (bs_if (bt_cmp (bo_eq hr.units) (nomark _) (be_ix bix (be_var (pv 1)) (be_int)) (be_str)) (bss_one (bs_if (bw_pt (bw_and (bt_val (be_meth0 (c := .work) O_TicketWork_turn_to (hr.mono (by decide)) x.c_work x.h_TicketWork_turn_to (by decide +kernel) (be_var (pv 0)) (ba_cons (be_ix bix (be_var (pv 1)) (be_int)) ba_nil))) (bw_and1 (bt_cmp (bo_eq hr.units) (nomark _) (be_ix bix (be_var (pv 1)) (be_int)) (be_str))))) (bss_one (bs_asg (be_bl) (bg_fld x.c_work x.n_is_shut rfl (be_var (pv 0))))) (bss_nil))) (bss_one (bs_if (bt_cmp (bo_eq hr.units) (nomark _) (be_ix bix (be_var (pv 1)) (be_int)) (be_str)) (bss_one (bs_expr (be_meth0 (c := .work) O_TicketWork_go_to (hr.mono (by decide)) x.c_work x.h_TicketWork_go_to (by decide +kernel) (be_var (pv 0)) (ba_cons (be_ix bix (be_var (pv 1)) (be_int)) ba_nil)))) (bss_one (bs_if (bt_cmp (bo_eq hr.units) (nomark _) (be_ix bix (be_var (pv 1)) (be_int)) (be_str)) (bss_one (bs_asg (be_ix bix (be_var (pv 1)) (be_int)) (bg_fld x.c_work x.n_is_marked rfl (be_var (pv 0))))) (bss_cons (bs_fldaug x.c_work x.n_sent rfl (be_var (pv 0)) (be_int) inop_add) (bss_cons (bs_fldaug x.c_work x.n_sent_again rfl (be_var (pv 0)) (be_cbOf (pe_callTy bc_int rfl x.f_int (by decide +kernel) (ba_cons (be_fld x.c_work x.n_is_answered rfl (be_var (pv 0)) rfl) ba_nil))) inop_add) (bss_cons (bs_asg (be_tup (ba_cons (be_bl) (ba_cons (be_int) ba_nil))) (bg_tup rfl (bgs_cons (bg_fld x.c_work x.n_is_answered rfl (be_var (pv 0))) (bgs_cons (bg_fld x.c_work x.n_waited rfl (be_var (pv 0))) bgs_nil)))) (bss_one (bs_expr (be_bmOf (pe_bm PySem.F.plainAttrs_list PySem.F.slot_list_append PySem.F.type_list_append bm_append (be_fld x.c_work x.n_row rfl (be_var (pv 0)) rfl) (ba_cons (be_str) ba_nil)))))))))))))) pure_TicketWork_carry_out
theorem ok_TicketWork_start (x : Fx K mg) (O_Book_desks : Ok P w K mg base 1 ("Book", some "desks") ["self"] sp_Book_desks) (O_TicketWork_go_to : Ok P w K mg base 1 ("TicketWork", some "go_to") ["self", "desk"] sp_TicketWork_go_to) (O_TicketWork_turn_to : Ok P w K mg base 1 ("TicketWork", some "turn_to") ["self", "status"] sp_TicketWork_turn_to) : Ok P w K mg base 2 ("TicketWork", some "start") ["self", "deed", "is_new"] sp_TicketWork_start := by
  have sc := sc_TicketWork_start
  exact ok_def x.F_TicketWork_start sc (fun _ _ _ _ _ _ us hl => match us, hl with | [_, _, _], _ => rfl) len_TicketWork_start (fun cdv A outer s H E hr =>
    show BSs _ _ _ t_TicketWork_start from bss_one (bs_if (bt_val (be_var (pv 2))) (bss_cons (bs_asg (be_tup (ba_cons (be_str) (ba_cons (be_ix bix (be_meth00 (c := .book) O_Book_desks (hr.mono (by decide)) x.c_book x.h_Book_desks (by decide +kernel) (be_fld x.c_work x.n_plan rfl (be_var (pv 0)) rfl)) (be_int)) ba_nil))) (bg_tup rfl (bgs_cons (bg_fld x.c_work x.n_phase rfl (be_var (pv 0))) (bgs_cons (bg_fld x.c_work x.n_place rfl (be_var (pv 0))) bgs_nil)))) (bss_one (bs_expr (be_bmOf (pe_bm PySem.F.plainAttrs_list PySem.F.slot_list_append PySem.F.type_list_append bm_append (be_fld x.c_work x.n_row rfl (be_var (pv 0)) rfl) (ba_cons (be_str) ba_nil)))))) (bss_one (bs_if (bt_cmp (bo_eq hr.units) (nomark _) (be_ix bix (be_var (pv 1)) (be_int)) (be_str)) (bss_cons (bs_asg (be_tup (ba_cons (be_bl) (ba_cons (be_int) ba_nil))) (bg_tup rfl (bgs_cons (bg_fld x.c_work x.n_is_answered rfl (be_var (pv 0))) (bgs_cons (bg_fld x.c_work x.n_waited rfl (be_var (pv 0))) bgs_nil)))) (bss_one (bs_expr (be_bmOf (pe_bm PySem.F.plainAttrs_list PySem.F.slot_list_append PySem.F.type_list_append bm_append (be_fld x.c_work x.n_row rfl (be_var (pv 0)) rfl) (ba_cons (be_str) ba_nil)))))) (bss_one (bs_if (bt_cmp (bo_eq hr.units) (nomark _) (be_ix bix (be_var (pv 1)) (be_int)) (be_str)) (bss_cons (bs_asg (be_tup (ba_cons (be_bl) (ba_cons (be_int) ba_nil))) (bg_tup rfl (bgs_cons (bg_fld x.c_work x.n_is_answered rfl (be_var (pv 0))) (bgs_cons (bg_fld x.c_work x.n_waited rfl (be_var (pv 0))) bgs_nil)))) (bss_one (bs_expr (be_bmOf (pe_bm PySem.F.plainAttrs_list PySem.F.slot_list_append PySem.F.type_list_append bm_append (be_fld x.c_work x.n_row rfl (be_var (pv 0)) rfl) (ba_cons (be_str) ba_nil)))))) (bss_one (bs_if (bt_cmp (bo_eq hr.units) (nomark _) (be_ix bix (be_var (pv 1)) (be_int)) (be_str)) (bss_cons (bs_fldaug x.c_work x.n_waited rfl (be_var (pv 0)) (be_int) inop_add) (bss_one (bs_expr (be_bmOf (pe_bm PySem.F.plainAttrs_list PySem.F.slot_list_append PySem.F.type_list_append bm_append (be_fld x.c_work x.n_row rfl (be_var (pv 0)) rfl) (ba_cons (be_str) ba_nil)))))) (bss_one (bs_if (bt_cmp (bo_eq hr.units) (nomark _) (be_ix bix (be_var (pv 1)) (be_int)) (be_str)) (bss_one (bs_expr (be_meth0 (c := .work) O_TicketWork_go_to (hr.mono (by decide)) x.c_work x.h_TicketWork_go_to (by decide +kernel) (be_var (pv 0)) (ba_cons (be_ix bix (be_var (pv 1)) (be_int)) ba_nil)))) (bss_one (bs_expr (be_meth0 (c := .work) O_TicketWork_turn_to (hr.mono (by decide)) x.c_work x.h_TicketWork_turn_to (by decide +kernel) (be_var (pv 0)) (ba_cons (be_ix bix (be_var (pv 1)) (be_int)) ba_nil)))))))))))))) pure_TicketWork_start
theorem ok__law_pick (x : Fx K mg) (O__law_draw : Ok P w K mg base 1 ("_law_draw", none) ["well", "many"] sp__law_draw) : Ok P w K mg base 2 ("_law_pick", none) ["well", "row"] sp__law_pick := by
  have sc := sc__law_pick
  exact ok_def x.F__law_pick sc (fun _ _ _ _ _ _ us hl => match us, hl with | [_, _], _ => rfl) len__law_pick (fun cdv A outer s H E hr =>
    show BSs _ _ _ t__law_pick from bss_one (bs_ret (be_ix bix (be_var (pv 1)) (be_call0 O__law_draw (hr.mono (by decide)) rfl x.g__law_draw (ba_cons (be_var (pv 0)) (ba_cons (be_cbOf (pe_callB bc_lenX rfl x.f_len (by decide +kernel) (ba_cons (be_var (pv 1)) ba_nil))) ba_nil)))))) pure__law_pick
theorem ok__law_undone (x : Fx K mg) (O_Desk_undoX : OkX P w K mg base 1 ("Desk", some "undo") ["self"] sp_Desk_undoX) : Ok P w K mg base 2 ("_law_undone", none) ["house"] sp__law_undone := by
  have sc := sc__law_undone
  exact ok_def x.F__law_undone sc (fun _ _ _ _ _ _ us hl => match us, hl with | [_], _ => rfl) len__law_undone (fun cdv A outer s H E hr =>
    show BSs _ _ _ t__law_undone from bss_cons (bs_setOf (ps_set (i := 1) sc.nd rfl (by first | exact Or.inl rfl | exact Or.inr rfl) (be_str))) (bss_cons (bs_tryAs (i := 2) (nn := 4) rfl rfl sc.nd rfl rfl rfl rfl x.g_NothingToUndo x.xm_NothingToUndo (fun pn xe E' tk => bss_cons (bs_setOf (ps_set (i := 3) sc.nd rfl (by first | exact Or.inl rfl | exact Or.inr rfl) (be_methX0 (c := .desk) O_Desk_undoX tk (hr.mono (by decide)) x.c_desk x.h_Desk_undo (by decide +kernel) (be_var (pv 0))))) (bss_one (bs_setOf (ps_set (i := 1) sc.nd rfl (by first | exact Or.inl rfl | exact Or.inr rfl) (be_if (bt_cmp bo_isN (nomark _) (be_var (pv 3)) (be_non)) (be_str) (be_str)))))) (fun a oe pn hz hv => bss_one (bs_setOf (ps_set (i := 1) sc.nd rfl (by first | exact Or.inl rfl | exact Or.inr rfl) (be_if (bt_val (be_isE x.x_NothingToUndo hz hv rfl x.f_isinstance (pv 2) rfl x.g_DeskError x.kt_NothingToUndo_DeskError)) (be_str) (be_str)))))) (bss_one (bs_ret (be_var (pv 1)))))) pure__law_undone
theorem ok_are_desks (x : Fx K mg) (O_is_name : Ok P w K mg base 1 ("is_name", none) ["thing"] sp_is_name) : Ok P w K mg base 2 ("are_desks", none) ["thing"] sp_are_desks := by
  have sc := sc_are_desks
  exact ok_def x.F_are_desks sc (fun _ _ _ _ _ _ us hl => match us, hl with | [_], _ => rfl) len_are_desks (fun cdv A outer s H E hr =>
    show BSs _ _ _ t_are_desks from bss_cons (bs_if (bw_pt (bw_or (bt_not (bt_val (be_cbOf (pe_callB (bc_isi .tup) rfl x.f_isinstance (by decide +kernel) (ba_cons (be_var (pv 0)) (ba_cons (be_const (pe_bltn (v := .ty "tuple") rfl x.f_tuple (by decide +kernel) rfl) (fun _ _ => .ty "tuple")) ba_nil)))))) (bw_or1 (bt_not (bt_chainOf (pt_chain bo_le bo_le (be_int) (be_cbOf (pe_callB bc_lenX rfl x.f_len (by decide +kernel) (ba_cons (be_var (pv 0)) ba_nil))) (be_int))))))) (bss_one (bs_ret (be_bl))) (bss_nil)) (bss_one (bs_ret (be_and (be_cbOf (pe_callB (bc_all rfl) rfl x.f_all (by decide +kernel) (ba_cons (be_lcOf (cg_n (by decide)) (pe_lc (own := [("desk", 1)]) rfl sc.nd (bi_seq (be_var (pv 0))) (blkOk_by (N := ["thing", "desk"]) (sc := defScope s_are_desks) (by decide +kernel)) (fun _ _ _ _ _ => pg_name (i := 1) sc.nd rfl (Or.inl rfl)) (fun _ _ _ _ _ => pts_yes) (fun _ _ _ _ _ => be_call0 O_is_name (hr.mono (by decide)) rfl x.g_is_name (ba_cons (be_var (pv 1)) ba_nil)))) ba_nil))) (be_one (be_cmp (bo_eq hr.units) (nomark _) (be_lenSet rfl rfl x.f_len rfl x.f_set (be_var (pv 0))) (be_cbOf (pe_callB bc_lenX rfl x.f_len (by decide +kernel) (ba_cons (be_var (pv 0)) ba_nil))))))))) pure_are_desks
theorem ok_is_deed (x : Fx K mg) (O_is_name : Ok P w K mg base 1 ("is_name", none) ["thing"] sp_is_name) : Ok P w K mg base 2 ("is_deed", none) ["desks", "thing"] sp_is_deed := by
  have sc := sc_is_deed
  exact ok_def x.F_is_deed sc (fun _ _ _ _ _ _ us hl => match us, hl with | [_, _], _ => rfl) len_is_deed (fun cdv A outer s H E hr =>
    show BSs _ _ _ t_is_deed from bss_cons (bs_if (bw_pt (bw_or (bt_not (bt_val (be_cbOf (pe_callB (bc_isi .tup) rfl x.f_isinstance (by decide +kernel) (ba_cons (be_var (pv 1)) (ba_cons (be_const (pe_bltn (v := .ty "tuple") rfl x.f_tuple (by decide +kernel) rfl) (fun _ _ => .ty "tuple")) ba_nil)))))) (bw_or (bt_cmp (bo_notIn (hu65 hr)) (by rfl) (be_cbOf (pe_callB bc_lenX rfl x.f_len (by decide +kernel) (ba_cons (be_var (pv 1)) ba_nil))) (be_tup (ba_cons (be_int) (ba_cons (be_int) ba_nil)))) (bw_or1 (bt_not (bt_val (be_cbOf (pe_callB (bc_isi .str) rfl x.f_isinstance (by decide +kernel) (ba_cons (be_ix bix (be_var (pv 1)) (be_int)) (ba_cons (be_const (pe_bltn (v := .ty "str") rfl x.f_str (by decide +kernel) rfl) (fun _ _ => .ty "str")) ba_nil)))))))))) (bss_one (bs_ret (be_bl))) (bss_nil)) (bss_cons (bs_if (bt_cmp (bo_eq hr.units) (nomark _) (be_cbOf (pe_callB bc_lenX rfl x.f_len (by decide +kernel) (ba_cons (be_var (pv 1)) ba_nil))) (be_int)) (bss_one (bs_ret (be_cmp (bo_inX (hu65 hr)) (by rfl) (be_ix bix (be_var (pv 1)) (be_int)) (be_kg x.k_PLAIN_DEEDS rfl)))) (bss_nil)) (bss_cons (bs_if (bt_cmp (bo_eq hr.units) (nomark _) (be_ix bix (be_var (pv 1)) (be_int)) (be_str)) (bss_one (bs_ret (be_and (be_call0 O_is_name (hr.mono (by decide)) rfl x.g_is_name (ba_cons (be_ix bix (be_var (pv 1)) (be_int)) ba_nil)) (be_one (be_or (be_cmp bo_isN (nomark _) (be_var (pv 0)) (be_non)) (be_one (be_cmp (bo_inX (hu65 hr)) (by rfl) (be_ix bix (be_var (pv 1)) (be_int)) (be_var (pv 0))))))))) (bss_nil)) (bss_one (bs_ret (be_and (be_cmp (bo_eq hr.units) (nomark _) (be_ix bix (be_var (pv 1)) (be_int)) (be_str)) (be_and (be_cbOf (pe_callB (bc_isi .str) rfl x.f_isinstance (by decide +kernel) (ba_cons (be_ix bix (be_var (pv 1)) (be_int)) (ba_cons (be_const (pe_bltn (v := .ty "str") rfl x.f_str (by decide +kernel) rfl) (fun _ _ => .ty "str")) ba_nil)))) (be_one (be_cmp (bo_inX (hu65 hr)) (by rfl) (be_ix bix (be_var (pv 1)) (be_int)) (be_kg x.k_STATUSES rfl)))))))))) pure_is_deed
theorem ok_is_test (x : Fx K mg) (O_is_whole : Ok P w K mg base 1 ("is_whole", none) ["thing"] sp_is_whole) : Ok P w K mg base 2 ("is_test", none) ["desks", "thing"] sp_is_test := by
  have sc := sc_is_test
  exact ok_def x.F_is_test sc (fun _ _ _ _ _ _ us hl => match us, hl with | [_, _], _ => rfl) len_is_test (fun cdv A outer s H E hr =>
    show BSs _ _ _ t_is_test from bss_cons (bs_if (bw_pt (bw_or (bt_not (bt_val (be_cbOf (pe_callB (bc_isi .tup) rfl x.f_isinstance (by decide +kernel) (ba_cons (be_var (pv 1)) (ba_cons (be_const (pe_bltn (v := .ty "tuple") rfl x.f_tuple (by decide +kernel) rfl) (fun _ _ => .ty "tuple")) ba_nil)))))) (bw_or1 (bt_cmp (bo_notIn (hu65 hr)) (by rfl) (be_cbOf (pe_callB bc_lenX rfl x.f_len (by decide +kernel) (ba_cons (be_var (pv 1)) ba_nil))) (be_tup (ba_cons (be_int) (ba_cons (be_int) ba_nil))))))) (bss_one (bs_ret (be_bl))) (bss_nil)) (bss_cons (bs_if (bt_cmp (bo_eq hr.units) (nomark _) (be_cbOf (pe_callB bc_lenX rfl x.f_len (by decide +kernel) (ba_cons (be_var (pv 1)) ba_nil))) (be_int)) (bss_cons (bs_setOf (ps_set (i := 2) sc.nd rfl (by first | exact Or.inl rfl | exact Or.inr rfl) (be_if (bt_cmp (bo_eq hr.units) (nomark _) (be_ix bix (be_var (pv 1)) (be_int)) (be_str)) (be_var (pv 0)) (be_kg x.k_STATUSES rfl)))) (bss_one (bs_ret (be_and (be_cmp (bo_inX (hu65 hr)) (by rfl) (be_ix bix (be_var (pv 1)) (be_int)) (be_tup (ba_cons (be_str) (ba_cons (be_str) ba_nil)))) (be_and (be_cmp (bo_inX (hu65 hr)) (by rfl) (be_ix bix (be_var (pv 1)) (be_int)) (be_var (pv 2))) (be_one (be_cbOf (pe_callB (bc_isi .bl) rfl x.f_isinstance (by decide +kernel) (ba_cons (be_ix bix (be_var (pv 1)) (be_int)) (ba_cons (be_const (pe_bltn (v := .ty "bool") rfl x.f_bool (by decide +kernel) rfl) (fun _ _ => .ty "bool")) ba_nil)))))))))) (bss_nil)) (bss_cons (bs_if (bt_cmp (bo_eq hr.units) (nomark _) (be_ix bix (be_var (pv 1)) (be_int)) (be_str)) (bss_one (bs_ret (be_and (be_call0 O_is_whole (hr.mono (by decide)) rfl x.g_is_whole (ba_cons (be_ix bix (be_var (pv 1)) (be_int)) ba_nil)) (be_one (be_chainOf (pe_chain bo_le bo_le (be_int) (be_ix bix (be_var (pv 1)) (be_int)) (be_kg x.k_MOST_DAYS rfl))))))) (bss_nil)) (bss_one (bs_ret (be_and (be_cmp (bo_inX (hu65 hr)) (by rfl) (be_ix bix (be_var (pv 1)) (be_int)) (be_tup (ba_cons (be_str) (ba_cons (be_str) ba_nil)))) (be_one (be_cbOf (pe_callB (bc_isi .bl) rfl x.f_isinstance (by decide +kernel) (ba_cons (be_ix bix (be_var (pv 1)) (be_int)) (ba_cons (be_const (pe_bltn (v := .ty "bool") rfl x.f_bool (by decide +kernel) rfl) (fun _ _ => .ty "bool")) ba_nil))))))))))) pure_is_test
theorem ok_report_of (x : Fx K mg) (O_TicketWork_told : Ok P w K mg base 1 ("TicketWork", some "told") ["self"] sp_TicketWork_told) : Ok P w K mg base 2 ("report_of", none) ["work"] sp_report_of := by
  have sc := sc_report_of
  exact ok_def x.F_report_of sc (fun _ _ _ _ _ _ us hl => match us, hl with | [_], _ => rfl) len_report_of (fun cdv A outer s H E hr =>
    show BSs _ _ _ t_report_of from bss_one (bs_ret (be_tup (ba_cons (be_cbOf (pe_callTy (bc_listX rfl) rfl x.f_list (by decide +kernel) (ba_cons (be_fld x.c_work x.n_acted rfl (be_var (pv 0)) rfl) ba_nil))) (ba_cons (be_fld x.c_work x.n_sent rfl (be_var (pv 0)) rfl) (ba_cons (be_meth00 (c := .work) O_TicketWork_told (hr.mono (by decide)) x.c_work x.h_TicketWork_told (by decide +kernel) (be_var (pv 0))) (ba_cons (be_fld x.c_work x.n_is_endless rfl (be_var (pv 0)) rfl) ba_nil))))))) pure_report_of
theorem ok_TicketWork_handle (x : Fx K mg) (O_Book_rules : Ok P w K mg base 1 ("Book", some "rules") ["self"] sp_Book_rules) (O_TicketWork_carry_out : Ok P w K mg base 2 ("TicketWork", some "carry_out") ["self", "action"] sp_TicketWork_carry_out) (O_TicketWork_holds : Ok P w K mg base 1 ("TicketWork", some "holds") ["self", "test"] sp_TicketWork_holds) : Ok P w K mg base 3 ("TicketWork", some "handle") ["self", "event"] sp_TicketWork_handle := by
  have sc := sc_TicketWork_handle
  exact ok_def x.F_TicketWork_handle sc (fun _ _ _ _ _ _ us hl => match us, hl with | [_, _], _ => rfl) len_TicketWork_handle (fun cdv A outer s H E hr =>
    show BSs _ _ _ t_TicketWork_handle from bss_one (bs_for PassesOwn.never rfl (bi_enumTOf (pi_enumT rfl x.f_enumerate (ba_cons (be_meth00 (c := .book) O_Book_rules (hr.mono (by decide)) x.c_book x.h_Book_rules (by decide +kernel) (be_fld x.c_work x.n_plan rfl (be_var (pv 0)) rfl)) ba_nil))) (bg_tup rfl (bgs_cons (bg_name (pg_name (i := 2) sc.nd rfl (by first | exact Or.inl rfl | exact Or.inr rfl))) (bgs_cons (bg_name (pg_name (i := 3) sc.nd rfl (by first | exact Or.inl rfl | exact Or.inr rfl))) bgs_nil))) (bss_one (bs_if (bw_pt (bw_and (bt_cmp (bo_eq hr.units) (nomark _) (be_ix bix (be_var (pv 3)) (be_int)) (be_var (pv 1))) (bw_and1 (bt_val (be_cbOf (pe_callB (bc_all rfl) rfl x.f_all (by decide +kernel) (ba_cons (be_lcOf (cg_n (by decide)) (pe_lc (own := [("test", 5)]) rfl sc.nd (bi_seq (be_ix bix (be_var (pv 3)) (be_int))) (blkOk_by (N := ["self", "event", "index", "rule", "action", "test"]) (sc := defScope s_TicketWork_handle) (by decide +kernel)) (fun _ _ _ _ _ => pg_name (i := 5) sc.nd rfl (Or.inl rfl)) (fun _ _ _ _ _ => pts_yes) (fun _ _ _ _ _ => be_meth0 (c := .work) O_TicketWork_holds (hr.mono (by decide)) x.c_work x.h_TicketWork_holds (by decide +kernel) (be_var (pv 0)) (ba_cons (be_var (pv 5)) ba_nil)))) ba_nil))))))) (bss_cons (bs_expr (be_bmOf (pe_bm PySem.F.plainAttrs_list PySem.F.slot_list_append PySem.F.type_list_append bm_append (be_fld x.c_work x.n_acted rfl (be_var (pv 0)) rfl) (ba_cons (be_var (pv 2)) ba_nil)))) (bss_one (bs_for PassesOwn.never rfl (bi_seq (be_ix bix (be_var (pv 3)) (be_int))) (bg_name (pg_name (i := 4) sc.nd rfl (by first | exact Or.inl rfl | exact Or.inr rfl))) (bss_cons (bs_if (bt_cmp (bo_eq hr.units) (nomark _) (be_var (pv 4)) (be_tup (ba_cons (be_str) ba_nil))) (bss_one (bs_retN)) (bss_nil)) (bss_one (bs_expr (be_meth0 (c := .work) O_TicketWork_carry_out (hr.mono (by decide)) x.c_work x.h_TicketWork_carry_out (by decide +kernel) (be_var (pv 0)) (ba_cons (be_var (pv 4)) ba_nil)))))))) (bss_nil))))) pure_TicketWork_handle
theorem ok__law_action (x : Fx K mg) (O__law_draw : Ok P w K mg base 1 ("_law_draw", none) ["well", "many"] sp__law_draw) (O__law_pick : Ok P w K mg base 2 ("_law_pick", none) ["well", "row"] sp__law_pick) : Ok P w K mg base 3 ("_law_action", none) ["well", "desks"] sp__law_action := by
  have sc := sc__law_action
  exact ok_def x.F__law_action sc (fun _ _ _ _ _ _ us hl => match us, hl with | [_, _], _ => rfl) len__law_action (fun cdv A outer s H E hr =>
    show BSs _ _ _ t__law_action from bss_cons (bs_setOf (ps_set (i := 2) sc.nd rfl (by first | exact Or.inl rfl | exact Or.inr rfl) (be_call0 O__law_draw (hr.mono (by decide)) rfl x.g__law_draw (ba_cons (be_var (pv 0)) (ba_cons (be_int) ba_nil))))) (bss_cons (bs_if (bt_cmp bo_lt (nomark _) (be_var (pv 2)) (be_int)) (bss_one (bs_ret (be_tup (ba_cons (be_str) (ba_cons (be_call0 O__law_pick (hr.mono (by decide)) rfl x.g__law_pick (ba_cons (be_var (pv 0)) (ba_cons (be_lstV (ba_cons (be_str) (ba_cons (be_str) (ba_cons (be_str) (ba_cons (be_str) ba_nil))))) ba_nil))) ba_nil))))) (bss_nil)) (bss_cons (bs_if (bt_cmp (bo_eq hr.units) (nomark _) (be_var (pv 2)) (be_int)) (bss_one (bs_ret (be_tup (ba_cons (be_str) (ba_cons (be_call0 O__law_pick (hr.mono (by decide)) rfl x.g__law_pick (ba_cons (be_var (pv 0)) (ba_cons (be_var (pv 1)) ba_nil))) ba_nil))))) (bss_nil)) (bss_one (bs_ret (be_ix bix (be_lstV (ba_cons (be_tup (ba_cons (be_str) ba_nil)) (ba_cons (be_tup (ba_cons (be_str) (ba_cons (be_cmp bo_gt (nomark _) (be_call0 O__law_draw (hr.mono (by decide)) rfl x.g__law_draw (ba_cons (be_var (pv 0)) (ba_cons (be_int) ba_nil))) (be_int)) ba_nil))) (ba_cons (be_tup (ba_cons (be_str) ba_nil)) ba_nil)))) (be_op bo_sub (be_var (pv 2)) (be_int)))))))) pure__law_action
theorem ok__law_deed (x : Fx K mg) (O__law_draw : Ok P w K mg base 1 ("_law_draw", none) ["well", "many"] sp__law_draw) (O__law_pick : Ok P w K mg base 2 ("_law_pick", none) ["well", "row"] sp__law_pick) : Ok P w K mg base 3 ("_law_deed", none) ["well", "desks"] sp__law_deed := by
  have sc := sc__law_deed
  exact ok_def x.F__law_deed sc (fun _ _ _ _ _ _ us hl => match us, hl with | [_, _], _ => rfl) len__law_deed (fun cdv A outer s H E hr =>
    show BSs _ _ _ t__law_deed from bss_cons (bs_setOf (ps_set (i := 2) sc.nd rfl (by first | exact Or.inl rfl | exact Or.inr rfl) (be_call0 O__law_draw (hr.mono (by decide)) rfl x.g__law_draw (ba_cons (be_var (pv 0)) (ba_cons (be_int) ba_nil))))) (bss_cons (bs_if (bt_cmp bo_lt (nomark _) (be_var (pv 2)) (be_int)) (bss_one (bs_ret (be_ix bix (be_lstV (ba_cons (be_tup (ba_cons (be_str) ba_nil)) (ba_cons (be_tup (ba_cons (be_str) ba_nil)) (ba_cons (be_tup (ba_cons (be_str) ba_nil)) (ba_cons (be_tup (ba_cons (be_str) ba_nil)) (ba_cons (be_tup (ba_cons (be_str) ba_nil)) (ba_cons (be_tup (ba_cons (be_str) ba_nil)) ba_nil))))))) (be_var (pv 2))))) (bss_nil)) (bss_cons (bs_if (bt_cmp (bo_eq hr.units) (nomark _) (be_var (pv 2)) (be_int)) (bss_one (bs_ret (be_tup (ba_cons (be_str) (ba_cons (be_call0 O__law_pick (hr.mono (by decide)) rfl x.g__law_pick (ba_cons (be_var (pv 0)) (ba_cons (be_var (pv 1)) ba_nil))) ba_nil))))) (bss_nil)) (bss_one (bs_ret (be_tup (ba_cons (be_str) (ba_cons (be_call0 O__law_pick (hr.mono (by decide)) rfl x.g__law_pick (ba_cons (be_var (pv 0)) (ba_cons (be_lstV (ba_cons (be_str) (ba_cons (be_str) (ba_cons (be_str) (ba_cons (be_str) ba_nil))))) ba_nil))) ba_nil)))))))) pure__law_deed
theorem ok__law_names (x : Fx K mg) (O__law_draw : Ok P w K mg base 1 ("_law_draw", none) ["well", "many"] sp__law_draw) (O__law_pick : Ok P w K mg base 2 ("_law_pick", none) ["well", "row"] sp__law_pick) : Ok P w K mg base 3 ("_law_names", none) ["well", "many"] sp__law_names := by
  have sc := sc__law_names
  exact ok_def x.F__law_names sc (fun _ _ _ _ _ _ us hl => match us, hl with | [_, _], _ => rfl) len__law_names (fun cdv A outer s H E hr =>
    show BSs _ _ _ t__law_names from bss_cons (bs_asg (be_tup (ba_cons (be_str) (ba_cons (be_lstV (ba_cons (be_str) (ba_cons (be_str) (ba_cons (be_str) (ba_cons (be_str) (ba_cons (be_str) (ba_cons (be_str) (ba_cons (be_str) ba_nil)))))))) ba_nil))) (bg_tup rfl (bgs_cons (bg_name (pg_name (i := 4) sc.nd rfl (by first | exact Or.inl rfl | exact Or.inr rfl))) (bgs_cons (bg_name (pg_name (i := 5) sc.nd rfl (by first | exact Or.inl rfl | exact Or.inr rfl))) bgs_nil)))) (bss_cons (bs_setOf (ps_set (i := 2) sc.nd rfl (by first | exact Or.inl rfl | exact Or.inr rfl) (be_lstO ba_nil))) (bss_cons (bs_for PassesOwn.never rfl (bi_rng1Of (pi_range1 rfl x.f_range (ba_cons (be_op bo_addX (be_int) (be_call0 O__law_draw (hr.mono (by decide)) rfl x.g__law_draw (ba_cons (be_var (pv 0)) (ba_cons (be_var (pv 1)) ba_nil)))) ba_nil))) (bg_name (pg_name (i := 3) sc.nd rfl (by first | exact Or.inl rfl | exact Or.inr rfl))) (bss_cons (bs_setOf (ps_set (i := 6) sc.nd rfl (by first | exact Or.inl rfl | exact Or.inr rfl) (be_call0 O__law_draw (hr.mono (by decide)) rfl x.g__law_draw (ba_cons (be_var (pv 0)) (ba_cons (be_int) ba_nil))))) (bss_cons (bs_setOf (ps_set (i := 7) sc.nd rfl (by first | exact Or.inl rfl | exact Or.inr rfl) (be_joinOf (pe_join (be_str) (be_lcOf (cg_n (by decide)) (pe_lc (own := [("k", 10)]) rfl sc.nd (bi_rng1Of (pi_range1 rfl x.f_range (ba_cons (be_op bo_addX (be_int) (be_call0 O__law_draw (hr.mono (by decide)) rfl x.g__law_draw (ba_cons (be_var (pv 0)) (ba_cons (be_int) ba_nil)))) ba_nil))) (blkOk_by (N := ["well", "many", "names", "turn", "letters", "words", "way", "name", "old", "spot", "k"]) (sc := defScope s__law_names) (by decide +kernel)) (fun _ _ _ _ _ => pg_name (i := 10) sc.nd rfl (Or.inl rfl)) (fun _ _ _ _ _ => pts_yes) (fun _ _ _ _ _ => be_call0 O__law_pick (hr.mono (by decide)) rfl x.g__law_pick (ba_cons (be_var (pv 0)) (ba_cons (be_var (pv 4)) ba_nil))))))))) (bss_cons (bs_if (bt_cmp (bo_eq hr.units) (nomark _) (be_var (pv 6)) (be_int)) (bss_one (bs_setOf (ps_set (i := 7) sc.nd rfl (by first | exact Or.inl rfl | exact Or.inr rfl) (be_call0 O__law_pick (hr.mono (by decide)) rfl x.g__law_pick (ba_cons (be_var (pv 0)) (ba_cons (be_var (pv 5)) ba_nil)))))) (bss_one (bs_if (bw_pt (bw_and (bt_cmp (bo_eq hr.units) (nomark _) (be_var (pv 6)) (be_int)) (bw_and1 (bt_cmp (bo_ne hr.units) (nomark _) (be_var (pv 2)) (be_lstV ba_nil))))) (bss_cons (bs_setOf (ps_set (i := 8) sc.nd rfl (by first | exact Or.inl rfl | exact Or.inr rfl) (be_call0 O__law_pick (hr.mono (by decide)) rfl x.g__law_pick (ba_cons (be_var (pv 0)) (ba_cons (be_var (pv 2)) ba_nil))))) (bss_cons (bs_setOf (ps_set (i := 9) sc.nd rfl (by first | exact Or.inl rfl | exact Or.inr rfl) (be_call0 O__law_draw (hr.mono (by decide)) rfl x.g__law_draw (ba_cons (be_var (pv 0)) (ba_cons (be_op bo_addX (be_cbOf (pe_callB bc_lenX rfl x.f_len (by decide +kernel) (ba_cons (be_var (pv 8)) ba_nil))) (be_int)) ba_nil))))) (bss_one (bs_setOf (ps_set (i := 7) sc.nd rfl (by first | exact Or.inl rfl | exact Or.inr rfl) (be_slice bsl (be_op bo_addX (be_op bo_addX (be_slice bsl (be_var (pv 8)) bo_none (bo_some (be_var (pv 9)))) (be_ix bix (be_var (pv 7)) (be_int))) (be_slice bsl (be_var (pv 8)) (bo_some (be_op bo_addX (be_var (pv 9)) (be_call0 O__law_draw (hr.mono (by decide)) rfl x.g__law_draw (ba_cons (be_var (pv 0)) (ba_cons (be_int) ba_nil))))) bo_none)) bo_none (bo_some (be_int)))))))) (bss_nil)))) (bss_one (bs_if (bt_cmp (bo_notIn (hu65 hr)) (by rfl) (be_var (pv 7)) (be_var (pv 2))) (bss_one (bs_expr (be_bmOf (pe_bm PySem.F.plainAttrs_list PySem.F.slot_list_append PySem.F.type_list_append bm_append (be_var (pv 2)) (ba_cons (be_var (pv 7)) ba_nil))))) (bss_nil))))))) (bss_one (bs_ret (be_var (pv 2))))))) pure__law_names
theorem ok__law_stand (x : Fx K mg) (O_Book_desks : Ok P w K mg base 1 ("Book", some "desks") ["self"] sp_Book_desks) (O_Book_rules : Ok P w K mg base 1 ("Book", some "rules") ["self"] sp_Book_rules) (O_Desk___contains__ : Ok P w K mg base 2 ("Desk", some "__contains__") ["self", "person"] sp_Desk___contains__) (O_Desk___len__ : Ok P w K mg base 1 ("Desk", some "__len__") ["self"] sp_Desk___len__) (O_Desk_at : Ok P w K mg base 2 ("Desk", some "at") ["self", "name"] sp_Desk_at) (O_Desk_book : OkA P w K mg base 1 (gA K "Desk" "book" 0) ["self"] sp_Desk_book) (O_Desk_people : Ok P w K mg base 1 ("Desk", some "people") ["self"] sp_Desk_people) (O_Desk_replies : OkA P w K mg base 1 (gA K "Desk" "replies" 0) ["self"] sp_Desk_replies) (O_Desk_ticket : Ok P w K mg base 2 ("Desk", some "ticket") ["self", "person"] sp_Desk_ticket) : Ok P w K mg base 3 ("_law_stand", none) ["house", "desks", "names"] sp__law_stand := by
  have sc := sc__law_stand
  exact ok_def x.F__law_stand sc (fun _ _ _ _ _ _ us hl => match us, hl with | [_, _, _], _ => rfl) len__law_stand (fun cdv A outer s H E hr =>
    show BSs _ _ _ t__law_stand from bss_cons (bs_setOf (ps_set (i := 3) sc.nd rfl (by first | exact Or.inl rfl | exact Or.inr rfl) (be_lstO (ba_cons (be_meth00 (c := .desk) O_Desk_people (hr.mono (by decide)) x.c_desk x.h_Desk_people (by decide +kernel) (be_var (pv 0))) (ba_cons (be_cbOf (pe_callB (bc_lenOwn (c := .desk) O_Desk___len__ (hr.mono (by decide)) x.h_Desk___len__) rfl x.f_len (by decide +kernel) (ba_cons (be_var (pv 0)) ba_nil))) (ba_cons (be_prop0 x.p_replies O_Desk_replies (hr.mono (by decide)) x.c_desk (be_var (pv 0)) rfl) (ba_cons (be_meth00 (c := .book) O_Book_rules (hr.mono (by decide)) x.c_book x.h_Book_rules (by decide +kernel) (be_prop0 x.p_book O_Desk_book (hr.mono (by decide)) x.c_desk (be_var (pv 0)) rfl)) (ba_cons (be_meth00 (c := .book) O_Book_desks (hr.mono (by decide)) x.c_book x.h_Book_desks (by decide +kernel) (be_prop0 x.p_book O_Desk_book (hr.mono (by decide)) x.c_desk (be_var (pv 0)) rfl)) ba_nil)))))))) (bss_cons (bs_for PassesOwn.never rfl (bi_seq (be_var (pv 2))) (bg_name (pg_name (i := 4) sc.nd rfl (by first | exact Or.inl rfl | exact Or.inr rfl))) (bss_one (bs_expr (be_bmOf (pe_bm PySem.F.plainAttrs_list PySem.F.slot_list_append PySem.F.type_list_append bm_append (be_var (pv 3)) (ba_cons (be_if (bt_cmp (bo_inOwn O_Desk___contains__ (hr.mono (by decide)) x.h_Desk___contains__) (by rfl) (be_var (pv 4)) (be_var (pv 0))) (be_meth0 (c := .desk) O_Desk_ticket (hr.mono (by decide)) x.c_desk x.h_Desk_ticket (by decide +kernel) (be_var (pv 0)) (ba_cons (be_var (pv 4)) ba_nil)) (be_non)) ba_nil)))))) (bss_one (bs_ret (be_op bo_addX (be_var (pv 3)) (be_lcOf (cg_n (by decide)) (pe_lc (own := [("place", 5)]) rfl sc.nd (bi_seq (be_var (pv 1))) (blkOk_by (N := ["house", "desks", "names", "found", "name", "place"]) (sc := defScope s__law_stand) (by decide +kernel)) (fun _ _ _ _ _ => pg_name (i := 5) sc.nd rfl (Or.inl rfl)) (fun _ _ _ _ _ => pts_yes) (fun _ _ _ _ _ => be_meth0 (c := .desk) O_Desk_at (hr.mono (by decide)) x.c_desk x.h_Desk_at (by decide +kernel) (be_var (pv 0)) (ba_cons (be_var (pv 5)) ba_nil))))))))) pure__law_stand
theorem ok__law_test (x : Fx K mg) (O__law_draw : Ok P w K mg base 1 ("_law_draw", none) ["well", "many"] sp__law_draw) (O__law_pick : Ok P w K mg base 2 ("_law_pick", none) ["well", "row"] sp__law_pick) : Ok P w K mg base 3 ("_law_test", none) ["well", "desks"] sp__law_test := by
  have sc := sc__law_test
  exact ok_def x.F__law_test sc (fun _ _ _ _ _ _ us hl => match us, hl with | [_, _], _ => rfl) len__law_test (fun cdv A outer s H E hr =>
    show BSs _ _ _ t__law_test from bss_cons (bs_par (ps_par (i := 2) (j := 3) rfl sc.nd rfl rfl (by decide) rfl rfl (ba_cons (be_call0 O__law_draw (hr.mono (by decide)) rfl x.g__law_draw (ba_cons (be_var (pv 0)) (ba_cons (be_int) ba_nil))) (ba_cons (be_cmp (bo_eq hr.units) (nomark _) (be_call0 O__law_draw (hr.mono (by decide)) rfl x.g__law_draw (ba_cons (be_var (pv 0)) (ba_cons (be_int) ba_nil))) (be_int)) ba_nil)) (by rfl))) (bss_cons (bs_if (bt_cmp (bo_eq hr.units) (nomark _) (be_var (pv 2)) (be_int)) (bss_one (bs_ret (be_tup (ba_cons (be_str) (ba_cons (be_call0 O__law_pick (hr.mono (by decide)) rfl x.g__law_pick (ba_cons (be_var (pv 0)) (ba_cons (be_lstV (ba_cons (be_str) (ba_cons (be_str) (ba_cons (be_str) (ba_cons (be_str) ba_nil))))) ba_nil))) (ba_cons (be_var (pv 3)) ba_nil)))))) (bss_nil)) (bss_cons (bs_if (bt_cmp (bo_eq hr.units) (nomark _) (be_var (pv 2)) (be_int)) (bss_one (bs_ret (be_tup (ba_cons (be_str) (ba_cons (be_call0 O__law_pick (hr.mono (by decide)) rfl x.g__law_pick (ba_cons (be_var (pv 0)) (ba_cons (be_var (pv 1)) ba_nil))) (ba_cons (be_var (pv 3)) ba_nil)))))) (bss_nil)) (bss_cons (bs_if (bt_cmp (bo_eq hr.units) (nomark _) (be_var (pv 2)) (be_int)) (bss_one (bs_ret (be_tup (ba_cons (be_str) (ba_cons (be_ix bix (be_lstV (ba_cons (be_int) (ba_cons (be_int) (ba_cons (be_int) (ba_cons (be_op bo_addX (be_int) (be_call0 O__law_draw (hr.mono (by decide)) rfl x.g__law_draw (ba_cons (be_var (pv 0)) (ba_cons (be_int) ba_nil)))) ba_nil))))) (be_call0 O__law_draw (hr.mono (by decide)) rfl x.g__law_draw (ba_cons (be_var (pv 0)) (ba_cons (be_int) ba_nil)))) ba_nil))))) (bss_nil)) (bss_one (bs_ret (be_tup (ba_cons (be_ix bix (be_lstV (ba_cons (be_str) (ba_cons (be_str) ba_nil))) (be_op bo_sub (be_var (pv 2)) (be_int))) (ba_cons (be_var (pv 3)) ba_nil))))))))) pure__law_test
theorem ok_is_rule (x : Fx K mg) (O_is_action : Ok P w K mg base 1 ("is_action", none) ["desks", "thing"] sp_is_action) (O_is_test : Ok P w K mg base 2 ("is_test", none) ["desks", "thing"] sp_is_test) : Ok P w K mg base 3 ("is_rule", none) ["desks", "thing"] sp_is_rule := by
  have sc := sc_is_rule
  exact ok_def x.F_is_rule sc (fun _ _ _ _ _ _ us hl => match us, hl with | [_, _], _ => rfl) len_is_rule (fun cdv A outer s H E hr =>
    show BSs _ _ _ t_is_rule from bss_cons (bs_if (bw_pt (bw_or (bt_not (bt_val (be_cbOf (pe_callB (bc_isi .tup) rfl x.f_isinstance (by decide +kernel) (ba_cons (be_var (pv 1)) (ba_cons (be_const (pe_bltn (v := .ty "tuple") rfl x.f_tuple (by decide +kernel) rfl) (fun _ _ => .ty "tuple")) ba_nil)))))) (bw_or1 (bt_cmp (bo_ne hr.units) (nomark _) (be_cbOf (pe_callB bc_lenX rfl x.f_len (by decide +kernel) (ba_cons (be_var (pv 1)) ba_nil))) (be_int))))) (bss_one (bs_ret (be_bl))) (bss_nil)) (bss_cons (bs_asg (be_var (pv 1)) (bg_tup rfl (bgs_cons (bg_name (pg_name (i := 2) sc.nd rfl (by first | exact Or.inl rfl | exact Or.inr rfl))) (bgs_cons (bg_name (pg_name (i := 3) sc.nd rfl (by first | exact Or.inl rfl | exact Or.inr rfl))) (bgs_cons (bg_name (pg_name (i := 4) sc.nd rfl (by first | exact Or.inl rfl | exact Or.inr rfl))) bgs_nil))))) (bss_cons (bs_if (bw_pt (bw_or (bt_cmp (bo_notIn (hu65 hr)) (by rfl) (be_var (pv 2)) (be_kg x.k_EVENTS rfl)) (bw_or (bt_not (bt_val (be_cbOf (pe_callB (bc_isi .tup) rfl x.f_isinstance (by decide +kernel) (ba_cons (be_var (pv 3)) (ba_cons (be_const (pe_bltn (v := .ty "tuple") rfl x.f_tuple (by decide +kernel) rfl) (fun _ _ => .ty "tuple")) ba_nil)))))) (bw_or1 (bt_not (bt_val (be_cbOf (pe_callB (bc_isi .tup) rfl x.f_isinstance (by decide +kernel) (ba_cons (be_var (pv 4)) (ba_cons (be_const (pe_bltn (v := .ty "tuple") rfl x.f_tuple (by decide +kernel) rfl) (fun _ _ => .ty "tuple")) ba_nil)))))))))) (bss_one (bs_ret (be_bl))) (bss_nil)) (bss_cons (bs_if (bw_pt (bw_or (bt_cmp bo_gt (nomark _) (be_cbOf (pe_callB bc_lenX rfl x.f_len (by decide +kernel) (ba_cons (be_var (pv 3)) ba_nil))) (be_kg x.k_MOST_TESTS rfl)) (bw_or1 (bt_not (bt_chainOf (pt_chain bo_le bo_le (be_int) (be_cbOf (pe_callB bc_lenX rfl x.f_len (by decide +kernel) (ba_cons (be_var (pv 4)) ba_nil))) (be_kg x.k_MOST_ACTIONS rfl))))))) (bss_one (bs_ret (be_bl))) (bss_nil)) (bss_cons (bs_if (bt_not (bt_val (be_cbOf (pe_callB (bc_all rfl) rfl x.f_all (by decide +kernel) (ba_cons (be_lcOf (cg_n (by decide)) (pe_lc (own := [("test", 6)]) rfl sc.nd (bi_seq (be_var (pv 3))) (blkOk_by (N := ["desks", "thing", "event", "tests", "actions", "action", "test"]) (sc := defScope s_is_rule) (by decide +kernel)) (fun _ _ _ _ _ => pg_name (i := 6) sc.nd rfl (Or.inl rfl)) (fun _ _ _ _ _ => pts_yes) (fun _ _ _ _ _ => be_call0 O_is_test (hr.mono (by decide)) rfl x.g_is_test (ba_cons (be_var (pv 0)) (ba_cons (be_var (pv 6)) ba_nil))))) ba_nil))))) (bss_one (bs_ret (be_bl))) (bss_nil)) (bss_one (bs_ret (be_cbOf (pe_callB (bc_all rfl) rfl x.f_all (by decide +kernel) (ba_cons (be_lcOf (cg_n (by decide)) (pe_lc (own := [("action", 5)]) rfl sc.nd (bi_seq (be_var (pv 4))) (blkOk_by (N := ["desks", "thing", "event", "tests", "actions", "action", "test"]) (sc := defScope s_is_rule) (by decide +kernel)) (fun _ _ _ _ _ => pg_name (i := 5) sc.nd rfl (Or.inl rfl)) (fun _ _ _ _ _ => pts_yes) (fun _ _ _ _ _ => be_call0 O_is_action (hr.mono (by decide)) rfl x.g_is_action (ba_cons (be_var (pv 0)) (ba_cons (be_var (pv 5)) ba_nil))))) ba_nil)))))))))) pure_is_rule
theorem ok_Book___init__ (x : Fx K mg) (O_are_desks : Ok P w K mg base 2 ("are_desks", none) ["thing"] sp_are_desks) (O_is_rule : Ok P w K mg base 3 ("is_rule", none) ["desks", "thing"] sp_is_rule) : Ok P w K mg base 4 ("Book", some "__init__") ["self", "desks", "rules"] sp_Book___init__ := by
  have sc := sc_Book___init__
  exact ok_def x.F_Book___init__ sc (fun _ _ _ _ _ _ us hl => match us, hl with | [_, _, _], _ => rfl) len_Book___init__ (fun cdv A outer s H E hr =>
    show BSs _ _ _ t_Book___init__ from bss_cons (bs_if (bt_not (bt_val (be_call0 O_are_desks (hr.mono (by decide)) rfl x.g_are_desks (ba_cons (be_var (pv 1)) ba_nil)))) (bss_one (bs_never)) (bss_nil)) (bss_cons (bs_if (bt_not (bt_val (be_cbOf (pe_callB (bc_isi .tup) rfl x.f_isinstance (by decide +kernel) (ba_cons (be_var (pv 2)) (ba_cons (be_const (pe_bltn (v := .ty "tuple") rfl x.f_tuple (by decide +kernel) rfl) (fun _ _ => .ty "tuple")) ba_nil)))))) (bss_one (bs_never)) (bss_nil)) (bss_cons (bs_for PassesOwn.never rfl (bi_enumTOf (pi_enumT rfl x.f_enumerate (ba_cons (be_var (pv 2)) ba_nil))) (bg_tup rfl (bgs_cons (bg_name (pg_name (i := 3) sc.nd rfl (by first | exact Or.inl rfl | exact Or.inr rfl))) (bgs_cons (bg_name (pg_name (i := 4) sc.nd rfl (by first | exact Or.inl rfl | exact Or.inr rfl))) bgs_nil))) (bss_one (bs_if (bw_pt (bw_or (bt_cmp bo_ge (nomark _) (be_var (pv 3)) (be_kg x.k_MOST_RULES rfl)) (bw_or1 (bt_not (bt_val (be_call0 O_is_rule (hr.mono (by decide)) rfl x.g_is_rule (ba_cons (be_var (pv 1)) (ba_cons (be_var (pv 4)) ba_nil)))))))) (bss_one (bs_never)) (bss_nil)))) (bss_cons (bs_asg (be_var (pv 1)) (bg_fld x.c_book x.n_desk_names rfl (be_var (pv 0)))) (bss_one (bs_asg (be_var (pv 2)) (bg_fld x.c_book x.n_rule_row rfl (be_var (pv 0))))))))) pure_Book___init__
theorem ok_TicketWork_handle_all (x : Fx K mg) (O_TicketWork_handle : Ok P w K mg base 3 ("TicketWork", some "handle") ["self", "event"] sp_TicketWork_handle) : Ok P w K mg base 4 ("TicketWork", some "handle_all") ["self"] sp_TicketWork_handle_all := by
  have sc := sc_TicketWork_handle_all
  exact ok_def x.F_TicketWork_handle_all sc (fun _ _ _ _ _ _ us hl => match us, hl with | [_], _ => rfl) len_TicketWork_handle_all (fun cdv A outer s H E hr =>
    show BSs _ _ _ t_TicketWork_handle_all from bss_cons (bs_setOf (ps_set (i := 1) sc.nd rfl (by first | exact Or.inl rfl | exact Or.inr rfl) (be_int))) (bss_one (bs_while PassesOwn.never (bt_cmp (bo_ne hr.units) (nomark _) (be_fld x.c_work x.n_row rfl (be_var (pv 0)) rfl) (be_lstV ba_nil)) (bss_one (bs_if (bt_cmp (bo_eq hr.units) (nomark _) (be_var (pv 1)) (be_kg x.k_MOST_EVENTS rfl)) (bss_cons (bs_asg (be_bl) (bg_fld x.c_work x.n_is_endless rfl (be_var (pv 0)))) (bss_one (bs_asg (be_lstO ba_nil) (bg_fld x.c_work x.n_row rfl (be_var (pv 0)))))) (bss_cons (bs_setOf (ps_set (i := 2) sc.nd rfl (by first | exact Or.inl rfl | exact Or.inr rfl) (be_bmOf (pe_bm PySem.F.plainAttrs_list PySem.F.slot_list_pop PySem.F.type_list_pop bm_pop0 (be_fld x.c_work x.n_row rfl (be_var (pv 0)) rfl) (ba_cons (be_int) ba_nil))))) (bss_cons (bs_augOf (ps_aug (i := 1) sc.nd rfl (by first | exact Or.inl rfl | exact Or.inr rfl) (be_int) ipop_add)) (bss_one (bs_expr (be_meth0 (c := .work) O_TicketWork_handle (hr.mono (by decide)) x.c_work x.h_TicketWork_handle (by decide +kernel) (be_var (pv 0)) (ba_cons (be_var (pv 2)) ba_nil))))))))))) pure_TicketWork_handle_all
theorem ok__law_next (x : Fx K mg) (O__law_deed : Ok P w K mg base 3 ("_law_deed", none) ["well", "desks"] sp__law_deed) (O__law_draw : Ok P w K mg base 1 ("_law_draw", none) ["well", "many"] sp__law_draw) (O__law_pick : Ok P w K mg base 2 ("_law_pick", none) ["well", "row"] sp__law_pick) : Ok P w K mg base 4 ("_law_next", none) ["well", "plans", "desks", "names", "calls"] sp__law_next := by
  have sc := sc__law_next
  exact ok_def x.F__law_next sc (fun _ _ _ _ _ _ us hl => match us, hl with | [_, _, _, _, _], _ => rfl) len__law_next (fun cdv A outer s H E hr =>
    show BSs _ _ _ t__law_next from bss_cons (bs_setOf (ps_set (i := 5) sc.nd rfl (by first | exact Or.inl rfl | exact Or.inr rfl) (be_call0 O__law_draw (hr.mono (by decide)) rfl x.g__law_draw (ba_cons (be_var (pv 0)) (ba_cons (be_int) ba_nil))))) (bss_cons (bs_if (bt_cmp (bo_eq hr.units) (nomark _) (be_var (pv 5)) (be_int)) (bss_one (bs_ret (be_tup (ba_cons (be_str) (ba_cons (be_non) (ba_cons (be_non) ba_nil)))))) (bss_nil)) (bss_cons (bs_if (bt_cmp (bo_eq hr.units) (nomark _) (be_var (pv 5)) (be_int)) (bss_one (bs_ret (be_tup (ba_cons (be_str) (ba_cons (be_call0 O__law_pick (hr.mono (by decide)) rfl x.g__law_pick (ba_cons (be_var (pv 0)) (ba_cons (be_var (pv 1)) ba_nil))) (ba_cons (be_non) ba_nil)))))) (bss_nil)) (bss_cons (bs_par (ps_par (i := 6) (j := 7) rfl sc.nd rfl rfl (by decide) rfl rfl (ba_cons (be_call0 O__law_pick (hr.mono (by decide)) rfl x.g__law_pick (ba_cons (be_var (pv 0)) (ba_cons (be_var (pv 3)) ba_nil))) (ba_cons (be_call0 O__law_deed (hr.mono (by decide)) rfl x.g__law_deed (ba_cons (be_var (pv 0)) (ba_cons (be_var (pv 2)) ba_nil))) ba_nil)) (by rfl))) (bss_cons (bs_if (bt_cmp (bo_notIn (hu65 hr)) (by rfl) (be_var (pv 6)) (be_lcWOf (cg_n (by decide)) (pe_lc (own := [("call", 8)]) rfl sc.nd (pi_own (be_var (pv 4))) (blkOk_by (N := ["well", "plans", "desks", "names", "calls", "way", "name", "act", "call"]) (sc := defScope s__law_next) (by decide +kernel)) (fun _ _ _ _ _ => pg_name (i := 8) sc.nd rfl (Or.inl rfl)) (fun _ _ _ _ _ => pts_one (bt_cmp (bo_eq hr.units) (nomark _) (be_ix bix (be_var (pv 8)) (be_int)) (be_str))) (fun _ _ _ _ _ => be_ix bix (be_var (pv 8)) (be_int))))) (bss_one (bs_setOf (ps_set (i := 7) sc.nd rfl (by first | exact Or.inl rfl | exact Or.inr rfl) (be_tup (ba_cons (be_str) ba_nil))))) (bss_nil)) (bss_one (bs_ret (be_tup (ba_cons (be_str) (ba_cons (be_var (pv 6)) (ba_cons (be_var (pv 7)) ba_nil))))))))))) pure__law_next
theorem ok__law_rules (x : Fx K mg) (O__law_action : Ok P w K mg base 3 ("_law_action", none) ["well", "desks"] sp__law_action) (O__law_draw : Ok P w K mg base 1 ("_law_draw", none) ["well", "many"] sp__law_draw) (O__law_pick : Ok P w K mg base 2 ("_law_pick", none) ["well", "row"] sp__law_pick) (O__law_test : Ok P w K mg base 3 ("_law_test", none) ["well", "desks"] sp__law_test) : Ok P w K mg base 4 ("_law_rules", none) ["well", "desks", "most"] sp__law_rules := by
  have sc := sc__law_rules
  exact ok_def x.F__law_rules sc (fun _ _ _ _ _ _ us hl => match us, hl with | [_, _, _], _ => rfl) len__law_rules (fun cdv A outer s H E hr =>
    show BSs _ _ _ t__law_rules from bss_cons (bs_setOf (ps_set (i := 3) sc.nd rfl (by first | exact Or.inl rfl | exact Or.inr rfl) (be_lstO ba_nil))) (bss_cons (bs_for PassesOwn.never rfl (bi_rng1Of (pi_range1 rfl x.f_range (ba_cons (be_call0 O__law_draw (hr.mono (by decide)) rfl x.g__law_draw (ba_cons (be_var (pv 0)) (ba_cons (be_op bo_addX (be_var (pv 2)) (be_int)) ba_nil))) ba_nil))) (bg_name (pg_name (i := 4) sc.nd rfl (by first | exact Or.inl rfl | exact Or.inr rfl))) (bss_cons (bs_setOf (ps_set (i := 5) sc.nd rfl (by first | exact Or.inl rfl | exact Or.inr rfl) (be_call0 O__law_pick (hr.mono (by decide)) rfl x.g__law_pick (ba_cons (be_var (pv 0)) (ba_cons (be_lstV (ba_cons (be_str) (ba_cons (be_str) (ba_cons (be_str) (ba_cons (be_str) (ba_cons (be_str) (ba_cons (be_str) (ba_cons (be_str) ba_nil)))))))) ba_nil))))) (bss_cons (bs_setOf (ps_set (i := 6) sc.nd rfl (by first | exact Or.inl rfl | exact Or.inr rfl) (be_lstV (ba_cons (be_call0 O__law_draw (hr.mono (by decide)) rfl x.g__law_draw (ba_cons (be_var (pv 0)) (ba_cons (be_int) ba_nil))) (ba_cons (be_op bo_addX (be_int) (be_call0 O__law_draw (hr.mono (by decide)) rfl x.g__law_draw (ba_cons (be_var (pv 0)) (ba_cons (be_int) ba_nil)))) ba_nil))))) (bss_cons (bs_if (bt_cmp (bo_eq hr.units) (nomark _) (be_call0 O__law_draw (hr.mono (by decide)) rfl x.g__law_draw (ba_cons (be_var (pv 0)) (ba_cons (be_int) ba_nil))) (be_int)) (bss_one (bs_setOf (ps_set (i := 6) sc.nd rfl (by first | exact Or.inl rfl | exact Or.inr rfl) (be_lstV (ba_cons (be_int) (ba_cons (be_int) ba_nil)))))) (bss_nil)) (bss_cons (bs_setOf (ps_set (i := 7) sc.nd rfl (by first | exact Or.inl rfl | exact Or.inr rfl) (be_cbOf (pe_callTy bc_tuple rfl x.f_tuple (by decide +kernel) (ba_cons (be_lcOf (cg_n (by decide)) (pe_lc (own := [("k", 8)]) rfl sc.nd (bi_rng1Of (pi_range1 rfl x.f_range (ba_cons (be_ix bix (be_var (pv 6)) (be_int)) ba_nil))) (blkOk_by (N := ["well", "desks", "most", "found", "turn", "event", "many", "tests", "k"]) (sc := defScope s__law_rules) (by decide +kernel)) (fun _ _ _ _ _ => pg_name (i := 8) sc.nd rfl (Or.inl rfl)) (fun _ _ _ _ _ => pts_yes) (fun _ _ _ _ _ => be_call0 O__law_test (hr.mono (by decide)) rfl x.g__law_test (ba_cons (be_var (pv 0)) (ba_cons (be_var (pv 1)) ba_nil))))) ba_nil))))) (bss_one (bs_expr (be_bmOf (pe_bm PySem.F.plainAttrs_list PySem.F.slot_list_append PySem.F.type_list_append bm_append (be_var (pv 3)) (ba_cons (be_tup (ba_cons (be_var (pv 5)) (ba_cons (be_var (pv 7)) (ba_cons (be_cbOf (pe_callTy bc_tuple rfl x.f_tuple (by decide +kernel) (ba_cons (be_lcOf (cg_n (by decide)) (pe_lc (own := [("k", 8)]) rfl sc.nd (bi_rng1Of (pi_range1 rfl x.f_range (ba_cons (be_ix bix (be_var (pv 6)) (be_int)) ba_nil))) (blkOk_by (N := ["well", "desks", "most", "found", "turn", "event", "many", "tests", "k"]) (sc := defScope s__law_rules) (by decide +kernel)) (fun _ _ _ _ _ => pg_name (i := 8) sc.nd rfl (Or.inl rfl)) (fun _ _ _ _ _ => pts_yes) (fun _ _ _ _ _ => be_call0 O__law_action (hr.mono (by decide)) rfl x.g__law_action (ba_cons (be_var (pv 0)) (ba_cons (be_var (pv 1)) ba_nil))))) ba_nil))) ba_nil)))) ba_nil)))))))))) (bss_one (bs_ret (be_cbOf (pe_callTy bc_tuple rfl x.f_tuple (by decide +kernel) (ba_cons (be_var (pv 3)) ba_nil))))))) pure__law_rules
theorem ok_TicketWork___init__ (x : Fx K mg) (O_TicketWork_handle_all : Ok P w K mg base 4 ("TicketWork", some "handle_all") ["self"] sp_TicketWork_handle_all) (O_TicketWork_start : Ok P w K mg base 2 ("TicketWork", some "start") ["self", "deed", "is_new"] sp_TicketWork_start) : Ok P w K mg base 5 ("TicketWork", some "__init__") ["self", "book", "before", "deed"] sp_TicketWork___init__ := by
  have sc := sc_TicketWork___init__
  exact ok_def x.F_TicketWork___init__ sc (fun _ _ _ _ _ _ us hl => match us, hl with | [_, _, _, _], _ => rfl) len_TicketWork___init__ (fun cdv A outer s H E hr =>
    show BSs _ _ _ t_TicketWork___init__ from bss_cons (bs_asg (be_var (pv 1)) (bg_fld x.c_work x.n_plan rfl (be_var (pv 0)))) (bss_cons (bs_asg (be_orTOf (pe_orT (be_var (pv 2)) (pe_one (be_tup (ba_cons (be_str) (ba_cons (be_str) (ba_cons (be_bl) (ba_cons (be_int) (ba_cons (be_bl) ba_nil))))))))) (bg_tup rfl (bgs_cons (bg_fld x.c_work x.n_phase rfl (be_var (pv 0))) (bgs_cons (bg_fld x.c_work x.n_place rfl (be_var (pv 0))) (bgs_cons (bg_fld x.c_work x.n_is_answered rfl (be_var (pv 0))) (bgs_cons (bg_fld x.c_work x.n_waited rfl (be_var (pv 0))) (bgs_cons (bg_fld x.c_work x.n_is_marked rfl (be_var (pv 0))) bgs_nil))))))) (bss_cons (bs_asg (be_lstO ba_nil) (bg_fld x.c_work x.n_row rfl (be_var (pv 0)))) (bss_cons (bs_asg (be_lstO ba_nil) (bg_fld x.c_work x.n_acted rfl (be_var (pv 0)))) (bss_cons (bs_asg (be_int) (bg_fld x.c_work x.n_sent rfl (be_var (pv 0)))) (bss_cons (bs_asg (be_int) (bg_fld x.c_work x.n_sent_again rfl (be_var (pv 0)))) (bss_cons (bs_asg (be_bl) (bg_fld x.c_work x.n_is_shut rfl (be_var (pv 0)))) (bss_cons (bs_asg (be_bl) (bg_fld x.c_work x.n_is_endless rfl (be_var (pv 0)))) (bss_cons (bs_expr (be_meth0 (c := .work) O_TicketWork_start (hr.mono (by decide)) x.c_work x.h_TicketWork_start (by decide +kernel) (be_var (pv 0)) (ba_cons (be_var (pv 3)) (ba_cons (be_cmp bo_isN (nomark _) (be_var (pv 2)) (be_non)) ba_nil)))) (bss_one (bs_expr (be_meth00 (c := .work) O_TicketWork_handle_all (hr.mono (by decide)) x.c_work x.h_TicketWork_handle_all (by decide +kernel) (be_var (pv 0)))))))))))))) pure_TicketWork___init__
theorem ok_Desk_work_at (x : Fx K mg) (O_TicketWork___init__ : Ok P w K mg base 5 ("TicketWork", some "__init__") ["self", "book", "before", "deed"] sp_TicketWork___init__) (O_TicketWork_told : Ok P w K mg base 1 ("TicketWork", some "told") ["self"] sp_TicketWork_told) (O_report_of : Ok P w K mg base 2 ("report_of", none) ["work"] sp_report_of) : Ok P w K mg base 7 ("Desk", some "work_at") ["self", "person", "deed"] sp_Desk_work_at := by
  have sc := sc_Desk_work_at
  exact ok_def x.F_Desk_work_at sc (fun _ _ _ _ _ _ us hl => match us, hl with | [_, _, _], _ => rfl) len_Desk_work_at (fun cdv A outer s H E hr =>
    show BSs _ _ _ t_Desk_work_at from bss_cons (bs_setOf (ps_set (i := 3) sc.nd rfl (by first | exact Or.inl rfl | exact Or.inr rfl) (be_make0 (c := .work) O_TicketWork___init__ (hr.mono (by decide)) x.m_TicketWork (by decide) rfl x.g_TicketWork (ba_cons (be_fld x.c_desk x.n_rulebook rfl (be_var (pv 0)) rfl) (ba_cons (be_dget1Of (pe_dget1 (hu_of hr) (be_fld x.c_desk x.n_tickets rfl (be_var (pv 0)) rfl) (be_var (pv 1)) ⟨rfl, rfl, rfl, rfl⟩)) (ba_cons (be_var (pv 2)) ba_nil)))))) (bss_cons (bs_asg (be_meth00 (c := .work) O_TicketWork_told (hr.mono (by decide)) x.c_work x.h_TicketWork_told (by decide +kernel) (be_var (pv 3))) (bg_subOf (pg_sub (be_fld x.c_desk x.n_tickets rfl (be_var (pv 0)) rfl) (be_var (pv 1)) (bset_dict (hu_of hr))))) (bss_cons (bs_fldaug x.c_desk x.n_total rfl (be_var (pv 0)) (be_fld x.c_work x.n_sent rfl (be_var (pv 3)) rfl) inop_add) (bss_one (bs_ret (be_call0 O_report_of (hr.mono (by decide)) rfl x.g_report_of (ba_cons (be_var (pv 3)) ba_nil))))))) pure_Desk_work_at
theorem ok_Desk_day (x : Fx K mg) (O_Desk_people : Ok P w K mg base 1 ("Desk", some "people") ["self"] sp_Desk_people) (O_Desk_remember : Ok P w K mg base 1 ("Desk", some "remember") ["self"] sp_Desk_remember) (O_Desk_work_at : Ok P w K mg base 7 ("Desk", some "work_at") ["self", "person", "deed"] sp_Desk_work_at) : Ok P w K mg base 8 ("Desk", some "day") ["self"] sp_Desk_day := by
  have sc := sc_Desk_day
  exact ok_def x.F_Desk_day sc (fun _ _ _ _ _ _ us hl => match us, hl with | [_], _ => rfl) len_Desk_day (fun cdv A outer s H E hr =>
    show BSs _ _ _ t_Desk_day from bss_cons (bs_expr (be_meth00 (c := .desk) O_Desk_remember (hr.mono (by decide)) x.c_desk x.h_Desk_remember (by decide +kernel) (be_var (pv 0)))) (bss_cons (bs_setOf (ps_set (i := 1) sc.nd rfl (by first | exact Or.inl rfl | exact Or.inr rfl) (be_meth00 (c := .desk) O_Desk_people (hr.mono (by decide)) x.c_desk x.h_Desk_people (by decide +kernel) (be_var (pv 0))))) (bss_one (bs_ret (be_lcOf (cg_n (by decide)) (pe_lc (own := [("person", 2)]) rfl sc.nd (bi_seq (be_var (pv 1))) (blkOk_by (N := ["self", "people", "person"]) (sc := defScope s_Desk_day) (by decide +kernel)) (fun _ _ _ _ _ => pg_name (i := 2) sc.nd rfl (Or.inl rfl)) (fun _ _ _ _ _ => pts_yes) (fun _ _ _ _ _ => be_tup (ba_cons (be_var (pv 2)) (ba_cons (be_meth0 (c := .desk) O_Desk_work_at (hr.mono (by decide)) x.c_desk x.h_Desk_work_at (by decide +kernel) (be_var (pv 0)) (ba_cons (be_var (pv 2)) (ba_cons (be_tup (ba_cons (be_str) ba_nil)) ba_nil))) ba_nil))))))))) pure_Desk_day
theorem ok_Desk_do (x : Fx K mg) (O_Book_desks : Ok P w K mg base 1 ("Book", some "desks") ["self"] sp_Book_desks) (O_Desk_remember : Ok P w K mg base 1 ("Desk", some "remember") ["self"] sp_Desk_remember) (O_Desk_work_at : Ok P w K mg base 7 ("Desk", some "work_at") ["self", "person", "deed"] sp_Desk_work_at) (O_is_deed : Ok P w K mg base 2 ("is_deed", none) ["desks", "thing"] sp_is_deed) (O_is_name : Ok P w K mg base 1 ("is_name", none) ["thing"] sp_is_name) : Ok P w K mg base 8 ("Desk", some "do") ["self", "person", "deed"] sp_Desk_do := by
  have sc := sc_Desk_do
  exact ok_def x.F_Desk_do sc (fun _ _ _ _ _ _ us hl => match us, hl with | [_, _, _], _ => rfl) len_Desk_do (fun cdv A outer s H E hr =>
    show BSs _ _ _ t_Desk_do from bss_cons (bs_if (bt_not (bt_val (be_call0 O_is_name (hr.mono (by decide)) rfl x.g_is_name (ba_cons (be_var (pv 1)) ba_nil)))) (bss_one (bs_never)) (bss_nil)) (bss_cons (bs_if (bt_not (bt_val (be_call0 O_is_deed (hr.mono (by decide)) rfl x.g_is_deed (ba_cons (be_meth00 (c := .book) O_Book_desks (hr.mono (by decide)) x.c_book x.h_Book_desks (by decide +kernel) (be_fld x.c_desk x.n_rulebook rfl (be_var (pv 0)) rfl)) (ba_cons (be_var (pv 2)) ba_nil))))) (bss_one (bs_never)) (bss_nil)) (bss_cons (bs_if (bw_pt (bw_and (bt_dnotinOf (pt_cmp (pc_dnotin (hu_of hr) (be_var (pv 1)) (be_fld x.c_desk x.n_tickets rfl (be_var (pv 0)) rfl)) (by rfl))) (bw_and1 (bt_cmp (bo_ne hr.units) (nomark _) (be_var (pv 2)) (be_tup (ba_cons (be_str) ba_nil)))))) (bss_one (bs_never)) (bss_nil)) (bss_cons (bs_expr (be_meth00 (c := .desk) O_Desk_remember (hr.mono (by decide)) x.c_desk x.h_Desk_remember (by decide +kernel) (be_var (pv 0)))) (bss_one (bs_ret (be_meth0 (c := .desk) O_Desk_work_at (hr.mono (by decide)) x.c_desk x.h_Desk_work_at (by decide +kernel) (be_var (pv 0)) (ba_cons (be_var (pv 1)) (ba_cons (be_var (pv 2)) ba_nil))))))))) pure_Desk_do
theorem ok__law_made (x : Fx K mg) (O_Desk_change : Ok P w K mg base 2 ("Desk", some "change") ["self", "book"] sp_Desk_change) (O_Desk_day : Ok P w K mg base 8 ("Desk", some "day") ["self"] sp_Desk_day) (O_Desk_do : Ok P w K mg base 8 ("Desk", some "do") ["self", "person", "deed"] sp_Desk_do) : Ok P w K mg base 9 ("_law_made", none) ["house", "call"] sp__law_made := by
  have sc := sc__law_made
  exact ok_def x.F__law_made sc (fun _ _ _ _ _ _ us hl => match us, hl with | [_, _], _ => rfl) len__law_made (fun cdv A outer s H E hr =>
    show BSs _ _ _ t__law_made from bss_cons (bs_if (bt_cmp (bo_eq hr.units) (nomark _) (be_ix bix (be_var (pv 1)) (be_int)) (be_str)) (bss_one (bs_ret (be_meth00 (c := .desk) O_Desk_day (hr.mono (by decide)) x.c_desk x.h_Desk_day (by decide +kernel) (be_var (pv 0))))) (bss_nil)) (bss_cons (bs_if (bt_cmp (bo_eq hr.units) (nomark _) (be_ix bix (be_var (pv 1)) (be_int)) (be_str)) (bss_one (bs_ret (be_meth0 (c := .desk) O_Desk_do (hr.mono (by decide)) x.c_desk x.h_Desk_do (by decide +kernel) (be_var (pv 0)) (ba_cons (be_ix bix (be_var (pv 1)) (be_int)) (ba_cons (be_ix bix (be_var (pv 1)) (be_int)) ba_nil))))) (bss_nil)) (bss_one (bs_ret (be_meth0 (c := .desk) O_Desk_change (hr.mono (by decide)) x.c_desk x.h_Desk_change (by decide +kernel) (be_var (pv 0)) (ba_cons (be_ix bix (be_var (pv 1)) (be_int)) ba_nil)))))) pure__law_made
theorem okn__law_same (x : Fx K mg) : ∀ n, Ok P w K mg base (1 + n) ("_law_same", none) ["found", "due"] (spn__law_same n)
  | 0 => by
    have sc := sc__law_same
    exact ok_def (t := sNever) x.F__law_same sc (fun _ _ _ _ _ _ us hl => match us, hl with | [_, _], _ => rfl) (fun _ _ _ _ h => h.elim) (fun cdv A outer s H E hr => bss_never) (fun _ _ _ _ h => h.elim)
  | n + 1 => by
    have sc := sc__law_same
    have ih := okn__law_same x  n
    exact ok_def (k := 1 + n) x.F__law_same sc (fun _ _ _ _ _ _ us hl => match us, hl with | [_, _], _ => rfl) (len__law_same n) (fun cdv A outer s H E hr =>
    show BSs _ _ _ (t__law_same n) from bss_cons (bs_if (bt_val (be_cbOf (pe_callB (bc_isi2 .lst .tup) rfl x.f_isinstance (by decide +kernel) (ba_cons (be_var (pv 1)) (ba_cons (be_tup (ba_cons (be_const (pe_bltn (v := .ty "list") rfl x.f_list (by decide +kernel) rfl) (fun _ _ => .ty "list")) (ba_cons (be_const (pe_bltn (v := .ty "tuple") rfl x.f_tuple (by decide +kernel) rfl) (fun _ _ => .ty "tuple")) ba_nil))) ba_nil))))) (bss_cons (bs_setOf (ps_set (i := 2) sc.nd rfl (by first | exact Or.inl rfl | exact Or.inr rfl) (be_if (bt_val (be_cbOf (pe_callB (bc_isi .lst) rfl x.f_isinstance (by decide +kernel) (ba_cons (be_var (pv 1)) (ba_cons (be_const (pe_bltn (v := .ty "list") rfl x.f_list (by decide +kernel) rfl) (fun _ _ => .ty "list")) ba_nil))))) (be_cbOf (pe_callB (bc_isi .lst) rfl x.f_isinstance (by decide +kernel) (ba_cons (be_var (pv 0)) (ba_cons (be_const (pe_bltn (v := .ty "list") rfl x.f_list (by decide +kernel) rfl) (fun _ _ => .ty "list")) ba_nil)))) (be_cbOf (pe_callB (bc_isi .tup) rfl x.f_isinstance (by decide +kernel) (ba_cons (be_var (pv 0)) (ba_cons (be_const (pe_bltn (v := .ty "tuple") rfl x.f_tuple (by decide +kernel) rfl) (fun _ _ => .ty "tuple")) ba_nil))))))) (bss_cons (bs_if (bw_pt (bw_or (bt_not (bt_val (be_var (pv 2)))) (bw_or1 (bt_cmp (bo_ne hr.units) (nomark _) (be_cbOf (pe_callB bc_lenX rfl x.f_len (by decide +kernel) (ba_cons (be_var (pv 0)) ba_nil))) (be_cbOf (pe_callB bc_lenX rfl x.f_len (by decide +kernel) (ba_cons (be_var (pv 1)) ba_nil))))))) (bss_one (bs_ret (be_bl))) (bss_nil)) (bss_one (bs_ret (be_cbOf (pe_callB (bc_all rfl) rfl x.f_all (by decide +kernel) (ba_cons (be_lcOf (cg_n (by decide)) (pe_lc (own := [("k", 3)]) rfl sc.nd (bi_rng1Of (pi_range1 rfl x.f_range (ba_cons (be_cbOf (pe_callB bc_lenX rfl x.f_len (by decide +kernel) (ba_cons (be_var (pv 1)) ba_nil))) ba_nil))) (blkOk_by (N := ["found", "due", "is_kind", "k"]) (sc := defScope s__law_same) (by decide +kernel)) (fun _ _ _ _ _ => pg_name (i := 3) sc.nd rfl (Or.inl rfl)) (fun _ _ _ _ _ => pts_yes) (fun _ _ _ _ _ => be_call0 ih (hr.mono (by omega)) rfl x.g__law_same (ba_cons (be_ix bix (be_var (pv 0)) (be_var (pv 3))) (ba_cons (be_ix bix (be_var (pv 1)) (be_var (pv 3))) ba_nil))))) ba_nil))))))) (bss_nil)) (bss_cons (bs_if (bt_cmp bo_isN (nomark _) (be_var (pv 1)) (be_non)) (bss_one (bs_ret (be_cmp bo_isN (nomark _) (be_var (pv 0)) (be_non)))) (bss_nil)) (bss_cons (bs_if (bt_val (be_cbOf (pe_callB (bc_isi .str) rfl x.f_isinstance (by decide +kernel) (ba_cons (be_var (pv 1)) (ba_cons (be_const (pe_bltn (v := .ty "str") rfl x.f_str (by decide +kernel) rfl) (fun _ _ => .ty "str")) ba_nil))))) (bss_one (bs_ret (be_and (be_cbOf (pe_callB (bc_isi .str) rfl x.f_isinstance (by decide +kernel) (ba_cons (be_var (pv 0)) (ba_cons (be_const (pe_bltn (v := .ty "str") rfl x.f_str (by decide +kernel) rfl) (fun _ _ => .ty "str")) ba_nil)))) (be_one (be_cmp (bo_eq hr.units) (nomark _) (be_var (pv 0)) (be_var (pv 1))))))) (bss_nil)) (bss_one (bs_ret (be_and (be_cbOf (pe_callB (bc_isi .int) rfl x.f_isinstance (by decide +kernel) (ba_cons (be_var (pv 0)) (ba_cons (be_const (pe_bltn (v := .ty "int") rfl x.f_int (by decide +kernel) rfl) (fun _ _ => .ty "int")) ba_nil)))) (be_and (be_cmp (bo_eq hr.units) (nomark _) (be_cbOf (pe_callB (bc_isi .bl) rfl x.f_isinstance (by decide +kernel) (ba_cons (be_var (pv 0)) (ba_cons (be_const (pe_bltn (v := .ty "bool") rfl x.f_bool (by decide +kernel) rfl) (fun _ _ => .ty "bool")) ba_nil)))) (be_cbOf (pe_callB (bc_isi .bl) rfl x.f_isinstance (by decide +kernel) (ba_cons (be_var (pv 1)) (ba_cons (be_const (pe_bltn (v := .ty "bool") rfl x.f_bool (by decide +kernel) rfl) (fun _ _ => .ty "bool")) ba_nil))))) (be_one (be_cmp (bo_eq hr.units) (nomark _) (be_var (pv 0)) (be_var (pv 1))))))))))) (pure__law_same n)
theorem ok__law_same (x : Fx K mg) : Ok P w K mg base 9 ("_law_same", none) ["found", "due"] sp__law_same := okn__law_same x  8
theorem ok__law_all_back (x : Fx K mg) (O_Desk___init__ : Ok P w K mg base 1 ("Desk", some "__init__") ["self", "book"] sp_Desk___init__) (O_Desk___len__ : Ok P w K mg base 1 ("Desk", some "__len__") ["self"] sp_Desk___len__) (O_Desk_do : Ok P w K mg base 8 ("Desk", some "do") ["self", "person", "deed"] sp_Desk_do) (O__law_same : Ok P w K mg base 9 ("_law_same", none) ["found", "due"] sp__law_same) (O__law_stand : Ok P w K mg base 3 ("_law_stand", none) ["house", "desks", "names"] sp__law_stand) (O__law_undone : Ok P w K mg base 2 ("_law_undone", none) ["house"] sp__law_undone) : Ok P w K mg base 10 ("_law_all_back", none) ["house", "plans", "desks", "names", "calls"] sp__law_all_back := by
  have sc := sc__law_all_back
  exact ok_def x.F__law_all_back sc (fun _ _ _ _ _ _ us hl => match us, hl with | [_, _, _, _, _], _ => rfl) len__law_all_back (fun cdv A outer s H E hr =>
    show BSs _ _ _ t__law_all_back from bss_cons (bs_for PassesOwn.never rfl (bi_rng1Of (pi_range1 rfl x.f_range (ba_cons (be_cbOf (pe_callB bc_lenX rfl x.f_len (by decide +kernel) (ba_cons (be_var (pv 4)) ba_nil))) ba_nil))) (bg_name (pg_name (i := 5) sc.nd rfl (by first | exact Or.inl rfl | exact Or.inr rfl))) (bss_one (bs_if (bw_pt (bw_or (bt_cmp (bo_ne hr.units) (nomark _) (be_call0 O__law_undone (hr.mono (by decide)) rfl x.g__law_undone (ba_cons (be_var (pv 0)) ba_nil)) (be_str)) (bw_or1 (bt_cmp (bo_ne hr.units) (nomark _) (be_cbOf (pe_callB (bc_lenOwn (c := .desk) O_Desk___len__ (hr.mono (by decide)) x.h_Desk___len__) rfl x.f_len (by decide +kernel) (ba_cons (be_var (pv 0)) ba_nil))) (be_op bo_sub (be_op bo_sub (be_cbOf (pe_callB bc_lenX rfl x.f_len (by decide +kernel) (ba_cons (be_var (pv 4)) ba_nil))) (be_int)) (be_var (pv 5))))))) (bss_one (bs_ret (be_bl))) (bss_nil)))) (bss_cons (bs_setOf (ps_set (i := 6) sc.nd rfl (by first | exact Or.inl rfl | exact Or.inr rfl) (be_make0 (c := .desk) O_Desk___init__ (hr.mono (by decide)) x.m_Desk (by decide) rfl x.g_Desk (ba_cons (be_ix bix (be_var (pv 1)) (be_int)) ba_nil)))) (bss_cons (bs_if (bt_cmp (bo_ne hr.units) (nomark _) (be_lstV (ba_cons (be_call0 O__law_undone (hr.mono (by decide)) rfl x.g__law_undone (ba_cons (be_var (pv 0)) ba_nil)) (ba_cons (be_call0 O__law_undone (hr.mono (by decide)) rfl x.g__law_undone (ba_cons (be_var (pv 6)) ba_nil)) ba_nil))) (be_lstV (ba_cons (be_str) (ba_cons (be_str) ba_nil)))) (bss_one (bs_ret (be_bl))) (bss_nil)) (bss_cons (bs_if (bt_not (bt_val (be_call0 O__law_same (hr.mono (by decide)) rfl x.g__law_same (ba_cons (be_call0 O__law_stand (hr.mono (by decide)) rfl x.g__law_stand (ba_cons (be_var (pv 0)) (ba_cons (be_var (pv 2)) (ba_cons (be_var (pv 3)) ba_nil)))) (ba_cons (be_call0 O__law_stand (hr.mono (by decide)) rfl x.g__law_stand (ba_cons (be_var (pv 6)) (ba_cons (be_var (pv 2)) (ba_cons (be_var (pv 3)) ba_nil)))) ba_nil))))) (bss_one (bs_ret (be_bl))) (bss_nil)) (bss_one (bs_ret (be_call0 O__law_same (hr.mono (by decide)) rfl x.g__law_same (ba_cons (be_meth0 (c := .desk) O_Desk_do (hr.mono (by decide)) x.c_desk x.h_Desk_do (by decide +kernel) (be_var (pv 0)) (ba_cons (be_ix bix (be_var (pv 3)) (be_int)) (ba_cons (be_tup (ba_cons (be_str) ba_nil)) ba_nil))) (ba_cons (be_meth0 (c := .desk) O_Desk_do (hr.mono (by decide)) x.c_desk x.h_Desk_do (by decide +kernel) (be_var (pv 6)) (ba_cons (be_ix bix (be_var (pv 3)) (be_int)) (ba_cons (be_tup (ba_cons (be_str) ba_nil)) ba_nil))) ba_nil))))))))) pure__law_all_back
theorem ok__law_as_new (x : Fx K mg) (O_Desk___init__ : Ok P w K mg base 1 ("Desk", some "__init__") ["self", "book"] sp_Desk___init__) (O__law_made : Ok P w K mg base 9 ("_law_made", none) ["house", "call"] sp__law_made) (O__law_same : Ok P w K mg base 9 ("_law_same", none) ["found", "due"] sp__law_same) (O__law_stand : Ok P w K mg base 3 ("_law_stand", none) ["house", "desks", "names"] sp__law_stand) : Ok P w K mg base 10 ("_law_as_new", none) ["house", "plans", "desks", "names", "calls"] sp__law_as_new := by
  have sc := sc__law_as_new
  exact ok_def x.F__law_as_new sc (fun _ _ _ _ _ _ us hl => match us, hl with | [_, _, _, _, _], _ => rfl) len__law_as_new (fun cdv A outer s H E hr =>
    show BSs _ _ _ t__law_as_new from bss_cons (bs_setOf (ps_set (i := 5) sc.nd rfl (by first | exact Or.inl rfl | exact Or.inr rfl) (be_make0 (c := .desk) O_Desk___init__ (hr.mono (by decide)) x.m_Desk (by decide) rfl x.g_Desk (ba_cons (be_ix bix (be_var (pv 1)) (be_int)) ba_nil)))) (bss_cons (bs_forW PassesOwn.never rfl (pi_own (be_var (pv 4))) (bg_name (pg_name (i := 6) sc.nd rfl (by first | exact Or.inl rfl | exact Or.inr rfl))) (bss_one (bs_if (bt_not (bt_val (be_call0 O__law_same (hr.mono (by decide)) rfl x.g__law_same (ba_cons (be_call0 O__law_made (hr.mono (by decide)) rfl x.g__law_made (ba_cons (be_var (pv 5)) (ba_cons (be_var (pv 6)) ba_nil))) (ba_cons (be_ix bix (be_var (pv 6)) (be_int)) ba_nil))))) (bss_one (bs_ret (be_bl))) (bss_nil)))) (bss_one (bs_ret (be_call0 O__law_same (hr.mono (by decide)) rfl x.g__law_same (ba_cons (be_call0 O__law_stand (hr.mono (by decide)) rfl x.g__law_stand (ba_cons (be_var (pv 0)) (ba_cons (be_var (pv 2)) (ba_cons (be_var (pv 3)) ba_nil)))) (ba_cons (be_call0 O__law_stand (hr.mono (by decide)) rfl x.g__law_stand (ba_cons (be_var (pv 5)) (ba_cons (be_var (pv 2)) (ba_cons (be_var (pv 3)) ba_nil)))) ba_nil))))))) pure__law_as_new
theorem ok_law (x : Fx K mg) (O_Book___init__ : Ok P w K mg base 4 ("Book", some "__init__") ["self", "desks", "rules"] sp_Book___init__) (O_Desk___init__ : Ok P w K mg base 1 ("Desk", some "__init__") ["self", "book"] sp_Desk___init__) (O_Desk___len__ : Ok P w K mg base 1 ("Desk", some "__len__") ["self"] sp_Desk___len__) (O__law_all_back : Ok P w K mg base 10 ("_law_all_back", none) ["house", "plans", "desks", "names", "calls"] sp__law_all_back) (O__law_as_new : Ok P w K mg base 10 ("_law_as_new", none) ["house", "plans", "desks", "names", "calls"] sp__law_as_new) (O__law_draw : Ok P w K mg base 1 ("_law_draw", none) ["well", "many"] sp__law_draw) (O__law_made : Ok P w K mg base 9 ("_law_made", none) ["house", "call"] sp__law_made) (O__law_names : Ok P w K mg base 3 ("_law_names", none) ["well", "many"] sp__law_names) (O__law_next : Ok P w K mg base 4 ("_law_next", none) ["well", "plans", "desks", "names", "calls"] sp__law_next) (O__law_rules : Ok P w K mg base 4 ("_law_rules", none) ["well", "desks", "most"] sp__law_rules) (O__law_undone : Ok P w K mg base 2 ("_law_undone", none) ["house"] sp__law_undone) (O__law_well : Ok P w K mg base 1 ("_law_well", none) ["script", "k"] sp__law_well) : Ok P w K mg base 11 ("law", none) ["script"] sp_law := by
  have sc := sc_law
  exact ok_def x.F_law sc (fun _ _ _ _ _ _ us hl => match us, hl with | [_], _ => rfl) len_law (fun cdv A outer s H E hr =>
    show BSs _ _ _ t_law from bss_cons (bs_setOf (ps_set (i := 1) sc.nd rfl (by first | exact Or.inl rfl | exact Or.inr rfl) (be_call0 O__law_well (hr.mono (by decide)) rfl x.g__law_well (ba_cons (be_var (pv 0)) (ba_cons (be_int) ba_nil))))) (bss_cons (bs_par (ps_par (i := 5) (j := 6) rfl sc.nd rfl rfl (by decide) rfl rfl (ba_cons (be_cbOf (pe_callTy bc_tuple rfl x.f_tuple (by decide +kernel) (ba_cons (be_call0 O__law_names (hr.mono (by decide)) rfl x.g__law_names (ba_cons (be_var (pv 1)) (ba_cons (be_int) ba_nil))) ba_nil))) (ba_cons (be_lstO ba_nil) ba_nil)) (by rfl))) (bss_cons (bs_setOf (ps_set (i := 2) sc.nd rfl (by first | exact Or.inl rfl | exact Or.inr rfl) (be_lstV (ba_cons (be_make0 (c := .book) O_Book___init__ (hr.mono (by decide)) x.m_Book (by decide) rfl x.g_Book (ba_cons (be_var (pv 5)) (ba_cons (be_call0 O__law_rules (hr.mono (by decide)) rfl x.g__law_rules (ba_cons (be_var (pv 1)) (ba_cons (be_var (pv 5)) (ba_cons (be_int) ba_nil)))) ba_nil))) (ba_cons (be_make0 (c := .book) O_Book___init__ (hr.mono (by decide)) x.m_Book (by decide) rfl x.g_Book (ba_cons (be_var (pv 5)) (ba_cons (be_call0 O__law_rules (hr.mono (by decide)) rfl x.g__law_rules (ba_cons (be_var (pv 1)) (ba_cons (be_var (pv 5)) (ba_cons (be_int) ba_nil)))) ba_nil))) ba_nil))))) (bss_cons (bs_par (ps_par (i := 7) (j := 8) rfl sc.nd rfl rfl (by decide) rfl rfl (ba_cons (be_make0 (c := .desk) O_Desk___init__ (hr.mono (by decide)) x.m_Desk (by decide) rfl x.g_Desk (ba_cons (be_ix bix (be_var (pv 2)) (be_int)) ba_nil)) (ba_cons (be_call0 O__law_names (hr.mono (by decide)) rfl x.g__law_names (ba_cons (be_var (pv 1)) (ba_cons (be_int) ba_nil))) ba_nil)) (by rfl))) (bss_cons (bs_setLcOfO (cg_n (by decide)) (ps_setLc (i := 3) (own := [("k", 9)]) rfl sc.nd rfl rfl (sw_true rfl rfl rfl (by decide +kernel)) (bi_rng1Of (pi_range1 rfl x.f_range (ba_cons (be_op bo_addX (be_int) (be_call0 O__law_draw (hr.mono (by decide)) rfl x.g__law_draw (ba_cons (be_var (pv 1)) (ba_cons (be_int) ba_nil)))) ba_nil))) (blkOk_by (N := ["script", "well", "plans", "wells", "spring", "desks", "calls", "house", "names", "k", "call"]) (sc := defScope s_law) (by decide +kernel)) (fun _ _ _ _ _ => pg_name (i := 9) sc.nd rfl (Or.inl rfl)) (fun _ _ _ _ _ => pts_yes) (fun _ _ _ _ _ => be_var (pv 1)))) (bss_cons (bs_expr (be_bmOf (pe_bm PySem.F.plainAttrs_list PySem.F.slot_list_extend PySem.F.type_list_extend bm_extend (be_var (pv 3)) (ba_cons (be_lcOf (cg_n (by decide)) (pe_lc (own := [("k", 9)]) rfl sc.nd (bi_rng2Of (pi_range2 rfl x.f_range (ba_cons (be_int) (ba_cons (be_cbOf (pe_callB (bc_min rfl) rfl x.f_min (by decide +kernel) (ba_cons (be_int) (ba_cons (be_cbOf (pe_callB bc_lenX rfl x.f_len (by decide +kernel) (ba_cons (be_var (pv 0)) ba_nil))) ba_nil)))) ba_nil)))) (blkOk_by (N := ["script", "well", "plans", "wells", "spring", "desks", "calls", "house", "names", "k", "call"]) (sc := defScope s_law) (by decide +kernel)) (fun _ _ _ _ _ => pg_name (i := 9) sc.nd rfl (Or.inl rfl)) (fun _ _ _ _ _ => pts_yes) (fun _ _ _ _ _ => be_call0 O__law_well (hr.mono (by decide)) rfl x.g__law_well (ba_cons (be_var (pv 0)) (ba_cons (be_var (pv 9)) ba_nil))))) ba_nil)))) (bss_cons (bs_for PassesOwn.never rfl (bi_seq (be_var (pv 3))) (bg_name (pg_name (i := 4) sc.nd rfl (by first | exact Or.inl rfl | exact Or.inr rfl))) (bss_cons (bs_if (bt_cmp (bo_eq hr.units) (nomark _) (be_call0 O__law_draw (hr.mono (by decide)) rfl x.g__law_draw (ba_cons (be_var (pv 4)) (ba_cons (be_int) ba_nil))) (be_int)) (bss_cons (bs_if (bt_cmp (bo_ne hr.units) (nomark _) (be_call0 O__law_undone (hr.mono (by decide)) rfl x.g__law_undone (ba_cons (be_var (pv 7)) ba_nil)) (be_if (bt_cmp (bo_eqE (hu0 hr)) (nomark _) (be_var (pv 6)) (be_lstV ba_nil)) (be_str) (be_str))) (bss_one (bs_ret (be_bl))) (bss_nil)) (bss_one (bs_setOf (ps_set (i := 6) sc.nd rfl (by first | exact Or.inl rfl | exact Or.inr rfl) (be_slice bslO (be_var (pv 6)) bo_none (bo_some (be_neg (be_int)))))))) (bss_cons (bs_setOf (ps_set (i := 10) sc.nd rfl (by first | exact Or.inl rfl | exact Or.inr rfl) (be_call0 O__law_next (hr.mono (by decide)) rfl x.g__law_next (ba_cons (be_var (pv 4)) (ba_cons (be_var (pv 2)) (ba_cons (be_var (pv 5)) (ba_cons (be_var (pv 8)) (ba_cons (be_var (pv 6)) ba_nil)))))))) (bss_one (bs_expr (be_bmOf (pe_bm PySem.F.plainAttrs_list PySem.F.slot_list_append PySem.F.type_list_append bm_append (be_var (pv 6)) (ba_cons (be_tup (ba_cons (be_ix bix (be_var (pv 10)) (be_int)) (ba_cons (be_ix bix (be_var (pv 10)) (be_int)) (ba_cons (be_ix bix (be_var (pv 10)) (be_int)) (ba_cons (be_call0 O__law_made (hr.mono (by decide)) rfl x.g__law_made (ba_cons (be_var (pv 7)) (ba_cons (be_var (pv 10)) ba_nil))) ba_nil))))) ba_nil))))))) (bss_one (bs_if (bt_cmp (bo_ne hr.units) (nomark _) (be_cbOf (pe_callB (bc_lenOwn (c := .desk) O_Desk___len__ (hr.mono (by decide)) x.h_Desk___len__) rfl x.f_len (by decide +kernel) (ba_cons (be_var (pv 7)) ba_nil))) (be_cbOf (pe_callB bc_lenX rfl x.f_len (by decide +kernel) (ba_cons (be_var (pv 6)) ba_nil)))) (bss_one (bs_ret (be_bl))) (bss_nil))))) (bss_cons (bs_if (bt_not (bt_val (be_call0 O__law_as_new (hr.mono (by decide)) rfl x.g__law_as_new (ba_cons (be_var (pv 7)) (ba_cons (be_var (pv 2)) (ba_cons (be_var (pv 5)) (ba_cons (be_var (pv 8)) (ba_cons (be_var (pv 6)) ba_nil)))))))) (bss_one (bs_ret (be_bl))) (bss_nil)) (bss_one (bs_ret (be_call0 O__law_all_back (hr.mono (by decide)) rfl x.g__law_all_back (ba_cons (be_var (pv 7)) (ba_cons (be_var (pv 2)) (ba_cons (be_var (pv 5)) (ba_cons (be_var (pv 8)) (ba_cons (be_var (pv 6)) ba_nil)))))))))))))))) pure_law
theorem ok_all (x : Fx K mg) : Ok P w K mg base 11 ("law", none) ["script"] sp_law := by
  have O_Book_desks := ok_Book_desks (P := P) (w := w) (base := base) x 
  have O_Book_rules := ok_Book_rules (P := P) (w := w) (base := base) x 
  have O_Desk___init__ := ok_Desk___init__ (P := P) (w := w) (base := base) x 
  have O_Desk___len__ := ok_Desk___len__ (P := P) (w := w) (base := base) x 
  have O_Desk_book := ok_Desk_book (P := P) (w := w) (base := base) x 
  have O_Desk_people := ok_Desk_people (P := P) (w := w) (base := base) x 
  have O_Desk_remember := ok_Desk_remember (P := P) (w := w) (base := base) x 
  have O_Desk_replies := ok_Desk_replies (P := P) (w := w) (base := base) x 
  have O_Desk_undoX := ok_Desk_undoX (P := P) (w := w) (base := base) x 
  have O_TicketWork_go_to := ok_TicketWork_go_to (P := P) (w := w) (base := base) x 
  have O_TicketWork_holds := ok_TicketWork_holds (P := P) (w := w) (base := base) x 
  have O_TicketWork_told := ok_TicketWork_told (P := P) (w := w) (base := base) x 
  have O_TicketWork_turn_to := ok_TicketWork_turn_to (P := P) (w := w) (base := base) x 
  have O__law_draw := ok__law_draw (P := P) (w := w) (base := base) x 
  have O__law_well := ok__law_well (P := P) (w := w) (base := base) x 
  have O_is_action := ok_is_action (P := P) (w := w) (base := base) x 
  have O_is_name := ok_is_name (P := P) (w := w) (base := base) x 
  have O_is_whole := ok_is_whole (P := P) (w := w) (base := base) x 
  have O_Desk___contains__ := ok_Desk___contains__ (P := P) (w := w) (base := base) x O_is_name
  have O_Desk_at := ok_Desk_at (P := P) (w := w) (base := base) x O_Book_desks O_is_name
  have O_Desk_change := ok_Desk_change (P := P) (w := w) (base := base) x O_Book_desks O_Desk_remember
  have O_Desk_ticket := ok_Desk_ticket (P := P) (w := w) (base := base) x O_is_name
  have O_TicketWork_carry_out := ok_TicketWork_carry_out (P := P) (w := w) (base := base) x O_TicketWork_go_to O_TicketWork_turn_to
  have O_TicketWork_start := ok_TicketWork_start (P := P) (w := w) (base := base) x O_Book_desks O_TicketWork_go_to O_TicketWork_turn_to
  have O__law_pick := ok__law_pick (P := P) (w := w) (base := base) x O__law_draw
  have O__law_undone := ok__law_undone (P := P) (w := w) (base := base) x O_Desk_undoX
  have O_are_desks := ok_are_desks (P := P) (w := w) (base := base) x O_is_name
  have O_is_deed := ok_is_deed (P := P) (w := w) (base := base) x O_is_name
  have O_is_test := ok_is_test (P := P) (w := w) (base := base) x O_is_whole
  have O_report_of := ok_report_of (P := P) (w := w) (base := base) x O_TicketWork_told
  have O_TicketWork_handle := ok_TicketWork_handle (P := P) (w := w) (base := base) x O_Book_rules O_TicketWork_carry_out O_TicketWork_holds
  have O__law_action := ok__law_action (P := P) (w := w) (base := base) x O__law_draw O__law_pick
  have O__law_deed := ok__law_deed (P := P) (w := w) (base := base) x O__law_draw O__law_pick
  have O__law_names := ok__law_names (P := P) (w := w) (base := base) x O__law_draw O__law_pick
  have O__law_stand := ok__law_stand (P := P) (w := w) (base := base) x O_Book_desks O_Book_rules O_Desk___contains__ O_Desk___len__ O_Desk_at O_Desk_book O_Desk_people O_Desk_replies O_Desk_ticket
  have O__law_test := ok__law_test (P := P) (w := w) (base := base) x O__law_draw O__law_pick
  have O_is_rule := ok_is_rule (P := P) (w := w) (base := base) x O_is_action O_is_test
  have O_Book___init__ := ok_Book___init__ (P := P) (w := w) (base := base) x O_are_desks O_is_rule
  have O_TicketWork_handle_all := ok_TicketWork_handle_all (P := P) (w := w) (base := base) x O_TicketWork_handle
  have O__law_next := ok__law_next (P := P) (w := w) (base := base) x O__law_deed O__law_draw O__law_pick
  have O__law_rules := ok__law_rules (P := P) (w := w) (base := base) x O__law_action O__law_draw O__law_pick O__law_test
  have O_TicketWork___init__ := ok_TicketWork___init__ (P := P) (w := w) (base := base) x O_TicketWork_handle_all O_TicketWork_start
  have O_Desk_work_at := ok_Desk_work_at (P := P) (w := w) (base := base) x O_TicketWork___init__ O_TicketWork_told O_report_of
  have O_Desk_day := ok_Desk_day (P := P) (w := w) (base := base) x O_Desk_people O_Desk_remember O_Desk_work_at
  have O_Desk_do := ok_Desk_do (P := P) (w := w) (base := base) x O_Book_desks O_Desk_remember O_Desk_work_at O_is_deed O_is_name
  have O__law_made := ok__law_made (P := P) (w := w) (base := base) x O_Desk_change O_Desk_day O_Desk_do
  have O__law_same := ok__law_same (P := P) (w := w) (base := base) x 
  have O__law_all_back := ok__law_all_back (P := P) (w := w) (base := base) x O_Desk___init__ O_Desk___len__ O_Desk_do O__law_same O__law_stand O__law_undone
  have O__law_as_new := ok__law_as_new (P := P) (w := w) (base := base) x O_Desk___init__ O__law_made O__law_same O__law_stand
  have O_law := ok_law (P := P) (w := w) (base := base) x O_Book___init__ O_Desk___init__ O_Desk___len__ O__law_all_back O__law_as_new O__law_draw O__law_made O__law_names O__law_next O__law_rules O__law_undone O__law_well
  exact O_law
end
end BV
set_option maxHeartbeats 4000000
namespace BV
open PySem PySem.Spec PyProof.Rows L2
def Kc.d : Kc → D
  | .int i => .int i
  | .str z => .str z
  | .txs l => .tup (l.map .str)
theorem dvs_strs {K : PySem.W.Frag} {L : List Addr} {H : Hp} : ∀ {l : List Str}, DVs K L H ((l.map He.Dv.str).map (He.Dv.v K)) (l.map .str)
  | [] => .nil
  | x :: l => .cons (.str x) dvs_strs
theorem kc_ok {K : PySem.W.Frag} {h : Heap} {mg : Str → Option Value} (X : K.In h) (G : h.Ns mainGlobals mg) {x : Str} {c : Kc} (hc : kcB K x c = true) : KG K mg x c.d := by
  cases c with
  | int i =>
    obtain ⟨t, e⟩ := He.int_ok X G (show (He.Fa.int x i).ok K = true from hc)
    exact ⟨_, .int i, e, ⟨t, rfl⟩, fun _ _ => .int i⟩
  | str z =>
    obtain ⟨t, e⟩ := He.str_ok X G (show (He.Fa.str x z).ok K = true from hc)
    exact ⟨_, .str z, e, ⟨t, rfl⟩, fun _ _ => .str z⟩
  | txs l =>
    obtain ⟨c1, c2⟩ := He.ba (show ((He.Fa.glo x).ok K && He.tupB K x (l.map He.Dv.str)) = true from hc)
    exact ⟨_, .ref (He.ga K x), He.glo_ok X G c1, rfl, fun _ _ => .tup (.inr (He.tupB_ok c2 HZ)) dvs_strs⟩
end BV
set_option maxHeartbeats 4000000
namespace BV
open PySem PySem.Spec PyProof.Rows L2
theorem exc_of {K : PySem.W.Frag} {h : Heap} {mg : Str → Option Value} (X : K.In h) (G : h.Ns mainGlobals mg) {x : Str} (c1 : (He.Fa.exc x).ok K = true) (c2 : (He.Fa.glo x).ok K = true) : ExC K mg x := by
  obtain ⟨h1, h2, h3, h4⟩ := He.exc_ok c1
  exact ⟨He.glo_ok X G c2, h1, h2, h3, h4⟩
end BV
set_option maxHeartbeats 0
namespace BV
open PySem PySem.Spec PyProof.Rows L2
theorem fx_of {K : PySem.W.Frag} {h : Heap} {mg : Str → Option Value} (X : K.In h) (G : h.Ns mainGlobals mg) (c : SaysX hFa hCk hFn K) : Fx K mg :=
  { c_book := He.cls_ok (c.fact 0),
    c_desk := He.cls_ok (c.fact 1),
    c_work := He.cls_ok (c.fact 2),
    n_desk_names := He.noat_ok (c.fact 3),
    n_rule_row := He.noat_ok (c.fact 4),
    n_earlier := He.noat_ok (c.fact 5),
    n_rulebook := He.noat_ok (c.fact 6),
    n_tickets := He.noat_ok (c.fact 7),
    n_total := He.noat_ok (c.fact 8),
    n_acted := He.noat_ok (c.fact 9),
    n_is_answered := He.noat_ok (c.fact 10),
    n_is_endless := He.noat_ok (c.fact 11),
    n_is_marked := He.noat_ok (c.fact 12),
    n_is_shut := He.noat_ok (c.fact 13),
    n_phase := He.noat_ok (c.fact 14),
    n_place := He.noat_ok (c.fact 15),
    n_plan := He.noat_ok (c.fact 16),
    n_row := He.noat_ok (c.fact 17),
    n_sent := He.noat_ok (c.fact 18),
    n_sent_again := He.noat_ok (c.fact 19),
    n_waited := He.noat_ok (c.fact 20),
    p_book := pr_ok (ckAt c.ck 0 rfl),
    p_replies := pr_ok (ckAt c.ck 1 rfl),
    h_Book_desks := He.meth_ok (c.fact 21),
    h_Book_rules := He.meth_ok (c.fact 22),
    h_Desk___contains__ := He.meth_ok (c.fact 23),
    h_Desk___len__ := He.meth_ok (c.fact 24),
    h_Desk_at := He.meth_ok (c.fact 25),
    h_Desk_change := He.meth_ok (c.fact 26),
    h_Desk_day := He.meth_ok (c.fact 27),
    h_Desk_do := He.meth_ok (c.fact 28),
    h_Desk_people := He.meth_ok (c.fact 29),
    h_Desk_remember := He.meth_ok (c.fact 30),
    h_Desk_ticket := He.meth_ok (c.fact 31),
    h_Desk_undo := He.meth_ok (c.fact 32),
    h_Desk_work_at := He.meth_ok (c.fact 33),
    h_TicketWork_carry_out := He.meth_ok (c.fact 34),
    h_TicketWork_go_to := He.meth_ok (c.fact 35),
    h_TicketWork_handle := He.meth_ok (c.fact 36),
    h_TicketWork_handle_all := He.meth_ok (c.fact 37),
    h_TicketWork_holds := He.meth_ok (c.fact 38),
    h_TicketWork_start := He.meth_ok (c.fact 39),
    h_TicketWork_told := He.meth_ok (c.fact 40),
    h_TicketWork_turn_to := He.meth_ok (c.fact 41),
    g_Book := He.glo_ok X G (c.fact 42),
    g_Desk := He.glo_ok X G (c.fact 43),
    g_DeskError := He.glo_ok X G (c.fact 44),
    g_NothingToUndo := He.glo_ok X G (c.fact 45),
    g_TicketWork := He.glo_ok X G (c.fact 46),
    g__law_action := He.glo_ok X G (c.fact 47),
    g__law_all_back := He.glo_ok X G (c.fact 48),
    g__law_as_new := He.glo_ok X G (c.fact 49),
    g__law_deed := He.glo_ok X G (c.fact 50),
    g__law_draw := He.glo_ok X G (c.fact 51),
    g__law_made := He.glo_ok X G (c.fact 52),
    g__law_names := He.glo_ok X G (c.fact 53),
    g__law_next := He.glo_ok X G (c.fact 54),
    g__law_pick := He.glo_ok X G (c.fact 55),
    g__law_rules := He.glo_ok X G (c.fact 56),
    g__law_same := He.glo_ok X G (c.fact 57),
    g__law_stand := He.glo_ok X G (c.fact 58),
    g__law_test := He.glo_ok X G (c.fact 59),
    g__law_undone := He.glo_ok X G (c.fact 60),
    g__law_well := He.glo_ok X G (c.fact 61),
    g_are_desks := He.glo_ok X G (c.fact 62),
    g_is_action := He.glo_ok X G (c.fact 63),
    g_is_deed := He.glo_ok X G (c.fact 64),
    g_is_name := He.glo_ok X G (c.fact 65),
    g_is_rule := He.glo_ok X G (c.fact 66),
    g_is_test := He.glo_ok X G (c.fact 67),
    g_is_whole := He.glo_ok X G (c.fact 68),
    g_report_of := He.glo_ok X G (c.fact 69),
    m_Book := He.mkr_ok (c.fact 70),
    m_Desk := He.mkr_ok (c.fact 71),
    m_TicketWork := He.mkr_ok (c.fact 72),
    f_abs := He.free_ok X G (c.fact 73),
    f_all := He.free_ok X G (c.fact 74),
    f_bool := He.free_ok X G (c.fact 75),
    f_dict := He.free_ok X G (c.fact 76),
    f_enumerate := He.free_ok X G (c.fact 77),
    f_int := He.free_ok X G (c.fact 78),
    f_isinstance := He.free_ok X G (c.fact 79),
    f_len := He.free_ok X G (c.fact 80),
    f_list := He.free_ok X G (c.fact 81),
    f_max := He.free_ok X G (c.fact 82),
    f_min := He.free_ok X G (c.fact 83),
    f_range := He.free_ok X G (c.fact 84),
    f_set := He.free_ok X G (c.fact 85),
    f_str := He.free_ok X G (c.fact 86),
    f_tuple := He.free_ok X G (c.fact 87),
    e_NothingToUndo := exc_of X G (c.fact 88) (c.fact 89),
    xm_NothingToUndo := He.exm_ok (c.fact 90),
    x_NothingToUndo := exB_ok (ckAt c.ck 2 rfl),
    kt_NothingToUndo_DeskError := of_decide_eq_true (ckAt c.ck 3 rfl),
    k_EVENTS := kc_ok X G (c := .txs ["letter", "answer", "day", "moved", "status", "replied"]) (ckAt c.ck 4 rfl),
    k_LETTERS := kc_ok X G (c := .str "abcdefghijklmnopqrstuvwxyz") (ckAt c.ck 5 rfl),
    k_MOST_ACTIONS := kc_ok X G (c := .int 4) (ckAt c.ck 6 rfl),
    k_MOST_DAYS := kc_ok X G (c := .int 30) (ckAt c.ck 7 rfl),
    k_MOST_EVENTS := kc_ok X G (c := .int 50) (ckAt c.ck 8 rfl),
    k_MOST_RULES := kc_ok X G (c := .int 8) (ckAt c.ck 9 rfl),
    k_MOST_TESTS := kc_ok X G (c := .int 4) (ckAt c.ck 10 rfl),
    k_PLAIN_DEEDS := kc_ok X G (c := .txs ["letter", "answer", "day"]) (ckAt c.ck 11 rfl),
    k_STATUSES := kc_ok X G (c := .txs ["new", "open", "waiting", "closed"]) (ckAt c.ck 12 rfl),
    F_Book_desks := c.fn 0,
    F_Book_rules := c.fn 1,
    F_Desk___init__ := c.fn 2,
    F_Desk___len__ := c.fn 3,
    F_Desk_book := c.fn 4,
    F_Desk_people := c.fn 5,
    F_Desk_remember := c.fn 6,
    F_Desk_replies := c.fn 7,
    F_Desk_undo := c.fn 8,
    F_TicketWork_go_to := c.fn 9,
    F_TicketWork_holds := c.fn 10,
    F_TicketWork_told := c.fn 11,
    F_TicketWork_turn_to := c.fn 12,
    F__law_draw := c.fn 13,
    F__law_well := c.fn 14,
    F_is_action := c.fn 15,
    F_is_name := c.fn 16,
    F_is_whole := c.fn 17,
    F_Desk___contains__ := c.fn 18,
    F_Desk_at := c.fn 19,
    F_Desk_change := c.fn 20,
    F_Desk_ticket := c.fn 21,
    F_TicketWork_carry_out := c.fn 22,
    F_TicketWork_start := c.fn 23,
    F__law_pick := c.fn 24,
    F__law_undone := c.fn 25,
    F_are_desks := c.fn 26,
    F_is_deed := c.fn 27,
    F_is_test := c.fn 28,
    F_report_of := c.fn 29,
    F_TicketWork_handle := c.fn 30,
    F__law_action := c.fn 31,
    F__law_deed := c.fn 32,
    F__law_names := c.fn 33,
    F__law_stand := c.fn 34,
    F__law_test := c.fn 35,
    F_is_rule := c.fn 36,
    F_Book___init__ := c.fn 37,
    F_TicketWork_handle_all := c.fn 38,
    F__law_next := c.fn 39,
    F__law_rules := c.fn 40,
    F_TicketWork___init__ := c.fn 41,
    F_Desk_work_at := c.fn 42,
    F_Desk_day := c.fn 43,
    F_Desk_do := c.fn 44,
    F__law_made := c.fn 45,
    F__law_same := c.fn 46,
    F__law_all_back := c.fn 47,
    F__law_as_new := c.fn 48,
    F_law := c.fn 49 }
theorem law_sp {K : PySem.W.Frag} {H : Hp} {a : Addr} {ns : List Int} (hl : ns.length ≤ 63) (hS : SqL K H a (ns.map V.int)) : liftSp K sp_law [.ref a] H (fun v _ => v = .bl true) fun _ _ _ => False := by
  refine ⟨[.scr ns], [], [], fun d _ => d = .bl true, nox, .cons (.scr ?_) .nil, ⟨List.nodup_nil, fun p hp => by cases hp⟩, fun _ _ _ _ _ _ x => x.elim, ⟨ns, rfl, hl, rfl, fun _ => rfl⟩, fun v H' d M' dv _ _ e => ?_⟩
  · rcases hS with h | h
    · exact .inl ⟨(by simp), h⟩
    · exact .inr (.inr h)
  · subst e
    cases dv
    rfl
theorem law_at {K : PySem.W.Frag} {h : Heap} {mg : Str → Option Value} {w : World} {f : Addr} (X : K.In h) (G : h.Ns mainGlobals mg) (hf : mg ("law" : Str) = some (.ref f)) (c : SaysX hFa hCk hFn K) :
    ∃ fd : FuncData, (∀ (s : Shared) (v : Value), BindsTo s fd ⟨[v], []⟩ [("script", v)]) ∧ ∀ base : Heap, FnOk hR.prog w K mg base CX0 11 f fd ["script"] (liftSp K sp_law) := by
  have e := hf.symm.trans (He.glo_ok X G (c.fact 91))
  cases e
  have fx := fx_of X G c
  obtain ⟨fd, F⟩ := fx.F_law
  have b := FunD.bindsA (ps := ["script"]) F fun _ _ _ _ _ _ us hl => match us, hl with | [_], _ => rfl
  refine ⟨fd, fun s v => b s [v] rfl, fun base => ?_⟩
  obtain ⟨fd', F', _, _, oc, od, sl, lk⟩ := ok_all (P := hR.prog) (w := w) (base := base) fx
  obtain ⟨oc2, od2, dV, kV, doc, pm, an, cdv, ct, osl, e2, lk2, _⟩ := F.ex
  have e3 := lk.symm.trans lk2
  cases e3
  exact F'
end BV
open PySem PySem.W PySem.Calls PyProof.Rows
theorem PySem.Challenge.cw_lettersdesk_k61_whole_undone_holds : PySem.Challenge.rw_lettersdesk_k61_whole_undone.Holds := by
  refine BV.hwalk ?_
  refine L2.walk_ofE (l := PySem.Challenge.rw_lettersdesk_k61_whole_undone) (n := 63) (k := 11) (x := "script") (CX := L2.CX0) rfl (by decide) (by kernel_rfl) ⟨rfl, by decide, by decide⟩ ?F (fun _ _ _ _ z => z)
  intro w mg fa h Y G hmg0
  obtain ⟨K, KX, c⟩ := Y
  have hmg : mg ("law" : PySem.Str) = some (.ref fa) := by
    have e : (HandSHeadRun.topDef BV.hR.prog 51).name = ("law" : PySem.Str) := by kernel_rfl
    rw [← e]
    exact hmg0
  obtain ⟨fd, hb, hF⟩ := BV.law_at (w := w) KX G hmg (BV.saysX c)
  exact ⟨K, fd, BV.liftSp K BV.sp_law, KX, hb, fun H a ns hl _ hS => BV.law_sp hl hS, fun base _ _ => hF base⟩
