import PyProof.Rows.All
import Wide.All
import OpenK.AllK
import Wide.FinOn
import HandS.Codes
import HandS.Words
import HandS.Defaults
import HandS.Property
import HandS.ExcField
import HandS.ExcInit
import HandS.ExcOwn
import HandS.Head0
import HandS.Head1
import HandS.Head2
import HandS.HeadHook2
import PySem.Challenge.RW_runledger_k46_whole_runs_one_to_one
import HandS.GenCall
import HandS.ForMost
import HandS.Conv
import HandS.GenYield
import HandS.GenBody
import HandS.GenList
import HandS.Ends
import HandS.DictComp
import HandS.DictTup
import HandS.Iter
import HandS.SortOrd
import HandS.Zip
import KE.KDictZip
import HandS.OwnEq
import HandS.More
import KE.KOpsOwn
import PyProof.Rows.NestShow
import PyProof.Rows.NestFoldShow
import HandS.ForExc
import HandS.TupAny
import HandS.IsInst
import HandS.Flow
import HandS.Deep
import HandS.Walk
import HandS.TupLen
import HandS.Style
import HandS.MakeKwOnly
import HandS.SortInts
import HandS.HeadEnd
set_option Elab.async false
set_option linter.all false
set_option maxRecDepth 100000
section
set_option maxHeartbeats 4000000
/-! Ha: the text by places; what is asked of the top. -/
namespace K46
open PySem L2
def top (i : Nat) : Stmt := PySem.Challenge.pw_runledger_k46_whole_runs_one_to_one.main.body.getD i (.Pass ⟨0, 0, 0, 0⟩)
abbrev sInteger : Stmt := top 17
abbrev sWithin : Stmt := top 18
abbrev sIsJump : Stmt := top 19
abbrev sJumpsOf : Stmt := top 20
abbrev sComeTo : Stmt := top 21
abbrev sComeFrom : Stmt := top 22
abbrev sUseful : Stmt := top 23
abbrev sRunsFrom : Stmt := top 24
abbrev sGoingOn : Stmt := top 25
abbrev cRoutine : Stmt := top 26
abbrev sNumber : Stmt := top 29
abbrev sNamed : Stmt := top 30
abbrev sUneven : Stmt := top 31
abbrev cCounts : Stmt := top 32
abbrev sTimesOf : Stmt := top 35
abbrev cLedger : Stmt := top 36
abbrev sMultiplied : Stmt := top 37
abbrev cPart : Stmt := top 39
abbrev sFineOf : Stmt := top 41
abbrev sNamedRight : Stmt := top 42
abbrev cCover : Stmt := top 43
abbrev sFeed : Stmt := top 45
abbrev sTake : Stmt := top 46
abbrev sPick : Stmt := top 47
abbrev sSteps : Stmt := top 48
abbrev sRun : Stmt := top 49
abbrev sRoutine : Stmt := top 50
abbrev sRows : Stmt := top 51
abbrev sRests : Stmt := top 52
abbrev sWhole : Stmt := top 53
abbrev sIsRun : Stmt := top 54
abbrev sTimes : Stmt := top 55
abbrev sLedgerL : Stmt := top 56
abbrev sTable : Stmt := top 57
abbrev sPairs : Stmt := top 58
abbrev sPartL : Stmt := top 59
abbrev sKeeping : Stmt := top 60
abbrev sCoverL : Stmt := top 61
abbrev sLift : Stmt := top 62
abbrev sExchanged : Stmt := top 63
abbrev sLifted : Stmt := top 64
abbrev sNamedL : Stmt := top 65
abbrev sRefused : Stmt := top 66
abbrev sRunsRight : Stmt := top 67
abbrev sLedgersRight : Stmt := top 68
abbrev sLaw : Stmt := top 69
abbrev sRc (i : Nat) : Stmt := inClass cRoutine i
abbrev sPt (i : Nat) : Stmt := inClass cPart i
abbrev sCt (i : Nat) : Stmt := inClass cCounts i
abbrev sLg (i : Nat) : Stmt := inClass cLedger i
abbrev sCv (i : Nat) : Stmt := inClass cCover i
abbrev mostN : Int := 1000000000000000000000000000000
end K46
namespace K46
open PySem PySem.Spec PyProof.Rows L2
open PySem.W (Frag)
/-- a property's getter -/
def pgA (K : Frag) (C : Addr) (m : Str) : Addr := match PySem.W.recIn K (He.ma K C m) "property" with
  | some (.ref g :: _) => g
  | _ => 0
structure DP where
  at_ : Frag → Addr
  name : Str
  qual : Str
  st : Stmt
  kwd : List (Str × V) := []
def fnA (K : Frag) (a : Addr) : He.FnW := match K.lookup a with
  | some ⟨_, _, .func fd, _⟩ => some (fd.name, fd.qualname, fd.params, fd.body, fd.scope, fd.globals, fd.closure, fd.builtins)
  | _ => none
def DP.val (d : DP) : He.FnW := some (d.name, d.qual, C8.fnArgs d.st, .stmts (C8.fnBody d.st), C8.fnScope d.st, mainGlobals, [], builtinsNs)
def DP.ok (K : Frag) (d : DP) : Bool := PySem.W.keepIn K (.ref (d.at_ K)) && (match K.lookup (d.at_ K) with
  | some ⟨_, _, .func fd, _⟩ => PySem.W.codeIn K fd.code d.qual && (He.dflB K fd.defaults [] && He.kwdB K fd.kwdefaults d.kwd)
  | _ => false)
/-! facts of classes -/
def clB (x : Str) (fs : List Str) (K : Frag) : Bool :=
  (He.Fa.glo x).ok K && ((He.Fa.cls x).ok K && (fs.all (fun f => (He.Fa.noat x f).ok K) && (He.eqO (PySem.W.findIn K (.ref (He.ga K x)) "__ne__") (some (some (.builtin "object.__ne__"))) && (decide (PySem.W.mroIn K (He.ga K x) (.type "object") = some true) &&
    (He.eqO (PySem.W.findIn K (.ref (He.ga K x)) "__class__") (some (some (.builtin "object.__class__"))) && (He.eqO (PySem.W.specialIn K (.builtin "object.__class__") "__get__") (some (some (.builtin "getset_descriptor.__get__"))) && (decide (PySem.W.takesIn K (.builtin "object.__class__") = some true) && decide (PySem.W.kitOne K (.ref (He.ga K x)) (.ref (He.ga K x)) = some true))))))))
def dunB (x m : Str) (K : Frag) : Bool := He.eqO (PySem.W.findIn K (.ref (He.ga K x)) m) (some (some (.ref (He.ma K (He.ga K x) m)))) && (PySem.W.isFn K (.ref (He.ma K (He.ga K x) m)) && PySem.W.fnIn K (He.ma K (He.ga K x) m))
def prpB (x m : Str) (K : Frag) : Bool := He.eqO (PySem.W.findIn K (.ref (He.ga K x)) m) (some (some (.ref (He.ma K (He.ga K x) m)))) && (He.eqO (PySem.W.specialIn K (.ref (He.ma K (He.ga K x) m)) "__get__") (some (some (.builtin "property.__get__"))) && (decide (PySem.W.takesIn K (.ref (He.ma K (He.ga K x) m)) = some true) &&
  match PySem.W.recIn K (He.ma K (He.ga K x) m) "property" with
  | some (.ref _ :: _) => true
  | _ => false))
def rmuB (x : Str) (K : Frag) : Bool := He.eqO (PySem.W.findIn K (.ref (He.ga K x)) "__mul__") (some (some (.ref (He.ma K (He.ga K x) "__mul__")))) && (PySem.W.selfFirst K (He.ga K x) && decide (PySem.W.subIn K (.ref (He.ga K x)) (.type "int") = some false))
/-! the class NoRun -/
def oexB (K : Frag) (C : Addr) : Bool := (match K.lookup C with
  | some ⟨.type t, _, .cls cd, sl⟩ => decide (t = "type") && (match cd.mro, sl.toList with
    | .ref C' :: bm, [_, _, _, _, some (.builtin n), _] => decide (C' = C) && (decide (n = "ValueError.__new__") && (!cd.hasDel && (cd.hasDict && PySem.HandSPX.refsVE bm)))
    | _, _ => false)
  | _ => false) && (He.eqO (PySem.W.findIn K (.ref C) "__setattr__") (some (some (.builtin "object.__setattr__"))) && (decide (PySem.W.subIn K (.ref C) (.type "BaseException") = some true) && (decide (PySem.W.typeIn K (.ref C) = some (.type "type")) && PySem.W.keepIn K (.ref C))))
def norB (K : Frag) : Bool := (He.Fa.glo "NoRun").ok K && (oexB K (He.ga K "NoRun") && (xfB K (He.ga K "NoRun") && (He.eqO (PySem.W.findIn K (.ref (He.ga K "NoRun")) "run") (some none) && (decide (PySem.W.exmOne K (.ref (He.ga K "NoRun")) (.ref (He.ga K "NoRun")) = some true) &&
  (He.eqO (PySem.W.findIn K (.ref (He.ga K "NoRun")) "__init__") (some (some (.ref (He.ma K (He.ga K "NoRun") "__init__")))) && decide (PySem.W.typeIn K (.ref (He.ma K (He.ga K "NoRun") "__init__")) = some (.type "function")))))))
/-! the lists -/
def dps0 : List (DP) := [
  ⟨fun K => He.ga K "is_integer", "is_integer", "is_integer", sInteger, []⟩,
  ⟨fun K => He.ga K "within", "within", "within", sWithin, []⟩,
  ⟨fun K => He.ga K "is_jump", "is_jump", "is_jump", sIsJump, []⟩,
  ⟨fun K => He.ga K "jumps_of", "jumps_of", "jumps_of", sJumpsOf, []⟩,
  ⟨fun K => He.ga K "come_to", "come_to", "come_to", sComeTo, []⟩,
  ⟨fun K => He.ga K "come_from", "come_from", "come_from", sComeFrom, []⟩,
  ⟨fun K => He.ga K "useful_jumps", "useful_jumps", "useful_jumps", sUseful, []⟩,
  ⟨fun K => He.ga K "runs_from", "runs_from", "runs_from", sRunsFrom, []⟩,
  ⟨fun K => He.ga K "going_on", "going_on", "going_on", sGoingOn, []⟩,
  ⟨fun K => He.ga K "is_number", "is_number", "is_number", sNumber, []⟩,
  ⟨fun K => He.ga K "named_numbers", "named_numbers", "named_numbers", sNamed, []⟩,
  ⟨fun K => He.ga K "uneven_blocks", "uneven_blocks", "uneven_blocks", sUneven, []⟩,
  ⟨fun K => He.ga K "times_of", "times_of", "times_of", sTimesOf, []⟩,
  ⟨fun K => He.ga K "multiplied", "multiplied", "multiplied", sMultiplied, []⟩,
  ⟨fun K => He.ga K "fine_of", "fine_of", "fine_of", sFineOf, []⟩,
  ⟨fun K => He.ga K "named_right", "named_right", "named_right", sNamedRight, []⟩,
  ⟨fun K => He.ga K "_law_feed", "_law_feed", "_law_feed", sFeed, []⟩,
  ⟨fun K => He.ga K "_law_take", "_law_take", "_law_take", sTake, []⟩,
  ⟨fun K => He.ga K "_law_pick", "_law_pick", "_law_pick", sPick, []⟩,
  ⟨fun K => He.ga K "_law_steps", "_law_steps", "_law_steps", sSteps, []⟩]
def dps1 : List (DP) := [
  ⟨fun K => He.ga K "_law_run", "_law_run", "_law_run", sRun, []⟩,
  ⟨fun K => He.ga K "_law_routine", "_law_routine", "_law_routine", sRoutine, []⟩,
  ⟨fun K => He.ga K "_law_rows", "_law_rows", "_law_rows", sRows, []⟩,
  ⟨fun K => He.ga K "_law_rests", "_law_rests", "_law_rests", sRests, []⟩,
  ⟨fun K => He.ga K "_law_whole", "_law_whole", "_law_whole", sWhole, []⟩,
  ⟨fun K => He.ga K "_law_is_run", "_law_is_run", "_law_is_run", sIsRun, []⟩,
  ⟨fun K => He.ga K "_law_times", "_law_times", "_law_times", sTimes, []⟩,
  ⟨fun K => He.ga K "_law_ledger", "_law_ledger", "_law_ledger", sLedgerL, []⟩,
  ⟨fun K => He.ga K "_law_table", "_law_table", "_law_table", sTable, []⟩,
  ⟨fun K => He.ga K "_law_pairs", "_law_pairs", "_law_pairs", sPairs, []⟩,
  ⟨fun K => He.ga K "_law_part", "_law_part", "_law_part", sPartL, []⟩,
  ⟨fun K => He.ga K "_law_keeping", "_law_keeping", "_law_keeping", sKeeping, []⟩,
  ⟨fun K => He.ga K "_law_cover", "_law_cover", "_law_cover", sCoverL, []⟩,
  ⟨fun K => He.ga K "_law_lift", "_law_lift", "_law_lift", sLift, []⟩,
  ⟨fun K => He.ga K "_law_exchanged", "_law_exchanged", "_law_exchanged", sExchanged, []⟩,
  ⟨fun K => He.ga K "_law_lifted", "_law_lifted", "_law_lifted", sLifted, []⟩,
  ⟨fun K => He.ga K "_law_named", "_law_named", "_law_named", sNamedL, []⟩,
  ⟨fun K => He.ga K "_law_refused", "_law_refused", "_law_refused", sRefused, []⟩,
  ⟨fun K => He.ga K "_law_runs_right", "_law_runs_right", "_law_runs_right", sRunsRight, []⟩,
  ⟨fun K => He.ga K "_law_ledgers_right", "_law_ledgers_right", "_law_ledgers_right", sLedgersRight, []⟩]
def dps2 : List (DP) := [
  ⟨fun K => He.ga K "law", "law", "law", sLaw, []⟩,
  ⟨fun K => He.ma K (He.ga K "Routine") "__init__", "__init__", "Routine.__init__", (sRc 0), []⟩,
  ⟨fun K => He.ma K (He.ga K "Routine") "__eq__", "__eq__", "Routine.__eq__", (sRc 5), []⟩,
  ⟨fun K => He.ma K (He.ga K "Routine") "__contains__", "__contains__", "Routine.__contains__", (sRc 6), []⟩,
  ⟨fun K => He.ma K (He.ga K "Routine") "outs", "outs", "Routine.outs", (sRc 8), []⟩,
  ⟨fun K => He.ma K (He.ga K "Routine") "is_run", "is_run", "Routine.is_run", (sRc 9), []⟩,
  ⟨fun K => He.ma K (He.ga K "Counts") "__init__", "__init__", "Counts.__init__", (sCt 0), [("most", .int mostN)]⟩,
  ⟨fun K => He.ma K (He.ga K "Counts") "__getitem__", "__getitem__", "Counts.__getitem__", (sCt 5), []⟩,
  ⟨fun K => He.ma K (He.ga K "Counts") "__eq__", "__eq__", "Counts.__eq__", (sCt 6), []⟩,
  ⟨fun K => He.ma K (He.ga K "Counts") "__rmul__", "__rmul__", "Counts.__rmul__", (sCt 9), []⟩,
  ⟨fun K => He.ma K (He.ga K "Ledger") "__init__", "__init__", "Ledger.__init__", (sLg 0), [("most", .int mostN)]⟩,
  ⟨fun K => He.ma K (He.ga K "Ledger") "__getitem__", "__getitem__", "Ledger.__getitem__", (sLg 3), []⟩,
  ⟨fun K => He.ma K (He.ga K "Ledger") "__len__", "__len__", "Ledger.__len__", (sLg 4), []⟩,
  ⟨fun K => He.ma K (He.ga K "Ledger") "__eq__", "__eq__", "Ledger.__eq__", (sLg 5), []⟩,
  ⟨fun K => He.ma K (He.ga K "Ledger") "__rmul__", "__rmul__", "Ledger.__rmul__", (sLg 8), []⟩,
  ⟨fun K => He.ma K (He.ga K "Ledger") "counts", "counts", "Ledger.counts", (sLg 9), []⟩,
  ⟨fun K => He.ma K (He.ga K "Part") "__init__", "__init__", "Part.__init__", (sPt 0), []⟩,
  ⟨fun K => He.ma K (He.ga K "Part") "kept_runs", "kept_runs", "Part.kept_runs", (sPt 14), []⟩,
  ⟨fun K => He.ma K (He.ga K "Cover") "__init__", "__init__", "Cover.__init__", (sCv 0), []⟩,
  ⟨fun K => He.ma K (He.ga K "Cover") "lift", "lift", "Cover.lift", (sCv 5), []⟩]
def dps3 : List (DP) := [
  ⟨fun K => He.ma K (He.ga K "Cover") "name", "name", "Cover.name", (sCv 6), []⟩,
  ⟨fun K => He.ma K (He.ga K "Cover") "lift_part", "lift_part", "Cover.lift_part", (sCv 7), []⟩,
  ⟨fun K => He.ma K (He.ga K "Cover") "lift_ledger", "lift_ledger", "Cover.lift_ledger", (sCv 8), []⟩,
  ⟨fun K => He.ma K (He.ga K "Cover") "name_ledger", "name_ledger", "Cover.name_ledger", (sCv 9), []⟩,
  ⟨fun K => He.ma K (He.ga K "Cover") "sums", "sums", "Cover.sums", (sCv 10), []⟩,
  ⟨fun K => pgA K (He.ga K "Ledger") "entries", "entries", "Ledger.entries", (sLg 1), []⟩,
  ⟨fun K => pgA K (He.ga K "Part") "jumps", "jumps", "Part.jumps", (sPt 2), []⟩,
  ⟨fun K => He.ma K (He.ga K "NoRun") "__init__", "__init__", "NoRun.__init__", (inClass (top 8) 0), []⟩]
def dps : List (DP) := dps0 ++ (dps1 ++ (dps2 ++ (dps3)))
def exs0 : List (Frag → Bool) := [
  clB "Routine" ["blocks", "rows", "there"],
  fun K => (He.Fa.mkr "Routine").ok K,
  clB "Counts" ["routine", "numbers"],
  fun K => (He.Fa.mkr "Counts").ok K,
  clB "Ledger" ["routine", "times"],
  fun K => (He.Fa.mkr "Ledger").ok K,
  clB "Part" ["routine", "allowed", "useful"],
  fun K => (He.Fa.mkr "Part").ok K,
  clB "Cover" ["base", "fine", "labels", "leads"],
  fun K => (He.Fa.mkr "Cover").ok K,
  fun K => (He.Fa.meth "Routine" "outs").ok K,
  fun K => (He.Fa.meth "Routine" "is_run").ok K,
  fun K => (He.Fa.meth "Ledger" "counts").ok K,
  fun K => (He.Fa.meth "Cover" "lift").ok K,
  fun K => (He.Fa.meth "Cover" "name").ok K,
  fun K => (He.Fa.meth "Cover" "lift_part").ok K,
  fun K => (He.Fa.meth "Cover" "lift_ledger").ok K,
  fun K => (He.Fa.meth "Cover" "name_ledger").ok K,
  fun K => (He.Fa.meth "Cover" "sums").ok K,
  fun K => (He.Fa.meth "Part" "kept_runs").ok K]
def exs1 : List (Frag → Bool) := [
  dunB "Routine" "__eq__",
  dunB "Routine" "__contains__",
  dunB "Counts" "__getitem__",
  dunB "Counts" "__eq__",
  dunB "Counts" "__rmul__",
  dunB "Ledger" "__getitem__",
  dunB "Ledger" "__len__",
  dunB "Ledger" "__eq__",
  dunB "Ledger" "__rmul__",
  prpB "Ledger" "entries",
  prpB "Part" "jumps",
  rmuB "Counts",
  rmuB "Ledger",
  norB,
  fun K => (He.Fa.free "isinstance").ok K,
  fun K => (He.Fa.free "int").ok K,
  fun K => (He.Fa.free "bool").ok K,
  fun K => (He.Fa.free "tuple").ok K,
  fun K => (He.Fa.free "list").ok K,
  fun K => (He.Fa.free "len").ok K]
def exs2 : List (Frag → Bool) := [
  fun K => (He.Fa.free "all").ok K,
  fun K => (He.Fa.free "zip").ok K,
  fun K => (He.Fa.free "range").ok K,
  fun K => (He.Fa.free "enumerate").ok K,
  fun K => (He.Fa.free "sorted").ok K,
  fun K => (He.Fa.free "max").ok K,
  fun K => (He.Fa.free "min").ok K,
  fun K => (He.Fa.free "abs").ok K,
  fun K => (He.Fa.free "repr").ok K,
  fun K => (He.Fa.int "MOST_BLOCKS" 40).ok K,
  fun K => (He.Fa.int "MOST_JUMPS" 120).ok K,
  fun K => (He.Fa.glo "is_integer").ok K,
  fun K => (He.Fa.glo "within").ok K,
  fun K => (He.Fa.glo "is_jump").ok K,
  fun K => (He.Fa.glo "jumps_of").ok K,
  fun K => (He.Fa.glo "come_to").ok K,
  fun K => (He.Fa.glo "come_from").ok K,
  fun K => (He.Fa.glo "useful_jumps").ok K,
  fun K => (He.Fa.glo "runs_from").ok K,
  fun K => (He.Fa.glo "going_on").ok K]
def exs3 : List (Frag → Bool) := [
  fun K => (He.Fa.glo "is_number").ok K,
  fun K => (He.Fa.glo "named_numbers").ok K,
  fun K => (He.Fa.glo "uneven_blocks").ok K,
  fun K => (He.Fa.glo "times_of").ok K,
  fun K => (He.Fa.glo "multiplied").ok K,
  fun K => (He.Fa.glo "fine_of").ok K,
  fun K => (He.Fa.glo "named_right").ok K,
  fun K => (He.Fa.glo "_law_feed").ok K,
  fun K => (He.Fa.glo "_law_take").ok K,
  fun K => (He.Fa.glo "_law_pick").ok K,
  fun K => (He.Fa.glo "_law_steps").ok K,
  fun K => (He.Fa.glo "_law_run").ok K,
  fun K => (He.Fa.glo "_law_routine").ok K,
  fun K => (He.Fa.glo "_law_rows").ok K,
  fun K => (He.Fa.glo "_law_rests").ok K,
  fun K => (He.Fa.glo "_law_whole").ok K,
  fun K => (He.Fa.glo "_law_is_run").ok K,
  fun K => (He.Fa.glo "_law_times").ok K,
  fun K => (He.Fa.glo "_law_ledger").ok K,
  fun K => (He.Fa.glo "_law_table").ok K]
def exs4 : List (Frag → Bool) := [
  fun K => (He.Fa.glo "_law_pairs").ok K,
  fun K => (He.Fa.glo "_law_part").ok K,
  fun K => (He.Fa.glo "_law_keeping").ok K,
  fun K => (He.Fa.glo "_law_cover").ok K,
  fun K => (He.Fa.glo "_law_lift").ok K,
  fun K => (He.Fa.glo "_law_exchanged").ok K,
  fun K => (He.Fa.glo "_law_lifted").ok K,
  fun K => (He.Fa.glo "_law_named").ok K,
  fun K => (He.Fa.glo "_law_refused").ok K,
  fun K => (He.Fa.glo "_law_runs_right").ok K,
  fun K => (He.Fa.glo "_law_ledgers_right").ok K,
  fun K => (He.Fa.glo "law").ok K]
def exs : List (Frag → Bool) := exs0 ++ (exs1 ++ (exs2 ++ (exs3 ++ (exs4))))
/-- what is asked of the top -/
structure Says (K : Frag) : Prop where
  fn : dps.map (fun d => fnA K (d.at_ K)) = dps.map DP.val
  ok : (dps.all (DP.ok K)) = true
  ex : (exs.all fun f => f K) = true
abbrev AlM : Type := Bool × List He.FnW
def obsM (K : Frag) : AlM := ((dps.all (DP.ok K)) && (exs.all fun f => f K), dps.map fun d => fnA K (d.at_ K))
def valM : AlM := (true, dps.map DP.val)
def downA : Nat → List Addr
  | 0 => [0]
  | n + 1 => (n + 1) :: downA n
def lookM (g : Addr → Option Obj) (n : Nat) : AlM := obsM (He.frG g (mainGlobals :: downA n))
def hookM : PySem.W.Hook where
  α := AlM
  obs := fun s => lookM s.heap.get? s.heap.objs.size
  val := fun _ => valM
  says := fun _ h => ∃ K : Frag, K.In h ∧ Says K
  of := fun _ _ e => ⟨_, He.frG_in, congrArg (fun z : AlM => z.2) e, (He.ba (congrArg (fun z : AlM => z.1) e)).1, (He.ba (congrArg (fun z : AlM => z.1) e)).2⟩
  keeps := fun _ _ _ ⟨K, hK, c⟩ k => ⟨K, PySem.W.Frag.In.keeps hK k, c⟩
def obM (s : PySem.W.SharedT) : AlM := lookM (HandSHeadRun.getT s) s.n
theorem obM_eq (s : PySem.W.SharedT) : obM s = hookM.obs s.abs := by
  have e : HandSHeadRun.getT s = s.abs.heap.get? := funext (HandSHeadRun.getT_eq s)
  have n : s.abs.heap.objs.size = s.n := PySem.W.absHeap_size s.tree s.n _
  show lookM (HandSHeadRun.getT s) s.n = lookM s.abs.heap.get? s.abs.heap.objs.size
  rw [e, n]
end K46
end
section
set_option maxHeartbeats 0
/-! Hr: the run of the top. -/
namespace K46
open PySem PySem.W PySem.Calls PyProof.Rows
abbrev RR : OpenRow := OpenLaw.row PySem.Challenge.rw_runledger_k46_whole_runs_one_to_one
abbrev qv : Program := view RR.prog [69]
def names1 : List PySem.Str := ["_wall", "RunError", "BadBlocks", "BadJump", "TooLarge", "NoBlock", "NoJump", "NoRun", "OtherRoutine", "BadCount", "Uneven", "BadEntry", "BadCover", "MOST_BLOCKS", "MOST_JUMPS", "is_integer", "within", "is_jump", "jumps_of", "come_to", "come_from", "useful_jumps"]
def names2 : List PySem.Str := ["runs_from", "going_on", "Routine", "MOST_COUNT", "is_number", "named_numbers", "uneven_blocks", "Counts", "MOST_TIMES", "times_of", "Ledger", "multiplied", "Part", "fine_of", "named_right", "Cover", "_law_feed", "_law_take", "_law_pick", "_law_steps", "_law_run", "_law_routine"]
def names3 : List PySem.Str := ["_law_rows", "_law_rests", "_law_whole", "_law_is_run", "_law_times", "_law_ledger", "_law_table", "_law_pairs", "_law_part", "_law_keeping", "_law_cover", "_law_lift", "_law_exchanged", "_law_lifted", "_law_named", "_law_refused", "_law_runs_right", "_law_ledgers_right"]
def namesL : List PySem.Str := names1 ++ (names2 ++ names3)
/-- two looks at the end of one run -/
theorem both_runs {α β γ δ : Type} {x : Option α} {f : α → β} {g : α → γ} {u : α → Unit} {h : α → δ} {b : β} {c : γ} {i : Unit} {d : δ} (e1 : x.map (fun s => (f s, g s, u s)) = some (b, c, i)) (e2 : x.map h = some d) : x.map (fun s => (f s, g s, h s)) = some (b, c, d) := by
  cases x with
  | none => cases e1
  | some s =>
    have q1 : (f s, g s, u s) = (b, c, i) := Option.some.inj e1
    have q2 : h s = d := Option.some.inj e2
    obtain ⟨r1, r2⟩ := Prod.mk.inj q1
    obtain ⟨r2, _⟩ := Prod.mk.inj r2
    show some (f s, g s, h s) = _
    rw [r1, r2, q2]
theorem run_looks (w : World) : HandSHeadRun.RunEq RR qv Hook.none (fun _ => ()) 20000 namesL w := by
  intro os
  kernel_rfl
theorem run_facts (w : World) (os : OsState) : (HandSHeadRun.endF (HandSHeadRun.stepQ (HandSHeadRun.denQ HandSHeadRun.tabQ) RR.prog w) 20000 RR.prog w os).map obM = some valM := by
  kernel_rfl
theorem run (w : World) : HandSHeadRun.RunEq RR qv hookM obM 20000 namesL w := fun os => both_runs (u := fun _ => ()) (i := ()) (run_looks w os) (run_facts w os)
abbrev LL : OpenLaw := PySem.Challenge.rw_runledger_k46_whole_runs_one_to_one
abbrev dLaw : DefRec := HandSHeadRun.topDef RR.prog 69
theorem head_open : opening RR.prog = plainProg RR.prog.main.scope.names := by kernel_rfl
theorem head_fence : ∀ s, fenceModules? RR.prog s = some s := fun s => by kernel_rfl
theorem head_def : defOf qv RR.name = some (dLaw, []) := by kernel_rfl
theorem head_the : RR.prog.theDef RR.name = some (dLaw.params, dLaw.body, dLaw.scope) := by kernel_rfl
theorem head_kw : kwWritten? dLaw.params.kwonlyargs dLaw.params.kw_defaults = some [] := by kernel_rfl
theorem head_wr : (!RR.writes || RR.records.isEmpty) = true := by rfl
theorem head_well : RR.wellSaid = true := by decide +kernel
theorem head_ok : (chainsOk qv && opensWell RR.prog && (frees RR.toRowW && RR.within.isEmpty)) = true := by decide +kernel
theorem head_bare : RR.prog.bare := ⟨rfl, rfl, rfl, rfl, rfl, by decide +kernel⟩
theorem head_prom : RR.toRowW.promised := by w_witness2
end K46
end
section
set_option maxHeartbeats 200000
/-! Ja: runs whose generators sleep inside «yield from» over a generator that the collector does not watch. -/
namespace Ja
open PySem
/-- at a yield that the collector would not even note -/
def gentle (s : Shared) (t : Thread) : Bool := match t.cur, splitAtGen t.stack with
  | .yield _ g _ _, some (fr, _, _) => !closingShows s fr t.code g
  | _, _ => false
def loudJ (s : Shared) (t : Thread) : Bool := t.loud && !gentle s t
def calmJ (s : Shared) (t : Thread) : Bool := t.calm || gentle s t
theorem gentle_forget (s : Shared) (t : Thread) : gentle s.forget t.forget = gentle s t := by
  obtain ⟨cur, code, pos, stack⟩ := t
  unfold gentle
  cases cur with
  | yield v g l k =>
    simp only [Thread.forget, splitAtGen_forgetAll]
    cases e : splitAtGen stack with
    | none => rfl
    | some x =>
      obtain ⟨fr, b, r⟩ := x
      simp only [Option.map_some, closingShows, any_guarded_forgetAll]
      have ed : ∀ v, delegateShows s.forget v = delegateShows s v := fun v => by cases v <;> rfl
      simp only [ed]
  | _ => rfl
theorem calmJ_forget (s : Shared) (t : Thread) : calmJ s.forget t.forget = calmJ s t := by
  unfold calmJ; rw [gentle_forget, Thread.calm_forget]
theorem gentle_cur {s : Shared} {t : Thread} (h : gentle s t = true) : ∃ v g l k fr b r, t.cur = .yield v g l k ∧ splitAtGen t.stack = some (fr, b, r) ∧ closingShows s fr t.code g = false := by
  obtain ⟨cur, code, pos, stack⟩ := t
  unfold gentle at h
  cases cur with
  | yield v g l k =>
    cases e : splitAtGen stack with
    | none => simp [e] at h
    | some x => obtain ⟨fr, b, r⟩ := x; simp [e] at h; exact ⟨v, g, l, k, fr, b, r, rfl, rfl, h⟩
  | _ => cases h
section
variable (den : Code → Sem PySem.Fin) (prog : Program) (w : World)
def stepJ (s : Shared) (t : Thread) : Step := if loudJ s t then .halt (.stuck "ja") s else stepK den prog w s t
def runNJ : Nat → Shared → Thread → Run
  | 0, s, t => .running s t
  | n + 1, s, t => match stepJ den prog w s t with
    | .go s' t' => runNJ n s' t'
    | .halt o s' => .halted o s'
theorem stepJ_of_stepI {s : Shared} {t : Thread} {s' : Shared} {t' : Thread} (h : stepI den prog w s t = .go s' t') : stepJ den prog w s t = .go s' t' := by
  cases hl : t.loud with
  | true => rw [stepI_loud den prog w hl] at h; cases h
  | false =>
    rw [stepI_quiet den prog w hl] at h
    unfold stepJ loudJ
    rw [hl, Bool.false_and, if_neg Bool.false_ne_true]; exact h
theorem runNJ_of_runNI {n : Nat} {s : Shared} {t : Thread} {s' : Shared} {t' : Thread} (h : runNI den prog w n s t = .running s' t') : runNJ den prog w n s t = .running s' t' := by
  induction n generalizing s t with
  | zero => exact h
  | succ n ih =>
    simp only [runNI] at h
    cases hs : stepI den prog w s t with
    | go s₂ t₂ => simp only [hs] at h; simp only [runNJ, stepJ_of_stepI den prog w hs]; exact ih h
    | halt o s₂ => simp only [hs] at h; cases h
theorem calmJ_of_not {s : Shared} {t : Thread} (h : loudJ s t = false) (hr : t.refused = false) : calmJ s t = true := by
  unfold loudJ at h; unfold calmJ
  rw [Thread.calm_eq, hr]
  cases hl : t.loud <;> cases hg : gentle s t <;> simp_all
theorem runNJ_runNK {n : Nat} {s : Shared} {t : Thread} {o : Outcome} {s' : Shared} (h : runNJ den prog w n s t = .halted o s') (ho : o.ends = true) :
    runNK den prog w n s t = .halted o s' ∧ ∀ k s₁ t₁, runNK den prog w k s t = .running s₁ t₁ → calmJ s₁ t₁ = true := by
  induction n generalizing s t with
  | zero => cases h
  | succ n ih =>
    simp only [runNJ] at h
    cases hl : loudJ s t with
    | true =>
      simp only [stepJ, hl, if_true] at h
      injection h with h1 _; subst h1; cases ho
    | false =>
      have e : stepJ den prog w s t = stepK den prog w s t := by unfold stepJ; rw [hl, if_neg Bool.false_ne_true]
      simp only [e] at h
      have hc : calmJ s t = true := by
        refine calmJ_of_not hl ?_
        cases hr : t.refused with
        | false => rfl
        | true =>
          obtain ⟨what, e⟩ := stepK_refused den prog w (s := s) hr
          simp only [e] at h
          injection h with h1 _; subst h1; cases ho
      cases hs : stepK den prog w s t with
      | go s₂ t₂ =>
        simp only [hs] at h
        obtain ⟨a, b⟩ := ih h
        refine ⟨by simp only [runNK, hs]; exact a, fun k s₁ t₁ hk => ?_⟩
        cases k with
        | zero => injection hk with e1 e2; subst e1 e2; exact hc
        | succ k => simp only [runNK, hs] at hk; exact b k s₁ t₁ hk
      | halt o₂ s₂ =>
        simp only [hs] at h
        refine ⟨by simp only [runNK, hs]; exact h, fun k s₁ t₁ hk => ?_⟩
        cases k with
        | zero => injection hk with e1 e2; subst e1 e2; exact hc
        | succ k => simp only [runNK, hs] at hk; cases hk
theorem calmJ_runN (s : Shared) (t : Thread) (hc : ∀ k s₁ t₁, runNK den prog w k s t = .running s₁ t₁ → calmJ s₁ t₁ = true) :
    ∀ k s₁ t₁, runN den prog w k s t = .running s₁ t₁ → calmJ s₁ t₁ = true := by
  intro k s₁ t₁ hk
  have e := runNK_same den prog w k (s₁ := s) (s₂ := s) (t₁ := t) (t₂ := t) rfl rfl
  rw [hk] at e
  cases hr : runNK den prog w k s t with
  | halted o₂ s₂ => rw [hr] at e; cases e
  | running s₂ t₂ =>
    rw [hr] at e; simp only [Run.forget] at e; injection e with e1 e2
    rw [← calmJ_forget, ← e1, ← e2, calmJ_forget]; exact hc k s₂ t₂ hr
theorem runNJ_real {n : Nat} {s : Shared} {t : Thread} {o : Outcome} {s' : Shared} (h : runNJ den prog w n s t = .halted o s') (ho : o.ends = true) :
    ∃ s'', runN den prog w n s t = .halted o s'' ∧ s''.forget = s'.forget ∧ ∀ k s₁ t₁, runN den prog w k s t = .running s₁ t₁ → calmJ s₁ t₁ = true := by
  obtain ⟨hk, hc⟩ := runNJ_runNK den prog w h ho
  obtain ⟨s'', hr, hf⟩ := runNK_halted den prog w hk
  exact ⟨s'', hr, hf, calmJ_runN den prog w s t hc⟩
theorem sstep_gentle (s : Shared) (t : Thread) (h : gentle s t = true) (hz : s.asleep) : sstep den prog w (.single s t) = (step den prog w s t).lift := by
  obtain ⟨v, g, l, k, fr, b, r, hcur, hsp, hcl⟩ := gentle_cur h
  obtain ⟨hr, hc⟩ := hz
  obtain ⟨cur, code, pos, stack⟩ := t
  simp only at hcur hsp hcl
  subst hcur
  have hmv : (Config.single s ⟨.yield v g l k, code, pos, stack⟩).moves w.params.profile = [.run 0] := by
    simp [Config.moves, Config.single, movesFrom, Thread.moves]
  have h1 : (Config.single s ⟨.yield v g l k, code, pos, stack⟩).collect? w.params = none := by
    simp [Config.collect?, Config.single, (nothing_to_collect _ _ _ s ⟨.yield v g l k, code, pos, stack⟩ hr).1]
  have h2 : (Config.single s ⟨.yield v g l k, code, pos, stack⟩).collectable = [] := by
    simp [Config.collectable, Config.single, (nothing_to_collect w.params _ _ s ⟨.yield v g l k, code, pos, stack⟩ hr).2]
  have hp : (Config.single s ⟨.yield v g l k, code, pos, stack⟩).pick w = .ok (.run 0, .single s ⟨.yield v g l k, code, pos, stack⟩) := by
    simp only [Config.pick, h1, h2, Config.pickThread, hmv]
    cases w.params.lifetimes <;> simp
  have hls : ∀ others, lifeStep den prog w others s ⟨.yield v g l k, code, pos, stack⟩ = step den prog w s ⟨.yield v g l k, code, pos, stack⟩ := fun others => by
    cases hspec : Thread.special ⟨.yield v g l k, code, pos, stack⟩ with
    | false =>
      rw [lifeStep_eq_step den prog w others s _ hspec hc]
    | true =>
      simp only [lifeStep, hspec, if_true]
      simp [collectorTurn?, hsp, hcl, stepCounting, hc, Thread.atItsEnd]
  simp only [sstep, hp, Config.move]
  simp only [Config.run, Config.single]
  simp [hls, others_single, Thread.finalizes]
  cases hst : step den prog w s ⟨.yield v g l k, code, pos, stack⟩ with
  | go s' t' => simp [Step.lift, Config.single]
  | halt o s' => simp [Step.lift]
theorem schedN_J (n : Nat) (s : Shared) (t : Thread) (hr : s.asleep) (hc : ∀ k s₁ t₁, runN den prog w k s t = .running s₁ t₁ → calmJ s₁ t₁ = true)
    (hx : ∀ k s', runN den prog w k s t ≠ .halted (.unsupported "lifetime:generator-with-cleanup-left-suspended") s') : schedN den prog w n (.single s t) = (runN den prog w n s t).lift := by
  induction n generalizing s t with
  | zero => rfl
  | succ n ih =>
    have e : sstep den prog w (.single s t) = (step den prog w s t).lift := by
      have h0 := hc 0 s t rfl
      unfold calmJ at h0
      cases hg : gentle s t with
      | true => exact sstep_gentle den prog w s t hg hr
      | false =>
        rw [hg, Bool.or_false] at h0
        refine (sstep_single den prog w s t h0 hr).resolve_right fun z => hx 1 s ?_
        simp only [runN, z]
    simp only [schedN, runN, e]
    cases hs : step den prog w s t with
    | go s' t' =>
      exact ih s' t' (by simp only [Shared.asleep, step_life den prog w s s' t t' hs]; exact hr) (fun k s₁ t₁ hk => hc (k + 1) s₁ t₁ (by simp only [runN, hs]; exact hk))
        fun k s₁ hk => hx (k + 1) s₁ (by simp only [runN, hs]; exact hk)
    | halt o s' => rfl
/-- what the gentle machine ends with the whole one does too -/
theorem runNJ_full {n : Nat} {s : Shared} {t : Thread} {o : Outcome} {s' : Shared} (h : runNJ den prog w n s t = .halted o s') (ho : o.ends = true) (hr : s.asleep) :
    ∃ s'', schedN den prog w n (.single s t) = .halted o s'' ∧ runN den prog w n s t = .halted o s'' ∧ s''.forget = s'.forget := by
  obtain ⟨s'', hn, hf, hc⟩ := runNJ_real den prog w h ho
  have hne : ∀ k s₂, runN den prog w k s t ≠ .halted (.unsupported "lifetime:generator-with-cleanup-left-suspended") s₂ := by
    intro k s₂ hk
    have a := runN_mono den prog w n k s t o s'' hn
    have b := runN_mono den prog w k n s t _ s₂ hk
    rw [Nat.add_comm, b] at a
    injection a with a1 _
    subst a1; cases ho
  exact ⟨s'', (schedN_J den prog w n s t hr hc hne).trans (congrArg Run.lift hn), hn, hf⟩
end
end Ja
end
section
set_option maxHeartbeats 200000
/-! Jb: «the machine ends well from here», backwards. -/
namespace Ja
open PySem
section
variable {M : Model} {F : Outcome → Shared → Prop}
/-- the gentle machine comes to an end as wanted -/
def Ok (M : Model) (F : Outcome → Shared → Prop) (s : Shared) (th : Thread) : Prop := s.asleep → ∃ n o s', runNJ M.den M.prog M.w n s th = .halted o s' ∧ F o s'
theorem stepJ_life {s s' : Shared} {t t' : Thread} (h : stepJ M.den M.prog M.w s t = .go s' t') : s'.heap.life = s.heap.life := by
  unfold stepJ at h
  split at h
  · cases h
  · have e := stepK_forget M.den M.prog M.w s t
    rw [h] at e
    cases hs : PySem.step M.den M.prog M.w s t with
    | halt o s₂ => rw [hs] at e; cases e
    | go s₂ t₂ =>
      rw [hs] at e
      simp only [Step.forget] at e
      injection e with e1 _
      have e3 : s'.heap = s₂.heap := by
        have z := congrArg Shared.heap (show s'.forget = s₂.forget from e1)
        exact z
      rw [e3]; exact step_life M.den M.prog M.w s s₂ t t₂ hs
theorem Ok.step {s s' : Shared} {t t' : Thread} (h : stepJ M.den M.prog M.w s t = .go s' t') (k : Ok M F s' t') : Ok M F s t := fun hz => by
  obtain ⟨n, o, s2, h1, h2⟩ := k (by unfold Shared.asleep at hz ⊢; rw [stepJ_life h]; exact hz)
  exact ⟨n + 1, o, s2, by simp only [runNJ, h]; exact h1, h2⟩
theorem Ok.mstep {s s' : Shared} {t t' : Thread} (h : M.step s t = .go s' t') (k : Ok M F s' t') : Ok M F s t := Ok.step (stepJ_of_stepI M.den M.prog M.w h) k
theorem Ok.run {n : Nat} {s s' : Shared} {t t' : Thread} (h : M.runN n s t = .running s' t') (k : Ok M F s' t') : Ok M F s t := by
  induction n generalizing s t with
  | zero => cases h; exact k
  | succ n ih =>
    rw [runN_succ] at h
    cases hs : M.step s t with
    | go s₂ t₂ => rw [hs] at h; exact Ok.mstep hs (ih h)
    | halt o s₂ => rw [hs] at h; cases h
/-- a run of a segment -/
theorem Ok.reach {base pre : List Frame} {s s' : Shared} {t : Sem PySem.Fin} {c : Code} {p : Pos} {e : End} (h : Reach M base s t c p pre s' e)
    (k : ∀ t' c' p' pre', Exits e t' c' p' pre' → Ok M F s' ⟨t', c', p', pre' ++ base⟩) : Ok M F s ⟨t, c, p, pre ++ base⟩ := by
  obtain ⟨n, t', c', p', pre', hn, hx⟩ := h.runN
  exact Ok.run hn (k t' c' p' pre' hx)
/-- a code's run to its result -/
theorem Ok.returns {Γ : Ctx} {base : List Frame} {s s' : Shared} {p : Pos} {r : Result} (h : Returns M Γ p s r s') (hf : Γ.Fits base)
    (k : ∀ c' p', Ok M F s' ⟨leafOf r, c', p', base⟩) : Ok M F s ⟨M.den Γ.code, Γ.code, p, base⟩ := by
  have h2 := runs_reach h base hf
  refine Ok.reach (pre := []) h2 fun t' c' p' pre' hx => ?_
  obtain ⟨rfl, rfl⟩ := hx
  exact k c' p'
theorem Ok.call {s : Shared} {c c' : Code} {p : Pos} {st : List Frame} {h : Option Value} {g : Bool} {l : List Value} {k : Result → Sem PySem.Fin} (z : Ok M F s ⟨M.den c', c', p, .ret k h g l c p [] :: st⟩) :
    Ok M F s ⟨.call c' h g l k, c, p, st⟩ := Ok.mstep (step_call M s c p st c' h g l k) z
theorem Ok.leaf {s : Shared} {c c' : Code} {p p' : Pos} {st : List Frame} {h : Option Value} {g : Bool} {l kp : List Value} {k : Result → Sem PySem.Fin} (r : Result) (z : Ok M F s ⟨k r, c', p', st⟩) :
    Ok M F s ⟨leafOf r, c, p, .ret k h g l c' p' kp :: st⟩ := Ok.mstep (step_leaf_ret M s c p st r k h g l c' p' kp) z
/-- the exit of a generator's segment: its taker goes on -/
theorem Ok.exitGen {e : End} {s : Shared} {t' : Sem PySem.Fin} {c' : Code} {p' : Pos} {pre' : List Frame} {g : Nat} {k : GenResult → Sem PySem.Fin} {l : List Value} {c : Code} {p : Pos} {st : List Frame} (hx : Exits e t' c' p' pre') (hq : e.quiet = true)
    (z : Ok M F (s.setGen g e.genState) ⟨k e.result, c, p, st⟩) : Ok M F s ⟨t', c', p', pre' ++ .gen g k l c p :: st⟩ := Ok.mstep (step_exit_gen s g k l c p st hx hq) z
theorem Ok.wakes {s s' : Shared} {c : Code} {p : Pos} {st : List Frame} {g : Nat} {r : Resume} {l : List Value} {k : GenResult → Sem PySem.Fin} {res : GenResult} (h : Wakes M (Ctx.of c st) p g r s res s')
    (z : Ok M F s' ⟨k res, c, p, st⟩) : Ok M F s ⟨.resume g r l k, c, p, st⟩ := by
  unfold Wakes at h
  split at h
  · exact h.elim
  · rename_i c₁ hg
    split at h
    · obtain ⟨e₁, s₁, hr, hq, rfl, rfl⟩ := h
      refine Ok.mstep (step_resume_fresh M s c p st l k hg) ?_
      have hf : ((Ctx.of c st).wake c₁ p).Fits (.gen g k l (Ctx.of c st).code p :: st) := Ctx.Fits.wake (Ctx.fits_of c st) c₁ g k l p
      exact Ok.reach (pre := []) (runs_reach hr _ hf) fun t' c' p' pre' hx => Ok.exitGen hx hq z
    · rename_i v hv
      rw [h.1] at z; rw [h.2] at z
      exact Ok.mstep (step_resume_justStarted M s c p st l k hg hv) z
    · rename_i x
      rw [h.1] at z; rw [h.2] at z
      exact Ok.mstep (step_resume_throwFresh M s c p st x l k hg) z
  · rename_i k₀ l₀ c₀ p₀ fs cl hg
    obtain ⟨e₁, s₁, hr, hq, rfl, rfl⟩ := h
    refine Ok.mstep (step_resume_suspended M s c p st r l k hg) ?_
    have hf : ((Ctx.of c st).wake c₀ p).Fits (.gen g k l (Ctx.of c st).code p :: st) := Ctx.Fits.wake (Ctx.fits_of c st) c₀ g k l p
    exact Ok.reach (runs_reach hr _ hf) fun t' c' p' pre' hx => Ok.exitGen hx hq z
  · rename_i hg
    rw [h.1] at z; rw [h.2] at z
    exact Ok.mstep (step_resume_running M s c p st r l k hg) z
  · rename_i hg
    rw [h.1] at z; rw [h.2] at z
    exact Ok.mstep (step_resume_finished M s c p st r l k hg) z
/-- THE LIFT: what the kit's logic says of a piece, for the machine behind it -/
theorem Ok.wp {α : Type} {c : Code} {st : List Frame} (K : α → Sem PySem.Fin) (H : Value → Sem PySem.Fin) (gd : Bool → Bool) (lv : List Value → List Value) (m : Sem α) :
    ∀ {Q : α → Pos → Shared → Prop} {E : Value → Pos → Shared → Prop} {p : Pos} {s : Shared}, Sem.wp M (Ctx.of c st) m Q E p s →
      (∀ a p' s', Q a p' s' → Ok M F s' ⟨K a, c, p', st⟩) → (∀ x p' s', E x p' s' → Ok M F s' ⟨H x, c, p', st⟩) → Ok M F s ⟨m.wrap K H gd lv, c, p, st⟩ := by
  induction m with
  | pure a => intro Q E p s h hQ _; exact hQ a p s h
  | raise x => intro Q E p s h _ hE; exact hE x p s h
  | unsupported what => intro Q E p s h; exact h.elim
  | finish x => intro Q E p s h; exact h.elim
  | register a k => intro Q E p s h; exact h.elim
  | yield v g l k => intro Q E p s h; exact h.elim
  | fork c k => intro Q E p s h; exact h.elim
  | await a f d l k => intro Q E p s h; exact h.elim
  | rule tag k ih => intro Q E p s h hQ hE; exact Ok.mstep (step_rule ..) (ih () h hQ hE)
  | «at» p' k ih => intro Q E p s h hQ hE; exact Ok.mstep (step_at ..) (ih () h hQ hE)
  | load a part k ih => intro Q E p s h hQ hE; obtain ⟨o, ho, h⟩ := h; exact Ok.mstep (step_load _ _ _ _ _ _ _ ho) (ih o h hQ hE)
  | update a part f k ih => intro Q E p s h hQ hE; obtain ⟨ha, h⟩ := h; exact Ok.mstep (step_update _ _ _ _ _ _ _ _ ha) (ih () h hQ hE)
  | alloc o k ih => intro Q E p s h hQ hE; exact Ok.mstep (step_alloc ..) (ih _ h hQ hE)
  | loadIfAlive a k ih => intro Q E p s h hQ hE; exact Ok.mstep (step_loadIfAlive ..) (ih _ h hQ hE)
  | point l k ih => intro Q E p s h hQ hE; exact Ok.mstep (step_point ..) (ih () h hQ hE)
  | fresh k ih => intro Q E p s h hQ hE; exact Ok.mstep (step_fresh ..) (ih _ h hQ hE)
  | ask k ih => intro Q E p s h hQ hE; exact Ok.mstep (step_ask ..) (ih _ h hQ hE)
  | choose src n k ih => intro Q E p s h hQ hE; obtain ⟨hn, h⟩ := h; exact Ok.mstep (step_choose _ _ _ _ _ _ _ hn) (ih _ h hQ hE)
  | os q l k ih => intro Q E p s h hQ hE; exact Ok.mstep (step_os ..) (ih _ h hQ hE)
  | call c' h g l k ih =>
    intro Q E p s hw hQ hE
    obtain ⟨r, s₁, hret, hw⟩ := hw
    refine Ok.call (Ok.returns hret (Ctx.Fits.enter (Ctx.fits_of c st) c' _ h _ _ p []) fun c'' p'' => Ok.leaf r (ih r hw hQ hE))
  | handled own k ih =>
    intro Q E p s h hQ hE
    refine Ok.mstep (step_handled ..) (ih _ ?_ hQ hE)
    cases own <;> exact h
  | newGen c' k ih => intro Q E p s h hQ hE; exact Ok.mstep (step_newGen ..) (ih _ h hQ hE)
  | genState g k ih => intro Q E p s h hQ hE; obtain ⟨x, hg, h⟩ := h; exact Ok.mstep (step_genState _ _ _ _ _ _ hg) (ih _ h hQ hE)
  | resume g r l k ih => intro Q E p s h hQ hE; obtain ⟨res, s₁, hwk, h⟩ := h; exact Ok.wakes hwk (ih res h hQ hE)
  | stack k ih => intro Q E p s h hQ hE; exact Ok.mstep (step_stack ..) (ih _ h hQ hE)
  | thread k ih => intro Q E p s h hQ hE; exact Ok.mstep (step_thread ..) (ih _ h hQ hE)
/-- where a thread stands, as the kit tells it -/
def Stands (c : Code) (st : List Frame) (A : Around) : Prop := (Ctx.of c st).In A
theorem Ok.wrap {α : Type} {A : Around} {c : Code} {p : Pos} {st : List Frame} {K : α → Sem PySem.Fin} {H : Value → Sem PySem.Fin} {gd : Bool → Bool} {lv : List Value → List Value} {m : Sem α} {Q : α → Shared → Prop} {E : Value → Shared → Prop} {s : Shared}
    (hA : Stands c st A) (h : wpAny M A m Q E s) (hQ : ∀ a p' s', Q a s' → Ok M F s' ⟨K a, c, p', st⟩) (hE : ∀ x p' s', E x s' → Ok M F s' ⟨H x, c, p', st⟩) : Ok M F s ⟨m.wrap K H gd lv, c, p, st⟩ :=
  Ok.wp K H gd lv m (h (Ctx.of c st) p hA) hQ hE
theorem Ok.bind {α : Type} {A : Around} {c : Code} {p : Pos} {st : List Frame} {K : α → Sem PySem.Fin} {m : Sem α} {Q : α → Shared → Prop} {s : Shared}
    (hA : Stands c st A) (h : wpAny M A m Q (fun _ _ => False) s) (hQ : ∀ a p' s', Q a s' → Ok M F s' ⟨K a, c, p', st⟩) : Ok M F s ⟨m >>= K, c, p, st⟩ := by
  rw [Sem.bind_eq_wrap']; exact Ok.wrap hA h hQ fun _ _ _ z => z.elim
end
end Ja
end
section
set_option maxHeartbeats 200000
/-! Jc: the logic backwards: wpJ, codeJ. -/
namespace Ja
open PySem
theorem of_fits {Γ : Ctx} {st : List Frame} (h : Γ.Fits st) : Γ = Ctx.of Γ.code st := by
  obtain ⟨c, h1, h2, h3, h4⟩ := Γ
  obtain ⟨e1, e2, e3, e4⟩ := h
  simp only at e1 e2 e3 e4
  subst e1 e2 e3 e4
  rfl
theorem wrap_id {α : Type} (m : Sem α) : m.wrap .pure .raise id id = m := by
  induction m <;> simp only [Sem.wrap, id, *]
section
variable {α β : Type} {M : Model} {F : Outcome → Shared → Prop} {A : Around} {E : Value → Shared → Prop} {s : Shared}
def wpJ {α : Type} (M : Model) (F : Outcome → Shared → Prop) (A : Around) (t : Sem α) (Q : α → Shared → Prop) (E : Value → Shared → Prop) (s : Shared) : Prop :=
  ∀ (c : Code) (p : Pos) (st : List Frame) (K : α → Sem PySem.Fin) (H : Value → Sem PySem.Fin) (gd : Bool → Bool) (lv : List Value → List Value), Stands c st A →
    (∀ a p' s', Q a s' → Ok M F s' ⟨K a, c, p', st⟩) → (∀ x p' s', E x s' → Ok M F s' ⟨H x, c, p', st⟩) → Ok M F s ⟨t.wrap K H gd lv, c, p, st⟩
def codeJ (M : Model) (F : Outcome → Shared → Prop) (A : Around) (c : Code) (R : Result → Shared → Prop) (s : Shared) : Prop :=
  ∀ (p : Pos) (st : List Frame), (Ctx.of c st).Below A → (∀ c' p' r s', R r s' → Ok M F s' ⟨leafOf r, c', p', st⟩) → Ok M F s ⟨M.den c, c, p, st⟩
theorem wpJ_of {t : Sem α} {Q : α → Shared → Prop} (h : wpAny M A t Q E s) : wpJ M F A t Q E s := fun c p st K H gd lv hA hQ hE => Ok.wrap hA h hQ hE
theorem wpJ_mono {t : Sem α} {Q Q' : α → Shared → Prop} {E' : Value → Shared → Prop} (h : wpJ M F A t Q E s) (hQ : ∀ a s, Q a s → Q' a s) (hE : ∀ e s, E e s → E' e s) : wpJ M F A t Q' E' s :=
  fun c p st K H gd lv hA kQ kE => h c p st K H gd lv hA (fun a p' s' q => kQ a p' s' (hQ a s' q)) fun x p' s' q => kE x p' s' (hE x s' q)
theorem wpJ_pure {a : α} {Q : α → Shared → Prop} (h : Q a s) : wpJ M F A (pure a) Q E s := fun c p st K H gd lv hA kQ kE => kQ a p s h
theorem wpJ_throw {e : Value} {Q : α → Shared → Prop} (h : E e s) : wpJ M F A (throw e : Sem α) Q E s := fun c p st K H gd lv hA kQ kE => kE e p s h
theorem wpJ_bind {m : Sem α} {f : α → Sem β} {Q : β → Shared → Prop} (h : wpJ M F A m (fun a s' => wpJ M F A (f a) Q E s') E s) : wpJ M F A (m >>= f) Q E s := fun c p st K H gd lv hA kQ kE => by
  rw [Sem.bind_eq_wrap', Sem.wrap_wrap]
  exact h c p st _ _ _ _ hA (fun a p' s' q => q c p' st K H gd lv hA kQ kE) kE
theorem wpJ_seq {m : Sem α} {f : α → Sem β} {Q : β → Shared → Prop} (h : wpAny M A m (fun a s' => wpJ M F A (f a) Q E s') E s) : wpJ M F A (m >>= f) Q E s := wpJ_bind (wpJ_of h)
theorem wpJ_attempt {m : Sem α} {Q : Except Value α → Shared → Prop} (h : wpJ M F A m (fun a => Q (.ok a)) (fun e => Q (.error e)) s) : wpJ M F A m.attempt Q E s := fun c p st K H gd lv hA kQ kE => by
  unfold Sem.attempt
  rw [Sem.tryCatch_eq_wrap, Sem.bind_eq_wrap, Sem.wrap_wrap, Sem.wrap_wrap]
  exact h c p st _ _ _ _ hA (fun a p' s' q => kQ _ p' s' q) fun x p' s' q => kQ _ p' s' q
theorem wpJ_onRaise {m : Sem α} {k : Value → Sem Unit} {Q : α → Shared → Prop} (h : wpJ M F A m Q (fun e s' => wpJ M F A (k e) (fun _ s'' => E e s'') E s') s) : wpJ M F A (m.onRaise k) Q E s := fun c p st K H gd lv hA kQ kE => by
  rw [Sem.onRaise_eq_wrap, Sem.wrap_wrap]
  refine h c p st _ _ _ _ hA (fun a p' s' q => kQ a p' s' q) fun x p' s' q => ?_
  rw [Sem.bind_eq_wrap, Sem.wrap_wrap]
  exact q c p' st _ _ _ _ hA (fun _ p'' s'' z => kE x p'' s'' z) kE
theorem wpJ_holding {vs : List Value} {m : Sem α} {Q : α → Shared → Prop} (h : wpJ M F A m Q E s) : wpJ M F A (holding vs m) Q E s := fun c p st K H gd lv hA kQ kE => by
  unfold holding
  split
  · exact h c p st K H gd lv hA kQ kE
  · rw [Sem.keep_eq_wrap, Sem.wrap_wrap]
    exact h c p st _ _ _ _ hA kQ kE
theorem wpJ_callCode {c' : Code} {hd : Option Value} {g : Bool} {l : List Value} {k : Result → Sem α} {Q : α → Shared → Prop} (hc : codeJ M F (A.mark hd) c' (fun r s' => wpJ M F A (k r) Q E s') s) (hnb : hd ≠ some byPass := by intro x; cases x) :
    wpJ M F A (.call c' hd g l k) Q E s := fun c p st K H gd lv hA kQ kE => by
  have hf : ((Ctx.of c st).enter c' hd p).Fits (.ret (fun r => (k r).wrap K H gd lv) hd (gd g) (lv l) c p [] :: st) := Ctx.Fits.enter (Ctx.fits_of c st) c' _ hd _ _ p []
  refine Ok.call (hc p _ ?_ fun c'' p'' r s' q => Ok.leaf r (q c p st K H gd lv hA kQ kE))
  have hb := Ctx.In.enter hA c' hd p hnb
  rw [of_fits hf] at hb
  exact hb
theorem wpJ_runValue {c' : Code} {Q : Value → Shared → Prop} (hc : codeJ M F A c' (fun r s' => match r with | .ok (.ret v) => Q v s' | .ok _ => False | .error e => E e s') s) : wpJ M F A (runValue c') Q E s := by
  unfold runValue run
  refine wpJ_bind (wpJ_callCode fun p st hb kk => hc p st hb fun c'' p'' r s' q => kk c'' p'' r s' ?_)
  cases r with
  | error e => exact wpJ_throw q
  | ok f =>
    cases f with
    | ret v => exact wpJ_pure (wpJ_pure q)
    | next => exact q.elim
    | brk => exact q.elim
    | cont => exact q.elim
theorem wpJ_call {f : Value} {pos : List Value} {kw : List (Str × Value)} {Q : Value → Shared → Prop} (hc : codeJ M F A (.call f ⟨pos, kw⟩) (fun r s' => match r with | .ok (.ret v) => Q v s' | .ok _ => False | .error e => E e s') s) :
    wpJ M F A (call f pos kw) Q E s := wpJ_runValue hc
theorem wpJ_run {c' : Code} {hd : Option Value} {Q : Flow → Shared → Prop} (hc : codeJ M F (A.mark hd) c' (fun r s' => match r with | .ok f => Q f s' | .error e => E e s') s) (hnb : hd ≠ some byPass := by intro x; cases x) : wpJ M F A (run c' hd) Q E s := by
  unfold run
  refine wpJ_callCode (fun p st hb kk => hc p st hb fun c'' p'' r s' q => kk c'' p'' r s' ?_) hnb
  cases r with
  | error e => exact wpJ_throw q
  | ok f => exact wpJ_pure q
theorem codeJ_mono {c' : Code} {R R' : Result → Shared → Prop} (h : codeJ M F A c' R s) (k : ∀ r s, R r s → R' r s) : codeJ M F A c' R' s := fun p st hb kk => h p st hb fun c'' p'' r s' q => kk c'' p'' r s' (k r s' q)
theorem codeJ_of {c' : Code} {R : Result → Shared → Prop} (h : codeAny M A c' R s) : codeJ M F A c' R s := fun p st hb kk => by
  obtain ⟨r, s', hr, hR⟩ := h (Ctx.of c' st) p rfl hb
  exact Ok.returns (Γ := Ctx.of c' st) hr (Ctx.fits_of c' st) fun c'' p'' => kk c'' p'' r s' hR
theorem codeJ_of_tree {c' : Code} {R : Result → Shared → Prop}
    (h : wpJ M F (A.under c') (M.den c') (fun fin s' => match fin with | .done f => R (.ok f) s' | .again c2 => c2.quiet = true ∧ codeJ M F A c2 R s') (fun e s' => R (.error e) s') s) : codeJ M F A c' R s := fun p st hb kk => by
  have hA : Stands c' st (A.under c') := hb.in
  have q := h c' p st .pure .raise id id hA (fun fin p' s' z => ?_) fun x p' s' z => kk c' p' (.error x) s' z
  · rw [wrap_id] at q; exact q
  · cases fin with
    | done f => exact kk c' p' (.ok f) s' z
    | again c2 => exact Ok.mstep (step_again M s' c' p' st c2 z.1) (z.2 p' st hb kk)
end
end Ja
end
section
set_option maxHeartbeats 200000
/-! Jd: a generator's code, backwards. -/
namespace Ja
open PySem
section
variable {M : Model} {F : Outcome → Shared → Prop} {A : Around} {Y : Value → Shared → GenState → Prop} {Rt : Shared → Prop}
theorem Ok.yield {s : Shared} {v : Value} {g0 : Bool} {l0 : List Value} {k0 : Resume → Sem PySem.Fin} {c0 : Code} {p0 : Pos} {fs : List Frame} {g : Nat} {k : GenResult → Sem PySem.Fin} {l : List Value} {c : Code} {p : Pos} {st : List Frame}
    (hsp : splitAtGen fs = none) (hq : (g0 || fs.any Frame.guarded) = false ∨ (s.asleep → closingShows s fs c0 g0 = false))
    (z : Ok M F (s.setGen g (.suspended k0 l0 c0 p0 fs (g0 || fs.any Frame.guarded))) ⟨k (.yielded v), c, p, st⟩) : Ok M F s ⟨.yield v g0 l0 k0, c0, p0, fs ++ .gen g k l c p :: st⟩ := fun hz => by
  have hs : splitAtGen (fs ++ .gen g k l c p :: st) = some (fs, (g, k, c, p), st) := by rw [splitAtGen_append_none _ hsp, splitAtGen_gen]; simp
  refine Ok.step (s' := s.setGen g (.suspended k0 l0 c0 p0 fs (g0 || fs.any Frame.guarded))) ?_ z hz
  unfold stepJ
  have hl : loudJ s ⟨.yield v g0 l0 k0, c0, p0, fs ++ .gen g k l c p :: st⟩ = false := by
    unfold loudJ
    rw [Thread.loud_yield v g0 l0 k0 c0 p0 hs]
    rcases hq with hq | hq
    · rw [hq]; rfl
    · have : gentle s ⟨.yield v g0 l0 k0, c0, p0, fs ++ .gen g k l c p :: st⟩ = true := by
        unfold gentle
        simp only [hs, hq hz]
        rfl
      rw [this]; simp
  rw [hl, if_neg Bool.false_ne_true]
  simp only [PySem.stepK, PySem.step, hs]
  rfl
def PP (M : Model) (F : Outcome → Shared → Prop) (A : Around) (Y : Value → Shared → GenState → Prop) (Rt : Shared → Prop) (t : Sem PySem.Fin) (c0 : Code) (fs : List Frame) (s : Shared) : Prop :=
  ∀ (g : Nat) (k : GenResult → Sem PySem.Fin) (l : List Value) (c : Code) (p p0 : Pos) (st : List Frame), Stands c st A →
    (∀ v s1 gs, Y v s1 gs → Ok M F (s1.setGen g gs) ⟨k (.yielded v), c, p, st⟩) → (∀ s1, Rt s1 → Ok M F (s1.setGen g .finished) ⟨k (.returned .none), c, p, st⟩) →
    Ok M F s ⟨t, c0, p0, fs ++ .gen g k l c p :: st⟩
/-- a generator's state from which it may be woken -/
def Awake (M : Model) (F : Outcome → Shared → Prop) (A : Around) (Y : Value → Shared → GenState → Prop) (Rt : Shared → Prop) (gs : GenState) (s : Shared) : Prop := match gs with
  | .fresh c0 => PP M F A Y Rt (M.den c0) c0 [] s
  | .suspended k0 _ c0 _ fs _ => PP M F A Y Rt (k0 (.send .none)) c0 fs s
  | _ => False
theorem stands_over {c c0 : Code} {st fs : List Frame} {g : Nat} {k : GenResult → Sem PySem.Fin} {l : List Value} {p : Pos} (h : Stands c st A) : Stands c0 (fs ++ .gen g k l c p :: st) (A.over c0 fs) := by
  have hw : ((Ctx.of c st).wake c0 p).Woken A := Ctx.In.wake h c0 p
  have hf : (((Ctx.of c st).wake c0 p).over fs).Fits (fs ++ .gen g k l (Ctx.of c st).code p :: st) := Ctx.Fits.over (Ctx.Fits.wake (Ctx.fits_of c st) c0 g k l p) fs
  have e := hw.over fs
  rw [of_fits hf] at e
  exact e
theorem PP.wrap {α : Type} {m : Sem α} {K : α → Sem PySem.Fin} {H : Value → Sem PySem.Fin} {gd : Bool → Bool} {lv : List Value → List Value} {c0 : Code} {fs : List Frame} {Q : α → Shared → Prop} {E : Value → Shared → Prop} {s : Shared}
    (h : wpJ M F (A.over c0 fs) m Q E s) (hQ : ∀ a s', Q a s' → PP M F A Y Rt (K a) c0 fs s') (hE : ∀ x s', E x s' → PP M F A Y Rt (H x) c0 fs s') : PP M F A Y Rt (m.wrap K H gd lv) c0 fs s := fun g k l c p p0 st hA kY kR =>
  h c0 p0 _ K H gd lv (stands_over hA) (fun a p' s' q => hQ a s' q g k l c p p' st hA kY kR) fun x p' s' q => hE x s' q g k l c p p' st hA kY kR
theorem PP.bind {α : Type} {m : Sem α} {K : α → Sem PySem.Fin} {c0 : Code} {fs : List Frame} {Q : α → Shared → Prop} {s : Shared}
    (h : wpJ M F (A.over c0 fs) m Q (fun _ _ => False) s) (hQ : ∀ a s', Q a s' → PP M F A Y Rt (K a) c0 fs s') : PP M F A Y Rt (m >>= K) c0 fs s := by
  rw [Sem.bind_eq_wrap']; exact PP.wrap h hQ fun _ _ z => z.elim
theorem PP.call {c2 c0 : Code} {hd : Option Value} {gd : Bool} {l0 : List Value} {k0 : Result → Sem PySem.Fin} {fs : List Frame} {s : Shared} (h : ∀ p0, PP M F A Y Rt (M.den c2) c2 (.ret k0 hd gd l0 c0 p0 [] :: fs) s) : PP M F A Y Rt (.call c2 hd gd l0 k0) c0 fs s :=
  fun g k l c p p0 st hA kY kR => Ok.call (h p0 g k l c p p0 st hA kY kR)
theorem PP.leaf {c1 c0 : Code} {hd : Option Value} {gd : Bool} {l0 kp : List Value} {k0 : Result → Sem PySem.Fin} {p1 : Pos} {fs : List Frame} {s : Shared} (r : Result) (h : PP M F A Y Rt (k0 r) c1 fs s) : PP M F A Y Rt (leafOf r) c0 (.ret k0 hd gd l0 c1 p1 kp :: fs) s :=
  fun g k l c p p0 st hA kY kR => Ok.leaf r (h g k l c p p1 st hA kY kR)
theorem PP.again {c2 c0 : Code} {fs : List Frame} {s : Shared} (hq : c2.quiet = true) (h : PP M F A Y Rt (M.den c2) c2 fs s) : PP M F A Y Rt (.pure (.again c2)) c0 fs s :=
  fun g k l c p p0 st hA kY kR => Ok.mstep (step_again M s c0 p0 _ c2 hq) (h g k l c p p0 st hA kY kR)
theorem PP.at {c0 : Code} {fs : List Frame} {s : Shared} {pos : Pos} {k0 : Unit → Sem PySem.Fin} (h : PP M F A Y Rt (k0 ()) c0 fs s) : PP M F A Y Rt (.at pos k0) c0 fs s :=
  fun g k l c p p0 st hA kY kR => Ok.mstep (step_at ..) (h g k l c p pos st hA kY kR)
theorem PP.point {c0 : Code} {fs : List Frame} {s : Shared} {l1 : List Value} {k0 : Unit → Sem PySem.Fin} (h : PP M F A Y Rt (k0 ()) c0 fs s) : PP M F A Y Rt (.point l1 k0) c0 fs s :=
  fun g k l c p p0 st hA kY kR => Ok.mstep (step_point ..) (h g k l c p p0 st hA kY kR)
theorem PP.yield {c0 : Code} {fs : List Frame} {s : Shared} {v : Value} {g0 : Bool} {l0 : List Value} {k0 : Resume → Sem PySem.Fin} (hsp : splitAtGen fs = none) (hq : (g0 || fs.any Frame.guarded) = false ∨ (s.asleep → closingShows s fs c0 g0 = false))
    (h : ∀ p0, Y v s (.suspended k0 l0 c0 p0 fs (g0 || fs.any Frame.guarded))) : PP M F A Y Rt (.yield v g0 l0 k0) c0 fs s :=
  fun g k l c p p0 st hA kY kR => Ok.yield hsp hq (kY v s _ (h p0))
theorem PP.end {c0 : Code} {s : Shared} (r : Result) (hr : (End.ret r).result = .returned .none) (h : Rt s) : PP M F A Y Rt (leafOf r) c0 [] s :=
  fun g k l c p p0 st hA kY kR => Ok.mstep (step_leaf_gen ..) (by rw [hr]; exact kR s h)
theorem PP.mono {Y' : Value → Shared → GenState → Prop} {Rt' : Shared → Prop} {t : Sem PySem.Fin} {c0 : Code} {fs : List Frame} {s : Shared} (h : PP M F A Y Rt t c0 fs s) (hY : ∀ v s gs, Y v s gs → Y' v s gs) (hR : ∀ s, Rt s → Rt' s) : PP M F A Y' Rt' t c0 fs s :=
  fun g k l c p p0 st hA kY kR => h g k l c p p0 st hA (fun v s1 gs q => kY v s1 gs (hY v s1 gs q)) fun s1 q => kR s1 (hR s1 q)
theorem Awake.mono {Y' : Value → Shared → GenState → Prop} {Rt' : Shared → Prop} {gs : GenState} {s : Shared} (h : Awake M F A Y Rt gs s) (hY : ∀ v s gs, Y v s gs → Y' v s gs) (hR : ∀ s, Rt s → Rt' s) : Awake M F A Y' Rt' gs s := by
  cases gs with
  | fresh c => exact PP.mono h hY hR
  | suspended k0 l0 c0 p0 fs cl => exact PP.mono h hY hR
  | running => exact h
  | finished => exact h
theorem wpJ_resume {α : Type} {g : Nat} {gs : GenState} {l : List Value} {k : GenResult → Sem α} {Q : α → Shared → Prop} {E : Value → Shared → Prop} {s : Shared} (hg : s.gens[g]? = some gs) (h : Awake M F A Y Rt gs (s.setGen g .running))
    (hY : ∀ v s1 gs', Y v s1 gs' → wpJ M F A (k (.yielded v)) Q E (s1.setGen g gs')) (hR : ∀ s1, Rt s1 → wpJ M F A (k (.returned .none)) Q E (s1.setGen g .finished)) : wpJ M F A (.resume g (.send .none) l k) Q E s := fun c p st K H gd lv hA kQ kE => by
  have kY : ∀ v s1 gs', Y v s1 gs' → Ok M F (s1.setGen g gs') ⟨(fun x => (k x).wrap K H gd lv) (.yielded v), c, p, st⟩ := fun v s1 gs' q => hY v s1 gs' q c p st K H gd lv hA kQ kE
  have kR : ∀ s1, Rt s1 → Ok M F (s1.setGen g .finished) ⟨(fun x => (k x).wrap K H gd lv) (.returned .none), c, p, st⟩ := fun s1 q => hR s1 q c p st K H gd lv hA kQ kE
  cases gs with
  | fresh c0 => exact Ok.mstep (step_resume_fresh M s c p st (lv l) (fun x => (k x).wrap K H gd lv) hg) (h g _ (lv l) c p p st hA kY kR)
  | suspended k0 l0 c0 p0 fs cl => exact Ok.mstep (step_resume_suspended M s c p st (.send .none) (lv l) (fun x => (k x).wrap K H gd lv) hg) (h g _ (lv l) c p p0 st hA kY kR)
  | running => exact h.elim
  | finished => exact h.elim
end
end Ja
end
section
set_option maxHeartbeats 1000000
/-! Je: generators that hand out runs (tuples of ints), one inside another. -/
namespace Ja
open PySem PySem.Spec PyProof.Rows L2
/-- one generator that runs: F: what is wanted at the very end; A, outer: from where it is woken; H0, s0: its call; op: what others may change while it sleeps; a, g: its object and number; gis: the numbers of those around it -/
structure Gp where
  F : Outcome → Shared → Prop
  P : Program
  w : World
  A : Around
  outer : List Env
  H0 : Hp
  s0 : Shared
  op : List Addr
  a : Addr
  g : Nat
  gis : List Nat
abbrev Gp.M (G : Gp) : Model := model G.P G.w
def GenAt (h : Heap) (a : Addr) (g : Nat) : Prop := ∃ o nm qn, h.get? a = some o ∧ o.cls = .type "generator" ∧ o.data = .fields #[.int g 0, nm, qn] ∧ (o.slots = #[] ∨ o.slots = #[some (rawInt 0)])
/-- from its sleep to its waking -/
structure Woke (G : Gp) (s s' : Shared) : Prop where
  os : s'.os = s.os
  keep : ∀ b o, b ∉ G.a :: G.op → s.heap.get? b = some o → s'.heap.get? b = some o
  opq : ∀ b ∈ G.op, ∃ o, s'.heap.get? b = some o ∧ ∀ v, o.data ≠ .cell v
  own : GenAt s'.heap G.a G.g
  gens : ∀ j, j ∉ G.g :: G.gis → s'.gens[j]? = s.gens[j]?
  bare : ∀ j ∈ G.g :: G.gis, ∀ x, s'.gens[j]? = some x → x.bare = true
  size : s.gens.size ≤ s'.gens.size
/-- how it leaves the heap when it sleeps or ends; s2: its last waking -/
structure Left (G : Gp) (s2 : Shared) (H' : Hp) (s : Shared) : Prop where
  os : s.os = G.s0.os
  un : Un (frs G.outer) G.op G.H0 H' G.s0.heap s.heap
  hok : HOk G.P G.w H' s.heap
  same : ∀ b ∈ G.a :: G.op, s.heap.get? b = s2.heap.get? b
  free : ∀ b ∈ G.a :: G.op, H' b = none
  size : ∀ j ∈ G.g :: G.gis, j < s.gens.size
/-- it will hand out these runs, then end -/
def Will (G : Gp) : List (List Int) → Hp → GenState → Shared → Prop
  | [], H, gs, s2 => Awake G.M G.F G.A (fun _ _ _ => False) (fun s => ∃ H', Same H H' ∧ Left G s2 H' s ∧ AllBare s.gens) gs s2
  | r :: rs, H, gs, s2 => Awake G.M G.F G.A (fun v s gs' => ∃ H' t, v = .ref t ∧ H' t = some (.tup (r.map V.int)) ∧ Same H H' ∧ Left G s2 H' s ∧ ∀ s3, Woke G s s3 → Will G rs H' gs' s3) (fun _ => False) gs s2
def Yof (G : Gp) : List (List Int) → Hp → Shared → Value → Shared → GenState → Prop
  | [], _, _ => fun _ _ _ => False
  | r :: rs, H, s2 => fun v s gs' => ∃ H' t, v = .ref t ∧ H' t = some (.tup (r.map V.int)) ∧ Same H H' ∧ Left G s2 H' s ∧ ∀ s3, Woke G s s3 → Will G rs H' gs' s3
def Rof (G : Gp) : List (List Int) → Hp → Shared → Shared → Prop
  | [], H, s2 => fun s => ∃ H', Same H H' ∧ Left G s2 H' s ∧ AllBare s.gens
  | _ :: _, _, _ => fun _ => False
theorem will_eq (G : Gp) (rs : List (List Int)) (H : Hp) (gs : GenState) (s2 : Shared) : Will G rs H gs s2 = Awake G.M G.F G.A (Yof G rs H s2) (Rof G rs H s2) gs s2 := by
  cases rs <;> rfl
/-- a point of its code from which it will do so -/
def Pt (G : Gp) (rs : List (List Int)) (H : Hp) (s2 : Shared) (t : Sem PySem.Fin) (c : Code) (fs : List Frame) (s : Shared) : Prop := PP G.M G.F G.A (Yof G rs H s2) (Rof G rs H s2) t c fs s
theorem Pt.weak {G : Gp} {rs : List (List Int)} {H H' : Hp} {s2 : Shared} {t : Sem PySem.Fin} {c : Code} {fs : List Frame} {s : Shared} (h : Pt G rs H' s2 t c fs s) (e : Same H H') : Pt G rs H s2 t c fs s := by
  refine PP.mono h (fun v s gs q => ?_) fun s q => ?_
  · cases rs with
    | nil => exact q
    | cons r rs => obtain ⟨H2, t, h1, h2, h3, h4⟩ := q; exact ⟨H2, t, h1, h2, e.trans h3, h4⟩
  · cases rs with
    | nil => obtain ⟨H2, h3, h4⟩ := q; exact ⟨H2, e.trans h3, h4⟩
    | cons r rs => exact q
theorem ppw_bind2 {α β : Type} {M : Model} {F : Outcome → Shared → Prop} {A : Around} {Y : Value → Shared → GenState → Prop} {Rt : Shared → Prop} {m : Sem α} {f : α → Sem β} {K : β → Sem PySem.Fin} {J : Value → Sem PySem.Fin} {gd : Bool → Bool} {lv : List Value → List Value} {c : Code} {fs : List Frame} {s : Shared}
    (h : PP M F A Y Rt (m.wrap (fun a => (f a).wrap K J gd lv) J gd lv) c fs s) : PP M F A Y Rt ((m >>= f).wrap K J gd lv) c fs s := by
  rw [Sem.bind_eq_wrap', Sem.wrap_wrap]; exact h
theorem ppw_bind {α β : Type} {M : Model} {F : Outcome → Shared → Prop} {A : Around} {Y : Value → Shared → GenState → Prop} {Rt : Shared → Prop} {m : Sem α} {f : α → Sem β} {K : β → Sem PySem.Fin} {J : Value → Sem PySem.Fin} {gd : Bool → Bool} {lv : List Value → List Value} {c : Code} {fs : List Frame} {s : Shared}
    (h : wpJ M F (A.over c fs) m (fun a s' => PP M F A Y Rt ((f a).wrap K J gd lv) c fs s') (fun _ _ => False) s) : PP M F A Y Rt ((m >>= f).wrap K J gd lv) c fs s :=
  ppw_bind2 (PP.wrap h (fun _ _ q => q) fun _ _ q => q.elim)
theorem ppw_onRaise {α : Type} {M : Model} {F : Outcome → Shared → Prop} {A : Around} {Y : Value → Shared → GenState → Prop} {Rt : Shared → Prop} {m : Sem α} {f : Value → Sem Unit} {K : α → Sem PySem.Fin} {J : Value → Sem PySem.Fin} {gd : Bool → Bool} {lv : List Value → List Value} {c : Code} {fs : List Frame} {s : Shared}
    (h : ∀ J', PP M F A Y Rt (m.wrap K J' gd lv) c fs s) : PP M F A Y Rt ((m.onRaise f).wrap K J gd lv) c fs s := by
  rw [Sem.onRaise_eq_wrap, Sem.wrap_wrap]; exact h _
/-- the context of its body fits it -/
structure Tie (X : Cx) (G : Gp) : Prop where
  prog : X.prog = G.P
  w : X.w = G.w
  outer : X.outer = G.outer
  h0 : X.H_0 = G.H0
  s0 : X.s_0 = G.s0
  ex : X.ex = G.op
  pn : X.pn = []
  xe : X.xe = fun _ _ => False
  young : G.s0.heap.objs.size ≤ G.a
  side : ∀ b ∈ G.a :: G.op, b ≠ X.env.locals ∧ (∀ x c, X.env.cells.lookup x = some c → c ≠ b) ∧ b ∉ X.fs
abbrev noG (s : Shared) : Shared := { s with gens := #[] }
/-- where its body stands; s2: its last waking; ip: its own iterators -/
structure At (X : Cx) (G : Gp) (ip : List (Addr × Obj)) (s2 : Shared) (σ : L2.St) (H : Hp) (s : Shared) : Prop where
  inv : Inv X (pinsAt (G.a :: G.op) s2.heap ++ ip) σ H (noG s)
  size : ∀ j ∈ G.g :: G.gis, j < s.gens.size
  own : GenAt s2.heap G.a G.g
  opq : ∀ b ∈ G.op, ∃ o, s2.heap.get? b = some o ∧ ∀ v, o.data ≠ .cell v
  ipn : ∀ p ∈ ip, p.1 ∉ G.a :: G.op
theorem bare_nil : AllBare (#[] : Array GenState) := fun x hx => by simp at hx
theorem Inv.noG {X : Cx} {pins : List (Addr × Obj)} {σ : L2.St} {H : Hp} {s : Shared} (I : Inv X pins σ H s) : Inv X pins σ H (noG s) :=
  ⟨I.ok, I.os, bare_nil, I.base, I.loc, I.cell, I.free, I.freeC, I.pin, I.hok, I.len⟩
theorem Inv.withG {X : Cx} {pins : List (Addr × Obj)} {σ : L2.St} {H : Hp} {s : Shared} (I : Inv X pins σ H (Ja.noG s)) (hb : AllBare s.gens) : Inv X pins σ H s :=
  ⟨I.ok, I.os, hb, I.base, I.loc, I.cell, I.free, I.freeC, I.pin, I.hok, I.len⟩
section
variable {X : Cx} {G : Gp} {ip : List (Addr × Obj)} {s2 s s3 : Shared} {σ : L2.St} {H : Hp}
theorem At.there (h : At X G ip s2 σ H s) {b : Addr} (hb : b ∈ G.a :: G.op) : ∃ o, s2.heap.get? b = some o ∧ (∀ v, o.data ≠ .cell v) ∧ s.heap.get? b = some o ∧ H b = none := by
  have key : ∃ o, s2.heap.get? b = some o ∧ ∀ v, o.data ≠ .cell v := by
    rcases List.mem_cons.mp hb with e | e
    · obtain ⟨o, nm, qn, h1, _, h2, _⟩ := h.own
      rw [e]; exact ⟨o, h1, fun v q => by rw [h2] at q; cases q⟩
    · exact h.opq b e
  obtain ⟨o, h1, h2⟩ := key
  have p := h.inv.pin (b, o) (List.mem_append_right _ (List.mem_append_left _ (mem_pinsAt hb h1)))
  exact ⟨o, h1, h2, p.1, p.2.1⟩
theorem At.left (h : At X G ip s2 σ H s) (T : Tie X G) : Left G s2 H s where
  os := by have := h.inv.os; rw [T.s0] at this; exact this
  un := by have := h.inv.base; rw [T.s0, T.h0, T.ex] at this; unfold Cx.fs at this; rw [T.outer] at this; exact this
  hok := by have := h.inv.hok; rw [T.prog, T.w] at this; exact this
  same := fun b hb => by obtain ⟨o, h1, _, h3, _⟩ := h.there hb; rw [h1, h3]
  free := fun b hb => by obtain ⟨o, _, _, _, h4⟩ := h.there hb; exact h4
  size := h.size
theorem At.woken (h : At X G ip s2 σ H s) (T : Tie X G) (k : Woke G s s3) : At X G ip s3 σ H s3 := by
  have hfree : ∀ b ∈ G.a :: G.op, H b = none := (h.left T).free
  have nt : ∀ b u, H b = some u → b ∉ G.a :: G.op := fun b u q hb => by rw [hfree b hb] at q; cases q
  have I0 : Inv X ip σ H (Ja.noG s) := h.inv.pins_of fun p hp => h.inv.pin p (List.mem_append_right _ (List.mem_append_right _ hp))
  have I1 : Inv X ip σ H (Ja.noG s3) := by
    obtain ⟨hh, gg, dd, tt, oo⟩ := s3
    obtain ⟨k1, k2, k3, k4, k5, k6, k7⟩ := k
    have eo : oo = s.os := k1
    subst eo
    refine L2.Inv.step (s := Ja.noG s) (h' := hh) (g' := #[]) (t' := tt) (d' := dd) (ch := G.a :: G.op) I0 (fun b hb => ?_) (fun b o _ _ hc q _ => k2 b o hc q) (fun b o _ _ hc q _ => ⟨o.slots, k2 b o hc q⟩) (fun _ _ _ _ n => n) (fun b o hc q => ⟨o, k2 b o hc q⟩)
      (fun _ _ q => q) (fun _ _ _ q => q) (fun b ps q => ⟨#[], by rw [q]; simp⟩) (fun m hm => ?_) (fun b u q => ?_) bare_nil
    · obtain ⟨q1, q2, q3⟩ := T.side b hb
      refine ⟨?_, q1, q2, fun p hp z => ?_⟩
      · rcases List.mem_cons.mp hb with e | e
        · right; rw [T.s0, e]; exact T.young
        · left; rw [T.ex]; exact e
      · rw [T.pn, List.nil_append] at hp
        exact h.ipn p hp (by rw [z]; exact hb)
    · obtain ⟨ob, es, ep, ho, r⟩ := hm
      exact ⟨ob, es, ep, k2 _ ob (fun z => (T.side _ z).1 rfl) ho, r⟩
    · refine (I0.hok b u q).stay (fun c v hc y => k2 c v ?_ y) (fun _ y => y) fun _ _ y => y
      rcases hc with y | y
      · rw [y]; exact nt b u q
      · exact nt c _ y
  refine ⟨I1.pins_of fun p hp => ?_, fun j hj => Nat.lt_of_lt_of_le (h.size j hj) k.size, k.own, k.opq, h.ipn⟩
  rcases List.mem_append.mp hp with hp | hp
  · obtain ⟨hb, e⟩ := of_pinsAt hp
    obtain ⟨q1, q2, q3⟩ := T.side p.1 hb
    refine ⟨e, hfree _ hb, q1, q3, ?_⟩
    rcases List.mem_cons.mp hb with z | z
    · obtain ⟨o, nm, qn, h1, _, h2, _⟩ := k.own
      rw [← z, e] at h1; cases h1
      intro v q; rw [h2] at q; cases q
    · obtain ⟨o, h1, h2⟩ := k.opq p.1 z
      rw [e] at h1; cases h1
      exact h2
  · exact I1.pin p (List.mem_append_right _ hp)
theorem Woke.allBare (k : Woke G s s3) (hb : AllBare s.gens) : AllBare s3.gens := fun x hx => by
  obtain ⟨j, hj, e⟩ := Array.mem_iff_getElem.mp hx
  have e2 : s3.gens[j]? = some x := by rw [Array.getElem?_eq_getElem hj, e]
  by_cases hm : j ∈ G.g :: G.gis
  · exact k.bare j hm x e2
  · rw [k.gens j hm] at e2
    exact hb x (Array.mem_of_getElem? e2)
end
end Ja
end
section
set_option maxHeartbeats 1000000
/-! Jf: the turn of a generator by its __next__, backwards. -/
namespace Ja
open PySem PySem.Spec PyProof.Rows L2
section
variable {P : Program} {w : World} {F : Outcome → Shared → Prop} {A : Around} {E : Value → Shared → Prop} {s : Shared}
theorem codeJ_builtin {id : String} {args : Args} {b : Builtin} {R : Result → Shared → Prop} (hb : entryFor table id = some b)
    (h : wpJ (model P w) F (A.under (.builtin id args)) (b args) (fun fin s' => match fin with | .done f => R (.ok f) s' | .again c' => c'.quiet = true ∧ codeJ (model P w) F A c' R s') (fun e s' => R (.error e) s') s) : codeJ (model P w) F A (.builtin id args) R s := by
  refine codeJ_of_tree ?_
  show wpJ _ _ _ (match entryFor table id with | some b => b args | none => unsupported ((withoutEnding? id "#data").getD id)) _ _ s
  rw [hb]; exact h
theorem codeJ_callBuiltin {id : String} {args : Args} {b : Builtin} {R : Result → Shared → Prop} (hq : plainId id = true) (hb : entryFor table id = some b)
    (h : wpAny (model P w) A.in1 (checkBuiltinCall id args) (fun _ s1 => wpJ (model P w) F A.in1 (b args) (fun fin s' => match fin with | .done f => R (.ok f) s' | .again c' => c'.quiet = true ∧ codeJ (model P w) F A c' R s') (fun e s' => R (.error e) s') s1) (fun e s' => R (.error e) s') s) :
    codeJ (model P w) F A (.call (.builtin id) args) R s := by
  refine codeJ_of_tree ?_
  show wpJ _ _ A.in1 (do checkBuiltinCall id args; again (.builtin id args)) _ _ s
  refine wpJ_seq (wpAny_mono h (fun _ s1 h1 => wpJ_pure ⟨plainId_quiet hq args, codeJ_builtin hb ?_⟩) fun _ _ z => z)
  rw [Around.under_plainId hq args]; exact h1
theorem wpJ_entry {T : String} {name : Str} {id : String} {b : Builtin} {self : Value} {rest : List Value} {Q : Value → Shared → Prop} (h : Slot T name id) (hT : s.TypeIs self T) (hb : entryFor table id = some b)
    (hc : wpJ (model P w) F A.in1 (b ⟨self :: rest, []⟩) (fun fin s' => ∃ v, fin = .done (.ret v) ∧ Q v s') E s) (ha : argsOk id ⟨self :: rest, []⟩) : wpJ (model P w) F A (call (.builtin id) (self :: rest)) Q E s := by
  refine wpJ_call (codeJ_callBuiltin h.plain hb (h.check _ _ _ _ _ _ _ _ hT ha (wpJ_mono hc (fun fin s' q => ?_) fun _ _ z => z)))
  obtain ⟨v, rfl, hv⟩ := q; exact hv
theorem wpJ_special {self : Value} {T : String} {name : Str} {id : String} {Q : Option Value → Shared → Prop} (hT : s.TypeIs self T) (h : Slot T name id) (hc : wpJ (model P w) F A (call (.builtin id) [self]) (fun v => Q (some v)) E s) :
    wpJ (model P w) F A (callSpecial? self name []) Q E s := by
  simp only [callSpecial?]
  refine wpJ_seq (wpAny_specialOf hT h.lookup ?_)
  simp only [h.bind]
  exact wpJ_holding (wpJ_bind (wpJ_pure (wpJ_bind (wpJ_mono hc (fun v s' q => wpJ_pure q) fun _ _ z => z))))
theorem GenAt.typeIs {a : Addr} {g : Nat} (h : GenAt s.heap a g) : s.TypeIs (.ref a) "generator" := by
  obtain ⟨o, _, _, ho, hc, _⟩ := h
  exact ⟨o, ho, hc⟩
theorem genNumberC {M : Model} {a : Addr} {g : Nat} {Q : Nat → Shared → Prop} (hg : GenAt s.heap a g) (h : Q g s) : wpAny M A (Builtin.Generator.genNumber (.ref a)) Q E s := by
  obtain ⟨o, nm, qn, ho, _, hd, hsl⟩ := hg
  unfold Builtin.Generator.genNumber
  refine wpAny_bind (wpAny_load ho ?_)
  rcases hsl with e | e
  · rw [e, hd]
    show wpAny M A (pure ((g : Int).toNat)) Q E s
    rw [Int.toNat_natCast]; exact wpAny_pure h
  · rw [e, hd]
    show wpAny M A (pure ((g : Int).toNat)) Q E s
    rw [Int.toNat_natCast]; exact wpAny_pure h
/-- next of a generator that sleeps or has not begun -/
theorem wpJ_gen_next {a : Addr} {g : Nat} {gs : GenState} {Y : Value → Shared → GenState → Prop} {Rt : Shared → Prop} {Q : Option Value → Shared → Prop} (hh : A.handled = none) (hl : s.heap.NoLimit) (hroom : A.depth < recursionLimit)
    (hg : GenAt s.heap a g) (hgs : s.gens[g]? = some gs) (hw : Awake (model P w) F A.in1 Y Rt gs (s.setGen g .running)) (hY : ∀ v s1 gs', Y v s1 gs' → Q (some v) (s1.setGen g gs'))
    (hP : ∀ s1, Rt s1 → ∀ e h', StopX e h' → (∀ b o, s1.heap.get? b = some o → h'.get? b = some o) → E e { s1.setGen g .finished with heap := h' }) : wpJ (model P w) F A (callSpecial? (.ref a) (Str.ofString "__next__") []) Q E s := by
  refine wpJ_special hg.typeIs slot_gen_next (wpJ_entry slot_gen_next hg.typeIs entry_gen_next ?_ (args_gen_next _))
  show wpJ _ _ A.in1 (Builtin.Generator.genWake (.ref a) (.send .none)) _ _ s
  unfold Builtin.Generator.genWake
  refine wpJ_seq (wpAny_holding (genNumberC hg ?_))
  refine wpJ_seq (wpAny_genState hgs ?_)
  cases gs with
  | running => exact hw.elim
  | finished => exact hw.elim
  | _ =>
    refine wpJ_seq (wpAny_roomToWake hl hroom ?_)
    show wpJ _ _ A.in1 (resume g (.send .none) >>= _) _ _ s
    refine wpJ_bind (wpJ_resume hgs hw (fun v s1 gs' q => wpJ_pure (wpJ_pure ⟨v, rfl, hY v s1 gs' q⟩)) fun s1 q => wpJ_pure ?_)
    refine wpJ_of ?_
    show wpAny _ A.in1 (newExc (.type "StopIteration") [] >>= _) _ _ _
    refine wpAny_bind ?_
    simp only [newExc, newTuple]
    refine wpAny_bind (wpAny_newObj_type ?_ (by size_fits))
    refine wpAny_bind (m := firstArgMember _ _) (wpAny_of_eq (a := Value.none) (by first | rfl | (simp only [firstArgMember]; rfl)) ?_)
    refine wpAny_newObj_type ?_ (by size_fits)
    simp only [raiseNew]
    refine wpAny_bind (wpAny_bind (wpAny_handled ?_))
    first | rw [show A.in1.handled = none from hh] | rw [hh]
    refine wpAny_throw ?_
    refine hP s1 q _ _ ⟨_, _, _, rfl, Heap.get?_push_size _ rfl, rfl, rfl, ?_⟩ fun b o hb => Heap.get?_push_of_some _ (Heap.get?_push_of_some _ hb)
    first
      | rfl
      | (rw [Array.getElem?_append_left (by decide)]; rfl)
      | kernel_rfl
end
end Ja
end
section
set_option maxHeartbeats 2000000
/-! Jg: «yield from» over a generator. -/
namespace Ja
open PySem PySem.Spec PyProof.Rows L2
theorem over_ret {A : Around} {c c' : Code} {fs : List Frame} {k : Result → Sem PySem.Fin} {g : Bool} {l kp : List Value} {p : Pos} : A.over c' (.ret k none g l c p kp :: fs) = (A.over c fs).under c' := by
  have e2 : A.depth + frameCount ((Frame.ret k none g l c p kp :: fs).map Frame.where_) + c'.weight = A.depth + frameCount (fs.map Frame.where_) + c.weight + c'.weight := by
    show A.depth + frameCount ((c, p) :: fs.map Frame.where_) + c'.weight = _
    rw [frameCount_cons]; omega
  have e3 : pushEnvs c'.envs (pushEnvs (envsOf ((Frame.ret k none g l c p kp :: fs).map Frame.where_)) A.frames) = pushEnvs c'.envs (pushEnvs c.envs (pushEnvs (envsOf (fs.map Frame.where_)) A.frames)) := by
    show pushEnvs c'.envs (pushEnvs (envsOf ((c, p) :: fs.map Frame.where_)) A.frames) = _
    rw [envsOf_cons]
    simp only [pushEnvs_eq]
    cases A.frames <;> simp [List.append_assoc]
  have e4 : pushGuards c'.guards (pushGuards (guardsOf ((Frame.ret k none g l c p kp :: fs).map Frame.where_)) A.guards) = pushGuards c'.guards (pushGuards c.guards (pushGuards (guardsOf (fs.map Frame.where_)) A.guards)) := by
    show pushGuards c'.guards (pushGuards (guardsOf ((c, p) :: fs.map Frame.where_)) A.guards) = _
    rw [guardsOf_cons]
    simp only [pushGuards_eq]
    cases A.guards <;> simp [List.append_assoc]
  have e5 : A.units + unitsOf ((Frame.ret k none g l c p kp :: fs).map Frame.where_) + c'.cUnits = A.units + unitsOf (fs.map Frame.where_) + c.cUnits + c'.cUnits := by
    show A.units + unitsOf ((c, p) :: fs.map Frame.where_) + c'.cUnits = _
    rw [unitsOf_cons]; omega
  have e1 : (marksOver (Frame.ret k none g l c p kp :: fs) (A.handled, A.handled)).1 = (marksOver fs (A.handled, A.handled)).1 := rfl
  show (⟨(marksOver (Frame.ret k none g l c p kp :: fs) (A.handled, A.handled)).1, A.depth + frameCount ((Frame.ret k none g l c p kp :: fs).map Frame.where_) + c'.weight,
    pushEnvs c'.envs (pushEnvs (envsOf ((Frame.ret k none g l c p kp :: fs).map Frame.where_)) A.frames), pushGuards c'.guards (pushGuards (guardsOf ((Frame.ret k none g l c p kp :: fs).map Frame.where_)) A.guards),
    A.units + unitsOf ((Frame.ret k none g l c p kp :: fs).map Frame.where_) + c'.cUnits⟩ : Around) = _
  rw [e1, e2, e3, e4, e5]
  rfl
theorem gen_close : ∃ v, typeLookup (.type "generator") "close" = pure (some v) := by
  refine ⟨.builtin "generator.close", ?_⟩
  rw [typeLookup_type, builtinLookup_eq_fast]; kernel_rfl
/-- the mark that a delegator sleeps over it, set or taken away -/
theorem sleptOverC {M : Model} {A : Around} {E : Value → Shared → Prop} {s : Shared} {a : Addr} {o : Obj} {n : Int} {b : Bool} {vs : Array Value} {Q : Unit → Shared → Prop} (ho : s.heap.get? a = some o) (hc : o.cls = .type "generator") (hd : o.data = .fields vs)
    (hs : (o.slots = #[] ∧ n = 0) ∨ o.slots = #[some (rawInt n)])
    (h : ∀ h', h'.get? a = some { o with slots := #[some (rawInt (if b then n + 1 else n - 1))] } → (∀ c, c ≠ a → h'.get? c = s.heap.get? c) → Q () { s with heap := h' }) :
    wpAny M A (Builtin.Generator.sleptOver (.ref a) b) Q E s := by
  unfold Builtin.Generator.sleptOver
  refine wpAny_bind (wpAny_load ho ?_)
  have ne : ¬ ((o.cls != Value.type "generator") = true) := by rw [hc]; decide
  rw [if_neg ne]
  have key : ∀ m : Int, m = n → wpAny M A (setSlotAt a 0 (some (rawInt (if b = true then m + 1 else m - 1)))) Q E s := fun m em => by
    subst em
    unfold setSlotAt
    rw [if_neg (by decide)]
    refine wpAny_updatePart ho (h _ ?_ fun c hne => Heap.get?_update_other _ _ (Ne.symm hne))
    rw [Heap.get?_update_self _ ho (by
      show Obj.isFreed _ = false
      simp only [Obj.isFreed, hd])]
    rcases hs with ⟨e, _⟩ | e
    · rw [e]; rfl
    · rw [e]; rfl
  rcases hs with ⟨e, en⟩ | e
  · rw [e]
    exact key 0 en.symm
  · rw [e]
    exact key n rfl
end Ja
end
section
set_option maxHeartbeats 2000000
/-! Jh: the delegation's turns. -/
namespace Ja
open PySem PySem.Spec PyProof.Rows L2
/-- a call of a generator def has made one (at u) that will hand out these runs, wherever it is woken -/
def Made (P : Program) (w : World) (k : Nat) (base : Heap) (outer : List Env) (H : Hp) (s : Shared) (rs : List (List Int)) (u : Value) (s' : Shared) : Prop :=
  ∃ (a : Addr) (g : Nat) (c : Code), u = .ref a ∧ s.heap.objs.size ≤ a ∧ s'.heap.IsGen a g ∧ s'.gens[g]? = some (.fresh c) ∧ s'.os = s.os ∧ AllBare s'.gens ∧ s'.heap.NoLimit ∧ (∀ b o, s.heap.get? b = some o → s'.heap.get? b = some o) ∧ s.gens.size ≤ g ∧ s.gens.size ≤ s'.gens.size ∧
    ∀ (F : Outcome → Shared → Prop) (A : Around) (op : List Addr) (gis : List Nat) (s2 : Shared), Room k A → A.frames = some outer →
      (∀ b ∈ op, base.get? b = none ∧ H b = none ∧ b ∉ frs outer ∧ (b < s.heap.objs.size ∨ s'.heap.objs.size ≤ b)) → (∀ j ∈ gis, j < s.gens.size) → Woke ⟨F, P, w, A, outer, H, s, op, a, g, gis⟩ s' s2 → Will ⟨F, P, w, A, outer, H, s, op, a, g, gis⟩ rs H (.fresh c) s2
def GenN (h : Heap) (a : Addr) (g : Nat) (n : Int) : Prop := ∃ o nm qn, h.get? a = some o ∧ o.cls = .type "generator" ∧ o.data = .fields #[.int g 0, nm, qn] ∧ ((o.slots = #[] ∧ n = 0) ∨ o.slots = #[some (rawInt n)])
theorem GenN.at {h : Heap} {a : Addr} {g : Nat} (q : GenN h a g 0) : GenAt h a g := by
  obtain ⟨o, nm, qn, h1, h2, h3, h4⟩ := q
  exact ⟨o, nm, qn, h1, h2, h3, h4.elim (fun z => .inl z.1) .inr⟩
theorem GenAt.n {h : Heap} {a : Addr} {g : Nat} (q : GenAt h a g) : GenN h a g 0 := by
  obtain ⟨o, nm, qn, h1, h2, h3, h4⟩ := q
  exact ⟨o, nm, qn, h1, h2, h3, h4.elim (fun z => .inl ⟨z, rfl⟩) .inr⟩
theorem un_other {fs ex C : List Addr} {H H1 : Hp} {h h1 h2 : Heap} (u : Un fs ex H H1 h h1) (k : ∀ b o, b ∉ C → h1.get? b = some o → h2.get? b = some o) (hC : ∀ b ∈ C, b ∈ ex ∨ h.objs.size ≤ b) : Un fs ex H H1 h h2 := by
  have nc : ∀ b o, h.get? b = some o → b ∉ ex → b ∉ C := fun b o q hx hb => by
    rcases hC b hb with z | z
    · exact hx z
    · exact Nat.not_lt.mpr z (Heap.lt_size q)
  refine ⟨fun b o q n f x => k b o (nc b o q x) (u.keep b o q n f x), fun b o q n f x => ?_, u.free, fun b o q x => ?_, u.tups, u.frzs, u.tbls⟩
  · obtain ⟨sl, z⟩ := u.slot b o q n f x
    exact ⟨sl, k b _ (nc b o q x) z⟩
  · obtain ⟨o', z⟩ := u.there b o q x
    exact ⟨o', k b _ (nc b o q x) z⟩
theorem hok_other {P : Program} {w : World} {C : List Addr} {H1 : Hp} {h1 h2 : Heap} (u : HOk P w H1 h1) (k : ∀ b o, b ∉ C → h1.get? b = some o → h2.get? b = some o) (hC : ∀ b ∈ C, H1 b = none) : HOk P w H1 h2 := fun b v q => by
  have nt : ∀ c u, H1 c = some u → c ∉ C := fun c u q hc => by rw [hC c hc] at q; cases q
  refine (u b v q).stay (fun c w hc y => k c w ?_ y) (fun _ y => y) fun _ _ y => y
  rcases hc with y | y
  · rw [y]; exact nt b v q
  · exact nt c _ y
/-- between two turns of a delegation to a (number g), made by a call at sc -/
structure Mid (X : Cx) (G : Gp) (Hc : Hp) (sc : Shared) (a : Addr) (g : Nat) (s2 : Shared) (H1 : Hp) (n : Int) (s : Shared) : Prop where
  os : s.os = sc.os
  un : Un (frs X.stack) (G.a :: G.op) Hc H1 sc.heap s.heap
  hok : HOk X.prog X.w H1 s.heap
  free : ∀ b ∈ a :: G.a :: G.op, H1 b = none
  same : ∀ b ∈ G.a :: G.op, s.heap.get? b = s2.heap.get? b
  own : GenAt s2.heap G.a G.g
  opq : ∀ b ∈ G.op, ∃ o, s2.heap.get? b = some o ∧ ∀ v, o.data ≠ .cell v
  ga : GenN s.heap a g n
  size : ∀ j ∈ g :: G.g :: G.gis, j < s.gens.size
theorem setGen_get (s : Shared) (g j : Nat) (x : GenState) (h : j ≠ g) : (s.setGen g x).gens[j]? = s.gens[j]? := by
  show (s.gens.setIfInBounds g x)[j]? = _
  rw [Array.getElem?_setIfInBounds_ne (Ne.symm h)]
theorem setGen_own (s : Shared) (g : Nat) (x : GenState) (h : g < s.gens.size) : (s.setGen g x).gens[g]? = some x := by
  show (s.gens.setIfInBounds g x)[g]? = some x
  simp [h]
theorem setGen_len (s : Shared) (g : Nat) (x : GenState) : (s.setGen g x).gens.size = s.gens.size := by simp [Shared.setGen]
theorem setGen_bare {s : Shared} {g : Nat} {x : GenState} (h : AllBare s.gens) (hx : x.bare = true) : AllBare (s.setGen g x).gens := fun y hy => by
  obtain ⟨i, hi, e⟩ := Array.mem_iff_getElem.mp hy
  have e2 : (s.setGen g x).gens[i]? = some y := by rw [Array.getElem?_eq_getElem hi, e]
  by_cases z : i = g
  · subst z
    rw [setGen_own s i x (by rw [setGen_len] at hi; exact hi)] at e2
    cases e2; exact hx
  · rw [setGen_get s g i x z] at e2
    exact h y (Array.mem_of_getElem? e2)
section
variable {X : Cx} {G : Gp} {ip : List (Addr × Obj)} {σ : L2.St} {Hc H1 : Hp} {sc s2c s2 s : Shared} {a : Addr} {g : Nat}
theorem Mid.at {n : Int} (m : Mid X G Hc sc a g s2 H1 n s) (T : Tie X G) (Ic : At X G ip s2c σ Hc sc) : At X G ip s2 σ H1 s := by
  have I0 : Inv X ip σ Hc (Ja.noG sc) := Ic.inv.pins_of fun p hp => Ic.inv.pin p (List.mem_append_right _ (List.mem_append_right _ hp))
  have I1 : Inv X ip σ H1 (Ja.noG s) := L2.Inv.call' (s' := Ja.noG s) (ch := G.a :: G.op) I0 m.os m.un m.hok bare_nil fun b hb => by
    obtain ⟨q1, q2, q3⟩ := T.side b hb
    refine ⟨?_, q1, q2, fun p hp z => ?_⟩
    · rcases List.mem_cons.mp hb with e | e
      · right; rw [T.s0, e]; exact T.young
      · left; rw [T.ex]; exact e
    · rw [T.pn, List.nil_append] at hp
      exact Ic.ipn p hp (by rw [z]; exact hb)
  refine ⟨I1.pins_of fun p hp => ?_, fun j hj => m.size j (List.mem_cons_of_mem _ hj), m.own, m.opq, Ic.ipn⟩
  rcases List.mem_append.mp hp with hp | hp
  · obtain ⟨hb, e⟩ := of_pinsAt hp
    obtain ⟨q1, q2, q3⟩ := T.side p.1 hb
    refine ⟨by show s.heap.get? p.1 = _; rw [m.same p.1 hb]; exact e, m.free _ (List.mem_cons_of_mem _ hb), q1, q3, ?_⟩
    rcases List.mem_cons.mp hb with z | z
    · obtain ⟨o, nm, qn, h1, _, h2, _⟩ := m.own
      rw [← z, e] at h1; cases h1
      intro v q; rw [h2] at q; cases q
    · obtain ⟨o, h1, h2⟩ := m.opq p.1 z
      rw [e] at h1; cases h1
      exact h2
  · exact I1.pin p (List.mem_append_right _ hp)
end
abbrev yfC (a : Addr) : Code := .builtin "proto.yield_from" ⟨[.ref a, .bool false, .none], []⟩
theorem den_yfJ {X : Cx} {G : Gp} (T : Tie X G) {a : Addr} : G.M.den (yfC a) = Builtin.«proto.yield_from» ⟨[.ref a, .bool false, .none], []⟩ := by
  have q := den_yf (X := X) (it := .ref a)
  rw [T.prog, T.w] at q
  exact q
theorem endsTurnJ {M : Model} {A : Around} {E : Value → Shared → Prop} {s : Shared} {a : Addr} {o : Obj} {Q : Bool → Shared → Prop} (ho : s.heap.get? a = some o) (hc : o.cls = .type "StopIteration") (h : Q true s) :
    wpAny M A (Builtin.Generator.endsTheTurnAsAValue false (.ref a)) Q E s := wpAny_endsTurn ho hc h
/-- the turns -/
theorem yf_loop {X : Cx} {G : Gp} {ip : List (Addr × Obj)} {σ : L2.St} {Hc : Hp} {sc s2c : Shared} {a : Addr} {g : Nat} {fs' : List Frame} {rs2 : List (List Int)} (T : Tie X G) (Ic : At X G ip s2c σ Hc sc)
    (hA : (G.A.over (yfC a) fs').handled = none) (hD : (G.A.over (yfC a) fs').depth < recursionLimit) (hlim : ∀ s H1 s2, Mid X G Hc sc a g s2 H1 0 s → s.heap.NoLimit) (hsp : splitAtGen fs' = none) (hgd : fs'.any Frame.guarded = false)
    (hfr : sc.heap.objs.size ≤ a) (han : a ∉ G.a :: G.op) (hgn : g ∉ G.g :: G.gis)
    (hend : ∀ (s2 : Shared) (H' : Hp) (s : Shared), Same Hc H' → Mid X G Hc sc a g s2 H' 0 s → AllBare s.gens → Pt G rs2 H' s2 (leafOf (.ok (.ret .none))) (yfC a) fs' s) :
    ∀ (rs1 : List (List Int)) (H1 : Hp) (gs : GenState) (s2 s : Shared), Same Hc H1 → Mid X G Hc sc a g s2 H1 0 s → s.gens[g]? = some gs →
      Will ⟨G.F, G.P, G.w, (G.A.over (yfC a) fs').in1, X.stack, Hc, sc, G.a :: G.op, a, g, G.g :: G.gis⟩ rs1 H1 gs (s.setGen g .running) → Pt G (rs1 ++ rs2) H1 s2 (G.M.den (yfC a)) (yfC a) fs' s := by
  intro rs1
  induction rs1 with
  | nil =>
    intro H1 gs s2 s hsm m hgs hw
    rw [den_yfJ T]
    unfold Builtin.«proto.yield_from» Pt
    try dsimp only
    refine PP.bind (wpJ_pure (Q := fun v s' => v = Value.none ∧ s = s') ⟨rfl, rfl⟩) fun x s' hx => ?_
    obtain ⟨rfl, hx⟩ := hx
    subst hx
    refine PP.bind (Q := fun r s' => ∃ e h' H' s1, r = .error e ∧ StopX e h' ∧ Same H1 H' ∧ Left ⟨G.F, G.P, G.w, (G.A.over (yfC a) fs').in1, X.stack, Hc, sc, G.a :: G.op, a, g, G.g :: G.gis⟩ (s.setGen g .running) H' s1 ∧ AllBare s1.gens ∧ (∀ b o, s1.heap.get? b = some o → h'.get? b = some o) ∧ s' = { s1.setGen g .finished with heap := h' }) (wpJ_attempt (wpJ_holding ?_)) fun r s' hr => ?_
    · rw [if_neg Bool.false_ne_true, if_pos (show (Value.none == Value.none) = true from rfl)]
      refine wpJ_seq (wpAny_rule ?_)
      refine wpJ_bind (wpJ_gen_next hA (hlim _ _ _ m) hD m.ga.at hgs hw (fun v s1 gs' q => q.elim) fun s1 q e h' hS hk => ?_)
      obtain ⟨H', q1, q2, q3⟩ := q
      exact ⟨e, h', H', s1, rfl, hS, q1, q2, q3, hk, rfl⟩
    obtain ⟨e, h', H', s1, rfl, hS, hsm', L, hb1, hk, rfl⟩ := hr
    obtain ⟨ae, oe, vs, rfl, hoe, hce, hde, h5⟩ := hS
    try dsimp only
    refine PP.bind (Q := fun b s' => b = true ∧ s' = { s1.setGen g .finished with heap := h' }) (wpJ_of (endsTurnJ hoe hce ⟨rfl, rfl⟩)) fun b s' hb => ?_
    obtain ⟨rfl, rfl⟩ := hb
    rw [if_pos rfl]
    have mid : Mid X G Hc sc a g s2 H' 0 { s1.setGen g .finished with heap := h' } := by
      have keep1 : ∀ b ∈ a :: G.a :: G.op, h'.get? b = s.heap.get? b := fun b hb => by
        have e1 : s1.heap.get? b = s.heap.get? b := L.same b hb
        cases q : s.heap.get? b with
        | some o => rw [q] at e1; exact hk b o e1
        | none =>
          rcases List.mem_cons.mp hb with z | z
          · obtain ⟨o, _, _, h1, _⟩ := m.ga
            rw [z, h1] at q; cases q
          · have e2 := m.same b z
            rcases List.mem_cons.mp z with y | y
            · obtain ⟨o, _, _, h1, _⟩ := m.own
              rw [← y, ← e2, q] at h1; cases h1
            · obtain ⟨o, h1, _⟩ := m.opq b y
              rw [← e2, q] at h1; cases h1
      refine ⟨L.os, L.un.trans (Un.kept hk), ?_, L.free, fun b hb => (keep1 b (List.mem_cons_of_mem _ hb)).trans (m.same b hb), m.own, m.opq, ?_, fun j hj => ?_⟩
      · have q := L.hok.kept hk
        rw [T.prog, T.w]; exact q
      · obtain ⟨o, nm, qn, h1, r⟩ := m.ga
        exact ⟨o, nm, qn, (keep1 a List.mem_cons_self).trans h1, r⟩
      · show j < (s1.setGen g .finished).gens.size
        rw [setGen_len]; exact L.size j hj
    have fin := hend s2 H' _ (hsm.trans hsm') mid (setGen_bare hb1 rfl)
    refine PP.mono (Y := Yof G rs2 H1 s2) (Rt := Rof G rs2 H1 s2) ?_ (fun _ _ _ q => q) fun _ q => q
    refine PP.bind (Q := fun _ s' => s' = { s1.setGen g .finished with heap := h' }) (wpJ_of (wpAny_rule rfl)) fun _ s' e' => ?_
    subst e'
    refine PP.bind (Q := fun v s' => v = Value.none ∧ s' = { s1.setGen g .finished with heap := h' }) (wpJ_of (wpAny_field hoe hde h5 ⟨rfl, rfl⟩)) fun v s' hv => ?_
    obtain ⟨rfl, rfl⟩ := hv
    exact fin.weak hsm'
  | cons r rs1 ih =>
    intro H1 gs s2 s hsm m hgs hw
    rw [den_yfJ T]
    unfold Builtin.«proto.yield_from» Pt
    try dsimp only
    refine PP.bind (wpJ_pure (Q := fun v s' => v = Value.none ∧ s = s') ⟨rfl, rfl⟩) fun x s' hx => ?_
    obtain ⟨rfl, hx⟩ := hx
    subst hx
    refine PP.bind (Q := fun q s' => ∃ v s1 gs', q = .ok v ∧ Yof ⟨G.F, G.P, G.w, (G.A.over (yfC a) fs').in1, X.stack, Hc, sc, G.a :: G.op, a, g, G.g :: G.gis⟩ (r :: rs1) H1 (s.setGen g .running) v s1 gs' ∧ s' = s1.setGen g gs') (wpJ_attempt (wpJ_holding ?_)) fun q s' hq => ?_
    · rw [if_neg Bool.false_ne_true, if_pos (show (Value.none == Value.none) = true from rfl)]
      refine wpJ_seq (wpAny_rule ?_)
      exact wpJ_bind (wpJ_gen_next hA (hlim _ _ _ m) hD m.ga.at hgs hw (fun v s1 gs' q => wpJ_pure ⟨v, s1, gs', rfl, q, rfl⟩) fun s1 q => q.elim)
    obtain ⟨v, s1, gs', rfl, hv, rfl⟩ := hq
    obtain ⟨H', t, rfl, ht, hsm', L, hwk⟩ := hv
    try dsimp only
    have na : ∀ b ∈ G.a :: G.op, b ≠ a := fun b hb z => han (z ▸ hb)
    have ga1 : GenN s1.heap a g 0 := by
      obtain ⟨o, nm, qn, h1, r⟩ := m.ga
      exact ⟨o, nm, qn, (L.same a List.mem_cons_self).trans h1, r⟩
    obtain ⟨o1, nm, qn, ho1, hc1, hd1, hs1⟩ := ga1
    refine PP.bind (Q := fun b s' => b = Value.type "generator" ∧ s' = s1.setGen g gs') (wpJ_of (wpAny_typeOf (v := .ref a) (s := s1.setGen g gs') (T := "generator") ⟨o1, ho1, hc1⟩ ⟨rfl, rfl⟩)) fun b s' hb => ?_
    obtain ⟨rfl, rfl⟩ := hb
    try dsimp only
    obtain ⟨vc, hvc⟩ := gen_close
    refine PP.bind (Q := fun b s' => b = some vc ∧ s' = s1.setGen g gs') (wpJ_of (wpAny_of_eq hvc ⟨rfl, rfl⟩)) fun b s' hb => ?_
    obtain ⟨rfl, rfl⟩ := hb
    refine PP.bind (Q := fun b s' => b = false ∧ s' = s1.setGen g gs') (wpJ_pure ⟨rfl, rfl⟩) fun b s' hb => ?_
    obtain ⟨rfl, rfl⟩ := hb
    try dsimp only
    refine PP.bind (Q := fun _ s' => ∃ h4, s' = { s1.setGen g gs' with heap := h4 } ∧ h4.get? a = some { o1 with slots := #[some (rawInt 1)] } ∧ ∀ c, c ≠ a → h4.get? c = s1.heap.get? c) (wpJ_of (sleptOverC (n := 0) ho1 hc1 hd1 (hs1.elim (fun z => .inl z) .inr) fun h4 q1 q2 => ⟨h4, rfl, q1, q2⟩)) fun _ s' h4' => ?_
    obtain ⟨h4, rfl, h4a, h4o⟩ := h4'
    have k14 : ∀ b o, b ∉ [a] → s1.heap.get? b = some o → h4.get? b = some o := fun b o hb q => by rw [h4o b (by simpa using hb)]; exact q
    have hsc : sc.heap.objs.size ≤ a := hfr
    have mid4 : Mid X G Hc sc a g s2 H' 1 { s1.setGen g gs' with heap := h4 } := by
      refine ⟨L.os, un_other L.un k14 fun b hb => .inr (List.mem_singleton.mp hb ▸ hsc), ?_, L.free, fun b hb => ?_, m.own, m.opq, ⟨_, nm, qn, h4a, hc1, hd1, .inr rfl⟩, fun j hj => ?_⟩
      · have q := hok_other L.hok k14 fun b hb => L.free b (by simp at hb; rw [hb]; exact List.mem_cons_self)
        rw [T.prog, T.w]; exact q
      · show h4.get? b = _
        rw [h4o b (na b hb)]
        exact (L.same b (List.mem_cons_of_mem _ hb)).trans (m.same b hb)
      · show j < (s1.setGen g gs').gens.size
        rw [setGen_len]; exact L.size j hj
    have L4 := ((mid4.at T Ic).left T)
    show PP _ _ _ _ _ (.yield (.ref t) true [] _) _ _ _
    refine PP.yield hsp (.inr fun hz => ?_) fun p0 => ?_
    · show (fs'.any Frame.guarded || (true && delegateShows _ (.ref a))) = false
      rw [hgd]
      have e1 : delegateShows { s1.setGen g gs' with heap := h4 } (.ref a) = h4.life.registered.contains a := by
        unfold delegateShows
        try dsimp only
        rw [h4a]
        have en : Obj.genNumber? { o1 with slots := #[some (rawInt 1)] } = some g := by
          unfold Obj.genNumber?
          try dsimp only
          rw [hc1, hd1]
          rfl
        dsimp only
        rw [en]
      have e2 : h4.life.registered = [] := hz.1
      show (true && delegateShows { s1.setGen g gs' with heap := h4 } (.ref a)) = false
      rw [e1, e2]; rfl
    refine ⟨H', t, rfl, ht, hsm', L4, fun s3 k => ?_⟩
    rw [will_eq]
    show PP _ _ _ _ _ (Builtin.Generator.sleptOver (.ref a) false >>= _) _ _ s3
    have ha3 : s3.heap.get? a = some { o1 with slots := #[some (rawInt 1)] } := k.keep a _ han h4a
    refine PP.bind (Q := fun _ s' => ∃ h5, s' = { s3 with heap := h5 } ∧ h5.get? a = some { o1 with slots := #[some (rawInt 0)] } ∧ ∀ c, c ≠ a → h5.get? c = s3.heap.get? c) (wpJ_of (sleptOverC (n := 1) (o := { o1 with slots := #[some (rawInt 1)] }) ha3 hc1 hd1 (.inr rfl) fun h5 q1 q2 => ⟨h5, rfl, q1, q2⟩)) fun _ s' h5' => ?_
    obtain ⟨h5, rfl, h5a, h5o⟩ := h5'
    try dsimp only
    have k35 : ∀ b o, b ∉ [a] → s3.heap.get? b = some o → h5.get? b = some o := fun b o hb q => by rw [h5o b (by simpa using hb)]; exact q
    refine PP.bind (Q := fun v s' => v = Value.none ∧ s' = { s3 with heap := h5 }) (wpJ_pure ⟨rfl, rfl⟩) fun v s' hv => ?_
    obtain ⟨rfl, rfl⟩ := hv
    have hg1 : g < s1.gens.size := L.size g List.mem_cons_self
    have gen3 : s3.gens[g]? = some gs' := by
      rw [k.gens g hgn]; exact setGen_own s1 g gs' hg1
    have own5 : GenN h5 a g 0 := ⟨_, nm, qn, h5a, hc1, hd1, .inr rfl⟩
    have opq5 : ∀ b ∈ G.a :: G.op, ∃ o, h5.get? b = some o ∧ ∀ v, o.data ≠ .cell v := fun b hb => by
      rw [h5o b (na b hb)]
      rcases List.mem_cons.mp hb with z | z
      · obtain ⟨o, _, _, e1, _, e2, _⟩ := k.own
        rw [z]; exact ⟨o, e1, fun v q => by rw [e2] at q; cases q⟩
      · exact k.opq b z
    have mid5 : Mid X G Hc sc a g s3 H' 0 { s3 with heap := h5 } := by
      refine ⟨k.os.trans mid4.os, un_other (un_other mid4.un k.keep fun b hb => .inl hb) k35 fun b hb => .inr (List.mem_singleton.mp hb ▸ hsc), hok_other (hok_other mid4.hok k.keep fun b hb => mid4.free b (List.mem_cons_of_mem _ hb)) k35 fun b hb => mid4.free b (by simp at hb; rw [hb]; exact List.mem_cons_self),
        mid4.free, fun b hb => h5o b (na b hb), k.own, k.opq, own5, fun j hj => Nat.lt_of_lt_of_le (mid4.size j hj) k.size⟩
    have wk : Woke ⟨G.F, G.P, G.w, (G.A.over (yfC a) fs').in1, X.stack, Hc, sc, G.a :: G.op, a, g, G.g :: G.gis⟩ s1 (({ s3 with heap := h5 } : Shared).setGen g .running) := by
      refine ⟨k.os, fun b o hb q => ?_, opq5, own5.at, fun j hj => ?_, fun j hj x hx => ?_, ?_⟩
      · have hb1 : b ∉ [a] := fun z => hb (by simp at z; rw [z]; exact List.mem_cons_self)
        exact k35 b o hb1 (k.keep b o (fun z => hb (List.mem_cons_of_mem _ z)) (k14 b o hb1 q))
      · have jg : j ≠ g := fun z => hj (by rw [z]; exact List.mem_cons_self)
        rw [setGen_get _ _ _ _ jg]
        show s3.gens[j]? = _
        rw [k.gens j fun z => hj (List.mem_cons_of_mem _ z)]
        exact setGen_get s1 g j gs' jg
      · by_cases z : j = g
        · subst z
          rw [setGen_own _ _ _ (by show j < s3.gens.size; exact Nat.lt_of_lt_of_le (mid4.size j List.mem_cons_self) k.size)] at hx
          cases hx; rfl
        · rw [setGen_get _ _ _ _ z] at hx
          exact k.bare j ((List.mem_cons.mp hj).resolve_left z) x hx
      · rw [setGen_len]
        refine Nat.le_trans ?_ k.size
        show _ ≤ (s1.setGen g gs').gens.size
        rw [setGen_len]; exact Nat.le_refl _
    exact PP.again (plainId_quiet plain_yf _) (ih H' gs' s3 { s3 with heap := h5 } (hsm.trans hsm') mid5 gen3 (hwk _ wk))
end Ja
end
section
set_option maxHeartbeats 2000000
/-! Ji: the statements of a generator that hands out runs. -/
namespace Ja
open PySem PySem.Spec PyProof.Rows L2 GenW
theorem _root_.PySem.Heap.IsGen.at0 {h : Heap} {a : Addr} {g : Nat} (x : h.IsGen a g) : GenAt h a g := by
  obtain ⟨o, nm, qn, h1, h2, h3, h4⟩ := x
  exact ⟨o, nm, qn, h1, h2, h3, .inl h4⟩
/-- where its code stands -/
structure JC (X : Cx) (G : Gp) (c : Code) (fs : List Frame) (gd : Bool → Bool) : Prop where
  over : G.A.over c fs = X.A
  split : splitAtGen fs = none
  guard : fs.any Frame.guarded = false
  gd : gd false = false
/-- wanted: of the runs that are still to come, of the names, of the heap -/
abbrev JK := List (List Int) → L2.St → Hp → Prop
abbrev JTn := JK → JK
def JNx (X : Cx) (G : Gp) (ip : List (Addr × Obj)) (c : Code) (fs : List Frame) (K : Flow → Sem PySem.Fin) (D : JK) : Prop :=
  ∀ rs s2 σ H s, AllBare s.gens → At X G ip s2 σ H s → D rs σ H → Pt G rs H s2 (K .next) c fs s
structure JS (X : Cx) (G : Gp) (st : Stmt) (t : JTn) : Prop where
  run : ∀ ip c fs K J gd lv rs s2 σ H s D, JC X G c fs gd → AllBare s.gens → At X G ip s2 σ H s → t D rs σ H → JNx X G ip c fs K D → Pt G rs H s2 ((exec st X.env).wrap K J gd lv) c fs s
structure JSs (X : Cx) (G : Gp) (st : List Stmt) (t : JTn) : Prop where
  run : ∀ ip c fs K J gd lv rs s2 σ H s D, JC X G c fs gd → AllBare s.gens → At X G ip s2 σ H s → t D rs σ H → JNx X G ip c fs K D → Pt G rs H s2 ((execs st X.env).wrap K J gd lv) c fs s
section
variable {X : Cx} {G : Gp} {st : Stmt} {rest : List Stmt} {e : Expr} {pos yp : Pos} {te : TE}
theorem At.full {ip : List (Addr × Obj)} {s2 s : Shared} {σ : L2.St} {H : Hp} (h : At X G ip s2 σ H s) (hb : AllBare s.gens) : Inv X (pinsAt (G.a :: G.op) s2.heap ++ ip) σ H s := Ja.Inv.withG h.inv hb
theorem At.next {ip ip' : List (Addr × Obj)} {s2 s s' : Shared} {σ σ' : L2.St} {H H' : Hp} (h : At X G ip s2 σ H s) (I : Inv X (pinsAt (G.a :: G.op) s2.heap ++ ip') σ' H' s') (hz : s.gens.size ≤ s'.gens.size) (hi : ∀ p ∈ ip', p.1 ∉ G.a :: G.op) : At X G ip' s2 σ' H' s' :=
  ⟨Ja.Inv.noG I, fun j hj => Nat.lt_of_lt_of_le (h.size j hj) hz, h.own, h.opq, hi⟩
/-- a piece of code that hands out nothing -/
theorem pt_does {α : Type} {m : Sem α} {c : Code} {fs : List Frame} {gd gd' : Bool → Bool} {lv : List Value → List Value} {K : α → Sem PySem.Fin} {J : Value → Sem PySem.Fin} {rs : List (List Int)} {H : Hp} {s2 s : Shared} {Q : α → Shared → Prop} (T : Tie X G) (g : JC X G c fs gd')
    (h : wpAny (model X.prog X.w) X.A m Q X.xe s) (hk : ∀ a s', Q a s' → s.gens.size ≤ s'.gens.size → Pt G rs H s2 (K a) c fs s') : Pt G rs H s2 (m.wrap K J gd lv) c fs s := by
  refine PP.wrap (Q := fun a s' => Q a s' ∧ s.gens.size ≤ s'.gens.size) (E := fun _ _ => False) (wpJ_of ?_) (fun a s' q => hk a s' q.1 q.2) fun _ _ q => q.elim
  rw [g.over]
  have h2 := wpAny_mono h (fun _ _ q => q) (fun x s' q => by rw [T.xe] at q; exact q)
  rw [T.prog, T.w] at h2
  exact wpAny_gsz (Nat.le_refl _) (wpAny_mono h2 (fun a s' q hz => ⟨q, hz⟩) fun _ _ q _ => q.elim)
theorem pt_bind {α β : Type} {m : Sem α} {f : α → Sem β} {c : Code} {fs : List Frame} {gd gd' : Bool → Bool} {lv : List Value → List Value} {K : β → Sem PySem.Fin} {J : Value → Sem PySem.Fin} {rs : List (List Int)} {H : Hp} {s2 s : Shared} {Q : α → Shared → Prop} (T : Tie X G) (g : JC X G c fs gd')
    (h : wpAny (model X.prog X.w) X.A m Q X.xe s) (hk : ∀ a s', Q a s' → s.gens.size ≤ s'.gens.size → Pt G rs H s2 ((f a).wrap K J gd lv) c fs s') : Pt G rs H s2 ((m >>= f).wrap K J gd lv) c fs s :=
  ppw_bind2 (pt_does T g h hk)
theorem jss_nil : JSs X G [] (fun D rs σ H => D rs σ H) := ⟨fun ip c fs K J gd lv rs s2 σ H s D g hb hI ht k => k rs s2 σ H s hb hI ht⟩
theorem jss_cons {t u : JTn} (a : JS X G st t) (b : JSs X G rest u) : JSs X G (st :: rest) (fun D => t (u D)) := by
  refine ⟨fun ip c fs K J gd lv rs s2 σ H s D g hb hI ht k => ?_⟩
  rw [execs_cons_wrap]
  exact a.run ip c fs _ J gd lv rs s2 σ H s (u D) g hb hI ht fun rs' s2' σ' H' s' hb' hI' q => b.run ip c fs K J gd lv rs' s2' σ' H' s' D g hb' hI' q k
theorem js_if {test : Expr} {body : List Stmt} {tc : TT} {tb : JTn} (T : Tie X G) (hc : PT X test tc) (hb : JSs X G body tb) : JS X G (.If test body [] pos) (fun D rs σ H => tc σ H fun b H1 => Same H H1 ∧ (if b = true then tb D rs σ H1 else D rs σ H1)) := by
  refine ⟨fun ip c fs K J gd lv rs s2 σ H s D g hb0 hI ht k => ?_⟩
  rw [exec_If]
  show Pt G rs H s2 (.at pos fun _ => ((isTrue test X.env (eval test X.env)) >>= fun b => if b = true then execs body X.env else execs [] X.env).wrap K J gd lv) c fs s
  refine PP.at ?_
  refine pt_bind T g (hc.run _ s σ H _ (hI.full hb0) ht) fun b s' hq hz => ?_
  obtain ⟨H1, I1, sm, q⟩ := hq
  have A1 := hI.next I1 hz hI.ipn
  refine Pt.weak ?_ sm
  cases b with
  | true => exact hb.run ip c fs K J gd lv rs s2 σ H1 s' D g I1.bare A1 q k
  | false => exact k rs s2 σ H1 s' I1.bare A1 q
/-- it hands out a run -/
theorem js_yield (T : Tie X G) (he : PE X e te) (hco : X.env.scope.isCoroutine = false := by rfl) (hi : interactive X.env = false := by rfl) : JS X G (.Expr (.Yield (some e) yp) pos) (fun D rs σ H => te σ H fun x H1 => Same H H1 ∧ ∃ (t : Addr) (r : List Int) (rs' : List (List Int)), x = .ref t ∧ H1 t = some (.tup (r.map V.int)) ∧ rs = r :: rs' ∧ D rs' σ H1) := by
  refine ⟨fun ip c fs K J gd lv rs s2 σ H s D g hb0 hI ht k => ?_⟩
  rw [exec_Expr X.env _ pos hi rfl]
  show Pt G rs H s2 (.at pos fun _ => ((eval e X.env >>= fun v => (standAt yp >>= fun _ => yieldOut X.env v)) >>= fun x => dropValue (.Yield (some e) yp) pos x).wrap K J gd lv) c fs s
  have hy : ∀ v, yieldOut X.env v = yieldValue v := fun v => by simp only [yieldOut, hco, Bool.false_eq_true, if_false]
  simp only [hy]
  refine PP.at ?_
  rw [Sem.bind_eq_wrap', Sem.bind_eq_wrap', Sem.wrap_wrap, Sem.wrap_wrap]
  refine pt_does T g (he.run _ s σ H _ (hI.full hb0) ht) fun v s' hq hz => ?_
  obtain ⟨x, H1, I1, rv, sm, t, r, rs', rfl, et, rfl, q⟩ := hq
  have A1 := hI.next I1 hz hI.ipn
  obtain rfl : v = .ref t := rv
  refine PP.at ?_
  refine PP.yield g.split (.inl (by show (gd false || _) = false; rw [g.gd, g.guard]; rfl)) fun p0 => ?_
  refine ⟨H1, t, rfl, et, sm, A1.left T, fun s3 kk => ?_⟩
  rw [will_eq]
  exact k rs' s3 σ H1 s3 (kk.allBare I1.bare) (A1.woken T kk) q
end
end Ja
end
section
set_option maxHeartbeats 2000000
/-! Jk: yield from, for, in such a generator. -/
namespace Ja
open PySem PySem.Spec PyProof.Rows L2 GenW
/-- an expression whose value is a generator that has not begun: the runs that it will hand out -/
abbrev TJg := L2.St → Hp → (List (List Int) → Hp → Prop) → Prop
structure PJ (X : Cx) (k : Nat) (e : Expr) (t : TJg) : Prop where
  run : ∀ (pins : List (Addr × Obj)) (s : Shared) (σ : L2.St) (H : Hp) (Q : List (List Int) → Hp → Prop), Inv X pins σ H s → t σ H Q →
    wpAny (model X.prog X.w) X.A (eval e X.env) (fun u s' => ∃ H1 sc rs, Inv X pins σ H1 sc ∧ s.gens.size ≤ sc.gens.size ∧ Made X.prog X.w k X.base X.stack H1 sc rs u s' ∧ Q rs H1) X.xe s
section
variable {X : Cx} {G : Gp} {e : Expr} {pos yp : Pos} {k : Nat}
theorem js_yieldFrom {t : TJg} (T : Tie X G) (he : PJ X k e t) (hr : Room (k + 3) X.A) (hi : interactive X.env = false := by rfl) : JS X G (.Expr (.YieldFrom e yp) pos) (fun D rs σ H => t σ H fun rs1 H1 => Same H H1 ∧ ∃ rs2, rs = rs1 ++ rs2 ∧ ∀ H2, Same H1 H2 → D rs2 σ H2) := by
  refine ⟨fun ip c fs K J gd lv rs s2 σ H s D g hb0 hI ht kk => ?_⟩
  rw [exec_Expr X.env _ pos hi rfl]
  show Pt G rs H s2 (.at pos fun _ => ((eval e X.env >>= fun v => (standAt yp >>= fun _ => yieldFrom X.env v)) >>= fun x => dropValue (.YieldFrom e yp) pos x).wrap K J gd lv) c fs s
  refine PP.at ?_
  rw [Sem.bind_eq_wrap', Sem.bind_eq_wrap', Sem.wrap_wrap, Sem.wrap_wrap]
  refine pt_does T g (he.run _ s σ H _ (hI.full hb0) ht) fun v s' hq hz => ?_
  obtain ⟨H1, sc, rs1, I1, hz1, ⟨a, gn, c1, rfl, hfr, hgen, hgs, hos, hba, hlim, hkp, hgz, hgz2, wake⟩, sm, rs2, rfl, hD⟩ := hq
  have A1 : At X G ip s2 σ H1 sc := hI.next I1 hz1 hI.ipn
  refine Pt.weak ?_ sm
  refine PP.at ?_
  show PP _ _ _ _ _ ((yieldFrom X.env (.ref a)).wrap _ _ _ _) c fs s'
  unfold yieldFrom
  refine ppw_bind (wpJ_of (wpAny_typeOf (v := .ref a) (s := s') (T := "generator") hgen.typeIs ?_))
  rw [if_neg (by decide)]
  refine ppw_bind (wpJ_of (wpAny_holding (wpAny_pyIter_gen hgen ?_)))
  have hG : X.stack = X.env :: X.outer ∨ X.stack = X.outer := (I1.ok.stk.imp id And.left).symm
  have eA : ∀ (k0 : Result → Sem PySem.Fin) (b : Bool) (l kp : List Value) (p0 : Pos), G.A.over (yfC a) (.ret k0 none b l c p0 kp :: fs) = X.A.in1 := fun k0 b l kp p0 => by
    rw [over_ret, g.over, Around.under_plainId plain_yf]
  refine PP.call fun p0 => ?_
  have there : ∀ b ∈ G.a :: G.op, b < sc.heap.objs.size ∧ H1 b = none ∧ X.base.get? b = none ∧ b ∉ frs X.stack ∧ (∃ o, s'.heap.get? b = some o ∧ ∀ v, o.data ≠ .cell v) ∧ s'.heap.get? b = s2.heap.get? b := fun b hb => by
    obtain ⟨o, e2, nc, e1, n1⟩ := A1.there hb
    obtain ⟨q1, q2, q3⟩ := T.side b hb
    have e3 := hkp b o e1
    refine ⟨Heap.lt_size e1, n1, ?_, fun z => ?_, ⟨o, e3, nc⟩, by rw [e3, e2]⟩
    · rcases List.mem_cons.mp hb with z | z
      · refine Heap.get?_none_of_le ?_
        have := T.young
        rw [← T.s0] at this
        rw [z]; exact Nat.le_trans I1.ok.bsz this
      · cases q : X.base.get? b with
        | none => rfl
        | some ob => exact absurd (by rw [T.ex]; exact z) (I1.ok.noex b ob q)
    · rcases List.mem_cons.mp (I1.stkSub b z) with y | y
      · exact q1 y
      · exact q3 y
  have mid : Mid X G H1 sc a gn s2 H1 0 s' := by
    refine ⟨hos, Un.kept hkp, I1.hok.kept hkp, fun b hb => ?_, fun b hb => (there b hb).2.2.2.2.2, A1.own, A1.opq, hgen.at0.n, fun j hj => ?_⟩
    · rcases List.mem_cons.mp hb with z | z
      · rw [z]; exact I1.hok.fresh hfr
      · exact (there b z).2.1
    · rcases List.mem_cons.mp hj with z | z
      · rw [z]; exact (Array.getElem?_eq_some_iff.mp hgs).1
      · exact Nat.lt_of_lt_of_le (A1.size j z) hgz2
  have han : a ∉ G.a :: G.op := fun z => Nat.lt_irrefl _ (Nat.lt_of_lt_of_le (there a z).1 hfr)
  have hgn : gn ∉ G.g :: G.gis := fun z => Nat.lt_irrefl _ (Nat.lt_of_lt_of_le (A1.size gn z) hgz)
  refine yf_loop T A1 (fs' := .ret _ none (gd false) _ c p0 [] :: fs) ?_ ?_ (fun s H1 s2 m => ?_) ?_ ?_ hfr han hgn (fun s2' H' s3 hs m hb3 => ?_) rs1 H1 (.fresh c1) s2 s' (Same.refl _) mid hgs ?_
  · rw [eA]; exact hr.hd
  · rw [eA]
    have := hr.dp
    show X.A.depth < _
    omega
  · exact (m.at T A1).inv.nolimit
  · show (splitAtGen fs).map _ = none
    rw [g.split]; rfl
  · show (gd false || fs.any Frame.guarded) = false
    rw [g.gd, g.guard]; rfl
  · exact PP.leaf (.ok (.ret .none)) (kk rs2 s2' σ H' s3 hb3 (m.at T A1) (hD H' hs))
  · rw [eA]
    have wk : Woke ⟨G.F, X.prog, X.w, X.A.in1.in1, X.stack, H1, sc, G.a :: G.op, a, gn, G.g :: G.gis⟩ s' (s'.setGen gn .running) := by
      refine ⟨rfl, fun _ _ _ q => q, fun b hb => (there b hb).2.2.2.2.1, hgen.at0, fun j hj => setGen_get s' gn j _ fun z => hj (by rw [z]; exact List.mem_cons_self), fun j _ x hx => ?_, by rw [setGen_len]; exact Nat.le_refl _⟩
      exact setGen_bare hba rfl x (Array.mem_of_getElem? hx)
    have q := wake G.F X.A.in1.in1 (G.a :: G.op) (G.g :: G.gis) (s'.setGen gn .running) ((hr.in1.in1).mono (by omega)) I1.ok.frames (fun b hb => ?_) (fun j hj => A1.size j hj) wk
    · rw [T.prog, T.w] at q; exact q
    · obtain ⟨q1, q2, q3, q4, _⟩ := there b hb
      exact ⟨q3, q2, q4, .inl q1⟩
end
end Ja
end
section
set_option maxHeartbeats 2000000
/-! Jl: for, in such a generator. -/
namespace Ja
open PySem PySem.Spec PyProof.Rows L2 GenW
section
variable {X : Cx} {G : Gp}
theorem js_for {tg iter : Expr} {body : List Stmt} {wi : TI} {gt : TG} {tb : JTn} {pos : Pos} (T : Tie X G) (hc : X.calm = true) (hi : PI X tg iter wi) (hg : PG X tg gt) (hb : JSs X G body tb) (hs : ∀ x, foldedSetIterable iter X.env x = pure x := by intro _; rfl) :
    JS X G (.For tg iter body [] pos) (fun D rs σ H => wi σ H fun J H1 => Same H H1 ∧ ∃ W : Nat → Nat → List (List Int) → L2.St → Hp → Prop, (∃ m, W 0 m rs σ H1) ∧ ∀ i m rs σ H, W i m rs σ H →
      (J.stop i H ∧ D rs σ H) ∨ (J.go i H ∧ ∃ N : JK, (∀ rs' σ' H', N rs' σ' H' → ∃ m', m' < m ∧ W (i + 1) m' rs' σ' H') ∧ ∀ x H', J.yld i H x H' → Same H H' ∧ gt x σ H' fun σ2 H2 => Same H' H2 ∧ tb N rs σ2 H2)) := by
  refine ⟨fun ip c fs K J gd lv rs s2 σ H s D g hb0 hI ht kk => ?_⟩
  rw [exec_For]
  show Pt G rs H s2 (.at pos fun _ => ((eval iter X.env >>= fun x => foldedSetIterable iter X.env x >>= fun x => (standAt iter.pos >>= fun _ => (holding [x] (pyIter x) >>= fun it => runOwn (.forLoop tg it body [] X.env) X.env)))).wrap K J gd lv) c fs s
  refine PP.at ?_
  refine pt_bind T g (hi.run _ s σ H _ (hI.full hb0) ht) fun v s1 h1 hz1 => ?_
  rw [hs v]
  show Pt G rs H s2 (.at iter.pos fun _ => ((holding [v] (pyIter v) >>= fun it => runOwn (.forLoop tg it body [] X.env) X.env)).wrap K J gd lv) c fs s1
  refine PP.at ?_
  refine pt_bind T g (wpAny_holding h1) fun itv s2' h2 hz2 => ?_
  obtain ⟨it, fp, tn, Jt, H2, e, I2, U, st2, f2, sm, W, ⟨m0, w0⟩, turn⟩ := h2
  subst e
  refine Pt.weak ?_ sm
  unfold runOwn
  refine ppw_onRaise fun J' => ?_
  refine PP.call fun p0 => ?_
  have gl : ∀ (k0 : Result → Sem PySem.Fin) (b : Bool) (l kp : List Value), b = false → JC X G (.forLoop tg (.ref it) body [] X.env) (.ret k0 none b l c p0 kp :: fs) id := fun k0 b l kp hb => ⟨(over_loop rfl rfl).trans g.over, by
    show (splitAtGen fs).map _ = none
    rw [g.split]; rfl, by
    show (b || fs.any Frame.guarded) = false
    rw [hb, g.guard]; rfl, rfl⟩
  have A2 : At X G ip s2 σ H2 s2' := hI.next I2 (Nat.le_trans hz1 hz2) hI.ipn
  have stat : ∀ b ∈ fp, b ≠ X.env.locals ∧ b ∉ X.fs ∧ (b ∈ X.ex ∨ X.s_0.heap.objs.size ≤ b) ∧ (∀ x c, X.env.cells.lookup x = some c → c ≠ b) ∧ b ∉ G.a :: G.op ∧ ∀ p ∈ ip, p.1 ≠ b := fun b hb => by
    obtain ⟨_, q2, q3, q4, q5, q6⟩ := f2 b hb
    refine ⟨q2, q3, q4, q5, fun z => ?_, fun p hp => q6 p (List.mem_append_right _ (List.mem_append_right _ hp))⟩
    obtain ⟨o, e2, _, _, _⟩ := A2.there z
    exact q6 (b, o) (List.mem_append_right _ (List.mem_append_left _ (mem_pinsAt z e2))) rfl
  have fpok : ∀ {s2 : Shared} {H' : Hp}, (∀ b ∈ fp, H' b = none) → ∀ b ∈ fp, FpOk X (pinsAt (G.a :: G.op) s2.heap ++ ip) H' b := fun {s2 H'} hn b hb => by
    obtain ⟨q2, q3, q4, q5, q6, q7⟩ := stat b hb
    refine ⟨hn b hb, q2, q3, q4, q5, fun p hp z => ?_⟩
    rw [T.pn, List.nil_append] at hp
    rcases List.mem_append.mp hp with hp | hp
    · exact q6 (z ▸ (of_pinsAt hp).1)
    · exact q7 p hp z
  have loop : ∀ (m i : Nat) (rs : List (List Int)) (s2 : Shared) (σ : L2.St) (H : Hp) (s : Shared), AllBare s.gens → At X G ip s2 σ H s → tn i s.heap → (∀ b ∈ fp, H b = none) → W i m rs σ H →
      Pt G rs H s2 (G.M.den (.forLoop tg (.ref it) body [] X.env)) (.forLoop tg (.ref it) body [] X.env) (.ret (fun r => (match r with | .ok f => (.pure f : Sem Flow) | .error e => .raise e).wrap K J' gd lv) none (gd false) (lv []) c p0 [] :: fs) s := by
    intro m
    induction m using Nat.strongRecOn with
    | ind m ih =>
      intro i rs s2 σ H s hbr A st hn w
      have I := A.full hbr
      show Pt G rs H s2 ((forTurn tg (.ref it) body [] X.env).onRaise (fun x => do noteFrame x X.env; theTreesLotGoes x)) _ _ s
      rw [Sem.onRaise_eq_wrap]
      unfold forTurn
      refine PP.at ?_
      show PP _ _ _ _ _ (Sem.wrap _ _ _ _ ((pyNext (.ref it)).onRaise (fun _ => standAt { tg.pos with line := 0 }) >>= fun r => match r with
        | none => again (.block [] X.env)
        | some v => letOwnedTupleGo tg (.ref it) v >>= fun _ => assign tg X.env v >>= fun _ => execs body X.env >>= fun f => match f with
          | .next | .cont => again (.forLoop tg (.ref it) body [] X.env)
          | .brk => pure (.done .next)
          | .ret v => pure (.done (.ret v)))) _ _ s
      rcases turn i m rs σ H w with ⟨stop, qn⟩ | ⟨go, N, hN, step⟩
      · refine pt_bind T (gl _ _ _ _ g.gd) (Q := fun r s4 => r = none ∧ Inv X (pinsAt (G.a :: G.op) s2.heap ++ ip) σ H s4) (wpAny_onRaise (wpAny_mono (U.done X rfl rfl rfl hc i _ s σ H (fun _ _ => False) I (fpok hn) st stop) (fun _ _ q => q) fun _ _ q => q.elim)) fun r s4 hr hz => ?_
        obtain ⟨rfl, I4⟩ := hr
        refine PP.again rfl ?_
        exact PP.leaf (.ok .next) (kk rs s2 σ H s4 I4.bare (A.next I4 hz A.ipn) qn)
      · refine pt_bind T (gl _ _ _ _ g.gd) (wpAny_onRaise (wpAny_mono (U.item X rfl rfl rfl hc i _ s σ H (fun _ _ => False) I (fpok hn) st go) (fun _ _ q => q) fun _ _ q => q.elim)) fun r s4 hr hz => ?_
        obtain ⟨u, rfl, h4⟩ := hr
        refine pt_bind T (gl _ _ _ _ g.gd) (wpAny_mono h4 (fun _ _ q => q) fun _ _ q => q.elim) fun _ s5 h5 hz5 => ?_
        obtain ⟨x, H5, I5, r5, y5, st5, fr5⟩ := h5
        have I5' := I5.pinned (fpok fr5) (U.obj _ _ st5)
        rw [List.append_assoc] at I5'
        obtain ⟨sm5, hgt⟩ := step x H5 y5
        refine Pt.weak ?_ sm5
        refine pt_bind T (gl _ _ _ _ g.gd) (hg.run _ s5 σ H5 x u _ I5' r5 hgt) fun _ s6 h6 hz6 => ?_
        obtain ⟨σ6, H6, I6, sm6, q6⟩ := h6
        refine Pt.weak ?_ sm6
        have ipn' : ∀ p ∈ ip ++ pinsAt fp s5.heap, p.1 ∉ G.a :: G.op := fun p hp => by
          rcases List.mem_append.mp hp with hp | hp
          · exact A.ipn p hp
          · exact (stat p.1 (of_pinsAt hp).1).2.2.2.2.1
        have A6 : At X G (ip ++ pinsAt fp s5.heap) s2 σ6 H6 s6 := A.next I6 (Nat.le_trans hz (Nat.le_trans hz5 hz6)) ipn'
        rw [Sem.bind_eq_wrap', Sem.wrap_wrap]
        refine hb.run _ _ _ _ _ _ _ rs s2 σ6 H6 s6 N (gl _ _ _ _ g.gd) I6.bare A6 q6 fun rs' s2' σ' H' s' hb' A' n' => ?_
        obtain ⟨m', hm, w'⟩ := hN rs' σ' H' n'
        refine PP.again rfl (ih m' hm (i + 1) rs' s2' σ' H' s' hb' ?_ ?_ ?_ w')
        · exact ⟨A'.inv.pins_of fun p hp => A'.inv.pin p (by
            rcases List.mem_append.mp hp with hp | hp
            · exact List.mem_append_right _ (List.mem_append_left _ hp)
            · exact List.mem_append_right _ (List.mem_append_right _ (List.mem_append_left _ hp))), A'.size, A'.own, A'.opq, A.ipn⟩
        · exact U.keep _ _ _ st5 fun b hb o e => (A'.inv.pin (b, o) (List.mem_append_right _ (List.mem_append_right _ (List.mem_append_right _ (mem_pinsAt hb e))))).1
        · intro b hb
          obtain ⟨o, e, _⟩ := U.obj _ _ st5 b hb
          exact (A'.inv.pin (b, o) (List.mem_append_right _ (List.mem_append_right _ (List.mem_append_right _ (mem_pinsAt hb e))))).2.1
  exact loop m0 0 rs s2 σ H2 s2' I2.bare A2 st2 (fun b hb => (f2 b hb).1) w0
end
end Ja
end
section
set_option maxHeartbeats 2000000
/-! Jm: a generator def that hands out runs, by its body. -/
namespace Ja
open PySem PySem.Spec PyProof.Rows L2 GenW
theorem inv_woken {X : Cx} {G : Gp} {ip : List (Addr × Obj)} {s s3 : Shared} {σ : L2.St} {H : Hp} (I0 : Inv X ip σ H (Ja.noG s)) (T : Tie X G) (hfree : ∀ b ∈ G.a :: G.op, H b = none) (hipn : ∀ p ∈ ip, p.1 ∉ G.a :: G.op) (k : Woke G s s3) : Inv X (pinsAt (G.a :: G.op) s3.heap ++ ip) σ H (Ja.noG s3) := by
  have nt : ∀ b u, H b = some u → b ∉ G.a :: G.op := fun b u q hb => by rw [hfree b hb] at q; cases q
  have I1 : Inv X ip σ H (Ja.noG s3) := by
    obtain ⟨hh, gg, dd, tt, oo⟩ := s3
    obtain ⟨k1, k2, k3, k4, k5, k6, k7⟩ := k
    have eo : oo = s.os := k1
    subst eo
    refine L2.Inv.step (s := Ja.noG s) (h' := hh) (g' := #[]) (t' := tt) (d' := dd) (ch := G.a :: G.op) I0 (fun b hb => ?_) (fun b o _ _ hc q _ => k2 b o hc q) (fun b o _ _ hc q _ => ⟨o.slots, k2 b o hc q⟩) (fun _ _ _ _ n => n) (fun b o hc q => ⟨o, k2 b o hc q⟩)
      (fun _ _ q => q) (fun _ _ _ q => q) (fun b ps q => ⟨#[], by rw [q]; simp⟩) (fun m hm => ?_) (fun b u q => ?_) bare_nil
    · obtain ⟨q1, q2, q3⟩ := T.side b hb
      refine ⟨?_, q1, q2, fun p hp z => ?_⟩
      · rcases List.mem_cons.mp hb with e | e
        · right; rw [T.s0, e]; exact T.young
        · left; rw [T.ex]; exact e
      · rw [T.pn, List.nil_append] at hp
        exact hipn p hp (by rw [z]; exact hb)
    · obtain ⟨ob, es, ep, ho, r⟩ := hm
      exact ⟨ob, es, ep, k2 _ ob (fun z => (T.side _ z).1 rfl) ho, r⟩
    · refine (I0.hok b u q).stay (fun c v hc y => k2 c v ?_ y) (fun _ y => y) fun _ _ y => y
      rcases hc with y | y
      · rw [y]; exact nt b u q
      · exact nt c _ y
  refine I1.pins_of fun p hp => ?_
  rcases List.mem_append.mp hp with hp | hp
  · obtain ⟨hb, e⟩ := of_pinsAt hp
    obtain ⟨q1, q2, q3⟩ := T.side p.1 hb
    refine ⟨e, hfree _ hb, q1, q3, ?_⟩
    rcases List.mem_cons.mp hb with z | z
    · obtain ⟨o, nm, qn, h1, _, h2, _⟩ := k.own
      rw [← z, e] at h1; cases h1
      intro v q; rw [h2] at q; cases q
    · obtain ⟨o, h1, h2⟩ := k.opq p.1 z
      rw [e] at h1; cases h1
      exact h2
  · exact I1.pin p (List.mem_append_right _ hp)
/-- the context of its body; op: what others may turn while it sleeps -/
def jcx (P : Program) (w : World) (K : PySem.W.Frag) (mg : Str → Option Value) (base : Heap) (N : List Str) (qual : Str) (scope : Scope) (f : Addr) (cd : Value) (A : Around) (outer : List Env) (s : Shared) (H : Hp) (op : List Addr) : Cx :=
  { gcxOf P w K mg base N qual scope f cd A outer s H (fun _ _ _ => False) [] with ex := op, xe := fun _ _ => False }
structure JFn (P : Program) (w : World) (K : PySem.W.Frag) (mg : Str → Option Value) (base : Heap) (k : Nat) (f : Addr) (fd : FuncData) (ps : List Str) (sp : List V → Hp → List (List Int) → Prop) : Prop where
  len : ∀ vs H rs, sp vs H rs → vs.length = ps.length
  run : ∀ (A : Around) (outer : List Env) (s : Shared) (H : Hp) (args : Args) (us : List Value) (vs : List V) (rs : List (List Int)), Room k A → Env0 P w K mg base A outer s H → BindsTo s fd args (ps.zip us) → Vals vs us → sp vs H rs →
    codeAny (model P w) A (.call (.ref f) args) (fun r s' => match r with | .ok (.ret u) => Made P w k base outer H s rs u s' | _ => False) s
theorem jfn_of {P : Program} {w : World} {K : PySem.W.Frag} {mg : Str → Option Value} {base : Heap} {k : Nat} {f : Addr} {name qual : Str} {params : Arguments} {body : List Stmt} {scope : Scope} {dV kV doc pm cdv ct oc : Value} {an od : Option Addr}
    {osl : Array (Option Value)} {N ps : List Str} {sp : List V → Hp → List (List Int) → Prop} (lk : K.lookup f = some ⟨oc, od, .func (PySem.W.fnOf name qual params body scope dV kV doc pm an cdv ct), osl⟩) (hcd : PySem.W.codeIn K cdv qual = true) (S : GScope N ps scope)
    (len : ∀ vs H rs, sp vs H rs → vs.length = ps.length)
    (hbody : ∀ (A : Around) (outer : List Env) (s : Shared) (H : Hp) (vs : List V) (rs : List (List Int)) (op : List Addr) (G : Gp), Room k (A.deeper (envOfC qual scope s.heap.objs.size f cdv)) → sp vs H rs → Tie (jcx P w K mg base N qual scope f cdv A outer s H op) G →
      ∃ t, JSs (jcx P w K mg base N qual scope f cdv A outer s H op) G body t ∧ t (fun rs _ _ => rs = []) rs (start N vs) H) :
    JFn P w K mg base (k + 1) f (PySem.W.fnOf name qual params body scope dV kV doc pm an cdv ct) ps sp := by
  refine ⟨len, fun A outer s H args us vs rs hr e0 hb r hsp => ?_⟩
  have hl := len _ _ _ hsp
  have KX : K.In s.heap := e0.mod.kin.keeps fun b o e => (e0.bs b o e).1
  have lim : s.heap.NoLimit := e0.mod.nolimit.keeps fun b o e => (e0.bs b o e).1
  have hkind : ∀ y ∈ ps.zip us, scope.names.lookup y.1 = some .local ∨ (scope.names.lookup y.1 = some .cell ∧ ((cellsFrom (s.heap.objs.size + 1) scope.names []).lookup y.1).isSome = true) := fun ⟨n, v⟩ hy => by
    rcases S.par n (List.of_mem_zip hy).1 with q | q
    · exact .inl q
    · exact .inr ⟨q, PySem.W.cellsFrom_some _ _ _ (.inl q)⟩
  refine codeAny_call_generator hr.depth (KX _ _ lk) rfl S.co S.gen rfl (PySem.W.codeRec_of KX hcd) (hb _ _ _ _ ?_)
  refine wpAny_newFunctionEnv_cells S.kind hkind fun env he s1 x => ?_
  subst he
  have lim1 : s1.heap.NoLimit := lim.keeps x.toInCall.keep
  refine ⟨lim1, ?_⟩
  obtain ⟨h1, tk, es1, hk1⟩ := x.done
  have os1 : s1.os = s.os := by rw [es1]
  have gen1 : s1.gens = s.gens := by rw [es1]
  have lt1 : s.heap.objs.size < s1.heap.objs.size := x.toInCall.ns.lt
  have sz1 : s.heap.objs.size ≤ s1.heap.objs.size := Nat.le_of_lt lt1
  have kp1 : ∀ b o, s.heap.get? b = some o → s1.heap.get? b = some o := x.toInCall.keep
  have main : ∀ (go : Obj) (nm qn : Value) (tk2 : Nat), go.cls = .type "generator" → go.data = .fields #[.int s1.gens.size 0, nm, qn] → go.slots = #[] → (∀ h : Heap, (h.push go).get? h.objs.size = some go) →
      Made P w (k + 1) base outer H s rs (.ref s1.heap.objs.size) { s1 with gens := s1.gens.push (.fresh (.func body (envOfC qual scope s.heap.objs.size f cdv))), toks := tk2, heap := s1.heap.push go } := by
    intro go nm qn tk2 hgc hgd0 hgs hgp
    have hgen : ∀ h : Heap, h.get? s1.heap.objs.size = some go → h.IsGen s1.heap.objs.size s1.gens.size := fun h e => ⟨go, nm, qn, e, hgc, hgd0, hgs⟩
    have hpushed : (s1.heap.push go).get? s1.heap.objs.size = some go := hgp _
    have kp2 : ∀ b o, s.heap.get? b = some o → (s1.heap.push go).get? b = some o := fun b o e => Heap.get?_push_of_some _ (kp1 b o e)
    have bare2 : AllBare (s1.gens.push (.fresh (.func body (envOfC qual scope s.heap.objs.size f cdv)))) := AllBare.push (by rw [gen1]; exact e0.bare) rfl
    refine ⟨s1.heap.objs.size, s1.gens.size, _, rfl, sz1, hgen _ hpushed, Array.getElem?_push_size .., os1, bare2, lim1.keeps fun b o e => Heap.get?_push_of_some _ e, kp2, by rw [gen1]; exact Nat.le_refl _, ?_, ?_⟩
    · show _ ≤ (s1.gens.push _).size
      rw [gen1, Array.size_push]; exact Nat.le_succ _
    intro Fo Aw op gis s2 hrw hfr hop hgis kw
    have e0w : Env0 P w K mg base Aw outer s H := ⟨hfr, e0.mod, e0.bs, e0.bsz, e0.funs, e0.frf, e0.hok, e0.bare⟩
    have I1 : Inv (gcxOf P w K mg base N qual scope f cdv Aw outer s H (fun _ _ _ => False) []) [] (start N vs) H s1 := inv_startG S hrw.hd e0w hl r x
    have young : ∀ b, s1.heap.objs.size ≤ b → H b = none ∧ b ≠ s.heap.objs.size ∧ b ∉ frs outer ∧ s.heap.objs.size ≤ b ∧ ∀ y c, (cellsFrom (s.heap.objs.size + 1) scope.names []).lookup y = some c → c ≠ b := fun b hb => by
      refine ⟨I1.hok.fresh hb, Nat.ne_of_gt (Nat.lt_of_lt_of_le lt1 hb), I1.nofs hb, Nat.le_trans sz1 hb, fun y c e z => ?_⟩
      obtain ⟨v, ob, ho, _⟩ := I1.cell y c e
      have := Heap.lt_size ho
      rw [z] at this
      exact absurd (Nat.lt_of_lt_of_le this hb) (Nat.lt_irrefl _)
    have side : ∀ b ∈ s1.heap.objs.size :: op, b ≠ s.heap.objs.size ∧ (∀ y c, (cellsFrom (s.heap.objs.size + 1) scope.names []).lookup y = some c → c ≠ b) ∧ b ∉ frs outer ∧ H b = none := fun b hb => by
      rcases List.mem_cons.mp hb with z | z
      · obtain ⟨y1, y2, y3, y4, y5⟩ := young b (by rw [z]; exact Nat.le_refl _)
        exact ⟨y2, y5, y3, y1⟩
      · obtain ⟨q1, q2, q3, q4⟩ := hop b z
        rcases q4 with q4 | q4
        · refine ⟨Nat.ne_of_lt q4, fun y c e z2 => ?_, q3, q2⟩
          have q : s.heap.objs.size < c := x.above y c (PySem.mem_of_lookup e)
          rw [z2] at q
          exact Nat.lt_asymm q q4
        · have q5 : (s1.heap.push go).objs.size ≤ b := q4
          rw [Heap.size_push] at q5
          obtain ⟨y1, y2, y3, y4, y5⟩ := young b (Nat.le_of_succ_le q5)
          exact ⟨y2, y5, y3, y1⟩
    have T : Tie (jcx P w K mg base N qual scope f cdv Aw outer s H op) ⟨Fo, P, w, Aw, outer, H, s, op, s1.heap.objs.size, s1.gens.size, gis⟩ := ⟨rfl, rfl, rfl, rfl, rfl, rfl, rfl, rfl, sz1, fun b hb => ⟨(side b hb).1, (side b hb).2.1, (side b hb).2.2.1⟩⟩
    obtain ⟨t, ht, hq⟩ := hbody Aw outer s H vs rs op _ (hrw.deeper _) hsp T
    have okX : (jcx P w K mg base N qual scope f cdv Aw outer s H op).Ok := ⟨I1.ok.mod, I1.ok.kind, I1.ok.glob, I1.ok.blt, I1.ok.above, I1.ok.inj, I1.ok.has, I1.ok.cab, I1.ok.hd, I1.ok.frames, I1.ok.stk,
      fun b hb => ⟨(side b (List.mem_cons_of_mem _ hb)).1, (side b (List.mem_cons_of_mem _ hb)).2.1⟩, I1.ok.bs, I1.ok.bsz, fun b o e hb => absurd (show base.get? b = some o from e) (by rw [(hop b hb).1]; exact fun q => by cases q), fun b hb => (side b (List.mem_cons_of_mem _ hb)).2.2.1, I1.ok.funs, I1.ok.frf⟩
    have I1X : Inv (jcx P w K mg base N qual scope f cdv Aw outer s H op) [] (start N vs) H (Ja.noG s1) :=
      ⟨okX, os1, bare_nil, Un.kept kp1, I1.loc, I1.cell, I1.free, I1.freeC, fun p hp => absurd (show p ∈ ([] : List (Addr × Obj)) from hp) (by simp), I1.hok, I1.len⟩
    have I1Y : Inv (jcx P w K mg base N qual scope f cdv Aw outer s H op) [] (start N vs) H (Ja.noG { s1 with gens := s1.gens.push (.fresh (.func body (envOfC qual scope s.heap.objs.size f cdv))), toks := tk2, heap := s1.heap.push go }) :=
      L2.Inv.call' (ch := []) I1X rfl (Un.kept fun b o e => Heap.get?_push_of_some _ e) (I1.hok.kept fun b o e => Heap.get?_push_of_some _ e) bare_nil fun b z => by simp at z
    have I2 := inv_woken I1Y T (fun b hb => (side b hb).2.2.2) (fun p hp => by simp at hp) kw
    have b2 : AllBare s2.gens := kw.allBare bare2
    have A2 : At (jcx P w K mg base N qual scope f cdv Aw outer s H op) ⟨Fo, P, w, Aw, outer, H, s, op, s1.heap.objs.size, s1.gens.size, gis⟩ [] s2 (start N vs) H s2 := by
      refine ⟨I2, fun j hj => Nat.lt_of_lt_of_le ?_ kw.size, kw.own, kw.opq, fun p hp => by simp at hp⟩
      show j < (s1.gens.push _).size
      rw [Array.size_push]
      rcases List.mem_cons.mp hj with z | z
      · rw [z]; exact Nat.lt_succ_self _
      · rw [gen1]; exact Nat.lt_succ_of_lt (hgis j z)
    rw [will_eq]
    show PP _ _ _ _ _ (.point [] fun _ => ((execs body (envOfC qual scope s.heap.objs.size f cdv)).onRaise (leaving (envOfC qual scope s.heap.objs.size f cdv))) >>= _) _ [] s2
    refine PP.point ?_
    rw [Sem.onRaise_eq_wrap, Sem.bind_eq_wrap', Sem.wrap_wrap]
    refine ht.run [] _ [] _ _ _ _ rs s2 (start N vs) H s2 (fun rs _ _ => rs = []) ⟨over_func, rfl, rfl, rfl⟩ b2 A2 hq fun rs' s2' σ' H' s' hb' A' e' => ?_
    subst e'
    exact PP.end (.ok (.ret .none)) rfl ⟨H', Same.refl _, A'.left T, hb'⟩
  exact main _ _ _ _ rfl rfl rfl fun h => Heap.get?_push_size _ rfl
end Ja
end
section
set_option maxHeartbeats 2000000
/-! Jn: list(g) of a generator that sleeps in others. -/
namespace Ja
open PySem PySem.Spec PyProof.Rows L2 GenW
section
variable {P : Program} {w : World} {Fo : Outcome → Shared → Prop} {A : Around} {E : Value → Shared → Prop} {s : Shared}
theorem callTypeJ {T newId initId : String} {Bi : Builtin} {args : List Value} {Q Q₁ : Value → Shared → Prop} (ft : TypeCalled T newId initId)
    (hct : checkTypeCall T ⟨args, []⟩ = pure ()) (entryI : entryFor table initId = some Bi)
    (hnew : codeAny (model P w) A.in1 (.call (.builtin newId) ⟨.type T :: args, []⟩) (wants Q₁ E) s)
    (hnext : ∀ obj s₁, Q₁ obj s₁ → s₁.TypeIs obj T ∧ argsOk initId ⟨obj :: args, []⟩ ∧
      wpJ (model P w) Fo A.in1.in1 (Bi ⟨obj :: args, []⟩)
        (fun fin s' => match fin with | .done f => wants (fun r s₂ => r = .none ∧ Q obj s₂) E (.ok f) s' | .again c' => c'.quiet = true ∧ codeJ (model P w) Fo A.in1 c' (wants (fun r s₂ => r = .none ∧ Q obj s₂) E) s')
        (fun e s' => wants (fun r s₂ => r = .none ∧ Q obj s₂) E (.error e) s') s₁) :
    wpJ (model P w) Fo A (call (.type T) args) Q E s := by
  obtain ⟨c, tl, hmro⟩ := ft.mro
  have hmade := ft.made
  have hsub := ft.sub
  refine wpJ_call (codeJ_of_tree ?_)
  show wpJ _ _ _ (callAny (.type T) _) _ _ _
  refine wpJ_pure ⟨Code.quiet_builtin _ (by decide +kernel), codeJ_builtin F.entry_type_call ?_⟩
  rw [Around.under_plain (weight_type_call_type T args []) rfl]
  have h1 := ft.notType
  have h2 := ft.canCreate
  unfold Builtin.«type.__call__»
  dsimp only
  rw [h1]
  rw [if_neg Bool.false_ne_true]
  rw [h2, if_neg Bool.false_ne_true]
  refine wpJ_seq (wpAny_of_eq hct ?_)
  refine wpJ_seq (wpAny_of_eq hmro ?_)
  rw [if_neg (show ¬ ((c :: tl).isEmpty = true) from Bool.false_ne_true)]
  refine wpJ_seq (wpAny_of_eq hmade ?_)
  dsimp only
  refine wpJ_seq (wpAny_pure ?_)
  refine wpJ_seq (wpAny_holding (wpAny_call (codeAny_mono hnew fun r s₁ hr => ?_)))
  cases r with
  | error e => exact hr
  | ok fl =>
    cases fl with
    | ret obj =>
      obtain ⟨hT, hok, hsi⟩ := hnext _ _ hr
      dsimp only
      refine wpJ_seq (wpAny_isInstance hT hsub ?_)
      rw [if_neg (show ¬ ((!true) = true) from Bool.false_ne_true)]
      refine wpJ_bind (wpJ_holding ?_)
      simp only [callSpecial?]
      refine wpJ_seq (wpAny_specialOf hT ft.init.lookup ?_)
      simp only [ft.init.bind]
      refine wpJ_holding (wpJ_bind (wpJ_pure (wpJ_bind (wpJ_call (codeJ_mono (codeJ_callBuiltin ft.init.plain entryI (ft.init.check _ _ _ _ _ _ _ _ hT hok hsi)) fun r₂ s₂ hr₂ => ?_)))))
      cases r₂ with
      | error e => exact hr₂
      | ok fl₂ =>
        cases fl₂ with
        | ret r =>
          obtain ⟨rfl, hq⟩ := hr₂
          refine wpJ_pure ?_
          dsimp only
          rw [if_neg (by decide)]
          exact wpJ_pure hq
        | _ => exact hr₂.elim
    | _ => exact hr.elim
end
end Ja
end
section
set_option maxHeartbeats 2000000
/-! Jo: list(g): the draining. -/
namespace Ja
open PySem PySem.Spec PyProof.Rows L2 GenW
section
variable {P : Program} {w : World} {Fo : Outcome → Shared → Prop} {A : Around} {E : Value → Shared → Prop} {s : Shared}
theorem pyNextJ {a : Addr} {g : Nat} {gs : GenState} {Y : Value → Shared → GenState → Prop} {Rt : Shared → Prop} {Q : Option Value → Shared → Prop} (hh : A.handled = none) (hl : s.heap.NoLimit) (hroom : A.depth < recursionLimit)
    (hg : GenAt s.heap a g) (hgs : s.gens[g]? = some gs) (hw : Awake (model P w) Fo A.in1 Y Rt gs (s.setGen g .running)) (hY : ∀ v s1 gs', Y v s1 gs' → Q (some v) (s1.setGen g gs'))
    (hP : ∀ s1, Rt s1 → ∀ h', (∀ b o, s1.heap.get? b = some o → h'.get? b = some o) → Q none { s1.setGen g .finished with heap := h' }) : wpJ (model P w) Fo A (pyNext (.ref a)) Q E s := by
  unfold pyNext
  refine wpJ_bind (wpJ_attempt (wpJ_gen_next hh hl hroom hg hgs hw (fun v s1 gs' q => ?_) fun s1 q e h' hS hk => ?_))
  · exact wpJ_pure (hY v s1 gs' q)
  · obtain ⟨ae, oe, vs, rfl, hoe, hce, hde, h5⟩ := hS
    dsimp only
    refine wpJ_seq (wpAny_isInstance (T := "StopIteration") (b := true) ⟨oe, hoe, hce⟩ isSubtype_stop ?_)
    exact wpJ_pure (hP s1 q h' hk)
end
/-- these values are tuples that stand for these runs -/
def Outs (H : Hp) (rs : List (List Int)) (vs : List V) : Prop := Paired (fun r v => ∃ t, v = V.ref t ∧ H t = some (.tup (r.map V.int))) rs vs
theorem Outs.same {H H' : Hp} {rs : List (List Int)} {vs : List V} (h : Outs H rs vs) (e : Same H H') : Outs H' rs vs := by
  unfold Outs at *
  induction h with
  | nil => exact .nil
  | cons q _ ih => obtain ⟨t, h1, h2⟩ := q; exact .cons ⟨t, h1, e t _ h2⟩ ih
theorem paired_append {α β : Type} {R : α → β → Prop} {xs xs' : List α} {ys ys' : List β} (h : Paired R xs ys) (k : Paired R xs' ys') : Paired R (xs ++ xs') (ys ++ ys') := by
  induction h with
  | nil => exact k
  | cons q _ ih => exact .cons q ih
theorem Outs.snoc {H : Hp} {rs : List (List Int)} {vs : List V} {r : List Int} {t : Addr} (h : Outs H rs vs) (e : H t = some (.tup (r.map V.int))) : Outs H (rs ++ [r]) (vs ++ [.ref t]) := paired_append h (.cons ⟨t, rfl, e⟩ .nil)
structure Dr (G : Gp) (S : Addr) (H1 : Hp) (acc : Array Value) (c : Nat) (rs0 : List (List Int)) (vs : List V) (s : Shared) : Prop where
  os : s.os = G.s0.os
  un : Un (frs G.outer) [S] G.H0 H1 G.s0.heap s.heap
  hok : HOk G.P G.w H1 s.heap
  freeS : H1 S = none
  ga : GenAt s.heap G.a G.g
  obj : s.heap.get? S = some (lstObj acc c)
  vals : Vals vs acc.toList
  outs : Outs H1 rs0 vs
  size : G.g < s.gens.size
theorem drainJ {G : Gp} {S : Addr} {A : Around} {R : Result → Shared → Prop} {res : Value} (eop : G.op = [S]) (egi : G.gis = []) (eA : G.A = A.in1.in1) (hh : A.handled = none) (hd : A.depth < recursionLimit) (hSa : S ≠ G.a)
    (hlim : ∀ H1 h1, Un (frs G.outer) [S] G.H0 H1 G.s0.heap h1 → h1.NoLimit) (all : List (List Int)) (hlen : all.length ≤ sizeLine)
    (hfin : ∀ s' H1 acc c vs, Same G.H0 H1 → Dr G S H1 acc c all vs s' → AllBare s'.gens → R (.ok (.ret res)) s') :
    ∀ (rs : List (List Int)) (H1 : Hp) (gs : GenState) (s : Shared) (acc : Array Value) (c : Nat) (rs0 : List (List Int)) (vs : List V), rs0 ++ rs = all → Same G.H0 H1 → Dr G S H1 acc c rs0 vs s → s.gens[G.g]? = some gs → Will G rs H1 gs (s.setGen G.g .running) →
      codeJ (model G.P G.w) G.F A (.builtin "list.extend.loop" ⟨[.ref S, .ref G.a, res], []⟩) R s := by
  intro rs
  induction rs with
  | nil =>
    intro H1 gs s acc c rs0 vs e sm D hgs hw
    rw [List.append_nil] at e
    subst e
    refine codeJ_builtin F.entry_extend_loop ?_
    rw [Around.under_plainId F.plain_extend_loop _]
    show wpJ _ _ A.in1 (pyNext (.ref G.a) >>= _) _ _ s
    rw [will_eq, eA] at hw
    refine wpJ_bind (pyNextJ (A := A.in1) hh (hlim _ _ D.un) hd D.ga hgs hw (fun v s1 gs' q => q.elim) fun s1 q h' hk => wpJ_pure ?_)
    obtain ⟨H', sm', L, hb⟩ := q
    have eS : s1.heap.get? S = some (lstObj acc c) := (L.same S (by rw [eop]; simp)).trans D.obj
    have ea : GenAt s1.heap G.a G.g := by
      obtain ⟨o, nm, qn, h1, r⟩ := D.ga
      exact ⟨o, nm, qn, (L.same G.a (by simp)).trans h1, r⟩
    have un' := L.un
    rw [eop] at un'
    refine hfin { s1.setGen G.g .finished with heap := h' } H' acc c vs (sm.trans sm') ⟨L.os, un'.trans (Un.kept hk), L.hok.kept hk, L.free S (by rw [eop]; simp), ?_, hk _ _ eS, D.vals, D.outs.same sm', ?_⟩ (setGen_bare hb rfl)
    · obtain ⟨o, nm, qn, h1, r⟩ := ea
      exact ⟨o, nm, qn, hk _ _ h1, r⟩
    · show _ < (s1.setGen G.g .finished).gens.size
      rw [setGen_len]; exact L.size _ List.mem_cons_self
  | cons r rs ih =>
    intro H1 gs s acc c rs0 vs e sm D hgs hw
    refine codeJ_builtin F.entry_extend_loop ?_
    rw [Around.under_plainId F.plain_extend_loop _]
    show wpJ _ _ A.in1 (pyNext (.ref G.a) >>= _) _ _ s
    rw [will_eq, eA] at hw
    refine wpJ_bind (pyNextJ (A := A.in1) hh (hlim _ _ D.un) hd D.ga hgs hw (fun v s1 gs' q => ?_) fun s1 q h' hk => q.elim)
    obtain ⟨H', t, rfl, et, sm', L, hwk⟩ := q
    have eS : s1.heap.get? S = some (lstObj acc c) := (L.same S (by rw [eop]; simp)).trans D.obj
    have ea : GenAt s1.heap G.a G.g := by
      obtain ⟨o, nm, qn, h1, r⟩ := D.ga
      exact ⟨o, nm, qn, (L.same G.a (by simp)).trans h1, r⟩
    have un' := L.un
    rw [eop] at un'
    have hsz : acc.size < sizeLine := by
      have e1 := D.vals.length
      have e2 := Paired.length D.outs
      have e3 : acc.toList.length = acc.size := by simp
      have e4 : rs0.length + (rs.length + 1) = all.length := by rw [← e]; simp
      omega
    show wpJ _ _ A.in1 (updateSeq S (·.push (.ref t)) >>= _) _ _ _
    refine wpJ_seq (wpAny_updateSeq (s := s1.setGen G.g gs') eS rfl (wpJ_pure ⟨plainId_quiet F.plain_extend_loop _, ?_⟩) (Nat.le_of_lt hsz) (by show (acc.push _).size ≤ sizeLine + 1; rw [Array.size_push]; omega))
    have up : ∀ b o, b ∉ [S] → s1.heap.get? b = some o → (s1.heap.update S (Obj.mapSeq (·.push (.ref t)))).get? b = some o := fun b o hb q => (Heap.get?_update_other _ _ (Ne.symm (by simpa using hb))).trans q
    obtain ⟨c2, eS2⟩ : ∃ c2, (s1.heap.update S (Obj.mapSeq (·.push (.ref t)))).get? S = some (lstObj (acc.push (.ref t)) c2) := ⟨_, Heap.get?_update_self _ eS rfl⟩
    have ea2 : GenAt (s1.heap.update S (Obj.mapSeq (·.push (.ref t)))) G.a G.g := by
      obtain ⟨o, nm, qn, h1, r⟩ := ea
      exact ⟨o, nm, qn, up _ _ (by simpa using Ne.symm hSa) h1, r⟩
    have hg1 : G.g < s1.gens.size := L.size _ List.mem_cons_self
    refine ih H' gs' { s1.setGen G.g gs' with heap := s1.heap.update S (Obj.mapSeq (·.push (.ref t))) } (acc.push (.ref t)) _ (rs0 ++ [r]) (vs ++ [.ref t]) (by rw [← e]; simp) (sm.trans sm')
      ⟨L.os, un_other un' up fun b hb => .inl hb, hok_other L.hok up fun b hb => by rw [List.mem_singleton.mp hb]; exact L.free S (by rw [eop]; simp), L.free S (by rw [eop]; simp), ea2, eS2, by rw [Array.toList_push]; exact paired_append D.vals (.cons rfl .nil), (D.outs.same sm').snoc et, by show _ < (s1.setGen G.g gs').gens.size; rw [setGen_len]; exact hg1⟩
      (setGen_own s1 G.g gs' hg1) (hwk _ ⟨rfl, fun b o hb q => up b o (fun z => hb (by rw [eop]; exact List.mem_cons_of_mem _ z)) q, fun b hb => ?_, ea2, fun j hj => ?_, fun j hj x hx => ?_, ?_⟩)
    · rw [eop] at hb
      rw [List.mem_singleton.mp hb]
      exact ⟨_, eS2, fun v q => by cases q⟩
    · have jg : j ≠ G.g := fun z => hj (by rw [z]; exact List.mem_cons_self)
      rw [setGen_get _ _ _ _ jg]
      exact setGen_get s1 G.g j gs' jg
    · rw [egi] at hj
      have z := List.mem_singleton.mp hj
      subst z
      rw [setGen_own _ _ _ (by show _ < (s1.setGen _ gs').gens.size; rw [setGen_len]; exact hg1)] at hx
      cases hx; rfl
    · rw [setGen_len]
      show _ ≤ (s1.setGen G.g gs').gens.size
      rw [setGen_len]; exact Nat.le_refl _
end Ja
end
section
set_option maxHeartbeats 2000000
/-! Jp: list(g). -/
namespace Ja
open PySem PySem.Spec PyProof.Rows L2 GenW
theorem call_listJ {P : Program} {w : World} {Fo : Outcome → Shared → Prop} {A : Around} {E : Value → Shared → Prop} {s sc : Shared} {base : Heap} {outer : List Env} {H : Hp} {k : Nat} {u : Value} {rs : List (List Int)} {Q' : Value → Shared → Prop}
    (hr : Room (k + 3) A) (hfr : A.frames = some outer) (h : Made P w k base outer H sc rs u s) (hlen : rs.length ≤ sizeLine) (hbase : base.objs.size ≤ sc.heap.objs.size) (hfs : ∀ b ∈ frs outer, b < sc.heap.objs.size) (hok : HOk P w H sc.heap)
    (hlim : ∀ H1 h1 S, sc.heap.objs.size ≤ S → Un (frs outer) [S] H H1 sc.heap h1 → h1.NoLimit)
    (hQ : ∀ S s' acc c H' vs, sc.heap.objs.size ≤ S → s'.heap.get? S = some (lstObj acc c) → Vals vs acc.toList → Outs H' rs vs → Same H H' → s'.os = sc.os → AllBare s'.gens → Un (frs outer) [] H H' sc.heap s'.heap → HOk P w H' s'.heap → H' S = none → Q' (.ref S) s') :
    wpJ (model P w) Fo A (call (.type "list") [u]) Q' E s := by
  obtain ⟨a, g, c, rfl, ha1, hg, hgs, hos, hb, hl, hkp, hgz, hgz2, wake⟩ := h
  have ha2 : a < s.heap.objs.size := by obtain ⟨o, _, _, ho, _⟩ := id hg; exact Heap.lt_size ho
  have hSa : s.heap.objs.size ≠ a := Nat.ne_of_gt ha2
  have hscs : sc.heap.objs.size ≤ s.heap.objs.size := Nat.le_trans ha1 (Nat.le_of_lt ha2)
  refine callTypeJ (Q₁ := fun obj s₁ => obj = .ref s.heap.objs.size ∧ s₁ = { s with heap := s.heap.push { cls := .type "list", data := .seq #[] } }) F.called_list (F.typeCall_list_1 _) F.entry_list_init
    (code_list_new _ ⟨rfl, rfl⟩) fun obj s₁ h₁ => ?_
  obtain ⟨rfl, rfl⟩ := h₁
  have hS : (s.heap.push { cls := .type "list", data := .seq #[] }).get? s.heap.objs.size = some { cls := .type "list", data := .seq #[] } := Heap.get?_push_size _ rfl
  refine ⟨⟨_, hS, rfl⟩, F.args_list_init_2 _ _, ?_⟩
  show wpJ _ _ A.in1.in1 (do let old ← Builtin.List.listItems (.ref s.heap.objs.size); Builtin.List.listUpdate (.ref s.heap.objs.size) (fun _ => #[]); letGo old.toList.reverse; Builtin.List.listExtendWith (.ref s.heap.objs.size) (.ref a) .none) _ _ _
  refine wpJ_bind ?_
  unfold Builtin.List.listItems
  refine wpJ_seq (wpAny_seqItems hS rfl (wpJ_pure ?_))
  show wpJ _ _ A.in1.in1 (updateSeq s.heap.objs.size (fun _ => #[]) >>= fun _ => letGo (#[] : Array Value).toList.reverse >>= fun _ => Builtin.List.listExtendWith (.ref s.heap.objs.size) (.ref a) .none) _ _ _
  refine wpJ_seq (wpAny_updateSeq hS rfl ?_)
  have hS2 := Heap.get?_update_self (Obj.mapSeq (fun _ => (#[] : Array Value))) hS rfl
  refine wpJ_seq (wpAny_letGo ?_)
  unfold Builtin.List.listExtendWith
  have up : ∀ (h : Heap) (f : Obj → Obj), (∀ b o, s.heap.get? b = some o → h.get? b = some o) → ∀ b o, s.heap.get? b = some o → (h.update s.heap.objs.size f).get? b = some o := fun h f q b o e =>
    (Heap.get?_update_other _ _ (Ne.symm (Nat.ne_of_lt (Heap.lt_size e)))).trans (q b o e)
  have k1 : ∀ b o, s.heap.get? b = some o → (s.heap.push { cls := .type "list", data := .seq #[] }).get? b = some o := fun b o e => Heap.get?_push_of_some _ e
  have k2 := up _ (Obj.mapSeq (fun _ => (#[] : Array Value))) k1
  have gty : ∀ {h : Heap}, (∀ b o, s.heap.get? b = some o → h.get? b = some o) → h.IsGen a g := fun {h} q => hg.keeps q
  refine wpJ_seq (wpAny_typeOf (Heap.IsGen.typeIs (s := { s with heap := _ }) (gty k2)) ?_)
  have h1 : Builtin.List.listSameRef (.ref s.heap.objs.size) (.ref a) = false := by simp [Builtin.List.listSameRef, hSa]
  have h2 : (Value.type "generator" == Value.type "list") = false := by decide
  have h3 : (Value.type "generator" == Value.type "tuple") = false := by decide
  simp only [h1, h2, h3, Bool.or_false, Bool.false_eq_true, if_false]
  refine wpJ_seq (wpAny_pyIter_gen (s := { s with heap := _ }) (gty k2) ?_)
  refine wpJ_seq (wpAny_holding ?_)
  unfold Builtin.List.listLengthHint
  refine wpAny_bind (wpAny_specialOf (Heap.IsGen.typeIs (s := { s with heap := _ }) (gty k2)) F.gen_no_len ?_)
  show wpAny _ A.in1.in1 (specialOf (Value.ref a) (Str.ofString "__length_hint__") >>= _) _ _ _
  refine wpAny_bind (wpAny_specialOf (Heap.IsGen.typeIs (s := { s with heap := _ }) (gty k2)) F.gen_no_hint ?_)
  refine wpAny_pure ?_
  show wpJ _ _ A.in1.in1 (rule "list.extend.makes-room" >>= fun _ => Builtin.List.listTouch (.ref s.heap.objs.size) >>= fun _ =>
    again (.builtin "list.extend.loop" ⟨[.ref s.heap.objs.size, .ref a, .none], []⟩)) _ _ _
  refine wpJ_seq (wpAny_rule ?_)
  refine wpJ_bind ?_
  show wpJ _ _ A.in1.in1 (updateSeq s.heap.objs.size (·.push .none) >>= fun _ => updateSeq s.heap.objs.size (·.pop)) _ _ _
  refine wpJ_seq (wpAny_updateSeq hS2 rfl ?_)
  have hS3 := Heap.get?_update_self (Obj.mapSeq (·.push Value.none)) hS2 rfl
  refine wpJ_of (wpAny_updateSeq (hz := by seq_fits) hS3 rfl ?_)
  have hS4 := Heap.get?_update_self (Obj.mapSeq (·.pop)) hS3 rfl
  have k4 := up _ (Obj.mapSeq (·.pop)) (up _ (Obj.mapSeq (·.push Value.none)) k2)
  refine wpJ_pure ⟨plainId_quiet F.plain_extend_loop _, ?_⟩
  have hg1 : g < s.gens.size := (Array.getElem?_eq_some_iff.mp hgs).1
  have hH : H s.heap.objs.size = none := hok.fresh hscs
  have hn4 : ∀ b o, sc.heap.get? b = some o → b ≠ s.heap.objs.size := fun b o e => Nat.ne_of_lt (Nat.lt_of_lt_of_le (Heap.lt_size e) hscs)
  have kk : ∀ b o, sc.heap.get? b = some o → _ := fun b o e => k4 b o (hkp b o e)
  refine drainJ (G := ⟨Fo, P, w, A.in1.in1.in1, outer, H, sc, [s.heap.objs.size], a, g, []⟩) (S := s.heap.objs.size) (A := A.in1) rfl rfl rfl hr.hd (by have := hr.dp; show A.depth < _; omega) hSa (fun H1 h1 u => hlim H1 h1 _ hscs u) rs hlen
    (fun s' H1 acc c vs sm D hb => ?_) rs H _ _ #[] _ [] [] rfl (Same.refl H) ⟨hos, Un.kept kk, hok.kept kk, hH, (gty k4).at0, hS4, .nil, .nil, hg1⟩ hgs ?_
  · refine ⟨rfl, hQ _ s' acc c H1 vs hscs D.obj D.vals D.outs sm D.os hb ?_ D.hok D.freeS⟩
    obtain ⟨u1, u2, u3, u4, u5, u6, u7⟩ := D.un
    have nn : ∀ b o, sc.heap.get? b = some o → b ∉ [s.heap.objs.size] := fun b o e => by simpa using hn4 b o e
    exact ⟨fun b o e n f _ => u1 b o e n f (nn b o e), fun b o e n f _ => u2 b o e n f (nn b o e), fun b o e n _ => u3 b o e n (nn b o e), fun b o e _ => u4 b o e (nn b o e), u5, u6, u7⟩
  · refine wake Fo A.in1.in1.in1 [s.heap.objs.size] [] _ hr.in1.in1.in1 hfr (fun b hb => ?_) (fun j hj => by simp at hj) ⟨hos.symm ▸ rfl, fun b o _ q => k4 b o q, fun b hb => ?_, (gty k4).at0, fun j hj => ?_, fun j hj x hx => ?_, ?_⟩
    · rw [List.mem_singleton.mp hb]
      exact ⟨Heap.get?_none_of_le (Nat.le_trans hbase hscs), hH, fun z => Nat.lt_irrefl _ (Nat.lt_of_lt_of_le (hfs _ z) hscs), .inr (Nat.le_refl _)⟩
    · rw [List.mem_singleton.mp hb]
      exact ⟨_, hS4, fun v q => by cases q⟩
    · exact setGen_get _ g j _ fun z => hj (by rw [z]; exact List.mem_cons_self)
    · exact setGen_bare (s := { s with heap := _ }) hb rfl x (Array.mem_of_getElem? hx)
    · rw [setGen_len]; exact Nat.le_refl _
end Ja
end
section
set_option maxHeartbeats 2000000
/-! Jq: calls of such generator defs; the statements of the def that drains them. -/
namespace Ja
open PySem PySem.Spec PyProof.Rows L2 GenW
section
variable {X : Cx} {k : Nat} {f C : Addr} {fd : FuncData} {ps : List Str} {sp : List V → Hp → List (List Int) → Prop} {dvs : List V} {ds : List Value} {x m : Str} {p pos pos' apos : Pos} {o : Expr} {ta : TE}
theorem run_jfn {pins : List (Addr × Obj)} {σ : L2.St} {H : Hp} {s : Shared} {us : List Value} {vs : List V} {rs : List (List Int)} {E1 : Value → Shared → Prop} (F : JFn X.prog X.w X.K X.mg X.base k f fd ps sp) (hr : Room k X.A) (hb : Binds X.K fd ps ds) (hd : Vals dvs ds)
    (I : Inv X pins σ H s) (r : Vals vs us) (h : sp (vs ++ dvs) H rs) : wpAny (model X.prog X.w) X.A (call (.ref f) us) (fun u s' => Made X.prog X.w k X.base X.stack H s rs u s') E1 s := by
  have r2 : Vals (vs ++ dvs) (us ++ ds) := r.append hd
  have hl2 : (us ++ ds).length = ps.length := by rw [← r2.length]; exact F.len _ _ _ h
  refine wpAny_call (codeAny_mono (F.run X.A X.stack s H ⟨us, []⟩ (us ++ ds) (vs ++ dvs) rs hr I.env0 (hb s us I.kIn hl2) r2 h) fun r s' hq => ?_)
  cases r with
  | error e => exact False.elim hq
  | ok fl =>
    cases fl with
    | ret u => exact hq
    | next => exact False.elim hq
    | brk => exact False.elim hq
    | cont => exact False.elim hq
def tCallJ (sp : List V → Hp → List (List Int) → Prop) (dvs : List V) (t : TA) : TJg := fun σ H Q => t σ H fun vs H1 => ∃ rs, sp (vs ++ dvs) H1 rs ∧ Q rs H1
/-- f(e, ..) -/
theorem pj_call {e : Expr} {es : List Expr} {t : TA} (F : JFn X.prog X.w X.K X.mg X.base k f fd ps sp) (hr : Room k X.A) (hg : Gl X x) (hm : X.mg x = some (.ref f)) (hk : PySem.W.keepIn X.K (.ref f) = true) (hb : Binds X.K fd ps ds) (hd : Vals dvs ds)
    (ha : PA X (e :: es) t) (hdb : (x == ("__debug__" : Str)) = false := by decide) (he : starEach (e :: es) X.env = (false, eval e X.env) :: starEach es X.env := by rfl) (hpl : (backTo pos' (starEach es X.env)).any (·.1) = false := by rfl) :
    PJ X k (.Call (.Name x p) (e :: es) [] pos') (tCallJ sp dvs t) := by
  refine ⟨fun pins s σ H Q I h => ?_⟩
  refine wpAny_Call_Name_kw (ld_glob I hg hm ?_ hdb)
  refine PySem.W.callWith_K (h₀ := X.base) I.ok.mod.kin hk (wpAny_gsz (n := s.gens.size) (Nat.le_refl _) (wpAny_mono (ha.run pos' pins s σ H _ I h) (fun us s1 hq hz => ?_) fun _ _ q _ => q)) he hpl
  obtain ⟨vs, H1, I1, r, rs, q1, q2⟩ := hq
  exact ⟨I1.kIn, thn (run_jfn F hr hb hd I1 r q1) fun u s' hM => ⟨H1, s1, rs, I1, hz, hM, q2⟩⟩
def tMethJ (C : Addr) (m : Str) (sp : List V → Hp → List (List Int) → Prop) (dvs : List V) (ta : TE) : TJg := fun σ H Q => ta σ H fun x H1 => ∃ a dx fs rs, x = .ref a ∧ H1 a = some (.ins C dx fs) ∧ fs.lookup m = none ∧ sp (x :: dvs) H1 rs ∧ Q rs H1
/-- o.m() -/
theorem pj_meth0 {pl : Sem Bool} (he : PE X o ta) (c : Cls X.K C) (hm : Meth X.K C m f) (F : JFn X.prog X.w X.K X.mg X.base k f fd ps sp) (hr : Room k X.A) (hb : Binds X.K fd ps ds) (hd : Vals dvs ds)
    (ht : eval (.Call (.Attribute o m apos) [] [] pos') X.env = (do
      let ov ← eval o X.env
      standAt apos.atName
      let (f, first) ← holding [ov] (getMethod ov m pl)
      callWith pos' f first (backTo pos' (starEach [] X.env)) (backToKw pos' (keywordEach [] X.env))) := by rfl) :
    PJ X k (.Call (.Attribute o m apos) [] [] pos') (tMethJ C m sp dvs ta) := by
  refine ⟨fun pins s σ H Q I h => ?_⟩
  refine PySem.W.methodCall_KW (pl := pl) (wpAny_gsz (n := s.gens.size) (Nat.le_refl _) (wpAny_mono (he.run pins s σ H _ I h) (fun u s1 hq hz => ?_) fun _ _ q _ => q)) ht
  obtain ⟨x, H1, I1, rx, a, dx, fs, rs, ex, ea, l, q1, q2⟩ := hq
  subst ex
  obtain rfl : u = Value.ref a := rx
  refine getmeth_ok I1 ea c hm l ?_
  exact PySem.W.callWith_K0 (first := [.ref a]) I1.kIn hm.kp (thn (run_jfn (us := [.ref a]) (vs := [.ref a]) F hr hb hd I1 (.cons rfl .nil) q1) fun u s' hM => ⟨H1, s1, rs, I1, hz, hM, q2⟩)
end
/-! ### the def that drains them -/
structure EJ (X : Cx) (Fo : Outcome → Shared → Prop) (e : Expr) (t : TE) : Prop where
  run : ∀ (pins : List (Addr × Obj)) (s : Shared) (σ : L2.St) (H : Hp) (Q : VK), Inv X pins σ H s → t σ H Q → wpJ (model X.prog X.w) Fo X.A (eval e X.env) (EP X pins σ Q) (fun _ _ => False) s
structure SJ (X : Cx) (Fo : Outcome → Shared → Prop) (st : Stmt) (t : TS) : Prop where
  run : ∀ (pins : List (Addr × Obj)) (s : Shared) (σ : L2.St) (H : Hp) (D : Ends), Inv X pins σ H s → t D σ H → wpJ (model X.prog X.w) Fo X.A (exec st X.env) (SP X pins D) (fun _ _ => False) s
structure SsJ (X : Cx) (Fo : Outcome → Shared → Prop) (st : List Stmt) (t : TS) : Prop where
  run : ∀ (pins : List (Addr × Obj)) (s : Shared) (σ : L2.St) (H : Hp) (D : Ends), Inv X pins σ H s → t D σ H → wpJ (model X.prog X.w) Fo X.A (execs st X.env) (SP X pins D) (fun _ _ => False) s
section
variable {X : Cx} {Fo : Outcome → Shared → Prop} {st : Stmt} {rest : List Stmt} {pos p : Pos} {k : Nat}
theorem sj_of {t : TS} (hx : X.xe = fun _ _ => False) (h : PS X st t) : SJ X Fo st t := ⟨fun pins s σ H D I q => wpJ_of (by have z := h.run pins s σ H D I q; rw [hx] at z; exact z)⟩
theorem ssj_of {t : TS} (hx : X.xe = fun _ _ => False) (h : PSs X rest t) : SsJ X Fo rest t := ⟨fun pins s σ H D I q => wpJ_of (by have z := h.run pins s σ H D I q; rw [hx] at z; exact z)⟩
theorem ssj_cons {t u : TS} (h1 : SJ X Fo st t) (h2 : SsJ X Fo rest u) : SsJ X Fo (st :: rest) (tSeq t u) := by
  refine ⟨fun pins s σ H D I h => ?_⟩
  rw [execs_cons]
  refine wpJ_bind (wpJ_mono (h1.run pins s σ H { D with nx := u D } I h) (fun f s1 q => ?_) fun _ _ z => z)
  cases f with
  | next =>
    obtain ⟨σ', H', I', q⟩ := q
    exact h2.run pins s1 σ' H' D I' q
  | ret v => exact wpJ_pure q
  | brk => exact wpJ_pure q
  | cont => exact wpJ_pure q
theorem sj_set {i : Nat} {x : Str} {e : Expr} {te : TE} {pos' : Pos} (hxe : X.xe = fun _ _ => False) (hN : X.N.Nodup) (hi : X.N[i]? = some x) (hx : Loc X.env.scope x) (he : EJ X Fo e te) (hs : swapsWith e (some (.Name x pos')) pos.line X.env = pure false := by rfl) (hf : X.fn x = true ∨ X.env.scope.names.lookup x = some .local := by first | exact .inl rfl | exact .inr rfl | assumption) :
    SJ X Fo (.Assign [.Name x pos'] e pos) (tAsg te (gName i)) := by
  refine ⟨fun pins s σ H D I h => ?_⟩
  rw [exec_Assign_Name _ _ _ _ _ hs]
  refine wpJ_seq (wpAny_standAt (wpJ_bind (wpJ_mono (he.run pins s σ H _ I h) (fun v s1 hv => ?_) fun _ _ z => z)))
  obtain ⟨y, H1, I1, r1, q1⟩ := hv
  refine wpJ_seq (wpAny_standAt (wpJ_seq (wpAny_bindName ?_)))
  exact store_ok I1 hN hi hx r1 (fun s2 I2 => wpJ_pure ⟨_, H1, I2, q1⟩) hf
theorem callWith_typeJ {M : Model} {A : Around} {E : Value → Shared → Prop} {s : Shared} {T : String} {first : List Value} {args : List (Bool × Sem Value)} {Q : Value → Shared → Prop} (hplain : args.any (·.1) = false)
    (h : wpAny M A (evalArgs (.type T) true args []) (fun a s₁ => wpJ M Fo A (call (.type T) (first ++ a.pos) a.kw) Q E s₁) E s) : wpJ M Fo A (callWith pos (.type T) first args []) Q E s := by
  unfold callWith
  refine wpJ_seq (wpAny_holding (wpAny_mono h (fun a s₁ h₁ => wpJ_seq (wpAny_standAt ?_)) fun _ _ x => x))
  simp only [hplain, List.any_nil, Bool.or_false]
  refine wpJ_seq (wpAny_pure ?_)
  exact wpJ_bind (wpJ_mono h₁ (fun r s₂ hr => wpJ_seq (wpAny_holding (wpAny_point (wpJ_pure hr)))) fun _ _ x => x)
/-- list(g) -/
def tListJ (tg : TJg) : TE := fun σ H Q => tg σ H fun rs H1 => rs.length ≤ sizeLine ∧ ∀ S H2 vs, Same H1 H2 → H2 S = none → Outs H2 rs vs → Q (.ref S) (upd H2 S (.lst vs))
theorem ej_list {e : Expr} {tg : TJg} {nm : Str} (hxe : X.xe = fun _ _ => False) (h : PJ X k e tg) (hr : Room (k + 3) X.A) (hg : Gl X nm) (hmg : X.mg nm = none) (hv : bootBuiltins nm = some (.type "list")) (hnm : nm ≠ "__name__" := by decide) (hdb : (nm == ("__debug__" : Str)) = false := by decide)
    (he : starEach [e] X.env = (false, eval e X.env) :: starEach [] X.env := by rfl) : EJ X Fo (.Call (.Name nm p) [e] [] pos) (tListJ tg) := by
  refine ⟨fun pins s σ H Q I hq => ?_⟩
  rw [arm_eval_Call_Name']
  refine wpJ_seq (ld_blt I hg hmg hv ?_ hnm hdb)
  rw [he]
  refine callWith_typeJ rfl (Calls.evalArgs_plain (Calls.spliced_cons (wpAny_mono (h.run pins s σ H _ I hq) (fun u s1 hu => Calls.spliced_nil ?_) fun x s1 z => by rw [hxe] at z; exact z)))
  obtain ⟨H1, sc, rs, I1, hz, hM, hlen, hQ⟩ := hu
  have hst : ∀ b ∈ frs X.stack, b < sc.heap.objs.size := fun b hb => by
    rcases List.mem_cons.mp (I1.stkSub b hb) with z | z
    · rw [z]; exact I1.lt
    · exact Nat.lt_of_not_le fun q => I1.nofs q z
  refine call_listJ hr I1.ok.frames hM hlen (Nat.le_trans I1.ok.bsz I1.sz) hst I1.hok (fun H2 h2 S hS un => ?_) fun S s' acc c H2 vs hS q1 q2 q3 q4 q5 q6 q7 q8 q9 => ?_
  · refine I1.ok.mod.nolimit.keeps fun b o eb => un.keep b o (I1.bs b o eb).1 (I1.bs b o eb).2 (fun hm => ?_) fun z => ?_
    · rcases List.mem_cons.mp (I1.stkSub b hm) with z | z
      · have h1 := Heap.lt_size eb
        have h2 := Nat.le_trans I1.ok.bsz I1.ok.above
        rw [z] at h1
        exact absurd (Nat.lt_of_lt_of_le h1 h2) (Nat.lt_irrefl _)
      · exact I1.ok.nofr eb z
    · have h1 := Heap.lt_size (I1.bs b o eb).1
      rw [List.mem_singleton.mp z] at h1
      exact Nat.lt_irrefl _ (Nat.lt_of_lt_of_le h1 hS)
  · have hl : vs.length ≤ sizeLine := by rw [← Paired.length q3]; exact hlen
    exact ⟨.ref S, upd H2 S (.lst vs), I1.drained hS hl q1 q2 .nil q5 q6 q7 q8 q9, rfl, hQ S H2 vs q4 q9 q3⟩
end
end Ja
end
section
set_option maxHeartbeats 2000000
/-! Jt: from the logic backwards to the row's claim. -/
namespace Ja
open PySem PySem.W PySem.Calls PyProof.Rows
/-- a thread that the logic follows to its end -/
theorem thread_endsJ {prog : Program} {w : World} {t : Sem PySem.Fin} {s : Shared} {R : Result → Shared → Prop} (hz : s.asleep)
    (h : ∀ F : Outcome → Shared → Prop, wpJ (model prog w) F callerA t (fun fin s' => ∃ f, fin = .done f ∧ R (.ok f) s' ∧ leftWithCleanup s'.gens = false) (fun e s' => R (.error e) s' ∧ leftWithCleanup s'.gens = false) s) :
    ∃ n r s' s'', runN (denote table) prog w n s ⟨t, .builtin "claim.caller" {}, default, []⟩ = .halted (outcomeOf r) s' ∧ schedN (denote table) prog w n (.single s ⟨t, .builtin "claim.caller" {}, default, []⟩) = .halted (outcomeOf r) s' ∧ s'.forget = s''.forget ∧ R r s'' := by
  have fin : ∀ (r : Result) (p : Pos) (s' : Shared), R r s' → leftWithCleanup s'.gens = false → Ok (model prog w) (fun o s' => ∃ r, o = outcomeOf r ∧ R r s') s' ⟨leafOf r, .builtin "claim.caller" {}, p, []⟩ := fun r p s' hR hl _ => by
    refine ⟨1, outcomeOf r, s', ?_, r, rfl, hR⟩
    have e := step_leaf_nil (model prog w) s' (.builtin "claim.caller" {}) p r
    have e2 : finish (outcomeOf r) s' = .halt (outcomeOf r) s' := by simp only [finish, hl, Bool.false_eq_true, if_false]
    rw [e2] at e
    have e3 : stepJ (model prog w).den (model prog w).prog (model prog w).w s' ⟨leafOf r, .builtin "claim.caller" {}, p, []⟩ = .halt (outcomeOf r) s' := by
      cases hq : Thread.loud ⟨leafOf r, .builtin "claim.caller" {}, p, []⟩ with
      | true => rw [Model.step_loud (model prog w) hq] at e; cases r <;> cases e
      | false =>
        rw [Model.step_quiet (model prog w) hq] at e
        unfold stepJ loudJ
        rw [hq, Bool.false_and, if_neg Bool.false_ne_true]; exact e
    simp only [runNJ, e3]
  have hA : Stands (.builtin "claim.caller" {}) [] callerA := caller_in
  have run := h (fun o s' => ∃ r, o = outcomeOf r ∧ R r s') (.builtin "claim.caller" {}) default [] .pure .raise id id hA
    (fun a p' s' q => by obtain ⟨f, rfl, hR, hl⟩ := q; exact fin (.ok f) p' s' hR hl) (fun x p' s' q => fin (.error x) p' s' q.1 q.2)
  rw [wrap_id] at run
  obtain ⟨n, o, s', hn, r, rfl, hR⟩ := run hz
  obtain ⟨s'', h1, h2, h3⟩ := runNJ_full (denote table) prog w hn (outcomeOf_ends r) hz
  exact ⟨n, r, s'', s', h2, h1, h3, hR⟩
/-- the calls from behind the top, by the logic backwards -/
theorem callFromJ {c : ClaimW} {tree : List Value → Sem PySem.Fin} {w : World} {s : Shared} {free : Addr → Prop} {gens : Prop} {kept : Heap → Prop} (hz : s.asleep) (hgens : s.gens = #[])
    (spec : ∀ args, c.pre args = true → WData.layableAll args = true → ∀ ord : List DictEntry → List DictEntry, (∀ l, (ord l).Perm l) →
      ∃ vs s₁, layAllW c.records (classAt s.heap) w.params ord args s = some (vs, s₁) ∧ ∀ F : Outcome → Shared → Prop,
        wpJ (model c.prog w) F callerA (tree vs) (fun fin s' => ∃ f, fin = .done f ∧ (c.Ends s args vs s₁ (.ok f) s' ∧ s'.os = s.os ∧ AllBare s'.gens ∧ kept s'.heap)) (fun _ _ => False) s₁) :
    c.CallFrom (fun vs => ⟨tree vs, .builtin "claim.caller" {}, default, []⟩) w free gens kept s := by
  intro args hpre hlay ord hord
  obtain ⟨vs, s₁, laid, hcode⟩ := spec args hpre hlay ord hord
  have hal := layAllW_rest _ _ _ laid
  obtain ⟨k, r, s', s'', hrun, hsched, hfo, hcase, hos, hkp⟩ := thread_endsJ (prog := c.prog) (w := w) (t := tree vs) (s := s₁) (R := fun r s' => c.Ends s args vs s₁ r s' ∧ s'.os = s.os ∧ kept s'.heap)
    (Shared.asleep_of_life hal.2.2.2 hz) (fun F => wpJ_mono (hcode F) (by rintro fin s' ⟨f, e, h1, h2, h3, h4⟩; exact ⟨f, e, ⟨h1, h2, h4⟩, leftWithCleanup_false_of_bare h3⟩) fun e s' z => z.elim)
  obtain ⟨eh, _, _, eo, _⟩ := Shared.forget_eq hfo
  have hcase := hcase.congr eh
  have hkp : kept s'.heap := by first | exact eh ▸ hkp | (rw [eh]; exact hkp) | (rw [← eh] at hkp; exact hkp)
  rw [← eo] at hos
  have hlife : s'.heap.life = s.heap.life := (runN_life _ _ _ hrun).trans hal.2.2.2
  refine ⟨vs, s₁, laid, k, _, s', hsched, ?_, (fun _ i x hx => by rw [hgens] at hx; simp at hx), hkp, by rw [hlife], Shared.rest_eq hos⟩
  rcases hcase with ⟨v, rfl, d1, d2, d3, d4, d5⟩ | ⟨e, ob, cls, rfl, d1, d2, d3, d4, d5⟩
  · exact .inl ⟨v, rfl, d1, d2, d3, fun b o y _ => d4 b o y, d5⟩
  · exact .inr ⟨e, ob, cls, rfl, d1, d2, d3, d4, fun b o y _ => d5 b o y⟩
/-- what is asked of the law's call -/
def WalkJ (q : Program) (loose : List PySem.Str) (XP : (PySem.Str → Option Value) → Heap → Prop) (YP : World → Heap → Prop) (r : RowW) (d : DefRec) (kwd : List (PySem.Str × PySem.Expr)) : Prop :=
  ∀ (w : World) (s₀ s₁ : Shared) (mg mb : PySem.Str → Option Value), Ground q loose r.records XP w s₀ mg mb s₁.heap → YP w s₁.heap → ∀ (a : Addr) (o : Obj) (pm cd doc dV kV : Value), s₁.heap.get? a = some o →
    o.data = .func { docDef d.name d.params d.body d.scope pm cd doc with defaults := dV, kwdefaults := kV } → s₁.heap.CodeRec cd d.name → Dflts mg s₁.heap d.params kwd dV kV → mg d.name = some (.ref a) → s₁.gens = #[] →
    ∀ (args : List WData) (vals : List Value) (as : List Addr), r.claim.pre args = true → WData.layableAll args = true → ReadsAllW r.records (classAt s₀.heap) s₁.heap vals args as → WellAll w.params s₁.heap vals args → (∀ a ∈ as, (a == sysModules) = false) →
      ∀ F : Outcome → Shared → Prop, wpJ (model r.prog w) F callerA (PySem.call (.ref a) vals) (fun v s' => GoodWG r.claim (classAt s₀.heap) (ExcName.means s₀.heap) args s₁ (.ok (.ret v)) s') (fun _ _ => False) s₁
theorem holdsJ {r : OpenRow} {q : Program} {loose : List PySem.Str} {Xt : Shared → Bool} {XP : (PySem.Str → Option Value) → Heap → Prop} {α : Type} {Yf : Shared → α} {Ya : World → α} {YP : World → Heap → Prop} {d : DefRec} {kwd : List (PySem.Str × PySem.Expr)} {N : Nat}
    (left : LeftO r.prog q loose Xt Yf Ya N) (hY : ∀ w s, Yf s = Ya w → YP w s.heap) (hYk : ∀ w h h', YP w h → (∀ b o, h.get? b = some o → h'.get? b = some o) → YP w h')
    (hX : ∀ s, Xt s = true → XP (s.heap.nsMap mainGlobals) s.heap) (hXk : ∀ mg h h', XP mg h → (∀ b o, h.get? b = some o → h'.get? b = some o) → XP mg h')
    (hdef : defOf q r.name = some (d, kwd)) (hp : r.prog.theDef r.name = some (d.params, d.body, d.scope)) (hk : kwWritten? d.params.kwonlyargs d.params.kw_defaults = some kwd) (hRf : ∀ s, Xt s = true → RecFacts r.records s.heap)
    (hwr : (!r.writes || r.records.isEmpty) = true) (k1 : r.wellSaid = true) (ok : (chainsOk q && opensWell r.prog && (frees r.toRowW && r.within.isEmpty)) = true) (hb : r.prog.bare) (hw : r.toRowW.promised)
    (call : WalkJ q loose XP YP r.toRowW d kwd) : r.Holds := by
  refine ⟨k1, hw, ?_⟩
  obtain ⟨ok1, k5⟩ := Bool.and_eq_true_iff.mp ok
  obtain ⟨hch, o1⟩ := Bool.and_eq_true_iff.mp ok1
  obtain ⟨k5, k6⟩ := Bool.and_eq_true_iff.mp k5
  obtain ⟨hsame, hu, ha, hap, hm⟩ := frees_parts k5
  refine ⟨⟨hb, o1, by show r.toRowW.makers.map _ = []; rw [hm]; rfl⟩, hw.witness, fun w => ⟨(left.behind hX hch w).1, fun s' hs' => ?_⟩⟩
  obtain ⟨s₀, hf, hg0, s, hT, hz, hgens, hg, G00, y⟩ := (left.behind (XP := fun mg h => XP mg h ∧ RecFacts r.records h) (fun s hs => ⟨hX s hs, hRf s hs⟩) hch w).2 s' hs'
  have G0 : Ground q loose [] XP w s (s.heap.nsMap mainGlobals) (s.heap.nsMap builtinsNs) s.heap := ⟨G00.T, G00.B, G00.D, G00.TE, G00.TD, G00.W, G00.X.1, G00.cls, G00.has, G00.apart, G00.once, G00.K⟩
  have RF := G00.X.2
  have hT' := hT
  refine ⟨s₀, hf, hg0, s, hT, fun n hn => ?_, RF.1, RF.2.1, ?_⟩
  · obtain rfl : n = r.name := by split at hn <;> simp_all
    exact pinned_of_view hg G0 hdef hp hk
  have hgens : s.gens = #[] := Array.eq_empty_of_size_eq_zero (beq_iff_eq.mp hgens)
  have G : Ground q loose r.records XP w s _ _ s.heap := RF.ground G0
  have main : r.toRowW.claim.CallFrom (fun vs => ⟨(do match ← nsGet mainNs r.name with
      | some f => do ret (← PySem.call f vs)
      | none => unsupported "claim.caller:no-such-global"), .builtin "claim.caller" {}, default, []⟩) w (fun b => r.writes = true ∧ madeByTheTop s₀ s b) (r.writes = false) (fun h' => r.writes = true → namesKept r.toRowW.claim.prog r.keeps s.heap h' ∧ ∀ x ∈ r.toRowW.claim.records, ∀ a, classAt s.heap x.1 = some a → recordClass h' a x.1 (x.2.map (·.1)) = true) s := by
    refine callFromJ (c := r.toRowW.claim) hz hgens fun args hpre hlay ord hord => ?_
    obtain ⟨⟨vs, s₁⟩, laid⟩ := Option.isSome_iff_exists.mp (layAllW_isSome (P := w.params) (ord := ord) G.has args r.toRowW.args s (pre_splitW hpre).1)
    have keeps := layAllW_keeps _ _ _ laid
    have hal := layAllW_rest _ _ _ laid
    obtain ⟨as, hrd, hin, hold⟩ := reads_layAllW hord _ _ _ laid hlay s₁.heap (fun _ _ e => e)
    have L : Laid r.records w s s₁ args vs as := ⟨⟨ord, hord, laid⟩, hrd, hin, hold, keeps, hal.1.trans hgens, hal.2.2.1⟩
    have G₁ := G.keeps hXk keeps
    obtain ⟨a, o, pm, cd, doc, dV, kV, h1, h2, h3, h4, h5⟩ := G₁.fn hdef
    have hi := ident_freeW hu ha hap
    have hwi : r.toRowW.claim.within = [] := List.isEmpty_iff.mp k6
    refine ⟨vs, s₁, laid, fun F => ?_⟩
    refine wpJ_seq (wpAny_nsGet G₁.T.g ?_)
    rw [h1]
    refine wpJ_bind (wpJ_mono (call w s s₁ _ _ G₁ (hYk _ _ _ (hY w s y) keeps) a o pm cd doc dV kV h2 h3 h4 h5 (defOf_name hdef ▸ h1) L.gens args vs as hpre hlay L.reads L.well (L.low G.low) F) (fun v s' g => ?_) fun _ _ z => z)
    have z := g.laid (c := r.toRowW.claim) hsame hwi hi L
    exact wpJ_pure ⟨_, rfl, z.1, z.2.1, z.2.2, fun q => ⟨namesKept_of hT' hg r.keeps keeps g.2.1.old, noTable hwr q⟩⟩
  exact main
/-- with the head by one kernel run -/
theorem headJ {r : OpenRow} {q : Program} {H : Hook} {ob : SharedT → H.α} {M : Nat} {loose : List PySem.Str} {d : DefRec} {kwd : List (PySem.Str × PySem.Expr)} (ho : ∀ s : SharedT, ob s = H.obs s.abs)
    (e : opening r.prog = plainProg r.prog.main.scope.names) (f : ∀ s, fenceModules? r.prog s = some s) (run : ∀ w, HandSHeadRun.RunEq r q H ob M loose w)
    (hdef : defOf q r.name = some (d, kwd)) (hp : r.prog.theDef r.name = some (d.params, d.body, d.scope)) (hk : kwWritten? d.params.kwonlyargs d.params.kw_defaults = some kwd)
    (hwr : (!r.writes || r.records.isEmpty) = true) (k1 : r.wellSaid = true) (ok : (chainsOk q && opensWell r.prog && (frees r.toRowW && r.within.isEmpty)) = true) (hb : r.prog.bare) (hw : r.toRowW.promised)
    (call : WalkJ q loose (XL q []) H.says r.toRowW d kwd) : r.Holds := by
  have left : LeftO r.prog q loose (fun s => xlAt q [] s && recOk r.toRowW.records s) H.obs H.val (M + 600) true :=
    HandSHeadRun.left_one (M := M) e (Nat.ble_eq_true_of_le (by omega)) f (Nat.ble_eq_true_of_le (by omega)) fun w os => by
      have z := run w os
      rw [show ob = fun s => H.obs s.abs from funext ho] at z
      simp only [HandSHeadRun.endQ_eq, HandSHeadRun.seenQ_eq]
      exact z
  exact holdsJ (r := r) (q := q) (loose := loose) (XP := XL q []) (YP := H.says) (d := d) (kwd := kwd) left H.of H.keeps (fun s z => xl_of s (Bool.and_eq_true_iff.mp z).1) XL.keeps hdef hp hk
    (fun s z => recFacts_of (Bool.and_eq_true_iff.mp z).2) hwr k1 ok hb hw call
end Ja
end
section
set_option maxHeartbeats 2000000
/-! Jr: for, def and the law's call, by the logic backwards. -/
namespace Ja
open PySem PySem.Spec PyProof.Rows L2 GenW
section
variable {X : Cx} {Fo : Outcome → Shared → Prop} {st : Stmt} {rest : List Stmt} {pos p : Pos} {k : Nat}
theorem wpx {α : Type} {M : Model} {A : Around} {m : Sem α} {Q : α → Shared → Prop} {s : Shared} (hxe : X.xe = fun _ _ => False) (h : wpAny M A m Q X.xe s) : wpAny M A m Q (fun _ _ => False) s := by rw [hxe] at h; exact h
theorem sj_for {tg iter : Expr} {body : List Stmt} {wi : TI} {g : TG} {tb : TS} (hxe : X.xe = fun _ _ => False) (hc : X.calm = true) (hi : PI X tg iter wi) (hg : PG X tg g) (hb : SsJ X Fo body tb)
    (hs : ∀ x, foldedSetIterable iter X.env x = pure x := by intro _; rfl) : SJ X Fo (.For tg iter body [] pos) (tFor wi g tb) := by
  refine ⟨fun pins s σ H D I h => ?_⟩
  rw [exec_For]
  refine wpJ_seq (wpAny_standAt ?_)
  refine wpJ_seq (wpx hxe (thn (hi.run pins s σ H _ I h) fun v s1 h1 => ?_))
  refine wpJ_seq (wpAny_of_eq (hs v) ?_)
  refine wpJ_seq (wpAny_standAt ?_)
  refine wpJ_seq (wpAny_holding (wpx hxe (thn h1 fun itv s2 h2 => ?_)))
  obtain ⟨it, fp, tn, J, H2, e, I2, T, st2, f2, W, ⟨m0, w0⟩, turn⟩ := h2
  subst e
  have stat : ∀ {H' : Hp}, (∀ b ∈ fp, H' b = none) → ∀ b ∈ fp, FpOk X pins H' b := fun hn b hb => ⟨hn b hb, (f2 b hb).2⟩
  unfold runOwn
  refine wpJ_onRaise (wpJ_run (hd := none) (E := fun e s' => wpJ _ _ _ _ _ _ s') ?_ (by intro x; cases x))
  have loop : ∀ (n i : Nat) (s3 : Shared) (σ3 : L2.St) (H3 : Hp), Inv X pins σ3 H3 s3 → tn i s3.heap → (∀ b ∈ fp, H3 b = none) → W i n σ3 H3 →
      codeJ (model X.prog X.w) Fo X.A (.forLoop tg (.ref it) body [] X.env) (fun r s' => match r with | .ok f => SP X pins D f s' | .error _ => False) s3 := by
    intro n
    induction n using Nat.strongRecOn with
    | ind n ih =>
      intro i s3 σ3 H3 I3 st3 fr3 w3
      refine codeJ_of_tree ?_
      show wpJ _ _ X.A ((forTurn tg (.ref it) body [] X.env).onRaise (fun x => do noteFrame x X.env; theTreesLotGoes x)) _ _ s3
      refine wpJ_onRaise (wpJ_mono (E := fun _ _ => False) ?_ (fun _ _ z => z) fun _ _ z => z.elim)
      unfold forTurn
      refine wpJ_seq (wpAny_standAt ?_)
      rcases turn i n σ3 H3 w3 with ⟨stop, qn⟩ | ⟨go, N, hN, step⟩
      · refine wpJ_seq (wpAny_onRaise (wpAny_mono (T.done X rfl rfl rfl hc i pins s3 σ3 H3 (fun _ _ => False) I3 (stat fr3) st3 stop) (fun r s4 hr => ?_) fun _ _ z => z.elim))
        obtain ⟨rfl, I4⟩ := hr
        refine wpJ_pure ⟨rfl, codeJ_of_tree ?_⟩
        exact wpJ_pure ⟨σ3, H3, I4, qn⟩
      · refine wpJ_seq (wpAny_onRaise (wpAny_mono (T.item X rfl rfl rfl hc i pins s3 σ3 H3 (fun _ _ => False) I3 (stat fr3) st3 go) (fun r s4 hr => ?_) fun _ _ z => z.elim))
        obtain ⟨u, rfl, h4⟩ := hr
        refine wpJ_seq (thn h4 fun _ s5 h5 => ?_)
        obtain ⟨x, H5, I5, r5, y5, st5, fr5⟩ := h5
        have I5' := I5.pinned (stat fr5) (T.obj _ _ st5)
        refine wpJ_seq (wpx hxe (thn (hg.run _ s5 σ3 H5 x u _ I5' r5 (step x H5 y5)) fun _ s6 h6 => ?_))
        obtain ⟨σ6, H6, I6, q6⟩ := h6
        refine wpJ_bind (wpJ_mono (hb.run _ s6 σ6 H6 _ I6 q6) (fun f s7 q7 => ?_) fun _ _ z => z)
        have again : ∀ {σ7 : L2.St} {H7 : Hp}, Inv X (pins ++ pinsAt fp s5.heap) σ7 H7 s7 → N σ7 H7 → codeJ (model X.prog X.w) Fo X.A (.forLoop tg (.ref it) body [] X.env) (fun r s' => match r with | .ok f => SP X pins D f s' | .error _ => False) s7 := fun {σ7 H7} I7 n7 => by
          obtain ⟨m', hm, w7⟩ := hN σ7 H7 n7
          refine ih m' hm (i + 1) s7 σ7 H7 I7.unpinned (T.keep _ _ _ st5 fun b hb o e => (I7.pin (b, o) (List.mem_append_right _ (List.mem_append_right _ (mem_pinsAt hb e)))).1) (fun b hb => ?_) w7
          obtain ⟨o, e, d⟩ := T.obj _ _ st5 b hb
          exact (I7.pin (b, o) (List.mem_append_right _ (List.mem_append_right _ (mem_pinsAt hb e)))).2.1
        cases f with
        | next => obtain ⟨σ7, H7, I7, n7⟩ := q7; exact wpJ_pure ⟨rfl, again I7 n7⟩
        | cont => obtain ⟨σ7, H7, I7, n7⟩ := q7; exact wpJ_pure ⟨rfl, again I7 n7⟩
        | brk => obtain ⟨σ7, H7, I7, q7⟩ := q7; exact wpJ_pure ⟨σ7, H7, I7.unpinned, q7⟩
        | ret v => obtain ⟨x7, σ7, H7, I7, r7, q7⟩ := q7; exact wpJ_pure ⟨x7, σ7, H7, I7.unpinned, r7, q7⟩
  exact codeJ_mono (loop m0 0 s2 σ H2 I2 st2 (fun b hb => (f2 b hb).1) w0) fun r s' q => by
    cases r with
    | ok f => exact q
    | error e => exact q.elim
end
end Ja
end
section
set_option maxHeartbeats 2000000
/-! Ju: the law's def and its call, by the logic backwards. -/
namespace Ja
open PySem PySem.Spec PyProof.Rows L2 GenW
section
variable {P : Program} {w : World} {Fo : Outcome → Shared → Prop} {A : Around} {s : Shared}
theorem codeJ_func {body : List Stmt} {env : Env} {R : Result → Shared → Prop} (h : wpJ (model P w) Fo (A.deeper env) (execs body env) (fun f s' => R (.ok (.ret (match f with | .ret v => v | _ => .none))) s') (fun _ _ => False) s) : codeJ (model P w) Fo A (.func body env) R s := by
  refine codeJ_of_tree ?_
  show wpJ _ _ (A.deeper env) (do point; match ← (execs body env).onRaise (leaving env) with | .ret v => ret v | _ => ret .none) _ _ s
  refine wpJ_seq (wpAny_point ?_)
  refine wpJ_bind (wpJ_onRaise (wpJ_mono h (fun f s' h' => ?_) fun _ _ h' => h'.elim))
  cases f <;> exact wpJ_pure h'
theorem codeJ_call_function {R : Result → Shared → Prop} {a : Addr} {args : Args} {o : Obj} {fd : FuncData} {body : List Stmt} (hroom : A.depth < recursionLimit)
    (ho : s.heap.get? a = some o)
    (hd' : o.data = .func fd) (hco : fd.scope.isCoroutine = false) (hgen : fd.scope.isGenerator = false) (hbody : fd.body = .stmts body) (hcd : s.heap.CodeRec fd.code fd.qualname)
    (h : wpAny (model P w) A.in1 (bindArgs fd args) (fun binds s₁ =>
      wpAny (model P w) A.in1 (newFunctionEnv fd.scope fd.globals fd.closure binds (fd.qualname ++ ".<locals>.") (some a) fd.code none fd.builtins)
        (fun env s₂ => s₂.heap.NoLimit ∧ codeJ (model P w) Fo A (.func body env) R s₂) (fun e s' => R (.error e) s') s₁) (fun e s' => R (.error e) s') s) :
    codeJ (model P w) Fo A (.call (.ref a) args) R s := by
  refine codeJ_of_tree ?_
  show wpJ _ _ A.in1 (callAny (.ref a) args) _ _ s
  simp only [callAny]
  refine wpJ_seq (wpAny_load ho ?_)
  obtain ⟨c, oc, vs, tq, hc, hoc, hdc, hq⟩ := hcd
  simp only [hd', callFunction, hco, hgen, hbody, hc]
  rw [hc] at h
  refine wpJ_seq (m := field (.ref c) 1) (wpAny_field hoc hdc hq (wpJ_seq (wpAny_pure ?_)))
  exact wpJ_seq (wpAny_mono h (fun binds s₁ h₁ => wpJ_seq (wpAny_mono h₁ (fun env s₂ h₂ => wpJ_seq (wpAny_enterFrame h₂.1 hroom
    (wpJ_pure (And.intro rfl h₂.2)))) fun _ _ h' => h')) fun _ _ h' => h')
end
/-- the context of a def whose statements are judged backwards: no exception leaves it -/
def lcx (P : Program) (w : World) (K : PySem.W.Frag) (mg : Str → Option Value) (base : Heap) (N : List Str) (qual : Str) (scope : Scope) (f : Addr) (cd : Value) (A : Around) (outer : List Env) (s : Shared) (H : Hp) : Cx :=
  { cxOf (CX P w) P w K mg base N qual scope f cd A outer s H (fun _ _ _ => False) with xe := fun _ _ => False }
theorem def_ofJ {P : Program} {w : World} {Fo : Outcome → Shared → Prop} {K : PySem.W.Frag} {mg : Str → Option Value} {base : Heap} {k : Nat} {f : Addr} {name qual : Str} {params : Arguments} {body : List Stmt} {scope : Scope} {dV kV doc pm cdv ct oc : Value} {an od : Option Addr}
    {osl : Array (Option Value)} {N ps : List Str} {A : Around} {outer : List Env} {s : Shared} {H : Hp} {args : Args} {us : List Value} {vs : List V} {Q : VK} (lk : K.lookup f = some ⟨oc, od, .func (PySem.W.fnOf name qual params body scope dV kV doc pm an cdv ct), osl⟩) (hcd : PySem.W.codeIn K cdv qual = true) (S : FnScope N ps scope)
    (hl : vs.length = ps.length) (hr : Room (k + 1) A) (e0 : Env0 P w K mg base A outer s H) (hb : BindsTo s (PySem.W.fnOf name qual params body scope dV kV doc pm an cdv ct) args (ps.zip us)) (r : Vals vs us)
    (hbody : ∃ t, SsJ (lcx P w K mg base N qual scope f cdv A outer s H) Fo body t ∧ t { nx := fun _ H' => Q .non H', rt := Q } (start N vs) H) :
    codeJ (model P w) Fo A (.call (.ref f) args) (fun r s' => match r with | .ok (.ret u) => CE outer P w H s Q u s' | _ => False) s := by
  have KX : K.In s.heap := e0.mod.kin.keeps fun b o e => (e0.bs b o e).1
  have lim : s.heap.NoLimit := e0.mod.nolimit.keeps fun b o e => (e0.bs b o e).1
  have hkind : ∀ y ∈ ps.zip us, scope.names.lookup y.1 = some .local ∨ (scope.names.lookup y.1 = some .cell ∧ ((cellsFrom (s.heap.objs.size + 1) scope.names []).lookup y.1).isSome = true) := fun ⟨n, v⟩ hy => by
    rcases S.par n (List.of_mem_zip hy).1 with q | q
    · exact .inl q
    · exact .inr ⟨q, PySem.W.cellsFrom_some _ _ _ (.inl q)⟩
  refine codeJ_call_function hr.depth (KX _ _ lk) rfl S.co S.gen rfl (PySem.W.codeRec_of KX hcd) (hb _ _ _ _ ?_)
  refine wpAny_newFunctionEnv_cells S.kind hkind fun env he s1 x => ?_
  subst he
  refine ⟨lim.keeps x.toInCall.keep, codeJ_func ?_⟩
  obtain ⟨t, ht, hq⟩ := hbody
  have I0 : Inv (cxOf (CX P w) P w K mg base N qual scope f cdv A outer s H (fun _ _ _ => False)) [] (start N vs) H s1 := inv_start S hr.hd e0 hl r x
  have I : Inv (lcx P w K mg base N qual scope f cdv A outer s H) [] (start N vs) H s1 :=
    ⟨⟨I0.ok.mod, I0.ok.kind, I0.ok.glob, I0.ok.blt, I0.ok.above, I0.ok.inj, I0.ok.has, I0.ok.cab, I0.ok.hd, I0.ok.frames, I0.ok.stk, I0.ok.exf, I0.ok.bs, I0.ok.bsz, I0.ok.noex, I0.ok.exfs, I0.ok.funs, I0.ok.frf⟩, I0.os, I0.bare, I0.base, I0.loc, I0.cell, I0.free, I0.freeC, I0.pin, I0.hok, I0.len⟩
  refine wpJ_mono (ht.run [] s1 (start N vs) H _ I hq) (fun fl s' hs => ?_) fun e s' hs => hs
  have fin : ∀ {σ' : L2.St} {H' : Hp} {v : V} {u : Value}, Inv (lcx P w K mg base N qual scope f cdv A outer s H) [] σ' H' s' → RelV v u → Q v H' → CE outer P w H s Q u s' :=
    fun {σ' H' v u} J rv q => ⟨v, H', J.os, J.bare, J.base, J.hok, rv, q⟩
  cases fl with
  | ret u =>
    obtain ⟨v, σ', H', J, rv, q⟩ := hs
    exact fin J rv q
  | next =>
    obtain ⟨σ', H', J, q⟩ := hs
    exact fin (v := V.non) (u := Value.none) J rfl q
  | brk =>
    obtain ⟨_, _, _, q⟩ := hs
    exact False.elim q
  | cont =>
    obtain ⟨_, _, _, q⟩ := hs
    exact False.elim q
end Ja
end
section
set_option maxHeartbeats 2000000
/-! Jv: the law's call. -/
namespace Ja
open PySem PySem.W PySem.Calls PyProof.Rows Att
theorem attachJ {l : OpenLaw} {n : Nat} {q : Program} {loose : List PySem.Str} {XP : (PySem.Str → Option Value) → Heap → Prop} {YP : World → Heap → Prop} {d : DefRec}
    (hn : l.most = some n) (hdf : d.params.defaults = [])
    (call : ∀ (w : World) (s₀ s₁ : Shared) (mg mb : PySem.Str → Option Value) (fa : Addr) (o : Obj) (pm cd doc : Value) (a : Addr) (vs : List Value) (ns : List Int),
      Ground q loose [] XP w s₀ mg mb s₁.heap → YP w s₁.heap →
      s₁.heap.get? fa = some o → o.data = .func (docDef d.name d.params d.body d.scope pm cd doc) → s₁.heap.CodeRec cd d.name → mg d.name = some (.ref fa) →
      s₁.heap.get? a = some { cls := .type "list", data := .seq vs.toArray } → IntsAre vs ns → ns.length ≤ n → s₁.gens = #[] →
      ∀ F : Outcome → Shared → Prop, codeJ (model l.prog w) F callerA (.call (.ref fa) ⟨[.ref a], []⟩) (fun r s' => r = .ok (.ret (.bool true)) ∧ OldK s₁.heap s'.heap ∧ s'.os = s₁.os ∧ AllBare s'.gens) s₁) :
    WalkJ q loose XP YP l.row.toRowW d [] := by
  intro w s₀ s₁ mg mb G Y fa o pm cd doc dV kV ho hd hcd hD hmg hg args vals as hpre hlay hrd hwl hlo F
  obtain rfl : dV = .none := Dflts.none hD hdf
  obtain rfl : kV = .none := Dflts.noKw hD
  obtain ⟨a, vs, ns, rfl, rfl, hobj, hints, hlen⟩ := script_of hn hpre hwl
  refine wpJ_call (codeJ_mono (call w s₀ s₁ mg mb fa o pm cd doc a vs ns G Y ho (fd_plain hd) hcd hmg hobj hints hlen hg F) fun r s' hq => ?_)
  obtain ⟨rfl, h2, h3, h4⟩ := hq
  exact ⟨.inl ⟨.bool true, .bool true, [], rfl, fun _ => rfl, .bool true, post_true l _, fun _ => ⟨List.Pairwise.nil, fun _ hm => (nomatch hm)⟩⟩, h2, h3, h4⟩
end Ja
namespace Ja
open PySem PySem.Spec PyProof.Rows L2
/-- the law's promise, at the heap behind the top -/
theorem law_callJ {P : Program} {w : World} {Fo : Outcome → Shared → Prop} {K : PySem.W.Frag} {mg mb : PySem.Str → Option Value} {fa a : Addr} {s₁ : Shared} {vs : List Value} {ns : List Int}
    (KX : K.In s₁.heap) (hns : s₁.heap.Ns mainGlobals mg) (hb : s₁.heap.Ns builtinsNs mb) (hbb : ∀ x : PySem.Str, x ≠ "__name__" → mb x = bootBuiltins x) (hlim : s₁.heap.NoLimit) (hg : s₁.gens = #[])
    (ha : s₁.heap.get? a = some { cls := .type "list", data := .seq vs.toArray }) (hi : IntsAre vs ns) (hl : ns.length ≤ sizeLine)
    (F : ∀ (base : Heap) (H : Hp), K.In base → base.Ns mainGlobals mg → Env0 P w K mg base callerA [] s₁ H → Only H → SqL K H a (ns.map V.int) →
      codeJ (model P w) Fo callerA (.call (.ref fa) ⟨[.ref a], []⟩) (fun r s' => match r with | .ok (.ret u) => CE [] P w H s₁ (fun v _ => v = .bl true) u s' | _ => False) s₁) :
    codeJ (model P w) Fo callerA (.call (.ref fa) ⟨[.ref a], []⟩) (fun r s' => r = .ok (.ret (.bool true)) ∧ OldK s₁.heap s'.heap ∧ s'.os = s₁.os ∧ AllBare s'.gens) s₁ := by
  have rv := vals_ints hi
  have lenV := hi.length
  have core : ∀ H : Hp, Only H → SqL K H a (ns.map V.int) → HOk P w H s₁.heap → (∀ b, H b ≠ none → b = a) → (H a ≠ none → K.lookup a = none) →
      codeJ (model P w) Fo callerA (.call (.ref fa) ⟨[.ref a], []⟩) (fun r s' => r = .ok (.ret (.bool true)) ∧ OldK s₁.heap s'.heap ∧ s'.os = s₁.os ∧ AllBare s'.gens) s₁ := by
    intro H hO hS hok hA hK
    have base_of : ∀ {b : Addr} {o : Obj}, s₁.heap.get? b = some o → H b = none → (hidT s₁.heap H).get? b = some o := fun e n => hidT_get e n
    have noA : ∀ {b : Addr} {o : Obj} {es : Array DictEntry} {ep : Nat}, s₁.heap.get? b = some o → o.data = .dict es ep → H b = none := fun {b o es ep} e d => by
      cases q : H b with
      | none => rfl
      | some u =>
        have e' : b = a := hA b (by rw [q]; simp)
        subst e'
        rw [ha] at e; cases e
        have d' : Data.seq vs.toArray _ = Data.dict es ep := d
        cases d'
    have nsK : ∀ {b : Addr} {m : PySem.Str → Option Value}, s₁.heap.Ns b m → (hidT s₁.heap H).Ns b m := fun {b m} ⟨o, es, ep, e, d, r⟩ => ⟨o, es, ep, base_of e (noA e d), d, r⟩
    have hKb : K.In (hidT s₁.heap H) := fun b o e => base_of (KX b o e) (by
      cases q : H b with
      | none => rfl
      | some u =>
        have e' : b = a := hA b (by rw [q]; simp)
        subst e'
        rw [hK (by rw [q]; simp)] at e; cases e)
    have hM : Mod K mg (hidT s₁.heap H) := ⟨hKb, nsK hns, ⟨mb, nsK hb, hbb⟩, let ⟨mc, h1, h2⟩ := hlim; ⟨mc, nsK h1, h2⟩⟩
    have e0 : Env0 P w K mg (hidT s₁.heap H) callerA [] s₁ H := ⟨rfl, hM, fun b o e => of_hidT e, Nat.le_of_eq (hidT_size _ _), trivial, fun b hb => absurd (show b ∈ ([] : List Addr) from hb) (by simp), hok, .of_eq hg⟩
    refine codeJ_mono (F _ H hKb (nsK hns) e0 hO hS) fun r s' h => ?_
    cases r with
    | error e => exact False.elim h
    | ok fl =>
      cases fl with
      | next => exact False.elim h
      | brk => exact False.elim h
      | cont => exact False.elim h
      | ret u =>
        obtain ⟨v, H', os, bare, un, hok', r', q⟩ := h
        have q' : v = .bl true := q
        subst q'
        obtain rfl : u = Value.bool true := r'
        refine ⟨rfl, OldK.of_keep fun b o e => ?_, os, bare⟩
        cases q : H b with
        | none => exact un.keep b o e q (by intro z; exact absurd (show b ∈ ([] : List Addr) from z) (by simp)) (by simp)
        | some u =>
          rcases hO b with z | ⟨ob, xs, z⟩
          · rw [q] at z; cases z
          · have z2 := un.frzs b ob _ z
            obtain ⟨e1, _⟩ := hok b _ z
            obtain ⟨e2, _⟩ := hok' b _ z2
            rw [e] at e1; cases e1
            exact e2
  cases hk : K.lookup a with
  | some o =>
    have e := KX a o hk
    rw [ha] at e
    cases e
    refine core (fun _ => none) (fun _ => .inl rfl) (.inr ⟨_, vs.toArray, _, hk, rfl, rfl, rfl, by rw [List.size_toArray, lenV]; exact hl, by simpa using rv⟩) (fun b u z => by have z' : (none : Option HO) = some u := z; cases z') (fun b z => absurd rfl z) fun z => absurd rfl z
  | none =>
    refine core (fun b => if b = a then some (.frz { cls := .type "list", data := .seq vs.toArray } (.lst (ns.map V.int))) else none) (fun b => ?_) (.inl (.inr ⟨{ cls := .type "list", data := .seq vs.toArray }, if_pos rfl⟩)) (fun b u z => ?_) (fun b z => ?_) fun _ => hk
    · by_cases hb : b = a
      · exact .inr ⟨_, _, if_pos hb⟩
      · exact .inl (if_neg hb)
    · by_cases hb : b = a
      · have z' := (if_pos hb).symm.trans z
        cases z'
        subst hb
        exact ⟨ha, by rw [List.length_map]; exact hl, vs, _, rv, ha⟩
      · have z' := (if_neg hb).symm.trans z
        cases z'
    · by_cases hb : b = a
      · exact hb
      · exact absurd (if_neg hb) z
end Ja
end
section
set_option maxHeartbeats 2000000
/-! Ra: dict comprehensions whose keys are tuples. -/
namespace Ja
open PySem PySem.Spec PyProof.Rows L2
/-- the dict that a comprehension fills -/
theorem d_dictPut {X : Cx} {pins : List (Addr × Obj)} {σ : L2.St} {H H' : Hp} {s : Shared} {E : Value → Shared → Prop} {D : Addr} {y v : V} {u r : Value} {Q : Unit → Shared → Prop} (hu : X.A.units + 1 < cLine) (I : Inv X pins σ H s) (g : DPut H D y v H')
    (ry : RelV y u) (rv : RelV v r) (h : ∀ s', Inv X pins σ H' s' → Q () s') : wpAny (model X.prog X.w) X.A (dictSet D u r) Q E s := by
  rcases g with ⟨kvs, k, e, ey, l, eH⟩ | ⟨kvs, k, b, e, ey, eb, l, eH⟩
  · subst ey eH
    exact d_dictSet I e l ry rv h
  · subst ey eH
    cases (show u = Value.ref b from ry)
    obtain ⟨z, hd, xs, rel, dd⟩ := dt_of I.hok e
    have hz : xs.length ≤ sizeLine := Paired.length rel ▸ z
    have hl : (putK kvs k v).length ≤ sizeLine := Nat.le_trans (length_putK kvs k v) l
    refine wpAny_dictSet_heap (knd := tupleKind (mixKind X.prog X.w)) (hsz := hz) (show X.A.units < cLine by omega) (key_of I.hok eb) dd fun h' dd' hs => h _ ?_
    obtain ⟨q, es, ep, hq, h2, h3, h4, _, h5⟩ := dd'
    refine d_write I (by rw [e]; exact True.intro) hs ⟨q, hq⟩ ⟨hl, hd, _, (rel.put k eb rv).keeps fun c ys ec => ?_, q, es, ep, hq, h2, h3, h4, h5⟩
    rw [upd_ne (ne_of ec e (fun z => nomatch z))]
    exact ec
section
variable {X : Cx}
/-- {k: v for target in iter if ..}: D the new dict -/
def tDcT (wi : TI) (g : TG) (tt : TT) (tk tv : TE) (vs : List Nat) : TE := fun σ H Q => wi σ H fun J H1 => ∀ D, H1 D = none → ∃ W : Nat → Nat → Hp → Prop, (∃ m, W 0 m (upd H1 D (.dT []))) ∧ ∀ i m H, W i m H →
  (J.stop i H ∧ Q (.ref D) H) ∨ (J.go i H ∧ ∃ Nx : Hp → Prop, (∀ H', Nx H' → ∃ m', m' < m ∧ W (i + 1) m' H') ∧ ∀ x H', J.yld i H x H' → g x (wipe σ vs) H' fun σ2 H2 => wipe σ2 vs = wipe σ vs ∧ tt σ2 H2 fun b H3 =>
    if b = true then tk σ2 H3 fun y H4 => tv σ2 H4 fun z H5 => ∃ H6, DPut H5 D y z H6 ∧ Nx H6 else Nx H3)
theorem dcT_core {pins : List (Addr × Obj)} {s : Shared} {σ : L2.St} {H : Hp} {Q : VK} {kx vx tg iter : Expr} {ifs : List Expr} {scope : Scope} {own : List (Str × Nat)} {pos pos' : Pos} {wi : TI} {g : TG} {tt : TT} {tk tv : TE} {use : Option (Value → Sem Unit)} {Qf : Value → Shared → Prop}
    (hu : X.A.units + 1 < cLine) (hc : X.calm = true) (hN : X.N.Nodup) (I : Inv X pins σ H s) (hi : PI X tg iter wi) (ok : BlkOk X.N X.env.scope scope own)
    (hg : ∀ (s : Shared) (H : Hp) (C : Addr) (cl : List (Str × Addr)) (fp : List Addr), PG (X.blk s H scope (compEnvC scope cl C X.env) fp) tg g) (ht : ∀ (s : Shared) (H : Hp) (C : Addr) (cl : List (Str × Addr)) (fp : List Addr), PTs (X.blk s H scope (compEnvC scope cl C X.env) fp) ifs tt)
    (hk : ∀ (s : Shared) (H : Hp) (C : Addr) (cl : List (Str × Addr)) (fp : List Addr), PE (X.blk s H scope (compEnvC scope cl C X.env) fp) kx tk)
    (he : ∀ (s : Shared) (H : Hp) (C : Addr) (cl : List (Str × Addr)) (fp : List Addr), PE (X.blk s H scope (compEnvC scope cl C X.env) fp) vx tv) (hs : ∀ x, foldedSetIterable iter X.env x = pure x)
    (h : tDcT wi g tt tk tv (own.map (·.2)) σ H Q)
    (hRR : ∀ D C s' m H', Inv X pins σ H' s' → Q (.ref D) H' → s'.heap.Ns C m → FpOk X pins H' C → compPost (model X.prog X.w) X.A X.xe use Qf (.ref D) C (.ok .next) s') :
    wpAny (model X.prog X.w) X.A (comprehension (.DictComp kx vx [⟨tg, iter, ifs, 0⟩] scope pos) scope X.env pos' newDict false (eval iter X.env) use) Qf X.xe s := by
  have hfree : ∀ y ∈ scope.names, y.2 = .free → ∃ c, X.env.cells.lookup y.1 = some c := fun y hy e => by
    rcases ok.free y hy e with k | k
    · exact I.ok.has _ (.inl k)
    · exact I.ok.has _ (.inr k)
  refine wpAny_comprehension_free (use := use) rfl hs (closure_ok hfree) ok.kind (fun y hy e => by rw [ok.uniq y hy, e])
    (thn (hi.run pins s σ H _ I h) fun xv s1 hx => thn hx fun itv s2 h2 => ?_)
  obtain ⟨it, fp, tn, J, H2, e, I2, T, st2, f2, q⟩ := h2
  subst e
  refine wpAny_newObj_type (newEnv_comp ?_)
  generalize hD : s2.heap.objs.size = D
  have hDn : H2 D = none := I2.hok.fresh (Nat.le_of_eq hD)
  obtain ⟨W, ⟨m0, w0⟩, turn⟩ := q D hDn
  -- the new list
  generalize hs3 : ({ s2 with heap := s2.heap.push { cls := .type "dict", data := .dict #[] } } : Shared) = s3
  have I3 : Inv X pins σ (upd H2 D (.dT [])) s3 := by
    rw [← hs3]
    refine I2.laid (t' := s2.toks) (fun b o e => Heap.get?_push_of_some _ e) (Nat.le_of_eq hD) ?_
    rw [← hD]
    exact dt_empty s2.heap I2.big
  have h3 : s3.heap = s2.heap.push { cls := .type "dict", data := .dict #[] } := by rw [← hs3]
  have sz : ∀ b ∈ fp, b < s2.heap.objs.size := fun b hb => by
    obtain ⟨o, e, _⟩ := T.obj _ _ st2 b hb
    exact Heap.lt_size e
  have f3 : ∀ b ∈ fp, FpOk X pins (upd H2 D (.dT [])) b ∧ b < s3.heap.objs.size := fun b hb => by
    have hlt := sz b hb
    refine ⟨⟨?_, (f2 b hb).2⟩, by rw [h3, Heap.size_push]; exact Nat.lt_succ_of_lt hlt⟩
    rw [upd_ne (by rw [← hD]; exact Nat.ne_of_lt hlt)]
    exact (f2 b hb).1
  have st3 : tn 0 s3.heap := T.keep _ _ _ st2 fun b _ o e => by rw [h3]; exact Heap.get?_push_of_some _ e
  have I4 := block_start I3 ok hN f3
  have pg := hg s3 (upd H2 D (.dT [])) s3.heap.objs.size (cellsFrom (s3.heap.objs.size + 1) scope.names (cloFrom X.env.cells scope.names [])) fp
  have pt := ht s3 (upd H2 D (.dT [])) s3.heap.objs.size (cellsFrom (s3.heap.objs.size + 1) scope.names (cloFrom X.env.cells scope.names [])) fp
  have pk := hk s3 (upd H2 D (.dT [])) s3.heap.objs.size (cellsFrom (s3.heap.objs.size + 1) scope.names (cloFrom X.env.cells scope.names [])) fp
  have pe := he s3 (upd H2 D (.dT [])) s3.heap.objs.size (cellsFrom (s3.heap.objs.size + 1) scope.names (cloFrom X.env.cells scope.names [])) fp
  show codeAny _ _ (.compStart (.DictComp kx vx [⟨tg, iter, ifs, 0⟩] scope pos) 0 (.ref it) (.ref D) (compEnvC scope (cellsFrom (s3.heap.objs.size + 1) scope.names (cloFrom X.env.cells scope.names [])) s3.heap.objs.size X.env)) (compPost (model X.prog X.w) X.A X.xe use Qf (.ref D) s3.heap.objs.size) { s3 with heap := pushCells (s3.heap.push { cls := .type "dict", data := .dict #[] }) scope.names }
  have nfp : ∀ b ∈ fp, (upd H2 D (.dT [])) b = none := fun b hb => (f3 b hb).1.1
  generalize hce : compEnvC scope (cellsFrom (s3.heap.objs.size + 1) scope.names (cloFrom X.env.cells scope.names [])) s3.heap.objs.size X.env = ce at I4 pg pt pk pe ⊢
  have cL : ce.locals = s3.heap.objs.size := by subst hce; rfl
  generalize hH3 : upd H2 D (.dT []) = H3 at I3 I4 pg pt pk pe w0 nfp f3
  generalize hs4 : ({ s3 with heap := pushCells (s3.heap.push { cls := .type "dict", data := .dict #[] }) scope.names } : Shared) = s4 at I4 ⊢
  have st4 : tn 0 s4.heap := T.keep _ _ _ st3 fun b _ o e => by rw [← hs4]; exact pushCells_keeps _ _ _ _ (Heap.get?_push_of_some _ e)
  have stat : ∀ {σ' : L2.St} {H' : Hp} {s' : Shared}, Inv (X.blk s3 H3 scope ce fp) [] σ' H' s' → (∀ b ∈ fp, H' b = none) → ∀ b ∈ fp, FpOk (X.blk s3 H3 scope ce fp) [] H' b := fun {σ' H' s'} I' hn b hb =>
    ⟨hn b hb, (I'.ok.exf b hb).1, I'.ok.exfs b hb, .inl hb, fun x c e => (I'.ok.exf b hb).2 x c e, fun p hp => absurd (show p ∈ ([] : List (Addr × Obj)) ++ [] from hp) (by simp)⟩
  have loop : codeAny (model X.prog X.w) X.A (.compLoop (.DictComp kx vx [⟨tg, iter, ifs, 0⟩] scope pos) 0 (.ref it) (.ref D) ce) (compPost (model X.prog X.w) X.A X.xe use Qf (.ref D) s3.heap.objs.size) s4 := by
    refine compLoop_anyD (fun n s' => ∃ i H', Inv (X.blk s3 H3 scope ce fp) [] (wipe σ (own.map (·.2))) H' s' ∧ tn i s'.heap ∧ (∀ b ∈ fp, H' b = none) ∧ W i n H') ?_ m0 ⟨0, H3, I4, st4, nfp, w0⟩
    rintro n s5 ⟨i, H5, I5, st5, n5, w5⟩
    rcases turn i n H5 w5 with ⟨stop, qq⟩ | ⟨go, Nx, hNx, step⟩
    · have td := T.done (X.blk s3 H3 scope ce fp) rfl rfl rfl hc i [] s5 _ H5 (fun _ _ => False) I5 (stat I5 n5) st5 stop
      refine thnF td fun r s6 ⟨hr, I6⟩ => ?_
      subst hr
      -- back in the def's context
      have I7 : Inv X pins σ H5 s6 := I3.call' (ch := fp) I6.os I6.base I6.hok I6.bare fun b hb => ⟨(f3 b hb).1.2.2.2.1, (f3 b hb).1.2.1, (f3 b hb).1.2.2.2.2.1, (f3 b hb).1.2.2.2.2.2⟩
      have nC : H5 s3.heap.objs.size = none := by
        have z : H5 ce.locals = none := I6.free
        rw [cL] at z
        exact z
      obtain ⟨m, hn, _⟩ := I6.loc
      have hn : s6.heap.Ns ce.locals m := hn
      rw [cL] at hn
      exact hRR D s3.heap.objs.size s6 m H5 I7 qq hn (I3.fpOk (Nat.le_refl _) nC)
    · have ti := T.item (X.blk s3 H3 scope ce fp) rfl rfl rfl hc i [] s5 _ H5 (fun _ _ => False) I5 (stat I5 n5) st5 go
      refine thnF ti fun r s6 ⟨u, hr, h6⟩ => ?_
      subst hr
      refine thnF h6 fun _ s7 ⟨x, H7, I7, r7, y7, st7, n7⟩ => ?_
      have I7' := I7.pinned (stat I7 n7) (T.obj _ _ st7)
      refine thnF (pg.run _ s7 _ H7 x u _ I7' r7 (step x H7 y7)) fun _ s8 ⟨σ8, H8, I8, hw8, q8⟩ => ?_
      refine thnF (pt.run _ s8 σ8 H8 _ I8 q8) fun b s9 ⟨H9, I9, q9⟩ => ?_
      -- the turn's end
      have fin : ∀ {s' : Shared} {H' : Hp}, Inv (X.blk s3 H3 scope ce fp) ([] ++ pinsAt fp s7.heap) σ8 H' s' → Nx H' → ∃ m, m < n ∧ ∃ i H', Inv (X.blk s3 H3 scope ce fp) [] (wipe σ (own.map (·.2))) H' s' ∧ tn i s'.heap ∧ (∀ b ∈ fp, H' b = none) ∧ W i m H' := fun {s' H'} I' nx => by
        obtain ⟨m', hm, w'⟩ := hNx H' nx
        have pin' : ∀ b ∈ fp, ∀ o, s7.heap.get? b = some o → s'.heap.get? b = some o ∧ H' b = none := fun b hb o e =>
          let z := I'.pin (b, o) (List.mem_append_right _ (List.mem_append_right _ (mem_pinsAt hb e)))
          ⟨z.1, z.2.1⟩
        have hl : (wipe σ (own.map (·.2))).length = σ8.length := by rw [← hw8, wipe_length]
        refine ⟨m', hm, i + 1, H', (I'.unpinned (pins := [])).weak hl (fun j v e => ?_), T.keep _ _ _ st7 fun b hb o e => (pin' b hb o e).1, fun b hb => ?_, w'⟩
        · rw [← hw8] at e
          exact (wipe_some e).1
        · obtain ⟨o, e, _⟩ := T.obj _ _ st7 b hb
          exact (pin' b hb o e).2
      cases b with
      | false =>
        simp only [Bool.false_eq_true, if_false] at q9 ⊢
        exact fin I9 q9
      | true =>
        simp only [if_true] at q9 ⊢
        refine thnF (pk.run _ s9 σ8 H9 _ I9 q9) fun z s10 ⟨yk, H10, I10, r10, q10⟩ => ?_
        refine thnF (pe.run _ s10 σ8 H10 _ I10 q10) fun z2 s11 ⟨yv, H11, I11, r11, H12, put, nx⟩ => ?_
        exact d_dictPut (X := X.blk s3 H3 scope ce fp) hu I11 put r10 r11 fun s12 I12 => fin I12 nx
  exact codeAny_compStart_dict loop (T.self X.A 0 _ _ _ st4 loop)
/-- as a value -/
theorem pe_dcT {kx vx tg iter : Expr} {ifs : List Expr} {scope : Scope} {own : List (Str × Nat)} {pos : Pos} {wi : TI} {g : TG} {tt : TT} {tk tv : TE} (hu : X.A.units + 1 < cLine) (hc : X.calm = true) (hN : X.N.Nodup) (hi : PI X tg iter wi) (ok : BlkOk X.N X.env.scope scope own)
    (hg : ∀ (s : Shared) (H : Hp) (C : Addr) (cl : List (Str × Addr)) (fp : List Addr), PG (X.blk s H scope (compEnvC scope cl C X.env) fp) tg g) (ht : ∀ (s : Shared) (H : Hp) (C : Addr) (cl : List (Str × Addr)) (fp : List Addr), PTs (X.blk s H scope (compEnvC scope cl C X.env) fp) ifs tt)
    (hk : ∀ (s : Shared) (H : Hp) (C : Addr) (cl : List (Str × Addr)) (fp : List Addr), PE (X.blk s H scope (compEnvC scope cl C X.env) fp) kx tk)
    (he : ∀ (s : Shared) (H : Hp) (C : Addr) (cl : List (Str × Addr)) (fp : List Addr), PE (X.blk s H scope (compEnvC scope cl C X.env) fp) vx tv) (hs : ∀ x, foldedSetIterable iter X.env x = pure x := by intro _; rfl) :
    PE X (.DictComp kx vx [⟨tg, iter, ifs, 0⟩] scope pos) (tDcT wi g tt tk tv (own.map (·.2))) := by
  refine ⟨fun pins s σ H Q I h => ?_⟩
  rw [arm_eval_DictComp]
  refine dcT_core hu hc hN I hi ok hg ht hk he hs h fun D C s' m H' I' q hn f => ⟨m, hn, fun h'' sb => ?_⟩
  obtain ⟨f0, f1, f2, f3, f4, f5⟩ := f
  exact ⟨.ref D, H', I'.turned (t' := s'.toks) (fun b o hb e => (sb.2 b hb).trans e) f0 f1 f3 f4 f5, rfl, q⟩
end
end Ja
end
section
set_option maxHeartbeats 2000000
/-! Rb: the items of a dict whose keys are tuples. -/
namespace Ja
open PySem PySem.Spec PyProof.Rows L2
/-- its entries as they stand -/
theorem frz_entries {X : Cx} {pins : List (Addr × Obj)} {σ : L2.St} {H : Hp} {s : Shared} {d : Addr} {o : Obj} {kvs : List (List L2.Key × V)} (I : Inv X pins σ H s) (h : H d = some (.frz o (.dT kvs))) :
    (d == sysModules) = false ∧ s.heap.get? d = some o ∧ o.ExactDict ∧ ∃ (es : Array DictEntry) (ep : Nat), o.data = .dict es ep ∧ es.size = kvs.length ∧ kvs.length ≤ sizeLine ∧
      ∀ (i : Nat) (k : List L2.Key) (v : V), kvs[i]? = some (k, v) → ∃ (en : DictEntry) (q : Addr), es[i]? = some en ∧ en.key = .ref q ∧ H q = some (.tup (k.map kV)) ∧ RelV v en.val := by
  obtain ⟨hd, z, hs, xs, pr, o', es, ep, ho, hx, hdt, he, _⟩ := I.hok d _ h
  rw [hd] at ho
  cases ho
  have l1 : es.size = xs.length := size_of_entries he
  have l2 : kvs.length = xs.length := Paired.length pr
  refine ⟨hs, hd, hx, es, ep, hdt, l1.trans l2.symm, z, fun i k v e => ?_⟩
  obtain ⟨b, hb, e1, e2, e3⟩ := paired_get pr e
  have q := entry_at he i
  rw [hb] at q
  exact ⟨_, b.2.1, q, rfl, e2, e3⟩
/-- its pairs, each a new tuple -/
def Itit (d : Addr) (o : Obj) (kvs : List (List L2.Key × V)) : It :=
  ⟨fun i H => H d = some (.frz o (.dT kvs)) ∧ i < kvs.length, fun i H x H' => ∃ T k v q, kvs[i]? = some (k, v) ∧ x = .ref T ∧ H T = none ∧ H q = some (.tup (k.map kV)) ∧ H' = upd H T (.tup [.ref q, v]), fun i H => H d = some (.frz o (.dT kvs)) ∧ kvs.length ≤ i⟩
theorem turn_itemsT {P : Program} {w : World} {K : PySem.W.Frag} {d : Addr} {o : Obj} {es : Array DictEntry} {ep : Nat} {kvs : List (List L2.Key × V)} {elts : List Expr} {kk : Nat} {tpos : Pos} (it : Addr) (hod : o.data = .dict es ep) :
    Turn P w K (.Tuple elts kk tpos) (Itit d o kvs) [it] it (fun i h => ∃ ok ov, IsItemIter h it d i kvs.length ep ok ov) where
  mem := List.mem_singleton.mpr rfl
  obj := fun i h st b hb => by
    obtain ⟨ok, ov, e⟩ := st
    rw [List.mem_singleton.mp hb]
    exact ⟨_, e, fun v z => nomatch z⟩
  keep := fun i h h' st k => let ⟨ok, ov, e⟩ := st; ⟨ok, ov, k it (List.mem_singleton.mpr rfl) _ e⟩
  item := by
    intro X hP hw hK hc i pins s σ H E I hf st ⟨hd, hi⟩
    subst hP hw hK
    obtain ⟨hs, hgd, hx, es', ep', hdt, hsz, _, ent⟩ := frz_entries I hd
    obtain ⟨rfl, rfl⟩ := dict_ep hod hdt
    obtain ⟨ok, ov, he⟩ := st
    have hi' : i < es'.size := by omega
    obtain ⟨en, q, hen, hkey, hq, hval⟩ := ent i kvs[i].1 kvs[i].2 (List.getElem?_eq_getElem hi)
    have e0 : es'[i] = en := by
      have z := Array.getElem?_eq_getElem hi'
      rw [hen] at z; exact (Option.some.inj z).symm
    rw [← hsz] at he
    have hlt : it < s.heap.objs.size := Heap.lt_size he
    refine DT.nextI he ⟨o, hgd, hx, hdt⟩ hi' fun h' ho hT hz hk => ?_
    rw [e0] at ho hT
    rw [hkey] at hT
    refine ⟨_, rfl, wpAny_letOwnedTupleGo_items (s := { s with heap := h' }) ho fun h'' he' sb => ?_⟩
    have hT2 : h''.get? s.heap.objs.size = some { cls := .type "tuple", data := .seq #[.ref q, en.val] } := (sb.2 _ (Nat.ne_of_gt hlt)).trans hT
    have hn : H s.heap.objs.size = none := I.hok.fresh (Nat.le_refl _)
    have I1 : Inv X pins σ (upd H s.heap.objs.size (.tup [.ref q, kvs[i].2])) { s with heap := h'' } :=
      I.turnedNew (t' := s.toks) (ch := [it]) (fun b ob hb e => (sb.2 b (fun z => hb (List.mem_singleton.mpr z))).trans (hk b ob (fun z => hb (List.mem_singleton.mpr z)) e)) hf (Nat.le_refl _) ⟨(by show 2 ≤ sizeLine; decide), [.ref q, en.val], .cons rfl (.cons hval .nil), ⟨_, hT2, rfl, _, rfl⟩⟩
    refine ⟨.ref s.heap.objs.size, _, I1, rfl, ⟨_, kvs[i].1, kvs[i].2, q, List.getElem?_eq_getElem hi, rfl, hn, hq, rfl⟩, ⟨_, _, hsz ▸ he'⟩, fun b hb => ?_⟩
    rw [List.mem_singleton.mp hb, upd_ne (Nat.ne_of_lt hlt)]
    exact (hf it (List.mem_singleton.mpr rfl)).1
  done := by
    intro X hP hw hK hc i pins s σ H E I hf st ⟨hd, hi⟩
    subst hP hw hK
    obtain ⟨f0, f1, f2, f3, f4, f5⟩ := hf it (List.mem_singleton.mpr rfl)
    obtain ⟨hs, hgd, hx, es', ep', hdt, hsz, _, ent⟩ := frz_entries I hd
    obtain ⟨rfl, rfl⟩ := dict_ep hod hdt
    obtain ⟨ok, ov, he⟩ := st
    rw [← hsz] at he
    exact DT.endI (I.ok.hd hc) he ⟨o, hgd, hx, hdt⟩ (by omega) fun h' eb => ⟨rfl, I.turned (t' := s.toks) (fun b ob hb e => eb b ob hb e) f0 f1 f3 f4 f5⟩
  self := fun A i s Q E st h => let ⟨_, _, e⟩ := st; PySem.W.kcp_self e h
def iItemsT (td : TE) : TI := fun σ H R => td σ H fun x H1 => ∃ d o kvs, x = .ref d ∧ H1 d = some (.frz o (.dT kvs)) ∧ R (Itit d o kvs) H1
/-- for a, b in d.items() -/
theorem pi_itemsT {X : Cx} {e : Expr} {td : TE} {apos cpos : Pos} {elts : List Expr} {kk : Nat} {tpos : Pos} (he : PE X e td) (hbase : attributeBase e "items" X.env (eval e X.env) = eval e X.env := by rfl) (hline : (apos.endLine == cpos.line) = true := by rfl) :
    PI X (.Tuple elts kk tpos) (.Call (.Attribute e "items" apos) [] [] cpos) (iItemsT td) := by
  refine ⟨fun pins s σ H R I h => ?_⟩
  refine wpAny_Call_method (T := "dict") (id := "dict.items") hbase rfl hline F.plainAttrs_dict F.slot_dict_items F.type_dict_items (thn (he.run pins s σ H _ I h) fun u s1 ⟨x, H1, I1, rx, d, o, kvs, ex, hd, q⟩ => ?_)
  subst ex
  obtain rfl : u = Value.ref d := rx
  obtain ⟨hs, hgd, hx, es, ep, hdt, hsz, _, ent⟩ := frz_entries I1 hd
  have raw : DT.Raw s1.heap d es ep := ⟨o, hgd, hx, hdt⟩
  refine ⟨raw.typeIs, ?_, ?_⟩
  · exact fun b e => by cases e; exact ⟨o, hgd, hx.2.1⟩
  have I2 : Inv X pins σ H1 { s1 with heap := s1.heap.push { cls := .type "dict_items", data := .fields #[.ref d] } } := I1.kept (t' := s1.toks) fun b ob q => Heap.get?_push_of_some _ q
  have fin : wpAny (model X.prog X.w) X.A (pyIter (.ref s1.heap.objs.size)) (PIE X pins σ (.Tuple elts kk tpos) R) X.xe { s1 with heap := s1.heap.push { cls := .type "dict_items", data := .fields #[.ref d] } } := by
    refine DT.iterI (d := d) (es := es) (ep := ep) ⟨_, Heap.get?_push_size _ rfl, rfl, rfl⟩ (raw.push _) (pi_one (tk := s1.toks) I2 _ (turn_itemsT _ hdt) ⟨.none, .none, ?_⟩ q)
    rw [← hsz]
    exact Heap.get?_push_size _ rfl
  show wpAny _ _ (callWith cpos (.builtin "dict.items") [.ref d] [] []) _ X.xe s1
  exact method_meetsIn F.slot_dict_items F.entry_dict_items rfl (PySem.evalArgs_none ⟨rfl, raw.typeIs, F.args_dict_items_1 _, _, DT.meetsItems hs, ⟨raw, fin⟩⟩)
/-- list(view) -/
theorem call_list_view {P : Program} {w : World} {A : Around} {E : Value → Shared → Prop} {s : Shared} {r d : Addr} {es : Array DictEntry} {ep : Nat} {Q : Value → Shared → Prop} (hh : A.handled = none) (hv : s.heap.IsItemsView r d) (hm : DT.Raw s.heap d es ep) (hn : es.size ≤ sizeLine)
    (h : ∀ h' tk acc c as, (∀ b o, s.heap.get? b = some o → h'.get? b = some o) → h'.get? s.heap.objs.size = some { cls := .type "list", dict := none, data := .seq acc c, slots := #[] } → as.length = es.size → DT.Made es s.heap.objs.size h' as → acc.toList = as.map Value.ref → Q (.ref s.heap.objs.size) { s with heap := h', toks := tk }) :
    wpAny (model P w) A (call (.type "list") [.ref r]) Q E s := by
  have hr : r < s.heap.objs.size := let ⟨_, ho, _⟩ := hv; Heap.lt_size ho
  have hd : d < s.heap.objs.size := hm.lt
  refine callType_codes (Q₁ := fun obj s₁ => obj = .ref s.heap.objs.size ∧ s₁ = { s with heap := s.heap.push { cls := .type "list", data := .seq #[] } }) F.called_list (F.typeCall_list_1 _) F.entry_list_init (code_list_new _ ⟨rfl, rfl⟩) fun obj s₁ h₁ => ?_
  obtain ⟨rfl, rfl⟩ := h₁
  have hS : (s.heap.push { cls := .type "list", data := .seq #[] }).get? s.heap.objs.size = some { cls := .type "list", data := .seq #[] } := Heap.get?_push_size _ rfl
  have k1 : ∀ b o, b ≠ s.heap.objs.size → (s.heap.push { cls := .type "list", data := .seq #[] }).get? b = some o → ((s.heap.push { cls := .type "list", data := .seq #[] }).update s.heap.objs.size (Obj.mapSeq (fun _ => (#[] : Array Value)))).get? b = some o := fun b o hb e => (Heap.get?_update_other _ _ (Ne.symm hb)).trans e
  have k0 : ∀ b o, s.heap.get? b = some o → ((s.heap.push { cls := .type "list", data := .seq #[] }).update s.heap.objs.size (Obj.mapSeq (fun _ => (#[] : Array Value)))).get? b = some o := fun b o e => k1 b o (Nat.ne_of_lt (Heap.lt_size e)) (Heap.get?_push_of_some _ e)
  refine ⟨⟨_, hS, rfl⟩, F.args_list_init_2 _ _, ?_⟩
  show wpAny _ A.in1.in1 (do let old ← Builtin.List.listItems (.ref s.heap.objs.size); Builtin.List.listUpdate (.ref s.heap.objs.size) (fun _ => #[]); letGo old.toList.reverse; Builtin.List.listExtendWith (.ref s.heap.objs.size) (.ref r) .none) _ _ _
  unfold Builtin.List.listItems
  refine wpAny_bind (wpAny_bind (wpAny_seqItems hS rfl (wpAny_pure ?_)))
  show wpAny _ A.in1.in1 (updateSeq s.heap.objs.size (fun _ => #[]) >>= fun _ => letGo (#[] : Array Value).toList.reverse >>= fun _ => Builtin.List.listExtendWith (.ref s.heap.objs.size) (.ref r) .none) _ _ _
  refine wpAny_bind (wpAny_updateSeq hS rfl ?_)
  have hS2 := Heap.get?_update_self (Obj.mapSeq (fun _ => (#[] : Array Value))) hS rfl
  refine wpAny_bind (wpAny_letGo ?_)
  refine DT.extI (prog := P) (w := w) (A := A.in1) (s := { s with heap := _ }) (es := es) (ep := ep) hh (let ⟨o, ho, x⟩ := hv; ⟨o, k0 _ _ ho, x⟩) (hm.at' fun o e => k0 _ _ e) s.heap.objs.size (Nat.ne_of_gt hr) (Nat.ne_of_lt hd) .none _ hS2
    (fun h' tk acc c as hk hS' hl hG hacc => ⟨rfl, h h' tk acc c as (fun b o e => hk b o (Nat.ne_of_lt (Heap.lt_size e)) (k0 b o e)) hS' hl (hG.low ?_) hacc⟩) hn
  have e1 := Heap.lt_size hS2
  exact Nat.le_of_lt e1
/-- the list of the pairs of a dict -/
def ItemsL (H : Hp) (kvs : List (List L2.Key × V)) (as : List Addr) : Prop := as.length = kvs.length ∧ ∀ (i : Nat) (kv : List L2.Key × V), kvs[i]? = some kv → ∃ t q, as[i]? = some t ∧ H t = some (.tup [.ref q, kv.2]) ∧ H q = some (.tup (kv.1.map kV))
def tListItemsT (te : TE) : TE := fun σ H Q => te σ H fun x H1 => ∃ d kvs, x = .ref d ∧ H1 d = some (.dT kvs) ∧ ∀ H' S as, Same H1 H' → H1 S = none → H' S = some (.lst (as.map V.ref)) → ItemsL H' kvs as → Q (.ref S) H'
theorem pe_listItemsT {X : Cx} {e : Expr} {te : TE} {p apos cpos pos : Pos} (hc : X.calm = true) (he : PE X e te) (hg : Gl X "list") (hm : X.mg "list" = none) (hv : bootBuiltins "list" = some (.type "list")) (hbase : attributeBase e "items" X.env (eval e X.env) = eval e X.env := by rfl) (hline : (apos.endLine == cpos.line) = true := by rfl)
    (hs : starEach [.Call (.Attribute e "items" apos) [] [] cpos] X.env = (false, eval (.Call (.Attribute e "items" apos) [] [] cpos) X.env) :: starEach [] X.env := by rfl) :
    PE X (.Call (.Name "list" p) [.Call (.Attribute e "items" apos) [] [] cpos] [] pos) (tListItemsT te) := by
  refine ⟨fun pins s σ H Q I hq => ?_⟩
  refine wpAny_Call_Name_kw (ld_blt I hg hm hv ?_)
  refine PyProof.Rows.callWith_type1 ?_ hs rfl
  rw [hs]
  show wpAny _ _ (spliced ((false, eval (.Call (.Attribute e "items" apos) [] [] cpos) X.env) :: backTo pos (starEach [] X.env))) _ _ s
  refine Calls.spliced_cons ?_
  refine wpAny_Call_method (T := "dict") (id := "dict.items") hbase rfl hline F.plainAttrs_dict F.slot_dict_items F.type_dict_items (thn (he.run pins s σ H _ I hq) fun u s1 ⟨x, H1, I1, rx, d, kvs, ex, hd, q⟩ => ?_)
  subst ex
  obtain rfl : u = Value.ref d := rx
  obtain ⟨hz, hs0, xs, rel, o, es, ep, ho, hx, hdt, hes, _⟩ := (show ObjOk X.prog X.w H1 s1.heap d (.dT kvs) from I1.hok d _ hd)
  have raw : DT.Raw s1.heap d es ep := ⟨o, ho, hx, hdt⟩
  have l1 : es.size = xs.length := size_of_entries hes
  have l2 : kvs.length = xs.length := Paired.length rel
  have I2 : Inv X pins σ H1 { s1 with heap := s1.heap.push { cls := .type "dict_items", data := .fields #[.ref d] } } := I1.kept (t' := s1.toks) fun b ob q => Heap.get?_push_of_some _ q
  refine ⟨raw.typeIs, fun b e => by cases e; exact ⟨o, ho, hx.2.1⟩, ?_⟩
  show wpAny _ _ (callWith cpos (.builtin "dict.items") [.ref d] [] []) _ X.xe s1
  refine method_meetsIn F.slot_dict_items F.entry_dict_items rfl (PySem.evalArgs_none ⟨rfl, raw.typeIs, F.args_dict_items_1 _, _, DT.meetsItems hs0, ⟨raw, ?_⟩⟩)
  refine Calls.spliced_nil ?_
  refine call_list_view (I1.ok.hd hc) (d := d) (es := es) (ep := ep) ⟨_, Heap.get?_push_size _ rfl, rfl, rfl⟩ (raw.push _) (by omega) fun h' tk acc c as hk hS hl hG hacc => ?_
  have hf : ∀ b, s1.heap.objs.size + 1 ≤ b → H1 b = none := fun b hb => I1.hok.fresh (by omega)
  have sz2 : (s1.heap.push { cls := .type "dict_items", data := .fields #[.ref d] }).objs.size = s1.heap.objs.size + 1 := Heap.size_push ..
  generalize hS0 : (s1.heap.push { cls := .type "dict_items", data := .fields #[.ref d] }).objs.size = S at hS hG ⊢
  have hn0 : H1 S = none := hf S (by omega)
  have I3 : Inv X pins σ H1 { s1 with heap := h', toks := tk } := I2.kept (t' := tk) hk
  have rv : Vals (as.map V.ref) acc.toList := by
    rw [hacc]
    exact vals_maps V.ref Value.ref as fun _ _ => rfl
  have I4 : Inv X pins σ (upd H1 S (.lst (as.map V.ref))) { s1 with heap := h', toks := tk } :=
    I3.take (h' := h') (t' := tk) (fun b ob _ e => e) (I2.fpOk (by rw [← hS0]; exact Nat.le_refl _) hn0) ⟨by rw [List.length_map]; omega, acc.toList, c, rv, by rw [Array.toArray_toList]; exact hS⟩
  have nd : as.Nodup := List.Pairwise.imp (fun h => Nat.ne_of_lt h) hG.rise
  obtain ⟨H2, I5, g, qt⟩ := DX.takeT (P := fun b vs => ∃ (j : Nat) (kv : List L2.Key × V) (q : Addr), as[j]? = some b ∧ kvs[j]? = some kv ∧ vs = [.ref q, kv.2] ∧ H1 q = some (.tup (kv.1.map kV))) I2 as _ I4 nd fun b hb => by
    obtain ⟨j, hj⟩ := List.mem_iff_getElem?.mp hb
    obtain ⟨en, hen, hg2⟩ := hG.pairs j b hj
    have hbl : S < b := hG.above b hb
    have jl : j < kvs.length := by have := (List.getElem?_eq_some_iff.mp hj).1; omega
    obtain ⟨y, hy, e1, e2, e3⟩ := paired_get rel (List.getElem?_eq_getElem jl)
    have qe := entry_at hes j
    rw [hy, hen] at qe
    have ee : en = entryOfKey (tupleKind (mixKind X.prog X.w)) y := Option.some.inj qe
    refine ⟨by rw [hS0]; exact Nat.le_of_lt hbl, ?_, [.ref y.2.1, kvs[j].2], ⟨j, kvs[j], y.2.1, hj, List.getElem?_eq_getElem jl, rfl, e2⟩, fun H3 => ⟨by show 2 ≤ sizeLine; decide, [.ref y.2.1, y.2.2], .cons rfl (.cons e3 .nil), ⟨_, by rw [hg2, ee], rfl, 0, rfl⟩⟩⟩
    rw [upd_ne (Nat.ne_of_gt hbl)]
    exact hf b (by omega)
  have sm : Same H1 H2 := fun b ob e => g b ob (by rw [upd_ne (ne_of_none e hn0)]; exact e)
  refine ⟨.ref S, H2, I5, rfl, q H2 S as sm hn0 (g _ _ upd_same) ⟨by omega, fun i kv hi => ?_⟩⟩
  have il : i < as.length := by have := (List.getElem?_eq_some_iff.mp hi).1; omega
  obtain ⟨vs, ⟨j, kv2, q2, j1, j2, ev, hq2⟩, hH⟩ := qt as[i] (List.getElem_mem il)
  have eij : i = j := (List.getElem?_inj il nd).mp ((List.getElem?_eq_getElem il).trans j1.symm)
  subst eij
  rw [hi] at j2
  cases j2
  rw [ev] at hH
  exact ⟨as[i], q2, List.getElem?_eq_getElem il, hH, sm _ _ hq2⟩
end Ja
end
section
set_option maxHeartbeats 2000000
/-! Rc: two dicts with tuple keys that hold the same. -/
namespace Ja
open PySem PySem.Spec PyProof.Rows L2
theorem same_pairsT {P : Program} {w : World} {κ : Type} [DecidableEq κ] {knd : HeapKind P w κ} {A : Around} {E : Value → Shared → Prop} {s : Shared} {nm : String} {a b : Addr} {xa xb : List (κ × Addr × Value)} {Q : Bool → Shared → Prop} (hu : knd.room A) (ha : (a == sysModules) = false) (hb : (b == sysModules) = false)
    (da : s.heap.DictOfH knd a xa) (db : s.heap.DictOfH knd b xb) (hl : xa.length = xb.length)
    (hits : ∀ x ∈ xa, ∃ (j : Nat) (p : Addr × Value), xb[j]? = some (x.1, p) ∧ SeqAt.EqAt A s x.2.2 p.2 true) (h : Q true s) : wpAny (model P w) A (Builtin.Dict.samePairs nm a b) Q E s := by
  obtain ⟨oa, es, ep, hoa, _, hda, ea, ka, na⟩ := da
  obtain ⟨ob, es', ep', hob, _, hdb, eb, kb, nb⟩ := db
  have sa : es.size = xa.length := size_of_entries ea
  have sb : es'.size = xb.length := size_of_entries eb
  unfold Builtin.Dict.samePairs Builtin.Dict.showsAll
  rw [if_neg (show ¬ (a == sysModules) = true by rw [ha]; exact Bool.false_ne_true), if_neg (show ¬ (b == sysModules) = true by rw [hb]; exact Bool.false_ne_true)]
  refine wpAny_bind (wpAny_pure (wpAny_bind (wpAny_pure ?_)))
  refine wpAny_bind (wpAny_dictEntries hoa hda ?_)
  dsimp only
  refine wpAny_bind (wpAny_dictEntries hob hdb ?_)
  rw [if_neg (by rw [sa, sb, hl]; simp)]
  refine wpAny_bind (wpAny_dictEpoch hoa hda ?_)
  refine wpAny_bind ?_
  rw [Std.Legacy.Range.forIn_eq_forIn_range']
  simp only [Std.Legacy.Range.size, Nat.sub_zero, Nat.add_sub_cancel, Nat.div_one]
  refine wpAny_forIn_list _ (fun rest q s' => s' = s ∧ q = (none, ()) ∧ ∃ i, rest = List.range' i (es.size - i)) _ ?_ ?_ _ _ ⟨rfl, rfl, 0, by simp⟩
  · rintro x rest q s' ⟨rfl, rfl, i, hr⟩
    have hlt : i < es.size := by
      rcases Nat.lt_or_ge i es.size with z | z
      · exact z
      · rw [Nat.sub_eq_zero_of_le z] at hr; simp at hr
    have e : es.size - i = (es.size - (i + 1)) + 1 := by omega
    rw [e, List.range'_succ] at hr
    obtain ⟨rfl, hrest⟩ : x = i ∧ rest = List.range' (i + 1) (es.size - (i + 1)) := by injection hr with h1 h2; exact ⟨h1, h2⟩
    have hlt' : x < xa.length := by omega
    have hx : xa[x]? = some xa[x] := List.getElem?_eq_getElem hlt'
    have ex : es[x] = entryOfKey knd xa[x] := by
      have z := entry_at ea x
      rw [hx, Array.getElem?_eq_getElem hlt] at z
      exact Option.some.inj z
    refine wpAny_bind (wpAny_dictEntries hoa hda ?_)
    rw [Array.getElem?_eq_getElem hlt, ex]
    obtain ⟨j, p, hj, heq⟩ := hits xa[x] (List.getElem_mem hlt')
    show wpAny _ _ (holding _ _ >>= _) _ _ _
    refine wpAny_bind (wpAny_holding (wpAny_bind ?_))
    refine wpAny_dictFind_heap (k := xa[x].1) (a := xa[x].2.1) hu (ka _ (List.getElem_mem hlt')) hob hdb eb kb nb (fun hno => absurd hj (hno j p)) fun j2 p2 hj2 => ?_
    have ejj : j2 = j := by
      have l2 : j2 < (xb.map (·.1)).length := by rw [List.length_map]; exact (List.getElem?_eq_some_iff.mp hj2).1
      refine (List.getElem?_inj l2 nb).mp ?_
      rw [List.getElem?_map, List.getElem?_map, hj2, hj]
      rfl
    subst ejj
    have epp : p2 = p := by rw [hj] at hj2; cases hj2; rfl
    subst epp
    dsimp only
    refine wpAny_bind (wpAny_dictEntries hob hdb ?_)
    rw [entry_at eb j2, hj]
    refine wpAny_holding (heq _ _ _ _ ?_)
    rw [if_neg (by decide)]
    refine wpAny_bind (wpAny_dictEpoch hoa hda ?_)
    rw [if_neg (by simp)]
    exact wpAny_pure ⟨rfl, rfl, x + 1, hrest⟩
  · rintro q s' ⟨rfl, rfl, i, hr⟩
    exact wpAny_pure h
def rEqDT : R2 := fun x y H Q => ∃ a b ks ls, x = .ref a ∧ y = .ref b ∧ H a = some (.dT ks) ∧ H b = some (.dT ls) ∧ ks.length = ls.length ∧ (∀ p ∈ ks, p ∈ ls ∧ flatB p.2 = true) ∧ Q (.bl true) H
/-- d == e, where they hold the same -/
theorem op_eq_dictT {X : Cx} (hu : X.A.units + 1 < cLine) : OpR X (compareOp .Eq) rEqDT := by
  intro pins s σ H x y v u Q I rx ry h
  obtain ⟨a, b, ks, ls, rfl, rfl, ea, eb, hlen, hp, q⟩ := h
  obtain rfl : v = Value.ref a := rx
  obtain rfl : u = Value.ref b := ry
  obtain ⟨_, ya, va, ra, da⟩ := dt_of I.hok ea
  obtain ⟨_, yb, vb, rb, db⟩ := dt_of I.hok eb
  refine wpAny_richCompare_same_room (op := .Eq) da.typeIs db.typeIs PySem.F.slot_dict_eq (wpAny_call_entry PySem.F.slot_dict_eq da.typeIs PySem.F.entry_dict_eq ?_ (PySem.F.args_dict_eq_2 _ _)) (by omega)
  show wpAny _ _ (Builtin.Dict.dictSlotArgs "__eq__" ⟨[.ref a, .ref b], []⟩ >>= _) _ _ s
  refine wpAny_bind ?_
  unfold Builtin.Dict.dictSlotArgs
  refine wpAny_bind (wpAny_notOrdered_dict da.typeIs ?_)
  show wpAny _ _ (pure (Value.ref a, Value.ref b)) _ _ s
  refine wpAny_pure ?_
  refine wpAny_bind (wpAny_isInstance (T := "dict") db.typeIs PySem.F.sub_dict_dict ?_)
  simp only [Bool.not_true, Bool.false_eq_true, if_false]
  refine wpAny_bind (wpAny_pure (wpAny_bind (wpAny_pure ?_)))
  refine wpAny_bind (same_pairsT (tupleKind_room_in1 hu) ya yb da db ((Paired.length ra).symm.trans (hlen.trans (Paired.length rb))) (fun x hx => ?_) ?_)
  · obtain ⟨i, hi⟩ := List.mem_iff_getElem?.mp hx
    obtain ⟨p, hpi, e1, _, e3⟩ := DX.pget ra hi
    obtain ⟨pl, fl⟩ := hp p (List.mem_of_getElem? hpi)
    obtain ⟨j, hj⟩ := List.mem_iff_getElem?.mp pl
    obtain ⟨y, hy, f1, _, f3⟩ := paired_get rb hj
    refine ⟨j, y.2, ?_, eqAt_same e3 f3 fl⟩
    rw [hy]
    show some (y.1, y.2) = some (x.1, y.2)
    rw [← f1, e1]
  · refine wpAny_pure ⟨_, rfl, ?_, ?_⟩
    · exact fun x => nomatch x
    · exact ⟨.bl true, H, I, rfl, q⟩
end Ja
end
section
set_option maxHeartbeats 2000000
/-! Rd: sorted(d), the keys tuples of ints. -/
namespace Ja
open PySem PySem.W PySem.Spec PyProof.Rows L2
theorem lex_asym : ∀ x y : List Int, HT.lexLt x y = true → HT.lexLt y x = false
  | [], [], _ => rfl
  | [], _ :: _, _ => rfl
  | _ :: _, [], h => by cases h
  | x :: xs, y :: ys, h => by
    rw [HT.lexLt_cons] at h ⊢
    by_cases e : x = y
    · rw [if_pos e] at h
      rw [if_pos e.symm]; exact lex_asym xs ys h
    · rw [if_neg e, decide_eq_true_eq] at h
      rw [if_neg (fun z => e z.symm), decide_eq_false_iff_not]; omega
theorem lex_tr : ∀ x y z : List Int, HT.lexLt y x = false → HT.lexLt z y = false → HT.lexLt z x = false
  | [], [], [], _, _ => rfl
  | _ :: _, [], [], h1, _ => nomatch h1
  | _, _ :: _, [], _, h2 => nomatch h2
  | [], [], _ :: _, _, _ => rfl
  | _ :: _, [], _ :: _, h1, _ => nomatch h1
  | [], _ :: _, _ :: _, _, _ => rfl
  | x :: xs, y :: ys, z :: zs, h1, h2 => by
    rw [HT.lexLt_cons] at h1 h2 ⊢
    by_cases e1 : y = x
    · by_cases e2 : z = y
      · rw [if_pos e1] at h1
        rw [if_pos e2] at h2
        rw [if_pos (e2.trans e1)]; exact lex_tr xs ys zs h1 h2
      · rw [if_neg e2] at h2
        rw [← e1, if_neg e2]; exact h2
    · rw [if_neg e1, decide_eq_false_iff_not] at h1
      by_cases e2 : z = y
      · rw [e2, if_neg e1, decide_eq_false_iff_not]; exact h1
      · rw [if_neg e2, decide_eq_false_iff_not] at h2
        rw [if_neg (by omega), decide_eq_false_iff_not]; omega
theorem swo_lexLt {α : Type} (k : α → List Int) : SrtO.Swo fun v u => HT.lexLt (k v) (k u) := ⟨fun x y h => lex_asym _ _ h, fun x y z h1 h2 => lex_tr _ _ _ h1 h2⟩
def intOf : Value → Int
  | .int i _ => i
  | _ => 0
/-- the ints of the tuple that a value is -/
def runOf (h : Heap) : Value → List Int
  | .ref a => match h.get? a with
    | some o => match o.data with
      | .seq xs _ => xs.toList.map intOf
      | _ => []
    | none => []
  | _ => []
def IsRun (h : Heap) (v : Value) (ns : List Int) : Prop := ns ≠ [] ∧ ∃ (a : Addr) (items : Array Value), v = .ref a ∧ IsTup h a items ∧ IntsAre items.toList ns
theorem ints_of : ∀ {vs : List Value} {ns : List Int}, IntsAre vs ns → vs.map intOf = ns
  | _, _, .nil => rfl
  | _, _, .cons n t h => by rw [List.map_cons, ints_of h]; rfl
theorem IsRun.is {h : Heap} {v : Value} {ns : List Int} (x : IsRun h v ns) : runOf h v = ns := by
  obtain ⟨_, a, items, rfl, ⟨o, ho, _, n, hd⟩, hi⟩ := x
  unfold runOf
  dsimp only
  rw [ho]
  dsimp only
  rw [hd]
  exact ints_of hi
theorem IsRun.keeps {h h' : Heap} {v : Value} {ns : List Int} (x : IsRun h v ns) (k : ∀ b o, h.get? b = some o → o.cls = .type "tuple" → h'.get? b = some o) : IsRun h' v ns := by
  obtain ⟨n0, a, items, e, ⟨o, ho, hc, r⟩, hi⟩ := x
  exact ⟨n0, a, items, e, ⟨o, k _ _ ho hc, hc, r⟩, hi⟩
section
variable {P : Program} {w : World} {A : Around} {E : Value → Shared → Prop} {s : Shared}
theorem kat_ints : ∀ {xs ys : List Value} {ns ms : List Int} (i : Nat) (Q : Bool → Shared → Prop), IntsAre xs ns → IntsAre ys ms → Q (HT.lexLt ns ms) s → KatLex P w A true (decide (xs.length < ys.length)) Q (xs.zip ys) i s
  | _, _, _, _, i, Q, .nil, .nil, q => q
  | _, _, _, _, i, Q, .nil, .cons _ _ _, q => by
    refine kat_nil ?_
    rw [decide_eq_true (by simp)]; exact q
  | _, _, _, _, i, Q, .cons _ _ _, .nil, q => q
  | _, _, _, _, i, Q, .cons (vs := xs) (ns := ns) n t hx, .cons (vs := ys) (ns := ms) m u hy, q => by
    show KatLex P w A true _ Q ((.int n t, .int m u) :: xs.zip ys) i s
    refine kat_cons (SeqAt.EqAt.int_int n t m u P w _ _ ?_)
    refine kat_go (fun e => kat_yes ?_) (fun e => kat_no ?_)
    · have e' : n = m := by simpa using e
      rw [HT.lexLt_cons, if_pos e'] at q
      have z := kat_ints (i + 1) Q hx hy q
      rw [show decide ((Value.int n t :: xs).length < (Value.int m u :: ys).length) = decide (xs.length < ys.length) by simp]
      exact z
    · have e' : ¬ n = m := by simpa using e
      rw [HT.lexLt_cons, if_neg e'] at q
      exact TS.oneLt_ints _ q
theorem run_cmp {vs : List Value} (hp : ∀ v ∈ vs, ∃ ns, IsRun s.heap v ns) : SrtO.Cmp P w A s (tuples' true) (fun p => p.1 ∈ vs) (SrtO.lt2 fun v u => HT.lexLt (runOf s.heap v) (runOf s.heap u)) := by
  intro p q hm hm'
  obtain ⟨ns, h1⟩ := hp _ hm
  obtain ⟨ms, h2⟩ := hp _ hm'
  show wpAny (model P w) A (keyLt' (tuples' true) p.1 q.1) (fun r s' => s' = s ∧ r = HT.lexLt (runOf s.heap p.1) (runOf s.heap q.1)) (fun _ _ => False) s
  rw [h1.is, h2.is]
  obtain ⟨_, a, its, e1, ⟨o, ho, hc, n, hd⟩, hi⟩ := h1
  obtain ⟨_, b, its', e2, ⟨o', ho', hc', n', hd'⟩, hi'⟩ := h2
  rw [e1, e2]
  refine kat_lt ho hd ho' hd' ?_
  have e : decide (its.size < its'.size) = decide (its.toList.length < its'.toList.length) := by simp
  rw [e]
  exact kat_ints 0 _ hi hi' ⟨rfl, rfl⟩
theorem run_firsts {h : Heap} : ∀ {vs : List Value}, (∀ v ∈ vs, ∃ ns, IsRun h v ns) → ∃ fs : List Value, KatTups h vs fs ∧ fs.length = vs.length ∧ ∀ f ∈ fs, ∃ x t, f = Value.int x t
  | [], _ => ⟨[], KatTups.nil, rfl, fun _ hm => by simp at hm⟩
  | v :: vs, hp => by
    obtain ⟨fs, h1, h2, h3⟩ := run_firsts (vs := vs) fun v' hm => hp v' (List.mem_cons_of_mem _ hm)
    obtain ⟨ns, n0, a, ⟨its⟩, rfl, ⟨o, ho, hc, n, hd⟩, hi⟩ := hp v List.mem_cons_self
    cases hi with
    | nil => exact absurd rfl n0
    | @cons x t its ns hi =>
      refine ⟨.int x t :: fs, KatTups.cons ho hc hd rfl h1, by rw [List.length_cons, List.length_cons, h2], fun f hm => ?_⟩
      rcases List.mem_cons.mp hm with rfl | hm
      · exact ⟨x, t, rfl⟩
      · exact h3 f hm
theorem runs_sortable {a : Addr} {vs : List Value} (h0 : 0 < vs.length) (hp : ∀ v ∈ vs, ∃ ns, IsRun s.heap v ns) (ha : ∀ o, s.heap.get? a = some o → o.cls ≠ .type "tuple") : SrtO.SortableO P w A s a vs fun v u => HT.lexLt (runOf s.heap v) (runOf s.heap u) := by
  intro h' keep
  have kt : ∀ b o, s.heap.get? b = some o → o.cls = .type "tuple" → h'.get? b = some o := fun b o e c => keep b o (fun z => by subst z; exact ha o e c) e
  have hp' : ∀ v ∈ vs, ∃ ns, IsRun h' v ns := fun v hm => let ⟨ns, x⟩ := hp v hm; ⟨ns, x.keeps kt⟩
  obtain ⟨fs, h1, h2, h3⟩ := run_firsts hp'
  refine ⟨tuples' true, fun Q E hq => ?_, ?_⟩
  · refine kat_kind (T := .type "int") h1 (by omega) (fun f hm => ?_) (by rfl) ?_
    · obtain ⟨x, t, rfl⟩ := h3 f hm
      exact Looks.now
    · have e : (Value.type "int" != Value.type "tuple") = true := by decide
      rw [e]
      exact hq
  · intro p q hm hm'
    have z := run_cmp (P := P) (w := w) (A := A) (s := { s with heap := h' }) hp' p q hm hm'
    obtain ⟨ns, x⟩ := hp _ hm
    obtain ⟨ms, y⟩ := hp _ hm'
    refine wpAny_mono z (fun r s' ⟨q1, q2⟩ => ⟨q1, q2.trans ?_⟩) fun _ _ f => f
    show HT.lexLt (runOf h' p.1) (runOf h' q.1) = HT.lexLt (runOf s.heap p.1) (runOf s.heap q.1)
    rw [x.is, y.is, (x.keeps kt).is, (y.keeps kt).is]
end
abbrev keyOf (r : List Int) : List L2.Key := r.map Sum.inl
theorem keyOf_V (r : List Int) : (keyOf r).map kV = r.map V.int := by rw [List.map_map]; rfl
def unKey (k : List L2.Key) : List Int := k.map fun | .inl i => i | .inr _ => 0
theorem unKey_keyOf (r : List Int) : unKey (keyOf r) = r := by
  unfold unKey keyOf
  rw [List.map_map]
  exact List.map_id r
theorem kt_keys {H : Hp} : ∀ {kvs : List (List L2.Key × V)} {ks : List (List L2.Key × Addr × Value)}, KT H kvs ks → kvs.map (·.1) = ks.map (·.1)
  | _, _, .nil => rfl
  | _, _, .cons e t => by rw [List.map_cons, List.map_cons, kt_keys t, e.1]
theorem ints_of_vals : ∀ {ns : List Int} {us : List Value}, Vals (ns.map V.int) us → IntsAre us ns
  | [], _, .nil => .nil
  | n :: ns, _, .cons ⟨t, e⟩ h => by subst e; exact .cons n t (ints_of_vals h)
theorem map_unKey {l : List (List L2.Key)} {rs : List (List Int)} (h : l.Perm (rs.map keyOf)) : (l.map unKey).Perm rs ∧ ∀ k ∈ l, keyOf (unKey k) = k := by
  refine ⟨?_, fun k hk => ?_⟩
  · have z := h.map unKey
    rw [List.map_map] at z
    have e : rs.map (unKey ∘ keyOf) = rs := by
      conv => rhs; rw [← List.map_id rs]
      exact List.map_congr_left fun r _ => unKey_keyOf r
    rw [e] at z; exact z
  · obtain ⟨r, _, e⟩ := List.mem_map.mp (h.mem_iff.mp hk)
    rw [← e, unKey_keyOf]
/-- sorted(d), d's keys tuples of ints -/
theorem call_sortedT {X : Cx} (hc : X.calm = true) : CallR X (.builtin "sorted") (fun xs H Q => ∃ (a : Addr) (kvs : List (List L2.Key × V)) (rs : List (List Int)), xs = [.ref a] ∧ Rd H a (.dT kvs) ∧ kvs.map (·.1) = rs.map keyOf ∧ (∀ r ∈ rs, r ≠ []) ∧
    ∀ (ys : List (List Int)) (bs : List Addr) (p : Addr), ys.Perm rs → ys.Pairwise (fun x y => HT.lexLt y x = false) → Paired (fun r b => H b = some (.tup (r.map V.int))) ys bs → H p = none → Q (.ref p) (upd H p (.lst (bs.map V.ref)))) := by
  intro pins s σ H xs us Q I r h
  obtain ⟨d, kvs, rs, rfl, hd, hrs, hne, q⟩ := h
  obtain ⟨u, rfl, rx⟩ := r.one
  cases rx
  obtain ⟨z, hs, ks, pr, o, es, ep, ho, hx, hdt, he, hn⟩ := (show ObjOk X.prog X.w H s.heap d (.dT kvs) from hd.ok I.hok)
  have l1 : es.size = ks.length := size_of_entries he
  have l2 : kvs.length = ks.length := Paired.length pr
  have kk : ks.map (·.1) = rs.map keyOf := by
    rw [← hrs]; exact (kt_keys pr).symm
  refine Calls.call_function_entry PyProof.Rows.kind_sorted PyProof.Rows.plain_sorted PyProof.Rows.entry_sorted (PyProof.Rows.args_sorted1 _) ?_
  unfold Builtin.«sorted»
  refine wpAny_bind (m := checkCount "sorted" 1 1 _) (wpAny_pure ?_)
  refine wpAny_bind (PySem.W.kdu_collect (A := X.A.in1) (kdl_raw hs hx hdt) (I.ok.hd hc) ho (by omega) fun h' tk acc' hk it => ?_)
  have ea : acc'.toList = ks.map fun x => Value.ref x.2.1 := by
    have hl : acc'.toList.length = ks.length := by rw [Array.length_toList, it.1]; exact l1
    apply List.ext_getElem?
    intro j
    rw [List.getElem?_map]
    cases hj : acc'.toList[j]? with
    | none =>
      have h1 := List.getElem?_eq_none_iff.mp hj
      rw [List.getElem?_eq_none (by omega)]
      rfl
    | some v =>
      obtain ⟨en, hen, hv⟩ := it.2 j v (by rw [← Array.getElem?_toList]; exact hj)
      have qe := entry_at he j
      rw [hen] at qe
      cases hb : ks[j]? with
      | none => rw [hb] at qe; cases qe
      | some b =>
        rw [hb] at qe
        have e2 : en = entryOfKey (tupleKind (mixKind X.prog X.w)) b := Option.some.inj qe
        rw [hv, e2]
        rfl
  have hal : acc'.toList.length ≤ sizeLine := by rw [ea, List.length_map]; omega
  have runs : ∀ (h2 : Heap), (∀ b o, s.heap.get? b = some o → h2.get? b = some o) → ∀ x ∈ ks, IsRun h2 (.ref x.2.1) (unKey x.1) := fun h2 hk2 x hx => by
    obtain ⟨j, hj⟩ := List.mem_iff_getElem?.mp hx
    obtain ⟨p, hp, e1, e2, _⟩ := DX.pget pr hj
    have hin : x.1 ∈ rs.map keyOf := by rw [← kk]; exact List.mem_map.mpr ⟨x, hx, rfl⟩
    obtain ⟨r0, hr0, er0⟩ := List.mem_map.mp hin
    rw [← er0, unKey_keyOf]
    rw [e1, ← er0, keyOf_V] at e2
    obtain ⟨_, its, rv, tt⟩ := (show ObjOk X.prog X.w H s.heap x.2.1 (.tup (r0.map V.int)) from I.hok _ _ e2)
    exact ⟨hne r0 hr0, x.2.1, _, rfl, tt.keeps hk2, ints_of_vals rv⟩
  have I1 : Inv X pins σ H { s with heap := h', toks := tk } := I.kept hk
  refine wpAny_bind (wpAny_newList ?_ hal)
  have hoL : (h'.push (seqObj "list" acc'.toList.toArray 0)).get? h'.objs.size = some (seqObj "list" acc'.toList.toArray 0) := Heap.get?_push_size _ rfl
  have k2 : ∀ b o, s.heap.get? b = some o → (h'.push (seqObj "list" acc'.toList.toArray 0)).get? b = some o := fun b o e => Heap.get?_push_of_some _ (hk b o e)
  show wpAny _ _ _ _ _ { s with heap := h'.push (seqObj "list" acc'.toList.toArray 0), toks := tk }
  refine wpAny_bind (wpAny_holding (wpAny_call_entry PyProof.Rows.slot_list_sort ⟨_, hoL, rfl⟩ PyProof.Rows.entry_list_sort
    (SrtO.list_sort_ord (s := { s with heap := h'.push (seqObj "list" acc'.toList.toArray 0), toks := tk }) (ltv := fun v u => HT.lexLt (runOf (h'.push (seqObj "list" acc'.toList.toArray 0)) v) (runOf (h'.push (seqObj "list" acc'.toList.toArray 0)) u)) (swo_lexLt _) hoL hal
      (fun h2 => runs_sortable (s := { s with heap := h'.push (seqObj "list" acc'.toList.toArray 0), toks := tk }) (by omega) (fun v hv => ?_) fun o2 e => ?_) fun out hs2 hb2 => ⟨_, rfl, ?_⟩) (PyProof.Rows.args_list_sort _)))
  · rw [ea] at hv
    obtain ⟨x, hx, rfl⟩ := List.mem_map.mp hv
    exact ⟨_, runs _ k2 x hx⟩
  · have e' : some o2 = some (seqObj "list" acc'.toList.toArray 0) := e.symm.trans hoL
    cases e'
    intro c
    exact absurd (Value.type.inj c) (by decide)
  obtain ⟨zs, pz, ez⟩ := perm_lift (fun x : List L2.Key × Addr × Value => Value.ref x.2.1) hb2.perm ks ea.symm
  have pk : (zs.map (·.1)).Perm (rs.map keyOf) := by rw [← kk]; exact pz.map _
  obtain ⟨p1, p2⟩ := map_unKey pk
  obtain ⟨e', he'⟩ := PyProof.Rows.sortedHeap_at (vs := acc'.toList) (out := out.toArray) hoL
  have hol : out.length ≤ sizeLine := by rw [hb2.perm.length_eq]; exact hal
  have rv : Vals ((zs.map fun x => x.2.1).map V.ref) out := by
    rw [← ez, List.map_map]
    exact vals_maps (fun x : List L2.Key × Addr × Value => V.ref x.2.1) _ zs fun _ _ => rfl
  have rel : ∀ l : List (List L2.Key × Addr × Value), (∀ x ∈ l, x ∈ ks) → Paired (fun r b => H b = some (.tup (r.map V.int))) ((l.map (·.1)).map unKey) (l.map fun x => x.2.1) := by
    intro l
    induction l with
    | nil => intro _; exact .nil
    | cons x l ih =>
      intro hl
      refine .cons ?_ (ih fun y hy => hl y (List.mem_cons_of_mem _ hy))
      obtain ⟨j, hj⟩ := List.mem_iff_getElem?.mp (hl x List.mem_cons_self)
      obtain ⟨p, hp, e1, e2, _⟩ := DX.pget pr hj
      have hin : x.1 ∈ rs.map keyOf := by rw [← kk]; exact List.mem_map.mpr ⟨x, hl x List.mem_cons_self, rfl⟩
      obtain ⟨r0, hr0, er0⟩ := List.mem_map.mp hin
      rw [e1, ← er0, keyOf_V] at e2
      show H x.2.1 = some (.tup ((unKey x.1).map V.int))
      rw [← er0, unKey_keyOf]; exact e2
  refine wpAny_pure ⟨_, rfl, .ref h'.objs.size, upd H h'.objs.size (.lst ((zs.map fun x => x.2.1).map V.ref)), I1.laid (t' := tk) (fun b u e => ?_) (Nat.le_refl _)
    (show ObjOk X.prog X.w _ _ _ (.lst ((zs.map fun x => x.2.1).map V.ref)) from ⟨by rw [rv.length]; exact hol, out, e', rv, he'⟩), rfl, q _ _ _ p1 ?_ (rel zs fun x hx => pz.mem_iff.mp hx) (I1.hok.fresh (Nat.le_refl _))⟩
  · have hb : b < h'.objs.size := Heap.lt_size e
    rw [PyProof.Rows.sortedHeap_old (Nat.ne_of_lt hb) (by rw [size_push']; exact Nat.lt_succ_of_lt hb)]
    exact Heap.get?_push_of_some _ e
  · rw [← ez] at hs2
    rw [List.pairwise_map, List.pairwise_map]
    refine List.Pairwise.imp_of_mem (fun {x y} hx hy h => ?_) (List.pairwise_map.mp hs2)
    have r1 := (runs _ k2 x (pz.mem_iff.mp hx)).is
    have r2 := (runs _ k2 y (pz.mem_iff.mp hy)).is
    have h3 : HT.lexLt (runOf (h'.push (seqObj "list" acc'.toList.toArray 0)) (.ref y.2.1)) (runOf (h'.push (seqObj "list" acc'.toList.toArray 0)) (.ref x.2.1)) = false := h
    rw [r1, r2] at h3
    exact h3
end Ja
end
section
set_option maxHeartbeats 2000000
/-! Re: list(zip(t, u)) of two tuples. -/
namespace Ja
open PySem PySem.W PySem.Spec PyProof.Rows L2
/-- a zip whose last pair (at T) is out -/
abbrev ZipOut (h : Heap) (z TI TO T : Addr) (f : Bool) : Prop := h.get? z = some { cls := .type "zip", data := .fields #[rawInt T, .bool f, .bool false, .ref TI, .ref TO] }
section
variable {P : Program} {w : World} {A : Around} {E : Value → Shared → Prop} {s : Shared}
theorem zip_busy {z TI TO T : Addr} {f : Bool} {oT : Obj} {Q : Bool → Shared → Prop} (hz : ZipOut s.heap z TI TO T f) (hT : s.heap.get? T = some oT)
    (h : ∀ h', ZipOut h' z TI TO T true → Heap.SameBut z s.heap h' → Q false { s with heap := h' }) : wpAny (model P w) A (Builtin.SmallTypes.ownedTupleIsFree (.ref z)) Q E s := by
  unfold Builtin.SmallTypes.ownedTupleIsFree
  refine wpAny_bind (wpAny_field hz rfl (x := rawInt T) rfl ?_)
  show wpAny _ _ (loadIfAlive ((T : Int).toNat) >>= _) _ _ _
  rw [Int.toNat_natCast]
  refine wpAny_bind (kdx_alive hT ?_)
  simp only [Option.isNone_some, Bool.false_eq_true, if_false]
  refine wpAny_bind (wpAny_field hz rfl (x := .bool f) rfl ?_)
  cases f with
  | true =>
    rw [if_neg (show ¬ ((Value.bool true != Value.bool true) = true) from Bool.false_ne_true)]
    exact wpAny_pure (h _ hz (Heap.SameBut.refl _ _))
  | false =>
    rw [if_pos (show (Value.bool false != Value.bool true) = true from rfl)]
    exact wpAny_bind (wpAny_setField_rec hz (by simp) fun h₃ he₃ hs₃ => wpAny_pure (h h₃ he₃ hs₃))
theorem zip_later {z TI TO i1 i2 l1 l2 T : Addr} {f : Bool} {oT : Obj} {k : Nat} {xs ys : Array Value} {x y : Value} {Q : Value → Shared → Prop} (D : ZipApart z TI TO i1 i2 l1 l2)
    (hz : ZipOut s.heap z TI TO T f) (hT : s.heap.get? T = some oT) (hTI : IsPair s.heap TI (.ref i1) (.ref i2))
    (h1 : s.heap.IsTupleIter i1 l1 k) (h2 : s.heap.IsTupleIter i2 l2 k) (hl1 : s.heap.IsTuple l1 xs) (hl2 : s.heap.IsTuple l2 ys) (hx : xs[k]? = some x) (hy : ys[k]? = some y)
    (hQ : ∀ h', ZipOut h' z TI TO T true → h'.IsTupleIter i1 l1 (k + 1) → h'.IsTupleIter i2 l2 (k + 1) → IsPair h' s.heap.objs.size x y → h'.objs.size = s.heap.objs.size + 1 →
      (∀ c o, c ≠ z → c ≠ i1 → c ≠ i2 → s.heap.get? c = some o → h'.get? c = some o) → Q (.ref s.heap.objs.size) { s with heap := h' }) :
    wpAny (model P w) A (Builtin.«zip.__next__» ⟨[.ref z], []⟩) (fun fin s' => ∃ v, fin = .done (.ret v) ∧ Q v s') E s := by
  show wpAny _ _ (field (.ref z) 2 >>= _) _ _ _
  refine wpAny_bind (wpAny_field hz rfl (x := .bool false) rfl ?_)
  show wpAny _ _ (field (.ref z) 3 >>= _) _ _ _
  refine wpAny_bind (wpAny_field hz rfl (x := .ref TI) rfl ?_)
  refine wpAny_bind (wpAny_seqItems hTI rfl ?_)
  show wpAny _ _ (Builtin.SmallTypes.ownedTupleIsFree (.ref z) >>= _) _ _ _
  refine wpAny_bind (zip_busy hz hT fun h₁ hz₁ hs₁ => ?_)
  rw [if_neg Bool.false_ne_true]
  refine wpAny_bind ?_
  simp only [List.forIn_toArray, List.forIn_cons, List.forIn_nil]
  refine wpAny_bind (wpAny_bind (wpAny_holding ?_))
  show wpAny _ _ (Builtin.SmallTypes.nextOf (.ref i1) >>= _) _ _ _
  refine wpAny_bind (RZ.nextOf_tuple_item (h1.extBut hs₁.extBut D.i1z) (hl1.extBut hs₁.extBut D.l1z) hx fun h₂ h1₂ hs₂ => wpAny_pure ?_)
  refine wpAny_pure ?_
  dsimp only
  refine wpAny_bind (wpAny_bind (wpAny_holding ?_))
  show wpAny _ _ (Builtin.SmallTypes.nextOf (.ref i2) >>= _) _ _ _
  refine wpAny_bind (RZ.nextOf_tuple_item ((h2.extBut hs₁.extBut D.i2z).extBut hs₂.extBut D.i12.symm) ((hl2.extBut hs₁.extBut D.l2z).extBut hs₂.extBut D.l2i1) hy fun h₃ h2₃ hs₃ => wpAny_pure ?_)
  refine wpAny_pure (wpAny_pure ?_)
  dsimp only
  refine wpAny_bind (wpAny_newTuple ?_ (by show 2 ≤ sizeLine; decide))
  have hsz : h₃.objs.size = s.heap.objs.size := by rw [hs₃.1, hs₂.1, hs₁.1]
  have up : ∀ c o, c ≠ z → c ≠ i1 → c ≠ i2 → s.heap.get? c = some o → h₃.get? c = some o := fun c o c1 c2 c3 e => hs₃.extBut _ _ c3 (hs₂.extBut _ _ c2 (hs₁.extBut _ _ c1 e))
  have hz₃ : ZipOut h₃ z TI TO T true := hs₃.extBut _ _ D.i2z.symm (hs₂.extBut _ _ D.i1z.symm hz₁)
  have h1₃ : h₃.IsTupleIter i1 l1 (k + 1) := h1₂.extBut hs₃.extBut D.i12
  refine wpAny_pure ⟨_, rfl, ?_⟩
  show Q (.ref h₃.objs.size) { s with heap := h₃.push { cls := .type "tuple", data := .seq #[x, y] } }
  rw [hsz]
  have hp : IsPair (h₃.push { cls := .type "tuple", data := .seq #[x, y] }) s.heap.objs.size x y := by rw [← hsz]; exact Heap.get?_push_size _ rfl
  exact hQ _ (Heap.get?_push_of_some _ hz₃) (h1₃.at fun o e => Heap.get?_push_of_some _ e) (h2₃.at fun o e => Heap.get?_push_of_some _ e) hp (by rw [Heap.size_push, hsz]) fun c o c1 c2 c3 e => Heap.get?_push_of_some _ (up c o c1 c2 c3 e)
theorem zip_later_end {z TI TO i1 i2 l1 l2 T : Addr} {f : Bool} {oT : Obj} {k : Nat} {xs ys : Array Value} {Q : PySem.Fin → Shared → Prop} (hh : A.handled = none) (D : ZipApart z TI TO i1 i2 l1 l2)
    (hz : ZipOut s.heap z TI TO T f) (hT : s.heap.get? T = some oT) (hTI : IsPair s.heap TI (.ref i1) (.ref i2))
    (h1 : s.heap.IsTupleIter i1 l1 k) (h2 : s.heap.IsTupleIter i2 l2 k) (hl1 : s.heap.IsTuple l1 xs) (hl2 : s.heap.IsTuple l2 ys) (hend : xs[k]? = none ∨ ys[k]? = none)
    (hE : ∀ h' e, (∀ c o, c ≠ z → c ≠ i1 → c ≠ i2 → s.heap.get? c = some o → h'.get? c = some o) → (∃ o, h'.get? e = some o ∧ o.cls = .type "StopIteration") → E (.ref e) { s with heap := h' }) :
    wpAny (model P w) A (Builtin.«zip.__next__» ⟨[.ref z], []⟩) Q E s := by
  show wpAny _ _ (field (.ref z) 2 >>= _) _ _ _
  refine wpAny_bind (wpAny_field hz rfl (x := .bool false) rfl ?_)
  show wpAny _ _ (field (.ref z) 3 >>= _) _ _ _
  refine wpAny_bind (wpAny_field hz rfl (x := .ref TI) rfl ?_)
  refine wpAny_bind (wpAny_seqItems hTI rfl ?_)
  show wpAny _ _ (Builtin.SmallTypes.ownedTupleIsFree (.ref z) >>= _) _ _ _
  refine wpAny_bind (zip_busy hz hT fun h₁ hz₁ hs₁ => ?_)
  rw [if_neg Bool.false_ne_true]
  refine wpAny_bind ?_
  simp only [List.forIn_toArray, List.forIn_cons, List.forIn_nil]
  refine wpAny_bind (wpAny_bind (wpAny_holding ?_))
  show wpAny _ _ (Builtin.SmallTypes.nextOf (.ref i1) >>= _) _ _ _
  cases hx : xs[k]? with
  | none => exact wpAny_bind (RZ.nextOf_tuple_end hh (h1.extBut hs₁.extBut D.i1z) (hl1.extBut hs₁.extBut D.l1z) hx fun h₂ e hs₂ he => hE h₂ e (fun c o c1 c2 _ x => hs₂ _ _ c2 (hs₁.extBut _ _ c1 x)) he)
  | some x =>
    have hy : ys[k]? = none := hend.resolve_left (by rw [hx]; simp)
    refine wpAny_bind (RZ.nextOf_tuple_item (h1.extBut hs₁.extBut D.i1z) (hl1.extBut hs₁.extBut D.l1z) hx fun h₂ h1₂ hs₂ => wpAny_pure ?_)
    refine wpAny_pure ?_
    dsimp only
    refine wpAny_bind (wpAny_bind (wpAny_holding ?_))
    show wpAny _ _ (Builtin.SmallTypes.nextOf (.ref i2) >>= _) _ _ _
    exact wpAny_bind (RZ.nextOf_tuple_end hh ((h2.extBut hs₁.extBut D.i2z).extBut hs₂.extBut D.i12.symm) ((hl2.extBut hs₁.extBut D.l2z).extBut hs₂.extBut D.l2i1) hy fun h₃ e hs₃ he => hE h₃ e (fun c o c1 c2 c3 x => hs₃ _ _ c3 (hs₂.extBut _ _ c2 (hs₁.extBut _ _ c1 x))) he)
/-- where a zip of two tuples stands, k pairs out -/
def ZSt (h : Heap) (z TI TO i1 i2 l1 l2 : Addr) (k : Nat) : Prop :=
  IsPair h TI (.ref i1) (.ref i2) ∧ (∃ a b, IsPair h TO a b) ∧ h.IsTupleIter i1 l1 k ∧ h.IsTupleIter i2 l2 k ∧ (IsZip h z TI TO .none ∨ ∃ T f o, ZipOut h z TI TO T f ∧ h.get? T = some o ∧ T ≠ z ∧ T ≠ TO ∧ T ≠ i1 ∧ T ≠ i2)
theorem zst_next {z TI TO i1 i2 l1 l2 : Addr} {k : Nat} {xs ys : Array Value} {x y : Value} {Q : Option Value → Shared → Prop} (D : ZipApart z TI TO i1 i2 l1 l2) (st : ZSt s.heap z TI TO i1 i2 l1 l2 k)
    (hl1 : s.heap.IsTuple l1 xs) (hl2 : s.heap.IsTuple l2 ys) (hx : xs[k]? = some x) (hy : ys[k]? = some y)
    (hQ : ∀ h', ZSt h' z TI TO i1 i2 l1 l2 (k + 1) → IsPair h' s.heap.objs.size x y → h'.objs.size = s.heap.objs.size + 1 →
      (∀ c o, c ≠ z → c ≠ TO → c ≠ i1 → c ≠ i2 → s.heap.get? c = some o → h'.get? c = some o) → Q (some (.ref s.heap.objs.size)) { s with heap := h' }) :
    wpAny (model P w) A (pyNext (.ref z)) Q E s := by
  obtain ⟨hTI, ⟨a, b, hTO⟩, h1, h2, hz⟩ := st
  have z1 : i1 < s.heap.objs.size := by obtain ⟨_, e, _⟩ := id h1; exact Heap.lt_size e
  have z2 : i2 < s.heap.objs.size := by obtain ⟨_, e, _⟩ := id h2; exact Heap.lt_size e
  have z3 : TO < s.heap.objs.size := Heap.lt_size hTO
  rcases hz with hz | ⟨T, f, oT, hz, hT, t1, t2, t3, t4⟩
  · have z4 : z < s.heap.objs.size := Heap.lt_size hz
    refine RZ.pyNext_zipT_item D hz hTI hTO h1 h2 hl1 hl2 hx hy fun h' a1 a2 a3 a4 a5 a6 a7 => ?_
    refine hQ h' ⟨a7 _ _ D.TIz D.TITO D.TIi1 D.TIi2 hTI, ⟨_, _, a2⟩, a3, a4, .inr ⟨s.heap.objs.size, false, _, a1, a5, Nat.ne_of_gt z4, Nat.ne_of_gt z3, Nat.ne_of_gt z1, Nat.ne_of_gt z2⟩⟩ a5 a6 a7
  · have hTy : s.TypeIs (.ref z) "zip" := ⟨_, hz, rfl⟩
    unfold pyNext
    refine wpAny_bind (wpAny_attempt (wpAny_callSpecial?_slot (name := Str.ofString "__next__") hTy F.slot_zip_next (wpAny_call_entry F.slot_zip_next hTy F.entry_zip_next ?_ (F.args_zip_next_1 _))))
    refine zip_later D hz hT hTI h1 h2 hl1 hl2 hx hy fun h' a1 a3 a4 a5 a6 a7 => wpAny_pure ?_
    exact hQ h' ⟨a7 _ _ D.TIz D.TIi1 D.TIi2 hTI, ⟨_, _, a7 _ _ D.TOz D.TOi1 D.TOi2 hTO⟩, a3, a4, .inr ⟨T, true, oT, a1, a7 _ _ t1 t3 t4 hT, t1, t2, t3, t4⟩⟩ a5 a6 fun c o c1 _ c3 c4 e => a7 c o c1 c3 c4 e
theorem zst_end {z TI TO i1 i2 l1 l2 : Addr} {k : Nat} {xs ys : Array Value} {Q : Option Value → Shared → Prop} (hh : A.handled = none) (D : ZipApart z TI TO i1 i2 l1 l2) (st : ZSt s.heap z TI TO i1 i2 l1 l2 k)
    (hl1 : s.heap.IsTuple l1 xs) (hl2 : s.heap.IsTuple l2 ys) (hend : xs[k]? = none ∨ ys[k]? = none)
    (hQ : ∀ h', (∀ c o, c ≠ z → c ≠ TO → c ≠ i1 → c ≠ i2 → s.heap.get? c = some o → h'.get? c = some o) → Q none { s with heap := h' }) : wpAny (model P w) A (pyNext (.ref z)) Q E s := by
  obtain ⟨hTI, ⟨a, b, hTO⟩, h1, h2, hz⟩ := st
  rcases hz with hz | ⟨T, f, oT, hz, hT, t1, t2, t3, t4⟩
  · exact RZ.pyNext_zipT_end hh D hz hTI hTO h1 h2 hl1 hl2 hend hQ
  · have hTy : s.TypeIs (.ref z) "zip" := ⟨_, hz, rfl⟩
    unfold pyNext
    refine wpAny_bind (wpAny_attempt (wpAny_callSpecial?_slot (name := Str.ofString "__next__") hTy F.slot_zip_next (wpAny_call_entry F.slot_zip_next hTy F.entry_zip_next
      (zip_later_end hh D hz hT hTI h1 h2 hl1 hl2 hend fun h' e hk he => ?_) (F.args_zip_next_1 _))))
    obtain ⟨o, ho, hc⟩ := he
    refine wpAny_bind (wpAny_isInstance (T := "StopIteration") (b := true) ⟨o, ho, hc⟩ isSubtype_stop ?_)
    exact wpAny_pure (hQ _ fun c o c1 _ c3 c4 e => hk c o c1 c3 c4 e)
end
end Ja
end
section
set_option maxHeartbeats 2000000
/-! Rf: list(zip(t, u)): the loop, the rule. -/
namespace Ja
open PySem PySem.W PySem.Spec PyProof.Rows L2
theorem zip_no_len : typeLookup (.type "zip") "__len__" = pure none := am_miss_of_fast (by decide +kernel)
theorem zip_no_hint : typeLookup (.type "zip") "__length_hint__" = pure none := am_miss_of_fast (by decide +kernel)
/-- the pairs that were handed out -/
structure Zipped (lo : Nat) (xs ys : Array Value) (h : Heap) (as : List Addr) : Prop where
  rise : as.Pairwise (· < ·)
  above : ∀ a ∈ as, lo ≤ a ∧ a < h.objs.size
  pairs : ∀ (j : Nat) (a : Addr), as[j]? = some a → ∃ x y, xs[j]? = some x ∧ ys[j]? = some y ∧ IsPair h a x y
section
variable {P : Program} {w : World} {A : Around} {E : Value → Shared → Prop} {s : Shared}
theorem zip_drain {S z TI TO i1 i2 l1 l2 : Addr} {xs ys : Array Value} {res : Value} {R : Result → Shared → Prop} {h₀ : Heap} {n : Nat} (hh : A.handled = none) (D : ZipApart z TI TO i1 i2 l1 l2) (hS : ∀ b ∈ [z, TI, TO, i1, i2, l1, l2], S ≠ b) (hlo : ∀ b ∈ [S, z, TO, i1, i2], b < h₀.objs.size)
    (hl1 : h₀.IsTuple l1 xs) (hl2 : h₀.IsTuple l2 ys) (hn : n = min xs.size ys.size) (hz : n ≤ sizeLine)
    (hR : ∀ h' acc c as, (∀ b o, b ∉ [S, z, TO, i1, i2] → h₀.get? b = some o → h'.get? b = some o) → h'.get? S = some (lstObj acc c) → acc.toList = as.map Value.ref → as.length = n → Zipped h₀.objs.size xs ys h' as → R (.ok (.ret res)) { s with heap := h' }) :
    ∀ (m k : Nat) (h : Heap) (acc : Array Value) (c : Nat) (as : List Addr), k + m = n → ZSt h z TI TO i1 i2 l1 l2 k → (∀ b o, b ∉ [S, z, TO, i1, i2] → h₀.get? b = some o → h.get? b = some o) → h.get? S = some (lstObj acc c) → acc.toList = as.map Value.ref → as.length = k → Zipped h₀.objs.size xs ys h as → h₀.objs.size ≤ h.objs.size →
      codeAny (model P w) A (.builtin "list.extend.loop" ⟨[.ref S, .ref z, res], []⟩) R { s with heap := h } := by
  have ne : ∀ b ∈ [z, TI, TO, i1, i2, l1, l2], S ≠ b := hS
  have sz : S ≠ z := hS z (by simp)
  have sTO : S ≠ TO := hS TO (by simp)
  have s1 : S ≠ i1 := hS i1 (by simp)
  have s2 : S ≠ i2 := hS i2 (by simp)
  have t1 : ∀ h : Heap, (∀ b o, b ∉ [S, z, TO, i1, i2] → h₀.get? b = some o → h.get? b = some o) → h.IsTuple l1 xs ∧ h.IsTuple l2 ys := fun h hk => by
    obtain ⟨o1, e1, r1⟩ := hl1
    obtain ⟨o2, e2, r2⟩ := hl2
    refine ⟨⟨o1, hk _ _ (fun q => ?_) e1, r1⟩, ⟨o2, hk _ _ (fun q => ?_) e2, r2⟩⟩
    · simp only [List.mem_cons, List.not_mem_nil, or_false] at q
      rcases q with q | q | q | q | q
      · exact hS l1 (by simp) q.symm
      · exact D.l1z q
      · exact D.l1TO q
      · exact D.l1i1 q
      · exact D.l1i2 q
    · simp only [List.mem_cons, List.not_mem_nil, or_false] at q
      rcases q with q | q | q | q | q
      · exact hS l2 (by simp) q.symm
      · exact D.l2z q
      · exact D.l2TO q
      · exact D.l2i1 q
      · exact D.l2i2 q
  intro m
  induction m with
  | zero =>
    intro k h acc c as hk st kp hob hacc hlen hZ hsz
    obtain ⟨u1, u2⟩ := t1 h kp
    refine codeAny_builtin F.entry_extend_loop ?_
    rw [Around.under_plainId F.plain_extend_loop _]
    show wpAny _ A.in1 (pyNext (.ref z) >>= _) _ _ { s with heap := h }
    refine wpAny_bind (zst_end (A := A.in1) (s := { s with heap := h }) hh D st u1 u2 ?_ fun h' hk' => wpAny_pure ?_)
    · rcases Nat.le_total xs.size ys.size with q | q
      · exact .inl (Array.getElem?_eq_none (by omega))
      · exact .inr (Array.getElem?_eq_none (by omega))
    · have big : ∀ a ∈ as, a ≠ z ∧ a ≠ TO ∧ a ≠ i1 ∧ a ≠ i2 := fun a ha => by
        have q := (hZ.above a ha).1
        exact ⟨Nat.ne_of_gt (Nat.lt_of_lt_of_le (hlo z (by simp)) q), Nat.ne_of_gt (Nat.lt_of_lt_of_le (hlo TO (by simp)) q), Nat.ne_of_gt (Nat.lt_of_lt_of_le (hlo i1 (by simp)) q), Nat.ne_of_gt (Nat.lt_of_lt_of_le (hlo i2 (by simp)) q)⟩
      refine hR h' acc c as (fun b o hb e => hk' b o (fun q => hb (by simp [q])) (fun q => hb (by simp [q])) (fun q => hb (by simp [q])) (fun q => hb (by simp [q])) (kp b o hb e)) (hk' _ _ sz sTO s1 s2 hob) hacc (by omega) ⟨hZ.rise, fun a ha => ?_, fun j a hj => ?_⟩
      · obtain ⟨j, hj⟩ := List.mem_iff_getElem?.mp ha
        obtain ⟨x, y, _, _, e3⟩ := hZ.pairs j a hj
        obtain ⟨b1, b2, b3, b4⟩ := big a ha
        exact ⟨(hZ.above a ha).1, Heap.lt_size (hk' a _ b1 b2 b3 b4 e3)⟩
      · obtain ⟨x, y, e1, e2, e3⟩ := hZ.pairs j a hj
        obtain ⟨b1, b2, b3, b4⟩ := big a (List.mem_of_getElem? hj)
        exact ⟨x, y, e1, e2, hk' a _ b1 b2 b3 b4 e3⟩
  | succ m ih =>
    intro k h acc c as hk st kp hob hacc hlen hZ hsz
    obtain ⟨u1, u2⟩ := t1 h kp
    have kx : k < xs.size := by omega
    have ky : k < ys.size := by omega
    refine codeAny_builtin F.entry_extend_loop ?_
    rw [Around.under_plainId F.plain_extend_loop _]
    show wpAny _ A.in1 (pyNext (.ref z) >>= _) _ _ { s with heap := h }
    refine wpAny_bind (zst_next (A := A.in1) (s := { s with heap := h }) D st u1 u2 (Array.getElem?_eq_getElem kx) (Array.getElem?_eq_getElem ky) fun h' st' hT hsz' hk' => ?_)
    have hacz : acc.size = k := by have e := congrArg List.length hacc; simp at e; omega
    have hS' : h'.get? S = some (lstObj acc c) := hk' _ _ sz sTO s1 s2 hob
    show wpAny _ A.in1 (updateSeq S (·.push (.ref h.objs.size)) >>= _) _ _ _
    refine wpAny_bind (wpAny_updateSeq (s := { s with heap := h' }) hS' rfl (wpAny_pure ⟨plainId_quiet F.plain_extend_loop _, ?_⟩) (by omega) (by show (acc.push _).size ≤ sizeLine + 1; rw [Array.size_push]; omega))
    have up : ∀ b o, b ≠ S → h'.get? b = some o → (h'.update S (Obj.mapSeq (·.push (.ref h.objs.size)))).get? b = some o := fun b o hb e => (Heap.get?_update_other _ _ (Ne.symm hb)).trans e
    obtain ⟨c2, eS2⟩ : ∃ c2, (h'.update S (Obj.mapSeq (·.push (.ref h.objs.size)))).get? S = some (lstObj (acc.push (.ref h.objs.size)) c2) := ⟨_, Heap.get?_update_self _ hS' rfl⟩
    have Slt : S < h₀.objs.size := hlo S (by simp)
    have big : ∀ a, h₀.objs.size ≤ a → a ≠ S ∧ a ≠ z ∧ a ≠ TO ∧ a ≠ i1 ∧ a ≠ i2 := fun a q =>
      ⟨Nat.ne_of_gt (Nat.lt_of_lt_of_le Slt q), Nat.ne_of_gt (Nat.lt_of_lt_of_le (hlo z (by simp)) q), Nat.ne_of_gt (Nat.lt_of_lt_of_le (hlo TO (by simp)) q), Nat.ne_of_gt (Nat.lt_of_lt_of_le (hlo i1 (by simp)) q), Nat.ne_of_gt (Nat.lt_of_lt_of_le (hlo i2 (by simp)) q)⟩
    have usz : (h'.update S (Obj.mapSeq (·.push (.ref h.objs.size)))).objs.size = h.objs.size + 1 := by rw [Heap.size_update]; exact hsz'
    refine ih (k + 1) _ (acc.push (.ref h.objs.size)) c2 (as ++ [h.objs.size]) (by omega) ?_ (fun b o hb e => up b o (fun q => hb (by simp [q])) (hk' b o (fun q => hb (by simp [q])) (fun q => hb (by simp [q])) (fun q => hb (by simp [q])) (fun q => hb (by simp [q])) (kp b o hb e))) eS2 (by rw [Array.toList_push, hacc]; simp) (by simp [hlen]) ⟨?_, fun a ha => ?_, fun j a hj => ?_⟩ (by rw [usz]; omega)
    · obtain ⟨z1, ⟨a, b, z2⟩, ⟨o3, z3, z3'⟩, ⟨o4, z4, z4'⟩, z5⟩ := st'
      refine ⟨up _ _ (Ne.symm (hS TI (by simp))) z1, ⟨a, b, up _ _ (Ne.symm sTO) z2⟩, ⟨o3, up _ _ (Ne.symm s1) z3, z3'⟩, ⟨o4, up _ _ (Ne.symm s2) z4, z4'⟩, ?_⟩
      rcases z5 with z5 | ⟨T, f, o, z5, z6, r⟩
      · exact .inl (up _ _ (Ne.symm sz) z5)
      · refine .inr ⟨T, f, if T = S then lstObj (acc.push (.ref h.objs.size)) c2 else o, up _ _ (Ne.symm sz) z5, ?_, r⟩
        by_cases q : T = S
        · rw [if_pos q, q]; exact eS2
        · rw [if_neg q]; exact up _ _ q z6
    · rw [List.pairwise_append]
      refine ⟨hZ.rise, List.pairwise_singleton _ _, fun a ha b hb => ?_⟩
      rw [List.mem_singleton.mp hb]; exact (hZ.above a ha).2
    · rcases List.mem_append.mp ha with ha | ha
      · exact ⟨(hZ.above a ha).1, by rw [usz]; exact Nat.lt_succ_of_lt (hZ.above a ha).2⟩
      · rw [List.mem_singleton.mp ha]; exact ⟨hsz, by rw [usz]; exact Nat.lt_succ_self _⟩
    · by_cases q : j < as.length
      · rw [List.getElem?_append_left q] at hj
        obtain ⟨x, y, e1, e2, e3⟩ := hZ.pairs j a hj
        obtain ⟨b0, b1, b2, b3, b4⟩ := big a (hZ.above a (List.mem_of_getElem? hj)).1
        exact ⟨x, y, e1, e2, up _ _ b0 (hk' a _ b1 b2 b3 b4 e3)⟩
      · have ej : j = k := by
          have := (List.getElem?_eq_some_iff.mp hj).1
          simp at this; omega
        subst ej
        rw [List.getElem?_append_right (by omega), hlen, Nat.sub_self] at hj
        cases hj
        exact ⟨_, _, Array.getElem?_eq_getElem kx, Array.getElem?_eq_getElem ky, up _ _ (big _ hsz).1 hT⟩
end
end Ja
end
section
set_option maxHeartbeats 2000000
/-! Rg: list(zip(t, u)) as an expression. -/
namespace Ja
open PySem PySem.W PySem.Spec PyProof.Rows L2
theorem call_list_zip {P : Program} {w : World} {A : Around} {E : Value → Shared → Prop} {s : Shared} {z TI TO i1 i2 l1 l2 : Addr} {xs ys : Array Value} {n : Nat} {Q : Value → Shared → Prop} (hh : A.handled = none) (D : ZipApart z TI TO i1 i2 l1 l2) (hzz : IsZip s.heap z TI TO .none) (st : ZSt s.heap z TI TO i1 i2 l1 l2 0)
    (hl1 : s.heap.IsTuple l1 xs) (hl2 : s.heap.IsTuple l2 ys) (hn : n = min xs.size ys.size) (hz : n ≤ sizeLine)
    (hQ : ∀ h' acc c as, (∀ b o, b ∉ [z, TO, i1, i2] → s.heap.get? b = some o → h'.get? b = some o) → h'.get? s.heap.objs.size = some (lstObj acc c) → acc.toList = as.map Value.ref → as.length = n → Zipped (s.heap.objs.size + 1) xs ys h' as → Q (.ref s.heap.objs.size) { s with heap := h' }) :
    wpAny (model P w) A (call (.type "list") [.ref z]) Q E s := by
  obtain ⟨sTI, ⟨ta, tb, sTO⟩, si1, si2, _⟩ := id st
  have lt : ∀ b ∈ [z, TI, TO, i1, i2, l1, l2], b < s.heap.objs.size := fun b hb => by
    simp only [List.mem_cons, List.not_mem_nil, or_false] at hb
    rcases hb with q | q | q | q | q | q | q
    · rw [q]; exact Heap.lt_size hzz
    · rw [q]; exact Heap.lt_size sTI
    · rw [q]; exact Heap.lt_size sTO
    · rw [q]; obtain ⟨_, e, _⟩ := si1; exact Heap.lt_size e
    · rw [q]; obtain ⟨_, e, _⟩ := si2; exact Heap.lt_size e
    · rw [q]; obtain ⟨_, e, _⟩ := hl1; exact Heap.lt_size e
    · rw [q]; obtain ⟨_, e, _⟩ := hl2; exact Heap.lt_size e
  refine callType_codes (Q₁ := fun obj s₁ => obj = .ref s.heap.objs.size ∧ s₁ = { s with heap := s.heap.push { cls := .type "list", data := .seq #[] } }) F.called_list (F.typeCall_list_1 _) F.entry_list_init (code_list_new _ ⟨rfl, rfl⟩) fun obj s₁ h₁ => ?_
  obtain ⟨rfl, rfl⟩ := h₁
  have hS : (s.heap.push { cls := .type "list", data := .seq #[] }).get? s.heap.objs.size = some { cls := .type "list", data := .seq #[] } := Heap.get?_push_size _ rfl
  refine ⟨⟨_, hS, rfl⟩, F.args_list_init_2 _ _, ?_⟩
  show wpAny _ A.in1.in1 (do let old ← Builtin.List.listItems (.ref s.heap.objs.size); Builtin.List.listUpdate (.ref s.heap.objs.size) (fun _ => #[]); letGo old.toList.reverse; Builtin.List.listExtendWith (.ref s.heap.objs.size) (.ref z) .none) _ _ _
  unfold Builtin.List.listItems
  refine wpAny_bind (wpAny_bind (wpAny_seqItems hS rfl (wpAny_pure ?_)))
  show wpAny _ A.in1.in1 (updateSeq s.heap.objs.size (fun _ => #[]) >>= fun _ => letGo (#[] : Array Value).toList.reverse >>= fun _ => Builtin.List.listExtendWith (.ref s.heap.objs.size) (.ref z) .none) _ _ _
  refine wpAny_bind (wpAny_updateSeq hS rfl ?_)
  have hS2 := Heap.get?_update_self (Obj.mapSeq (fun _ => (#[] : Array Value))) hS rfl
  refine wpAny_bind (wpAny_letGo ?_)
  have up : ∀ (h : Heap) (f : Obj → Obj), (∀ b o, s.heap.get? b = some o → h.get? b = some o) → ∀ b o, s.heap.get? b = some o → (h.update s.heap.objs.size f).get? b = some o := fun h f q b o e =>
    (Heap.get?_update_other _ _ (Ne.symm (Nat.ne_of_lt (Heap.lt_size e)))).trans (q b o e)
  have k1 : ∀ b o, s.heap.get? b = some o → (s.heap.push { cls := .type "list", data := .seq #[] }).get? b = some o := fun b o e => Heap.get?_push_of_some _ e
  have k2 := up _ (Obj.mapSeq (fun _ => (#[] : Array Value))) k1
  have zty : ∀ {h : Heap}, (∀ b o, s.heap.get? b = some o → h.get? b = some o) → ({ s with heap := h } : Shared).TypeIs (.ref z) "zip" := fun {h} q => ⟨_, q _ _ hzz, rfl⟩
  unfold Builtin.List.listExtendWith
  refine wpAny_bind (wpAny_typeOf (zty k2) ?_)
  have h1 : Builtin.List.listSameRef (.ref s.heap.objs.size) (.ref z) = false := by simp [Builtin.List.listSameRef, Nat.ne_of_gt (lt z (by simp))]
  have h2 : (Value.type "zip" == Value.type "list") = false := by decide
  have h3 : (Value.type "zip" == Value.type "tuple") = false := by decide
  simp only [h1, h2, h3, Bool.or_false, Bool.false_eq_true, if_false]
  refine wpAny_bind (wpAny_pyIter_zip (k2 _ _ hzz) ?_)
  refine wpAny_bind (wpAny_holding ?_)
  unfold Builtin.List.listLengthHint
  refine wpAny_bind (wpAny_specialOf (zty k2) zip_no_len ?_)
  show wpAny _ A.in1.in1 (specialOf (Value.ref z) (Str.ofString "__length_hint__") >>= _) _ _ _
  refine wpAny_bind (wpAny_specialOf (zty k2) zip_no_hint ?_)
  refine wpAny_pure ?_
  show wpAny _ A.in1.in1 (rule "list.extend.makes-room" >>= fun _ => Builtin.List.listTouch (.ref s.heap.objs.size) >>= fun _ =>
    again (.builtin "list.extend.loop" ⟨[.ref s.heap.objs.size, .ref z, .none], []⟩)) _ _ _
  refine wpAny_bind (wpAny_rule ?_)
  refine wpAny_bind ?_
  show wpAny _ A.in1.in1 (updateSeq s.heap.objs.size (·.push .none) >>= fun _ => updateSeq s.heap.objs.size (·.pop)) _ _ _
  refine wpAny_bind (wpAny_updateSeq hS2 rfl ?_)
  have hS3 := Heap.get?_update_self (Obj.mapSeq (·.push Value.none)) hS2 rfl
  refine wpAny_updateSeq (hz := by seq_fits) hS3 rfl ?_
  have hS4 := Heap.get?_update_self (Obj.mapSeq (·.pop)) hS3 rfl
  have k4 := up _ (Obj.mapSeq (·.pop)) (up _ (Obj.mapSeq (·.push Value.none)) k2)
  refine wpAny_pure ⟨plainId_quiet F.plain_extend_loop _, ?_⟩
  have hsz : ((((s.heap.push { cls := .type "list", data := .seq #[] }).update s.heap.objs.size (Obj.mapSeq (fun _ => (#[] : Array Value)))).update s.heap.objs.size (Obj.mapSeq (·.push Value.none))).update s.heap.objs.size (Obj.mapSeq (·.pop))).objs.size = s.heap.objs.size + 1 := by
    rw [Heap.size_update, Heap.size_update, Heap.size_update, Heap.size_push]
  generalize (((s.heap.push { cls := .type "list", data := .seq #[] }).update s.heap.objs.size (Obj.mapSeq (fun _ => (#[] : Array Value)))).update s.heap.objs.size (Obj.mapSeq (·.push Value.none))).update s.heap.objs.size (Obj.mapSeq (·.pop)) = h4 at hS4 k4 hsz ⊢
  obtain ⟨c4, eS4⟩ : ∃ c, h4.get? s.heap.objs.size = some (lstObj #[] c) := ⟨_, hS4⟩
  have st4 : ZSt h4 z TI TO i1 i2 l1 l2 0 := by
    obtain ⟨z1, ⟨a, b, z2⟩, ⟨o3, z3, z3'⟩, ⟨o4, z4, z4'⟩, _⟩ := st
    exact ⟨k4 _ _ z1, ⟨a, b, k4 _ _ z2⟩, ⟨o3, k4 _ _ z3, z3'⟩, ⟨o4, k4 _ _ z4, z4'⟩, .inl (k4 _ _ hzz)⟩
  refine zip_drain (P := P) (w := w) (A := A.in1) (s := { s with heap := h4 }) (h₀ := h4) (xs := xs) (ys := ys) (n := n) hh D (fun b hb => Nat.ne_of_gt (lt b hb)) (fun b hb => ?_) (hl1.imp fun o r => ⟨k4 _ _ r.1, r.2⟩) (hl2.imp fun o r => ⟨k4 _ _ r.1, r.2⟩) hn hz (fun h' acc c as kp hob hacc hlen hZ => ?_)
    n 0 h4 #[] c4 [] (Nat.zero_add _) st4 (fun _ _ _ e => e) eS4 rfl rfl ⟨.nil, fun a ha => by simp at ha, fun j a hj => by simp at hj⟩ (Nat.le_refl _)
  · rw [hsz]
    rcases List.mem_cons.mp hb with q | q
    · rw [q]; exact Nat.lt_succ_self _
    · refine Nat.lt_succ_of_lt (lt b ?_)
      simp only [List.mem_cons, List.not_mem_nil, or_false] at q ⊢
      rcases q with q | q | q | q
      · exact .inl q
      · exact .inr (.inr (.inl q))
      · exact .inr (.inr (.inr (.inl q)))
      · exact .inr (.inr (.inr (.inr (.inl q))))
  · rw [hsz] at hZ
    exact ⟨rfl, hQ h' acc c as (fun b o hb e => kp b o (fun q => by
      rcases List.mem_cons.mp q with q | q
      · exact absurd (Heap.lt_size e) (by rw [q]; exact Nat.lt_irrefl _)
      · exact hb q) (k4 b o e)) hob hacc hlen hZ⟩
/-- the pairs of two rows, each a tuple of its own -/
def PairsL (H : Hp) (us ws : List V) (as : List Addr) : Prop := as.length = min us.length ws.length ∧ ∀ (j : Nat) (t : Addr), as[j]? = some t → ∃ x y, us[j]? = some x ∧ ws[j]? = some y ∧ H t = some (.tup [x, y])
def tListZip (K : PySem.W.Frag) (ta : TA) : TE := fun σ H Q => ta σ H fun vs H1 => ∃ a b us ws, vs = [.ref a, .ref b] ∧ SqT K H1 a us ∧ SqT K H1 b ws ∧ ∀ H' S as, Same H1 H' → H1 S = none → H' S = some (.lst (as.map V.ref)) → PairsL H' us ws as → Q (.ref S) H'
theorem pe_listZip {X : Cx} {e e2 : Expr} {ta : TA} {p p2 pos pos2 : Pos} (hc : X.calm = true) (ha : PA X [e, e2] ta) (hg : Gl X "list") (hm : X.mg "list" = none) (hgz : Gl X "zip") (hmz : X.mg "zip" = none)
    (hs : starEach [.Call (.Name "zip" p2) [e, e2] [] pos2] X.env = (false, eval (.Call (.Name "zip" p2) [e, e2] [] pos2) X.env) :: starEach [] X.env := by rfl)
    (hs2 : starEach [e, e2] X.env = (false, eval e X.env) :: starEach [e2] X.env := by rfl) (hpl : (backTo pos2 (starEach [e2] X.env)).any (·.1) = false := by rfl) :
    PE X (.Call (.Name "list" p) [.Call (.Name "zip" p2) [e, e2] [] pos2] [] pos) (tListZip X.K ta) := by
  refine ⟨fun pins s σ H Q I h => ?_⟩
  refine wpAny_Call_Name_kw (ld_blt I hg hm boot_list ?_)
  refine PyProof.Rows.callWith_type1 ?_ hs rfl
  rw [hs]
  show wpAny _ _ (spliced ((false, eval (.Call (.Name "zip" p2) [e, e2] [] pos2) X.env) :: backTo pos (starEach [] X.env))) _ _ s
  refine Calls.spliced_cons ?_
  refine Call_ (ld_blt I hgz hmz PyProof.Rows.boot_zip (PyProof.Rows.callWith_type1 (thn (ha.run pos2 pins s σ H _ I h) fun us s1 ⟨vs, H1, I1, r1, q1⟩ => ?_) hs2 hpl))
  obtain ⟨a, b, xs, ys, ex, hqx, hqy, q⟩ := q1
  subst ex
  cases r1 with
  | cons r rr =>
    cases rr with
    | cons r' rr =>
      cases rr
      cases r
      cases r'
      obtain ⟨its, rv, p1, lz1⟩ := I1.tuple hqx
      obtain ⟨its2, rv2, p2, lz2⟩ := I1.tuple hqy
      obtain ⟨o1, ho1, _⟩ := id p1
      obtain ⟨o2, ho2, _⟩ := id p2
      have D := PySem.W.ktu_apart s1.heap.objs.size a b (Heap.lt_size ho1) (Heap.lt_size ho2)
      refine RZ.call_zipT (show s1.heap.IsTuple a its.toArray from p1) (show s1.heap.IsTuple b its2.toArray from p2) fun h' hz hTI hTO h1 h2 hsz hk => ?_
      refine Calls.spliced_nil ?_
      have t1 : h'.IsTuple a its.toArray := p1.imp fun o r => ⟨hk _ _ r.1, r.2⟩
      have t2 : h'.IsTuple b its2.toArray := p2.imp fun o r => ⟨hk _ _ r.1, r.2⟩
      have e1 : its.length = xs.length := rv.length.symm
      have e2 : its2.length = ys.length := rv2.length.symm
      refine call_list_zip (s := { s1 with heap := h' }) (n := min xs.length ys.length) (I1.ok.hd hc) D hz ⟨hTI, ⟨_, _, hTO⟩, h1, h2, .inl hz⟩ t1 t2 (by simp [e1, e2]) ?_ fun h2' acc c as kp hob hacc hlen hZ => ?_
      · omega
      have small : ∀ b o, s1.heap.get? b = some o → b ∉ [s1.heap.objs.size + 4, s1.heap.objs.size + 3, s1.heap.objs.size, s1.heap.objs.size + 1] := fun b o e q => by
        have l := Heap.lt_size e
        simp only [List.mem_cons, List.not_mem_nil, or_false] at q
        rcases q with q | q | q | q
        · exact absurd (q ▸ l) (Nat.not_lt.mpr (Nat.le_add_right _ _))
        · exact absurd (q ▸ l) (Nat.not_lt.mpr (Nat.le_add_right _ _))
        · exact absurd (q ▸ l) (Nat.lt_irrefl _)
        · exact absurd (q ▸ l) (Nat.not_lt.mpr (Nat.le_add_right _ _))
      have k3 : ∀ b o, s1.heap.get? b = some o → h2'.get? b = some o := fun b o e => kp b o (small b o e) (hk b o e)
      have I3 : Inv X pins σ H1 { s1 with heap := h2' } := I1.kept (t' := s1.toks) k3
      have Slo : s1.heap.objs.size ≤ h'.objs.size := by rw [hsz]; exact Nat.le_add_right _ _
      have hn0 : H1 h'.objs.size = none := I1.hok.fresh Slo
      have rvL : Vals (as.map V.ref) acc.toList := by
        rw [hacc]
        exact vals_maps V.ref Value.ref as fun _ _ => rfl
      have I4 : Inv X pins σ (upd H1 h'.objs.size (.lst (as.map V.ref))) { s1 with heap := h2' } :=
        I3.take (h' := h2') (t' := s1.toks) (fun b ob _ e => e) (I1.fpOk Slo hn0) ⟨by rw [List.length_map]; omega, acc.toList, c, rvL, by rw [Array.toArray_toList]; exact hob⟩
      have nd : as.Nodup := List.Pairwise.imp (fun h => Nat.ne_of_lt h) hZ.rise
      obtain ⟨H2, I5, g, qt⟩ := DX.takeT (P := fun t vs => ∃ (j : Nat) (x y : V), as[j]? = some t ∧ xs[j]? = some x ∧ ys[j]? = some y ∧ vs = [x, y]) I1 as _ I4 nd fun t ht => by
        obtain ⟨j, hj⟩ := List.mem_iff_getElem?.mp ht
        obtain ⟨u, v, hu, hv, hp⟩ := hZ.pairs j t hj
        have jl := (List.getElem?_eq_some_iff.mp hj).1
        obtain ⟨u', hu', ru⟩ := rv.get (List.getElem?_eq_getElem (show j < xs.length by omega))
        obtain ⟨v', hv', rv'⟩ := rv2.get (List.getElem?_eq_getElem (show j < ys.length by omega))
        have eu : u' = u := by
          have z : its[j]? = some u := by simpa using hu
          rw [hu'] at z; exact Option.some.inj z
        have ev : v' = v := by
          have z : its2[j]? = some v := by simpa using hv
          rw [hv'] at z; exact Option.some.inj z
        subst eu ev
        have hab : h'.objs.size + 1 ≤ t := (hZ.above t ht).1
        refine ⟨Nat.le_trans Slo (Nat.le_of_succ_le hab), ?_, [_, _], ⟨j, _, _, hj, List.getElem?_eq_getElem (by omega), List.getElem?_eq_getElem (by omega), rfl⟩, fun H3 => ⟨by show 2 ≤ sizeLine; decide, [u', v'], .cons ru (.cons rv' .nil), ⟨_, hp, rfl, 0, rfl⟩⟩⟩
        rw [upd_ne (Nat.ne_of_gt hab)]
        exact I1.hok.fresh (Nat.le_trans Slo (Nat.le_of_succ_le hab))
      have sm : Same H1 H2 := fun b ob e => g b ob (by rw [upd_ne (ne_of_none e hn0)]; exact e)
      refine ⟨.ref h'.objs.size, H2, I5, rfl, q H2 _ as sm hn0 (g _ _ upd_same) ⟨hlen, fun j t hj => ?_⟩⟩
      obtain ⟨vs, ⟨j2, x, y, j1, e3, e4, ev⟩, hH⟩ := qt t (List.mem_of_getElem? hj)
      have ejj : j = j2 := (List.getElem?_inj (List.getElem?_eq_some_iff.mp hj).1 nd).mp (hj.trans j1.symm)
      subst ejj
      rw [ev] at hH
      exact ⟨x, y, e3, e4, hH⟩
end Ja
end
section
set_option maxHeartbeats 2000000
/-! Rh: in, not in, [], len, != by the text's own methods. -/
namespace Ja
open PySem PySem.W PySem.Spec PyProof.Rows L2
section
variable {X : Cx} {CX : CXT} {k n : Nat} {C f : Addr} {fd : FuncData} {ps : List PySem.Str} {sp : Sp} {dvs : List V} {ds : List Value} {E : XK}
theorem run_sub {A : Around} {pins : List (Addr × Obj)} {σ : L2.St} {H : Hp} {s : Shared} {Q : VK} {us : List Value} {vs : List V} (sb : L2.Sub X k A) (F : FnOk X.prog X.w X.K X.mg X.base CX k f fd ps sp) (hb : Binds X.K fd ps ds) (hd : Vals dvs ds) (hx : Passes CX X E)
    (I : Inv X pins σ H s) (r : Vals vs us) (h : sp (vs ++ dvs) H Q E) : wpAny (model X.prog X.w) A (call (.ref f) us) (EP X pins σ Q) X.xe s := by
  have r2 : Vals (vs ++ dvs) (us ++ ds) := r.append hd
  have hl2 : (us ++ ds).length = ps.length := by rw [← r2.length]; exact F.len _ _ _ _ h
  have e0 : Env0 X.prog X.w X.K X.mg X.base A X.stack s H := by
    have e := I.env0
    exact ⟨by rw [sb.fr]; exact e.frames, e.mod, e.bs, e.bsz, e.funs, e.frf, e.hok, e.bare⟩
  refine wpAny_call (codeAny_mono (F.run A X.stack s H ⟨us, []⟩ (us ++ ds) (vs ++ dvs) Q E sb.room e0 (hb s us I.kIn hl2) r2 h) fun r s' hq => ?_)
  cases r with
  | error e => exact hx pins σ H s e s' I hq
  | ok fl =>
    cases fl with
    | ret w => exact I.after hq
    | next => exact False.elim hq
    | brk => exact False.elim hq
    | cont => exact False.elim hq
/-- what a class must have for a method that the language calls -/
structure Dun (K : Frag) (C : Addr) (name : PySem.Str) (f : Addr) : Prop where
  at_ : findIn K (.ref C) name = some (some (.ref f))
  fn : isFn K (.ref f) = true
theorem inst_at {P : Program} {w : World} {H : Hp} {h : Heap} {a C dx : Addr} {fs : List (PySem.Str × V)} (ok : HOk P w H h) (e : H a = some (.ins C dx fs)) : ∃ ox od, InstAt h a ox C od := by
  obtain ⟨mA, J, _⟩ := ins_get ok e
  obtain ⟨od, J, _⟩ := J.look
  exact ⟨_, _, J⟩
def rInO (C : Addr) (sp : Sp) (E : XK) (g : Bool → Bool) : R2 := fun x y H Q => ∃ a dx fs, y = .ref a ∧ H a = some (.ins C dx fs) ∧ sp [y, x] H (fun v H' => ∃ b, v = .bl b ∧ Q (.bl (g b)) H') E
/-- x in o -/
theorem op_inO (d : Dun X.K C "__contains__" f) (F : FnOk X.prog X.w X.K X.mg X.base CX k f fd ps sp) (hr : Room k X.A) (hb : Binds X.K fd ps []) (hx : Passes CX X E) : OpR X (compareOp .In) (rInO C sp E id) := by
  intro pins s σ H x y v u Q I rx ry h
  obtain ⟨a, dx, fs, rfl, ea, h⟩ := h
  obtain rfl : u = Value.ref a := ry
  obtain ⟨ox, od, J⟩ := inst_at I.hok ea
  obtain ⟨m, hF⟩ := I.fr
  refine in_K hF I.ok.mod.kin J d.at_ d.fn (thn (run_sub ⟨hr, rfl⟩ F hb .nil hx I (us := [.ref a, v]) (vs := [.ref a, x]) (.cons rfl (.cons rx .nil)) h) fun r s1 ⟨y, H1, I1, r1, b, ey, q⟩ => ?_)
  subst ey
  cases r1
  exact wpAny_truthy_bool ⟨.bl b, H1, I1, rfl, q⟩
/-- x not in o -/
theorem op_notInO (d : Dun X.K C "__contains__" f) (F : FnOk X.prog X.w X.K X.mg X.base CX k f fd ps sp) (hr : Room k X.A) (hb : Binds X.K fd ps []) (hx : Passes CX X E) : OpR X (compareOp .NotIn) (rInO C sp E not) := by
  intro pins s σ H x y v u Q I rx ry h
  obtain ⟨a, dx, fs, rfl, ea, h⟩ := h
  obtain rfl : u = Value.ref a := ry
  obtain ⟨ox, od, J⟩ := inst_at I.hok ea
  obtain ⟨m, hF⟩ := I.fr
  refine notIn_K hF I.ok.mod.kin J d.at_ d.fn (thn (run_sub ⟨hr, rfl⟩ F hb .nil hx I (us := [.ref a, v]) (vs := [.ref a, x]) (.cons rfl (.cons rx .nil)) h) fun r s1 ⟨y, H1, I1, r1, b, ey, q⟩ => ?_)
  subst ey
  cases r1
  exact wpAny_truthy_bool ⟨.bl (!b), H1, I1, rfl, q⟩
def rIxO (C : Addr) (sp : Sp) (E : XK) : R2 := fun x y H Q => ∃ a dx fs, x = .ref a ∧ H a = some (.ins C dx fs) ∧ sp [x, y] H Q E
/-- o[i] -/
theorem pe_ixO {a b : Expr} {ta tb : TE} {pos : Pos} (d : Dun X.K C "__getitem__" f) (hfn : fnIn X.K f = true) (F : FnOk X.prog X.w X.K X.mg X.base CX k f fd ps sp) (hr : Room (k + 1) X.A) (hb : Binds X.K fd ps []) (hx : Passes CX X E) (ha : PE X a ta) (hi : PE X b tb)
    (hsl : ∀ v u, subscripted b true v u = runValue (.builtin "lifetime.subscript" ⟨[v, u], []⟩) := by intro _ _; with_unfolding_all rfl) : PE X (.Subscript a b pos) (tOp (rIxO C sp E) ta tb) := by
  refine ⟨fun pins s σ H Q I h => ?_⟩
  refine Subscript_ (binT ha hi I h fun v u s2 x y H2 I2 rx ry q => ?_)
  obtain ⟨p, dx, fs, rfl, ea, q⟩ := q
  obtain rfl : v = Value.ref p := rx
  obtain ⟨ox, od, J⟩ := inst_at I2.hok ea
  obtain ⟨m, hF⟩ := I2.fr
  exact sub_K hF I2.ok.mod.kin J d.at_ hfn d.fn (run_sub ⟨hr.in1, rfl⟩ F hb .nil hx I2 (us := [.ref p, u]) (vs := [.ref p, y]) (.cons rfl (.cons ry .nil)) q) (hsl _ _)
def rLenO (C : Addr) (sp : Sp) (E : XK) : List V → Hp → VK → Prop := fun xs H Q => ∃ a dx fs, xs = [.ref a] ∧ H a = some (.ins C dx fs) ∧ sp xs H (fun v H' => ∃ i : Int, v = .int i ∧ 0 ≤ i ∧ i < 2 ^ 63 ∧ Q (.int i) H') E
/-- len(o) -/
theorem call_lenO (d : Dun X.K C "__len__" f) (F : FnOk X.prog X.w X.K X.mg X.base CX k f fd ps sp) (hr : Room (k + 1) X.A) (hb : Binds X.K fd ps []) (hx : Passes CX X E) : CallR X (.builtin "len") (rLenO C sp E) := by
  intro pins s σ H xs us Q I r h
  obtain ⟨a, dx, fs, rfl, ea, h⟩ := h
  obtain rfl := Vals.ref1 r
  obtain ⟨ox, od, J⟩ := inst_at I.hok ea
  obtain ⟨m, hF⟩ := I.fr
  refine len_K hF I.ok.mod.kin J d.at_ d.fn (thn (run_sub ⟨hr.in1, rfl⟩ F hb .nil hx I (us := [.ref a]) (vs := [.ref a]) (.cons rfl .nil) h) fun r s1 ⟨y, H1, I1, r1, i, ey, i0, i1, q⟩ => ?_)
  subst ey
  obtain ⟨t, rfl⟩ := r1
  exact ⟨⟨i0, i1⟩, .int i, H1, I1.kept (t' := s1.toks + 1) fun _ _ e => e, ⟨_, rfl⟩, q⟩
theorem ifBound_ne {M : Model} {A : Around} {E : Value → Shared → Prop} {s : Shared} {K : Frag} {x C : Addr} {ox : Obj} {od : Option Obj} {args : List Value} {Q : Option Value → Shared → Prop} (XK : K.In s.heap) (I : InstAt s.heap x ox C od) (hs : findIn K (.ref C) "__ne__" = some (some (.builtin "object.__ne__")))
    (h : wpAny M A (call (.builtin "object.__ne__") (.ref x :: args)) (fun v => Q (some v)) E s) : wpAny M A (callSpecialIfBound? (.ref x) "__ne__" args) Q E s := by
  simp only [callSpecialIfBound?, bindSpecialIfBound?]
  refine wpAny_holding (wpAny_bind (wpAny_bind (wpAny_bind (I.type.here ((looks_findIn XK hs).here ?_)))))
  refine wpAny_bind (wpAny_askSetting (wpAny_ite ?_))
  have fin : wpAny M A (call (.builtin "object.__ne__") ([.ref x] ++ args) >>= fun v => pure (some v)) Q E s := wpAny_bind (wpAny_mono h (fun v s' h' => wpAny_pure h') fun _ _ h' => h')
  split
  · exact wpAny_bind (wpAny_of_eq (F.cmp_object.ne.bind _) (wpAny_pure (by exact fin)))
  · exact wpAny_tryCatch (wpAny_bind (wpAny_of_eq (F.cmp_object.ne.bind _) (wpAny_pure (by exact fin))))
/-- o != p by the text's own ==, where that says True -/
theorem op_neG {C : Addr} {R : Addr → Addr → Hp → Prop} (F' : FnOk X.prog X.w X.K X.mg X.base CX n f fd ps (spEq R)) (d : Dun X.K C "__eq__" f) (hne : findIn X.K (.ref C) "__ne__" = some (some (.builtin "object.__ne__"))) (hm : mroIn X.K C (.type "object") = some true)
    (hr : Room (n + 1) X.A) (hb : Binds X.K fd ps []) (hx : Passes CX X E) : OpR X (compareOp .NotEq) (fun x y H Q => DIns C R x y H ∧ ∀ H', Ext H H' → Q (.bl false) H') := by
  intro pins s σ H x y v u Q I rx ry h
  obtain ⟨⟨a, b, dx, dy, fs, gs, rfl, rfl, ea, eb, hR⟩, q⟩ := h
  obtain rfl : v = Value.ref a := rx
  obtain rfl : u = Value.ref b := ry
  obtain ⟨ox, od, J⟩ := inst_at I.hok ea
  obtain ⟨ox', od', J'⟩ := inst_at I.hok eb
  have XK := I.kIn
  have hu : X.A.units + 1 < cLine := by have := hr.un; omega
  have spq : spEq R ([V.ref a, V.ref b] ++ []) H (fun v H' => v = .bl true ∧ Ext H H') E := ⟨a, b, rfl, hR, fun H' e => ⟨rfl, e⟩⟩
  have one : wpAny (model X.prog X.w) X.A (tryCompare (.ref a) "__ne__" (.ref b)) (fun r s' => r = some (.bool false) ∧ EP X pins σ Q (.bool false) s') X.xe s := by
    unfold tryCompare
    refine wpAny_bind (ifBound_ne XK J hne (wpAny_call (codeAny_call_builtin F.cmp_object.ne.plain F.cmpEntry_ne (check_slot F.cmpKind_ne F.cmpSplit_ne (J.type.andThen (looks_mroIn XK hm)) (F.cmpArgs_ne _ _) ?_))))
    unfold Builtin.«object.__ne__»
    refine wpAny_bind (wpAny_pure ?_)
    dsimp only
    refine wpAny_bind (wpAny_cRoomFor (A := X.A.in1) hu ?_)
    refine wpAny_bind (ifBound_K XK J d.at_ d.fn (thn (run_sub ⟨hr.in1, rfl⟩ F' hb .nil hx I (us := [.ref a, .ref b]) (vs := [.ref a, .ref b]) (.cons rfl (.cons rfl .nil)) spq) fun r s1 ⟨y, H1, I1, r1, ey, ex⟩ => ?_))
    subst ey
    cases r1
    dsimp only
    refine wpAny_bind (wpAny_truthy_bool ?_)
    exact wpAny_pure (wpAny_pure ⟨rfl, .bl false, H1, I1, rfl, q H1 ex⟩)
  show wpAny (model X.prog X.w) X.A (richCompare .NotEq (.ref a) (.ref b)) (EP X pins σ Q) X.xe s
  unfold richCompare
  simp only [oneThing_ref]
  refine wpAny_holding (wpAny_bind (wpAny_cRoomFor (by omega) ?_))
  refine wpAny_bind (J.type.here (wpAny_bind (J'.type.here ?_)))
  rw [if_neg (by simp)]
  refine wpAny_bind (wpAny_pure ?_)
  simp only [Bool.false_eq_true, if_false]
  refine wpAny_bind (wpAny_mono one (fun r s' z => ?_) fun _ _ e => e)
  obtain ⟨rfl, hq⟩ := z
  exact wpAny_pure hq
end
end Ja
end
section
set_option maxHeartbeats 2000000
/-! Ri: n * o by the text's own __rmul__. -/
namespace Ja
open PySem PySem.W PySem.Spec PyProof.Rows L2
theorem int_mul_inst {P : Program} {w : World} {A : Around} {E : Value → Shared → Prop} {s : Shared} {i : Int} {t : Tok} {a C dx : Addr} {Q : Value → Shared → Prop} (ho : s.heap.get? a = some (instObj C dx)) (h : Q .notImplemented s) :
    wpAny (model P w) A (call (.builtin "int.__mul__") [.int i t, .ref a]) Q E s := by
  refine wpAny_call_entry F.slot_int_mul (typeIs_int s i t) F.entry_int_mul ?_ (F.args_int_mul_2 _ _)
  obtain ⟨hp, g, d, tk, os⟩ := s
  wp_walk
  exact ⟨_, rfl, h⟩
section
variable {X : Cx} {CX : CXT} {k n : Nat} {C f : Addr} {fd : FuncData} {ps : List PySem.Str} {sp : Sp} {E : XK}
def rRmulO (C : Addr) (sp : Sp) (E : XK) : R2 := fun x y H Q => ∃ i a dx fs, x = .int i ∧ y = .ref a ∧ H a = some (.ins C dx fs) ∧ sp [y, x] H (fun v H' => (∃ b, v = .ref b) ∧ Q v H') E
/-- n * o -/
theorem op_rmulO {fm : Addr} (d : Dun X.K C "__rmul__" f) (hm : findIn X.K (.ref C) "__mul__" = some (some (.ref fm))) (hc : selfFirst X.K C = true) (hsub : subIn X.K (.ref C) (.type "int") = some false)
    (F' : FnOk X.prog X.w X.K X.mg X.base CX k f fd ps sp) (hr : Room k X.A) (hb : Binds X.K fd ps []) (hx : Passes CX X E) : OpR X (binaryOp .Mult) (rRmulO C sp E) := by
  intro pins s σ H x y v u Q I rx ry h
  obtain ⟨i, a, dx, fs, rfl, rfl, ea, h⟩ := h
  obtain ⟨t, rfl⟩ := rx
  obtain rfl : u = Value.ref a := ry
  have XK := I.kIn
  obtain ⟨mA, ob, _⟩ := ins_get I.hok ea
  obtain ⟨ox, od, J⟩ := inst_at I.hok ea
  obtain ⟨cd, rest, hcd, hmro⟩ := ksp_first hc
  have two : wpAny (model X.prog X.w) X.A (tryMethod (.ref a) "__rmul__" (.int i t)) (fun r s' => ∃ v, r = some v ∧ EP X pins σ Q v s') X.xe s :=
    ksp_try XK J d.at_ d.fn (thn (run_sub ⟨hr, rfl⟩ F' hb .nil hx I (us := [.ref a, .int i t]) (vs := [.ref a, .int i]) (.cons rfl (.cons ⟨t, rfl⟩ .nil)) h) fun r s1 ⟨y, H1, I1, r1, ⟨b, eb⟩, q⟩ => by
      subst eb
      cases r1
      exact ⟨.ref b, H1, I1, rfl, q⟩)
  have one : wpAny (model X.prog X.w) X.A (tryMethod (.int i t) (PySem.dunder "mul") (.ref a)) (fun r s' => r = none ∧ s' = s) X.xe s :=
    wpAny_tryMethod_declines (T := "int") (id := "int.__mul__") (name := PySem.dunder "mul") (typeIs_int s i t) F.slot_int_mul (int_mul_inst (C := C) (dx := dx) ob.obj ⟨rfl, rfl, rfl⟩)
  obtain ⟨hh, g, dd, tt, os⟩ := s
  have L1 : Looks (model X.prog X.w) hh (typeOf (.int i t)) (.type "int") := Looks.of_pure rfl
  have L2 : Looks (model X.prog X.w) hh (typeOf (.ref a)) (.ref C) := J.type
  have L3 : Looks (model X.prog X.w) hh (fillsNumberSlot (.type "int") "mul") true := Looks.of_pure F.fills_int_mul
  have L4 : Looks (model X.prog X.w) hh (fillsNumberSlot (.ref C) "mul") true := fills_K XK hcd hmro (by rw [show PySem.dunder "mul" = ("__mul__" : PySem.Str) from by decide +kernel]; exact hm)
  have L5 : Looks (model X.prog X.w) hh (isSubtype (.ref C) (.type "int")) false := looks_subIn XK hsub
  have L6 : Looks (model X.prog X.w) hh (numberSlotInPython (.type "int") "mul") false := Looks.of_pure rfl
  have hne : (Value.type "int" == Value.ref C) = false := Bool.eq_false_iff.mpr fun q => by cases beq_iff_eq.mp q
  have hi : Operator.Mult.info = ("*", "mul") := rfl
  have e1 : PySem.dunder "mul" = ("__mul__" : PySem.Str) := by decide +kernel
  rw [e1] at one
  have e2 : dunderR "mul" = ("__rmul__" : PySem.Str) := by decide +kernel
  simp only [binaryOp, hi]
  refine wpAny_holding (wpAny_bind ?_)
  unfold binaryOp1
  simp only [e1, e2]
  refine wpAny_bind (L1.at (wpAny_bind (L2.at (wpAny_bind (L3.at ?_)))))
  simp only [hne, Bool.false_eq_true, if_false]
  ksp_lk
  refine wpAny_mono one (fun r s' hr' => ?_) fun _ _ e => e
  obtain ⟨rfl, rfl⟩ := hr'
  dsimp only
  rw [if_neg Bool.false_ne_true, if_pos (show (true && !false) = true from rfl)]
  refine wpAny_bind (m := tryMethod (.ref a) "__rmul__" (.int i t)) (wpAny_mono two (fun r s' hr' => ?_) fun _ _ e => e)
  obtain ⟨v, rfl, hq⟩ := hr'
  exact wpAny_bind (wpAny_rule (wpAny_pure (wpAny_pure hq)))
end
end Ja
end
section
set_option maxHeartbeats 2000000
/-! Rj: repr of data. -/
namespace Ja
open PySem PySem.W PySem.Spec PyProof.Rows L2
def rRepr (K : Frag) : List V → Hp → VK → Prop := fun xs H Q => ∃ x d, xs = [x] ∧ Dp K H x d ∧ d.showable = true ∧ d.hasDict = false ∧ d.shown.length ≤ sizeLine ∧ d.depth ≤ 4 ∧ Q (.str d.shown) H
theorem call_reprD {X : Cx} (hg : X.A.guards = some []) (hu : X.A.units + 8 < cLine) : CallR X (.builtin "repr") (rRepr X.K) := by
  intro pins s σ H xs us Q I r h
  obtain ⟨x, d, rfl, hd, hs, hn, hz, hdep, q⟩ := h
  obtain ⟨u, rfl, rx⟩ := r.one
  obtain ⟨as, rd⟩ := Dp.reads I d x u hd rx
  have fin : ∀ (h' : Heap) (t tk : Tok), (∀ b o, s.heap.get? b = some o → h'.get? b = some o) → EP X pins σ Q (.str d.shown t) { s with heap := h', toks := tk } := fun h' t tk hk => ⟨.str d.shown, H, I.kept hk, ⟨t, rfl⟩, q⟩
  cases hd with
  | non => cases rx; exact PySem.P.repr_of_none (fin s.heap _ _ fun _ _ e => e)
  | bl b => cases rx; exact PySem.P.repr_of_bool (fin s.heap _ _ fun _ _ e => e)
  | int i =>
    obtain ⟨t, rfl⟩ := rx
    exact PySem.P.repr_of_int (by simpa [PyData.showable] using hs) (fin s.heap _ _ fun _ _ e => e)
  | str x =>
    obtain ⟨t, rfl⟩ := rx
    exact PySem.P.repr_of_str (fin s.heap _ _ fun _ _ e => e) (by simpa only [PyData.shown] using hz)
  | lst hq ha =>
    cases rx
    exact repr_of_reads' rd hs (PyData.noDict_hsm hn) hg (by omega) (fun _ _ e => e) (fun h' u tk hk => fin h' u tk hk) hz
  | tup hq ha =>
    cases rx
    exact repr_of_reads' rd hs (PyData.noDict_hsm hn) hg (by omega) (fun _ _ e => e) (fun h' u tk hk => fin h' u tk hk) hz
end Ja
end
section
set_option maxHeartbeats 2000000
/-! Rk: list(d), the keys tuples of ints. -/
namespace Ja
open PySem PySem.W PySem.Spec PyProof.Rows L2
/-- list(d), d's keys tuples of ints -/
theorem call_listT {X : Cx} (hc : X.calm = true) : CallR X (.type "list") (fun xs H Q => ∃ (a : Addr) (kvs : List (List L2.Key × V)) (rs : List (List Int)), xs = [.ref a] ∧ Rd H a (.dT kvs) ∧ kvs.map (·.1) = rs.map keyOf ∧
    ∀ (bs : List Addr) (p : Addr), Paired (fun r b => H b = some (.tup (r.map V.int))) rs bs → H p = none → Q (.ref p) (upd H p (.lst (bs.map V.ref)))) := by
  intro pins s σ H xs us Q I r h
  obtain ⟨d, kvs, rs, rfl, hd, hrs, q⟩ := h
  obtain ⟨u, rfl, rx⟩ := r.one
  cases rx
  obtain ⟨z, hs, ks, pr, o, es, ep, ho, hx, hdt, he, hn⟩ := (show ObjOk X.prog X.w H s.heap d (.dT kvs) from hd.ok I.hok)
  have l1 : es.size = ks.length := size_of_entries he
  have l2 : kvs.length = ks.length := Paired.length pr
  have kk : ks.map (·.1) = rs.map keyOf := by
    rw [← hrs]; exact (kt_keys pr).symm
  refine PySem.W.kdl_call (kdl_raw hs hx hdt) (I.ok.hd hc) ho (by omega) fun h' tk acc' c' hk hD it => ?_
  have ea : acc'.toList = ks.map fun x => Value.ref x.2.1 := by
    have hl : acc'.toList.length = ks.length := by rw [Array.length_toList, it.1]; exact l1
    apply List.ext_getElem?
    intro j
    rw [List.getElem?_map]
    cases hj : acc'.toList[j]? with
    | none =>
      have h1 := List.getElem?_eq_none_iff.mp hj
      rw [List.getElem?_eq_none (by omega)]
      rfl
    | some v =>
      obtain ⟨en, hen, hv⟩ := it.2 j v (by rw [← Array.getElem?_toList]; exact hj)
      have qe := entry_at he j
      rw [hen] at qe
      cases hb : ks[j]? with
      | none => rw [hb] at qe; cases qe
      | some b =>
        rw [hb] at qe
        have e2 : en = entryOfKey (tupleKind (mixKind X.prog X.w)) b := Option.some.inj qe
        rw [hv, e2]
        rfl
  have hal : acc'.toList.length ≤ sizeLine := by rw [ea, List.length_map]; omega
  have rv : Vals ((ks.map fun x => x.2.1).map V.ref) acc'.toList := by
    rw [ea, List.map_map]
    exact vals_maps (fun x : List L2.Key × Addr × Value => V.ref x.2.1) _ ks fun _ _ => rfl
  have rel : ∀ (l : List (List L2.Key × Addr × Value)) (ss : List (List Int)), l.map (·.1) = ss.map keyOf → (∀ x ∈ l, x ∈ ks) → Paired (fun r b => H b = some (.tup (r.map V.int))) ss (l.map fun x => x.2.1) := by
    intro l
    induction l with
    | nil => intro ss e _; cases ss with
      | nil => exact .nil
      | cons s ss => cases e
    | cons x l ih =>
      intro ss e hl
      cases ss with
      | nil => cases e
      | cons r0 ss =>
        rw [List.map_cons, List.map_cons] at e
        injection e with e1 e2
        refine .cons ?_ (ih ss e2 fun y hy => hl y (List.mem_cons_of_mem _ hy))
        obtain ⟨j, hj⟩ := List.mem_iff_getElem?.mp (hl x List.mem_cons_self)
        obtain ⟨p, hp, e3, e4, _⟩ := DX.pget pr hj
        rw [e3, e1, keyOf_V] at e4
        exact e4
  exact ⟨.ref s.heap.objs.size, upd H s.heap.objs.size (.lst ((ks.map fun x => x.2.1).map V.ref)), I.laid (t' := tk) hk (Nat.le_refl _)
    (show ObjOk X.prog X.w _ _ _ (.lst ((ks.map fun x => x.2.1).map V.ref)) from ⟨by rw [rv.length]; exact hal, acc'.toList, c', rv, by rw [Array.toArray_toList]; exact hD⟩), rfl, q _ _ (rel ks rs kk fun _ h => h) (I.hok.fresh (Nat.le_refl _))⟩
end Ja
end
section
set_option maxHeartbeats 2000000
/-! Rl: name = {.. for ..}, tuple keys. -/
namespace Ja
open PySem PySem.W PySem.Spec PyProof.Rows L2
theorem swD_true {kx vx : Expr} {gs : List Comprehension} {scope : Scope} {pos py : Pos} {y : PySem.Str} {l : Nat} {env : Env} (hk : env.scope.kind = .function) (hy : env.scope.names.lookup y = some .local) (hl : (py.line == pos.line) = true)
    (ha : (scope.names.any fun (n, k) => n == y && (k == .local || k == .cell)) = false) : swapsWith (.DictComp kx vx gs scope pos) (some (.Name y py)) l env = pure true := by
  have ky : env.kindOf y = some .local := hy
  have hb : env.blockKind = .function := by unfold Env.blockKind; rw [hk]; rfl
  unfold swapsWith
  simp only [hb, ky, ha, Expr.pos, hl]
  rfl
theorem ps_setDcT {X : Cx} {i : Nat} {y : PySem.Str} {py : Pos} {kx vx tg iter : Expr} {ifs : List Expr} {scope : Scope} {own : List (PySem.Str × Nat)} {pos spos : Pos} {wi : TI} {g : TG} {tt : TT} {tk tv : TE} (hu : X.A.units + 1 < cLine) (hc : X.calm = true) (hN : X.N.Nodup) (hy : X.N[i]? = some y) (hyl : X.env.scope.names.lookup y = some .local)
    (hsw : swapsWith (.DictComp kx vx [⟨tg, iter, ifs, 0⟩] scope pos) (some (.Name y py)) spos.line X.env = pure true) (hi : PI X tg iter wi) (ok : BlkOk X.N X.env.scope scope own)
    (hg : ∀ (s : Shared) (H : Hp) (C : Addr) (cl : List (PySem.Str × Addr)) (fp : List Addr), PG (X.blk s H scope (compEnvC scope cl C X.env) fp) tg g) (ht : ∀ (s : Shared) (H : Hp) (C : Addr) (cl : List (PySem.Str × Addr)) (fp : List Addr), PTs (X.blk s H scope (compEnvC scope cl C X.env) fp) ifs tt)
    (hk : ∀ (s : Shared) (H : Hp) (C : Addr) (cl : List (PySem.Str × Addr)) (fp : List Addr), PE (X.blk s H scope (compEnvC scope cl C X.env) fp) kx tk)
    (he : ∀ (s : Shared) (H : Hp) (C : Addr) (cl : List (PySem.Str × Addr)) (fp : List Addr), PE (X.blk s H scope (compEnvC scope cl C X.env) fp) vx tv) (hs : ∀ x, foldedSetIterable iter X.env x = pure x := by intro _; rfl) :
    PS X (.Assign [.Name y py] (.DictComp kx vx [⟨tg, iter, ifs, 0⟩] scope pos) spos) (tAsg (tDcT wi g tt tk tv (own.map (·.2))) (gName i)) := by
  refine ⟨fun pins s σ H D I h => ?_⟩
  rw [exec_Assign_Name_used _ _ _ _ hsw]
  refine wpAny_bind (wpAny_standAt (wpAny_bind ?_))
  show wpAny _ X.A (do let _ ← comprehension (.DictComp kx vx [⟨tg, iter, ifs, 0⟩] scope pos) scope X.env (firstIterPos [⟨tg, iter, ifs, 0⟩] pos) newDict false (eval iter X.env) (some (assign (.Name y py) X.env))) _ _ s
  have h : tDcT wi g tt tk tv (own.map (·.2)) σ H (fun x H1 => gName i x σ H1 D.nx) := h
  refine wpAny_bind (thn (dcT_core (Qf := fun _ s' => SP X pins D .next s') hu hc hN I hi ok hg ht hk he hs h fun L C s' m H' I' q hn f => ?_) fun _ s' hq => wpAny_pure (wpAny_pure hq))
  show wpAny _ _ (assign (.Name y py) X.env (.ref L)) _ _ _
  refine wpAny_assign_Name (store_ok2 (v := V.ref L) I' hN hy (.inl hyl) rfl (fun s2 I2 ⟨a, sb, ha⟩ => ?_) (.inr hyl))
  obtain ⟨f0, f1, f2, f3, f4, f5⟩ := f
  have haC : C ≠ a := by
    rcases ha with z | z
    · rw [z]; exact f1
    · exact fun e => f4 y a z e.symm
  refine ⟨m, hn.sameBut sb haC, fun h3 sb3 => ?_⟩
  exact ⟨_, H', I2.turned (t' := s2.toks) (fun b o hb e => (sb3.2 b hb).trans e) f0 f1 f3 f4 f5, q⟩
end Ja
end
section
set_option maxHeartbeats 200000
/-! W0: the text by places. -/
namespace K46
open PySem L2
end K46
end
section
set_option maxHeartbeats 4000000
/-! Wg: runs_from. -/
namespace K46
open PySem L2 Ja
/-- the last of a row -/
def lst (b : List Int) : Int := b.getLastD 0
/-- the runs that go on from a beginning, depth first: su i: where one may go from i -/
def runsF (su : Int → List Int) (last : Int) : Nat → List Int → List (List Int)
  | 0, b => if lst b = last then [b] else []
  | n + 1, b => (if lst b = last then [b] else []) ++ (su (lst b)).flatMap fun v => runsF su last n (b ++ [v])
/-- a tuple of these ints stands there -/
abbrev TupI (H : Hp) (t : Addr) (r : List Int) : Prop := H t = some (.tup (r.map V.int))
/-- the table of going_on -/
def Going (H : Hp) (g : Addr) (su : Int → List Int) : Prop := ∃ kvs : List (L2.Key × V), H g = some (.dK kvs) ∧ ∀ i : Int, match valV kvs (Sum.inl i) with
  | some v => ∃ l ts, v = .ref l ∧ H l = some (.lst (ts.map V.ref)) ∧ Paired (fun t w => TupI H t [i, w]) ts (su i)
  | none => su i = []
theorem Going.same {H H' : Hp} {g : Addr} {su : Int → List Int} (h : Going H g su) (e : Same H H') : Going H' g su := by
  obtain ⟨kvs, h1, h2⟩ := h
  refine ⟨kvs, e _ _ h1, fun i => ?_⟩
  have z := h2 i
  cases q : valV kvs (Sum.inl i) with
  | none => rw [q] at z; exact z
  | some v =>
    rw [q] at z
    obtain ⟨l, ts, e1, e2, e3⟩ := z
    exact ⟨l, ts, e1, e _ _ e2, Paired.mapP e3 fun _ _ y => e _ _ y⟩
/-- ways go up, to the last at most -/
def Up (su : Int → List Int) (last : Int) : Prop := ∀ i v, v ∈ su i → i < v ∧ v ≤ last
def spRF (n : Nat) (vs : List V) (H : Hp) (rs : List (List Int)) : Prop := ∃ g last t b su, vs = [.ref g, .int last, .ref t] ∧ Going H g su ∧ TupI H t b ∧ b ≠ [] ∧ b.length + n ≤ 1000 ∧ Up su last ∧ last - lst b ≤ n ∧ rs = runsF su last n b
theorem scRF : GScope ["going", "last", "beginning", "jump"] ["going", "last", "beginning"] (defScope sRunsFrom) := ⟨rfl, rfl, rfl, by decide +kernel, rfl, by decide +kernel, by decide +kernel⟩
theorem js_never {X : Cx} {G : Gp} {st : Stmt} : JS X G st (fun _ _ _ _ => False) := ⟨fun _ _ _ _ _ _ _ _ _ _ _ _ _ _ _ _ h _ => h.elim⟩
theorem jss_never {X : Cx} {G : Gp} {st : List Stmt} : JSs X G st (fun _ _ _ _ => False) := ⟨fun _ _ _ _ _ _ _ _ _ _ _ _ _ _ _ _ h _ => h.elim⟩
theorem up_last {su : Int → List Int} {last i : Int} (u : Up su last) (h : last ≤ i) : su i = [] := by
  cases q : su i with
  | nil => rfl
  | cons v r =>
    have := u i v (by rw [q]; exact List.mem_cons_self)
    omega
theorem lst_snoc (b : List Int) (v : Int) : lst (b ++ [v]) = v := by unfold lst; simp
theorem lst_get {b : List Int} (h : b ≠ []) : atI (b.map V.int) (-1) = some (.int (lst b)) := by
  obtain ⟨c, x, rfl⟩ : ∃ c x, b = c ++ [x] := ⟨b.dropLast, b.getLast h, (List.dropLast_concat_getLast h).symm⟩
  rw [lst_snoc, List.map_append]
  exact atI_last _ _
section
variable {P : Program} {w : World} {K : PySem.W.Frag} {mg : Str → Option Value} {base : Heap} {f : Addr} {fd : FuncData}
theorem rf_all (F : Fun K "runs_from" "runs_from" sRunsFrom f fd) (hmg : mg "runs_from" = some (.ref f)) (hb : Binds K fd ["going", "last", "beginning"] []) : ∀ n, JFn P w K mg base (4 * n + 1) f fd ["going", "last", "beginning"] (spRF n) := by
  obtain ⟨oc, od, kV, doc, pm, an, cdv, ct, osl, rfl, lk, hcd⟩ := F.ex
  have kp := F.kp
  -- the loop over the ways from a beginning's last block
  have start : ∀ {X : Cx} {G : Gp} {tb : JTn} {H : Hp} {g t : Addr} {last : Int} {b : List Int} {su : Int → List Int} {rs : List (List Int)} (Fv : Int → List (List Int)), b ≠ [] → Going H g su → TupI H t b → (∀ r ∈ ([] : List Int), r = r) →
      (∀ (a : Addr) (ts : List Addr) (H1 : Hp), Same H H1 → H1 a = some (.lst (ts.map V.ref)) → Paired (fun t w => TupI H1 t [lst b, w]) ts (su (lst b)) →
        ∀ (i : Nat) (v : Int) (rs' : List (List Int)) (u : Option V) (H' : Hp) (tj : Addr) (N : JK), (su (lst b))[i]? = some v → Same H1 H' → H' tj = some (.tup [.int (lst b), .int v]) → (∀ H2, Same H' H2 → N rs' [some (.ref g), some (.int last), some (.ref t), some (.ref tj)] H2) → tb N (Fv v ++ rs') [some (.ref g), some (.int last), some (.ref t), some (.ref tj)] H') →
      (fun (D : JK) (rs : List (List Int)) (σ : L2.St) (H : Hp) => (iList K (tDGet2 (tVar 0) (tOp (rIxT K) (tVar 2) (tUn (rU fun i => .int (-i)) (tC (.int 1)))) (tLst tNil))) σ H fun J H1 => Same H H1 ∧ ∃ W : Nat → Nat → List (List Int) → L2.St → Hp → Prop, (∃ m, W 0 m rs σ H1) ∧ ∀ i m rs σ H, W i m rs σ H →
        (J.stop i H ∧ D rs σ H) ∨ (J.go i H ∧ ∃ N : JK, (∀ rs' σ' H', N rs' σ' H' → ∃ m', m' < m ∧ W (i + 1) m' rs' σ' H') ∧ ∀ x H', J.yld i H x H' → Same H H' ∧ (gName 3) x σ H' fun σ2 H2 => Same H' H2 ∧ tb N rs σ2 H2)) (fun rs _ _ => rs = []) ((su (lst b)).flatMap Fv) [some (.ref g), some (.int last), some (.ref t), none] H := by
    intro X G tb H g t last b su rs Fv hb0 hg ht _ step
    obtain ⟨kvs, hk, hv⟩ := id hg
    refine ⟨_, rfl, g, rfl, .inl ⟨kvs, .inl hk⟩, _, rfl, 1, rfl, t, b.map V.int, -1, _, rfl, rfl, SqT.of ht, lst_get hb0, Nat.zero_le _, fun l hl => ?_⟩
    have sm : Same H (upd H l (.lst [])) := fun c o e => by rw [upd_ne (ne_of_none e hl)]; exact e
    refine ⟨_, DGet.k (k := Sum.inl (lst b)) (sm _ _ hk), ?_⟩
    have core : ∀ (a : Addr) (ts : List Addr), (upd H l (.lst [])) a = some (.lst (ts.map V.ref)) → Paired (fun t w => TupI (upd H l (.lst [])) t [lst b, w]) ts (su (lst b)) →
        (∃ xs, SqL K (upd H l (.lst [])) a xs) ∧ Same H (upd H l (.lst [])) ∧ ∃ W : Nat → Nat → List (List Int) → L2.St → Hp → Prop, (∃ m, W 0 m ((su (lst b)).flatMap Fv) [some (.ref g), some (.int last), some (.ref t), none] (upd H l (.lst []))) ∧ ∀ i m rs σ H, W i m rs σ H →
          ((Itl K a).stop i H ∧ rs = []) ∨ ((Itl K a).go i H ∧ ∃ N : JK, (∀ rs' σ' H', N rs' σ' H' → ∃ m', m' < m ∧ W (i + 1) m' rs' σ' H') ∧ ∀ x H', (Itl K a).yld i H x H' → Same H H' ∧ (gName 3) x σ H' fun σ2 H2 => Same H' H2 ∧ tb N rs σ2 H2) := by
      intro a ts ha hp
      refine ⟨⟨_, SqL.of ha⟩, sm, fun i m rs σ H' => m = ts.length - i ∧ i ≤ ts.length ∧ Same (upd H l (.lst [])) H' ∧ rs = ((su (lst b)).drop i).flatMap Fv ∧ ∃ v, σ = [some (.ref g), some (.int last), some (.ref t), v], ⟨ts.length, by simp, Nat.zero_le _, Same.refl _, by simp, none, rfl⟩, ?_⟩
      rintro i m rs σ H' ⟨rfl, hi, s1, rfl, u, rfl⟩
      have lsz : ts.length = (su (lst b)).length := Paired.length hp
      have q : SqL K H' a (ts.map V.ref) := SqL.of (s1 _ _ ha)
      by_cases hlt : i < ts.length
      · have ix : i < (su (lst b)).length := by omega
        refine .inr ⟨⟨_, _, q, by rw [List.getElem?_map, List.getElem?_eq_getElem hlt]; rfl⟩, fun rs' σ' H2 => Same H' H2 ∧ rs' = ((su (lst b)).drop (i + 1)).flatMap Fv ∧ ∃ v, σ' = [some (.ref g), some (.int last), some (.ref t), v], ?_, ?_⟩
        · rintro rs' σ' H2 ⟨s2, e2, e3⟩
          exact ⟨ts.length - (i + 1), by omega, rfl, hlt, s1.trans s2, e2, e3⟩
        · rintro x H2 ⟨rfl, hx⟩
          have ex : V.ref ts[i] = x := by
            have z := hx _ q
            rw [List.getElem?_map, List.getElem?_eq_getElem hlt] at z
            exact Option.some.inj z
          subst ex
          have htj : TupI (upd H l (.lst [])) ts[i] [lst b, (su (lst b))[i]] := by
            obtain ⟨w', hw', e⟩ := paired_get hp (List.getElem?_eq_getElem hlt)
            rw [List.getElem?_eq_getElem ix] at hw'
            cases hw'
            exact e
          refine ⟨Same.refl _, Same.refl _, ?_⟩
          rw [List.drop_eq_getElem_cons ix, List.flatMap_cons]
          exact step a ts _ sm ha hp i _ _ u _ ts[i] _ (List.getElem?_eq_getElem ix) s1 (s1 _ _ htj) fun H3 s3 => ⟨s3, rfl, _, rfl⟩
      · have e : i = ts.length := by omega
        refine .inl ⟨⟨_, q, by rw [List.length_map]; omega⟩, ?_⟩
        rw [List.drop_of_length_le (by omega)]
        rfl
    have hvi := hv (lst b)
    cases hvv : valV kvs (Sum.inl (lst b)) with
    | none =>
      rw [hvv] at hvi
      refine ⟨l, rfl, ?_⟩
      have hvi' : su (lst b) = [] := hvi
      exact core l [] upd_same (by rw [hvi']; exact .nil)
    | some v =>
      rw [hvv] at hvi
      obtain ⟨l2, ts, rfl, e2, e3⟩ := hvi
      exact ⟨l2, rfl, core l2 ts (sm _ _ e2) (Paired.mapP e3 fun _ _ y => sm _ _ y)⟩
  intro n
  induction n with
  | zero =>
    refine jfn_of lk hcd scRF (fun vs H rs h => by obtain ⟨g, last, t, b, su, rfl, _⟩ := h; rfl) fun A outer s H vs rs op G hr h T => ?_
    obtain ⟨g, last, t, b, su, rfl, hg, ht, hb0, hbl, up, hl, rfl⟩ := h
    refine ⟨_, jss_cons (js_if T (pt_cmpR op_eq (pe_ix ix_tup (pv 2) (pe_un un_neg pe_int) (fun _ _ => rfl)) (pv 1) (nomark _)) (jss_cons (js_yield T (pv 2)) jss_nil))
      (jss_cons (js_for T rfl (pi_list (pe_dget2 (hu_of hr) (pv 0) (pe_ix ix_tup (pv 2) (pe_un un_neg pe_int) (fun _ _ => rfl)) (pe_lst pa_nil) ⟨rfl, rfl, rfl, rfl⟩)) (pg_name (i := 3) scRF.nd rfl (Or.inl rfl)) jss_never) jss_nil), ?_⟩
    refine ⟨_, rfl, 1, rfl, t, b.map V.int, -1, _, rfl, rfl, SqT.of ht, lst_get hb0, _, rfl, rfl, _, rfl, Same.refl _, ?_⟩
    have e0 : su (lst b) = [] := up_last up (by have z : last - lst b ≤ ((0 : Nat) : Int) := hl; omega)
    have fin := start (X := jcx P w K mg base ["going", "last", "beginning", "jump"] "runs_from" (defScope sRunsFrom) f cdv A outer s H op) (G := G) (tb := fun _ _ _ _ => False) (last := last) (rs := []) (fun _ => []) hb0 hg ht (fun _ _ => rfl) fun a ts H1 s1 ha hp i v rs' u H' tj N hi => by rw [e0] at hi; simp at hi
    rw [e0] at fin
    refine ite2 (fun c => ?_) (fun c => ?_)
    · have c' : lst b = last := by simpa using c
      refine ⟨_, rfl, Same.refl _, t, b, [], rfl, ht, by show (if lst b = last then [b] else []) = _; rw [if_pos c'], fin⟩
    · have c' : ¬ lst b = last := by simpa using c
      have er : runsF su last 0 b = [] := by show (if lst b = last then [b] else []) = _; rw [if_neg c']
      rw [er]
      exact fin
  | succ n ih =>
    refine jfn_of (k := 4 * n + 4) lk hcd scRF (fun vs H rs h => by obtain ⟨g, last, t, b, su, rfl, _⟩ := h; rfl) fun A outer s H vs rs op G hr h T => ?_
    obtain ⟨g, last, t, b, su, rfl, hg, ht, hb0, hbl, up, hl, rfl⟩ := h
    refine ⟨_, jss_cons (js_if T (pt_cmpR op_eq (pe_ix ix_tup (pv 2) (pe_un un_neg pe_int) (fun _ _ => rfl)) (pv 1) (nomark _)) (jss_cons (js_yield T (pv 2)) jss_nil))
      (jss_cons (js_for T rfl (pi_list (pe_dget2 (hu_of hr) (pv 0) (pe_ix ix_tup (pv 2) (pe_un un_neg pe_int) (fun _ _ => rfl)) (pe_lst pa_nil) ⟨rfl, rfl, rfl, rfl⟩)) (pg_name (i := 3) scRF.nd rfl (Or.inl rfl))
        (jss_cons (js_yieldFrom (k := 4 * n + 1) T (pj_call ih (hr.mono (by omega)) rfl hmg kp hb .nil (pa_cons (pv 0) (pa_cons (pv 1) (pa_cons (pe_op op_catT (pv 2) (pe_tup (pa_cons (pe_ix ix_tup (pv 3) pe_int (fun _ _ => rfl)) pa_nil))) pa_nil)))) hr) jss_nil)) jss_nil), ?_⟩
    refine ⟨_, rfl, 1, rfl, t, b.map V.int, -1, _, rfl, rfl, SqT.of ht, lst_get hb0, _, rfl, rfl, _, rfl, Same.refl _, ?_⟩
    have fin := start (X := jcx P w K mg base ["going", "last", "beginning", "jump"] "runs_from" (defScope sRunsFrom) f cdv A outer s H op) (G := G) (tb := fun D rs σ H => tCallJ (spRF n) [] (tCons (tVar 0) (tCons (tVar 1) (tCons (tOp (rCatT K) (tVar 2) (tTup (tCons (tOp (rIxT K) (tVar 3) (tC (.int 1))) tNil))) tNil))) σ H fun rs1 H1 => Same H H1 ∧ ∃ rs2, rs = rs1 ++ rs2 ∧ ∀ H2, Same H1 H2 → D rs2 σ H2) (last := last) (rs := []) (fun v => runsF su last n (b ++ [v])) hb0 hg ht (fun _ _ => rfl) fun a ts H1 s1 ha hp i v rs' u H' tj N hi s2 hj k => by
      have sH : Same H H' := s1.trans s2
      refine ⟨_, rfl, _, rfl, _, rfl, _, rfl, tj, _, 1, _, rfl, rfl, SqT.of hj, rfl, by show 1 ≤ sizeLine; decide, fun p hp0 => ?_⟩
      have ht' : TupI H' t b := sH _ _ ht
      refine ⟨t, p, b.map V.int, [.int v], rfl, rfl, SqT.of (by rw [upd_ne (ne_of_none ht' hp0)]; exact ht'), SqT.of upd_same, by simpa using hb0, by rw [List.length_map]; show b.length + 1 ≤ sizeLine; rw [sizeLine_eq]; omega, fun z => by simp at z, fun _ p2 hp2 => ?_⟩
      have sm2 : Same H' (upd (upd H' p (.tup [.int v])) p2 (.tup (b.map V.int ++ [.int v]))) := fun c o e => by
        have e1 : upd H' p (.tup [.int v]) c = some o := by rw [upd_ne (ne_of_none e hp0)]; exact e
        rw [upd_ne (ne_of_none e1 hp2)]; exact e1
      have hin : v ∈ su (lst b) := List.mem_of_getElem? hi
      refine ⟨runsF su last n (b ++ [v]), ⟨g, last, p2, b ++ [v], su, rfl, hg.same (sH.trans sm2), by show _ = _; rw [List.map_append]; exact upd_same, by simp, by simp; omega, up, by rw [lst_snoc]; have := (up _ _ hin).1; have z : last - lst b ≤ ((n + 1 : Nat) : Int) := hl; omega, rfl⟩, sm2, rs', rfl, fun H2 s3 => k H2 (sm2.trans s3)⟩
    refine ite2 (fun c => ?_) (fun c => ?_)
    · have c' : lst b = last := by simpa using c
      exact ⟨_, rfl, Same.refl _, t, b, _, rfl, ht, by show (if lst b = last then [b] else []) ++ _ = _; rw [if_pos c']; rfl, fin⟩
    · have c' : ¬ lst b = last := by simpa using c
      have er : runsF su last (n + 1) b = (su (lst b)).flatMap fun v => runsF su last n (b ++ [v]) := by show (if lst b = last then [b] else []) ++ _ = _; rw [if_neg c']; rfl
      rw [er]
      exact fin
end
end K46
end
section
set_option maxHeartbeats 4000000
/-! V0: comprehensions that keep and map. -/
namespace K46
open PySem L2
theorem same_new {H : Hp} {a : Addr} {o : HO} (h : H a = none) : Same H (upd H a o) := fun b o' e => by rw [upd_ne (ne_of_none e h)]; exact e
theorem same_upd {H H1 : Hp} {a : Addr} {o : HO} (s : Same H H1) (h : H a = none) : Same H (upd H1 a o) := fun b o' e => by rw [upd_ne (ne_of_none e h)]; exact s _ _ e
theorem tk_more {α : Type} : ∀ {l : List α} {i : Nat} {x : α}, l[i]? = some x → l.take (i + 1) = l.take i ++ [x]
  | [], i, x, h => by simp at h
  | a :: l, 0, x, h => by
    have e : a = x := Option.some.inj h
    subst e
    rfl
  | a :: l, i + 1, x, h => by
    show a :: l.take (i + 1) = a :: l.take i ++ [x]
    rw [tk_more (l := l) (i := i) (x := x) h]
    rfl
/-- all but lists stands as before -/
def NL (H H' : Hp) : Prop := ∀ b o, H b = some o → (∀ xs, o ≠ .lst xs) → H' b = some o
theorem Same.nl {H H' : Hp} (h : Same H H') : NL H H' := fun b o e _ => h b o e
theorem Paired.snoc {α β : Type} {R : α → β → Prop} : ∀ {as : List α} {bs : List β} {a : α} {b : β}, Paired R as bs → R a b → Paired R (as ++ [a]) (bs ++ [b])
  | _, _, _, _, .nil, h => .cons h .nil
  | _, _, _, _, .cons x r, h => .cons x (Paired.snoc r h)
section
variable {J : It} {G : Hp → Prop} {Y : Nat → Hp → V → Hp → Prop} {α β : Type}
theorem lc_fm {ms : List α} (w : Walk J ms.length G Y) (keep : α → Bool) (f : α → β) (R : Hp → V → β → Prop) (mono : ∀ H H' v b, NL H H' → R H v b → R H' v b) {g : TG} {tt : TT} {te : TE} {vs : List Nat} {σ : L2.St} {H1 : Hp} {D : Addr} {Qd : Hp → Prop}
    (hD : H1 D = none) (hsz : ms.length < sizeLine) (hG : ∀ H, Same H1 H → G H)
    (hs : ∀ (i : Nat) (m : α) (x : V) (H H' : Hp) (Nx : Hp → Prop), ms[i]? = some m → Same H1 H → Y i H x H' → (keep m = false → ∀ H3, Same H H3 → Nx H3) →
      (keep m = true → ∀ H4 y, Same H H4 → R H4 y (f m) → ∃ acc, H4 D = some (.lst acc) ∧ acc.length < sizeLine ∧ Nx (upd H4 D (.lst (acc ++ [y])))) →
      g x (wipe σ vs) H' fun σ2 H2 => wipe σ2 vs = wipe σ vs ∧ tt σ2 H2 fun b H3 => if b = true then te σ2 H3 fun y H4 => ∃ acc, H4 D = some (.lst acc) ∧ acc.length < sizeLine ∧ Nx (upd H4 D (.lst (acc ++ [y]))) else Nx H3)
    (hd : ∀ H' ys, Same H1 H' → H' D = some (.lst ys) → Paired (fun v b => R H' v b) ys ((ms.filter keep).map f) → Qd H') :
    ∃ W : Nat → Nat → Hp → Prop, (∃ m, W 0 m (upd H1 D (.lst []))) ∧ ∀ i m H, W i m H →
      (J.stop i H ∧ Qd H) ∨ (J.go i H ∧ ∃ Nx : Hp → Prop, (∀ H', Nx H' → ∃ m', m' < m ∧ W (i + 1) m' H') ∧ ∀ x H', J.yld i H x H' → g x (wipe σ vs) H' fun σ2 H2 => wipe σ2 vs = wipe σ vs ∧ tt σ2 H2 fun b H3 =>
        if b = true then te σ2 H3 fun y H4 => ∃ acc, H4 D = some (.lst acc) ∧ acc.length < sizeLine ∧ Nx (upd H4 D (.lst (acc ++ [y]))) else Nx H3) := by
  refine lc_it w (fun i H => Same H1 H ∧ ∃ acc, H D = some (.lst acc) ∧ acc.length ≤ i ∧ Paired (fun v b => R H v b) acc (((ms.take i).filter keep).map f)) ⟨same_new hD, [], upd_same, Nat.le_refl _, .nil⟩ (fun i H _ h => hG H h.1) ?_ ?_
  · rintro i x H H' hi ⟨s1, acc, e, hl, hp⟩ y
    have em : ms[i]? = some ms[i] := List.getElem?_eq_getElem hi
    refine hs i ms[i] x H H' (fun H5 => Same H1 H5 ∧ ∃ acc, H5 D = some (.lst acc) ∧ acc.length ≤ i + 1 ∧ Paired (fun v b => R H5 v b) acc (((ms.take (i + 1)).filter keep).map f)) em s1 y ?_ ?_
    · intro hk H3 s3
      refine ⟨s1.trans s3, acc, s3 _ _ e, by omega, ?_⟩
      rw [tk_more em, List.filter_append, List.filter_cons, if_neg (by rw [hk]; exact Bool.false_ne_true), List.filter_nil, List.append_nil]
      exact Paired.mapP hp fun _ _ z => mono _ _ _ _ (Same.nl s3) z
    · intro hk H4 v s4 hv
      have e4 : H4 D = some (.lst acc) := s4 _ _ e
      refine ⟨acc, e4, by omega, ?_, _, upd_same, by rw [List.length_append]; simp; omega, ?_⟩
      · exact same_upd (s1.trans s4) hD
      · have nl : NL H4 (upd H4 D (.lst (acc ++ [v]))) := fun b o eb ho => by
          by_cases q : b = D
          · subst q; rw [e4] at eb; cases eb; exact absurd rfl (ho acc)
          · rw [upd_ne q]; exact eb
        rw [tk_more em, List.filter_append, List.filter_cons, if_pos hk, List.filter_nil, List.map_append]
        exact Paired.snoc (Paired.mapP hp fun _ _ z => mono _ _ _ _ nl (mono _ _ _ _ (Same.nl s4) z)) (mono _ _ _ _ nl hv)
  · rintro H ⟨s1, acc, e, _, hp⟩
    rw [List.take_length] at hp
    exact hd H acc s1 e hp
end
end K46
end
section
set_option maxHeartbeats 4000000
/-! V1: rows as data; dicts by rows; dict comprehensions. -/
namespace K46
open PySem L2 Ja
/-- a list of tuples of ints -/
structure Rows (H : Hp) (l : Addr) (rs : List (List Int)) : Prop where
  ex : ∃ ts : List Addr, H l = some (.lst (ts.map V.ref)) ∧ Paired (fun t r => TupI H t r) ts rs
theorem Rows.same {H H' : Hp} {l : Addr} {rs : List (List Int)} (h : Rows H l rs) (e : Same H H') : Rows H' l rs := by
  obtain ⟨ts, h1, h2⟩ := h.ex
  exact ⟨ts, e _ _ h1, Paired.mapP h2 fun _ _ y => e _ _ y⟩
/-- .. from what a comprehension leaves -/
theorem Rows.of {H : Hp} {l : Addr} {ys : List V} {rs : List (List Int)} (h : H l = some (.lst ys)) (p : Paired (fun v r => ∃ t, v = .ref t ∧ TupI H t r) ys rs) : Rows H l rs := by
  have : ∀ {ys : List V} {rs : List (List Int)}, Paired (fun v r => ∃ t, v = .ref t ∧ TupI H t r) ys rs → ∃ ts : List Addr, ys = ts.map V.ref ∧ Paired (fun t r => TupI H t r) ts rs := by
    intro ys rs p
    induction p with
    | nil => exact ⟨[], rfl, .nil⟩
    | cons h t ih =>
      obtain ⟨ts, e, q⟩ := ih
      obtain ⟨t, rfl, ht⟩ := h
      exact ⟨t :: ts, by rw [e]; rfl, .cons ht q⟩
  obtain ⟨ts, e, q⟩ := this p
  exact ⟨ts, by rw [h, e], q⟩
theorem Rows.len {H : Hp} {l : Addr} {rs : List (List Int)} {ts : List Addr} (h : Paired (fun t r => TupI H t r) ts rs) : ts.length = rs.length := Paired.length h
/-- ints as data -/
abbrev dI (r : List Int) : PyData := .tuple (r.map PyData.int)
theorem dpI {K : PySem.W.Frag} {H : Hp} : ∀ r : List Int, DpAll K H (r.map V.int) (r.map PyData.int)
  | [] => .nil
  | i :: r => .cons (.int i) (dpI r)
theorem TupI.dp {K : PySem.W.Frag} {H : Hp} {t : Addr} {r : List Int} (h : TupI H t r) : Dp K H (.ref t) (dI r) := .tup (SqT.of h) (dpI r)
theorem Rows.dp {K : PySem.W.Frag} {H : Hp} {l : Addr} {rs : List (List Int)} (h : Rows H l rs) : Dp K H (.ref l) (.list (rs.map dI)) := by
  obtain ⟨ts, h1, h2⟩ := h.ex
  refine .lst (SqL.of h1) ?_
  have : ∀ {ts : List Addr} {rs : List (List Int)}, Paired (fun t r => TupI H t r) ts rs → DpAll K H (ts.map V.ref) (rs.map dI) := by
    intro ts rs p
    induction p with
    | nil => exact .nil
    | cons h t ih => exact .cons h.dp ih
  exact this h2
theorem eqvI : ∀ a b : List Int, PyData.eqvAll (a.map PyData.int) (b.map PyData.int) = decide (a = b)
  | [], [] => rfl
  | [], _ :: _ => rfl
  | _ :: _, [] => rfl
  | i :: a, j :: b => by
    show (PyData.eqv (.int i) (.int j) && PyData.eqvAll (a.map PyData.int) (b.map PyData.int)) = _
    rw [eqvI a b]
    show (decide (i = j) && decide (a = b)) = _
    by_cases h1 : i = j <;> by_cases h2 : a = b <;> simp [h1, h2]
theorem eqv_dI (a b : List Int) : PyData.eqv (dI a) (dI b) = decide (a = b) := eqvI a b
theorem any_dI (rs : List (List Int)) (r : List Int) : ((rs.map dI).any fun z => PyData.eqv z (dI r)) = decide (r ∈ rs) := by
  induction rs with
  | nil => simp
  | cons a rs ih =>
    rw [List.map_cons, List.any_cons, ih, eqv_dI]
    by_cases h1 : a = r
    · subst h1; simp
    · have h2 : ¬ r = a := fun e => h1 e.symm
      by_cases h3 : r ∈ rs <;> simp [h1, h2, h3]
theorem eqv_rows : ∀ a b : List (List Int), PyData.eqvAll (a.map dI) (b.map dI) = decide (a = b)
  | [], [] => rfl
  | [], _ :: _ => rfl
  | _ :: _, [] => rfl
  | i :: a, j :: b => by
    show (PyData.eqv (dI i) (dI j) && PyData.eqvAll (a.map dI) (b.map dI)) = _
    rw [eqv_rows a b, eqv_dI]
    by_cases h1 : i = j <;> by_cases h2 : a = b <;> simp [h1, h2]
theorem layI : ∀ r : List Int, PyData.canLayAll0 (r.map PyData.int) = true
  | [] => by simp [PyData.canLayAll0]
  | i :: r => by simp [PyData.canLayAll0, PyData.canLay0, layI r]
theorem depI : ∀ r : List Int, PyData.depthAll (r.map PyData.int) = 0
  | [] => by simp [PyData.depthAll]
  | i :: r => by simp [PyData.depthAll, PyData.depth, depI r]
theorem layR : ∀ rs : List (List Int), PyData.canLayAll0 (rs.map dI) = true
  | [] => by simp [PyData.canLayAll0]
  | i :: r => by simp [PyData.canLayAll0, PyData.canLay0, layI, layR r]
theorem depR : ∀ rs : List (List Int), PyData.depthAll (rs.map dI) ≤ 1
  | [] => by simp [PyData.depthAll]
  | i :: r => by simp [PyData.depthAll, PyData.depth, depI, depR r]
theorem shI (r : List Int) : SeqAt.shaped (dI r) = true := by
  unfold SeqAt.shaped
  rw [Bool.and_eq_true]
  exact ⟨by simp [PyData.canLay0, layI], decide_eq_true (by simp [PyData.depth, depI])⟩
theorem shR (rs : List (List Int)) : SeqAt.shaped (.list (rs.map dI)) = true := by
  unfold SeqAt.shaped
  rw [Bool.and_eq_true]
  exact ⟨by simp [PyData.canLay0, layR], decide_eq_true (by have := depR rs; simp only [PyData.depth]; omega)⟩
/-- x in rows, as the rule's reading asks -/
theorem inR {K : PySem.W.Frag} {H : Hp} {t l : Addr} {r : List Int} {rs : List (List Int)} {Q : VK} (ht : TupI H t r) (hl : Rows H l rs) (q : Q (.bl (decide (r ∈ rs))) H) : rInD K (.ref t) (.ref l) H Q :=
  ⟨_, _, ht.dp, hl.dp, shI r, shR rs, by rw [any_dI]; exact q⟩
theorem notInR {K : PySem.W.Frag} {H : Hp} {t l : Addr} {r : List Int} {rs : List (List Int)} {Q : VK} (ht : TupI H t r) (hl : Rows H l rs) (q : Q (.bl (!decide (r ∈ rs))) H) : rNotInD K (.ref t) (.ref l) H Q :=
  ⟨_, _, ht.dp, hl.dp, shI r, shR rs, by rw [any_dI]; exact q⟩
theorem eqR {K : PySem.W.Frag} {H : Hp} {k l : Addr} {rs ss : List (List Int)} {Q : VK} (hk : Rows H k rs) (hl : Rows H l ss) (q : Q (.bl (decide (rs = ss))) H) : rEqD K (.ref k) (.ref l) H Q :=
  ⟨_, _, hk.dp, hl.dp, shR rs, shR ss, by show Q (.bl (PyData.eqvAll _ _)) H; rw [eqv_rows]; exact q⟩
theorem neR {K : PySem.W.Frag} {H : Hp} {k l : Addr} {rs ss : List (List Int)} {Q : VK} (hk : Rows H k rs) (hl : Rows H l ss) (q : Q (.bl (!decide (rs = ss))) H) : rNeD K (.ref k) (.ref l) H Q :=
  ⟨_, _, hk.dp, hl.dp, shR rs, shR ss, by show Q (.bl (!PyData.eqvAll _ _)) H; rw [eqv_rows]; exact q⟩
/-! ### dicts by rows -/
theorem keyOf_inj {a b : List Int} (h : keyOf a = keyOf b) : a = b := by rw [← unKey_keyOf a, h, unKey_keyOf]
section
variable {β : Type}
def look (m : List (List Int × β)) (r : List Int) : Option β := (m.find? fun p => decide (p.1 = r)).map (·.2)
def putM (m : List (List Int × β)) (r : List Int) (v : β) : List (List Int × β) :=
  if (m.any fun p => decide (p.1 = r)) = true then m.map (fun p => if p.1 = r then (p.1, v) else p) else m ++ [(r, v)]
abbrev dM (g : β → V) (m : List (List Int × β)) : List (List L2.Key × V) := m.map fun p => (keyOf p.1, g p.2)
theorem look_V (g : β → V) (m : List (List Int × β)) (r : List Int) : valV (dM g m) (keyOf r) = (look m r).map g := by
  induction m with
  | nil => rfl
  | cons p m ih =>
    by_cases e : p.1 = r
    · show valV ((keyOf p.1, g p.2) :: dM g m) (keyOf r) = _
      rw [valV_pos (congrArg keyOf e)]
      simp [look, List.find?_cons, e]
    · show valV ((keyOf p.1, g p.2) :: dM g m) (keyOf r) = _
      rw [valV_neg (fun z => e (keyOf_inj z)), ih]
      simp [look, List.find?_cons, e]
theorem any_V (g : β → V) (m : List (List Int × β)) (r : List Int) : ((dM g m).any fun kv => decide (kv.1 = keyOf r)) = m.any fun p => decide (p.1 = r) := by
  rw [List.any_map]
  congr 1
  funext p
  by_cases e : p.1 = r
  · simp [e]
  · have : ¬ keyOf p.1 = keyOf r := fun z => e (keyOf_inj z)
    simp only [Function.comp, decide_eq_false e, decide_eq_false this]
theorem put_V (g : β → V) (m : List (List Int × β)) (r : List Int) (v : β) : putK (dM g m) (keyOf r) (g v) = dM g (putM m r v) := by
  unfold putK putM
  rw [any_V]
  by_cases h : (m.any fun p => decide (p.1 = r)) = true
  · rw [if_pos h, if_pos h]
    unfold dM
    rw [List.map_map, List.map_map]
    refine List.map_congr_left fun p _ => ?_
    by_cases e : p.1 = r
    · simp [e]
    · have : ¬ keyOf p.1 = keyOf r := fun z => e (keyOf_inj z)
      simp only [Function.comp, if_neg e, if_neg this]
  · rw [if_neg h, if_neg h]
    unfold dM
    rw [List.map_append]
    rfl
theorem look_any (m : List (List Int × β)) (r : List Int) : (look m r).isSome = m.any fun p => decide (p.1 = r) := by
  induction m with
  | nil => rfl
  | cons p m ih =>
    by_cases e : p.1 = r
    · simp [look, List.find?_cons, e]
    · rw [List.any_cons, ← ih]
      simp [look, List.find?_cons, e]
theorem look_none {m : List (List Int × β)} {r : List Int} : look m r = none ↔ r ∉ m.map (·.1) := by
  have h := look_any m r
  constructor
  · intro e hm
    rw [e] at h
    obtain ⟨p, hp, e2⟩ := List.mem_map.mp hm
    have : (m.any fun p => decide (p.1 = r)) = true := List.any_eq_true.mpr ⟨p, hp, decide_eq_true e2⟩
    rw [this] at h
    cases h
  · intro hn
    cases q : look m r with
    | none => rfl
    | some v =>
      rw [q] at h
      obtain ⟨p, hp, e2⟩ := List.any_eq_true.mp h.symm
      exact absurd (List.mem_map.mpr ⟨p, hp, of_decide_eq_true e2⟩) hn
theorem putM_new {m : List (List Int × β)} {r : List Int} (v : β) (h : r ∉ m.map (·.1)) : putM m r v = m ++ [(r, v)] := by
  unfold putM
  rw [if_neg]
  intro z
  obtain ⟨p, hp, e2⟩ := List.any_eq_true.mp z
  exact h (List.mem_map.mpr ⟨p, hp, of_decide_eq_true e2⟩)
theorem putM_keys (m : List (List Int × β)) (r : List Int) (v : β) : (putM m r v).map (·.1) = if r ∈ m.map (·.1) then m.map (·.1) else m.map (·.1) ++ [r] := by
  by_cases h : r ∈ m.map (·.1)
  · rw [if_pos h]
    unfold putM
    rw [if_pos]
    · rw [List.map_map]
      refine List.map_congr_left fun p _ => ?_
      by_cases e : p.1 = r <;> simp [e]
    · obtain ⟨p, hp, e2⟩ := List.mem_map.mp h
      exact List.any_eq_true.mpr ⟨p, hp, decide_eq_true e2⟩
  · rw [if_neg h, putM_new v h, List.map_append]
    rfl
theorem look_put (m : List (List Int × β)) (r s : List Int) (v : β) : look (putM m r v) s = if s = r then some v else look m s := by
  have z := valV_put (κ := List L2.Key) (dM (fun _ => V.non) m) (keyOf r) (keyOf s) V.non
  by_cases h : r ∈ m.map (·.1)
  · have ha : (m.any fun p => decide (p.1 = r)) = true := by
      obtain ⟨p, hp, e2⟩ := List.mem_map.mp h
      exact List.any_eq_true.mpr ⟨p, hp, decide_eq_true e2⟩
    clear z
    unfold putM
    rw [if_pos ha]
    clear ha
    induction m with
    | nil => simp at h
    | cons p m ih =>
      by_cases e : p.1 = r
      · by_cases es : s = r
        · subst es
          simp [look, List.find?_cons, e]
        · rw [if_neg es]
          have e1 : ¬ r = s := fun z => es z.symm
          have e2 : ¬ p.1 = s := fun z => es (z.symm.trans e)
          have hh : ∀ m : List (List Int × β), look (m.map fun p => if p.1 = r then (p.1, v) else p) s = look m s := by
            intro m
            induction m with
            | nil => rfl
            | cons q m ih2 =>
              by_cases eq : q.1 = r
              · have : ¬ q.1 = s := fun z => es (z.symm.trans eq)
                unfold look at ih2 ⊢
                rw [List.map_cons, if_pos eq, List.find?_cons, List.find?_cons]
                simp only [decide_eq_false this]
                exact ih2
              · unfold look at ih2 ⊢
                rw [List.map_cons, if_neg eq, List.find?_cons, List.find?_cons]
                cases decide (q.1 = s)
                · exact ih2
                · rfl
          exact hh (p :: m)
      · have hm : r ∈ m.map (·.1) := by
          rcases List.mem_cons.mp h with z | z
          · exact absurd z.symm e
          · exact z
        have ih := ih hm
        unfold look at ih ⊢
        rw [List.map_cons, if_neg e, List.find?_cons, List.find?_cons]
        by_cases es : p.1 = s
        · have : ¬ s = r := fun z => e (es.trans z)
          simp only [decide_eq_true es, if_neg this]
        · simp only [decide_eq_false es]
          exact ih
  · clear z
    rw [putM_new v h]
    have hn := look_none.mpr h
    unfold look at hn ⊢
    rw [List.find?_append]
    by_cases es : s = r
    · subst es
      rw [if_pos rfl]
      cases q : List.find? (fun p => decide (p.1 = s)) m with
      | none => simp [List.find?_cons]
      | some x => rw [q] at hn; cases hn
    · rw [if_neg es]
      have e1 : ¬ r = s := fun z => es z.symm
      cases q : List.find? (fun p => decide (p.1 = s)) m with
      | none => simp [List.find?_cons, e1]
      | some x => simp
end
/-! ### dict comprehensions, keys tuples that differ -/
theorem valV_new {kvs : List (List L2.Key × V)} {k : List L2.Key} (h : k ∉ kvs.map (·.1)) : valV kvs k = none := by
  cases q : valV kvs k with
  | none => rfl
  | some v => exact absurd (valV_in q) h
section
variable {J : It} {G : Hp → Prop} {Y : Nat → Hp → V → Hp → Prop} {α : Type}
theorem dc_fm {ms : List α} (w : Walk J ms.length G Y) (keep : α → Bool) (key : α → List Int) (val : α → V) {g : TG} {tt : TT} {tk tv : TE} {vs : List Nat} {σ : L2.St} {H1 : Hp} {D : Addr} {Qd : Hp → Prop}
    (hD : H1 D = none) (hsz : ms.length < sizeLine) (hnd : ((ms.filter keep).map key).Nodup) (hG : ∀ H, Same H1 H → G H)
    (hs : ∀ (i : Nat) (m : α) (x : V) (H H' : Hp) (Nx : Hp → Prop), ms[i]? = some m → Same H1 H → Y i H x H' → (keep m = false → ∀ H3, Same H H3 → Nx H3) →
      (keep m = true → ∀ H5 q, Same H H5 → TupI H5 q (key m) → ∃ H6, DPut H5 D (.ref q) (val m) H6 ∧ Nx H6) →
      g x (wipe σ vs) H' fun σ2 H2 => wipe σ2 vs = wipe σ vs ∧ tt σ2 H2 fun b H3 => if b = true then tk σ2 H3 fun y H4 => tv σ2 H4 fun z H5 => ∃ H6, DPut H5 D y z H6 ∧ Nx H6 else Nx H3)
    (hd : ∀ H', Same H1 H' → H' D = some (.dT ((ms.filter keep).map fun m => (keyOf (key m), val m))) → Qd H') :
    ∃ W : Nat → Nat → Hp → Prop, (∃ m, W 0 m (upd H1 D (.dT []))) ∧ ∀ i m H, W i m H →
      (J.stop i H ∧ Qd H) ∨ (J.go i H ∧ ∃ Nx : Hp → Prop, (∀ H', Nx H' → ∃ m', m' < m ∧ W (i + 1) m' H') ∧ ∀ x H', J.yld i H x H' → g x (wipe σ vs) H' fun σ2 H2 => wipe σ2 vs = wipe σ vs ∧ tt σ2 H2 fun b H3 =>
        if b = true then tk σ2 H3 fun y H4 => tv σ2 H4 fun z H5 => ∃ H6, DPut H5 D y z H6 ∧ Nx H6 else Nx H3) := by
  refine ⟨fun i m H => m = ms.length - i ∧ i ≤ ms.length ∧ Same H1 H ∧ H D = some (.dT (((ms.take i).filter keep).map fun m => (keyOf (key m), val m))), ⟨_, rfl, Nat.zero_le _, same_new hD, upd_same⟩, ?_⟩
  rintro i m H ⟨rfl, hi, s1, e⟩
  have q := hG H s1
  by_cases hlt : i < ms.length
  · have em : ms[i]? = some ms[i] := List.getElem?_eq_getElem hlt
    refine .inr ⟨w.goes i H hlt q, fun H5 => Same H1 H5 ∧ H5 D = some (.dT (((ms.take (i + 1)).filter keep).map fun m => (keyOf (key m), val m))), fun H' p' => ⟨ms.length - (i + 1), by omega, rfl, hlt, p'⟩, fun x H' y => ?_⟩
    refine hs i ms[i] x H H' _ em s1 (w.yields i H x H' hlt q y) ?_ ?_
    · intro hk H3 s3
      refine ⟨s1.trans s3, ?_⟩
      rw [tk_more em, List.filter_append, List.filter_cons, if_neg (by rw [hk]; exact Bool.false_ne_true), List.filter_nil, List.append_nil]
      exact s3 _ _ e
    · intro hk H5 p s5 hp
      have e5 := s5 _ _ e
      have hk2 : (H5 p) = some (.tup ((keyOf (key ms[i])).map kV)) := by rw [keyOf_V]; exact hp
      have hf : (ms.take (i + 1)).filter keep = (ms.take i).filter keep ++ [ms[i]] := by
        rw [tk_more em, List.filter_append, List.filter_cons, if_pos hk, List.filter_nil]
      have hnin : key ms[i] ∉ ((ms.take i).filter keep).map key := by
        have h0 : ((ms.filter keep).map key) = (((ms.take (i + 1)).filter keep).map key) ++ (((ms.drop (i + 1)).filter keep).map key) := by
          rw [← List.map_append, ← List.filter_append, List.take_append_drop]
        rw [h0, hf, List.map_append] at hnd
        have h1 := (List.nodup_append.mp hnd).1
        have h2 := (List.nodup_append.mp h1).2.2
        exact fun hm => h2 _ hm _ (by simp) rfl
      refine ⟨_, DPut.t (k := keyOf (key ms[i])) e5 hk2 (by rw [List.length_map]; exact Nat.lt_of_le_of_lt (Nat.le_trans (List.length_filter_le ..) (by rw [List.length_take]; omega)) hsz), same_upd (s1.trans s5) hD, ?_⟩
      rw [upd_same, putK_new _ (valV_new ?_), hf, List.map_append]
      · rfl
      · rw [List.map_map]
        intro hm
        obtain ⟨m2, h1, h2⟩ := List.mem_map.mp hm
        exact hnin (List.mem_map.mpr ⟨m2, h1, keyOf_inj h2⟩)
  · have ei : i = ms.length := by omega
    subst ei
    rw [List.take_length] at e
    exact .inl ⟨w.stops H q, hd H s1 e⟩
end
end K46
end
section
set_option maxHeartbeats 4000000
/-! W1: words of the heap; is_integer, within, is_jump, jumps_of. -/
namespace K46
open PySem L2 Ja
open C8 (Cal Met Mak Def fnScope fnBody fnArgs fnScope_by cal0 met0 mak0 pe_c pe_mk pe_mt pe_mt0 pe_gc scC)
/-- an if whose test is known -/
theorem ift {c : Bool} {A B : Prop} (hc : c = true) (h : A) : if c = true then A else B := by
  rw [if_pos hc]; exact h
theorem iff {c : Bool} {A B : Prop} (hc : c = false) (h : B) : if c = true then A else B := by
  rw [hc, if_neg Bool.false_ne_true]; exact h
theorem ifb {c : Bool} {A B : Prop} (h1 : c = true → A) (h2 : c = false → B) : if c = true then A else B := by
  cases c
  · exact iff rfl (h2 rfl)
  · exact ift rfl (h1 rfl)
/-- the builtins stand -/
structure Tb (mg : Str → Option Value) : Prop where
  isinstance : mg "isinstance" = none
  int : mg "int" = none
  bool : mg "bool" = none
  tuple : mg "tuple" = none
  list : mg "list" = none
  len : mg "len" = none
  all : mg "all" = none
  zip : mg "zip" = none
  range : mg "range" = none
  enumerate : mg "enumerate" = none
  sorted : mg "sorted" = none
  max : mg "max" = none
  min : mg "min" = none
  abs : mg "abs" = none
  repr : mg "repr" = none
/-- what a value may be in a tuple that one asks about -/
inductive Atom : V → Prop where
  | non : Atom .non
  | bl (b : Bool) : Atom (.bl b)
  | int (i : Int) : Atom (.int i)
def isI : V → Bool
  | .int _ => true
  | _ => false
def inV (v : V) (lo hi : Int) : Bool := match v with
  | .int i => decide (lo ≤ i) && decide (i ≤ hi)
  | _ => false
def jmpV (n : Int) (x y : V) : Bool := match x, y with
  | .int u, .int v => (inV x 0 (n - 1) && inV y 0 (n - 1)) && decide (u < v)
  | _, _ => false
abbrev DI (H : Hp) (d : Addr) (m : List (List Int × Int)) : Prop := H d = some (.dT (m.map fun p => (keyOf p.1, V.int p.2)))
abbrev DB (H : Hp) (d : Addr) (ks : List (List Int)) : Prop := H d = some (.dT (ks.map fun k => (keyOf k, V.bl true)))
def spInteger : Sp := fun vs H Q _ => ∃ v, vs = [v] ∧ Atom v ∧ Q (.bl (isI v)) H
def spWithin : Sp := fun vs H Q _ => ∃ v lo hi, vs = [v, .int lo, .int hi] ∧ Atom v ∧ Q (.bl (inV v lo hi)) H
def spIsJump : Sp := fun vs H Q _ => ∃ t n x y, vs = [.ref t, .int n] ∧ H t = some (.tup [x, y]) ∧ Atom x ∧ Atom y ∧ ∀ H', Same H H' → Q (.bl (jmpV n x y)) H'
/-- the pairs that stand side by side -/
def stepsV : List V → List (V × V)
  | x :: y :: r => (x, y) :: stepsV (y :: r)
  | _ => []
def spJumpsOf : Sp := fun vs H Q _ => ∃ t xs, vs = [.ref t] ∧ H t = some (.tup xs) ∧ 2 ≤ xs.length ∧ ∀ H' l ts, Same H H' → H l = none → H' l = some (.lst (ts.map V.ref)) → Paired (fun t p => H' t = some (.tup [p.1, p.2])) ts (stepsV xs) → Q (.ref l) H'
section
variable {P : Program} {w : World} {K : PySem.W.Frag} {mg : Str → Option Value} {base : Heap} {f : Addr} {fd : FuncData}
theorem w_is_integer (T : Tb mg) (F : Def K mg "is_integer" sInteger f fd) (b : Binds K fd ["value"] []) : Cal P w K mg base 1 "is_integer" spInteger [] := by
  have sc : FnScope ["value"] ["value"] (fnScope sInteger) := fnScope_by (by decide +kernel)
  refine cal0 F b .nil sc (fun vs H Q E h => by obtain ⟨_, rfl, _⟩ := h; rfl) fun cdv A outer s H vs Q E hr h => ?_
  obtain ⟨v, rfl, hv, k⟩ := h
  refine ⟨_, (pss_one (ps_ret (pe_and (pe_callB call_isi (by rfl) T.isinstance PyProof.Rows.boot_isinstance (pa_cons (pv 0) (pa_cons (pe_bltn (v := .ty "int") (by rfl) T.int PyProof.Rows.boot_int rfl) pa_nil))) (pe_one (pe_not (pe_callB call_isi (by rfl) T.isinstance PyProof.Rows.boot_isinstance (pa_cons (pv 0) (pa_cons (pe_bltn (v := .ty "bool") (by rfl) T.bool PyProof.Rows.boot_bool rfl) pa_nil)))))))), ?_⟩
  cases hv with
  | non =>
    refine ⟨_, rfl, _, _, _, _, false, rfl, .ty _, .base .non, kit_ty (by decide +kernel), _, rfl, ?_⟩
    exact k
  | bl c =>
    refine ⟨_, rfl, _, _, _, _, true, rfl, .ty _, .base (.bl _), kit_ty (by decide +kernel), _, rfl, ?_⟩
    refine ⟨_, rfl, _, _, _, _, true, rfl, .ty _, .base (.bl _), kit_ty (by decide +kernel), _, rfl, ?_⟩
    exact k
  | int i =>
    refine ⟨_, rfl, _, _, _, _, true, rfl, .ty _, .base (.int _), kit_ty (by decide +kernel), _, rfl, ?_⟩
    refine ⟨_, rfl, _, _, _, _, false, rfl, .ty _, .base (.int _), kit_ty (by decide +kernel), _, rfl, ?_⟩
    exact k
theorem w_within (c_is_integer : Cal P w K mg base 1 "is_integer" spInteger []) (F : Def K mg "within" sWithin f fd) (b : Binds K fd ["value", "low", "high"] []) : Cal P w K mg base 2 "within" spWithin [] := by
  have sc : FnScope ["value", "low", "high"] ["value", "low", "high"] (fnScope sWithin) := fnScope_by (by decide +kernel)
  refine cal0 F b .nil sc (fun vs H Q E h => by obtain ⟨_, _, _, rfl, _⟩ := h; rfl) fun cdv A outer s H vs Q E hr h => ?_
  obtain ⟨v, lo, hi, rfl, hv, k⟩ := h
  refine ⟨_, (pss_one (ps_ret (pe_and (pe_c c_is_integer hr (by decide) rfl (pa_cons (pv 0) pa_nil)) (pe_one (pe_chain op_le op_le (pv 1) (pv 0) (pv 2)))))), ?_⟩
  refine ⟨_, rfl, v, rfl, hv, _, rfl, ?_⟩
  cases hv with
  | non => exact k
  | bl c => exact k
  | int i =>
    refine ⟨_, rfl, _, rfl, _, _, rfl, rfl, _, rfl, ?_⟩
    by_cases c : lo ≤ i
    · refine ift (decide_eq_true c) ⟨_, rfl, _, _, rfl, rfl, ?_⟩
      have e : inV (.int i) lo hi = decide (i ≤ hi) := by show (decide (lo ≤ i) && decide (i ≤ hi)) = _; rw [decide_eq_true c]; rfl
      rw [e] at k
      exact k
    · refine iff (decide_eq_false c) ?_
      have e : inV (.int i) lo hi = false := by show (decide (lo ≤ i) && decide (i ≤ hi)) = _; rw [decide_eq_false c]; rfl
      rw [e] at k
      exact k
theorem all2 (a b : Bool) : [a, b].all id = (a && b) := by cases a <;> cases b <;> rfl
theorem w_is_jump (T : Tb mg) (c_within : Cal P w K mg base 2 "within" spWithin []) (F : Def K mg "is_jump" sIsJump f fd) (b : Binds K fd ["value", "blocks"] []) : Cal P w K mg base 3 "is_jump" spIsJump [] := by
  have sc : FnScope ["value", "blocks", "block"] ["value", "blocks"] (fnScope sIsJump) := fnScope_by (by decide +kernel)
  refine cal0 F b .nil sc (fun vs H Q E h => by obtain ⟨_, _, _, _, rfl, _⟩ := h; rfl) fun cdv A outer s H vs Q E hr h => ?_
  obtain ⟨t, n, x, y, rfl, ht, hx, hy, k⟩ := h
  refine ⟨_, (pss_cons (ps_if (PW.pt (pw_or (pt_not (pt_val (pe_callB call_isi (by rfl) T.isinstance PyProof.Rows.boot_isinstance (pa_cons (pv 0) (pa_cons (pe_bltn (v := .ty "tuple") (by rfl) T.tuple PyProof.Rows.boot_tuple rfl) pa_nil))))) (pw_or1 (pt_cmpR op_ne (pe_callB call_len (by rfl) T.len PySem.boot_len (pa_cons (pv 0) pa_nil)) pe_int (nomark _))))) (pss_one (ps_ret pe_bl)) pss_nil)
  (pss_one (ps_ret (pe_and (pe_callB (cr_all rfl) (by rfl) T.all PyProof.Rows.boot_all (pa_cons (pe_lc (own := [("block", 2)]) rfl sc.nd (pi_tup (pv 0)) (blkOk_by (own := [("block", 2)]) (N := ["value", "blocks", "block"]) (sc := fnScope sIsJump) (by decide +kernel)) (fun _ _ _ _ _ => (pg_name (i := 2) sc.nd rfl (Or.inl rfl))) (fun _ _ _ _ _ => pts_nil) (fun _ _ _ _ _ => (pe_c c_within hr (by decide) rfl (pa_cons (pv 2) (pa_cons pe_int (pa_cons (pe_op op_sub (pv 1) pe_int) pa_nil)))))) pa_nil)) (pe_one (pe_cmpR op_lt (pe_ix ix_tup (pv 0) pe_int (fun _ _ => rfl)) (pe_ix ix_tup (pv 0) pe_int (fun _ _ => rfl)) (nomark _))))))), ?_⟩
  refine ⟨_, rfl, _, _, _, _, true, rfl, .ty _, .base (.tup ht), kit_ty (by decide +kernel), _, rfl, ?_⟩
  refine ⟨_, rfl, _, 2, rfl, .inr ⟨_, SqT.of ht, rfl⟩, rfl, _, rfl, ?_⟩
  refine ⟨_, rfl, t, rfl, ⟨_, SqT.of ht⟩, fun D hD => ?_⟩
  refine lc_fm (ms := [x, y]) walk_tup (fun _ => true) (fun z => inV z 0 (n - 1)) (fun _ v b => v = .bl b) (fun _ _ _ _ _ h => h) hD (by show 2 < sizeLine; decide) (fun H' s => SqT.of (s _ _ ht)) ?_ ?_
  · rintro i z x' H' _ Nx hi s1 ⟨rfl, hx'⟩ _ kT
    obtain rfl : x' = z := Option.some.inj (hx'.symm.trans hi)
    have hz : Atom x' := by
      have : x' ∈ [x, y] := List.mem_of_getElem? hi
      simp only [List.mem_cons, List.not_mem_nil, or_false] at this
      rcases this with rfl | rfl <;> assumption
    refine ⟨rfl, ?_⟩
    exact ⟨_, rfl, _, rfl, _, _, rfl, rfl, x', 0, n - 1, rfl, hz, kT rfl _ _ (Same.refl _) rfl⟩
  · rintro H' ys s1 hD' hp
    have hys : ys = [inV x 0 (n - 1), inV y 0 (n - 1)].map V.bl := by
      cases hp with
      | cons a r => cases r with
        | cons b r => cases r with
          | nil => subst a b; rfl
    refine ⟨D, [inV x 0 (n - 1), inV y 0 (n - 1)], rfl, SqL.of (by rw [hD', hys]), _, rfl, ?_⟩
    rw [all2]
    have ht' := s1 _ _ ht
    refine ifb (fun c => ?_) (fun c => ?_)
    · cases hx with
      | non => cases c
      | bl => cases c
      | int u => cases hy with
        | non => simp [inV] at c
        | bl => simp [inV] at c
        | int v =>
          refine ⟨_, rfl, t, _, 0, _, rfl, rfl, SqT.of ht', rfl, _, rfl, t, _, 1, _, rfl, rfl, SqT.of ht', rfl, _, _, rfl, rfl, ?_⟩
          have e : jmpV n (.int u) (.int v) = decide (u < v) := by show ((inV (.int u) 0 (n - 1) && inV (.int v) 0 (n - 1)) && decide (u < v)) = _; rw [c]; rfl
          have z := k _ s1
          rw [e] at z
          exact z
    · have e : jmpV n x y = false := by
        cases hx with
        | non => rfl
        | bl => rfl
        | int u => cases hy with
          | non => rfl
          | bl => rfl
          | int v => show ((inV (.int u) 0 (n - 1) && inV (.int v) 0 (n - 1)) && decide (u < v)) = _; rw [c]; rfl
      have z := k _ s1
      rw [e] at z
      exact z
/-- pairs of a list and its rest -/
theorem pairs_steps {H : Hp} : ∀ {xs : List V} {as : List Addr}, PairsL H xs (xs.drop 1) as → Paired (fun t p => H t = some (.tup [p.1, p.2])) as (stepsV xs)
  | [], as, ⟨h, _⟩ => by
    have : as = [] := List.length_eq_zero_iff.mp (by simpa using h)
    subst this; exact .nil
  | [x], as, ⟨h, _⟩ => by
    have : as = [] := List.length_eq_zero_iff.mp (by simpa using h)
    subst this; exact .nil
  | x :: y :: r, [], ⟨h, _⟩ => by simp at h
  | x :: y :: r, a :: as, ⟨h, q⟩ => by
    obtain ⟨x', y', e1, e2, e3⟩ := q 0 a rfl
    cases e1; cases e2
    refine .cons e3 (pairs_steps ⟨by simpa using h, fun j t hj => ?_⟩)
    obtain ⟨x', y', e1, e2, e3⟩ := q (j + 1) t (by simpa using hj)
    exact ⟨x', y', by simpa using e1, by simpa using e2, e3⟩
theorem cut1 (xs : List V) (h : 2 ≤ xs.length) : cutV xs (some 1) none = xs.drop 1 := by
  have e1 : HT.sIx xs.length 0 (some 1) = 1 := by unfold HT.sIx; simp; omega
  have e2 : HT.sIx xs.length xs.length none = xs.length := rfl
  unfold cutV
  rw [e1, e2, List.take_of_length_le (by rw [List.length_drop]; omega)]
theorem w_jumps_of (T : Tb mg) (F : Def K mg "jumps_of" sJumpsOf f fd) (b : Binds K fd ["run"] []) : Cal P w K mg base 1 "jumps_of" spJumpsOf [] := by
  have sc : FnScope ["run"] ["run"] (fnScope sJumpsOf) := fnScope_by (by decide +kernel)
  refine cal0 F b .nil sc (fun vs H Q E h => by obtain ⟨_, _, rfl, _⟩ := h; rfl) fun cdv A outer s H vs Q E hr h => ?_
  obtain ⟨t, xs, rfl, ht, hl, k⟩ := h
  refine ⟨_, pss_one (ps_ret (pe_listZip rfl (pa_cons (pv 0) (pa_cons (pe_slice sl_tup (pv 0) (po_some pe_int) po_none) pa_nil)) (by rfl) T.list (by rfl) T.zip)), ?_⟩
  refine ⟨_, rfl, _, rfl, _, rfl, t, xs, rfl, SqT.of ht, ?_, fun p hp => ?_⟩
  · have e1 : HT.sIx xs.length 0 (some 1) = 1 := by unfold HT.sIx; simp; omega
    rw [e1]; exact fun z => absurd z.1 (by decide)
  · rw [cut1 xs hl]
    refine ⟨t, p, xs, _, rfl, SqT.of (same_new hp _ _ ht), SqT.of upd_same, fun H' S as s1 hS e pl => ?_⟩
    exact k H' S as ((same_new hp).trans s1) ((same_new hp).free hS) e (pairs_steps pl)
end
end K46
end
section
set_option maxHeartbeats 4000000
/-! W2: Routine's methods. -/
namespace K46
open PySem Ja
open L2 hiding CX0 E0 pass0 Fun
open PySem.W (Frag findIn isFn fnIn)
open C8 (Cal Met Mak Def Fun CX0 E0 pass0 fnScope fnBody fnArgs fnScope_by cal0 met0 mak0 pe_c pe_mk pe_mt pe_mt0 pe_gc fn0)
/-- a method that the language itself calls -/
structure Dn (P : Program) (w : World) (K : Frag) (mg : Str → Option Value) (base : Heap) (k : Nat) (C : Addr) (name : Str) (sp : Sp) : Prop where
  ex : ∃ f fd ps, Dun K C name f ∧ fnIn K f = true ∧ FnOk P w K mg base CX0 k f fd ps sp ∧ Binds K fd ps []
section
variable {X : Cx} {k j : Nat} {C : Addr} {sp : Sp}
theorem o_in (c : Dn X.prog X.w X.K X.mg X.base k C "__contains__" sp) (hr : Room j X.A) (hk : k ≤ j) : OpR X (compareOp .In) (rInO C sp E0 id) := by
  obtain ⟨f, fd, ps, d, _, F, b⟩ := c.ex
  exact op_inO d F (hr.mono hk) b pass0
theorem o_notIn (c : Dn X.prog X.w X.K X.mg X.base k C "__contains__" sp) (hr : Room j X.A) (hk : k ≤ j) : OpR X (compareOp .NotIn) (rInO C sp E0 not) := by
  obtain ⟨f, fd, ps, d, _, F, b⟩ := c.ex
  exact op_notInO d F (hr.mono hk) b pass0
theorem o_eq {R : Addr → Addr → Hp → Prop} (c : Dn X.prog X.w X.K X.mg X.base k C "__eq__" (spEq R)) (hr : Room j X.A) (hk : k ≤ j) : OpR X (compareOp .Eq) (rEqG (DIns C R)) := by
  obtain ⟨f, fd, ps, d, _, F, b⟩ := c.ex
  exact op_eqG (rcG_ins (E := E0) F d.at_ d.fn b pass0) (hr.mono hk)
theorem pe_ixG {a b : Expr} {ta tb : TE} {pos : Pos} (c : Dn X.prog X.w X.K X.mg X.base k C "__getitem__" sp) (hr : Room j X.A) (hk : k + 1 ≤ j) (ha : PE X a ta) (hi : PE X b tb)
    (hsl : ∀ v u, subscripted b true v u = runValue (.builtin "lifetime.subscript" ⟨[v, u], []⟩) := by intro _ _; with_unfolding_all rfl) : PE X (.Subscript a b pos) (tOp (rIxO C sp E0) ta tb) := by
  obtain ⟨f, fd, ps, d, h, F, bb⟩ := c.ex
  exact pe_ixO d h F (hr.mono hk) bb pass0 ha hi hsl
theorem o_len (c : Dn X.prog X.w X.K X.mg X.base k C "__len__" sp) (hr : Room j X.A) (hk : k + 1 ≤ j) : CallR X (.builtin "len") (rLenO C sp E0) := by
  obtain ⟨f, fd, ps, d, _, F, b⟩ := c.ex
  exact call_lenO d F (hr.mono hk) b pass0
end
/-- the same within a comprehension's block -/
theorem ixT {X : Cx} {K : Frag} (h : X.K = K) : IxR X (rIxT K) := by subst h; exact ix_tup
theorem ixL {X : Cx} {K : Frag} (h : X.K = K) : IxR X (rIxL K) := by subst h; exact ix_list
theorem inDk {X : Cx} {K : Frag} (h : X.K = K) (hu : X.A.units + 65 < cLine) : OpR X (compareOp .In) (rInD K) := by subst h; exact op_inD hu
theorem notInDk {X : Cx} {K : Frag} (h : X.K = K) (hu : X.A.units + 65 < cLine) : OpR X (compareOp .NotIn) (rNotInD K) := by subst h; exact op_notInD hu
theorem vint (u i : Int) : decide (V.int u = V.int i) = decide (u = i) := by
  by_cases h : u = i
  · subst h; simp
  · have : ¬ V.int u = V.int i := fun z => h (V.int.inj z)
    rw [decide_eq_false h, decide_eq_false this]
theorem ft {α : Type} (l : List α) : l.filter (fun _ => true) = l := List.filter_eq_self.mpr fun _ _ => rfl
theorem atI0 {α : Type} (x : α) (xs : List α) : atI (x :: xs) 0 = some x := atI_nat (j := 0) rfl
theorem atI1 {α : Type} (x y : α) (xs : List α) : atI (x :: y :: xs) 1 = some y := atI_nat (j := 1) rfl
/-- facts of a class that instances of stand -/
structure Cl (K : Frag) (mg : Str → Option Value) (C : Addr) (x : Str) (fs : List Str) : Prop where
  cl : Cls K C
  na : ∀ f ∈ fs, NoAttr K C f
  isc : C8.InsC K C
  gl : mg x = some (.ref C)
  ne : findIn K (.ref C) "__ne__" = some (some (.builtin "object.__ne__"))
  mo : PySem.W.mroIn K C (.type "object") = some true
/-! ### the routine -/
/-- jumps of a routine of n blocks -/
structure Jr (n : Int) (rs : List (List Int)) : Prop where
  sh : ∀ r ∈ rs, ∃ u v : Int, r = [u, v] ∧ 0 ≤ u ∧ u < v ∧ v ≤ n - 1
  nd : rs.Nodup
abbrev Srt (rs : List (List Int)) : Prop := rs.Pairwise fun x y => HT.lexLt y x = false
structure Rt (C : Addr) (H : Hp) (a : Addr) (n : Int) (rs : List (List Int)) : Prop where
  jr : Jr n rs
  srt : Srt rs
  n2 : 2 ≤ n
  n40 : n ≤ 40
  l120 : rs.length ≤ 120
  ex : ∃ dx l d, H a = some (.ins C dx [("blocks", .int n), ("rows", .ref l), ("there", .ref d)]) ∧ Rows H l rs ∧ DB H d rs
theorem Rt.same {C : Addr} {H H' : Hp} {a : Addr} {n : Int} {rs : List (List Int)} (h : Rt C H a n rs) (e : Same H H') : Rt C H' a n rs := by
  obtain ⟨dx, l, d, h1, h2, h3⟩ := h.ex
  exact ⟨h.jr, h.srt, h.n2, h.n40, h.l120, dx, l, d, e _ _ h1, h2.same e, e _ _ h3⟩
/-- the same routine, told twice -/
theorem rows_inj {H : Hp} {l : Addr} {rs ss : List (List Int)} (h : Rows H l rs) (g : Rows H l ss) : rs = ss := by
  obtain ⟨ts, h1, h2⟩ := h.ex
  obtain ⟨us, g1, g2⟩ := g.ex
  rw [h1] at g1
  have e : ts = us := List.map_inj_right (f := V.ref) (fun _ _ e => V.ref.inj e) |>.mp (HO.lst.inj (Option.some.inj g1))
  subst e
  clear h1 g1 h g
  induction h2 generalizing ss with
  | nil => cases g2; rfl
  | cons h t ih => cases g2 with
    | cons g u =>
      have := h.symm.trans g
      have e := List.map_inj_right (f := V.int) (fun _ _ e => V.int.inj e) |>.mp (HO.tup.inj (Option.some.inj this))
      rw [e, ih u]
theorem Rt.inj {C : Addr} {H : Hp} {a : Addr} {n m : Int} {rs ss : List (List Int)} (h : Rt C H a n rs) (g : Rt C H a m ss) : n = m ∧ rs = ss := by
  obtain ⟨dx, l, d, h1, h2, h3⟩ := h.ex
  obtain ⟨ex, k, e, g1, g2, g3⟩ := g.ex
  rw [h1] at g1
  injection g1 with z
  injection z with z1 z2 z3
  simp only [List.cons.injEq, Prod.mk.injEq, true_and, and_true, V.int.injEq, V.ref.injEq] at z3
  obtain ⟨e1, e2, e3⟩ := z3
  subst e1 e2
  exact ⟨rfl, rows_inj h2 g2⟩
theorem lk_here {k : Str} {v : V} {r : List (Str × V)} : List.lookup k ((k, v) :: r) = some v := by
  have e : (k == k) = true := beq_self_eq_true k
  simp only [List.lookup, e]
theorem lk_past {k g : Str} {v : V} {r : List (Str × V)} (h : (k == g) = false) : List.lookup k ((g, v) :: r) = List.lookup k r := by
  simp only [List.lookup, h]
theorem lk2 {k g : Str} {v w : V} {r : List (Str × V)} (h : (k == g) = false) : List.lookup k ((g, w) :: (k, v) :: r) = some v := (lk_past h).trans lk_here
theorem lk3 {k g g2 : Str} {v w w2 : V} {r : List (Str × V)} (h : (k == g) = false) (h2 : (k == g2) = false) : List.lookup k ((g, w) :: (g2, w2) :: (k, v) :: r) = some v := (lk_past h).trans (lk2 h2)
theorem lk4 {k g g2 g3 : Str} {v w w2 w3 : V} {r : List (Str × V)} (h : (k == g) = false) (h2 : (k == g2) = false) (h3 : (k == g3) = false) : List.lookup k ((g, w) :: (g2, w2) :: (g3, w3) :: (k, v) :: r) = some v := (lk_past h).trans (lk3 h2 h3)
theorem put_here {f : Str} {v x : V} {r : List (Str × V)} : putF f v ((f, x) :: r) = (f, v) :: r := if_pos rfl
theorem put_past {f g : Str} {v x : V} {r : List (Str × V)} (h : ¬ g = f) : putF f v ((g, x) :: r) = (g, x) :: putF f v r := if_neg h
/-- is this pair a jump of it -/
def memV (rs : List (List Int)) (x y : V) : Bool := match x, y with
  | .int u, .int v => decide ([u, v] ∈ rs)
  | _, _ => false
theorem memV_of {n : Int} {rs : List (List Int)} {x y : V} (j : Jr n rs) (hx : Atom x) (hy : Atom y) (h : jmpV n x y = false) : memV rs x y = false := by
  cases hx with
  | non => rfl
  | bl => rfl
  | int u => cases hy with
    | non => rfl
    | bl => rfl
    | int v =>
      refine decide_eq_false fun hm => ?_
      obtain ⟨u', v', e, h1, h2, h3⟩ := j.sh _ hm
      cases e
      have : jmpV n (.int u) (.int v) = true := by
        show ((decide (0 ≤ u) && decide (u ≤ n - 1)) && (decide (0 ≤ v) && decide (v ≤ n - 1)) && decide (u < v)) = true
        simp only [Bool.and_eq_true, decide_eq_true_eq]
        omega
      rw [this] at h
      cases h
/-- a list of marked rows as a dict asks -/
theorem look_mark {β : Type} (rs : List (List Int)) (f : List Int → β) (r : List Int) : look (rs.map fun k => (k, f k)) r = if r ∈ rs then some (f r) else none := by
  induction rs with
  | nil => rfl
  | cons a rs ih =>
    by_cases e : a = r
    · subst e
      simp [look, List.find?_cons]
    · have e2 : ¬ r = a := fun z => e z.symm
      unfold look at ih ⊢
      rw [List.map_cons, List.find?_cons]
      simp only [decide_eq_false e, List.mem_cons, e2, false_or]
      exact ih
theorem DB.get {H : Hp} {d t : Addr} {ks : List (List Int)} {r : List Int} (h : DB H d ks) (ht : TupI H t r) : DGet H d (.ref t) (if r ∈ ks then some (.bl true) else none) := by
  have g := DGet.t (H := H) (a := d) (b := t) (k := keyOf r) h (by rw [keyOf_V]; exact ht)
  have e : (ks.map fun k => (keyOf k, V.bl true)) = dM (fun v : V => v) (ks.map fun k => (k, V.bl true)) := by rw [dM, List.map_map]; rfl
  rw [e, look_V, look_mark] at g
  by_cases c : r ∈ ks
  · rw [if_pos c] at g ⊢; exact g
  · rw [if_neg c] at g ⊢; exact g
theorem tupI2 {H : Hp} {t : Addr} {u v : Int} (h : H t = some (.tup [.int u, .int v])) : TupI H t [u, v] := h
def spHas (C : Addr) : Sp := fun vs H Q _ => ∃ a t x y n rs, vs = [.ref a, .ref t] ∧ Rt C H a n rs ∧ H t = some (.tup [x, y]) ∧ Atom x ∧ Atom y ∧ ∀ H', Same H H' → Q (.bl (memV rs x y)) H'
section
variable {P : Program} {w : World} {K : Frag} {mg : Str → Option Value} {base : Heap} {f C : Addr} {fd : FuncData}
theorem w_Rhas (R : Cl K mg C "Routine" ["blocks", "rows", "there"]) (c_is_jump : Cal P w K mg base 3 "is_jump" spIsJump []) (F : Fun K "__contains__" "Routine.__contains__" (sRc 6) f fd) (hf : fnIn K f = true) (d : Dun K C "__contains__" f) (b : Binds K fd ["self", "x"] []) : Dn P w K mg base 4 C "__contains__" (spHas C) := by
  have sc : FnScope ["self", "x"] ["self", "x"] (fnScope (sRc 6)) := fnScope_by (by decide +kernel)
  refine ⟨f, fd, _, d, hf, fn0 F sc (fun vs H Q E h => by obtain ⟨_, _, _, _, _, _, rfl, _⟩ := h; rfl) fun cdv A outer s H vs Q E hr h => ?_, b⟩
  obtain ⟨a, t, x, y, n, rs, rfl, hR, ht, hx, hy, k⟩ := h
  obtain ⟨dx, l, d, h1, h2, h3⟩ := hR.ex
  refine ⟨_, (pss_one (ps_ret (pe_and (pe_c c_is_jump hr (by decide) rfl (pa_cons (pv 1) (pa_cons (pe_fld (pv 0) rfl) pa_nil))) (pe_one (pe_cmp (pc_din (hu_of hr) (pv 1) (pe_fld (pv 0) rfl)) rfl))))), ?_⟩
  refine ⟨_, rfl, _, rfl, a, C, dx, _, _, rfl, h1, R.cl, R.na _ (by decide +kernel), lk_here, t, n, x, y, rfl, ht, hx, hy, fun H' s1 => ⟨_, rfl, ?_⟩⟩
  refine ifb (fun c => ?_) (fun c => ?_)
  · obtain ⟨u, v, rfl, rfl⟩ : ∃ u v, x = .int u ∧ y = .int v := by
      cases hx with
      | non => cases c
      | bl => cases c
      | int u => cases hy with
        | non => cases c
        | bl => cases c
        | int v => exact ⟨u, v, rfl, rfl⟩
    refine ⟨_, rfl, _, rfl, a, C, dx, _, _, rfl, s1 _ _ h1, R.cl, R.na _ (by decide +kernel), lk3 (by decide +kernel) (by decide +kernel), d, _, rfl, (show DB H' d rs from s1 _ _ h3).get (tupI2 (s1 _ _ ht)), ?_⟩
    have z := k H' s1
    have e : memV rs (.int u) (.int v) = (if [u, v] ∈ rs then some (V.bl true) else none).isSome := by
      show decide _ = _
      by_cases c : [u, v] ∈ rs <;> simp [c]
    rw [e] at z
    exact z
  · have z := k H' s1
    rw [memV_of hR.jr hx hy c] at z
    exact z
abbrev RtEq (C : Addr) : Addr → Addr → Hp → Prop := fun a b H => ∃ n rs, Rt C H a n rs ∧ Rt C H b n rs
theorem w_Req (T : Tb mg) (R : Cl K mg C "Routine" ["blocks", "rows", "there"]) (F : Fun K "__eq__" "Routine.__eq__" (sRc 5) f fd) (hf : fnIn K f = true) (d : Dun K C "__eq__" f) (b : Binds K fd ["self", "other"] []) : Dn P w K mg base 1 C "__eq__" (spEq (RtEq C)) := by
  have sc : FnScope ["self", "other"] ["self", "other"] (fnScope (sRc 5)) := fnScope_by (by decide +kernel)
  refine ⟨f, fd, _, d, hf, fn0 F sc (fun vs H Q E h => by obtain ⟨_, _, rfl, _⟩ := h; rfl) fun cdv A outer s H vs Q E hr h => ?_, b⟩
  obtain ⟨x, y, rfl, ⟨n, rs, hx, hy⟩, k⟩ := h
  obtain ⟨dx, l, d, h1, h2, h3⟩ := hx.ex
  obtain ⟨ex, m, e, g1, g2, g3⟩ := hy.ex
  refine ⟨_, (pss_one (ps_ret (pe_and (pe_callB (C8.call_isC R.isc) (by rfl) T.isinstance PyProof.Rows.boot_isinstance (pa_cons (pv 1) (pa_cons (pe_gc (v := .ref C) rfl ⟨_, R.gl, rfl⟩) pa_nil))) (pe_and (pe_cmpR op_eq (pe_fld (pv 0) rfl) (pe_fld (pv 1) rfl) (nomark _)) (pe_one (pe_cmpR (op_eqD hr.units) (pe_fld (pv 0) rfl) (pe_fld (pv 1) rfl) (nomark _))))))), ?_⟩
  refine ⟨_, rfl, y, ex, _, rfl, g1, _, rfl, ?_⟩
  refine ⟨_, rfl, x, C, dx, _, _, rfl, h1, R.cl, R.na _ (by decide +kernel), lk_here, _, rfl, y, C, ex, _, _, rfl, g1, R.cl, R.na _ (by decide +kernel), lk_here, rfl, _, rfl, ?_⟩
  refine ift (by simp) ?_
  refine ⟨_, rfl, x, C, dx, _, _, rfl, h1, R.cl, R.na _ (by decide +kernel), lk2 (by decide +kernel), _, rfl, y, C, ex, _, _, rfl, g1, R.cl, R.na _ (by decide +kernel), lk2 (by decide +kernel), ?_⟩
  refine eqR h2 g2 ?_
  rw [decide_eq_true rfl]
  exact k H (Same.refl H)
def j0 (r : List Int) : Int := r.getD 0 0
def j1 (r : List Int) : Int := r.getD 1 0
def outsF (rs : List (List Int)) (b : Int) : List (List Int) := rs.filter fun r => decide (j0 r = b)
def spOuts (C : Addr) : Sp := fun vs H Q _ => ∃ (a : Addr) (n : Int) (rs : List (List Int)) (i : Int), vs = [.ref a, .int i] ∧ Rt C H a n rs ∧ 0 ≤ i ∧ i ≤ n - 1 ∧ ∀ H' l, Same H H' → Rows H' l (outsF rs i) → Q (.ref l) H'
theorem w_Router (T : Tb mg) (R : Cl K mg C "Routine" ["blocks", "rows", "there"]) (c_within : Cal P w K mg base 2 "within" spWithin []) (me : Meth K C "outs" f) (F : Fun K "outs" "Routine.outs" (sRc 8) f fd) (b : Binds K fd ["self", "block"] []) : Met P w K mg base 3 C "outs" (spOuts C) [] := by
  have sc : FnScope ["self", "block", "jump"] ["self", "block"] (fnScope (sRc 8)) := fnScope_by (by decide +kernel)
  refine met0 R.cl me F b sc (fun vs H Q E h => by obtain ⟨_, _, _, _, rfl, _⟩ := h; rfl) fun cdv A outer s H vs Q E hr h => ?_
  obtain ⟨a, n, rs, i, rfl, hR, i0, i1, k⟩ := h
  obtain ⟨dx, l, d, h1, h2, h3⟩ := hR.ex
  obtain ⟨ts, hl, hp⟩ := h2.ex
  refine ⟨_, (pss_cons (ps_if (pt_not (pt_val (pe_c c_within hr (by decide) rfl (pa_cons (pv 1) (pa_cons pe_int (pa_cons (pe_op op_sub (pe_fld (pv 0) rfl) pe_int) pa_nil)))))) (pss_one ps_never) pss_nil)
  (pss_one (ps_ret (pe_lc (own := [("jump", 2)]) rfl sc.nd (pi_list (pe_fld (pv 0) rfl)) (blkOk_by (own := [("jump", 2)]) (N := ["self", "block", "jump"]) (sc := fnScope (sRc 8)) (by decide +kernel)) (fun _ _ _ _ _ => (pg_name (i := 2) sc.nd rfl (Or.inl rfl))) (fun _ _ _ _ _ => pts_one (pt_cmpR op_eq (pe_ix (ixT (K := K) rfl) (pv 2) pe_int (fun _ _ => rfl)) (pv 1) (nomark _))) (fun _ _ _ _ _ => (pv 2)))))), ?_⟩
  refine ⟨_, rfl, _, rfl, a, C, dx, _, _, rfl, h1, R.cl, R.na _ (by decide +kernel), lk_here, _, _, rfl, rfl, .int i, 0, n - 1, rfl, .int i, _, rfl, ?_⟩
  have e : inV (.int i) 0 (n - 1) = true := by show (decide _ && decide _) = true; simp [i0, i1]
  rw [e]
  refine iff rfl ?_
  refine ⟨_, rfl, a, C, dx, _, _, rfl, h1, R.cl, R.na _ (by decide +kernel), lk2 (by decide +kernel), l, rfl, ⟨_, SqL.of hl⟩, fun D hD => ?_⟩
  have len : ts.length = rs.length := Paired.length hp
  have hlen : rs.length = (ts.map V.ref).length := by rw [List.length_map, len]
  refine lc_fm (ms := rs) (by rw [hlen]; exact walk_list) (fun r => decide (j0 r = i)) (fun r => r) (fun H v r => ∃ t, v = .ref t ∧ TupI H t r) (fun H H' v r nl ⟨t, e, q⟩ => ⟨t, e, nl _ _ q (fun xs z => by cases z)⟩) hD (by have := hR.l120; rw [sizeLine_eq]; omega) (fun H' s => SqL.of (s _ _ hl)) ?_ ?_
  · rintro j r x H' _ Nx hj s1 ⟨rfl, hx⟩ kF kT
    obtain ⟨t, ht, hm⟩ : ∃ t, x = .ref t ∧ TupI H t r := by
      rw [List.getElem?_map] at hx
      cases q : ts[j]? with
      | none => rw [q] at hx; cases hx
      | some t =>
        rw [q] at hx
        obtain ⟨r', h', q'⟩ := paired_get hp q
        rw [hj] at h'
        cases h'
        exact ⟨t, (Option.some.inj hx).symm, q'⟩
    subst ht
    obtain ⟨u, v, rfl, _, _, _⟩ := hR.jr.sh r (List.mem_of_getElem? hj)
    refine ⟨rfl, ?_⟩
    refine ⟨_, rfl, t, _, 0, _, rfl, rfl, SqT.of (s1 _ _ hm), rfl, _, rfl, rfl, _, rfl, ?_⟩
    refine ifb (fun c => ?_) (fun c => ?_)
    · exact ⟨_, rfl, kT ((vint u i).symm.trans c) _ _ (Same.refl _) ⟨t, rfl, s1 _ _ hm⟩⟩
    · exact kF ((vint u i).symm.trans c) _ (Same.refl _)
  · rintro H' ys s1 hD' hp'
    rw [List.map_id'] at hp'
    exact k H' D s1 (Rows.of hD' hp')
/-- what one may ask about: a tuple of these; another thing -/
inductive Val (H : Hp) : V → Option (List V) → Prop where
  | tup {t : Addr} {xs : List V} (h : H t = some (.tup xs)) (a : ∀ x ∈ xs, Atom x) : Val H (.ref t) (some xs)
  | lst {t : Addr} {xs : List V} (h : H t = some (.lst xs)) : Val H (.ref t) none
  | non : Val H .non none
  | int (i : Int) : Val H (.int i) none
  | str (x : Str) : Val H (.str x) none
theorem Val.same {H H' : Hp} {v : V} {o : Option (List V)} (h : Val H v o) (e : Same H H') : Val H' v o := by
  cases h with
  | tup h a => exact .tup (e _ _ h) a
  | lst h => exact .lst (e _ _ h)
  | non => exact .non
  | int i => exact .int i
  | str x => exact .str x
/-- a run, as is_run finds it -/
def runV (n : Int) (rs : List (List Int)) : Option (List V) → Bool
  | none => false
  | some xs => decide (2 ≤ xs.length) && ((stepsV xs).all fun p => memV rs p.1 p.2) && (decide (xs.head? = some (.int 0)) && decide (xs.getLast? = some (.int (n - 1))))
theorem runV_some (n : Int) (rs : List (List Int)) (xs : List V) : runV n rs (some xs) = (decide (2 ≤ xs.length) && ((stepsV xs).all fun p => memV rs p.1 p.2) && (decide (xs.head? = some (.int 0)) && decide (xs.getLast? = some (.int (n - 1))))) := rfl
theorem stepsV_ints {rs : List (List Int)} : ∀ {xs : List V}, 2 ≤ xs.length → ((stepsV xs).all fun p => memV rs p.1 p.2) = true → ∃ r : List Int, xs = r.map V.int
  | [], h, _ => by simp at h
  | [_], h, _ => by simp at h
  | [x, y], _, h => by
    simp only [stepsV, List.all_cons, List.all_nil, Bool.and_true] at h
    unfold memV at h
    split at h
    · exact ⟨[_, _], rfl⟩
    · cases h
  | x :: y :: z :: r, _, h => by
    rw [stepsV, List.all_cons, Bool.and_eq_true] at h
    obtain ⟨s, e⟩ := stepsV_ints (xs := y :: z :: r) (by simp) h.2
    have h1 := h.1
    unfold memV at h1
    split at h1
    · exact ⟨_ :: s, by rw [e]; simp only [List.map_cons]; congr 1⟩
    · cases h1
def spIsRun (C : Addr) : Sp := fun vs H Q _ => ∃ (a : Addr) (v : V) (n : Int) (rs : List (List Int)) (o : Option (List V)), vs = [.ref a, v] ∧ Rt C H a n rs ∧ Val H v o ∧ (∀ xs, o = some xs → xs.length < 1000) ∧ ∀ H', Same H H' → Q (.bl (runV n rs o)) H'
theorem stepsV_len : ∀ xs : List V, (stepsV xs).length = xs.length - 1
  | [] => rfl
  | [_] => rfl
  | x :: y :: r => by rw [stepsV, List.length_cons, stepsV_len (y :: r)]; simp
theorem stepsV_mem : ∀ {xs : List V} {p : V × V}, p ∈ stepsV xs → p.1 ∈ xs ∧ p.2 ∈ xs
  | [], _, h => by simp [stepsV] at h
  | [_], _, h => by simp [stepsV] at h
  | x :: y :: r, p, h => by
    rw [stepsV] at h
    rcases List.mem_cons.mp h with e | h
    · subst e; simp
    · have := stepsV_mem h
      exact ⟨List.mem_cons_of_mem _ this.1, List.mem_cons_of_mem _ this.2⟩
theorem w_Risrun (T : Tb mg) (R : Cl K mg C "Routine" ["blocks", "rows", "there"]) (c_jumps_of : Cal P w K mg base 1 "jumps_of" spJumpsOf []) (c_has : Dn P w K mg base 4 C "__contains__" (spHas C)) (me : Meth K C "is_run" f) (F : Fun K "is_run" "Routine.is_run" (sRc 9) f fd) (b : Binds K fd ["self", "value"] []) : Met P w K mg base 5 C "is_run" (spIsRun C) [] := by
  have sc : FnScope ["self", "value", "jump"] ["self", "value"] (fnScope (sRc 9)) := fnScope_by (by decide +kernel)
  refine met0 R.cl me F b sc (fun vs H Q E h => by obtain ⟨_, _, _, _, _, rfl, _⟩ := h; rfl) fun cdv A outer s H vs Q E hr h => ?_
  obtain ⟨a, v, n, rs, o, rfl, hR, hv, ho, k⟩ := h
  obtain ⟨dx, l, d, h1, h2, h3⟩ := hR.ex
  refine ⟨_, (pss_cons (ps_if (PW.pt (pw_or (pt_not (pt_val (pe_callB call_isi (by rfl) T.isinstance PyProof.Rows.boot_isinstance (pa_cons (pv 1) (pa_cons (pe_bltn (v := .ty "tuple") (by rfl) T.tuple PyProof.Rows.boot_tuple rfl) pa_nil))))) (pw_or1 (pt_cmpR op_lt (pe_callB call_len (by rfl) T.len PySem.boot_len (pa_cons (pv 1) pa_nil)) pe_int (nomark _))))) (pss_one (ps_ret pe_bl)) pss_nil)
  (pss_cons (ps_if (pt_not (pt_val (pe_callB (cr_all rfl) (by rfl) T.all PyProof.Rows.boot_all (pa_cons (pe_lc (own := [("jump", 2)]) rfl sc.nd (pi_list (pe_c c_jumps_of hr (by decide) rfl (pa_cons (pv 1) pa_nil))) (blkOk_by (own := [("jump", 2)]) (N := ["self", "value", "jump"]) (sc := fnScope (sRc 9)) (by decide +kernel)) (fun _ _ _ _ _ => (pg_name (i := 2) sc.nd rfl (Or.inl rfl))) (fun _ _ _ _ _ => pts_nil) (fun _ _ _ _ _ => (pe_cmpR (o_in c_has hr (by decide)) (pv 2) (pv 0) (by rfl)))) pa_nil)))) (pss_one (ps_ret pe_bl)) pss_nil)
  (pss_one (ps_ret (pe_and (pe_cmpR op_eq (pe_ix ix_tup (pv 1) pe_int (fun _ _ => rfl)) pe_int (nomark _)) (pe_one (pe_cmpR op_eq (pe_ix ix_tup (pv 1) (pe_un un_neg pe_int) (fun _ _ => rfl)) (pe_op op_sub (pe_fld (pv 0) rfl) pe_int) (nomark _)))))))), ?_⟩
  cases hv with
  | lst hl => exact ⟨_, rfl, _, _, _, _, false, rfl, .ty _, .base (.lst hl), kit_ty (by decide +kernel), _, rfl, k H (Same.refl H)⟩
  | non => exact ⟨_, rfl, _, _, _, _, false, rfl, .ty _, .base .non, kit_ty (by decide +kernel), _, rfl, k H (Same.refl H)⟩
  | int i => exact ⟨_, rfl, _, _, _, _, false, rfl, .ty _, .base (.int i), kit_ty (by decide +kernel), _, rfl, k H (Same.refl H)⟩
  | str x => exact ⟨_, rfl, _, _, _, _, false, rfl, .ty _, .base (.str x), kit_ty (by decide +kernel), _, rfl, k H (Same.refl H)⟩
  | @tup t xs ht ha =>
    have hxs := ho xs rfl
    refine ⟨_, rfl, _, _, _, _, true, rfl, .ty _, .base (.tup ht), kit_ty (by decide +kernel), _, rfl, ?_⟩
    refine ⟨_, rfl, _, xs.length, rfl, .inr ⟨_, SqT.of ht, rfl⟩, _, _, rfl, rfl, _, rfl, ?_⟩
    refine ifb (fun c => ?_) (fun c => ?_)
    · have c' : ¬ 2 ≤ xs.length := by have := of_decide_eq_true c; omega
      have e : runV n rs (some xs) = false := by rw [runV_some]; simp [c']
      have z := k H (Same.refl H)
      rw [e] at z
      exact z
    have c' : 2 ≤ xs.length := by have := of_decide_eq_false c; omega
    refine ⟨_, rfl, t, xs, rfl, ht, c', fun H1 l ts s1 hl0 hl hp => ⟨l, rfl, ⟨_, SqL.of hl⟩, fun D hD => ?_⟩⟩
    have hlen : (stepsV xs).length = (ts.map V.ref).length := by rw [List.length_map]; exact (Paired.length hp).symm
    refine lc_fm (ms := stepsV xs) (by rw [hlen]; exact walk_list) (fun _ => true) (fun p => memV rs p.1 p.2) (fun _ v b => v = .bl b) (fun _ _ _ _ _ h => h) hD (by rw [stepsV_len, sizeLine_eq]; omega) (fun H' s => SqL.of (s _ _ hl)) ?_ ?_
    · rintro j p x H' _ Nx hj s2 ⟨rfl, hx⟩ _ kT
      obtain ⟨q, rfl, hq⟩ : ∃ q, x = .ref q ∧ H1 q = some (.tup [p.1, p.2]) := by
        rw [List.getElem?_map] at hx
        cases e : ts[j]? with
        | none => rw [e] at hx; cases hx
        | some q =>
          rw [e] at hx
          obtain ⟨p', h', q'⟩ := paired_get hp e
          rw [hj] at h'
          cases h'
          exact ⟨q, (Option.some.inj hx).symm, q'⟩
      have hm := stepsV_mem (List.mem_of_getElem? hj)
      refine ⟨rfl, ?_⟩
      exact ⟨_, rfl, _, rfl, a, dx, _, rfl, (s1.trans s2) _ _ h1, a, q, p.1, p.2, n, rs, rfl, hR.same (s1.trans s2), s2 _ _ hq, ha _ hm.1, ha _ hm.2, fun H3 s3 => ⟨_, rfl, kT rfl _ _ s3 rfl⟩⟩
    · rintro H' ys s2 hD' hp'
      have hys : ys = ((stepsV xs).map fun p => memV rs p.1 p.2).map V.bl := by
        rw [ft] at hp'
        generalize (stepsV xs).map (fun p => memV rs p.1 p.2) = bs at hp'
        clear hD'
        induction hp' with
        | nil => rfl
        | cons h t ih => rw [h, ih]; rfl
      refine ⟨D, _, rfl, SqL.of (by rw [hD', hys]), _, rfl, ?_⟩
      have sm : Same H H' := s1.trans s2
      have ea : (((stepsV xs).map fun p => memV rs p.1 p.2).all id) = ((stepsV xs).all fun p => memV rs p.1 p.2) := by rw [List.all_map]; rfl
      rw [ea]
      cases c2 : (stepsV xs).all fun p => memV rs p.1 p.2 with
      | false =>
        refine ift rfl ?_
        have e : runV n rs (some xs) = false := by rw [runV_some, c2]; simp
        have z := k H' sm
        rw [e] at z
        exact z
      | true =>
        refine iff rfl ?_
        obtain ⟨r, rfl⟩ := stepsV_ints c' c2
        have hr0 : r ≠ [] := by intro z; subst z; simp at c'
        obtain ⟨i0, r', rfl⟩ : ∃ i0 r', r = i0 :: r' := by cases r with
          | nil => exact absurd rfl hr0
          | cons i r' => exact ⟨i, r', rfl⟩
        refine ⟨_, rfl, t, _, 0, V.int i0, rfl, rfl, SqT.of (sm _ _ ht), atI0 _ _, rfl, _, rfl, ?_⟩
        have el : runV n rs (some ((i0 :: r').map V.int)) = (decide (i0 = 0) && decide (lst (i0 :: r') = n - 1)) := by
          rw [runV_some, c2, decide_eq_true c']
          have e1 : ((i0 :: r').map V.int).head? = some (.int 0) ↔ i0 = 0 := by simp
          have e2 : ((i0 :: r').map V.int).getLast? = some (.int (n - 1)) ↔ lst (i0 :: r') = n - 1 := by
            rw [List.getLast?_map, List.getLast?_eq_some_getLast hr0]
            unfold lst
            rw [List.getLastD_eq_getLast?, List.getLast?_eq_some_getLast hr0]
            simp
          simp only [e1, e2, Bool.true_and, Bool.and_true]
        have z := k H' sm
        rw [el] at z
        refine ifb (fun c3 => ?_) (fun c3 => ?_)
        · have c4 : i0 = 0 := by simpa using c3
          refine ⟨_, rfl, 1, rfl, t, _, -1, _, rfl, rfl, SqT.of (sm _ _ ht), lst_get hr0, _, rfl, a, C, dx, _, _, rfl, sm _ _ h1, R.cl, R.na _ (by decide +kernel), lk_here, _, _, rfl, rfl, rfl, ?_⟩
          rw [decide_eq_true c4, Bool.true_and] at z
          rw [← vint] at z
          exact z
        · have c4 : ¬ i0 = 0 := by simpa using c3
          rw [decide_eq_false c4, Bool.false_and] at z
          exact z
/-- all but one object stands as before -/
abbrev But (p : Addr) (H H' : Hp) : Prop := ∀ b o, H b = some o → b ≠ p → H' b = some o
def spRinit (C : Addr) : Sp := fun vs H Q _ => ∃ (p l dx : Addr) (n : Int) (js : List (List Int)), vs = [.ref p, .int n, .ref l] ∧ H p = some (.ins C dx []) ∧ Rows H l js ∧ Jr n js ∧ 2 ≤ n ∧ n ≤ 40 ∧ js.length ≤ 120 ∧
  ∀ H' rs, rs.Perm js → Rt C H' p n rs → But p H H' → Q .non H'
theorem w_Rinit (T : Tb mg) (hmb : ∃ u, mg "MOST_BLOCKS" = some u ∧ RelV (.int 40) u) (hmj : ∃ u, mg "MOST_JUMPS" = some u ∧ RelV (.int 120) u) (R : Cl K mg C "Routine" ["blocks", "rows", "there"]) (M : Mk K C f)
    (c_within : Cal P w K mg base 2 "within" spWithin []) (c_is_jump : Cal P w K mg base 3 "is_jump" spIsJump []) (F : Fun K "__init__" "Routine.__init__" (sRc 0) f fd) (b : Binds K fd ["self", "blocks", "jumps"] []) : Mak P w K mg base 4 "Routine" C (spRinit C) [] := by
  have sc : FnScope ["self", "blocks", "jumps", "known", "at", "jump"] ["self", "blocks", "jumps"] (fnScope (sRc 0)) := fnScope_by (by decide +kernel)
  refine mak0 M R.gl F b .nil sc (fun vs H Q E h => by obtain ⟨_, _, _, _, _, rfl, _⟩ := h; rfl) fun cdv A outer s H vs Q E hr h => ?_
  obtain ⟨p, l, dx, n, js, rfl, hp, hl, hj, n2, n40, l120, k⟩ := h
  obtain ⟨ts, el, pl⟩ := hl.ex
  have hu := hu_of hr
  refine ⟨_, (pss_cons (ps_if (pt_not (pt_val (pe_c c_within hr (by decide) rfl (pa_cons (pv 1) (pa_cons pe_int (pa_cons (pe_gc rfl hmb) pa_nil)))))) (pss_one ps_never) pss_nil)
  (pss_cons (ps_set (i := 3) sc.nd rfl (Or.inl rfl) (pe_dnewT))
  (pss_cons (ps_for PassesOwn.never rfl (pi_enum (by rfl) T.enumerate (pa_cons (pv 2) pa_nil)) (pg_tup rfl (pgs_cons (pg_name (i := 4) sc.nd rfl (Or.inl rfl)) (pgs_cons (pg_name (i := 5) sc.nd rfl (Or.inl rfl)) pgs_nil))) (pss_cons (ps_if (PW.pt (pw_or (pt_not (pt_val (pe_c c_is_jump hr (by decide) rfl (pa_cons (pv 5) (pa_cons (pv 1) pa_nil))))) (pw_or1 (pt_cmp (pc_din hu (pv 5) (pv 3)))))) (pss_one ps_never) pss_nil)
  (pss_one (ps_dput hu (pv 3) (pv 5) pe_bl rfl))))
  (pss_cons (ps_if (pt_cmpR op_gt (pe_callB call_len_dT (by rfl) T.len PySem.boot_len (pa_cons (pv 3) pa_nil)) (pe_gc rfl hmj) (nomark _)) (pss_one ps_never) pss_nil)
  (pss_cons (ps_fld (pv 0) (pv 1) rfl)
  (pss_cons (ps_fld (pv 0) (pe_callB (call_sortedT rfl) (by rfl) T.sorted PyProof.Rows.boot_sorted (pa_cons (pv 3) pa_nil)) rfl)
  (pss_one (ps_fld (pv 0) (pe_dcT hu rfl sc.nd (pi_list (pe_fld (pv 0) rfl)) (blkOk_by (own := [("jump", 5)]) (N := ["self", "blocks", "jumps", "known", "at", "jump"]) (sc := fnScope (sRc 0)) (by decide +kernel)) (fun _ _ _ _ _ => (pg_name (i := 5) sc.nd rfl (Or.inl rfl))) (fun _ _ _ _ _ => pts_nil) (fun _ _ _ _ _ => (pv 5)) (fun _ _ _ _ _ => pe_bl)) rfl)))))))), ?_⟩
  refine ⟨_, rfl, .int n, 2, 40, rfl, .int n, _, rfl, ?_⟩
  have e : inV (.int n) 2 40 = true := by show (decide _ && decide _) = true; simp [n2, n40]
  rw [e]
  refine iff rfl ?_
  intro d hd
  have hpd : p ≠ d := ne_of_none hp hd
  refine ⟨_, rfl, l, ts.map V.ref, rfl, SqL.of ((same_new hd) _ _ el), for_it walk_enum (fun i σ H' => (∃ v5 v6, σ = [some (.ref p), some (.int n), some (.ref l), some (.ref d), v5, v6]) ∧ Same H H' ∧ DB H' d (js.take i)) ⟨⟨none, none, rfl⟩, same_new hd, upd_same⟩ (fun i σ H' _ h => SqL.of (h.2.1 _ _ el)) ?_ ?_⟩
  · rintro i x σ H1 H2 hi ⟨⟨v5, v6, rfl⟩, s1, hD⟩ ⟨q, y, z, rfl, hq, rfl, hy, hz⟩
    obtain rfl := Option.some.inj hy
    have len : ts.length = js.length := Paired.length pl
    rw [List.length_map] at hi
    have ei : js[i]? = some js[i] := List.getElem?_eq_getElem (by omega)
    have et : ts[i]? = some ts[i] := List.getElem?_eq_getElem hi
    have hz : (ts.map V.ref)[i]? = some z := hz
    rw [List.getElem?_map, et] at hz
    obtain rfl := Option.some.inj hz
    obtain ⟨r, hr', hm⟩ := paired_get pl et
    rw [ei] at hr'
    obtain rfl := Option.some.inj hr'
    obtain ⟨u, v, hjr, hu0, huv, hv1⟩ := hj.sh js[i] (List.mem_of_getElem? ei)
    have s2 : Same H (upd H1 q (.tup [.int i, .ref ts[i]])) := s1.trans (same_new hq)
    have hm2 := s2 _ _ hm
    refine ⟨q, _, rfl, SqT.of upd_same, rfl, ?_⟩
    refine ⟨_, _, rfl, _, _, rfl, rfl, ?_⟩
    refine ⟨_, rfl, _, rfl, ts[i], n, .int u, .int v, rfl, by rw [hjr] at hm2; exact hm2, .int u, .int v, fun H3 s3 => ⟨_, rfl, ?_⟩⟩
    have ej : jmpV n (.int u) (.int v) = true := by
      show ((decide (0 ≤ u) && decide (u ≤ n - 1)) && (decide (0 ≤ v) && decide (v ≤ n - 1)) && decide (u < v)) = true
      simp only [Bool.and_eq_true, decide_eq_true_eq]
      omega
    rw [ej]
    refine iff rfl ?_
    have hD1 : DB (upd H1 q (.tup [.int i, .ref ts[i]])) d (js.take i) := same_new hq _ _ hD
    have hD3 : DB H3 d (js.take i) := s3 _ _ hD1
    have hm3 : TupI H3 ts[i] js[i] := s3 _ _ hm2
    have hnin : js[i] ∉ js.take i := by
      intro hm
      have nd := hj.nd
      rw [← List.take_append_drop (i + 1) js, tk_more ei] at nd
      have h1 := (List.nodup_append.mp nd).1
      exact (List.nodup_append.mp h1).2.2 _ hm _ (by simp) rfl
    have g := hD3.get hm3
    rw [if_neg hnin] at g
    refine ⟨_, rfl, _, rfl, d, _, rfl, g, _, rfl, ?_⟩
    refine iff rfl ?_
    refine ⟨_, rfl, _, rfl, d, _, rfl, DPut.t (k := keyOf js[i]) hD3 (by rw [keyOf_V]; exact hm3) (by rw [List.length_map, List.length_take, sizeLine_eq]; omega), ?_⟩
    refine ⟨⟨_, _, rfl⟩, same_upd (s2.trans s3) hd, ?_⟩
    show upd _ _ _ _ = _
    rw [upd_same, tk_more ei]
    have e0 : valV ((js.take i).map fun k => (keyOf k, V.bl true)) (keyOf js[i]) = none := valV_new fun hm => by
      rw [List.map_map] at hm
      obtain ⟨r, h1, h2⟩ := List.mem_map.mp hm
      exact hnin (keyOf_inj h2 ▸ h1)
    rw [putK_new _ e0, List.map_append]
    rfl
  · rintro σ H1 ⟨⟨v5, v6, rfl⟩, s1, hD⟩
    have len : ts.length = js.length := Paired.length pl
    rw [List.length_map, len, List.take_length] at hD
    refine ⟨_, rfl, d, _, rfl, hD, _, _, rfl, rfl, _, rfl, ?_⟩
    rw [List.length_map]
    refine iff (decide_eq_false (by omega)) ?_
    have hp1 := s1 _ _ hp
    refine ⟨_, rfl, _, rfl, p, C, dx, [], rfl, hp1, R.cl, R.na _ (by decide +kernel), (by show 0 < 1000; decide), ?_⟩
    have hD2 : DB (upd H1 p (.ins C dx (putF "blocks" (.int n) []))) d js := by show upd _ _ _ _ = _; rw [upd_ne (Ne.symm hpd)]; exact hD
    have hne : ∀ r ∈ js, r ≠ [] := fun r hr z => by obtain ⟨u, v, e, _⟩ := hj.sh r hr; rw [z] at e; cases e
    refine ⟨_, rfl, d, _, js, rfl, .inl hD2, by rw [List.map_map]; rfl, hne, fun ys bs D2 pm st pb hD2n => ?_⟩
    have hpD2 : p ≠ D2 := ne_of_none upd_same hD2n
    have e1 : putF "blocks" (.int n) [] = [(("blocks" : Str), V.int n)] := rfl
    rw [e1] at hD2n ⊢
    refine ⟨_, rfl, p, C, dx, _, rfl, by rw [upd_ne hpD2]; exact upd_same, R.cl, R.na _ (by decide +kernel), (by show 1 < 1000; decide), ?_⟩
    have e2 : putF "rows" (.ref D2) [(("blocks" : Str), V.int n)] = [(("blocks" : Str), V.int n), (("rows" : Str), V.ref D2)] := (put_past (by decide +kernel)).trans rfl
    rw [e2]
    have pb' : Paired (fun t r => TupI H1 t r) bs ys := by
      have : ∀ {ys : List (List Int)} {bs : List Addr}, Paired (fun r b => (upd H1 p (.ins C dx [(("blocks" : Str), V.int n)])) b = some (HO.tup (List.map V.int r))) ys bs → Paired (fun t r => TupI H1 t r) bs ys := by
        intro ys bs h
        induction h with
        | nil => exact .nil
        | @cons r b _ _ h t ih =>
          refine .cons ?_ ih
          by_cases eb : b = p
          · subst eb; rw [upd_same] at h; cases h
          · rw [upd_ne eb] at h; exact h
      exact this pb
    have lys : ys.length = js.length := pm.length_eq
    have ndy : ys.Nodup := pm.nodup_iff.mpr hj.nd
    generalize hHc : upd (upd (upd H1 p (.ins C dx [(("blocks" : Str), V.int n)])) D2 (.lst (bs.map V.ref))) p (.ins C dx [(("blocks" : Str), V.int n), (("rows" : Str), V.ref D2)]) = Hc
    have cp : Hc p = some (.ins C dx [(("blocks" : Str), V.int n), (("rows" : Str), V.ref D2)]) := by rw [← hHc]; exact upd_same
    have cD : Hc D2 = some (.lst (bs.map V.ref)) := by rw [← hHc, upd_ne (Ne.symm hpD2)]; exact upd_same
    have co : But p H1 Hc := fun c o e hc => by
      rw [← hHc, upd_ne hc]
      have e3 : (upd H1 p (.ins C dx [(("blocks" : Str), V.int n)])) c = some o := by rw [upd_ne hc]; exact e
      rw [upd_ne (ne_of_none e3 hD2n)]
      exact e3
    have pc : Paired (fun t r => TupI Hc t r) bs ys := Paired.mapP pb' fun t r h => co _ _ h fun z => by subst z; cases hp1.symm.trans h
    refine ⟨_, rfl, p, C, dx, _, _, rfl, cp, R.cl, R.na _ (by decide +kernel), lk2 (by decide +kernel), D2, rfl, ⟨_, SqL.of cD⟩, fun D3 hD3 => ?_⟩
    have hpD3 : p ≠ D3 := ne_of_none cp hD3
    have lbs : bs.length = ys.length := Paired.length pc
    have hlen : ys.length = (bs.map V.ref).length := by rw [List.length_map, lbs]
    refine dc_fm (ms := ys) (by rw [hlen]; exact walk_list) (fun _ => true) (fun r => r) (fun _ => .bl true) hD3 (by rw [lys, sizeLine_eq]; omega) (by rw [ft, List.map_id']; exact ndy) (fun H' s => SqL.of (s _ _ cD)) ?_ ?_
    · rintro j r x H' _ Nx hj' s3 ⟨rfl, hx⟩ _ kT
      obtain ⟨t, rfl, hm⟩ : ∃ t, x = .ref t ∧ TupI Hc t r := by
        rw [List.getElem?_map] at hx
        cases q : bs[j]? with
        | none => rw [q] at hx; cases hx
        | some t =>
          rw [q] at hx
          obtain ⟨r', h', q'⟩ := paired_get pc q
          rw [hj'] at h'
          cases h'
          exact ⟨t, (Option.some.inj hx).symm, q'⟩
      exact ⟨rfl, _, rfl, kT rfl _ t (Same.refl _) (s3 _ _ hm)⟩
    · intro H3 s3 hd3
      rw [ft] at hd3
      refine ⟨_, rfl, p, C, dx, _, rfl, s3 _ _ cp, R.cl, R.na _ (by decide +kernel), (by show 2 < 1000; decide), ?_⟩
      have e3 : putF "there" (.ref D3) [(("blocks" : Str), V.int n), (("rows" : Str), V.ref D2)] = [(("blocks" : Str), V.int n), (("rows" : Str), V.ref D2), (("there" : Str), V.ref D3)] := (put_past (by decide +kernel)).trans (congrArg _ ((put_past (by decide +kernel)).trans rfl))
      rw [e3]
      refine k _ ys pm ⟨⟨fun r hr => hj.sh r (pm.mem_iff.mp hr), ndy⟩, st, n2, n40, by rw [lys]; exact l120, dx, D2, D3, upd_same, ⟨bs, ?_, ?_⟩, ?_⟩ ?_
      · rw [upd_ne (Ne.symm hpD2)]; exact s3 _ _ cD
      · refine Paired.mapP pc fun t r h => ?_
        show upd _ _ _ _ = _
        rw [upd_ne (fun z => by subst z; cases cp.symm.trans h)]
        exact s3 _ _ h
      · show upd _ _ _ _ = _
        rw [upd_ne (Ne.symm hpD3)]; exact hd3
      · intro c o e hc
        rw [upd_ne hc]
        exact s3 _ _ (co _ _ (s1 _ _ e) hc)
end
end K46
end
section
set_option maxHeartbeats 4000000
/-! W3: come_to, come_from, useful_jumps, going_on. -/
namespace K46
open PySem Ja
open L2 hiding CX0 E0 pass0 Fun
open PySem.W (Frag findIn isFn fnIn)
open C8 (Cal Met Mak Def Fun CX0 E0 pass0 fnScope fnBody fnArgs fnScope_by cal0 met0 mak0 pe_c pe_mk pe_mt pe_mt0 pe_gc fn0)
theorem at_item {R : Addr → List Int → Prop} {ts : List Addr} {ms : List (List Int)} {j : Nat} {r : List Int} {x : V} (p : Paired R ts ms) (hj : ms[j]? = some r) (hx : (ts.map V.ref)[j]? = some x) : ∃ t, x = .ref t ∧ R t r := by
  rw [List.getElem?_map] at hx
  cases q : ts[j]? with
  | none => rw [q] at hx; cases hx
  | some t =>
    rw [q] at hx
    obtain ⟨r', h', q'⟩ := paired_get p q
    rw [hj] at h'
    cases h'
    exact ⟨t, (Option.some.inj hx).symm, q'⟩
theorem paired_rev {α β : Type} {R : α → β → Prop} {as : List α} {bs : List β} (p : Paired R as bs) : Paired R as.reverse bs.reverse := by
  induction p with
  | nil => exact .nil
  | cons h t ih => rw [List.reverse_cons, List.reverse_cons]; exact Paired.snoc ih h
/-- who is found, going along -/
def comeS (p q : List Int → Int) : List Int → List (List Int) → List Int
  | S, [] => S
  | S, r :: rs => comeS p q (if p r ∈ S then (if q r ∈ S then S else S ++ [q r]) else S) rs
def comeTo (js : List (List Int)) : List Int := comeS j0 j1 [0] js
def comeFrom (n : Int) (js : List (List Int)) : List Int := comeS j1 j0 [n - 1] js.reverse
def usefulF (n : Int) (js : List (List Int)) : List (List Int) := js.filter fun r => decide (j0 r ∈ comeTo js) && decide (j1 r ∈ comeFrom n js)
theorem comeS_snoc {p q : List Int → Int} : ∀ {js : List (List Int)} {S : List Int} {r : List Int}, comeS p q S (js ++ [r]) = (if p r ∈ comeS p q S js then (if q r ∈ comeS p q S js then comeS p q S js else comeS p q S js ++ [q r]) else comeS p q S js)
  | [], S, r => rfl
  | a :: js, S, r => by show comeS p q _ (js ++ [r]) = _; rw [comeS_snoc]; rfl
theorem comeS_len {p q : List Int → Int} : ∀ {js : List (List Int)} {S : List Int}, (comeS p q S js).length ≤ S.length + js.length
  | [], S => by simp [comeS]
  | a :: js, S => by
    show (comeS p q _ js).length ≤ _
    refine Nat.le_trans comeS_len ?_
    split
    · split <;> simp <;> omega
    · simp <;> omega
abbrev DK (H : Hp) (d : Addr) (S : List Int) : Prop := H d = some (.dK (S.map fun i => (Sum.inl i, V.bl true)))
theorem valK (S : List Int) (i : Int) : valV (S.map fun i => ((Sum.inl i : L2.Key), V.bl true)) (Sum.inl i) = if i ∈ S then some (.bl true) else none := by
  induction S with
  | nil => rfl
  | cons a S ih =>
    by_cases e : a = i
    · subst e
      rw [List.map_cons, valV_pos rfl, if_pos List.mem_cons_self]
    · have e2 : ¬ i = a := fun z => e z.symm
      rw [List.map_cons, valV_neg (fun z => e (Sum.inl.inj z)), ih]
      simp [e2]
theorem putKK (S : List Int) (i : Int) : putK (S.map fun i => ((Sum.inl i : L2.Key), V.bl true)) (Sum.inl i) (V.bl true) = ((if i ∈ S then S else S ++ [i]).map fun i => ((Sum.inl i : L2.Key), V.bl true)) := by
  by_cases h : i ∈ S
  · rw [if_pos h]
    unfold putK
    rw [if_pos]
    · rw [List.map_map]
      refine List.map_congr_left fun a _ => ?_
      show (if (Sum.inl a : L2.Key) = Sum.inl i then _ else _) = _
      split <;> rfl
    · exact List.any_eq_true.mpr ⟨(Sum.inl i, V.bl true), List.mem_map.mpr ⟨i, h, rfl⟩, by simp⟩
  · rw [if_neg h, putK_new _ (by rw [valK, if_neg h]), List.map_append]
    rfl
/-- pairs of ints -/
abbrev Two (js : List (List Int)) : Prop := ∀ r ∈ js, ∃ u v : Int, r = [u, v]
theorem Jr.two {n : Int} {rs : List (List Int)} (h : Jr n rs) : Two rs := fun r hr => by obtain ⟨u, v, e, _⟩ := h.sh r hr; exact ⟨u, v, e⟩
def spTo : Sp := fun vs H Q _ => ∃ (n : Int) (l : Addr) (js : List (List Int)), vs = [.int n, .ref l] ∧ Rows H l js ∧ Two js ∧ js.length ≤ 1000 ∧ ∀ H' d, Same H H' → DK H' d (comeTo js) → Q (.ref d) H'
def spFrom : Sp := fun vs H Q _ => ∃ (n : Int) (l : Addr) (js : List (List Int)), vs = [.int n, .ref l] ∧ Rows H l js ∧ Two js ∧ js.length ≤ 1000 ∧ ∀ H' d, Same H H' → DK H' d (comeFrom n js) → Q (.ref d) H'
def spUse : Sp := fun vs H Q _ => ∃ (n : Int) (l : Addr) (js : List (List Int)), vs = [.int n, .ref l] ∧ Rows H l js ∧ Two js ∧ js.length ≤ 1000 ∧ ∀ H' u, Same H H' → Rows H' u (usefulF n js) → Q (.ref u) H'
section
variable {P : Program} {w : World} {K : Frag} {mg : Str → Option Value} {base : Heap} {f C : Addr} {fd : FuncData}
theorem w_come_to (F : Def K mg "come_to" sComeTo f fd) (b : Binds K fd ["blocks", "jumps"] []) : Cal P w K mg base 1 "come_to" spTo [] := by
  have sc : FnScope ["blocks", "jumps", "found", "u", "v"] ["blocks", "jumps"] (fnScope sComeTo) := fnScope_by (by decide +kernel)
  refine cal0 F b .nil sc (fun vs H Q E h => by obtain ⟨_, _, _, rfl, _⟩ := h; rfl) fun cdv A outer s H vs Q E hr h => ?_
  obtain ⟨n, l, js, rfl, hl, h2, hlen, k⟩ := h
  obtain ⟨ts, el, pl⟩ := hl.ex
  have hu := hu_of hr
  refine ⟨_, (pss_cons (ps_set (i := 2) sc.nd rfl (Or.inl rfl) (pe_disp (pps_cons pe_int pe_bl pps_nil) (by rfl) (by rfl) (fun z => by cases z) (by decide)))
  (pss_cons (ps_for PassesOwn.never rfl (pi_list (pv 1)) (pg_tup rfl (pgs_cons (pg_name (i := 3) sc.nd rfl (Or.inl rfl)) (pgs_cons (pg_name (i := 4) sc.nd rfl (Or.inl rfl)) pgs_nil))) (pss_one (ps_if (pt_cmp (pc_din hu (pv 3) (pv 2))) (pss_one (ps_dput hu (pv 2) (pv 4) pe_bl rfl)) pss_nil)))
  (pss_one (ps_ret (pv 2))))), ?_⟩
  intro d hd
  refine ⟨upd_same, [(Sum.inl 0, .bl true)], rfl, by decide, ?_⟩
  have hd1 : DK (upd (upd H d (.dK [])) d (.dK (mergeK [] [(Sum.inl 0, V.bl true)]))) d [0] := by show upd _ _ _ _ = _; rw [upd_same]; rfl
  have sm1 : Same H (upd (upd H d (.dK [])) d (.dK (mergeK [] [(Sum.inl 0, V.bl true)]))) := same_upd (same_new hd) hd
  generalize upd (upd H d (.dK [])) d (.dK (mergeK [] [(Sum.inl 0, V.bl true)])) = H1 at hd1 sm1
  have len : ts.length = js.length := Paired.length pl
  refine ⟨_, rfl, l, rfl, ⟨_, SqL.of (sm1 _ _ el)⟩, for_it walk_list (fun i σ H' => (∃ v3 v4, σ = [some (.int n), some (.ref l), some (.ref d), v3, v4]) ∧ Same H H' ∧ DK H' d (comeTo (js.take i))) ⟨⟨none, none, rfl⟩, sm1, hd1⟩ (fun i σ H' _ h => SqL.of (h.2.1 _ _ el)) ?_ ?_⟩
  · rintro i x σ _ H2 hi ⟨⟨v3, v4, rfl⟩, s2, hD⟩ ⟨rfl, hx⟩
    rw [List.length_map] at hi
    have ei : js[i]? = some js[i] := List.getElem?_eq_getElem (by omega)
    obtain ⟨t, rfl, hm⟩ := at_item pl ei hx
    obtain ⟨u, v, er⟩ := h2 js[i] (List.mem_of_getElem? ei)
    have hm2 : H2 t = some (.tup [.int u, .int v]) := by have := s2 _ _ hm; rw [er] at this; exact this
    refine ⟨t, _, rfl, SqT.of hm2, rfl, _, _, rfl, _, _, rfl, rfl, ?_⟩
    have g := DGet.k (k := Sum.inl u) hD
    rw [valK] at g
    refine ⟨_, rfl, _, rfl, d, _, rfl, g, _, rfl, ?_⟩
    have step : comeTo (js.take (i + 1)) = if u ∈ comeTo (js.take i) then (if v ∈ comeTo (js.take i) then comeTo (js.take i) else comeTo (js.take i) ++ [v]) else comeTo (js.take i) := by
      unfold comeTo
      rw [tk_more ei, comeS_snoc, er]
      rfl
    by_cases c : u ∈ comeTo (js.take i)
    · rw [if_pos c] at step ⊢
      refine ift rfl ?_
      refine ⟨_, rfl, _, rfl, d, _, rfl, DPut.k (k := Sum.inl v) hD ?_, ⟨_, _, rfl⟩, same_upd s2 hd, ?_⟩
      · rw [List.length_map, sizeLine_eq]
        have := comeS_len (p := j0) (q := j1) (js := js.take i) (S := [0])
        have h3 : (js.take i).length ≤ js.length := by rw [List.length_take]; omega
        unfold comeTo
        simp at this
        omega
      · show upd _ _ _ _ = _
        rw [upd_same, putKK, step]
    · rw [if_neg c] at step ⊢
      refine iff rfl ?_
      refine ⟨⟨_, _, rfl⟩, s2, ?_⟩
      rw [step]; exact hD
  · rintro σ H2 ⟨⟨v3, v4, rfl⟩, s2, hD⟩
    rw [List.length_map, len, List.take_length] at hD
    exact ⟨_, rfl, k H2 d s2 hD⟩
theorem w_come_from (F : Def K mg "come_from" sComeFrom f fd) (b : Binds K fd ["blocks", "jumps"] []) : Cal P w K mg base 1 "come_from" spFrom [] := by
  have sc : FnScope ["blocks", "jumps", "found", "u", "v"] ["blocks", "jumps"] (fnScope sComeFrom) := fnScope_by (by decide +kernel)
  refine cal0 F b .nil sc (fun vs H Q E h => by obtain ⟨_, _, _, rfl, _⟩ := h; rfl) fun cdv A outer s H vs Q E hr h => ?_
  obtain ⟨n, l, js, rfl, hl, h2, hlen, k⟩ := h
  obtain ⟨ts, el, pl⟩ := hl.ex
  have hu := hu_of hr
  refine ⟨_, (pss_cons (ps_set (i := 2) sc.nd rfl (Or.inl rfl) (pe_disp (pps_cons (pe_op op_sub (pv 0) pe_int) pe_bl pps_nil) (by rfl) (by rfl) (fun z => by cases z) (by decide)))
  (pss_cons (ps_for PassesOwn.never rfl (pi_list (pe_revL (pv 1))) (pg_tup rfl (pgs_cons (pg_name (i := 3) sc.nd rfl (Or.inl rfl)) (pgs_cons (pg_name (i := 4) sc.nd rfl (Or.inl rfl)) pgs_nil))) (pss_one (ps_if (pt_cmp (pc_din hu (pv 4) (pv 2))) (pss_one (ps_dput hu (pv 2) (pv 3) pe_bl rfl)) pss_nil)))
  (pss_one (ps_ret (pv 2))))), ?_⟩
  intro d hd
  refine ⟨_, rfl, _, _, rfl, rfl, upd_same, [(Sum.inl (n - 1), .bl true)], rfl, by show 1 ≤ 15; decide, ?_⟩
  have hd1 : DK (upd (upd H d (.dK [])) d (.dK (mergeK [] [(Sum.inl (n - 1), V.bl true)]))) d [n - 1] := by show upd _ _ _ _ = _; rw [upd_same]; rfl
  have sm1 : Same H (upd (upd H d (.dK [])) d (.dK (mergeK [] [(Sum.inl (n - 1), V.bl true)]))) := same_upd (same_new hd) hd
  generalize upd (upd H d (.dK [])) d (.dK (mergeK [] [(Sum.inl (n - 1), V.bl true)])) = H1 at hd1 sm1
  have len : ts.length = js.length := Paired.length pl
  refine ⟨_, rfl, l, ts.map V.ref, rfl, SqL.of (sm1 _ _ el), fun lr hlr => ?_⟩
  have pr : Paired (fun t r => TupI H t r) ts.reverse js.reverse := paired_rev pl
  have elr : (upd H1 lr (.lst (ts.map V.ref).reverse)) lr = some (.lst (ts.reverse.map V.ref)) := by rw [upd_same, List.map_reverse]
  have smr : Same H (upd H1 lr (.lst (ts.map V.ref).reverse)) := sm1.trans (same_new hlr)
  have hdr : DK (upd H1 lr (.lst (ts.map V.ref).reverse)) d [n - 1] := same_new hlr _ _ hd1
  generalize upd H1 lr (.lst (ts.map V.ref).reverse) = H1 at elr smr hdr
  refine ⟨lr, rfl, ⟨_, SqL.of elr⟩, for_it walk_list (fun i σ H' => (∃ v3 v4, σ = [some (.int n), some (.ref l), some (.ref d), v3, v4]) ∧ Same H H' ∧ H' lr = some (.lst (ts.reverse.map V.ref)) ∧ DK H' d (comeS j1 j0 [n - 1] (js.reverse.take i))) ⟨⟨none, none, rfl⟩, smr, elr, hdr⟩ (fun i σ H' _ h => SqL.of h.2.2.1) ?_ ?_⟩
  · rintro i x σ _ H2 hi ⟨⟨v3, v4, rfl⟩, s2, hlr2, hD⟩ ⟨rfl, hx⟩
    rw [List.length_map] at hi
    have hix : i < js.reverse.length := by rw [← Paired.length pr]; exact hi
    have ei : js.reverse[i]? = some js.reverse[i] := List.getElem?_eq_getElem hix
    obtain ⟨t, rfl, hm⟩ := at_item pr ei hx
    obtain ⟨u, v, er⟩ := h2 js.reverse[i] (List.mem_reverse.mp (List.mem_of_getElem? ei))
    have hm2 : H2 t = some (.tup [.int u, .int v]) := by have := s2 _ _ hm; rw [er] at this; exact this
    refine ⟨t, _, rfl, SqT.of hm2, rfl, _, _, rfl, _, _, rfl, rfl, ?_⟩
    have g := DGet.k (k := Sum.inl v) hD
    rw [valK] at g
    refine ⟨_, rfl, _, rfl, d, _, rfl, g, _, rfl, ?_⟩
    have step : comeS j1 j0 [n - 1] (js.reverse.take (i + 1)) = if v ∈ comeS j1 j0 [n - 1] (js.reverse.take i) then (if u ∈ comeS j1 j0 [n - 1] (js.reverse.take i) then comeS j1 j0 [n - 1] (js.reverse.take i) else comeS j1 j0 [n - 1] (js.reverse.take i) ++ [u]) else comeS j1 j0 [n - 1] (js.reverse.take i) := by
      rw [tk_more ei, comeS_snoc, er]
      rfl
    have hld : lr ≠ d := fun z => by rw [z] at hlr2; cases hlr2.symm.trans hD
    by_cases c : v ∈ comeS j1 j0 [n - 1] (js.reverse.take i)
    · rw [if_pos c] at step ⊢
      refine ift rfl ?_
      refine ⟨_, rfl, _, rfl, d, _, rfl, DPut.k (k := Sum.inl u) hD ?_, ⟨_, _, rfl⟩, same_upd s2 hd, by rw [upd_ne hld]; exact hlr2, ?_⟩
      · rw [List.length_map, sizeLine_eq]
        have := comeS_len (p := j1) (q := j0) (js := js.reverse.take i) (S := [n - 1])
        have h3 : (js.reverse.take i).length ≤ js.length := by rw [List.length_take, List.length_reverse]; omega
        simp only [List.length_cons, List.length_nil] at this
        omega
      · show upd _ _ _ _ = _
        rw [upd_same, putKK, step]
    · rw [if_neg c] at step ⊢
      refine iff rfl ?_
      refine ⟨⟨_, _, rfl⟩, s2, hlr2, ?_⟩
      rw [step]; exact hD
  · rintro σ H2 ⟨⟨v3, v4, rfl⟩, s2, hlr2, hD⟩
    rw [List.length_map, Paired.length pr, List.take_length] at hD
    exact ⟨_, rfl, k H2 d s2 hD⟩
theorem w_useful (c_come_to : Cal P w K mg base 1 "come_to" spTo []) (c_come_from : Cal P w K mg base 1 "come_from" spFrom []) (F : Def K mg "useful_jumps" sUseful f fd) (b : Binds K fd ["blocks", "jumps"] []) : Cal P w K mg base 2 "useful_jumps" spUse [] := by
  have sc : FnScope ["blocks", "jumps", "ahead", "behind", "jump"] ["blocks", "jumps"] (fnScope sUseful) := fnScope_by (by decide +kernel)
  refine cal0 F b .nil sc (fun vs H Q E h => by obtain ⟨_, _, _, rfl, _⟩ := h; rfl) fun cdv A outer s H vs Q E hr h => ?_
  obtain ⟨n, l, js, rfl, hl, h2, hlen, k⟩ := h
  obtain ⟨ts, el, pl⟩ := hl.ex
  have hu := hu_of hr
  refine ⟨_, (pss_cons (ps_asg (pe_tup (pa_cons (pe_c c_come_to hr (by decide) rfl (pa_cons (pv 0) (pa_cons (pv 1) pa_nil))) (pa_cons (pe_c c_come_from hr (by decide) rfl (pa_cons (pv 0) (pa_cons (pv 1) pa_nil))) pa_nil))) (pg_tup rfl (pgs_cons (pg_name (i := 2) sc.nd rfl (Or.inr rfl)) (pgs_cons (pg_name (i := 3) sc.nd rfl (Or.inr rfl)) pgs_nil))))
  (pss_one (ps_ret (pe_lc (own := [("jump", 4)]) rfl sc.nd (pi_list (pv 1)) (blkOk_by (own := [("jump", 4)]) (N := ["blocks", "jumps", "ahead", "behind", "jump"]) (sc := fnScope sUseful) (by decide +kernel)) (fun _ _ _ _ _ => (pg_name (i := 4) sc.nd rfl (Or.inl rfl))) (fun _ _ _ _ _ => pts_one (PW.pt (pw_and (pt_cmp (pc_din hu (pe_ix (ixT (K := K) rfl) (pv 4) pe_int (fun _ _ => rfl)) (pv 2))) (pw_and1 (pt_cmp (pc_din hu (pe_ix (ixT (K := K) rfl) (pv 4) pe_int (fun _ _ => rfl)) (pv 3))))))) (fun _ _ _ _ _ => (pv 4)))))), ?_⟩
  refine ⟨_, rfl, _, rfl, n, l, js, rfl, hl, h2, hlen, fun H1 d1 s1 hd1 => ?_⟩
  refine ⟨_, rfl, _, rfl, n, l, js, rfl, hl.same s1, h2, hlen, fun H2 d2 s2 hd2 => ⟨by show 2 ≤ sizeLine; decide, fun p hp => ?_⟩⟩
  refine ⟨p, _, rfl, SqT.of upd_same, rfl, _, _, rfl, _, _, rfl, rfl, ?_⟩
  have s3 : Same H2 (upd H2 p (.tup [V.ref d1, V.ref d2])) := same_new hp
  have hD1 : DK (upd H2 p (.tup [V.ref d1, V.ref d2])) d1 (comeTo js) := s3 _ _ (s2 _ _ hd1)
  have hD2 : DK (upd H2 p (.tup [V.ref d1, V.ref d2])) d2 (comeFrom n js) := s3 _ _ hd2
  have sH := (s1.trans s2).trans s3
  generalize upd H2 p (.tup [V.ref d1, V.ref d2]) = H3 at hD1 hD2 sH
  have len : ts.length = js.length := Paired.length pl
  have hlen' : js.length = (ts.map V.ref).length := by rw [List.length_map, len]
  refine ⟨_, rfl, l, rfl, ⟨_, SqL.of (sH _ _ el)⟩, fun D hD => ?_⟩
  refine lc_fm (ms := js) (by rw [hlen']; exact walk_list) (fun r => decide (j0 r ∈ comeTo js) && decide (j1 r ∈ comeFrom n js)) (fun r => r) (fun H v r => ∃ t, v = .ref t ∧ TupI H t r) (fun H H' v r nl ⟨t, e, q⟩ => ⟨t, e, nl _ _ q (fun xs z => by cases z)⟩) hD (by rw [sizeLine_eq]; omega) (fun H' s => SqL.of ((sH.trans s) _ _ el)) ?_ ?_
  · rintro j r x _ H4 Nx hj s4 ⟨rfl, hx⟩ kF kT
    obtain ⟨t, rfl, hm⟩ := at_item pl hj hx
    obtain ⟨u, v, rfl⟩ := h2 r (List.mem_of_getElem? hj)
    have hm4 := (sH.trans s4) _ _ hm
    have g1 := DGet.k (k := Sum.inl u) (s4 _ _ hD1)
    have g2 := DGet.k (k := Sum.inl v) (s4 _ _ hD2)
    rw [valK] at g1 g2
    refine ⟨rfl, ?_⟩
    refine ⟨_, rfl, t, _, 0, V.int u, rfl, rfl, SqT.of hm4, atI0 _ _, _, rfl, d1, _, rfl, g1, _, rfl, ?_⟩
    by_cases c1 : u ∈ comeTo js
    · rw [if_pos c1]
      refine ift rfl ?_
      refine ⟨_, rfl, t, _, 1, V.int v, rfl, rfl, SqT.of hm4, atI1 _ _ _, _, rfl, d2, _, rfl, g2, _, rfl, ?_⟩
      by_cases c2 : v ∈ comeFrom n js
      · rw [if_pos c2]
        exact ift rfl ⟨_, rfl, kT (by show (decide (u ∈ _) && decide (v ∈ _)) = true; simp [c1, c2]) _ _ (Same.refl _) ⟨t, rfl, hm4⟩⟩
      · rw [if_neg c2]
        exact iff rfl (kF (by show (decide (u ∈ _) && decide (v ∈ _)) = false; simp [c2]) _ (Same.refl _))
    · rw [if_neg c1]
      exact iff rfl (iff rfl (kF (by show (decide (u ∈ _) && decide (v ∈ _)) = false; simp [c1]) _ (Same.refl _)))
  · rintro H' ys s4 hD' hp'
    rw [List.map_id'] at hp'
    exact k H' D (sH.trans s4) (Rows.of hD' hp')
def sucF (js : List (List Int)) (i : Int) : List Int := (js.filter fun r => decide (j0 r = i)).map j1
def spGo : Sp := fun vs H Q _ => ∃ (l : Addr) (js : List (List Int)), vs = [.ref l] ∧ Rows H l js ∧ Two js ∧ js.length ≤ 1000 ∧ ∀ H' g, Same H H' → Going H' g (sucF js) → Q (.ref g) H'
/-- what the table holds behind these jumps; its lists are new -/
def GoI (H H' : Hp) (g : Addr) (js : List (List Int)) : Prop := ∃ kvs : List (L2.Key × V), H' g = some (.dK kvs) ∧ kvs.length ≤ js.length ∧
  (∀ i : Int, match valV kvs (Sum.inl i) with
    | some v => ∃ l ts, v = .ref l ∧ H l = none ∧ H' l = some (.lst (ts.map V.ref)) ∧ ts.length ≤ js.length ∧ Paired (fun t r => TupI H' t r) ts (js.filter fun r => decide (j0 r = i))
    | none => (js.filter fun r => decide (j0 r = i)) = []) ∧
  (∀ (i i' : Int) v, valV kvs (Sum.inl i) = some v → valV kvs (Sum.inl i') = some v → i = i')
theorem GoI.going {H H' : Hp} {g : Addr} {js : List (List Int)} (h : GoI H H' g js) (h2 : Two js) : Going H' g (sucF js) := by
  obtain ⟨kvs, h1, _, h3, _⟩ := h
  refine ⟨kvs, h1, fun i => ?_⟩
  have z := h3 i
  cases q : valV kvs (Sum.inl i) with
  | none => rw [q] at z; show sucF js i = []; unfold sucF; rw [z]; rfl
  | some v =>
    rw [q] at z
    obtain ⟨l, ts, e, e4, e2, e5, e3⟩ := z
    refine ⟨l, ts, e, e2, ?_⟩
    unfold sucF
    have hh : ∀ r ∈ js.filter (fun r => decide (j0 r = i)), r = [i, j1 r] := fun r hr => by
      obtain ⟨hm, hi⟩ := List.mem_filter.mp hr
      obtain ⟨u, v, rfl⟩ := h2 r hm
      have : u = i := of_decide_eq_true hi
      rw [this]; rfl
    generalize js.filter (fun r => decide (j0 r = i)) = fs at e3 hh
    clear h2 h1 h3 q e2 e5
    induction e3 with
    | nil => exact .nil
    | @cons t r _ _ h t' ih =>
      refine .cons ?_ (ih fun r hr => hh r (List.mem_cons_of_mem _ hr))
      rw [← hh r List.mem_cons_self]
      exact h
section
variable {P : Program} {w : World} {K : Frag} {mg : Str → Option Value} {base : Heap} {f C : Addr} {fd : FuncData}
theorem w_going (F : Def K mg "going_on" sGoingOn f fd) (b : Binds K fd ["jumps"] []) : Cal P w K mg base 1 "going_on" spGo [] := by
  have sc : FnScope ["jumps", "found", "jump"] ["jumps"] (fnScope sGoingOn) := fnScope_by (by decide +kernel)
  refine cal0 F b .nil sc (fun vs H Q E h => by obtain ⟨_, _, rfl, _⟩ := h; rfl) fun cdv A outer s H vs Q E hr h => ?_
  obtain ⟨l, js, rfl, hl, h2, hlen, k⟩ := h
  obtain ⟨ts, el, pl⟩ := hl.ex
  have hu := hu_of hr
  refine ⟨_, (pss_cons (ps_set (i := 1) sc.nd rfl (Or.inl rfl) (pe_dnewK))
  (pss_cons (ps_for PassesOwn.never rfl (pi_list (pv 0)) (pg_name (i := 2) sc.nd rfl (Or.inl rfl)) (pss_cons (ps_if (pt_cmp (pc_dnotin hu (pe_ix ix_tup (pv 2) pe_int (fun _ _ => rfl)) (pv 1))) (pss_one (ps_dput hu (pv 1) (pe_ix ix_tup (pv 2) pe_int (fun _ _ => rfl)) (pe_lst pa_nil) rfl)) pss_nil)
  (pss_one (ps_expr (pe_bm PySem.F.plainAttrs_list PySem.F.slot_list_append PySem.F.type_list_append mt_append (pe_dget hu (pv 1) (pe_ix ix_tup (pv 2) pe_int (fun _ _ => rfl)) (fun _ _ => rfl)) (pa_cons (pv 2) pa_nil))))))
  (pss_one (ps_ret (pv 1))))), ?_⟩
  intro d hd
  have len : ts.length = js.length := Paired.length pl
  refine ⟨_, rfl, l, rfl, ⟨_, SqL.of (same_new hd _ _ el)⟩, for_it walk_list (fun i σ H' => (∃ v2, σ = [some (.ref l), some (.ref d), v2]) ∧ Same H H' ∧ GoI H H' d (js.take i)) ⟨⟨none, rfl⟩, same_new hd, [], upd_same, Nat.le_refl _, fun i => rfl, fun i i' v z => by cases z⟩ (fun i σ H' _ h => SqL.of (h.2.1 _ _ el)) ?_ ?_⟩
  · rintro i x σ _ H2 hi ⟨⟨v2, rfl⟩, s2, kvs, hg, hkl, hv, hj⟩ ⟨rfl, hx⟩
    rw [List.length_map] at hi
    have ei : js[i]? = some js[i] := List.getElem?_eq_getElem (by omega)
    obtain ⟨t, rfl, hm⟩ := at_item pl ei hx
    obtain ⟨u, v, er⟩ := h2 js[i] (List.mem_of_getElem? ei)
    have hm2 : H2 t = some (.tup [.int u, .int v]) := by have := s2 _ _ hm; rw [er] at this; exact this
    have hti : (js.take i).length ≤ 1000 := by rw [List.length_take]; omega
    have hts : (js.take (i + 1)).length = (js.take i).length + 1 := by rw [tk_more ei, List.length_append]; rfl
    have hdl : ∀ {a xs}, H2 a = some (.lst xs) → a ≠ d := fun {a xs} e z => by rw [z] at e; cases e.symm.trans hg
    refine ⟨_, rfl, t, _, 0, V.int u, rfl, rfl, SqT.of hm2, atI0 _ _, _, rfl, d, _, rfl, DGet.k (k := Sum.inl u) hg, _, rfl, ?_⟩
    -- behind the append: the list a held ts' before
    have fin : ∀ (H3 : Hp) (kvs' : List (L2.Key × V)) (a : Addr) (ts' : List Addr), Same H H3 → H3 d = some (.dK kvs') → kvs'.length ≤ (js.take (i + 1)).length → H3 a = some (.lst (ts'.map V.ref)) → H a = none → ts'.length ≤ (js.take i).length → Paired (fun t r => TupI H3 t r) ts' ((js.take i).filter fun r => decide (j0 r = u)) →
        H3 t = some (.tup [.int u, .int v]) → (∀ j : Int, j ≠ u → valV kvs' (Sum.inl j) = valV kvs (Sum.inl j)) → valV kvs' (Sum.inl u) = some (.ref a) → (∀ b ob, H2 b = some ob → b ≠ d → H3 b = some ob) → (∀ j : Int, j ≠ u → valV kvs (Sum.inl j) ≠ some (.ref a)) →
        GoI H (upd H3 a (.lst (ts'.map V.ref ++ [V.ref t]))) d (js.take (i + 1)) := by
      intro H3 kvs' a ts' s3 e1 e1l e2 e3 e4 e5 e6 e7 e8 e9 e10
      have had : a ≠ d := fun z => by rw [z] at e2; cases e2.symm.trans e1
      have tupK : ∀ {q r}, TupI H3 q r → TupI (upd H3 a (.lst (ts'.map V.ref ++ [V.ref t]))) q r := fun {q r} e => by
        show upd _ _ _ _ = _
        rw [upd_ne (fun z => by rw [z] at e; cases e.symm.trans e2)]; exact e
      refine ⟨kvs', by rw [upd_ne (Ne.symm had)]; exact e1, e1l, fun j => ?_, fun j j' w h1 h2' => ?_⟩
      · by_cases c : j = u
        · subst c
          rw [e8]
          refine ⟨a, ts' ++ [t], rfl, e3, by rw [upd_same, List.map_append]; rfl, by rw [List.length_append, hts]; exact Nat.succ_le_succ e4, ?_⟩
          rw [tk_more ei, List.filter_append, List.filter_cons, if_pos (by rw [er]; exact decide_eq_true rfl), List.filter_nil]
          refine Paired.snoc (Paired.mapP e5 fun _ _ z => tupK z) ?_
          rw [er]
          exact tupK e6
        · rw [e7 j c]
          have hf : (js.take (i + 1)).filter (fun r => decide (j0 r = j)) = (js.take i).filter (fun r => decide (j0 r = j)) := by
            rw [tk_more ei, List.filter_append, List.filter_cons, if_neg (by rw [er]; intro z; exact c (of_decide_eq_true z).symm), List.filter_nil, List.append_nil]
          have z := hv j
          cases q : valV kvs (Sum.inl j) with
          | none => rw [q] at z; show _ = []; rw [hf]; exact z
          | some w =>
            rw [q] at z
            obtain ⟨b, ts2, rfl, z1, z2, z3, z4⟩ := z
            have hba : b ≠ a := fun y => by rw [y] at q; exact e10 j c q
            refine ⟨b, ts2, rfl, z1, by rw [upd_ne hba]; exact e9 _ _ z2 (hdl z2), by rw [hts]; omega, ?_⟩
            rw [hf]
            exact Paired.mapP z4 fun q r y => tupK (e9 _ _ y (fun w => by rw [w] at y; cases y.symm.trans hg))
      · by_cases c : j = u
        · by_cases c' : j' = u
          · rw [c, c']
          · rw [c, e8] at h1
            rw [e7 j' c'] at h2'
            rw [← h1] at h2'
            exact absurd h2' (e10 j' c')
        · by_cases c' : j' = u
          · rw [c', e8] at h2'
            rw [e7 j c] at h1
            rw [← h2'] at h1
            exact absurd h1 (e10 j c)
          · rw [e7 j c] at h1
            rw [e7 j' c'] at h2'
            exact hj j j' w h1 h2'
    cases q : valV kvs (Sum.inl u) with
    | none =>
      refine ift rfl ?_
      refine ⟨Nat.zero_le _, fun a ha => ?_⟩
      have had : a ≠ d := fun z => by rw [z] at ha; cases ha.symm.trans hg
      refine ⟨_, rfl, _, rfl, t, _, 0, V.int u, rfl, rfl, SqT.of (same_new ha _ _ hm2), atI0 _ _, d, _, rfl, DPut.k (k := Sum.inl u) (same_new ha _ _ hg) (by rw [sizeLine_eq]; omega), ?_⟩
      have z0 := hv u
      rw [q] at z0
      have hda : d ≠ a := Ne.symm had
      generalize hH3 : upd (upd H2 a (.lst [])) d (.dK (putK kvs (Sum.inl u) (.ref a))) = H3
      have e1 : H3 d = some (.dK (putK kvs (Sum.inl u) (.ref a))) := by rw [← hH3]; exact upd_same
      have e2 : H3 a = some (.lst (([] : List Addr).map V.ref)) := by rw [← hH3, upd_ne had]; exact upd_same
      have e9 : ∀ b ob, H2 b = some ob → b ≠ d → H3 b = some ob := fun b ob e hb => by rw [← hH3, upd_ne hb]; exact same_new ha _ _ e
      have e3 : Same H H3 := fun b ob e => e9 b ob (s2 _ _ e) (ne_of_none e hd)
      have hm3 : H3 t = some (.tup [.int u, .int v]) := e9 _ _ hm2 (fun w => by rw [w] at hm2; cases hm2.symm.trans hg)
      have vu : valV (putK kvs (Sum.inl u) (.ref a)) (Sum.inl u) = some (.ref a) := by rw [valV_put, if_pos rfl]
      have hl3 : (putK kvs (Sum.inl u) (.ref a)).length ≤ (js.take (i + 1)).length := by rw [putK_new _ q, List.length_append, hts]; exact Nat.succ_le_succ hkl
      have fr : ∀ j : Int, j ≠ u → valV kvs (Sum.inl j) ≠ some (.ref a) := fun j _ e => by
        have z := hv j
        rw [e] at z
        obtain ⟨b, ts2, e1, _, z2, _⟩ := z
        cases e1
        rw [ha] at z2
        cases z2
      have ha0 : H a = none := s2.free ha
      have g3 := DGet.k (k := Sum.inl u) e1
      rw [vu] at g3
      refine ⟨_, rfl, _, rfl, t, _, 0, V.int u, rfl, rfl, SqT.of hm3, atI0 _ _, d, V.ref a, rfl, g3, .inl ⟨rfl, _, SqL.of e2⟩, _, rfl, a, _, _, rfl, rfl, e2, by rw [sizeLine_eq]; simp, ?_⟩
      refine ⟨⟨_, rfl⟩, same_upd e3 ha0, ?_⟩
      exact fin H3 _ a [] e3 e1 hl3 e2 ha0 (Nat.zero_le _) (by rw [z0]; exact .nil) hm3 (fun j c => by rw [valV_put, if_neg (fun z => c (Sum.inl.inj z))]) vu e9 fr
    | some w =>
      refine iff rfl ?_
      have z0 := hv u
      rw [q] at z0
      obtain ⟨a, ts', rfl, z1, z2, z3, z4⟩ := z0
      have g3 := DGet.k (k := Sum.inl u) hg
      rw [q] at g3
      refine ⟨_, rfl, _, rfl, t, _, 0, V.int u, rfl, rfl, SqT.of hm2, atI0 _ _, d, V.ref a, rfl, g3, .inl ⟨rfl, _, SqL.of z2⟩, _, rfl, a, _, _, rfl, rfl, z2, by rw [List.length_map, sizeLine_eq]; omega, ?_⟩
      refine ⟨⟨_, rfl⟩, same_upd s2 z1, ?_⟩
      exact fin H2 kvs a ts' s2 hg (by rw [hts]; omega) z2 z1 z3 z4 hm2 (fun _ _ => rfl) q (fun _ _ e _ => e) (fun j c e => c (hj j u _ e q))
  · rintro σ H2 ⟨⟨v2, rfl⟩, s2, hg⟩
    rw [List.length_map, len, List.take_length] at hg
    exact ⟨_, rfl, k H2 d s2 (hg.going h2)⟩
end
end
end K46
end
section
set_option maxHeartbeats 4000000
/-! W4: Part. -/
namespace K46
open PySem Ja
open L2 hiding CX0 E0 pass0 Fun
open PySem.W (Frag findIn isFn fnIn)
open C8 (Cal Met Mak Def Fun CX0 E0 pass0 fnScope fnBody fnArgs fnScope_by cal0 met0 mak0 pe_c pe_mk pe_mt pe_mt0 pe_gc fn0)
/-- the heap without one object -/
def del (H : Hp) (p : Addr) : Hp := fun b => if b = p then none else H b
theorem del_self {H : Hp} {p : Addr} : del H p p = none := if_pos rfl
theorem del_ne {H : Hp} {p b : Addr} (h : b ≠ p) : del H p b = H b := if_neg h
theorem But.of {H H' : Hp} {p : Addr} (h : Same (del H p) H') : But p H H' := fun b o e hb => h b o (by rw [del_ne hb]; exact e)
theorem But.del {H H' : Hp} {p : Addr} (h : But p H H') : Same (del H p) H' := fun b o e => by
  by_cases q : b = p
  · rw [q, del_self] at e; cases e
  · rw [del_ne q] at e; exact h b o e q
theorem Same.del {H H' : Hp} {p : Addr} (h : Same H H') : Same (K46.del H p) H' := fun b o e => by
  by_cases q : b = p
  · rw [q, del_self] at e; cases e
  · rw [del_ne q] at e; exact h b o e
theorem TupI.del {H : Hp} {p t : Addr} {r : List Int} {o : HO} (h : TupI H t r) (hp : H p = some o) (ho : ∀ xs, o ≠ .tup xs) : TupI (K46.del H p) t r := by
  show K46.del H p t = _
  rw [del_ne]; exact h
  intro z; rw [z] at h; exact ho _ (Option.some.inj (hp.symm.trans h))
theorem Rows.del {H : Hp} {p l : Addr} {rs : List (List Int)} {C dx : Addr} {fs : List (Str × V)} (h : Rows H l rs) (hp : H p = some (.ins C dx fs)) : Rows (K46.del H p) l rs := by
  obtain ⟨ts, h1, h2⟩ := h.ex
  refine ⟨ts, ?_, Paired.mapP h2 fun _ _ y => TupI.del y hp (fun xs z => by cases z)⟩
  rw [del_ne]; exact h1
  intro z; rw [z] at h1; cases hp.symm.trans h1
theorem Rt.del {CR : Addr} {H : Hp} {p r : Addr} {n : Int} {rs : List (List Int)} {C dx : Addr} (h : Rt CR H r n rs) (hp : H p = some (.ins C dx [])) : Rt CR (K46.del H p) r n rs := by
  obtain ⟨ex, l, d, h1, h2, h3⟩ := h.ex
  refine ⟨h.jr, h.srt, h.n2, h.n40, h.l120, ex, l, d, ?_, h2.del hp, ?_⟩
  · rw [del_ne]; exact h1
    intro z; rw [z] at h1; cases hp.symm.trans h1
  · show K46.del H p d = _
    rw [del_ne]; exact h3
    intro z; rw [z] at h3; cases hp.symm.trans h3
theorem nodup_len {α : Type} [DecidableEq α] : ∀ {js rs : List α}, js.Nodup → (∀ j ∈ js, j ∈ rs) → js.length ≤ rs.length
  | [], _, _, _ => Nat.zero_le _
  | a :: js, rs, nd, h => by
    have ha := h a List.mem_cons_self
    obtain ⟨hn, nd'⟩ := List.nodup_cons.mp nd
    have : js.length ≤ (rs.erase a).length := nodup_len nd' fun j hj => (List.mem_erase_of_ne (fun z => hn (by first | (rw [← z]; exact hj) | (rw [z]; exact hj)))).mpr (h j (List.mem_cons_of_mem _ hj))
    rw [List.length_erase_of_mem ha] at this
    have : 0 < rs.length := List.length_pos_of_mem ha
    rw [List.length_cons]
    omega
/-- a part: of the routine at r; the jumps al -/
structure Pt (CR CP : Addr) (H : Hp) (a r : Addr) (n : Int) (rs al : List (List Int)) : Prop where
  rt : Rt CR H r n rs
  sub : al.Sublist rs
  ex : ∃ dx d u, H a = some (.ins CP dx [("routine", .ref r), ("allowed", .ref d), ("useful", .ref u)]) ∧ DB H d al ∧ Rows H u (usefulF n al)
theorem Pt.same {CR CP : Addr} {H H' : Hp} {a r : Addr} {n : Int} {rs al : List (List Int)} (h : Pt CR CP H a r n rs al) (e : Same H H') : Pt CR CP H' a r n rs al := by
  obtain ⟨dx, d, u, h1, h2, h3⟩ := h.ex
  exact ⟨h.rt.same e, h.sub, dx, d, u, e _ _ h1, e _ _ h2, h3.same e⟩
def spPinit (CR CP : Addr) : Sp := fun vs H Q _ => ∃ (p r l dx : Addr) (n : Int) (rs js : List (List Int)), vs = [.ref p, .ref r, .ref l] ∧ H p = some (.ins CP dx []) ∧ Rt CR H r n rs ∧ Rows H l js ∧ js.Nodup ∧ (∀ j ∈ js, j ∈ rs) ∧
  ∀ H', Pt CR CP H' p r n rs (rs.filter fun j => decide (j ∈ js)) → But p H H' → Q .non H'
theorem DB.put {H : Hp} {d t : Addr} {ks : List (List Int)} {r : List Int} (h : DB H d ks) (ht : TupI H t r) (hn : r ∉ ks) (hl : ks.length < 1000000) : DPut H d (.ref t) (.bl true) (upd H d (.dT ((ks ++ [r]).map fun k => (keyOf k, V.bl true)))) := by
  have z := DPut.t (H := H) (k := keyOf r) (v := .bl true) h (by rw [keyOf_V]; exact ht) (by rw [List.length_map, sizeLine_eq]; omega)
  have e0 : valV (ks.map fun k => (keyOf k, V.bl true)) (keyOf r) = none := valV_new fun hm => by
    rw [List.map_map] at hm
    obtain ⟨r', h1, h2⟩ := List.mem_map.mp hm
    exact hn (keyOf_inj h2 ▸ h1)
  rw [putK_new _ e0] at z
  rw [List.map_append]
  exact z
theorem nd_take {js : List (List Int)} {i : Nat} {r : List Int} (nd : js.Nodup) (ei : js[i]? = some r) : r ∉ js.take i := by
  intro hm
  rw [← List.take_append_drop (i + 1) js, tk_more ei] at nd
  have h1 := (List.nodup_append.mp nd).1
  exact (List.nodup_append.mp h1).2.2 _ hm _ (by simp) rfl
theorem memV_rows {n : Int} {rs : List (List Int)} (j : Jr n rs) {H : Hp} {t : Addr} {r : List Int} (ht : TupI H t r) (hr : r ∈ rs) : ∃ u v : Int, r = [u, v] ∧ H t = some (.tup [.int u, .int v]) ∧ memV rs (.int u) (.int v) = true := by
  obtain ⟨u, v, e, _⟩ := j.sh r hr
  subst e
  exact ⟨u, v, rfl, ht, decide_eq_true hr⟩
section
variable {P : Program} {w : World} {K : Frag} {mg : Str → Option Value} {base : Heap} {f CR CP : Addr} {fd : FuncData}
theorem w_Pinit (T : Tb mg) (R : Cl K mg CR "Routine" ["blocks", "rows", "there"]) (R' : Cl K mg CP "Part" ["routine", "allowed", "useful"]) (M : Mk K CP f)
    (c_has : Dn P w K mg base 4 CR "__contains__" (spHas CR)) (c_useful_jumps : Cal P w K mg base 2 "useful_jumps" spUse []) (F : Fun K "__init__" "Part.__init__" (sPt 0) f fd) (b : Binds K fd ["self", "routine", "jumps"] []) : Mak P w K mg base 5 "Part" CP (spPinit CR CP) [] := by
  have sc : FnScope ["self", "routine", "jumps", "named", "jump"] ["self", "routine", "jumps"] (fnScope (sPt 0)) := fnScope_by (by decide +kernel)
  refine mak0 M R'.gl F b .nil sc (fun vs H Q E h => by obtain ⟨_, _, _, _, _, _, _, rfl, _⟩ := h; rfl) fun cdv A outer s H vs Q E hr h => ?_
  obtain ⟨p, r, l, dx, n, rs, js, rfl, hp, hR, hl, nd, hin, k⟩ := h
  obtain ⟨ts, el, pl⟩ := hl.ex
  have hu := hu_of hr
  refine ⟨_, (pss_cons (ps_set (i := 3) sc.nd rfl (Or.inr rfl) (pe_dnewT))
  (pss_cons (ps_for PassesOwn.never rfl (pi_list (pv 2)) (pg_name (i := 4) sc.nd rfl (Or.inl rfl)) (pss_cons (ps_if (pt_cmpR (o_notIn c_has hr (by decide)) (pv 4) (pv 1) (by rfl)) (pss_one ps_never) pss_nil)
  (pss_one (ps_dput hu (pv 3) (pv 4) pe_bl rfl))))
  (pss_cons (ps_fld (pv 0) (pv 1) rfl)
  (pss_cons (ps_fld (pv 0) (pe_dcT hu rfl sc.nd (pi_list (pe_fld (pv 1) rfl)) (blkOk_by (own := [("jump", 4)]) (N := ["self", "routine", "jumps", "named", "jump"]) (sc := fnScope (sPt 0)) (by decide +kernel)) (fun _ _ _ _ _ => (pg_name (i := 4) sc.nd rfl (Or.inl rfl))) (fun _ _ _ _ _ => pts_one (pt_cmp (pc_din hu (pv 4) (pv 3)))) (fun _ _ _ _ _ => (pv 4)) (fun _ _ _ _ _ => pe_bl)) rfl)
  (pss_one (ps_fld (pv 0) (pe_c c_useful_jumps hr (by decide) rfl (pa_cons (pe_fld (pv 1) rfl) (pa_cons (pe_callTy (call_listT rfl) (by rfl) T.list PyProof.Rows.boot_list (pa_cons (pe_fld (pv 0) rfl) pa_nil)) pa_nil))) rfl)))))), ?_⟩
  intro d hd
  have len : ts.length = js.length := Paired.length pl
  have hpd : p ≠ d := ne_of_none hp hd
  have jl : js.length ≤ rs.length := nodup_len nd hin
  have l120 := hR.l120
  refine ⟨_, rfl, l, rfl, ⟨_, SqL.of (same_new hd _ _ el)⟩, for_it walk_list (fun i σ H' => (∃ v4, σ = [some (.ref p), some (.ref r), some (.ref l), some (.ref d), v4]) ∧ Same H H' ∧ DB H' d (js.take i)) ⟨⟨none, rfl⟩, same_new hd, upd_same⟩ (fun i σ H' _ h => SqL.of (h.2.1 _ _ el)) ?_ ?_⟩
  · rintro i x σ _ H2 hi ⟨⟨v4, rfl⟩, s2, hD⟩ ⟨rfl, hx⟩
    rw [List.length_map] at hi
    have ei : js[i]? = some js[i] := List.getElem?_eq_getElem (by omega)
    obtain ⟨t, rfl, hm⟩ := at_item pl ei hx
    have hjin := hin js[i] (List.mem_of_getElem? ei)
    obtain ⟨u, v, er, hm2, hmv⟩ := memV_rows hR.jr (s2 _ _ hm) hjin
    obtain ⟨rx, rl, rd, q1, q2, q3⟩ := hR.ex
    refine ⟨_, rfl, _, rfl, r, rx, _, rfl, s2 _ _ q1, r, t, _, _, n, rs, rfl, hR.same s2, hm2, .int u, .int v, fun H3 s3 => ⟨_, rfl, _, rfl, ?_⟩⟩
    rw [hmv]
    refine iff rfl ?_
    refine ⟨_, rfl, _, rfl, d, _, rfl, DB.put (s3 _ _ hD) (s3 _ _ (s2 _ _ hm)) (nd_take nd ei) (by rw [List.length_take]; omega), ⟨_, rfl⟩, same_upd (s2.trans s3) hd, ?_⟩
    show upd _ _ _ _ = _
    rw [upd_same, tk_more ei]
  · rintro σ H2 ⟨⟨v4, rfl⟩, s2, hD⟩
    rw [List.length_map, len, List.take_length] at hD
    have hp2 := s2 _ _ hp
    refine ⟨_, rfl, _, rfl, p, CP, dx, [], rfl, hp2, R'.cl, R'.na _ (by decide +kernel), (by show 0 < 1000; decide), ?_⟩
    have e1 : putF "routine" (.ref r) [] = [(("routine" : Str), V.ref r)] := rfl
    rw [e1]
    have p0 : del H p p = none := del_self
    have sd2 : Same (del H p) H2 := Same.del s2
    have sd3 : Same (del H p) (upd H2 p (.ins CP dx [(("routine" : Str), V.ref r)])) := same_upd sd2 p0
    have hRd := hR.del hp
    have hRd' := hRd
    obtain ⟨rx, rl, rd, q1, q2, q3⟩ := hRd'.ex
    obtain ⟨tr, er, pr⟩ := q2.ex
    have d3 : DB (upd H2 p (.ins CP dx [(("routine" : Str), V.ref r)])) d js := by show upd _ _ _ _ = _; rw [upd_ne (Ne.symm hpd)]; exact hD
    have p3 : (upd H2 p (.ins CP dx [(("routine" : Str), V.ref r)])) p = some (.ins CP dx [(("routine" : Str), V.ref r)]) := upd_same
    generalize upd H2 p (.ins CP dx [(("routine" : Str), V.ref r)]) = H3 at sd3 d3 p3
    refine ⟨_, rfl, r, CR, rx, _, _, rfl, sd3 _ _ q1, R.cl, R.na _ (by decide +kernel), lk2 (by decide +kernel), rl, rfl, ⟨_, SqL.of (sd3 _ _ er)⟩, fun D hD3 => ?_⟩
    have lenr : tr.length = rs.length := Paired.length pr
    have hlen : rs.length = (tr.map V.ref).length := by rw [List.length_map, lenr]
    have hpD : p ≠ D := ne_of_none p3 hD3
    refine dc_fm (ms := rs) (by rw [hlen]; exact walk_list) (fun j => decide (j ∈ js)) (fun j => j) (fun _ => .bl true) hD3 (by rw [sizeLine_eq]; omega) (by rw [List.map_id']; exact hR.jr.nd.filter _) (fun H' s => SqL.of (s _ _ (sd3 _ _ er))) ?_ ?_
    · rintro j m x _ H4 Nx hj s4 ⟨rfl, hx⟩ kF kT
      obtain ⟨t, rfl, hm⟩ := at_item pr hj hx
      have hm4 : TupI H4 t m := s4 _ _ (sd3 _ _ hm)
      have g := DB.get (s4 _ _ d3) hm4
      refine ⟨rfl, ?_⟩
      refine ⟨_, rfl, _, rfl, d, _, rfl, g, _, rfl, ?_⟩
      by_cases c : m ∈ js
      · rw [if_pos c]
        exact ift rfl ⟨_, rfl, kT (decide_eq_true c) _ t (Same.refl _) hm4⟩
      · rw [if_neg c]
        exact iff rfl (kF (decide_eq_false c) _ (Same.refl _))
    · intro H4 s4 hD4
      rw [show ((rs.filter fun j => decide (j ∈ js)).map fun m => (keyOf m, V.bl true)) = ((rs.filter fun j => decide (j ∈ js)).map fun k => (keyOf k, V.bl true)) from rfl] at hD4
      refine ⟨_, rfl, p, CP, dx, _, rfl, s4 _ _ p3, R'.cl, R'.na _ (by decide +kernel), (by show 1 < 1000; decide), ?_⟩
      have e2 : putF "allowed" (.ref D) [(("routine" : Str), V.ref r)] = [(("routine" : Str), V.ref r), (("allowed" : Str), V.ref D)] := (put_past (by decide +kernel)).trans rfl
      rw [e2]
      have sd5 : Same (del H p) (upd H4 p (.ins CP dx [(("routine" : Str), V.ref r), (("allowed" : Str), V.ref D)])) := same_upd (sd3.trans s4) p0
      have p5 : (upd H4 p (.ins CP dx [(("routine" : Str), V.ref r), (("allowed" : Str), V.ref D)])) p = some (.ins CP dx [(("routine" : Str), V.ref r), (("allowed" : Str), V.ref D)]) := upd_same
      have d5 : DB (upd H4 p (.ins CP dx [(("routine" : Str), V.ref r), (("allowed" : Str), V.ref D)])) D (rs.filter fun j => decide (j ∈ js)) := by show upd _ _ _ _ = _; rw [upd_ne (Ne.symm hpD)]; exact hD4
      generalize upd H4 p (.ins CP dx [(("routine" : Str), V.ref r), (("allowed" : Str), V.ref D)]) = H5 at sd5 p5 d5
      refine ⟨_, rfl, r, CR, rx, _, _, rfl, sd5 _ _ q1, R.cl, R.na _ (by decide +kernel), lk_here, _, rfl, p, CP, dx, _, _, rfl, p5, R'.cl, R'.na _ (by decide +kernel), lk2 (by decide +kernel), ?_⟩
      refine ⟨D, _, rs.filter (fun j => decide (j ∈ js)), rfl, .inl d5, by rw [List.map_map]; rfl, fun bs L pb hL => ?_⟩
      have hpL : p ≠ L := ne_of_none p5 hL
      have lf : (rs.filter fun j => decide (j ∈ js)).length ≤ 120 := Nat.le_trans (List.length_filter_le ..) l120
      have pb' : ∀ {as : List (List Int)} {bs : List Addr}, Paired (fun r b => H5 b = some (.tup (r.map V.int))) as bs → Paired (fun t r => TupI (upd H5 L (.lst (bs.map V.ref))) t r) bs as := by
        intro as bs p
        have : ∀ {o : HO}, Paired (fun t r => TupI (upd H5 L o) t r) bs as := by
          intro o
          induction p with
          | nil => exact .nil
          | cons h t ih => exact .cons (same_new hL _ _ h) ih
        exact this
      have s6 : Same H5 (upd H5 L (.lst (bs.map V.ref))) := same_new hL
      refine ⟨n, L, _, rfl, ⟨bs, upd_same, pb' pb⟩, fun j hj => hR.jr.two j (List.mem_filter.mp hj).1, by omega, fun H6 U s7 hU => ?_⟩
      have s8 := s6.trans s7
      refine ⟨_, rfl, p, CP, dx, _, rfl, s8 _ _ p5, R'.cl, R'.na _ (by decide +kernel), (by show 2 < 1000; decide), ?_⟩
      have e3 : putF "useful" (.ref U) [(("routine" : Str), V.ref r), (("allowed" : Str), V.ref D)] = [(("routine" : Str), V.ref r), (("allowed" : Str), V.ref D), (("useful" : Str), V.ref U)] := (put_past (by decide +kernel)).trans (congrArg _ ((put_past (by decide +kernel)).trans rfl))
      rw [e3]
      have sd9 : Same (del H p) (upd H6 p (.ins CP dx [(("routine" : Str), V.ref r), (("allowed" : Str), V.ref D), (("useful" : Str), V.ref U)])) := same_upd (sd5.trans s8) p0
      refine k _ ⟨hRd.same sd9, List.filter_sublist, dx, D, U, upd_same, ?_, ?_⟩ (But.of sd9)
      · show upd _ _ _ _ = _
        rw [upd_ne (Ne.symm hpD)]; exact s8 _ _ d5
      · have hUd := hU.del (s8 _ _ p5)
        exact hUd.same (same_upd (Same.del (Same.refl H6)) del_self)
def spPjumps (CR CP : Addr) : Sp := fun vs H Q _ => ∃ (a r : Addr) (n : Int) (rs al : List (List Int)), vs = [.ref a] ∧ Pt CR CP H a r n rs al ∧ ∀ H' l, Same H H' → Rows H' l al → Q (.ref l) H'
theorem rows_listT {H : Hp} {L : Addr} (hL : H L = none) {as : List (List Int)} {bs : List Addr} (p : Paired (fun r b => H b = some (.tup (r.map V.int))) as bs) : Rows (upd H L (.lst (bs.map V.ref))) L as := by
  refine ⟨bs, upd_same, ?_⟩
  have : ∀ {o : HO}, Paired (fun t r => TupI (upd H L o) t r) bs as := by
    intro o
    induction p with
    | nil => exact .nil
    | cons h t ih => exact .cons (same_new hL _ _ h) ih
  exact this
theorem w_Pjumps (T : Tb mg) (R' : Cl K mg CP "Part" ["routine", "allowed", "useful"]) (F : Fun K "jumps" "Part.jumps" (sPt 2) f fd) : FnOk P w K mg base CX0 1 f fd ["self"] (spPjumps CR CP) := by
  have sc : FnScope ["self"] ["self"] (fnScope (sPt 2)) := fnScope_by (by decide +kernel)
  refine fn0 F sc (fun vs H Q E h => by obtain ⟨_, _, _, _, _, rfl, _⟩ := h; rfl) fun cdv A outer s H vs Q E hr h => ?_
  obtain ⟨a, r, n, rs, al, rfl, hP, k⟩ := h
  obtain ⟨dx, d, u, h1, h2, h3⟩ := hP.ex
  refine ⟨_, (pss_one (ps_ret (pe_callTy (call_listT rfl) (by rfl) T.list PyProof.Rows.boot_list (pa_cons (pe_fld (pv 0) rfl) pa_nil)))), ?_⟩
  refine ⟨_, rfl, a, CP, dx, _, _, rfl, h1, R'.cl, R'.na _ (by decide +kernel), lk2 (by decide +kernel), d, _, al, rfl, .inl h2, by rw [List.map_map]; rfl, fun bs L pb hL => ?_⟩
  exact k _ L (same_new hL) (rows_listT hL pb)
def spKept (CR CP : Addr) (vs : List V) (H : Hp) (rs : List (List Int)) : Prop := ∃ (a r : Addr) (n : Int) (ss al : List (List Int)), vs = [.ref a] ∧ Pt CR CP H a r n ss al ∧ n ≤ 21 ∧ rs = runsF (sucF (usefulF n al)) (n - 1) 20 [0]
theorem scKept : GScope ["self"] ["self"] (defScope (sPt 14)) := ⟨rfl, rfl, rfl, by decide +kernel, rfl, by decide +kernel, by decide +kernel⟩
theorem w_kept {fr : Addr} {fdr : FuncData} (R : Cl K mg CR "Routine" ["blocks", "rows", "there"]) (R' : Cl K mg CP "Part" ["routine", "allowed", "useful"]) (c_going_on : Cal P w K mg base 1 "going_on" spGo [])
    (Fr : L2.Fun K "runs_from" "runs_from" sRunsFrom fr fdr) (hmg : mg "runs_from" = some (.ref fr)) (hbr : Binds K fdr ["going", "last", "beginning"] []) (F : L2.Fun K "kept_runs" "Part.kept_runs" (sPt 14) f fd) : JFn P w K mg base 86 f fd ["self"] (spKept CR CP) := by
  have rf := rf_all (P := P) (w := w) (base := base) Fr hmg hbr 20
  obtain ⟨oc, od, kV, doc, pm, an, cdv, ct, osl, rfl, lk, hcd⟩ := F.ex
  have kp := Fr.kp
  refine jfn_of (k := 85) lk hcd scKept (fun vs H rs h => by obtain ⟨_, _, _, _, _, rfl, _⟩ := h; rfl) fun A outer s H vs rs op G hr h T => ?_
  obtain ⟨a, r, n, ss, al, rfl, hP, hn, rfl⟩ := h
  obtain ⟨dx, d, u, h1, h2, h3⟩ := hP.ex
  obtain ⟨rx, rl, rd, q1, q2, q3⟩ := hP.rt.ex
  refine ⟨_, (jss_cons (js_yieldFrom (k := 81) T (pj_call rf (hr.mono (by omega)) rfl hmg kp hbr .nil (pa_cons (pe_c c_going_on hr (by decide) rfl (pa_cons (pe_fld (pv 0) rfl) pa_nil)) (pa_cons (pe_op op_sub (pe_fld (pe_fld (pv 0) rfl) rfl) pe_int) (pa_cons (pe_tup (pa_cons pe_int pa_nil)) pa_nil)))) (hr.mono (by omega))) jss_nil), ?_⟩
  have two : Two (usefulF n al) := fun j hj => hP.rt.jr.two j (hP.sub.subset (List.mem_filter.mp hj).1)
  have lu : (usefulF n al).length ≤ 1000 := by
    have h1 : (usefulF n al).length ≤ al.length := List.length_filter_le ..
    have h2 := hP.sub.length_le
    have h3 := hP.rt.l120
    omega
  refine ⟨_, rfl, a, CP, dx, _, _, rfl, h1, R'.cl, R'.na _ (by decide +kernel), lk3 (by decide +kernel) (by decide +kernel), u, usefulF n al, rfl, h3, two, lu, fun H1 g s1 hg => ?_⟩
  have up : Up (sucF (usefulF n al)) (n - 1) := fun i v hv => by
    obtain ⟨j, hj, e⟩ := List.mem_map.mp hv
    obtain ⟨hj1, hj2⟩ := List.mem_filter.mp hj
    obtain ⟨u, w, rfl, z0, z1, z2⟩ := hP.rt.jr.sh j (hP.sub.subset (List.mem_filter.mp hj1).1)
    have e1 : u = i := of_decide_eq_true hj2
    have e2 : w = v := e
    subst e1 e2
    exact ⟨z1, z2⟩
  have n40 := hP.rt.n2
  refine ⟨_, rfl, a, CP, dx, _, _, rfl, s1 _ _ h1, R'.cl, R'.na _ (by decide +kernel), lk_here, r, CR, rx, _, _, rfl, s1 _ _ q1, R.cl, R.na _ (by decide +kernel), lk_here, _, _, rfl, rfl, by show 1 ≤ sizeLine; decide, fun t ht => ?_⟩
  have s2 : Same H1 (upd H1 t (.tup [.int 0])) := same_new ht
  refine ⟨_, ⟨g, n - 1, t, [0], sucF (usefulF n al), rfl, hg.same s2, upd_same, by simp, by simp, up, by show n - 1 - (0 : Int) ≤ ((20 : Nat) : Int); omega, rfl⟩, s1.trans s2, [], by rw [List.append_nil], fun H2 _ => rfl⟩
end
end K46
end
section
set_option maxHeartbeats 4000000
/-! V2: pairs; walks over items; locks; calls with most=. -/
namespace K46
open PySem Ja
open L2 hiding CX0 E0 pass0 Fun
open PySem.W (Frag findIn isFn fnIn)
open C8 (Cal Met Mak Def Fun CX0 E0 pass0 fnScope fnBody fnArgs fnScope_by cal0 met0 mak0 pe_c pe_mk pe_mt pe_mt0 pe_gc fn0)
/-- a pair of a row and a number -/
def PrI (H : Hp) (t : Addr) (p : List Int × Int) : Prop := ∃ q, H t = some (.tup [.ref q, .int p.2]) ∧ TupI H q p.1
structure Prs (H : Hp) (l : Addr) (ps : List (List Int × Int)) : Prop where
  ex : ∃ ts : List Addr, H l = some (.lst (ts.map V.ref)) ∧ Paired (fun t p => PrI H t p) ts ps
theorem PrI.same {H H' : Hp} {t : Addr} {p : List Int × Int} (h : PrI H t p) (e : Same H H') : PrI H' t p := by
  obtain ⟨q, h1, h2⟩ := h
  exact ⟨q, e _ _ h1, e _ _ h2⟩
theorem Prs.same {H H' : Hp} {l : Addr} {ps : List (List Int × Int)} (h : Prs H l ps) (e : Same H H') : Prs H' l ps := by
  obtain ⟨ts, h1, h2⟩ := h.ex
  exact ⟨ts, e _ _ h1, Paired.mapP h2 fun _ _ y => PrI.same y e⟩
theorem PrI.nl {H H' : Hp} {t : Addr} {p : List Int × Int} (h : PrI H t p) (e : NL H H') : PrI H' t p := by
  obtain ⟨q, h1, h2⟩ := h
  exact ⟨q, e _ _ h1 (fun _ z => by cases z), e _ _ h2 (fun _ z => by cases z)⟩
theorem refs_of {H : Hp} {β : Type} {R : Addr → β → Prop} : ∀ {ys : List V} {rs : List β}, Paired (fun v r => ∃ t, v = .ref t ∧ R t r) ys rs → ∃ ts : List Addr, ys = ts.map V.ref ∧ Paired R ts rs := by
  intro ys rs p
  induction p with
  | nil => exact ⟨[], rfl, .nil⟩
  | cons h t ih =>
    obtain ⟨ts, e, q⟩ := ih
    obtain ⟨t, rfl, ht⟩ := h
    exact ⟨t :: ts, by rw [e]; rfl, .cons ht q⟩
theorem Prs.of {H : Hp} {l : Addr} {ys : List V} {ps : List (List Int × Int)} (h : H l = some (.lst ys)) (p : Paired (fun v r => ∃ t, v = .ref t ∧ PrI H t r) ys ps) : Prs H l ps := by
  obtain ⟨ts, e, q⟩ := refs_of (H := H) p
  exact ⟨ts, by rw [h, e], q⟩
theorem at_itemG {β : Type} {R : Addr → β → Prop} {ts : List Addr} {ms : List β} {j : Nat} {r : β} {x : V} (p : Paired R ts ms) (hj : ms[j]? = some r) (hx : (ts.map V.ref)[j]? = some x) : ∃ t, x = .ref t ∧ R t r := by
  rw [List.getElem?_map] at hx
  cases q : ts[j]? with
  | none => rw [q] at hx; cases hx
  | some t =>
    rw [q] at hx
    obtain ⟨r', h', q'⟩ := paired_get p q
    rw [hj] at h'
    cases h'
    exact ⟨t, (Option.some.inj hx).symm, q'⟩
/-- the items of a locked dict of numbers, one behind another -/
theorem walk_itI {d : Addr} {o : Obj} {m : List (List Int × Int)} : Walk (Itit d o (dM V.int m)) m.length (fun H => H d = some (.frz o (.dT (dM V.int m))))
    (fun i H x H' => ∃ T q p, m[i]? = some p ∧ x = .ref T ∧ H T = none ∧ TupI H q p.1 ∧ H' = upd H T (.tup [.ref q, .int p.2])) := by
  refine ⟨fun i H hi h => ⟨h, by rw [List.length_map]; exact hi⟩, fun H h => ⟨h, by rw [List.length_map]; exact Nat.le_refl _⟩, fun i H x H' hi h y => ?_⟩
  obtain ⟨T, k, v, q, h1, h2, h3, h4, h5⟩ := y
  rw [List.getElem?_map, List.getElem?_eq_getElem hi] at h1
  have e := Option.some.inj h1
  obtain ⟨e1, e2⟩ := Prod.mk.inj e
  subst e1 e2
  exact ⟨T, q, m[i], List.getElem?_eq_getElem hi, h2, h3, by rw [keyOf_V] at h4; exact h4, h5⟩
/-- the keys of a locked dict -/
theorem walk_keyI {β : Type} {g : β → V} {d : Addr} {o : Obj} {m : List (List Int × β)} : Walk (Itkt d o (dM g m)) m.length (fun H => H d = some (.frz o (.dT (dM g m))))
    (fun i H x H' => H' = H ∧ ∃ q p, m[i]? = some p ∧ x = .ref q ∧ TupI H q p.1) := by
  have w := walk_keysT (d := d) (o := o) (kvs := dM g m)
  refine ⟨fun i H hi h => w.goes i H (by rw [List.length_map]; exact hi) h, fun H h => by have z := w.stops H h; rw [List.length_map] at z; exact z, fun i H x H' hi h y => ?_⟩
  obtain ⟨e0, k, v, q, h1, h2, h3⟩ := w.yields i H x H' (by rw [List.length_map]; exact hi) h y
  rw [List.getElem?_map, List.getElem?_eq_getElem hi] at h1
  obtain ⟨e1, e2⟩ := Prod.mk.inj (Option.some.inj h1)
  subst e1
  exact ⟨e0, q, m[i], List.getElem?_eq_getElem hi, h2, by rw [keyOf_V] at h3; exact h3⟩
theorem lock_ne {H : Hp} {d b : Addr} {u o : HO} {od : Obj} (hd : H d = some u) (hb : H b = some o) (ne : o ≠ u) : (upd H d (.frz od u)) b = some o := by
  rw [upd_ne (fun z => ne (by rw [z, hd] at hb; exact (Option.some.inj hb).symm))]
  exact hb
/-- behind a lock all stands as before -/
theorem unlock {H H' : Hp} {d : Addr} {u : HO} {od : Obj} (hd : H d = some u) (s : Same (upd H d (.frz od u)) H') : H' d = some (.frz od u) ∧ Same H (upd H' d u) := by
  refine ⟨s _ _ upd_same, fun b o e => ?_⟩
  by_cases q : b = d
  · subst q
    rw [upd_same, ← hd]; exact e
  · rw [upd_ne q]
    exact s _ _ (by rw [upd_ne q]; exact e)
/-- a, b = .. within a comprehension -/
theorem pg_pair {X : Cx} {K : Frag} {e1 e2 : Expr} {k : Nat} {pos : Pos} {t : TGs} (hK : X.K = K) (hc : X.calm = true) (h : PGs X [e1, e2] t) (hn : (assignEach [e1, e2] X.env).length = 2 := by rfl) (hst : (assignEach [e1, e2] X.env).findIdx? (·.1) = none := by rfl) : PG X (.Tuple [e1, e2] k pos) (gTup K 2 t) := by
  subst hK
  exact pg_tup hc h hn hst
/-- a class that is made with most= -/
structure MakK (P : Program) (w : World) (K : Frag) (mg : Str → Option Value) (base : Heap) (k : Nat) (x : Str) (C : Addr) (sp : Sp) : Prop where
  ex : ∃ f fd ps, Mk K C f ∧ FnOk P w K mg base CX0 k f fd ps sp ∧ mg x = some (.ref C) ∧ KBn K fd ps 3 [("most" : Str)] (fun us ws => us ++ ws) (fun vs zs => vs ++ zs)
theorem pe_mkK {X : Cx} {k j : Nat} {C : Addr} {x : Str} {sp : Sp} {p pos : Pos} {e : Expr} {es : List Expr} {kws : List Keyword} {t tk : TA} (c : MakK X.prog X.w X.K X.mg X.base k x C sp) (hr : Room j X.A) (hk : k + 1 ≤ j) (hg : Gl X x) (ha : PA X (e :: es) t) (hkw : PK X kws tk)
    (hall : (backToKw pos (keywordEach kws X.env)).all (·.1.isSome) = true := by rfl) (hks : (backToKw pos (keywordEach kws X.env)).filterMap (·.1) = [("most" : Str)] := by rfl) (hdb : (x == ("__debug__" : Str)) = false := by decide)
    (he : starEach (e :: es) X.env = (false, eval e X.env) :: starEach es X.env := by rfl) (hpl : ((backTo pos (starEach (e :: es) X.env)).any (·.1) || (backToKw pos (keywordEach kws X.env)).any (·.1.isNone)) = false := by rfl) :
    PE X (.Call (.Name x p) (e :: es) kws pos) (tMakeK C 2 1 sp (fun vs zs => vs ++ zs) E0 t tk) := by
  obtain ⟨f, fd, ps, M, F, hm, b⟩ := c.ex
  exact pe_makeK M F (hr.mono hk) hg hm b pass0 ha hkw hall hks hdb he hpl
end K46
end
section
set_option maxHeartbeats 4000000
/-! W5: counts. -/
namespace K46
open PySem Ja
open L2 hiding CX0 E0 pass0 Fun
open PySem.W (Frag findIn isFn fnIn)
open C8 (Cal Met Mak Def Fun CX0 E0 pass0 fnScope fnBody fnArgs fnScope_by cal0 met0 mak0 pe_c pe_mk pe_mt pe_mt0 pe_gc fn0)
theorem putKlen {κ : Type} [DecidableEq κ] (c : List (κ × V)) (k : κ) (x : V) : (putK c k x).length ≤ c.length + 1 := by
  unfold putK
  split
  · rw [List.length_map]; omega
  · rw [List.length_append]; exact Nat.le_refl _
def MostOk (m : V) (i : Int) : Prop := m = .non ∨ ∃ M : Int, m = .int M ∧ i ≤ M
def spNumber : Sp := fun vs H Q _ => ∃ (i : Int) (m : V), vs = [.int i, m] ∧ 0 ≤ i ∧ MostOk m i ∧ Q (.bl true) H
/-- how much more goes into a block than out of it -/
def bal : List (List Int × Int) → Int → Int
  | [], _ => 0
  | p :: m, b => ((if j1 p.1 = b then p.2 else 0) - (if j0 p.1 = b then p.2 else 0)) + bal m b
theorem bal_snoc : ∀ (m : List (List Int × Int)) (p : List Int × Int) (b : Int), bal (m ++ [p]) b = bal m b + ((if j1 p.1 = b then p.2 else 0) - (if j0 p.1 = b then p.2 else 0))
  | [], p, b => by simp [bal]
  | q :: m, p, b => by rw [List.cons_append, bal, bal_snoc m p b, bal]; omega
abbrev Even (n : Int) (m : List (List Int × Int)) : Prop := ∀ b : Int, 1 ≤ b → b ≤ n - 2 → bal m b = 0
/-- the numbers of a routine's jumps as a dict holds them -/
abbrev tabN (rs : List (List Int)) (num : List Int → Int) : List (List Int × Int) := rs.map fun j => (j, num j)
structure Ct (CR CC : Addr) (H : Hp) (a r : Addr) (n : Int) (rs : List (List Int)) (num : List Int → Int) : Prop where
  rt : Rt CR H r n rs
  ev : Even n (tabN rs num)
  pos : ∀ j ∈ rs, 0 ≤ num j
  ex : ∃ dx d, H a = some (.ins CC dx [("routine", .ref r), ("numbers", .ref d)]) ∧ DI H d (tabN rs num)
theorem Ct.same {CR CC : Addr} {H H' : Hp} {a r : Addr} {n : Int} {rs : List (List Int)} {num : List Int → Int} (h : Ct CR CC H a r n rs num) (e : Same H H') : Ct CR CC H' a r n rs num := by
  obtain ⟨dx, d, h1, h2⟩ := h.ex
  exact ⟨h.rt.same e, h.ev, h.pos, dx, d, e _ _ h1, e _ _ h2⟩
def spNamed (CR : Addr) : Sp := fun vs H Q _ => ∃ (r l : Addr) (m : V) (n : Int) (rs : List (List Int)) (ps : List (List Int × Int)), vs = [.ref r, .ref l, m] ∧ Rt CR H r n rs ∧ Prs H l ps ∧ (ps.map (·.1)).Nodup ∧ (∀ p ∈ ps, p.1 ∈ rs ∧ 0 ≤ p.2 ∧ MostOk m p.2) ∧
  ∀ H' d, Same H H' → DI H' d ps → Q (.ref d) H'
def spUneven (CR : Addr) : Sp := fun vs H Q _ => ∃ (r d : Addr) (n : Int) (rs : List (List Int)) (m : List (List Int × Int)), vs = [.ref r, .ref d] ∧ Rt CR H r n rs ∧ DI H d m ∧ Two (m.map (·.1)) ∧ m.length ≤ 1000 ∧ Even n m ∧ ∀ H' l, Same H H' → H' l = some (.lst []) → Q (.ref l) H'
section
variable {P : Program} {w : World} {K : Frag} {mg : Str → Option Value} {base : Heap} {f CR CC : Addr} {fd : FuncData}
theorem w_is_number (c_is_integer : Cal P w K mg base 1 "is_integer" spInteger []) (F : Def K mg "is_number" sNumber f fd) (b : Binds K fd ["value", "most"] []) : Cal P w K mg base 2 "is_number" spNumber [] := by
  have sc : FnScope ["value", "most"] ["value", "most"] (fnScope sNumber) := fnScope_by (by decide +kernel)
  refine cal0 F b .nil sc (fun vs H Q E h => by obtain ⟨_, _, rfl, _⟩ := h; rfl) fun cdv A outer s H vs Q E hr h => ?_
  obtain ⟨i, m, rfl, i0, hm, k⟩ := h
  refine ⟨_, (pss_one (ps_ret (pe_and (pe_c c_is_integer hr (by decide) rfl (pa_cons (pv 0) pa_nil)) (pe_and (pe_cmpR op_ge (pv 0) pe_int (nomark _)) (pe_one (pe_or (pe_cmpR op_isN (pv 1) pe_non (nomark _)) (pe_one (pe_cmpR op_le (pv 0) (pv 1) (nomark _))))))))), ?_⟩
  refine ⟨_, rfl, .int i, rfl, .int i, _, rfl, ift rfl ⟨_, rfl, _, _, rfl, rfl, _, rfl, ift (decide_eq_true i0) ?_⟩⟩
  rcases hm with rfl | ⟨M, rfl, hM⟩
  · exact ⟨_, rfl, rfl, _, rfl, ift (by simp) k⟩
  · refine ⟨_, rfl, rfl, _, rfl, iff (by simp) ⟨_, rfl, _, rfl, _, _, rfl, rfl, ?_⟩⟩
    show Q (.bl (decide (i ≤ M))) H
    rw [decide_eq_true hM]
    exact k
theorem w_named (T : Tb mg) (c_is_number : Cal P w K mg base 2 "is_number" spNumber []) (c_has : Dn P w K mg base 4 CR "__contains__" (spHas CR)) (F : Def K mg "named_numbers" sNamed f fd) (b : Binds K fd ["routine", "pairs", "most"] []) : Cal P w K mg base 5 "named_numbers" (spNamed CR) [] := by
  have sc : FnScope ["routine", "pairs", "most", "found", "at", "pair"] ["routine", "pairs", "most"] (fnScope sNamed) := fnScope_by (by decide +kernel)
  refine cal0 F b .nil sc (fun vs H Q E h => by obtain ⟨_, _, _, _, _, _, rfl, _⟩ := h; rfl) fun cdv A outer s H vs Q E hr h => ?_
  obtain ⟨r, l, m, n, rs, ps, rfl, hR, hl, nd, hps, k⟩ := h
  obtain ⟨ts, el, pl⟩ := hl.ex
  have hu := hu_of hr
  refine ⟨_, (pss_cons (ps_set (i := 3) sc.nd rfl (Or.inl rfl) (pe_dnewT))
  (pss_cons (ps_for PassesOwn.never rfl (pi_enum (by rfl) T.enumerate (pa_cons (pv 1) pa_nil)) (pg_tup rfl (pgs_cons (pg_name (i := 4) sc.nd rfl (Or.inl rfl)) (pgs_cons (pg_name (i := 5) sc.nd rfl (Or.inl rfl)) pgs_nil))) (pss_cons (ps_if (PW.pt (pw_or (pt_not (pt_val (pe_callB call_isi (by rfl) T.isinstance PyProof.Rows.boot_isinstance (pa_cons (pv 5) (pa_cons (pe_bltn (v := .ty "tuple") (by rfl) T.tuple PyProof.Rows.boot_tuple rfl) pa_nil))))) (pw_or (pt_cmpR op_ne (pe_callB call_len (by rfl) T.len PySem.boot_len (pa_cons (pv 5) pa_nil)) pe_int (nomark _)) (pw_or1 (pt_cmpR (o_notIn c_has hr (by decide)) (pe_ix ix_tup (pv 5) pe_int (fun _ _ => rfl)) (pv 0) (by rfl)))))) (pss_one ps_never) pss_nil)
  (pss_cons (ps_if (PW.pt (pw_or (pt_not (pt_val (pe_c c_is_number hr (by decide) rfl (pa_cons (pe_ix ix_tup (pv 5) pe_int (fun _ _ => rfl)) (pa_cons (pv 2) pa_nil))))) (pw_or1 (pt_cmp (pc_din hu (pe_ix ix_tup (pv 5) pe_int (fun _ _ => rfl)) (pv 3)))))) (pss_one ps_never) pss_nil)
  (pss_one (ps_dput hu (pv 3) (pe_ix ix_tup (pv 5) pe_int (fun _ _ => rfl)) (pe_ix ix_tup (pv 5) pe_int (fun _ _ => rfl)) rfl)))))
  (pss_one (ps_ret (pv 3))))), ?_⟩
  intro d hd
  have len : ts.length = ps.length := Paired.length pl
  have l120 := hR.l120
  have pl120 : ps.length ≤ rs.length := by
    have := nodup_len nd (rs := rs) fun j hj => by obtain ⟨p, hp, rfl⟩ := List.mem_map.mp hj; exact (hps p hp).1
    rw [List.length_map] at this
    exact this
  obtain ⟨rx, rl, rd, q1, q2, q3⟩ := hR.ex
  refine ⟨_, rfl, l, ts.map V.ref, rfl, SqL.of ((same_new hd) _ _ el), for_it walk_enum (fun i σ H' => (∃ v5 v6, σ = [some (.ref r), some (.ref l), some m, some (.ref d), v5, v6]) ∧ Same H H' ∧ DI H' d (ps.take i)) ⟨⟨none, none, rfl⟩, same_new hd, upd_same⟩ (fun i σ H' _ h => SqL.of (h.2.1 _ _ el)) ?_ ?_⟩
  · rintro i x σ H1 H2 hi ⟨⟨v5, v6, rfl⟩, s1, hD⟩ ⟨q, y, z, rfl, hq, rfl, hy, hz⟩
    obtain rfl := Option.some.inj hy
    rw [List.length_map] at hi
    have ei : ps[i]? = some ps[i] := List.getElem?_eq_getElem (by omega)
    obtain ⟨t, rfl, g, hg, hm⟩ := at_itemG pl ei hz
    obtain ⟨p1, p2, p3⟩ := hps ps[i] (List.mem_of_getElem? ei)
    obtain ⟨u, v, er, hm2, hmv⟩ := memV_rows hR.jr hm p1
    have s2 : Same H (upd H1 q (.tup [.int i, .ref t])) := s1.trans (same_new hq)
    have hD2 : DI (upd H1 q (.tup [.int i, .ref t])) d (ps.take i) := same_new hq _ _ hD
    refine ⟨q, _, rfl, SqT.of upd_same, rfl, _, _, rfl, _, _, rfl, rfl, ?_⟩
    generalize upd H1 q (.tup [.int i, .ref t]) = H2 at s2 hD2
    refine ⟨_, rfl, _, _, _, _, true, rfl, .ty _, .base (.tup (s2 _ _ hg)), kit_ty (by decide +kernel), _, rfl, ?_⟩
    refine iff rfl ⟨_, rfl, _, 2, rfl, .inr ⟨_, SqT.of (s2 _ _ hg), rfl⟩, rfl, _, rfl, iff (by decide) ?_⟩
    refine ⟨_, rfl, t, _, 0, V.ref g, rfl, rfl, SqT.of (s2 _ _ hg), atI0 _ _, _, rfl, r, rx, _, rfl, s2 _ _ q1, r, g, _, _, n, rs, rfl, hR.same s2, s2 _ _ hm2, .int u, .int v, fun H3 s3 => ⟨_, rfl, _, rfl, ?_⟩⟩
    rw [hmv]
    refine iff rfl ?_
    have s4 := s2.trans s3
    refine ⟨_, rfl, t, _, 1, V.int ps[i].2, rfl, rfl, SqT.of (s4 _ _ hg), atI1 _ _ _, _, rfl, ps[i].2, m, rfl, p2, p3, _, rfl, iff rfl ?_⟩
    have nin : ps[i].1 ∉ (ps.take i).map (·.1) := by
      have ei2 : (ps.map (·.1))[i]? = some ps[i].1 := by rw [List.getElem?_map, ei]; rfl
      have := nd_take nd ei2
      rw [← List.map_take] at this
      exact this
    have g2 := DGet.t (H := H3) (a := d) (b := g) (k := keyOf ps[i].1) (s3 _ _ hD2) (by rw [keyOf_V]; exact s4 _ _ hm)
    rw [look_V, look_none.mpr nin] at g2
    refine ⟨_, rfl, t, _, 0, V.ref g, rfl, rfl, SqT.of (s4 _ _ hg), atI0 _ _, _, rfl, d, _, rfl, g2, _, rfl, iff rfl ?_⟩
    refine ⟨_, rfl, t, _, 1, V.int ps[i].2, rfl, rfl, SqT.of (s4 _ _ hg), atI1 _ _ _, _, rfl, _, rfl, t, _, 0, V.ref g, rfl, rfl, SqT.of (s4 _ _ hg), atI0 _ _, d, _, rfl, DPut.t (k := keyOf ps[i].1) (s3 _ _ hD2) (by rw [keyOf_V]; exact s4 _ _ hm) (by rw [List.length_map, List.length_take, sizeLine_eq]; omega), ⟨_, _, rfl⟩, same_upd s4 hd, ?_⟩
    show upd _ _ _ _ = _
    rw [upd_same]
    have e := put_V V.int (ps.take i) ps[i].1 ps[i].2
    rw [putM_new _ nin, ← tk_more ei] at e
    exact congrArg (fun z => some (HO.dT z)) e
  · rintro σ H2 ⟨⟨v5, v6, rfl⟩, s2, hD⟩
    rw [List.length_map, len, List.take_length] at hD
    exact ⟨_, rfl, k H2 d s2 hD⟩
theorem w_uneven (T : Tb mg) (R : Cl K mg CR "Routine" ["blocks", "rows", "there"]) (F : Def K mg "uneven_blocks" sUneven f fd) (b : Binds K fd ["routine", "numbers"] []) : Cal P w K mg base 1 "uneven_blocks" (spUneven CR) [] := by
  have sc : FnScope ["routine", "numbers", "more", "u", "v", "number", "block"] ["routine", "numbers"] (fnScope sUneven) := fnScope_by (by decide +kernel)
  refine cal0 F b .nil sc (fun vs H Q E h => by obtain ⟨_, _, _, _, _, rfl, _⟩ := h; rfl) fun cdv A outer s H vs Q E hr h => ?_
  obtain ⟨r, d, n, rs, m, rfl, hR, hd, two, ml, ev, k⟩ := h
  have hu := hu_of hr
  refine ⟨_, (pss_cons (ps_set (i := 2) sc.nd rfl (Or.inr rfl) (pe_dnewK))
  (pss_cons (ps_lock (ps_for PassesOwn.never rfl (pi_itemsT (pv 1)) (pg_tup rfl (pgs_cons (pg_tup rfl (pgs_cons (pg_name (i := 3) sc.nd rfl (Or.inl rfl)) (pgs_cons (pg_name (i := 4) sc.nd rfl (Or.inl rfl)) pgs_nil))) (pgs_cons (pg_name (i := 5) sc.nd rfl (Or.inl rfl)) pgs_nil))) (pss_cons (ps_dput hu (pv 2) (pv 3) (pe_op op_sub (pe_dget2 hu (pv 2) (pv 3) pe_int ⟨rfl, rfl, rfl, rfl⟩) (pv 5)) rfl)
  (pss_one (ps_dput hu (pv 2) (pv 4) (pe_op op_add (pe_dget2 hu (pv 2) (pv 4) pe_int ⟨rfl, rfl, rfl, rfl⟩) (pv 5)) rfl)))))
  (pss_one (ps_ret (pe_lc (own := [("block", 6)]) rfl sc.nd (pi_range2 (by rfl) T.range (pa_cons pe_int (pa_cons (pe_op op_sub (pe_fld (pv 0) rfl) pe_int) pa_nil))) (blkOk_by (own := [("block", 6)]) (N := ["routine", "numbers", "more", "u", "v", "number", "block"]) (sc := fnScope sUneven) (by decide +kernel)) (fun _ _ _ _ _ => (pg_name (i := 6) sc.nd rfl (Or.inl rfl))) (fun _ _ _ _ _ => pts_one (pt_cmpR op_ne (pe_dget2 hu (pv 2) (pv 6) pe_int ⟨rfl, rfl, rfl, rfl⟩) pe_int (nomark _))) (fun _ _ _ _ _ => (pv 6))))))), ?_⟩
  intro e he
  have hde : d ≠ e := ne_of_none hd he
  have s0 : Same H (upd H e (.dK [])) := same_new he
  have hd1 := s0 _ _ hd
  refine ⟨d, _, hd1, trivial, fun od => ?_⟩
  have hl : (upd (upd H e (.dK [])) d (.frz od (.dT (m.map fun p => (keyOf p.1, V.int p.2))))) d = some (.frz od (.dT (dM V.int m))) := upd_same
  have hle : (upd (upd H e (.dK [])) d (.frz od (.dT (m.map fun p => (keyOf p.1, V.int p.2))))) e = some (.dK []) := by rw [upd_ne (Ne.symm hde)]; exact upd_same
  have le0 : (upd H d (.frz od (.dT (m.map fun p => (keyOf p.1, V.int p.2))))) e = none := by rw [upd_ne (Ne.symm hde)]; exact he
  have sl : Same (upd H d (.frz od (.dT (m.map fun p => (keyOf p.1, V.int p.2))))) (upd (upd H e (.dK [])) d (.frz od (.dT (m.map fun p => (keyOf p.1, V.int p.2))))) := fun b o eb => by
    by_cases q : b = d
    · subst q; rw [upd_same] at eb ⊢; exact eb
    · rw [upd_ne q] at eb ⊢
      exact s0 _ _ eb
  generalize upd (upd H e (.dK [])) d (.frz od (.dT (m.map fun p => (keyOf p.1, V.int p.2)))) = HL at hl hle sl
  refine ⟨_, rfl, d, od, dM V.int m, rfl, hl, for_it walk_itI (fun i σ H' => (∃ v3 v4 v5, σ = [some (.ref r), some (.ref d), some (.ref e), v3, v4, v5, none]) ∧ Same (upd H d (.frz od (.dT (m.map fun p => (keyOf p.1, V.int p.2))))) H' ∧ ∃ kvs : List (L2.Key × V), H' e = some (.dK kvs) ∧ kvs.length ≤ 2 * i ∧ ∀ b : Int, (valV kvs (Sum.inl b)).getD (.int 0) = .int (bal (m.take i) b))
    ⟨⟨none, none, none, rfl⟩, sl, [], hle, Nat.zero_le _, fun b => rfl⟩ (fun i σ H' _ h => h.2.1 _ _ upd_same) ?_ ?_⟩
  · rintro i x σ H1 H2 hi ⟨⟨v3, v4, v5, rfl⟩, s1, kvs, hk, kl, hv⟩ ⟨t, q, p, hp, rfl, ht, hq, rfl⟩
    obtain ⟨u, v, ep⟩ := two p.1 (List.mem_map.mpr ⟨p, List.mem_of_getElem? hp, rfl⟩)
    have s2 : Same H1 (upd H1 t (.tup [.ref q, .int p.2])) := same_new ht
    have hq2 : (upd H1 t (.tup [.ref q, .int p.2])) q = some (.tup [.int u, .int v]) := by have := s2 _ _ hq; rw [ep] at this; exact this
    have hk2 := s2 _ _ hk
    refine ⟨t, _, rfl, SqT.of upd_same, rfl, _, _, rfl, ⟨q, _, rfl, SqT.of hq2, rfl, _, _, rfl, _, _, rfl, rfl, _, _, rfl, rfl, ?_⟩⟩
    have s3 := s1.trans s2
    generalize upd H1 t (.tup [.ref q, .int p.2]) = H2 at s3 hk2
    have hvu := hv u
    refine ⟨_, rfl, e, rfl, .inl ⟨kvs, .inl hk2⟩, _, rfl, _, DGet.k (k := Sum.inl u) hk2, _, rfl, bal (m.take i) u, p.2, hvu, rfl, _, rfl, _, rfl, e, _, rfl, DPut.k (k := Sum.inl u) hk2 (by rw [sizeLine_eq]; omega), ?_⟩
    have hk3 : (upd H2 e (.dK (putK kvs (Sum.inl u) (.int (bal (m.take i) u - p.2))))) e = some (.dK (putK kvs (Sum.inl u) (.int (bal (m.take i) u - p.2)))) := upd_same
    have s4 : Same (upd H d (.frz od (.dT (m.map fun p => (keyOf p.1, V.int p.2))))) (upd H2 e (.dK (putK kvs (Sum.inl u) (.int (bal (m.take i) u - p.2))))) := same_upd s3 le0
    have kl3 : (putK kvs (Sum.inl u) (.int (bal (m.take i) u - p.2))).length ≤ kvs.length + 1 := putKlen _ _ _
    have hvv : (valV (putK kvs (Sum.inl u) (.int (bal (m.take i) u - p.2))) (Sum.inl v)).getD (.int 0) = .int (if v = u then bal (m.take i) u - p.2 else bal (m.take i) v) := by
      rw [valV_put]
      by_cases c : v = u
      · rw [if_pos (by rw [c]), if_pos c]; rfl
      · rw [if_neg (fun z => c (Sum.inl.inj z)), if_neg c]; exact hv v
    have hvb : ∀ b : Int, (valV (putK kvs (Sum.inl u) (.int (bal (m.take i) u - p.2))) (Sum.inl b)).getD (.int 0) = .int (if b = u then bal (m.take i) u - p.2 else bal (m.take i) b) := by
      intro b
      rw [valV_put]
      by_cases c : b = u
      · rw [if_pos (by rw [c]), if_pos c]; rfl
      · rw [if_neg (fun z => c (Sum.inl.inj z)), if_neg c]; exact hv b
    generalize putK kvs (Sum.inl u) (.int (bal (m.take i) u - p.2)) = kv3 at hk3 s4 kl3 hvv hvb
    generalize upd H2 e (.dK kv3) = H3 at hk3 s4
    refine ⟨_, rfl, e, rfl, .inl ⟨kv3, .inl hk3⟩, _, rfl, _, DGet.k (k := Sum.inl v) hk3, _, rfl, _, p.2, hvv, rfl, _, rfl, _, rfl, e, _, rfl, DPut.k (k := Sum.inl v) hk3 (by rw [sizeLine_eq]; omega), ?_⟩
    refine ⟨⟨_, _, _, rfl⟩, same_upd s4 le0, _, upd_same, Nat.le_trans (putKlen _ _ _) (by omega), fun b => ?_⟩
    rw [tk_more hp, bal_snoc, valV_put]
    have e0 : j0 p.1 = u := by rw [ep]; rfl
    have e1 : j1 p.1 = v := by rw [ep]; rfl
    rw [e0, e1]
    by_cases c : b = v
    · subst c
      rw [if_pos rfl, if_pos rfl]
      by_cases c2 : b = u
      · subst c2
        rw [if_pos rfl, if_pos rfl]
        show V.int _ = V.int _
        congr 1
        show bal (m.take i) b - p.2 + p.2 = _
        omega
      · rw [if_neg c2, if_neg (fun z => c2 z.symm)]
        show V.int _ = V.int _
        congr 1
        show bal (m.take i) b + p.2 = _
        omega
    · rw [if_neg (fun z => c (Sum.inl.inj z)), hvb b]
      have c' : ¬ v = b := fun z => c z.symm
      rw [if_neg c']
      by_cases c2 : b = u
      · subst c2
        rw [if_pos rfl, if_pos rfl]
        congr 1
        omega
      · rw [if_neg c2, if_neg (fun z => c2 z.symm)]
        congr 1
        omega
  · rintro σ H2 ⟨⟨v3, v4, v5, rfl⟩, s2, kvs, hk, kl, hv⟩
    obtain ⟨fz, s3⟩ := unlock hd s2
    refine ⟨fz, ?_⟩
    have hk' : (upd H2 d (.dT (m.map fun p => (keyOf p.1, V.int p.2)))) e = some (.dK kvs) := by rw [upd_ne (Ne.symm hde)]; exact hk
    generalize upd H2 d (.dT (m.map fun p => (keyOf p.1, V.int p.2))) = H3 at s3 hk'
    rw [List.take_length] at hv
    obtain ⟨rx, rl, rd, q1, q2, q3⟩ := hR.ex
    have n2 := hR.n2
    have n40 := hR.n40
    refine ⟨_, rfl, r, CR, rx, _, _, rfl, s3 _ _ q1, R.cl, R.na _ (by decide +kernel), lk_here, _, _, rfl, rfl, 1, n - 1, rfl, by omega, fun D hD => ?_⟩
    have hlen : ((List.range (n - 1 - 1).toNat).map fun i : Nat => (1 : Int) + i).length = (n - 1 - 1).toNat := by rw [List.length_map, List.length_range]
    refine lc_fm (ms := (List.range (n - 1 - 1).toNat).map fun i : Nat => (1 : Int) + i) (by rw [hlen]; exact walk_range) (fun _ => false) (fun b => b) (fun _ v b => v = .int b) (fun _ _ _ _ _ h => h) hD (by rw [hlen, sizeLine_eq]; omega) (fun _ _ => trivial) ?_ ?_
    · rintro j z x _ H4 Nx hj s4 ⟨rfl, hx⟩ kF _
      have hjl : j < (n - 1 - 1).toNat := by
        have := (List.getElem?_eq_some_iff.mp hj).1
        rw [hlen] at this; exact this
      have ez : z = 1 + (j : Int) := by
        rw [List.getElem?_map, List.getElem?_range hjl] at hj
        exact (Option.some.inj hj).symm
      subst hx
      have hb := hv (1 + (j : Int))
      rw [ev (1 + (j : Int)) (by omega) (by omega)] at hb
      have hk4 := s4 _ _ hk'
      refine ⟨rfl, ?_⟩
      refine ⟨_, rfl, e, rfl, .inl ⟨kvs, .inl hk4⟩, _, rfl, _, DGet.k (k := Sum.inl (1 + (j : Int))) hk4, ?_⟩
      rw [hb]
      refine ⟨rfl, _, rfl, iff (by decide) (kF rfl _ (Same.refl _))⟩
    · rintro H' ys s4 hD' hp'
      have ey : ys = [] := by
        rw [show ((List.range (n - 1 - 1).toNat).map fun i : Nat => (1 : Int) + i).filter (fun _ => false) = [] from List.filter_eq_nil_iff.mpr (fun _ _ => by simp)] at hp'
        cases hp'; rfl
      exact k H' D (s3.trans s4) (by rw [hD', ey])
end
end K46
end
section
set_option maxHeartbeats 4000000
/-! W6: Counts. -/
namespace K46
open PySem Ja
open L2 hiding CX0 E0 pass0 Fun
open PySem.W (Frag findIn isFn fnIn)
open C8 (Cal Met Mak Def Fun CX0 E0 pass0 fnScope fnBody fnArgs fnScope_by cal0 met0 mak0 pe_c pe_mk pe_mt pe_mt0 pe_gc fn0)
def numF (ps : List (List Int × Int)) (j : List Int) : Int := (look ps j).getD 0
theorem Prs.del {H : Hp} {p l : Addr} {ps : List (List Int × Int)} {C dx : Addr} {fs : List (Str × V)} (h : Prs H l ps) (hp : H p = some (.ins C dx fs)) : Prs (del H p) l ps := by
  obtain ⟨ts, h1, h2⟩ := h.ex
  refine ⟨ts, ?_, Paired.mapP h2 fun t q y => ?_⟩
  · rw [del_ne]; exact h1
    intro z; rw [z] at h1; cases hp.symm.trans h1
  · obtain ⟨g, y1, y2⟩ := y
    refine ⟨g, ?_, TupI.del y2 hp (fun xs z => by cases z)⟩
    rw [del_ne]; exact y1
    intro z; rw [z] at y1; cases hp.symm.trans y1
theorem look_numF {ps : List (List Int × Int)} {j : List Int} {x : Int} (h : look ps j = some x) : numF ps j = x := by unfold numF; rw [h]; rfl
theorem look_mem {β : Type} {ps : List (List Int × β)} {j : List Int} {x : β} (h : look ps j = some x) : (j, x) ∈ ps := by
  unfold look at h
  cases q : ps.find? (fun p => decide (p.1 = j)) with
  | none => rw [q] at h; cases h
  | some p =>
    rw [q] at h
    have z := List.find?_some q
    have e1 : p.1 = j := by simpa using z
    have e2 : p.2 = x := Option.some.inj h
    rw [← e1, ← e2]
    exact List.mem_of_find?_eq_some q
def spCinit (CR CC : Addr) : Sp := fun vs H Q _ => ∃ (p r l dx : Addr) (m : V) (n : Int) (rs : List (List Int)) (ps : List (List Int × Int)), vs = [.ref p, .ref r, .ref l, m] ∧ H p = some (.ins CC dx []) ∧ Rt CR H r n rs ∧ Prs H l ps ∧ (ps.map (·.1)).Nodup ∧ (∀ q ∈ ps, q.1 ∈ rs ∧ 0 ≤ q.2 ∧ MostOk m q.2) ∧ Even n (tabN rs (numF ps)) ∧
  ∀ H', Ct CR CC H' p r n rs (numF ps) → But p H H' → Q .non H'
section
variable {P : Program} {w : World} {K : Frag} {mg : Str → Option Value} {base : Heap} {f CR CC : Addr} {fd : FuncData}
theorem w_Cinit (T : Tb mg) (R : Cl K mg CR "Routine" ["blocks", "rows", "there"]) (R' : Cl K mg CC "Counts" ["routine", "numbers"])
    (c_named_numbers : Cal P w K mg base 5 "named_numbers" (spNamed CR) []) (c_uneven_blocks : Cal P w K mg base 1 "uneven_blocks" (spUneven CR) []) (F : Fun K "__init__" "Counts.__init__" (sCt 0) f fd) : FnOk P w K mg base CX0 6 f fd ["self", "routine", "pairs", "most"] (spCinit CR CC) := by
  have sc : FnScope ["self", "routine", "pairs", "most", "found", "jump", "uneven"] ["self", "routine", "pairs", "most"] (fnScope (sCt 0)) := fnScope_by (by decide +kernel)
  refine fn0 F sc (fun vs H Q E h => by obtain ⟨_, _, _, _, _, _, _, _, rfl, _⟩ := h; rfl) fun cdv A outer s H vs Q E hr h => ?_
  obtain ⟨p, r, l, dx, m, n, rs, ps, rfl, hp, hR, hl, nd, hps, ev, k⟩ := h
  have hu := hu_of hr
  refine ⟨_, (pss_cons (ps_set (i := 4) sc.nd rfl (Or.inr rfl) (pe_c c_named_numbers hr (by decide) rfl (pa_cons (pv 1) (pa_cons (pv 2) (pa_cons (pv 3) pa_nil)))))
  (pss_cons (ps_fld (pv 0) (pv 1) rfl)
  (pss_cons (ps_fld (pv 0) (pe_dcT hu rfl sc.nd (pi_list (pe_fld (pv 1) rfl)) (blkOk_by (own := [("jump", 5)]) (N := ["self", "routine", "pairs", "most", "found", "jump", "uneven"]) (sc := fnScope (sCt 0)) (by decide +kernel)) (fun _ _ _ _ _ => (pg_name (i := 5) sc.nd rfl (Or.inl rfl))) (fun _ _ _ _ _ => pts_nil) (fun _ _ _ _ _ => (pv 5)) (fun _ _ _ _ _ => (pe_dget2 hu (pv 4) (pv 5) pe_int ⟨rfl, rfl, rfl, rfl⟩))) rfl)
  (pss_cons (ps_set (i := 6) sc.nd rfl (Or.inl rfl) (pe_c c_uneven_blocks hr (by decide) rfl (pa_cons (pv 1) (pa_cons (pe_fld (pv 0) rfl) pa_nil))))
  (pss_one (ps_if (pt_cmpR (op_neD hr.units) (pv 6) (pe_lst pa_nil) (nomark _)) (pss_one ps_never) pss_nil)))))), ?_⟩
  refine ⟨_, rfl, _, rfl, _, rfl, r, l, m, n, rs, ps, rfl, hR, hl, nd, hps, fun H1 d s1 hd => ?_⟩
  have p0 : del H p p = none := del_self
  have hRd := hR.del hp
  have hRd' := hRd
  obtain ⟨rx, rl, rd, q1, q2, q3⟩ := hRd'.ex
  obtain ⟨tr, er, pr⟩ := q2.ex
  have hp1 := s1 _ _ hp
  have hpd : p ≠ d := fun z => by rw [z] at hp1; cases hp1.symm.trans hd
  refine ⟨_, rfl, _, rfl, p, CC, dx, [], rfl, hp1, R'.cl, R'.na _ (by decide +kernel), (by show 0 < 1000; decide), ?_⟩
  have e1 : putF "routine" (.ref r) [] = [(("routine" : Str), V.ref r)] := rfl
  rw [e1]
  have sd2 : Same (del H p) (upd H1 p (.ins CC dx [(("routine" : Str), V.ref r)])) := same_upd (Same.del s1) p0
  have p2 : (upd H1 p (.ins CC dx [(("routine" : Str), V.ref r)])) p = some (.ins CC dx [(("routine" : Str), V.ref r)]) := upd_same
  have d2 : DI (upd H1 p (.ins CC dx [(("routine" : Str), V.ref r)])) d ps := by show upd _ _ _ _ = _; rw [upd_ne (Ne.symm hpd)]; exact hd
  generalize upd H1 p (.ins CC dx [(("routine" : Str), V.ref r)]) = H2 at sd2 p2 d2
  refine ⟨_, rfl, r, CR, rx, _, _, rfl, sd2 _ _ q1, R.cl, R.na _ (by decide +kernel), lk2 (by decide +kernel), rl, rfl, ⟨_, SqL.of (sd2 _ _ er)⟩, fun D hD => ?_⟩
  have lenr : tr.length = rs.length := Paired.length pr
  have hlen : rs.length = (tr.map V.ref).length := by rw [List.length_map, lenr]
  have hpD : p ≠ D := ne_of_none p2 hD
  have l120 := hR.l120
  refine dc_fm (ms := rs) (by rw [hlen]; exact walk_list) (fun _ => true) (fun j => j) (fun j => .int (numF ps j)) hD (by rw [sizeLine_eq]; omega) (by rw [ft, List.map_id']; exact hR.jr.nd) (fun H' s => SqL.of (s _ _ (sd2 _ _ er))) ?_ ?_
  · rintro j x v _ H4 Nx hj s4 ⟨rfl, hx⟩ _ kT
    obtain ⟨t, rfl, hm⟩ := at_item pr hj hx
    have hm4 : TupI H4 t x := s4 _ _ (sd2 _ _ hm)
    have g := DGet.t (H := H4) (a := d) (b := t) (k := keyOf x) (s4 _ _ d2) (by rw [keyOf_V]; exact hm4)
    rw [look_V] at g
    refine ⟨rfl, _, rfl, _, rfl, d, rfl, .inr ⟨_, .inl (s4 _ _ d2)⟩, _, rfl, _, g, ?_⟩
    have e : ((look ps x).map V.int).getD (.int 0) = .int (numF ps x) := by unfold numF; cases look ps x <;> rfl
    rw [e]
    exact kT rfl _ t (Same.refl _) hm4
  · intro H4 s4 hD4
    rw [ft] at hD4
    have hD4' : DI H4 D (tabN rs (numF ps)) := by show _ = _; rw [hD4, List.map_map]; rfl
    refine ⟨_, rfl, p, CC, dx, _, rfl, s4 _ _ p2, R'.cl, R'.na _ (by decide +kernel), (by show 1 < 1000; decide), ?_⟩
    have e2 : putF "numbers" (.ref D) [(("routine" : Str), V.ref r)] = [(("routine" : Str), V.ref r), (("numbers" : Str), V.ref D)] := (put_past (by decide +kernel)).trans rfl
    rw [e2]
    have sd5 : Same (del H p) (upd H4 p (.ins CC dx [(("routine" : Str), V.ref r), (("numbers" : Str), V.ref D)])) := same_upd (sd2.trans s4) p0
    have p5 : (upd H4 p (.ins CC dx [(("routine" : Str), V.ref r), (("numbers" : Str), V.ref D)])) p = some (.ins CC dx [(("routine" : Str), V.ref r), (("numbers" : Str), V.ref D)]) := upd_same
    have d5 : DI (upd H4 p (.ins CC dx [(("routine" : Str), V.ref r), (("numbers" : Str), V.ref D)])) D (tabN rs (numF ps)) := by show upd _ _ _ _ = _; rw [upd_ne (Ne.symm hpD)]; exact hD4'
    generalize upd H4 p (.ins CC dx [(("routine" : Str), V.ref r), (("numbers" : Str), V.ref D)]) = H5 at sd5 p5 d5
    have two : Two ((tabN rs (numF ps)).map (·.1)) := by
      rw [List.map_map]
      intro j hj
      obtain ⟨i, hi, rfl⟩ := List.mem_map.mp hj
      exact hR.jr.two i hi
    refine ⟨_, rfl, _, rfl, p, CC, dx, _, _, rfl, p5, R'.cl, R'.na _ (by decide +kernel), lk2 (by decide +kernel), r, D, n, rs, tabN rs (numF ps), rfl, hRd.same sd5, d5, two, by rw [List.length_map]; omega, ev, fun H6 L s6 hL => ?_⟩
    refine ⟨_, rfl, Nat.zero_le _, fun L2 hL2 => ?_⟩
    have s7 : Same H6 (upd H6 L2 (.lst [])) := same_new hL2
    refine ⟨.list [], .list [], .lst (SqL.of (s7 _ _ hL)) .nil, .lst (SqL.of upd_same) .nil, by decide +kernel, by decide +kernel, _, rfl, iff (by decide +kernel) ?_⟩
    have sd8 := (sd5.trans s6).trans s7
    refine k _ ⟨hRd.same sd8, ev, fun j hj => ?_, dx, D, s7 _ _ (s6 _ _ p5), s7 _ _ (s6 _ _ d5)⟩ (But.of sd8)
    cases q : look ps j with
    | none => unfold numF; rw [q]; exact Int.le_refl 0
    | some x =>
      rw [look_numF q]
      exact (hps _ (look_mem q)).2.1
theorem tab_congr {rs : List (List Int)} {f g : List Int → Int} (h : ∀ j ∈ rs, f j = g j) : tabN rs f = tabN rs g := List.map_congr_left fun j hj => by rw [h j hj]
theorem Ct.congr {H : Hp} {a r : Addr} {n : Int} {rs : List (List Int)} {f g : List Int → Int} (c : Ct CR CC H a r n rs f) (h : ∀ j ∈ rs, f j = g j) : Ct CR CC H a r n rs g := by
  obtain ⟨dx, d, h1, h2⟩ := c.ex
  have e := tab_congr h
  exact ⟨c.rt, by rw [← e]; exact c.ev, fun j hj => by rw [← h j hj]; exact c.pos j hj, dx, d, h1, by show _ = _; rw [← e]; exact h2⟩
theorem numF_tab {rs : List (List Int)} {g : List Int → Int} {j : List Int} (hj : j ∈ rs) : numF (tabN rs g) j = g j := by
  unfold numF
  rw [look_mark, if_pos hj]
  rfl
theorem bal_mul (k : Int) : ∀ (rs : List (List Int)) (g : List Int → Int) (b : Int), bal (tabN rs fun j => g j * k) b = bal (tabN rs g) b * k
  | [], g, b => by simp [bal, tabN]
  | j :: rs, g, b => by
    show ((if j1 j = b then g j * k else 0) - (if j0 j = b then g j * k else 0)) + bal (tabN rs fun j => g j * k) b = (((if j1 j = b then g j else 0) - (if j0 j = b then g j else 0)) + bal (tabN rs g) b) * k
    rw [bal_mul k rs g b, Int.add_mul, Int.sub_mul]
    by_cases c1 : j1 j = b <;> by_cases c2 : j0 j = b <;> simp [c1, c2]
def spCget (CR CC : Addr) : Sp := fun vs H Q _ => ∃ (a t r : Addr) (n : Int) (rs : List (List Int)) (num : List Int → Int) (j : List Int), vs = [.ref a, .ref t] ∧ Ct CR CC H a r n rs num ∧ TupI H t j ∧ j ∈ rs ∧ ∀ H', Same H H' → Q (.int (num j)) H'
theorem w_Cget (R' : Cl K mg CC "Counts" ["routine", "numbers"]) (c_has : Dn P w K mg base 4 CR "__contains__" (spHas CR)) (F : Fun K "__getitem__" "Counts.__getitem__" (sCt 5) f fd) (hf : fnIn K f = true) (d : Dun K CC "__getitem__" f) (b : Binds K fd ["self", "at"] []) : Dn P w K mg base 5 CC "__getitem__" (spCget CR CC) := by
  have sc : FnScope ["self", "at"] ["self", "at"] (fnScope (sCt 5)) := fnScope_by (by decide +kernel)
  refine ⟨f, fd, _, d, hf, fn0 F sc (fun vs H Q E h => by obtain ⟨_, _, _, _, _, _, _, rfl, _⟩ := h; rfl) fun cdv A outer s H vs Q E hr h => ?_, b⟩
  obtain ⟨a, t, r, n, rs, num, j, rfl, hC, ht, hj, k⟩ := h
  obtain ⟨dx, d, h1, h2⟩ := hC.ex
  obtain ⟨rx, rl, rd, q1, q2, q3⟩ := hC.rt.ex
  have hu := hu_of hr
  obtain ⟨u, v, er, hm, hmv⟩ := memV_rows hC.rt.jr ht hj
  refine ⟨_, (pss_cons (ps_if (pt_cmpR (o_notIn c_has hr (by decide)) (pv 1) (pe_fld (pv 0) rfl) (by rfl)) (pss_one ps_never) pss_nil)
  (pss_one (ps_ret (pe_dget hu (pe_fld (pv 0) rfl) (pv 1) (fun _ _ => rfl))))), ?_⟩
  refine ⟨_, rfl, _, rfl, a, CC, dx, _, _, rfl, h1, R'.cl, R'.na _ (by decide +kernel), lk_here, r, rx, _, rfl, q1, r, t, _, _, n, rs, rfl, hC.rt, hm, .int u, .int v, fun H' s1 => ⟨_, rfl, _, rfl, ?_⟩⟩
  rw [hmv]
  refine iff rfl ?_
  have g := DGet.t (H := H') (a := d) (b := t) (k := keyOf j) (s1 _ _ h2) (by rw [keyOf_V]; exact s1 _ _ ht)
  have e : valV ((tabN rs num).map fun p => (keyOf p.1, V.int p.2)) (keyOf j) = some (.int (num j)) := (look_V V.int (tabN rs num) j).trans (by rw [look_mark, if_pos hj]; rfl)
  rw [e] at g
  exact ⟨_, rfl, a, CC, dx, _, _, rfl, s1 _ _ h1, R'.cl, R'.na _ (by decide +kernel), lk2 (by decide +kernel), _, rfl, d, V.int (num j), rfl, g, k H' s1⟩
abbrev CtEq (CR CC : Addr) : Addr → Addr → Hp → Prop := fun a b H => ∃ r r' n rs num, Ct CR CC H a r n rs num ∧ Ct CR CC H b r' n rs num
theorem w_Ceq (T : Tb mg) (R' : Cl K mg CC "Counts" ["routine", "numbers"]) (c_req : Dn P w K mg base 1 CR "__eq__" (spEq (RtEq CR))) (F : Fun K "__eq__" "Counts.__eq__" (sCt 6) f fd) (hf : fnIn K f = true) (d : Dun K CC "__eq__" f) (b : Binds K fd ["self", "other"] []) : Dn P w K mg base 2 CC "__eq__" (spEq (CtEq CR CC)) := by
  have sc : FnScope ["self", "other"] ["self", "other"] (fnScope (sCt 6)) := fnScope_by (by decide +kernel)
  refine ⟨f, fd, _, d, hf, fn0 F sc (fun vs H Q E h => by obtain ⟨_, _, rfl, _⟩ := h; rfl) fun cdv A outer s H vs Q E hr h => ?_, b⟩
  obtain ⟨x, y, rfl, ⟨r, r', n, rs, num, hx, hy⟩, k⟩ := h
  obtain ⟨dx, d, h1, h2⟩ := hx.ex
  obtain ⟨ex, e, g1, g2⟩ := hy.ex
  obtain ⟨rx, rl, rd, q1, q2, q3⟩ := hx.rt.ex
  obtain ⟨ry, rl', rd', q1', q2', q3'⟩ := hy.rt.ex
  refine ⟨_, (pss_one (ps_ret (pe_and (pe_callB (C8.call_isC R'.isc) (by rfl) T.isinstance PyProof.Rows.boot_isinstance (pa_cons (pv 1) (pa_cons (pe_gc (v := .ref CC) rfl ⟨_, R'.gl, rfl⟩) pa_nil))) (pe_and (pe_cmpR (o_eq c_req hr (by decide)) (pe_fld (pv 0) rfl) (pe_fld (pv 1) rfl) (nomark _)) (pe_one (pe_cmpR (op_eq_dictT (hu_of hr)) (pe_fld (pv 0) rfl) (pe_fld (pv 1) rfl) (nomark _))))))), ?_⟩
  refine ⟨_, rfl, y, ex, _, rfl, g1, _, rfl, ?_⟩
  refine ⟨_, rfl, x, CC, dx, _, _, rfl, h1, R'.cl, R'.na _ (by decide +kernel), lk_here, _, rfl, y, CC, ex, _, _, rfl, g1, R'.cl, R'.na _ (by decide +kernel), lk_here, ⟨r, r', rx, ry, _, _, rfl, rfl, q1, q1', n, rs, hx.rt, hy.rt⟩, fun H' s1 => ⟨_, rfl, ift rfl ?_⟩⟩
  refine ⟨_, rfl, x, CC, dx, _, _, rfl, s1 _ _ h1, R'.cl, R'.na _ (by decide +kernel), lk2 (by decide +kernel), _, rfl, y, CC, ex, _, _, rfl, s1 _ _ g1, R'.cl, R'.na _ (by decide +kernel), lk2 (by decide +kernel), ?_⟩
  refine ⟨d, e, _, _, rfl, rfl, s1 _ _ h2, s1 _ _ g2, rfl, fun p hp => ⟨hp, ?_⟩, k H' s1⟩
  obtain ⟨q, _, rfl⟩ := List.mem_map.mp hp
  rfl
def spCmul (CR CC : Addr) : Sp := fun vs H Q _ => ∃ (a r : Addr) (c n : Int) (rs : List (List Int)) (num : List Int → Int), vs = [.ref a, .int c] ∧ Ct CR CC H a r n rs num ∧ 0 ≤ c ∧ c < 1000 ∧ ∀ H' b, Same H H' → Ct CR CC H' b r n rs (fun j => num j * c) → Q (.ref b) H'
theorem w_Cmul (R' : Cl K mg CC "Counts" ["routine", "numbers"]) (c_is_integer : Cal P w K mg base 1 "is_integer" spInteger []) (c_Counts : MakK P w K mg base 6 "Counts" CC (spCinit CR CC)) (F : Fun K "__rmul__" "Counts.__rmul__" (sCt 9) f fd) : FnOk P w K mg base CX0 8 f fd ["self", "other"] (spCmul CR CC) := by
  have sc : FnScope ["self", "other", "jump", "number"] ["self", "other"] (fnScope (sCt 9)) := fnScope_by (by decide +kernel)
  refine fn0 F sc (fun vs H Q E h => by obtain ⟨_, _, _, _, _, _, rfl, _⟩ := h; rfl) fun cdv A outer s H vs Q E hr h => ?_
  obtain ⟨a, r, c, n, rs, num, rfl, hC, c0, c1, k⟩ := h
  obtain ⟨dx, d, h1, h2⟩ := hC.ex
  have hu := hu_of hr
  have l120 := hC.rt.l120
  refine ⟨_, (pss_cons (ps_if (pt_not (pt_val (pe_c c_is_integer hr (by decide) rfl (pa_cons (pv 1) pa_nil)))) (pss_one ps_never) pss_nil)
  (pss_one (ps_ret (pe_mkK c_Counts hr (by decide) rfl (pa_cons (pe_fld (pv 0) rfl) (pa_cons (pe_lock (pe_lc (own := [("jump", 2), ("number", 3)]) rfl sc.nd (pi_itemsT (pe_fld (pv 0) rfl)) (blkOk_by (own := [("jump", 2), ("number", 3)]) (N := ["self", "other", "jump", "number"]) (sc := fnScope (sCt 9)) (by decide +kernel)) (fun _ _ _ _ _ => (pg_pair (K := K) rfl rfl (pgs_cons (pg_name (i := 2) sc.nd rfl (Or.inl rfl)) (pgs_cons (pg_name (i := 3) sc.nd rfl (Or.inl rfl)) pgs_nil)))) (fun _ _ _ _ _ => pts_nil) (fun _ _ _ _ _ => (pe_tup (pa_cons (pv 2) (pa_cons (pe_op op_mul (pv 3) (pv 1)) pa_nil)))))) pa_nil)) (pk_cons pe_non pk_nil))))), ?_⟩
  refine ⟨_, rfl, .int c, rfl, .int c, _, rfl, iff rfl ?_⟩
  refine ⟨_, rfl, a, CC, dx, _, _, rfl, h1, R'.cl, R'.na _ (by decide +kernel), lk_here, d, _, h2, trivial, fun od => ?_⟩
  have h1' := lock_ne (od := od) h2 h1 (fun z => by cases z)
  refine ⟨_, rfl, a, CC, dx, _, _, rfl, h1', R'.cl, R'.na _ (by decide +kernel), lk2 (by decide +kernel), d, od, dM V.int (tabN rs num), rfl, upd_same, fun D hD => ?_⟩
  have hlt : (tabN rs num).length = rs.length := List.length_map ..
  refine lc_fm (ms := tabN rs num) walk_itI (fun _ => true) (fun p => (p.1, p.2 * c)) (fun H v p => ∃ t, v = .ref t ∧ PrI H t p) (fun H H' v p nl ⟨t, e, q⟩ => ⟨t, e, q.nl nl⟩) hD (by rw [hlt, sizeLine_eq]; omega) (fun H' s => s _ _ upd_same) ?_ ?_
  · rintro i p x H3 H4 Nx hi s1 ⟨t, q, p', hp', rfl, ht, hq, rfl⟩ _ kT
    obtain rfl : p' = p := Option.some.inj (hp'.symm.trans hi)
    refine ⟨t, _, rfl, SqT.of upd_same, rfl, _, _, rfl, _, _, rfl, rfl, rfl, ?_⟩
    refine ⟨_, rfl, _, rfl, _, rfl, _, _, rfl, rfl, .inr ⟨by omega, by omega⟩, by show 2 ≤ sizeLine; decide, fun g hg => ?_⟩
    have s2 : Same H3 (upd H3 t (.tup [.ref q, .int p'.2])) := same_new ht
    exact kT rfl _ _ (s2.trans (same_new hg)) ⟨g, rfl, q, upd_same, same_new hg _ _ (s2 _ _ hq)⟩
  · intro H' ys s1 hD' hp
    rw [ft] at hp
    obtain ⟨fz, s2⟩ := unlock h2 s1
    refine ⟨fz, rfl, rfl, fun x dx' hx hdx hne => ?_⟩
    have hDd : D ≠ d := fun z => by rw [z] at hD'; cases hD'.symm.trans fz
    have prs : Prs H' D (tabN rs fun j => num j * c) := by
      have e : (tabN rs num).map (fun p => (p.1, p.2 * c)) = tabN rs fun j => num j * c := by rw [List.map_map]; rfl
      rw [e] at hp
      exact Prs.of hD' hp
    have prs2 : Prs (upd H' d (.dT ((tabN rs num).map fun p => (keyOf p.1, V.int p.2)))) D (tabN rs fun j => num j * c) := by
      obtain ⟨ts, e1, e2⟩ := prs.ex
      refine ⟨ts, by rw [upd_ne hDd]; exact e1, Paired.mapP e2 fun t p y => ?_⟩
      obtain ⟨g, y1, y2⟩ := y
      refine ⟨g, ?_, ?_⟩
      · rw [upd_ne (fun z => by rw [z] at y1; cases y1.symm.trans fz)]; exact y1
      · show upd _ _ _ _ = _
        rw [upd_ne (fun z => by rw [z] at y2; cases y2.symm.trans fz)]; exact y2
    generalize upd H' d (.dT ((tabN rs num).map fun p => (keyOf p.1, V.int p.2))) = H2 at s2 hx hdx prs2
    have s3 : Same H2 (upd (upd H2 dx' (.own x)) x (.ins CC dx' [])) := same_upd (same_new hdx) hx
    have nd : ((tabN rs fun j => num j * c).map (·.1)).Nodup := by
      rw [List.map_map]
      have : (rs.map ((fun x : List Int × Int => x.1) ∘ fun j => (j, num j * c))) = rs := by
        rw [show ((fun x : List Int × Int => x.1) ∘ fun j => (j, num j * c)) = id from rfl, List.map_id]
      rw [this]
      exact hC.rt.jr.nd
    have ec : tabN rs (numF (tabN rs fun j => num j * c)) = tabN rs fun j => num j * c := tab_congr fun j hj => numF_tab hj
    have ev : Even n (tabN rs (numF (tabN rs fun j => num j * c))) := by
      rw [ec]
      intro b b1 b2
      rw [bal_mul, hC.ev b b1 b2, Int.zero_mul]
    refine ⟨x, r, D, dx', .non, n, rs, tabN rs (fun j => num j * c), rfl, upd_same, hC.rt.same (s2.trans s3), prs2.same s3, nd, fun q hq => ?_, ev, fun H4 hC4 hb => ⟨rfl, ?_⟩⟩
    · obtain ⟨j, hj, rfl⟩ := List.mem_map.mp hq
      exact ⟨hj, Int.mul_nonneg (hC.pos j hj) c0, .inl rfl⟩
    · have s4 : Same H H4 := fun b o e => hb b o ((s2.trans s3) _ _ e) (ne_of_none (s2 _ _ e) hx)
      exact k H4 x s4 (hC4.congr fun j hj => numF_tab hj)
end
end K46
end
section
set_option maxHeartbeats 4000000
/-! W7: times_of, multiplied. -/
namespace K46
open PySem Ja
open L2 hiding CX0 E0 pass0 Fun
open PySem.W (Frag findIn isFn fnIn)
open C8 (Cal Met Mak Def Fun CX0 E0 pass0 fnScope fnBody fnArgs fnScope_by cal0 met0 mak0 pe_c pe_mk pe_mt pe_mt0 pe_gc fn0)
theorem paired_swap {α β : Type} {R : β → α → Prop} {as : List α} {bs : List β} (p : Paired (fun a b => R b a) as bs) : Paired R bs as := by
  induction p with
  | nil => exact .nil
  | cons h t ih => exact .cons h ih
/-- a run of the routine -/
abbrev RunB (n : Int) (rs : List (List Int)) (r : List Int) : Prop := runV n rs (some (r.map V.int)) = true
theorem atomI (r : List Int) : ∀ x ∈ r.map V.int, Atom x := fun x hx => by
  obtain ⟨i, _, rfl⟩ := List.mem_map.mp hx
  exact .int i
theorem RunB.ne {n : Int} {rs : List (List Int)} {r : List Int} (h : RunB n rs r) : r ≠ [] := fun z => by subst z; simp [RunB, runV] at h
/-- the runs of a ledger and how often -/
structure Lgd (n : Int) (rs : List (List Int)) (m : Option Int) (ps : List (List Int × Int)) : Prop where
  nd : (ps.map (·.1)).Nodup
  ok : ∀ p ∈ ps, RunB n rs p.1 ∧ p.1.length < 1000 ∧ 1 ≤ p.2 ∧ (∀ M, m = some M → p.2 ≤ M)
  len : ps.length ≤ 1000
def mV : Option Int → V
  | none => .non
  | some M => .int M
abbrev RunsUp (ys : List (List Int)) : Prop := ys.Pairwise fun x y => HT.lexLt y x = false
def spTimes (CR : Addr) : Sp := fun vs H Q _ => ∃ (r l : Addr) (m : Option Int) (n : Int) (rs : List (List Int)) (ps : List (List Int × Int)), vs = [.ref r, .ref l, mV m] ∧ Rt CR H r n rs ∧ Prs H l ps ∧ Lgd n rs m ps ∧
  ∀ H' d ys, Same H H' → H d = none → ys.Perm (ps.map (·.1)) → DI H' d (tabN ys (numF ps)) → Q (.ref d) H'
section
variable {P : Program} {w : World} {K : Frag} {mg : Str → Option Value} {base : Heap} {f CR CC : Addr} {fd : FuncData}
theorem w_times (T : Tb mg) (R : Cl K mg CR "Routine" ["blocks", "rows", "there"]) (c_is_integer : Cal P w K mg base 1 "is_integer" spInteger []) (c_is_run : Met P w K mg base 5 CR "is_run" (spIsRun CR) []) (F : Def K mg "times_of" sTimesOf f fd) (b : Binds K fd ["routine", "entries", "most"] []) : Cal P w K mg base 6 "times_of" (spTimes CR) [] := by
  have sc : FnScope ["routine", "entries", "most", "found", "at", "entry", "run"] ["routine", "entries", "most"] (fnScope sTimesOf) := fnScope_by (by decide +kernel)
  refine cal0 F b .nil sc (fun vs H Q E h => by obtain ⟨_, _, _, _, _, _, rfl, _⟩ := h; rfl) fun cdv A outer s H vs Q E hr h => ?_
  obtain ⟨r, l, m, n, rs, ps, rfl, hR, hl, lg, k⟩ := h
  obtain ⟨ts, el, pl⟩ := hl.ex
  have hu := hu_of hr
  refine ⟨_, (pss_cons (ps_set (i := 3) sc.nd rfl (Or.inr rfl) (pe_dnewT))
  (pss_cons (ps_for PassesOwn.never rfl (pi_enum (by rfl) T.enumerate (pa_cons (pv 1) pa_nil)) (pg_tup rfl (pgs_cons (pg_name (i := 4) sc.nd rfl (Or.inl rfl)) (pgs_cons (pg_name (i := 5) sc.nd rfl (Or.inl rfl)) pgs_nil))) (pss_cons (ps_if (PW.pt (pw_or (pt_not (pt_val (pe_callB call_isi (by rfl) T.isinstance PyProof.Rows.boot_isinstance (pa_cons (pv 5) (pa_cons (pe_bltn (v := .ty "tuple") (by rfl) T.tuple PyProof.Rows.boot_tuple rfl) pa_nil))))) (pw_or (pt_cmpR op_ne (pe_callB call_len (by rfl) T.len PySem.boot_len (pa_cons (pv 5) pa_nil)) pe_int (nomark _)) (pw_or1 (pt_not (pt_val (pe_mt (pl := _) c_is_run hr (by decide) (pv 0) (pa_cons (pe_ix ix_tup (pv 5) pe_int (fun _ _ => rfl)) pa_nil)))))))) (pss_one ps_never) pss_nil)
  (pss_cons (ps_if (PW.pt (pw_or (pt_not (pt_val (pe_c c_is_integer hr (by decide) rfl (pa_cons (pe_ix ix_tup (pv 5) pe_int (fun _ _ => rfl)) pa_nil)))) (pw_or (pt_cmpR op_lt (pe_ix ix_tup (pv 5) pe_int (fun _ _ => rfl)) pe_int (nomark _)) (pw_or1 (PW.pt (pw_and (pt_cmpR op_notN (pv 2) pe_non (nomark _)) (pw_and1 (pt_cmpR op_gt (pe_ix ix_tup (pv 5) pe_int (fun _ _ => rfl)) (pv 2) (nomark _))))))))) (pss_one ps_never) pss_nil)
  (pss_one (ps_dput hu (pv 3) (pe_ix ix_tup (pv 5) pe_int (fun _ _ => rfl)) (pe_op op_add (pe_dget2 hu (pv 3) (pe_ix ix_tup (pv 5) pe_int (fun _ _ => rfl)) pe_int ⟨rfl, rfl, rfl, rfl⟩) (pe_ix ix_tup (pv 5) pe_int (fun _ _ => rfl))) rfl)))))
  (pss_one (ps_ret (pe_dcT hu rfl sc.nd (pi_list (pe_callB (call_sortedT rfl) (by rfl) T.sorted PyProof.Rows.boot_sorted (pa_cons (pv 3) pa_nil))) (blkOk_by (own := [("run", 6)]) (N := ["routine", "entries", "most", "found", "at", "entry", "run"]) (sc := fnScope sTimesOf) (by decide +kernel)) (fun _ _ _ _ _ => (pg_name (i := 6) sc.nd rfl (Or.inl rfl))) (fun _ _ _ _ _ => pts_nil) (fun _ _ _ _ _ => (pv 6)) (fun _ _ _ _ _ => (pe_dget hu (pv 3) (pv 6) (fun _ _ => rfl)))))))), ?_⟩
  intro d hd
  have len : ts.length = ps.length := Paired.length pl
  have hlen := lg.len
  obtain ⟨rx, rl, rd, q1, q2, q3⟩ := hR.ex
  refine ⟨_, rfl, l, ts.map V.ref, rfl, SqL.of ((same_new hd) _ _ el), for_it walk_enum (fun i σ H' => (∃ v5 v6, σ = [some (.ref r), some (.ref l), some (mV m), some (.ref d), v5, v6, none]) ∧ Same H H' ∧ DI H' d (ps.take i)) ⟨⟨none, none, rfl⟩, same_new hd, upd_same⟩ (fun i σ H' _ h => SqL.of (h.2.1 _ _ el)) ?_ ?_⟩
  · rintro i x σ H1 H2 hi ⟨⟨v5, v6, rfl⟩, s1, hD⟩ ⟨q, y, z, rfl, hq, rfl, hy, hz⟩
    obtain rfl := Option.some.inj hy
    rw [List.length_map] at hi
    have ei : ps[i]? = some ps[i] := List.getElem?_eq_getElem (by omega)
    obtain ⟨t, rfl, g, hg, hm⟩ := at_itemG pl ei hz
    obtain ⟨p1, p2, p3, p4⟩ := lg.ok ps[i] (List.mem_of_getElem? ei)
    have s2 : Same H (upd H1 q (.tup [.int i, .ref t])) := s1.trans (same_new hq)
    have hD2 : DI (upd H1 q (.tup [.int i, .ref t])) d (ps.take i) := same_new hq _ _ hD
    refine ⟨q, _, rfl, SqT.of upd_same, rfl, _, _, rfl, _, _, rfl, rfl, ?_⟩
    generalize upd H1 q (.tup [.int i, .ref t]) = H2 at s2 hD2
    refine ⟨_, rfl, _, _, _, _, true, rfl, .ty _, .base (.tup (s2 _ _ hg)), kit_ty (by decide +kernel), _, rfl, ?_⟩
    refine iff rfl ⟨_, rfl, _, 2, rfl, .inr ⟨_, SqT.of (s2 _ _ hg), rfl⟩, rfl, _, rfl, iff (by decide) ?_⟩
    refine ⟨_, rfl, r, rx, _, rfl, s2 _ _ q1, (lk_past (by decide +kernel)).trans ((lk_past (by decide +kernel)).trans (lk_past (by decide +kernel))), _, rfl, t, _, 0, V.ref g, rfl, rfl, SqT.of (s2 _ _ hg), atI0 _ _, r, .ref g, n, rs, _, rfl, hR.same s2, .tup (s2 _ _ hm) (atomI _), fun xs e => by cases e; rw [List.length_map]; exact p2, fun H3 s3 => ⟨_, rfl, ?_⟩⟩
    rw [p1]
    refine iff rfl ?_
    have s4 := s2.trans s3
    have nin : ps[i].1 ∉ (ps.take i).map (·.1) := by
      have ei2 : (ps.map (·.1))[i]? = some ps[i].1 := by rw [List.getElem?_map, ei]; rfl
      have := nd_take lg.nd ei2
      rw [← List.map_take] at this
      exact this
    refine ⟨_, rfl, t, _, 1, V.int ps[i].2, rfl, rfl, SqT.of (s4 _ _ hg), atI1 _ _ _, .int ps[i].2, rfl, .int _, _, rfl, iff rfl ?_⟩
    refine ⟨_, rfl, t, _, 1, V.int ps[i].2, rfl, rfl, SqT.of (s4 _ _ hg), atI1 _ _ _, _, _, rfl, rfl, _, rfl, iff (decide_eq_false (by omega)) ?_⟩
    have g2 := DGet.t (H := H3) (a := d) (b := g) (k := keyOf ps[i].1) (s3 _ _ hD2) (by rw [keyOf_V]; exact s4 _ _ hm)
    rw [look_V, look_none.mpr nin] at g2
    have fin : ∃ H', DPut H3 d (.ref g) (.int (0 + ps[i].2)) H' ∧ Same H H' ∧ DI H' d (ps.take (i + 1)) := by
      refine ⟨_, DPut.t (k := keyOf ps[i].1) (s3 _ _ hD2) (by rw [keyOf_V]; exact s4 _ _ hm) (by rw [List.length_map, List.length_take, sizeLine_eq]; omega), same_upd s4 hd, ?_⟩
      show upd _ _ _ _ = _
      rw [upd_same, Int.zero_add]
      have e := put_V V.int (ps.take i) ps[i].1 ps[i].2
      rw [putM_new _ nin, ← tk_more ei] at e
      exact congrArg (fun z => some (HO.dT z)) e
    obtain ⟨H5, f1, f2, f3⟩ := fin
    cases m with
    | none =>
      exact ⟨_, rfl, rfl, _, rfl, iff (by decide) ⟨_, rfl, d, rfl, .inr ⟨_, .inl (s3 _ _ hD2)⟩, _, rfl, t, _, 0, V.ref g, rfl, rfl, SqT.of (s4 _ _ hg), atI0 _ _, _, g2, _, rfl, t, _, 1, V.int ps[i].2, rfl, rfl, SqT.of (s4 _ _ hg), atI1 _ _ _, 0, ps[i].2, rfl, rfl, _, rfl, _, rfl, t, _, 0, V.ref g, rfl, rfl, SqT.of (s4 _ _ hg), atI0 _ _, d, H5, rfl, f1, ⟨_, _, rfl⟩, f2, f3⟩⟩
    | some M =>
      have hM := p4 M rfl
      refine ⟨_, rfl, rfl, _, rfl, ift (by simp [mV]) ⟨_, rfl, t, _, 1, V.int ps[i].2, rfl, rfl, SqT.of (s4 _ _ hg), atI1 _ _ _, _, rfl, _, _, rfl, rfl, _, rfl, iff (decide_eq_false (by omega)) ?_⟩⟩
      exact ⟨_, rfl, d, rfl, .inr ⟨_, .inl (s3 _ _ hD2)⟩, _, rfl, t, _, 0, V.ref g, rfl, rfl, SqT.of (s4 _ _ hg), atI0 _ _, _, g2, _, rfl, t, _, 1, V.int ps[i].2, rfl, rfl, SqT.of (s4 _ _ hg), atI1 _ _ _, 0, ps[i].2, rfl, rfl, _, rfl, _, rfl, t, _, 0, V.ref g, rfl, rfl, SqT.of (s4 _ _ hg), atI0 _ _, d, H5, rfl, f1, ⟨_, _, rfl⟩, f2, f3⟩
  · rintro σ H2 ⟨⟨v5, v6, rfl⟩, s2, hD⟩
    rw [List.length_map, len, List.take_length] at hD
    have hne : ∀ r ∈ ps.map (·.1), r ≠ [] := fun r hr => by
      obtain ⟨p, hp, rfl⟩ := List.mem_map.mp hr
      exact (lg.ok p hp).1.ne
    refine ⟨_, rfl, d, _, ps.map (·.1), rfl, .inl hD, by rw [List.map_map, List.map_map]; rfl, hne, fun ys bs L pm st pb hL => ?_⟩
    have s3 : Same H2 (upd H2 L (.lst (bs.map V.ref))) := same_new hL
    have pb' : Paired (fun t r => TupI H2 t r) bs ys := paired_swap pb
    have ndy : ys.Nodup := pm.nodup_iff.mpr lg.nd
    have ly : ys.length = ps.length := by rw [pm.length_eq, List.length_map]
    have hlen2 : ys.length = (bs.map V.ref).length := by rw [List.length_map, Paired.length pb']
    have eL : (upd H2 L (.lst (bs.map V.ref))) L = some (.lst (bs.map V.ref)) := upd_same
    generalize upd H2 L (.lst (bs.map V.ref)) = H3 at s3 eL
    refine ⟨L, rfl, ⟨_, SqL.of eL⟩, fun D hD3 => ?_⟩
    refine dc_fm (ms := ys) (by rw [hlen2]; exact walk_list) (fun _ => true) (fun r => r) (fun r => .int (numF ps r)) hD3 (by rw [ly, sizeLine_eq]; omega) (by rw [ft, List.map_id']; exact ndy) (fun H' s => SqL.of (s _ _ eL)) ?_ ?_
    · rintro j x v _ H4 Nx hj s4 ⟨rfl, hx⟩ _ kT
      obtain ⟨t, rfl, hm⟩ := at_item pb' hj hx
      have hm4 : TupI H4 t x := s4 _ _ (s3 _ _ hm)
      have hxin : x ∈ ps.map (·.1) := pm.mem_iff.mp (List.mem_of_getElem? hj)
      obtain ⟨y, hy⟩ : ∃ y, look ps x = some y := by
        cases q : look ps x with
        | none => exact absurd hxin (look_none.mp q)
        | some y => exact ⟨y, rfl⟩
      have g := DGet.t (H := H4) (a := d) (b := t) (k := keyOf x) (s4 _ _ (s3 _ _ hD)) (by rw [keyOf_V]; exact hm4)
      rw [look_V, hy] at g
      have e := look_numF hy
      rw [← e] at g
      exact ⟨rfl, _, rfl, _, rfl, _, rfl, d, V.int (numF ps x), rfl, g, kT rfl _ t (Same.refl _) hm4⟩
    · intro H4 s4 hD4
      rw [ft] at hD4
      exact k H4 D ys ((s2.trans s3).trans s4) ((s2.trans s3).free hD3) pm (by show _ = _; rw [hD4, List.map_map]; rfl)
def spMulti : Sp := fun vs H Q _ => ∃ (d : Addr) (c : Int) (m : List (List Int × Int)), vs = [.ref d, .int c] ∧ DI H d m ∧ m.length ≤ 1000 ∧ 1 ≤ c ∧ c < 1000 ∧ ∀ H' l, Same H H' → Prs H' l (m.map fun p => (p.1, p.2 * c)) → Q (.ref l) H'
/-- a new list of pairs, made while a dict was locked -/
theorem prs_unlock {H' : Hp} {d D : Addr} {u : HO} {od : Obj} {ys : List V} {ps : List (List Int × Int)} (fz : H' d = some (.frz od u)) (hD : H' D = some (.lst ys)) (hp : Paired (fun v p => ∃ t, v = .ref t ∧ PrI H' t p) ys ps) : Prs (upd H' d u) D ps := by
  obtain ⟨ts, e1, e2⟩ := (Prs.of hD hp).ex
  refine ⟨ts, by rw [upd_ne (fun z => by rw [z] at e1; cases e1.symm.trans fz)]; exact e1, Paired.mapP e2 fun t p y => ?_⟩
  obtain ⟨g, y1, y2⟩ := y
  refine ⟨g, ?_, ?_⟩
  · rw [upd_ne (fun z => by rw [z] at y1; cases y1.symm.trans fz)]; exact y1
  · show upd _ _ _ _ = _
    rw [upd_ne (fun z => by rw [z] at y2; cases y2.symm.trans fz)]; exact y2
theorem w_multi (F : Def K mg "multiplied" sMultiplied f fd) (b : Binds K fd ["times", "factor"] []) : Cal P w K mg base 1 "multiplied" spMulti [] := by
  have sc : FnScope ["times", "factor", "run", "many"] ["times", "factor"] (fnScope sMultiplied) := fnScope_by (by decide +kernel)
  refine cal0 F b .nil sc (fun vs H Q E h => by obtain ⟨_, _, _, rfl, _⟩ := h; rfl) fun cdv A outer s H vs Q E hr h => ?_
  obtain ⟨d, c, m, rfl, h2, lm, c0, c1, k⟩ := h
  refine ⟨_, (pss_one (ps_ret (pe_lock (pe_lc (own := [("run", 2), ("many", 3)]) rfl sc.nd (pi_itemsT (pv 0)) (blkOk_by (own := [("run", 2), ("many", 3)]) (N := ["times", "factor", "run", "many"]) (sc := fnScope sMultiplied) (by decide +kernel)) (fun _ _ _ _ _ => (pg_pair (K := K) rfl rfl (pgs_cons (pg_name (i := 2) sc.nd rfl (Or.inl rfl)) (pgs_cons (pg_name (i := 3) sc.nd rfl (Or.inl rfl)) pgs_nil)))) (fun _ _ _ _ _ => pts_one (pt_cmpR op_gt (pv 1) pe_int (nomark _))) (fun _ _ _ _ _ => (pe_tup (pa_cons (pv 2) (pa_cons (pe_op op_mul (pv 3) (pv 1)) pa_nil)))))))), ?_⟩
  refine ⟨d, _, h2, trivial, fun od => ?_⟩
  refine ⟨_, rfl, d, od, dM V.int m, rfl, upd_same, fun D hD => ?_⟩
  refine lc_fm (ms := m) walk_itI (fun _ => true) (fun p => (p.1, p.2 * c)) (fun H v p => ∃ t, v = .ref t ∧ PrI H t p) (fun H H' v p nl ⟨t, e, q⟩ => ⟨t, e, q.nl nl⟩) hD (by rw [sizeLine_eq]; omega) (fun H' s => s _ _ upd_same) ?_ ?_
  · rintro i p x H3 H4 Nx hi s1 ⟨t, q, p', hp', rfl, ht, hq, rfl⟩ _ kT
    obtain rfl : p' = p := Option.some.inj (hp'.symm.trans hi)
    refine ⟨t, _, rfl, SqT.of upd_same, rfl, _, _, rfl, _, _, rfl, rfl, rfl, ?_⟩
    refine ⟨_, rfl, _, _, rfl, rfl, _, rfl, ift (decide_eq_true (by omega)) ?_⟩
    refine ⟨_, rfl, _, rfl, _, rfl, _, _, rfl, rfl, .inr ⟨by omega, by omega⟩, by show 2 ≤ sizeLine; decide, fun g hg => ?_⟩
    have s2 : Same H3 (upd H3 t (.tup [.ref q, .int p'.2])) := same_new ht
    exact kT rfl _ _ (s2.trans (same_new hg)) ⟨g, rfl, q, upd_same, same_new hg _ _ (s2 _ _ hq)⟩
  · intro H' ys s1 hD' hp
    rw [ft] at hp
    obtain ⟨fz, s2⟩ := unlock h2 s1
    exact ⟨fz, k _ D s2 (prs_unlock fz hD' hp)⟩
end
end K46
end
section
set_option maxHeartbeats 4000000
/-! W8: Ledger. -/
namespace K46
open PySem Ja
open L2 hiding CX0 E0 pass0 Fun
open PySem.W (Frag findIn isFn fnIn)
open C8 (Cal Met Mak Def Fun CX0 E0 pass0 fnScope fnBody fnArgs fnScope_by cal0 met0 mak0 pe_c pe_mk pe_mt pe_mt0 pe_gc fn0)
structure Lg (CR CL : Addr) (H : Hp) (a r : Addr) (n : Int) (rs ys : List (List Int)) (num : List Int → Int) : Prop where
  rt : Rt CR H r n rs
  gd : Lgd n rs none (tabN ys num)
  ex : ∃ dx d, H a = some (.ins CL dx [("routine", .ref r), ("times", .ref d)]) ∧ DI H d (tabN ys num)
theorem Lg.same {CR CL : Addr} {H H' : Hp} {a r : Addr} {n : Int} {rs ys : List (List Int)} {num : List Int → Int} (h : Lg CR CL H a r n rs ys num) (e : Same H H') : Lg CR CL H' a r n rs ys num := by
  obtain ⟨dx, d, h1, h2⟩ := h.ex
  exact ⟨h.rt.same e, h.gd, dx, d, e _ _ h1, e _ _ h2⟩
theorem tab_keys (ys : List (List Int)) (num : List Int → Int) : (tabN ys num).map (·.1) = ys := by
  rw [List.map_map]
  exact List.map_id ys
theorem look_in {β : Type} {ps : List (List Int × β)} {j : List Int} (h : j ∈ ps.map (·.1)) : ∃ x, look ps j = some x := by
  cases q : look ps j with
  | none => exact absurd h (look_none.mp q)
  | some x => exact ⟨x, rfl⟩
theorem Lgd.tab {n : Int} {rs : List (List Int)} {m : Option Int} {ps : List (List Int × Int)} {ys : List (List Int)} (h : Lgd n rs m ps) (pm : ys.Perm (ps.map (·.1))) : Lgd n rs none (tabN ys (numF ps)) := by
  refine ⟨by rw [tab_keys]; exact pm.nodup_iff.mpr h.nd, fun p hp => ?_, by rw [List.length_map, pm.length_eq, List.length_map]; exact h.len⟩
  obtain ⟨y, hy, rfl⟩ := List.mem_map.mp hp
  obtain ⟨x, hx⟩ := look_in (pm.mem_iff.mp hy)
  obtain ⟨h1, h2, h3, h4⟩ := h.ok _ (look_mem hx)
  exact ⟨h1, h2, by show 1 ≤ numF ps y; rw [look_numF hx]; exact h3, fun M z => by cases z⟩
/-- the times of the ledger at p stand at d -/
def TD (CL : Addr) (H : Hp) (p d : Addr) : Prop := ∃ dx r, H p = some (.ins CL dx [("routine", r), ("times", .ref d)])
def spLinit (CR CL : Addr) : Sp := fun vs H Q _ => ∃ (p r l dx : Addr) (m : Option Int) (n : Int) (rs : List (List Int)) (ps : List (List Int × Int)), vs = [.ref p, .ref r, .ref l, mV m] ∧ H p = some (.ins CL dx []) ∧ Rt CR H r n rs ∧ Prs H l ps ∧ Lgd n rs m ps ∧
  ∀ H' ys d, ys.Perm (ps.map (·.1)) → Lg CR CL H' p r n rs ys (numF ps) → TD CL H' p d → H d = none → But p H H' → Q .non H'
section
variable {P : Program} {w : World} {K : Frag} {mg : Str → Option Value} {base : Heap} {f CR CC CL : Addr} {fd : FuncData}
theorem w_Linit (R' : Cl K mg CL "Ledger" ["routine", "times"]) (c_times_of : Cal P w K mg base 6 "times_of" (spTimes CR) []) (F : Fun K "__init__" "Ledger.__init__" (sLg 0) f fd) : FnOk P w K mg base CX0 7 f fd ["self", "routine", "entries", "most"] (spLinit CR CL) := by
  have sc : FnScope ["self", "routine", "entries", "most"] ["self", "routine", "entries", "most"] (fnScope (sLg 0)) := fnScope_by (by decide +kernel)
  refine fn0 F sc (fun vs H Q E h => by obtain ⟨_, _, _, _, _, _, _, _, rfl, _⟩ := h; rfl) fun cdv A outer s H vs Q E hr h => ?_
  obtain ⟨p, r, l, dx, m, n, rs, ps, rfl, hp, hR, hl, lg, k⟩ := h
  refine ⟨_, (pss_cons (ps_fld (pv 0) (pv 1) rfl)
  (pss_one (ps_fld (pv 0) (pe_c c_times_of hr (by decide) rfl (pa_cons (pv 1) (pa_cons (pv 2) (pa_cons (pv 3) pa_nil)))) rfl))), ?_⟩
  refine ⟨_, rfl, _, rfl, p, CL, dx, [], rfl, hp, R'.cl, R'.na _ (by decide +kernel), (by show 0 < 1000; decide), ?_⟩
  have e1 : putF "routine" (.ref r) [] = [(("routine" : Str), V.ref r)] := rfl
  rw [e1]
  have p0 : del H p p = none := del_self
  have hRd := hR.del hp
  have hld := hl.del hp
  have sd2 : Same (del H p) (upd H p (.ins CL dx [(("routine" : Str), V.ref r)])) := same_upd (Same.del (Same.refl H)) p0
  have p2 : (upd H p (.ins CL dx [(("routine" : Str), V.ref r)])) p = some (.ins CL dx [(("routine" : Str), V.ref r)]) := upd_same
  generalize upd H p (.ins CL dx [(("routine" : Str), V.ref r)]) = H2 at sd2 p2
  refine ⟨_, rfl, _, rfl, _, rfl, r, l, m, n, rs, ps, rfl, hRd.same sd2, hld.same sd2, lg, fun H3 d ys s3 hd0 pm hd => ?_⟩
  have hpd : p ≠ d := fun z => by have := s3 _ _ p2; rw [z] at this; cases this.symm.trans hd
  refine ⟨_, rfl, p, CL, dx, _, rfl, s3 _ _ p2, R'.cl, R'.na _ (by decide +kernel), (by show 1 < 1000; decide), ?_⟩
  have e2 : putF "times" (.ref d) [(("routine" : Str), V.ref r)] = [(("routine" : Str), V.ref r), (("times" : Str), V.ref d)] := (put_past (by decide +kernel)).trans rfl
  rw [e2]
  have sd4 : Same (del H p) (upd H3 p (.ins CL dx [(("routine" : Str), V.ref r), (("times" : Str), V.ref d)])) := same_upd (sd2.trans s3) p0
  have hdn : H d = none := by
    have z := sd2.free hd0
    rw [del_ne (Ne.symm hpd)] at z
    exact z
  refine k _ ys d pm ⟨hRd.same sd4, lg.tab pm, dx, d, upd_same, ?_⟩ ⟨dx, _, upd_same⟩ hdn (But.of sd4)
  show upd _ _ _ _ = _
  rw [upd_ne (Ne.symm hpd)]; exact hd
/-- list(d.items()) of a dict of numbers -/
theorem items_prs {H : Hp} {S : Addr} {m : List (List Int × Int)} {as : List Addr} (h : H S = some (.lst (as.map V.ref))) (i : ItemsL H (dM V.int m) as) : Prs H S m := by
  refine ⟨as, h, ?_⟩
  obtain ⟨hl, hi⟩ := i
  have : ∀ (as : List Addr) (m : List (List Int × Int)), as.length = m.length → (∀ (i : Nat) (p : List Int × Int), m[i]? = some p → ∃ t, as[i]? = some t ∧ PrI H t p) → Paired (fun t p => PrI H t p) as m := by
    intro as
    induction as with
    | nil => intro m e _; cases m with
      | nil => exact .nil
      | cons a m => cases e
    | cons t as ih =>
      intro m e h
      cases m with
      | nil => cases e
      | cons p m =>
        obtain ⟨t', e1, e2⟩ := h 0 p rfl
        cases e1
        exact .cons e2 (ih m (by simpa using e) fun i q hq => h (i + 1) q hq)
  refine this as m (by rw [hl, List.length_map]) fun i p hp => ?_
  obtain ⟨t, q, h1, h2, h3⟩ := hi i (keyOf p.1, V.int p.2) (by rw [List.getElem?_map, hp]; rfl)
  exact ⟨t, h1, q, h2, by rw [keyOf_V] at h3; exact h3⟩
def spLentries (CR CL : Addr) : Sp := fun vs H Q _ => ∃ (a r : Addr) (n : Int) (rs ys : List (List Int)) (num : List Int → Int), vs = [.ref a] ∧ Lg CR CL H a r n rs ys num ∧ ∀ H' l, Same H H' → Prs H' l (tabN ys num) → Q (.ref l) H'
theorem w_Lentries (T : Tb mg) (R' : Cl K mg CL "Ledger" ["routine", "times"]) (F : Fun K "entries" "Ledger.entries" (sLg 1) f fd) : FnOk P w K mg base CX0 1 f fd ["self"] (spLentries CR CL) := by
  have sc : FnScope ["self"] ["self"] (fnScope (sLg 1)) := fnScope_by (by decide +kernel)
  refine fn0 F sc (fun vs H Q E h => by obtain ⟨_, _, _, _, _, _, rfl, _⟩ := h; rfl) fun cdv A outer s H vs Q E hr h => ?_
  obtain ⟨a, r, n, rs, ys, num, rfl, hL, k⟩ := h
  obtain ⟨dx, d, h1, h2⟩ := hL.ex
  refine ⟨_, (pss_one (ps_ret (pe_listItemsT rfl (pe_fld (pv 0) rfl) (by rfl) T.list PyProof.Rows.boot_list))), ?_⟩
  refine ⟨_, rfl, a, CL, dx, _, _, rfl, h1, R'.cl, R'.na _ (by decide +kernel), lk2 (by decide +kernel), d, dM V.int (tabN ys num), rfl, h2, fun H' S as s1 hS e i => ?_⟩
  exact k H' S s1 (items_prs e i)
def spLget (CR CL : Addr) : Sp := fun vs H Q _ => ∃ (a t r : Addr) (n : Int) (rs ys : List (List Int)) (num : List Int → Int) (y : List Int), vs = [.ref a, .ref t] ∧ Lg CR CL H a r n rs ys num ∧ TupI H t y ∧ y ∈ ys ∧ ∀ H', Same H H' → Q (.int (num y)) H'
theorem w_Lget (R : Cl K mg CR "Routine" ["blocks", "rows", "there"]) (R' : Cl K mg CL "Ledger" ["routine", "times"]) (c_is_run : Met P w K mg base 5 CR "is_run" (spIsRun CR) []) (F : Fun K "__getitem__" "Ledger.__getitem__" (sLg 3) f fd) (hf : fnIn K f = true) (d : Dun K CL "__getitem__" f) (b : Binds K fd ["self", "at"] []) : Dn P w K mg base 6 CL "__getitem__" (spLget CR CL) := by
  have sc : FnScope ["self", "at"] ["self", "at"] (fnScope (sLg 3)) := fnScope_by (by decide +kernel)
  refine ⟨f, fd, _, d, hf, fn0 F sc (fun vs H Q E h => by obtain ⟨_, _, _, _, _, _, _, _, rfl, _⟩ := h; rfl) fun cdv A outer s H vs Q E hr h => ?_, b⟩
  obtain ⟨a, t, r, n, rs, ys, num, y, rfl, hL, ht, hy, k⟩ := h
  obtain ⟨dx, d, h1, h2⟩ := hL.ex
  obtain ⟨rx, rl, rd, q1, q2, q3⟩ := hL.rt.ex
  have hu := hu_of hr
  obtain ⟨g1, g2, g3, _⟩ := hL.gd.ok (y, num y) (List.mem_map.mpr ⟨y, hy, rfl⟩)
  refine ⟨_, (pss_cons (ps_if (pt_not (pt_val (pe_mt (pl := _) c_is_run hr (by decide) (pe_fld (pv 0) rfl) (pa_cons (pv 1) pa_nil)))) (pss_one ps_never) pss_nil)
  (pss_one (ps_ret (pe_dget2 hu (pe_fld (pv 0) rfl) (pv 1) pe_int ⟨rfl, rfl, rfl, rfl⟩)))), ?_⟩
  refine ⟨_, rfl, a, CL, dx, _, _, rfl, h1, R'.cl, R'.na _ (by decide +kernel), lk_here, r, rx, _, rfl, q1, (lk_past (by decide +kernel)).trans ((lk_past (by decide +kernel)).trans (lk_past (by decide +kernel))), _, rfl, r, .ref t, n, rs, _, rfl, hL.rt, .tup ht (atomI _), fun xs e => by cases e; rw [List.length_map]; exact g2, fun H' s1 => ⟨_, rfl, ?_⟩⟩
  have g1' : runV n rs (some (y.map V.int)) = true := g1
  rw [g1']
  refine iff rfl ?_
  have g := DGet.t (H := H') (a := d) (b := t) (k := keyOf y) (s1 _ _ h2) (by rw [keyOf_V]; exact s1 _ _ ht)
  have e : valV ((tabN ys num).map fun p => (keyOf p.1, V.int p.2)) (keyOf y) = some (.int (num y)) := (look_V V.int (tabN ys num) y).trans (by rw [look_mark, if_pos hy]; rfl)
  rw [e] at g
  exact ⟨_, rfl, a, CL, dx, _, _, rfl, s1 _ _ h1, R'.cl, R'.na _ (by decide +kernel), lk2 (by decide +kernel), d, rfl, .inr ⟨_, .inl (s1 _ _ h2)⟩, _, rfl, _, g, k H' s1⟩
def spLlen (CR CL : Addr) : Sp := fun vs H Q _ => ∃ (a r : Addr) (n : Int) (rs ys : List (List Int)) (num : List Int → Int), vs = [.ref a] ∧ Lg CR CL H a r n rs ys num ∧ Q (.int ys.length) H
theorem w_Llen (T : Tb mg) (R' : Cl K mg CL "Ledger" ["routine", "times"]) (F : Fun K "__len__" "Ledger.__len__" (sLg 4) f fd) (hf : fnIn K f = true) (d : Dun K CL "__len__" f) (b : Binds K fd ["self"] []) : Dn P w K mg base 1 CL "__len__" (spLlen CR CL) := by
  have sc : FnScope ["self"] ["self"] (fnScope (sLg 4)) := fnScope_by (by decide +kernel)
  refine ⟨f, fd, _, d, hf, fn0 F sc (fun vs H Q E h => by obtain ⟨_, _, _, _, _, _, rfl, _⟩ := h; rfl) fun cdv A outer s H vs Q E hr h => ?_, b⟩
  obtain ⟨a, r, n, rs, ys, num, rfl, hL, k⟩ := h
  obtain ⟨dx, d, h1, h2⟩ := hL.ex
  refine ⟨_, (pss_one (ps_ret (pe_callB call_len_dT (by rfl) T.len PySem.boot_len (pa_cons (pe_fld (pv 0) rfl) pa_nil)))), ?_⟩
  refine ⟨_, rfl, a, CL, dx, _, _, rfl, h1, R'.cl, R'.na _ (by decide +kernel), lk2 (by decide +kernel), d, _, rfl, h2, ?_⟩
  rw [List.length_map, List.length_map]
  exact k
abbrev LgEq (CR CL : Addr) : Addr → Addr → Hp → Prop := fun a b H => ∃ r r' n rs ys zs num num', Lg CR CL H a r n rs ys num ∧ Lg CR CL H b r' n rs zs num' ∧ ys.Perm zs ∧ ∀ y ∈ ys, num y = num' y
theorem w_Leq (T : Tb mg) (R' : Cl K mg CL "Ledger" ["routine", "times"]) (c_req : Dn P w K mg base 1 CR "__eq__" (spEq (RtEq CR))) (F : Fun K "__eq__" "Ledger.__eq__" (sLg 5) f fd) (hf : fnIn K f = true) (d : Dun K CL "__eq__" f) (b : Binds K fd ["self", "other"] []) : Dn P w K mg base 2 CL "__eq__" (spEq (LgEq CR CL)) := by
  have sc : FnScope ["self", "other"] ["self", "other"] (fnScope (sLg 5)) := fnScope_by (by decide +kernel)
  refine ⟨f, fd, _, d, hf, fn0 F sc (fun vs H Q E h => by obtain ⟨_, _, rfl, _⟩ := h; rfl) fun cdv A outer s H vs Q E hr h => ?_, b⟩
  obtain ⟨x, y, rfl, ⟨r, r', n, rs, ys, zs, num, num', hx, hy, pm, hn⟩, k⟩ := h
  obtain ⟨dx, d, h1, h2⟩ := hx.ex
  obtain ⟨ex, e, g1, g2⟩ := hy.ex
  obtain ⟨rx, rl, rd, q1, q2, q3⟩ := hx.rt.ex
  obtain ⟨ry, rl', rd', q1', q2', q3'⟩ := hy.rt.ex
  refine ⟨_, (pss_one (ps_ret (pe_and (pe_callB (C8.call_isC R'.isc) (by rfl) T.isinstance PyProof.Rows.boot_isinstance (pa_cons (pv 1) (pa_cons (pe_gc (v := .ref CL) rfl ⟨_, R'.gl, rfl⟩) pa_nil))) (pe_and (pe_cmpR (o_eq c_req hr (by decide)) (pe_fld (pv 0) rfl) (pe_fld (pv 1) rfl) (nomark _)) (pe_one (pe_cmpR (op_eq_dictT (hu_of hr)) (pe_fld (pv 0) rfl) (pe_fld (pv 1) rfl) (nomark _))))))), ?_⟩
  refine ⟨_, rfl, y, ex, _, rfl, g1, _, rfl, ?_⟩
  refine ⟨_, rfl, x, CL, dx, _, _, rfl, h1, R'.cl, R'.na _ (by decide +kernel), lk_here, _, rfl, y, CL, ex, _, _, rfl, g1, R'.cl, R'.na _ (by decide +kernel), lk_here, ⟨r, r', rx, ry, _, _, rfl, rfl, q1, q1', n, rs, hx.rt, hy.rt⟩, fun H' s1 => ⟨_, rfl, ift rfl ?_⟩⟩
  refine ⟨_, rfl, x, CL, dx, _, _, rfl, s1 _ _ h1, R'.cl, R'.na _ (by decide +kernel), lk2 (by decide +kernel), _, rfl, y, CL, ex, _, _, rfl, s1 _ _ g1, R'.cl, R'.na _ (by decide +kernel), lk2 (by decide +kernel), ?_⟩
  refine ⟨d, e, _, _, rfl, rfl, s1 _ _ h2, s1 _ _ g2, by rw [List.length_map, List.length_map, List.length_map, List.length_map]; exact pm.length_eq, fun p hp => ?_, k H' s1⟩
  obtain ⟨q, hq, rfl⟩ := List.mem_map.mp hp
  obtain ⟨z, hz, rfl⟩ := List.mem_map.mp hq
  refine ⟨List.mem_map.mpr ⟨(z, num' z), List.mem_map.mpr ⟨z, pm.mem_iff.mp hz, rfl⟩, by show (keyOf z, V.int (num' z)) = (keyOf z, V.int (num z)); rw [hn z hz]⟩, rfl⟩
end
end K46
end
section
set_option maxHeartbeats 4000000
/-! V3: what runs count. -/
namespace K46
open PySem Ja
open L2 hiding CX0 E0 pass0 Fun
def stepsI : List Int → List (List Int)
  | x :: y :: r => [x, y] :: stepsI (y :: r)
  | _ => []
def cntS : List (List Int) → List Int → Int
  | [], _ => 0
  | s :: ss, j => (if j = s then 1 else 0) + cntS ss j
def cntF : List (List Int × Int) → List Int → Int
  | [], _ => 0
  | p :: ps, j => cntS (stepsI p.1) j * p.2 + cntF ps j
theorem cntS_snoc : ∀ (ss : List (List Int)) (s j : List Int), cntS (ss ++ [s]) j = cntS ss j + (if j = s then 1 else 0)
  | [], s, j => by simp [cntS]
  | a :: ss, s, j => by rw [List.cons_append, cntS, cntS_snoc ss s j, cntS]; omega
theorem cntF_snoc : ∀ (ps : List (List Int × Int)) (p : List Int × Int) (j : List Int), cntF (ps ++ [p]) j = cntF ps j + cntS (stepsI p.1) j * p.2
  | [], p, j => by simp [cntF]
  | a :: ps, p, j => by rw [List.cons_append, cntF, cntF_snoc ps p j, cntF]; omega
theorem cntS_nn : ∀ (ss : List (List Int)) (j : List Int), 0 ≤ cntS ss j
  | [], _ => Int.le_refl 0
  | s :: ss, j => by
    have := cntS_nn ss j
    rw [cntS]
    split <;> omega
theorem cntF_nn : ∀ (ps : List (List Int × Int)) (j : List Int), (∀ p ∈ ps, 0 ≤ p.2) → 0 ≤ cntF ps j
  | [], _, _ => Int.le_refl 0
  | p :: ps, j, h => by
    have h1 := cntF_nn ps j fun q hq => h q (List.mem_cons_of_mem _ hq)
    have h2 := Int.mul_nonneg (cntS_nn (stepsI p.1) j) (h p List.mem_cons_self)
    rw [cntF]
    omega
theorem bal_add (rs : List (List Int)) (f g : List Int → Int) (b : Int) : bal (tabN rs fun j => f j + g j) b = bal (tabN rs f) b + bal (tabN rs g) b := by
  induction rs with
  | nil => rfl
  | cons j rs ih =>
    show ((if j1 j = b then f j + g j else 0) - (if j0 j = b then f j + g j else 0)) + bal (tabN rs fun j => f j + g j) b = (((if j1 j = b then f j else 0) - (if j0 j = b then f j else 0)) + bal (tabN rs f) b) + (((if j1 j = b then g j else 0) - (if j0 j = b then g j else 0)) + bal (tabN rs g) b)
    rw [ih]
    by_cases c1 : j1 j = b <;> by_cases c2 : j0 j = b <;> simp [c1, c2] <;> omega
theorem bal_zero (rs : List (List Int)) (b : Int) : bal (tabN rs fun _ => 0) b = 0 := by
  induction rs with
  | nil => rfl
  | cons j rs ih =>
    show ((if j1 j = b then (0 : Int) else 0) - (if j0 j = b then (0 : Int) else 0)) + bal (tabN rs fun _ => 0) b = 0
    rw [ih]
    simp
theorem bal_out {rs : List (List Int)} {s : List Int} (b : Int) (h : s ∉ rs) : bal (tabN rs fun j => if j = s then 1 else 0) b = 0 := by
  have e : tabN rs (fun j => if j = s then (1 : Int) else 0) = tabN rs fun _ => 0 := tab_congr fun j hj => if_neg (fun z : j = s => h (by rw [← z]; exact hj))
  rw [e, bal_zero]
theorem bal_ind {rs : List (List Int)} {s : List Int} (b : Int) (nd : rs.Nodup) (h : s ∈ rs) : bal (tabN rs fun j => if j = s then 1 else 0) b = (if j1 s = b then 1 else 0) - (if j0 s = b then 1 else 0) := by
  induction rs with
  | nil => cases h
  | cons j rs ih =>
    obtain ⟨n1, n2⟩ := List.nodup_cons.mp nd
    show ((if j1 j = b then (if j = s then (1 : Int) else 0) else 0) - (if j0 j = b then (if j = s then (1 : Int) else 0) else 0)) + bal (tabN rs fun j => if j = s then 1 else 0) b = _
    by_cases e : j = s
    · subst e
      rw [bal_out b n1]
      simp
    · have h2 : s ∈ rs := by
        rcases List.mem_cons.mp h with z | z
        · exact absurd z.symm e
        · exact z
      rw [ih n2 h2]
      simp [e]
theorem bal_cntS {rs : List (List Int)} (b : Int) (nd : rs.Nodup) : ∀ (ss : List (List Int)), (∀ s ∈ ss, s ∈ rs) → bal (tabN rs (cntS ss)) b = (ss.map fun s => ((if j1 s = b then 1 else 0) - (if j0 s = b then 1 else 0) : Int)).sum
  | [], _ => bal_zero rs b
  | s :: ss, h => by
    have e : tabN rs (cntS (s :: ss)) = tabN rs fun j => (if j = s then 1 else 0) + cntS ss j := rfl
    rw [e, bal_add, bal_ind b nd (h s List.mem_cons_self), bal_cntS b nd ss fun t ht => h t (List.mem_cons_of_mem _ ht), List.map_cons, List.sum_cons]
theorem tele (b : Int) : ∀ (x : Int) (r : List Int), ((stepsI (x :: r)).map fun s => ((if j1 s = b then 1 else 0) - (if j0 s = b then 1 else 0) : Int)).sum = (if lst (x :: r) = b then 1 else 0) - (if x = b then 1 else 0)
  | x, [] => by
    show (0 : Int) = (if x = b then 1 else 0) - (if x = b then 1 else 0)
    omega
  | x, y :: r => by
    show ((if y = b then 1 else 0) - (if x = b then 1 else 0) : Int) + ((stepsI (y :: r)).map fun s => ((if j1 s = b then 1 else 0) - (if j0 s = b then 1 else 0) : Int)).sum = _
    rw [tele b y r]
    have : lst (x :: y :: r) = lst (y :: r) := rfl
    rw [this]
    omega
/-- what is_run says of a list of ints -/
theorem runB_iff {n : Int} {rs : List (List Int)} {r : List Int} : RunB n rs r ↔ 2 ≤ r.length ∧ (∀ s ∈ stepsI r, s ∈ rs) ∧ r.head? = some 0 ∧ lst r = n - 1 := by
  have st : ∀ r : List Int, ((stepsV (r.map V.int)).all fun p => memV rs p.1 p.2) = true ↔ ∀ s ∈ stepsI r, s ∈ rs := by
    intro r
    induction r with
    | nil => simp [stepsV, stepsI]
    | cons x r ih =>
      cases r with
      | nil => simp [stepsV, stepsI]
      | cons y r =>
        show (memV rs (.int x) (.int y) && ((stepsV ((y :: r).map V.int)).all fun p => memV rs p.1 p.2)) = true ↔ _
        rw [Bool.and_eq_true, ih]
        show decide ([x, y] ∈ rs) = true ∧ _ ↔ ∀ s ∈ [x, y] :: stepsI (y :: r), s ∈ rs
        simp
  show runV n rs (some (r.map V.int)) = true ↔ _
  rw [runV_some, Bool.and_eq_true, Bool.and_eq_true, Bool.and_eq_true, st r, decide_eq_true_eq, decide_eq_true_eq, decide_eq_true_eq, List.length_map]
  cases r with
  | nil => simp
  | cons x r =>
    have e1 : ((x :: r).map V.int).head? = some (.int 0) ↔ (x :: r).head? = some 0 := by simp
    have e2 : ((x :: r).map V.int).getLast? = some (.int (n - 1)) ↔ lst (x :: r) = n - 1 := by
      rw [List.getLast?_map, List.getLast?_eq_some_getLast (List.cons_ne_nil _ _)]
      unfold lst
      rw [List.getLastD_eq_getLast?, List.getLast?_eq_some_getLast (List.cons_ne_nil _ _)]
      simp
    rw [e1, e2]
    simp only [and_assoc]
theorem bal_run {n : Int} {rs : List (List Int)} {r : List Int} (b : Int) (nd : rs.Nodup) (h : RunB n rs r) (b1 : 1 ≤ b) (b2 : b ≤ n - 2) : bal (tabN rs (cntS (stepsI r))) b = 0 := by
  obtain ⟨h1, h2, h3, h4⟩ := runB_iff.mp h
  rw [bal_cntS b nd _ h2]
  cases r with
  | nil => simp at h1
  | cons x r =>
    rw [tele]
    have e : x = 0 := by simpa using h3
    rw [if_neg (by omega), if_neg (by omega)]
    rfl
theorem bal_cntF {n : Int} {rs : List (List Int)} (nd : rs.Nodup) : ∀ (ps : List (List Int × Int)), (∀ p ∈ ps, RunB n rs p.1) → Even n (tabN rs (cntF ps))
  | [], _ => fun b _ _ => bal_zero rs b
  | p :: ps, h => fun b b1 b2 => by
    have e : tabN rs (cntF (p :: ps)) = tabN rs fun j => (cntS (stepsI p.1) j * p.2) + cntF ps j := rfl
    rw [e, bal_add, bal_mul, bal_run b nd (h p List.mem_cons_self) b1 b2, bal_cntF nd ps (fun q hq => h q (List.mem_cons_of_mem _ hq)) b b1 b2]
    omega
theorem numF_put {m : List (List Int × Int)} {r : List Int} {v : Int} {j : List Int} : numF (putM m r v) j = if j = r then v else numF m j := by
  unfold numF
  rw [look_put]
  by_cases c : j = r
  · rw [if_pos c, if_pos c]; rfl
  · rw [if_neg c, if_neg c]
theorem putM_nodup {β : Type} {m : List (List Int × β)} {r : List Int} {v : β} (h : (m.map (·.1)).Nodup) : ((putM m r v).map (·.1)).Nodup := by
  rw [putM_keys]
  by_cases c : r ∈ m.map (·.1)
  · rw [if_pos c]; exact h
  · rw [if_neg c]; exact nd_snoc h c
theorem putM_mem {β : Type} {m : List (List Int × β)} {r : List Int} {v : β} {p : List Int × β} (h : p ∈ putM m r v) : p ∈ m ∨ p = (r, v) := by
  unfold putM at h
  split at h
  · obtain ⟨q, hq, e⟩ := List.mem_map.mp h
    by_cases c : q.1 = r
    · rw [if_pos c] at e; right; rw [← e, c]
    · rw [if_neg c] at e; left; rw [← e]; exact hq
  · rcases List.mem_append.mp h with h | h
    · exact .inl h
    · right; simpa using h
theorem stepsI_of {H : Hp} : ∀ {r : List Int} {ts : List Addr}, Paired (fun t p => H t = some (.tup [p.1, p.2])) ts (stepsV (r.map V.int)) → Paired (fun t s => TupI H t s) ts (stepsI r)
  | [], _, h => by cases h; exact .nil
  | [_], _, h => by cases h; exact .nil
  | x :: y :: r, _, h => by
    cases h with
    | cons h t => exact .cons h (stepsI_of (r := y :: r) t)
end K46
end
section
set_option maxHeartbeats 4000000
/-! W9: Ledger.__rmul__, Ledger.counts. -/
namespace K46
open PySem Ja
open L2 hiding CX0 E0 pass0 Fun
open PySem.W (Frag findIn isFn fnIn)
open C8 (Cal Met Mak Def Fun CX0 E0 pass0 fnScope fnBody fnArgs fnScope_by cal0 met0 mak0 pe_c pe_mk pe_mt pe_mt0 pe_gc fn0)
def spLmul (CR CL : Addr) : Sp := fun vs H Q _ => ∃ (a r : Addr) (c n : Int) (rs ys : List (List Int)) (num : List Int → Int), vs = [.ref a, .int c] ∧ Lg CR CL H a r n rs ys num ∧ 1 ≤ c ∧ c < 1000 ∧ ∀ H' b zs d, Same H H' → zs.Perm ys → Lg CR CL H' b r n rs zs (fun y => num y * c) → TD CL H' b d → H d = none → Q (.ref b) H'
def spLcounts (CR CC CL : Addr) : Sp := fun vs H Q _ => ∃ (a r : Addr) (n : Int) (rs ys : List (List Int)) (num : List Int → Int), vs = [.ref a] ∧ Lg CR CL H a r n rs ys num ∧ ∀ H' b, Same H H' → Ct CR CC H' b r n rs (cntF (tabN ys num)) → Q (.ref b) H'
section
variable {P : Program} {w : World} {K : Frag} {mg : Str → Option Value} {base : Heap} {f CR CC CL : Addr} {fd : FuncData}
theorem Lg.congr {H : Hp} {a r : Addr} {n : Int} {rs ys : List (List Int)} {f g : List Int → Int} (c : Lg CR CL H a r n rs ys f) (h : ∀ j ∈ ys, f j = g j) : Lg CR CL H a r n rs ys g := by
  obtain ⟨dx, d, h1, h2⟩ := c.ex
  have e := tab_congr h
  exact ⟨c.rt, by rw [← e]; exact c.gd, dx, d, h1, by show _ = _; rw [← e]; exact h2⟩
theorem w_Lmul (R' : Cl K mg CL "Ledger" ["routine", "times"]) (c_is_integer : Cal P w K mg base 1 "is_integer" spInteger []) (c_multiplied : Cal P w K mg base 1 "multiplied" spMulti []) (c_Ledger : MakK P w K mg base 7 "Ledger" CL (spLinit CR CL)) (F : Fun K "__rmul__" "Ledger.__rmul__" (sLg 8) f fd) : FnOk P w K mg base CX0 9 f fd ["self", "other"] (spLmul CR CL) := by
  have sc : FnScope ["self", "other"] ["self", "other"] (fnScope (sLg 8)) := fnScope_by (by decide +kernel)
  refine fn0 F sc (fun vs H Q E h => by obtain ⟨_, _, _, _, _, _, _, rfl, _⟩ := h; rfl) fun cdv A outer s H vs Q E hr h => ?_
  obtain ⟨a, r, c, n, rs, ys, num, rfl, hL, c0, c1, k⟩ := h
  obtain ⟨dx, d, h1, h2⟩ := hL.ex
  refine ⟨_, (pss_cons (ps_if (pt_not (pt_val (pe_c c_is_integer hr (by decide) rfl (pa_cons (pv 1) pa_nil)))) (pss_one ps_never) pss_nil)
  (pss_one (ps_ret (pe_mkK c_Ledger hr (by decide) rfl (pa_cons (pe_fld (pv 0) rfl) (pa_cons (pe_c c_multiplied hr (by decide) rfl (pa_cons (pe_fld (pv 0) rfl) (pa_cons (pv 1) pa_nil))) pa_nil)) (pk_cons pe_non pk_nil))))), ?_⟩
  refine ⟨_, rfl, .int c, rfl, .int c, _, rfl, iff rfl ?_⟩
  refine ⟨_, rfl, a, CL, dx, _, _, rfl, h1, R'.cl, R'.na _ (by decide +kernel), lk_here, _, rfl, a, CL, dx, _, _, rfl, h1, R'.cl, R'.na _ (by decide +kernel), lk2 (by decide +kernel), _, rfl, d, c, tabN ys num, rfl, h2, hL.gd.len, c0, c1, fun H2 l s2 hl => ?_⟩
  refine ⟨rfl, rfl, fun x dx' hx hdx hne => ?_⟩
  have e : (tabN ys num).map (fun p => (p.1, p.2 * c)) = tabN ys fun y => num y * c := by rw [List.map_map]; rfl
  rw [e] at hl
  have s3 : Same H2 (upd (upd H2 dx' (.own x)) x (.ins CL dx' [])) := same_upd (same_new hdx) hx
  have lg : Lgd n rs none (tabN ys fun y => num y * c) := by
    refine ⟨by rw [tab_keys]; have := hL.gd.nd; rw [tab_keys] at this; exact this, fun p hp => ?_, by rw [List.length_map]; have := hL.gd.len; rw [List.length_map] at this; exact this⟩
    obtain ⟨y, hy, rfl⟩ := List.mem_map.mp hp
    obtain ⟨g1, g2, g3, _⟩ := hL.gd.ok (y, num y) (List.mem_map.mpr ⟨y, hy, rfl⟩)
    refine ⟨g1, g2, ?_, fun M z => by cases z⟩
    have : 1 * 1 ≤ num y * c := Int.mul_le_mul g3 c0 (by omega) (by have : (1 : Int) ≤ num y := g3; omega)
    exact this
  refine ⟨x, r, l, dx', none, n, rs, tabN ys (fun y => num y * c), rfl, upd_same, hL.rt.same (s2.trans s3), hl.same s3, lg, fun H4 zs d' pm hL4 td hdn hb => ⟨rfl, ?_⟩⟩
  rw [tab_keys] at pm
  have s4 : Same H H4 := fun b o e => hb b o ((s2.trans s3) _ _ e) (ne_of_none (s2 _ _ e) hx)
  exact k H4 x zs d' s4 pm (hL4.congr fun j hj => numF_tab (pm.mem_iff.mp hj)) td ((s2.trans s3).free hdn)
theorem w_Lcounts (R' : Cl K mg CL "Ledger" ["routine", "times"]) (T : Tb mg) (c_jumps_of : Cal P w K mg base 1 "jumps_of" spJumpsOf []) (c_Counts : MakK P w K mg base 6 "Counts" CC (spCinit CR CC)) (me : Meth K CL "counts" f) (F : Fun K "counts" "Ledger.counts" (sLg 9) f fd) (b : Binds K fd ["self"] []) : Met P w K mg base 8 CL "counts" (spLcounts CR CC CL) [] := by
  have sc : FnScope ["self", "found", "run", "times", "jump"] ["self"] (fnScope (sLg 9)) := fnScope_by (by decide +kernel)
  refine met0 R'.cl me F b sc (fun vs H Q E h => by obtain ⟨_, _, _, _, _, _, rfl, _⟩ := h; rfl) fun cdv A outer s H vs Q E hr h => ?_
  obtain ⟨a, r, n, rs, ys, num, rfl, hL, k⟩ := h
  obtain ⟨dx, d, h1, h2⟩ := hL.ex
  have hu := hu_of hr
  have l120 := hL.rt.l120
  refine ⟨_, (pss_cons (ps_set (i := 1) sc.nd rfl (Or.inl rfl) (pe_dnewT))
  (pss_cons (ps_lock (ps_for PassesOwn.never rfl (pi_itemsT (pe_fld (pv 0) rfl)) (pg_tup rfl (pgs_cons (pg_name (i := 2) sc.nd rfl (Or.inl rfl)) (pgs_cons (pg_name (i := 3) sc.nd rfl (Or.inl rfl)) pgs_nil))) (pss_one (ps_for PassesOwn.never rfl (pi_list (pe_c c_jumps_of hr (by decide) rfl (pa_cons (pv 2) pa_nil))) (pg_name (i := 4) sc.nd rfl (Or.inl rfl)) (pss_one (ps_dput hu (pv 1) (pv 4) (pe_op op_add (pe_dget2 hu (pv 1) (pv 4) pe_int ⟨rfl, rfl, rfl, rfl⟩) (pv 3)) rfl))))))
  (pss_one (ps_ret (pe_mkK c_Counts hr (by decide) rfl (pa_cons (pe_fld (pv 0) rfl) (pa_cons (pe_listItemsT rfl (pv 1) (by rfl) T.list PyProof.Rows.boot_list) pa_nil)) (pk_cons pe_non pk_nil)))))), ?_⟩
  intro e he
  have hde : d ≠ e := ne_of_none h2 he
  have s0 : Same H (upd H e (.dT [])) := same_new he
  refine ⟨d, _, s0 _ _ h2, trivial, fun od => ?_⟩
  have le0 : (upd H d (.frz od (.dT ((tabN ys num).map fun p => (keyOf p.1, V.int p.2))))) e = none := by rw [upd_ne (Ne.symm hde)]; exact he
  have hle : (upd (upd H e (.dT [])) d (.frz od (.dT ((tabN ys num).map fun p => (keyOf p.1, V.int p.2))))) e = some (.dT []) := by rw [upd_ne (Ne.symm hde)]; exact upd_same
  have sl : Same (upd H d (.frz od (.dT ((tabN ys num).map fun p => (keyOf p.1, V.int p.2))))) (upd (upd H e (.dT [])) d (.frz od (.dT ((tabN ys num).map fun p => (keyOf p.1, V.int p.2))))) := fun b o eb => by
    by_cases q : b = d
    · subst q; rw [upd_same] at eb ⊢; exact eb
    · rw [upd_ne q] at eb ⊢
      exact s0 _ _ eb
  have h1' := lock_ne (od := od) h2 h1 (fun z => by cases z)
  have fz0 : (upd H d (.frz od (.dT ((tabN ys num).map fun p => (keyOf p.1, V.int p.2))))) d = some (.frz od (.dT (dM V.int (tabN ys num)))) := upd_same
  have ul : ∀ H', Same (upd H d (.frz od (.dT ((tabN ys num).map fun p => (keyOf p.1, V.int p.2))))) H' → H' d = some (.frz od (.dT ((tabN ys num).map fun p => (keyOf p.1, V.int p.2)))) ∧ Same H (upd H' d (.dT ((tabN ys num).map fun p => (keyOf p.1, V.int p.2)))) := fun H' s => unlock h2 s
  generalize upd (upd H e (.dT [])) d (.frz od (.dT ((tabN ys num).map fun p => (keyOf p.1, V.int p.2)))) = HL at hle sl
  generalize upd H d (.frz od (.dT ((tabN ys num).map fun p => (keyOf p.1, V.int p.2)))) = HB at le0 sl h1' fz0 ul
  -- what found holds when its numbers are g
  refine ⟨_, rfl, a, CL, dx, _, _, rfl, sl _ _ h1', R'.cl, R'.na _ (by decide +kernel), lk2 (by decide +kernel), d, od, dM V.int (tabN ys num), rfl, sl _ _ fz0, for_it walk_itI (fun i σ H' => (∃ v2 v3 v4, σ = [some (.ref a), some (.ref e), v2, v3, v4]) ∧ Same HB H' ∧ ∃ m : List (List Int × Int), DI H' e m ∧ (m.map (·.1)).Nodup ∧ (∀ p ∈ m, p.1 ∈ rs ∧ 0 ≤ p.2) ∧ ∀ j, numF m j = cntF ((tabN ys num).take i) j)
    ⟨⟨none, none, none, rfl⟩, sl, [], hle, .nil, (fun p hp => by cases hp), fun j => rfl⟩ (fun i σ H' _ h => h.2.1 _ _ fz0) ?_ ?_⟩
  · rintro i x σ H1 H2 hi ⟨⟨v2, v3, v4, rfl⟩, s1, m, hm, nd, hok, hv⟩ ⟨t, q, p, hp, rfl, ht, hq, rfl⟩
    obtain ⟨y, hy, rfl⟩ := List.mem_map.mp (List.mem_of_getElem? hp)
    obtain ⟨g1, g2, g3, _⟩ := hL.gd.ok (y, num y) (List.mem_map.mpr ⟨y, hy, rfl⟩)
    obtain ⟨r1, r2, r3, r4⟩ := runB_iff.mp g1
    have s2 : Same H1 (upd H1 t (.tup [.ref q, .int (num y)])) := same_new ht
    refine ⟨t, _, rfl, SqT.of upd_same, rfl, _, _, rfl, _, _, rfl, rfl, ?_⟩
    have hq2 := s2 _ _ hq
    have hm2 := s2 _ _ hm
    have s3 := s1.trans s2
    generalize upd H1 t (.tup [.ref q, .int (num y)]) = H2 at s3 hq2 hm2
    refine ⟨_, rfl, q, _, rfl, hq2, by rw [List.length_map]; exact r1, fun H3 l ts s4 hl0 hl hpl => ?_⟩
    have pl := stepsI_of hpl
    have ltl : (stepsI y).length = (ts.map V.ref).length := by rw [List.length_map, Paired.length pl]
    refine ⟨l, rfl, ⟨_, SqL.of hl⟩, for_it walk_list (fun i' σ H' => (∃ v4, σ = [some (.ref a), some (.ref e), some (.ref q), some (.int (num y)), v4]) ∧ Same HB H' ∧ H' l = some (.lst (ts.map V.ref)) ∧ Paired (fun t s => TupI H' t s) ts (stepsI y) ∧ ∃ m : List (List Int × Int), DI H' e m ∧ (m.map (·.1)).Nodup ∧ (∀ p ∈ m, p.1 ∈ rs ∧ 0 ≤ p.2) ∧ ∀ j, numF m j = cntF ((tabN ys num).take i) j + cntS ((stepsI y).take i') j * num y)
      ⟨⟨_, rfl⟩, s3.trans s4, hl, pl, m, s4 _ _ hm2, nd, hok, fun j => by rw [hv j]; simp [cntS]⟩ (fun i' σ H' _ h => SqL.of h.2.2.1) ?_ ?_⟩
    · rintro i' x σ _ H4 hi' ⟨⟨v4, rfl⟩, s5, hl5, pl5, m, hm, nd, hok, hv⟩ ⟨rfl, hx⟩
      have hi2 : i' < (stepsI y).length := by rw [ltl]; exact hi'
      have ei : (stepsI y)[i']? = some (stepsI y)[i'] := List.getElem?_eq_getElem hi2
      obtain ⟨u, rfl, hu2⟩ := at_item pl5 ei hx
      have hin : (stepsI y)[i'] ∈ rs := r2 _ (List.mem_of_getElem? ei)
      have g := DGet.t (H := H4) (a := e) (b := u) (k := keyOf (stepsI y)[i']) hm (by rw [keyOf_V]; exact hu2)
      rw [look_V] at g
      have eg : ((look m (stepsI y)[i']).map V.int).getD (.int 0) = .int (numF m (stepsI y)[i']) := by unfold numF; cases look m (stepsI y)[i'] <;> rfl
      have ml : m.length ≤ rs.length := by
        have := nodup_len nd (rs := rs) fun j hj => by obtain ⟨p, hp, rfl⟩ := List.mem_map.mp hj; exact (hok p hp).1
        rw [List.length_map] at this
        exact this
      have hle2 : l ≠ e := fun z => by rw [z] at hl5; cases hl5.symm.trans hm
      have nn : 0 ≤ numF m (stepsI y)[i'] := by
        cases q : look m (stepsI y)[i'] with
        | none => unfold numF; rw [q]; exact Int.le_refl 0
        | some x => rw [look_numF q]; exact (hok _ (look_mem q)).2
      have g3' : (1 : Int) ≤ num y := g3
      refine ⟨_, rfl, e, rfl, .inr ⟨_, .inl hm⟩, _, rfl, _, g, _, rfl, numF m (stepsI y)[i'], num y, eg, rfl, _, rfl, _, rfl, e, _, rfl, DPut.t (k := keyOf (stepsI y)[i']) hm (by rw [keyOf_V]; exact hu2) (by rw [List.length_map, sizeLine_eq]; omega), ⟨_, rfl⟩, same_upd s5 le0, by rw [upd_ne hle2]; exact hl5, Paired.mapP pl5 fun t s y => ?_, putM m (stepsI y)[i'] (numF m (stepsI y)[i'] + num y), ?_, putM_nodup nd, fun p hp => ?_, fun j => ?_⟩
      · show upd _ _ _ _ = _
        rw [upd_ne (fun z => by rw [z] at y; cases y.symm.trans hm)]; exact y
      · show upd _ _ _ _ = _
        rw [upd_same]
        exact congrArg (fun z => some (HO.dT z)) (put_V V.int m (stepsI y)[i'] (numF m (stepsI y)[i'] + num y))
      · rcases putM_mem hp with h | h
        · exact hok p h
        · rw [h]; exact ⟨hin, by show 0 ≤ numF m (stepsI y)[i'] + num y; omega⟩
      · rw [numF_put, hv j, hv (stepsI y)[i'], tk_more ei, cntS_snoc, Int.add_mul]
        by_cases c : j = (stepsI y)[i']
        · rw [if_pos c, if_pos c, ← c]; omega
        · rw [if_neg c, if_neg c]; omega
    · rintro σ H4 ⟨⟨v4, rfl⟩, s5, hl5, pl5, m, hm, nd, hok, hv⟩
      refine ⟨⟨_, _, _, rfl⟩, s5, m, hm, nd, hok, fun j => ?_⟩
      rw [hv j, tk_more hp, cntF_snoc, ← ltl, List.take_length]
  · rintro σ H2 ⟨⟨v2, v3, v4, rfl⟩, s1, m, hm, nd, hok, hv⟩
    rw [List.take_length] at hv
    obtain ⟨fz, s2⟩ := ul H2 s1
    refine ⟨fz, ?_⟩
    have hm2 : DI (upd H2 d (.dT ((tabN ys num).map fun p => (keyOf p.1, V.int p.2)))) e m := by show upd _ _ _ _ = _; rw [upd_ne (Ne.symm hde)]; exact hm
    generalize upd H2 d (.dT ((tabN ys num).map fun p => (keyOf p.1, V.int p.2))) = H3 at s2 hm2
    refine ⟨_, rfl, a, CL, dx, _, _, rfl, s2 _ _ h1, R'.cl, R'.na _ (by decide +kernel), lk_here, _, rfl, e, dM V.int m, rfl, hm2, fun H4 S as s4 hS eS i => ?_⟩
    have prs := items_prs eS i
    refine ⟨rfl, rfl, fun x dx' hx hdx hne => ?_⟩
    have s5 : Same H4 (upd (upd H4 dx' (.own x)) x (.ins CC dx' [])) := same_upd (same_new hdx) hx
    have ec : tabN rs (numF m) = tabN rs (cntF (tabN ys num)) := tab_congr fun j _ => hv j
    have ev : Even n (tabN rs (numF m)) := by
      rw [ec]
      refine bal_cntF hL.rt.jr.nd _ fun p hp => ?_
      exact (hL.gd.ok p hp).1
    have s6 := (s2.trans s4).trans s5
    refine ⟨x, r, S, dx', .non, n, rs, m, rfl, upd_same, hL.rt.same s6, prs.same s5, nd, fun q hq => ⟨(hok q hq).1, (hok q hq).2, .inl rfl⟩, ev, fun H7 hC hb => ⟨rfl, ?_⟩⟩
    have s7 : Same H H7 := fun b o e => hb b o (s6 _ _ e) (ne_of_none ((s2.trans s4) _ _ e) hx)
    exact k H7 x s7 (hC.congr fun j _ => hv j)
end
end K46
end
section
set_option maxHeartbeats 4000000
/-! W10: fine_of, named_right. -/
namespace K46
open PySem Ja
open L2 hiding CX0 E0 pass0 Fun
open PySem.W (Frag findIn isFn fnIn)
open C8 (Cal Met Mak Def Fun CX0 E0 pass0 fnScope fnBody fnArgs fnScope_by cal0 met0 mak0 pe_c pe_mk pe_mt pe_mt0 pe_gc fn0)
/-- a list of ints -/
abbrev IntL (H : Hp) (l : Addr) (xs : List Int) : Prop := H l = some (.lst (xs.map V.int))
def nm (names : List Int) (i : Int) : Int := names.getD i.toNat 0
/-- the names are right -/
structure Cov (n : Int) (bs : List (List Int)) (N : Int) (fs : List (List Int)) (names : List Int) : Prop where
  len : (names.length : Int) = N
  first : nm names 0 = 0
  last : lst names = n - 1
  mid : ∀ i : Nat, 0 < i → i + 1 < names.length → 1 ≤ nm names i ∧ nm names i ≤ n - 2
  outs : ∀ i : Nat, i < names.length → ((outsF fs i).map fun s => nm names (j1 s)).Perm ((outsF bs (nm names i)).map j1)
theorem nm_get {names : List Int} {i : Nat} (h : i < names.length) : names[i]? = some (nm names i) := by
  unfold nm
  rw [Int.toNat_natCast, List.getD_eq_getElem?_getD, List.getElem?_eq_getElem h]
  rfl
def spFine (CR : Addr) : Sp := fun vs H Q _ => ∃ (ln lj : Addr) (names : List Int) (js : List (List Int)), vs = [.ref ln, .ref lj] ∧ IntL H ln names ∧ Rows H lj js ∧ Jr names.length js ∧ 2 ≤ names.length ∧ names.length ≤ 40 ∧ js.length ≤ 120 ∧
  ∀ H' a fs, Same H H' → fs.Perm js → Rt CR H' a names.length fs → Q (.ref a) H'
section
variable {P : Program} {w : World} {K : Frag} {mg : Str → Option Value} {base : Heap} {f CR : Addr} {fd : FuncData}
theorem w_fine (T : Tb mg) (c_Routine : Mak P w K mg base 4 "Routine" CR (spRinit CR) []) (F : Def K mg "fine_of" sFineOf f fd) (b : Binds K fd ["names", "jumps"] []) : Cal P w K mg base 6 "fine_of" (spFine CR) [] := by
  have sc : FnScope ["names", "jumps"] ["names", "jumps"] (fnScope sFineOf) := fnScope_by (by decide +kernel)
  refine cal0 F b .nil sc (fun vs H Q E h => by obtain ⟨_, _, _, _, rfl, _⟩ := h; rfl) fun cdv A outer s H vs Q E hr h => ?_
  obtain ⟨ln, lj, names, js, rfl, hn, hj, jr, n2, n40, l120, k⟩ := h
  refine ⟨_, pss_one (ps_try_thru0 (pss_one (ps_ret (pe_mk c_Routine hr (by decide) rfl (pa_cons (pe_callB call_len (by rfl) T.len PySem.boot_len (pa_cons (pv 0) pa_nil)) (pa_cons (pv 1) pa_nil)))))), ?_⟩
  refine ⟨_, rfl, _, names.length, rfl, .inl ⟨_, SqL.of hn, by rw [List.length_map]⟩, _, rfl, fun x dx hx hdx hne => ?_⟩
  have s1 : Same H (upd (upd H dx (.own x)) x (.ins CR dx [])) := same_upd (same_new hdx) hx
  refine ⟨x, lj, dx, names.length, js, rfl, upd_same, hj.same s1, jr, by omega, by omega, l120, fun H' rs pm hR hb => ⟨rfl, ?_⟩⟩
  exact k H' x rs (fun b o e => hb b o (s1 _ _ e) (ne_of_none e hx)) pm hR
end
end K46
end
section
set_option maxHeartbeats 4000000
/-! V4: sorted rows; ints as data. -/
namespace K46
open PySem Ja
open L2 hiding CX0 E0 pass0 Fun
open PySem.W (Frag findIn isFn fnIn)
theorem rise_eq : ∀ {a b : List Int}, a.Perm b → a.Pairwise (· ≤ ·) → b.Pairwise (· ≤ ·) → a = b
  | [], b, p, _, _ => (List.nil_perm.mp p).symm
  | x :: a, b, p, h1, h2 => by
    cases b with
    | nil => exact absurd p (by simp)
    | cons y b =>
      have hx : x = y := by
        have m1 : x ∈ y :: b := p.mem_iff.mp List.mem_cons_self
        have m2 : y ∈ x :: a := p.mem_iff.mpr List.mem_cons_self
        have l1 : y ≤ x := by
          rcases List.mem_cons.mp m1 with z | z
          · omega
          · exact (List.pairwise_cons.mp h2).1 x z
        have l2 : x ≤ y := by
          rcases List.mem_cons.mp m2 with z | z
          · omega
          · exact (List.pairwise_cons.mp h1).1 y z
        omega
      subst hx
      rw [rise_eq (List.perm_cons x |>.mp p) (List.pairwise_cons.mp h1).2 (List.pairwise_cons.mp h2).2]
theorem lex2 (u v w : Int) : HT.lexLt [u, v] [u, w] = decide (v < w) := by
  rw [HT.lexLt_cons, if_pos rfl, HT.lexLt_cons, HT.lexLt_nil_nil]
  by_cases c : v = w
  · rw [if_pos c]; exact (decide_eq_false (by omega)).symm
  · rw [if_neg c]
theorem outs_rise {n : Int} {bs : List (List Int)} (j : Jr n bs) (s : Srt bs) (x : Int) : ((outsF bs x).map j1).Pairwise (· ≤ ·) := by
  unfold outsF
  rw [List.pairwise_map]
  refine List.Pairwise.imp_of_mem (fun {a b} ha hb h => ?_) (List.Pairwise.filter _ s)
  obtain ⟨h1, h2⟩ := List.mem_filter.mp ha
  obtain ⟨h3, h4⟩ := List.mem_filter.mp hb
  obtain ⟨u, v, rfl, _⟩ := j.sh a h1
  obtain ⟨u', v', rfl, _⟩ := j.sh b h3
  have e1 : u = x := of_decide_eq_true h2
  have e2 : u' = x := of_decide_eq_true h4
  subst e1 e2
  rw [lex2] at h
  show v ≤ v'
  have := of_decide_eq_false h
  omega
theorem IntL.dp {K : Frag} {H : Hp} {l : Addr} {xs : List Int} (h : IntL H l xs) : Dp K H (.ref l) (.list (xs.map PyData.int)) := .lst (SqL.of h) (dpI xs)
theorem shL (r : List Int) : SeqAt.shaped (.list (r.map PyData.int)) = true := by
  unfold SeqAt.shaped
  rw [Bool.and_eq_true]
  exact ⟨by simp [PyData.canLay0, layI], decide_eq_true (by simp [PyData.depth, depI])⟩
theorem neL {K : Frag} {H : Hp} {k l : Addr} {xs ys : List Int} {Q : VK} (hk : IntL H k xs) (hl : IntL H l ys) (q : Q (.bl (!decide (xs = ys))) H) : rNeD K (.ref k) (.ref l) H Q :=
  ⟨_, _, hk.dp, hl.dp, shL xs, shL ys, by show Q (.bl (!PyData.eqvAll _ _)) H; rw [eqvI]; exact q⟩
theorem inSeqk {X : Cx} {K : Frag} (h : X.K = K) : OpR X (compareOp .In) (rIn K false) := by subst h; exact op_in_seq
theorem pe_fldK {X : Cx} {K : Frag} {e : Expr} {f : Str} {te : TE} {pos : Pos} (h : X.K = K) (he : PE X e te) (hab : attributeBase e f X.env (eval e X.env) = eval e X.env) : PE X (.Attribute e f pos) (tFld K te f) := by subst h; exact pe_fld he hab
theorem filt0 {p : Nat → Bool} : ∀ (M : Nat), p 0 = true → (∀ i, 0 < i → i ≤ M → p i = false) → (List.range (M + 1)).filter p = [0]
  | 0, h0, _ => by simp [List.range_succ, h0]
  | M + 1, h0, h => by
    rw [List.range_succ, List.filter_append, filt0 M h0 fun i h1 h2 => h i h1 (by omega), List.filter_cons, if_neg (by rw [h (M + 1) (by omega) (Nat.le_refl _)]; exact Bool.false_ne_true)]
    rfl
theorem filt_ends {p : Nat → Bool} {L : Nat} (hL : 2 ≤ L) (h0 : p 0 = true) (h1 : p (L - 1) = true) (h : ∀ i, 0 < i → i + 1 < L → p i = false) : (List.range L).filter p = [0, L - 1] := by
  obtain ⟨M, rfl⟩ : ∃ M, L = M + 2 := ⟨L - 2, by omega⟩
  rw [List.range_succ, List.filter_append, filt0 M h0 fun i a b => h i a (by omega), List.filter_cons]
  have h1' : p (M + 1) = true := h1
  rw [if_pos h1']
  rfl
theorem nm_last {names : List Int} (h : names ≠ []) : nm names ((names.length - 1 : Nat) : Int) = lst names := by
  unfold nm lst
  rw [Int.toNat_natCast, List.getD_eq_getElem?_getD, List.getLastD_eq_getLast?, List.getLast?_eq_getElem?]
theorem paired_ints {H : Hp} : ∀ {ys : List V} {xs : List Int}, Paired (fun v b => v = V.int b) ys xs → ys = xs.map V.int
  | _, _, .nil => rfl
  | _, _, .cons h t => by rw [h, paired_ints (H := H) t]; rfl
end K46
end
section
set_option maxHeartbeats 4000000
/-! W11: named_right. -/
namespace K46
open PySem Ja
open L2 hiding CX0 E0 pass0 Fun
open PySem.W (Frag findIn isFn fnIn)
open C8 (Cal Met Mak Def Fun CX0 E0 pass0 fnScope fnBody fnArgs fnScope_by cal0 met0 mak0 pe_c pe_mk pe_mt pe_mt0 pe_gc fn0)
theorem beq_sw (a b : Int) : (a == b) = decide (b = a) := by
  by_cases c : b = a
  · subst c; rw [beq_self_eq_true, decide_eq_true rfl]
  · rw [decide_eq_false c]
    exact beq_eq_false_iff_ne.mpr fun z => c z.symm
def spNR (CR : Addr) : Sp := fun vs H Q _ => ∃ (rb ln rf : Addr) (n N : Int) (bs fs : List (List Int)) (names : List Int), vs = [.ref rb, .ref ln, .ref rf] ∧ Rt CR H rb n bs ∧ IntL H ln names ∧ Rt CR H rf N fs ∧ Cov n bs N fs names ∧ ∀ H', Same H H' → Q (.bl true) H'
section
variable {P : Program} {w : World} {K : Frag} {mg : Str → Option Value} {base : Heap} {f CR : Addr} {fd : FuncData}
theorem w_nr (T : Tb mg) (R : Cl K mg CR "Routine" ["blocks", "rows", "there"]) (c_within : Cal P w K mg base 2 "within" spWithin []) (c_outs : Met P w K mg base 3 CR "outs" (spOuts CR) []) (F : Def K mg "named_right" sNamedRight f fd) (b : Binds K fd ["base", "names", "fine"] []) : Cal P w K mg base 4 "named_right" (spNR CR) [] := by
  have sc : FnScope ["base", "names", "fine", "name", "block", "u", "v", "w"] ["base", "names", "fine"] (fnScope sNamedRight) := fnScope_by (by decide +kernel)
  refine cal0 F b .nil sc (fun vs H Q E h => by obtain ⟨_, _, _, _, _, _, _, _, rfl, _⟩ := h; rfl) fun cdv A outer s H vs Q E hr h => ?_
  obtain ⟨rb, ln, rf, n, N, bs, fs, names, rfl, hB, hN, hF, cv, k⟩ := h
  have hu := hu_of hr
  refine ⟨_, (pss_cons (ps_if (pt_not (pt_val (pe_callB (cr_all rfl) (by rfl) T.all PyProof.Rows.boot_all (pa_cons (pe_lc (own := [("name", 3)]) rfl sc.nd (pi_list (pv 1)) (blkOk_by (own := [("name", 3)]) (N := ["base", "names", "fine", "name", "block", "u", "v", "w"]) (sc := fnScope sNamedRight) (by decide +kernel)) (fun _ _ _ _ _ => (pg_name (i := 3) sc.nd rfl (Or.inl rfl))) (fun _ _ _ _ _ => pts_nil) (fun _ _ _ _ _ => (pe_c c_within hr (by decide) rfl (pa_cons (pv 3) (pa_cons pe_int (pa_cons (pe_op op_sub (pe_fldK (K := K) rfl (pv 0) rfl) pe_int) pa_nil)))))) pa_nil)))) (pss_one (ps_ret pe_bl)) pss_nil)
  (pss_cons (ps_if (pt_cmpR (op_neD hr.units) (pe_lc (own := [("block", 4), ("name", 3)]) rfl sc.nd (pi_enum (by rfl) T.enumerate (pa_cons (pv 1) pa_nil)) (blkOk_by (own := [("block", 4), ("name", 3)]) (N := ["base", "names", "fine", "name", "block", "u", "v", "w"]) (sc := fnScope sNamedRight) (by decide +kernel)) (fun _ _ _ _ _ => (pg_pair (K := K) rfl rfl (pgs_cons (pg_name (i := 4) sc.nd rfl (Or.inl rfl)) (pgs_cons (pg_name (i := 3) sc.nd rfl (Or.inl rfl)) pgs_nil)))) (fun _ _ _ _ _ => pts_one (pt_cmpR (inSeqk (K := K) rfl) (pv 3) (pe_tup (pa_cons pe_int (pa_cons (pe_op op_sub (pe_fldK (K := K) rfl (pv 0) rfl) pe_int) pa_nil))) (by rfl))) (fun _ _ _ _ _ => (pv 4))) (pe_lst (pa_cons pe_int (pa_cons (pe_op op_sub (pe_fld (pv 2) rfl) pe_int) pa_nil))) (nomark _)) (pss_one (ps_ret pe_bl)) pss_nil)
  (pss_cons (ps_if (PW.pt (pw_or (pt_cmpR op_ne (pe_ix ix_list (pv 1) pe_int (fun _ _ => rfl)) pe_int (nomark _)) (pw_or1 (pt_cmpR op_ne (pe_ix ix_list (pv 1) (pe_un un_neg pe_int) (fun _ _ => rfl)) (pe_op op_sub (pe_fld (pv 0) rfl) pe_int) (nomark _))))) (pss_one (ps_ret pe_bl)) pss_nil)
  (pss_cons (ps_for PassesOwn.never rfl (pi_enum (by rfl) T.enumerate (pa_cons (pv 1) pa_nil)) (pg_tup rfl (pgs_cons (pg_name (i := 4) sc.nd rfl (Or.inl rfl)) (pgs_cons (pg_name (i := 3) sc.nd rfl (Or.inl rfl)) pgs_nil))) (pss_one (ps_if (pt_cmpR (op_neD hr.units) (pe_callB cr_sortedI (by rfl) T.sorted PyProof.Rows.boot_sorted (pa_cons (pe_lc (own := [("u", 5), ("v", 6)]) rfl sc.nd (pi_list (pe_mt (pl := _) c_outs hr (by decide) (pv 2) (pa_cons (pv 4) pa_nil))) (blkOk_by (own := [("u", 5), ("v", 6)]) (N := ["base", "names", "fine", "name", "block", "u", "v", "w"]) (sc := fnScope sNamedRight) (by decide +kernel)) (fun _ _ _ _ _ => (pg_pair (K := K) rfl rfl (pgs_cons (pg_name (i := 5) sc.nd rfl (Or.inl rfl)) (pgs_cons (pg_name (i := 6) sc.nd rfl (Or.inl rfl)) pgs_nil)))) (fun _ _ _ _ _ => pts_nil) (fun _ _ _ _ _ => (pe_ix (ixL (K := K) rfl) (pv 1) (pv 6) (fun _ _ => rfl)))) pa_nil)) (pe_lc (own := [("u", 5), ("w", 7)]) rfl sc.nd (pi_list (pe_mt (pl := _) c_outs hr (by decide) (pv 0) (pa_cons (pv 3) pa_nil))) (blkOk_by (own := [("u", 5), ("w", 7)]) (N := ["base", "names", "fine", "name", "block", "u", "v", "w"]) (sc := fnScope sNamedRight) (by decide +kernel)) (fun _ _ _ _ _ => (pg_pair (K := K) rfl rfl (pgs_cons (pg_name (i := 5) sc.nd rfl (Or.inl rfl)) (pgs_cons (pg_name (i := 7) sc.nd rfl (Or.inl rfl)) pgs_nil)))) (fun _ _ _ _ _ => pts_nil) (fun _ _ _ _ _ => (pv 7))) (nomark _)) (pss_one (ps_ret pe_bl)) pss_nil)))
  (pss_one (ps_ret pe_bl)))))), ?_⟩
  obtain ⟨bx, bl, bd, q1, q2, q3⟩ := hB.ex
  obtain ⟨fx, fl, fd', p1, p2, p3⟩ := hF.ex
  have n2 := hB.n2
  have N2 := hF.n2
  have N40 := hF.n40
  have cl := cv.len
  have l2 : 2 ≤ names.length := by omega
  have L40 : names.length ≤ 40 := by omega
  have hne : names ≠ [] := by intro z; subst z; simp at l2
  have lastnm : nm names ((names.length - 1 : Nat) : Int) = n - 1 := by rw [nm_last hne, cv.last]
  have rng : ∀ i : Nat, i < names.length → 0 ≤ nm names i ∧ nm names i ≤ n - 1 := fun i hi => by
    by_cases c0 : i = 0
    · subst c0; have := cv.first; simp only [Int.natCast_zero]; omega
    · by_cases c1 : i + 1 < names.length
      · have := cv.mid i (by omega) c1; omega
      · have e : i = names.length - 1 := by omega
        subst e; rw [lastnm]; omega
  refine ⟨_, rfl, ln, rfl, ⟨_, SqL.of hN⟩, fun D hD => ?_⟩
  have hlen : names.length = (names.map V.int).length := (List.length_map ..).symm
  refine lc_fm (ms := names) (by rw [hlen]; exact walk_list) (fun _ => true) (fun x => inV (.int x) 0 (n - 1)) (fun _ v b => v = .bl b) (fun _ _ _ _ _ h => h) hD (by rw [sizeLine_eq]; omega) (fun H' s => SqL.of (s _ _ hN)) ?_ ?_
  · rintro j z x _ H4 Nx hj s4 ⟨rfl, hx⟩ _ kT
    rw [List.getElem?_map, hj] at hx
    obtain rfl := Option.some.inj hx
    refine ⟨rfl, ?_⟩
    exact ⟨_, rfl, _, rfl, rb, CR, bx, _, _, rfl, s4 _ _ q1, R.cl, R.na _ (by decide +kernel), lk_here, _, _, rfl, rfl, .int z, 0, n - 1, rfl, .int z, kT rfl _ _ (Same.refl _) rfl⟩
  intro H1 ys s1 hD1 hp1
  rw [ft] at hp1
  have ey : ys = (names.map fun x => inV (.int x) 0 (n - 1)).map V.bl := by
    generalize names.map (fun x => inV (.int x) 0 (n - 1)) = bs' at hp1
    clear hD1
    induction hp1 with
    | nil => rfl
    | cons h t ih => rw [h, ih]; rfl
  refine ⟨D, _, rfl, SqL.of (by rw [hD1, ey]), _, rfl, ?_⟩
  have hall : ((names.map fun x => inV (.int x) 0 (n - 1)).all id) = true := by
    rw [List.all_map, List.all_eq_true]
    intro x hx
    obtain ⟨i, hi⟩ := List.mem_iff_getElem?.mp hx
    have hil := (List.getElem?_eq_some_iff.mp hi).1
    have e := (nm_get hil).symm.trans hi
    have := rng i hil
    rw [Option.some.inj e] at this
    show (decide (0 ≤ x) && decide (x ≤ n - 1)) = true
    simp [this.1, this.2]
  rw [hall]
  refine iff rfl ?_
  clear hp1 ey hD1
  -- [block for block, name in enumerate(names) if name in (0, base.blocks - 1)]
  refine ⟨_, rfl, ln, names.map V.int, rfl, SqL.of (s1 _ _ hN), fun D2 hD2 => ?_⟩
  have hlen2 : (List.range names.length).length = (names.map V.int).length := by rw [List.length_range, List.length_map]
  refine lc_fm (ms := List.range names.length) (by rw [hlen2]; exact walk_enum) (fun i : Nat => decide (nm names i = 0) || decide (nm names i = n - 1)) (fun i : Nat => (i : Int)) (fun _ v b => v = .int b) (fun _ _ _ _ _ h => h) hD2 (by rw [List.length_range, sizeLine_eq]; omega) (fun H' s => SqL.of (s _ _ (s1 _ _ hN))) ?_ ?_
  · rintro j z x H3 H4 Nx hj s4 ⟨q, y, v, rfl, hq, rfl, hy, hv⟩ kF kT
    have hjl : j < names.length := by
      have := (List.getElem?_eq_some_iff.mp hj).1
      rw [List.length_range] at this; exact this
    rw [List.getElem?_range hjl] at hj
    obtain rfl := Option.some.inj hj
    obtain rfl := Option.some.inj hy
    have hv : (names.map V.int)[j]? = some v := hv
    rw [List.getElem?_map, nm_get hjl] at hv
    obtain rfl := Option.some.inj hv
    have s5 : Same H3 (upd H3 q (.tup [.int (j : Nat), .int (nm names j)])) := same_new hq
    refine ⟨q, _, rfl, SqT.of upd_same, rfl, _, _, rfl, _, _, rfl, rfl, rfl, ?_⟩
    have sH := (s1.trans s4).trans s5
    generalize upd H3 q (.tup [.int (j : Nat), .int (nm names j)]) = H5 at s5 sH
    refine ⟨_, rfl, _, rfl, rb, CR, bx, _, _, rfl, sH _ _ q1, R.cl, R.na _ (by decide +kernel), lk_here, _, _, rfl, rfl, by show 2 ≤ sizeLine; decide, fun t ht => ?_⟩
    refine ⟨t, _, rfl, .inr (SqT.of upd_same), rfl, rfl, _, rfl, ?_⟩
    have s6 : Same H3 (upd H5 t (.tup [.int 0, .int (n - 1)])) := s5.trans (same_new ht)
    have e : L2.inV (.int (nm names j)) [.int 0, .int (n - 1)] = (decide (nm names j = 0) || decide (nm names j = n - 1)) := by
      show (((0 : Int) == nm names j) || ((n - 1 == nm names j) || false)) = _
      rw [Bool.or_false]
      rw [beq_sw, beq_sw]
    show if (if false = true then _ else L2.inV (.int (nm names j)) [.int 0, .int (n - 1)]) = true then _ else _
    rw [if_neg Bool.false_ne_true, e]
    refine ifb (fun c => ?_) (fun c => ?_)
    · exact ⟨_, rfl, kT c _ _ s6 rfl⟩
    · exact kF c _ s6
  intro H2 ys2 s2 hD2' hp2
  have hfl : ((List.range names.length).filter fun i : Nat => decide (nm names i = 0) || decide (nm names i = n - 1)) = [0, names.length - 1] := by
    refine filt_ends l2 ?_ ?_ fun i h1 h2 => ?_
    · have := cv.first
      simp only [Int.natCast_zero] at this ⊢
      simp [this]
    · rw [lastnm]; simp
    · have := cv.mid i h1 h2
      have a1 : ¬ nm names i = 0 := by omega
      have a2 : ¬ nm names i = n - 1 := by omega
      simp [a1, a2]
  rw [hfl] at hp2
  have ey2 := paired_ints (H := H2) hp2
  have iD2 : IntL H2 D2 [0, N - 1] := by
    show _ = _
    rw [hD2', ey2]
    have : ((names.length - 1 : Nat) : Int) = N - 1 := by omega
    show some (HO.lst [V.int ((0 : Nat) : Int), V.int ((names.length - 1 : Nat) : Int)]) = _
    rw [this]; rfl
  have s12 := s1.trans s2
  refine ⟨_, rfl, rf, CR, fx, _, _, rfl, s12 _ _ p1, R.cl, R.na _ (by decide +kernel), lk_here, _, _, rfl, rfl, by show 2 ≤ sizeLine; decide, fun l3 hl3 => ?_⟩
  have s3 : Same H2 (upd H2 l3 (.lst [.int 0, .int (N - 1)])) := same_new hl3
  have iD2' : IntL (upd H2 l3 (.lst [.int 0, .int (N - 1)])) D2 [0, N - 1] := s3 _ _ iD2
  refine neL iD2' (ys := [0, N - 1]) upd_same ⟨_, rfl, iff (by rw [decide_eq_true rfl]; rfl) ?_⟩
  have s123 := s12.trans s3
  generalize upd H2 l3 (.lst [.int 0, .int (N - 1)]) = H3 at s123
  clear hp2 hD2' s2 hfl ey2 iD2 iD2' s3
  have hN3 := s123 _ _ hN
  have g0 : atI (names.map V.int) 0 = some (.int 0) := by
    refine atI_nat (j := 0) ?_
    rw [List.getElem?_map, nm_get (by omega : 0 < names.length)]
    have := cv.first
    simp only [Int.natCast_zero]
    rw [this]; rfl
  refine ⟨_, rfl, ln, _, 0, V.int 0, rfl, rfl, SqL.of hN3, g0, rfl, _, rfl, iff (by decide) ?_⟩
  refine ⟨_, rfl, 1, rfl, ln, _, -1, _, rfl, rfl, SqL.of hN3, lst_get hne, _, rfl, rb, CR, bx, _, _, rfl, s123 _ _ q1, R.cl, R.na _ (by decide +kernel), lk_here, _, _, rfl, rfl, rfl, _, rfl, iff (by rw [cv.last]; simp) ?_⟩
  refine ⟨_, rfl, ln, names.map V.int, rfl, SqL.of hN3, for_it walk_enum (fun i σ H' => (∃ v3 v4, σ = [some (.ref rb), some (.ref ln), some (.ref rf), v3, v4, none, none, none]) ∧ Same H H') ⟨⟨_, _, rfl⟩, s123⟩ (fun i σ H' _ h => SqL.of (h.2 _ _ hN)) ?_ ?_⟩
  · rintro i x σ H4 H5 hi ⟨⟨v3, v4, rfl⟩, s4⟩ ⟨q, y, v, rfl, hq, rfl, hy, hv⟩
    rw [← hlen] at hi
    obtain rfl := Option.some.inj hy
    have hv : (names.map V.int)[i]? = some v := hv
    rw [List.getElem?_map, nm_get hi] at hv
    obtain rfl := Option.some.inj hv
    refine ⟨q, _, rfl, SqT.of upd_same, rfl, _, _, rfl, _, _, rfl, rfl, ?_⟩
    have s5 : Same H (upd H4 q (.tup [.int (i : Nat), .int (nm names i)])) := s4.trans (same_new hq)
    generalize upd H4 q (.tup [.int (i : Nat), .int (nm names i)]) = H5 at s5
    have r1 := rng i hi
    have nl : ∀ {z}, (([(("blocks" : Str), V.int z), (("rows" : Str), V.ref fl), (("there" : Str), V.ref fd')] : List (Str × V)).lookup ("outs" : Str)) = none := fun {z} => (lk_past (by decide +kernel)).trans ((lk_past (by decide +kernel)).trans (lk_past (by decide +kernel)))
    have nl2 : ∀ {z}, (([(("blocks" : Str), V.int z), (("rows" : Str), V.ref bl), (("there" : Str), V.ref bd)] : List (Str × V)).lookup ("outs" : Str)) = none := fun {z} => (lk_past (by decide +kernel)).trans ((lk_past (by decide +kernel)).trans (lk_past (by decide +kernel)))
    refine ⟨_, rfl, rf, fx, _, rfl, s5 _ _ p1, nl, _, rfl, rf, N, fs, (i : Int), rfl, hF.same s5, by omega, by omega, fun H6 l6 s6 hl6 => ?_⟩
    obtain ⟨ts, e6, pl⟩ := hl6.ex
    refine ⟨l6, rfl, ⟨_, SqL.of e6⟩, fun D6 hD6 => ?_⟩
    have lo : (outsF fs i).length ≤ 120 := Nat.le_trans (List.length_filter_le ..) hF.l120
    have hl' : (outsF fs i).length = (ts.map V.ref).length := by rw [List.length_map, Paired.length pl]
    refine lc_fm (ms := outsF fs i) (by rw [hl']; exact walk_list) (fun _ => true) (fun s => nm names (j1 s)) (fun _ v b => v = .int b) (fun _ _ _ _ _ h => h) hD6 (by rw [sizeLine_eq]; omega) (fun H' s => SqL.of (s _ _ e6)) ?_ ?_
    · rintro j r x _ H7 Nx hj s7 ⟨rfl, hx⟩ _ kT
      obtain ⟨t, rfl, hm⟩ := at_item pl hj hx
      obtain ⟨u, v, rfl, a0, a1, a2⟩ := hF.jr.sh r (List.mem_filter.mp (List.mem_of_getElem? hj)).1
      have hm7 := s7 _ _ hm
      have ev : atI (names.map V.int) v = some (.int (nm names v)) := by
        have e : v = ((v.toNat : Nat) : Int) := by omega
        rw [e]
        refine atI_nat ?_
        rw [List.getElem?_map, nm_get (by omega)]
        rfl
      refine ⟨t, _, rfl, SqT.of hm7, rfl, _, _, rfl, _, _, rfl, rfl, rfl, ?_⟩
      exact ⟨_, rfl, _, rfl, ln, _, v, V.int (nm names v), rfl, rfl, SqL.of (((s5.trans s6).trans s7) _ _ hN), ev, kT rfl _ _ (Same.refl _) rfl⟩
    intro H7 ys7 s7 hD7 hp7
    rw [ft] at hp7
    have ey7 := paired_ints (H := H7) hp7
    refine ⟨D6, (outsF fs i).map (fun s => nm names (j1 s)), rfl, SqL.of (by rw [hD7, ey7]), fun ns' S pm ri hS => ?_⟩
    have s8 : Same H7 (upd H7 S (.lst (ns'.map V.int))) := same_new hS
    have iS : IntL (upd H7 S (.lst (ns'.map V.int))) S ns' := upd_same
    have sH8 := ((s5.trans s6).trans s7).trans s8
    generalize upd H7 S (.lst (ns'.map V.int)) = H8 at iS sH8
    refine ⟨_, rfl, rb, bx, _, rfl, sH8 _ _ q1, nl2, _, rfl, rb, n, bs, nm names i, rfl, hB.same sH8, r1.1, r1.2, fun H9 l9 s9 hl9 => ?_⟩
    obtain ⟨tb, e9, pb⟩ := hl9.ex
    refine ⟨l9, rfl, ⟨_, SqL.of e9⟩, fun D9 hD9 => ?_⟩
    have lo9 : (outsF bs (nm names i)).length ≤ 120 := Nat.le_trans (List.length_filter_le ..) hB.l120
    have hl9' : (outsF bs (nm names i)).length = (tb.map V.ref).length := by rw [List.length_map, Paired.length pb]
    refine lc_fm (ms := outsF bs (nm names i)) (by rw [hl9']; exact walk_list) (fun _ => true) (fun s => j1 s) (fun _ v b => v = .int b) (fun _ _ _ _ _ h => h) hD9 (by rw [sizeLine_eq]; omega) (fun H' s => SqL.of (s _ _ e9)) ?_ ?_
    · rintro j r x _ Ha Nx hj sa ⟨rfl, hx⟩ _ kT
      obtain ⟨t, rfl, hm⟩ := at_item pb hj hx
      obtain ⟨u, v, rfl, a0, a1, a2⟩ := hB.jr.sh r (List.mem_filter.mp (List.mem_of_getElem? hj)).1
      refine ⟨t, _, rfl, SqT.of (sa _ _ hm), rfl, _, _, rfl, _, _, rfl, rfl, rfl, ?_⟩
      exact ⟨_, rfl, kT rfl _ _ (Same.refl _) rfl⟩
    intro Ha ysa sa hDa hpa
    rw [ft] at hpa
    have eya := paired_ints (H := Ha) hpa
    have iDa : IntL Ha D9 ((outsF bs (nm names i)).map j1) := by show _ = _; rw [hDa, eya]
    have eq : ns' = (outsF bs (nm names i)).map j1 := rise_eq (pm.trans (cv.outs i hi)) ri (outs_rise hB.jr hB.srt _)
    refine neL ((s9.trans sa) _ _ iS) iDa ⟨_, rfl, iff (by rw [decide_eq_true eq]; rfl) ?_⟩
    exact ⟨⟨_, _, rfl⟩, (sH8.trans s9).trans sa⟩
  · rintro σ H4 ⟨⟨v3, v4, rfl⟩, s4⟩
    exact k H4 s4
end
end K46
end
section
set_option maxHeartbeats 4000000
/-! W12: Cover.__init__. -/
namespace K46
open PySem Ja
open L2 hiding CX0 E0 pass0 Fun
open PySem.W (Frag findIn isFn fnIn)
open C8 (Cal Met Mak Def Fun CX0 E0 pass0 fnScope fnBody fnArgs fnScope_by cal0 met0 mak0 pe_c pe_mk pe_mt pe_mt0 pe_gc fn0)
/-- where a jump of the base leads, from a block of the fine one -/
abbrev leadsF (fs : List (List Int)) (names : List Int) : List (List Int × Int) := fs.map fun s => ([j0 s, nm names (j1 s)], j1 s)
structure Cv (CR CV : Addr) (H : Hp) (a rb rf : Addr) (n N : Int) (bs fs : List (List Int)) (names : List Int) : Prop where
  rtb : Rt CR H rb n bs
  rtf : Rt CR H rf N fs
  cov : Cov n bs N fs names
  ex : ∃ dx l d, H a = some (.ins CV dx [("base", .ref rb), ("fine", .ref rf), ("labels", .ref l), ("leads", .ref d)]) ∧ IntL H l names ∧ DI H d (leadsF fs names)
theorem Cv.same {CR CV : Addr} {H H' : Hp} {a rb rf : Addr} {n N : Int} {bs fs : List (List Int)} {names : List Int} (h : Cv CR CV H a rb rf n N bs fs names) (e : Same H H') : Cv CR CV H' a rb rf n N bs fs names := by
  obtain ⟨dx, l, d, h1, h2, h3⟩ := h.ex
  exact ⟨h.rtb.same e, h.rtf.same e, h.cov, dx, l, d, e _ _ h1, e _ _ h2, e _ _ h3⟩
/-- two jumps from one block do not lead to blocks of one name -/
theorem Cov.leads {n N : Int} {bs fs : List (List Int)} {names : List Int} (c : Cov n bs N fs names) (jb : Jr n bs) (jf : Jr N fs) : ((leadsF fs names).map (·.1)).Nodup := by
  have nb : ∀ x : Int, ((outsF bs x).map j1).Nodup := fun x => by
    unfold outsF
    have : ∀ l : List (List Int), (∀ r ∈ l, r ∈ bs) → l.Nodup → ((l.filter fun r => decide (j0 r = x)).map j1).Nodup := by
      intro l
      induction l with
      | nil => intro _ _; exact .nil
      | cons r l ih =>
        intro h nd
        obtain ⟨n1, n2⟩ := List.nodup_cons.mp nd
        have ih := ih (fun s hs => h s (List.mem_cons_of_mem _ hs)) n2
        by_cases e : j0 r = x
        · rw [List.filter_cons, if_pos (decide_eq_true e), List.map_cons]
          refine List.nodup_cons.mpr ⟨fun hm => ?_, ih⟩
          obtain ⟨s, hs, es⟩ := List.mem_map.mp hm
          obtain ⟨hs1, hs2⟩ := List.mem_filter.mp hs
          obtain ⟨u, v, er, _⟩ := jb.sh r (h r List.mem_cons_self)
          obtain ⟨u', v', er', _⟩ := jb.sh s (h s (List.mem_cons_of_mem _ hs1))
          have e1 : u' = x := by have := of_decide_eq_true hs2; rw [er'] at this; exact this
          have e2 : u = x := by rw [er] at e; exact e
          have e3 : v' = v := by rw [er, er'] at es; exact es
          exact n1 (by rw [er, e2, ← e1, ← e3, ← er']; exact hs1)
        · rw [List.filter_cons, if_neg (by simpa using e)]
          exact ih
    exact this bs (fun _ h => h) jb.nd
  rw [List.map_map]
  have len := c.len
  have : ∀ l : List (List Int), l.Sublist fs → (l.map ((fun x : List Int × Int => x.1) ∘ fun s => ([j0 s, nm names (j1 s)], j1 s))).Nodup := by
    intro l
    induction l with
    | nil => intro _; exact .nil
    | cons r l ih =>
      intro h
      have ih := ih ((List.sublist_cons_self r l).trans h)
      rw [List.map_cons]
      refine List.nodup_cons.mpr ⟨fun hm => ?_, ih⟩
      obtain ⟨s, hs, es⟩ := List.mem_map.mp hm
      have es : [j0 s, nm names (j1 s)] = [j0 r, nm names (j1 r)] := es
      simp only [List.cons.injEq, and_true] at es
      obtain ⟨u, v, er, h1, h2, h3⟩ := jf.sh r (h.subset List.mem_cons_self)
      have hj : j0 r = u := by rw [er]; rfl
      have hi : u.toNat < names.length := by omega
      have eu : ((u.toNat : Nat) : Int) = u := by omega
      have pm := c.outs u.toNat hi
      rw [eu] at pm
      have nd := pm.nodup_iff.mpr (nb _)
      have sub : ((r :: l).filter fun s => decide (j0 s = u)).Sublist (outsF fs u) := List.Sublist.filter _ h
      have nd2 := List.Nodup.sublist (List.Sublist.map (fun s => nm names (j1 s)) sub) nd
      rw [List.filter_cons, if_pos (decide_eq_true hj), List.map_cons] at nd2
      refine (List.nodup_cons.mp nd2).1 (List.mem_map.mpr ⟨s, List.mem_filter.mpr ⟨hs, decide_eq_true (es.1.trans hj)⟩, es.2⟩)
  exact this fs (List.Sublist.refl _)
/-- the cover's labels stand at l -/
def LBL (CV : Addr) (H : Hp) (a l : Addr) : Prop := ∃ dx b f ld, H a = some (.ins CV dx [("base", b), ("fine", f), ("labels", .ref l), ("leads", ld)])
def spVinit (CR CV : Addr) : Sp := fun vs H Q _ => ∃ (p rb ln lj dx : Addr) (n : Int) (bs js : List (List Int)) (names : List Int), vs = [.ref p, .ref rb, .ref ln, .ref lj] ∧ H p = some (.ins CV dx []) ∧ Rt CR H rb n bs ∧ IntL H ln names ∧ Rows H lj js ∧ Jr names.length js ∧ 2 ≤ names.length ∧ names.length ≤ 40 ∧ js.length ≤ 120 ∧ (∀ fs : List (List Int), fs.Perm js → Cov n bs names.length fs names) ∧
  ∀ H' rf fs l, fs.Perm js → Cv CR CV H' p rb rf n names.length bs fs names → LBL CV H' p l → H l = none → But p H H' → Q .non H'
section
variable {P : Program} {w : World} {K : Frag} {mg : Str → Option Value} {base : Heap} {f CR CV : Addr} {fd : FuncData}
theorem w_Vinit (T : Tb mg) (R : Cl K mg CR "Routine" ["blocks", "rows", "there"]) (R' : Cl K mg CV "Cover" ["base", "fine", "labels", "leads"]) (M : Mk K CV f) (c_fine_of : Cal P w K mg base 6 "fine_of" (spFine CR) []) (c_named_right : Cal P w K mg base 4 "named_right" (spNR CR) [])
    (F : Fun K "__init__" "Cover.__init__" (sCv 0) f fd) (b : Binds K fd ["self", "base", "names", "jumps"] []) : Mak P w K mg base 7 "Cover" CV (spVinit CR CV) [] := by
  have sc : FnScope ["self", "base", "names", "jumps", "fine", "u", "v"] ["self", "base", "names", "jumps"] (fnScope (sCv 0)) := fnScope_by (by decide +kernel)
  refine mak0 M R'.gl F b .nil sc (fun vs H Q E h => by obtain ⟨_, _, _, _, _, _, _, _, _, rfl, _⟩ := h; rfl) fun cdv A outer s H vs Q E hr h => ?_
  obtain ⟨p, rb, ln, lj, dx, n, bs, js, names, rfl, hp, hB, hN, hJ, jr, l2, l40, l120, cv, k⟩ := h
  have hu := hu_of hr
  refine ⟨_, (pss_cons (ps_set (i := 4) sc.nd rfl (Or.inl rfl) (pe_c c_fine_of hr (by decide) rfl (pa_cons (pv 2) (pa_cons (pv 3) pa_nil))))
  (pss_cons (ps_if (PW.pt (pw_or (pt_cmpR op_isN (pv 4) pe_non (nomark _)) (pw_or1 (pt_not (pt_val (pe_c c_named_right hr (by decide) rfl (pa_cons (pv 1) (pa_cons (pv 2) (pa_cons (pv 4) pa_nil))))))))) (pss_one ps_never) pss_nil)
  (pss_cons (ps_fld (pv 0) (pv 1) rfl)
  (pss_cons (ps_fld (pv 0) (pv 4) rfl)
  (pss_cons (ps_fld (pv 0) (pe_callTy call_list_of (by rfl) T.list PyProof.Rows.boot_list (pa_cons (pv 2) pa_nil)) rfl)
  (pss_one (ps_fld (pv 0) (pe_dcT hu rfl sc.nd (pi_list (pe_fld (pv 4) rfl)) (blkOk_by (own := [("u", 5), ("v", 6)]) (N := ["self", "base", "names", "jumps", "fine", "u", "v"]) (sc := fnScope (sCv 0)) (by decide +kernel)) (fun _ _ _ _ _ => (pg_pair (K := K) rfl rfl (pgs_cons (pg_name (i := 5) sc.nd rfl (Or.inl rfl)) (pgs_cons (pg_name (i := 6) sc.nd rfl (Or.inl rfl)) pgs_nil)))) (fun _ _ _ _ _ => pts_nil) (fun _ _ _ _ _ => (pe_tup (pa_cons (pv 5) (pa_cons (pe_ix (ixL (K := K) rfl) (pv 2) (pv 6) (fun _ _ => rfl)) pa_nil)))) (fun _ _ _ _ _ => (pv 6))) rfl))))))), ?_⟩
  refine ⟨_, rfl, _, rfl, ln, lj, names, js, rfl, hN, hJ, jr, l2, l40, l120, fun H1 rf fs s1 pm hF => ?_⟩
  have hcv := cv fs pm
  refine ⟨_, rfl, rfl, _, rfl, iff (by simp) ⟨_, rfl, _, rfl, _, rfl, rb, ln, rf, n, names.length, bs, fs, names, rfl, hB.same s1, s1 _ _ hN, hF, hcv, fun H2 s2 => ⟨_, rfl, iff rfl ?_⟩⟩⟩
  have p0 : del H p p = none := del_self
  have hBd := hB.del hp
  have hp2 := (s1.trans s2) _ _ hp
  have hF2 := hF.same s2
  have hN2 := (s1.trans s2) _ _ hN
  have hNd : IntL (del H p) ln names := by
    show del H p ln = _
    rw [del_ne (fun z => by rw [z] at hN; cases hp.symm.trans hN)]; exact hN
  have hFd := hF2.del hp2
  refine ⟨_, rfl, _, rfl, p, CV, dx, [], rfl, hp2, R'.cl, R'.na _ (by decide +kernel), (by show 0 < 1000; decide), ?_⟩
  have e1 : putF "base" (.ref rb) [] = [(("base" : Str), V.ref rb)] := rfl
  rw [e1]
  refine ⟨_, rfl, _, rfl, p, CV, dx, _, rfl, upd_same, R'.cl, R'.na _ (by decide +kernel), (by show 1 < 1000; decide), ?_⟩
  have e2 : putF "fine" (.ref rf) [(("base" : Str), V.ref rb)] = [(("base" : Str), V.ref rb), (("fine" : Str), V.ref rf)] := (put_past (by decide +kernel)).trans rfl
  rw [e2, upd_upd]
  have d0 : del H2 p p = none := del_self
  have sd3 : Same (del H2 p) (upd H2 p (.ins CV dx [(("base" : Str), V.ref rb), (("fine" : Str), V.ref rf)])) := same_upd (Same.del (Same.refl H2)) d0
  have p3 : (upd H2 p (.ins CV dx [(("base" : Str), V.ref rb), (("fine" : Str), V.ref rf)])) p = some (.ins CV dx [(("base" : Str), V.ref rb), (("fine" : Str), V.ref rf)]) := upd_same
  generalize upd H2 p (.ins CV dx [(("base" : Str), V.ref rb), (("fine" : Str), V.ref rf)]) = H3 at sd3 p3
  have dd : Same (del H p) (del H2 p) := fun c o e => by
    by_cases q : c = p
    · rw [q, del_self] at e; cases e
    · rw [del_ne q] at e ⊢; exact (s1.trans s2) _ _ e
  have hN3 : IntL H3 ln names := sd3 _ _ (dd _ _ hNd)
  refine ⟨_, rfl, ln, _, rfl, .inl (SqL.of hN3), fun l hl => ?_⟩
  have hpl : p ≠ l := ne_of_none p3 hl
  refine ⟨_, rfl, p, CV, dx, _, rfl, by rw [upd_ne hpl]; exact p3, R'.cl, R'.na _ (by decide +kernel), (by show 2 < 1000; decide), ?_⟩
  have e3 : putF "labels" (.ref l) [(("base" : Str), V.ref rb), (("fine" : Str), V.ref rf)] = [(("base" : Str), V.ref rb), (("fine" : Str), V.ref rf), (("labels" : Str), V.ref l)] := (put_past (by decide +kernel)).trans (congrArg _ ((put_past (by decide +kernel)).trans rfl))
  rw [e3]
  have sd4 : Same (del H2 p) (upd (upd H3 l (.lst (names.map V.int))) p (.ins CV dx [(("base" : Str), V.ref rb), (("fine" : Str), V.ref rf), (("labels" : Str), V.ref l)])) := same_upd (sd3.trans (same_new hl)) d0
  have p4 : (upd (upd H3 l (.lst (names.map V.int))) p (.ins CV dx [(("base" : Str), V.ref rb), (("fine" : Str), V.ref rf), (("labels" : Str), V.ref l)])) p = some (.ins CV dx [(("base" : Str), V.ref rb), (("fine" : Str), V.ref rf), (("labels" : Str), V.ref l)]) := upd_same
  have l4 : IntL (upd (upd H3 l (.lst (names.map V.int))) p (.ins CV dx [(("base" : Str), V.ref rb), (("fine" : Str), V.ref rf), (("labels" : Str), V.ref l)])) l names := by show upd _ _ _ _ = _; rw [upd_ne (Ne.symm hpl)]; exact upd_same
  generalize upd (upd H3 l (.lst (names.map V.int))) p (.ins CV dx [(("base" : Str), V.ref rb), (("fine" : Str), V.ref rf), (("labels" : Str), V.ref l)]) = H4 at sd4 p4 l4
  obtain ⟨fx, fl, fd', q1, q2, q3⟩ := hFd.ex
  obtain ⟨tf, ef, pf⟩ := q2.ex
  have hN4 : IntL H4 ln names := sd4 _ _ (dd _ _ hNd)
  have hlen : fs.length = (tf.map V.ref).length := by rw [List.length_map, Paired.length pf]
  have lf := hF.l120
  refine ⟨_, rfl, rf, CR, fx, _, _, rfl, sd4 _ _ q1, R.cl, R.na _ (by decide +kernel), lk2 (by decide +kernel), fl, rfl, ⟨_, SqL.of (sd4 _ _ ef)⟩, fun D hD => ?_⟩
  have hpD : p ≠ D := ne_of_none p4 hD
  have ndk := hcv.leads hB.jr hF.jr
  rw [List.map_map] at ndk
  refine dc_fm (ms := fs) (by rw [hlen]; exact walk_list) (fun _ => true) (fun s => [j0 s, nm names (j1 s)]) (fun s => .int (j1 s)) hD (by rw [sizeLine_eq]; omega) (by rw [ft]; exact ndk) (fun H' s => SqL.of (s _ _ (sd4 _ _ ef))) ?_ ?_
  · rintro j r x _ H5 Nx hj s5 ⟨rfl, hx⟩ _ kT
    obtain ⟨t, rfl, hm⟩ := at_item pf hj hx
    obtain ⟨u, v, rfl, a0, a1, a2⟩ := hF.jr.sh r (List.mem_of_getElem? hj)
    have hm5 := s5 _ _ (sd4 _ _ hm)
    have ev : atI (names.map V.int) v = some (.int (nm names v)) := by
      have e : v = ((v.toNat : Nat) : Int) := by omega
      rw [e]
      refine atI_nat ?_
      rw [List.getElem?_map, nm_get (by omega)]
      rfl
    refine ⟨t, _, rfl, SqT.of hm5, rfl, _, _, rfl, _, _, rfl, rfl, rfl, ?_⟩
    exact ⟨_, rfl, _, rfl, _, rfl, ln, _, v, V.int (nm names v), rfl, rfl, SqL.of (s5 _ _ hN4), ev, by show 2 ≤ sizeLine; decide, fun g hg => ⟨_, rfl, kT rfl _ g (same_new hg) upd_same⟩⟩
  · intro H5 s5 hD5
    rw [ft] at hD5
    refine ⟨_, rfl, p, CV, dx, _, rfl, s5 _ _ p4, R'.cl, R'.na _ (by decide +kernel), (by show 3 < 1000; decide), ?_⟩
    have e4 : putF "leads" (.ref D) [(("base" : Str), V.ref rb), (("fine" : Str), V.ref rf), (("labels" : Str), V.ref l)] = [(("base" : Str), V.ref rb), (("fine" : Str), V.ref rf), (("labels" : Str), V.ref l), (("leads" : Str), V.ref D)] := (put_past (by decide +kernel)).trans (congrArg _ ((put_past (by decide +kernel)).trans (congrArg _ ((put_past (by decide +kernel)).trans rfl))))
    rw [e4]
    have sd6 : Same (del H2 p) (upd H5 p (.ins CV dx [(("base" : Str), V.ref rb), (("fine" : Str), V.ref rf), (("labels" : Str), V.ref l), (("leads" : Str), V.ref D)])) := same_upd (sd4.trans s5) d0
    have hlp : l ≠ p := Ne.symm hpl
    have hln : H l = none := by
      have z := sd3.free hl
      rw [del_ne (Ne.symm hpl)] at z
      exact (s1.trans s2).free z
    refine k _ rf fs l pm ⟨hBd.same (dd.trans sd6), hFd.same sd6, hcv, dx, l, D, upd_same, ?_, ?_⟩ ⟨dx, _, _, _, upd_same⟩ hln (But.of (dd.trans sd6))
    · show upd _ _ _ _ = _
      rw [upd_ne hlp]; exact s5 _ _ l4
    · show upd _ _ _ _ = _
      rw [upd_ne (Ne.symm hpD), hD5, List.map_map]; rfl
end
end K46
end
section
set_option maxHeartbeats 4000000
/-! W13: lift_part. -/
namespace K46
open PySem Ja
open L2 hiding CX0 E0 pass0 Fun
open PySem.W (Frag findIn isFn fnIn)
open C8 (Cal Met Mak Def Fun CX0 E0 pass0 fnScope fnBody fnArgs fnScope_by cal0 met0 mak0 pe_c pe_mk pe_mt pe_mt0 pe_gc fn0)
theorem o_ne {X : Cx} {k j : Nat} {C : Addr} {x : Str} {fs : List Str} {R : Addr → Addr → Hp → Prop} (cl : Cl X.K X.mg C x fs) (c : Dn X.prog X.w X.K X.mg X.base k C "__eq__" (spEq R)) (hr : Room j X.A) (hk : k + 1 ≤ j) : OpR X (compareOp .NotEq) (fun x y H Q => DIns C R x y H ∧ ∀ H', Ext H H' → Q (.bl false) H') := by
  obtain ⟨f, fd, ps, d, _, F, b⟩ := c.ex
  exact op_neG (E := E0) F d cl.ne cl.mo (hr.mono hk) b pass0
/-- the lift of a part's jumps -/
def liftP (names : List Int) (al fs : List (List Int)) : List (List Int) := fs.filter fun s => decide ([nm names (j0 s), nm names (j1 s)] ∈ al)
def spLiftP (CR CP CV : Addr) : Sp := fun vs H Q _ => ∃ (a rb rf p r : Addr) (n N : Int) (bs fs al : List (List Int)) (names : List Int), vs = [.ref a, .ref p] ∧ Cv CR CV H a rb rf n N bs fs names ∧ Pt CR CP H p r n bs al ∧
  ∀ H' q, Same H H' → Pt CR CP H' q rf N fs (liftP names al fs) → Q (.ref q) H'
section
variable {P : Program} {w : World} {K : Frag} {mg : Str → Option Value} {base : Heap} {f CR CP CV : Addr} {fd : FuncData}
theorem w_liftP (R : Cl K mg CR "Routine" ["blocks", "rows", "there"]) (R' : Cl K mg CV "Cover" ["base", "fine", "labels", "leads"]) (R'' : Cl K mg CP "Part" ["routine", "allowed", "useful"]) (c_req : Dn P w K mg base 1 CR "__eq__" (spEq (RtEq CR))) (c_Part : Mak P w K mg base 5 "Part" CP (spPinit CR CP) [])
    (me : Meth K CV "lift_part" f) (F : Fun K "lift_part" "Cover.lift_part" (sCv 7) f fd) (b : Binds K fd ["self", "part"] []) : Met P w K mg base 7 CV "lift_part" (spLiftP CR CP CV) [] := by
  have sc : FnScope ["self", "part", "jumps", "u", "v"] ["self", "part"] (fnScope (sCv 7)) := fnScope_by (by decide +kernel)
  refine met0 R'.cl me F b sc (fun vs H Q E h => by obtain ⟨_, _, _, _, _, _, _, _, _, _, _, rfl, _⟩ := h; rfl) fun cdv A outer s H vs Q E hr h => ?_
  obtain ⟨a, rb, rf, p, r, n, N, bs, fs, al, names, rfl, hC, hP, k⟩ := h
  have hu := hu_of hr
  refine ⟨_, (pss_cons (ps_if (pt_cmpR (o_ne R c_req hr (by decide)) (pe_fld (pv 1) rfl) (pe_fld (pv 0) rfl) (nomark _)) (pss_one ps_never) pss_nil)
  (pss_cons (ps_setLc (i := 2) (own := [("u", 3), ("v", 4)]) rfl sc.nd rfl rfl (sw_true rfl rfl rfl (by decide +kernel)) (pi_list (pe_fld (pe_fld (pv 0) rfl) rfl)) (blkOk_by (own := [("u", 3), ("v", 4)]) (N := ["self", "part", "jumps", "u", "v"]) (sc := fnScope (sCv 7)) (by decide +kernel)) (fun _ _ _ _ _ => (pg_pair (K := K) rfl rfl (pgs_cons (pg_name (i := 3) sc.nd rfl (Or.inl rfl)) (pgs_cons (pg_name (i := 4) sc.nd rfl (Or.inl rfl)) pgs_nil)))) (fun _ _ _ _ _ => pts_one (pt_cmp (pc_din hu (pe_tup (pa_cons (pe_ix (ixL (K := K) rfl) (pe_fldK (K := K) rfl (pv 0) rfl) (pv 3) (fun _ _ => rfl)) (pa_cons (pe_ix (ixL (K := K) rfl) (pe_fldK (K := K) rfl (pv 0) rfl) (pv 4) (fun _ _ => rfl)) pa_nil))) (pe_fldK (K := K) rfl (pv 1) rfl)))) (fun _ _ _ _ _ => (pe_tup (pa_cons (pv 3) (pa_cons (pv 4) pa_nil)))))
  (pss_one (ps_ret (pe_mk c_Part hr (by decide) rfl (pa_cons (pe_fld (pv 0) rfl) (pa_cons (pv 2) pa_nil))))))), ?_⟩
  obtain ⟨dx, ll, ld, h1, h2, h3⟩ := hC.ex
  obtain ⟨px, pd, pu, g1, g2, g3⟩ := hP.ex
  obtain ⟨bx, bl, bd, q1, q2, q3⟩ := hC.rtb.ex
  obtain ⟨fx, fl, fd', p1, p2, p3⟩ := hC.rtf.ex
  obtain ⟨rx, rl, rd, r1, r2, r3⟩ := hP.rt.ex
  obtain ⟨tf, ef, pf⟩ := p2.ex
  have clen := hC.cov.len
  refine ⟨_, rfl, p, CP, px, _, _, rfl, g1, R''.cl, R''.na _ (by decide +kernel), lk_here, _, rfl, a, CV, dx, _, _, rfl, h1, R'.cl, R'.na _ (by decide +kernel), lk_here, ⟨r, rb, rx, bx, _, _, rfl, rfl, r1, q1, n, bs, hP.rt, hC.rtb⟩, fun H1 s1 => ⟨_, rfl, iff rfl ?_⟩⟩
  have s1 : Same H H1 := s1
  refine ⟨_, rfl, a, CV, dx, _, _, rfl, s1 _ _ h1, R'.cl, R'.na _ (by decide +kernel), lk2 (by decide +kernel), rf, CR, fx, _, _, rfl, s1 _ _ p1, R.cl, R.na _ (by decide +kernel), lk2 (by decide +kernel), fl, rfl, ⟨_, SqL.of (s1 _ _ ef)⟩, fun D hD => ?_⟩
  have hlen : fs.length = (tf.map V.ref).length := by rw [List.length_map, Paired.length pf]
  have lf := hC.rtf.l120
  refine lc_fm (ms := fs) (by rw [hlen]; exact walk_list) (fun s => decide ([nm names (j0 s), nm names (j1 s)] ∈ al)) (fun s => s) (fun H v r => ∃ t, v = .ref t ∧ TupI H t r) (fun H H' v r nl ⟨t, e, q⟩ => ⟨t, e, nl _ _ q (fun xs z => by cases z)⟩) hD (by rw [sizeLine_eq]; omega) (fun H' s => SqL.of ((s1.trans s) _ _ ef)) ?_ ?_
  · rintro j x v _ H4 Nx hj s4 ⟨rfl, hx⟩ kF kT
    obtain ⟨t, rfl, hm⟩ := at_item pf hj hx
    obtain ⟨u, w, rfl, a0, a1, a2⟩ := hC.rtf.jr.sh x (List.mem_of_getElem? hj)
    have sH := s1.trans s4
    have hm4 := sH _ _ hm
    have ev : ∀ z : Int, 0 ≤ z → z ≤ N - 1 → atI (names.map V.int) z = some (.int (nm names z)) := fun z z0 z1 => by
      have e : z = ((z.toNat : Nat) : Int) := by omega
      rw [e]
      refine atI_nat ?_
      rw [List.getElem?_map, nm_get (by omega)]
      rfl
    refine ⟨t, _, rfl, SqT.of hm4, rfl, _, _, rfl, _, _, rfl, rfl, rfl, ?_⟩
    refine ⟨_, rfl, a, CV, dx, _, _, rfl, sH _ _ h1, R'.cl, R'.na _ (by decide +kernel), lk3 (by decide +kernel) (by decide +kernel), _, rfl, ll, _, u, V.int (nm names u), rfl, rfl, SqL.of (sH _ _ h2), ev u (by omega) (by omega), _, rfl, a, CV, dx, _, _, rfl, sH _ _ h1, R'.cl, R'.na _ (by decide +kernel), lk3 (by decide +kernel) (by decide +kernel), _, rfl, ll, _, w, V.int (nm names w), rfl, rfl, SqL.of (sH _ _ h2), ev w (by omega) (by omega), by show 2 ≤ sizeLine; decide, fun g hg => ?_⟩
    have s5 : Same H4 (upd H4 g (.tup [.int (nm names u), .int (nm names w)])) := same_new hg
    have hg5 : TupI (upd H4 g (.tup [.int (nm names u), .int (nm names w)])) g [nm names u, nm names w] := upd_same
    generalize upd H4 g (.tup [.int (nm names u), .int (nm names w)]) = H5 at s5 hg5
    have gg := DB.get (show DB H5 pd al from (sH.trans s5) _ _ g2) hg5
    refine ⟨_, rfl, p, CP, px, _, _, rfl, (sH.trans s5) _ _ g1, R''.cl, R''.na _ (by decide +kernel), lk2 (by decide +kernel), pd, _, rfl, gg, _, rfl, ?_⟩
    by_cases c : [nm names u, nm names w] ∈ al
    · rw [if_pos c]
      exact ift rfl ⟨_, rfl, _, rfl, by show 2 ≤ sizeLine; decide, fun h hh => kT (decide_eq_true c) _ _ (s5.trans (same_new hh)) ⟨h, rfl, upd_same⟩⟩
    · rw [if_neg c]
      exact iff rfl (kF (decide_eq_false c) _ s5)
  · intro H4 ys s4 hD4 hp4
    rw [List.map_id'] at hp4
    have rows := Rows.of hD4 hp4
    have sH := s1.trans s4
    refine ⟨_, rfl, a, CV, dx, _, _, rfl, sH _ _ h1, R'.cl, R'.na _ (by decide +kernel), lk2 (by decide +kernel), _, rfl, fun x dx' hx hdx hne => ?_⟩
    have s5 : Same H4 (upd (upd H4 dx' (.own x)) x (.ins CP dx' [])) := same_upd (same_new hdx) hx
    refine ⟨x, rf, D, dx', N, fs, liftP names al fs, rfl, upd_same, hC.rtf.same (sH.trans s5), rows.same s5, hC.rtf.jr.nd.filter _, fun j hj => (List.mem_filter.mp hj).1, fun H6 hQ hb => ⟨rfl, ?_⟩⟩
    have e : (fs.filter fun j => decide (j ∈ liftP names al fs)) = liftP names al fs := by
      unfold liftP
      refine List.filter_congr fun j hj => ?_
      simp [List.mem_filter, hj]
    rw [e] at hQ
    exact k H6 x (fun c o ec => hb c o ((sH.trans s5) _ _ ec) (ne_of_none (sH _ _ ec) hx)) hQ
end
end K46
end
section
set_option maxHeartbeats 4000000
/-! W14: sums. -/
namespace K46
open PySem Ja
open L2 hiding CX0 E0 pass0 Fun
open PySem.W (Frag findIn isFn fnIn)
open C8 (Cal Met Mak Def Fun CX0 E0 pass0 fnScope fnBody fnArgs fnScope_by cal0 met0 mak0 pe_c pe_mk pe_mt pe_mt0 pe_gc fn0)
/-- the sums of the fine numbers over a jump of the base -/
def sumF (names : List Int) : List (List Int × Int) → List Int → Int
  | [], _ => 0
  | p :: m, j => (if j = [nm names (j0 p.1), nm names (j1 p.1)] then p.2 else 0) + sumF names m j
theorem sumF_snoc (names : List Int) : ∀ (m : List (List Int × Int)) (p : List Int × Int) (j : List Int), sumF names (m ++ [p]) j = sumF names m j + (if j = [nm names (j0 p.1), nm names (j1 p.1)] then p.2 else 0)
  | [], p, j => by simp [sumF]
  | a :: m, p, j => by rw [List.cons_append, sumF, sumF_snoc names m p j, sumF]; omega
def spSums (CR CC CV : Addr) : Sp := fun vs H Q _ => ∃ (a rb rf c r : Addr) (n N : Int) (bs fs : List (List Int)) (names : List Int) (num : List Int → Int), vs = [.ref a, .ref c] ∧ Cv CR CV H a rb rf n N bs fs names ∧ Ct CR CC H c r N fs num ∧ Even n (tabN bs (sumF names (tabN fs num))) ∧
  ∀ H' q, Same H H' → Ct CR CC H' q rb n bs (sumF names (tabN fs num)) → Q (.ref q) H'
theorem putM_tab {rs : List (List Int)} {g : List Int → Int} {k : List Int} {v : Int} (h : k ∈ rs) : putM (tabN rs g) k v = tabN rs fun j => if j = k then v else g j := by
  unfold putM
  rw [if_pos (List.any_eq_true.mpr ⟨(k, g k), List.mem_map.mpr ⟨k, h, rfl⟩, by simp⟩), List.map_map]
  refine List.map_congr_left fun j _ => ?_
  by_cases c : j = k
  · simp [c]
  · simp [c]
theorem Cov.base {n N : Int} {bs fs : List (List Int)} {names : List Int} (c : Cov n bs N fs names) (jb : Jr n bs) (jf : Jr N fs) {s : List Int} (hs : s ∈ fs) : [nm names (j0 s), nm names (j1 s)] ∈ bs := by
  have len := c.len
  obtain ⟨u, v, er, h1, h2, h3⟩ := jf.sh s hs
  have hi : u.toNat < names.length := by omega
  have eu : ((u.toNat : Nat) : Int) = u := by omega
  have pm := c.outs u.toNat hi
  rw [eu] at pm
  have hm : nm names (j1 s) ∈ (outsF bs (nm names u)).map j1 := pm.mem_iff.mp (List.mem_map.mpr ⟨s, List.mem_filter.mpr ⟨hs, decide_eq_true (by rw [er]; rfl)⟩, rfl⟩)
  obtain ⟨t, ht, et⟩ := List.mem_map.mp hm
  obtain ⟨t1, t2⟩ := List.mem_filter.mp ht
  obtain ⟨u', v', er', _⟩ := jb.sh t t1
  have e1 : u' = nm names u := by have := of_decide_eq_true t2; rw [er'] at this; exact this
  have e2 : v' = nm names (j1 s) := by rw [← et, er']; rfl
  have e3 : j0 s = u := by rw [er]; rfl
  rw [e3, ← e1, ← e2, ← er']
  exact t1
section
variable {P : Program} {w : World} {K : Frag} {mg : Str → Option Value} {base : Heap} {f CR CC CV : Addr} {fd : FuncData}
theorem w_sums (T : Tb mg) (R : Cl K mg CR "Routine" ["blocks", "rows", "there"]) (R' : Cl K mg CV "Cover" ["base", "fine", "labels", "leads"]) (R'' : Cl K mg CC "Counts" ["routine", "numbers"]) (c_req : Dn P w K mg base 1 CR "__eq__" (spEq (RtEq CR))) (c_Counts : MakK P w K mg base 6 "Counts" CC (spCinit CR CC))
    (me : Meth K CV "sums" f) (F : Fun K "sums" "Cover.sums" (sCv 10) f fd) (b : Binds K fd ["self", "counts"] []) : Met P w K mg base 8 CV "sums" (spSums CR CC CV) [] := by
  have sc : FnScope ["self", "counts", "found", "jump", "u", "v", "number"] ["self", "counts"] (fnScope (sCv 10)) := fnScope_by (by decide +kernel)
  refine met0 R'.cl me F b sc (fun vs H Q E h => by obtain ⟨_, _, _, _, _, _, _, _, _, _, _, rfl, _⟩ := h; rfl) fun cdv A outer s H vs Q E hr h => ?_
  obtain ⟨a, rb, rf, c, r, n, N, bs, fs, names, num, rfl, hC, hN, ev, k⟩ := h
  have hu := hu_of hr
  refine ⟨_, (pss_cons (ps_if (pt_cmpR (o_ne R c_req hr (by decide)) (pe_fld (pv 1) rfl) (pe_fld (pv 0) rfl) (nomark _)) (pss_one ps_never) pss_nil)
  (pss_cons (ps_setDcT (i := 2) hu rfl sc.nd rfl rfl (swD_true rfl rfl rfl (by decide +kernel)) (pi_list (pe_fld (pe_fld (pv 0) rfl) rfl)) (blkOk_by (own := [("jump", 3)]) (N := ["self", "counts", "found", "jump", "u", "v", "number"]) (sc := fnScope (sCv 10)) (by decide +kernel)) (fun _ _ _ _ _ => (pg_name (i := 3) sc.nd rfl (Or.inl rfl))) (fun _ _ _ _ _ => pts_nil) (fun _ _ _ _ _ => (pv 3)) (fun _ _ _ _ _ => pe_int))
  (pss_cons (ps_lock (ps_for PassesOwn.never rfl (pi_itemsT (pe_fld (pv 1) rfl)) (pg_tup rfl (pgs_cons (pg_tup rfl (pgs_cons (pg_name (i := 4) sc.nd rfl (Or.inl rfl)) (pgs_cons (pg_name (i := 5) sc.nd rfl (Or.inl rfl)) pgs_nil))) (pgs_cons (pg_name (i := 6) sc.nd rfl (Or.inl rfl)) pgs_nil))) (pss_one (ps_daug hu (pv 2) (pe_tup (pa_cons (pe_ix ix_list (pe_fld (pv 0) rfl) (pv 4) (fun _ _ => rfl)) (pa_cons (pe_ix ix_list (pe_fld (pv 0) rfl) (pv 5) (fun _ _ => rfl)) pa_nil))) (pv 6) in_add (fun _ _ _ => rfl)))))
  (pss_one (ps_ret (pe_mkK c_Counts hr (by decide) rfl (pa_cons (pe_fld (pv 0) rfl) (pa_cons (pe_listItemsT rfl (pv 2) (by rfl) T.list PyProof.Rows.boot_list) pa_nil)) (pk_cons pe_non pk_nil)))))))  , ?_⟩
  obtain ⟨dx, ll, ld, h1, h2, h3⟩ := hC.ex
  obtain ⟨cx, d, g1, g2⟩ := hN.ex
  obtain ⟨bx, bl, bd, q1, q2, q3⟩ := hC.rtb.ex
  obtain ⟨rx, rl, rd, r1, r2, r3⟩ := hN.rt.ex
  obtain ⟨fx, fl, fd', p1, p2, p3⟩ := hC.rtf.ex
  obtain ⟨tb, eb, pb⟩ := q2.ex
  have clen := hC.cov.len
  refine ⟨_, rfl, c, CC, cx, _, _, rfl, g1, R''.cl, R''.na _ (by decide +kernel), lk_here, _, rfl, a, CV, dx, _, _, rfl, h1, R'.cl, R'.na _ (by decide +kernel), lk2 (by decide +kernel), ⟨r, rf, rx, fx, _, _, rfl, rfl, r1, p1, N, fs, hN.rt, hC.rtf⟩, fun H1 s1 => ⟨_, rfl, iff rfl ?_⟩⟩
  have s1 : Same H H1 := s1
  refine ⟨_, rfl, a, CV, dx, _, _, rfl, s1 _ _ h1, R'.cl, R'.na _ (by decide +kernel), lk_here, rb, CR, bx, _, _, rfl, s1 _ _ q1, R.cl, R.na _ (by decide +kernel), lk2 (by decide +kernel), bl, rfl, ⟨_, SqL.of (s1 _ _ eb)⟩, fun e he => ?_⟩
  have hlen : bs.length = (tb.map V.ref).length := by rw [List.length_map, Paired.length pb]
  have lb := hC.rtb.l120
  refine dc_fm (ms := bs) (by rw [hlen]; exact walk_list) (fun _ => true) (fun s => s) (fun _ => .int 0) he (by rw [sizeLine_eq]; omega) (by rw [ft, List.map_id']; exact hC.rtb.jr.nd) (fun H' s => SqL.of ((s1.trans s) _ _ eb)) ?_ ?_
  · rintro j x v _ H4 Nx hj s4 ⟨rfl, hx⟩ _ kT
    obtain ⟨t, rfl, hm⟩ := at_item pb hj hx
    exact ⟨rfl, _, rfl, kT rfl _ t (Same.refl _) ((s1.trans s4) _ _ hm)⟩
  intro H2 s2 hD2
  rw [ft] at hD2
  have hD2' : DI H2 e (tabN bs fun _ => 0) := by show _ = _; rw [hD2, List.map_map]; rfl
  have s12 := s1.trans s2
  have hd2 := s12 _ _ g2
  have e0 : H e = none := s1.free he
  have hde : d ≠ e := fun z => by rw [z] at g2; cases g2.symm.trans e0
  refine ⟨d, _, hd2, trivial, fun od => ?_⟩
  have HBdef : ∀ {b o}, H b = some o → o ≠ .dT ((tabN fs num).map fun p => (keyOf p.1, V.int p.2)) → (upd H d (.frz od (.dT ((tabN fs num).map fun p => (keyOf p.1, V.int p.2))))) b = some o := fun {b o} hb ne => lock_ne g2 hb ne
  have le0 : (upd H d (.frz od (.dT ((tabN fs num).map fun p => (keyOf p.1, V.int p.2))))) e = none := by rw [upd_ne (Ne.symm hde)]; exact e0
  have hle : (upd H2 d (.frz od (.dT ((tabN fs num).map fun p => (keyOf p.1, V.int p.2))))) e = some (.dT ((tabN bs fun _ => 0).map fun p => (keyOf p.1, V.int p.2))) := by rw [upd_ne (Ne.symm hde)]; exact hD2'
  have sl : Same (upd H d (.frz od (.dT ((tabN fs num).map fun p => (keyOf p.1, V.int p.2))))) (upd H2 d (.frz od (.dT ((tabN fs num).map fun p => (keyOf p.1, V.int p.2))))) := fun b o eb => by
    by_cases q : b = d
    · subst q; rw [upd_same] at eb ⊢; exact eb
    · rw [upd_ne q] at eb ⊢
      exact s12 _ _ eb
  have fz0 : (upd H d (.frz od (.dT ((tabN fs num).map fun p => (keyOf p.1, V.int p.2))))) d = some (.frz od (.dT (dM V.int (tabN fs num)))) := upd_same
  have ul : ∀ H', Same (upd H d (.frz od (.dT ((tabN fs num).map fun p => (keyOf p.1, V.int p.2))))) H' → H' d = some (.frz od (.dT ((tabN fs num).map fun p => (keyOf p.1, V.int p.2)))) ∧ Same H (upd H' d (.dT ((tabN fs num).map fun p => (keyOf p.1, V.int p.2)))) := fun H' s => unlock g2 s
  have g1b := HBdef g1 (fun z => by cases z)
  have h1b := HBdef h1 (fun z => by cases z)
  have h2b := HBdef h2 (fun z => by cases z)
  generalize upd H2 d (.frz od (.dT ((tabN fs num).map fun p => (keyOf p.1, V.int p.2)))) = HL at hle sl
  generalize upd H d (.frz od (.dT ((tabN fs num).map fun p => (keyOf p.1, V.int p.2)))) = HB at le0 sl fz0 ul g1b h1b h2b
  refine ⟨_, rfl, c, CC, cx, _, _, rfl, sl _ _ g1b, R''.cl, R''.na _ (by decide +kernel), lk2 (by decide +kernel), d, od, dM V.int (tabN fs num), rfl, sl _ _ fz0, for_it walk_itI (fun i σ H' => (∃ v4 v5 v6, σ = [some (.ref a), some (.ref c), some (.ref e), none, v4, v5, v6]) ∧ Same HB H' ∧ DI H' e (tabN bs (sumF names ((tabN fs num).take i))))
    ⟨⟨none, none, none, rfl⟩, sl, hle⟩ (fun i σ H' _ h => h.2.1 _ _ fz0) ?_ ?_⟩
  · rintro i x σ H3 H4 hi ⟨⟨v4, v5, v6, rfl⟩, s3, hm⟩ ⟨t, q, p, hp, rfl, ht, hq, rfl⟩
    obtain ⟨y, hy, rfl⟩ := List.mem_map.mp (List.mem_of_getElem? hp)
    obtain ⟨u, w, rfl, a0, a1, a2⟩ := hC.rtf.jr.sh y hy
    have hbs : [nm names u, nm names w] ∈ bs := hC.cov.base hC.rtb.jr hC.rtf.jr hy
    have s4 : Same H3 (upd H3 t (.tup [.ref q, .int (num [u, w])])) := same_new ht
    refine ⟨t, _, rfl, SqT.of upd_same, rfl, _, _, rfl, ⟨q, _, rfl, SqT.of (s4 _ _ hq), rfl, _, _, rfl, _, _, rfl, rfl, _, _, rfl, rfl, ?_⟩⟩
    have s5 := s3.trans s4
    have hm4 := s4 _ _ hm
    generalize upd H3 t (.tup [.ref q, .int (num [u, w])]) = H4 at s5 hm4
    have ev : ∀ z : Int, 0 ≤ z → z ≤ N - 1 → atI (names.map V.int) z = some (.int (nm names z)) := fun z z0 z1 => by
      have e : z = ((z.toNat : Nat) : Int) := by omega
      rw [e]
      refine atI_nat ?_
      rw [List.getElem?_map, nm_get (by omega)]
      rfl
    refine ⟨_, rfl, _, rfl, a, CV, dx, _, _, rfl, s5 _ _ h1b, R'.cl, R'.na _ (by decide +kernel), lk3 (by decide +kernel) (by decide +kernel), _, rfl, ll, _, u, V.int (nm names u), rfl, rfl, SqL.of (s5 _ _ h2b), ev u (by omega) (by omega), _, rfl, a, CV, dx, _, _, rfl, s5 _ _ h1b, R'.cl, R'.na _ (by decide +kernel), lk3 (by decide +kernel) (by decide +kernel), _, rfl, ll, _, w, V.int (nm names w), rfl, rfl, SqL.of (s5 _ _ h2b), ev w (by omega) (by omega), by show 2 ≤ sizeLine; decide, fun g hg => ?_⟩
    have s6 : Same H4 (upd H4 g (.tup [.int (nm names u), .int (nm names w)])) := same_new hg
    have hg6 : TupI (upd H4 g (.tup [.int (nm names u), .int (nm names w)])) g [nm names u, nm names w] := upd_same
    have hm6 := s6 _ _ hm4
    have s7 := s5.trans s6
    generalize upd H4 g (.tup [.int (nm names u), .int (nm names w)]) = H5 at s7 hg6 hm6
    have gg := DGet.t (H := H5) (a := e) (b := g) (k := keyOf [nm names u, nm names w]) hm6 (by rw [keyOf_V]; exact hg6)
    have eg : valV ((tabN bs (sumF names ((tabN fs num).take i))).map fun p => (keyOf p.1, V.int p.2)) (keyOf [nm names u, nm names w]) = some (.int (sumF names ((tabN fs num).take i) [nm names u, nm names w])) := (look_V V.int _ _).trans (by rw [look_mark, if_pos hbs]; rfl)
    rw [eg] at gg
    have lb2 : ((tabN bs (sumF names ((tabN fs num).take i))).map fun p => (keyOf p.1, V.int p.2)).length < sizeLine := by rw [List.length_map, List.length_map, sizeLine_eq]; omega
    refine ⟨e, _, rfl, gg, _, rfl, _, _, rfl, rfl, _, DPut.t (k := keyOf [nm names u, nm names w]) hm6 (by rw [keyOf_V]; exact hg6) lb2, ⟨_, _, _, rfl⟩, same_upd s7 le0, ?_⟩
    show upd _ _ _ _ = _
    rw [upd_same]
    have ep := put_V V.int (tabN bs (sumF names ((tabN fs num).take i))) [nm names u, nm names w] (sumF names ((tabN fs num).take i) [nm names u, nm names w] + num [u, w])
    rw [putM_tab hbs] at ep
    have ec : (tabN bs fun j => if j = [nm names u, nm names w] then sumF names ((tabN fs num).take i) [nm names u, nm names w] + num [u, w] else sumF names ((tabN fs num).take i) j) = tabN bs (sumF names ((tabN fs num).take (i + 1))) := tab_congr fun j _ => by
      rw [tk_more hp, sumF_snoc]
      show _ = sumF names ((tabN fs num).take i) j + (if j = [nm names u, nm names w] then num [u, w] else 0)
      by_cases c : j = [nm names u, nm names w]
      · rw [if_pos c, if_pos c, c]
      · rw [if_neg c, if_neg c]; omega
    rw [ec] at ep
    exact congrArg (fun z => some (HO.dT z)) ep
  · rintro σ H3 ⟨⟨v4, v5, v6, rfl⟩, s3, hm⟩
    rw [List.take_length] at hm
    obtain ⟨fz, s4⟩ := ul H3 s3
    refine ⟨fz, ?_⟩
    have hm4 : DI (upd H3 d (.dT ((tabN fs num).map fun p => (keyOf p.1, V.int p.2)))) e (tabN bs (sumF names (tabN fs num))) := by show upd _ _ _ _ = _; rw [upd_ne (Ne.symm hde)]; exact hm
    generalize upd H3 d (.dT ((tabN fs num).map fun p => (keyOf p.1, V.int p.2))) = H4 at s4 hm4
    refine ⟨_, rfl, a, CV, dx, _, _, rfl, s4 _ _ h1, R'.cl, R'.na _ (by decide +kernel), lk_here, _, rfl, e, dM V.int (tabN bs (sumF names (tabN fs num))), rfl, hm4, fun H5 S as s5 hS eS i => ?_⟩
    have prs := items_prs eS i
    refine ⟨rfl, rfl, fun x dx' hx hdx hne => ?_⟩
    have s6 : Same H5 (upd (upd H5 dx' (.own x)) x (.ins CC dx' [])) := same_upd (same_new hdx) hx
    have sH := (s4.trans s5).trans s6
    have nn : ∀ m : List (List Int × Int), (∀ p ∈ m, 0 ≤ p.2) → ∀ j, 0 ≤ sumF names m j := by
      intro m
      induction m with
      | nil => intro _ _; exact Int.le_refl 0
      | cons p m ih =>
        intro h j
        have h1 := ih (fun q hq => h q (List.mem_cons_of_mem _ hq)) j
        have h2 := h p List.mem_cons_self
        rw [sumF]
        split <;> omega
    have nnT : ∀ j, 0 ≤ sumF names (tabN fs num) j := nn _ fun p hp => by
      obtain ⟨y, hy, rfl⟩ := List.mem_map.mp hp
      exact hN.pos y hy
    have ec : tabN bs (numF (tabN bs (sumF names (tabN fs num)))) = tabN bs (sumF names (tabN fs num)) := tab_congr fun j hj => numF_tab hj
    refine ⟨x, rb, S, dx', .non, n, bs, tabN bs (sumF names (tabN fs num)), rfl, upd_same, hC.rtb.same sH, prs.same s6, by rw [tab_keys]; exact hC.rtb.jr.nd, fun q hq => ?_, by rw [ec]; exact ev, fun H7 hC7 hb => ⟨rfl, ?_⟩⟩
    · obtain ⟨j, hj, rfl⟩ := List.mem_map.mp hq
      exact ⟨hj, nnT j, .inl rfl⟩
    · exact k H7 x (fun b o eo => hb b o (sH _ _ eo) (ne_of_none ((s4.trans s5) _ _ eo) hx)) (hC7.congr fun j hj => numF_tab hj)
end
end K46
end
section
set_option maxHeartbeats 4000000
/-! V5: lifts of runs. -/
namespace K46
open PySem Ja
open L2 hiding CX0 E0 pass0 Fun
/-- the lift, block by block -/
def liftL (fs : List (List Int)) (names : List Int) (r : List Int) : List Int := r.tail.foldl (fun acc b => acc ++ [numF (leadsF fs names) [lst acc, b]]) [0]
structure IsLift (fs : List (List Int)) (names r r' : List Int) : Prop where
  hd : r'.head? = some 0
  st : ∀ s ∈ stepsI r', s ∈ fs
  mp : r'.map (nm names) = r
theorem look_of {β : Type} : ∀ {m : List (List Int × β)} {k : List Int} {v : β}, (m.map (·.1)).Nodup → (k, v) ∈ m → look m k = some v
  | p :: m, k, v, nd, h => by
    unfold look
    rw [List.find?_cons]
    by_cases e : p.1 = k
    · rw [decide_eq_true e]
      rcases List.mem_cons.mp h with z | z
      · rw [← z]; rfl
      · exact absurd (List.mem_map.mpr ⟨_, z, e.symm⟩) (List.nodup_cons.mp (by rw [List.map_cons] at nd; exact nd)).1
    · rw [decide_eq_false e]
      rcases List.mem_cons.mp h with z | z
      · exact absurd (by rw [← z]) e
      · exact look_of (m := m) (List.nodup_cons.mp (by rw [List.map_cons] at nd; exact nd)).2 z
theorem stepsI_snoc : ∀ (a : Int) (r : List Int) (v : Int), stepsI (a :: r ++ [v]) = stepsI (a :: r) ++ [[lst (a :: r), v]]
  | a, [], v => rfl
  | a, b :: r, v => by
    show [a, b] :: stepsI (b :: r ++ [v]) = [a, b] :: stepsI (b :: r) ++ [[lst (a :: b :: r), v]]
    rw [stepsI_snoc b r v, List.cons_append]
    rfl
theorem stepsI_snoc' {r : List Int} (h : r ≠ []) (v : Int) : stepsI (r ++ [v]) = stepsI r ++ [[lst r, v]] := by
  cases r with
  | nil => exact absurd rfl h
  | cons a r => exact stepsI_snoc a r v
theorem stepsI_len : ∀ r : List Int, (stepsI r).length = r.length - 1
  | [] => rfl
  | [_] => rfl
  | x :: y :: r => by rw [stepsI, List.length_cons, stepsI_len (y :: r)]; simp
theorem lst_mem {r : List Int} (h : r ≠ []) : lst r ∈ r := by
  unfold lst
  rw [List.getLastD_eq_getLast?, List.getLast?_eq_some_getLast h]
  exact List.getLast_mem h
section
variable {n N : Int} {bs fs : List (List Int)} {names : List Int}
theorem Cov.step (c : Cov n bs N fs names) (jb : Jr n bs) (jf : Jr N fs) {u b : Int} (u0 : 0 ≤ u) (u1 : u ≤ N - 1) (h : [nm names u, b] ∈ bs) : ∃ v, [u, v] ∈ fs ∧ nm names v = b ∧ look (leadsF fs names) [u, b] = some v := by
  have len := c.len
  have hi : u.toNat < names.length := by omega
  have eu : ((u.toNat : Nat) : Int) = u := by omega
  have pm := c.outs u.toNat hi
  rw [eu] at pm
  have hb : b ∈ (outsF bs (nm names u)).map j1 := List.mem_map.mpr ⟨_, List.mem_filter.mpr ⟨h, decide_eq_true rfl⟩, rfl⟩
  obtain ⟨s, hs, es⟩ := List.mem_map.mp (pm.mem_iff.mpr hb)
  obtain ⟨h1, h2⟩ := List.mem_filter.mp hs
  obtain ⟨x, v, er, _⟩ := jf.sh s h1
  have e1 : x = u := by have := of_decide_eq_true h2; rw [er] at this; exact this
  have e2 : j1 s = v := by rw [er]; rfl
  rw [e2] at es
  rw [e1] at er
  refine ⟨v, er ▸ h1, es, look_of (c.leads jb jf) (List.mem_map.mpr ⟨s, h1, ?_⟩)⟩
  rw [er]
  show ([u, nm names v], v) = _
  rw [es]
theorem Jr.pair (j : Jr n bs) {u v : Int} (h : [u, v] ∈ bs) : 0 ≤ u ∧ u < v ∧ v ≤ n - 1 := by
  obtain ⟨x, y, e, h1, h2, h3⟩ := j.sh _ h
  injection e with e1 e2
  injection e2 with e2 e3
  subst e1 e2
  exact ⟨h1, h2, h3⟩
theorem stepsI_all {p : Int → Prop} : ∀ {r : List Int}, 2 ≤ r.length → (∀ s ∈ stepsI r, p (j0 s) ∧ p (j1 s)) → ∀ b ∈ r, p b
  | [], h, _, _, _ => by simp at h
  | [_], h, _, _, _ => by simp at h
  | [x, y], _, h, b, hb => by
    have := h [x, y] List.mem_cons_self
    rcases List.mem_cons.mp hb with z | z
    · rw [z]; exact this.1
    · rw [List.mem_singleton.mp z]; exact this.2
  | x :: y :: z :: r, _, h, b, hb => by
    rcases List.mem_cons.mp hb with e | e
    · rw [e]; exact (h [x, y] List.mem_cons_self).1
    · exact stepsI_all (r := y :: z :: r) (by simp) (fun s hs => h s (List.mem_cons_of_mem _ hs)) b e
theorem run_bounds (j : Jr n bs) {r : List Int} (h : RunB n bs r) : ∀ b ∈ r, 0 ≤ b ∧ b ≤ n - 1 := by
  obtain ⟨h1, h2, _⟩ := runB_iff.mp h
  refine stepsI_all h1 fun s hs => ?_
  obtain ⟨u, v, rfl, a0, a1, a2⟩ := j.sh s (h2 s hs)
  exact ⟨⟨by show 0 ≤ u; omega, by show u ≤ n - 1; omega⟩, ⟨by show 0 ≤ v; omega, a2⟩⟩
/-- one step of the lift -/
theorem IsLift.more (c : Cov n bs N fs names) (jb : Jr n bs) (jf : Jr N fs) {r r' : List Int} {b : Int} (h : IsLift fs names r r') (u1 : lst r' ≤ N - 1) (u0 : 0 ≤ lst r') (hb : [lst r, b] ∈ bs) : ∃ v, look (leadsF fs names) [lst r', b] = some v ∧ IsLift fs names (r ++ [b]) (r' ++ [v]) ∧ 0 ≤ v ∧ v ≤ N - 1 := by
  have hr : r' ≠ [] := fun z => by have := h.hd; rw [z] at this; cases this
  have el : lst r = nm names (lst r') := by
    rw [← h.mp]
    unfold lst
    rw [List.getLastD_eq_getLast?, List.getLastD_eq_getLast?, List.getLast?_map, List.getLast?_eq_some_getLast hr]
    rfl
  rw [el] at hb
  obtain ⟨v, h1, h2, h3⟩ := c.step jb jf u0 u1 hb
  obtain ⟨p1, p2, p3⟩ := jf.pair h1
  refine ⟨v, h3, ⟨?_, ?_, ?_⟩, by omega, p3⟩
  · rw [List.head?_append, h.hd]; rfl
  · rw [stepsI_snoc' hr]
    intro s hs
    rcases List.mem_append.mp hs with z | z
    · exact h.st s z
    · rw [List.mem_singleton.mp z]; exact h1
  · rw [List.map_append, h.mp]
    show r ++ [nm names v] = _
    rw [h2]
theorem run_step {b0 : Int} {r : List Int} (h : RunB n bs (b0 :: r)) {i : Nat} (hi : i < r.length) : [lst ((b0 :: r).take (i + 1)), r[i]] ∈ bs := by
  obtain ⟨h1, h2, h3, h4⟩ := runB_iff.mp h
  have ei : r[i]? = some r[i] := List.getElem?_eq_getElem (by omega)
  have ej : (b0 :: r)[i + 1]? = some r[i] := by rw [List.getElem?_cons_succ]; exact ei
  refine h2 _ ?_
  have e : (b0 :: r).take (i + 1) ++ [r[i]] ++ (b0 :: r).drop (i + 2) = b0 :: r := by rw [← tk_more ej]; exact List.take_append_drop (i + 2) (b0 :: r)
  have ne : (b0 :: r).take (i + 1) ≠ [] := by simp
  have : ∀ (a c : List Int), a ≠ [] → ∀ s ∈ stepsI a, s ∈ stepsI (a ++ c) := by
    intro a
    induction a with
    | nil => intro _ h; exact absurd rfl h
    | cons x a ih =>
      intro c _ s hs
      cases a with
      | nil => cases hs
      | cons y a =>
        rcases List.mem_cons.mp hs with z | z
        · exact List.mem_cons.mpr (.inl z)
        · exact List.mem_cons.mpr (.inr (ih c (by simp) s z))
  refine (congrArg (fun l => [lst ((b0 :: r).take (i + 1)), r[i]] ∈ stepsI l) e).mp (this _ _ (by simp) _ ?_)
  rw [stepsI_snoc' ne]
  exact List.mem_append_right _ List.mem_cons_self
theorem lift_take (c : Cov n bs N fs names) (jb : Jr n bs) (jf : Jr N fs) (n1 : 1 ≤ N) {b0 : Int} {r : List Int} (h : RunB n bs (b0 :: r)) : ∀ i : Nat, i ≤ r.length → IsLift fs names ((b0 :: r).take (i + 1)) ((r.take i).foldl (fun acc b => acc ++ [numF (leadsF fs names) [lst acc, b]]) [0]) ∧ 0 ≤ lst ((r.take i).foldl (fun acc b => acc ++ [numF (leadsF fs names) [lst acc, b]]) [0]) ∧ lst ((r.take i).foldl (fun acc b => acc ++ [numF (leadsF fs names) [lst acc, b]]) [0]) ≤ N - 1
  | 0, _ => by
    obtain ⟨h1, h2, h3, h4⟩ := runB_iff.mp h
    have e : b0 = 0 := Option.some.inj h3
    subst e
    refine ⟨⟨rfl, (fun s hs => by cases hs), ?_⟩, by show (0 : Int) ≤ 0; omega, by show (0 : Int) ≤ N - 1; omega⟩
    show [nm names 0] = [0]
    rw [c.first]
  | i + 1, hi => by
    obtain ⟨ih, u0, u1⟩ := lift_take c jb jf n1 h i (by omega)
    obtain ⟨h1, h2, h3, h4⟩ := runB_iff.mp h
    have ei : r[i]? = some r[i] := List.getElem?_eq_getElem (by omega)
    have ej : (b0 :: r)[i + 1]? = some r[i] := by rw [List.getElem?_cons_succ]; exact ei
    have hb := run_step h (show i < r.length by omega)
    obtain ⟨v, g1, g2, g3, g4⟩ := ih.more c jb jf u1 u0 hb
    rw [tk_more ei, List.foldl_append, tk_more ej]
    show IsLift fs names _ (_ ++ [numF _ _]) ∧ 0 ≤ lst (_ ++ [numF _ _]) ∧ lst (_ ++ [numF _ _]) ≤ N - 1
    rw [look_numF g1, lst_snoc]
    exact ⟨g2, g3, g4⟩
theorem lift_is (c : Cov n bs N fs names) (jb : Jr n bs) (jf : Jr N fs) (n1 : 1 ≤ N) {r : List Int} (h : RunB n bs r) : IsLift fs names r (liftL fs names r) := by
  cases r with
  | nil => obtain ⟨h1, _⟩ := runB_iff.mp h; simp at h1
  | cons b0 r =>
    have := (lift_take c jb jf n1 h r.length (Nat.le_refl _)).1
    rw [List.take_length, List.take_of_length_le (by simp)] at this
    exact this
end
end K46
end
section
set_option maxHeartbeats 4000000
/-! W15: lift, name. -/
namespace K46
open PySem Ja PyProof.Rows
open L2 hiding CX0 E0 pass0 Fun del del_ne
open PySem.W (Frag findIn typeIn isFn fnIn)
open C8 (Cal Met Mak Def Fun CX0 E0 pass0 fnScope fnBody fnArgs fnScope_by cal0 met0 mak0 pe_c pe_mk pe_mt pe_mt0 pe_gc fn0)
/-- a method that may raise -/
structure MetX (P : Program) (w : World) (K : Frag) (mg : Str → Option Value) (base : Heap) (k : Nat) (C : Addr) (m : Str) (sp : Sp) : Prop where
  ex : ∃ f fd ps, Cls K C ∧ Meth K C m f ∧ FnOk P w K mg base (L2.CX P w) k f fd ps sp ∧ Binds K fd ps []
def spNoR (CN : Addr) : Sp := fun vs H Q _ => ∃ (e : Addr) (v : V), vs = [.ref e, v] ∧ H e = some (exo e CN none) ∧ ∀ d, H d = none → d ≠ e → Q .non (upd (upd H d (exd d [("run", v)])) e (exo e CN (some d)))
/-- the class NoRun -/
structure NR (P : Program) (w : World) (K : Frag) (mg : Str → Option Value) (base : Heap) (CN : Addr) : Prop where
  o : OexC K CN
  xf : XfC K CN
  gl : mg "NoRun" = some (.ref CN)
  nf : findIn K (.ref CN) "run" = some none
  te : PySem.W.exmOne K (.ref CN) (.ref CN) = some true
  ini : ∃ f fd ps, findIn K (.ref CN) "__init__" = some (some (.ref f)) ∧ typeIn K (.ref f) = some (.type "function") ∧ FnOk P w K mg base CX0 1 f fd ps (spNoR CN) ∧ Binds K fd ps []
/-- a def that may raise, by its body -/
theorem fnX {P : Program} {w : World} {K : Frag} {mg : Str → Option Value} {base : Heap} {x qual : Str} {st : Stmt} {f : Addr} {fd : FuncData} {N ps : List Str} {k : Nat} {sp : Sp} (F : Fun K x qual st f fd) (S : FnScope N ps (fnScope st)) (len : ∀ vs H Q E, sp vs H Q E → vs.length = ps.length)
    (hb : ∀ (cdv : Value) (A : Around) (outer : List Env) (s : Shared) (H : Hp) (vs : List V) (Q : VK) (E : XK), Room k (A.deeper (envOfC qual (fnScope st) s.heap.objs.size f cdv)) → sp vs H Q E →
      ∃ t, PSs (cxOf (L2.CX P w) P w K mg base N qual (fnScope st) f cdv A outer s H E) (fnBody st) t ∧ t { nx := fun _ H' => Q .non H', rt := Q } (start N vs) H) : FnOk P w K mg base (L2.CX P w) (k + 1) f fd ps sp := by
  obtain ⟨oc, od, dV, kV, doc, pm, an, cdv, ct, osl, rfl, lk, hcd⟩ := F.ex
  exact fn_of lk hcd S len fun A outer s H vs Q E hr hsp => hb cdv A outer s H vs Q E hr hsp
section
variable {X : Cx} {k j : Nat} {C CN : Addr} {x m : Str} {sp : Sp} {p pos apos : Pos} {e o : Expr} {es : List Expr} {ta : TE} {t : TA}
theorem pmk_nr (N : NR X.prog X.w X.K X.mg X.base CN) (hr : Room j X.A) (hk : 2 ≤ j) (hg : Gl X "NoRun") (ha : PA X (e :: es) t)
    (he : starEach (e :: es) X.env = (false, eval e X.env) :: starEach es X.env := by rfl) (hpl : (backTo pos (starEach es X.env)).any (·.1) = false := by rfl) : PMk X (.Call (.Name "NoRun" p) (e :: es) [] pos) (tMkO CN (spNoR CN) [] t) := by
  obtain ⟨f, fd, ps, h1, h2, F, b⟩ := N.ini
  exact pmk_oex N.o h1 h2 F (hr.mono hk) b .nil pass0 hg N.gl ha (by decide) he hpl
/-- a method that may raise, where it does not -/
theorem pe_mx {pl : Sem Bool} (c : MetX X.prog X.w X.K X.mg X.base k C m sp) (hr : Room j X.A) (hk : k ≤ j) (he : PE X o ta) (ha : PA X (e :: es) t)
    (hst : starEach (e :: es) X.env = (false, eval e X.env) :: starEach es X.env := by rfl) (hpl : (backTo pos (starEach es X.env)).any (·.1) = false := by rfl)
    (ht : eval (.Call (.Attribute o m apos) (e :: es) [] pos) X.env = (do
      let ov ← eval o X.env
      standAt apos.atName
      let (g, first) ← holding [ov] (getMethod ov m pl)
      callWith pos g first (backTo pos (starEach (e :: es) X.env)) (backToKw pos (keywordEach [] X.env))) := by rfl) :
    PE X (.Call (.Attribute o m apos) (e :: es) [] pos) (tMeth C m sp [] E0 ta t) := by
  obtain ⟨f, fd, ps, hc, hm, F, b⟩ := c.ex
  refine pe_meth (pl := pl) he hc hm F (hr.mono hk) b .nil (fun pins σ H s u s' I z => ?_) ha hst hpl ht
  obtain ⟨a, B, H', cls, d, _, _, _, _, _, _, _, z⟩ := z
  exact z.elim
end
def spLift (CR CV CN : Addr) : Sp := fun vs H Q E => ∃ (a rb rf : Addr) (n N : Int) (bs fs : List (List Int)) (names : List Int) (v : V) (o : Option (List V)), vs = [.ref a, v] ∧ Cv CR CV H a rb rf n N bs fs names ∧ Val H v o ∧ (∀ xs, o = some xs → xs.length < 1000) ∧
  (runV n bs o = false → ∀ d H', Same H H' → H' d = some (.xd [("run", v)]) → E (.ref CN) (some d) H') ∧
  (∀ r : List Int, o = some (r.map V.int) → RunB n bs r → ∀ H' t, Same H H' → TupI H' t (liftL fs names r) → Q (.ref t) H')
/-- what name asks of the cover -/
structure Cn (CR CV : Addr) (H : Hp) (a rf : Addr) (N : Int) (fs : List (List Int)) (names : List Int) : Prop where
  rtf : Rt CR H rf N fs
  len : (names.length : Int) = N
  ex : ∃ dx rb l ld, H a = some (.ins CV dx [("base", rb), ("fine", .ref rf), ("labels", .ref l), ("leads", ld)]) ∧ IntL H l names
theorem Cn.same {CR CV : Addr} {H H' : Hp} {a rf : Addr} {N : Int} {fs : List (List Int)} {names : List Int} (h : Cn CR CV H a rf N fs names) (e : Same H H') : Cn CR CV H' a rf N fs names := by
  obtain ⟨dx, rb, l, ld, h1, h2⟩ := h.ex
  exact ⟨h.rtf.same e, h.len, dx, rb, l, ld, e _ _ h1, e _ _ h2⟩
theorem Cv.cn {CR CV : Addr} {H : Hp} {a rb rf : Addr} {n N : Int} {bs fs : List (List Int)} {names : List Int} (h : Cv CR CV H a rb rf n N bs fs names) : Cn CR CV H a rf N fs names := by
  obtain ⟨dx, l, d, h1, h2, h3⟩ := h.ex
  exact ⟨h.rtf, h.cov.len, dx, _, l, _, h1, h2⟩
def spName (CR CV CN : Addr) : Sp := fun vs H Q E => ∃ (a rf : Addr) (N : Int) (fs : List (List Int)) (names : List Int) (v : V) (o : Option (List V)), vs = [.ref a, v] ∧ Cn CR CV H a rf N fs names ∧ Val H v o ∧ (∀ xs, o = some xs → xs.length < 1000) ∧
  (runV N fs o = false → ∀ d H', Same H H' → H' d = some (.xd [("run", v)]) → E (.ref CN) (some d) H') ∧
  (∀ r : List Int, o = some (r.map V.int) → RunB N fs r → ∀ H' t, Same H H' → TupI H' t (r.map (nm names)) → Q (.ref t) H')
/-- behind NoRun(v) -/
theorem nr_end {CN : Addr} {H1 : Hp} {v : V} {E : XK} (h : ∀ d H', Same H1 H' → H' d = some (.xd [("run", v)]) → E (.ref CN) (some d) H') : (([v] : List V)).length ≤ 1000 ∧ ∀ a, H1 a = none → spNoR CN (.ref a :: ([v] ++ [])) (upd H1 a (exo a CN none))
    (fun u H2 => u = .non ∧ ∃ (d : Addr) (fs : List (Str × V)), H2 a = some (exo a CN (some d)) ∧ H2 d = some (exd d fs) ∧ H1 d = none ∧ E (.ref CN) (some d) (upd (L2.del H2 a) d (.xd fs))) (fun _ _ _ => False) := by
  refine ⟨by show 1 ≤ 1000; decide, fun a ha => ⟨a, v, rfl, upd_same, fun d hd hda => ⟨rfl, d, _, upd_same, (upd_ne hda).trans upd_same, ?_, h d _ (fun b o e => ?_) upd_same⟩⟩⟩
  · rw [upd_ne hda] at hd; exact hd
  · rw [upd_ne hda] at hd
    have q1 : b ≠ d := ne_of_none e hd
    have q2 : b ≠ a := ne_of_none e ha
    rw [upd_ne q1, L2.del_ne q2, upd_ne q2, upd_ne q1, upd_ne q2]
    exact e
theorem run_ints {n : Int} {rs : List (List Int)} {o : Option (List V)} (h : runV n rs o = true) : ∃ r : List Int, o = some (r.map V.int) ∧ RunB n rs r := by
  cases o with
  | none => cases h
  | some xs =>
    have h' := h
    rw [runV_some, Bool.and_eq_true, Bool.and_eq_true] at h'
    obtain ⟨r, rfl⟩ := stepsV_ints (of_decide_eq_true h'.1.1) h'.1.2
    exact ⟨r, rfl, h⟩
theorem val_tup {H : Hp} {v : V} {xs : List V} (h : Val H v (some xs)) : ∃ t, v = .ref t ∧ H t = some (.tup xs) := by
  cases h with
  | tup h a => exact ⟨_, rfl, h⟩
section
variable {P : Program} {w : World} {K : Frag} {mg : Str → Option Value} {base : Heap} {f CR CV CN : Addr} {fd : FuncData}
theorem w_NRinit (O : OexC K CN) (nf : findIn K (.ref CN) "run" = some none) (F : Fun K "__init__" "NoRun.__init__" (inClass (top 8) 0) f fd) : FnOk P w K mg base CX0 1 f fd ["self", "run"] (spNoR CN) := by
  have sc : FnScope ["self", "run"] ["self", "run"] (fnScope (inClass (top 8) 0)) := fnScope_by (by decide +kernel)
  refine fn0 F sc (fun vs H Q E h => by obtain ⟨_, _, rfl, _⟩ := h; rfl) fun cdv A outer s H vs Q E hr h => ?_
  obtain ⟨e, v, rfl, he, k⟩ := h
  refine ⟨_, pss_one (ps_ost (pv 0) (pv 1)), ?_⟩
  exact ⟨_, rfl, _, rfl, e, CN, rfl, O, nf, .inl ⟨he, fun d hd hne => k d hd hne⟩⟩
theorem w_name (T : Tb mg) (R : Cl K mg CR "Routine" ["blocks", "rows", "there"]) (R' : Cl K mg CV "Cover" ["base", "fine", "labels", "leads"]) (N : NR P w K mg base CN) (c_is_run : Met P w K mg base 5 CR "is_run" (spIsRun CR) [])
    (me : Meth K CV "name" f) (F : Fun K "name" "Cover.name" (sCv 6) f fd) (b : Binds K fd ["self", "run"] []) : MetX P w K mg base 6 CV "name" (spName CR CV CN) := by
  have sc : FnScope ["self", "run", "block"] ["self", "run"] (fnScope (sCv 6)) := fnScope_by (by decide +kernel)
  refine ⟨f, fd, _, R'.cl, me, fnX F sc (fun vs H Q E h => by obtain ⟨_, _, _, _, _, _, _, rfl, _⟩ := h; rfl) fun cdv A outer s H vs Q E hr h => ?_, b⟩
  obtain ⟨a, rf, M, fs, names, v, o, rfl, hC, hv, hl, kE, kQ⟩ := h
  have hu := hu_of hr
  refine ⟨_, (pss_cons (ps_if (pt_not (pt_val (pe_mt (pl := _) c_is_run hr (by decide) (pe_fld (pv 0) rfl) (pa_cons (pv 1) pa_nil)))) (pss_one (ps_raise rfl (takes_of rfl rfl rfl rfl) (pmk_nr N hr (by decide) rfl (pa_cons (pv 1) pa_nil)))) pss_nil)
  (pss_one (ps_ret (pe_callTy call_tuple_of (by rfl) T.tuple PyProof.Rows.boot_tuple (pa_cons (pe_lc (own := [("block", 2)]) rfl sc.nd (pi_tup (pv 1)) (blkOk_by (own := [("block", 2)]) (N := ["self", "run", "block"]) (sc := fnScope (sCv 6)) (by decide +kernel)) (fun _ _ _ _ _ => (pg_name (i := 2) sc.nd rfl (Or.inl rfl))) (fun _ _ _ _ _ => pts_nil) (fun _ _ _ _ _ => (pe_ix (ixL (K := K) rfl) (pe_fldK (K := K) rfl (pv 0) rfl) (pv 2) (fun _ _ => rfl)))) pa_nil))))), ?_⟩
  obtain ⟨dx, rb, ll, ld, h1, h2⟩ := hC.ex
  obtain ⟨fx, fl, fd', p1, p2, p3⟩ := hC.rtf.ex
  refine ⟨_, rfl, a, CV, dx, _, _, rfl, h1, R'.cl, R'.na _ (by decide +kernel), lk2 (by decide +kernel), rf, fx, _, rfl, p1, by rfl, _, rfl, rf, v, M, fs, o, rfl, hC.rtf, hv, hl, fun H1 s1 => ?_⟩
  refine ⟨_, rfl, ifb (fun c => ?_) (fun c => ?_)⟩
  · have c' : runV M fs o = false := by simpa using c
    exact ⟨_, rfl, nr_end fun d H' s hd => kE c' d H' (s1.trans s) hd⟩
  have c' : runV M fs o = true := by simpa using c
  obtain ⟨r, rfl, hr'⟩ := run_ints c'
  obtain ⟨t, rfl, ht⟩ := val_tup hv
  have hlr := hl _ rfl
  have clen := hC.len
  obtain ⟨r1, r2, r3, r4⟩ := runB_iff.mp hr'
  have hb := run_bounds hC.rtf.jr hr'
  refine ⟨_, rfl, t, rfl, ⟨_, SqT.of (s1 _ _ ht)⟩, fun D hD => ?_⟩
  have hlen : r.length = (r.map V.int).length := by rw [List.length_map]
  refine lc_fm (ms := r) (by rw [hlen]; exact walk_tup) (fun _ => true) (fun b => nm names b) (fun _ v b => v = .int b) (fun _ _ _ _ _ h => h) hD (by rw [sizeLine_eq]; rw [List.length_map] at hlr; omega) (fun H' s => SqT.of ((s1.trans s) _ _ ht)) ?_ ?_
  · rintro j x y _ H4 Nx hj s4 ⟨rfl, hx⟩ _ kT
    rw [List.getElem?_map, hj] at hx
    obtain rfl := Option.some.inj hx
    obtain ⟨b0, b1⟩ := hb x (List.mem_of_getElem? hj)
    have ev : atI (names.map V.int) x = some (.int (nm names x)) := by
      have e : x = ((x.toNat : Nat) : Int) := by omega
      rw [e]
      refine atI_nat ?_
      rw [List.getElem?_map, nm_get (by omega)]
      rfl
    refine ⟨rfl, ?_⟩
    exact ⟨_, rfl, a, CV, dx, _, _, rfl, (s1.trans s4) _ _ h1, R'.cl, R'.na _ (by decide +kernel), lk3 (by decide +kernel) (by decide +kernel), _, rfl, ll, _, x, V.int (nm names x), rfl, rfl, SqL.of ((s1.trans s4) _ _ h2), ev, kT rfl _ _ (Same.refl _) rfl⟩
  · intro H4 ys s4 hD4 hp
    rw [ft] at hp
    have ey := paired_ints (H := H4) hp
    subst ey
    refine ⟨D, _, rfl, .inl ⟨SqL.of hD4, fun g hg => ?_⟩⟩
    exact kQ r rfl hr' _ g ((s1.trans s4).trans (same_new hg)) upd_same
theorem w_lift (T : Tb mg) (R : Cl K mg CR "Routine" ["blocks", "rows", "there"]) (R' : Cl K mg CV "Cover" ["base", "fine", "labels", "leads"]) (N : NR P w K mg base CN) (c_is_run : Met P w K mg base 5 CR "is_run" (spIsRun CR) [])
    (me : Meth K CV "lift" f) (F : Fun K "lift" "Cover.lift" (sCv 5) f fd) (b : Binds K fd ["self", "run"] []) : MetX P w K mg base 6 CV "lift" (spLift CR CV CN) := by
  have sc : FnScope ["self", "run", "found", "name"] ["self", "run"] (fnScope (sCv 5)) := fnScope_by (by decide +kernel)
  refine ⟨f, fd, _, R'.cl, me, fnX F sc (fun vs H Q E h => by obtain ⟨_, _, _, _, _, _, _, _, _, _, rfl, _⟩ := h; rfl) fun cdv A outer s H vs Q E hr h => ?_, b⟩
  obtain ⟨a, rb, rf, n, M, bs, fs, names, v, o, rfl, hC, hv, hl, kE, kQ⟩ := h
  have hu := hu_of hr
  refine ⟨_, (pss_cons (ps_if (pt_not (pt_val (pe_mt (pl := _) c_is_run hr (by decide) (pe_fld (pv 0) rfl) (pa_cons (pv 1) pa_nil)))) (pss_one (ps_raise rfl (takes_of rfl rfl rfl rfl) (pmk_nr N hr (by decide) rfl (pa_cons (pv 1) pa_nil)))) pss_nil)
  (pss_cons (ps_set (i := 2) sc.nd rfl (Or.inl rfl) (pe_lst (pa_cons pe_int pa_nil)))
  (pss_cons (ps_for (passes_of rfl) rfl (pi_tup (pe_slice sl_tup (pv 1) (po_some pe_int) po_none)) (pg_name (i := 3) sc.nd rfl (Or.inl rfl)) (pss_one (ps_expr (pe_bm PySem.F.plainAttrs_list PySem.F.slot_list_append PySem.F.type_list_append mt_append (pv 2) (pa_cons (pe_dget hu (pe_fld (pv 0) rfl) (pe_tup (pa_cons (pe_ix ix_list (pv 2) (pe_un un_neg pe_int) (fun _ _ => rfl)) (pa_cons (pv 3) pa_nil))) (fun _ _ => rfl)) pa_nil)))))
  (pss_one (ps_ret (pe_callTy call_tuple_of (by rfl) T.tuple PyProof.Rows.boot_tuple (pa_cons (pv 2) pa_nil))))))), ?_⟩
  obtain ⟨dx, ll, ld, h1, h2, h3⟩ := hC.ex
  obtain ⟨bx, bl, bd, p1, p2, p3⟩ := hC.rtb.ex
  refine ⟨_, rfl, a, CV, dx, _, _, rfl, h1, R'.cl, R'.na _ (by decide +kernel), lk_here, rb, bx, _, rfl, p1, by rfl, _, rfl, rb, v, n, bs, o, rfl, hC.rtb, hv, hl, fun H1 s1 => ?_⟩
  refine ⟨_, rfl, ifb (fun c => ?_) (fun c => ?_)⟩
  · have c' : runV n bs o = false := by simpa using c
    exact ⟨_, rfl, nr_end fun d H' s hd => kE c' d H' (s1.trans s) hd⟩
  have c' : runV n bs o = true := by simpa using c
  obtain ⟨r, rfl, hr'⟩ := run_ints c'
  obtain ⟨t, rfl, ht⟩ := val_tup hv
  have hlr := hl _ rfl
  rw [List.length_map] at hlr
  have n1 : 1 ≤ M := by have := hC.rtf.n2; omega
  obtain ⟨r1, r2, r3, r4⟩ := runB_iff.mp hr'
  obtain ⟨b0, r, rfl⟩ : ∃ b0 r', r = b0 :: r' := by
    cases r with
    | nil => simp at r1
    | cons b0 r' => exact ⟨b0, r', rfl⟩
  have tk := lift_take hC.cov hC.rtb.jr hC.rtf.jr n1 hr'
  refine ⟨by show 1 ≤ sizeLine; decide, fun l hl0 => ?_⟩
  have s2 : Same H1 (upd H1 l (.lst [.int 0])) := same_new hl0
  have hle : (upd H1 l (.lst [.int 0])) l = some (.lst [.int 0]) := upd_same
  have hH : H l = none := s1.free hl0
  have s12 := s1.trans s2
  generalize upd H1 l (.lst [.int 0]) = H2 at s2 hle s12
  refine ⟨_, rfl, _, rfl, t, _, rfl, SqT.of (s12 _ _ ht), ?_, fun p hp => ?_⟩
  · have e1 : HT.sIx ((b0 :: r).map V.int).length 0 (some 1) = 1 := by unfold HT.sIx; rw [List.length_map]; simp
    rw [e1]; exact fun z => absurd z.1 (by decide)
  rw [cut1 _ (by rw [List.length_map]; exact r1)]
  have ed : ((b0 :: r).map V.int).drop 1 = r.map V.int := rfl
  rw [ed]
  have s3 := s12.trans (same_new (o := .tup (r.map V.int)) hp)
  have hp3 : (upd H2 p (.tup (r.map V.int))) p = some (.tup (r.map V.int)) := upd_same
  have hpl : p ≠ l := fun z => by rw [z, hle] at hp; cases hp
  have hl3 : (upd H2 p (.tup (r.map V.int))) l = some (.lst [.int 0]) := by rw [upd_ne (Ne.symm hpl)]; exact hle
  generalize upd H2 p (.tup (r.map V.int)) = H3 at s3 hp3 hl3
  have hlr' : r.length < 1000 := by rw [List.length_cons] at hlr; omega
  have h1H := h1
  refine ⟨p, rfl, ⟨_, SqT.of hp3⟩, for_it walk_tup (fun i σ H' => (∃ v3, σ = [some (.ref a), some (.ref t), some (.ref l), v3]) ∧ Same H H' ∧ H' p = some (.tup (r.map V.int)) ∧ IntL H' l ((r.take i).foldl (fun acc b => acc ++ [numF (leadsF fs names) [lst acc, b]]) [0]))
    ⟨⟨none, rfl⟩, s3, hp3, hl3⟩ (fun i σ H' _ h => SqT.of h.2.2.1) ?_ ?_⟩
  · rintro i x σ _ H4 hi ⟨⟨v3, rfl⟩, s4, hp4, hl4⟩ ⟨rfl, hx⟩
    rw [List.length_map] at hi
    have ei : r[i]? = some r[i] := List.getElem?_eq_getElem hi
    rw [List.getElem?_map, ei] at hx
    obtain rfl := Option.some.inj hx
    obtain ⟨hL, u0, u1⟩ := tk i (by omega)
    obtain ⟨v, g1, g2, g3, g4⟩ := hL.more hC.cov hC.rtb.jr hC.rtf.jr u1 u0 (run_step hr' hi)
    have hne : (r.take i).foldl (fun acc b => acc ++ [numF (leadsF fs names) [lst acc, b]]) [0] ≠ [] := fun z => by have := hL.hd; rw [z] at this; cases this
    have hsz : ((r.take i).foldl (fun acc b => acc ++ [numF (leadsF fs names) [lst acc, b]]) [0]).length ≤ i + 1 := by
      have := congrArg List.length hL.mp
      rw [List.length_map, List.length_take] at this
      omega
    rw [tk_more ei, List.foldl_append]
    have en : (List.foldl (fun acc b => acc ++ [numF (leadsF fs names) [lst acc, b]]) ((r.take i).foldl (fun acc b => acc ++ [numF (leadsF fs names) [lst acc, b]]) [0]) [r[i]]) = (r.take i).foldl (fun acc b => acc ++ [numF (leadsF fs names) [lst acc, b]]) [0] ++ [v] := by
      show _ ++ [numF _ _] = _
      rw [look_numF g1]
    rw [en]
    generalize (r.take i).foldl (fun acc b => acc ++ [numF (leadsF fs names) [lst acc, b]]) [0] = acc at hl4 g1 hne hsz
    have hcv := s4 _ _ h1
    refine ⟨_, rfl, .inl ⟨rfl, _, SqL.of hl4⟩, _, rfl, a, CV, dx, _, _, rfl, hcv, R'.cl, R'.na _ (by decide +kernel), lk4 (by decide +kernel) (by decide +kernel) (by decide +kernel), _, rfl, 1, rfl, l, _, -1, _, rfl, rfl, SqL.of hl4, lst_get hne, _, rfl, by show 2 ≤ sizeLine; decide, fun q hq => ?_⟩
    have s5 : Same H4 (upd H4 q (.tup [.int (lst acc), .int r[i]])) := same_new hq
    have hq5 : TupI (upd H4 q (.tup [.int (lst acc), .int r[i]])) q [lst acc, r[i]] := upd_same
    have hp5 := s5 _ _ hp4
    have hl5 : IntL _ l acc := s5 _ _ hl4
    have hd5 := (s4.trans s5) _ _ h3
    have s45 := s4.trans s5
    generalize upd H4 q (.tup [.int (lst acc), .int r[i]]) = H5 at s5 hq5 hp5 hl5 hd5 s45
    have gg := DGet.t (H := H5) (a := ld) (b := q) (k := keyOf [lst acc, r[i]]) hd5 (by rw [keyOf_V]; exact hq5)
    have eg : valV ((leadsF fs names).map fun p => (keyOf p.1, V.int p.2)) (keyOf [lst acc, r[i]]) = some (.int v) := (look_V V.int _ _).trans (by rw [g1]; rfl)
    rw [eg] at gg
    refine ⟨ld, V.int v, rfl, gg, l, _, _, rfl, rfl, hl5, by rw [List.length_map, sizeLine_eq]; omega, ⟨_, rfl⟩, same_upd s45 hH, ?_, ?_⟩
    · have hpl' : p ≠ l := fun z => by rw [z, hl5] at hp5; cases hp5
      rw [upd_ne hpl']; exact hp5
    · show upd _ _ _ _ = _
      rw [upd_same, List.map_append]; rfl
  · rintro σ H4 ⟨⟨v3, rfl⟩, s4, hp4, hl4⟩
    rw [List.length_map, List.take_length] at hl4
    refine ⟨_, rfl, l, _, rfl, .inl ⟨SqL.of hl4, fun g hg => kQ (b0 :: r) rfl hr' _ g (s4.trans (same_new hg)) upd_same⟩⟩
end
end K46
end
section
set_option maxHeartbeats 4000000
/-! V6: lifts and names lead into each other. -/
namespace K46
open PySem Ja
open L2 hiding CX0 E0 pass0 Fun
theorem lst_map {r : List Int} (f : Int → Int) (h : r ≠ []) : lst (r.map f) = f (lst r) := by
  unfold lst
  rw [List.getLastD_eq_getLast?, List.getLastD_eq_getLast?, List.getLast?_map, List.getLast?_eq_some_getLast h]
  rfl
theorem stepsI_map (f : Int → Int) : ∀ r : List Int, stepsI (r.map f) = (stepsI r).map fun s => [f (j0 s), f (j1 s)]
  | [] => rfl
  | [_] => rfl
  | x :: y :: r => by
    show [f x, f y] :: stepsI ((y :: r).map f) = [f x, f y] :: (stepsI (y :: r)).map fun s => [f (j0 s), f (j1 s)]
    rw [stepsI_map f (y :: r)]
theorem stepsI_form : ∀ {r : List Int} {s : List Int}, s ∈ stepsI r → s = [j0 s, j1 s]
  | [], s, h => by cases h
  | [_], s, h => by cases h
  | x :: y :: r, s, h => by
    rcases List.mem_cons.mp h with e | h
    · rw [e]; rfl
    · exact stepsI_form (r := y :: r) h
section
variable {n N : Int} {bs fs : List (List Int)} {names : List Int}
/-- only the last block has the last name -/
theorem Cov.end_ (c : Cov n bs N fs names) (n2 : 2 ≤ n) {i : Int} (i0 : 0 ≤ i) (i1 : i ≤ N - 1) (h : nm names i = n - 1) : i = N - 1 := by
  have len := c.len
  by_cases z : i = 0
  · rw [z, c.first] at h; omega
  by_cases y : i = N - 1
  · exact y
  have m := c.mid i.toNat (by omega) (by omega)
  have e : ((i.toNat : Nat) : Int) = i := by omega
  rw [e] at m
  omega
theorem Cov.lastn (c : Cov n bs N fs names) (N2 : 1 ≤ N) : nm names (N - 1) = n - 1 := by
  have len := c.len
  have hne : names ≠ [] := fun z => by rw [z] at len; simp at len; omega
  have h := nm_last hne
  rw [c.last] at h
  rw [← h]
  congr 1
  omega
theorem IsLift.ne {r r' : List Int} (h : IsLift fs names r r') : r' ≠ [] := fun z => by have := h.hd; rw [z] at this; cases this
theorem lift_run (c : Cov n bs N fs names) (jb : Jr n bs) (jf : Jr N fs) (n2 : 2 ≤ n) (N2 : 2 ≤ N) {r : List Int} (h : RunB n bs r) : RunB N fs (liftL fs names r) := by
  have l := lift_is c jb jf (by omega) h
  obtain ⟨h1, h2, h3, h4⟩ := runB_iff.mp h
  have hl : (liftL fs names r).length = r.length := by have := congrArg List.length l.mp; rw [List.length_map] at this; exact this
  refine runB_iff.mpr ⟨by omega, l.st, l.hd, ?_⟩
  have e : lst ((liftL fs names r).map (nm names)) = n - 1 := by rw [l.mp]; exact h4
  rw [lst_map _ l.ne] at e
  have hb := stepsI_all (p := fun b => 0 ≤ b ∧ b ≤ N - 1) (r := liftL fs names r) (by omega) fun s hs => by
    obtain ⟨u, v, rfl, a0, a1, a2⟩ := jf.sh s (l.st s hs)
    exact ⟨⟨by show 0 ≤ u; omega, by show u ≤ N - 1; omega⟩, ⟨by show 0 ≤ v; omega, a2⟩⟩
  obtain ⟨b0, b1⟩ := hb _ (lst_mem l.ne)
  exact c.end_ n2 b0 b1 e
theorem name_run (c : Cov n bs N fs names) (jb : Jr n bs) (jf : Jr N fs) (N2 : 2 ≤ N) {r : List Int} (h : RunB N fs r) : RunB n bs (r.map (nm names)) := by
  obtain ⟨h1, h2, h3, h4⟩ := runB_iff.mp h
  have hne : r ≠ [] := h.ne
  refine runB_iff.mpr ⟨by rw [List.length_map]; exact h1, fun s hs => ?_, ?_, ?_⟩
  · rw [stepsI_map] at hs
    obtain ⟨t, ht, rfl⟩ := List.mem_map.mp hs
    exact c.base jb jf (h2 t ht)
  · rw [List.head?_map, h3]
    show some (nm names 0) = some 0
    rw [c.first]
  · rw [lst_map _ hne, h4]
    exact c.lastn (by omega)
/-- two lifts of the same names from one block -/
theorem lifts_eq (c : Cov n bs N fs names) (jb : Jr n bs) (jf : Jr N fs) : ∀ {x : Int} {r s : List Int}, (∀ t ∈ stepsI (x :: r), t ∈ fs) → (∀ t ∈ stepsI (x :: s), t ∈ fs) → r.map (nm names) = s.map (nm names) → r = s
  | x, [], [], _, _, _ => rfl
  | x, [], _ :: _, _, _, h => by cases h
  | x, _ :: _, [], _, _, h => by cases h
  | x, y :: r, z :: s, h1, h2, h => by
    have h1a := h1 [x, y] List.mem_cons_self
    have h2a := h2 [x, z] List.mem_cons_self
    rw [List.map_cons, List.map_cons] at h
    injection h with e1 e2
    have nd := c.leads jb jf
    have k1 : ([x, nm names y], y) ∈ leadsF fs names := List.mem_map.mpr ⟨_, h1a, rfl⟩
    have k2 : ([x, nm names y], z) ∈ leadsF fs names := by rw [e1]; exact List.mem_map.mpr ⟨_, h2a, rfl⟩
    have e := (look_of nd k1).symm.trans (look_of nd k2)
    have e := Option.some.inj e
    subst e
    rw [lifts_eq c jb jf (x := y) (fun t ht => h1 t (List.mem_cons_of_mem _ ht)) (fun t ht => h2 t (List.mem_cons_of_mem _ ht)) e2]
theorem IsLift.eq (c : Cov n bs N fs names) (jb : Jr n bs) (jf : Jr N fs) {r a b : List Int} (h : IsLift fs names r a) (g : IsLift fs names r b) : a = b := by
  cases a with
  | nil => exact absurd rfl h.ne
  | cons x a => cases b with
    | nil => exact absurd rfl g.ne
    | cons y b =>
      have e1 : x = 0 := Option.some.inj h.hd
      have e2 : y = 0 := Option.some.inj g.hd
      subst e1 e2
      have e := h.mp.trans g.mp.symm
      rw [List.map_cons, List.map_cons] at e
      injection e with _ e
      rw [lifts_eq c jb jf h.st g.st e]
theorem lift_name (c : Cov n bs N fs names) (jb : Jr n bs) (jf : Jr N fs) (N2 : 2 ≤ N) {r : List Int} (h : RunB N fs r) : liftL fs names (r.map (nm names)) = r := by
  have l := lift_is c jb jf (by omega) (name_run c jb jf N2 h)
  obtain ⟨h1, h2, h3, h4⟩ := runB_iff.mp h
  exact l.eq c jb jf ⟨h3, h2, rfl⟩
theorem lift_inj (c : Cov n bs N fs names) (jb : Jr n bs) (jf : Jr N fs) (N2 : 2 ≤ N) {r s : List Int} (h : RunB n bs r) (g : RunB n bs s) (e : liftL fs names r = liftL fs names s) : r = s := by
  rw [← (lift_is c jb jf (by omega) h).mp, ← (lift_is c jb jf (by omega) g).mp, e]
theorem name_inj (c : Cov n bs N fs names) (jb : Jr n bs) (jf : Jr N fs) (N2 : 2 ≤ N) {r s : List Int} (h : RunB N fs r) (g : RunB N fs s) (e : r.map (nm names) = s.map (nm names)) : r = s := by
  rw [← lift_name c jb jf N2 h, ← lift_name c jb jf N2 g, e]
theorem lift_len (c : Cov n bs N fs names) (jb : Jr n bs) (jf : Jr N fs) (N2 : 2 ≤ N) {r : List Int} (h : RunB n bs r) : (liftL fs names r).length = r.length := by
  have := congrArg List.length (lift_is c jb jf (by omega) h).mp
  rw [List.length_map] at this
  exact this
end
theorem nodup_map {α β : Type} {f : α → β} : ∀ {l : List α}, l.Nodup → (∀ a ∈ l, ∀ b ∈ l, f a = f b → a = b) → (l.map f).Nodup
  | [], _, _ => .nil
  | a :: l, nd, h => by
    obtain ⟨n1, n2⟩ := List.nodup_cons.mp nd
    refine List.nodup_cons.mpr ⟨fun hm => ?_, nodup_map n2 fun x hx y hy => h x (List.mem_cons_of_mem _ hx) y (List.mem_cons_of_mem _ hy)⟩
    obtain ⟨b, hb, e⟩ := List.mem_map.mp hm
    have := h a List.mem_cons_self b (List.mem_cons_of_mem _ hb) e.symm
    rw [this] at n1
    exact n1 hb
end K46
end
section
set_option maxHeartbeats 4000000
/-! W16: lift_ledger, name_ledger. -/
namespace K46
open PySem Ja
open L2 hiding CX0 E0 pass0 Fun del del_ne
open PySem.W (Frag findIn isFn fnIn)
open C8 (Cal Met Mak Def Fun CX0 E0 pass0 fnScope fnBody fnArgs fnScope_by cal0 met0 mak0 pe_c pe_mk pe_mt pe_mt0 pe_gc fn0)
/-- the cover's leads stand at ld -/
def LD (CV : Addr) (H : Hp) (a ld : Addr) : Prop := ∃ dx b f l, H a = some (.ins CV dx [("base", b), ("fine", f), ("labels", l), ("leads", .ref ld)])
theorem Lgd.mapped {n N : Int} {rs fs ys : List (List Int)} {num : List Int → Int} {g : List Int → List Int} (h : Lgd n rs none (tabN ys num)) (hr : ∀ y ∈ ys, RunB N fs (g y)) (hl : ∀ y ∈ ys, (g y).length = y.length) (inj : ∀ x ∈ ys, ∀ y ∈ ys, g x = g y → x = y) :
    Lgd N fs none ((tabN ys num).map fun p => (g p.1, p.2)) ∧ ((tabN ys num).map fun p => (g p.1, p.2)).map (·.1) = ys.map g ∧ ∀ y ∈ ys, numF ((tabN ys num).map fun p => (g p.1, p.2)) (g y) = num y := by
  have e : ((tabN ys num).map fun p => (g p.1, p.2)).map (·.1) = ys.map g := by rw [List.map_map, List.map_map]; rfl
  have ndy : ys.Nodup := by have := h.nd; rw [tab_keys] at this; exact this
  have nd : (((tabN ys num).map fun p => (g p.1, p.2)).map (·.1)).Nodup := by rw [e]; exact nodup_map ndy inj
  refine ⟨⟨nd, fun p hp => ?_, by rw [List.length_map]; exact h.len⟩, e, fun y hy => look_numF (look_of nd (List.mem_map.mpr ⟨(y, num y), List.mem_map.mpr ⟨y, hy, rfl⟩, rfl⟩))⟩
  obtain ⟨q, hq, rfl⟩ := List.mem_map.mp hp
  obtain ⟨y, hy, rfl⟩ := List.mem_map.mp hq
  obtain ⟨g1, g2, g3, _⟩ := h.ok _ hq
  exact ⟨hr y hy, by show (g y).length < 1000; rw [hl y hy]; exact g2, g3, fun M z => by cases z⟩
section
variable {CR CV : Addr} {H : Hp} {d : Addr} {od : Obj} {ys : List (List Int)} {num : List Int → Int}
theorem Rows.lock {l : Addr} {rs : List (List Int)} (hd : DI H d (tabN ys num)) (h : Rows H l rs) : Rows (upd H d (.frz od (.dT ((tabN ys num).map fun p => (keyOf p.1, V.int p.2))))) l rs := by
  obtain ⟨ts, e, pl⟩ := h.ex
  exact ⟨ts, lock_ne hd e (fun z => by cases z), Paired.mapP pl fun _ _ z => lock_ne hd z (fun z => by cases z)⟩
theorem Rt.lock {a : Addr} {n : Int} {rs : List (List Int)} (hd : DI H d (tabN ys num)) (ne : ys ≠ []) (h : Rt CR H a n rs) : Rt CR (upd H d (.frz od (.dT ((tabN ys num).map fun p => (keyOf p.1, V.int p.2))))) a n rs := by
  obtain ⟨dx, l, dd, h1, h2, h3⟩ := h.ex
  refine ⟨h.jr, h.srt, h.n2, h.n40, h.l120, dx, l, dd, lock_ne hd h1 (fun z => by cases z), h2.lock hd, lock_ne hd h3 fun z => ?_⟩
  cases ys with
  | nil => exact ne rfl
  | cons y ys =>
    have z := HO.dT.inj z
    cases rs with
    | nil => cases z
    | cons r rs =>
      injection z with z _
      injection z with _ z
      cases z
theorem Cn.lock {a rf : Addr} {N : Int} {fs : List (List Int)} {names : List Int} (hd : DI H d (tabN ys num)) (ne : ys ≠ []) (h : Cn CR CV H a rf N fs names) : Cn CR CV (upd H d (.frz od (.dT ((tabN ys num).map fun p => (keyOf p.1, V.int p.2))))) a rf N fs names := by
  obtain ⟨dx, rb, l, ld, h1, h2⟩ := h.ex
  exact ⟨h.rtf.lock hd ne, h.len, dx, rb, l, ld, lock_ne hd h1 (fun z => by cases z), lock_ne hd h2 (fun z => by cases z)⟩
theorem Cv.lock {a rb rf ld : Addr} {n N : Int} {bs fs : List (List Int)} {names : List Int} (hd : DI H d (tabN ys num)) (ne : ys ≠ []) (h : Cv CR CV H a rb rf n N bs fs names) (l : LD CV H a ld) (n2 : ld ≠ d) : Cv CR CV (upd H d (.frz od (.dT ((tabN ys num).map fun p => (keyOf p.1, V.int p.2))))) a rb rf n N bs fs names := by
  obtain ⟨dx, ll, ld', h1, h2, h3⟩ := h.ex
  obtain ⟨ex, b, f, l', g1⟩ := l
  rw [h1] at g1
  injection g1 with z
  injection z with z1 z2 z3
  simp only [List.cons.injEq, Prod.mk.injEq, true_and, and_true, V.ref.injEq] at z3
  obtain ⟨_, _, _, e⟩ := z3
  subst e
  exact ⟨h.rtb.lock hd ne, h.rtf.lock hd ne, h.cov, dx, ll, ld', lock_ne hd h1 (fun z => by cases z), lock_ne hd h2 (fun z => by cases z), by show upd _ _ _ _ = _; rw [upd_ne n2]; exact h3⟩
end
def spLiftL (CR CL CV : Addr) : Sp := fun vs H Q _ => ∃ (a rb rf c r d ld : Addr) (n N : Int) (bs fs ys : List (List Int)) (names : List Int) (num : List Int → Int), vs = [.ref a, .ref c] ∧ Cv CR CV H a rb rf n N bs fs names ∧ Lg CR CL H c r n bs ys num ∧ TD CL H c d ∧ LD CV H a ld ∧ ld ≠ d ∧
  ∀ H' b zs num', Same H H' → zs.Perm (ys.map (liftL fs names)) → (∀ y ∈ ys, num' (liftL fs names y) = num y) → Lg CR CL H' b rf N fs zs num' → Q (.ref b) H'
def spNameL (CR CL CV : Addr) : Sp := fun vs H Q _ => ∃ (a rb rf c r : Addr) (n N : Int) (bs fs ys : List (List Int)) (names : List Int) (num : List Int → Int), vs = [.ref a, .ref c] ∧ Cv CR CV H a rb rf n N bs fs names ∧ Lg CR CL H c r N fs ys num ∧
  ∀ H' b zs num', Same H H' → zs.Perm (ys.map fun y => y.map (nm names)) → (∀ y ∈ ys, num' (y.map (nm names)) = num y) → Lg CR CL H' b rb n bs zs num' → Q (.ref b) H'
section
variable {P : Program} {w : World} {K : Frag} {mg : Str → Option Value} {base : Heap} {f CR CL CV CN : Addr} {fd : FuncData}
theorem w_liftL (R : Cl K mg CR "Routine" ["blocks", "rows", "there"]) (R' : Cl K mg CV "Cover" ["base", "fine", "labels", "leads"]) (R'' : Cl K mg CL "Ledger" ["routine", "times"]) (c_req : Dn P w K mg base 1 CR "__eq__" (spEq (RtEq CR))) (c_lift : MetX P w K mg base 6 CV "lift" (spLift CR CV CN)) (c_Ledger : MakK P w K mg base 7 "Ledger" CL (spLinit CR CL))
    (me : Meth K CV "lift_ledger" f) (F : Fun K "lift_ledger" "Cover.lift_ledger" (sCv 8) f fd) (b : Binds K fd ["self", "ledger"] []) : Met P w K mg base 9 CV "lift_ledger" (spLiftL CR CL CV) [] := by
  have sc : FnScope ["self", "ledger", "run", "times"] ["self", "ledger"] (fnScope (sCv 8)) := fnScope_by (by decide +kernel)
  refine met0 R'.cl me F b sc (fun vs H Q E h => by obtain ⟨_, _, _, _, _, _, _, _, _, _, _, _, _, _, rfl, _⟩ := h; rfl) fun cdv A outer s H vs Q E hr h => ?_
  obtain ⟨a, rb, rf, c, r, d, ld, n, N, bs, fs, ys, names, num, rfl, hC, hL, td, hld, hne, k⟩ := h
  have hu := hu_of hr
  refine ⟨_, (pss_cons (ps_if (pt_cmpR (o_ne R c_req hr (by decide)) (pe_fld (pv 1) rfl) (pe_fld (pv 0) rfl) (nomark _)) (pss_one ps_never) pss_nil)
  (pss_one (ps_ret (pe_mkK c_Ledger hr (by decide) rfl (pa_cons (pe_fld (pv 0) rfl) (pa_cons (pe_lock (pe_lc (own := [("run", 2), ("times", 3)]) rfl sc.nd (pi_itemsT (pe_fld (pv 1) rfl)) (blkOk_by (own := [("run", 2), ("times", 3)]) (N := ["self", "ledger", "run", "times"]) (sc := fnScope (sCv 8)) (by decide +kernel)) (fun _ _ _ _ _ => (pg_pair (K := K) rfl rfl (pgs_cons (pg_name (i := 2) sc.nd rfl (Or.inl rfl)) (pgs_cons (pg_name (i := 3) sc.nd rfl (Or.inl rfl)) pgs_nil)))) (fun _ _ _ _ _ => pts_nil) (fun _ _ _ _ _ => (pe_tup (pa_cons (pe_mx (pl := _) c_lift hr (by decide) (pv 0) (pa_cons (pv 2) pa_nil)) (pa_cons (pv 3) pa_nil)))))) pa_nil)) (pk_cons pe_non pk_nil))))), ?_⟩
  obtain ⟨dx, ll, ld', h1, h2, h3⟩ := hC.ex
  obtain ⟨bx, bl, bd, q1, q2, q3⟩ := hC.rtb.ex
  obtain ⟨rx, rl, rd, r1, r2, r3⟩ := hL.rt.ex
  obtain ⟨cx, d', g1, g2⟩ := hL.ex
  obtain ⟨cx', r', g1'⟩ := td
  have ed : d' = d := by
    rw [g1] at g1'
    injection g1' with z
    injection z with z1 z2 z3
    simp only [List.cons.injEq, Prod.mk.injEq, true_and, and_true, V.ref.injEq] at z3
    exact z3.2
  subst ed
  have N2 : 2 ≤ N := hC.rtf.n2
  have n2 : 2 ≤ n := hC.rtb.n2
  refine ⟨_, rfl, c, CL, cx, _, _, rfl, g1, R''.cl, R''.na _ (by decide +kernel), lk_here, _, rfl, a, CV, dx, _, _, rfl, h1, R'.cl, R'.na _ (by decide +kernel), lk_here, ⟨r, rb, rx, bx, _, _, rfl, rfl, r1, q1, n, bs, hL.rt, hC.rtb⟩, fun H1 s1 => ⟨_, rfl, iff rfl ?_⟩⟩
  have s1 : Same H H1 := s1
  have g21 : DI H1 d' (tabN ys num) := s1 _ _ g2
  have hC1 := hC.same s1
  have hld1 : LD CV H1 a ld := by obtain ⟨z1, z2, z3, z4, z5⟩ := hld; exact ⟨z1, z2, z3, z4, s1 _ _ z5⟩
  refine ⟨_, rfl, a, CV, dx, _, _, rfl, s1 _ _ h1, R'.cl, R'.na _ (by decide +kernel), lk2 (by decide +kernel), d', _, g21, trivial, fun od => ?_⟩
  have hcl := lock_ne (od := od) g21 (s1 _ _ g1) (fun z => by cases z)
  have hlock : ys ≠ [] → Cv CR CV (upd H1 d' (.frz od (.dT ((tabN ys num).map fun p => (keyOf p.1, V.int p.2))))) a rb rf n N bs fs names := fun ne => hC1.lock g21 ne hld1 hne
  refine ⟨_, rfl, c, CL, cx, _, _, rfl, hcl, R''.cl, R''.na _ (by decide +kernel), lk2 (by decide +kernel), d', od, dM V.int (tabN ys num), rfl, upd_same, fun D hD => ?_⟩
  have hlt : (tabN ys num).length = ys.length := List.length_map ..
  have hlen := hL.gd.len
  have hok : ∀ y ∈ ys, RunB n bs y ∧ y.length < 1000 := fun y hy => by
    obtain ⟨z1, z2, _⟩ := hL.gd.ok (y, num y) (List.mem_map.mpr ⟨y, hy, rfl⟩)
    exact ⟨z1, z2⟩
  obtain ⟨m1, m2, m3⟩ := hL.gd.mapped (g := liftL fs names) (fun y hy => lift_run hC.cov hC.rtb.jr hC.rtf.jr n2 N2 (hok y hy).1) (fun y hy => lift_len hC.cov hC.rtb.jr hC.rtf.jr N2 (hok y hy).1) (fun x hx y hy e => lift_inj hC.cov hC.rtb.jr hC.rtf.jr N2 (hok x hx).1 (hok y hy).1 e)
  refine lc_fm (ms := tabN ys num) walk_itI (fun _ => true) (fun p => (liftL fs names p.1, p.2)) (fun H v p => ∃ t, v = .ref t ∧ PrI H t p) (fun H H' v p nl ⟨t, e, q⟩ => ⟨t, e, q.nl nl⟩) hD (by rw [sizeLine_eq]; omega) (fun H' s => s _ _ upd_same) ?_ ?_
  · rintro i p x H3 H4 Nx hi s3 ⟨t, q, p', hp', rfl, ht, hq, rfl⟩ _ kT
    obtain rfl : p' = p := Option.some.inj (hp'.symm.trans hi)
    obtain ⟨y, hy, rfl⟩ := List.mem_map.mp (List.mem_of_getElem? hi)
    have hC3 := (hlock (fun z => by rw [z] at hy; cases hy)).same s3
    have s4 : Same H3 (upd H3 t (.tup [.ref q, .int (num y)])) := same_new ht
    have hC4 := hC3.same s4
    have hq4 := s4 _ _ hq
    refine ⟨t, _, rfl, SqT.of upd_same, rfl, _, _, rfl, _, _, rfl, rfl, rfl, ?_⟩
    show _
    generalize upd H3 t (.tup [.ref q, .int (num y)]) = H4 at s4 hC4 hq4
    obtain ⟨dx4, ll4, ld4, h14, h24, h34⟩ := hC4.ex
    refine ⟨_, rfl, a, dx4, _, rfl, h14, by rfl, _, rfl, a, rb, rf, n, N, bs, fs, names, .ref q, some (y.map V.int), rfl, hC4, .tup hq4 (atomI _), fun xs e => by cases e; rw [List.length_map]; exact (hok y hy).2, fun z => ?_, fun r' er hr' H5 g5 s5 hg5 => ?_⟩
    · have := (hok y hy).1
      rw [RunB, z] at this
      cases this
    · have er : r' = y := by
        have e := Option.some.inj er
        exact (List.map_inj_right (f := V.int) (fun _ _ e => V.int.inj e) |>.mp e).symm
      subst er
      refine ⟨_, rfl, by show 2 ≤ sizeLine; decide, fun h hh => kT rfl _ _ ((s4.trans s5).trans (same_new hh)) ⟨h, rfl, g5, upd_same, same_new hh _ _ hg5⟩⟩
  · intro H' zs s3 hD' hp
    rw [ft] at hp
    obtain ⟨fz, s4⟩ := unlock g21 s3
    have prs := prs_unlock fz hD' hp
    refine ⟨fz, rfl, rfl, fun x dx' hx hdx hne' => ?_⟩
    generalize upd H' d' (.dT ((tabN ys num).map fun p => (keyOf p.1, V.int p.2))) = H2 at s4 hx hdx prs
    have s5 : Same H2 (upd (upd H2 dx' (.own x)) x (.ins CL dx' [])) := same_upd (same_new hdx) hx
    have s12 := s1.trans s4
    refine ⟨x, rf, D, dx', none, N, fs, (tabN ys num).map (fun p => (liftL fs names p.1, p.2)), rfl, upd_same, hC.rtf.same (s12.trans s5), prs.same s5, m1, fun H6 zs' d6 pm hL6 _ _ hb => ⟨rfl, ?_⟩⟩
    rw [m2] at pm
    exact k H6 x zs' _ (fun b o e => hb b o ((s12.trans s5) _ _ e) (ne_of_none (s12 _ _ e) hx)) pm m3 hL6
theorem w_nameL (R : Cl K mg CR "Routine" ["blocks", "rows", "there"]) (R' : Cl K mg CV "Cover" ["base", "fine", "labels", "leads"]) (R'' : Cl K mg CL "Ledger" ["routine", "times"]) (c_req : Dn P w K mg base 1 CR "__eq__" (spEq (RtEq CR))) (c_name : MetX P w K mg base 6 CV "name" (spName CR CV CN)) (c_Ledger : MakK P w K mg base 7 "Ledger" CL (spLinit CR CL))
    (me : Meth K CV "name_ledger" f) (F : Fun K "name_ledger" "Cover.name_ledger" (sCv 9) f fd) (b : Binds K fd ["self", "ledger"] []) : Met P w K mg base 9 CV "name_ledger" (spNameL CR CL CV) [] := by
  have sc : FnScope ["self", "ledger", "run", "times"] ["self", "ledger"] (fnScope (sCv 9)) := fnScope_by (by decide +kernel)
  refine met0 R'.cl me F b sc (fun vs H Q E h => by obtain ⟨_, _, _, _, _, _, _, _, _, _, _, _, rfl, _⟩ := h; rfl) fun cdv A outer s H vs Q E hr h => ?_
  obtain ⟨a, rb, rf, c, r, n, N, bs, fs, ys, names, num, rfl, hC, hL, k⟩ := h
  have hu := hu_of hr
  refine ⟨_, (pss_cons (ps_if (pt_cmpR (o_ne R c_req hr (by decide)) (pe_fld (pv 1) rfl) (pe_fld (pv 0) rfl) (nomark _)) (pss_one ps_never) pss_nil)
  (pss_one (ps_ret (pe_mkK c_Ledger hr (by decide) rfl (pa_cons (pe_fld (pv 0) rfl) (pa_cons (pe_lock (pe_lc (own := [("run", 2), ("times", 3)]) rfl sc.nd (pi_itemsT (pe_fld (pv 1) rfl)) (blkOk_by (own := [("run", 2), ("times", 3)]) (N := ["self", "ledger", "run", "times"]) (sc := fnScope (sCv 9)) (by decide +kernel)) (fun _ _ _ _ _ => (pg_pair (K := K) rfl rfl (pgs_cons (pg_name (i := 2) sc.nd rfl (Or.inl rfl)) (pgs_cons (pg_name (i := 3) sc.nd rfl (Or.inl rfl)) pgs_nil)))) (fun _ _ _ _ _ => pts_nil) (fun _ _ _ _ _ => (pe_tup (pa_cons (pe_mx (pl := _) c_name hr (by decide) (pv 0) (pa_cons (pv 2) pa_nil)) (pa_cons (pv 3) pa_nil)))))) pa_nil)) (pk_cons pe_non pk_nil))))), ?_⟩
  obtain ⟨dx, ll, ld', h1, h2, h3⟩ := hC.ex
  obtain ⟨bx, bl, bd, q1, q2, q3⟩ := hC.rtf.ex
  obtain ⟨rx, rl, rd, r1, r2, r3⟩ := hL.rt.ex
  obtain ⟨cx, d', g1, g2⟩ := hL.ex
  have N2 : 2 ≤ N := hC.rtf.n2
  have n2 : 2 ≤ n := hC.rtb.n2
  refine ⟨_, rfl, c, CL, cx, _, _, rfl, g1, R''.cl, R''.na _ (by decide +kernel), lk_here, _, rfl, a, CV, dx, _, _, rfl, h1, R'.cl, R'.na _ (by decide +kernel), lk2 (by decide +kernel), ⟨r, rf, rx, bx, _, _, rfl, rfl, r1, q1, N, fs, hL.rt, hC.rtf⟩, fun H1 s1 => ⟨_, rfl, iff rfl ?_⟩⟩
  have s1 : Same H H1 := s1
  have g21 : DI H1 d' (tabN ys num) := s1 _ _ g2
  have hC1 := hC.same s1
  refine ⟨_, rfl, a, CV, dx, _, _, rfl, s1 _ _ h1, R'.cl, R'.na _ (by decide +kernel), lk_here, d', _, g21, trivial, fun od => ?_⟩
  have hcl := lock_ne (od := od) g21 (s1 _ _ g1) (fun z => by cases z)
  have hlock : ys ≠ [] → Cn CR CV (upd H1 d' (.frz od (.dT ((tabN ys num).map fun p => (keyOf p.1, V.int p.2))))) a rf N fs names := fun ne => hC1.cn.lock g21 ne
  refine ⟨_, rfl, c, CL, cx, _, _, rfl, hcl, R''.cl, R''.na _ (by decide +kernel), lk2 (by decide +kernel), d', od, dM V.int (tabN ys num), rfl, upd_same, fun D hD => ?_⟩
  have hlt : (tabN ys num).length = ys.length := List.length_map ..
  have hlen := hL.gd.len
  have hok : ∀ y ∈ ys, RunB N fs y ∧ y.length < 1000 := fun y hy => by
    obtain ⟨z1, z2, _⟩ := hL.gd.ok (y, num y) (List.mem_map.mpr ⟨y, hy, rfl⟩)
    exact ⟨z1, z2⟩
  obtain ⟨m1, m2, m3⟩ := hL.gd.mapped (g := fun y => y.map (nm names)) (fun y hy => name_run hC.cov hC.rtb.jr hC.rtf.jr N2 (hok y hy).1) (fun y hy => List.length_map ..) (fun x hx y hy e => name_inj hC.cov hC.rtb.jr hC.rtf.jr N2 (hok x hx).1 (hok y hy).1 e)
  refine lc_fm (ms := tabN ys num) walk_itI (fun _ => true) (fun p => (p.1.map (nm names), p.2)) (fun H v p => ∃ t, v = .ref t ∧ PrI H t p) (fun H H' v p nl ⟨t, e, q⟩ => ⟨t, e, q.nl nl⟩) hD (by rw [sizeLine_eq]; omega) (fun H' s => s _ _ upd_same) ?_ ?_
  · rintro i p x H3 H4 Nx hi s3 ⟨t, q, p', hp', rfl, ht, hq, rfl⟩ _ kT
    obtain rfl : p' = p := Option.some.inj (hp'.symm.trans hi)
    obtain ⟨y, hy, rfl⟩ := List.mem_map.mp (List.mem_of_getElem? hi)
    have hC3 := (hlock (fun z => by rw [z] at hy; cases hy)).same s3
    have s4 : Same H3 (upd H3 t (.tup [.ref q, .int (num y)])) := same_new ht
    have hC4 := hC3.same s4
    have hq4 := s4 _ _ hq
    refine ⟨t, _, rfl, SqT.of upd_same, rfl, _, _, rfl, _, _, rfl, rfl, rfl, ?_⟩
    show _
    generalize upd H3 t (.tup [.ref q, .int (num y)]) = H4 at s4 hC4 hq4
    obtain ⟨dx4, rb4, ll4, ld4, h14, h24⟩ := hC4.ex
    refine ⟨_, rfl, a, dx4, _, rfl, h14, by rfl, _, rfl, a, rf, N, fs, names, .ref q, some (y.map V.int), rfl, hC4, .tup hq4 (atomI _), fun xs e => by cases e; rw [List.length_map]; exact (hok y hy).2, fun z => ?_, fun r' er hr' H5 g5 s5 hg5 => ?_⟩
    · have := (hok y hy).1
      rw [RunB, z] at this
      cases this
    · have er : r' = y := by
        have e := Option.some.inj er
        exact (List.map_inj_right (f := V.int) (fun _ _ e => V.int.inj e) |>.mp e).symm
      subst er
      refine ⟨_, rfl, by show 2 ≤ sizeLine; decide, fun h hh => kT rfl _ _ ((s4.trans s5).trans (same_new hh)) ⟨h, rfl, g5, upd_same, same_new hh _ _ hg5⟩⟩
  · intro H' zs s3 hD' hp
    rw [ft] at hp
    obtain ⟨fz, s4⟩ := unlock g21 s3
    have prs := prs_unlock fz hD' hp
    refine ⟨fz, rfl, rfl, fun x dx' hx hdx hne' => ?_⟩
    generalize upd H' d' (.dT ((tabN ys num).map fun p => (keyOf p.1, V.int p.2))) = H2 at s4 hx hdx prs
    have s5 : Same H2 (upd (upd H2 dx' (.own x)) x (.ins CL dx' [])) := same_upd (same_new hdx) hx
    have s12 := s1.trans s4
    refine ⟨x, rb, D, dx', none, n, bs, (tabN ys num).map (fun p => (p.1.map (nm names), p.2)), rfl, upd_same, hC.rtb.same (s12.trans s5), prs.same s5, m1, fun H6 zs' d6 pm hL6 _ _ hb => ⟨rfl, ?_⟩⟩
    rw [m2] at pm
    exact k H6 x zs' _ (fun b o e => hb b o ((s12.trans s5) _ _ e) (ne_of_none (s12 _ _ e) hx)) pm m3 hL6
end
end K46
end
section
set_option maxHeartbeats 4000000
/-! L1: the law's feed. -/
namespace K46
open PySem Ja
open L2 hiding CX0 E0 pass0 Fun
open PySem.W (Frag findIn isFn fnIn)
open C8 (Cal Met Mak Def Fun CX0 E0 pass0 fnScope fnBody fnArgs fnScope_by cal0 met0 mak0 pe_c pe_mk pe_mt pe_mt0 pe_gc fn0)
/-- the feed: a list of two numbers -/
def Fd (H : Hp) (f : Addr) : Prop := ∃ d s : Int, 0 ≤ d ∧ 0 ≤ s ∧ s < 2305843009213693951 ∧ H f = some (.lst [.int d, .int s])
/-- all but the feed stands -/
structure Fr (f : Addr) (H H' : Hp) : Prop where
  bt : ∀ b o, H b = some o → b ≠ f → H' b = some o
  fd : Fd H' f
theorem Fr.trans {f : Addr} {H H1 H2 : Hp} (a : Fr f H H1) (b : Fr f H1 H2) : Fr f H H2 := ⟨fun c o e n => b.bt c o (a.bt c o e n) n, b.fd⟩
theorem Fr.refl {f : Addr} {H : Hp} (h : Fd H f) : Fr f H H := ⟨fun _ _ e _ => e, h⟩
theorem Fd.same {f : Addr} {H H' : Hp} (h : Fd H f) (s : Same H H') : Fd H' f := by
  obtain ⟨d, t, h1, h2, h3, e⟩ := h
  exact ⟨d, t, h1, h2, h3, s _ _ e⟩
theorem Fr.same {f : Addr} {H H1 H2 : Hp} (a : Fr f H H1) (b : Same H1 H2) : Fr f H H2 := ⟨fun c o e n => b c o (a.bt c o e n), a.fd.same b⟩
theorem Fr.of {f : Addr} {H H1 : Hp} (h : Fd H f) (b : Same H H1) : Fr f H H1 := (Fr.refl h).same b
theorem Fd.ne {H : Hp} {f a : Addr} {o : HO} (h : Fd H f) (e : H a = some o) (n : ∀ xs, o ≠ .lst xs) : a ≠ f := fun z => by
  obtain ⟨d, s, _, _, _, q⟩ := h
  rw [z, q] at e
  exact n _ (Option.some.inj e).symm
theorem Fd.ne_new {H : Hp} {f a : Addr} (h : Fd H f) (e : H a = none) : f ≠ a := fun z => by
  obtain ⟨d, s, _, _, _, q⟩ := h
  rw [z, e] at q
  cases q
/-- a store at a new place -/
theorem Fr.upd {f a : Addr} {o : HO} {H H1 : Hp} (h : Fr f H H1) (e : H a = none) (n : a ≠ f) : Fr f H (L2.upd H1 a o) := by
  refine ⟨fun c x q m => ?_, ?_⟩
  · rw [upd_ne (ne_of_none q e)]; exact h.bt c x q m
  · obtain ⟨d, s, h1, h2, h3, q⟩ := h.fd
    exact ⟨d, s, h1, h2, h3, by rw [upd_ne (Ne.symm n)]; exact q⟩
/-- what was not there is not there before -/
theorem Fr.free {f a : Addr} {H H1 : Hp} (h : Fr f H H1) (e : H1 a = none) (n : a ≠ f) : H a = none := by
  cases q : H a with
  | none => rfl
  | some o => rw [h.bt a o q n] at e; cases e
theorem Fr.new {f a : Addr} {o : HO} {H H1 : Hp} (h : Fr f H H1) (e : H1 a = none) : Fr f H (L2.upd H1 a o) := h.upd (h.free e (Ne.symm (h.fd.ne_new e))) (Ne.symm (h.fd.ne_new e))
def spTake : Sp := fun vs H Q _ => ∃ (f : Addr) (m : Int), vs = [.ref f, .int m] ∧ Fd H f ∧ 1 ≤ m ∧ m ≤ 1000000000 ∧ ∀ H' r, Fr f H H' → 0 ≤ r → r < m → Q (.int r) H'
def spPick : Sp := fun vs H Q _ => ∃ (f l : Addr) (xs : List V), vs = [.ref f, .ref l] ∧ Fd H f ∧ l ≠ f ∧ H l = some (.lst xs) ∧ xs ≠ [] ∧ xs.length ≤ 1000000 ∧ ∀ H' x, Fr f H H' → x ∈ xs → Q x H'
section
variable {P : Program} {w : World} {K : Frag} {mg : Str → Option Value} {base : Heap} {f : Addr} {fd : FuncData}
theorem w_take (T : Tb mg) (F : Def K mg "_law_take" sTake f fd) (b : Binds K fd ["_law_feed_here", "_law_many"] []) : Cal P w K mg base 1 "_law_take" spTake [] := by
  have sc : FnScope ["_law_feed_here", "_law_many", "_law_digit"] ["_law_feed_here", "_law_many"] (fnScope sTake) := fnScope_by (by decide +kernel)
  refine cal0 F b .nil sc (fun vs H Q E h => by obtain ⟨_, _, rfl, _⟩ := h; rfl) fun cdv A outer s H vs Q E hr h => ?_
  obtain ⟨f, m, rfl, ⟨d, s', d0, s0, s1, hf⟩, m1, m2, k⟩ := h
  refine ⟨_, (pss_cons (ps_if (pt_cmpR op_gt (pe_ix ix_list (pv 0) pe_int (fun _ _ => rfl)) pe_int (nomark _)) (pss_cons (ps_set (i := 2) sc.nd rfl (Or.inl rfl) (pe_op op_mod (pe_callTy call_int1 (by rfl) T.int PyProof.Rows.boot_int (pa_cons (pe_ix ix_list (pv 0) pe_int (fun _ _ => rfl)) pa_nil)) (pv 1)))
  (pss_cons (ps_asg (pe_op op_fdiv (pe_ix ix_list (pv 0) pe_int (fun _ _ => rfl)) (pv 1)) (pg_sub (pv 0) pe_int set_list))
  (pss_one (ps_ret (pv 2))))) pss_nil)
  (pss_cons (ps_asg (pe_op op_mod (pe_callTy call_int1 (by rfl) T.int PyProof.Rows.boot_int (pa_cons (pe_op op_add (pe_op op_mul (pe_ix ix_list (pv 0) pe_int (fun _ _ => rfl)) pe_int) pe_int) pa_nil)) pe_int) (pg_sub (pv 0) pe_int set_list))
  (pss_one (ps_ret (pe_op op_mod (pe_callTy call_int1 (by rfl) T.int PyProof.Rows.boot_int (pa_cons (pe_op op_fdiv (pe_ix ix_list (pv 0) pe_int (fun _ _ => rfl)) pe_int) pa_nil)) (pv 1)))))), ?_⟩
  refine ⟨_, rfl, f, _, 0, .int d, rfl, rfl, SqL.of hf, atI0 _ _, _, _, rfl, rfl, _, rfl, ?_⟩
  refine ifb (fun c => ?_) (fun c => ?_)
  · refine ⟨_, rfl, f, _, 0, .int d, rfl, rfl, SqL.of hf, atI0 _ _, .inl ⟨d, rfl, _, rfl, _, _, rfl, rfl, by show 0 < m; omega, ?_⟩⟩
    refine ⟨_, rfl, f, _, 0, .int d, rfl, rfl, SqL.of hf, atI0 _ _, _, rfl, _, _, rfl, rfl, ⟨by omega, by omega⟩, ?_⟩
    refine ⟨_, rfl, f, _, 0, 0, rfl, rfl, hf, rfl, _, rfl, ?_⟩
    refine k _ _ ⟨fun b o e n => ?_, d / m, s', Int.ediv_nonneg d0 (by omega), s0, s1, upd_same⟩ (Int.emod_nonneg _ (by omega)) (Int.emod_lt_of_pos _ (by omega))
    rw [upd_ne n]; exact e
  · refine ⟨_, rfl, f, _, 1, .int s', rfl, rfl, SqL.of hf, atI1 _ _ _, _, _, rfl, rfl, .inr ⟨by decide, by decide⟩, _, _, rfl, rfl, .inl ⟨_, rfl, _, _, rfl, rfl, by show (0 : Int) < 2305843009213693951; decide, ?_⟩⟩
    refine ⟨_, rfl, f, _, 1, 1, rfl, rfl, hf, rfl, ?_⟩
    have hf' : (upd H f (.lst ([V.int d, V.int s'].set 1 (.int ((s' * 6364136223846793005 + 1442695040888963407) % 2305843009213693951))))) f = some (.lst [.int d, .int ((s' * 6364136223846793005 + 1442695040888963407) % 2305843009213693951)]) := upd_same
    have fr : Fr f H (upd H f (.lst ([V.int d, V.int s'].set 1 (.int ((s' * 6364136223846793005 + 1442695040888963407) % 2305843009213693951))))) := ⟨fun b o e n => by rw [upd_ne n]; exact e, d, _, d0, Int.emod_nonneg _ (by decide), Int.emod_lt_of_pos _ (by decide), hf'⟩
    refine ⟨_, rfl, f, _, 1, _, rfl, rfl, SqL.of hf', atI1 _ _ _, _, _, rfl, rfl, ⟨by decide, by decide⟩, .inl ⟨_, rfl, _, rfl, _, _, rfl, rfl, by show 0 < m; omega, ?_⟩⟩
    exact k _ _ fr (Int.emod_nonneg _ (by omega)) (Int.emod_lt_of_pos _ (by omega))
theorem w_pick (T : Tb mg) (c_take : Cal P w K mg base 1 "_law_take" spTake []) (F : Def K mg "_law_pick" sPick f fd) (b : Binds K fd ["_law_feed_here", "_law_some"] []) : Cal P w K mg base 2 "_law_pick" spPick [] := by
  have sc : FnScope ["_law_feed_here", "_law_some"] ["_law_feed_here", "_law_some"] (fnScope sPick) := fnScope_by (by decide +kernel)
  refine cal0 F b .nil sc (fun vs H Q E h => by obtain ⟨_, _, _, rfl, _⟩ := h; rfl) fun cdv A outer s H vs Q E hr h => ?_
  obtain ⟨f, l, xs, rfl, hf, hn, hl, hne, hz, k⟩ := h
  have hp : 0 < xs.length := List.length_pos_iff.mpr hne
  refine ⟨_, (pss_one (ps_ret (pe_ix ix_list (pv 1) (pe_c c_take hr (by decide) rfl (pa_cons (pv 0) (pa_cons (pe_callB call_len (by rfl) T.len PySem.boot_len (pa_cons (pv 1) pa_nil)) pa_nil))) (fun _ _ => rfl)))), ?_⟩
  refine ⟨_, rfl, _, rfl, _, rfl, _, xs.length, rfl, .inl ⟨_, SqL.of hl, rfl⟩, f, xs.length, rfl, hf, by omega, by omega, fun H' r fr r0 r1 => ?_⟩
  have hi : r.toNat < xs.length := by omega
  have e : r = ((r.toNat : Nat) : Int) := by omega
  exact ⟨l, xs, r, xs[r.toNat], rfl, rfl, SqL.of (fr.bt _ _ hl hn), (by have z := atI_nat (List.getElem?_eq_getElem hi); rw [← e] at z; exact z), k H' _ fr (List.getElem_mem hi)⟩
end
end K46
end
section
set_option maxHeartbeats 4000000
/-! M1: the law's runs. -/
namespace K46
open PySem Ja
open L2 hiding CX0 E0 pass0 Fun
open PySem.W (Frag findIn isFn fnIn)
open C8 (Cal Met Mak Def Fun CX0 E0 pass0 fnScope fnBody fnArgs fnScope_by cal0 met0 mak0 pe_c pe_mk pe_mt pe_mt0 pe_gc fn0)
section
variable {J : It} {G : Hp → Prop} {Y : Nat → Hp → V → Hp → Prop} {β : Type}
/-- a comprehension that keeps what the feed says -/
theorem lc_sub {ms : List β} (w : Walk J ms.length G Y) (R : Hp → V → β → Prop) (mono : ∀ H H' v b, NL H H' → R H v b → R H' v b) {g : TG} {tt : TT} {te : TE} {vs : List Nat} {σ : L2.St} {H1 : Hp} {D f : Addr} {Qd : Hp → Prop}
    (hf : Fd H1 f) (hD : H1 D = none) (hsz : ms.length < sizeLine) (hG : ∀ H, Fr f H1 H → G H)
    (hs : ∀ (i : Nat) (m : β) (x : V) (H H' : Hp) (Nx : Hp → Prop), ms[i]? = some m → Fr f H1 H → Y i H x H' → (∀ H3, Fr f H H3 → Nx H3) →
      (∀ H4 y, Fr f H H4 → R H4 y m → ∃ acc, H4 D = some (.lst acc) ∧ acc.length < sizeLine ∧ Nx (upd H4 D (.lst (acc ++ [y])))) →
      g x (wipe σ vs) H' fun σ2 H2 => wipe σ2 vs = wipe σ vs ∧ tt σ2 H2 fun b H3 => if b = true then te σ2 H3 fun y H4 => ∃ acc, H4 D = some (.lst acc) ∧ acc.length < sizeLine ∧ Nx (upd H4 D (.lst (acc ++ [y]))) else Nx H3)
    (hd : ∀ H' ys ks, Fr f H1 H' → H' D = some (.lst ys) → ks.Sublist ms → Paired (fun v b => R H' v b) ys ks → Qd H') :
    ∃ W : Nat → Nat → Hp → Prop, (∃ m, W 0 m (upd H1 D (.lst []))) ∧ ∀ i m H, W i m H →
      (J.stop i H ∧ Qd H) ∨ (J.go i H ∧ ∃ Nx : Hp → Prop, (∀ H', Nx H' → ∃ m', m' < m ∧ W (i + 1) m' H') ∧ ∀ x H', J.yld i H x H' → g x (wipe σ vs) H' fun σ2 H2 => wipe σ2 vs = wipe σ vs ∧ tt σ2 H2 fun b H3 =>
        if b = true then te σ2 H3 fun y H4 => ∃ acc, H4 D = some (.lst acc) ∧ acc.length < sizeLine ∧ Nx (upd H4 D (.lst (acc ++ [y]))) else Nx H3) := by
  have hDf : D ≠ f := fun z => by obtain ⟨_, _, _, _, _, e⟩ := hf; rw [z, e] at hD; cases hD
  have fnl : ∀ {H H' : Hp}, Fd H f → Fr f H H' → NL H H' := fun {H H'} hF h b o e n => h.bt b o e (hF.ne e n)
  refine lc_it w (fun i H => Fr f H1 H ∧ ∃ acc ks, H D = some (.lst acc) ∧ acc.length ≤ i ∧ ks.Sublist (ms.take i) ∧ Paired (fun v b => R H v b) acc ks) ⟨(Fr.refl hf).upd hD hDf, [], [], upd_same, Nat.le_refl _, List.Sublist.refl _, .nil⟩ (fun i H _ h => hG H h.1) ?_ ?_
  · rintro i x H H' hi ⟨s1, acc, ks, e, hl, hsb, hp⟩ y
    have em : ms[i]? = some ms[i] := List.getElem?_eq_getElem hi
    refine hs i ms[i] x H H' (fun H5 => Fr f H1 H5 ∧ ∃ acc ks, H5 D = some (.lst acc) ∧ acc.length ≤ i + 1 ∧ ks.Sublist (ms.take (i + 1)) ∧ Paired (fun v b => R H5 v b) acc ks) em s1 y ?_ ?_
    · intro H3 s3
      refine ⟨s1.trans s3, acc, ks, s3.bt _ _ e hDf, by omega, ?_, Paired.mapP hp fun _ _ z => mono _ _ _ _ (fnl s1.fd s3) z⟩
      rw [tk_more em]
      exact hsb.trans (List.sublist_append_left _ _)
    · intro H4 v s4 hv
      have e4 : H4 D = some (.lst acc) := s4.bt _ _ e hDf
      have nl : NL H4 (upd H4 D (.lst (acc ++ [v]))) := fun b o eb ho => by
        by_cases q : b = D
        · subst q; rw [e4] at eb; cases eb; exact absurd rfl (ho acc)
        · rw [upd_ne q]; exact eb
      refine ⟨acc, e4, by omega, ?_, _, ks ++ [ms[i]], upd_same, by rw [List.length_append]; simp; omega, ?_, ?_⟩
      · exact (s1.trans s4).upd hD hDf
      · rw [tk_more em]
        exact List.Sublist.append hsb (List.Sublist.refl _)
      · exact Paired.snoc (Paired.mapP hp fun _ _ z => mono _ _ _ _ nl (mono _ _ _ _ (fnl s1.fd s4) z)) (mono _ _ _ _ nl hv)
  · rintro H ⟨s1, acc, ks, e, _, hsb, hp⟩
    rw [List.take_length] at hsb
    exact hd H acc ks s1 e hsb hp
end
theorem stepsI_get : ∀ {r : List Int} {i : Nat} {s : List Int}, (stepsI r)[i]? = some s → ∃ u v, s = [u, v] ∧ r[i]? = some u ∧ r[i + 1]? = some v
  | [], i, s, h => by simp [stepsI] at h
  | [_], i, s, h => by simp [stepsI] at h
  | x :: y :: r, 0, s, h => ⟨x, y, (Option.some.inj h).symm, rfl, rfl⟩
  | x :: y :: r, i + 1, s, h => by
    have h : (stepsI (y :: r))[i]? = some s := h
    obtain ⟨u, v, e, h1, h2⟩ := stepsI_get h
    exact ⟨u, v, e, h1, h2⟩
def spSteps : Sp := fun vs H Q _ => ∃ (t : Addr) (r : List Int), vs = [.ref t] ∧ TupI H t r ∧ r.length < 1000 ∧ ∀ H' l, Same H H' → Rows H' l (stepsI r) → Q (.ref l) H'
/-- a rising list from 0 to n - 1 -/
structure RunW (n : Int) (r : List Int) : Prop where
  up : r.Pairwise (· < ·)
  two : 2 ≤ r.length
  hd : r.head? = some 0
  la : lst r = n - 1
  lo : ∀ b ∈ r, 0 ≤ b ∧ b ≤ n - 1
  len : (r.length : Int) ≤ n
def spRunL : Sp := fun vs H Q _ => ∃ (f : Addr) (n : Int), vs = [.ref f, .int n] ∧ Fd H f ∧ 2 ≤ n ∧ n ≤ 40 ∧ ∀ H' t r, Fr f H H' → TupI H' t r → RunW n r → Q (.ref t) H'
section
variable {P : Program} {w : World} {K : Frag} {mg : Str → Option Value} {base : Heap} {f : Addr} {fd : FuncData}
theorem w_steps (T : Tb mg) (F : Def K mg "_law_steps" sSteps f fd) (b : Binds K fd ["_law_run_here"] []) : Cal P w K mg base 1 "_law_steps" spSteps [] := by
  have sc : FnScope ["_law_run_here", "_law_k"] ["_law_run_here"] (fnScope sSteps) := fnScope_by (by decide +kernel)
  refine cal0 F b .nil sc (fun vs H Q E h => by obtain ⟨_, _, rfl, _⟩ := h; rfl) fun cdv A outer s H vs Q E hr h => ?_
  obtain ⟨t, r, rfl, ht, hl, k⟩ := h
  refine ⟨_, (pss_one (ps_ret (pe_lc (own := [("_law_k", 1)]) rfl sc.nd (pi_range1 (by rfl) T.range (pa_cons (pe_op op_sub (pe_callB call_len (by rfl) T.len PySem.boot_len (pa_cons (pv 0) pa_nil)) pe_int) pa_nil)) (blkOk_by (own := [("_law_k", 1)]) (N := ["_law_run_here", "_law_k"]) (sc := fnScope sSteps) (by decide +kernel)) (fun _ _ _ _ _ => (pg_name (i := 1) sc.nd rfl (Or.inl rfl))) (fun _ _ _ _ _ => pts_nil) (fun _ _ _ _ _ => (pe_tup (pa_cons (pe_ix (ixT (K := K) rfl) (pv 0) (pv 1) (fun _ _ => rfl)) (pa_cons (pe_ix (ixT (K := K) rfl) (pv 0) (pe_op op_add (pv 1) pe_int) (fun _ _ => rfl)) pa_nil))))))), ?_⟩
  refine ⟨_, rfl, _, (r.map V.int).length, rfl, .inr ⟨_, SqT.of ht, rfl⟩, _, _, rfl, rfl, _, rfl, by rw [List.length_map]; omega, by rw [List.length_map]; omega, fun D hD => ?_⟩
  have hn : (((r.map V.int).length : Int) - 1).toNat = (stepsI r).length := by rw [stepsI_len, List.length_map]; omega
  refine lc_fm (ms := stepsI r) (by rw [← hn]; exact walk_range) (fun _ => true) (fun s => s) (fun H v r => ∃ t, v = .ref t ∧ TupI H t r) (fun H H' v r nl ⟨t, e, q⟩ => ⟨t, e, nl _ _ q (fun xs z => by cases z)⟩) hD (by rw [stepsI_len, sizeLine_eq]; omega) (fun _ _ => trivial) ?_ ?_
  · rintro j x v _ H4 Nx hj s4 ⟨rfl, rfl⟩ _ kT
    obtain ⟨u, w, rfl, h1, h2⟩ := stepsI_get hj
    have e1 : atI (r.map V.int) (0 + (j : Int)) = some (.int u) := by rw [Int.zero_add]; exact atI_nat (by rw [List.getElem?_map, h1]; rfl)
    have e2 : atI (r.map V.int) (0 + (j : Int) + 1) = some (.int w) := by
      rw [Int.zero_add]
      exact atI_nat (j := j + 1) (by rw [List.getElem?_map, h2]; rfl)
    refine ⟨rfl, ?_⟩
    exact ⟨_, rfl, _, rfl, t, _, _, _, rfl, rfl, SqT.of (s4 _ _ ht), e1, _, rfl, _, rfl, _, _, rfl, rfl, t, _, _, _, rfl, rfl, SqT.of (s4 _ _ ht), e2, by show 2 ≤ sizeLine; decide, fun g hg => kT rfl _ _ (same_new hg) ⟨g, rfl, upd_same⟩⟩
  · intro H4 ys s4 hD4 hp
    rw [ft, List.map_id'] at hp
    exact k H4 D s4 (Rows.of hD4 hp)
def spFeed (K : Frag) : Sp := fun vs H Q _ => ∃ (a : Addr) (k : Int) (zs : List Int), vs = [.ref a, .int k] ∧ SqL K H a (zs.map V.int) ∧ 0 ≤ k ∧ k < 1000 ∧ ∀ H' f, Same H H' → H f = none → Fd H' f → Q (.ref f) H'
theorem w_feed (T : Tb mg) (F : Def K mg "_law_feed" sFeed f fd) (b : Binds K fd ["_law_script", "_law_k"] []) : Cal P w K mg base 1 "_law_feed" (spFeed K) [] := by
  have sc : FnScope ["_law_script", "_law_k", "_law_cell", "_law_digits", "_law_state"] ["_law_script", "_law_k"] (fnScope sFeed) := fnScope_by (by decide +kernel)
  refine cal0 F b .nil sc (fun vs H Q E h => by obtain ⟨_, _, _, rfl, _⟩ := h; rfl) fun cdv A outer s H vs Q E hr h => ?_
  obtain ⟨a, i, zs, rfl, ha, i0, i1, k⟩ := h
  refine ⟨_, (pss_cons (ps_set (i := 2) sc.nd rfl (Or.inl rfl) (pe_ifExp (pt_cmpR op_lt (pv 1) (pe_callB call_len (by rfl) T.len PySem.boot_len (pa_cons (pv 0) pa_nil)) (nomark _)) (pe_ix ix_list (pv 0) (pv 1) (fun _ _ => rfl)) (pe_op op_add (pe_op op_mul pe_int (pv 1)) pe_int)))
  (pss_cons (ps_set (i := 3) sc.nd rfl (Or.inl rfl) (pe_callB (call_max2 rfl) (by rfl) T.max PyProof.Rows.boot_max (pa_cons pe_int (pa_cons (pe_op op_sub (pe_callB call_abs (by rfl) T.abs PyProof.Rows.boot_abs (pa_cons (pv 2) pa_nil)) (pe_op op_pow pe_int pe_int)) pa_nil))))
  (pss_cons (ps_set (i := 4) sc.nd rfl (Or.inl rfl) (pe_op op_mod (pe_callTy call_int1 (by rfl) T.int PyProof.Rows.boot_int (pa_cons (pe_op op_add (pe_op op_add (pe_op op_mul (pv 2) pe_int) (pe_op op_mul pe_int (pv 1))) pe_int) pa_nil)) pe_int))
  (pss_one (ps_ret (pe_lst (pa_cons (pv 3) (pa_cons (pv 4) pa_nil)))))))), ?_⟩
  refine ⟨_, rfl, _, rfl, _, (zs.map V.int).length, rfl, .inl ⟨_, ha, rfl⟩, _, _, rfl, rfl, _, rfl, ifb (fun c => ?_) (fun c => ?_)⟩
  · have c' := of_decide_eq_true c
    rw [List.length_map] at c'
    have hi : i.toNat < zs.length := by omega
    have e : i = ((i.toNat : Nat) : Int) := by omega
    refine ⟨_, rfl, _, rfl, a, _, i, .int zs[i.toNat], rfl, rfl, ha, ?_, ?_⟩
    · have z := atI_nat (xs := zs.map V.int) (j := i.toNat) (v := .int zs[i.toNat]) (by rw [List.getElem?_map, List.getElem?_eq_getElem hi]; rfl)
      rw [← e] at z
      exact z
    · generalize zs[i.toNat] = cell
      refine ⟨_, rfl, _, rfl, _, _, rfl, rfl, ⟨by decide, by decide, by decide⟩, _, _, rfl, rfl, _, _, rfl, ?_⟩
      refine ⟨_, rfl, _, _, rfl, rfl, .inr ⟨by decide, by decide⟩, _, rfl, _, _, rfl, rfl, .inl ⟨by decide, by decide⟩, _, _, rfl, rfl, _, _, rfl, rfl, .inl ⟨_, rfl, _, _, rfl, rfl, by show (0 : Int) < 2305843009213693951; decide, ?_⟩⟩
      refine ⟨_, rfl, _, rfl, by show 2 ≤ sizeLine; decide, fun l hl => k _ l (same_new hl) hl ⟨_, _, by split <;> omega, Int.emod_nonneg _ (by decide), Int.emod_lt_of_pos _ (by decide), upd_same⟩⟩
  · refine ⟨_, rfl, _, _, rfl, rfl, .inl ⟨by decide, by decide⟩, _, _, rfl, rfl, ?_⟩
    generalize 61 * i + 17 = cell
    refine ⟨_, rfl, _, rfl, _, _, rfl, rfl, ⟨by decide, by decide, by decide⟩, _, _, rfl, rfl, _, _, rfl, ?_⟩
    refine ⟨_, rfl, _, _, rfl, rfl, .inr ⟨by decide, by decide⟩, _, rfl, _, _, rfl, rfl, .inl ⟨by decide, by decide⟩, _, _, rfl, rfl, _, _, rfl, rfl, .inl ⟨_, rfl, _, _, rfl, rfl, by show (0 : Int) < 2305843009213693951; decide, ?_⟩⟩
    refine ⟨_, rfl, _, rfl, by show 2 ≤ sizeLine; decide, fun l hl => k _ l (same_new hl) hl ⟨_, _, by split <;> omega, Int.emod_nonneg _ (by decide), Int.emod_lt_of_pos _ (by decide), upd_same⟩⟩
end
end K46
end
section
set_option maxHeartbeats 4000000
/-! M2: a drawn run. -/
namespace K46
open PySem Ja
open L2 hiding CX0 E0 pass0 Fun
open PySem.W (Frag findIn isFn fnIn)
open C8 (Cal Met Mak Def Fun CX0 E0 pass0 fnScope fnBody fnArgs fnScope_by cal0 met0 mak0 pe_c pe_mk pe_mt pe_mt0 pe_gc fn0)
def upto (lo : Int) (m : Nat) : List Int := (List.range m).map fun (i : Nat) => lo + (i : Int)
theorem upto_len (lo : Int) (m : Nat) : (upto lo m).length = m := by unfold upto; simp
theorem upto_get {lo : Int} {m i : Nat} {x : Int} (h : (upto lo m)[i]? = some x) : x = lo + (i : Int) ∧ i < m := by
  unfold upto at h
  rw [List.getElem?_map] at h
  by_cases c : i < m
  · rw [List.getElem?_range c] at h
    exact ⟨(Option.some.inj h).symm, c⟩
  · rw [List.getElem?_eq_none (by simp; omega)] at h
    cases h
theorem upto_up (lo : Int) (m : Nat) : (upto lo m).Pairwise (· < ·) := by
  unfold upto
  rw [List.pairwise_map]
  exact List.Pairwise.imp (fun h => by omega) (List.pairwise_lt_range (n := m))
theorem upto_mem {lo : Int} {m : Nat} {x : Int} : x ∈ upto lo m ↔ lo ≤ x ∧ x < lo + m := by
  unfold upto
  constructor
  · intro h
    obtain ⟨i, hi, rfl⟩ := List.mem_map.mp h
    have := List.mem_range.mp hi
    omega
  · intro ⟨h1, h2⟩
    exact List.mem_map.mpr ⟨(x - lo).toNat, List.mem_range.mpr (by omega), by omega⟩
theorem runW_of {n : Int} {ks : List Int} (n2 : 2 ≤ n) (n40 : n ≤ 40) (h : ks.Sublist (upto 1 (n - 2).toNat)) : RunW n ([0] ++ ks ++ [n - 1]) := by
  have lo : ∀ b ∈ ks, 1 ≤ b ∧ b < n - 1 := fun b hb => by
    have := upto_mem.mp (h.subset hb)
    omega
  have len := h.length_le
  rw [upto_len] at len
  refine ⟨?_, by simp, rfl, by rw [lst_snoc], fun b hb => ?_, by simp; omega⟩
  · rw [List.pairwise_append]
    refine ⟨?_, List.pairwise_singleton _ _, fun a ha b hb => ?_⟩
    · rw [List.singleton_append, List.pairwise_cons]
      exact ⟨fun a ha => by have := lo a ha; omega, List.Pairwise.sublist h (upto_up _ _)⟩
    · rw [List.mem_singleton] at hb
      rw [List.singleton_append] at ha
      rcases List.mem_cons.mp ha with z | z
      · omega
      · have := lo a z; omega
  · rcases List.mem_append.mp hb with z | z
    · rw [List.singleton_append] at z
      rcases List.mem_cons.mp z with z | z
      · omega
      · have := lo b z; omega
    · rw [List.mem_singleton] at z; omega
section
variable {P : Program} {w : World} {K : Frag} {mg : Str → Option Value} {base : Heap} {f : Addr} {fd : FuncData}
theorem w_run (T : Tb mg) (c_take : Cal P w K mg base 1 "_law_take" spTake []) (F : Def K mg "_law_run" sRun f fd) (b : Binds K fd ["_law_feed_here", "_law_blocks"] []) : Cal P w K mg base 2 "_law_run" spRunL [] := by
  have sc : FnScope ["_law_feed_here", "_law_blocks", "_law_bar", "_law_b"] ["_law_feed_here", "_law_blocks"] (fnScope sRun) := fnScope_by (by decide +kernel)
  refine cal0 F b .nil sc (fun vs H Q E h => by obtain ⟨_, _, rfl, _⟩ := h; rfl) fun cdv A outer s H vs Q E hr h => ?_
  obtain ⟨f, n, rfl, hf, n2, n40, k⟩ := h
  refine ⟨_, (pss_cons (ps_set (i := 2) sc.nd rfl (Or.inr rfl) (pe_op op_add pe_int (pe_c c_take hr (by decide) rfl (pa_cons (pv 0) (pa_cons pe_int pa_nil)))))
  (pss_one (ps_ret (pe_callTy call_tuple_of (by rfl) T.tuple PyProof.Rows.boot_tuple (pa_cons (pe_op op_cat (pe_op op_cat (pe_lst (pa_cons pe_int pa_nil)) (pe_lc (own := [("_law_b", 3)]) rfl sc.nd (pi_range2 (by rfl) T.range (pa_cons pe_int (pa_cons (pe_op op_sub (pv 1) pe_int) pa_nil))) (blkOk_by (own := [("_law_b", 3)]) (N := ["_law_feed_here", "_law_blocks", "_law_bar", "_law_b"]) (sc := fnScope sRun) (by decide +kernel)) (fun _ _ _ _ _ => (pg_name (i := 3) sc.nd rfl (Or.inl rfl))) (fun _ _ _ _ _ => pts_one (pt_cmpR op_ge (pe_c c_take hr (by decide) rfl (pa_cons (pv 0) (pa_cons pe_int pa_nil))) (pv 2) (nomark _))) (fun _ _ _ _ _ => (pv 3)))) (pe_lst (pa_cons (pe_op op_sub (pv 1) pe_int) pa_nil))) pa_nil))))), ?_⟩
  refine ⟨_, rfl, f, 3, rfl, hf, by decide, by decide, fun H1 bar fr1 b0 b1 => ⟨_, _, rfl, rfl, ?_⟩⟩
  refine ⟨by show 1 ≤ sizeLine; decide, fun l0 hl0 => ?_⟩
  have nl0 : l0 ≠ f := Ne.symm (fr1.fd.ne_new hl0)
  have fr2 : Fr f H (upd H1 l0 (.lst [.int 0])) := fr1.new hl0
  have e0 : (upd H1 l0 (.lst [.int 0])) l0 = some (.lst [.int 0]) := upd_same
  generalize upd H1 l0 (.lst [.int 0]) = H2 at fr2 e0
  refine ⟨_, rfl, _, _, rfl, rfl, 1, n - 1, rfl, by omega, fun D hD => ?_⟩
  have nD : D ≠ f := Ne.symm (fr2.fd.ne_new hD)
  have hm : (n - 1 - 1).toNat = (upto 1 (n - 2).toNat).length := by rw [upto_len]; omega
  refine lc_sub (f := f) (ms := upto 1 (n - 2).toNat) (by rw [← hm]; exact walk_range) (fun _ v b => v = .int b) (fun _ _ _ _ _ h => h) fr2.fd hD (by rw [upto_len, sizeLine_eq]; omega) (fun _ _ => trivial) ?_ ?_
  · rintro j x v H3 _ Nx hj fr3 ⟨rfl, rfl⟩ kF kT
    obtain ⟨rfl, hj2⟩ := upto_get hj
    refine ⟨rfl, ?_⟩
    refine ⟨_, rfl, f, 4, rfl, fr3.fd, by decide, by decide, fun H4 r fr4 r0 r1 => ⟨_, rfl, _, _, rfl, rfl, _, rfl, ?_⟩⟩
    exact ifb (fun c => ⟨_, rfl, kT _ _ fr4 rfl⟩) (fun c => kF _ fr4)
  · intro H4 ys ks fr4 hD4 hsb hp
    have ey := paired_ints (H := H4) hp
    subst ey
    have fr5 := fr2.trans fr4
    have el4 := fr4.bt _ _ e0 nl0
    have len := hsb.length_le
    rw [upto_len] at len
    refine ⟨l0, D, _, _, rfl, rfl, el4, hD4, by rw [List.length_map, sizeLine_eq]; show 1 + ks.length ≤ _; omega, fun p hp => ?_⟩
    have np : p ≠ f := Ne.symm (fr4.fd.ne_new hp)
    have fr6 := fr5.new (o := .lst ([V.int 0] ++ ks.map V.int)) hp
    have ep : (upd H4 p (.lst ([V.int 0] ++ ks.map V.int))) p = some (.lst ([V.int 0] ++ ks.map V.int)) := upd_same
    generalize upd H4 p (.lst ([V.int 0] ++ ks.map V.int)) = H6 at fr6 ep
    refine ⟨_, rfl, _, _, rfl, rfl, by show 1 ≤ sizeLine; decide, fun l2 hl2 => ?_⟩
    have fr7 := fr6.new (o := .lst [V.int (n - 1)]) hl2
    have e7 : (upd H6 l2 (.lst [V.int (n - 1)])) l2 = some (.lst [V.int (n - 1)]) := upd_same
    have ep7 : (upd H6 l2 (.lst [V.int (n - 1)])) p = some (.lst ([V.int 0] ++ ks.map V.int)) := same_new hl2 _ _ ep
    generalize upd H6 l2 (.lst [V.int (n - 1)]) = H7 at fr7 e7 ep7
    refine ⟨p, l2, _, _, rfl, rfl, ep7, e7, by rw [List.length_append, List.length_map, sizeLine_eq]; show 1 + ks.length + 1 ≤ _; omega, fun q hq => ?_⟩
    have fr8 := fr7.new (o := .lst ([V.int 0] ++ ks.map V.int ++ [V.int (n - 1)])) hq
    have eq8 : (upd H7 q (.lst ([V.int 0] ++ ks.map V.int ++ [V.int (n - 1)]))) q = some (.lst ([V.int 0] ++ ks.map V.int ++ [V.int (n - 1)])) := upd_same
    generalize upd H7 q (.lst ([V.int 0] ++ ks.map V.int ++ [V.int (n - 1)])) = H8 at fr8 eq8
    refine ⟨q, _, rfl, .inl ⟨SqL.of eq8, fun t ht => ?_⟩⟩
    refine k _ t _ (fr8.new ht) ?_ (runW_of n2 n40 hsb)
    show upd _ _ _ _ = _
    rw [upd_same]
    simp
end
end K46
end
section
set_option maxHeartbeats 4000000
/-! M3: what is a run, by the law; rows. -/
namespace K46
open PySem Ja
open L2 hiding CX0 E0 pass0 Fun
open PySem.W (Frag findIn isFn fnIn)
open C8 (Cal Met Mak Def Fun CX0 E0 pass0 fnScope fnBody fnArgs fnScope_by cal0 met0 mak0 pe_c pe_mk pe_mt pe_mt0 pe_gc fn0)
/-- membership within a comprehension and without -/
theorem hu65 {k : Nat} {A : Around} (r : Room k A) : A.units + 65 < cLine := by have := r.un; omega
theorem Rows.nil {H : Hp} {l : Addr} (h : H l = some (.lst [])) : Rows H l [] := Rows.of h .nil
def spIsRunL : Sp := fun vs H Q _ => ∃ (l : Addr) (v : V) (n : Int) (rs : List (List Int)) (o : Option (List V)), vs = [v, .int n, .ref l] ∧ Rows H l rs ∧ Jr n rs ∧ Val H v o ∧ (∀ xs, o = some xs → xs.length < 1000) ∧ ∀ H', Same H H' → Q (.bl (runV n rs o)) H'
/-- what is a run is made of blocks -/
theorem runV_in {n : Int} {rs : List (List Int)} {xs : List V} (j : Jr n rs) (h : runV n rs (some xs) = true) : ∀ x ∈ xs, inV x 0 (n - 1) = true := by
  have h' := h
  rw [runV_some, Bool.and_eq_true, Bool.and_eq_true] at h'
  obtain ⟨r, rfl⟩ := stepsV_ints (of_decide_eq_true h'.1.1) h'.1.2
  intro x hx
  obtain ⟨i, hi, rfl⟩ := List.mem_map.mp hx
  obtain ⟨a, b⟩ := run_bounds j h i hi
  show (decide (0 ≤ i) && decide (i ≤ n - 1)) = true
  simp [a, b]
theorem inV_int {x : V} {lo hi : Int} (h : inV x lo hi = true) : ∃ i, x = .int i := by
  cases x with
  | int i => exact ⟨i, rfl⟩
  | _ => cases h
theorem ints_of : ∀ {xs : List V}, (∀ x ∈ xs, ∃ i, x = .int i) → ∃ r : List Int, xs = r.map V.int
  | [], _ => ⟨[], rfl⟩
  | x :: xs, h => by
    obtain ⟨i, rfl⟩ := h x List.mem_cons_self
    obtain ⟨r, rfl⟩ := ints_of (xs := xs) fun y hy => h y (List.mem_cons_of_mem _ hy)
    exact ⟨i :: r, rfl⟩
theorem filt_nil {α : Type} {p : α → Bool} {l : List α} : l.filter p = [] ↔ ∀ x ∈ l, p x = false := by
  rw [List.filter_eq_nil_iff]
  exact ⟨fun h x hx => by have := h x hx; simpa using this, fun h x hx => by rw [h x hx]; exact Bool.false_ne_true⟩
section
variable {P : Program} {w : World} {K : Frag} {mg : Str → Option Value} {base : Heap} {f : Addr} {fd : FuncData}
theorem w_whole (T : Tb mg) (F : Def K mg "_law_whole" sWhole f fd) (b : Binds K fd ["_law_value", "_law_low", "_law_high"] []) : Cal P w K mg base 1 "_law_whole" spWithin [] := by
  have sc : FnScope ["_law_value", "_law_low", "_law_high"] ["_law_value", "_law_low", "_law_high"] (fnScope sWhole) := fnScope_by (by decide +kernel)
  refine cal0 F b .nil sc (fun vs H Q E h => by obtain ⟨_, _, _, rfl, _⟩ := h; rfl) fun cdv A outer s H vs Q E hr h => ?_
  obtain ⟨v, lo, hi, rfl, hv, k⟩ := h
  refine ⟨_, (pss_one (ps_ret (pe_and (pe_callB call_isi (by rfl) T.isinstance PyProof.Rows.boot_isinstance (pa_cons (pv 0) (pa_cons (pe_bltn (v := .ty "int") (by rfl) T.int PyProof.Rows.boot_int rfl) pa_nil))) (pe_and (pe_not (pe_callB call_isi (by rfl) T.isinstance PyProof.Rows.boot_isinstance (pa_cons (pv 0) (pa_cons (pe_bltn (v := .ty "bool") (by rfl) T.bool PyProof.Rows.boot_bool rfl) pa_nil)))) (pe_one (pe_chain op_le op_le (pv 1) (pv 0) (pv 2))))))), ?_⟩
  cases hv with
  | non =>
    refine ⟨_, rfl, _, _, _, _, false, rfl, .ty _, .base .non, kit_ty (by decide +kernel), _, rfl, ?_⟩
    exact k
  | bl c =>
    refine ⟨_, rfl, _, _, _, _, true, rfl, .ty _, .base (.bl _), kit_ty (by decide +kernel), _, rfl, ?_⟩
    refine ⟨_, rfl, _, _, _, _, true, rfl, .ty _, .base (.bl _), kit_ty (by decide +kernel), _, rfl, ?_⟩
    exact ⟨_, rfl, k⟩
  | int i =>
    refine ⟨_, rfl, _, _, _, _, true, rfl, .ty _, .base (.int _), kit_ty (by decide +kernel), _, rfl, ?_⟩
    refine ⟨_, rfl, _, _, _, _, false, rfl, .ty _, .base (.int _), kit_ty (by decide +kernel), _, rfl, ?_⟩
    refine ⟨_, rfl, _, rfl, _, rfl, _, _, rfl, rfl, _, rfl, ?_⟩
    by_cases c : lo ≤ i
    · refine ift (decide_eq_true c) ⟨_, rfl, _, _, rfl, rfl, ?_⟩
      have e : inV (.int i) lo hi = decide (i ≤ hi) := by show (decide (lo ≤ i) && decide (i ≤ hi)) = _; rw [decide_eq_true c]; rfl
      rw [e] at k
      exact k
    · refine iff (decide_eq_false c) ?_
      have e : inV (.int i) lo hi = false := by show (decide (lo ≤ i) && decide (i ≤ hi)) = _; rw [decide_eq_false c]; rfl
      rw [e] at k
      exact k
theorem w_isRunL (T : Tb mg) (c_whole : Cal P w K mg base 1 "_law_whole" spWithin []) (c_steps : Cal P w K mg base 1 "_law_steps" spSteps []) (F : Def K mg "_law_is_run" sIsRun f fd) (b : Binds K fd ["_law_value", "_law_blocks", "_law_jumps"] []) : Cal P w K mg base 2 "_law_is_run" spIsRunL [] := by
  have sc : FnScope ["_law_value", "_law_blocks", "_law_jumps", "_law_block", "_law_jump"] ["_law_value", "_law_blocks", "_law_jumps"] (fnScope sIsRun) := fnScope_by (by decide +kernel)
  refine cal0 F b .nil sc (fun vs H Q E h => by obtain ⟨_, _, _, _, _, rfl, _⟩ := h; rfl) fun cdv A outer s H vs Q E hr h => ?_
  obtain ⟨l, v, n, rs, o, rfl, hl, jr, hv, ho, k⟩ := h
  refine ⟨_, (pss_cons (ps_if (PW.pt (pw_or (pt_not (pt_val (pe_callB call_isi (by rfl) T.isinstance PyProof.Rows.boot_isinstance (pa_cons (pv 0) (pa_cons (pe_bltn (v := .ty "tuple") (by rfl) T.tuple PyProof.Rows.boot_tuple rfl) pa_nil))))) (pw_or1 (pt_cmpR op_lt (pe_callB call_len (by rfl) T.len PySem.boot_len (pa_cons (pv 0) pa_nil)) pe_int (nomark _))))) (pss_one (ps_ret pe_bl)) pss_nil)
  (pss_cons (ps_for PassesOwn.never rfl (pi_tup (pv 0)) (pg_name (i := 3) sc.nd rfl (Or.inl rfl)) (pss_one (ps_if (pt_not (pt_val (pe_c c_whole hr (by decide) rfl (pa_cons (pv 3) (pa_cons pe_int (pa_cons (pe_op op_sub (pv 1) pe_int) pa_nil)))))) (pss_one (ps_ret pe_bl)) pss_nil)))
  (pss_cons (ps_if (PW.pt (pw_or (pt_cmpR op_ne (pe_ix ix_tup (pv 0) pe_int (fun _ _ => rfl)) pe_int (nomark _)) (pw_or1 (pt_cmpR op_ne (pe_ix ix_tup (pv 0) (pe_un un_neg pe_int) (fun _ _ => rfl)) (pe_op op_sub (pv 1) pe_int) (nomark _))))) (pss_one (ps_ret pe_bl)) pss_nil)
  (pss_one (ps_ret (pe_cmpR (op_eqD hr.units) (pe_lc (own := [("_law_jump", 4)]) rfl sc.nd (pi_list (pe_c c_steps hr (by decide) rfl (pa_cons (pv 0) pa_nil))) (blkOk_by (own := [("_law_jump", 4)]) (N := ["_law_value", "_law_blocks", "_law_jumps", "_law_block", "_law_jump"]) (sc := fnScope sIsRun) (by decide +kernel)) (fun _ _ _ _ _ => (pg_name (i := 4) sc.nd rfl (Or.inl rfl))) (fun _ _ _ _ _ => pts_one (pt_cmpR (notInDk (K := K) rfl (hu65 hr)) (pv 4) (pv 2) (by rfl))) (fun _ _ _ _ _ => (pv 4))) (pe_lst pa_nil) (nomark _))))))), ?_⟩
  cases hv with
  | lst hl => exact ⟨_, rfl, _, _, _, _, false, rfl, .ty _, .base (.lst hl), kit_ty (by decide +kernel), _, rfl, k H (Same.refl H)⟩
  | non => exact ⟨_, rfl, _, _, _, _, false, rfl, .ty _, .base .non, kit_ty (by decide +kernel), _, rfl, k H (Same.refl H)⟩
  | int i => exact ⟨_, rfl, _, _, _, _, false, rfl, .ty _, .base (.int i), kit_ty (by decide +kernel), _, rfl, k H (Same.refl H)⟩
  | str x => exact ⟨_, rfl, _, _, _, _, false, rfl, .ty _, .base (.str x), kit_ty (by decide +kernel), _, rfl, k H (Same.refl H)⟩
  | @tup t xs ht ha =>
    have hxs := ho xs rfl
    refine ⟨_, rfl, _, _, _, _, true, rfl, .ty _, .base (.tup ht), kit_ty (by decide +kernel), _, rfl, ?_⟩
    refine ⟨_, rfl, _, xs.length, rfl, .inr ⟨_, SqT.of ht, rfl⟩, _, _, rfl, rfl, _, rfl, ?_⟩
    refine ifb (fun c => ?_) (fun c => ?_)
    · have c' : ¬ 2 ≤ xs.length := by have := of_decide_eq_true c; omega
      have e : runV n rs (some xs) = false := by rw [runV_some]; simp [c']
      have z := k H (Same.refl H)
      rw [e] at z
      exact z
    have c' : 2 ≤ xs.length := by have := of_decide_eq_false c; omega
    refine ⟨_, rfl, t, rfl, ⟨_, SqT.of ht⟩, for_it walk_tup (fun i σ H' => (∃ v3, σ = [some (.ref t), some (.int n), some (.ref l), v3, none]) ∧ H' = H ∧ ∀ x ∈ xs.take i, inV x 0 (n - 1) = true) ⟨⟨none, rfl⟩, rfl, fun x hx => by cases hx⟩ (fun i σ H' _ h => by rw [h.2.1]; exact SqT.of ht) ?_ ?_⟩
    · rintro i x σ _ H2 hi ⟨⟨v3, rfl⟩, rfl, hall⟩ ⟨rfl, hx⟩
      have hxm := List.mem_of_getElem? hx
      refine ⟨_, rfl, _, rfl, _, _, rfl, rfl, x, 0, n - 1, rfl, ha x hxm, _, rfl, ifb (fun c => ?_) (fun c => ?_)⟩
      · have c2 : inV x 0 (n - 1) = false := by simpa using c
        have e : runV n rs (some xs) = false := by
          cases q : runV n rs (some xs) with
          | false => rfl
          | true => rw [runV_in jr q x hxm] at c2; cases c2
        have z := k _ (Same.refl _)
        rw [e] at z
        exact z
      · have c2 : inV x 0 (n - 1) = true := by simpa using c
        refine ⟨⟨_, rfl⟩, rfl, fun y hy => ?_⟩
        rw [tk_more hx] at hy
        rcases List.mem_append.mp hy with z | z
        · exact hall y z
        · rw [List.mem_singleton.mp z]; exact c2
    · rintro σ H2 ⟨⟨v3, rfl⟩, rfl, hall⟩
      rw [List.take_length] at hall
      obtain ⟨r, rfl⟩ := ints_of (xs := xs) fun x hx => inV_int (hall x hx)
      rw [List.length_map] at hxs c'
      have hr0 : r ≠ [] := by intro z; subst z; simp at c'
      obtain ⟨i0, r', rfl⟩ : ∃ i0 r', r = i0 :: r' := by cases r with
        | nil => exact absurd rfl hr0
        | cons i r' => exact ⟨i, r', rfl⟩
      have hiff : runV n rs (some ((i0 :: r').map V.int)) = true ↔ (∀ s ∈ stepsI (i0 :: r'), s ∈ rs) ∧ i0 = 0 ∧ lst (i0 :: r') = n - 1 := by
        have := runB_iff (n := n) (rs := rs) (r := i0 :: r')
        constructor
        · intro h
          obtain ⟨_, h2, h3, h4⟩ := this.mp h
          exact ⟨h2, Option.some.inj h3, h4⟩
        · intro ⟨h2, h3, h4⟩
          exact this.mpr ⟨c', h2, by rw [h3]; rfl, h4⟩
      have no : ¬ (i0 = 0 ∧ lst (i0 :: r') = n - 1) → Q (.bl false) H2 := fun h => by
        have e : runV n rs (some ((i0 :: r').map V.int)) = false := by
          cases q : runV n rs (some ((i0 :: r').map V.int)) with
          | false => rfl
          | true => exact absurd (hiff.mp q).2 h
        have z := k _ (Same.refl _)
        rw [e] at z
        exact z
      refine ⟨_, rfl, t, _, 0, V.int i0, rfl, rfl, SqT.of ht, atI0 _ _, rfl, _, rfl, ifb (fun c => ?_) (fun c => ?_)⟩
      · exact no fun h => by rw [h.1] at c; simp at c
      have c3 : i0 = 0 := by simpa using c
      refine ⟨_, rfl, 1, rfl, t, _, -1, _, rfl, rfl, SqT.of ht, lst_get hr0, _, rfl, _, _, rfl, rfl, rfl, _, rfl, ifb (fun c => ?_) (fun c => ?_)⟩
      · refine no fun h => ?_
        rw [h.2] at c
        simp at c
      have c4 : lst (i0 :: r') = n - 1 := by simpa using c
      refine ⟨_, rfl, t, i0 :: r', rfl, ht, hxs, fun H3 ls s3 hls => ?_⟩
      obtain ⟨ts, el, pl⟩ := hls.ex
      refine ⟨ls, rfl, ⟨_, SqL.of el⟩, fun D hD => ?_⟩
      have hlen : (stepsI (i0 :: r')).length = (ts.map V.ref).length := by rw [List.length_map, Paired.length pl]
      refine lc_fm (ms := stepsI (i0 :: r')) (by rw [hlen]; exact walk_list) (fun s => !decide (s ∈ rs)) (fun s => s) (fun H v r => ∃ t, v = .ref t ∧ TupI H t r) (fun H H' v r nl ⟨t, e, q⟩ => ⟨t, e, nl _ _ q (fun xs z => by cases z)⟩) hD (by rw [stepsI_len, sizeLine_eq]; omega) (fun H' s => SqL.of (s _ _ el)) ?_ ?_
      · rintro j x y _ H5 Nx hj s5 ⟨rfl, hx⟩ kF kT
        obtain ⟨q, rfl, hm⟩ := at_item pl hj hx
        refine ⟨rfl, ?_⟩
        refine ⟨_, rfl, _, rfl, notInR (s5 _ _ hm) ((hl.same s3).same s5) ⟨_, rfl, ifb (fun c => ?_) (fun c => ?_)⟩⟩
        · exact ⟨_, rfl, kT c _ _ (Same.refl _) ⟨q, rfl, s5 _ _ hm⟩⟩
        · exact kF c _ (Same.refl _)
      · intro H5 ys s5 hD5 hp
        rw [List.map_id'] at hp
        have rows := Rows.of hD5 hp
        refine ⟨Nat.zero_le _, fun e he => ?_⟩
        refine eqR (rows.same (same_new he)) (Rows.nil upd_same) ?_
        have e1 : decide ((stepsI (i0 :: r')).filter (fun s => !decide (s ∈ rs)) = []) = runV n rs (some ((i0 :: r').map V.int)) := by
          rw [Bool.eq_iff_iff, decide_eq_true_iff, filt_nil, hiff]
          constructor
          · intro h
            exact ⟨fun s hs => by have := h s hs; simpa using this, c3, c4⟩
          · intro h s hs
            simpa using h.1 s hs
        rw [e1]
        exact k _ ((s3.trans s5).trans (same_new he))
end
end K46
end
section
set_option maxHeartbeats 4000000
/-! M4: a drawn routine. -/
namespace K46
open PySem Ja
open L2 hiding CX0 E0 pass0 Fun
open PySem.W (Frag findIn isFn fnIn)
open C8 (Cal Met Mak Def Fun CX0 E0 pass0 fnScope fnBody fnArgs fnScope_by cal0 met0 mak0 pe_c pe_mk pe_mt pe_mt0 pe_gc fn0)
theorem Paired.app {α β : Type} {R : α → β → Prop} : ∀ {as : List α} {bs : List β} {cs : List α} {ds : List β}, Paired R as bs → Paired R cs ds → Paired R (as ++ cs) (bs ++ ds)
  | _, _, _, _, .nil, h => h
  | _, _, _, _, .cons x r, h => .cons x (Paired.app r h)
theorem Paired.tk {α β : Type} {R : α → β → Prop} : ∀ (k : Nat) {as : List α} {bs : List β}, Paired R as bs → Paired R (as.take k) (bs.take k)
  | 0, _, _, _ => by rw [List.take_zero, List.take_zero]; exact .nil
  | _ + 1, _, _, .nil => .nil
  | k + 1, _, _, .cons x r => .cons x (Paired.tk k r)
theorem Paired.dr {α β : Type} {R : α → β → Prop} : ∀ (k : Nat) {as : List α} {bs : List β}, Paired R as bs → Paired R (as.drop k) (bs.drop k)
  | 0, _, _, h => h
  | _ + 1, _, _, .nil => .nil
  | k + 1, _, _, .cons x r => Paired.dr k r
/-- a list of rows is not the feed -/
theorem Rows.nef {H : Hp} {l f : Addr} {rs : List (List Int)} (h : Rows H l rs) (hf : Fd H f) : l ≠ f := fun z => by
  obtain ⟨ts, e, _⟩ := h.ex
  obtain ⟨d, s, _, _, _, g⟩ := hf
  rw [z, g] at e
  have := HO.lst.inj (Option.some.inj e)
  cases ts with
  | nil => cases this
  | cons t ts => cases this
theorem Rows.fr {H H' : Hp} {l f : Addr} {rs : List (List Int)} (h : Rows H l rs) (hf : Fd H f) (fr : Fr f H H') : Rows H' l rs := by
  obtain ⟨ts, e, p⟩ := h.ex
  exact ⟨ts, fr.bt _ _ e (h.nef hf), Paired.mapP p fun t r z => fr.bt _ _ z (hf.ne z (fun xs y => by cases y))⟩
theorem Rows.cat {H H' : Hp} {p : Addr} {ts us : List Addr} {rs ss : List (List Int)} (s : NL H H') (a : Paired (fun t r => TupI H t r) ts rs) (b : Paired (fun t r => TupI H t r) us ss) (e : H' p = some (.lst (ts.map V.ref ++ us.map V.ref))) : Rows H' p (rs ++ ss) :=
  ⟨ts ++ us, by rw [e, List.map_append], Paired.app (Paired.mapP a fun _ _ z => s _ _ z (fun xs y => by cases y)) (Paired.mapP b fun _ _ z => s _ _ z (fun xs y => by cases y))⟩
theorem stepsI_up : ∀ {r : List Int}, r.Pairwise (· < ·) → (∀ s ∈ stepsI r, j0 s < j1 s ∧ j0 s ∈ r ∧ j1 s ∈ r) ∧ (stepsI r).Nodup
  | [], _ => ⟨fun s h => (by cases h), .nil⟩
  | [_], _ => ⟨fun s h => (by cases h), .nil⟩
  | x :: y :: r, h => by
    obtain ⟨h1, h2⟩ := List.pairwise_cons.mp h
    obtain ⟨ih1, ih2⟩ := stepsI_up (r := y :: r) h2
    refine ⟨fun s hs => ?_, List.nodup_cons.mpr ⟨fun hm => ?_, ih2⟩⟩
    · rcases List.mem_cons.mp hs with e | e
      · rw [e]
        exact ⟨h1 y List.mem_cons_self, List.mem_cons_self, List.mem_cons_of_mem _ List.mem_cons_self⟩
      · obtain ⟨a, b, c⟩ := ih1 s e
        exact ⟨a, List.mem_cons_of_mem _ b, List.mem_cons_of_mem _ c⟩
    · obtain ⟨_, b, _⟩ := ih1 _ hm
      have : x < x := h1 x b
      omega
theorem RunW.steps {n : Int} {r : List Int} (h : RunW n r) : Jr n (stepsI r) ∧ ((stepsI r).length : Int) ≤ n - 1 := by
  obtain ⟨h1, h2⟩ := stepsI_up h.up
  refine ⟨⟨fun s hs => ?_, h2⟩, by rw [stepsI_len]; have := h.len; have := h.two; omega⟩
  obtain ⟨a, b, c⟩ := h1 s hs
  exact ⟨j0 s, j1 s, stepsI_form hs, (h.lo _ b).1, a, (h.lo _ c).2⟩
theorem Jr.cat {n : Int} {js ss : List (List Int)} (a : Jr n js) (b : Jr n ss) : Jr n (js ++ ss.filter fun s => !decide (s ∈ js)) := by
  refine ⟨fun r hr => ?_, ?_⟩
  · rcases List.mem_append.mp hr with z | z
    · exact a.sh r z
    · exact b.sh r (List.mem_filter.mp z).1
  · refine List.nodup_append.mpr ⟨a.nd, b.nd.filter _, fun x hx y hy e => ?_⟩
    have := (List.mem_filter.mp hy).2
    rw [← e] at this
    simp [hx] at this
def spRoutL : Sp := fun vs H Q _ => ∃ (f : Addr), vs = [.ref f, .int 7] ∧ Fd H f ∧ ∀ H' l q n js, Fr f H H' → H' l = some (.lst [.int n, .ref q]) → Rows H' q js → Jr n js → 2 ≤ n → n ≤ 7 → js.length ≤ 40 → Q (.ref l) H'
section
variable {P : Program} {w : World} {K : Frag} {mg : Str → Option Value} {base : Heap} {f : Addr} {fd : FuncData}
theorem w_routine (T : Tb mg) (c_take : Cal P w K mg base 1 "_law_take" spTake []) (c_pick : Cal P w K mg base 2 "_law_pick" spPick []) (c_steps : Cal P w K mg base 1 "_law_steps" spSteps []) (c_run : Cal P w K mg base 2 "_law_run" spRunL []) (F : Def K mg "_law_routine" sRoutine f fd) (b : Binds K fd ["_law_feed_here", "_law_most"] []) : Cal P w K mg base 3 "_law_routine" spRoutL [] := by
  have sc : FnScope ["_law_feed_here", "_law_most", "_law_blocks", "_law_found", "_law_turn", "_law_jump", "_law_u"] ["_law_feed_here", "_law_most"] (fnScope sRoutine) := fnScope_by (by decide +kernel)
  refine cal0 F b .nil sc (fun vs H Q E h => by obtain ⟨_, rfl, _⟩ := h; rfl) fun cdv A outer s H vs Q E hr h => ?_
  obtain ⟨f, rfl, hf, k⟩ := h
  refine ⟨_, (pss_cons (ps_asg (pe_tup (pa_cons (pe_op op_add pe_int (pe_c c_take hr (by decide) rfl (pa_cons (pv 0) (pa_cons (pe_op op_sub (pv 1) pe_int) pa_nil)))) (pa_cons (pe_lst pa_nil) pa_nil))) (pg_tup rfl (pgs_cons (pg_name (i := 2) sc.nd rfl (Or.inl rfl)) (pgs_cons (pg_name (i := 3) sc.nd rfl (Or.inr rfl)) pgs_nil))))
  (pss_cons (ps_for PassesOwn.never rfl (pi_range1 (by rfl) T.range (pa_cons (pe_c c_pick hr (by decide) rfl (pa_cons (pv 0) (pa_cons (pe_lst (pa_cons pe_int (pa_cons pe_int (pa_cons pe_int (pa_cons pe_int (pa_cons pe_int (pa_cons pe_int (pa_cons pe_int (pa_cons pe_int pa_nil))))))))) pa_nil))) pa_nil)) (pg_name (i := 4) sc.nd rfl (Or.inl rfl)) (pss_one (ps_set (i := 3) sc.nd rfl (Or.inr rfl) (pe_op op_cat (pv 3) (pe_lc (own := [("_law_jump", 5)]) rfl sc.nd (pi_list (pe_c c_steps hr (by decide) rfl (pa_cons (pe_c c_run hr (by decide) rfl (pa_cons (pv 0) (pa_cons (pv 2) pa_nil))) pa_nil))) (blkOk_by (own := [("_law_jump", 5)]) (N := ["_law_feed_here", "_law_most", "_law_blocks", "_law_found", "_law_turn", "_law_jump", "_law_u"]) (sc := fnScope sRoutine) (by decide +kernel)) (fun _ _ _ _ _ => (pg_name (i := 5) sc.nd rfl (Or.inl rfl))) (fun _ _ _ _ _ => pts_one (pt_cmpR (notInDk (K := K) rfl (hu65 hr)) (pv 5) (pv 3) (by rfl))) (fun _ _ _ _ _ => (pv 5)))))))
  (pss_cons (ps_for PassesOwn.never rfl (pi_range1 (by rfl) T.range (pa_cons (pe_c c_take hr (by decide) rfl (pa_cons (pv 0) (pa_cons pe_int pa_nil))) pa_nil)) (pg_name (i := 4) sc.nd rfl (Or.inl rfl)) (pss_cons (ps_set (i := 6) sc.nd rfl (Or.inl rfl) (pe_c c_take hr (by decide) rfl (pa_cons (pv 0) (pa_cons (pe_op op_sub (pv 2) pe_int) pa_nil))))
  (pss_cons (ps_set (i := 5) sc.nd rfl (Or.inl rfl) (pe_tup (pa_cons (pv 6) (pa_cons (pe_op op_add (pe_op op_add (pv 6) pe_int) (pe_c c_take hr (by decide) rfl (pa_cons (pv 0) (pa_cons (pe_op op_sub (pe_op op_sub (pv 2) pe_int) (pv 6)) pa_nil)))) pa_nil))))
  (pss_one (ps_if (pt_cmpR (notInDk (K := K) rfl (hu65 hr)) (pv 5) (pv 3) (by rfl)) (pss_one (ps_expr (pe_bm PySem.F.plainAttrs_list PySem.F.slot_list_insert PySem.F.type_list_insert mt_insert (pv 3) (pa_cons (pe_c c_take hr (by decide) rfl (pa_cons (pv 0) (pa_cons (pe_op op_add (pe_callB call_len (by rfl) T.len PySem.boot_len (pa_cons (pv 3) pa_nil)) pe_int) pa_nil))) (pa_cons (pv 5) pa_nil))))) pss_nil)))))
  (pss_one (ps_ret (pe_lst (pa_cons (pv 2) (pa_cons (pv 3) pa_nil)))))))), ?_⟩
  refine ⟨_, rfl, _, rfl, _, _, rfl, rfl, f, 6, rfl, hf, by decide, by decide, fun H1 x0 fr1 x1 x2 => ⟨_, _, rfl, rfl, Nat.zero_le _, fun q0 hq0 => ⟨by show 2 ≤ sizeLine; decide, fun p0 hp0 => ?_⟩⟩⟩
  have frq : Fr f H (upd H1 q0 (.lst [])) := fr1.new hq0
  have eq0 : (upd H1 q0 (.lst [])) q0 = some (.lst []) := upd_same
  have Hq0 : H q0 = none := fr1.free hq0 (Ne.symm (fr1.fd.ne_new hq0))
  generalize upd H1 q0 (.lst []) = H2 at frq eq0 hp0
  refine ⟨p0, _, rfl, SqT.of upd_same, rfl, _, _, rfl, _, _, rfl, rfl, ?_⟩
  have fr3 : Fr f H (upd H2 p0 (.tup [.int (2 + x0), .ref q0])) := frq.new hp0
  have eq3 := same_new (o := .tup [.int (2 + x0), .ref q0]) hp0 _ _ eq0
  generalize upd H2 p0 (.tup [.int (2 + x0), .ref q0]) = H3 at fr3 eq3
  have n2 : 2 ≤ 2 + x0 := by omega
  have n7 : 2 + x0 ≤ 7 := by omega
  obtain ⟨n, en⟩ : ∃ n : Int, n = 2 + x0 := ⟨_, rfl⟩
  rw [← en] at n2 n7
  refine ⟨_, rfl, by show 8 ≤ sizeLine; decide, fun l8 hl8 => ?_⟩
  have fr4 : Fr f H (upd H3 l8 (.lst [.int 0, .int 1, .int 2, .int 2, .int 3, .int 3, .int 4, .int 5])) := fr3.new hl8
  have eq4 := same_new (o := .lst [.int 0, .int 1, .int 2, .int 2, .int 3, .int 3, .int 4, .int 5]) hl8 _ _ eq3
  have e84 : (upd H3 l8 (.lst [.int 0, .int 1, .int 2, .int 2, .int 3, .int 3, .int 4, .int 5])) l8 = some (.lst [.int 0, .int 1, .int 2, .int 2, .int 3, .int 3, .int 4, .int 5]) := upd_same
  have n8 : l8 ≠ f := Ne.symm (fr3.fd.ne_new hl8)
  generalize upd H3 l8 (.lst [.int 0, .int 1, .int 2, .int 2, .int 3, .int 3, .int 4, .int 5]) = H4 at fr4 eq4 e84
  refine ⟨f, l8, _, rfl, fr4.fd, n8, e84, by simp, by show 8 ≤ 1000000; decide, fun H5 x fr5 hx => ?_⟩
  obtain ⟨j, rfl, g0, g5⟩ : ∃ j : Int, x = .int j ∧ 0 ≤ j ∧ j ≤ 5 := by
    simp only [List.mem_cons, List.not_mem_nil, or_false] at hx
    rcases hx with rfl | rfl | rfl | rfl | rfl | rfl | rfl | rfl <;> exact ⟨_, rfl, by decide, by decide⟩
  have nq0 : q0 ≠ f := (Rows.nil eq4).nef fr4.fd
  refine ⟨j, rfl, by omega, by omega, for_it walk_range (fun i σ H' => ∃ v4 q js, σ = [some (.ref f), some (.int 7), some (.int n), some (.ref q), v4, none, none] ∧ Fr f H H' ∧ H q = none ∧ Rows H' q js ∧ Jr n js ∧ js.length ≤ 6 * i)
    ⟨none, q0, [], (by rw [en]; rfl), fr4.trans fr5, Hq0, Rows.nil (fr5.bt _ _ eq4 nq0), ⟨fun r h => (by cases h), .nil⟩, Nat.zero_le _⟩ (fun _ _ _ _ _ => trivial) ?_ ?_⟩
  · rintro i x σ _ H6 hi ⟨v4, q, js, rfl, fr6, hq, rows, jr, hlen⟩ ⟨rfl, rfl⟩
    have nq := rows.nef fr6.fd
    refine ⟨_, rfl, _, rfl, _, rfl, f, n, rfl, fr6.fd, n2, by omega, fun H7 t r fr7 ht hw => ?_⟩
    obtain ⟨js1, js2⟩ := hw.steps
    have rows7 := rows.fr fr6.fd fr7
    refine ⟨t, r, rfl, ht, by have := hw.len; omega, fun H8 ls s8 hls => ?_⟩
    obtain ⟨ts, el, pl⟩ := hls.ex
    have rows8 := rows7.same s8
    have fr8 := (fr6.trans fr7).same s8
    refine ⟨ls, rfl, ⟨_, SqL.of el⟩, fun D hD => ?_⟩
    have hl2 : (stepsI r).length = (ts.map V.ref).length := by rw [List.length_map, Paired.length pl]
    refine lc_fm (ms := stepsI r) (by rw [hl2]; exact walk_list) (fun s => !decide (s ∈ js)) (fun s => s) (fun H v r => ∃ t, v = .ref t ∧ TupI H t r) (fun H H' v r nl ⟨t, e, q⟩ => ⟨t, e, nl _ _ q (fun xs z => by cases z)⟩) hD (by rw [sizeLine_eq]; omega) (fun H' s => SqL.of (s _ _ el)) ?_ ?_
    · rintro j' x y _ H9 Nx hj s9 ⟨rfl, hx⟩ kF kT
      obtain ⟨u, rfl, hm⟩ := at_item pl hj hx
      refine ⟨rfl, ?_⟩
      refine ⟨_, rfl, _, rfl, notInR (s9 _ _ hm) (rows8.same s9) ⟨_, rfl, ifb (fun c => ?_) (fun c => ?_)⟩⟩
      · exact ⟨_, rfl, kT c _ _ (Same.refl _) ⟨u, rfl, s9 _ _ hm⟩⟩
      · exact kF c _ (Same.refl _)
    · intro H9 ys s9 hD9 hp
      rw [List.map_id'] at hp
      obtain ⟨us, rfl, hpu⟩ := refs_of (H := H9) hp
      obtain ⟨tq, eq9, pq⟩ := (rows8.same s9).ex
      have lq := Paired.length pq
      have lu := Paired.length hpu
      have lf : ((stepsI r).filter fun s => !decide (s ∈ js)).length ≤ (stepsI r).length := List.length_filter_le _ _
      refine ⟨q, D, _, _, rfl, rfl, eq9, hD9, by rw [List.length_map, List.length_map, sizeLine_eq]; omega, fun p hp => ?_⟩
      have fr9 := fr8.same s9
      refine ⟨_, p, _, rfl, fr9.new hp, fr9.free hp (Ne.symm (fr9.fd.ne_new hp)), Rows.cat (Same.nl (same_new hp)) pq hpu upd_same, jr.cat js1, ?_⟩
      rw [List.length_append]
      omega
  · rintro σ H6 ⟨v4, q, js, rfl, fr6, hq, rows, jr, hlen⟩
    refine ⟨_, rfl, f, 4, rfl, fr6.fd, by decide, by decide, fun H7 m fr7 m0 m1 => ?_⟩
    have rows7 := rows.fr fr6.fd fr7
    refine ⟨m, rfl, by omega, by omega, for_it walk_range (fun i σ H' => ∃ v4 v5 v6 js, σ = [some (.ref f), some (.int 7), some (.int n), some (.ref q), v4, v5, v6] ∧ Fr f H H' ∧ Rows H' q js ∧ Jr n js ∧ js.length ≤ 30 + i)
      ⟨v4, none, none, js, rfl, fr6.trans fr7, rows7, jr, by omega⟩ (fun _ _ _ _ _ => trivial) ?_ ?_⟩
    · rintro i x σ _ H8 hi ⟨v4, v5, v6, js, rfl, fr8, rows, jr, hlen⟩ ⟨rfl, rfl⟩
      refine ⟨_, rfl, _, rfl, _, _, rfl, rfl, f, n - 1, rfl, fr8.fd, by omega, by omega, fun H9 u fr9 u0 u1 => ?_⟩
      refine ⟨_, rfl, _, rfl, _, _, rfl, rfl, _, rfl, _, rfl, _, _, rfl, rfl, _, rfl, _, _, rfl, rfl, f, n - 1 - u, rfl, fr9.fd, by omega, by omega, fun H10 e fr10 e0 e1 => ?_⟩
      refine ⟨_, _, rfl, rfl, by show 2 ≤ sizeLine; decide, fun t ht => ?_⟩
      have frA := (fr8.trans fr9).trans fr10
      have rowsA := (rows.fr fr8.fd fr9).fr fr9.fd fr10
      have frB : Fr f H (upd H10 t (.tup [.int u, .int (u + 1 + e)])) := frA.new ht
      have rowsB := rowsA.same (same_new (o := .tup [.int u, .int (u + 1 + e)]) ht)
      have htB : TupI (upd H10 t (.tup [.int u, .int (u + 1 + e)])) t [u, u + 1 + e] := upd_same
      generalize upd H10 t (.tup [.int u, .int (u + 1 + e)]) = H11 at frB rowsB htB
      refine ⟨_, rfl, _, rfl, notInR htB rowsB ⟨_, rfl, ifb (fun c => ?_) (fun c => ?_)⟩⟩
      · have c' : [u, u + 1 + e] ∉ js := by simpa using c
        obtain ⟨tq, eqB, pq⟩ := rowsB.ex
        have lq := Paired.length pq
        have nq := rowsB.nef frB.fd
        refine ⟨_, rfl, .inl ⟨rfl, _, SqL.of eqB⟩, _, rfl, _, rfl, _, (tq.map V.ref).length, rfl, .inl ⟨_, SqL.of eqB, rfl⟩, _, _, rfl, rfl, f, (tq.map V.ref).length + 1, rfl, frB.fd, by omega, by rw [List.length_map]; omega, fun H12 z fr12 z0 z1 => ?_⟩
        rw [List.length_map] at z1
        have eqC := fr12.bt _ _ eqB nq
        have htC : TupI H12 t [u, u + 1 + e] := fr12.bt _ _ htB (frB.fd.ne htB (fun xs y => by cases y))
        have rowsC := rowsB.fr frB.fd fr12
        refine ⟨_, rfl, q, _, z, .ref t, rfl, rfl, eqC, by rw [List.length_map, sizeLine_eq]; omega, z0, by omega, ?_⟩
        have frC := frB.trans fr12
        refine ⟨_, _, _, js.take z.toNat ++ [[u, u + 1 + e]] ++ js.drop z.toNat, rfl, frC.upd hq nq, ?_, ⟨fun r hr => ?_, ?_⟩, ?_⟩
        · have pq2 : Paired (fun t r => TupI H12 t r) tq js := Paired.mapP pq fun _ _ y => fr12.bt _ _ y (frB.fd.ne y (fun xs w => by cases w))
          refine ⟨tq.take z.toNat ++ [t] ++ tq.drop z.toNat, by rw [upd_same]; simp, ?_⟩
          refine Paired.mapP (Paired.app (Paired.app (Paired.tk _ pq2) (.cons htC .nil)) (Paired.dr _ pq2)) fun a r y => ?_
          show upd _ _ _ _ = _
          rw [upd_ne (fun w => by rw [w] at y; cases y.symm.trans eqC)]
          exact y
        · rcases List.mem_append.mp hr with y | y
          · rcases List.mem_append.mp y with y | y
            · exact jr.sh r (List.mem_of_mem_take y)
            · rw [List.mem_singleton.mp y]
              exact ⟨u, u + 1 + e, rfl, by omega, by omega, by omega⟩
          · exact jr.sh r (List.mem_of_mem_drop y)
        · have pm : (js.take z.toNat ++ [[u, u + 1 + e]] ++ js.drop z.toNat).Perm ([u, u + 1 + e] :: js) := by
            have := List.perm_middle (a := [u, u + 1 + e]) (l₁ := js.take z.toNat) (l₂ := js.drop z.toNat)
            rw [List.take_append_drop] at this
            rw [List.append_assoc]
            exact this
          exact pm.nodup_iff.mpr (List.nodup_cons.mpr ⟨c', jr.nd⟩)
        · have := congrArg List.length (List.take_append_drop z.toNat js)
          rw [List.length_append] at this
          simp only [List.length_append, List.length_singleton]
          omega
      · exact ⟨_, _, _, js, rfl, frB, rowsB, jr, by omega⟩
    · rintro σ H8 ⟨v4, v5, v6, js, rfl, fr8, rows, jr, hlen⟩
      refine ⟨_, rfl, _, rfl, by show 2 ≤ sizeLine; decide, fun l hl => ?_⟩
      exact k _ l q n js (fr8.new hl) upd_same (rows.same (same_new hl)) jr n2 n7 (by omega)
end
end K46
end
section
set_option maxHeartbeats 4000000
/-! M5: rows, rests. -/
namespace K46
open PySem Ja
open L2 hiding CX0 E0 pass0 Fun
open PySem.W (Frag findIn isFn fnIn)
open C8 (Cal Met Mak Def Fun CX0 E0 pass0 fnScope fnBody fnArgs fnScope_by cal0 met0 mak0 pe_c pe_mk pe_mt pe_mt0 pe_gc fn0)
theorem at0 {x : V} {i : Nat} (h : x = (fun i : Nat => V.int (0 + (i : Int))) i) : x = .int (i : Int) := h.trans (by show V.int (0 + (i : Int)) = _; rw [Int.zero_add])
theorem op_catTk {X : Cx} {K : Frag} (h : X.K = K) : OpR X (binaryOp .Add) (rCatT K) := by subst h; exact op_catT
theorem upto_succ (lo : Int) (m : Nat) : upto lo (m + 1) = upto lo m ++ [lo + (m : Int)] := by
  unfold upto
  rw [List.range_succ, List.map_append]
  rfl
theorem upto_at {lo : Int} {m i : Nat} (h : i < m) : (upto lo m)[i]? = some (lo + (i : Int)) := by
  unfold upto
  rw [List.getElem?_map, List.getElem?_range h]
  rfl
/-- the jumps from u, in order -/
def rowF (n : Int) (js : List (List Int)) (u : Int) : List (List Int) := ((upto (u + 1) (n - (u + 1)).toNat).filter fun v => decide ([u, v] ∈ js)).map fun v => [u, v]
/-- the jumps in order -/
def rowsF (n : Int) (js : List (List Int)) : List (List Int) := (upto 0 n.toNat).flatMap (rowF n js)
theorem flatMap_snoc {α β : Type} (f : α → List β) (l : List α) (a : α) : (l ++ [a]).flatMap f = l.flatMap f ++ f a := by
  rw [List.flatMap_append]
  simp
theorem rowF_len (n : Int) (js : List (List Int)) (u : Int) (h0 : 0 ≤ u) (h : n ≤ 40) : (rowF n js u).length ≤ 40 := by
  unfold rowF
  rw [List.length_map]
  have := List.length_filter_le (fun v => decide ([u, v] ∈ js)) (upto (u + 1) (n - (u + 1)).toNat)
  rw [upto_len] at this
  omega
theorem upto_in {lo : Int} {m : Nat} : ∀ {l : Nat}, l ≤ m → ∀ u ∈ upto lo l, u ∈ upto lo m := fun {l} h u hu => by
  have := upto_mem.mp hu
  exact upto_mem.mpr (by omega)
theorem flat_len {α β : Type} (f : α → List β) (c : Nat) : ∀ (l : List α), (∀ a ∈ l, (f a).length ≤ c) → (l.flatMap f).length ≤ l.length * c
  | [], _ => by simp
  | a :: l, h => by
    have ih := flat_len f c l fun b hb => h b (List.mem_cons_of_mem _ hb)
    have h1 := h a List.mem_cons_self
    rw [List.flatMap_cons, List.length_append, List.length_cons, Nat.add_mul, Nat.one_mul]
    omega
def spRows : Sp := fun vs H Q _ => ∃ (l : Addr) (n : Int) (js : List (List Int)), vs = [.int n, .ref l] ∧ Rows H l js ∧ 0 ≤ n ∧ n ≤ 40 ∧ ∀ H' q, Same H H' → Rows H' q (rowsF n js) → Q (.ref q) H'
section
variable {P : Program} {w : World} {K : Frag} {mg : Str → Option Value} {base : Heap} {f : Addr} {fd : FuncData}
theorem w_rows (T : Tb mg) (F : Def K mg "_law_rows" sRows f fd) (b : Binds K fd ["_law_blocks", "_law_jumps"] []) : Cal P w K mg base 1 "_law_rows" spRows [] := by
  have sc : FnScope ["_law_blocks", "_law_jumps", "_law_found", "_law_u", "_law_v"] ["_law_blocks", "_law_jumps"] (fnScope sRows) := fnScope_by (by decide +kernel)
  refine cal0 F b .nil sc (fun vs H Q E h => by obtain ⟨_, _, _, rfl, _⟩ := h; rfl) fun cdv A outer s H vs Q E hr h => ?_
  obtain ⟨l, n, js, rfl, hl, n0, n40, k⟩ := h
  refine ⟨_, (pss_cons (ps_set (i := 2) sc.nd rfl (Or.inl rfl) (pe_lst pa_nil))
  (pss_cons (ps_for PassesOwn.never rfl (pi_range1 (by rfl) T.range (pa_cons (pv 0) pa_nil)) (pg_name (i := 3) sc.nd rfl (Or.inr rfl)) (pss_one (ps_set (i := 2) sc.nd rfl (Or.inl rfl) (pe_op op_cat (pv 2) (pe_lc (own := [("_law_v", 4)]) rfl sc.nd (pi_range2 (by rfl) T.range (pa_cons (pe_op op_add (pv 3) pe_int) (pa_cons (pv 0) pa_nil))) (blkOk_by (own := [("_law_v", 4)]) (N := ["_law_blocks", "_law_jumps", "_law_found", "_law_u", "_law_v"]) (sc := fnScope sRows) (by decide +kernel)) (fun _ _ _ _ _ => (pg_name (i := 4) sc.nd rfl (Or.inl rfl))) (fun _ _ _ _ _ => pts_one (pt_cmpR (inDk (K := K) rfl (hu65 hr)) (pe_tup (pa_cons (pv 3) (pa_cons (pv 4) pa_nil))) (pv 1) (by rfl))) (fun _ _ _ _ _ => (pe_tup (pa_cons (pv 3) (pa_cons (pv 4) pa_nil)))))))))
  (pss_one (ps_ret (pv 2))))), ?_⟩
  refine ⟨Nat.zero_le _, fun q0 hq0 => ?_⟩
  refine ⟨_, rfl, n, rfl, by omega, by omega, for_it walk_range (fun i σ H' => ∃ v3 q, σ = [some (.int n), some (.ref l), some (.ref q), v3, none] ∧ Same H H' ∧ Rows H' q ((upto 0 i).flatMap (rowF n js)))
    ⟨none, q0, rfl, same_new hq0, Rows.nil upd_same⟩ (fun _ _ _ _ _ => trivial) ?_ ?_⟩
  · rintro i x σ _ H2 hi ⟨v3, q, rfl, s2, rows⟩ ⟨rfl, hx⟩
    obtain rfl := at0 hx
    obtain ⟨tq, eq, pq⟩ := rows.ex
    refine ⟨_, rfl, _, rfl, _, _, rfl, rfl, _, rfl, (i : Int) + 1, n, rfl, by omega, fun D hD => ?_⟩
    have hm : (n - ((i : Int) + 1)).toNat = (upto ((i : Int) + 1) (n - ((i : Int) + 1)).toNat).length := (upto_len _ _).symm
    refine lc_fm (ms := upto ((i : Int) + 1) (n - ((i : Int) + 1)).toNat) (by rw [← hm]; exact walk_range) (fun v => decide ([(i : Int), v] ∈ js)) (fun v => [(i : Int), v]) (fun H v r => ∃ t, v = .ref t ∧ TupI H t r) (fun H H' v r nl ⟨t, e, q⟩ => ⟨t, e, nl _ _ q (fun xs z => by cases z)⟩) hD (by rw [upto_len, sizeLine_eq]; omega) (fun _ _ => trivial) ?_ ?_
    · rintro j x y _ H3 Nx hj s3 ⟨rfl, rfl⟩ kF kT
      obtain ⟨rfl, hj2⟩ := upto_get hj
      refine ⟨rfl, ?_⟩
      refine ⟨_, rfl, _, rfl, by show 2 ≤ sizeLine; decide, fun t ht => ?_⟩
      have s4 : Same H3 (upd H3 t (.tup [.int i, .int ((i : Int) + 1 + j)])) := same_new ht
      have ht4 : TupI (upd H3 t (.tup [.int i, .int ((i : Int) + 1 + j)])) t [(i : Int), (i : Int) + 1 + j] := upd_same
      generalize upd H3 t (.tup [.int i, .int ((i : Int) + 1 + j)]) = H4 at s4 ht4
      refine ⟨_, rfl, inR ht4 (((hl.same s2).same s3).same s4) ⟨_, rfl, ifb (fun c => ?_) (fun c => kF c _ s4)⟩⟩
      refine ⟨_, rfl, _, rfl, by show 2 ≤ sizeLine; decide, fun g hg => kT c _ _ (s4.trans (same_new hg)) ⟨g, rfl, upd_same⟩⟩
    · intro H3 ys s3 hD3 hp
      obtain ⟨us, rfl, hpu⟩ := refs_of (H := H3) hp
      obtain ⟨tq, eq, pq⟩ := (rows.same s3).ex
      have lq := Paired.length pq
      have lu := Paired.length hpu
      have l1 : ((upto 0 i).flatMap (rowF n js)).length ≤ 40 * 40 := by
        have := flat_len (rowF n js) 40 (upto 0 i) fun u hu => rowF_len n js u (upto_mem.mp hu).1 n40
        rw [upto_len] at this
        omega
      have l2 := rowF_len n js i (by omega) n40
      have e2 : (List.map (fun v => [(i : Int), v]) (List.filter (fun v => decide ([(i : Int), v] ∈ js)) (upto ((i : Int) + 1) (n - ((i : Int) + 1)).toNat))) = rowF n js i := rfl
      rw [e2] at hpu lu
      refine ⟨q, D, _, _, rfl, rfl, eq, hD3, by rw [List.length_map, List.length_map, sizeLine_eq]; omega, fun p hp => ?_⟩
      refine ⟨_, p, rfl, (s2.trans s3).trans (same_new hp), ?_⟩
      rw [upto_succ, flatMap_snoc, Int.zero_add]
      exact Rows.cat (Same.nl (same_new hp)) pq hpu upd_same
  · rintro σ H2 ⟨v3, q, rfl, s2, rows⟩
    exact ⟨_, rfl, k _ q s2 rows⟩
end
end K46
end
section
set_option maxHeartbeats 4000000
/-! M6: all runs from a block. -/
namespace K46
open PySem Ja
open L2 hiding CX0 E0 pass0 Fun
open PySem.W (Frag findIn isFn fnIn)
open C8 (Cal Met Mak Def Fun CX0 E0 pass0 fnScope fnBody fnArgs fnScope_by cal0 met0 mak0 pe_c pe_mk pe_mt pe_mt0 pe_gc fn0)
def restsG (js : List (List Int)) (last : Int) : Nat → Int → List (List Int)
  | 0, b => if b = last then [[last]] else []
  | k + 1, b => if b = last then [[last]] else (upto (b + 1) (last - b).toNat).flatMap fun v => if [b, v] ∈ js then (restsG js last k v).map (b :: ·) else []
theorem restsG_here (js : List (List Int)) (last : Int) (k : Nat) : restsG js last k last = [[last]] := by
  cases k with
  | zero => exact if_pos rfl
  | succ k => exact if_pos rfl
/-- the rests through the first i blocks behind b -/
def restsT (js : List (List Int)) (last : Int) (k : Nat) (b : Int) (i : Nat) : List (List Int) := (upto (b + 1) i).flatMap fun v => if [b, v] ∈ js then (restsG js last k v).map (b :: ·) else []
theorem restsT_succ (js : List (List Int)) (last : Int) (k : Nat) (b : Int) (i : Nat) : restsT js last k b (i + 1) = restsT js last k b i ++ (if [b, b + 1 + (i : Int)] ∈ js then (restsG js last k (b + 1 + (i : Int))).map (b :: ·) else []) := by
  unfold restsT
  rw [upto_succ, flatMap_snoc]
theorem restsG_ok (js : List (List Int)) (last : Int) : ∀ (k : Nat) (b : Int), b ≤ last → last - b ≤ k → (∀ r ∈ restsG js last k b, r ≠ [] ∧ (r.length : Int) ≤ last - b + 1) ∧ (restsG js last k b).length ≤ 2 ^ (last - b).toNat
  | 0, b, h1, h2 => by
    have e : b = last := by omega
    subst e
    rw [restsG_here]
    refine ⟨fun r hr => ?_, ?_⟩
    · rw [List.mem_singleton.mp hr]; exact ⟨by simp, by simp⟩
    · have : 0 < 2 ^ (b - b).toNat := Nat.two_pow_pos _
      exact this
  | k + 1, b, h1, h2 => by
    by_cases e : b = last
    · subst e
      rw [restsG_here]
      refine ⟨fun r hr => ?_, ?_⟩
      · rw [List.mem_singleton.mp hr]; exact ⟨by simp, by simp⟩
      · have : 0 < 2 ^ (b - b).toNat := Nat.two_pow_pos _
        exact this
    · have eq : restsG js last (k + 1) b = restsT js last k b (last - b).toNat := if_neg e
      rw [eq]
      refine ⟨fun r hr => ?_, ?_⟩
      · obtain ⟨v, hv, hr⟩ := List.mem_flatMap.mp hr
        have hv' := upto_mem.mp hv
        by_cases c : [b, v] ∈ js
        · rw [if_pos c] at hr
          obtain ⟨s, hs, rfl⟩ := List.mem_map.mp hr
          obtain ⟨g1, g2⟩ := (restsG_ok js last k v (by omega) (by omega)).1 s hs
          refine ⟨by simp, ?_⟩
          rw [List.length_cons]
          omega
        · rw [if_neg c] at hr; cases hr
      · have : ∀ i : Nat, (i : Int) ≤ last - b → (restsT js last k b i).length + 2 ^ ((last - b).toNat - i) ≤ 2 ^ (last - b).toNat := by
          intro i
          induction i with
          | zero => intro _; show 0 + _ ≤ _; rw [Nat.zero_add, Nat.sub_zero]; exact Nat.le_refl _
          | succ i ih =>
            intro hi
            have ih := ih (by omega)
            rw [restsT_succ, List.length_append]
            have h3 : (if [b, b + 1 + (i : Int)] ∈ js then (restsG js last k (b + 1 + (i : Int))).map (b :: ·) else []).length ≤ 2 ^ ((last - b).toNat - (i + 1)) := by
              by_cases c : [b, b + 1 + (i : Int)] ∈ js
              · rw [if_pos c, List.length_map]
                have := (restsG_ok js last k (b + 1 + (i : Int)) (by omega) (by omega)).2
                have e : (last - (b + 1 + (i : Int))).toNat = (last - b).toNat - (i + 1) := by omega
                rw [e] at this
                exact this
              · rw [if_neg c]; exact Nat.zero_le _
            have e2 : (last - b).toNat - i = ((last - b).toNat - (i + 1)) + 1 := by omega
            rw [e2, Nat.pow_succ] at ih
            omega
        exact Nat.le_trans (Nat.le_add_right _ _) (this (last - b).toNat (by omega))
theorem restsT_len (js : List (List Int)) (last : Int) (k : Nat) (b : Int) (h1 : b ≤ last) (h2 : last - b ≤ (k : Int) + 1) : ∀ i : Nat, (i : Int) ≤ last - b → (restsT js last k b i).length + 2 ^ ((last - b).toNat - i) ≤ 2 ^ (last - b).toNat := by
  intro i
  induction i with
  | zero => intro _; show 0 + _ ≤ _; rw [Nat.zero_add, Nat.sub_zero]; exact Nat.le_refl _
  | succ i ih =>
    intro hi
    have ih := ih (by omega)
    rw [restsT_succ, List.length_append]
    have h3 : (if [b, b + 1 + (i : Int)] ∈ js then (restsG js last k (b + 1 + (i : Int))).map (b :: ·) else []).length ≤ 2 ^ ((last - b).toNat - (i + 1)) := by
      by_cases c : [b, b + 1 + (i : Int)] ∈ js
      · rw [if_pos c, List.length_map]
        have := (restsG_ok js last k (b + 1 + (i : Int)) (by omega) (by omega)).2
        have e : (last - (b + 1 + (i : Int))).toNat = (last - b).toNat - (i + 1) := by omega
        rw [e] at this
        exact this
      · rw [if_neg c]; exact Nat.zero_le _
    have e2 : (last - b).toNat - i = ((last - b).toNat - (i + 1)) + 1 := by omega
    rw [e2, Nat.pow_succ] at ih
    omega
def spRests : Nat → Sp
  | 0 => fun _ _ _ _ => False
  | k + 1 => fun vs H Q _ => ∃ (l : Addr) (b last : Int) (js : List (List Int)), vs = [.int b, .int last, .ref l] ∧ Rows H l js ∧ 0 ≤ b ∧ b ≤ last ∧ last - b ≤ k ∧ last ≤ 20 ∧ ∀ H' q, Same H H' → Rows H' q (restsG js last k b) → Q (.ref q) H'
section
variable {P : Program} {w : World} {K : Frag} {mg : Str → Option Value} {base : Heap} {f : Addr} {fd : FuncData}
theorem w_rests1 (T : Tb mg) (k : Nat) (c_rests : Cal P w K mg base k "_law_rests" (spRests k) []) (F : Def K mg "_law_rests" sRests f fd) (b : Binds K fd ["_law_block", "_law_last", "_law_jumps"] []) : Cal P w K mg base (k + 1) "_law_rests" (spRests (k + 1)) [] := by
  have sc : FnScope ["_law_block", "_law_last", "_law_jumps", "_law_found", "_law_v", "_law_rest"] ["_law_block", "_law_last", "_law_jumps"] (fnScope sRests) := fnScope_by (by decide +kernel)
  refine cal0 F b .nil sc (fun vs H Q E h => by obtain ⟨_, _, _, _, rfl, _⟩ := h; rfl) fun cdv A outer s H vs Q E hr h => ?_
  obtain ⟨l, b, last, js, rfl, hl, b0, b1, b2, l20, kk⟩ := h
  refine ⟨_, (pss_cons (ps_if (pt_cmpR op_eq (pv 0) (pv 1) (nomark _)) (pss_one (ps_ret (pe_lst (pa_cons (pe_tup (pa_cons (pv 1) pa_nil)) pa_nil)))) pss_nil)
  (pss_cons (ps_set (i := 3) sc.nd rfl (Or.inl rfl) (pe_lst pa_nil))
  (pss_cons (ps_for PassesOwn.never rfl (pi_range2 (by rfl) T.range (pa_cons (pe_op op_add (pv 0) pe_int) (pa_cons (pe_op op_add (pv 1) pe_int) pa_nil))) (pg_name (i := 4) sc.nd rfl (Or.inl rfl)) (pss_one (ps_if (pt_cmpR (inDk (K := K) rfl (hu65 hr)) (pe_tup (pa_cons (pv 0) (pa_cons (pv 4) pa_nil))) (pv 2) (by rfl)) (pss_one (ps_set (i := 3) sc.nd rfl (Or.inl rfl) (pe_op op_cat (pv 3) (pe_lc (own := [("_law_rest", 5)]) rfl sc.nd (pi_list (pe_c c_rests hr (Nat.le_refl _) rfl (pa_cons (pv 4) (pa_cons (pv 1) (pa_cons (pv 2) pa_nil))))) (blkOk_by (own := [("_law_rest", 5)]) (N := ["_law_block", "_law_last", "_law_jumps", "_law_found", "_law_v", "_law_rest"]) (sc := fnScope sRests) (by decide +kernel)) (fun _ _ _ _ _ => (pg_name (i := 5) sc.nd rfl (Or.inl rfl))) (fun _ _ _ _ _ => pts_nil) (fun _ _ _ _ _ => (pe_op (op_catTk (K := K) rfl) (pe_tup (pa_cons (pv 0) pa_nil)) (pv 5))))))) pss_nil)))
  (pss_one (ps_ret (pv 3)))))), ?_⟩
  refine ⟨_, rfl, _, rfl, rfl, _, rfl, ifb (fun c => ?_) (fun c => ?_)⟩
  · have e : b = last := by simpa using c
    subst e
    refine ⟨_, rfl, by show 1 ≤ sizeLine; decide, fun t ht => ⟨by show 1 ≤ sizeLine; decide, fun q hq => ?_⟩⟩
    refine kk _ q ((same_new ht).trans (same_new hq)) ?_
    rw [restsG_here]
    exact ⟨[t], upd_same, .cons (same_new hq _ _ upd_same) .nil⟩
  have e : ¬ b = last := by simpa using c
  obtain ⟨k, rfl⟩ : ∃ k', k = k' + 1 := ⟨k - 1, by omega⟩
  refine ⟨Nat.zero_le _, fun q0 hq0 => ?_⟩
  have hm : (last + 1 - (b + 1)).toNat = (last - b).toNat := by omega
  refine ⟨_, rfl, _, _, rfl, rfl, _, rfl, _, _, rfl, rfl, b + 1, last + 1, rfl, by omega, ?_⟩
  rw [hm]
  refine for_it walk_range (fun i σ H' => ∃ v4 q, σ = [some (.int b), some (.int last), some (.ref l), some (.ref q), v4, none] ∧ Same H H' ∧ Rows H' q (restsT js last k b i))
    ⟨none, q0, rfl, same_new hq0, Rows.nil upd_same⟩ (fun _ _ _ _ _ => trivial) ?_ ?_
  · rintro i x σ _ H2 hi ⟨v4, q, rfl, s2, rows⟩ ⟨rfl, hx⟩
    have hx : x = .int (b + 1 + (i : Int)) := hx
    subst hx
    obtain ⟨v, ev⟩ : ∃ v : Int, v = b + 1 + (i : Int) := ⟨_, rfl⟩
    rw [restsT_succ, ← ev]
    refine ⟨_, rfl, _, rfl, by show 2 ≤ sizeLine; decide, fun t ht => ?_⟩
    have s3 : Same H2 (upd H2 t (.tup [.int b, .int v])) := same_new ht
    have ht3 : TupI (upd H2 t (.tup [.int b, .int v])) t [b, v] := upd_same
    generalize upd H2 t (.tup [.int b, .int v]) = H3 at s3 ht3
    have s23 := s2.trans s3
    refine ⟨_, rfl, inR ht3 (hl.same s23) ⟨_, rfl, ifb (fun c => ?_) (fun c => ?_)⟩⟩
    · rw [if_pos (by simpa using c)]
      refine ⟨_, rfl, _, rfl, _, rfl, _, rfl, l, v, last, js, rfl, hl.same s23, by omega, by omega, by omega, l20, fun H4 ls s4 hls => ?_⟩
      obtain ⟨ts, el, pl⟩ := hls.ex
      obtain ⟨g1, g2⟩ := restsG_ok js last k v (by omega) (by omega)
      have g3 : 2 ^ (last - v).toNat ≤ 2 ^ 20 := Nat.pow_le_pow_right (by decide) (by omega)
      have g4 := Nat.le_trans (Nat.le_add_right _ _) (restsT_len js last k b b1 (by omega) i (by omega))
      have g6 := Nat.le_trans g2 g3
      have g5 : 2 ^ (last - b).toNat ≤ 2 ^ 20 := Nat.pow_le_pow_right (by decide) (by omega)
      have g7 := Nat.le_trans g4 g5
      have g8 : 2 ^ 20 = 1048576 := by decide
      rw [g8] at g6 g7
      have s24 := s23.trans s4
      refine ⟨ls, rfl, ⟨_, SqL.of el⟩, fun D hD => ?_⟩
      have hl2 : (restsG js last k v).length = (ts.map V.ref).length := by rw [List.length_map, Paired.length pl]
      refine lc_fm (ms := restsG js last k v) (by rw [hl2]; exact walk_list) (fun _ => true) (fun s => b :: s) (fun H v r => ∃ t, v = .ref t ∧ TupI H t r) (fun H H' v r nl ⟨t, e, q⟩ => ⟨t, e, nl _ _ q (fun xs z => by cases z)⟩) hD (by rw [sizeLine_eq]; omega) (fun H' s => SqL.of (s _ _ el)) ?_ ?_
      · rintro j x y _ H5 Nx hj s5 ⟨rfl, hx⟩ _ kT
        obtain ⟨u, rfl, hm⟩ := at_item pl hj hx
        obtain ⟨x1, x2⟩ := g1 x (List.mem_of_getElem? hj)
        refine ⟨rfl, ?_⟩
        refine ⟨_, rfl, by show 1 ≤ sizeLine; decide, fun p hp => ?_⟩
        have s6 : Same H5 (upd H5 p (.tup [.int b])) := same_new hp
        have hp6 : (upd H5 p (.tup [.int b])) p = some (.tup [.int b]) := upd_same
        have hm6 : TupI (upd H5 p (.tup [.int b])) u x := s6 _ _ (s5 _ _ hm)
        generalize upd H5 p (.tup [.int b]) = H6 at s6 hp6 hm6
        have xl : (x.map V.int).length ≤ 30 := by rw [List.length_map]; omega
        refine ⟨_, rfl, p, u, _, _, rfl, rfl, SqT.of hp6, SqT.of hm6, by simp, by rw [sizeLine_eq]; show 1 + (x.map V.int).length ≤ _; omega, fun z => absurd (List.map_eq_nil_iff.mp z) x1, fun _ g hg => ?_⟩
        exact kT rfl _ _ (s6.trans (same_new hg)) ⟨g, rfl, upd_same⟩
      · intro H5 ys s5 hD5 hp
        rw [ft] at hp
        obtain ⟨us, rfl, hpu⟩ := refs_of (H := H5) hp
        have rows5 := (rows.same (s3.trans s4)).same s5
        obtain ⟨tq, eq, pq⟩ := rows5.ex
        have lq := Paired.length pq
        have lu := Paired.length hpu
        rw [List.length_map] at lu
        refine ⟨q, D, _, _, rfl, rfl, eq, hD5, by rw [List.length_map, List.length_map, sizeLine_eq]; omega, fun p hp => ?_⟩
        exact ⟨_, p, rfl, (s24.trans s5).trans (same_new hp), Rows.cat (Same.nl (same_new hp)) pq hpu upd_same⟩
    · rw [if_neg (by simpa using c), List.append_nil]
      exact ⟨_, q, rfl, s23, rows.same s3⟩
  · rintro σ H2 ⟨v4, q, rfl, s2, rows⟩
    refine ⟨_, rfl, kk _ q s2 ?_⟩
    have eq : restsG js last (k + 1) b = restsT js last k b (last - b).toNat := if_neg e
    rw [eq]
    exact rows
theorem w_rests (T : Tb mg) (F : Def K mg "_law_rests" sRests f fd) (b : Binds K fd ["_law_block", "_law_last", "_law_jumps"] []) : ∀ k : Nat, Cal P w K mg base k "_law_rests" (spRests k) []
  | 0 => ⟨f, fd, ["_law_block", "_law_last", "_law_jumps"], [], ⟨fun _ _ _ _ h => h.elim, fun _ _ _ _ _ _ _ _ _ _ _ _ _ h => h.elim⟩, F.mgf, F.kp, b, .nil⟩
  | k + 1 => w_rests1 T k (w_rests T F b k) F b
end
end K46
end
section
set_option maxHeartbeats 4000000
/-! M7: drawn times. -/
namespace K46
open PySem Ja
open L2 hiding CX0 E0 pass0 Fun
open PySem.W (Frag findIn isFn fnIn)
open C8 (Cal Met Mak Def Fun CX0 E0 pass0 fnScope fnBody fnArgs fnScope_by cal0 met0 mak0 pe_c pe_mk pe_mt pe_mt0 pe_gc fn0)
def spTimesL : Sp := fun vs H Q _ => ∃ f : Addr, vs = [.ref f] ∧ Fd H f ∧ ∀ (H' : Hp) (x : Int), Fr f H H' → 1 ≤ x → x ≤ 100000000000000000000000000000 → Q (.int x) H'
/-- a drawn ledger -/
structure LedL (rs : List (List Int)) (ps : List (List Int × Int)) : Prop where
  nd : (ps.map (·.1)).Nodup
  ok : ∀ p ∈ ps, p.1 ∈ rs ∧ 1 ≤ p.2 ∧ p.2 ≤ 600000000000000000000000000000
  len : ps.length ≤ 6
  sum : (ps.map (·.2)).sum ≤ 600000000000000000000000000000
def spLedL : Sp := fun vs H Q _ => ∃ (f lr : Addr) (rs : List (List Int)), vs = [.ref f, .ref lr, .int 6] ∧ Fd H f ∧ Rows H lr rs ∧ rs.length ≤ 1000000 ∧ ∀ H' d ps, Fr f H H' → DI H' d ps → H d = none → LedL rs ps → Q (.ref d) H'
theorem Fr.dict {H H' : Hp} {f d : Addr} {m : List (List Int × Int)} (hf : Fd H f) (fr : Fr f H H') (h : DI H d m) : DI H' d m := fr.bt _ _ h (hf.ne h (fun xs y => by cases y))
section
variable {P : Program} {w : World} {K : Frag} {mg : Str → Option Value} {base : Heap} {f : Addr} {fd : FuncData}
theorem w_timesL (T : Tb mg) (c_take : Cal P w K mg base 1 "_law_take" spTake []) (c_pick : Cal P w K mg base 2 "_law_pick" spPick []) (F : Def K mg "_law_times" sTimes f fd) (b : Binds K fd ["_law_feed_here"] []) : Cal P w K mg base 3 "_law_times" spTimesL [] := by
  have sc : FnScope ["_law_feed_here", "_law_some"] ["_law_feed_here"] (fnScope sTimes) := fnScope_by (by decide +kernel)
  refine cal0 F b .nil sc (fun vs H Q E h => by obtain ⟨_, rfl, _⟩ := h; rfl) fun cdv A outer s H vs Q E hr h => ?_
  obtain ⟨f, rfl, hf, k⟩ := h
  refine ⟨_, (pss_cons (ps_set (i := 1) sc.nd rfl (Or.inl rfl) (pe_lst (pa_cons pe_int (pa_cons pe_int (pa_cons pe_int (pa_cons pe_int (pa_cons pe_int (pa_cons pe_int (pa_cons pe_int (pa_cons (pe_op op_add pe_int (pe_c c_take hr (by decide) rfl (pa_cons (pv 0) (pa_cons pe_int pa_nil)))) (pa_cons (pe_op op_add (pe_op op_pow pe_int pe_int) (pe_c c_take hr (by decide) rfl (pa_cons (pv 0) (pa_cons (pe_op op_pow pe_int pe_int) pa_nil)))) (pa_cons (pe_op op_pow pe_int pe_int) pa_nil))))))))))))
  (pss_one (ps_ret (pe_c c_pick hr (by decide) rfl (pa_cons (pv 0) (pa_cons (pv 1) pa_nil)))))), ?_⟩
  refine ⟨_, rfl, f, 40, rfl, hf, by decide, by decide, fun H1 x fr1 x0 x1 => ⟨_, _, rfl, rfl, ?_⟩⟩
  refine ⟨_, _, rfl, rfl, ⟨by decide, by decide, by decide⟩, _, rfl, _, _, rfl, rfl, ⟨by decide, by decide, by decide⟩, f, 1000000000, rfl, fr1.fd, by decide, by decide, fun H2 y fr2 y0 y1 => ⟨_, _, rfl, rfl, ?_⟩⟩
  refine ⟨_, _, rfl, rfl, ⟨by decide, by decide, by decide⟩, by show 10 ≤ sizeLine; decide, fun l hl => ?_⟩
  have fr12 := fr1.trans fr2
  refine ⟨_, rfl, _, rfl, f, l, _, rfl, (fr12.new hl).fd, Ne.symm (fr12.fd.ne_new hl), upd_same, by simp, by show 10 ≤ 1000000; decide, fun H3 z fr3 hz => ?_⟩
  have e15 : (10 : Int) ^ (15 : Int).toNat = 1000000000000000 := by decide
  have e29 : (10 : Int) ^ (29 : Int).toNat = 100000000000000000000000000000 := by decide
  have fr := (fr12.new hl).trans fr3
  simp only [List.mem_cons, List.not_mem_nil, or_false] at hz
  rcases hz with rfl | rfl | rfl | rfl | rfl | rfl | rfl | rfl | rfl | rfl
  · exact k _ _ fr (by decide) (by decide)
  · exact k _ _ fr (by decide) (by decide)
  · exact k _ _ fr (by decide) (by decide)
  · exact k _ _ fr (by decide) (by decide)
  · exact k _ _ fr (by decide) (by decide)
  · exact k _ _ fr (by decide) (by decide)
  · exact k _ _ fr (by decide) (by decide)
  · exact k _ _ fr (by omega) (by omega)
  · exact k _ _ fr (by rw [e15]; omega) (by rw [e15]; omega)
  · exact k _ _ fr (by rw [e29]; decide) (by rw [e29]; decide)
end
end K46
end
section
set_option maxHeartbeats 4000000
/-! M8: a drawn ledger. -/
namespace K46
open PySem Ja
open L2 hiding CX0 E0 pass0 Fun
open PySem.W (Frag findIn isFn fnIn)
open C8 (Cal Met Mak Def Fun CX0 E0 pass0 fnScope fnBody fnArgs fnScope_by cal0 met0 mak0 pe_c pe_mk pe_mt pe_mt0 pe_gc fn0)
theorem paired_mem {α β : Type} {R : α → β → Prop} {as : List α} {bs : List β} (p : Paired R as bs) : ∀ a ∈ as, ∃ b ∈ bs, R a b := by
  induction p with
  | nil => intro a h; cases h
  | cons h t ih =>
    intro a ha
    rcases List.mem_cons.mp ha with z | z
    · exact ⟨_, List.mem_cons_self, z ▸ h⟩
    · obtain ⟨b, hb, r⟩ := ih a z
      exact ⟨b, List.mem_cons_of_mem _ hb, r⟩
theorem putM_len {β : Type} (m : List (List Int × β)) (r : List Int) (v : β) : (putM m r v).length ≤ m.length + 1 := by
  have h := congrArg List.length (putM_keys m r v)
  rw [List.length_map] at h
  rw [h]
  split
  · rw [List.length_map]; omega
  · rw [List.length_append, List.length_map, List.length_singleton]; omega
theorem putM_ne {m : List (List Int × Int)} {r : List Int} {v : Int} {p : List Int × Int} (nd : (m.map (·.1)).Nodup) (h : p ∈ putM m r v) : p = (r, v) ∨ p ∈ m := by
  rcases putM_mem h with z | z
  · exact .inr z
  · exact .inl z
theorem putM_sum : ∀ {m : List (List Int × Int)} {r : List Int} {v : Int}, (m.map (·.1)).Nodup → ((putM m r v).map (·.2)).sum = (m.map (·.2)).sum - numF m r + v := by
  intro m r v nd
  by_cases h : r ∈ m.map (·.1)
  · have ha : (m.any fun p => decide (p.1 = r)) = true := by
      obtain ⟨p, hp, e2⟩ := List.mem_map.mp h
      exact List.any_eq_true.mpr ⟨p, hp, decide_eq_true e2⟩
    unfold putM
    rw [if_pos ha]
    clear ha
    induction m with
    | nil => cases h
    | cons p m ih =>
      rw [List.map_cons] at nd h
      obtain ⟨n1, n2⟩ := List.nodup_cons.mp nd
      by_cases e : p.1 = r
      · have hn : r ∉ m.map (·.1) := by rw [← e]; exact n1
        have em : (m.map fun q => if q.1 = r then (q.1, v) else q) = m := by
          have : ∀ q ∈ m, (if q.1 = r then (q.1, v) else q) = q := fun q hq => if_neg fun z => hn (List.mem_map.mpr ⟨q, hq, z⟩)
          calc (m.map fun q => if q.1 = r then (q.1, v) else q) = m.map id := List.map_congr_left this
            _ = m := List.map_id m
        have en : numF (p :: m) r = p.2 := by
          unfold numF look
          rw [List.find?_cons, decide_eq_true e]
          rfl
        rw [List.map_cons, List.map_cons, List.sum_cons, em, if_pos e, en, List.map_cons, List.sum_cons]
        show v + _ = _
        omega
      · have hr : r ∈ m.map (·.1) := by
          rcases List.mem_cons.mp h with z | z
          · exact absurd z.symm e
          · exact z
        have en : numF (p :: m) r = numF m r := by
          unfold numF look
          rw [List.find?_cons, decide_eq_false e]
        rw [List.map_cons, List.map_cons, List.sum_cons, if_neg e, ih n2 hr, en, List.map_cons, List.sum_cons]
        omega
  · have e0 : numF m r = 0 := by unfold numF; rw [look_none.mpr h]; rfl
    rw [putM_new _ h, List.map_append, List.sum_append, e0]
    show _ + (v + 0) = _
    omega
section
variable {P : Program} {w : World} {K : Frag} {mg : Str → Option Value} {base : Heap} {f : Addr} {fd : FuncData}
theorem w_ledL (T : Tb mg) (c_take : Cal P w K mg base 1 "_law_take" spTake []) (c_pick : Cal P w K mg base 2 "_law_pick" spPick []) (c_times : Cal P w K mg base 3 "_law_times" spTimesL []) (F : Def K mg "_law_ledger" sLedgerL f fd) (b : Binds K fd ["_law_feed_here", "_law_runs", "_law_most"] []) : Cal P w K mg base 4 "_law_ledger" spLedL [] := by
  have sc : FnScope ["_law_feed_here", "_law_runs", "_law_most", "_law_found", "_law_turn", "_law_run_here"] ["_law_feed_here", "_law_runs", "_law_most"] (fnScope sLedgerL) := fnScope_by (by decide +kernel)
  refine cal0 F b .nil sc (fun vs H Q E h => by obtain ⟨_, _, _, rfl, _⟩ := h; rfl) fun cdv A outer s H vs Q E hr h => ?_
  obtain ⟨f, lr, rs, rfl, hf, hl, hz, k⟩ := h
  have hu := hu_of hr
  refine ⟨_, (pss_cons (ps_set (i := 3) sc.nd rfl (Or.inl rfl) (pe_dnewT))
  (pss_cons (ps_for PassesOwn.never rfl (pi_range1 (by rfl) T.range (pa_cons (pe_ifExp (pt_cmpR (op_neD hr.units) (pv 1) (pe_lst pa_nil) (nomark _)) (pe_c c_take hr (by decide) rfl (pa_cons (pv 0) (pa_cons (pe_op op_add (pv 2) pe_int) pa_nil))) pe_int) pa_nil)) (pg_name (i := 4) sc.nd rfl (Or.inl rfl)) (pss_cons (ps_set (i := 5) sc.nd rfl (Or.inl rfl) (pe_c c_pick hr (by decide) rfl (pa_cons (pv 0) (pa_cons (pv 1) pa_nil))))
  (pss_one (ps_dput hu (pv 3) (pv 5) (pe_op op_add (pe_dget2 hu (pv 3) (pv 5) pe_int ⟨rfl, rfl, rfl, rfl⟩) (pe_c c_times hr (by decide) rfl (pa_cons (pv 0) pa_nil))) rfl))))
  (pss_one (ps_ret (pv 3))))), ?_⟩
  intro d hd
  have df : d ≠ f := Ne.symm (hf.ne_new hd)
  have fr0 : Fr f H (upd H d (.dT [])) := (Fr.refl hf).new hd
  have hd0 : DI (upd H d (.dT [])) d [] := upd_same
  generalize upd H d (.dT []) = H1 at fr0 hd0
  have hl1 := hl.fr hf fr0
  refine ⟨_, rfl, Nat.zero_le _, fun e he => ?_⟩
  have fr1 : Fr f H (upd H1 e (.lst [])) := fr0.new he
  have hd1 : DI (upd H1 e (.lst [])) d [] := same_new he _ _ hd0
  have hl2 := hl1.same (same_new (o := .lst []) he)
  have he1 : Rows (upd H1 e (.lst [])) e [] := Rows.nil upd_same
  generalize upd H1 e (.lst []) = H2 at fr1 hd1 hl2 he1
  refine neR hl2 he1 ⟨_, rfl, ifb (fun c => ?_) (fun c => ?_)⟩
  · refine ⟨_, rfl, _, rfl, _, _, rfl, rfl, f, 7, rfl, fr1.fd, by decide, by decide, fun H3 j fr2 j0 j1 => ?_⟩
    have fr3 := fr1.trans fr2
    have hd3 := Fr.dict fr1.fd fr2 hd1
    have c' : rs ≠ [] := by simpa using c
    refine ⟨j, rfl, by omega, by omega, for_it walk_range (fun i σ H' => ∃ v4 v5 ps, σ = [some (.ref f), some (.ref lr), some (.int 6), some (.ref d), v4, v5] ∧ Fr f H H' ∧ DI H' d ps ∧ (ps.map (·.1)).Nodup ∧ (∀ p ∈ ps, p.1 ∈ rs ∧ 1 ≤ p.2 ∧ p.2 ≤ (i : Int) * 100000000000000000000000000000) ∧ ps.length ≤ i ∧ (ps.map (·.2)).sum ≤ (i : Int) * 100000000000000000000000000000)
      ⟨none, none, [], rfl, fr3, hd3, .nil, fun p hp => (by cases hp), Nat.le_refl _, by show (0 : Int) ≤ _; omega⟩ (fun _ _ _ _ _ => trivial) ?_ ?_⟩
    · rintro i x σ _ H4 hi ⟨v4, v5, ps, rfl, fr4, hd4, nd, ok, len, sm⟩ ⟨rfl, hx⟩
      have hl4 := hl.fr hf fr4
      obtain ⟨ts, el, pl⟩ := hl4.ex
      have hne := c'
      refine ⟨_, rfl, _, rfl, f, lr, _, rfl, fr4.fd, hl4.nef fr4.fd, el, fun z => ?_, by rw [List.length_map, Paired.length pl]; exact hz, fun H5 y fr5 hy => ?_⟩
      · have z := List.map_eq_nil_iff.mp z
        subst z
        cases pl
        exact hne rfl
      obtain ⟨t, ht, rfl⟩ := List.mem_map.mp hy
      obtain ⟨r, hr2, hm⟩ := paired_mem pl t ht
      have hm5 : TupI H5 t r := fr5.bt _ _ hm (fr4.fd.ne hm (fun xs y => by cases y))
      have hd5 := Fr.dict fr4.fd fr5 hd4
      have g := DGet.t (H := H5) (a := d) (b := t) (k := keyOf r) hd5 (by rw [keyOf_V]; exact hm5)
      rw [look_V] at g
      have eg : ((look ps r).map V.int).getD (.int 0) = .int (numF ps r) := by unfold numF; cases look ps r <;> rfl
      have nn : 0 ≤ numF ps r ∧ numF ps r ≤ (i : Int) * 100000000000000000000000000000 := by
        cases q : look ps r with
        | none => unfold numF; rw [q]; exact ⟨Int.le_refl _, by show (0 : Int) ≤ _; omega⟩
        | some x =>
          rw [look_numF q]
          have := ok _ (look_mem q)
          have h1 : 1 ≤ x := this.2.1
          exact ⟨by omega, this.2.2⟩
      refine ⟨_, rfl, d, rfl, .inr ⟨_, .inl hd5⟩, _, rfl, _, g, _, rfl, f, rfl, fr5.fd, fun H6 z fr6 z1 z2 => ⟨numF ps r, z, eg, rfl, ?_⟩⟩
      have hd6 := Fr.dict fr5.fd fr6 hd5
      have hm6 : TupI H6 t r := fr6.bt _ _ hm5 (fr5.fd.ne hm5 (fun xs y => by cases y))
      refine ⟨_, rfl, _, rfl, d, _, rfl, DPut.t (k := keyOf r) hd6 (by rw [keyOf_V]; exact hm6) (by rw [List.length_map, sizeLine_eq]; omega), ⟨_, _, putM ps r (numF ps r + z), rfl, ((fr4.trans fr5).trans fr6).upd hd df, ?_, putM_nodup nd, fun p hp => ?_, ?_, ?_⟩⟩
      · show upd _ _ _ _ = _
        rw [upd_same]
        exact congrArg (fun z => some (HO.dT z)) (put_V V.int ps r (numF ps r + z))
      · rcases putM_mem hp with h | h
        · obtain ⟨a1, a2, a3⟩ := ok p h
          exact ⟨a1, a2, by omega⟩
        · rw [h]
          exact ⟨hr2, by show 1 ≤ numF ps r + z; omega, by show numF ps r + z ≤ _; omega⟩
      · have := putM_len ps r (numF ps r + z)
        omega
      · rw [putM_sum nd]
        omega
    · rintro σ H4 ⟨v4, v5, ps, rfl, fr4, hd4, nd, ok, len, sm⟩
      exact ⟨_, rfl, k _ d ps fr4 hd4 hd ⟨nd, fun p hp => ⟨(ok p hp).1, (ok p hp).2.1, by have := (ok p hp).2.2; omega⟩, by omega, by omega⟩⟩
  · have fr3 := fr1
    have hd3 := hd1
    refine ⟨0, rfl, by omega, by omega, for_it walk_range (fun i σ H' => ∃ v4 v5 ps, σ = [some (.ref f), some (.ref lr), some (.int 6), some (.ref d), v4, v5] ∧ Fr f H H' ∧ DI H' d ps ∧ (ps.map (·.1)).Nodup ∧ (∀ p ∈ ps, p.1 ∈ rs ∧ 1 ≤ p.2 ∧ p.2 ≤ (i : Int) * 100000000000000000000000000000) ∧ ps.length ≤ i ∧ (ps.map (·.2)).sum ≤ (i : Int) * 100000000000000000000000000000)
      ⟨none, none, [], rfl, fr3, hd3, .nil, fun p hp => (by cases hp), Nat.le_refl _, by show (0 : Int) ≤ _; omega⟩ (fun _ _ _ _ _ => trivial) ?_ ?_⟩
    · rintro i x σ _ H4 hi ⟨v4, v5, ps, rfl, fr4, hd4, nd, ok, len, sm⟩ ⟨rfl, hx⟩
      have hl4 := hl.fr hf fr4
      obtain ⟨ts, el, pl⟩ := hl4.ex
      have hne : rs ≠ [] := absurd hi (by simp)
      refine ⟨_, rfl, _, rfl, f, lr, _, rfl, fr4.fd, hl4.nef fr4.fd, el, fun z => ?_, by rw [List.length_map, Paired.length pl]; exact hz, fun H5 y fr5 hy => ?_⟩
      · have z := List.map_eq_nil_iff.mp z
        subst z
        cases pl
        exact hne rfl
      obtain ⟨t, ht, rfl⟩ := List.mem_map.mp hy
      obtain ⟨r, hr2, hm⟩ := paired_mem pl t ht
      have hm5 : TupI H5 t r := fr5.bt _ _ hm (fr4.fd.ne hm (fun xs y => by cases y))
      have hd5 := Fr.dict fr4.fd fr5 hd4
      have g := DGet.t (H := H5) (a := d) (b := t) (k := keyOf r) hd5 (by rw [keyOf_V]; exact hm5)
      rw [look_V] at g
      have eg : ((look ps r).map V.int).getD (.int 0) = .int (numF ps r) := by unfold numF; cases look ps r <;> rfl
      have nn : 0 ≤ numF ps r ∧ numF ps r ≤ (i : Int) * 100000000000000000000000000000 := by
        cases q : look ps r with
        | none => unfold numF; rw [q]; exact ⟨Int.le_refl _, by show (0 : Int) ≤ _; omega⟩
        | some x =>
          rw [look_numF q]
          have := ok _ (look_mem q)
          have h1 : 1 ≤ x := this.2.1
          exact ⟨by omega, this.2.2⟩
      refine ⟨_, rfl, d, rfl, .inr ⟨_, .inl hd5⟩, _, rfl, _, g, _, rfl, f, rfl, fr5.fd, fun H6 z fr6 z1 z2 => ⟨numF ps r, z, eg, rfl, ?_⟩⟩
      have hd6 := Fr.dict fr5.fd fr6 hd5
      have hm6 : TupI H6 t r := fr6.bt _ _ hm5 (fr5.fd.ne hm5 (fun xs y => by cases y))
      refine ⟨_, rfl, _, rfl, d, _, rfl, DPut.t (k := keyOf r) hd6 (by rw [keyOf_V]; exact hm6) (by rw [List.length_map, sizeLine_eq]; omega), ⟨_, _, putM ps r (numF ps r + z), rfl, ((fr4.trans fr5).trans fr6).upd hd df, ?_, putM_nodup nd, fun p hp => ?_, ?_, ?_⟩⟩
      · show upd _ _ _ _ = _
        rw [upd_same]
        exact congrArg (fun z => some (HO.dT z)) (put_V V.int ps r (numF ps r + z))
      · rcases putM_mem hp with h | h
        · obtain ⟨a1, a2, a3⟩ := ok p h
          exact ⟨a1, a2, by omega⟩
        · rw [h]
          exact ⟨hr2, by show 1 ≤ numF ps r + z; omega, by show numF ps r + z ≤ _; omega⟩
      · have := putM_len ps r (numF ps r + z)
        omega
      · rw [putM_sum nd]
        omega
    · rintro σ H4 ⟨v4, v5, ps, rfl, fr4, hd4, nd, ok, len, sm⟩
      exact ⟨_, rfl, k _ d ps fr4 hd4 hd ⟨nd, fun p hp => ⟨(ok p hp).1, (ok p hp).2.1, by have := (ok p hp).2.2; omega⟩, by omega, by omega⟩⟩
end
end K46
end
section
set_option maxHeartbeats 4000000
/-! M9: the law's table, pairs. -/
namespace K46
open PySem Ja
open L2 hiding CX0 E0 pass0 Fun
open PySem.W (Frag findIn isFn fnIn)
open C8 (Cal Met Mak Def Fun CX0 E0 pass0 fnScope fnBody fnArgs fnScope_by cal0 met0 mak0 pe_c pe_mk pe_mt pe_mt0 pe_gc fn0)
def spTableL : Sp := fun vs H Q _ => ∃ (lr d : Addr) (rs : List (List Int)) (ps : List (List Int × Int)), vs = [.ref lr, .ref d] ∧ Rows H lr rs ∧ rs.Nodup ∧ rs.length ≤ 1000 ∧ DI H d ps ∧ (ps.map (·.1)).Nodup ∧ (∀ p ∈ ps, (∀ s ∈ stepsI p.1, s ∈ rs) ∧ p.1.length < 1000) ∧ ps.length ≤ 1000 ∧
  ∀ H' e, Same H H' → H e = none → DI H' e (tabN rs (cntF ps)) → Q (.ref e) H'
def spPairsL : Sp := fun vs H Q _ => ∃ (d : Addr) (ps : List (List Int × Int)), vs = [.ref d] ∧ DI H d ps ∧ (ps.map (·.1)).Nodup ∧ ps.length ≤ 1000 ∧ ∀ H' l, Same H H' → Prs H' l ps → Q (.ref l) H'
/-- a look into a locked dict -/
theorem DGet.fz {H : Hp} {d q : Addr} {od : Obj} {ps : List (List Int × Int)} {p : List Int × Int} (nd : (ps.map (·.1)).Nodup) (hp : p ∈ ps) (fz : H d = some (.frz od (.dT (dM V.int ps)))) (hq : TupI H q p.1) : DGet H d (.ref q) (some (.int p.2)) :=
  .inr ⟨_, keyOf p.1, q, .inr ⟨od, fz⟩, rfl, by rw [keyOf_V]; exact hq, by rw [look_V, look_of nd (show (p.1, p.2) ∈ ps from hp)]; rfl⟩
section
variable {P : Program} {w : World} {K : Frag} {mg : Str → Option Value} {base : Heap} {f : Addr} {fd : FuncData}
theorem w_pairsL (F : Def K mg "_law_pairs" sPairs f fd) (b : Binds K fd ["_law_table_here"] []) : Cal P w K mg base 1 "_law_pairs" spPairsL [] := by
  have sc : FnScope ["_law_table_here", "_law_jump"] ["_law_table_here"] (fnScope sPairs) := fnScope_by (by decide +kernel)
  refine cal0 F b .nil sc (fun vs H Q E h => by obtain ⟨_, _, rfl, _⟩ := h; rfl) fun cdv A outer s H vs Q E hr h => ?_
  obtain ⟨d, ps, rfl, hd, nd, len, k⟩ := h
  have hu := hu_of hr
  refine ⟨_, (pss_one (ps_ret (pe_lock (pe_lc (own := [("_law_jump", 1)]) rfl sc.nd (pi_keys (pv 0)) (blkOk_by (own := [("_law_jump", 1)]) (N := ["_law_table_here", "_law_jump"]) (sc := fnScope sPairs) (by decide +kernel)) (fun _ _ _ _ _ => (pg_name (i := 1) sc.nd rfl (Or.inl rfl))) (fun _ _ _ _ _ => pts_nil) (fun _ _ _ _ _ => (pe_tup (pa_cons (pv 1) (pa_cons (pe_dget hu (pv 0) (pv 1) (fun _ _ => rfl)) pa_nil)))))))), ?_⟩
  refine ⟨d, _, hd, trivial, fun od => ?_⟩
  refine ⟨_, rfl, d, od, rfl, .inr ⟨dM V.int ps, upd_same, fun D hD => ?_⟩⟩
  refine lc_fm (ms := ps) walk_keyI (fun _ => true) (fun p => p) (fun H v p => ∃ t, v = .ref t ∧ PrI H t p) (fun H H' v p nl ⟨t, e, q⟩ => ⟨t, e, q.nl nl⟩) hD (by rw [sizeLine_eq]; omega) (fun H' s => s _ _ upd_same) ?_ ?_
  · rintro i p x H3 _ Nx hi s1 ⟨rfl, q, p', hp', rfl, hq⟩ _ kT
    obtain rfl : p' = p := Option.some.inj (hp'.symm.trans hi)
    have fz := s1 _ _ (show _ from upd_same)
    refine ⟨rfl, ?_⟩
    refine ⟨_, rfl, _, rfl, _, rfl, d, V.int p'.2, rfl, DGet.fz nd (List.mem_of_getElem? hi) fz hq, by show 2 ≤ sizeLine; decide, fun g hg => kT rfl _ _ (same_new hg) ⟨g, rfl, q, upd_same, same_new hg _ _ hq⟩⟩
  · intro H' ys s1 hD' hp
    rw [ft, List.map_id'] at hp
    obtain ⟨fz, s2⟩ := unlock hd s1
    exact ⟨fz, k _ D s2 (prs_unlock fz hD' hp)⟩
theorem w_tableL (c_steps : Cal P w K mg base 1 "_law_steps" spSteps []) (F : Def K mg "_law_table" sTable f fd) (b : Binds K fd ["_law_rows_here", "_law_times_here"] []) : Cal P w K mg base 2 "_law_table" spTableL [] := by
  have sc : FnScope ["_law_rows_here", "_law_times_here", "_law_found", "_law_jump", "_law_run_here"] ["_law_rows_here", "_law_times_here"] (fnScope sTable) := fnScope_by (by decide +kernel)
  refine cal0 F b .nil sc (fun vs H Q E h => by obtain ⟨_, _, _, _, rfl, _⟩ := h; rfl) fun cdv A outer s H vs Q E hr h => ?_
  obtain ⟨lr, d, rs, ps, rfl, hl, rnd, rlen, hd, nd, ok, len, k⟩ := h
  have hu := hu_of hr
  refine ⟨_, (pss_cons (ps_set (i := 2) sc.nd rfl (Or.inl rfl) (pe_dnewT))
  (pss_cons (ps_for PassesOwn.never rfl (pi_list (pv 0)) (pg_name (i := 3) sc.nd rfl (Or.inl rfl)) (pss_one (ps_dput hu (pv 2) (pv 3) pe_int rfl)))
  (pss_cons (ps_lock (ps_for PassesOwn.never rfl (pi_keys (pv 1)) (pg_name (i := 4) sc.nd rfl (Or.inl rfl)) (pss_one (ps_for PassesOwn.never rfl (pi_list (pe_c c_steps hr (by decide) rfl (pa_cons (pv 4) pa_nil))) (pg_name (i := 3) sc.nd rfl (Or.inl rfl)) (pss_one (ps_dput hu (pv 2) (pv 3) (pe_op op_add (pe_dget hu (pv 2) (pv 3) (fun _ _ => rfl)) (pe_dget hu (pv 1) (pv 4) (fun _ _ => rfl))) rfl))))))
  (pss_one (ps_ret (pv 2)))))), ?_⟩
  intro e he
  have hde : d ≠ e := ne_of_none hd he
  obtain ⟨ts, el, pl⟩ := hl.ex
  have hlen : ts.length = rs.length := Paired.length pl
  refine ⟨_, rfl, lr, rfl, ⟨_, SqL.of (same_new he _ _ el)⟩, for_it walk_list (fun i σ H' => (∃ v3, σ = [some (.ref lr), some (.ref d), some (.ref e), v3, none]) ∧ Same H H' ∧ DI H' e (tabN (rs.take i) fun _ => 0)) ⟨⟨none, rfl⟩, same_new he, upd_same⟩ (fun i σ H' _ h => SqL.of (h.2.1 _ _ el)) ?_ ?_⟩
  · rintro i x σ _ H2 hi ⟨⟨v3, rfl⟩, s2, h2⟩ ⟨rfl, hx⟩
    rw [List.length_map] at hi
    have ei : rs[i]? = some rs[i] := List.getElem?_eq_getElem (by omega)
    obtain ⟨t, rfl, hm⟩ := at_item pl ei hx
    have nin : rs[i] ∉ (tabN (rs.take i) fun _ => (0 : Int)).map (·.1) := by rw [tab_keys]; exact nd_take rnd ei
    refine ⟨_, rfl, _, rfl, e, _, rfl, DPut.t (k := keyOf rs[i]) h2 (by rw [keyOf_V]; exact s2 _ _ hm) (by rw [List.length_map, List.length_map, List.length_take, sizeLine_eq]; omega), ⟨_, rfl⟩, same_upd s2 he, ?_⟩
    show upd _ _ _ _ = _
    rw [upd_same]
    have ep := put_V V.int (tabN (rs.take i) fun _ => (0 : Int)) rs[i] 0
    rw [putM_new _ nin] at ep
    rw [tk_more ei]
    have ee : (tabN (rs.take i) fun _ => (0 : Int)) ++ [(rs[i], 0)] = tabN (rs.take i ++ [rs[i]]) fun _ => 0 := by show _ = List.map (fun j => (j, (0 : Int))) (_ ++ _); rw [List.map_append]; rfl
    rw [ee] at ep
    exact congrArg (fun z => some (HO.dT z)) ep
  rintro σ H2 ⟨⟨v3, rfl⟩, s2, h2⟩
  rw [List.length_map, hlen, List.take_length] at h2
  have hd2 := s2 _ _ hd
  refine ⟨d, _, hd2, trivial, fun od => ?_⟩
  have HBdef : ∀ {b o}, H b = some o → o ≠ .dT (dM V.int ps) → (upd H d (.frz od (.dT (dM V.int ps)))) b = some o := fun {b o} hb ne => lock_ne hd hb ne
  have le0 : (upd H d (.frz od (.dT (dM V.int ps)))) e = none := by rw [upd_ne (Ne.symm hde)]; exact he
  have hle : (upd H2 d (.frz od (.dT (dM V.int ps)))) e = some (.dT ((tabN rs fun _ => 0).map fun p => (keyOf p.1, V.int p.2))) := by rw [upd_ne (Ne.symm hde)]; exact h2
  have sl : Same (upd H d (.frz od (.dT (dM V.int ps)))) (upd H2 d (.frz od (.dT (dM V.int ps)))) := fun b o eb => by
    by_cases q : b = d
    · subst q; rw [upd_same] at eb ⊢; exact eb
    · rw [upd_ne q] at eb ⊢
      exact s2 _ _ eb
  have fz0 : (upd H d (.frz od (.dT (dM V.int ps)))) d = some (.frz od (.dT (dM V.int ps))) := upd_same
  have ul : ∀ H', Same (upd H d (.frz od (.dT (dM V.int ps)))) H' → H' d = some (.frz od (.dT (dM V.int ps))) ∧ Same H (upd H' d (.dT (dM V.int ps))) := fun H' s => unlock hd s
  show tFor _ _ _ _ _ (upd H2 d (.frz od (.dT (dM V.int ps))))
  generalize upd H2 d (.frz od (.dT (dM V.int ps))) = HL at hle sl
  generalize upd H d (.frz od (.dT (dM V.int ps))) = HB at le0 sl fz0 ul
  refine ⟨_, rfl, d, od, rfl, .inr ⟨dM V.int ps, sl _ _ fz0, for_it walk_keyI (fun i σ H' => (∃ v3 v4, σ = [some (.ref lr), some (.ref d), some (.ref e), v3, v4]) ∧ Same HB H' ∧ DI H' e (tabN rs (cntF (ps.take i))))
    ⟨⟨v3, none, rfl⟩, sl, hle⟩ (fun i σ H' _ h => h.2.1 _ _ fz0) ?_ ?_⟩⟩
  · rintro i x σ H3 _ hi ⟨⟨v3, v4, rfl⟩, s3, hm⟩ ⟨rfl, q, p, hp, rfl, hq⟩
    have hpm := List.mem_of_getElem? hp
    obtain ⟨g1, g2⟩ := ok p hpm
    refine ⟨_, rfl, q, p.1, rfl, hq, g2, fun H4 ls s4 hls => ?_⟩
    obtain ⟨us, ul', pu⟩ := hls.ex
    have hus : us.length = (stepsI p.1).length := Paired.length pu
    refine ⟨ls, rfl, ⟨_, SqL.of ul'⟩, for_it walk_list (fun i' σ H' => (∃ v3, σ = [some (.ref lr), some (.ref d), some (.ref e), v3, some (.ref q)]) ∧ Same HB H' ∧ H' ls = some (.lst (us.map V.ref)) ∧ Paired (fun t s => TupI H' t s) us (stepsI p.1) ∧ TupI H' q p.1 ∧ DI H' e (tabN rs fun j => cntF (ps.take i) j + cntS ((stepsI p.1).take i') j * p.2))
      ⟨⟨v3, rfl⟩, s3.trans s4, ul', pu, s4 _ _ hq, ?_⟩ (fun i' σ H' _ h => SqL.of h.2.2.1) ?_ ?_⟩
    · have : (tabN rs fun j => cntF (ps.take i) j + cntS ((stepsI p.1).take 0) j * p.2) = tabN rs (cntF (ps.take i)) := tab_congr fun j _ => by simp [cntS]
      show _ = _
      rw [this]
      exact s4 _ _ hm
    · rintro i' y σ _ H5 hi' ⟨⟨v3, rfl⟩, s5, el5, pu5, hq5, hm5⟩ ⟨rfl, hy⟩
      rw [List.length_map] at hi'
      have ei : (stepsI p.1)[i']? = some (stepsI p.1)[i'] := List.getElem?_eq_getElem (by omega)
      obtain ⟨u, rfl, hu5⟩ := at_item pu5 ei hy
      have hin : (stepsI p.1)[i'] ∈ rs := g1 _ (List.mem_of_getElem? ei)
      have fz := s5 _ _ fz0
      have gg := DGet.t (H := H5) (a := e) (b := u) (k := keyOf (stepsI p.1)[i']) hm5 (by rw [keyOf_V]; exact hu5)
      have eg : valV ((tabN rs fun j => cntF (ps.take i) j + cntS ((stepsI p.1).take i') j * p.2).map fun p => (keyOf p.1, V.int p.2)) (keyOf (stepsI p.1)[i']) = some (.int (cntF (ps.take i) (stepsI p.1)[i'] + cntS ((stepsI p.1).take i') (stepsI p.1)[i'] * p.2)) := (look_V V.int _ _).trans (by rw [look_mark, if_pos hin]; rfl)
      rw [eg] at gg
      have lb2 : ((tabN rs fun j => cntF (ps.take i) j + cntS ((stepsI p.1).take i') j * p.2).map fun p => (keyOf p.1, V.int p.2)).length < sizeLine := by rw [List.length_map, List.length_map, sizeLine_eq]; omega
      refine ⟨_, rfl, _, rfl, e, _, rfl, gg, _, rfl, _, rfl, d, V.int p.2, rfl, DGet.fz nd hpm fz hq5, _, _, rfl, rfl, _, rfl, _, rfl, e, _, rfl, DPut.t (k := keyOf (stepsI p.1)[i']) hm5 (by rw [keyOf_V]; exact hu5) lb2, ⟨_, rfl⟩, same_upd s5 le0, ?_, ?_, ?_, ?_⟩
      · rw [upd_ne (fun z => by rw [z] at el5; cases el5.symm.trans hm5)]; exact el5
      · exact Paired.mapP pu5 fun t s y => by
          show upd _ _ _ _ = _
          rw [upd_ne (fun z => by rw [z] at y; cases y.symm.trans hm5)]; exact y
      · show upd _ _ _ _ = _
        rw [upd_ne (fun z => by rw [z] at hq5; cases hq5.symm.trans hm5)]; exact hq5
      · show upd _ _ _ _ = _
        rw [upd_same]
        have ep := put_V V.int (tabN rs fun j => cntF (ps.take i) j + cntS ((stepsI p.1).take i') j * p.2) (stepsI p.1)[i'] (cntF (ps.take i) (stepsI p.1)[i'] + cntS ((stepsI p.1).take i') (stepsI p.1)[i'] * p.2 + p.2)
        rw [putM_tab hin] at ep
        have ec : (tabN rs fun j => if j = (stepsI p.1)[i'] then cntF (ps.take i) (stepsI p.1)[i'] + cntS ((stepsI p.1).take i') (stepsI p.1)[i'] * p.2 + p.2 else cntF (ps.take i) j + cntS ((stepsI p.1).take i') j * p.2) = tabN rs fun j => cntF (ps.take i) j + cntS ((stepsI p.1).take (i' + 1)) j * p.2 := tab_congr fun j _ => by
          rw [tk_more ei, cntS_snoc, Int.add_mul]
          by_cases c : j = (stepsI p.1)[i']
          · rw [if_pos c, if_pos c, c]; omega
          · rw [if_neg c, if_neg c]; omega
        rw [ec] at ep
        exact congrArg (fun z => some (HO.dT z)) ep
    · rintro σ H5 ⟨⟨v3, rfl⟩, s5, el5, pu5, hq5, hm5⟩
      rw [List.length_map, hus, List.take_length] at hm5
      refine ⟨⟨_, _, rfl⟩, s5, ?_⟩
      have : (tabN rs fun j => cntF (ps.take i) j + cntS (stepsI p.1) j * p.2) = tabN rs (cntF (ps.take (i + 1))) := tab_congr fun j _ => by rw [tk_more hp, cntF_snoc]
      show _ = _
      rw [← this]
      exact hm5
  · rintro σ H3 ⟨⟨v3, v4, rfl⟩, s3, hm⟩
    rw [List.take_length] at hm
    obtain ⟨fz, s4⟩ := ul H3 s3
    refine ⟨fz, _, rfl, k _ e s4 he ?_⟩
    show upd _ _ _ _ = _
    rw [upd_ne (Ne.symm hde)]; exact hm
end
end K46
end
section
set_option maxHeartbeats 4000000
/-! M10: runs kept, lifts by the law. -/
namespace K46
open PySem Ja
open L2 hiding CX0 E0 pass0 Fun
open PySem.W (Frag findIn isFn fnIn)
open C8 (Cal Met Mak Def Fun CX0 E0 pass0 fnScope fnBody fnArgs fnScope_by cal0 met0 mak0 pe_c pe_mk pe_mt pe_mt0 pe_gc fn0)
theorem pi_listk {X : Cx} {K : Frag} {tg l : Expr} {tl : TE} (h : X.K = K) (hl : PE X l tl) : PI X tg l (iList K tl) := by subst h; exact pi_list hl
theorem op_eqDk {X : Cx} {K : Frag} (h : X.K = K) (hu : X.A.units + 64 < cLine) : OpR X (compareOp .Eq) (rEqD K) := by subst h; exact op_eqD hu
theorem op_neDk {X : Cx} {K : Frag} (h : X.K = K) (hu : X.A.units + 64 < cLine) : OpR X (compareOp .NotEq) (rNeD K) := by subst h; exact op_neD hu
def scKeep : Scope := { kind := .function, names := [(".0", .local), ("_law_run_here", .local), ("_law_steps", .globalImplicit), ("_law_jumps", .cell)], isGenerator := false, isCoroutine := false }
def keepF (rs js : List (List Int)) : List (List Int) := rs.filter fun r => decide ((stepsI r).filter (fun s => !decide (s ∈ js)) = [])
def spKeep : Sp := fun vs H Q _ => ∃ (lr lj : Addr) (rs js : List (List Int)), vs = [.ref lr, .ref lj] ∧ Rows H lr rs ∧ Rows H lj js ∧ (∀ r ∈ rs, r.length < 1000) ∧ rs.length ≤ 1000000 ∧ ∀ H' l, Same H H' → Rows H' l (keepF rs js) → Q (.ref l) H'
/-- the lift, as the law finds it -/
def lawLift (js : List (List Int)) (names r : List Int) : List Int := r.tail.foldl (fun acc b => acc ++ (js.filter fun s => decide (j0 s = lst acc) && decide (nm names (j1 s) = b)).map j1) [0]
def spLawLift : Sp := fun vs H Q _ => ∃ (ln lj t : Addr) (names r : List Int) (js : List (List Int)), vs = [.ref ln, .ref lj, .ref t] ∧ IntL H ln names ∧ Rows H lj js ∧ Jr names.length js ∧ js.length ≤ 200 ∧ TupI H t r ∧ 2 ≤ r.length ∧ r.length < 1000 ∧ ∀ H' q, Same H H' → TupI H' q (lawLift js names r) → Q (.ref q) H'
section
variable {P : Program} {w : World} {K : Frag} {mg : Str → Option Value} {base : Heap} {f : Addr} {fd : FuncData}
theorem w_keep (c_steps : Cal P w K mg base 1 "_law_steps" spSteps []) (F : Def K mg "_law_keeping" sKeeping f fd) (b : Binds K fd ["_law_runs", "_law_jumps"] []) : Cal P w K mg base 2 "_law_keeping" spKeep [] := by
  have sc : FnScope ["_law_runs", "_law_jumps", "_law_run_here", "_law_jump"] ["_law_runs", "_law_jumps"] (fnScope sKeeping) := fnScope_by (by decide +kernel)
  refine cal0 F b .nil sc (fun vs H Q E h => by obtain ⟨_, _, _, _, rfl, _⟩ := h; rfl) fun cdv A outer s H vs Q E hr h => ?_
  obtain ⟨lr, lj, rs, js, rfl, hl, hj, ok, len, k⟩ := h
  refine ⟨_, (pss_one (ps_ret (pe_lc (own := [("_law_run_here", 2)]) rfl sc.nd (pi_list (pv 0)) (blkOk_by (own := [("_law_run_here", 2)]) (N := ["_law_runs", "_law_jumps", "_law_run_here", "_law_jump"]) (sc := fnScope sKeeping) (by decide +kernel)) (fun _ _ _ _ _ => (pg_name (i := 2) sc.nd rfl (Or.inl rfl))) (fun _ _ _ _ _ => pts_one (pt_cmpR (op_eqDk (K := K) rfl hr.units) (pe_lc (own := [("_law_jump", 3)]) rfl sc.nd (pi_listk (K := K) rfl (pe_c c_steps hr (by decide) rfl (pa_cons (pv 2) pa_nil))) (blkOk_by (own := [("_law_jump", 3)]) (N := ["_law_runs", "_law_jumps", "_law_run_here", "_law_jump"]) (sc := scKeep) (by decide +kernel)) (fun _ _ _ _ _ => (pg_name (i := 3) sc.nd rfl (Or.inl rfl))) (fun _ _ _ _ _ => pts_one (pt_cmpR (notInDk (K := K) rfl (hu65 hr)) (pv 3) (pv 1) (by rfl))) (fun _ _ _ _ _ => (pv 3))) (pe_lst pa_nil) (nomark _))) (fun _ _ _ _ _ => (pv 2))))), ?_⟩
  obtain ⟨ts, el, pl⟩ := hl.ex
  refine ⟨_, rfl, lr, rfl, ⟨_, SqL.of el⟩, fun D hD => ?_⟩
  have hlen : rs.length = (ts.map V.ref).length := by rw [List.length_map, Paired.length pl]
  refine lc_fm (ms := rs) (by rw [hlen]; exact walk_list) (fun r => decide ((stepsI r).filter (fun s => !decide (s ∈ js)) = [])) (fun r => r) (fun H v r => ∃ t, v = .ref t ∧ TupI H t r) (fun H H' v r nl ⟨t, e, q⟩ => ⟨t, e, nl _ _ q (fun xs z => by cases z)⟩) hD (by rw [sizeLine_eq]; omega) (fun H' s => SqL.of (s _ _ el)) ?_ ?_
  · rintro j r x _ H3 Nx hjj s3 ⟨rfl, hx⟩ kF kT
    obtain ⟨t, rfl, hm⟩ := at_item pl hjj hx
    have hr2 := ok r (List.mem_of_getElem? hjj)
    refine ⟨rfl, ?_⟩
    refine ⟨_, rfl, t, r, rfl, s3 _ _ hm, hr2, fun H4 ls s4 hls => ?_⟩
    obtain ⟨us, eu, pu⟩ := hls.ex
    have hul : (stepsI r).length = (us.map V.ref).length := by rw [List.length_map, Paired.length pu]
    refine ⟨ls, rfl, ⟨_, SqL.of eu⟩, fun D2 hD2 => ?_⟩
    refine lc_fm (ms := stepsI r) (by rw [hul]; exact walk_list) (fun s => !decide (s ∈ js)) (fun s => s) (fun H v r => ∃ t, v = .ref t ∧ TupI H t r) (fun H H' v r nl ⟨t, e, q⟩ => ⟨t, e, nl _ _ q (fun xs z => by cases z)⟩) hD2 (by rw [stepsI_len, sizeLine_eq]; omega) (fun H' s => SqL.of (s _ _ eu)) ?_ ?_
    · rintro j' x y _ H5 Nx' hj' s5 ⟨rfl, hx'⟩ kF' kT'
      obtain ⟨u, rfl, hm'⟩ := at_item pu hj' hx'
      refine ⟨rfl, ?_⟩
      refine ⟨_, rfl, _, rfl, notInR (s5 _ _ hm') (((hj.same s3).same s4).same s5) ⟨_, rfl, ifb (fun c => ?_) (fun c => ?_)⟩⟩
      · exact ⟨_, rfl, kT' c _ _ (Same.refl _) ⟨u, rfl, s5 _ _ hm'⟩⟩
      · exact kF' c _ (Same.refl _)
    · intro H5 ys s5 hD5 hp
      rw [List.map_id'] at hp
      have rows := Rows.of hD5 hp
      refine ⟨Nat.zero_le _, fun e he => ?_⟩
      have s6 := (s4.trans s5).trans (same_new (o := .lst []) he)
      refine eqR (rows.same (same_new he)) (Rows.nil upd_same) ⟨_, rfl, ifb (fun c => ?_) (fun c => kF c _ s6)⟩
      exact ⟨_, rfl, kT c _ _ s6 ⟨t, rfl, s6 _ _ (s3 _ _ hm)⟩⟩
  · intro H3 ys s3 hD3 hp
    rw [List.map_id'] at hp
    exact k H3 D s3 (Rows.of hD3 hp)
theorem nm_at {names : List Int} {x : Int} (h0 : 0 ≤ x) (h1 : x < names.length) : atI (names.map V.int) x = some (.int (nm names x)) := by
  have e : x = ((x.toNat : Nat) : Int) := by omega
  rw [e]
  refine atI_nat ?_
  rw [List.getElem?_map, nm_get (by omega)]
  rfl
theorem w_lawLift (T : Tb mg) (F : Def K mg "_law_lift" sLift f fd) (b : Binds K fd ["_law_names", "_law_jumps", "_law_run_here"] []) : Cal P w K mg base 1 "_law_lift" spLawLift [] := by
  have sc : FnScope ["_law_names", "_law_jumps", "_law_run_here", "_law_found", "_law_block", "_law_jump"] ["_law_names", "_law_jumps", "_law_run_here"] (fnScope sLift) := fnScope_by (by decide +kernel)
  refine cal0 F b .nil sc (fun vs H Q E h => by obtain ⟨_, _, _, _, _, _, rfl, _⟩ := h; rfl) fun cdv A outer s H vs Q E hr h => ?_
  obtain ⟨ln, lj, t, names, r, js, rfl, hn, hj, jr, jl, ht, r2, rl, k⟩ := h
  refine ⟨_, (pss_cons (ps_set (i := 3) sc.nd rfl (Or.inr rfl) (pe_tup (pa_cons pe_int pa_nil)))
  (pss_cons (ps_for PassesOwn.never rfl (pi_tup (pe_slice sl_tup (pv 2) (po_some pe_int) po_none)) (pg_name (i := 4) sc.nd rfl (Or.inr rfl)) (pss_one (ps_set (i := 3) sc.nd rfl (Or.inr rfl) (pe_op op_catT (pv 3) (pe_callTy call_tuple_of (by rfl) T.tuple PyProof.Rows.boot_tuple (pa_cons (pe_lc (own := [("_law_jump", 5)]) rfl sc.nd (pi_list (pv 1)) (blkOk_by (own := [("_law_jump", 5)]) (N := ["_law_names", "_law_jumps", "_law_run_here", "_law_found", "_law_block", "_law_jump"]) (sc := fnScope sLift) (by decide +kernel)) (fun _ _ _ _ _ => (pg_name (i := 5) sc.nd rfl (Or.inl rfl))) (fun _ _ _ _ _ => pts_one (PW.pt (pw_and (pt_cmpR op_eq (pe_ix (ixT (K := K) rfl) (pv 5) pe_int (fun _ _ => rfl)) (pe_ix (ixT (K := K) rfl) (pv 3) (pe_un un_neg pe_int) (fun _ _ => rfl)) (nomark _)) (pw_and1 (pt_cmpR op_eq (pe_ix (ixL (K := K) rfl) (pv 0) (pe_ix (ixT (K := K) rfl) (pv 5) pe_int (fun _ _ => rfl)) (fun _ _ => rfl)) (pv 4) (nomark _)))))) (fun _ _ _ _ _ => (pe_ix (ixT (K := K) rfl) (pv 5) pe_int (fun _ _ => rfl)))) pa_nil))))))
  (pss_one (ps_ret (pv 3))))), ?_⟩
  obtain ⟨ts, el, pl⟩ := hj.ex
  have hlen : js.length = (ts.map V.ref).length := by rw [List.length_map, Paired.length pl]
  obtain ⟨b0, r, rfl⟩ : ∃ b0 r', r = b0 :: r' := by
    cases r with
    | nil => simp at r2
    | cons b0 r' => exact ⟨b0, r', rfl⟩
  refine ⟨by show 1 ≤ sizeLine; decide, fun q0 hq0 => ?_⟩
  have s1 : Same H (upd H q0 (.tup [.int 0])) := same_new hq0
  have e1 : TupI (upd H q0 (.tup [.int 0])) q0 [0] := upd_same
  generalize upd H q0 (.tup [.int 0]) = H1 at s1 e1
  refine ⟨_, rfl, _, rfl, t, _, rfl, SqT.of (s1 _ _ ht), ?_, fun p hp => ?_⟩
  · have e1 : HT.sIx ((b0 :: r).map V.int).length 0 (some 1) = 1 := by unfold HT.sIx; rw [List.length_map]; simp
    rw [e1]; exact fun z => absurd z.1 (by decide)
  rw [cut1 _ (by rw [List.length_map]; exact r2)]
  have ed : ((b0 :: r).map V.int).drop 1 = r.map V.int := rfl
  rw [ed]
  have s2 := s1.trans (same_new (o := .tup (r.map V.int)) hp)
  have hp2 : (upd H1 p (.tup (r.map V.int))) p = some (.tup (r.map V.int)) := upd_same
  have e2 : TupI (upd H1 p (.tup (r.map V.int))) q0 [0] := same_new hp _ _ e1
  generalize upd H1 p (.tup (r.map V.int)) = H2 at s2 hp2 e2
  have rl' : r.length < 999 := by rw [List.length_cons] at rl; omega
  refine ⟨p, rfl, ⟨_, SqT.of hp2⟩, for_it walk_tup (fun i σ H' => ∃ q v4, σ = [some (.ref ln), some (.ref lj), some (.ref t), some (.ref q), v4, none] ∧ Same H H' ∧ H' p = some (.tup (r.map V.int)) ∧ TupI H' q (lawLift js names (b0 :: r.take i)) ∧ lawLift js names (b0 :: r.take i) ≠ [] ∧ (lawLift js names (b0 :: r.take i)).length ≤ 1 + 200 * i)
    ⟨q0, none, rfl, s2, hp2, e2, by simp [lawLift], by simp [lawLift]⟩ (fun i σ H' _ h => by obtain ⟨_, _, _, _, h, _⟩ := h; exact SqT.of h) ?_ ?_⟩
  · rintro i x σ _ H3 hi ⟨q, v4, rfl, s3, hp3, hq3, ne3, l3⟩ ⟨rfl, hx⟩
    rw [List.length_map] at hi
    have ei : r[i]? = some r[i] := List.getElem?_eq_getElem hi
    rw [List.getElem?_map, ei] at hx
    obtain rfl := Option.some.inj hx
    have en : lawLift js names (b0 :: r.take (i + 1)) = lawLift js names (b0 :: r.take i) ++ (js.filter fun s => decide (j0 s = lst (lawLift js names (b0 :: r.take i))) && decide (nm names (j1 s) = r[i])).map j1 := by
      unfold lawLift
      rw [List.tail_cons, List.tail_cons, tk_more ei, List.foldl_append]
      rfl
    rw [en]
    generalize lawLift js names (b0 :: r.take i) = acc at hq3 ne3 l3
    have el3 := s3 _ _ el
    refine ⟨_, rfl, _, rfl, lj, rfl, ⟨_, SqL.of el3⟩, fun D hD => ?_⟩
    refine lc_fm (ms := js) (by rw [hlen]; exact walk_list) (fun s => decide (j0 s = lst acc) && decide (nm names (j1 s) = r[i])) j1 (fun _ v b => v = .int b) (fun _ _ _ _ _ h => h) hD (by rw [sizeLine_eq]; omega) (fun H' s => SqL.of (s _ _ el3)) ?_ ?_
    · rintro j s x _ H4 Nx hjj s4 ⟨rfl, hx⟩ kF kT
      obtain ⟨u, rfl, hm⟩ := at_item pl hjj hx
      obtain ⟨a, c, rfl, a0, a1, a2⟩ := jr.sh s (List.mem_of_getElem? hjj)
      have hm4 : H4 u = some (.tup [.int a, .int c]) := s4 _ _ (s3 _ _ hm)
      have hq4 : TupI H4 q acc := s4 _ _ hq3
      refine ⟨rfl, ?_⟩
      refine ⟨_, rfl, u, _, 0, V.int a, rfl, rfl, SqT.of hm4, atI0 _ _, _, rfl, 1, rfl, q, _, -1, _, rfl, rfl, SqT.of hq4, lst_get ne3, rfl, ?_⟩
      rw [vint]
      have ek : (decide (j0 [a, c] = lst acc) && decide (nm names (j1 [a, c]) = r[i])) = (decide (a = lst acc) && decide (nm names c = r[i])) := rfl
      rw [ek] at kF kT
      refine ⟨_, rfl, ifb (fun c1 => ?_) (fun c1 => ?_)⟩
      · refine ⟨_, rfl, _, rfl, u, _, 1, V.int c, rfl, rfl, SqT.of hm4, atI1 _ _ _, ln, _, c, V.int (nm names c), rfl, rfl, SqL.of (s4 _ _ (s3 _ _ hn)), nm_at (by omega) (by omega), _, rfl, rfl, ?_⟩
        rw [vint]
        refine ⟨_, rfl, ifb (fun c2 => ?_) (fun c2 => ?_)⟩
        · exact ⟨_, rfl, u, _, 1, V.int c, rfl, rfl, SqT.of hm4, atI1 _ _ _, kT (by rw [c1, c2]; rfl) _ _ (Same.refl _) rfl⟩
        · exact kF (by rw [c1, c2]; rfl) _ (Same.refl _)
      · exact kF (by rw [c1]; rfl) _ (Same.refl _)
    · intro H4 ys s4 hD4 hpd
      have ey := paired_ints (H := H4) hpd
      subst ey
      have lf := List.length_filter_le (fun s => decide (j0 s = lst acc) && decide (nm names (j1 s) = r[i])) js
      refine ⟨D, _, rfl, .inl ⟨SqL.of hD4, fun g hg => ?_⟩⟩
      have s5 := (s3.trans s4).trans (same_new (o := .tup (((js.filter fun s => decide (j0 s = lst acc) && decide (nm names (j1 s) = r[i])).map j1).map V.int)) hg)
      have hg5 : TupI (upd H4 g (.tup (((js.filter fun s => decide (j0 s = lst acc) && decide (nm names (j1 s) = r[i])).map j1).map V.int))) g ((js.filter fun s => decide (j0 s = lst acc) && decide (nm names (j1 s) = r[i])).map j1) := upd_same
      have hq5 : TupI (upd H4 g (.tup (((js.filter fun s => decide (j0 s = lst acc) && decide (nm names (j1 s) = r[i])).map j1).map V.int))) q acc := same_new hg _ _ (s4 _ _ hq3)
      have hp5 := same_new (o := .tup (((js.filter fun s => decide (j0 s = lst acc) && decide (nm names (j1 s) = r[i])).map j1).map V.int)) hg _ _ (s4 _ _ hp3)
      generalize upd H4 g (.tup (((js.filter fun s => decide (j0 s = lst acc) && decide (nm names (j1 s) = r[i])).map j1).map V.int)) = H5 at s5 hg5 hq5 hp5
      have lm : ((js.filter fun s => decide (j0 s = lst acc) && decide (nm names (j1 s) = r[i])).map j1).length ≤ 200 := by rw [List.length_map]; omega
      generalize (js.filter fun s => decide (j0 s = lst acc) && decide (nm names (j1 s) = r[i])).map j1 = add at hg5 lm
      refine ⟨q, g, _, _, rfl, rfl, SqT.of hq5, SqT.of hg5, by simp [ne3], by rw [List.length_map, List.length_map, sizeLine_eq]; omega, fun z => ?_, fun z h hh => ?_⟩
      · have : add = [] := List.map_eq_nil_iff.mp z
        subst this
        rw [List.append_nil]
        exact ⟨q, _, rfl, s5, hp5, hq5, ne3, by omega⟩
      · refine ⟨h, _, rfl, s5.trans (same_new hh), same_new hh _ _ hp5, ?_, by simp [ne3], by rw [List.length_append]; omega⟩
        show upd _ _ _ _ = _
        rw [upd_same, List.map_append]
  · rintro σ H3 ⟨q, v4, rfl, s3, hp3, hq3, ne3, l3⟩
    rw [List.length_map, List.take_length] at hq3
    exact ⟨_, rfl, k _ q s3 hq3⟩
end
end K46
end
section
set_option maxHeartbeats 4000000
/-! M11: a drawn part. -/
namespace K46
open PySem Ja
open L2 hiding CX0 E0 pass0 Fun
open PySem.W (Frag findIn isFn fnIn)
open C8 (Cal Met Mak Def Fun CX0 E0 pass0 fnScope fnBody fnArgs fnScope_by cal0 met0 mak0 pe_c pe_mk pe_mt pe_mt0 pe_gc fn0)
def spPartL : Sp := fun vs H Q _ => ∃ (f lr lu : Addr) (rs us : List (List Int)), vs = [.ref f, .ref lr, .ref lu] ∧ Fd H f ∧ Rows H lr rs ∧ rs.length ≤ 200 ∧ Rows H lu us ∧ (∀ r ∈ us, r.length < 1000) ∧ us.length ≤ 1000000 ∧ ∀ H' l al, Fr f H H' → Rows H' l al → al.Sublist rs → Q (.ref l) H'
section
variable {P : Program} {w : World} {K : Frag} {mg : Str → Option Value} {base : Heap} {f : Addr} {fd : FuncData}
theorem w_partL (T : Tb mg) (c_take : Cal P w K mg base 1 "_law_take" spTake []) (c_pick : Cal P w K mg base 2 "_law_pick" spPick []) (c_steps : Cal P w K mg base 1 "_law_steps" spSteps []) (F : Def K mg "_law_part" sPartL f fd) (b : Binds K fd ["_law_feed_here", "_law_rows_here", "_law_runs"] []) : Cal P w K mg base 3 "_law_part" spPartL [] := by
  have sc : FnScope ["_law_feed_here", "_law_rows_here", "_law_runs", "_law_case", "_law_found", "_law_turn", "_law_jump", "_law_bar"] ["_law_feed_here", "_law_rows_here", "_law_runs"] (fnScope sPartL) := fnScope_by (by decide +kernel)
  refine cal0 F b .nil sc (fun vs H Q E h => by obtain ⟨_, _, _, _, _, rfl, _⟩ := h; rfl) fun cdv A outer s H vs Q E hr h => ?_
  obtain ⟨f, lr, lu, rs, us, rfl, hf, hl, rlen, hu, uok, ulen, k⟩ := h
  refine ⟨_, (pss_cons (ps_asg (pe_tup (pa_cons (pe_c c_take hr (by decide) rfl (pa_cons (pv 0) (pa_cons pe_int pa_nil))) (pa_cons (pe_lst pa_nil) pa_nil))) (pg_tup rfl (pgs_cons (pg_name (i := 3) sc.nd rfl (Or.inl rfl)) (pgs_cons (pg_name (i := 4) sc.nd rfl (Or.inr rfl)) pgs_nil))))
  (pss_cons (ps_if (pt_cmpR op_eq (pv 3) pe_int (nomark _)) (pss_one (ps_ret (pe_c c_pick hr (by decide) rfl (pa_cons (pv 0) (pa_cons (pe_lst (pa_cons (pe_lst pa_nil) (pa_cons (pe_callTy call_list_of (by rfl) T.list PyProof.Rows.boot_list (pa_cons (pv 1) pa_nil)) pa_nil))) pa_nil))))) pss_nil)
  (pss_cons (ps_if (PW.pt (pw_and (pt_cmpR op_lt (pv 3) pe_int (nomark _)) (pw_and1 (pt_cmpR (op_neD hr.units) (pv 2) (pe_lst pa_nil) (nomark _))))) (pss_cons (ps_for PassesOwn.never rfl (pi_range1 (by rfl) T.range (pa_cons (pe_op op_add pe_int (pe_c c_take hr (by decide) rfl (pa_cons (pv 0) (pa_cons pe_int pa_nil)))) pa_nil)) (pg_name (i := 5) sc.nd rfl (Or.inl rfl)) (pss_one (ps_set (i := 4) sc.nd rfl (Or.inr rfl) (pe_op op_cat (pv 4) (pe_c c_steps hr (by decide) rfl (pa_cons (pe_c c_pick hr (by decide) rfl (pa_cons (pv 0) (pa_cons (pv 2) pa_nil))) pa_nil))))))
  (pss_one (ps_ret (pe_lc (own := [("_law_jump", 6)]) rfl sc.nd (pi_list (pv 1)) (blkOk_by (own := [("_law_jump", 6)]) (N := ["_law_feed_here", "_law_rows_here", "_law_runs", "_law_case", "_law_found", "_law_turn", "_law_jump", "_law_bar"]) (sc := fnScope sPartL) (by decide +kernel)) (fun _ _ _ _ _ => (pg_name (i := 6) sc.nd rfl (Or.inl rfl))) (fun _ _ _ _ _ => pts_one (pt_cmpR (inDk (K := K) rfl (hu65 hr)) (pv 6) (pv 4) (by rfl))) (fun _ _ _ _ _ => (pv 6)))))) pss_nil)
  (pss_cons (ps_set (i := 7) sc.nd rfl (Or.inr rfl) (pe_op op_add pe_int (pe_c c_take hr (by decide) rfl (pa_cons (pv 0) (pa_cons pe_int pa_nil)))))
  (pss_one (ps_ret (pe_lc (own := [("_law_jump", 6)]) rfl sc.nd (pi_list (pv 1)) (blkOk_by (own := [("_law_jump", 6)]) (N := ["_law_feed_here", "_law_rows_here", "_law_runs", "_law_case", "_law_found", "_law_turn", "_law_jump", "_law_bar"]) (sc := fnScope sPartL) (by decide +kernel)) (fun _ _ _ _ _ => (pg_name (i := 6) sc.nd rfl (Or.inl rfl))) (fun _ _ _ _ _ => pts_one (pt_cmpR op_ge (pe_c c_take hr (by decide) rfl (pa_cons (pv 0) (pa_cons pe_int pa_nil))) (pv 7) (nomark _))) (fun _ _ _ _ _ => (pv 6))))))))), ?_⟩
  refine ⟨_, rfl, f, 6, rfl, hf, by decide, by decide, fun H1 x fr1 x0 x1 => ⟨Nat.zero_le _, fun q0 hq0 => ⟨by show 2 ≤ sizeLine; decide, fun p0 hp0 => ?_⟩⟩⟩
  have frq : Fr f H (upd H1 q0 (.lst [])) := fr1.new hq0
  have eq0 : (upd H1 q0 (.lst [])) q0 = some (.lst []) := upd_same
  have Hq0 : H q0 = none := fr1.free hq0 (Ne.symm (fr1.fd.ne_new hq0))
  generalize upd H1 q0 (.lst []) = H2 at frq eq0 hp0
  refine ⟨p0, _, rfl, SqT.of upd_same, rfl, _, _, rfl, _, _, rfl, rfl, ?_⟩
  have fr3 : Fr f H (upd H2 p0 (.tup [.int x, .ref q0])) := frq.new hp0
  have eq3 := same_new (o := .tup [.int x, .ref q0]) hp0 _ _ eq0
  generalize upd H2 p0 (.tup [.int x, .ref q0]) = H3 at fr3 eq3
  have hl3 := hl.fr hf fr3
  have hu3 := hu.fr hf fr3
  refine ⟨_, rfl, rfl, _, rfl, ifb (fun c => ?_) (fun c => ?_)⟩
  · -- [] or all
    refine ⟨_, rfl, Nat.zero_le _, fun e he => ?_⟩
    have fr4 : Fr f H (upd H3 e (.lst [])) := fr3.new he
    have e4 : Rows (upd H3 e (.lst [])) e [] := Rows.nil upd_same
    have hl4 := hl3.same (same_new (o := .lst []) he)
    generalize upd H3 e (.lst []) = H4 at fr4 e4 hl4
    obtain ⟨ts, el, pl⟩ := hl4.ex
    refine ⟨_, rfl, lr, _, rfl, .inl (SqL.of el), fun c hc => ?_⟩
    have fr5 : Fr f H (upd H4 c (.lst (ts.map V.ref))) := fr4.new hc
    have e5 := e4.same (same_new (o := .lst (ts.map V.ref)) hc)
    have c5 : Rows (upd H4 c (.lst (ts.map V.ref))) c rs := ⟨ts, upd_same, Paired.mapP pl fun _ _ z => same_new hc _ _ z⟩
    generalize upd H4 c (.lst (ts.map V.ref)) = H5 at fr5 e5 c5
    refine ⟨by show 2 ≤ sizeLine; decide, fun l hl0 => ?_⟩
    have fr6 : Fr f H (upd H5 l (.lst [.ref e, .ref c])) := fr5.new hl0
    have e6 := e5.same (same_new (o := .lst [.ref e, .ref c]) hl0)
    have c6 := c5.same (same_new (o := .lst [.ref e, .ref c]) hl0)
    refine ⟨f, l, _, rfl, fr6.fd, Ne.symm (fr5.fd.ne_new hl0), upd_same, by simp, by show 2 ≤ 1000000; decide, fun H7 z fr7 hz => ?_⟩
    simp only [List.mem_cons, List.not_mem_nil, or_false] at hz
    rcases hz with rfl | rfl
    · exact k H7 e [] (fr6.trans fr7) (e6.fr fr6.fd fr7) (List.nil_sublist _)
    · exact k H7 c rs (fr6.trans fr7) (c6.fr fr6.fd fr7) (List.Sublist.refl _)
  refine ⟨_, rfl, _, _, rfl, rfl, _, rfl, ifb (fun c1 => ?_) (fun c1 => ?_)⟩
  · refine ⟨_, rfl, Nat.zero_le _, fun e he => ?_⟩
    have fr3 : Fr f H (upd H3 e (.lst [])) := fr3.new he
    have eq3 := same_new (o := .lst []) he _ _ eq3
    have hl3 := hl3.same (same_new (o := .lst []) he)
    have hu3 := hu3.same (same_new (o := .lst []) he)
    have e3 : Rows (upd H3 e (.lst [])) e [] := Rows.nil upd_same
    generalize upd H3 e (.lst []) = H3 at fr3 eq3 hl3 hu3 e3
    refine neR hu3 e3 ⟨_, rfl, ifb (fun c2 => ?_) (fun c2 => ?_)⟩
    · have une : us ≠ [] := by simpa using c2
      refine ⟨_, rfl, f, 3, rfl, fr3.fd, by decide, by decide, fun H4 m fr4 m0 m1 => ⟨_, _, rfl, rfl, ?_⟩⟩
      have nq0 : q0 ≠ f := (Rows.nil eq3).nef fr3.fd
      refine ⟨1 + m, rfl, by omega, by omega, for_it walk_range (fun i σ H' => ∃ v5 q fs, σ = [some (.ref f), some (.ref lr), some (.ref lu), some (.int x), some (.ref q), v5, none, none] ∧ Fr f H H' ∧ Rows H' q fs ∧ fs.length ≤ 1000 * i)
        ⟨none, q0, [], rfl, fr3.trans fr4, Rows.nil (fr4.bt _ _ eq3 nq0), Nat.zero_le _⟩ (fun _ _ _ _ _ => trivial) ?_ ?_⟩
      · rintro i y σ _ H5 hi ⟨v5, q, fs, rfl, fr5, rows, flen⟩ ⟨rfl, rfl⟩
        have hu5 := hu.fr hf fr5
        obtain ⟨ts, el, pl⟩ := hu5.ex
        refine ⟨_, rfl, _, rfl, _, rfl, f, lu, _, rfl, fr5.fd, hu5.nef fr5.fd, el, fun z => ?_, by rw [List.length_map, Paired.length pl]; exact ulen, fun H6 y fr6 hy => ?_⟩
        · have z := List.map_eq_nil_iff.mp z
          subst z
          cases pl
          exact une rfl
        obtain ⟨t, ht, rfl⟩ := List.mem_map.mp hy
        obtain ⟨r, hr2, hm⟩ := paired_mem pl t ht
        have hm6 : TupI H6 t r := fr6.bt _ _ hm (fr5.fd.ne hm (fun xs y => by cases y))
        have rl := uok r hr2
        refine ⟨t, r, rfl, hm6, rl, fun H7 ls s7 hls => ?_⟩
        obtain ⟨tl, el7, pl7⟩ := hls.ex
        obtain ⟨tq, eq7, pq7⟩ := ((rows.fr fr5.fd fr6).same s7).ex
        have l1 := Paired.length pl7
        have l2 := Paired.length pq7
        rw [stepsI_len] at l1
        refine ⟨q, ls, _, _, rfl, rfl, eq7, el7, by rw [List.length_map, List.length_map, sizeLine_eq]; omega, fun p hp => ?_⟩
        refine ⟨_, p, _, rfl, ((fr5.trans fr6).same s7).new hp, Rows.cat (Same.nl (same_new hp)) pq7 pl7 upd_same, ?_⟩
        rw [List.length_append, stepsI_len]
        omega
      · rintro σ H5 ⟨v5, q, fs, rfl, fr5, rows, flen⟩
        obtain ⟨ts, el, pl⟩ := (hl.fr hf fr5).ex
        refine ⟨_, rfl, lr, rfl, ⟨_, SqL.of el⟩, fun D hD => ?_⟩
        have hlen : rs.length = (ts.map V.ref).length := by rw [List.length_map, Paired.length pl]
        refine lc_fm (ms := rs) (by rw [hlen]; exact walk_list) (fun s => decide (s ∈ fs)) (fun s => s) (fun H v r => ∃ t, v = .ref t ∧ TupI H t r) (fun H H' v r nl ⟨t, e, q⟩ => ⟨t, e, nl _ _ q (fun xs z => by cases z)⟩) hD (by rw [sizeLine_eq]; omega) (fun H' s => SqL.of (s _ _ el)) ?_ ?_
        · rintro j r y _ H6 Nx hj s6 ⟨rfl, hx⟩ kF kT
          obtain ⟨t, rfl, hm⟩ := at_item pl hj hx
          refine ⟨rfl, ?_⟩
          refine ⟨_, rfl, _, rfl, inR (s6 _ _ hm) (rows.same s6) ⟨_, rfl, ifb (fun c => ?_) (fun c => ?_)⟩⟩
          · exact ⟨_, rfl, kT c _ _ (Same.refl _) ⟨t, rfl, s6 _ _ hm⟩⟩
          · exact kF c _ (Same.refl _)
        · intro H6 ys s6 hD6 hp
          rw [List.map_id'] at hp
          exact k H6 D _ (fr5.same s6) (Rows.of hD6 hp) List.filter_sublist
    · skip
      refine ⟨_, rfl, f, 3, rfl, fr3.fd, by decide, by decide, fun H4 bar fr4 r0 r1 => ⟨_, _, rfl, rfl, ?_⟩⟩
      have frA := fr3.trans fr4
      have hlA := hl3.fr fr3.fd fr4
      obtain ⟨ts, el, pl⟩ := hlA.ex
      refine ⟨_, rfl, lr, rfl, ⟨_, SqL.of el⟩, fun D hD => ?_⟩
      have hlen : rs.length = (ts.map V.ref).length := by rw [List.length_map, Paired.length pl]
      have nl := hlA.nef frA.fd
      refine lc_sub (f := f) (ms := rs) (by rw [hlen]; exact walk_list) (fun H v r => ∃ t, v = .ref t ∧ TupI H t r) (fun H H' v r nl ⟨t, e, q⟩ => ⟨t, e, nl _ _ q (fun xs z => by cases z)⟩) frA.fd hD (by rw [sizeLine_eq]; omega) (fun H' fr => SqL.of (fr.bt _ _ el nl)) ?_ ?_
      · rintro j r y _ H5 Nx hj fr5 ⟨rfl, hx⟩ kF kT
        obtain ⟨t, rfl, hm⟩ := at_item pl hj hx
        have hm5 : TupI H5 t r := fr5.bt _ _ hm (frA.fd.ne hm (fun xs y => by cases y))
        refine ⟨rfl, ?_⟩
        refine ⟨_, rfl, f, 4, rfl, fr5.fd, by decide, by decide, fun H6 z fr6 z0 z1 => ⟨_, rfl, _, _, rfl, rfl, _, rfl, ?_⟩⟩
        have hm6 : TupI H6 t r := fr6.bt _ _ hm5 (fr5.fd.ne hm5 (fun xs y => by cases y))
        exact ifb (fun c => ⟨_, rfl, kT _ _ fr6 ⟨t, rfl, hm6⟩⟩) (fun c => kF _ fr6)
      · intro H5 ys ks fr5 hD5 hsb hp
        exact k H5 D ks (frA.trans fr5) (Rows.of hD5 hp) hsb
  · skip
    refine ⟨_, rfl, f, 3, rfl, fr3.fd, by decide, by decide, fun H4 bar fr4 r0 r1 => ⟨_, _, rfl, rfl, ?_⟩⟩
    have frA := fr3.trans fr4
    have hlA := hl3.fr fr3.fd fr4
    obtain ⟨ts, el, pl⟩ := hlA.ex
    refine ⟨_, rfl, lr, rfl, ⟨_, SqL.of el⟩, fun D hD => ?_⟩
    have hlen : rs.length = (ts.map V.ref).length := by rw [List.length_map, Paired.length pl]
    have nl := hlA.nef frA.fd
    refine lc_sub (f := f) (ms := rs) (by rw [hlen]; exact walk_list) (fun H v r => ∃ t, v = .ref t ∧ TupI H t r) (fun H H' v r nl ⟨t, e, q⟩ => ⟨t, e, nl _ _ q (fun xs z => by cases z)⟩) frA.fd hD (by rw [sizeLine_eq]; omega) (fun H' fr => SqL.of (fr.bt _ _ el nl)) ?_ ?_
    · rintro j r y _ H5 Nx hj fr5 ⟨rfl, hx⟩ kF kT
      obtain ⟨t, rfl, hm⟩ := at_item pl hj hx
      have hm5 : TupI H5 t r := fr5.bt _ _ hm (frA.fd.ne hm (fun xs y => by cases y))
      refine ⟨rfl, ?_⟩
      refine ⟨_, rfl, f, 4, rfl, fr5.fd, by decide, by decide, fun H6 z fr6 z0 z1 => ⟨_, rfl, _, _, rfl, rfl, _, rfl, ?_⟩⟩
      have hm6 : TupI H6 t r := fr6.bt _ _ hm5 (fr5.fd.ne hm5 (fun xs y => by cases y))
      exact ifb (fun c => ⟨_, rfl, kT _ _ fr6 ⟨t, rfl, hm6⟩⟩) (fun c => kF _ fr6)
    · intro H5 ys ks fr5 hD5 hsb hp
      exact k H5 D ks (frA.trans fr5) (Rows.of hD5 hp) hsb
end
end K46
end
section
set_option maxHeartbeats 4000000
/-! P1: the drawn cover, in plain Lean. -/
namespace K46
open PySem Ja
open L2 hiding CX0 E0 pass0 Fun
structure CovJ (n : Int) (bs : List (List Int)) (names : List Int) (js : List (List Int)) : Prop where
  jr : Jr names.length js
  cov : Cov n bs names.length js names
  l2 : 2 ≤ names.length
  l17 : names.length ≤ 17
  jl : js.length ≤ 120
def cntN (names : List Int) (v : Int) : Nat := (names.filter fun x => decide (x = v)).length
/-- the names of the first i blocks -/
structure NamI (n : Int) (i : Nat) (names first : List Int) : Prop where
  up : names.Pairwise (· ≤ ·)
  lo : ∀ x ∈ names, 0 ≤ x ∧ x < (i : Int)
  fl : first.length = i
  at_ : ∀ v : Nat, v < i → 0 ≤ first.getD v 0 ∧ 1 ≤ cntN names v ∧ ∀ t : Int, 0 ≤ t → t < (cntN names v : Nat) → first.getD v 0 + t < names.length ∧ nm names (first.getD v 0 + t) = v
  one : ∀ v : Nat, v < i → (v = 0 ∨ (v : Int) = n - 1) → cntN names v = 1
  len0 : i = 0 → names = []
  len1 : 0 < i → names.length + 2 ≤ 3 * i
  len2 : (i : Int) = n → names.length + 4 ≤ 3 * i
theorem nm_left {a b : List Int} {k : Int} (h0 : 0 ≤ k) (h : k < a.length) : nm (a ++ b) k = nm a k := by
  unfold nm
  rw [List.getD_eq_getElem?_getD, List.getD_eq_getElem?_getD, List.getElem?_append_left (by omega)]
theorem nm_rep {a : List Int} {m : Nat} {v t : Int} (h0 : 0 ≤ t) (h : t < m) : nm (a ++ List.replicate m v) (a.length + t) = v := by
  unfold nm
  have e : ((a.length : Int) + t).toNat = a.length + t.toNat := by omega
  rw [e, List.getD_eq_getElem?_getD, List.getElem?_append_right (by omega), Nat.add_sub_cancel_left, List.getElem?_replicate, if_pos (by omega)]
  rfl
theorem cnt_app (a b : List Int) (v : Int) : cntN (a ++ b) v = cntN a v + cntN b v := by
  unfold cntN
  rw [List.filter_append, List.length_append]
theorem cnt_rep (m : Nat) (u v : Int) : cntN (List.replicate m u) v = if u = v then m else 0 := by
  unfold cntN
  by_cases c : u = v
  · rw [if_pos c, List.filter_replicate, if_pos (decide_eq_true c), List.length_replicate]
  · rw [if_neg c, List.filter_replicate, if_neg (by simpa using c)]; rfl
theorem cnt_none {a : List Int} {v : Int} (h : ∀ x ∈ a, x ≠ v) : cntN a v = 0 := by
  unfold cntN
  rw [List.filter_eq_nil_iff.mpr fun x hx => by simpa using h x hx]
  rfl
theorem NamI.next {n : Int} {i : Nat} {names first : List Int} (h : NamI n i names first) (m : Nat) (m1 : 1 ≤ m) (m3 : m ≤ 3) (e1 : i = 0 ∨ (i : Int) = n - 1 → m = 1) (n2 : 2 ≤ n) : NamI n (i + 1) (names ++ List.replicate m (i : Int)) (first ++ [(names.length : Int)]) := by
  have c0 : cntN names (i : Int) = 0 := cnt_none fun x hx => by have := h.lo x hx; omega
  have cold : ∀ v : Nat, v < i → cntN (names ++ List.replicate m (i : Int)) v = cntN names v := fun v hv => by
    rw [cnt_app, cnt_rep, if_neg (by omega)]; omega
  have cnew : cntN (names ++ List.replicate m (i : Int)) (i : Nat) = m := by
    rw [cnt_app, c0, cnt_rep, if_pos rfl]; omega
  refine ⟨?_, fun x hx => ?_, by rw [List.length_append, h.fl]; rfl, fun v hv => ?_, fun v hv hc => ?_, fun z => by omega, fun _ => ?_, fun hn => ?_⟩
  · rw [List.pairwise_append]
    refine ⟨h.up, ?_, fun a ha b hb => ?_⟩
    · rw [List.pairwise_replicate]
      exact .inr (Int.le_refl _)
    · have := h.lo a ha
      rw [(List.mem_replicate.mp hb).2]
      omega
  · rcases List.mem_append.mp hx with z | z
    · have := h.lo x z; omega
    · rw [(List.mem_replicate.mp z).2]; omega
  · by_cases c : v < i
    · obtain ⟨g1, g2, g3⟩ := h.at_ v c
      have ef : (first ++ [(names.length : Int)]).getD v 0 = first.getD v 0 := by
        rw [List.getD_eq_getElem?_getD, List.getD_eq_getElem?_getD, List.getElem?_append_left (by rw [h.fl]; exact c)]
      rw [ef, cold v c]
      refine ⟨g1, g2, fun t t0 t1 => ?_⟩
      obtain ⟨a1, a2⟩ := g3 t t0 t1
      exact ⟨by rw [List.length_append]; omega, by rw [nm_left (by omega) a1]; exact a2⟩
    · have ev : v = i := by omega
      subst ev
      have ef : (first ++ [(names.length : Int)]).getD v 0 = names.length := by
        rw [List.getD_eq_getElem?_getD, List.getElem?_append_right (by rw [h.fl]; exact Nat.le_refl _), h.fl, Nat.sub_self]
        rfl
      rw [ef, cnew]
      refine ⟨by omega, m1, fun t t0 t1 => ⟨by rw [List.length_append, List.length_replicate]; omega, nm_rep t0 t1⟩⟩
  · by_cases c : v < i
    · rw [cold v c]; exact h.one v c hc
    · have ev : v = i := by omega
      subst ev
      rw [cnew]
      exact e1 hc
  · rw [List.length_append, List.length_replicate]
    by_cases c : i = 0
    · have := h.len0 c
      have := e1 (.inl c)
      subst c
      simp_all
    · have := h.len1 (by omega)
      omega
  · rw [List.length_append, List.length_replicate]
    have := e1 (.inr (by omega))
    by_cases c : i = 0
    · omega
    · have := h.len1 (by omega)
      omega
theorem nm_le {names : List Int} (h : names.Pairwise (· ≤ ·)) {a b : Int} (a0 : 0 ≤ a) (ab : a ≤ b) (hb : b < names.length) : nm names a ≤ nm names b := by
  by_cases e : a = b
  · rw [e]; exact Int.le_refl _
  have h1 := nm_get (names := names) (i := a.toNat) (by omega)
  have h2 := nm_get (names := names) (i := b.toNat) (by omega)
  have e1 : ((a.toNat : Nat) : Int) = a := by omega
  have e2 : ((b.toNat : Nat) : Int) = b := by omega
  rw [e1] at h1
  rw [e2] at h2
  have p := List.pairwise_iff_getElem.mp h a.toNat b.toNat (by omega) (by omega) (by omega)
  rw [List.getElem?_eq_getElem (by omega)] at h1 h2
  rw [← Option.some.inj h1, ← Option.some.inj h2]
  exact p
theorem nm_mem {names : List Int} {a : Int} (h0 : 0 ≤ a) (h : a < names.length) : nm names a ∈ names := by
  have h1 := nm_get (names := names) (i := a.toNat) (by omega)
  have e1 : ((a.toNat : Nat) : Int) = a := by omega
  rw [e1] at h1
  exact List.mem_of_getElem? h1
theorem cnt_two {names : List Int} {a b : Int} {v : Int} (a0 : 0 ≤ a) (ab : a < b) (hb : b < names.length) (h1 : nm names a = v) (h2 : nm names b = v) : 2 ≤ cntN names v := by
  have g1 := nm_get (names := names) (i := a.toNat) (by omega)
  have g2 := nm_get (names := names) (i := b.toNat) (by omega)
  have e1 : ((a.toNat : Nat) : Int) = a := by omega
  have e2 : ((b.toNat : Nat) : Int) = b := by omega
  rw [e1, h1] at g1
  rw [e2, h2] at g2
  have e := List.take_append_drop b.toNat names
  have k1 : 1 ≤ cntN (names.take b.toNat) v := by
    have : v ∈ names.take b.toNat := List.mem_of_getElem? (i := a.toNat) (by rw [List.getElem?_take_of_lt (by omega)]; exact g1)
    exact List.length_pos_of_mem (List.mem_filter.mpr ⟨this, decide_eq_true rfl⟩)
  have k2 : 1 ≤ cntN (names.drop b.toNat) v := by
    have : v ∈ names.drop b.toNat := List.mem_of_getElem? (i := 0) (by rw [List.getElem?_drop]; exact g2)
    exact List.length_pos_of_mem (List.mem_filter.mpr ⟨this, decide_eq_true rfl⟩)
  have := cnt_app (names.take b.toNat) (names.drop b.toNat) v
  rw [e] at this
  omega
/-- the names of all blocks -/
theorem NamI.done {n : Int} {names first : List Int} (h : NamI n n.toNat names first) (n2 : 2 ≤ n) (n7 : n ≤ 7) : nm names 0 = 0 ∧ lst names = n - 1 ∧ (∀ i : Nat, 0 < i → i + 1 < names.length → 1 ≤ nm names i ∧ nm names i ≤ n - 2) ∧ 2 ≤ names.length ∧ names.length ≤ 17 := by
  obtain ⟨f0, f1, f2⟩ := h.at_ 0 (by omega)
  obtain ⟨g0, g1, g2⟩ := h.at_ (n - 1).toNat (by omega)
  have en : (((n - 1).toNat : Nat) : Int) = n - 1 := by omega
  rw [en] at g1 g2
  obtain ⟨p1, p2⟩ := f2 0 (by omega) (by omega)
  obtain ⟨q1, q2⟩ := g2 0 (by omega) (by omega)
  have lt : ∀ k : Int, 0 ≤ k → k < names.length → 0 ≤ nm names k ∧ nm names k ≤ n - 1 := fun k k0 k1 => by
    have := h.lo _ (nm_mem k0 k1)
    omega
  have hne : names ≠ [] := fun z => by rw [z] at p1; have p1 : first.getD 0 0 + 0 < (0 : Int) := p1; omega
  have z0 : nm names 0 = 0 := by
    have h1 := nm_le h.up (a := 0) (b := first.getD 0 0 + 0) (by omega) (by omega) p1
    have h2 := lt 0 (by omega) (by omega)
    rw [p2] at h1
    simp at h1
    omega
  have zl : lst names = n - 1 := by
    have h0 := nm_last hne
    have h1 := nm_le h.up (a := first.getD (n - 1).toNat 0 + 0) (b := ((names.length - 1 : Nat) : Int)) (by omega) (by omega) (by omega)
    have h2 := lt ((names.length - 1 : Nat) : Int) (by omega) (by omega)
    rw [q2] at h1
    rw [← h0]
    omega
  have l2 : 2 ≤ names.length := by
    rcases Nat.lt_or_ge names.length 2 with c | c
    · have : names.length = 1 := by omega
      have h0 := nm_last hne
      rw [this] at h0
      have : nm names 0 = lst names := h0
      omega
    · exact c
  refine ⟨z0, zl, fun i i0 i1 => ?_, l2, ?_⟩
  · obtain ⟨a1, a2⟩ := lt i (by omega) (by omega)
    have b1 : nm names i ≠ 0 := fun z => by
      have := cnt_two (a := 0) (b := (i : Int)) (by omega) (by omega) (by omega) z0 z
      have := h.one 0 (by omega) (.inl rfl)
      have e : ((0 : Nat) : Int) = 0 := rfl
      rw [e] at this
      omega
    have b2 : nm names i ≠ n - 1 := fun z => by
      have h0 := nm_last hne
      rw [zl] at h0
      have := cnt_two (a := (i : Int)) (b := ((names.length - 1 : Nat) : Int)) (by omega) (by omega) (by omega) z h0
      have := h.one (n - 1).toNat (by omega) (.inr en)
      rw [en] at this
      omega
    omega
  · have := h.len2 (by omega)
    omega
/-- the jumps of the blocks ahead of u, and of u through v -/
structure JmpI (n : Int) (bs : List (List Int)) (names : List Int) (u v : Nat) (js : List (List Int)) : Prop where
  jr : Jr names.length js
  old : ∀ k : Nat, k < u → (outsF js k).map (fun s => nm names (j1 s)) = (upto 0 n.toNat).filter fun w => decide ([nm names k, w] ∈ bs)
  now : (outsF js u).map (fun s => nm names (j1 s)) = (upto 0 v).filter fun w => decide ([nm names u, w] ∈ bs)
  new : ∀ s ∈ js, j0 s ≤ (u : Int)
  len : js.length ≤ 6 * u + (v - 1)
theorem outs_app (a b : List (List Int)) (u : Int) : outsF (a ++ b) u = outsF a u ++ outsF b u := by unfold outsF; rw [List.filter_append]
theorem JmpI.skip {n : Int} {bs : List (List Int)} {names : List Int} {u v : Nat} {js : List (List Int)} (h : JmpI n bs names u v js) (c : [nm names u, (v : Int)] ∉ bs) : JmpI n bs names u (v + 1) js := by
  refine ⟨h.jr, h.old, ?_, h.new, by have := h.len; omega⟩
  rw [h.now, upto_succ, List.filter_append, Int.zero_add, List.filter_cons, if_neg (by simpa using c), List.filter_nil, List.append_nil]
theorem JmpI.put {n : Int} {bs : List (List Int)} {names : List Int} {u v : Nat} {js : List (List Int)} (h : JmpI n bs names u v js) (jb : Jr n bs) (up : names.Pairwise (· ≤ ·)) (c : [nm names u, (v : Int)] ∈ bs) {w : Int} (w0 : 0 ≤ w) (w1 : w < names.length) (hw : nm names w = v) (hu : u < names.length) : JmpI n bs names u (v + 1) (js ++ [[(u : Int), w]]) := by
  obtain ⟨p1, p2, p3⟩ := jb.pair c
  have uw : (u : Int) < w := by
    rcases Int.lt_or_le (u : Int) w with z | z
    · exact z
    · have := nm_le up w0 z (by omega)
      omega
  have eo : ∀ k : Int, outsF [[(u : Int), w]] k = if (u : Int) = k then [[(u : Int), w]] else [] := fun k => by
    unfold outsF
    rw [List.filter_cons, List.filter_nil]
    by_cases c : (u : Int) = k
    · rw [if_pos c, if_pos (show decide (j0 [(u : Int), w] = k) = true from decide_eq_true c)]
    · rw [if_neg c, if_neg (by simpa [j0] using c)]
  refine ⟨⟨fun r hr => ?_, ?_⟩, fun k hk => ?_, ?_, fun s hs => ?_, ?_⟩
  · rcases List.mem_append.mp hr with z | z
    · exact h.jr.sh r z
    · rw [List.mem_singleton.mp z]; exact ⟨u, w, rfl, by omega, uw, by omega⟩
  · refine List.nodup_append.mpr ⟨h.jr.nd, by simp, fun x hx y hy e => ?_⟩
    rw [List.mem_singleton.mp hy] at e
    rw [e] at hx
    have hm : nm names w ∈ (outsF js u).map (fun s => nm names (j1 s)) := List.mem_map.mpr ⟨_, List.mem_filter.mpr ⟨hx, decide_eq_true rfl⟩, rfl⟩
    rw [h.now] at hm
    have := upto_mem.mp (List.mem_filter.mp hm).1
    omega
  · rw [outs_app, eo, if_neg (by omega), List.append_nil]
    exact h.old k hk
  · rw [outs_app, eo, if_pos rfl, List.map_append, h.now, upto_succ, List.filter_append, Int.zero_add, List.filter_cons, if_pos (by simpa using c), List.filter_nil]
    show _ ++ [nm names w] = _
    rw [hw]
  · rcases List.mem_append.mp hs with z | z
    · exact h.new s z
    · rw [List.mem_singleton.mp z]; exact Int.le_refl _
  · rw [List.length_append, List.length_singleton]
    have := h.len
    omega
theorem JmpI.turn {n : Int} {bs : List (List Int)} {names : List Int} {u : Nat} {js : List (List Int)} (h : JmpI n bs names u n.toNat js) (n7 : n ≤ 7) : JmpI n bs names (u + 1) 0 js := by
  refine ⟨h.jr, fun k hk => ?_, ?_, fun s hs => by have := h.new s hs; omega, by have := h.len; omega⟩
  · by_cases c : k < u
    · exact h.old k c
    · have : k = u := by omega
      rw [this]; exact h.now
  · have : outsF js ((u + 1 : Nat) : Int) = [] := by
      unfold outsF
      refine List.filter_eq_nil_iff.mpr fun s hs => ?_
      have := h.new s hs
      simp only [decide_eq_true_eq]
      omega
    rw [this]
    rfl
theorem JmpI.done {n : Int} {bs : List (List Int)} {names first : List Int} {js : List (List Int)} (h : JmpI n bs names names.length 0 js) (g : NamI n n.toNat names first) (jb : Jr n bs) (n2 : 2 ≤ n) (n7 : n ≤ 7) : CovJ n bs names js := by
  obtain ⟨a1, a2, a3, a4, a5⟩ := g.done n2 n7
  refine ⟨h.jr, ⟨rfl, a1, a2, a3, fun i hi => ?_⟩, a4, a5, by have := h.len; omega⟩
  rw [h.old i hi]
  refine (List.perm_ext_iff_of_nodup ?_ ?_).mpr fun w => ?_
  · exact List.Pairwise.filter _ ((upto_up 0 n.toNat).imp fun {a b} z => by omega)
  · unfold outsF
    refine nodup_map (jb.nd.filter _) fun x hx y hy e => ?_
    obtain ⟨x1, x2⟩ := List.mem_filter.mp hx
    obtain ⟨y1, y2⟩ := List.mem_filter.mp hy
    obtain ⟨u, v, rfl, _⟩ := jb.sh x x1
    obtain ⟨u', v', rfl, _⟩ := jb.sh y y1
    have e1 : u = nm names i := of_decide_eq_true x2
    have e2 : u' = nm names i := of_decide_eq_true y2
    have e3 : v = v' := e
    rw [e1, e2, e3]
  · rw [List.mem_filter, upto_mem, decide_eq_true_iff]
    constructor
    · intro ⟨_, hm⟩
      exact List.mem_map.mpr ⟨_, List.mem_filter.mpr ⟨hm, decide_eq_true rfl⟩, rfl⟩
    · intro hm
      obtain ⟨s, hs, rfl⟩ := List.mem_map.mp hm
      obtain ⟨s1, s2⟩ := List.mem_filter.mp hs
      obtain ⟨u, v, rfl, p0, p1, p2⟩ := jb.sh s s1
      have e1 : u = nm names i := of_decide_eq_true s2
      rw [← e1]
      exact ⟨⟨by show (0 : Int) ≤ v; omega, by show v < _; omega⟩, s1⟩
end K46
end
section
set_option maxHeartbeats 4000000
/-! M12: a drawn cover. -/
namespace K46
open PySem Ja
open L2 hiding CX0 E0 pass0 Fun
open PySem.W (Frag findIn isFn fnIn)
open C8 (Cal Met Mak Def Fun CX0 E0 pass0 fnScope fnBody fnArgs fnScope_by cal0 met0 mak0 pe_c pe_mk pe_mt pe_mt0 pe_gc fn0)
theorem rep_flat (m : Nat) (v : V) : (List.replicate m [v]).flatten = List.replicate m v := by
  induction m with
  | zero => rfl
  | succ m ih => rw [List.replicate_succ, List.flatten_cons, ih]; rfl
theorem at_getD {xs : List Int} {v : Nat} (h : v < xs.length) : atI (xs.map V.int) (v : Int) = some (.int (xs.getD v 0)) := by
  refine atI_nat ?_
  rw [List.getElem?_map, List.getD_eq_getElem?_getD, List.getElem?_eq_getElem h]
  rfl
theorem Fr.intl {H H' : Hp} {f l : Addr} {xs : List Int} (fr : Fr f H H') (h : IntL H l xs) (n : l ≠ f) : IntL H' l xs := fr.bt _ _ h n
def spCoverL : Sp := fun vs H Q _ => ∃ (f lr : Addr) (n : Int) (bs : List (List Int)), vs = [.ref f, .int n, .ref lr] ∧ Fd H f ∧ Rows H lr bs ∧ Jr n bs ∧ 2 ≤ n ∧ n ≤ 7 ∧ ∀ H' l ln lj names js, Fr f H H' → H' l = some (.lst [.ref ln, .ref lj]) → ln ≠ f → lj ≠ f → IntL H' ln names → Rows H' lj js → CovJ n bs names js → Q (.ref l) H'
section
variable {P : Program} {w : World} {K : Frag} {mg : Str → Option Value} {base : Heap} {f : Addr} {fd : FuncData}
theorem w_coverL (T : Tb mg) (c_take : Cal P w K mg base 1 "_law_take" spTake []) (c_pick : Cal P w K mg base 2 "_law_pick" spPick []) (F : Def K mg "_law_cover" sCoverL f fd) (b : Binds K fd ["_law_feed_here", "_law_blocks", "_law_rows_here"] []) : Cal P w K mg base 3 "_law_cover" spCoverL [] := by
  have sc : FnScope ["_law_feed_here", "_law_blocks", "_law_rows_here", "_law_names", "_law_first", "_law_jumps", "_law_block", "_law_many", "_law_u", "_law_v", "_law_name"] ["_law_feed_here", "_law_blocks", "_law_rows_here"] (fnScope sCoverL) := fnScope_by (by decide +kernel)
  refine cal0 F b .nil sc (fun vs H Q E h => by obtain ⟨_, _, _, _, rfl, _⟩ := h; rfl) fun cdv A outer s H vs Q E hr h => ?_
  obtain ⟨f, lr, n, bs, rfl, hf, hl, jb, n2, n7, k⟩ := h
  refine ⟨_, (pss_cons (ps_par3 (i := 3) (j := 4) (l := 5) (by rfl) sc.nd rfl rfl rfl (by decide) (by decide) (by decide) (by rfl) (by rfl) (by rfl) (pa_cons (pe_lst pa_nil) (pa_cons (pe_lst pa_nil) (pa_cons (pe_lst pa_nil) pa_nil))) (by rfl))
  (pss_cons (ps_for PassesOwn.never rfl (pi_range1 (by rfl) T.range (pa_cons (pv 1) pa_nil)) (pg_name (i := 6) sc.nd rfl (Or.inl rfl)) (pss_cons (ps_expr (pe_bm PySem.F.plainAttrs_list PySem.F.slot_list_append PySem.F.type_list_append mt_append (pv 4) (pa_cons (pe_callB call_len (by rfl) T.len PySem.boot_len (pa_cons (pv 3) pa_nil)) pa_nil)))
  (pss_cons (ps_set (i := 7) sc.nd rfl (Or.inl rfl) (pe_ifExp (pt_chain op_lt op_lt pe_int (pv 6) (pe_op op_sub (pv 1) pe_int)) (pe_c c_pick hr (by decide) rfl (pa_cons (pv 0) (pa_cons (pe_lst (pa_cons pe_int (pa_cons pe_int (pa_cons pe_int (pa_cons pe_int pa_nil))))) pa_nil))) pe_int))
  (pss_one (ps_set (i := 3) sc.nd rfl (Or.inl rfl) (pe_op op_cat (pv 3) (pe_op op_rep (pe_lst (pa_cons (pv 6) pa_nil)) (pv 7))))))))
  (pss_cons (ps_for PassesOwn.never rfl (pi_range1 (by rfl) T.range (pa_cons (pe_callB call_len (by rfl) T.len PySem.boot_len (pa_cons (pv 3) pa_nil)) pa_nil)) (pg_name (i := 8) sc.nd rfl (Or.inl rfl)) (pss_one (ps_for PassesOwn.never rfl (pi_range1 (by rfl) T.range (pa_cons (pv 1) pa_nil)) (pg_name (i := 9) sc.nd rfl (Or.inr rfl)) (pss_one (ps_if (pt_cmpR (inDk (K := K) rfl (hu65 hr)) (pe_tup (pa_cons (pe_ix ix_list (pv 3) (pv 8) (fun _ _ => rfl)) (pa_cons (pv 9) pa_nil))) (pv 2) (by rfl)) (pss_one (ps_expr (pe_bm PySem.F.plainAttrs_list PySem.F.slot_list_append PySem.F.type_list_append mt_append (pv 5) (pa_cons (pe_tup (pa_cons (pv 8) (pa_cons (pe_op op_add (pe_ix ix_list (pv 4) (pv 9) (fun _ _ => rfl)) (pe_c c_take hr (by decide) rfl (pa_cons (pv 0) (pa_cons (pe_callB call_len (by rfl) T.len PySem.boot_len (pa_cons (pe_lc (own := [("_law_name", 10)]) rfl sc.nd (pi_list (pv 3)) (blkOk_by (own := [("_law_name", 10)]) (N := ["_law_feed_here", "_law_blocks", "_law_rows_here", "_law_names", "_law_first", "_law_jumps", "_law_block", "_law_many", "_law_u", "_law_v", "_law_name"]) (sc := fnScope sCoverL) (by decide +kernel)) (fun _ _ _ _ _ => (pg_name (i := 10) sc.nd rfl (Or.inl rfl))) (fun _ _ _ _ _ => pts_one (pt_cmpR op_eq (pv 10) (pv 9) (nomark _))) (fun _ _ _ _ _ => (pv 10))) pa_nil)) pa_nil)))) pa_nil))) pa_nil)))) pss_nil)))))
  (pss_one (ps_ret (pe_lst (pa_cons (pv 3) (pa_cons (pv 5) pa_nil)))))))), ?_⟩
  refine ⟨Nat.zero_le _, fun a3 h3 => ⟨Nat.zero_le _, fun a4 h4 => ⟨Nat.zero_le _, fun a5 h5 => ⟨_, _, _, rfl, ?_⟩⟩⟩⟩
  have fr3 : Fr f H (upd H a3 (.lst [])) := (Fr.refl hf).new h3
  have e3 : IntL (upd H a3 (.lst [])) a3 [] := upd_same
  have n3 : a3 ≠ f := Ne.symm (hf.ne_new h3)
  generalize upd H a3 (.lst []) = H3 at fr3 e3 h4 h5
  have fr4 : Fr f H (upd H3 a4 (.lst [])) := fr3.new h4
  have e34 : IntL (upd H3 a4 (.lst [])) a3 [] := same_new h4 _ _ e3
  have e4 : IntL (upd H3 a4 (.lst [])) a4 [] := upd_same
  have n4 : a4 ≠ f := Ne.symm (fr3.fd.ne_new h4)
  have H4n : H a4 = none := fr3.free h4 n4
  have n34 : a3 ≠ a4 := ne_of_none e3 h4
  generalize upd H3 a4 (.lst []) = H4 at fr4 e34 e4 h5
  have fr5 : Fr f H (upd H4 a5 (.lst [])) := fr4.new h5
  have e35 : IntL (upd H4 a5 (.lst [])) a3 [] := same_new h5 _ _ e34
  have e45 : IntL (upd H4 a5 (.lst [])) a4 [] := same_new h5 _ _ e4
  have e5 : Rows (upd H4 a5 (.lst [])) a5 [] := Rows.nil upd_same
  have n5 : a5 ≠ f := Ne.symm (fr4.fd.ne_new h5)
  have H5n : H a5 = none := fr4.free h5 n5
  have n45 : a4 ≠ a5 := ne_of_none e4 h5
  have n35 : a3 ≠ a5 := ne_of_none e34 h5
  generalize upd H4 a5 (.lst []) = H5 at fr5 e35 e45 e5
  refine ⟨_, rfl, n, rfl, by omega, by omega, for_it walk_range (fun i σ H' => ∃ v6 v7 q names first, σ = [some (.ref f), some (.int n), some (.ref lr), some (.ref q), some (.ref a4), some (.ref a5), v6, v7, none, none, none] ∧ Fr f H H' ∧ q ≠ f ∧ q ≠ a4 ∧ q ≠ a5 ∧ IntL H' q names ∧ IntL H' a4 first ∧ Rows H' a5 [] ∧ NamI n i names first)
    ⟨none, none, a3, [], [], rfl, fr5, n3, n34, n35, e35, e45, e5, ⟨.nil, fun x h => (by cases h), rfl, fun v h => (by omega), fun v h => (by omega), fun _ => rfl, fun h => (by omega), fun h => (by omega)⟩⟩ (fun _ _ _ _ _ => trivial) ?_ ?_⟩
  · rintro i x σ _ H7 hi ⟨v6, v7, q, names, first, rfl, fr7, qf, q4, q5, eN, eF, eJ, g⟩ ⟨rfl, hx⟩
    obtain rfl := at0 hx
    have gl := g.fl
    have gn : names.length ≤ 30 := by
      by_cases c : i = 0
      · rw [g.len0 c]; simp
      · have := g.len1 (by omega); omega
    refine ⟨_, rfl, .inl ⟨rfl, _, SqL.of eF⟩, _, rfl, _, (names.map V.int).length, rfl, .inl ⟨_, SqL.of eN, rfl⟩, a4, _, _, rfl, rfl, eF, by rw [List.length_map, sizeLine_eq]; omega, ?_⟩
    rw [List.length_map]
    have fr8 : Fr f H (upd H7 a4 (.lst (first.map V.int ++ [.int names.length]))) := fr7.upd H4n n4
    have eN8 : IntL (upd H7 a4 (.lst (first.map V.int ++ [.int names.length]))) q names := by show upd _ _ _ _ = _; rw [upd_ne q4]; exact eN
    have eF8 : IntL (upd H7 a4 (.lst (first.map V.int ++ [.int names.length]))) a4 (first ++ [(names.length : Int)]) := by show upd _ _ _ _ = _; rw [upd_same, List.map_append]; rfl
    have eJ8 : Rows (upd H7 a4 (.lst (first.map V.int ++ [.int names.length]))) a5 [] := by
      obtain ⟨ts, e, p⟩ := eJ.ex
      cases p
      exact Rows.nil (by rw [upd_ne (Ne.symm n45)]; exact e)
    show _
    generalize upd H7 a4 (.lst (first.map V.int ++ [.int names.length])) = H8 at fr8 eN8 eF8 eJ8
    refine ⟨_, rfl, _, _, rfl, rfl, _, rfl, ifb (fun c1 => ?_) (fun c1 => ?_)⟩
    · have c1 : (0 : Int) < (i : Int) := of_decide_eq_true c1
      refine ⟨_, rfl, _, _, rfl, rfl, _, _, rfl, rfl, _, rfl, ifb (fun c2 => ?_) (fun c2 => ?_)⟩
      · have c2 : (i : Int) < n - 1 := of_decide_eq_true c2
        refine ⟨_, rfl, by show 4 ≤ sizeLine; decide, fun l8 hl8 => ?_⟩
        have fr9 : Fr f H (upd H8 l8 (.lst [.int 1, .int 1, .int 2, .int 3])) := fr8.new hl8
        have e9 : (upd H8 l8 (.lst [.int 1, .int 1, .int 2, .int 3])) l8 = some (.lst [.int 1, .int 1, .int 2, .int 3]) := upd_same
        have s9 : Same H8 (upd H8 l8 (.lst [.int 1, .int 1, .int 2, .int 3])) := same_new hl8
        have n8 : l8 ≠ f := Ne.symm (fr8.fd.ne_new hl8)
        generalize upd H8 l8 (.lst [.int 1, .int 1, .int 2, .int 3]) = H9 at fr9 e9 s9
        refine ⟨f, l8, _, rfl, fr9.fd, n8, e9, by simp, by show 4 ≤ 1000000; decide, fun HA x frA hx => ?_⟩
        obtain ⟨m, rfl, m1, m3⟩ : ∃ m : Nat, x = .int (m : Nat) ∧ 1 ≤ m ∧ m ≤ 3 := by
          simp only [List.mem_cons, List.not_mem_nil, or_false] at hx
          rcases hx with rfl | rfl | rfl | rfl
          · exact ⟨1, rfl, by decide, by decide⟩
          · exact ⟨1, rfl, by decide, by decide⟩
          · exact ⟨2, rfl, by decide, by decide⟩
          · exact ⟨3, rfl, by decide, by decide⟩
        have gN := g.next m m1 m3 (fun z => by omega) n2
        have frB := fr9.trans frA
        have eNB : IntL HA q names := frA.intl (s9 _ _ eN8) qf
        have eFB : IntL HA a4 (first ++ [(names.length : Int)]) := frA.intl (s9 _ _ eF8) n4
        have eJB := (eJ8.same s9).fr fr9.fd frA
        refine ⟨_, rfl, _, rfl, by show 1 ≤ sizeLine; decide, fun l hl => ?_⟩
        have frC : Fr f H (upd HA l (.lst [.int (i : Int)])) := frB.new hl
        have sC : Same HA (upd HA l (.lst [.int (i : Int)])) := same_new hl
        have eC : (upd HA l (.lst [.int (i : Int)])) l = some (.lst [.int (i : Int)]) := upd_same
        generalize upd HA l (.lst [.int (i : Int)]) = HC at frC sC eC
        refine ⟨_, rfl, l, _, _, rfl, rfl, eC, by omega, by omega, by show 1 * _ ≤ _; rw [sizeLine_eq]; omega, fun p hp => ?_⟩
        rw [rep_flat, Int.toNat_natCast]
        have frD : Fr f H (upd HC p (.lst (List.replicate m (.int (i : Int))))) := frC.new hp
        have sD : Same HC (upd HC p (.lst (List.replicate m (.int (i : Int))))) := same_new hp
        have eD : (upd HC p (.lst (List.replicate m (.int (i : Int))))) p = some (.lst (List.replicate m (.int (i : Int)))) := upd_same
        generalize upd HC p (.lst (List.replicate m (.int (i : Int)))) = HD at frD sD eD
        have sAD := sC.trans sD
        refine ⟨q, p, _, _, rfl, rfl, sAD _ _ eNB, eD, by rw [List.length_map, List.length_replicate, sizeLine_eq]; omega, fun z hz => ?_⟩
        have eFD : IntL HD a4 (first ++ [(names.length : Int)]) := sAD _ _ eFB
        refine ⟨_, _, z, names ++ List.replicate m (i : Int), first ++ [(names.length : Int)], rfl, frD.new hz, Ne.symm (frD.fd.ne_new hz), Ne.symm (ne_of_none eFD hz), fun y => ?_, ?_, same_new hz _ _ eFD, (eJB.same sAD).same (same_new hz), gN⟩
        · obtain ⟨ts, e, _⟩ := (eJB.same sAD).ex
          rw [y, e] at hz
          cases hz
        · show upd _ _ _ _ = _
          rw [upd_same, List.map_append, List.map_replicate]
      · skip
        obtain ⟨m, em, m1, m3⟩ : ∃ m : Nat, (1 : Int) = (m : Nat) ∧ 1 ≤ m ∧ m ≤ 1 := ⟨1, rfl, by decide, by decide⟩
        have gN := g.next m m1 (by omega) (fun z => by omega) n2
        have frB := fr8
        have eNB := eN8
        have eFB := eF8
        have eJB := eJ8
        have hn : n ≤ 7 := n7
        obtain ⟨HA, eHA⟩ : ∃ HA, HA = H8 := ⟨_, rfl⟩
        subst eHA
        refine ⟨_, rfl, _, rfl, by show 1 ≤ sizeLine; decide, fun l hl => ?_⟩
        have frC : Fr f H (upd HA l (.lst [.int (i : Int)])) := frB.new hl
        have sC : Same HA (upd HA l (.lst [.int (i : Int)])) := same_new hl
        have eC : (upd HA l (.lst [.int (i : Int)])) l = some (.lst [.int (i : Int)]) := upd_same
        generalize upd HA l (.lst [.int (i : Int)]) = HC at frC sC eC
        refine ⟨_, rfl, l, _, _, rfl, rfl, eC, by omega, by omega, by show 1 * _ ≤ _; rw [sizeLine_eq]; omega, fun p hp => ?_⟩
        rw [rep_flat, show Int.toNat 1 = m from (by omega)]
        have frD : Fr f H (upd HC p (.lst (List.replicate m (.int (i : Int))))) := frC.new hp
        have sD : Same HC (upd HC p (.lst (List.replicate m (.int (i : Int))))) := same_new hp
        have eD : (upd HC p (.lst (List.replicate m (.int (i : Int))))) p = some (.lst (List.replicate m (.int (i : Int)))) := upd_same
        generalize upd HC p (.lst (List.replicate m (.int (i : Int)))) = HD at frD sD eD
        have sAD := sC.trans sD
        refine ⟨q, p, _, _, rfl, rfl, sAD _ _ eNB, eD, by rw [List.length_map, List.length_replicate, sizeLine_eq]; omega, fun z hz => ?_⟩
        have eFD : IntL HD a4 (first ++ [(names.length : Int)]) := sAD _ _ eFB
        refine ⟨_, _, z, names ++ List.replicate m (i : Int), first ++ [(names.length : Int)], rfl, frD.new hz, Ne.symm (frD.fd.ne_new hz), Ne.symm (ne_of_none eFD hz), fun y => ?_, ?_, same_new hz _ _ eFD, (eJB.same sAD).same (same_new hz), gN⟩
        · obtain ⟨ts, e, _⟩ := (eJB.same sAD).ex
          rw [y, e] at hz
          cases hz
        · show upd _ _ _ _ = _
          rw [upd_same, List.map_append, List.map_replicate]
    · refine ⟨_, rfl, iff rfl ?_⟩
      obtain ⟨m, em, m1, m3⟩ : ∃ m : Nat, (1 : Int) = (m : Nat) ∧ 1 ≤ m ∧ m ≤ 1 := ⟨1, rfl, by decide, by decide⟩
      have gN := g.next m m1 (by omega) (fun z => by omega) n2
      have frB := fr8
      have eNB := eN8
      have eFB := eF8
      have eJB := eJ8
      have hn : n ≤ 7 := n7
      obtain ⟨HA, eHA⟩ : ∃ HA, HA = H8 := ⟨_, rfl⟩
      subst eHA
      refine ⟨_, rfl, _, rfl, by show 1 ≤ sizeLine; decide, fun l hl => ?_⟩
      have frC : Fr f H (upd HA l (.lst [.int (i : Int)])) := frB.new hl
      have sC : Same HA (upd HA l (.lst [.int (i : Int)])) := same_new hl
      have eC : (upd HA l (.lst [.int (i : Int)])) l = some (.lst [.int (i : Int)]) := upd_same
      generalize upd HA l (.lst [.int (i : Int)]) = HC at frC sC eC
      refine ⟨_, rfl, l, _, _, rfl, rfl, eC, by omega, by omega, by show 1 * _ ≤ _; rw [sizeLine_eq]; omega, fun p hp => ?_⟩
      rw [rep_flat, show Int.toNat 1 = m from (by omega)]
      have frD : Fr f H (upd HC p (.lst (List.replicate m (.int (i : Int))))) := frC.new hp
      have sD : Same HC (upd HC p (.lst (List.replicate m (.int (i : Int))))) := same_new hp
      have eD : (upd HC p (.lst (List.replicate m (.int (i : Int))))) p = some (.lst (List.replicate m (.int (i : Int)))) := upd_same
      generalize upd HC p (.lst (List.replicate m (.int (i : Int)))) = HD at frD sD eD
      have sAD := sC.trans sD
      refine ⟨q, p, _, _, rfl, rfl, sAD _ _ eNB, eD, by rw [List.length_map, List.length_replicate, sizeLine_eq]; omega, fun z hz => ?_⟩
      have eFD : IntL HD a4 (first ++ [(names.length : Int)]) := sAD _ _ eFB
      refine ⟨_, _, z, names ++ List.replicate m (i : Int), first ++ [(names.length : Int)], rfl, frD.new hz, Ne.symm (frD.fd.ne_new hz), Ne.symm (ne_of_none eFD hz), fun y => ?_, ?_, same_new hz _ _ eFD, (eJB.same sAD).same (same_new hz), gN⟩
      · obtain ⟨ts, e, _⟩ := (eJB.same sAD).ex
        rw [y, e] at hz
        cases hz
      · show upd _ _ _ _ = _
        rw [upd_same, List.map_append, List.map_replicate]
  · rintro σ H7 ⟨v6, v7, q, names, first, rfl, fr7, qf, q4, q5, eN, eF, eJ, g⟩
    obtain ⟨z1, z2, z3, z4, z5⟩ := g.done n2 n7
    refine ⟨_, rfl, _, (names.map V.int).length, rfl, .inl ⟨_, SqL.of eN, rfl⟩, _, rfl, by rw [List.length_map]; omega, by rw [List.length_map]; omega, ?_⟩
    rw [List.length_map, Int.toNat_natCast]
    refine for_it walk_range (fun u σ H' => ∃ v8 v9 js, σ = [some (.ref f), some (.int n), some (.ref lr), some (.ref q), some (.ref a4), some (.ref a5), v6, v7, v8, v9, none] ∧ Fr f H H' ∧ IntL H' q names ∧ IntL H' a4 first ∧ Rows H' a5 js ∧ JmpI n bs names u 0 js)
      ⟨none, none, [], rfl, fr7, eN, eF, eJ, ⟨⟨fun r h => (by cases h), .nil⟩, fun k h => (by omega), rfl, fun s h => (by cases h), Nat.zero_le _⟩⟩ (fun _ _ _ _ _ => trivial) ?_ ?_
    · rintro u x σ _ H8 hu ⟨v8, v9, js, rfl, fr8, eN8, eF8, eJ8, g8⟩ ⟨rfl, hx⟩
      obtain rfl := at0 hx
      refine ⟨_, rfl, n, rfl, by omega, by omega, for_it walk_range (fun v σ H' => ∃ v9 js, σ = [some (.ref f), some (.int n), some (.ref lr), some (.ref q), some (.ref a4), some (.ref a5), v6, v7, some (.int u), v9, none] ∧ Fr f H H' ∧ IntL H' q names ∧ IntL H' a4 first ∧ Rows H' a5 js ∧ JmpI n bs names u v js)
        ⟨v9, js, rfl, fr8, eN8, eF8, eJ8, g8⟩ (fun _ _ _ _ _ => trivial) ?_ ?_⟩
      · rintro v x σ _ H9 hv ⟨v9, js, rfl, fr9, eN9, eF9, eJ9, g9⟩ ⟨rfl, hx⟩
        obtain rfl := at0 hx
        obtain ⟨m0, m1, m2⟩ := g.at_ v hv
        refine ⟨_, rfl, _, rfl, q, _, _, V.int (nm names u), rfl, rfl, SqL.of eN9, nm_at (by omega) (by omega), _, rfl, by show 2 ≤ sizeLine; decide, fun t ht => ?_⟩
        have frA : Fr f H (upd H9 t (.tup [.int (nm names u), .int (v : Int)])) := fr9.new ht
        have sA : Same H9 (upd H9 t (.tup [.int (nm names u), .int (v : Int)])) := same_new ht
        have tA : TupI (upd H9 t (.tup [.int (nm names u), .int (v : Int)])) t [nm names u, (v : Int)] := upd_same
        generalize upd H9 t (.tup [.int (nm names u), .int (v : Int)]) = HA at frA sA tA
        have hlA := hl.fr hf frA
        have eNA : IntL HA q names := sA _ _ eN9
        have eFA : IntL HA a4 first := sA _ _ eF9
        have eJA := eJ9.same sA
        refine ⟨_, rfl, inR tA hlA ⟨_, rfl, ifb (fun c => ?_) (fun c => ?_)⟩⟩
        · have c' : [nm names u, (v : Int)] ∈ bs := by simpa using c
          obtain ⟨tj, ej, pj⟩ := eJA.ex
          refine ⟨_, rfl, .inl ⟨rfl, _, SqL.of ej⟩, _, rfl, _, rfl, _, rfl, a4, _, _, V.int (first.getD v 0), rfl, rfl, SqL.of eFA, at_getD (by rw [g.fl]; exact hv), _, rfl, _, rfl, q, rfl, ⟨_, SqL.of eNA⟩, fun D hD => ?_⟩
          have hlen : names.length = (names.map V.int).length := by rw [List.length_map]
          refine lc_fm (ms := names) (by rw [hlen]; exact walk_list) (fun x => decide (x = (v : Int))) (fun x => x) (fun _ v b => v = .int b) (fun _ _ _ _ _ h => h) hD (by rw [sizeLine_eq]; omega) (fun H' s => SqL.of (s _ _ eNA)) ?_ ?_
          · rintro j x y _ HB Nx hj sB ⟨rfl, hx⟩ kF kT
            rw [List.getElem?_map, hj] at hx
            obtain rfl := Option.some.inj hx
            refine ⟨rfl, ?_⟩
            refine ⟨_, rfl, _, rfl, rfl, ?_⟩
            rw [vint]
            refine ⟨_, rfl, ifb (fun c => ⟨_, rfl, kT c _ _ (Same.refl _) rfl⟩) (fun c => kF c _ (Same.refl _))⟩
          · intro HB ys sB hDB hp
            have ey := paired_ints (H := HB) hp
            subst ey
            rw [List.map_id'] at hDB
            have frB := frA.same sB
            have hcn : ((names.filter fun x => decide (x = (v : Int))).map V.int).length = cntN names v := by rw [List.length_map]; rfl
            refine ⟨_, ((names.filter fun x => decide (x = (v : Int))).map V.int).length, rfl, .inl ⟨_, SqL.of hDB, rfl⟩, f, _, rfl, frB.fd, by rw [hcn]; omega, by rw [hcn]; have : cntN names v ≤ names.length := List.length_filter_le _ _; omega, fun HC r frC r0 r1 => ⟨_, _, rfl, rfl, by show 2 ≤ sizeLine; decide, fun p hp => ?_⟩⟩
            rw [hcn] at r1
            obtain ⟨w1, w2⟩ := m2 r r0 r1
            have frD := frB.trans frC
            have ejC := frC.bt _ _ (sB _ _ ej) n5
            have eND := frC.intl (sB _ _ eNA) qf
            have eFD := frC.intl (sB _ _ eFA) n4
            have eJD := (eJA.same sB).fr frB.fd frC
            have frE : Fr f H (upd HC p (.tup [.int (u : Int), .int (first.getD v 0 + r)])) := frD.new hp
            have sE : Same HC (upd HC p (.tup [.int (u : Int), .int (first.getD v 0 + r)])) := same_new hp
            have tE : TupI (upd HC p (.tup [.int (u : Int), .int (first.getD v 0 + r)])) p [(u : Int), first.getD v 0 + r] := upd_same
            generalize upd HC p (.tup [.int (u : Int), .int (first.getD v 0 + r)]) = HE at frE sE tE
            have ejE := sE _ _ ejC
            have lj := Paired.length pj
            have g9l := g9.len
            refine ⟨a5, _, _, rfl, rfl, ejE, by rw [List.length_map, sizeLine_eq]; omega, ?_⟩
            refine ⟨_, js ++ [[(u : Int), first.getD v 0 + r]], rfl, frE.upd H5n n5, ?_, ?_, ?_, g9.put jb g.up c' (by omega) w1 w2 hu⟩
            · show upd _ _ _ _ = _
              rw [upd_ne q5]; exact sE _ _ eND
            · show upd _ _ _ _ = _
              rw [upd_ne n45]; exact sE _ _ eFD
            · obtain ⟨tk, ek, pk⟩ := (eJD.same sE).ex
              rw [ejE] at ek
              have et : tj = tk := List.map_inj_right (f := V.ref) (fun _ _ e => V.ref.inj e) |>.mp (HO.lst.inj (Option.some.inj ek))
              subst et
              refine ⟨tj ++ [p], by rw [upd_same, List.map_append]; rfl, ?_⟩
              refine Paired.mapP (Paired.snoc pk tE) fun a r y => ?_
              show upd _ _ _ _ = _
              rw [upd_ne (fun w => by rw [w] at y; cases y.symm.trans ejE)]
              exact y
        · exact ⟨_, js, rfl, frA, eNA, eFA, eJA, g9.skip (by simpa using c)⟩
      · rintro σ H9 ⟨v9, js, rfl, fr9, eN9, eF9, eJ9, g9⟩
        exact ⟨_, _, js, rfl, fr9, eN9, eF9, eJ9, g9.turn n7⟩
    · rintro σ H8 ⟨v8, v9, js, rfl, fr8, eN8, eF8, eJ8, g8⟩
      refine ⟨_, rfl, _, rfl, by show 2 ≤ sizeLine; decide, fun l hl => ?_⟩
      exact k _ l q a5 names js (fr8.new hl) upd_same qf n5 (same_new hl _ _ eN8) (eJ8.same (same_new hl)) (g8.done g jb n2 n7)
end
end K46
end
section
set_option maxHeartbeats 4000000
/-! P2: two blocks of a cover exchanged, in plain Lean. -/
namespace K46
open PySem Ja
open L2 hiding CX0 E0 pass0 Fun
def swp (a x : Int) : Int := if x = a then a + 1 else if x = a + 1 then a else x
theorem swp_cases (a x : Int) : (x = a ∧ swp a x = a + 1) ∨ (x = a + 1 ∧ swp a x = a) ∨ (x ≠ a ∧ x ≠ a + 1 ∧ swp a x = x) := by
  unfold swp
  by_cases c : x = a
  · exact .inl ⟨c, if_pos c⟩
  · rw [if_neg c]
    by_cases d : x = a + 1
    · exact .inr (.inl ⟨d, if_pos d⟩)
    · exact .inr (.inr ⟨c, d, if_neg d⟩)
theorem swp_swp (a x : Int) : swp a (swp a x) = x := by
  rcases swp_cases a x with ⟨h, e⟩ | ⟨h, e⟩ | ⟨h1, h2, e⟩ <;> rcases swp_cases a (swp a x) with ⟨g, e'⟩ | ⟨g, e'⟩ | ⟨g1, g2, e'⟩ <;> omega
def swN (a : Int) (names : List Int) : List Int := (upto 0 names.length).map fun b => nm names (swp a b)
def swJ (a : Int) (js : List (List Int)) : List (List Int) := js.map fun s => [swp a (j0 s), swp a (j1 s)]
theorem swN_len (a : Int) (names : List Int) : (swN a names).length = names.length := by unfold swN; rw [List.length_map, upto_len]
theorem swN_nm {a : Int} {names : List Int} {x : Int} (h0 : 0 ≤ x) (h : x < names.length) : nm (swN a names) x = nm names (swp a x) := by
  have e : x = ((x.toNat : Nat) : Int) := by omega
  have g := nm_get (names := swN a names) (i := x.toNat) (by rw [swN_len]; omega)
  unfold swN at g
  rw [List.getElem?_map, upto_at (by omega), Int.zero_add] at g
  have g := Option.some.inj g
  rw [← e] at g
  exact g.symm
theorem CovJ.swap {n : Int} {bs js : List (List Int)} {names : List Int} {a : Int} (h : CovJ n bs names js) (a1 : 1 ≤ a) (a2 : a + 3 ≤ names.length) (na : [a, a + 1] ∉ js) : CovJ n bs (swN a names) (swJ a js) := by
  have lt : ∀ x : Int, 0 ≤ x → x < names.length → 0 ≤ swp a x ∧ swp a x < names.length := fun x x0 x1 => by
    rcases swp_cases a x with ⟨g, e⟩ | ⟨g, e⟩ | ⟨g1, g2, e⟩ <;> omega
  have hne : names ≠ [] := fun z => by have := h.l2; rw [z] at this; simp at this
  have hne' : swN a names ≠ [] := fun z => by
    have := congrArg List.length z
    rw [swN_len] at this
    have := h.l2
    simp_all
  refine ⟨⟨fun r hr => ?_, ?_⟩, ⟨rfl, ?_, ?_, fun i i0 i1 => ?_, fun i hi => ?_⟩, by rw [swN_len]; exact h.l2, by rw [swN_len]; exact h.l17, by unfold swJ; rw [List.length_map]; exact h.jl⟩
  · rw [swN_len]
    obtain ⟨s, hs, rfl⟩ := List.mem_map.mp hr
    obtain ⟨u, v, rfl, p0, p1, p2⟩ := h.jr.sh s hs
    refine ⟨swp a u, swp a v, rfl, ?_⟩
    have g1 := lt u (by omega) (by omega)
    have g2 := lt v (by omega) (by omega)
    have nuv : ¬ (u = a ∧ v = a + 1) := fun ⟨e1, e2⟩ => by rw [e1, e2] at hs; exact na hs
    rcases swp_cases a u with ⟨z, e⟩ | ⟨z, e⟩ | ⟨z1, z2, e⟩ <;> rcases swp_cases a v with ⟨y, e'⟩ | ⟨y, e'⟩ | ⟨y1, y2, e'⟩ <;> omega
  · refine nodup_map h.jr.nd fun x hx y hy e => ?_
    obtain ⟨u, v, rfl, _⟩ := h.jr.sh x hx
    obtain ⟨u', v', rfl, _⟩ := h.jr.sh y hy
    have e : [swp a u, swp a v] = [swp a u', swp a v'] := e
    simp only [List.cons.injEq, and_true] at e
    have e1 := congrArg (swp a) e.1
    have e2 := congrArg (swp a) e.2
    rw [swp_swp, swp_swp] at e1 e2
    rw [e1, e2]
  · rw [swN_nm (by omega) (by omega)]
    have : swp a 0 = 0 := by rcases swp_cases a 0 with ⟨z, e⟩ | ⟨z, e⟩ | ⟨z1, z2, e⟩ <;> omega
    rw [this]; exact h.cov.first
  · rw [← nm_last hne', swN_len, swN_nm (by omega) (by omega)]
    have : swp a ((names.length - 1 : Nat) : Int) = ((names.length - 1 : Nat) : Int) := by rcases swp_cases a ((names.length - 1 : Nat) : Int) with ⟨z, e⟩ | ⟨z, e⟩ | ⟨z1, z2, e⟩ <;> omega
    rw [this, nm_last hne]; exact h.cov.last
  · rw [swN_len] at i1
    rw [swN_nm (by omega) (by omega)]
    have g : 0 < swp a (i : Int) ∧ swp a (i : Int) + 1 < names.length := by rcases swp_cases a (i : Int) with ⟨z, e⟩ | ⟨z, e⟩ | ⟨z1, z2, e⟩ <;> omega
    have := h.cov.mid (swp a (i : Int)).toNat (by omega) (by omega)
    have e : (((swp a (i : Int)).toNat : Nat) : Int) = swp a (i : Int) := by omega
    rw [e] at this
    exact this
  · rw [swN_len] at hi
    rw [swN_nm (by omega) (by omega)]
    have g := lt (i : Int) (by omega) (by omega)
    have pm := h.cov.outs (swp a (i : Int)).toNat (by omega)
    have e : (((swp a (i : Int)).toNat : Nat) : Int) = swp a (i : Int) := by omega
    rw [e] at pm
    have eo : (outsF (swJ a js) (i : Int)).map (fun s => nm (swN a names) (j1 s)) = (outsF js (swp a (i : Int))).map fun s => nm names (j1 s) := by
      unfold outsF swJ
      rw [List.filter_map, List.map_map]
      have ef : (js.filter ((fun r => decide (j0 r = (i : Int))) ∘ fun s => [swp a (j0 s), swp a (j1 s)])) = js.filter fun r => decide (j0 r = swp a (i : Int)) := by
        refine List.filter_congr fun s _ => ?_
        show decide (swp a (j0 s) = (i : Int)) = _
        refine decide_eq_decide.mpr ⟨fun z => ?_, fun z => ?_⟩
        · rw [← z, swp_swp]
        · rw [z, swp_swp]
      rw [ef]
      refine List.map_congr_left fun s hs => ?_
      obtain ⟨u, v, rfl, p0, p1, p2⟩ := h.jr.sh s (List.mem_filter.mp hs).1
      have g2 := lt v (by omega) (by omega)
      show nm (swN a names) (swp a v) = nm names v
      rw [swN_nm g2.1 g2.2, swp_swp]
    rw [eo]
    exact pm
theorem rgV_upto (n : Int) : rgV 0 n = (upto 0 n.toNat).map V.int := by
  unfold rgV upto
  rw [List.map_map, Int.sub_zero]
  rfl
/-- the numbers, two of them exchanged -/
theorem rg_swap {N : Nat} {a : Int} (a1 : 0 ≤ a) (a2 : a + 1 < N) : ((rgV 0 (N : Int)).set a.toNat (.int (a + 1))).set (a + 1).toNat (.int a) = ((upto 0 N).map (swp a)).map V.int := by
  rw [rgV_upto, Int.toNat_natCast]
  refine List.ext_getElem? fun i => ?_
  rw [List.getElem?_set, List.getElem?_set, List.getElem?_map, List.getElem?_map, List.getElem?_map]
  rw [List.length_set, List.length_map, upto_len]
  by_cases h : i < N
  · rw [upto_at h, Int.zero_add]
    have hs : swp a (i : Int) = if (i : Int) = a then a + 1 else if (i : Int) = a + 1 then a else (i : Int) := rfl
    by_cases c1 : (a + 1).toNat = i
    · rw [if_pos c1, if_pos (by omega)]
      show _ = some (V.int (swp a (i : Int)))
      rw [hs, if_neg (by omega), if_pos (by omega)]
    · rw [if_neg c1]
      by_cases c2 : a.toNat = i
      · rw [if_pos c2, if_pos (by omega)]
        show _ = some (V.int (swp a (i : Int)))
        rw [hs, if_pos (by omega)]
      · rw [if_neg c2]
        show _ = some (V.int (swp a (i : Int)))
        rw [hs, if_neg (by omega), if_neg (by omega)]
        rfl
  · have e : (upto 0 N)[i]? = none := List.getElem?_eq_none (by rw [upto_len]; omega)
    rw [e, if_neg (by omega), if_neg (by omega)]
    rfl
end K46
end
section
set_option maxHeartbeats 4000000
/-! M13: blocks exchanged. -/
namespace K46
open PySem Ja
open L2 hiding CX0 E0 pass0 Fun
open PySem.W (Frag findIn isFn fnIn)
open C8 (Cal Met Mak Def Fun CX0 E0 pass0 fnScope fnBody fnArgs fnScope_by cal0 met0 mak0 pe_c pe_mk pe_mt pe_mt0 pe_gc fn0)
def spExchL : Sp := fun vs H Q _ => ∃ (f ln lj : Addr) (n : Int) (bs js : List (List Int)) (names : List Int), vs = [.ref f, .ref ln, .ref lj] ∧ Fd H f ∧ ln ≠ f ∧ IntL H ln names ∧ Rows H lj js ∧ CovJ n bs names js ∧ ∀ H' l ln' lj' names' js', Fr f H H' → H' l = some (.lst [.ref ln', .ref lj']) → ln' ≠ f → IntL H' ln' names' → Rows H' lj' js' → CovJ n bs names' js' → Q (.ref l) H'
section
variable {P : Program} {w : World} {K : Frag} {mg : Str → Option Value} {base : Heap} {f : Addr} {fd : FuncData}
theorem w_exchL (T : Tb mg) (c_take : Cal P w K mg base 1 "_law_take" spTake []) (F : Def K mg "_law_exchanged" sExchanged f fd) (b : Binds K fd ["_law_feed_here", "_law_names", "_law_jumps"] []) : Cal P w K mg base 2 "_law_exchanged" spExchL [] := by
  have sc : FnScope ["_law_feed_here", "_law_names", "_law_jumps", "_law_at", "_law_numbers", "_law_b", "_law_jump"] ["_law_feed_here", "_law_names", "_law_jumps"] (fnScope sExchanged) := fnScope_by (by decide +kernel)
  refine cal0 F b .nil sc (fun vs H Q E h => by obtain ⟨_, _, _, _, _, _, _, rfl, _⟩ := h; rfl) fun cdv A outer s H vs Q E hr h => ?_
  obtain ⟨f, ln, lj, n, bs, js, names, rfl, hf, nf, hn, hj, g, k⟩ := h
  refine ⟨_, (pss_cons (ps_set (i := 3) sc.nd rfl (Or.inl rfl) (pe_op op_add pe_int (pe_c c_take hr (by decide) rfl (pa_cons (pv 0) (pa_cons (pe_callB (call_max2 rfl) (by rfl) T.max PyProof.Rows.boot_max (pa_cons pe_int (pa_cons (pe_op op_sub (pe_callB call_len (by rfl) T.len PySem.boot_len (pa_cons (pv 1) pa_nil)) pe_int) pa_nil))) pa_nil)))))
  (pss_cons (ps_if (PW.pt (pw_or (pt_cmpR op_lt (pe_callB call_len (by rfl) T.len PySem.boot_len (pa_cons (pv 1) pa_nil)) pe_int (nomark _)) (pw_or (pt_cmpR (inDk (K := K) rfl (hu65 hr)) (pe_tup (pa_cons (pv 3) (pa_cons (pe_op op_add (pv 3) pe_int) pa_nil))) (pv 2) (by rfl)) (pw_or1 (pt_cmpR op_eq (pe_c c_take hr (by decide) rfl (pa_cons (pv 0) (pa_cons pe_int pa_nil))) pe_int (nomark _)))))) (pss_one (ps_ret (pe_lst (pa_cons (pv 1) (pa_cons (pv 2) pa_nil))))) pss_nil)
  (pss_cons (ps_set (i := 4) sc.nd rfl (Or.inr rfl) (pe_listRg rfl (by rfl) T.list (prg_1 (by rfl) T.range (pe_callB call_len (by rfl) T.len PySem.boot_len (pa_cons (pv 1) pa_nil)))))
  (pss_cons (ps_asg (pe_op op_add (pv 3) pe_int) (pg_sub (pv 4) (pv 3) set_list))
  (pss_cons (ps_asg (pv 3) (pg_sub (pv 4) (pe_op op_add (pv 3) pe_int) set_list))
  (pss_one (ps_ret (pe_lst (pa_cons (pe_lc (own := [("_law_b", 5)]) rfl sc.nd (pi_list (pv 4)) (blkOk_by (own := [("_law_b", 5)]) (N := ["_law_feed_here", "_law_names", "_law_jumps", "_law_at", "_law_numbers", "_law_b", "_law_jump"]) (sc := fnScope sExchanged) (by decide +kernel)) (fun _ _ _ _ _ => (pg_name (i := 5) sc.nd rfl (Or.inl rfl))) (fun _ _ _ _ _ => pts_nil) (fun _ _ _ _ _ => (pe_ix (ixL (K := K) rfl) (pv 1) (pv 5) (fun _ _ => rfl)))) (pa_cons (pe_lc (own := [("_law_jump", 6)]) rfl sc.nd (pi_list (pv 2)) (blkOk_by (own := [("_law_jump", 6)]) (N := ["_law_feed_here", "_law_names", "_law_jumps", "_law_at", "_law_numbers", "_law_b", "_law_jump"]) (sc := fnScope sExchanged) (by decide +kernel)) (fun _ _ _ _ _ => (pg_name (i := 6) sc.nd rfl (Or.inl rfl))) (fun _ _ _ _ _ => pts_nil) (fun _ _ _ _ _ => (pe_tup (pa_cons (pe_ix (ixL (K := K) rfl) (pv 4) (pe_ix (ixT (K := K) rfl) (pv 6) pe_int (fun _ _ => rfl)) (fun _ _ => rfl)) (pa_cons (pe_ix (ixL (K := K) rfl) (pv 4) (pe_ix (ixT (K := K) rfl) (pv 6) pe_int (fun _ _ => rfl)) (fun _ _ => rfl)) pa_nil))))) pa_nil)))))))))), ?_⟩
  have g2 := g.l2
  have g17 := g.l17
  have len : (names.map V.int).length = names.length := List.length_map ..
  refine ⟨_, rfl, _, rfl, _, (names.map V.int).length, rfl, .inl ⟨_, SqL.of hn, rfl⟩, _, _, rfl, rfl, _, _, rfl, f, _, rfl, hf, ?_, ?_, fun H1 a0 fr1 x0 x1 => ⟨_, _, rfl, rfl, ?_⟩⟩
  · rw [len]; split <;> omega
  · rw [len]; split <;> omega
  rw [len] at x1
  have hn1 := fr1.intl hn nf
  have hj1 := hj.fr hf fr1
  refine ⟨_, rfl, _, (names.map V.int).length, rfl, .inl ⟨_, SqL.of hn1, rfl⟩, _, _, rfl, rfl, _, rfl, ifb (fun c => ?_) (fun c => ?_)⟩
  · exact ⟨_, rfl, _, rfl, by show 2 ≤ sizeLine; decide, fun l hl => k _ l ln lj names js (fr1.new hl) upd_same nf (same_new hl _ _ hn1) (hj1.same (same_new hl)) g⟩
  have c4 : 4 ≤ names.length := by
    have := of_decide_eq_false c
    rw [len] at this
    omega
  have x1 : a0 < (names.length : Int) - 3 := by split at x1 <;> omega
  refine ⟨_, rfl, _, rfl, _, _, rfl, rfl, by show 2 ≤ sizeLine; decide, fun t ht => ?_⟩
  have fr2 : Fr f H (upd H1 t (.tup [.int (1 + a0), .int (1 + a0 + 1)])) := fr1.new ht
  have s2 : Same H1 (upd H1 t (.tup [.int (1 + a0), .int (1 + a0 + 1)])) := same_new ht
  have t2 : TupI (upd H1 t (.tup [.int (1 + a0), .int (1 + a0 + 1)])) t [1 + a0, 1 + a0 + 1] := upd_same
  generalize upd H1 t (.tup [.int (1 + a0), .int (1 + a0 + 1)]) = H2 at fr2 s2 t2
  have hn2 : IntL H2 ln names := s2 _ _ hn1
  have hj2 := hj1.same s2
  refine ⟨_, rfl, inR t2 hj2 ⟨_, rfl, ifb (fun c => ?_) (fun c => ?_)⟩⟩
  · exact ⟨_, rfl, _, rfl, by show 2 ≤ sizeLine; decide, fun l hl => k _ l ln lj names js (fr2.new hl) upd_same nf (same_new hl _ _ hn2) (hj2.same (same_new hl)) g⟩
  have na : [1 + a0, 1 + a0 + 1] ∉ js := by simpa using c
  refine ⟨_, rfl, f, 2, rfl, fr2.fd, by decide, by decide, fun H3 z fr3 z0 z1 => ⟨rfl, _, rfl, ifb (fun c => ?_) (fun c => ?_)⟩⟩
  · have hn3 := fr3.intl hn2 nf
    have hj3 := hj2.fr fr2.fd fr3
    exact ⟨_, rfl, _, rfl, by show 2 ≤ sizeLine; decide, fun l hl => k _ l ln lj names js ((fr2.trans fr3).new hl) upd_same nf (same_new hl _ _ hn3) (hj3.same (same_new hl)) g⟩
  have hn3 := fr3.intl hn2 nf
  have hj3 := hj2.fr fr2.fd fr3
  have fr3' := fr2.trans fr3
  refine ⟨_, rfl, _, (names.map V.int).length, rfl, .inl ⟨_, SqL.of hn3, rfl⟩, _, rfl, RgOk.of_le (by omega) (by rw [len]; omega) (by omega) (by omega), fun q hq => ?_⟩
  rw [len]
  have frq : Fr f H (upd H3 q (.lst (rgV 0 names.length))) := fr3'.new hq
  have sq : Same H3 (upd H3 q (.lst (rgV 0 names.length))) := same_new hq
  have eq : (upd H3 q (.lst (rgV 0 names.length))) q = some (.lst (rgV 0 names.length)) := upd_same
  have nq : q ≠ f := Ne.symm (fr3'.fd.ne_new hq)
  have Hq : H q = none := fr3'.free hq nq
  have nqn : ln ≠ q := ne_of_none hn3 hq
  generalize upd H3 q (.lst (rgV 0 names.length)) = H4 at frq sq eq
  have rl : (rgV 0 (names.length : Int)).length = names.length := by rw [rgV_length]; omega
  have ix1 : ixN (rgV 0 (names.length : Int)).length (1 + a0) = some (1 + a0).toNat := by unfold ixN; rw [rl, if_pos (by omega), if_pos (by omega)]
  refine ⟨_, rfl, _, _, rfl, rfl, _, rfl, _, rfl, q, _, _, _, rfl, rfl, eq, ix1, ?_⟩
  refine ⟨_, rfl, _, rfl, _, rfl, _, _, rfl, rfl, q, _, _, (1 + a0 + 1).toNat, rfl, rfl, upd_same, ?_, ?_⟩
  · unfold ixN; rw [List.length_set, rl, if_pos (by omega), if_pos (by omega)]
  rw [upd_upd]
  have ers := rg_swap (N := names.length) (a := 1 + a0) (by omega) (by omega)
  rw [show ((rgV 0 (names.length : Int)).set (1 + a0).toNat ((fun i j => V.int (i + j)) (1 + a0) 1)).set (1 + a0 + 1).toNat ((fun i j => V.int (i + j)) 1 a0) = ((upto 0 names.length).map (swp (1 + a0))).map V.int from ers]
  have fr5 : Fr f H (upd H4 q (.lst (((upto 0 names.length).map (swp (1 + a0))).map V.int))) := frq.upd Hq nq
  have eq5 : IntL (upd H4 q (.lst (((upto 0 names.length).map (swp (1 + a0))).map V.int))) q ((upto 0 names.length).map (swp (1 + a0))) := upd_same
  have hn5 : IntL (upd H4 q (.lst (((upto 0 names.length).map (swp (1 + a0))).map V.int))) ln names := by show upd _ _ _ _ = _; rw [upd_ne nqn]; exact sq _ _ hn3
  have hj5 : Rows (upd H4 q (.lst (((upto 0 names.length).map (swp (1 + a0))).map V.int))) lj js := by
    obtain ⟨ts, e, p⟩ := hj3.ex
    refine ⟨ts, by rw [upd_ne (ne_of_none e hq)]; exact sq _ _ e, Paired.mapP p fun t r y => ?_⟩
    show upd _ _ _ _ = _
    rw [upd_ne (ne_of_none y hq)]; exact sq _ _ y
  generalize upd H4 q (.lst (((upto 0 names.length).map (swp (1 + a0))).map V.int)) = H5 at fr5 eq5 hn5 hj5
  have lt : ∀ x : Int, 0 ≤ x → x < names.length → 0 ≤ swp (1 + a0) x ∧ swp (1 + a0) x < names.length := fun x y0 y1 => by
    rcases swp_cases (1 + a0) x with ⟨g, e⟩ | ⟨g, e⟩ | ⟨g1, g2, e⟩ <;> omega
  have lenU : ((upto 0 names.length).map (swp (1 + a0))).length = names.length := by rw [List.length_map, upto_len]
  have hsw : ∀ (H' : Hp) (x : Int), IntL H' q ((upto 0 names.length).map (swp (1 + a0))) → 0 ≤ x → x < names.length → atI (((upto 0 names.length).map (swp (1 + a0))).map V.int) x = some (.int (swp (1 + a0) x)) := fun H' x _ y0 y1 => by
    have e : x = ((x.toNat : Nat) : Int) := by omega
    have z := atI_nat (xs := ((upto 0 names.length).map (swp (1 + a0))).map V.int) (j := x.toNat) (v := .int (swp (1 + a0) x)) (by
      rw [List.getElem?_map, List.getElem?_map, upto_at (by omega), Int.zero_add, ← e]
      rfl)
    rw [← e] at z
    exact z
  refine ⟨_, rfl, q, rfl, ⟨_, SqL.of eq5⟩, fun D hD => ?_⟩
  have hlen : ((upto 0 names.length).map (swp (1 + a0))).length = (((upto 0 names.length).map (swp (1 + a0))).map V.int).length := (List.length_map ..).symm
  refine lc_fm (ms := (upto 0 names.length).map (swp (1 + a0))) (by rw [hlen]; exact walk_list) (fun _ => true) (fun x => nm names x) (fun _ v b => v = .int b) (fun _ _ _ _ _ h => h) hD (by rw [lenU, sizeLine_eq]; omega) (fun H' s => SqL.of (s _ _ eq5)) ?_ ?_
  · rintro j x y _ H6 Nx hjj s6 ⟨rfl, hx⟩ _ kT
    rw [List.getElem?_map, hjj] at hx
    obtain rfl := Option.some.inj hx
    obtain ⟨y, hy, rfl⟩ := List.mem_map.mp (List.mem_of_getElem? hjj)
    have hy' := upto_mem.mp hy
    obtain ⟨w0, w1⟩ := lt y (by omega) (by omega)
    refine ⟨rfl, ?_⟩
    exact ⟨_, rfl, _, rfl, ln, _, _, _, rfl, rfl, SqL.of (s6 _ _ hn5), nm_at w0 w1, kT rfl _ _ (Same.refl _) rfl⟩
  · intro H6 ys s6 hD6 hp
    have ey := paired_ints (H := H6) hp
    subst ey
    rw [ft, List.map_map] at hD6
    have fr6 := fr5.same s6
    have eq6 : IntL H6 q ((upto 0 names.length).map (swp (1 + a0))) := s6 _ _ eq5
    have hj6 := hj5.same s6
    have nD : D ≠ f := Ne.symm (fr5.fd.ne_new hD)
    obtain ⟨ts, el, pl⟩ := hj6.ex
    refine ⟨_, rfl, lj, rfl, ⟨_, SqL.of el⟩, fun D2 hD2 => ?_⟩
    have hl2 : js.length = (ts.map V.ref).length := by rw [List.length_map, Paired.length pl]
    have hjl := g.jl
    refine lc_fm (ms := js) (by rw [hl2]; exact walk_list) (fun _ => true) (fun s => [swp (1 + a0) (j0 s), swp (1 + a0) (j1 s)]) (fun H v r => ∃ t, v = .ref t ∧ TupI H t r) (fun H H' v r nl ⟨t, e, q⟩ => ⟨t, e, nl _ _ q (fun xs z => by cases z)⟩) hD2 (by rw [sizeLine_eq]; omega) (fun H' s => SqL.of (s _ _ el)) ?_ ?_
    · rintro j x y _ H7 Nx hjj s7 ⟨rfl, hx⟩ _ kT
      obtain ⟨t, rfl, hm⟩ := at_item pl hjj hx
      obtain ⟨u, v, rfl, p0, p1, p2⟩ := g.jr.sh x (List.mem_of_getElem? hjj)
      have hm7 : H7 t = some (.tup [.int u, .int v]) := s7 _ _ hm
      have eq7 : IntL H7 q ((upto 0 names.length).map (swp (1 + a0))) := s7 _ _ eq6
      refine ⟨rfl, ?_⟩
      refine ⟨_, rfl, _, rfl, t, _, 0, V.int u, rfl, rfl, SqT.of hm7, atI0 _ _, q, _, u, _, rfl, rfl, SqL.of eq7, hsw H7 u eq7 (by omega) (by omega), _, rfl, _, rfl, t, _, 1, V.int v, rfl, rfl, SqT.of hm7, atI1 _ _ _, q, _, v, _, rfl, rfl, SqL.of eq7, hsw H7 v eq7 (by omega) (by omega), by show 2 ≤ sizeLine; decide, fun h hh => kT rfl _ _ (same_new hh) ⟨h, rfl, upd_same⟩⟩
    · intro H7 ys s7 hD7 hp
      rw [ft] at hp
      refine ⟨by show 2 ≤ sizeLine; decide, fun l hl => ?_⟩
      have fr7 := (fr6.same s7).new (o := .lst [.ref D, .ref D2]) hl
      refine k _ l D D2 (swN (1 + a0) names) (swJ (1 + a0) js) fr7 upd_same nD ?_ ((Rows.of hD7 hp).same (same_new hl)) (g.swap (by omega) (by omega) na)
      refine same_new hl _ _ ?_
      rw [s7 _ _ hD6]
      unfold swN
      rw [List.map_map, List.map_map]
      rfl
end
end K46
end
section
set_option maxHeartbeats 4000000
/-! Gg: defs that are called while no repr is under way. -/
namespace K46
open PySem Ja PyProof.Rows PySem.Spec
open L2 hiding CX0 E0 pass0 Fun del del_ne
open PySem.W (Frag findIn isFn fnIn)
open C8 (Cal Met Mak Def Fun CX0 E0 pass0 fnScope fnBody fnArgs fnScope_by cal0 met0 mak0 pe_c pe_mk pe_mt pe_mt0 pe_gc fn0)
structure FnG (P : Program) (w : World) (K : Frag) (mg : Str → Option Value) (base : Heap) (k : Nat) (f : Addr) (fd : FuncData) (ps : List Str) (sp : Sp) : Prop where
  len : ∀ vs H Q E, sp vs H Q E → vs.length = ps.length
  run : ∀ (A : Around) (outer : List Env) (s : Shared) (H : Hp) (args : Args) (us : List Value) (vs : List V) (Q : VK) (E : XK), A.guards = some [] → Room k A → Env0 P w K mg base A outer s H → BindsTo s fd args (ps.zip us) → Vals vs us → sp vs H Q E →
    codeAny (model P w) A (.call (.ref f) args) (CR CX0 outer P w H s Q E) s
theorem fnG {P : Program} {w : World} {K : Frag} {mg : Str → Option Value} {base : Heap} {x qual : Str} {st : Stmt} {f : Addr} {fd : FuncData} {N ps : List Str} {k : Nat} {sp : Sp} (F : Fun K x qual st f fd) (S : FnScope N ps (fnScope st)) (len : ∀ vs H Q E, sp vs H Q E → vs.length = ps.length)
    (hb : ∀ (cdv : Value) (A : Around) (outer : List Env) (s : Shared) (H : Hp) (vs : List V) (Q : VK) (E : XK), A.guards = some [] → Room k (A.deeper (envOfC qual (fnScope st) s.heap.objs.size f cdv)) → sp vs H Q E →
      ∃ t, PSs (cxOf CX0 P w K mg base N qual (fnScope st) f cdv A outer s H E).nox (fnBody st) t ∧ t { nx := fun _ H' => Q .non H', rt := Q } (start N vs) H) : FnG P w K mg base (k + 1) f fd ps sp := by
  obtain ⟨oc, od, dV, kV, doc, pm, an, cdv, ct, osl, rfl, lk, hcd⟩ := F.ex
  refine ⟨len, fun A outer s H args us vs Q E hg hr e0 hbb r hsp => ?_⟩
  have old : ∀ {b : Addr} {o : Obj}, base.get? b = some o → s.heap.get? b = some o := fun {b o} e => (e0.bs b o e).1
  have kin : K.In s.heap := e0.mod.kin.keeps fun b o e => old e
  have nolim : s.heap.NoLimit := e0.mod.nolimit.keeps fun b o e => old e
  refine codeAny_call_function hr.depth (kin _ _ lk) rfl S.co S.gen rfl (PySem.W.codeRec_of kin hcd) (hbb _ _ _ _ (wpAny_newFunctionEnv_cells S.kind (fun y hy => ?_) fun env he s1 xx => ?_))
  · obtain ⟨n, v⟩ := y
    cases S.par n (List.of_mem_zip hy).1 with
    | inl q => exact .inl q
    | inr q => exact .inr ⟨q, PySem.W.cellsFrom_some _ _ _ (.inl q)⟩
  · subst he
    obtain ⟨t, ht, hq⟩ := hb cdv A outer s H vs Q E hg (hr.deeper _) hsp
    refine ⟨nolim.keeps xx.toInCall.keep, codeAny_func (wpAny_mono (ht.nox.run [] s1 (start N vs) H _ (inv_start S hr.hd e0 (len _ _ _ _ hsp) r xx) hq) (fun fl s' hs => ?_) fun e s' z => z)⟩
    cases fl with
    | next => obtain ⟨_, H', J, q⟩ := hs; exact ⟨.non, H', J.os, J.bare, J.base, J.hok, rfl, q⟩
    | ret u => obtain ⟨v, _, H', J, rv, q⟩ := hs; exact ⟨v, H', J.os, J.bare, J.base, J.hok, rv, q⟩
    | brk => obtain ⟨_, _, _, q⟩ := hs; exact q.elim
    | cont => obtain ⟨_, _, _, q⟩ := hs; exact q.elim
/-- such a def, by its name -/
structure CalG (P : Program) (w : World) (K : Frag) (mg : Str → Option Value) (base : Heap) (k : Nat) (x : Str) (sp : Sp) : Prop where
  ex : ∃ (f : Addr) (fd : FuncData) (ps : List Str), FnG P w K mg base k f fd ps sp ∧ mg x = some (.ref f) ∧ PySem.W.keepIn K (.ref f) = true ∧ Binds K fd ps []
theorem calG {P : Program} {w : World} {K : Frag} {mg : Str → Option Value} {base : Heap} {x : Str} {st : Stmt} {f : Addr} {fd : FuncData} {N ps : List Str} {k : Nat} {sp : Sp} (F : Def K mg x st f fd) (b : Binds K fd ps []) (S : FnScope N ps (fnScope st)) (len : ∀ vs H Q E, sp vs H Q E → vs.length = ps.length)
    (hb : ∀ (cdv : Value) (A : Around) (outer : List Env) (s : Shared) (H : Hp) (vs : List V) (Q : VK) (E : XK), A.guards = some [] → Room k (A.deeper (envOfC x (fnScope st) s.heap.objs.size f cdv)) → sp vs H Q E →
      ∃ t, PSs (cxOf CX0 P w K mg base N x (fnScope st) f cdv A outer s H E).nox (fnBody st) t ∧ t { nx := fun _ H' => Q .non H', rt := Q } (start N vs) H) : CalG P w K mg base (k + 1) x sp :=
  ⟨f, fd, ps, fnG F.fn S len hb, F.mgf, F.kp, b⟩
section
variable {X : Cx} {k j : Nat} {x : Str} {sp : Sp} {p pos : Pos} {e : Expr} {es : List Expr} {t : TA}
theorem pe_cG (c : CalG X.prog X.w X.K X.mg X.base k x sp) (hgd : X.A.guards = some []) (hr : Room j X.A) (hk : k ≤ j) (hg : Gl X x) (ha : PA X (e :: es) t)
    (hdb : (x == ("__debug__" : Str)) = false := by decide) (he : starEach (e :: es) X.env = (false, eval e X.env) :: starEach es X.env := by rfl) (hpl : (backTo pos (starEach es X.env)).any (·.1) = false := by rfl) :
    PE X (.Call (.Name x p) (e :: es) [] pos) (tCall sp [] E0 t) := by
  obtain ⟨f, fd, ps, F, hm, kp, b⟩ := c.ex
  refine ⟨fun pins s σ H Q I h => wpAny_Call_Name_kw (ld_glob I hg hm ?_ hdb)⟩
  refine PySem.W.callWith_K (h₀ := X.base) I.ok.mod.kin kp (thn (ha.run pos pins s σ H _ I h) fun us s1 ⟨vs, H1, I1, r, q⟩ => ⟨I1.kIn, ?_⟩) he hpl
  have q : sp (vs ++ []) H1 Q E0 := q
  rw [List.append_nil] at q
  have hl : us.length = ps.length := (Paired.length r).symm.trans (F.len _ _ _ _ q)
  have bb := b s1 us I1.kIn (by rw [List.append_nil]; exact hl)
  rw [List.append_nil] at bb
  refine wpAny_call (codeAny_mono (F.run X.A X.stack s1 H1 ⟨us, []⟩ us vs Q E0 hgd (hr.mono hk) I1.env0 bb r q) fun rr s' hq => ?_)
  cases rr with
  | error _ => exact hq.elim
  | ok fl =>
    cases fl with
    | ret u => exact I1.after hq
    | next => exact hq.elim
    | brk => exact hq.elim
    | cont => exact hq.elim
end
end K46
end
section
set_option maxHeartbeats 4000000
/-! M14: lift and name, with what is told of a refusal. -/
namespace K46
open PySem Ja PyProof.Rows PySem.Spec
open L2 hiding CX0 E0 pass0 Fun del del_ne
open PySem.W (Frag findIn isFn fnIn)
open C8 (Cal Met Mak Def Fun CX0 E0 pass0 fnScope fnBody fnArgs fnScope_by cal0 met0 mak0 pe_c pe_mk pe_mt pe_mt0 pe_gc fn0)
def tMethA (C : Addr) (m : Str) (sp : Sp) (E : L2.St → XK) (ta : TE) (t : TA) : TE := fun σ H Q => ta σ H fun x H1 => ∃ a dx fs, x = .ref a ∧ H1 a = some (.ins C dx fs) ∧ fs.lookup m = none ∧ t σ H1 fun vs H2 => sp (x :: vs) H2 Q (E σ)
section
variable {X : Cx} {k j : Nat} {C : Addr} {m : Str} {sp : Sp} {pos apos : Pos} {e o : Expr} {es : List Expr} {ta : TE} {t : TA} {W : WX}
/-- a method that may raise, within a try -/
theorem pe_mxS {pl : Sem Bool} (c : MetX X.prog X.w X.K X.mg X.base k C m sp) (hr : Room j X.A) (hk : k ≤ j) (tk : Takes X W) (he : PE X o ta) (ha : PA X (e :: es) t)
    (hst : starEach (e :: es) X.env = (false, eval e X.env) :: starEach es X.env := by rfl) (hpl : (backTo pos (starEach es X.env)).any (·.1) = false := by rfl)
    (ht : eval (.Call (.Attribute o m apos) (e :: es) [] pos) X.env = (do
      let ov ← eval o X.env
      standAt apos.atName
      let (g, first) ← holding [ov] (getMethod ov m pl)
      callWith pos g first (backTo pos (starEach (e :: es) X.env)) (backToKw pos (keywordEach [] X.env))) := by rfl) :
    PE X (.Call (.Attribute o m apos) (e :: es) [] pos) (tMethA C m sp (WE W) ta t) := by
  obtain ⟨f, fd, ps, hc, hm, F, b⟩ := c.ex
  refine ⟨fun pins s σ H Q I h => PySem.W.methodCall_KW (pl := pl) (thn (he.run pins s σ H _ I h) fun u s1 hq => ?_) ht⟩
  obtain ⟨x, H1, I1, rx, a, dx, fs, rfl, ea, l, q⟩ := hq
  cases rx
  refine getmeth_ok I1 ea hc hm l (PySem.W.callWith_K (first := [.ref a]) (h₀ := X.base) I.ok.mod.kin hm.kp (thn (ha.run pos pins s1 σ H1 _ I1 q) fun us s2 hq2 => ?_) hst hpl)
  obtain ⟨vs, H2, I2, r, q2⟩ := hq2
  exact ⟨I2.kIn, run_fnS (us := .ref a :: us) (vs := .ref a :: vs) F (hr.mono hk) b (passAt tk σ) I2 (.cons rfl r) q2⟩
end
theorem call_reprk {X : Cx} {K : Frag} (h : X.K = K) (hg : X.A.guards = some []) (hu : X.A.units + 8 < cLine) : CallR X (.builtin "repr") (rRepr K) := by subst h; exact call_reprD hg hu
/-- a value's data, as long as nothing of it changes -/
structure Sho (K : Frag) (H : Hp) (v : V) (dat : PyData) : Prop where
  dp : ∀ H', Same H H' → Dp K H' v dat
  sh : dat.showable = true
  nd : dat.hasDict = false
  sz : dat.shown.length ≤ sizeLine
  de : dat.depth ≤ 4
  ok : PyData.strOk dat.shown = true
theorem Sho.same {K : Frag} {H H' : Hp} {v : V} {dat : PyData} (h : Sho K H v dat) (s : Same H H') : Sho K H' v dat := ⟨fun H2 s2 => h.dp H2 (s.trans s2), h.sh, h.nd, h.sz, h.de, h.ok⟩
def spLifted (K : Frag) (CR CV : Addr) : Sp := fun vs H Q E => ∃ (a rb rf : Addr) (n N : Int) (bs fs : List (List Int)) (names : List Int) (v : V) (o : Option (List V)), vs = [.ref a, v] ∧ Cv CR CV H a rb rf n N bs fs names ∧ Val H v o ∧ (∀ xs, o = some xs → xs.length < 1000) ∧
  (runV n bs o = false → ∃ dat, Sho K H v dat ∧ ∀ H' t, Same H H' → H' t = some (.tup [.str "none", .str dat.shown]) → Q (.ref t) H') ∧
  (∀ r : List Int, o = some (r.map V.int) → RunB n bs r → ∀ H' t, Same H H' → TupI H' t (liftL fs names r) → Q (.ref t) H')
def spNamedV (K : Frag) (CR CV : Addr) : Sp := fun vs H Q E => ∃ (a rb rf : Addr) (n N : Int) (bs fs : List (List Int)) (names : List Int) (v : V) (o : Option (List V)), vs = [.ref a, v] ∧ Cv CR CV H a rb rf n N bs fs names ∧ Val H v o ∧ (∀ xs, o = some xs → xs.length < 1000) ∧
  (runV N fs o = false → ∃ dat, Sho K H v dat ∧ ∀ H' t, Same H H' → H' t = some (.tup [.str "none", .str dat.shown]) → Q (.ref t) H') ∧
  (∀ r : List Int, o = some (r.map V.int) → RunB N fs r → ∀ H' t, Same H H' → TupI H' t (r.map (nm names)) → Q (.ref t) H')
section
variable {P : Program} {w : World} {K : Frag} {mg : Str → Option Value} {base : Heap} {f CR CV CN : Addr} {fd : FuncData}
theorem w_lifted (T : Tb mg) (N : NR P w K mg base CN) (c_lift : MetX P w K mg base 6 CV "lift" (spLift CR CV CN)) (F : Def K mg "_law_lifted" sLifted f fd) (b : Binds K fd ["_law_cover_here", "_law_value"] []) : CalG P w K mg base 7 "_law_lifted" (spLifted K CR CV) := by
  have sc : FnScope ["_law_cover_here", "_law_value", "e"] ["_law_cover_here", "_law_value"] (fnScope sLifted) := fnScope_by (by decide +kernel)
  refine calG F b sc (fun vs H Q E h => by obtain ⟨_, _, _, _, _, _, _, _, _, _, rfl, _⟩ := h; rfl) fun cdv A outer s H vs Q E hgd hr h => ?_
  obtain ⟨a, rb, rf, n, M, bs, fs, names, v, o, rfl, hC, hv, hl, kN, kR⟩ := h
  have hu : A.units + 3 + 8 < cLine := by have hu : A.units + 3 + 16 * 6 + 200 < cLine := hr.un; omega
  refine ⟨_, (pss_one (ps_try_as (i := 2) rfl rfl sc.nd rfl rfl ⟨rfl, by decide, .inl N.gl⟩ takes0 (fun W pn xe tk _ => pss_one (ps_ret (pe_mxS (pl := _) c_lift hr (by decide) tk (pv 0) (pa_cons (pv 1) pa_nil))))
    (fun a oe cls d pn hz hf => pss_one (ps_ret (pe_tup (pa_cons pe_str (pa_cons (pe_callB (call_reprk (K := K) rfl hgd hu) (by rfl) T.repr PyProof.Rows.boot_repr (pa_cons (pe_xf N.xf N.nf hz hf (pv 2)) pa_nil)) pa_nil))))))), ?_⟩
  obtain ⟨dx, ll, ld, h1, h2, h3⟩ := hC.ex
  refine ⟨_, rfl, a, dx, _, rfl, h1, by rfl, _, rfl, a, rb, rf, n, M, bs, fs, names, v, o, rfl, hC, hv, hl, fun hn d H1 s1 hd => ?_, fun r er hr' H1 t s1 ht => kR r er hr' H1 t s1 ht⟩
  obtain ⟨dat, sh, kk⟩ := kN hn
  refine ⟨true, N.te, fun _ a0 ha0 => ?_, fun z => by cases z⟩
  refine ⟨_, rfl, rfl, rfl, d, _, v, rfl, hd, by rfl, ?_⟩
  refine ⟨v, dat, rfl, sh.dp H1 s1, sh.sh, sh.nd, sh.sz, sh.de, by show 2 ≤ sizeLine; decide, fun t ht => ?_⟩
  exact kk _ t (s1.trans (same_new ht)) upd_same
theorem w_namedV (T : Tb mg) (N : NR P w K mg base CN) (c_name : MetX P w K mg base 6 CV "name" (spName CR CV CN)) (F : Def K mg "_law_named" sNamedL f fd) (b : Binds K fd ["_law_cover_here", "_law_value"] []) : CalG P w K mg base 7 "_law_named" (spNamedV K CR CV) := by
  have sc : FnScope ["_law_cover_here", "_law_value", "e"] ["_law_cover_here", "_law_value"] (fnScope sNamedL) := fnScope_by (by decide +kernel)
  refine calG F b sc (fun vs H Q E h => by obtain ⟨_, _, _, _, _, _, _, _, _, _, rfl, _⟩ := h; rfl) fun cdv A outer s H vs Q E hgd hr h => ?_
  obtain ⟨a, rb, rf, n, M, bs, fs, names, v, o, rfl, hC, hv, hl, kN, kR⟩ := h
  have hu : A.units + 3 + 8 < cLine := by have hu : A.units + 3 + 16 * 6 + 200 < cLine := hr.un; omega
  refine ⟨_, (pss_one (ps_try_as (i := 2) rfl rfl sc.nd rfl rfl ⟨rfl, by decide, .inl N.gl⟩ takes0 (fun W pn xe tk _ => pss_one (ps_ret (pe_mxS (pl := _) c_name hr (by decide) tk (pv 0) (pa_cons (pv 1) pa_nil))))
    (fun a oe cls d pn hz hf => pss_one (ps_ret (pe_tup (pa_cons pe_str (pa_cons (pe_callB (call_reprk (K := K) rfl hgd hu) (by rfl) T.repr PyProof.Rows.boot_repr (pa_cons (pe_xf N.xf N.nf hz hf (pv 2)) pa_nil)) pa_nil))))))), ?_⟩
  obtain ⟨dx, ll, ld, h1, h2, h3⟩ := hC.ex
  refine ⟨_, rfl, a, dx, _, rfl, h1, by rfl, _, rfl, a, rf, M, fs, names, v, o, rfl, hC.cn, hv, hl, fun hn d H1 s1 hd => ?_, fun r er hr' H1 t s1 ht => kR r er hr' H1 t s1 ht⟩
  obtain ⟨dat, sh, kk⟩ := kN hn
  refine ⟨true, N.te, fun _ a0 ha0 => ?_, fun z => by cases z⟩
  refine ⟨_, rfl, rfl, rfl, d, _, v, rfl, hd, by rfl, ?_⟩
  refine ⟨v, dat, rfl, sh.dp H1 s1, sh.sh, sh.nd, sh.sz, sh.de, by show 2 ≤ sizeLine; decide, fun t ht => ?_⟩
  exact kk _ t (s1.trans (same_new ht)) upd_same
end
end K46
end
section
set_option maxHeartbeats 4000000
/-! M15: values that are no runs. -/
namespace K46
open PySem Ja PyProof.Rows PySem.Spec
open L2 hiding CX0 E0 pass0 Fun del del_ne
open PySem.W (Frag findIn isFn fnIn)
open C8 (Cal Met Mak Def Fun CX0 E0 pass0 fnScope fnBody fnArgs fnScope_by cal0 met0 mak0 pe_c pe_mk pe_mt pe_mt0 pe_gc fn0)
def shB (d : PyData) : Bool := d.showable && !d.hasDict && decide (d.shown.length ≤ 1000) && decide (d.depth ≤ 4) && PyData.strOk d.shown
theorem shB_num : ((List.range 18).all fun n => shB (.tuple [.int 0, .int (n : Int)]) && shB (.tuple ((upto 0 n).map PyData.int))) = true := by decide +kernel
theorem shB_pair {n : Int} (h0 : 0 ≤ n) (h : n < 18) : shB (.tuple [.int 0, .int n]) = true := by
  have := List.all_eq_true.mp shB_num n.toNat (List.mem_range.mpr (by omega))
  have e : ((n.toNat : Nat) : Int) = n := by omega
  rw [Bool.and_eq_true, e] at this
  exact this.1
theorem shB_range {n : Nat} (h : n < 18) : shB (.tuple ((upto 0 n).map PyData.int)) = true := by
  have := List.all_eq_true.mp shB_num n (List.mem_range.mpr h)
  rw [Bool.and_eq_true] at this
  exact this.2
theorem Sho.by {K : Frag} {H : Hp} {v : V} {dat : PyData} (h : ∀ H', Same H H' → Dp K H' v dat) (s : shB dat = true) : Sho K H v dat := by
  unfold shB at s
  simp only [Bool.and_eq_true, Bool.not_eq_true', decide_eq_true_eq] at s
  obtain ⟨⟨⟨⟨s1, s2⟩, s3⟩, s4⟩, s5⟩ := s
  exact ⟨h, s1, s2, by rw [sizeLine_eq]; omega, s4, s5⟩
/-- a value that may be asked about and shown -/
structure Good (K : Frag) (H : Hp) (v : V) : Prop where
  ex : ∃ o dat, Val H v o ∧ (∀ xs, o = some xs → xs.length < 1000) ∧ Sho K H v dat
theorem Good.same {K : Frag} {H H' : Hp} {v : V} (h : Good K H v) (s : Same H H') : Good K H' v := by
  obtain ⟨o, dat, h1, h2, h3⟩ := h.ex
  exact ⟨o, dat, h1.same s, h2, h3.same s⟩
theorem good_non {K : Frag} {H : Hp} : Good K H .non := ⟨none, .none, .non, fun _ e => (by cases e), .by (fun _ _ => .non) (by decide +kernel)⟩
theorem good_zero {K : Frag} {H : Hp} : Good K H (.int 0) := ⟨none, .int 0, .int 0, fun _ e => (by cases e), .by (fun _ _ => .int 0) (by decide +kernel)⟩
theorem good_str {K : Frag} {H : Hp} : Good K H (.str "01") := ⟨none, .str "01", .str _, fun _ e => (by cases e), .by (fun _ _ => .str _) (by decide +kernel)⟩
theorem good_tup {K : Frag} {H : Hp} {t : Addr} {xs : List V} {ds : List PyData} (h : H t = some (.tup xs)) (ha : ∀ x ∈ xs, Atom x) (hl : xs.length < 1000) (hd : ∀ H', DpAll K H' xs ds) (s : shB (.tuple ds) = true) : Good K H (.ref t) :=
  ⟨some xs, .tuple ds, .tup h ha, fun _ e => (by cases e; exact hl), .by (fun H' s => .tup (SqT.of (s _ _ h)) (hd H')) s⟩
theorem good_lst {K : Frag} {H : Hp} {t : Addr} {xs : List V} {ds : List PyData} (h : H t = some (.lst xs)) (hd : ∀ H', DpAll K H' xs ds) (s : shB (.list ds) = true) : Good K H (.ref t) :=
  ⟨none, .list ds, .lst h, fun _ e => (by cases e), .by (fun H' s => .lst (SqL.of (s _ _ h)) (hd H')) s⟩
theorem atom2 {x y : V} (hx : Atom x) (hy : Atom y) : ∀ z ∈ [x, y], Atom z := fun z hz => by
  rcases List.mem_cons.mp hz with e | e
  · rw [e]; exact hx
  · rw [List.mem_singleton.mp e]; exact hy
theorem neS {K : Frag} {H : Hp} {t d : Addr} {x y : Str} {Q : VK} (hx : PyData.strOk x = true) (hy : PyData.strOk y = true) (h : H t = some (.tup [.str x, .str y])) (g : H d = some (.tup [.str x, .str y])) (q : Q (.bl false) H) : rNeD K (.ref t) (.ref d) H Q := by
  have sh : SeqAt.shaped (.tuple [.str x, .str y]) = true := by
    unfold SeqAt.shaped
    rw [Bool.and_eq_true]
    exact ⟨by simp [PyData.canLay0, PyData.canLayAll0, hx, hy], decide_eq_true (by simp [PyData.depth, PyData.depthAll])⟩
  refine ⟨.tuple [.str x, .str y], .tuple [.str x, .str y], .tup (SqT.of h) (.cons (.str _) (.cons (.str _) .nil)), .tup (SqT.of g) (.cons (.str _) (.cons (.str _) .nil)), sh, sh, ?_⟩
  have e : PyData.eqv (.tuple [.str x, .str y]) (.tuple [.str x, .str y]) = true := by
    show ((x == x) && ((y == y) && true)) = true
    simp
  rw [e]
  exact q
theorem runV_congr {n : Int} {rs ss : List (List Int)} (h : ∀ r, r ∈ rs ↔ r ∈ ss) (o : Option (List V)) : runV n rs o = runV n ss o := by
  cases o with
  | none => rfl
  | some xs =>
    have e : ∀ x y, memV rs x y = memV ss x y := fun x y => by
      unfold memV
      split
      · exact decide_eq_decide.mpr (h _)
      · rfl
    rw [runV_some, runV_some]
    simp only [e]
def spRefused (CR CV : Addr) : Sp := fun vs H Q _ => ∃ (a rb rf lr lj : Addr) (n N : Int) (bs fs rs js : List (List Int)) (names : List Int), vs = [.ref a, .int n, .ref lr, .int N, .ref lj] ∧ Cv CR CV H a rb rf n N bs fs names ∧ Rows H lr rs ∧ (∀ r, r ∈ rs ↔ r ∈ bs) ∧ Jr n rs ∧ Rows H lj js ∧ (∀ r, r ∈ js ↔ r ∈ fs) ∧ Jr N js ∧ n ≤ 17 ∧ N ≤ 17 ∧ ∀ H', Same H H' → Q (.bl true) H'
section
variable {P : Program} {w : World} {K : Frag} {mg : Str → Option Value} {base : Heap} {f CR CV CN : Addr} {fd : FuncData}
theorem w_refused (T : Tb mg) (c_isrun : Cal P w K mg base 2 "_law_is_run" spIsRunL []) (c_lifted : CalG P w K mg base 7 "_law_lifted" (spLifted K CR CV)) (c_named : CalG P w K mg base 7 "_law_named" (spNamedV K CR CV)) (F : Def K mg "_law_refused" sRefused f fd) (b : Binds K fd ["_law_cover_here", "_law_blocks", "_law_rows_here", "_law_many", "_law_jumps"] []) : CalG P w K mg base 8 "_law_refused" (spRefused CR CV) := by
  have sc : FnScope ["_law_cover_here", "_law_blocks", "_law_rows_here", "_law_many", "_law_jumps", "_law_values", "_law_value", "_law_due"] ["_law_cover_here", "_law_blocks", "_law_rows_here", "_law_many", "_law_jumps"] (fnScope sRefused) := fnScope_by (by decide +kernel)
  refine calG F b sc (fun vs H Q E h => by obtain ⟨_, _, _, _, _, _, _, _, _, _, _, _, rfl, _⟩ := h; rfl) fun cdv A outer s H vs Q E hgd hr h => ?_
  obtain ⟨a, rb, rf, lr, lj, n, N, bs, fs, rs, js, names, rfl, hC, hl, hrs, jr, hj, hjs, jf, n17, N17, k⟩ := h
  have n2 : 2 ≤ n := hC.rtb.n2
  have N2 : 2 ≤ N := hC.rtf.n2
  have hu : A.units + 3 + 8 < cLine := by have hu : A.units + 3 + 16 * 7 + 200 < cLine := hr.un; omega
  refine ⟨_, (pss_cons (ps_set (i := 5) sc.nd rfl (Or.inl rfl) (pe_lst (pa_cons pe_non (pa_cons pe_int (pa_cons (pe_tup pa_nil) (pa_cons (pe_tup (pa_cons pe_int pa_nil)) (pa_cons pe_str (pa_cons (pe_lst (pa_cons pe_int (pa_cons pe_int pa_nil))) (pa_cons (pe_tup (pa_cons pe_int (pa_cons pe_non pa_nil))) (pa_cons (pe_tup (pa_cons pe_int (pa_cons pe_int pa_nil))) (pa_cons (pe_tup (pa_cons pe_int (pa_cons pe_int pa_nil))) (pa_cons (pe_tup (pa_cons pe_bl (pa_cons pe_bl pa_nil))) (pa_cons (pe_tup (pa_cons pe_int (pa_cons (pe_op op_sub (pv 1) pe_int) pa_nil))) pa_nil)))))))))))))
  (pss_cons (ps_set (i := 5) sc.nd rfl (Or.inl rfl) (pe_op op_cat (pv 5) (pe_lst (pa_cons (pe_tup (pa_cons pe_int (pa_cons (pe_op op_sub (pv 3) pe_int) pa_nil))) (pa_cons (pe_tupRg rfl (by rfl) T.tuple (prg_1 (by rfl) T.range (pv 1))) (pa_cons (pe_tupRg rfl (by rfl) T.tuple (prg_1 (by rfl) T.range (pv 3))) pa_nil))))))
  (pss_cons (ps_for PassesOwn.never rfl (pi_list (pv 5)) (pg_name (i := 6) sc.nd rfl (Or.inl rfl)) (pss_cons (ps_set (i := 7) sc.nd rfl (Or.inl rfl) (pe_tup (pa_cons pe_str (pa_cons (pe_callB (call_reprD hgd hu) (by rfl) T.repr PyProof.Rows.boot_repr (pa_cons (pv 6) pa_nil)) pa_nil))))
  (pss_cons (ps_if (PW.pt (pw_and (pt_not (pt_val (pe_c c_isrun hr (by decide) rfl (pa_cons (pv 6) (pa_cons (pv 1) (pa_cons (pv 2) pa_nil)))))) (pw_and1 (pt_cmpR (op_neD hr.units) (pe_cG c_lifted hgd hr (by decide) rfl (pa_cons (pv 0) (pa_cons (pv 6) pa_nil))) (pv 7) (nomark _))))) (pss_one (ps_ret pe_bl)) pss_nil)
  (pss_one (ps_if (PW.pt (pw_and (pt_not (pt_val (pe_c c_isrun hr (by decide) rfl (pa_cons (pv 6) (pa_cons (pv 3) (pa_cons (pv 4) pa_nil)))))) (pw_and1 (pt_cmpR (op_neD hr.units) (pe_cG c_named hgd hr (by decide) rfl (pa_cons (pv 0) (pa_cons (pv 6) pa_nil))) (pv 7) (nomark _))))) (pss_one (ps_ret pe_bl)) pss_nil)))))
  (pss_one (ps_ret pe_bl))))), ?_⟩
  refine ⟨by show 0 ≤ sizeLine; omega, fun t1 h_t1 => ?_⟩
  have s_H1 : Same H (upd H t1 (.tup [])) := same_new h_t1
  have g_t1 : Good K (upd H t1 (.tup [])) (.ref t1) := good_tup upd_same (fun x hx => (by cases hx)) (by decide) (fun _ => .nil) (by decide +kernel)
  generalize upd H t1 (.tup []) = H1 at s_H1 g_t1 
  have SS := s_H1
  refine ⟨by show 1 ≤ sizeLine; decide, fun t2 h_t2 => ?_⟩
  have s_H2 : Same H1 (upd H1 t2 (.tup [.int 0])) := same_new h_t2
  have g_t2 : Good K (upd H1 t2 (.tup [.int 0])) (.ref t2) := good_tup upd_same (fun x hx => by rw [List.mem_singleton.mp hx]; exact .int 0) (by decide) (fun _ => .cons (.int 0) .nil) (by decide +kernel)
  have g_t1 := g_t1.same s_H2
  generalize upd H1 t2 (.tup [.int 0]) = H2 at s_H2 g_t2 g_t1
  have SS := SS.trans s_H2
  refine ⟨by show 2 ≤ sizeLine; decide, fun t3 h_t3 => ?_⟩
  have s_H3 : Same H2 (upd H2 t3 (.lst [.int 0, .int 1])) := same_new h_t3
  have g_t3 : Good K (upd H2 t3 (.lst [.int 0, .int 1])) (.ref t3) := good_lst upd_same (fun _ => .cons (.int 0) (.cons (.int 1) .nil)) (by decide +kernel)
  have g_t1 := g_t1.same s_H3
  have g_t2 := g_t2.same s_H3
  generalize upd H2 t3 (.lst [.int 0, .int 1]) = H3 at s_H3 g_t3 g_t1 g_t2
  have SS := SS.trans s_H3
  refine ⟨by show 2 ≤ sizeLine; decide, fun t4 h_t4 => ?_⟩
  have s_H4 : Same H3 (upd H3 t4 (.tup [.int 0, .non])) := same_new h_t4
  have g_t4 : Good K (upd H3 t4 (.tup [.int 0, .non])) (.ref t4) := good_tup upd_same (atom2 (.int 0) .non) (by decide) (fun _ => .cons (.int 0) (.cons .non .nil)) (by decide +kernel)
  have g_t1 := g_t1.same s_H4
  have g_t2 := g_t2.same s_H4
  have g_t3 := g_t3.same s_H4
  generalize upd H3 t4 (.tup [.int 0, .non]) = H4 at s_H4 g_t4 g_t1 g_t2 g_t3
  have SS := SS.trans s_H4
  refine ⟨by show 2 ≤ sizeLine; decide, fun t5 h_t5 => ?_⟩
  have s_H5 : Same H4 (upd H4 t5 (.tup [.int 0, .int 0])) := same_new h_t5
  have g_t5 : Good K (upd H4 t5 (.tup [.int 0, .int 0])) (.ref t5) := good_tup upd_same (atom2 (.int 0) (.int 0)) (by decide) (fun _ => .cons (.int 0) (.cons (.int 0) .nil)) (by decide +kernel)
  have g_t1 := g_t1.same s_H5
  have g_t2 := g_t2.same s_H5
  have g_t3 := g_t3.same s_H5
  have g_t4 := g_t4.same s_H5
  generalize upd H4 t5 (.tup [.int 0, .int 0]) = H5 at s_H5 g_t5 g_t1 g_t2 g_t3 g_t4
  have SS := SS.trans s_H5
  refine ⟨by show 2 ≤ sizeLine; decide, fun t6 h_t6 => ?_⟩
  have s_H6 : Same H5 (upd H5 t6 (.tup [.int 0, .int 99])) := same_new h_t6
  have g_t6 : Good K (upd H5 t6 (.tup [.int 0, .int 99])) (.ref t6) := good_tup upd_same (atom2 (.int 0) (.int 99)) (by decide) (fun _ => .cons (.int 0) (.cons (.int 99) .nil)) (by decide +kernel)
  have g_t1 := g_t1.same s_H6
  have g_t2 := g_t2.same s_H6
  have g_t3 := g_t3.same s_H6
  have g_t4 := g_t4.same s_H6
  have g_t5 := g_t5.same s_H6
  generalize upd H5 t6 (.tup [.int 0, .int 99]) = H6 at s_H6 g_t6 g_t1 g_t2 g_t3 g_t4 g_t5
  have SS := SS.trans s_H6
  refine ⟨by show 2 ≤ sizeLine; decide, fun t7 h_t7 => ?_⟩
  have s_H7 : Same H6 (upd H6 t7 (.tup [.bl false, .bl true])) := same_new h_t7
  have g_t7 : Good K (upd H6 t7 (.tup [.bl false, .bl true])) (.ref t7) := good_tup upd_same (atom2 (.bl false) (.bl true)) (by decide) (fun _ => .cons (.bl false) (.cons (.bl true) .nil)) (by decide +kernel)
  have g_t1 := g_t1.same s_H7
  have g_t2 := g_t2.same s_H7
  have g_t3 := g_t3.same s_H7
  have g_t4 := g_t4.same s_H7
  have g_t5 := g_t5.same s_H7
  have g_t6 := g_t6.same s_H7
  generalize upd H6 t7 (.tup [.bl false, .bl true]) = H7 at s_H7 g_t7 g_t1 g_t2 g_t3 g_t4 g_t5 g_t6
  have SS := SS.trans s_H7
  refine ⟨_, rfl, _, _, rfl, rfl, by show 2 ≤ sizeLine; decide, fun t8 h_t8 => ?_⟩
  have s_H8 : Same H7 (upd H7 t8 (.tup [.int 0, .int (n - 1)])) := same_new h_t8
  have g_t8 : Good K (upd H7 t8 (.tup [.int 0, .int (n - 1)])) (.ref t8) := good_tup upd_same (atom2 (.int 0) (.int (n - 1))) (by show 2 < 1000; decide) (fun _ => .cons (.int 0) (.cons (.int (n - 1)) .nil)) (shB_pair (by omega) (by omega))
  have g_t1 := g_t1.same s_H8
  have g_t2 := g_t2.same s_H8
  have g_t3 := g_t3.same s_H8
  have g_t4 := g_t4.same s_H8
  have g_t5 := g_t5.same s_H8
  have g_t6 := g_t6.same s_H8
  have g_t7 := g_t7.same s_H8
  generalize upd H7 t8 (.tup [.int 0, .int (n - 1)]) = H8 at s_H8 g_t8 g_t1 g_t2 g_t3 g_t4 g_t5 g_t6 g_t7
  have SS := SS.trans s_H8
  refine ⟨by show 11 ≤ sizeLine; decide, fun L1 h_L1 => ?_⟩
  have s_H9 : Same H8 (upd H8 L1 (.lst [.non, .int 0, .ref t1, .ref t2, .str "01", .ref t3, .ref t4, .ref t5, .ref t6, .ref t7, .ref t8])) := same_new h_L1
  have e_L1 : (upd H8 L1 (.lst [.non, .int 0, .ref t1, .ref t2, .str "01", .ref t3, .ref t4, .ref t5, .ref t6, .ref t7, .ref t8])) L1 = some (.lst [.non, .int 0, .ref t1, .ref t2, .str "01", .ref t3, .ref t4, .ref t5, .ref t6, .ref t7, .ref t8]) := upd_same
  have g_t1 := g_t1.same s_H9
  have g_t2 := g_t2.same s_H9
  have g_t3 := g_t3.same s_H9
  have g_t4 := g_t4.same s_H9
  have g_t5 := g_t5.same s_H9
  have g_t6 := g_t6.same s_H9
  have g_t7 := g_t7.same s_H9
  have g_t8 := g_t8.same s_H9
  generalize upd H8 L1 (.lst [.non, .int 0, .ref t1, .ref t2, .str "01", .ref t3, .ref t4, .ref t5, .ref t6, .ref t7, .ref t8]) = H9 at s_H9 e_L1 g_t1 g_t2 g_t3 g_t4 g_t5 g_t6 g_t7 g_t8
  have SS := SS.trans s_H9
  refine ⟨_, rfl, _, rfl, _, _, rfl, rfl, by show 2 ≤ sizeLine; decide, fun t9 h_t9 => ?_⟩
  have s_HA : Same H9 (upd H9 t9 (.tup [.int 0, .int (N - 1)])) := same_new h_t9
  have g_t9 : Good K (upd H9 t9 (.tup [.int 0, .int (N - 1)])) (.ref t9) := good_tup upd_same (atom2 (.int 0) (.int (N - 1))) (by show 2 < 1000; decide) (fun _ => .cons (.int 0) (.cons (.int (N - 1)) .nil)) (shB_pair (by omega) (by omega))
  have g_t1 := g_t1.same s_HA
  have g_t2 := g_t2.same s_HA
  have g_t3 := g_t3.same s_HA
  have g_t4 := g_t4.same s_HA
  have g_t5 := g_t5.same s_HA
  have g_t6 := g_t6.same s_HA
  have g_t7 := g_t7.same s_HA
  have g_t8 := g_t8.same s_HA
  generalize upd H9 t9 (.tup [.int 0, .int (N - 1)]) = HA at s_HA g_t9 g_t1 g_t2 g_t3 g_t4 g_t5 g_t6 g_t7 g_t8
  have SS := SS.trans s_HA
  have e_L1 := s_HA _ _ e_L1
  refine ⟨_, rfl, _, rfl, RgOk.of_le (by omega) (by omega) (by omega) (by omega), fun tA h_tA => ?_⟩
  have s_HB : Same HA (upd HA tA (.tup (rgV 0 n))) := same_new h_tA
  have g_tA : Good K (upd HA tA (.tup (rgV 0 n))) (.ref tA) := good_tup (ds := (upto 0 n.toNat).map PyData.int) upd_same (fun x hx => by rw [rgV_upto] at hx; exact atomI _ x hx) (by rw [rgV_length]; omega) (fun H' => by rw [rgV_upto]; exact dpI _) (shB_range (by omega))
  have g_t1 := g_t1.same s_HB
  have g_t2 := g_t2.same s_HB
  have g_t3 := g_t3.same s_HB
  have g_t4 := g_t4.same s_HB
  have g_t5 := g_t5.same s_HB
  have g_t6 := g_t6.same s_HB
  have g_t7 := g_t7.same s_HB
  have g_t8 := g_t8.same s_HB
  have g_t9 := g_t9.same s_HB
  generalize upd HA tA (.tup (rgV 0 n)) = HB at s_HB g_tA g_t1 g_t2 g_t3 g_t4 g_t5 g_t6 g_t7 g_t8 g_t9
  have SS := SS.trans s_HB
  have e_L1 := s_HB _ _ e_L1
  refine ⟨_, rfl, _, rfl, RgOk.of_le (by omega) (by omega) (by omega) (by omega), fun tB h_tB => ?_⟩
  have s_HC : Same HB (upd HB tB (.tup (rgV 0 N))) := same_new h_tB
  have g_tB : Good K (upd HB tB (.tup (rgV 0 N))) (.ref tB) := good_tup (ds := (upto 0 N.toNat).map PyData.int) upd_same (fun x hx => by rw [rgV_upto] at hx; exact atomI _ x hx) (by rw [rgV_length]; omega) (fun H' => by rw [rgV_upto]; exact dpI _) (shB_range (by omega))
  have g_t1 := g_t1.same s_HC
  have g_t2 := g_t2.same s_HC
  have g_t3 := g_t3.same s_HC
  have g_t4 := g_t4.same s_HC
  have g_t5 := g_t5.same s_HC
  have g_t6 := g_t6.same s_HC
  have g_t7 := g_t7.same s_HC
  have g_t8 := g_t8.same s_HC
  have g_t9 := g_t9.same s_HC
  have g_tA := g_tA.same s_HC
  generalize upd HB tB (.tup (rgV 0 N)) = HC at s_HC g_tB g_t1 g_t2 g_t3 g_t4 g_t5 g_t6 g_t7 g_t8 g_t9 g_tA
  have SS := SS.trans s_HC
  have e_L1 := s_HC _ _ e_L1
  refine ⟨by show 3 ≤ sizeLine; decide, fun Lb h_Lb => ?_⟩
  have s_HD : Same HC (upd HC Lb (.lst [.ref t9, .ref tA, .ref tB])) := same_new h_Lb
  have e_Lb : (upd HC Lb (.lst [.ref t9, .ref tA, .ref tB])) Lb = some (.lst [.ref t9, .ref tA, .ref tB]) := upd_same
  have g_t1 := g_t1.same s_HD
  have g_t2 := g_t2.same s_HD
  have g_t3 := g_t3.same s_HD
  have g_t4 := g_t4.same s_HD
  have g_t5 := g_t5.same s_HD
  have g_t6 := g_t6.same s_HD
  have g_t7 := g_t7.same s_HD
  have g_t8 := g_t8.same s_HD
  have g_t9 := g_t9.same s_HD
  have g_tA := g_tA.same s_HD
  have g_tB := g_tB.same s_HD
  generalize upd HC Lb (.lst [.ref t9, .ref tA, .ref tB]) = HD at s_HD e_Lb g_t1 g_t2 g_t3 g_t4 g_t5 g_t6 g_t7 g_t8 g_t9 g_tA g_tB
  have SS := SS.trans s_HD
  have e_L1 := s_HD _ _ e_L1
  refine ⟨L1, Lb, _, _, rfl, rfl, e_L1, e_Lb, by show 14 ≤ sizeLine; decide, fun Lc h_Lc => ?_⟩
  obtain ⟨vals, ev⟩ : ∃ vals : List V, vals = [.non, .int 0, .ref t1, .ref t2, .str "01", .ref t3, .ref t4, .ref t5, .ref t6, .ref t7, .ref t8] ++ [.ref t9, .ref tA, .ref tB] := ⟨_, rfl⟩
  have good : ∀ v ∈ vals, Good K HD v := by
    subst ev
    intro v hv
    simp only [List.cons_append, List.nil_append, List.mem_cons, List.not_mem_nil, or_false] at hv
    rcases hv with rfl | rfl | rfl | rfl | rfl | rfl | rfl | rfl | rfl | rfl | rfl | rfl | rfl | rfl
    · exact good_non
    · exact good_zero
    · exact g_t1
    · exact g_t2
    · exact good_str
    · exact g_t3
    · exact g_t4
    · exact g_t5
    · exact g_t6
    · exact g_t7
    · exact g_t8
    · exact g_t9
    · exact g_tA
    · exact g_tB
  rw [← ev]
  have sE : Same HD (upd HD Lc (.lst vals)) := same_new h_Lc
  have eE : (upd HD Lc (.lst vals)) Lc = some (.lst vals) := upd_same
  show tSeq _ _ _ _ (upd HD Lc (.lst vals))
  generalize upd HD Lc (.lst vals) = HE at sE eE
  have sH := SS.trans sE
  refine ⟨_, rfl, Lc, rfl, ⟨_, SqL.of eE⟩, for_it walk_list (fun i σ H' => (∃ v6 v7, σ = [some (.ref a), some (.int n), some (.ref lr), some (.int N), some (.ref lj), some (.ref Lc), v6, v7]) ∧ Same HE H') ⟨⟨none, none, rfl⟩, Same.refl _⟩ (fun i σ H' _ h => SqL.of (h.2 _ _ eE)) ?_ ?_⟩
  · rintro i v σ _ HF hi ⟨⟨v6, v7, rfl⟩, sF⟩ ⟨rfl, hx⟩
    obtain ⟨o, dat, hv, ho, sho⟩ := ((good v (List.mem_of_getElem? hx)).same sE).same sF |>.ex
    refine ⟨_, rfl, v, dat, rfl, sho.dp HF (Same.refl _), sho.sh, sho.nd, sho.sz, sho.de, by show 2 ≤ sizeLine; decide, fun d hd => ?_⟩
    have sG : Same HF (upd HF d (.tup [.str "none", .str dat.shown])) := same_new hd
    have eG : (upd HF d (.tup [.str "none", .str dat.shown])) d = some (.tup [.str "none", .str dat.shown]) := upd_same
    generalize upd HF d (.tup [.str "none", .str dat.shown]) = HG at sG eG
    have sHG := (sH.trans sF).trans sG
    refine ⟨_, rfl, _, rfl, _, rfl, lr, v, n, rs, o, rfl, hl.same sHG, jr, hv.same sG, ho, fun HI sI => ⟨_, rfl, ifb (fun c => ?_) (fun c => ?_)⟩⟩
    · have c' : runV n bs o = false := by rw [← runV_congr hrs]; simpa using c
      refine ⟨_, rfl, _, rfl, a, rb, rf, n, N, bs, fs, names, v, o, rfl, (hC.same sHG).same sI, (hv.same sG).same sI, ho, fun _ => ⟨dat, (sho.same sG).same sI, fun HJ t sJ ht => ?_⟩, fun r er hr' => absurd (show runV n bs o = true by rw [er]; exact hr') (by rw [c']; exact Bool.false_ne_true)⟩
      refine ⟨_, rfl, neS (by decide +kernel) sho.ok ht (sJ _ _ (sI _ _ eG)) ⟨_, rfl, iff rfl ?_⟩⟩
      have sHJ := (sHG.trans sI).trans sJ
      have eJ := sJ _ _ (sI _ _ eG)
      have sGJ := sI.trans sJ
      refine ⟨_, rfl, _, rfl, _, rfl, lj, v, N, js, o, rfl, hj.same sHJ, jf, (hv.same sG).same sGJ, ho, fun HK sK => ⟨_, rfl, ifb (fun c => ?_) (fun c => ?_)⟩⟩
      · have c' : runV N fs o = false := by rw [← runV_congr hjs]; simpa using c
        refine ⟨_, rfl, _, rfl, a, rb, rf, n, N, bs, fs, names, v, o, rfl, (hC.same sHJ).same sK, ((hv.same sG).same sGJ).same sK, ho, fun _ => ⟨dat, ((sho.same sG).same sGJ).same sK, fun HM t sM ht => ?_⟩, fun r er hr' => absurd (show runV N fs o = true by rw [er]; exact hr') (by rw [c']; exact Bool.false_ne_true)⟩
        refine ⟨_, rfl, neS (by decide +kernel) sho.ok ht (sM _ _ (sK _ _ eJ)) ⟨_, rfl, iff rfl ?_⟩⟩
        exact ⟨⟨_, _, rfl⟩, (((sF.trans sG).trans sGJ).trans sK).trans sM⟩
      · exact ⟨⟨_, _, rfl⟩, ((sF.trans sG).trans sGJ).trans sK⟩
    · have sHJ := sHG.trans sI
      have eJ := sI _ _ eG
      have sGJ := sI
      refine ⟨_, rfl, _, rfl, _, rfl, lj, v, N, js, o, rfl, hj.same sHJ, jf, (hv.same sG).same sGJ, ho, fun HK sK => ⟨_, rfl, ifb (fun c => ?_) (fun c => ?_)⟩⟩
      · have c' : runV N fs o = false := by rw [← runV_congr hjs]; simpa using c
        refine ⟨_, rfl, _, rfl, a, rb, rf, n, N, bs, fs, names, v, o, rfl, (hC.same sHJ).same sK, ((hv.same sG).same sGJ).same sK, ho, fun _ => ⟨dat, ((sho.same sG).same sGJ).same sK, fun HM t sM ht => ?_⟩, fun r er hr' => absurd (show runV N fs o = true by rw [er]; exact hr') (by rw [c']; exact Bool.false_ne_true)⟩
        refine ⟨_, rfl, neS (by decide +kernel) sho.ok ht (sM _ _ (sK _ _ eJ)) ⟨_, rfl, iff rfl ?_⟩⟩
        exact ⟨⟨_, _, rfl⟩, (((sF.trans sG).trans sGJ).trans sK).trans sM⟩
      · exact ⟨⟨_, _, rfl⟩, ((sF.trans sG).trans sGJ).trans sK⟩
  · rintro σ HF ⟨⟨v6, v7, rfl⟩, sF⟩
    exact k HF (sH.trans sF)
end
end K46
end
section
set_option maxHeartbeats 4000000
/-! M16: the runs, by the law. -/
namespace K46
open PySem Ja PyProof.Rows PySem.Spec
open L2 hiding CX0 E0 pass0 Fun del del_ne
open PySem.W (Frag findIn isFn fnIn)
open C8 (Cal Met Mak Def Fun CX0 E0 pass0 fnScope fnBody fnArgs fnScope_by cal0 met0 mak0 pe_c pe_mk pe_mt pe_mt0 pe_gc fn0)
theorem neT {K : Frag} {H : Hp} {t u : Addr} {r s : List Int} {Q : VK} (ht : TupI H t r) (hu : TupI H u s) (q : Q (.bl (!decide (r = s))) H) : rNeD K (.ref t) (.ref u) H Q :=
  ⟨_, _, ht.dp, hu.dp, shI r, shI s, by rw [eqv_dI]; exact q⟩
def spRunsRight (CR CV : Addr) : Sp := fun vs H Q _ => ∃ (a rb rf ln lj lu : Addr) (n : Int) (bs fs js us : List (List Int)) (names : List Int), vs = [.ref a, .ref ln, .ref lj, .ref lu] ∧ Cv CR CV H a rb rf n names.length bs fs names ∧ IntL H ln names ∧ Rows H lj js ∧ Rows H lu us ∧ CovJ n bs names js ∧
  (∀ r ∈ us, RunB n bs r ∧ r.length < 1000 ∧ lawLift js names r = liftL fs names r) ∧ us.length ≤ 100000 ∧ (∀ r ∈ restsG js (names.length - 1) 20 0, r ∈ us.map (liftL fs names)) ∧ (restsG js (names.length - 1) 20 0).length = us.length ∧ ∀ H', Same H H' → Q (.bl true) H'
section
variable {P : Program} {w : World} {K : Frag} {mg : Str → Option Value} {base : Heap} {f CR CV CN : Addr} {fd : FuncData}
theorem w_runsRight (T : Tb mg) (c_lift : Cal P w K mg base 1 "_law_lift" spLawLift []) (c_lifted : CalG P w K mg base 7 "_law_lifted" (spLifted K CR CV)) (c_named : CalG P w K mg base 7 "_law_named" (spNamedV K CR CV)) (c_rests : Cal P w K mg base 21 "_law_rests" (spRests 21) []) (F : Def K mg "_law_runs_right" sRunsRight f fd) (b : Binds K fd ["_law_cover_here", "_law_names", "_law_jumps", "_law_runs"] []) : CalG P w K mg base 22 "_law_runs_right" (spRunsRight CR CV) := by
  have sc : FnScope ["_law_cover_here", "_law_names", "_law_jumps", "_law_runs", "_law_lifts", "_law_run_here", "_law_fine", "_law_every", "_law_lacking"] ["_law_cover_here", "_law_names", "_law_jumps", "_law_runs"] (fnScope sRunsRight) := fnScope_by (by decide +kernel)
  refine calG F b sc (fun vs H Q E h => by obtain ⟨_, _, _, _, _, _, _, _, _, _, _, _, rfl, _⟩ := h; rfl) fun cdv A outer s H vs Q E hgd hr h => ?_
  obtain ⟨a, rb, rf, ln, lj, lu, n, bs, fs, js, us, names, rfl, hC, hn, hj, hu, g, ok, ulen, hev, hel, k⟩ := h
  refine ⟨_, (pss_cons (ps_set (i := 4) sc.nd rfl (Or.inr rfl) (pe_lst pa_nil))
  (pss_cons (ps_for PassesOwn.never rfl (pi_list (pv 3)) (pg_name (i := 5) sc.nd rfl (Or.inl rfl)) (pss_cons (ps_set (i := 6) sc.nd rfl (Or.inl rfl) (pe_c c_lift hr (by decide) rfl (pa_cons (pv 1) (pa_cons (pv 2) (pa_cons (pv 5) pa_nil)))))
  (pss_cons (ps_expr (pe_bm PySem.F.plainAttrs_list PySem.F.slot_list_append PySem.F.type_list_append mt_append (pv 4) (pa_cons (pv 6) pa_nil)))
  (pss_one (ps_if (PW.pt (pw_or (pt_cmpR (op_neD hr.units) (pe_cG c_lifted hgd hr (by decide) rfl (pa_cons (pv 0) (pa_cons (pv 5) pa_nil))) (pv 6) (nomark _)) (pw_or1 (pt_cmpR (op_neD hr.units) (pe_cG c_named hgd hr (by decide) rfl (pa_cons (pv 0) (pa_cons (pv 6) pa_nil))) (pv 5) (nomark _))))) (pss_one (ps_ret pe_bl)) pss_nil)))))
  (pss_cons (ps_set (i := 7) sc.nd rfl (Or.inl rfl) (pe_c c_rests hr (by decide) rfl (pa_cons pe_int (pa_cons (pe_op op_sub (pe_callB call_len (by rfl) T.len PySem.boot_len (pa_cons (pv 1) pa_nil)) pe_int) (pa_cons (pv 2) pa_nil)))))
  (pss_cons (ps_setLc (i := 8) (own := [("_law_run_here", 5)]) rfl sc.nd rfl rfl (sw_true rfl rfl rfl (by decide +kernel)) (pi_list (pv 7)) (blkOk_by (own := [("_law_run_here", 5)]) (N := ["_law_cover_here", "_law_names", "_law_jumps", "_law_runs", "_law_lifts", "_law_run_here", "_law_fine", "_law_every", "_law_lacking"]) (sc := fnScope sRunsRight) (by decide +kernel)) (fun _ _ _ _ _ => (pg_name (i := 5) sc.nd rfl (Or.inl rfl))) (fun _ _ _ _ _ => pts_one (pt_cmpR (notInDk (K := K) rfl (hu65 hr)) (pv 5) (pv 4) (by rfl))) (fun _ _ _ _ _ => (pv 5)))
  (pss_one (ps_ret (pe_and (pe_cmpR (op_eqD hr.units) (pv 8) (pe_lst pa_nil) (nomark _)) (pe_one (pe_cmpR op_eq (pe_callB call_len (by rfl) T.len PySem.boot_len (pa_cons (pv 7) pa_nil)) (pe_callB call_len (by rfl) T.len PySem.boot_len (pa_cons (pv 4) pa_nil)) (nomark _)))))))))), ?_⟩
  have jr := hC.rtf.jr
  have jb := hC.rtb.jr
  have n2 := hC.rtb.n2
  have N2 := hC.rtf.n2
  refine ⟨Nat.zero_le _, fun q hq => ?_⟩
  obtain ⟨tu, eu, pu⟩ := hu.ex
  have lu1 := Paired.length pu
  refine ⟨_, rfl, lu, rfl, ⟨_, SqL.of (same_new hq _ _ eu)⟩, for_it walk_list (fun i σ H' => (∃ v5 v6, σ = [some (.ref a), some (.ref ln), some (.ref lj), some (.ref lu), some (.ref q), v5, v6, none, none]) ∧ Same H H' ∧ Rows H' q ((us.take i).map (liftL fs names))) ⟨⟨none, none, rfl⟩, same_new hq, Rows.nil upd_same⟩ (fun i σ H' _ h => SqL.of (h.2.1 _ _ eu)) ?_ ?_⟩
  · rintro i x σ _ H2 hi ⟨⟨v5, v6, rfl⟩, s2, rows⟩ ⟨rfl, hx⟩
    rw [List.length_map] at hi
    have ei : us[i]? = some us[i] := List.getElem?_eq_getElem (by omega)
    obtain ⟨t, rfl, hm⟩ := at_item pu ei hx
    obtain ⟨o1, o2, o3⟩ := ok us[i] (List.mem_of_getElem? ei)
    obtain ⟨r1, r2, r3, r4⟩ := runB_iff.mp o1
    refine ⟨_, rfl, _, rfl, _, rfl, ln, lj, t, names, us[i], js, rfl, s2 _ _ hn, hj.same s2, g.jr, by have := g.jl; omega, s2 _ _ hm, r1, o2, fun H3 u s3 hu3 => ?_⟩
    rw [o3] at hu3
    have s23 := s2.trans s3
    obtain ⟨tq, eq, pq⟩ := (rows.same s3).ex
    have lq := Paired.length pq
    rw [List.length_map, List.length_take] at lq
    refine ⟨_, rfl, .inl ⟨rfl, _, SqL.of eq⟩, _, rfl, q, _, _, rfl, rfl, eq, by rw [List.length_map, sizeLine_eq]; omega, ?_⟩
    have s4 : Same H (upd H3 q (.lst (tq.map V.ref ++ [V.ref u]))) := same_upd s23 hq
    have u4 : TupI (upd H3 q (.lst (tq.map V.ref ++ [V.ref u]))) u (liftL fs names us[i]) := by
      show upd _ _ _ _ = _
      rw [upd_ne (fun w => by rw [w] at hu3; cases hu3.symm.trans eq)]; exact hu3
    have q4 : Rows (upd H3 q (.lst (tq.map V.ref ++ [V.ref u]))) q ((us.take (i + 1)).map (liftL fs names)) := by
      rw [tk_more ei, List.map_append]
      refine ⟨tq ++ [u], by rw [upd_same, List.map_append]; rfl, ?_⟩
      refine Paired.mapP (Paired.snoc pq hu3) fun a r y => ?_
      show upd _ _ _ _ = _
      rw [upd_ne (fun w => by rw [w] at y; cases y.symm.trans eq)]
      exact y
    generalize upd H3 q (.lst (tq.map V.ref ++ [V.ref u])) = H4 at s4 u4 q4
    have hm4 := s4 _ _ hm
    refine ⟨_, rfl, _, rfl, a, rb, rf, n, names.length, bs, fs, names, .ref t, some (us[i].map V.int), rfl, hC.same s4, .tup hm4 (atomI _), fun xs e => by cases e; rw [List.length_map]; exact o2, fun z => absurd (show runV n bs (some (us[i].map V.int)) = true from o1) (by rw [z]; exact Bool.false_ne_true), fun r er hr' H5 t5 s5 ht5 => ?_⟩
    have er : r = us[i] := (List.map_inj_right (f := V.int) (fun _ _ e => V.int.inj e) |>.mp (Option.some.inj er)).symm
    subst er
    refine ⟨_, rfl, neT ht5 (s5 _ _ u4) ⟨_, rfl, iff (by simp) ?_⟩⟩
    have lr := lift_run hC.cov jb jr n2 N2 o1
    have ll := lift_len hC.cov jb jr N2 o1
    refine ⟨_, rfl, _, rfl, a, rb, rf, n, names.length, bs, fs, names, .ref u, some ((liftL fs names us[i]).map V.int), rfl, (hC.same s4).same s5, .tup (s5 _ _ u4) (atomI _), fun xs e => by cases e; rw [List.length_map, ll]; exact o2, fun z => absurd (show runV names.length fs (some ((liftL fs names us[i]).map V.int)) = true from lr) (by rw [z]; exact Bool.false_ne_true), fun r er hr' H6 t6 s6 ht6 => ?_⟩
    have er : r = liftL fs names us[i] := (List.map_inj_right (f := V.int) (fun _ _ e => V.int.inj e) |>.mp (Option.some.inj er)).symm
    subst er
    rw [(lift_is hC.cov jb jr (by omega) o1).mp] at ht6
    refine ⟨_, rfl, neT ht6 (s6 _ _ (s5 _ _ hm4)) ⟨_, rfl, iff (by simp) ?_⟩⟩
    exact ⟨⟨_, _, rfl⟩, (s4.trans s5).trans s6, (q4.same s5).same s6⟩
  · rintro σ H2 ⟨⟨v5, v6, rfl⟩, s2, rows⟩
    rw [List.length_map, lu1, List.take_length] at rows
    refine ⟨_, rfl, _, (names.map V.int).length, rfl, .inl ⟨_, SqL.of (s2 _ _ hn), rfl⟩, _, _, rfl, rfl, _, rfl, ?_⟩
    rw [List.length_map]
    have g17 := g.l17
    have g2 := g.l2
    refine ⟨lj, 0, names.length - 1, js, rfl, hj.same s2, by omega, by omega, by show (names.length : Int) - 1 - 0 ≤ (20 : Int); omega, by omega, fun H3 e s3 he => ?_⟩
    obtain ⟨te, ee, pe⟩ := he.ex
    have le := Paired.length pe
    have rows3 := rows.same s3
    refine ⟨_, rfl, e, rfl, ⟨_, SqL.of ee⟩, fun D hD => ?_⟩
    have hl2 : (restsG js (names.length - 1) 20 0).length = (te.map V.ref).length := by rw [List.length_map, le]
    refine lc_fm (ms := restsG js (names.length - 1) 20 0) (by rw [hl2]; exact walk_list) (fun s => !decide (s ∈ us.map (liftL fs names))) (fun s => s) (fun H v r => ∃ t, v = .ref t ∧ TupI H t r) (fun H H' v r nl ⟨t, e, q⟩ => ⟨t, e, nl _ _ q (fun xs z => by cases z)⟩) hD (by rw [hel, sizeLine_eq]; omega) (fun H' s => SqL.of (s _ _ ee)) ?_ ?_
    · rintro j x y _ H4 Nx hjj s4 ⟨rfl, hx⟩ kF kT
      obtain ⟨t, rfl, hm⟩ := at_item pe hjj hx
      refine ⟨rfl, ?_⟩
      refine ⟨_, rfl, _, rfl, notInR (s4 _ _ hm) (rows3.same s4) ⟨_, rfl, ifb (fun c => ?_) (fun c => ?_)⟩⟩
      · exact ⟨_, rfl, kT c _ _ (Same.refl _) ⟨t, rfl, s4 _ _ hm⟩⟩
      · exact kF c _ (Same.refl _)
    · intro H4 ys s4 hD4 hp
      rw [List.map_id'] at hp
      have e0 : (restsG js (names.length - 1) 20 0).filter (fun s => !decide (s ∈ us.map (liftL fs names))) = [] := filt_nil.mpr fun x hx => by simpa using hev x hx
      rw [e0] at hp
      have rowsD := Rows.of hD4 hp
      refine ⟨_, rfl, Nat.zero_le _, fun z hz => ?_⟩
      refine eqR (rowsD.same (same_new hz)) (Rows.nil upd_same) ⟨_, rfl, ift (by simp) ?_⟩
      have s5 := ((s2.trans s3).trans s4).trans (same_new (o := .lst []) hz)
      obtain ⟨tq, eq, pq⟩ := (rows3.same s4).same (same_new (o := .lst []) hz) |>.ex
      have lq := Paired.length pq
      rw [List.length_map] at lq
      refine ⟨_, rfl, _, (te.map V.ref).length, rfl, .inl ⟨_, SqL.of (same_new hz _ _ (s4 _ _ ee)), rfl⟩, _, rfl, _, (tq.map V.ref).length, rfl, .inl ⟨_, SqL.of eq, rfl⟩, rfl, ?_⟩
      have ez : decide (V.int ((te.map V.ref).length : Nat) = V.int ((tq.map V.ref).length : Nat)) = true := by
        rw [vint, List.length_map, List.length_map, le, lq, hel]
        exact decide_eq_true rfl
      rw [ez]
      exact k _ s5
end
end K46
end
section
set_option maxHeartbeats 4000000
/-! P3: counts of lifted runs, in plain Lean. -/
namespace K46
open PySem Ja
open L2 hiding CX0 E0 pass0 Fun
theorem cntF_perm {a b : List (List Int × Int)} (p : a.Perm b) (j : List Int) : cntF a j = cntF b j := by
  induction p with
  | nil => rfl
  | cons x _ ih => rw [cntF, cntF, ih]
  | swap x y l => rw [cntF, cntF, cntF, cntF]; omega
  | trans _ _ h1 h2 => exact h1.trans h2
theorem sumT_add (names : List Int) (j : List Int) (f g : List Int → Int) : ∀ fs : List (List Int), sumF names (tabN fs fun s => f s + g s) j = sumF names (tabN fs f) j + sumF names (tabN fs g) j
  | [] => rfl
  | s :: fs => by
    show (if j = [nm names (j0 s), nm names (j1 s)] then f s + g s else 0) + sumF names (tabN fs fun s => f s + g s) j = ((if j = [nm names (j0 s), nm names (j1 s)] then f s else 0) + sumF names (tabN fs f) j) + ((if j = [nm names (j0 s), nm names (j1 s)] then g s else 0) + sumF names (tabN fs g) j)
    rw [sumT_add names j f g fs]
    split <;> omega
theorem sumT_zero (names : List Int) (j : List Int) : ∀ fs : List (List Int), sumF names (tabN fs fun _ => 0) j = 0
  | [] => rfl
  | s :: fs => by
    show (if j = [nm names (j0 s), nm names (j1 s)] then (0 : Int) else 0) + sumF names (tabN fs fun _ => 0) j = 0
    rw [sumT_zero names j fs]
    split <;> rfl
theorem sumT_one (names : List Int) (j : List Int) (c : Int) (s0 : List Int) : ∀ {fs : List (List Int)}, fs.Nodup → s0 ∈ fs → sumF names (tabN fs fun s => if s = s0 then c else 0) j = if j = [nm names (j0 s0), nm names (j1 s0)] then c else 0
  | s :: fs, nd, h => by
    obtain ⟨n1, n2⟩ := List.nodup_cons.mp nd
    show (if j = [nm names (j0 s), nm names (j1 s)] then (if s = s0 then c else 0) else 0) + sumF names (tabN fs fun s => if s = s0 then c else 0) j = _
    by_cases e : s = s0
    · subst e
      have : tabN fs (fun t => if t = s then c else 0) = tabN fs fun _ => 0 := tab_congr fun t ht => if_neg fun z => n1 (by rw [← z]; exact ht)
      rw [this, sumT_zero, if_pos rfl]
      omega
    · rcases List.mem_cons.mp h with z | z
      · exact absurd z.symm e
      · rw [sumT_one names j c s0 n2 z, if_neg e]
        split <;> omega
theorem cntS_sum (names : List Int) (j : List Int) (c : Int) {fs : List (List Int)} (nd : fs.Nodup) : ∀ S : List (List Int), (∀ s ∈ S, s ∈ fs) → sumF names (tabN fs fun s => cntS S s * c) j = cntS (S.map fun s => [nm names (j0 s), nm names (j1 s)]) j * c
  | [], _ => by
    have : tabN fs (fun s => cntS [] s * c) = tabN fs fun _ => 0 := tab_congr fun t _ => by simp [cntS]
    rw [this, sumT_zero]
    simp [cntS]
  | s0 :: S, h => by
    have e : tabN fs (fun s => cntS (s0 :: S) s * c) = tabN fs fun s => (if s = s0 then c else 0) + cntS S s * c := tab_congr fun t _ => by
      rw [cntS, Int.add_mul]
      split <;> omega
    rw [e, sumT_add, sumT_one names j c s0 nd (h s0 List.mem_cons_self), cntS_sum names j c nd S fun s hs => h s (List.mem_cons_of_mem _ hs), List.map_cons, cntS, Int.add_mul]
    split <;> omega
theorem cntF_sum (names : List Int) (j : List Int) {fs : List (List Int)} (nd : fs.Nodup) : ∀ Z : List (List Int × Int), (∀ p ∈ Z, ∀ s ∈ stepsI p.1, s ∈ fs) → sumF names (tabN fs (cntF Z)) j = cntF (Z.map fun p => (p.1.map (nm names), p.2)) j
  | [], _ => by
    have : tabN fs (cntF []) = tabN fs fun _ => 0 := tab_congr fun t _ => rfl
    rw [this, sumT_zero]
    rfl
  | p :: Z, h => by
    have e : tabN fs (cntF (p :: Z)) = tabN fs fun s => cntS (stepsI p.1) s * p.2 + cntF Z s := rfl
    rw [e, sumT_add, cntS_sum names j p.2 nd _ (h p List.mem_cons_self), cntF_sum names j nd Z fun q hq => h q (List.mem_cons_of_mem _ hq), List.map_cons, cntF]
    show _ = cntS (stepsI (p.1.map (nm names))) j * p.2 + _
    rw [stepsI_map]
/-- a ledger of the fine routine that says what one of the base says -/
structure RelF (fs : List (List Int)) (names : List Int) (ys : List (List Int)) (num : List Int → Int) (zs : List (List Int)) (num' : List Int → Int) : Prop where
  pm : zs.Perm (ys.map (liftL fs names))
  eq : ∀ y ∈ ys, num' (liftL fs names y) = num y
section
variable {n N : Int} {bs fs ys zs : List (List Int)} {names : List Int} {num num' : List Int → Int}
theorem RelF.sums (h : RelF fs names ys num zs num') (c : Cov n bs N fs names) (jb : Jr n bs) (jf : Jr N fs) (N2 : 2 ≤ N) (hr : ∀ y ∈ ys, RunB n bs y) (j : List Int) : sumF names (tabN fs (cntF (tabN zs num'))) j = cntF (tabN ys num) j := by
  have p1 : (tabN zs num').Perm ((tabN ys num).map fun p => (liftL fs names p.1, p.2)) := by
    have p2 := h.pm.map fun z => (z, num' z)
    have e : (ys.map (liftL fs names)).map (fun z => (z, num' z)) = (tabN ys num).map fun p => (liftL fs names p.1, p.2) := by
      rw [List.map_map, List.map_map]
      refine List.map_congr_left fun y hy => ?_
      show (liftL fs names y, num' (liftL fs names y)) = (liftL fs names y, num y)
      rw [h.eq y hy]
    rw [← e]
    exact p2
  have e1 : tabN fs (cntF (tabN zs num')) = tabN fs (cntF ((tabN ys num).map fun p => (liftL fs names p.1, p.2))) := tab_congr fun s _ => cntF_perm p1 s
  rw [e1, cntF_sum names j jf.nd]
  · rw [List.map_map]
    have e2 : (tabN ys num).map ((fun p : List Int × Int => (p.1.map (nm names), p.2)) ∘ fun p => (liftL fs names p.1, p.2)) = tabN ys num := by
      rw [List.map_map]
      refine List.map_congr_left fun y hy => ?_
      show ((liftL fs names y).map (nm names), num y) = (y, num y)
      rw [(lift_is c jb jf (by omega) (hr y hy)).mp]
    rw [e2]
  · intro p hp s hs
    obtain ⟨q, hq, rfl⟩ := List.mem_map.mp hp
    obtain ⟨y, hy, rfl⟩ := List.mem_map.mp hq
    exact (lift_is c jb jf (by omega) (hr y hy)).st s hs
/-- the names of the fine ledger's runs are the base ledger's -/
theorem RelF.back (h : RelF fs names ys num zs num') (c : Cov n bs N fs names) (jb : Jr n bs) (jf : Jr N fs) (N2 : 2 ≤ N) (hr : ∀ y ∈ ys, RunB n bs y) {ws : List (List Int)} {num2 : List Int → Int} (pm : ws.Perm (zs.map fun y => y.map (nm names))) (eq : ∀ z ∈ zs, num2 (z.map (nm names)) = num' z) : ws.Perm ys ∧ ∀ y ∈ ys, num2 y = num y := by
  have li : ∀ y ∈ ys, (liftL fs names y).map (nm names) = y := fun y hy => (lift_is c jb jf (by omega) (hr y hy)).mp
  refine ⟨?_, fun y hy => ?_⟩
  · have p := h.pm.map fun y => y.map (nm names)
    rw [List.map_map] at p
    have e : ys.map ((fun y => y.map (nm names)) ∘ liftL fs names) = ys := by
      calc ys.map ((fun y => y.map (nm names)) ∘ liftL fs names) = ys.map id := List.map_congr_left li
        _ = ys := List.map_id ys
    rw [e] at p
    exact pm.trans p
  · have hz : liftL fs names y ∈ zs := h.pm.mem_iff.mpr (List.mem_map.mpr ⟨y, hy, rfl⟩)
    have := eq _ hz
    rw [li y hy, h.eq y hy] at this
    exact this
end
/-- a run takes a jump at most once -/
theorem cntS_one : ∀ {r : List Int}, r.Pairwise (· < ·) → ∀ j, cntS (stepsI r) j ≤ 1 := by
  intro r h j
  have nd := (stepsI_up h).2
  have : ∀ S : List (List Int), S.Nodup → cntS S j ≤ 1 ∧ (j ∉ S → cntS S j = 0) := by
    intro S
    induction S with
    | nil => intro _; exact ⟨by show (0 : Int) ≤ 1; decide, fun _ => rfl⟩
    | cons s S ih =>
      intro nd
      obtain ⟨n1, n2⟩ := List.nodup_cons.mp nd
      obtain ⟨h1, h2⟩ := ih n2
      rw [cntS]
      by_cases e : j = s
      · rw [if_pos e, h2 (by rw [e]; exact n1)]
        exact ⟨by omega, fun z => absurd (by rw [e]; exact List.mem_cons_self) z⟩
      · rw [if_neg e]
        exact ⟨by omega, fun z => by rw [h2 fun y => z (List.mem_cons_of_mem _ y)]; rfl⟩
  exact (this _ nd).1
theorem run_up {n : Int} {bs : List (List Int)} (jb : Jr n bs) : ∀ {r : List Int}, (∀ s ∈ stepsI r, s ∈ bs) → r.Pairwise (· < ·)
  | [], _ => .nil
  | [_], _ => List.pairwise_singleton _ _
  | x :: y :: r, h => by
    have ih := run_up jb (r := y :: r) fun s hs => h s (List.mem_cons_of_mem _ hs)
    obtain ⟨_, p2, _⟩ := jb.pair (h [x, y] List.mem_cons_self)
    refine List.pairwise_cons.mpr ⟨fun z hz => ?_, ih⟩
    rcases List.mem_cons.mp hz with e | e
    · rw [e]; exact p2
    · have := (List.pairwise_cons.mp ih).1 z e
      omega
theorem cntF_le {n : Int} {bs : List (List Int)} (jb : Jr n bs) (j : List Int) : ∀ ps : List (List Int × Int), (∀ p ∈ ps, RunB n bs p.1 ∧ 0 ≤ p.2) → cntF ps j ≤ (ps.map (·.2)).sum
  | [], _ => Int.le_refl 0
  | p :: ps, h => by
    have ih := cntF_le jb j ps fun q hq => h q (List.mem_cons_of_mem _ hq)
    obtain ⟨h1, h2⟩ := h p List.mem_cons_self
    obtain ⟨_, g2, _, _⟩ := runB_iff.mp h1
    have c1 := cntS_one (run_up jb g2) j
    have c2 := Int.mul_le_mul_of_nonneg_right c1 h2
    rw [cntF, List.map_cons, List.sum_cons]
    omega
theorem tab_numF {ps : List (List Int × Int)} {ys : List (List Int)} (nd : (ps.map (·.1)).Nodup) (pm : ys.Perm (ps.map (·.1))) : (tabN ys (numF ps)).Perm ps := by
  have p := pm.map fun y => (y, numF ps y)
  have e : (ps.map (·.1)).map (fun y => (y, numF ps y)) = ps := by
    rw [List.map_map]
    calc ps.map ((fun y => (y, numF ps y)) ∘ fun p => p.1) = ps.map id := List.map_congr_left fun p hp => by
          show (p.1, numF ps p.1) = p
          rw [look_numF (look_of nd (show (p.1, p.2) ∈ ps from hp))]
      _ = ps := List.map_id ps
  rw [e] at p
  exact p
end K46
end
section
set_option maxHeartbeats 4000000
/-! P4: sorted rows are told by their members. -/
namespace K46
open PySem Ja
open L2 hiding CX0 E0 pass0 Fun
theorem perm_eq {α : Type} {R : α → α → Prop} : ∀ {a b : List α}, (∀ x ∈ a, ∀ y ∈ a, R x y → R y x → x = y) → a.Perm b → a.Pairwise R → b.Pairwise R → a = b
  | [], b, _, p, _, _ => (List.nil_perm.mp p).symm
  | x :: a, b, anti, p, h1, h2 => by
    cases b with
    | nil => exact absurd p (by simp)
    | cons y b =>
      have hx : x = y := by
        have m1 : x ∈ y :: b := p.mem_iff.mp List.mem_cons_self
        have m2 : y ∈ x :: a := p.mem_iff.mpr List.mem_cons_self
        rcases List.mem_cons.mp m1 with z | z
        · exact z
        · rcases List.mem_cons.mp m2 with w | w
          · exact w.symm
          · exact anti x List.mem_cons_self y m2 ((List.pairwise_cons.mp h1).1 y w) ((List.pairwise_cons.mp h2).1 x z)
      subst hx
      rw [perm_eq (fun u hu v hv => anti u (List.mem_cons_of_mem _ hu) v (List.mem_cons_of_mem _ hv)) (List.perm_cons x |>.mp p) (List.pairwise_cons.mp h1).2 (List.pairwise_cons.mp h2).2]
theorem lex_pair (u v u' v' : Int) : HT.lexLt [u, v] [u', v'] = decide (u < u' ∨ (u = u' ∧ v < v')) := by
  rw [HT.lexLt_cons]
  by_cases c : u = u'
  · rw [if_pos c, HT.lexLt_cons, HT.lexLt_nil_nil]
    by_cases d : v = v'
    · rw [if_pos d]; exact (decide_eq_false (by omega)).symm
    · rw [if_neg d]
      exact decide_eq_decide.mpr ⟨fun z => .inr ⟨c, z⟩, fun z => by omega⟩
  · rw [if_neg c]
    exact decide_eq_decide.mpr ⟨fun z => .inl z, fun z => by omega⟩
theorem srt_eq {n : Int} {a b : List (List Int)} (ja : Jr n a) (sa : Srt a) (sb : Srt b) (p : a.Perm b) : a = b := by
  refine perm_eq (R := fun x y => HT.lexLt y x = false) (fun x hx y hy h1 h2 => ?_) p sa sb
  obtain ⟨u, v, rfl, _⟩ := ja.sh x hx
  obtain ⟨u', v', rfl, _⟩ := ja.sh y hy
  rw [lex_pair] at h1 h2
  have h1 := of_decide_eq_false h1
  have h2 := of_decide_eq_false h2
  have e1 : u = u' := by omega
  have e2 : v = v' := by omega
  rw [e1, e2]
theorem rowF_mem {n : Int} {js : List (List Int)} {u : Int} {s : List Int} : s ∈ rowF n js u ↔ ∃ v, s = [u, v] ∧ u < v ∧ v < n ∧ s ∈ js := by
  unfold rowF
  constructor
  · intro h
    obtain ⟨v, hv, rfl⟩ := List.mem_map.mp h
    obtain ⟨h1, h2⟩ := List.mem_filter.mp hv
    have := upto_mem.mp h1
    exact ⟨v, rfl, by omega, by omega, of_decide_eq_true h2⟩
  · rintro ⟨v, rfl, h1, h2, h3⟩
    exact List.mem_map.mpr ⟨v, List.mem_filter.mpr ⟨upto_mem.mpr (by omega), decide_eq_true h3⟩, rfl⟩
theorem rowF_srt (n : Int) (js : List (List Int)) (u : Int) : (rowF n js u).Pairwise fun x y => j0 x = u ∧ j0 y = u ∧ j1 x < j1 y := by
  unfold rowF
  rw [List.pairwise_map]
  exact (List.Pairwise.filter _ (upto_up _ _)).imp fun {a b} h => ⟨rfl, rfl, h⟩
theorem rowsF_mem {n : Int} {js : List (List Int)} (j : Jr n js) {s : List Int} : s ∈ rowsF n js ↔ s ∈ js := by
  unfold rowsF
  rw [List.mem_flatMap]
  constructor
  · rintro ⟨u, hu, hs⟩
    obtain ⟨v, rfl, _, _, h⟩ := rowF_mem.mp hs
    exact h
  · intro h
    obtain ⟨u, v, rfl, h1, h2, h3⟩ := j.sh s h
    exact ⟨u, upto_mem.mpr (by omega), rowF_mem.mpr ⟨v, rfl, h2, by omega, h⟩⟩
theorem rows_pw (n : Int) (js : List (List Int)) : (rowsF n js).Pairwise fun x y => x ≠ y ∧ (j0 x < j0 y ∨ (j0 x = j0 y ∧ j1 x < j1 y)) := by
  unfold rowsF
  have : ∀ l : List Int, l.Pairwise (· < ·) → (l.flatMap (rowF n js)).Pairwise fun x y => x ≠ y ∧ (j0 x < j0 y ∨ (j0 x = j0 y ∧ j1 x < j1 y)) := by
    intro l
    induction l with
    | nil => intro _; exact .nil
    | cons u l ih =>
      intro h
      obtain ⟨h1, h2⟩ := List.pairwise_cons.mp h
      rw [List.flatMap_cons, List.pairwise_append]
      refine ⟨(rowF_srt n js u).imp fun {a b} ⟨z1, z2, z3⟩ => ⟨fun e => by rw [e] at z3; omega, .inr ⟨by omega, z3⟩⟩, ih h2, fun a ha b hb => ?_⟩
      obtain ⟨v, rfl, _⟩ := rowF_mem.mp ha
      obtain ⟨u', hu', hb⟩ := List.mem_flatMap.mp hb
      obtain ⟨v', rfl, _⟩ := rowF_mem.mp hb
      have lt : u < u' := h1 u' hu'
      exact ⟨fun e => by injection e with e _; omega, .inl lt⟩
  exact this _ (upto_up _ _)
theorem rowsF_srt {n : Int} {js : List (List Int)} : Srt (rowsF n js) := by
  refine List.Pairwise.imp_of_mem (fun {a b} ha hb h => ?_) (rows_pw n js)
  obtain ⟨u, hu, ha⟩ := List.mem_flatMap.mp ha
  obtain ⟨v, rfl, _⟩ := rowF_mem.mp ha
  obtain ⟨u', hu', hb⟩ := List.mem_flatMap.mp hb
  obtain ⟨v', rfl, _⟩ := rowF_mem.mp hb
  rw [lex_pair]
  have h : u < u' ∨ (u = u' ∧ v < v') := h.2
  exact decide_eq_false (by omega)
theorem rowsF_perm {n : Int} {js : List (List Int)} (j : Jr n js) : (rowsF n js).Perm js :=
  (List.perm_ext_iff_of_nodup ((rows_pw n js).imp fun h => h.1) j.nd).mpr fun _ => rowsF_mem j
/-- the rows that the law finds are the routine's -/
theorem rowsF_eq {n : Int} {js rs : List (List Int)} (j : Jr n js) (jr : Jr n rs) (s : Srt rs) (p : rs.Perm js) : rs = rowsF n js := srt_eq jr s rowsF_srt (p.trans (rowsF_perm j).symm)
end K46
end
section
set_option maxHeartbeats 4000000
/-! P3b: scaled counts. -/
namespace K46
open PySem Ja
open L2 hiding CX0 E0 pass0 Fun
theorem cntF_scale (c : Int) (j : List Int) (num : List Int → Int) : ∀ ys : List (List Int), cntF (tabN ys fun y => num y * c) j = cntF (tabN ys num) j * c
  | [] => by simp [cntF, tabN]
  | y :: ys => by
    show cntS (stepsI y) j * (num y * c) + cntF (tabN ys fun y => num y * c) j = (cntS (stepsI y) j * num y + cntF (tabN ys num) j) * c
    rw [cntF_scale c j num ys, Int.add_mul, Int.mul_assoc]
theorem RelF.pre {fs : List (List Int)} {names : List Int} {ys zs : List (List Int)} {num num' : List Int → Int} (h : RelF fs names ys num zs num') {ws : List (List Int)} {num2 : List Int → Int} (p : ws.Perm zs) (e : ∀ z ∈ zs, num2 z = num' z) : RelF fs names ys num ws num2 :=
  ⟨p.trans h.pm, fun y hy => by rw [e _ (h.pm.mem_iff.mpr (List.mem_map.mpr ⟨y, hy, rfl⟩))]; exact h.eq y hy⟩
theorem RelF.of {fs : List (List Int)} {names : List Int} {ys zs ws : List (List Int)} {num num' num2 : List Int → Int} (h : RelF fs names ys num zs num') (p : ys.Perm ws) (e : ∀ y ∈ ws, num y = num2 y) : RelF fs names ws num2 zs num' :=
  ⟨h.pm.trans (p.map _), fun y hy => by rw [h.eq y (p.mem_iff.mpr hy)]; exact e y hy⟩
end K46
end
section
set_option maxHeartbeats 4000000
/-! W17: properties, n * o; ledgers under a lock. -/
namespace K46
open PySem Ja PyProof.Rows PySem.Spec
open L2 hiding CX0 E0 pass0 Fun del del_ne
open PySem.W (Frag findIn isFn fnIn)
open C8 (Cal Met Mak Def Fun CX0 E0 pass0 fnScope fnBody fnArgs fnScope_by cal0 met0 mak0 pe_c pe_mk pe_mt pe_mt0 pe_gc fn0)
structure Prp (P : Program) (w : World) (K : Frag) (mg : Str → Option Value) (base : Heap) (k : Nat) (C : Addr) (f : Str) (sp : Sp) : Prop where
  ex : ∃ p g fd ps, Cls K C ∧ PropOf K C f p g ∧ FnOk P w K mg base CX0 k g fd ps sp ∧ Binds K fd ps []
structure Rmu (P : Program) (w : World) (K : Frag) (mg : Str → Option Value) (base : Heap) (k : Nat) (C : Addr) (sp : Sp) : Prop where
  ex : ∃ f fd ps fm, Dun K C "__rmul__" f ∧ findIn K (.ref C) "__mul__" = some (some (.ref fm)) ∧ PySem.W.selfFirst K C = true ∧ PySem.W.subIn K (.ref C) (.type "int") = some false ∧ FnOk P w K mg base CX0 k f fd ps sp ∧ Binds K fd ps []
section
variable {X : Cx} {k j : Nat} {C : Addr} {f : Str} {sp : Sp} {e : Expr} {pos : Pos} {ta : TE}
theorem pe_pr (c : Prp X.prog X.w X.K X.mg X.base k C f sp) (hr : Room j X.A) (hk : k + 1 ≤ j) (he : PE X e ta) (hab : attributeBase e f X.env (eval e X.env) = eval e X.env := by rfl) : PE X (.Attribute e f pos) (tProp C sp [] E0 ta) := by
  obtain ⟨p, g, fd, ps, c1, c2, F, b⟩ := c.ex
  exact pe_prop he c1 c2 F (hr.mono hk) b .nil pass0 hab
theorem o_mul (c : Rmu X.prog X.w X.K X.mg X.base k C sp) (hr : Room j X.A) (hk : k ≤ j) : OpR X (binaryOp .Mult) (rRmulO C sp E0) := by
  obtain ⟨f, fd, ps, fm, h1, h2, h3, h4, F, b⟩ := c.ex
  exact op_rmulO h1 h2 h3 h4 F (hr.mono hk) b pass0
end
section
variable {CR CL : Addr} {H : Hp} {d : Addr} {od : Obj} {m : List (List Int × Int)}
theorem Rows.lockM {l : Addr} {rs : List (List Int)} (hd : DI H d m) (h : Rows H l rs) : Rows (upd H d (.frz od (.dT (dM V.int m)))) l rs := by
  obtain ⟨ts, e, pl⟩ := h.ex
  exact ⟨ts, lock_ne hd e (fun z => by cases z), Paired.mapP pl fun _ _ z => lock_ne hd z (fun z => by cases z)⟩
theorem Rt.lockM {a : Addr} {n : Int} {rs : List (List Int)} (hd : DI H d m) (ne : m ≠ []) (h : Rt CR H a n rs) : Rt CR (upd H d (.frz od (.dT (dM V.int m)))) a n rs := by
  obtain ⟨dx, l, dd, h1, h2, h3⟩ := h.ex
  refine ⟨h.jr, h.srt, h.n2, h.n40, h.l120, dx, l, dd, lock_ne hd h1 (fun z => by cases z), h2.lockM hd, lock_ne hd h3 fun z => ?_⟩
  cases m with
  | nil => exact ne rfl
  | cons y ys =>
    have z := HO.dT.inj z
    cases rs with
    | nil => cases z
    | cons r rs =>
      injection z with z _
      injection z with _ z
      cases z
theorem Lg.lockM {a r : Addr} {n : Int} {rs ys : List (List Int)} {num : List Int → Int} (hd : DI H d m) (ne : m ≠ []) (h : Lg CR CL H a r n rs ys num) (hn : ∀ d', TD CL H a d' → d' ≠ d) : Lg CR CL (upd H d (.frz od (.dT (dM V.int m)))) a r n rs ys num := by
  obtain ⟨dx, d', h1, h2⟩ := h.ex
  exact ⟨h.rt.lockM hd ne, h.gd, dx, d', lock_ne hd h1 (fun z => by cases z), by show upd _ _ _ _ = _; rw [upd_ne (hn d' ⟨dx, _, h1⟩)]; exact h2⟩
theorem Lg.td {a r : Addr} {n : Int} {rs ys : List (List Int)} {num : List Int → Int} (h : Lg CR CL H a r n rs ys num) : ∃ d, TD CL H a d ∧ H d ≠ none := by
  obtain ⟨dx, d, h1, h2⟩ := h.ex
  exact ⟨d, ⟨dx, _, h1⟩, by rw [h2]; simp⟩
theorem TD.same {H' : Hp} {a d : Addr} (h : TD CL H a d) (s : Same H H') : TD CL H' a d := by
  obtain ⟨dx, r, e⟩ := h
  exact ⟨dx, r, s _ _ e⟩
theorem TD.eq {a d e : Addr} (h : TD CL H a d) (g : TD CL H a e) : d = e := by
  obtain ⟨dx, r, h⟩ := h
  obtain ⟨dy, r', g⟩ := g
  rw [h] at g
  injection g with z
  injection z with z1 z2 z3
  simp only [List.cons.injEq, Prod.mk.injEq, true_and, and_true, V.ref.injEq] at z3
  exact z3.2
/-- no ledger that stands holds what is new -/
theorem Lg.apart {a r e : Addr} {n : Int} {rs ys : List (List Int)} {num : List Int → Int} {H' : Hp} (h : Lg CR CL H a r n rs ys num) (s : Same H H') (he : H e = none) : ∀ d', TD CL H' a d' → d' ≠ e := fun d' td z => by
  obtain ⟨d, t, hne⟩ := h.td
  have := (t.same s).eq td
  rw [← this] at z
  rw [z] at hne
  exact hne he
end
end K46
end
section
set_option maxHeartbeats 8000000
/-! M17: the ledgers, by the law. -/
namespace K46
open PySem Ja PyProof.Rows PySem.Spec
open L2 hiding CX0 E0 pass0 Fun del del_ne
open PySem.W (Frag findIn isFn fnIn)
open C8 (Cal Met Mak Def Fun CX0 E0 pass0 fnScope fnBody fnArgs fnScope_by cal0 met0 mak0 pe_c pe_mk pe_mt pe_mt0 pe_gc fn0)
theorem But.same {x : Addr} {H H' : Hp} {H0 : Hp} (b : But x H H') (s : Same H0 H) (n : H0 x = none) : Same H0 H' := fun c o e => b c o (s _ _ e) (ne_of_none e n)
def spLedR (CR CV : Addr) : Sp := fun vs H Q _ => ∃ (a rb rf ln lj lr d : Addr) (n : Int) (bs fs js : List (List Int)) (names : List Int) (ps : List (List Int × Int)), vs = [.ref a, .ref rb, .ref ln, .ref lj, .ref lr, .ref d] ∧ Cv CR CV H a rb rf n names.length bs fs names ∧ IntL H ln names ∧ Rows H lj js ∧ CovJ n bs names js ∧ fs.Perm js ∧ Rows H lr bs ∧ DI H d ps ∧
  (ps.map (·.1)).Nodup ∧ (∀ p ∈ ps, RunB n bs p.1 ∧ p.1.length < 1000 ∧ 1 ≤ p.2 ∧ lawLift js names p.1 = liftL fs names p.1) ∧ ps.length ≤ 6 ∧ (∀ p ∈ ps, p.2 ≤ mostN) ∧ (ps.map (·.2)).sum ≤ mostN ∧ ∀ H', Same H H' → Q (.bl true) H'
section
variable {P : Program} {w : World} {K : Frag} {mg : Str → Option Value} {base : Heap} {f CR CC CL CV : Addr} {fd : FuncData}
theorem w_ledR (T : Tb mg) (R : Cl K mg CR "Routine" ["blocks", "rows", "there"]) (RC : Cl K mg CC "Counts" ["routine", "numbers"]) (RL : Cl K mg CL "Ledger" ["routine", "times"]) (RV : Cl K mg CV "Cover" ["base", "fine", "labels", "leads"])
    (c_req : Dn P w K mg base 1 CR "__eq__" (spEq (RtEq CR))) (c_Ceq : Dn P w K mg base 2 CC "__eq__" (spEq (CtEq CR CC))) (c_Leq : Dn P w K mg base 2 CL "__eq__" (spEq (LgEq CR CL))) (c_Llen : Dn P w K mg base 1 CL "__len__" (spLlen CR CL)) (c_Lget : Dn P w K mg base 6 CL "__getitem__" (spLget CR CL)) (c_Cget : Dn P w K mg base 5 CC "__getitem__" (spCget CR CC))
    (c_Routine : Mak P w K mg base 4 "Routine" CR (spRinit CR) []) (c_LedgerD : Mak P w K mg base 7 "Ledger" CL (spLinit CR CL) [.int mostN]) (c_CountsD : Mak P w K mg base 6 "Counts" CC (spCinit CR CC) [.int mostN])
    (c_liftL : Met P w K mg base 9 CV "lift_ledger" (spLiftL CR CL CV) []) (c_nameL : Met P w K mg base 9 CV "name_ledger" (spNameL CR CL CV) []) (c_sums : Met P w K mg base 8 CV "sums" (spSums CR CC CV) []) (c_counts : Met P w K mg base 8 CL "counts" (spLcounts CR CC CL) [])
    (c_entries : Prp P w K mg base 1 CL "entries" (spLentries CR CL)) (c_Lmul : Rmu P w K mg base 9 CL (spLmul CR CL)) (c_Cmul : Rmu P w K mg base 8 CC (spCmul CR CC))
    (c_lift : Cal P w K mg base 1 "_law_lift" spLawLift []) (c_table : Cal P w K mg base 2 "_law_table" spTableL []) (c_pairs : Cal P w K mg base 1 "_law_pairs" spPairsL [])
    (F : Def K mg "_law_ledgers_right" sLedgersRight f fd) (b : Binds K fd ["_law_cover_here", "_law_base", "_law_names", "_law_jumps", "_law_rows_here", "_law_times_here"] []) : Cal P w K mg base 11 "_law_ledgers_right" (spLedR CR CV) [] := by
  have sc : FnScope ["_law_cover_here", "_law_base", "_law_names", "_law_jumps", "_law_rows_here", "_law_times_here", "_law_ledger_here", "_law_run_here", "_law_fine", "_law_due", "_law_again", "_law_table_here", "_law_great", "_law_sums", "_law_jump"] ["_law_cover_here", "_law_base", "_law_names", "_law_jumps", "_law_rows_here", "_law_times_here"] (fnScope sLedgersRight) := fnScope_by (by decide +kernel)
  refine cal0 F b .nil sc (fun vs H Q E h => by obtain ⟨_, _, _, _, _, _, _, _, _, _, _, _, _, rfl, _⟩ := h; rfl) fun cdv A outer s H vs Q E hr h => ?_
  obtain ⟨a, rb, rf, ln, lj, lr, d, n, bs, fs, js, names, ps, rfl, hC, hn, hj, g, pmf, hl, hd, nd, ok, len6, okM, sumM, k⟩ := h
  have hu := hu_of hr
  refine ⟨_, (pss_cons (ps_set (i := 6) sc.nd rfl (Or.inl rfl) (pe_mk c_LedgerD hr (by decide) rfl (pa_cons (pv 1) (pa_cons (pe_lock (pe_lc (own := [("_law_run_here", 7)]) rfl sc.nd (pi_keys (pv 5)) (blkOk_by (own := [("_law_run_here", 7)]) (N := ["_law_cover_here", "_law_base", "_law_names", "_law_jumps", "_law_rows_here", "_law_times_here", "_law_ledger_here", "_law_run_here", "_law_fine", "_law_due", "_law_again", "_law_table_here", "_law_great", "_law_sums", "_law_jump"]) (sc := fnScope sLedgersRight) (by decide +kernel)) (fun _ _ _ _ _ => (pg_name (i := 7) sc.nd rfl (Or.inl rfl))) (fun _ _ _ _ _ => pts_nil) (fun _ _ _ _ _ => (pe_tup (pa_cons (pv 7) (pa_cons (pe_dget hu (pv 5) (pv 7) (fun _ _ => rfl)) pa_nil)))))) pa_nil))))
  (pss_cons (ps_set (i := 8) sc.nd rfl (Or.inr rfl) (pe_mt (pl := _) c_liftL hr (by decide) (pv 0) (pa_cons (pv 6) pa_nil)))
  (pss_cons (ps_set (i := 9) sc.nd rfl (Or.inr rfl) (pe_dnewT))
  (pss_cons (ps_lock (ps_for PassesOwn.never rfl (pi_keys (pv 5)) (pg_name (i := 7) sc.nd rfl (Or.inl rfl)) (pss_one (ps_dput hu (pv 9) (pe_c c_lift hr (by decide) rfl (pa_cons (pv 2) (pa_cons (pv 3) (pa_cons (pv 7) pa_nil)))) (pe_dget hu (pv 5) (pv 7) (fun _ _ => rfl)) rfl))))
  (pss_cons (ps_if (pt_cmpR op_ne (pe_callB (o_len c_Llen hr (by decide)) (by rfl) T.len PySem.boot_len (pa_cons (pv 8) pa_nil)) (pe_callB call_len_dT (by rfl) T.len PySem.boot_len (pa_cons (pv 9) pa_nil)) (nomark _)) (pss_one (ps_ret pe_bl)) pss_nil)
  (pss_cons (ps_if (pt_cmpR (op_neD hr.units) (pe_lock (pe_lc (own := [("_law_run_here", 7)]) rfl sc.nd (pi_keys (pv 9)) (blkOk_by (own := [("_law_run_here", 7)]) (N := ["_law_cover_here", "_law_base", "_law_names", "_law_jumps", "_law_rows_here", "_law_times_here", "_law_ledger_here", "_law_run_here", "_law_fine", "_law_due", "_law_again", "_law_table_here", "_law_great", "_law_sums", "_law_jump"]) (sc := fnScope sLedgersRight) (by decide +kernel)) (fun _ _ _ _ _ => (pg_name (i := 7) sc.nd rfl (Or.inl rfl))) (fun _ _ _ _ _ => pts_one (pt_cmpR op_ne (pe_ixG c_Lget hr (by decide) (pv 8) (pv 7)) (pe_dget hu (pv 9) (pv 7) (fun _ _ => rfl)) (nomark _))) (fun _ _ _ _ _ => (pv 7)))) (pe_lst pa_nil) (nomark _)) (pss_one (ps_ret pe_bl)) pss_nil)
  (pss_cons (ps_if (PW.pt (pw_or (pt_cmpR (o_ne R c_req hr (by decide)) (pe_fld (pv 8) rfl) (pe_fld (pv 0) rfl) (nomark _)) (pw_or1 (pt_cmpR (o_ne RL c_Leq hr (by decide)) (pe_mt (pl := _) c_nameL hr (by decide) (pv 0) (pa_cons (pv 8) pa_nil)) (pv 6) (nomark _))))) (pss_one (ps_ret pe_bl)) pss_nil)
  (pss_cons (ps_set (i := 10) sc.nd rfl (Or.inl rfl) (pe_mk c_LedgerD hr (by decide) rfl (pa_cons (pe_mk c_Routine hr (by decide) rfl (pa_cons (pe_callB call_len (by rfl) T.len PySem.boot_len (pa_cons (pv 2) pa_nil)) (pa_cons (pv 3) pa_nil))) (pa_cons (pe_pr c_entries hr (by decide) (pv 8)) pa_nil))))
  (pss_cons (ps_if (pt_cmpR (o_ne RL c_Leq hr (by decide)) (pe_mt (pl := _) c_nameL hr (by decide) (pv 0) (pa_cons (pv 10) pa_nil)) (pv 6) (nomark _)) (pss_one (ps_ret pe_bl)) pss_nil)
  (pss_cons (ps_if (pt_cmpR (o_ne RC c_Ceq hr (by decide)) (pe_mt (pl := _) c_sums hr (by decide) (pv 0) (pa_cons (pe_mt0 (pl := _) c_counts hr (by decide) (pv 10) ) pa_nil)) (pe_mt0 (pl := _) c_counts hr (by decide) (pv 6) ) (nomark _)) (pss_one (ps_ret pe_bl)) pss_nil)
  (pss_cons (ps_set (i := 11) sc.nd rfl (Or.inr rfl) (pe_c c_table hr (by decide) rfl (pa_cons (pv 4) (pa_cons (pv 5) pa_nil))))
  (pss_cons (ps_set (i := 12) sc.nd rfl (Or.inl rfl) (pe_mt (pl := _) c_liftL hr (by decide) (pv 0) (pa_cons (pe_op (o_mul c_Lmul hr (by decide)) pe_int (pv 6)) pa_nil)))
  (pss_cons (ps_if (PW.pt (pw_or (pt_cmpR (o_ne RL c_Leq hr (by decide)) (pv 12) (pe_op (o_mul c_Lmul hr (by decide)) pe_int (pv 8)) (nomark _)) (pw_or1 (pt_cmpR (o_ne RL c_Leq hr (by decide)) (pe_mt (pl := _) c_nameL hr (by decide) (pv 0) (pa_cons (pv 12) pa_nil)) (pe_op (o_mul c_Lmul hr (by decide)) pe_int (pv 6)) (nomark _))))) (pss_one (ps_ret pe_bl)) pss_nil)
  (pss_cons (ps_if (pt_cmpR (o_ne RC c_Ceq hr (by decide)) (pe_mt (pl := _) c_sums hr (by decide) (pv 0) (pa_cons (pe_mt0 (pl := _) c_counts hr (by decide) (pv 12) ) pa_nil)) (pe_op (o_mul c_Cmul hr (by decide)) pe_int (pe_mt0 (pl := _) c_counts hr (by decide) (pv 6) )) (nomark _)) (pss_one (ps_ret pe_bl)) pss_nil)
  (pss_cons (ps_set (i := 13) sc.nd rfl (Or.inr rfl) (pe_mt (pl := _) c_sums hr (by decide) (pv 0) (pa_cons (pe_mt0 (pl := _) c_counts hr (by decide) (pv 8) ) pa_nil)))
  (pss_cons (ps_if (PW.pt (pw_or (pt_cmpR (o_ne RC c_Ceq hr (by decide)) (pv 13) (pe_mk c_CountsD hr (by decide) rfl (pa_cons (pv 1) (pa_cons (pe_c c_pairs hr (by decide) rfl (pa_cons (pv 11) pa_nil)) pa_nil))) (nomark _)) (pw_or1 (pt_cmpR (o_ne R c_req hr (by decide)) (pe_fld (pv 13) rfl) (pv 1) (nomark _))))) (pss_one (ps_ret pe_bl)) pss_nil)
  (pss_one (ps_ret (pe_cmpR (op_eqD hr.units) (pe_lc (own := [("_law_jump", 14)]) rfl sc.nd (pi_list (pv 4)) (blkOk_by (own := [("_law_jump", 14)]) (N := ["_law_cover_here", "_law_base", "_law_names", "_law_jumps", "_law_rows_here", "_law_times_here", "_law_ledger_here", "_law_run_here", "_law_fine", "_law_due", "_law_again", "_law_table_here", "_law_great", "_law_sums", "_law_jump"]) (sc := fnScope sLedgersRight) (by decide +kernel)) (fun _ _ _ _ _ => (pg_name (i := 14) sc.nd rfl (Or.inl rfl))) (fun _ _ _ _ _ => pts_one (pt_cmpR op_ne (pe_ixG c_Cget hr (by decide) (pv 13) (pv 14)) (pe_dget hu (pv 11) (pv 14) (fun _ _ => rfl)) (nomark _))) (fun _ _ _ _ _ => (pv 14))) (pe_lst pa_nil) (nomark _)))))))))))))))))))), ?_⟩
  have jr := hC.rtf.jr
  have jb := hC.rtb.jr
  have n2 : 2 ≤ n := hC.rtb.n2
  have N2 : (2 : Int) ≤ names.length := hC.rtf.n2
  have g17 := g.l17
  have g2 := g.l2
  have cov := hC.cov
  have bl := hC.rtb.l120
  have fl := hC.rtf.l120
  obtain ⟨dx, ll, ld, h1, h2, h3⟩ := hC.ex
  have hld : LD CV H a ld := ⟨dx, _, _, _, h1⟩
  -- the ledger
  refine ⟨_, rfl, d, _, hd, trivial, fun od => ⟨_, rfl, d, od, rfl, .inr ⟨dM V.int ps, upd_same, fun D hD => ?_⟩⟩⟩
  refine lc_fm (ms := ps) walk_keyI (fun _ => true) (fun p => p) (fun H v p => ∃ t, v = .ref t ∧ PrI H t p) (fun H H' v p nl ⟨t, e, q⟩ => ⟨t, e, q.nl nl⟩) hD (by rw [sizeLine_eq]; omega) (fun H' s => s _ _ upd_same) ?_ ?_
  · rintro i p x H3 _ Nx hi s1 ⟨rfl, q, p', hp', rfl, hq⟩ _ kT
    obtain rfl : p' = p := Option.some.inj (hp'.symm.trans hi)
    have fz := s1 _ _ (show _ from upd_same)
    refine ⟨rfl, ?_⟩
    exact ⟨_, rfl, _, rfl, _, rfl, d, V.int p'.2, rfl, DGet.fz nd (List.mem_of_getElem? hi) fz hq, by show 2 ≤ sizeLine; decide, fun g hg => kT rfl _ _ (same_new hg) ⟨g, rfl, q, upd_same, same_new hg _ _ hq⟩⟩
  intro HA ys0 sA hDA hp
  rw [ft, List.map_id'] at hp
  obtain ⟨fz, sA⟩ := unlock hd sA
  have prs := prs_unlock fz hDA hp
  refine ⟨fz, fun L0 dx0 hL0 hdx0 hne0 => ?_⟩
  generalize upd HA d (.dT (ps.map fun p => (keyOf p.1, V.int p.2))) = HA at sA prs hL0 hdx0
  have sB : Same HA (upd (upd HA dx0 (.own L0)) L0 (.ins CL dx0 [])) := same_upd (same_new hdx0) hL0
  refine ⟨L0, rb, D, dx0, some mostN, n, bs, ps, rfl, upd_same, (hC.rtb.same sA).same sB, prs.same sB, ⟨nd, fun p hp => ⟨(ok p hp).1, (ok p hp).2.1, (ok p hp).2.2.1, fun M z => by cases z; exact okM p hp⟩, by omega⟩, fun H1 ys dL pm hL td hdn hb => ⟨rfl, ?_⟩⟩
  have s1 : Same H H1 := hb.same (sA.trans sB) (sA.free hL0)
  have hdL : H dL = none := sA.free (sB.free hdn)
  have hne : ld ≠ dL := fun z => by rw [z] at h3; rw [h3] at hdL; cases hdL
  have okY : ∀ y ∈ ys, RunB n bs y ∧ y.length < 1000 := fun y hy => by
    obtain ⟨p, hp, rfl⟩ := List.mem_map.mp (pm.mem_iff.mp hy)
    exact ⟨(ok p hp).1, (ok p hp).2.1⟩
  have okR : ∀ y ∈ ys, RunB n bs y := fun y hy => (okY y hy).1
  have tabP : (tabN ys (numF ps)).Perm ps := tab_numF nd pm
  have hC := hC.same s1
  have hn : IntL H1 ln names := s1 _ _ hn
  have hj := hj.same s1
  have hl := hl.same s1
  have hd : DI H1 d ps := s1 _ _ hd
  have h1 := s1 _ _ h1
  have hld : LD CV H1 a ld := ⟨dx, _, _, _, h1⟩
  -- its lift
  refine ⟨_, rfl, a, dx, _, rfl, h1, by rfl, _, rfl, a, rb, rf, L0, rb, dL, ld, n, names.length, bs, fs, ys, names, numF ps, rfl, hC, hL, td, hld, hne, fun H2 F1 zs num1 s2 pmz eqz hF1 => ?_⟩
  have rel1 : RelF fs names ys (numF ps) zs num1 := ⟨pmz, eqz⟩
  have hC := hC.same s2
  have hn : IntL H2 ln names := s2 _ _ hn
  have hj := hj.same s2
  have hl := hl.same s2
  have hd : DI H2 d ps := s2 _ _ hd
  have h1 := s2 _ _ h1
  have hld : LD CV H2 a ld := ⟨dx, _, _, _, h1⟩
  have hL := hL.same s2
  have td := td.same s2
  -- what is due
  intro e he
  have hde : d ≠ e := ne_of_none hd he
  have apF := hF1.apart (same_new (o := .dT []) he) he
  refine ⟨d, _, same_new he _ _ hd, trivial, fun od2 => ?_⟩
  have HBdef : ∀ {b o}, H2 b = some o → o ≠ .dT (dM V.int ps) → (upd H2 d (.frz od2 (.dT (dM V.int ps)))) b = some o := fun {b o} hb ne => lock_ne hd hb ne
  have le0 : (upd H2 d (.frz od2 (.dT (dM V.int ps)))) e = none := by rw [upd_ne (Ne.symm hde)]; exact he
  have hle : (upd (upd H2 e (.dT [])) d (.frz od2 (.dT (dM V.int ps)))) e = some (.dT []) := by rw [upd_ne (Ne.symm hde)]; exact upd_same
  have sl : Same (upd H2 d (.frz od2 (.dT (dM V.int ps)))) (upd (upd H2 e (.dT [])) d (.frz od2 (.dT (dM V.int ps)))) := fun b o eb => by
    by_cases q : b = d
    · subst q; rw [upd_same] at eb ⊢; exact eb
    · rw [upd_ne q] at eb ⊢
      exact same_new he _ _ eb
  have fz0 : (upd H2 d (.frz od2 (.dT (dM V.int ps)))) d = some (.frz od2 (.dT (dM V.int ps))) := upd_same
  have ul : ∀ H', Same (upd H2 d (.frz od2 (.dT (dM V.int ps)))) H' → H' d = some (.frz od2 (.dT (dM V.int ps))) ∧ Same H2 (upd H' d (.dT (dM V.int ps))) := fun H' s => unlock hd s
  have hnB : IntL (upd H2 d (.frz od2 (.dT (dM V.int ps)))) ln names := HBdef hn (fun z => by cases z)
  have hjB : Rows (upd H2 d (.frz od2 (.dT (dM V.int ps)))) lj js := hj.lockM hd
  show tFor _ _ _ _ _ (upd (upd H2 e (.dT [])) d (.frz od2 (.dT (dM V.int ps))))
  generalize upd (upd H2 e (.dT [])) d (.frz od2 (.dT (dM V.int ps))) = HL at hle sl
  generalize upd H2 d (.frz od2 (.dT (dM V.int ps))) = HB at le0 sl fz0 ul hnB hjB
  have injL : ∀ p ∈ ps, ∀ q ∈ ps, liftL fs names p.1 = liftL fs names q.1 → p.1 = q.1 := fun p hp q hq z => lift_inj cov jb jr N2 (ok p hp).1 (ok q hq).1 z
  have ndm : ((ps.map fun p => (liftL fs names p.1, p.2)).map (·.1)).Nodup := by
    rw [List.map_map]
    have e1 : ps.map ((fun x : List Int × Int => x.1) ∘ fun p => (liftL fs names p.1, p.2)) = (ps.map (·.1)).map (liftL fs names) := by rw [List.map_map]; rfl
    rw [e1]
    refine nodup_map nd fun x hx y hy z => ?_
    obtain ⟨p, hp, rfl⟩ := List.mem_map.mp hx
    obtain ⟨q, hq, rfl⟩ := List.mem_map.mp hy
    exact injL p hp q hq z
  refine ⟨_, rfl, d, od2, rfl, .inr ⟨dM V.int ps, sl _ _ fz0, for_it walk_keyI (fun i σ H' => (∃ v7, σ = [some (.ref a), some (.ref rb), some (.ref ln), some (.ref lj), some (.ref lr), some (.ref d), some (.ref L0), v7, some (.ref F1), some (.ref e), none, none, none, none, none]) ∧ Same HB H' ∧ DI H' e ((ps.take i).map fun p => (liftL fs names p.1, p.2)))
    ⟨⟨none, rfl⟩, sl, hle⟩ (fun i σ H' _ h => h.2.1 _ _ fz0) ?_ ?_⟩⟩
  · rintro i x σ H3 _ hi ⟨⟨v7, rfl⟩, s3, hm⟩ ⟨rfl, q, p, hp, rfl, hq⟩
    have hpm := List.mem_of_getElem? hp
    obtain ⟨g1, g2, g3, g4⟩ := ok p hpm
    obtain ⟨r1, r2, r3, r4⟩ := runB_iff.mp g1
    refine ⟨_, rfl, _, rfl, d, V.int p.2, rfl, DGet.fz nd hpm (s3 _ _ fz0) hq, _, rfl, ?_⟩
    refine ⟨_, rfl, _, rfl, _, rfl, ln, lj, q, names, p.1, js, rfl, s3 _ _ hnB, hjB.same s3, g.jr, by have := g.jl; omega, hq, r1, g2, fun H4 t s4 ht => ?_⟩
    rw [g4] at ht
    have hm4 : DI H4 e ((ps.take i).map fun p => (liftL fs names p.1, p.2)) := s4 _ _ hm
    have nin : liftL fs names p.1 ∉ ((ps.take i).map fun p => (liftL fs names p.1, p.2)).map (·.1) := by
      have ei : ((ps.map fun p => (liftL fs names p.1, p.2)).map (·.1))[i]? = some (liftL fs names p.1) := by rw [List.getElem?_map, List.getElem?_map, hp]; rfl
      have := nd_take ndm ei
      rw [← List.map_take, ← List.map_take] at this
      exact this
    refine ⟨e, _, rfl, DPut.t (k := keyOf (liftL fs names p.1)) hm4 (by rw [keyOf_V]; exact ht) (by rw [List.length_map, List.length_map, List.length_take, sizeLine_eq]; omega), ⟨_, rfl⟩, same_upd (s3.trans s4) le0, ?_⟩
    show upd _ _ _ _ = _
    rw [upd_same]
    have ep := put_V V.int ((ps.take i).map fun p => (liftL fs names p.1, p.2)) (liftL fs names p.1) p.2
    rw [putM_new _ nin] at ep
    have ee : ((ps.take i).map fun p => (liftL fs names p.1, p.2)) ++ [(liftL fs names p.1, p.2)] = (ps.take (i + 1)).map fun p => (liftL fs names p.1, p.2) := by rw [tk_more hp, List.map_append]; rfl
    rw [ee] at ep
    exact congrArg (fun z => some (HO.dT z)) ep
  rintro σ H3 ⟨⟨v7, rfl⟩, s3, hm⟩
  rw [List.take_length] at hm
  obtain ⟨fz3, s3⟩ := ul H3 s3
  refine ⟨fz3, ?_⟩
  have hdue : DI (upd H3 d (.dT (dM V.int ps))) e (ps.map fun p => (liftL fs names p.1, p.2)) := by show upd _ _ _ _ = _; rw [upd_ne (Ne.symm hde)]; exact hm
  show tSeq _ _ _ _ (upd H3 d (.dT (dM V.int ps)))
  generalize upd H3 d (.dT (dM V.int ps)) = H3 at s3 hdue
  have apF := hF1.apart s3 he
  have hC := hC.same s3
  have hn : IntL H3 ln names := s3 _ _ hn
  have hj := hj.same s3
  have hl := hl.same s3
  have hd : DI H3 d ps := s3 _ _ hd
  have h1 := s3 _ _ h1
  have hld : LD CV H3 a ld := ⟨dx, _, _, _, h1⟩
  have hL := hL.same s3
  have hF1 := hF1.same s3
  have td := td.same s3
  have zlen : zs.length = ps.length := by rw [rel1.pm.length_eq, List.length_map, pm.length_eq, List.length_map]
  obtain ⟨cx1, d1, i1, j1'⟩ := hF1.ex
  -- the lengths
  refine ⟨_, rfl, F1, cx1, _, rfl, i1, F1, rf, names.length, fs, zs, num1, rfl, hF1, zs.length, rfl, by omega, by omega, _, rfl, e, _, rfl, hdue, rfl, _, rfl, iff ?_ ?_⟩
  · rw [List.length_map, List.length_map, vint, zlen]; simp
  -- the times, run by run
  have hK : ∀ p ∈ ps, liftL fs names p.1 ∈ zs ∧ num1 (liftL fs names p.1) = p.2 := fun p hp => by
    have hy : p.1 ∈ ys := pm.mem_iff.mpr (List.mem_map.mpr ⟨p, hp, rfl⟩)
    refine ⟨rel1.pm.mem_iff.mpr (List.mem_map.mpr ⟨p.1, hy, rfl⟩), ?_⟩
    rw [rel1.eq p.1 hy, look_numF (look_of nd (show (p.1, p.2) ∈ ps from hp))]
  refine ⟨e, _, hdue, trivial, fun od3 => ?_⟩
  have lenm : (ps.map fun p => (liftL fs names p.1, p.2)).length ≤ 6 := by rw [List.length_map]; exact len6
  refine ⟨_, rfl, e, od3, rfl, .inr ⟨dM V.int (ps.map fun p => (liftL fs names p.1, p.2)), upd_same, fun D hD => ?_⟩⟩
  refine lc_fm (ms := ps.map fun p => (liftL fs names p.1, p.2)) walk_keyI (fun _ => false) (fun p => p.1) (fun H v r => ∃ t, v = .ref t ∧ TupI H t r) (fun H H' v r nl ⟨t, e, q⟩ => ⟨t, e, nl _ _ q (fun xs z => by cases z)⟩) hD (by rw [sizeLine_eq]; omega) (fun H' s => s _ _ upd_same) ?_ ?_
  · rintro i p x H4 _ Nx hi s4 ⟨rfl, q, p', hp', rfl, hq⟩ kF _
    obtain rfl : p' = p := Option.some.inj (hp'.symm.trans hi)
    have hpm := List.mem_of_getElem? hi
    obtain ⟨p0, hp0, rfl⟩ := List.mem_map.mp hpm
    obtain ⟨k1, k2⟩ := hK p0 hp0
    have fz := s4 _ _ (show _ from upd_same)
    have hF4 := (hF1.lockM (od := od3) hdue (fun z => by rw [z] at hpm; cases hpm) apF).same s4
    obtain ⟨cx4, d4, i4, j4⟩ := hF4.ex
    refine ⟨rfl, ?_⟩
    refine ⟨_, rfl, _, rfl, F1, cx4, _, rfl, i4, F1, q, rf, names.length, fs, zs, num1, liftL fs names p0.1, rfl, hF4, hq, k1, fun H5 s5 => ?_⟩
    refine ⟨_, rfl, _, rfl, e, V.int p0.2, rfl, DGet.fz (p := (liftL fs names p0.1, p0.2)) ndm hpm (s5 _ _ fz) (s5 _ _ hq), rfl, _, rfl, iff (by rw [k2]; simp) (kF rfl _ s5)⟩
  intro H4 ws s4 hD4 hp4
  have e0 : (ps.map fun p => (liftL fs names p.1, p.2)).filter (fun _ => false) = [] := List.filter_eq_nil_iff.mpr fun _ _ => Bool.false_ne_true
  rw [e0] at hp4
  have rowsD : Rows H4 D [] := Rows.of hD4 hp4
  obtain ⟨fz4, s4'⟩ := unlock hdue s4
  refine ⟨fz4, Nat.zero_le _, fun z hz => ?_⟩
  have rowsD : Rows (upd H4 e (.dT ((ps.map fun p => (liftL fs names p.1, p.2)).map fun p => (keyOf p.1, V.int p.2)))) D [] := by
    obtain ⟨ts, e1, e2⟩ := rowsD.ex
    cases e2
    exact Rows.nil (by rw [upd_ne (fun w => by rw [w] at e1; cases e1.symm.trans fz4)]; exact e1)
  generalize upd H4 e (.dT ((ps.map fun p => (liftL fs names p.1, p.2)).map fun p => (keyOf p.1, V.int p.2))) = H4 at s4' rowsD hz
  have s5 := s4'.trans (same_new (o := .lst []) hz)
  refine neR (rowsD.same (same_new hz)) (Rows.nil upd_same) ⟨_, rfl, iff (by simp) ?_⟩
  generalize upd H4 z (.lst []) = H5 at s5
  have hC := hC.same s5
  have hn : IntL H5 ln names := s5 _ _ hn
  have hj := hj.same s5
  have hl := hl.same s5
  have hd : DI H5 d ps := s5 _ _ hd
  have h1 := s5 _ _ h1
  have hld : LD CV H5 a ld := ⟨dx, _, _, _, h1⟩
  have hL := hL.same s5
  have hF1 := hF1.same s5
  have td := td.same s5
  -- the routine; the names
  obtain ⟨cx1, d1, i1, j1'⟩ := hF1.ex
  obtain ⟨fx, fl0, fd0, p1, p2, p3⟩ := hC.rtf.ex
  refine ⟨_, rfl, F1, CL, cx1, _, _, rfl, i1, RL.cl, RL.na _ (by decide +kernel), lk_here, _, rfl, a, CV, dx, _, _, rfl, h1, RV.cl, RV.na _ (by decide +kernel), lk2 (by decide +kernel), ⟨rf, rf, fx, fx, _, _, rfl, rfl, p1, p1, names.length, fs, hC.rtf, hC.rtf⟩, fun H6 s6 => ⟨_, rfl, iff rfl ?_⟩⟩
  have s6 : Same H5 H6 := s6
  have hC := hC.same s6
  have hn : IntL H6 ln names := s6 _ _ hn
  have hj := hj.same s6
  have hl := hl.same s6
  have hd : DI H6 d ps := s6 _ _ hd
  have h1 := s6 _ _ h1
  have hld : LD CV H6 a ld := ⟨dx, _, _, _, h1⟩
  have hL := hL.same s6
  have hF1 := hF1.same s6
  have td := td.same s6
  refine ⟨_, rfl, a, dx, _, rfl, h1, by rfl, _, rfl, a, rb, rf, F1, rf, n, names.length, bs, fs, zs, names, num1, rfl, hC, hF1, fun H7 W1 ws1 numw1 s7 pmw1 eqw1 hW1 => ?_⟩
  obtain ⟨b1, b2⟩ := rel1.back cov jb jr N2 okR pmw1 eqw1
  have hC := hC.same s7
  have hn : IntL H7 ln names := s7 _ _ hn
  have hj := hj.same s7
  have hl := hl.same s7
  have hd : DI H7 d ps := s7 _ _ hd
  have h1 := s7 _ _ h1
  have hld : LD CV H7 a ld := ⟨dx, _, _, _, h1⟩
  have hL := hL.same s7
  have hF1 := hF1.same s7
  have td := td.same s7
  obtain ⟨wx, wd, wi, _⟩ := hW1.ex
  obtain ⟨lx, ldd, li, _⟩ := hL.ex
  refine ⟨_, rfl, ⟨W1, L0, wx, lx, _, _, rfl, rfl, wi, li, ⟨rb, rb, n, bs, ws1, ys, numw1, numF ps, hW1, hL, b1, fun y hy => b2 y (b1.mem_iff.mp hy)⟩⟩, fun H8 s8 => ⟨_, rfl, iff rfl ?_⟩⟩
  have s8 : Same H7 H8 := s8
  have hC := hC.same s8
  have hn : IntL H8 ln names := s8 _ _ hn
  have hj := hj.same s8
  have hl := hl.same s8
  have hd : DI H8 d ps := s8 _ _ hd
  have h1 := s8 _ _ h1
  have hld : LD CV H8 a ld := ⟨dx, _, _, _, h1⟩
  have hL := hL.same s8
  have hF1 := hF1.same s8
  have td := td.same s8
  -- again
  refine ⟨_, rfl, _, (names.map V.int).length, rfl, .inl ⟨_, SqL.of hn, rfl⟩, _, rfl, fun R2 dxr hR2 hdxr hner => ?_⟩
  have s9 : Same H8 (upd (upd H8 dxr (.own R2)) R2 (.ins CR dxr [])) := same_upd (same_new hdxr) hR2
  refine ⟨R2, lj, dxr, (names.map V.int).length, js, rfl, upd_same, hj.same s9, by rw [List.length_map]; exact g.jr, by rw [List.length_map]; omega, by rw [List.length_map]; omega, g.jl, fun H9 fs2 pm2 hRt2 hb9 => ⟨rfl, ?_⟩⟩
  rw [List.length_map] at hRt2
  have efs : fs2 = fs := srt_eq hRt2.jr hRt2.srt hC.rtf.srt (pm2.trans pmf.symm)
  subst efs
  have s9 : Same H8 H9 := hb9.same s9 hR2
  have hC := hC.same s9
  have hn : IntL H9 ln names := s9 _ _ hn
  have hj := hj.same s9
  have hl := hl.same s9
  have hd : DI H9 d ps := s9 _ _ hd
  have h1 := s9 _ _ h1
  have hld : LD CV H9 a ld := ⟨dx, _, _, _, h1⟩
  have hL := hL.same s9
  have hF1 := hF1.same s9
  have td := td.same s9
  obtain ⟨cx1, d1, i1, j1'⟩ := hF1.ex
  refine ⟨_, rfl, F1, cx1, _, rfl, i1, F1, rf, names.length, fs2, zs, num1, rfl, hF1, fun H10 l10 s10 prs10 => ?_⟩
  have hC := hC.same s10
  have hn : IntL H10 ln names := s10 _ _ hn
  have hj := hj.same s10
  have hl := hl.same s10
  have hd : DI H10 d ps := s10 _ _ hd
  have h1 := s10 _ _ h1
  have hld : LD CV H10 a ld := ⟨dx, _, _, _, h1⟩
  have hL := hL.same s10
  have hF1 := hF1.same s10
  have hRt2 := hRt2.same s10
  have td := td.same s10
  intro AG dxa hAG0 hdxa hnea
  have s11 : Same H10 (upd (upd H10 dxa (.own AG)) AG (.ins CL dxa [])) := same_upd (same_new hdxa) hAG0
  have numB : ∀ z ∈ zs, num1 z ≤ mostN := fun z hz => by
    obtain ⟨y, hy, rfl⟩ := List.mem_map.mp (rel1.pm.mem_iff.mp hz)
    rw [rel1.eq y hy]
    obtain ⟨p, hp, rfl⟩ := List.mem_map.mp (pm.mem_iff.mp hy)
    rw [look_numF (look_of nd (show (p.1, p.2) ∈ ps from hp))]
    exact okM p hp
  have lgd : Lgd names.length fs2 (some mostN) (tabN zs num1) := ⟨hF1.gd.nd, fun p hp => by
    obtain ⟨z1, z2, z3, _⟩ := hF1.gd.ok p hp
    obtain ⟨z, hz, rfl⟩ := List.mem_map.mp hp
    exact ⟨z1, z2, z3, fun M e => by cases e; exact numB z hz⟩, hF1.gd.len⟩
  refine ⟨AG, R2, l10, dxa, some mostN, names.length, fs2, tabN zs num1, rfl, upd_same, hRt2.same s11, prs10.same s11, lgd, fun H11 zs7 d7 pm7 hAg _ _ hb11 => ⟨rfl, ?_⟩⟩
  rw [tab_keys] at pm7
  have s11 : Same H10 H11 := hb11.same s11 hAG0
  have hC := hC.same s11
  have hn : IntL H11 ln names := s11 _ _ hn
  have hj := hj.same s11
  have hl := hl.same s11
  have hd : DI H11 d ps := s11 _ _ hd
  have h1 := s11 _ _ h1
  have hld : LD CV H11 a ld := ⟨dx, _, _, _, h1⟩
  have hL := hL.same s11
  have hF1 := hF1.same s11
  have td := td.same s11
  have relA : RelF fs2 names ys (numF ps) zs7 (numF (tabN zs num1)) := rel1.pre pm7 fun z hz => numF_tab hz
  -- the names of again
  refine ⟨_, rfl, a, dx, _, rfl, h1, by rfl, _, rfl, a, rb, rf, AG, R2, n, names.length, bs, fs2, zs7, names, numF (tabN zs num1), rfl, hC, hAg, fun H12 W2 ws2 numw2 s12 pmw2 eqw2 hW2 => ?_⟩
  obtain ⟨b3, b4⟩ := relA.back cov jb jr N2 okR pmw2 eqw2
  have hC := hC.same s12
  have hn : IntL H12 ln names := s12 _ _ hn
  have hj := hj.same s12
  have hl := hl.same s12
  have hd : DI H12 d ps := s12 _ _ hd
  have h1 := s12 _ _ h1
  have hld : LD CV H12 a ld := ⟨dx, _, _, _, h1⟩
  have hL := hL.same s12
  have hF1 := hF1.same s12
  have hAg := hAg.same s12
  have td := td.same s12
  obtain ⟨wx2, wd2, wi2, _⟩ := hW2.ex
  obtain ⟨lx2, ld2, li2, _⟩ := hL.ex
  refine ⟨_, rfl, ⟨W2, L0, wx2, lx2, _, _, rfl, rfl, wi2, li2, ⟨rb, rb, n, bs, ws2, ys, numw2, numF ps, hW2, hL, b3, fun y hy => b4 y (b3.mem_iff.mp hy)⟩⟩, fun H13 s13 => ⟨_, rfl, iff rfl ?_⟩⟩
  have s13 : Same H12 H13 := s13
  have hC := hC.same s13
  have hn : IntL H13 ln names := s13 _ _ hn
  have hj := hj.same s13
  have hl := hl.same s13
  have hd : DI H13 d ps := s13 _ _ hd
  have h1 := s13 _ _ h1
  have hld : LD CV H13 a ld := ⟨dx, _, _, _, h1⟩
  have hL := hL.same s13
  have hF1 := hF1.same s13
  have hAg := hAg.same s13
  have td := td.same s13
  -- the counts of again, summed
  have evB : ∀ {ws : List (List Int)} {num2 : List Int → Int}, (∀ y ∈ ws, RunB n bs y) → Even n (tabN bs (cntF (tabN ws num2))) := fun {ws num2} h => bal_cntF jb.nd _ fun p hp => by
    obtain ⟨y, hy, rfl⟩ := List.mem_map.mp hp
    exact h y hy
  have sumE : ∀ {zs2 : List (List Int)} {num2 : List Int → Int} {ys2 : List (List Int)} {numy : List Int → Int}, RelF fs2 names ys2 numy zs2 num2 → (∀ y ∈ ys2, RunB n bs y) → Even n (tabN bs (sumF names (tabN fs2 (cntF (tabN zs2 num2))))) := fun {zs2 num2 ys2 numy} rel h => by
    have e : tabN bs (sumF names (tabN fs2 (cntF (tabN zs2 num2)))) = tabN bs (cntF (tabN ys2 numy)) := tab_congr fun j _ => rel.sums cov jb jr N2 h j
    rw [e]
    exact evB h
  obtain ⟨ax, ad, ai, _⟩ := hAg.ex
  refine ⟨_, rfl, a, dx, _, rfl, h1, by rfl, _, rfl, AG, ax, _, rfl, ai, by rfl, AG, R2, names.length, fs2, zs7, _, rfl, hAg, fun H14 C1 s14 hC1 => ?_⟩
  have hC := hC.same s14
  have hn : IntL H14 ln names := s14 _ _ hn
  have hj := hj.same s14
  have hl := hl.same s14
  have hd : DI H14 d ps := s14 _ _ hd
  have h1 := s14 _ _ h1
  have hld : LD CV H14 a ld := ⟨dx, _, _, _, h1⟩
  have hL := hL.same s14
  have hF1 := hF1.same s14
  have td := td.same s14
  refine ⟨a, rb, rf, C1, R2, n, names.length, bs, fs2, names, _, rfl, hC, hC1, sumE relA okR, fun H15 S1 s15 hS1 => ?_⟩
  have hC := hC.same s15
  have hn : IntL H15 ln names := s15 _ _ hn
  have hj := hj.same s15
  have hl := hl.same s15
  have hd : DI H15 d ps := s15 _ _ hd
  have h1 := s15 _ _ h1
  have hld : LD CV H15 a ld := ⟨dx, _, _, _, h1⟩
  have hL := hL.same s15
  have hF1 := hF1.same s15
  have td := td.same s15
  obtain ⟨lx3, ld3, li3, _⟩ := hL.ex
  refine ⟨_, rfl, L0, lx3, _, rfl, li3, by rfl, L0, rb, n, bs, ys, _, rfl, hL, fun H16 C2 s16 hC2 => ?_⟩
  have hC := hC.same s16
  have hn : IntL H16 ln names := s16 _ _ hn
  have hj := hj.same s16
  have hl := hl.same s16
  have hd : DI H16 d ps := s16 _ _ hd
  have h1 := s16 _ _ h1
  have hld : LD CV H16 a ld := ⟨dx, _, _, _, h1⟩
  have hL := hL.same s16
  have hF1 := hF1.same s16
  have hS1 := hS1.same s16
  have td := td.same s16
  have hS1 := hS1.congr (g := cntF (tabN ys (numF ps))) fun j _ => relA.sums cov jb jr N2 okR j
  obtain ⟨sx, sd, si, _⟩ := hS1.ex
  obtain ⟨c2x, c2d, c2i, _⟩ := hC2.ex
  refine ⟨⟨S1, C2, sx, c2x, _, _, rfl, rfl, si, c2i, ⟨rb, rb, n, bs, _, hS1, hC2⟩⟩, fun H17 s17 => ⟨_, rfl, iff rfl ?_⟩⟩
  have s17 : Same H16 H17 := s17
  have hC := hC.same s17
  have hn : IntL H17 ln names := s17 _ _ hn
  have hj := hj.same s17
  have hl := hl.same s17
  have hd : DI H17 d ps := s17 _ _ hd
  have h1 := s17 _ _ h1
  have hld : LD CV H17 a ld := ⟨dx, _, _, _, h1⟩
  have hL := hL.same s17
  have hF1 := hF1.same s17
  have td := td.same s17
  -- the table
  refine ⟨_, rfl, _, rfl, lr, d, bs, ps, rfl, hl, jb.nd, by omega, hd, nd, fun p hp => ⟨(runB_iff.mp (ok p hp).1).2.1, (ok p hp).2.1⟩, by omega, fun H18 tb s18 htb0 htb => ?_⟩
  have hC := hC.same s18
  have hn : IntL H18 ln names := s18 _ _ hn
  have hj := hj.same s18
  have hl := hl.same s18
  have hd : DI H18 d ps := s18 _ _ hd
  have h1 := s18 _ _ h1
  have hld : LD CV H18 a ld := ⟨dx, _, _, _, h1⟩
  have hL := hL.same s18
  have hF1 := hF1.same s18
  have td := td.same s18
  -- nine times as much
  obtain ⟨lx4, ld4, li4, _⟩ := hL.ex
  refine ⟨_, rfl, a, dx, _, rfl, h1, by rfl, _, rfl, 9, L0, lx4, _, rfl, rfl, li4, L0, rb, 9, n, bs, ys, numF ps, rfl, hL, by decide, by decide, fun H19 M1 ysM dM s19 pmM hM tdM hdM => ⟨⟨_, rfl⟩, ?_⟩⟩
  have hneM : ld ≠ dM := fun z => by
    obtain ⟨_, ll', ld', z1, _, z3⟩ := hC.ex
    obtain ⟨_, _, _, _, z4⟩ := hld
    rw [z1] at z4
    injection z4 with y
    injection y with y1 y2 y3
    simp only [List.cons.injEq, Prod.mk.injEq, true_and, and_true, V.ref.injEq] at y3
    rw [← z, ← y3.2.2.2] at hdM
    rw [z3] at hdM
    cases hdM
  have okM9 : ∀ y ∈ ysM, RunB n bs y := fun y hy => okR y (pmM.mem_iff.mp hy)
  have hC := hC.same s19
  have hn : IntL H19 ln names := s19 _ _ hn
  have hj := hj.same s19
  have hl := hl.same s19
  have hd : DI H19 d ps := s19 _ _ hd
  have h1 := s19 _ _ h1
  have hld : LD CV H19 a ld := ⟨dx, _, _, _, h1⟩
  have hL := hL.same s19
  have hF1 := hF1.same s19
  have htb : DI H19 tb _ := s19 _ _ htb
  refine ⟨a, rb, rf, M1, rb, dM, ld, n, names.length, bs, fs2, ysM, names, fun y => numF ps y * 9, rfl, hC, hM, tdM, hld, hneM, fun H20 G1 zsG numG s20 pmG eqG hG => ?_⟩
  have relG : RelF fs2 names ysM (fun y => numF ps y * 9) zsG numG := ⟨pmG, eqG⟩
  have hC := hC.same s20
  have hn : IntL H20 ln names := s20 _ _ hn
  have hj := hj.same s20
  have hl := hl.same s20
  have hd : DI H20 d ps := s20 _ _ hd
  have h1 := s20 _ _ h1
  have hld : LD CV H20 a ld := ⟨dx, _, _, _, h1⟩
  have hL := hL.same s20
  have hF1 := hF1.same s20
  have htb : DI H20 tb _ := s20 _ _ htb
  obtain ⟨fx5, fd5, fi5, _⟩ := hF1.ex
  refine ⟨_, rfl, _, rfl, 9, F1, fx5, _, rfl, rfl, fi5, F1, rf, 9, names.length, fs2, zs, num1, rfl, hF1, by decide, by decide, fun H21 M2 zs2 d2 s21 pmM2 hM2 _ _ => ⟨⟨_, rfl⟩, ?_⟩⟩
  have hC := hC.same s21
  have hn : IntL H21 ln names := s21 _ _ hn
  have hj := hj.same s21
  have hl := hl.same s21
  have hd : DI H21 d ps := s21 _ _ hd
  have h1 := s21 _ _ h1
  have hld : LD CV H21 a ld := ⟨dx, _, _, _, h1⟩
  have hL := hL.same s21
  have hF1 := hF1.same s21
  have hG := hG.same s21
  have htb : DI H21 tb _ := s21 _ _ htb
  obtain ⟨gx, gd, gi, _⟩ := hG.ex
  obtain ⟨m2x, m2d, m2i, _⟩ := hM2.ex
  have pmGz : zsG.Perm zs2 := (relG.pm.trans ((pmM.map _).trans rel1.pm.symm)).trans pmM2.symm
  have eqGz : ∀ z ∈ zsG, numG z = num1 z * 9 := fun z hz => by
    obtain ⟨y, hy, rfl⟩ := List.mem_map.mp (relG.pm.mem_iff.mp hz)
    rw [relG.eq y hy, rel1.eq y (pmM.mem_iff.mp hy)]
  refine ⟨⟨G1, M2, gx, m2x, _, _, rfl, rfl, gi, m2i, ⟨rf, rf, names.length, fs2, zsG, zs2, numG, _, hG, hM2, pmGz, eqGz⟩⟩, fun H22 s22 => ⟨_, rfl, iff rfl ?_⟩⟩
  have s22 : Same H21 H22 := s22
  have hC := hC.same s22
  have hn : IntL H22 ln names := s22 _ _ hn
  have hj := hj.same s22
  have hl := hl.same s22
  have hd : DI H22 d ps := s22 _ _ hd
  have h1 := s22 _ _ h1
  have hld : LD CV H22 a ld := ⟨dx, _, _, _, h1⟩
  have hL := hL.same s22
  have hF1 := hF1.same s22
  have hG := hG.same s22
  have htb : DI H22 tb _ := s22 _ _ htb
  refine ⟨_, rfl, a, dx, _, rfl, h1, by rfl, _, rfl, a, rb, rf, G1, rf, n, names.length, bs, fs2, zsG, names, numG, rfl, hC, hG, fun H23 W3 ws3 numw3 s23 pmw3 eqw3 hW3 => ?_⟩
  obtain ⟨b5, b6⟩ := relG.back cov jb jr N2 okM9 pmw3 eqw3
  have hC := hC.same s23
  have hn : IntL H23 ln names := s23 _ _ hn
  have hj := hj.same s23
  have hl := hl.same s23
  have hd : DI H23 d ps := s23 _ _ hd
  have h1 := s23 _ _ h1
  have hld : LD CV H23 a ld := ⟨dx, _, _, _, h1⟩
  have hL := hL.same s23
  have hF1 := hF1.same s23
  have hG := hG.same s23
  have htb : DI H23 tb _ := s23 _ _ htb
  obtain ⟨lx6, ld6, li6, _⟩ := hL.ex
  refine ⟨_, rfl, 9, L0, lx6, _, rfl, rfl, li6, L0, rb, 9, n, bs, ys, numF ps, rfl, hL, by decide, by decide, fun H24 M3 ys3 d3 s24 pmM3 hM3 _ _ => ⟨⟨_, rfl⟩, ?_⟩⟩
  have hC := hC.same s24
  have hn : IntL H24 ln names := s24 _ _ hn
  have hj := hj.same s24
  have hl := hl.same s24
  have hd : DI H24 d ps := s24 _ _ hd
  have h1 := s24 _ _ h1
  have hld : LD CV H24 a ld := ⟨dx, _, _, _, h1⟩
  have hL := hL.same s24
  have hF1 := hF1.same s24
  have hG := hG.same s24
  have hW3 := hW3.same s24
  have htb : DI H24 tb _ := s24 _ _ htb
  obtain ⟨w3x, w3d, w3i, _⟩ := hW3.ex
  obtain ⟨m3x, m3d, m3i, _⟩ := hM3.ex
  refine ⟨⟨W3, M3, w3x, m3x, _, _, rfl, rfl, w3i, m3i, ⟨rb, rb, n, bs, ws3, ys3, numw3, _, hW3, hM3, (b5.trans pmM).trans pmM3.symm, fun y hy => b6 y (b5.mem_iff.mp hy)⟩⟩, fun H25 s25 => ⟨_, rfl, iff rfl ?_⟩⟩
  have s25 : Same H24 H25 := s25
  have hC := hC.same s25
  have hn : IntL H25 ln names := s25 _ _ hn
  have hj := hj.same s25
  have hl := hl.same s25
  have hd : DI H25 d ps := s25 _ _ hd
  have h1 := s25 _ _ h1
  have hld : LD CV H25 a ld := ⟨dx, _, _, _, h1⟩
  have hL := hL.same s25
  have hF1 := hF1.same s25
  have hG := hG.same s25
  have htb : DI H25 tb _ := s25 _ _ htb
  -- its counts, summed
  obtain ⟨gx2, gd2, gi2, _⟩ := hG.ex
  refine ⟨_, rfl, a, dx, _, rfl, h1, by rfl, _, rfl, G1, gx2, _, rfl, gi2, by rfl, G1, rf, names.length, fs2, zsG, _, rfl, hG, fun H26 C3 s26 hC3 => ?_⟩
  have hC := hC.same s26
  have hn : IntL H26 ln names := s26 _ _ hn
  have hj := hj.same s26
  have hl := hl.same s26
  have hd : DI H26 d ps := s26 _ _ hd
  have h1 := s26 _ _ h1
  have hld : LD CV H26 a ld := ⟨dx, _, _, _, h1⟩
  have hL := hL.same s26
  have hF1 := hF1.same s26
  have htb : DI H26 tb _ := s26 _ _ htb
  refine ⟨a, rb, rf, C3, rf, n, names.length, bs, fs2, names, _, rfl, hC, hC3, sumE relG okM9, fun H27 S3 s27 hS3 => ?_⟩
  have hC := hC.same s27
  have hn : IntL H27 ln names := s27 _ _ hn
  have hj := hj.same s27
  have hl := hl.same s27
  have hd : DI H27 d ps := s27 _ _ hd
  have h1 := s27 _ _ h1
  have hld : LD CV H27 a ld := ⟨dx, _, _, _, h1⟩
  have hL := hL.same s27
  have hF1 := hF1.same s27
  have htb : DI H27 tb _ := s27 _ _ htb
  obtain ⟨lx7, ld7, li7, _⟩ := hL.ex
  refine ⟨_, rfl, L0, lx7, _, rfl, li7, by rfl, L0, rb, n, bs, ys, _, rfl, hL, fun H28 C4 s28 hC4 => ?_⟩
  have hC := hC.same s28
  have hn : IntL H28 ln names := s28 _ _ hn
  have hj := hj.same s28
  have hl := hl.same s28
  have hd : DI H28 d ps := s28 _ _ hd
  have h1 := s28 _ _ h1
  have hld : LD CV H28 a ld := ⟨dx, _, _, _, h1⟩
  have hL := hL.same s28
  have hF1 := hF1.same s28
  have hS3 := hS3.same s28
  have htb : DI H28 tb _ := s28 _ _ htb
  obtain ⟨c4x, c4d, c4i, _⟩ := hC4.ex
  refine ⟨9, C4, c4x, _, rfl, rfl, c4i, C4, rb, 9, n, bs, _, rfl, hC4, by decide, by decide, fun H29 M4 s29 hM4 => ⟨⟨_, rfl⟩, ?_⟩⟩
  have hC := hC.same s29
  have hn : IntL H29 ln names := s29 _ _ hn
  have hj := hj.same s29
  have hl := hl.same s29
  have hd : DI H29 d ps := s29 _ _ hd
  have h1 := s29 _ _ h1
  have hld : LD CV H29 a ld := ⟨dx, _, _, _, h1⟩
  have hL := hL.same s29
  have hF1 := hF1.same s29
  have hS3 := hS3.same s29
  have htb : DI H29 tb _ := s29 _ _ htb
  have hS3 := hS3.congr (g := fun j => cntF (tabN ys (numF ps)) j * 9) fun j _ => by
    rw [relG.sums cov jb jr N2 okM9 j, cntF_scale 9 j (numF ps) ysM, cntF_perm (pmM.map fun y => (y, numF ps y)) j]
  obtain ⟨s3x, s3d, s3i, _⟩ := hS3.ex
  obtain ⟨m4x, m4d, m4i, _⟩ := hM4.ex
  refine ⟨⟨S3, M4, s3x, m4x, _, _, rfl, rfl, s3i, m4i, ⟨rb, rb, n, bs, _, hS3, hM4⟩⟩, fun H30 s30 => ⟨_, rfl, iff rfl ?_⟩⟩
  have s30 : Same H29 H30 := s30
  have hC := hC.same s30
  have hn : IntL H30 ln names := s30 _ _ hn
  have hj := hj.same s30
  have hl := hl.same s30
  have hd : DI H30 d ps := s30 _ _ hd
  have h1 := s30 _ _ h1
  have hld : LD CV H30 a ld := ⟨dx, _, _, _, h1⟩
  have hL := hL.same s30
  have hF1 := hF1.same s30
  have htb : DI H30 tb _ := s30 _ _ htb
  -- the sums
  obtain ⟨fx8, fd8, fi8, _⟩ := hF1.ex
  refine ⟨_, rfl, a, dx, _, rfl, h1, by rfl, _, rfl, F1, fx8, _, rfl, fi8, by rfl, F1, rf, names.length, fs2, zs, _, rfl, hF1, fun H31 C5 s31 hC5 => ?_⟩
  have hC := hC.same s31
  have hn : IntL H31 ln names := s31 _ _ hn
  have hj := hj.same s31
  have hl := hl.same s31
  have hd : DI H31 d ps := s31 _ _ hd
  have h1 := s31 _ _ h1
  have hld : LD CV H31 a ld := ⟨dx, _, _, _, h1⟩
  have hL := hL.same s31
  have hF1 := hF1.same s31
  have htb : DI H31 tb _ := s31 _ _ htb
  refine ⟨a, rb, rf, C5, rf, n, names.length, bs, fs2, names, _, rfl, hC, hC5, sumE rel1 okR, fun H32 S5 s32 hS5 => ?_⟩
  have hC := hC.same s32
  have hn : IntL H32 ln names := s32 _ _ hn
  have hj := hj.same s32
  have hl := hl.same s32
  have hd : DI H32 d ps := s32 _ _ hd
  have h1 := s32 _ _ h1
  have hld : LD CV H32 a ld := ⟨dx, _, _, _, h1⟩
  have hL := hL.same s32
  have htb : DI H32 tb _ := s32 _ _ htb
  have hS5 := hS5.congr (g := cntF ps) fun j _ => by rw [rel1.sums cov jb jr N2 okR j, cntF_perm tabP j]
  refine ⟨_, rfl, _, rfl, _, rfl, tb, tabN bs (cntF ps), rfl, htb, by rw [tab_keys]; exact jb.nd, by rw [List.length_map]; omega, fun H33 l33 s33 prs33 => ?_⟩
  have hC := hC.same s33
  have hn : IntL H33 ln names := s33 _ _ hn
  have hj := hj.same s33
  have hl := hl.same s33
  have hd : DI H33 d ps := s33 _ _ hd
  have h1 := s33 _ _ h1
  have hld : LD CV H33 a ld := ⟨dx, _, _, _, h1⟩
  have hL := hL.same s33
  have hS5 := hS5.same s33
  have htb : DI H33 tb _ := s33 _ _ htb
  intro K0 dxk hK0 hdxk hnek
  have s34 : Same H33 (upd (upd H33 dxk (.own K0)) K0 (.ins CC dxk [])) := same_upd (same_new hdxk) hK0
  have eN : tabN bs (numF (tabN bs (cntF ps))) = tabN bs (cntF ps) := tab_congr fun j hj => numF_tab hj
  have evP : Even n (tabN bs (cntF ps)) := bal_cntF jb.nd ps fun p hp => (ok p hp).1
  refine ⟨K0, rb, l33, dxk, .int mostN, n, bs, tabN bs (cntF ps), rfl, upd_same, hC.rtb.same s34, prs33.same s34, by rw [tab_keys]; exact jb.nd, fun q hq => ?_, by rw [eN]; exact evP, fun H34 hK hb34 => ⟨rfl, ?_⟩⟩
  · obtain ⟨j, hj, rfl⟩ := List.mem_map.mp hq
    exact ⟨hj, cntF_nn ps j fun p hp => by have := (ok p hp).2.2.1; omega, .inr ⟨mostN, rfl, Int.le_trans (cntF_le jb j ps fun p hp => ⟨(ok p hp).1, by have := (ok p hp).2.2.1; omega⟩) sumM⟩⟩
  have s34 : Same H33 H34 := hb34.same s34 hK0
  have hC := hC.same s34
  have hn : IntL H34 ln names := s34 _ _ hn
  have hj := hj.same s34
  have hl := hl.same s34
  have hd : DI H34 d ps := s34 _ _ hd
  have h1 := s34 _ _ h1
  have hld : LD CV H34 a ld := ⟨dx, _, _, _, h1⟩
  have hL := hL.same s34
  have hS5 := hS5.same s34
  have htb : DI H34 tb _ := s34 _ _ htb
  have hK := hK.congr (g := cntF ps) fun j hj => numF_tab hj
  obtain ⟨s5x, s5d, s5i, _⟩ := hS5.ex
  obtain ⟨kx, kd, ki, _⟩ := hK.ex
  refine ⟨⟨S5, K0, s5x, kx, _, _, rfl, rfl, s5i, ki, ⟨rb, rb, n, bs, _, hS5, hK⟩⟩, fun H35 s35 => ⟨_, rfl, iff rfl ?_⟩⟩
  have s35 : Same H34 H35 := s35
  have hC := hC.same s35
  have hn : IntL H35 ln names := s35 _ _ hn
  have hj := hj.same s35
  have hl := hl.same s35
  have hd : DI H35 d ps := s35 _ _ hd
  have h1 := s35 _ _ h1
  have hld : LD CV H35 a ld := ⟨dx, _, _, _, h1⟩
  have hL := hL.same s35
  have hS5 := hS5.same s35
  have htb : DI H35 tb _ := s35 _ _ htb
  obtain ⟨s6x, s6d, s6i, _⟩ := hS5.ex
  obtain ⟨bx, bl0, bd0, q1, q2, q3⟩ := hC.rtb.ex
  refine ⟨_, rfl, S5, CC, s6x, _, _, rfl, s6i, RC.cl, RC.na _ (by decide +kernel), lk_here, _, rfl, ⟨rb, rb, bx, bx, _, _, rfl, rfl, q1, q1, n, bs, hC.rtb, hC.rtb⟩, fun H36 s36 => ⟨_, rfl, iff rfl ?_⟩⟩
  have s36 : Same H35 H36 := s36
  have hC := hC.same s36
  have hn : IntL H36 ln names := s36 _ _ hn
  have hj := hj.same s36
  have hl := hl.same s36
  have hd : DI H36 d ps := s36 _ _ hd
  have h1 := s36 _ _ h1
  have hld : LD CV H36 a ld := ⟨dx, _, _, _, h1⟩
  have hL := hL.same s36
  have hS5 := hS5.same s36
  have htb : DI H36 tb _ := s36 _ _ htb
  -- jump by jump
  obtain ⟨tl, el, pl⟩ := hl.ex
  have hll : bs.length = (tl.map V.ref).length := by rw [List.length_map, Paired.length pl]
  refine ⟨_, rfl, lr, rfl, ⟨_, SqL.of el⟩, fun D hD => ?_⟩
  refine lc_fm (ms := bs) (by rw [hll]; exact walk_list) (fun _ => false) (fun s => s) (fun H v r => ∃ t, v = .ref t ∧ TupI H t r) (fun H H' v r nl ⟨t, e, q⟩ => ⟨t, e, nl _ _ q (fun xs z => by cases z)⟩) hD (by rw [sizeLine_eq]; omega) (fun H' s => SqL.of (s _ _ el)) ?_ ?_
  · rintro j s x _ H37 Nx hj s37 ⟨rfl, hx⟩ kF _
    obtain ⟨t, rfl, hm⟩ := at_item pl hj hx
    have hs := List.mem_of_getElem? hj
    have hS7 := hS5.same s37
    obtain ⟨s7x, s7d, s7i, _⟩ := hS7.ex
    refine ⟨rfl, ?_⟩
    refine ⟨_, rfl, _, rfl, S5, s7x, _, rfl, s7i, S5, t, rb, n, bs, _, s, rfl, hS7, s37 _ _ hm, hs, fun H38 s38 => ?_⟩
    have gg := DGet.t (H := H38) (a := tb) (b := t) (k := keyOf s) (s38 _ _ (s37 _ _ htb)) (by rw [keyOf_V]; exact s38 _ _ (s37 _ _ hm))
    have eg : valV ((tabN bs (cntF ps)).map fun p => (keyOf p.1, V.int p.2)) (keyOf s) = some (.int (cntF ps s)) := (look_V V.int _ _).trans (by rw [look_mark, if_pos hs]; rfl)
    rw [eg] at gg
    exact ⟨_, rfl, _, rfl, tb, V.int (cntF ps s), rfl, gg, rfl, _, rfl, iff (by simp) (kF rfl _ s38)⟩
  · intro H37 ws s37 hD37 hp37
    have e0 : bs.filter (fun _ => false) = [] := List.filter_eq_nil_iff.mpr fun _ _ => Bool.false_ne_true
    rw [e0] at hp37
    have rowsD : Rows H37 D [] := Rows.of hD37 hp37
    refine ⟨Nat.zero_le _, fun z hz => ?_⟩
    refine eqR (rowsD.same (same_new hz)) (Rows.nil upd_same) ?_
    have ez : decide (([] : List (List Int)) = []) = true := rfl
    rw [ez]
    refine k _ ?_
    have t1 := (((((s1.trans s2).trans s3).trans s5).trans s6).trans s7).trans s8
    have t2 := ((((((t1.trans s9).trans s10).trans s11).trans s12).trans s13).trans s14).trans s15
    have t3 := ((((((t2.trans s16).trans s17).trans s18).trans s19).trans s20).trans s21).trans s22
    have t4 := ((((((t3.trans s23).trans s24).trans s25).trans s26).trans s27).trans s28).trans s29
    have t5 := ((((((t4.trans s30).trans s31).trans s32).trans s33).trans s34).trans s35).trans s36
    exact (t5.trans s37).trans (same_new hz)
end
end K46
end
section
set_option maxHeartbeats 4000000
/-! P5: all runs, told in three ways. -/
namespace K46
open PySem Ja
open L2 hiding CX0 E0 pass0 Fun
theorem Cov.perm {n N : Int} {bs fs js : List (List Int)} {names : List Int} (c : Cov n bs N js names) (p : fs.Perm js) : Cov n bs N fs names :=
  ⟨c.len, c.first, c.last, c.mid, fun i hi => ((p.filter _).map _).trans (c.outs i hi)⟩
theorem Jr.perm {n : Int} {fs js : List (List Int)} (c : Jr n js) (p : fs.Perm js) : Jr n fs := ⟨fun r hr => c.sh r (p.mem_iff.mp hr), p.nodup_iff.mpr c.nd⟩
/-! ### by restsG -/
theorem restsG_mem {js : List (List Int)} {last : Int} (j : Jr (last + 1) js) : ∀ (k : Nat) {b : Int} {r : List Int}, b ≤ last → last - b ≤ k → (r ∈ restsG js last k b ↔ r.head? = some b ∧ lst r = last ∧ ∀ s ∈ stepsI r, s ∈ js) := by
  have fin : ∀ {b : Int} {r : List Int}, b = last → (r ∈ ([[last]] : List (List Int)) ↔ r.head? = some b ∧ lst r = last ∧ ∀ s ∈ stepsI r, s ∈ js) := by
    intro b r e
    subst e
    rw [List.mem_singleton]
    constructor
    · rintro rfl
      exact ⟨rfl, rfl, fun s h => by cases h⟩
    · rintro ⟨h1, h2, h3⟩
      cases r with
      | nil => cases h1
      | cons x r =>
        have : x = b := Option.some.inj h1
        subst this
        cases r with
        | nil => rfl
        | cons y r =>
          obtain ⟨p1, p2, p3⟩ := j.pair (h3 [x, y] List.mem_cons_self)
          omega
  intro k
  induction k with
  | zero =>
    intro b r h1 h2
    have e : b = last := by omega
    rw [e, restsG_here, ← e]
    have := fin (b := b) (r := r) e
    rw [← e] at this
    exact this
  | succ k ih =>
    intro b r h1 h2
    by_cases e : b = last
    · rw [e, restsG_here, ← e]
      have := fin (b := b) (r := r) e
      rw [← e] at this
      exact this
    · have eq : restsG js last (k + 1) b = restsT js last k b (last - b).toNat := if_neg e
      rw [eq]
      unfold restsT
      rw [List.mem_flatMap]
      constructor
      · rintro ⟨v, hv, hr⟩
        have hv' := upto_mem.mp hv
        by_cases c : [b, v] ∈ js
        · rw [if_pos c] at hr
          obtain ⟨s, hs, rfl⟩ := List.mem_map.mp hr
          obtain ⟨g1, g2, g3⟩ := (ih (by omega) (by omega)).mp hs
          cases s with
          | nil => cases g1
          | cons y t =>
            have : y = v := Option.some.inj g1
            subst this
            refine ⟨rfl, g2, fun s hs => ?_⟩
            rcases List.mem_cons.mp hs with z | z
            · rw [z]; exact c
            · exact g3 s z
        · rw [if_neg c] at hr; cases hr
      · rintro ⟨g1, g2, g3⟩
        cases r with
        | nil => cases g1
        | cons x r =>
          have : x = b := Option.some.inj g1
          subst this
          cases r with
          | nil => exact absurd g2 e
          | cons v t =>
            have c := g3 [x, v] List.mem_cons_self
            obtain ⟨p1, p2, p3⟩ := j.pair c
            refine ⟨v, upto_mem.mpr (by omega), ?_⟩
            rw [if_pos c]
            exact List.mem_map.mpr ⟨v :: t, (ih (by omega) (by omega)).mpr ⟨rfl, g2, fun s hs => g3 s (List.mem_cons_of_mem _ hs)⟩, rfl⟩
theorem flat_nodup {α β : Type} {f : α → List β} : ∀ {l : List α}, l.Nodup → (∀ a ∈ l, (f a).Nodup) → (∀ a ∈ l, ∀ b ∈ l, ∀ x, x ∈ f a → x ∈ f b → a = b) → (l.flatMap f).Nodup
  | [], _, _, _ => .nil
  | a :: l, nd, h1, h2 => by
    obtain ⟨n1, n2⟩ := List.nodup_cons.mp nd
    rw [List.flatMap_cons]
    refine List.nodup_append.mpr ⟨h1 a List.mem_cons_self, flat_nodup n2 (fun b hb => h1 b (List.mem_cons_of_mem _ hb)) fun b hb c hc => h2 b (List.mem_cons_of_mem _ hb) c (List.mem_cons_of_mem _ hc), fun x hx y hy e => ?_⟩
    subst e
    obtain ⟨b, hb, hxb⟩ := List.mem_flatMap.mp hy
    have := h2 a List.mem_cons_self b (List.mem_cons_of_mem _ hb) x hx hxb
    rw [this] at n1
    exact n1 hb
theorem upto_nodup (lo : Int) (m : Nat) : (upto lo m).Nodup := (upto_up lo m).imp fun {a b} h => by omega
theorem restsG_head {js : List (List Int)} {last : Int} : ∀ (k : Nat) {b : Int} {r : List Int}, r ∈ restsG js last k b → r.head? = some b
  | 0, b, r, h => by
    by_cases e : b = last
    · rw [e, restsG_here] at h
      rw [List.mem_singleton.mp h, e]; rfl
    · have : restsG js last 0 b = [] := if_neg e
      rw [this] at h; cases h
  | k + 1, b, r, h => by
    by_cases e : b = last
    · rw [e, restsG_here] at h
      rw [List.mem_singleton.mp h, e]; rfl
    · have eq : restsG js last (k + 1) b = restsT js last k b (last - b).toNat := if_neg e
      rw [eq] at h
      obtain ⟨v, _, hr⟩ := List.mem_flatMap.mp h
      by_cases c : [b, v] ∈ js
      · rw [if_pos c] at hr
        obtain ⟨s, _, rfl⟩ := List.mem_map.mp hr
        rfl
      · rw [if_neg c] at hr; cases hr
theorem restsG_nodup (js : List (List Int)) (last : Int) : ∀ (k : Nat) (b : Int), (restsG js last k b).Nodup
  | 0, b => by
    show (if b = last then [[last]] else []).Nodup
    split <;> simp
  | k + 1, b => by
    by_cases e : b = last
    · rw [e, restsG_here]; simp
    · have eq : restsG js last (k + 1) b = restsT js last k b (last - b).toNat := if_neg e
      rw [eq]
      refine flat_nodup (upto_nodup _ _) (fun v _ => ?_) fun u _ v _ x hx hy => ?_
      · split
        · exact nodup_map (restsG_nodup js last k v) fun x _ y _ h => by injection h
        · exact .nil
      · by_cases c : [b, u] ∈ js
        · by_cases d : [b, v] ∈ js
          · rw [if_pos c] at hx
            rw [if_pos d] at hy
            obtain ⟨s, hs, rfl⟩ := List.mem_map.mp hx
            obtain ⟨t, ht, e2⟩ := List.mem_map.mp hy
            injection e2 with _ e2
            have h1 := restsG_head k hs
            have h2 := restsG_head k ht
            rw [e2] at h2
            exact Option.some.inj (h1.symm.trans h2)
          · rw [if_neg d] at hy; cases hy
        · rw [if_neg c] at hx; cases hx
theorem all_runs {n : Int} {js : List (List Int)} (j : Jr n js) (n2 : 2 ≤ n) (n20 : n ≤ 21) {r : List Int} : r ∈ restsG js (n - 1) 20 0 ↔ RunB n js r := by
  have j' : Jr (n - 1 + 1) js := by rw [show n - 1 + 1 = n by omega]; exact j
  rw [restsG_mem j' 20 (by omega) (by show n - 1 - 0 ≤ (20 : Int); omega), runB_iff]
  constructor
  · rintro ⟨h1, h2, h3⟩
    refine ⟨?_, h3, h1, h2⟩
    cases r with
    | nil => cases h1
    | cons x r => cases r with
      | nil =>
        have e1 : x = 0 := Option.some.inj h1
        have e2 : x = n - 1 := h2
        omega
      | cons y r => simp
  · rintro ⟨_, h2, h3, h4⟩
    exact ⟨h3, h4, h2⟩
/-! ### by the law's lift -/
theorem filter_one {α : Type} {p : α → Bool} {x : α} : ∀ {l : List α}, l.Nodup → x ∈ l → p x = true → (∀ y ∈ l, p y = true → y = x) → l.filter p = [x]
  | a :: l, nd, h, hp, hu => by
    obtain ⟨n1, n2⟩ := List.nodup_cons.mp nd
    rcases List.mem_cons.mp h with z | z
    · subst z
      rw [List.filter_cons, if_pos hp]
      have : l.filter p = [] := List.filter_eq_nil_iff.mpr fun y hy hyp => n1 (by rw [← hu y (List.mem_cons_of_mem _ hy) hyp]; exact hy)
      rw [this]
    · have : p a = false := by
        cases q : p a with
        | false => rfl
        | true =>
          have := hu a List.mem_cons_self q
          rw [this] at n1
          exact absurd z n1
      rw [List.filter_cons, if_neg (by rw [this]; exact Bool.false_ne_true)]
      exact filter_one n2 z hp fun y hy => hu y (List.mem_cons_of_mem _ hy)
theorem lawLift_eq {n N : Int} {bs fs js : List (List Int)} {names : List Int} (c : Cov n bs N fs names) (jb : Jr n bs) (jf : Jr N fs) (p : fs.Perm js) (N1 : 1 ≤ N) {r : List Int} (h : RunB n bs r) : lawLift js names r = liftL fs names r := by
  obtain ⟨h1, h2, h3, h4⟩ := runB_iff.mp h
  cases r with
  | nil => simp at h1
  | cons b0 r =>
    have : ∀ i : Nat, i ≤ r.length → (r.take i).foldl (fun acc b => acc ++ (js.filter fun s => decide (j0 s = lst acc) && decide (nm names (j1 s) = b)).map j1) [0] = (r.take i).foldl (fun acc b => acc ++ [numF (leadsF fs names) [lst acc, b]]) [0] := by
      intro i
      induction i with
      | zero => intro _; rfl
      | succ i ih =>
        intro hi
        have ei : r[i]? = some r[i] := List.getElem?_eq_getElem (by omega)
        obtain ⟨hL, u0, u1⟩ := lift_take c jb jf N1 h i (by omega)
        rw [tk_more ei, List.foldl_append, List.foldl_append, ih (by omega)]
        have hr : (r.take i).foldl (fun acc b => acc ++ [numF (leadsF fs names) [lst acc, b]]) [0] ≠ [] := hL.ne
        have el : lst ((b0 :: r).take (i + 1)) = nm names (lst ((r.take i).foldl (fun acc b => acc ++ [numF (leadsF fs names) [lst acc, b]]) [0])) := by
          rw [← hL.mp]
          exact lst_map _ hr
        have hb := run_step h (show i < r.length by omega)
        rw [el] at hb
        generalize (r.take i).foldl (fun acc b => acc ++ [numF (leadsF fs names) [lst acc, b]]) [0] = acc at u0 u1 hb
        obtain ⟨v, g1, g2, g3⟩ := c.step jb jf u0 u1 hb
        show acc ++ (js.filter fun s => decide (j0 s = lst acc) && decide (nm names (j1 s) = r[i])).map j1 = acc ++ [numF (leadsF fs names) [lst acc, r[i]]]
        rw [look_numF g3]
        congr 1
        have e1 : (js.filter fun s => decide (j0 s = lst acc) && decide (nm names (j1 s) = r[i])) = [[lst acc, v]] := by
          refine filter_one (p.nodup_iff.mp jf.nd) (p.mem_iff.mp g1) ?_ fun y hy hp => ?_
          · show (decide (lst acc = lst acc) && decide (nm names v = r[i])) = true
            simp [g2]
          · rw [Bool.and_eq_true, decide_eq_true_iff, decide_eq_true_iff] at hp
            have hy' := p.mem_iff.mpr hy
            obtain ⟨u, w, rfl, _⟩ := jf.sh y hy'
            have e1 : u = lst acc := hp.1
            have e2 : nm names w = r[i] := hp.2
            have k1 : ([lst acc, r[i]], w) ∈ leadsF fs names := List.mem_map.mpr ⟨_, hy', by show ([u, nm names w], w) = _; rw [e1, e2]⟩
            have := (look_of (c.leads jb jf) k1).symm.trans g3
            rw [e1, Option.some.inj this]
        rw [e1]
        rfl
    have z := this r.length (Nat.le_refl _)
    rw [List.take_length] at z
    exact z
/-! ### by runs_from -/
theorem runsF_mem {su : Int → List Int} {last : Int} (up : Up su last) : ∀ (n : Nat) {b r : List Int}, b ≠ [] → last - lst b ≤ n → (r ∈ runsF su last n b ↔ ∃ t, r = b ++ t ∧ (∀ s ∈ stepsI (lst b :: t), j1 s ∈ su (j0 s)) ∧ lst r = last) := by
  intro n
  induction n with
  | zero =>
    intro b r hb h
    show r ∈ (if lst b = last then [b] else []) ↔ _
    constructor
    · intro hr
      by_cases e : lst b = last
      · rw [if_pos e] at hr
        exact ⟨[], by rw [List.append_nil]; exact List.mem_singleton.mp hr, (fun s hs => by cases hs), by rw [List.mem_singleton.mp hr]; exact e⟩
      · rw [if_neg e] at hr; cases hr
    · rintro ⟨t, rfl, h1, h2⟩
      cases t with
      | nil =>
        rw [List.append_nil] at h2 ⊢
        rw [if_pos h2]; exact List.mem_singleton.mpr rfl
      | cons v t =>
        have := up _ _ (h1 [lst b, v] List.mem_cons_self)
        have e1 : j0 [lst b, v] = lst b := rfl
        have e2 : j1 [lst b, v] = v := rfl
        rw [e1, e2] at this
        omega
  | succ n ih =>
    intro b r hb h
    show r ∈ (if lst b = last then [b] else []) ++ (su (lst b)).flatMap (fun v => runsF su last n (b ++ [v])) ↔ _
    rw [List.mem_append, List.mem_flatMap]
    constructor
    · rintro (hr | ⟨v, hv, hr⟩)
      · by_cases e : lst b = last
        · rw [if_pos e] at hr
          exact ⟨[], by rw [List.append_nil]; exact List.mem_singleton.mp hr, (fun s hs => by cases hs), by rw [List.mem_singleton.mp hr]; exact e⟩
        · rw [if_neg e] at hr; cases hr
      · have hu := up _ _ hv
        obtain ⟨t, rfl, h1, h2⟩ := (ih (b := b ++ [v]) (by simp) (by rw [lst_snoc]; omega)).mp hr
        rw [lst_snoc] at h1
        refine ⟨v :: t, by rw [List.append_assoc]; rfl, fun s hs => ?_, h2⟩
        rcases List.mem_cons.mp hs with z | z
        · rw [z]; exact hv
        · exact h1 s z
    · rintro ⟨t, rfl, h1, h2⟩
      cases t with
      | nil =>
        rw [List.append_nil] at h2 ⊢
        rw [if_pos h2]; exact .inl (List.mem_singleton.mpr rfl)
      | cons v t =>
        have hv : v ∈ su (lst b) := h1 [lst b, v] List.mem_cons_self
        have hu := up _ _ hv
        refine .inr ⟨v, hv, (ih (b := b ++ [v]) (by simp) (by rw [lst_snoc]; omega)).mpr ⟨t, by rw [List.append_assoc]; rfl, ?_, h2⟩⟩
        rw [lst_snoc]
        exact fun s hs => h1 s (List.mem_cons_of_mem _ hs)
theorem runsF_nodup {su : Int → List Int} {last : Int} (up : Up su last) (nd : ∀ i, (su i).Nodup) : ∀ (n : Nat) {b : List Int}, b ≠ [] → last - lst b ≤ n → (runsF su last n b).Nodup := by
  intro n
  induction n with
  | zero =>
    intro b _ _
    show (if lst b = last then [b] else []).Nodup
    split <;> simp
  | succ n ih =>
    intro b hb h
    show ((if lst b = last then [b] else []) ++ (su (lst b)).flatMap (fun v => runsF su last n (b ++ [v]))).Nodup
    have pre : ∀ v ∈ su (lst b), ∀ r, r ∈ runsF su last n (b ++ [v]) → ∃ t, r = b ++ v :: t := fun v hv r hr => by
      have hu := up _ _ hv
      obtain ⟨t, rfl, _⟩ := (runsF_mem up n (b := b ++ [v]) (by simp) (by rw [lst_snoc]; omega)).mp hr
      exact ⟨t, by rw [List.append_assoc]; rfl⟩
    refine List.nodup_append.mpr ⟨by split <;> simp, flat_nodup (nd _) (fun v hv => ih (by simp) (by rw [lst_snoc]; have := up _ _ hv; omega)) fun u hu v hv x hx hy => ?_, fun x hx y hy e => ?_⟩
    · obtain ⟨t, rfl⟩ := pre u hu x hx
      obtain ⟨t', e⟩ := pre v hv _ hy
      have := List.append_cancel_left e
      injection this
    · subst e
      by_cases c : lst b = last
      · rw [if_pos c] at hx
        obtain ⟨v, hv, hr⟩ := List.mem_flatMap.mp hy
        obtain ⟨t, e⟩ := pre v hv _ hr
        rw [List.mem_singleton.mp hx] at e
        have := congrArg List.length e
        simp at this
      · rw [if_neg c] at hx; cases hx
/-! ### the useful jumps -/
theorem comeS_sub {p q : List Int → Int} : ∀ {js : List (List Int)} {S : List Int} {x : Int}, x ∈ S → x ∈ comeS p q S js
  | [], S, x, h => h
  | a :: js, S, x, h => by
    show x ∈ comeS p q (if p a ∈ S then (if q a ∈ S then S else S ++ [q a]) else S) js
    refine comeS_sub ?_
    split
    · split
      · exact h
      · exact List.mem_append_left _ h
    · exact h
/-- each goes on where the last one ended -/
def Chn (p q : List Int → Int) : Int → List (List Int) → Prop
  | _, [] => True
  | x, t :: T => p t = x ∧ Chn p q (q t) T
theorem come_chain {p q : List Int → Int} : ∀ {T js : List (List Int)} {S : List Int} {x : Int}, T.Sublist js → Chn p q x T → x ∈ S → ∀ t ∈ T, p t ∈ comeS p q S js ∧ q t ∈ comeS p q S js := by
  intro T js S x h
  induction h generalizing S x with
  | slnil => intro _ _ t ht; cases ht
  | cons a _ ih =>
    intro hc hx t ht
    refine ih hc ?_ t ht
    split
    · split
      · exact hx
      · exact List.mem_append_left _ hx
    · exact hx
  | @cons_cons T js a _ ih =>
    intro hc hx t ht
    obtain ⟨h1, h2⟩ := hc
    have hq : q a ∈ (if p a ∈ S then (if q a ∈ S then S else S ++ [q a]) else S) := by
      rw [if_pos (by rw [h1]; exact hx)]
      split
      · assumption
      · exact List.mem_append_right _ List.mem_cons_self
    have hp : p a ∈ (if p a ∈ S then (if q a ∈ S then S else S ++ [q a]) else S) := by
      have : p a ∈ S := by rw [h1]; exact hx
      rw [if_pos this]
      split
      · exact this
      · exact List.mem_append_left _ this
    rcases List.mem_cons.mp ht with z | z
    · rw [z]
      show p a ∈ comeS p q (if p a ∈ S then (if q a ∈ S then S else S ++ [q a]) else S) js ∧ q a ∈ comeS p q (if p a ∈ S then (if q a ∈ S then S else S ++ [q a]) else S) js
      exact ⟨comeS_sub hp, comeS_sub hq⟩
    · exact ih h2 hq t z
def RLt (x y : List Int) : Prop := x ≠ y ∧ (j0 x < j0 y ∨ (j0 x = j0 y ∧ j1 x < j1 y))
theorem sub_srt : ∀ {b a : List (List Int)}, a.Pairwise RLt → b.Pairwise RLt → (∀ x ∈ a, x ∈ b) → a.Sublist b
  | [], [], _, _, _ => .slnil
  | [], x :: a, _, _, h => by have := h x List.mem_cons_self; cases this
  | y :: b, [], _, _, _ => List.nil_sublist _
  | y :: b, x :: a, h1, h2, h => by
    obtain ⟨a1, a2⟩ := List.pairwise_cons.mp h1
    obtain ⟨b1, b2⟩ := List.pairwise_cons.mp h2
    by_cases e : x = y
    · subst e
      refine .cons_cons _ (sub_srt a2 b2 fun z hz => ?_)
      rcases List.mem_cons.mp (h z (List.mem_cons_of_mem _ hz)) with w | w
      · exact absurd w.symm (a1 z hz).1
      · exact w
    · have xb : x ∈ b := by
        rcases List.mem_cons.mp (h x List.mem_cons_self) with w | w
        · exact absurd w e
        · exact w
      have yx := b1 x xb
      refine .cons _ (sub_srt h1 b2 fun z hz => ?_)
      rcases List.mem_cons.mp (h z hz) with w | w
      · exfalso
        rcases List.mem_cons.mp hz with v | v
        · exact e (v.symm.trans w)
        · have xz := a1 z v
          rw [w] at xz
          have q1 := yx.2
          have q2 := xz.2
          omega
      · exact w
theorem steps_pw : ∀ {r : List Int}, r.Pairwise (· < ·) → (stepsI r).Pairwise RLt
  | [], _ => .nil
  | [_], _ => .nil
  | x :: y :: r, h => by
    obtain ⟨h1, h2⟩ := List.pairwise_cons.mp h
    refine List.pairwise_cons.mpr ⟨fun s hs => ?_, steps_pw h2⟩
    obtain ⟨_, b, _⟩ := (stepsI_up h2).1 s hs
    have : x < j0 s := h1 _ b
    exact ⟨fun e => by rw [← e] at this; exact absurd this (by show ¬ x < x; omega), .inl this⟩
theorem chn_steps : ∀ {x : Int} {r : List Int}, Chn j0 j1 x (stepsI (x :: r))
  | x, [] => trivial
  | x, y :: r => ⟨rfl, chn_steps (x := y) (r := r)⟩
theorem chn_snoc {p q : List Int → Int} : ∀ {T : List (List Int)} {x : Int} {t : List Int}, Chn p q x T → (∀ y, (T.getLast?.map q).getD x = y → p t = y) → Chn p q x (T ++ [t])
  | [], x, t, _, h => ⟨h x rfl, trivial⟩
  | a :: T, x, t, h, g => by
    refine ⟨h.1, chn_snoc h.2 fun y hy => g y ?_⟩
    rw [← hy]
    cases T with
    | nil => rfl
    | cons b T =>
      rw [List.getLast?_cons_cons]
      cases q : (b :: T).getLast? with
      | none => simp at q
      | some z => rfl
theorem chn_back : ∀ {x : Int} {r : List Int}, Chn j1 j0 (lst (x :: r)) (stepsI (x :: r)).reverse
  | x, [] => trivial
  | x, y :: r => by
    show Chn j1 j0 (lst (y :: r)) ([x, y] :: stepsI (y :: r)).reverse
    rw [List.reverse_cons]
    refine chn_snoc (chn_back (x := y) (r := r)) fun z hz => ?_
    rw [← hz]
    show y = _
    cases r with
    | nil => rfl
    | cons w r =>
      rw [List.getLast?_reverse]
      rfl
theorem useful_steps {n : Int} {al : List (List Int)} (pw : al.Pairwise RLt) {r : List Int} (h0 : r.head? = some 0) (hl : lst r = n - 1) (up : r.Pairwise (· < ·)) (hs : ∀ s ∈ stepsI r, s ∈ al) : ∀ s ∈ stepsI r, s ∈ usefulF n al := by
  cases r with
  | nil => cases h0
  | cons x r =>
    have e : x = 0 := Option.some.inj h0
    subst e
    have sb := sub_srt (steps_pw up) pw hs
    have c1 := come_chain (S := [0]) sb (chn_steps (x := 0) (r := r)) List.mem_cons_self
    have c2 := come_chain (p := j1) (q := j0) (S := [n - 1]) (List.reverse_sublist.mpr sb) (chn_back (x := 0) (r := r)) (by rw [hl]; exact List.mem_cons_self)
    intro s hm
    refine List.mem_filter.mpr ⟨hs s hm, ?_⟩
    rw [Bool.and_eq_true]
    exact ⟨decide_eq_true (c1 s hm).1, decide_eq_true (c2 s (List.mem_reverse.mpr hm)).1⟩
/-- what kept_runs tells -/
theorem kept_mem {n : Int} {al : List (List Int)} (j : Jr n al) (pw : al.Pairwise RLt) (n2 : 2 ≤ n) (n20 : n ≤ 21) {r : List Int} : r ∈ runsF (sucF (usefulF n al)) (n - 1) 20 [0] ↔ RunB n al r := by
  have sm : ∀ i v, v ∈ sucF (usefulF n al) i ↔ [i, v] ∈ usefulF n al := fun i v => by
    unfold sucF
    constructor
    · intro h
      obtain ⟨s, hs, rfl⟩ := List.mem_map.mp h
      obtain ⟨h1, h2⟩ := List.mem_filter.mp hs
      obtain ⟨u, w, rfl, _⟩ := j.sh s (List.mem_filter.mp h1).1
      have e : u = i := of_decide_eq_true h2
      rw [← e]
      exact h1
    · intro h
      exact List.mem_map.mpr ⟨_, List.mem_filter.mpr ⟨h, decide_eq_true rfl⟩, rfl⟩
  have up : Up (sucF (usefulF n al)) (n - 1) := fun i v h => by
    obtain ⟨p1, p2, p3⟩ := j.pair (List.mem_filter.mp ((sm i v).mp h)).1
    exact ⟨p2, p3⟩
  rw [runsF_mem up 20 (by simp) (by show n - 1 - 0 ≤ (20 : Int); omega), runB_iff]
  constructor
  · rintro ⟨t, rfl, h1, h2⟩
    have hs : ∀ s ∈ stepsI (0 :: t), s ∈ al := fun s hs => by
      have := (sm _ _).mp (h1 s hs)
      rw [← stepsI_form hs] at this
      exact (List.mem_filter.mp this).1
    refine ⟨?_, hs, rfl, h2⟩
    cases t with
    | nil =>
      have e : (0 : Int) = n - 1 := h2
      omega
    | cons v t => simp
  · rintro ⟨h1, h2, h3, h4⟩
    have us := useful_steps pw h3 h4 (run_up j h2) h2
    cases r with
    | nil => cases h3
    | cons x r =>
      have e : x = 0 := Option.some.inj h3
      subst e
      refine ⟨r, rfl, fun s hs => (sm _ _).mpr ?_, h4⟩
      rw [← stepsI_form hs]
      exact us s hs
theorem kept_nodup {n : Int} {al : List (List Int)} (j : Jr n al) (n2 : 2 ≤ n) (n20 : n ≤ 21) : (runsF (sucF (usefulF n al)) (n - 1) 20 [0]).Nodup := by
  have up : Up (sucF (usefulF n al)) (n - 1) := fun i v h => by
    obtain ⟨s, hs, rfl⟩ := List.mem_map.mp h
    obtain ⟨h1, h2⟩ := List.mem_filter.mp hs
    obtain ⟨u, w, rfl, p1, p2, p3⟩ := j.sh s (List.mem_filter.mp h1).1
    have e : u = i := of_decide_eq_true h2
    rw [← e]
    exact ⟨p2, p3⟩
  refine runsF_nodup up (fun i => ?_) 20 (by simp) (by show n - 1 - 0 ≤ (20 : Int); omega)
  refine nodup_map (List.Pairwise.filter _ (List.Pairwise.filter _ j.nd)) fun x hx y hy e => ?_
  obtain ⟨x1, x2⟩ := List.mem_filter.mp hx
  obtain ⟨y1, y2⟩ := List.mem_filter.mp hy
  obtain ⟨u, v, rfl, _⟩ := j.sh x (List.mem_filter.mp x1).1
  obtain ⟨u', v', rfl, _⟩ := j.sh y (List.mem_filter.mp y1).1
  have e1 : u = i := of_decide_eq_true x2
  have e2 : u' = i := of_decide_eq_true y2
  have e3 : v = v' := e
  rw [e1, e2, e3]
end K46
end
section
set_option maxHeartbeats 4000000
/-! P6: what the law compares. -/
namespace K46
open PySem Ja
open L2 hiding CX0 E0 pass0 Fun del del_ne
theorem runB_congr {n : Int} {rs ss : List (List Int)} (h : ∀ r, r ∈ rs ↔ r ∈ ss) {r : List Int} : RunB n rs r ↔ RunB n ss r := by
  rw [RunB, RunB, runV_congr h]
theorem stepsI_len' {r : List Int} : (stepsI r).length = r.length - 1 := stepsI_len r
section
variable {n : Int} {bs fs js : List (List Int)} {names : List Int}
theorem runs_len (jb : Jr n bs) (n2 : 2 ≤ n) (n20 : n ≤ 21) {r : List Int} (h : r ∈ restsG bs (n - 1) 20 0) : r.length < 1000 := by
  have := ((restsG_ok bs (n - 1) 20 0 (by omega) (by show n - 1 - 0 ≤ (20 : Int); omega)).1 r h).2
  omega
theorem runs_many (bs : List (List Int)) (n2 : 2 ≤ n) (n7 : n ≤ 7) : (restsG bs (n - 1) 20 0).length ≤ 100000 := by
  have h := (restsG_ok bs (n - 1) 20 0 (by omega) (by show n - 1 - 0 ≤ (20 : Int); omega)).2
  have h2 : 2 ^ (n - 1 - 0).toNat ≤ 2 ^ 6 := Nat.pow_le_pow_right (by decide) (by omega)
  have h3 : 2 ^ 6 = 64 := by decide
  omega
/-- all runs of the fine routine are the lifts, each once -/
theorem every_run (g : CovJ n bs names js) (jb : Jr n bs) (p : fs.Perm js) (n2 : 2 ≤ n) (n7 : n ≤ 7) : (∀ r ∈ restsG js (names.length - 1) 20 0, r ∈ (restsG bs (n - 1) 20 0).map (liftL fs names)) ∧ (restsG js (names.length - 1) 20 0).length = (restsG bs (n - 1) 20 0).length := by
  have g17 := g.l17
  have g2 := g.l2
  have jf := g.jr.perm p
  have c := g.cov.perm p
  have N2 : (2 : Int) ≤ names.length := by omega
  have e1 : ∀ r, r ∈ restsG js (names.length - 1) 20 0 ↔ RunB names.length fs r := fun r => (all_runs g.jr N2 (by omega)).trans (runB_congr fun x => p.symm.mem_iff)
  have e2 : ∀ r, r ∈ restsG bs (n - 1) 20 0 ↔ RunB n bs r := fun r => all_runs jb n2 (by omega)
  have mem : ∀ r, r ∈ restsG js (names.length - 1) 20 0 ↔ r ∈ (restsG bs (n - 1) 20 0).map (liftL fs names) := fun r => by
    rw [e1, List.mem_map]
    constructor
    · intro h
      exact ⟨r.map (nm names), (e2 _).mpr (name_run c jb jf N2 h), lift_name c jb jf N2 h⟩
    · rintro ⟨s, hs, rfl⟩
      exact lift_run c jb jf n2 N2 ((e2 s).mp hs)
  refine ⟨fun r h => (mem r).mp h, ?_⟩
  have nd := nodup_map (f := liftL fs names) (restsG_nodup bs (n - 1) 20 0) fun x hx y hy e => lift_inj c jb jf N2 ((e2 x).mp hx) ((e2 y).mp hy) e
  have pm := (List.perm_ext_iff_of_nodup (restsG_nodup js (names.length - 1) 20 0) nd).mpr mem
  rw [pm.length_eq, List.length_map]
/-- the runs that a part's lift keeps are the lifts of those that the part keeps, each once -/
theorem kept_run {al ak : List (List Int)} (g : CovJ n bs names js) (jb : Jr n bs) (p : fs.Perm js) (sf : Srt fs) (n2 : 2 ≤ n) (n7 : n ≤ 7) (hk : ∀ x, x ∈ ak ↔ x ∈ al) :
    (∀ r ∈ runsF (sucF (usefulF names.length (liftP names ak fs))) (names.length - 1) 20 [0], r ∈ (keepF (restsG bs (n - 1) 20 0) al).map (liftL fs names)) ∧ (runsF (sucF (usefulF names.length (liftP names ak fs))) (names.length - 1) 20 [0]).length = (keepF (restsG bs (n - 1) 20 0) al).length := by
  have g17 := g.l17
  have g2 := g.l2
  have jf := g.jr.perm p
  have c := g.cov.perm p
  have N2 : (2 : Int) ≤ names.length := by omega
  have jl : Jr names.length (liftP names ak fs) := ⟨fun r hr => jf.sh r (List.mem_filter.mp hr).1, List.Pairwise.filter _ jf.nd⟩
  have pwf : fs.Pairwise RLt := by
    have := rows_pw names.length js
    rw [← rowsF_eq g.jr jf sf p] at this
    exact this
  have pwl : (liftP names ak fs).Pairwise RLt := List.Pairwise.filter _ pwf
  have ml : ∀ s, s ∈ liftP names ak fs ↔ s ∈ fs ∧ [nm names (j0 s), nm names (j1 s)] ∈ al := fun s => by
    unfold liftP
    rw [List.mem_filter, decide_eq_true_iff, hk]
  have e1 : ∀ r, r ∈ runsF (sucF (usefulF names.length (liftP names ak fs))) (names.length - 1) 20 [0] ↔ RunB names.length (liftP names ak fs) r := fun r => kept_mem jl pwl N2 (by omega)
  have e2 : ∀ r, r ∈ restsG bs (n - 1) 20 0 ↔ RunB n bs r := fun r => all_runs jb n2 (by omega)
  have mk : ∀ r, r ∈ keepF (restsG bs (n - 1) 20 0) al ↔ RunB n bs r ∧ ∀ s ∈ stepsI r, s ∈ al := fun r => by
    unfold keepF
    rw [List.mem_filter, e2, decide_eq_true_iff, filt_nil]
    constructor
    · rintro ⟨h1, h2⟩
      exact ⟨h1, fun s hs => by have := h2 s hs; simpa using this⟩
    · rintro ⟨h1, h2⟩
      exact ⟨h1, fun s hs => by simpa using h2 s hs⟩
  have mem : ∀ r, r ∈ runsF (sucF (usefulF names.length (liftP names ak fs))) (names.length - 1) 20 [0] ↔ r ∈ (keepF (restsG bs (n - 1) 20 0) al).map (liftL fs names) := fun r => by
    rw [e1, List.mem_map]
    constructor
    · intro h
      obtain ⟨h1, h2, h3, h4⟩ := runB_iff.mp h
      have hf : RunB names.length fs r := runB_iff.mpr ⟨h1, fun s hs => ((ml s).mp (h2 s hs)).1, h3, h4⟩
      refine ⟨r.map (nm names), (mk _).mpr ⟨name_run c jb jf N2 hf, fun s hs => ?_⟩, lift_name c jb jf N2 hf⟩
      rw [stepsI_map] at hs
      obtain ⟨t, ht, rfl⟩ := List.mem_map.mp hs
      exact ((ml t).mp (h2 t ht)).2
    · rintro ⟨s, hs, rfl⟩
      obtain ⟨q1, q2⟩ := (mk s).mp hs
      obtain ⟨h1, h2, h3, h4⟩ := runB_iff.mp (lift_run c jb jf n2 N2 q1)
      have li := lift_is c jb jf (by omega) q1
      refine runB_iff.mpr ⟨h1, fun t ht => (ml t).mpr ⟨h2 t ht, ?_⟩, h3, h4⟩
      refine q2 _ ?_
      have hm : [nm names (j0 t), nm names (j1 t)] ∈ stepsI ((liftL fs names s).map (nm names)) := by
        rw [stepsI_map]
        exact List.mem_map.mpr ⟨t, ht, rfl⟩
      rw [li.mp] at hm
      exact hm
  refine ⟨fun r h => (mem r).mp h, ?_⟩
  have ndk : (keepF (restsG bs (n - 1) 20 0) al).Nodup := List.Pairwise.filter _ (restsG_nodup bs (n - 1) 20 0)
  have nd := nodup_map (f := liftL fs names) ndk fun x hx y hy e => lift_inj c jb jf N2 ((mk x).mp hx).1 ((mk y).mp hy).1 e
  have pm := (List.perm_ext_iff_of_nodup (kept_nodup jl N2 (by omega)) nd).mpr mem
  rw [pm.length_eq, List.length_map]
/-- the lift's jumps, as the law finds them -/
theorem liftP_rows {al ak : List (List Int)} (g : CovJ n bs names js) (p : fs.Perm js) (sf : Srt fs) (hk : ∀ x, x ∈ ak ↔ x ∈ al) : liftP names ak fs = rowsF names.length (js.filter fun s => decide ([nm names (j0 s), nm names (j1 s)] ∈ al)) := by
  have jf := g.jr.perm p
  have e : liftP names ak fs = fs.filter fun s => decide ([nm names (j0 s), nm names (j1 s)] ∈ al) := by
    unfold liftP
    exact List.filter_congr fun s _ => decide_eq_decide.mpr (hk _)
  rw [e]
  exact rowsF_eq ⟨fun r hr => g.jr.sh r (List.mem_filter.mp hr).1, List.Pairwise.filter _ g.jr.nd⟩ ⟨fun r hr => jf.sh r (List.mem_filter.mp hr).1, List.Pairwise.filter _ jf.nd⟩ (List.Pairwise.filter _ sf) (p.filter _)
theorem sub_filter {al rs : List (List Int)} (h : al.Sublist rs) : ∀ x, x ∈ rs.filter (fun j => decide (j ∈ al)) ↔ x ∈ al := fun x => by
  rw [List.mem_filter, decide_eq_true_iff]
  exact ⟨fun h => h.2, fun z => ⟨h.subset z, z⟩⟩
end
end K46
end
section
set_option maxHeartbeats 8000000
/-! M18: the law. -/
namespace K46
open PySem Ja PyProof.Rows PySem.Spec
open L2 hiding CX0 E0 pass0 Fun del del_ne
open PySem.W (Frag findIn isFn fnIn)
open C8 (Cal Met Mak Def Fun CX0 E0 pass0 fnScope fnBody fnArgs fnScope_by cal0 met0 mak0 pe_c pe_mk pe_mt pe_mt0 pe_gc fn0)
section
variable {CR CP CV : Addr} {H H' : Hp} {f : Addr}
theorem Rt.fr {a : Addr} {n : Int} {rs : List (List Int)} (h : Rt CR H a n rs) (hf : Fd H f) (fr : Fr f H H') : Rt CR H' a n rs := by
  obtain ⟨dx, l, d, h1, h2, h3⟩ := h.ex
  exact ⟨h.jr, h.srt, h.n2, h.n40, h.l120, dx, l, d, fr.bt _ _ h1 (hf.ne h1 (fun xs y => by cases y)), h2.fr hf fr, fr.bt _ _ h3 (hf.ne h3 (fun xs y => by cases y))⟩
theorem Cv.fr {a rb rf : Addr} {n N : Int} {bs fs : List (List Int)} {names : List Int} (h : Cv CR CV H a rb rf n N bs fs names) (hf : Fd H f) (fr : Fr f H H') (hl : ∀ l, LBL CV H a l → l ≠ f) : Cv CR CV H' a rb rf n N bs fs names := by
  obtain ⟨dx, l, d, h1, h2, h3⟩ := h.ex
  exact ⟨h.rtb.fr hf fr, h.rtf.fr hf fr, h.cov, dx, l, d, fr.bt _ _ h1 (hf.ne h1 (fun xs y => by cases y)), fr.bt _ _ h2 (hl l ⟨dx, _, _, _, h1⟩), fr.bt _ _ h3 (hf.ne h3 (fun xs y => by cases y))⟩
theorem LBL.eq {a l k : Addr} (h : LBL CV H a l) (g : LBL CV H a k) : l = k := by
  obtain ⟨dx, b, c, d, h⟩ := h
  obtain ⟨dy, b', c', d', g⟩ := g
  rw [h] at g
  injection g with z
  injection z with z1 z2 z3
  simp only [List.cons.injEq, Prod.mk.injEq, true_and, and_true, V.ref.injEq] at z3
  exact z3.2.2.1
theorem LBL.same {a l : Addr} (h : LBL CV H a l) (s : Same H H') : LBL CV H' a l := by
  obtain ⟨dx, b, c, d, h⟩ := h
  exact ⟨dx, b, c, d, s _ _ h⟩
theorem LBL.fr {a l : Addr} (h : LBL CV H a l) (hf : Fd H f) (fr : Fr f H H') : LBL CV H' a l := by
  obtain ⟨dx, b, c, d, h⟩ := h
  exact ⟨dx, b, c, d, fr.bt _ _ h (hf.ne h (fun xs y => by cases y))⟩
/-- a new feed: all stands -/
theorem Fr.whole {H0 : Hp} (s : Same H0 H) (hf : H0 f = none) (fr : Fr f H H') : Same H0 H' := fun b o e => fr.bt b o (s b o e) (ne_of_none e hf)
end
section
variable {P : Program} {w : World} {Fo : Outcome → Shared → Prop} {K : Frag} {mg : Str → Option Value} {base : Heap} {f CR CC CL CP CV fk : Addr} {fdk : FuncData} {psk : List Str} {cdv : Value} {A : Around} {outer : List Env} {s : Shared} {H : Hp} {Q : VK}
theorem law_body (T : Tb mg) (R : Cl K mg CR "Routine" ["blocks", "rows", "there"]) (RV : Cl K mg CV "Cover" ["base", "fine", "labels", "leads"]) (RP : Cl K mg CP "Part" ["routine", "allowed", "useful"])
    (c_feed : Cal P w K mg base 1 "_law_feed" (spFeed K) []) (c_routine : Cal P w K mg base 3 "_law_routine" spRoutL []) (c_Routine : Mak P w K mg base 4 "Routine" CR (spRinit CR) []) (c_rows : Cal P w K mg base 1 "_law_rows" spRows []) (c_rests : Cal P w K mg base 21 "_law_rests" (spRests 21) []) (c_cover : Cal P w K mg base 3 "_law_cover" spCoverL []) (c_exch : Cal P w K mg base 2 "_law_exchanged" spExchL [])
    (c_Cover : Mak P w K mg base 7 "Cover" CV (spVinit CR CV) []) (c_runsRight : CalG P w K mg base 22 "_law_runs_right" (spRunsRight CR CV)) (c_refused : CalG P w K mg base 8 "_law_refused" (spRefused CR CV)) (c_part : Cal P w K mg base 3 "_law_part" spPartL []) (c_Part : Mak P w K mg base 5 "Part" CP (spPinit CR CP) []) (c_liftP : Met P w K mg base 7 CV "lift_part" (spLiftP CR CP CV) [])
    (c_Pjumps : Prp P w K mg base 1 CP "jumps" (spPjumps CR CP)) (c_keep : Cal P w K mg base 2 "_law_keeping" spKeep []) (c_lift : Cal P w K mg base 1 "_law_lift" spLawLift []) (c_kcl : Cls K CP) (c_kme : Meth K CP "kept_runs" fk) (c_kept : JFn P w K mg base 86 fk fdk psk (spKept CR CP)) (c_kb : Binds K fdk psk [])
    (c_ledger : Cal P w K mg base 4 "_law_ledger" spLedL []) (c_ledR : Cal P w K mg base 11 "_law_ledgers_right" (spLedR CR CV) [])
    (hgd : A.guards = some []) (hr : Room 90 (A.deeper (envOfC "law" (fnScope sLaw) s.heap.objs.size f cdv))) {a : Addr} {zs : List Int} (hs : SqL K H a (zs.map V.int)) (hz : zs.length ≤ 63) (hQ : ∀ H', Q (.bl true) H') :
    ∃ t, SsJ (lcx P w K mg base ["_law_script", "_law_k", "_law_feed_here", "_law_blocks", "_law_drawn", "_law_base", "_law_rows_here", "_law_runs", "_law_names", "_law_jumps", "_law_turn", "_law_cover_here", "_law_some", "_law_fine", "_law_due", "_law_jump", "_law_lifts", "_law_run_here", "_law_told", "_law_times_here"] "law" (fnScope sLaw) f cdv A outer s H) Fo (fnBody sLaw) t ∧ t { nx := fun _ H' => Q .non H', rt := Q } (start ["_law_script", "_law_k", "_law_feed_here", "_law_blocks", "_law_drawn", "_law_base", "_law_rows_here", "_law_runs", "_law_names", "_law_jumps", "_law_turn", "_law_cover_here", "_law_some", "_law_fine", "_law_due", "_law_jump", "_law_lifts", "_law_run_here", "_law_told", "_law_times_here"] [.ref a]) H := by
  have sc : FnScope ["_law_script", "_law_k", "_law_feed_here", "_law_blocks", "_law_drawn", "_law_base", "_law_rows_here", "_law_runs", "_law_names", "_law_jumps", "_law_turn", "_law_cover_here", "_law_some", "_law_fine", "_law_due", "_law_jump", "_law_lifts", "_law_run_here", "_law_told", "_law_times_here"] ["_law_script"] (fnScope sLaw) := fnScope_by (by decide +kernel)
  have hu := hu_of hr
  refine ⟨_, (ssj_cons (sj_for rfl rfl (pi_range1 (by rfl) T.range (pa_cons (pe_callB (call_max2 rfl) (by rfl) T.max PyProof.Rows.boot_max (pa_cons pe_int (pa_cons (pe_callB (call_min2 rfl) (by rfl) T.min PyProof.Rows.boot_min (pa_cons pe_int (pa_cons (pe_callB call_len (by rfl) T.len PySem.boot_len (pa_cons (pv 0) pa_nil)) pa_nil))) pa_nil))) pa_nil)) (pg_name (i := 1) sc.nd rfl (Or.inl rfl))
  (ssj_cons (sj_of rfl (ps_set (i := 2) sc.nd rfl (Or.inl rfl) (pe_c c_feed hr (by decide) rfl (pa_cons (pv 0) (pa_cons (pv 1) pa_nil)))))
  (ssj_cons (sj_of rfl (ps_asg (pe_c c_routine hr (by decide) rfl (pa_cons (pv 2) (pa_cons pe_int pa_nil))) (pg_lst rfl (pgs_cons (pg_name (i := 3) sc.nd rfl (Or.inl rfl)) (pgs_cons (pg_name (i := 4) sc.nd rfl (Or.inl rfl)) pgs_nil)))))
  (ssj_cons (sj_of rfl (ps_par (i := 5) (j := 6) (by rfl) sc.nd rfl rfl (by decide) rfl rfl (pa_cons (pe_mk c_Routine hr (by decide) rfl (pa_cons (pv 3) (pa_cons (pv 4) pa_nil))) (pa_cons (pe_c c_rows hr (by decide) rfl (pa_cons (pv 3) (pa_cons (pv 4) pa_nil))) pa_nil)) (by rfl)))
  (ssj_cons (sj_of rfl (ps_set (i := 7) sc.nd rfl (Or.inl rfl) (pe_c c_rests hr (by decide) rfl (pa_cons pe_int (pa_cons (pe_op op_sub (pv 3) pe_int) (pa_cons (pv 6) pa_nil))))))
  (ssj_cons (sj_of rfl (ps_asg (pe_c c_cover hr (by decide) rfl (pa_cons (pv 2) (pa_cons (pv 3) (pa_cons (pv 6) pa_nil)))) (pg_lst rfl (pgs_cons (pg_name (i := 8) sc.nd rfl (Or.inr rfl)) (pgs_cons (pg_name (i := 9) sc.nd rfl (Or.inr rfl)) pgs_nil)))))
  (ssj_cons (sj_of rfl (ps_for PassesOwn.never rfl (pi_range1 (by rfl) T.range (pa_cons pe_int pa_nil)) (pg_name (i := 10) sc.nd rfl (Or.inl rfl)) (pss_one (ps_asg (pe_c c_exch hr (by decide) rfl (pa_cons (pv 2) (pa_cons (pv 8) (pa_cons (pv 9) pa_nil)))) (pg_lst rfl (pgs_cons (pg_name (i := 8) sc.nd rfl (Or.inr rfl)) (pgs_cons (pg_name (i := 9) sc.nd rfl (Or.inr rfl)) pgs_nil)))))))
  (ssj_cons (sj_of rfl (ps_set (i := 11) sc.nd rfl (Or.inl rfl) (pe_mk c_Cover hr (by decide) rfl (pa_cons (pv 5) (pa_cons (pv 8) (pa_cons (pv 9) pa_nil))))))
  (ssj_cons (sj_of rfl (ps_if (pt_not (pt_val (pe_cG c_runsRight hgd hr (by decide) rfl (pa_cons (pv 11) (pa_cons (pv 8) (pa_cons (pv 9) (pa_cons (pv 7) pa_nil))))))) (pss_one (ps_ret pe_bl)) pss_nil))
  (ssj_cons (sj_of rfl (ps_if (pt_not (pt_val (pe_cG c_refused hgd hr (by decide) rfl (pa_cons (pv 11) (pa_cons (pv 3) (pa_cons (pv 6) (pa_cons (pe_callB call_len (by rfl) T.len PySem.boot_len (pa_cons (pv 8) pa_nil)) (pa_cons (pv 9) pa_nil)))))))) (pss_one (ps_ret pe_bl)) pss_nil))
  (ssj_cons (sj_of rfl (ps_set (i := 12) sc.nd rfl (Or.inr rfl) (pe_c c_part hr (by decide) rfl (pa_cons (pv 2) (pa_cons (pv 6) (pa_cons (pv 7) pa_nil))))))
  (ssj_cons (sj_of rfl (ps_set (i := 13) sc.nd rfl (Or.inl rfl) (pe_mt (pl := _) c_liftP hr (by decide) (pv 11) (pa_cons (pe_mk c_Part hr (by decide) rfl (pa_cons (pv 5) (pa_cons (pv 12) pa_nil))) pa_nil))))
  (ssj_cons (sj_of rfl (ps_setLc (i := 14) (own := [("_law_jump", 15)]) rfl sc.nd rfl rfl (sw_true rfl rfl rfl (by decide +kernel)) (pi_list (pv 9)) (blkOk_by (own := [("_law_jump", 15)]) (N := ["_law_script", "_law_k", "_law_feed_here", "_law_blocks", "_law_drawn", "_law_base", "_law_rows_here", "_law_runs", "_law_names", "_law_jumps", "_law_turn", "_law_cover_here", "_law_some", "_law_fine", "_law_due", "_law_jump", "_law_lifts", "_law_run_here", "_law_told", "_law_times_here"]) (sc := fnScope sLaw) (by decide +kernel)) (fun _ _ _ _ _ => (pg_name (i := 15) sc.nd rfl (Or.inl rfl))) (fun _ _ _ _ _ => pts_one (pt_cmpR (inDk (K := K) rfl (hu65 hr)) (pe_tup (pa_cons (pe_ix (ixL (K := K) rfl) (pv 8) (pe_ix (ixT (K := K) rfl) (pv 15) pe_int (fun _ _ => rfl)) (fun _ _ => rfl)) (pa_cons (pe_ix (ixL (K := K) rfl) (pv 8) (pe_ix (ixT (K := K) rfl) (pv 15) pe_int (fun _ _ => rfl)) (fun _ _ => rfl)) pa_nil))) (pv 12) (by rfl))) (fun _ _ _ _ _ => (pv 15))))
  (ssj_cons (sj_of rfl (ps_if (pt_cmpR (op_neD hr.units) (pe_pr c_Pjumps hr (by decide) (pv 13)) (pe_c c_rows hr (by decide) rfl (pa_cons (pe_callB call_len (by rfl) T.len PySem.boot_len (pa_cons (pv 8) pa_nil)) (pa_cons (pv 14) pa_nil))) (nomark _)) (pss_one (ps_ret pe_bl)) pss_nil))
  (ssj_cons (sj_of rfl (ps_set (i := 16) sc.nd rfl (Or.inr rfl) (pe_lc (own := [("_law_run_here", 17)]) rfl sc.nd (pi_list (pe_c c_keep hr (by decide) rfl (pa_cons (pv 7) (pa_cons (pv 12) pa_nil)))) (blkOk_by (own := [("_law_run_here", 17)]) (N := ["_law_script", "_law_k", "_law_feed_here", "_law_blocks", "_law_drawn", "_law_base", "_law_rows_here", "_law_runs", "_law_names", "_law_jumps", "_law_turn", "_law_cover_here", "_law_some", "_law_fine", "_law_due", "_law_jump", "_law_lifts", "_law_run_here", "_law_told", "_law_times_here"]) (sc := fnScope sLaw) (by decide +kernel)) (fun _ _ _ _ _ => (pg_name (i := 17) sc.nd rfl (Or.inl rfl))) (fun _ _ _ _ _ => pts_nil) (fun _ _ _ _ _ => (pe_c c_lift hr (by decide) rfl (pa_cons (pv 8) (pa_cons (pv 9) (pa_cons (pv 17) pa_nil))))))))
  (ssj_cons (sj_set (i := 18) rfl sc.nd rfl (Or.inl rfl) (ej_list rfl (pj_meth0 (pl := _) (pv 13) c_kcl c_kme c_kept (hr.mono (by decide)) c_kb .nil) (hr.mono (by decide)) (by rfl) T.list PyProof.Rows.boot_list))
  (ssj_cons (sj_of rfl (ps_if (pt_cmpR (op_neD hr.units) (pe_lc (own := [("_law_run_here", 17)]) rfl sc.nd (pi_list (pv 18)) (blkOk_by (own := [("_law_run_here", 17)]) (N := ["_law_script", "_law_k", "_law_feed_here", "_law_blocks", "_law_drawn", "_law_base", "_law_rows_here", "_law_runs", "_law_names", "_law_jumps", "_law_turn", "_law_cover_here", "_law_some", "_law_fine", "_law_due", "_law_jump", "_law_lifts", "_law_run_here", "_law_told", "_law_times_here"]) (sc := fnScope sLaw) (by decide +kernel)) (fun _ _ _ _ _ => (pg_name (i := 17) sc.nd rfl (Or.inl rfl))) (fun _ _ _ _ _ => pts_one (pt_cmpR (notInDk (K := K) rfl (hu65 hr)) (pv 17) (pv 16) (by rfl))) (fun _ _ _ _ _ => (pv 17))) (pe_lst pa_nil) (nomark _)) (pss_one (ps_ret pe_bl)) pss_nil))
  (ssj_cons (sj_of rfl (ps_if (pt_cmpR op_ne (pe_callB call_len (by rfl) T.len PySem.boot_len (pa_cons (pv 18) pa_nil)) (pe_callB call_len (by rfl) T.len PySem.boot_len (pa_cons (pv 16) pa_nil)) (nomark _)) (pss_one (ps_ret pe_bl)) pss_nil))
  (ssj_cons (sj_of rfl (ps_set (i := 19) sc.nd rfl (Or.inl rfl) (pe_c c_ledger hr (by decide) rfl (pa_cons (pv 2) (pa_cons (pv 7) (pa_cons pe_int pa_nil))))))
  (ssj_of rfl (pss_one (ps_if (pt_not (pt_val (pe_c c_ledR hr (by decide) rfl (pa_cons (pv 11) (pa_cons (pv 5) (pa_cons (pv 8) (pa_cons (pv 9) (pa_cons (pv 6) (pa_cons (pv 19) pa_nil))))))))) (pss_one (ps_ret pe_bl)) pss_nil))))))))))))))))))))))
  (ssj_of rfl (pss_one (ps_ret pe_bl)))), ?_⟩
  have hlen : (zs.map V.int).length = zs.length := List.length_map ..
  refine ⟨_, rfl, _, (zs.map V.int).length, rfl, .inl ⟨_, hs, rfl⟩, _, _, rfl, _, _, rfl, _, rfl, by rw [hlen]; split <;> split <;> omega, by rw [hlen]; split <;> split <;> omega, for_it walk_range (fun i σ H' => ∃ v1 v2 v3 v4 v5 v6 v7 v8 v9 v10 v11 v12 v13 v14 v15 v16 v17 v18 v19, σ = [some (.ref a), v1, v2, v3, v4, v5, v6, v7, v8, v9, v10, v11, v12, v13, v14, v15, v16, v17, v18, v19] ∧ Same H H')
    ⟨none, none, none, none, none, none, none, none, none, none, none, none, none, none, none, none, none, none, none, rfl, Same.refl H⟩ (fun _ _ _ _ _ => trivial) ?_ ?_⟩
  · rintro i x σ _ H0 hi ⟨v1, v2, v3, v4, v5, v6, v7, v8, v9, v10, v11, v12, v13, v14, v15, v16, v17, v18, v19, rfl, s0⟩ ⟨rfl, hx⟩
    obtain rfl := at0 hx
    have hi9 : i < 1000 := by
      rw [hlen] at hi
      have : (if (if ((zs.length : Nat) : Int) < 4 then ((zs.length : Nat) : Int) else 4) > 1 then (if ((zs.length : Nat) : Int) < 4 then ((zs.length : Nat) : Int) else 4) else 1).toNat ≤ 64 := by split <;> split <;> omega
      exact Nat.lt_of_lt_of_le hi (Nat.le_trans this (by decide))
    refine ⟨_, rfl, _, rfl, a, i, zs, rfl, Same.seq s0 hs, by omega, by omega, fun H1 f s1 hf0 hf1 => ?_⟩
    have s01 := s0.trans s1
    -- the routine
    refine ⟨_, rfl, f, rfl, hf1, fun H2 l2 q n js fr2 hl2 hq jj n2 n7 jl => ?_⟩
    refine ⟨l2, _, rfl, SqL.of hl2, rfl, _, _, rfl, _, _, rfl, rfl, ?_⟩
    refine ⟨_, rfl, _, rfl, fun rb dxr hrb hdxr hner => ?_⟩
    have s3 : Same H2 (upd (upd H2 dxr (.own rb)) rb (.ins CR dxr [])) := same_upd (same_new hdxr) hrb
    refine ⟨rb, q, dxr, n, js, rfl, upd_same, hq.same s3, jj, n2, by omega, by omega, fun H3 bs pmb hRb hb3 => ⟨rfl, ?_⟩⟩
    have s3 : Same H2 H3 := hb3.same s3 hrb
    have jb := hRb.jr
    refine ⟨_, rfl, _, rfl, q, n, js, rfl, hq.same s3, by omega, by omega, fun H4 rl s4 hrl => ⟨_, _, rfl, ?_⟩⟩
    have ebs : bs = rowsF n js := rowsF_eq jj jb hRb.srt pmb
    rw [← ebs] at hrl
    have hRb := hRb.same s4
    have fr4 := (fr2.same s3).same s4
    -- its runs
    refine ⟨_, rfl, _, _, rfl, rfl, _, rfl, rl, 0, n - 1, bs, rfl, hrl, by omega, by omega, by show n - 1 - 0 ≤ (20 : Int); omega, by omega, fun H5 lu s5 hus => ?_⟩
    have fr5 := fr4.same s5
    have hRb := hRb.same s5
    have hrl := hrl.same s5
    -- a cover of it
    refine ⟨_, rfl, _, rfl, _, rfl, f, rl, n, bs, rfl, fr5.fd, hrl, jb, n2, n7, fun H6 l6 ln lj names jx fr6 hl6 nf1 nf2 hn6 hj6 g6 => ?_⟩
    have hRb := hRb.fr fr5.fd fr6
    have hrl := hrl.fr fr5.fd fr6
    have hus := hus.fr fr5.fd fr6
    have fr6 := fr5.trans fr6
    refine ⟨l6, _, rfl, SqL.of hl6, rfl, _, _, rfl, _, _, rfl, rfl, ?_⟩
    refine ⟨3, rfl, by decide, by decide, for_it walk_range (fun k σ H' => ∃ v10 ln lj names jx, σ = [some (.ref a), some (.int i), some (.ref f), some (.int n), some (.ref q), some (.ref rb), some (.ref rl), some (.ref lu), some (.ref ln), some (.ref lj), v10, v11, v12, v13, v14, v15, v16, v17, v18, v19] ∧ Fr f H1 H' ∧ ln ≠ f ∧ IntL H' ln names ∧ Rows H' lj jx ∧ CovJ n bs names jx ∧ Rt CR H' rb n bs ∧ Rows H' rl bs ∧ Rows H' lu (restsG bs (n - 1) 20 0))
      ⟨v10, ln, lj, names, jx, rfl, fr6, nf1, hn6, hj6, g6, hRb, hrl, hus⟩ (fun _ _ _ _ _ => trivial) ?_ ?_⟩
    · rintro k x σ _ H7 hk ⟨v10, ln, lj, names, jx, rfl, fr7, nf, hn, hj, g, hRb, hrl, hus⟩ ⟨rfl, hx⟩
      refine ⟨_, rfl, _, rfl, _, rfl, f, ln, lj, n, bs, jx, names, rfl, fr7.fd, nf, hn, hj, g, fun H8 l8 ln' lj' names' jx' fr8 hl8 nf' hn' hj' g' => ?_⟩
      refine ⟨l8, _, rfl, SqL.of hl8, rfl, _, _, rfl, _, _, rfl, rfl, ?_⟩
      exact ⟨_, ln', lj', names', jx', rfl, fr7.trans fr8, nf', hn', hj', g', hRb.fr fr7.fd fr8, hrl.fr fr7.fd fr8, hus.fr fr7.fd fr8⟩
    clear hn6 hj6 g6 nf1 nf2 hl6 hRb hrl hus fr6
    rintro σ H7 ⟨v10, ln, lj, names, jx, rfl, fr7, nf, hn, hj, g, hRb, hrl, hus⟩
    have g17 := g.l17
    have g2 := g.l2
    have gjl := g.jl
    refine ⟨_, rfl, _, rfl, _, rfl, fun cv dxc hcv hdxc hnec => ?_⟩
    have s8 : Same H7 (upd (upd H7 dxc (.own cv)) cv (.ins CV dxc [])) := same_upd (same_new hdxc) hcv
    refine ⟨cv, rb, ln, lj, dxc, n, bs, jx, names, rfl, upd_same, hRb.same s8, s8 _ _ hn, hj.same s8, g.jr, g2, by omega, gjl, fun fs p => g.cov.perm p, fun H8 rf fs ll pmf hC lb hln hb8 => ⟨rfl, ?_⟩⟩
    have llf : ll ≠ f := Ne.symm (fr7.fd.ne_new (s8.free hln))
    have s8 : Same H7 H8 := hb8.same s8 hcv
    have fr8 := fr7.same s8
    have hn : IntL H8 ln names := s8 _ _ hn
    have hj := hj.same s8
    have hRb := hRb.same s8
    have hrl := hrl.same s8
    have hus := hus.same s8
    have sf := hC.rtf.srt
    have jf := hC.rtf.jr
    have N2 : (2 : Int) ≤ names.length := by omega
    have covf := hC.cov
    obtain ⟨ev1, ev2⟩ := every_run g jb pmf n2 n7
    have e2 : ∀ r, r ∈ restsG bs (n - 1) 20 0 ↔ RunB n bs r := fun r => all_runs jb n2 (by omega)
    -- the runs
    refine ⟨_, rfl, _, rfl, _, rfl, _, rfl, cv, rb, rf, ln, lj, lu, n, bs, fs, jx, restsG bs (n - 1) 20 0, names, rfl, hC, hn, hj, hus, g, fun r hr' => ⟨(e2 r).mp hr', runs_len jb n2 (by omega) hr', lawLift_eq covf jb jf pmf (by omega) ((e2 r).mp hr')⟩, runs_many bs n2 n7, ev1, ev2, fun H9 s9 => ⟨_, rfl, iff rfl ?_⟩⟩
    have fr9 := fr8.same s9
    have hC := hC.same s9
    have lb := lb.same s9
    have hn : IntL H9 ln names := s9 _ _ hn
    have hj := hj.same s9
    have hrl := hrl.same s9
    have hus := hus.same s9
    -- what is no run
    refine ⟨_, rfl, _, rfl, _, rfl, _, rfl, _, (names.map V.int).length, rfl, .inl ⟨_, SqL.of hn, rfl⟩, _, rfl, ?_⟩
    rw [List.length_map]
    refine ⟨cv, rb, rf, rl, lj, n, names.length, bs, fs, bs, jx, names, rfl, hC, hrl, fun _ => Iff.rfl, jb, hj, fun _ => pmf.symm.mem_iff, g.jr, by omega, by omega, fun HA sA => ⟨_, rfl, iff rfl ?_⟩⟩
    have frA := fr9.same sA
    have hC := hC.same sA
    have lb := lb.same sA
    have hn : IntL HA ln names := sA _ _ hn
    have hj := hj.same sA
    have hrl := hrl.same sA
    have hus := hus.same sA
    -- a part
    have bl := hC.rtb.l120
    refine ⟨_, rfl, _, rfl, _, rfl, f, rl, lu, bs, restsG bs (n - 1) 20 0, rfl, frA.fd, hrl, by omega, hus, fun r hr' => runs_len jb n2 (by omega) hr', by have := runs_many bs n2 n7; omega, fun HB ls al frB hls hsub => ?_⟩
    have hC := hC.fr frA.fd frB fun l z => by rw [z.eq lb]; exact llf
    have lb := lb.fr frA.fd frB
    have hn : IntL HB ln names := frB.intl hn nf
    have hj := hj.fr frA.fd frB
    have hrl := hrl.fr frA.fd frB
    have hus := hus.fr frA.fd frB
    have frB := frA.trans frB
    obtain ⟨cx, cl, cd, ci, _, _⟩ := hC.ex
    refine ⟨_, rfl, cv, cx, _, rfl, ci, by rfl, _, rfl, _, rfl, fun pt dxp hpt hdxp hnep => ?_⟩
    have sC : Same HB (upd (upd HB dxp (.own pt)) pt (.ins CP dxp [])) := same_upd (same_new hdxp) hpt
    refine ⟨pt, rb, ls, dxp, n, bs, al, rfl, upd_same, hC.rtb.same sC, hls.same sC, List.Nodup.sublist hsub jb.nd, fun j hj => hsub.subset hj, fun HC hPt hbC => ⟨rfl, ?_⟩⟩
    have sC : Same HB HC := hbC.same sC hpt
    have hC := hC.same sC
    refine ⟨cv, rb, rf, pt, rb, n, names.length, bs, fs, bs.filter (fun j => decide (j ∈ al)), names, rfl, hC, hPt, fun HD fp sD hF => ?_⟩
    have hk := sub_filter hsub
    have sBD := sC.trans sD
    have frD := frB.same sBD
    have hC := hC.same sD
    have lb := lb.same sBD
    have hn : IntL HD ln names := sBD _ _ hn
    have hj := hj.same sBD
    have hrl := hrl.same sBD
    have hus := hus.same sBD
    have hls := hls.same sBD
    -- its jumps
    obtain ⟨tj, ej, pj⟩ := hj.ex
    have hlj : jx.length = (tj.map V.ref).length := by rw [List.length_map, Paired.length pj]
    refine ⟨_, rfl, lj, rfl, ⟨_, SqL.of ej⟩, fun D hD => ?_⟩
    refine lc_fm (ms := jx) (by rw [hlj]; exact walk_list) (fun s => decide ([nm names (j0 s), nm names (j1 s)] ∈ al)) (fun s => s) (fun H v r => ∃ t, v = .ref t ∧ TupI H t r) (fun H H' v r nl ⟨t, e, q⟩ => ⟨t, e, nl _ _ q (fun xs z => by cases z)⟩) hD (by rw [sizeLine_eq]; omega) (fun H' s => SqL.of (s _ _ ej)) ?_ ?_
    · rintro jj' x v _ HE Nx hjj sE ⟨rfl, hx⟩ kF kT
      obtain ⟨t, rfl, hm⟩ := at_item pj hjj hx
      obtain ⟨u, w, rfl, a0, a1, a2⟩ := g.jr.sh x (List.mem_of_getElem? hjj)
      have hm4 : HE t = some (.tup [.int u, .int w]) := sE _ _ hm
      have hnE : IntL HE ln names := sE _ _ hn
      refine ⟨rfl, ?_⟩
      refine ⟨_, rfl, _, rfl, t, _, 0, V.int u, rfl, rfl, SqT.of hm4, atI0 _ _, ln, _, u, V.int (nm names u), rfl, rfl, SqL.of hnE, nm_at (by omega) (by omega), _, rfl, _, rfl, t, _, 1, V.int w, rfl, rfl, SqT.of hm4, atI1 _ _ _, ln, _, w, V.int (nm names w), rfl, rfl, SqL.of hnE, nm_at (by omega) (by omega), by show 2 ≤ sizeLine; decide, fun gg hg => ?_⟩
      have s5 : Same HE (upd HE gg (.tup [.int (nm names u), .int (nm names w)])) := same_new hg
      have hg5 : TupI (upd HE gg (.tup [.int (nm names u), .int (nm names w)])) gg [nm names u, nm names w] := upd_same
      generalize upd HE gg (.tup [.int (nm names u), .int (nm names w)]) = H5' at s5 hg5
      refine ⟨_, rfl, inR hg5 ((hls.same sE).same s5) ⟨_, rfl, ifb (fun c => ?_) (fun c => kF c _ s5)⟩⟩
      exact ⟨_, rfl, kT c _ _ s5 ⟨t, rfl, s5 _ _ hm4⟩⟩
    intro HE ys sE hDE hpE
    rw [List.map_id'] at hpE
    have hdue : Rows HE D (jx.filter fun s => decide ([nm names (j0 s), nm names (j1 s)] ∈ al)) := Rows.of hDE hpE
    have hF := hF.same sE
    obtain ⟨fx, fdd, fu, fi, _, _⟩ := hF.ex
    refine ⟨_, rfl, fp, fx, _, rfl, fi, fp, rf, names.length, fs, liftP names (bs.filter fun j => decide (j ∈ al)) fs, rfl, hF, fun HF l1 sF hl1 => ?_⟩
    have sEF := sE.trans sF
    have hnF : IntL HF ln names := sEF _ _ hn
    refine ⟨_, rfl, _, (names.map V.int).length, rfl, .inl ⟨_, SqL.of hnF, rfl⟩, _, rfl, ?_⟩
    rw [List.length_map]
    refine ⟨D, names.length, _, rfl, hdue.same sF, by omega, by omega, fun HG l2 sG hl2 => ?_⟩
    rw [← liftP_rows g pmf sf hk] at hl2
    refine neR (hl1.same sG) hl2 ⟨_, rfl, iff (by simp) ?_⟩
    have sDG := sEF.trans sG
    have frG := frD.same sDG
    have hC := hC.same sDG
    have lb := lb.same sDG
    have hn : IntL HG ln names := sDG _ _ hn
    have hj := hj.same sDG
    have hrl := hrl.same sDG
    have hus := hus.same sDG
    have hls := hls.same sDG
    have hF := (hF.same sF).same sG
    -- the lifts of the runs that it keeps
    have ulen := runs_many bs n2 n7
    refine ⟨_, rfl, _, rfl, lu, ls, restsG bs (n - 1) 20 0, al, rfl, hus, hls, fun r hr' => runs_len jb n2 (by omega) hr', by omega, fun HI lk sI hlk => ?_⟩
    have kal := kept_run g jb pmf sf n2 n7 hk
    have klen : (keepF (restsG bs (n - 1) 20 0) al).length ≤ 100000 := Nat.le_trans (List.length_filter_le _ _) ulen
    obtain ⟨tk, ek, pk⟩ := hlk.ex
    have hkl : (keepF (restsG bs (n - 1) 20 0) al).length = (tk.map V.ref).length := by rw [List.length_map, Paired.length pk]
    have hnI : IntL HI ln names := sI _ _ hn
    have hjI := hj.same sI
    refine ⟨lk, rfl, ⟨_, SqL.of ek⟩, fun D2 hD2 => ?_⟩
    refine lc_fm (ms := keepF (restsG bs (n - 1) 20 0) al) (by rw [hkl]; exact walk_list) (fun _ => true) (liftL fs names) (fun H v r => ∃ t, v = .ref t ∧ TupI H t r) (fun H H' v r nl ⟨t, e, q⟩ => ⟨t, e, nl _ _ q (fun xs z => by cases z)⟩) hD2 (by rw [sizeLine_eq]; omega) (fun H' s => SqL.of (s _ _ ek)) ?_ ?_
    · rintro jj' r v _ HJ Nx hjj sJ ⟨rfl, hx⟩ _ kT
      obtain ⟨t, rfl, hm⟩ := at_item pk hjj hx
      have hru := (List.mem_filter.mp (List.mem_of_getElem? hjj)).1
      have hrb := (e2 r).mp hru
      obtain ⟨r1, _, _, _⟩ := runB_iff.mp hrb
      refine ⟨rfl, ?_⟩
      refine ⟨_, rfl, _, rfl, _, rfl, ln, lj, t, names, r, jx, rfl, sJ _ _ hnI, hjI.same sJ, g.jr, by omega, sJ _ _ hm, r1, runs_len jb n2 (by omega) hru, fun HK u sK hu2 => ?_⟩
      rw [lawLift_eq covf jb jf pmf (by omega) hrb] at hu2
      exact kT rfl _ _ sK ⟨u, rfl, hu2⟩
    intro HJ ys2 sJ hDJ hpJ
    rw [ft] at hpJ
    have hlf : Rows HJ D2 ((keepF (restsG bs (n - 1) 20 0) al).map (liftL fs names)) := Rows.of hDJ hpJ
    have sGJ := sI.trans sJ
    have hF := hF.same sGJ
    obtain ⟨fx2, fdd2, fu2, fi2, _, _⟩ := hF.ex
    -- what kept_runs tells
    have tlen := kal.2
    refine ⟨_, rfl, fp, fx2, _, _, rfl, fi2, by rfl, ⟨fp, rf, names.length, fs, _, rfl, hF, by omega, rfl⟩, by rw [tlen, sizeLine_eq]; omega, fun D3 HK vs3 sK hD3 hout => ?_⟩
    have htold : Rows (upd HK D3 (.lst vs3)) D3 (runsF (sucF (usefulF names.length (liftP names (bs.filter fun j => decide (j ∈ al)) fs))) (names.length - 1) 20 [0]) := by
      have : ∀ {rs : List (List Int)} {vs : List V}, Outs HK rs vs → Paired (fun v r => ∃ t, v = V.ref t ∧ TupI (upd HK D3 (.lst vs3)) t r) vs rs := by
        intro rs vs p
        induction p with
        | nil => exact .nil
        | cons h t ih =>
          obtain ⟨z, e1, e2⟩ := h
          exact .cons ⟨z, e1, same_new hD3 _ _ e2⟩ ih
      exact Rows.of upd_same (this hout)
    have sL : Same HJ (upd HK D3 (.lst vs3)) := sK.trans (same_new hD3)
    show tSeq _ _ _ _ (upd HK D3 (.lst vs3))
    generalize upd HK D3 (.lst vs3) = HL at htold sL
    have hlf := hlf.same sL
    obtain ⟨tt, et, pt'⟩ := htold.ex
    have ltt := Paired.length pt'
    have htl : (runsF (sucF (usefulF names.length (liftP names (bs.filter fun j => decide (j ∈ al)) fs))) (names.length - 1) 20 [0]).length = (tt.map V.ref).length := by rw [List.length_map, ltt]
    refine ⟨_, rfl, D3, rfl, ⟨_, SqL.of et⟩, fun D4 hD4 => ?_⟩
    refine lc_fm (ms := runsF (sucF (usefulF names.length (liftP names (bs.filter fun j => decide (j ∈ al)) fs))) (names.length - 1) 20 [0]) (by rw [htl]; exact walk_list) (fun s => !decide (s ∈ (keepF (restsG bs (n - 1) 20 0) al).map (liftL fs names))) (fun s => s) (fun H v r => ∃ t, v = .ref t ∧ TupI H t r) (fun H H' v r nl ⟨t, e, q⟩ => ⟨t, e, nl _ _ q (fun xs z => by cases z)⟩) hD4 (by rw [tlen, sizeLine_eq]; omega) (fun H' s => SqL.of (s _ _ et)) ?_ ?_
    · rintro jj' r v _ HM Nx hjj sM ⟨rfl, hx⟩ kF kT
      obtain ⟨t, rfl, hm⟩ := at_item pt' hjj hx
      refine ⟨rfl, ?_⟩
      refine ⟨_, rfl, _, rfl, notInR (sM _ _ hm) (hlf.same sM) ⟨_, rfl, ifb (fun c => ?_) (fun c => ?_)⟩⟩
      · exact ⟨_, rfl, kT c _ _ (Same.refl _) ⟨t, rfl, sM _ _ hm⟩⟩
      · exact kF c _ (Same.refl _)
    intro HM ys4 sM hDM hpM
    rw [List.map_id'] at hpM
    have e0 : (runsF (sucF (usefulF names.length (liftP names (bs.filter fun j => decide (j ∈ al)) fs))) (names.length - 1) 20 [0]).filter (fun s => !decide (s ∈ (keepF (restsG bs (n - 1) 20 0) al).map (liftL fs names))) = [] := filt_nil.mpr fun x hx => by simpa using kal.1 x hx
    rw [e0] at hpM
    have rowsM : Rows HM D4 [] := Rows.of hDM hpM
    refine ⟨Nat.zero_le _, fun z4 hz4 => ?_⟩
    refine neR (rowsM.same (same_new hz4)) (Rows.nil upd_same) ⟨_, rfl, iff (by simp) ?_⟩
    have sN : Same HL (upd HM z4 (.lst [])) := sM.trans (same_new hz4)
    generalize upd HM z4 (.lst []) = HN at sN
    obtain ⟨tf, ef, pf⟩ := (hlf.same sN).ex
    have ltf := Paired.length pf
    rw [List.length_map] at ltf
    refine ⟨_, rfl, _, (tt.map V.ref).length, rfl, .inl ⟨_, SqL.of (sN _ _ et), rfl⟩, _, rfl, _, (tf.map V.ref).length, rfl, .inl ⟨_, SqL.of ef, rfl⟩, rfl, _, rfl, iff ?_ ?_⟩
    · rw [List.length_map, List.length_map, vint, ltt, ltf, tlen]; simp
    have sGN := (sGJ.trans sL).trans sN
    have frN := frG.same sGN
    have hC := hC.same sGN
    have lb := lb.same sGN
    have hn : IntL HN ln names := sGN _ _ hn
    have hj := hj.same sGN
    have hrl := hrl.same sGN
    have hus := hus.same sGN
    -- the ledgers
    refine ⟨_, rfl, _, rfl, f, lu, restsG bs (n - 1) 20 0, rfl, frN.fd, hus, by omega, fun HO d ps frO hd hd0 led => ?_⟩
    have hC := hC.fr frN.fd frO fun l z => by rw [z.eq lb]; exact llf
    have hn : IntL HO ln names := frO.intl hn nf
    have hj := hj.fr frN.fd frO
    have hrl := hrl.fr frN.fd frO
    have frO := frN.trans frO
    refine ⟨_, rfl, _, rfl, _, rfl, _, rfl, _, rfl, _, rfl, cv, rb, rf, ln, lj, rl, d, n, bs, fs, jx, names, ps, rfl, hC, hn, hj, g, pmf, hrl, hd, led.nd, fun p hp => ⟨(e2 _).mp (led.ok p hp).1, runs_len jb n2 (by omega) (led.ok p hp).1, (led.ok p hp).2.1, lawLift_eq covf jb jf pmf (by omega) ((e2 _).mp (led.ok p hp).1)⟩, led.len, fun p hp => Int.le_trans (led.ok p hp).2.2 (by decide), Int.le_trans led.sum (by decide), fun HP sP => ⟨_, rfl, iff rfl ?_⟩⟩
    exact ⟨_, _, _, _, _, _, _, _, _, _, _, _, _, _, _, _, _, _, _, rfl, s0.trans (Fr.whole s1 hf0 (frO.same sP))⟩
  · rintro σ H1 ⟨v1, v2, v3, v4, v5, v6, v7, v8, v9, v10, v11, v12, v13, v14, v15, v16, v17, v18, v19, rfl, s1⟩
    exact hQ _
end
end K46
end
section
set_option maxHeartbeats 4000000
/-! Hm: what the top leaves, read off. -/
namespace K46
open PySem PySem.Spec PyProof.Rows L2
open PySem.W (Frag)
theorem DP.funD {K : Frag} {d : DP} (e : fnA K (d.at_ K) = d.val) (c : d.ok K = true) : ∃ fd, FunD K d.name d.qual (C8.fnArgs d.st) (C8.fnBody d.st) (C8.fnScope d.st) [] d.kwd (d.at_ K) fd := by
  obtain ⟨kp, c2⟩ := He.ba c
  unfold fnA at e
  cases q : K.lookup (d.at_ K) with
  | none => rw [q] at c2; cases c2
  | some o =>
    obtain ⟨oc, od, dt, osl⟩ := o
    rw [q] at c2 e
    cases dt with
    | func fd =>
      obtain ⟨n1, n2, n3, n4, n5, n6, n7, n8, n9, n10, n11, n12, n13, n14, n15⟩ := fd
      have e2 : (some (n1, n2, n3, n4, n5, n6, n7, n15) : He.FnW) = some (d.name, d.qual, C8.fnArgs d.st, .stmts (C8.fnBody d.st), C8.fnScope d.st, mainGlobals, [], builtinsNs) := e
      simp only [Option.some.injEq, Prod.mk.injEq] at e2
      obtain ⟨h1, h2, h3, h4, h5, h6, h7, h8⟩ := e2
      subst h1 h2 h3 h4 h5 h6 h7 h8
      obtain ⟨k1, k2⟩ := He.ba (show (PySem.W.codeIn K n13 d.qual && (He.dflB K n8 [] && He.kwdB K n9 d.kwd)) = true from c2)
      obtain ⟨k3, k4⟩ := He.ba k2
      exact ⟨_, ⟨oc, od, n8, n9, n10, n11, n12, n13, n14, osl, rfl, q, k1, He.dflB_ok k3, He.kwdB_ok k4⟩, kp⟩
    | _ => cases c2
theorem clB_ok {x : Str} {fs : List Str} {K : Frag} {h : Heap} {mg : Str → Option Value} (X : K.In h) (G : h.Ns mainGlobals mg) (c : clB x fs K = true) : Cl K mg (He.ga K x) x fs := by
  obtain ⟨c1, c⟩ := He.ba c
  obtain ⟨c2, c⟩ := He.ba c
  obtain ⟨c3, c⟩ := He.ba c
  obtain ⟨c4, c⟩ := He.ba c
  obtain ⟨c5, c⟩ := He.ba c
  obtain ⟨c6, c⟩ := He.ba c
  obtain ⟨c7, c⟩ := He.ba c
  obtain ⟨c8, c9⟩ := He.ba c
  have cl := He.cls_ok c2
  exact ⟨cl, fun f hf => He.noat_ok (List.all_eq_true.mp c3 f hf), ⟨cl, He.eqO_ok c6, He.eqO_ok c7, of_decide_eq_true c8, of_decide_eq_true c5, of_decide_eq_true c9⟩, He.glo_ok X G c1, He.eqO_ok c4, of_decide_eq_true c5⟩
theorem dunB_ok {x m : Str} {K : Frag} (c : dunB x m K = true) : Ja.Dun K (He.ga K x) m (He.ma K (He.ga K x) m) ∧ PySem.W.fnIn K (He.ma K (He.ga K x) m) = true := by
  obtain ⟨c1, c⟩ := He.ba c
  obtain ⟨c2, c3⟩ := He.ba c
  exact ⟨⟨He.eqO_ok c1, c2⟩, c3⟩
theorem prpB_ok {x m : Str} {K : Frag} (c : prpB x m K = true) : PropOf K (He.ga K x) m (He.ma K (He.ga K x) m) (pgA K (He.ga K x) m) := by
  obtain ⟨c1, c⟩ := He.ba c
  obtain ⟨c2, c⟩ := He.ba c
  obtain ⟨c3, c4⟩ := He.ba c
  refine ⟨He.eqO_ok c1, He.eqO_ok c2, of_decide_eq_true c3, ?_⟩
  unfold pgA
  split at c4
  · rename_i g r q
    rw [q]
    exact ⟨r, rfl⟩
  · cases c4
theorem rmuB_ok {x : Str} {K : Frag} (c : rmuB x K = true) : PySem.W.findIn K (.ref (He.ga K x)) "__mul__" = some (some (.ref (He.ma K (He.ga K x) "__mul__"))) ∧ PySem.W.selfFirst K (He.ga K x) = true ∧ PySem.W.subIn K (.ref (He.ga K x)) (.type "int") = some false := by
  obtain ⟨c1, c⟩ := He.ba c
  obtain ⟨c2, c3⟩ := He.ba c
  exact ⟨He.eqO_ok c1, c2, of_decide_eq_true c3⟩
theorem oexB_ok {K : Frag} {C : Addr} (c : oexB K C = true) : OexC K C := by
  obtain ⟨c1, c⟩ := He.ba c
  obtain ⟨c2, c⟩ := He.ba c
  obtain ⟨c3, c⟩ := He.ba c
  obtain ⟨c4, c5⟩ := He.ba c
  refine ⟨?_, He.eqO_ok c2, of_decide_eq_true c3, of_decide_eq_true c4, c5⟩
  split at c1
  · rename_i t dd cd sl ho
    obtain ⟨ct, c1⟩ := He.ba c1
    have et : t = "type" := of_decide_eq_true ct
    subst et
    split at c1
    · rename_i C' bm k0 k1 k2 k3 n k5 hm hs
      obtain ⟨_, c1⟩ := He.ba c1
      obtain ⟨d1, c1⟩ := He.ba c1
      obtain ⟨d2, c1⟩ := He.ba c1
      obtain ⟨d3, c1⟩ := He.ba c1
      obtain ⟨d4, d5⟩ := He.ba c1
      have e1 : C' = C := of_decide_eq_true d1
      have e2 : n = "ValueError.__new__" := of_decide_eq_true d2
      subst e1 e2
      obtain ⟨nm, bs, mro, ns, qn, hd, sn, sub, ab, col, del⟩ := cd
      dsimp only at hm d3 d4
      have d3 : del = false := by simpa using d3
      subst hm d3 d4
      have hsl : sl = #[k0, k1, k2, k3, some (.builtin "ValueError.__new__"), k5] := by
        obtain ⟨l⟩ := sl
        have hs : l = [k0, k1, k2, k3, some (.builtin "ValueError.__new__"), k5] := hs
        rw [hs]
      subst hsl
      exact ⟨nm, qn, ns, bs, bm, sn, sub, ab, col, dd, k0, k1, k2, k3, k5, ho, d5⟩
    · cases c1
  · cases c1
theorem Says.def_ {K : Frag} (c : Says K) (i : Nat) {d : DP} (h : dps[i]? = some d := by rfl) : ∃ fd, FunD K d.name d.qual (C8.fnArgs d.st) (C8.fnBody d.st) (C8.fnScope d.st) [] d.kwd (d.at_ K) fd := by
  have e2 : (dps.map fun d => fnA K (d.at_ K))[i]? = (dps.map DP.val)[i]? := by rw [c.fn]
  rw [List.getElem?_map, List.getElem?_map, h] at e2
  exact DP.funD (Option.some.inj e2) (List.all_eq_true.mp c.ok d (List.mem_of_getElem? h))
theorem Says.fact {K : Frag} (c : Says K) (i : Nat) {f : Frag → Bool} (h : exs[i]? = some f := by rfl) : f K = true := List.all_eq_true.mp c.ex f (List.mem_of_getElem? h)
end K46
end
section
set_option maxHeartbeats 4000000
/-! Hz: every def's promise, at the top's facts (written by genZ.py). -/
namespace K46
open PySem Ja PyProof.Rows PySem.Spec
open L2 hiding CX0 E0 pass0 Fun del del_ne
open PySem.W (Frag findIn isFn fnIn)
open C8 (Cal Met Mak Def Fun CX0 E0 pass0 fnScope fnBody fnArgs fnScope_by cal0 met0 mak0 pe_c pe_mk pe_mt pe_mt0 pe_gc fn0)
/-- the facts, and the module's names -/
structure Top (K : Frag) (mg : Str → Option Value) : Prop where
  c : Says K
  ex : ∃ h : Heap, K.In h ∧ h.Ns mainGlobals mg
section
variable {P : Program} {w : World} {K : Frag} {mg : Str → Option Value} {base : Heap}
theorem Top.glo (W : Top K mg) {x : Str} (c : (He.Fa.glo x).ok K = true) : mg x = some (.ref (He.ga K x)) := let ⟨_, X, G⟩ := W.ex; He.glo_ok X G c
theorem Top.fre (W : Top K mg) {x : Str} (c : (He.Fa.free x).ok K = true) : mg x = none := let ⟨_, X, G⟩ := W.ex; He.free_ok X G c
theorem Top.num (W : Top K mg) {x : Str} {i : Int} (c : (He.Fa.int x i).ok K = true) : ∃ u, mg x = some u ∧ RelV (.int i) u := by
  obtain ⟨_, X, G⟩ := W.ex
  obtain ⟨t, e⟩ := He.int_ok X G c
  exact ⟨_, e, t, rfl⟩
theorem Top.cl (W : Top K mg) {x : Str} {fs : List Str} (c : clB x fs K = true) : Cl K mg (He.ga K x) x fs := let ⟨_, X, G⟩ := W.ex; clB_ok X G c
theorem Top.tb (W : Top K mg) : Tb mg := ⟨W.fre (x := "isinstance") (W.c.fact 34 rfl), W.fre (x := "int") (W.c.fact 35 rfl), W.fre (x := "bool") (W.c.fact 36 rfl), W.fre (x := "tuple") (W.c.fact 37 rfl), W.fre (x := "list") (W.c.fact 38 rfl), W.fre (x := "len") (W.c.fact 39 rfl), W.fre (x := "all") (W.c.fact 40 rfl), W.fre (x := "zip") (W.c.fact 41 rfl), W.fre (x := "range") (W.c.fact 42 rfl), W.fre (x := "enumerate") (W.c.fact 43 rfl), W.fre (x := "sorted") (W.c.fact 44 rfl), W.fre (x := "max") (W.c.fact 45 rfl), W.fre (x := "min") (W.c.fact 46 rfl), W.fre (x := "abs") (W.c.fact 47 rfl), W.fre (x := "repr") (W.c.fact 48 rfl)⟩
theorem FunD.cfun {x q : Str} {st : Stmt} {dvs : List V} {kws : List (Str × V)} {f : Addr} {fd : FuncData} (F : FunD K x q (fnArgs st) (fnBody st) (fnScope st) dvs kws f fd) : Fun K x q st f fd := by
  obtain ⟨oc, od, dV, kV, doc, pm, an, cdv, ct, osl, e, lk, hcd, _, _⟩ := F.ex
  exact ⟨oc, od, dV, kV, doc, pm, an, cdv, ct, osl, e, lk, hcd⟩
theorem fn_args (st : Stmt) : fnArgs st = defArgs st ∧ fnBody st = defBody st ∧ fnScope st = defScope st := by cases st <;> exact ⟨rfl, rfl, rfl⟩
theorem FunD.lfun {x q : Str} {st : Stmt} {kws : List (Str × V)} {f : Addr} {fd : FuncData} (F : FunD K x q (fnArgs st) (fnBody st) (fnScope st) [] kws f fd) : L2.Fun K x q st f fd := by
  obtain ⟨oc, od, dV, kV, doc, pm, an, cdv, ct, osl, e, lk, hcd, hD, _⟩ := F.ex
  rcases hD with ⟨_, rfl⟩ | ⟨z, _⟩
  · obtain ⟨e1, e2, e3⟩ := fn_args st
    rw [e1, e2, e3] at e
    exact ⟨⟨oc, od, kV, doc, pm, an, cdv, ct, osl, e, lk, hcd⟩, F.kp⟩
  · exact absurd rfl z
theorem z_clRoutine (W : Top K mg) : Cl K mg (He.ga K "Routine") "Routine" ["blocks", "rows", "there"] := W.cl (W.c.fact (f := clB "Routine" ["blocks", "rows", "there"]) 0 rfl)
theorem z_initRoutine (W : Top K mg) : Mk K (He.ga K "Routine") (He.ma K (He.ga K "Routine") "__init__") := He.mkr_ok (x := "Routine") (W.c.fact 1 rfl)
theorem z_clCounts (W : Top K mg) : Cl K mg (He.ga K "Counts") "Counts" ["routine", "numbers"] := W.cl (W.c.fact (f := clB "Counts" ["routine", "numbers"]) 2 rfl)
theorem z_initCounts (W : Top K mg) : Mk K (He.ga K "Counts") (He.ma K (He.ga K "Counts") "__init__") := He.mkr_ok (x := "Counts") (W.c.fact 3 rfl)
theorem z_clLedger (W : Top K mg) : Cl K mg (He.ga K "Ledger") "Ledger" ["routine", "times"] := W.cl (W.c.fact (f := clB "Ledger" ["routine", "times"]) 4 rfl)
theorem z_initLedger (W : Top K mg) : Mk K (He.ga K "Ledger") (He.ma K (He.ga K "Ledger") "__init__") := He.mkr_ok (x := "Ledger") (W.c.fact 5 rfl)
theorem z_clPart (W : Top K mg) : Cl K mg (He.ga K "Part") "Part" ["routine", "allowed", "useful"] := W.cl (W.c.fact (f := clB "Part" ["routine", "allowed", "useful"]) 6 rfl)
theorem z_initPart (W : Top K mg) : Mk K (He.ga K "Part") (He.ma K (He.ga K "Part") "__init__") := He.mkr_ok (x := "Part") (W.c.fact 7 rfl)
theorem z_clCover (W : Top K mg) : Cl K mg (He.ga K "Cover") "Cover" ["base", "fine", "labels", "leads"] := W.cl (W.c.fact (f := clB "Cover" ["base", "fine", "labels", "leads"]) 8 rfl)
theorem z_initCover (W : Top K mg) : Mk K (He.ga K "Cover") (He.ma K (He.ga K "Cover") "__init__") := He.mkr_ok (x := "Cover") (W.c.fact 9 rfl)
theorem z_is_integer (W : Top K mg) : Cal P w K mg base 1 "is_integer" spInteger [] := by
  obtain ⟨fd, DD⟩ := W.c.def_ (d := ⟨fun K => He.ga K "is_integer", "is_integer", "is_integer", sInteger, []⟩) 0 rfl
  have DF : FunD K "is_integer" "is_integer" (fnArgs sInteger) (fnBody sInteger) (fnScope sInteger) [] [] (He.ga K "is_integer") fd := DD
  exact w_is_integer W.tb ⟨FunD.cfun DF, W.glo (x := "is_integer") (W.c.fact 51 rfl), DF.kp⟩ (DF.bindsN (fun _ _ _ _ _ _ us hl => match us, hl with | [_], _ => rfl))
theorem z_within (W : Top K mg) : Cal P w K mg base 2 "within" spWithin [] := by
  obtain ⟨fd, DD⟩ := W.c.def_ (d := ⟨fun K => He.ga K "within", "within", "within", sWithin, []⟩) 1 rfl
  have DF : FunD K "within" "within" (fnArgs sWithin) (fnBody sWithin) (fnScope sWithin) [] [] (He.ga K "within") fd := DD
  exact w_within (z_is_integer W) ⟨FunD.cfun DF, W.glo (x := "within") (W.c.fact 52 rfl), DF.kp⟩ (DF.bindsN (fun _ _ _ _ _ _ us hl => match us, hl with | [_, _, _], _ => rfl))
theorem z_is_jump (W : Top K mg) : Cal P w K mg base 3 "is_jump" spIsJump [] := by
  obtain ⟨fd, DD⟩ := W.c.def_ (d := ⟨fun K => He.ga K "is_jump", "is_jump", "is_jump", sIsJump, []⟩) 2 rfl
  have DF : FunD K "is_jump" "is_jump" (fnArgs sIsJump) (fnBody sIsJump) (fnScope sIsJump) [] [] (He.ga K "is_jump") fd := DD
  exact w_is_jump W.tb (z_within W) ⟨FunD.cfun DF, W.glo (x := "is_jump") (W.c.fact 53 rfl), DF.kp⟩ (DF.bindsN (fun _ _ _ _ _ _ us hl => match us, hl with | [_, _], _ => rfl))
theorem z_jumps_of (W : Top K mg) : Cal P w K mg base 1 "jumps_of" spJumpsOf [] := by
  obtain ⟨fd, DD⟩ := W.c.def_ (d := ⟨fun K => He.ga K "jumps_of", "jumps_of", "jumps_of", sJumpsOf, []⟩) 3 rfl
  have DF : FunD K "jumps_of" "jumps_of" (fnArgs sJumpsOf) (fnBody sJumpsOf) (fnScope sJumpsOf) [] [] (He.ga K "jumps_of") fd := DD
  exact w_jumps_of W.tb ⟨FunD.cfun DF, W.glo (x := "jumps_of") (W.c.fact 54 rfl), DF.kp⟩ (DF.bindsN (fun _ _ _ _ _ _ us hl => match us, hl with | [_], _ => rfl))
theorem z_Routine___contains__ (W : Top K mg) : Dn P w K mg base 4 (He.ga K "Routine") "__contains__" (spHas (He.ga K "Routine")) := by
  obtain ⟨fd, DD⟩ := W.c.def_ (d := ⟨fun K => He.ma K (He.ga K "Routine") "__contains__", "__contains__", "Routine.__contains__", (sRc 6), []⟩) 43 rfl
  have DF : FunD K "__contains__" "Routine.__contains__" (fnArgs (sRc 6)) (fnBody (sRc 6)) (fnScope (sRc 6)) [] [] (He.ma K (He.ga K "Routine") "__contains__") fd := DD
  exact w_Rhas (z_clRoutine W) (z_is_jump W) (FunD.cfun DF) (dunB_ok (x := "Routine") (m := "__contains__") (W.c.fact 21 rfl)).2 (dunB_ok (x := "Routine") (m := "__contains__") (W.c.fact 21 rfl)).1 (DF.bindsN (fun _ _ _ _ _ _ us hl => match us, hl with | [_, _], _ => rfl))
theorem z_Routine___eq__ (W : Top K mg) : Dn P w K mg base 1 (He.ga K "Routine") "__eq__" (spEq (RtEq (He.ga K "Routine"))) := by
  obtain ⟨fd, DD⟩ := W.c.def_ (d := ⟨fun K => He.ma K (He.ga K "Routine") "__eq__", "__eq__", "Routine.__eq__", (sRc 5), []⟩) 42 rfl
  have DF : FunD K "__eq__" "Routine.__eq__" (fnArgs (sRc 5)) (fnBody (sRc 5)) (fnScope (sRc 5)) [] [] (He.ma K (He.ga K "Routine") "__eq__") fd := DD
  exact w_Req W.tb (z_clRoutine W) (FunD.cfun DF) (dunB_ok (x := "Routine") (m := "__eq__") (W.c.fact 20 rfl)).2 (dunB_ok (x := "Routine") (m := "__eq__") (W.c.fact 20 rfl)).1 (DF.bindsN (fun _ _ _ _ _ _ us hl => match us, hl with | [_, _], _ => rfl))
theorem z_Routine_outs (W : Top K mg) : Met P w K mg base 3 (He.ga K "Routine") "outs" (spOuts (He.ga K "Routine")) [] := by
  obtain ⟨fd, DD⟩ := W.c.def_ (d := ⟨fun K => He.ma K (He.ga K "Routine") "outs", "outs", "Routine.outs", (sRc 8), []⟩) 44 rfl
  have DF : FunD K "outs" "Routine.outs" (fnArgs (sRc 8)) (fnBody (sRc 8)) (fnScope (sRc 8)) [] [] (He.ma K (He.ga K "Routine") "outs") fd := DD
  exact w_Router W.tb (z_clRoutine W) (z_within W) (He.meth_ok (x := "Routine") (m := "outs") (W.c.fact 10 rfl)) (FunD.cfun DF) (DF.bindsN (fun _ _ _ _ _ _ us hl => match us, hl with | [_, _], _ => rfl))
theorem z_Routine_is_run (W : Top K mg) : Met P w K mg base 5 (He.ga K "Routine") "is_run" (spIsRun (He.ga K "Routine")) [] := by
  obtain ⟨fd, DD⟩ := W.c.def_ (d := ⟨fun K => He.ma K (He.ga K "Routine") "is_run", "is_run", "Routine.is_run", (sRc 9), []⟩) 45 rfl
  have DF : FunD K "is_run" "Routine.is_run" (fnArgs (sRc 9)) (fnBody (sRc 9)) (fnScope (sRc 9)) [] [] (He.ma K (He.ga K "Routine") "is_run") fd := DD
  exact w_Risrun W.tb (z_clRoutine W) (z_jumps_of W) (z_Routine___contains__ W) (He.meth_ok (x := "Routine") (m := "is_run") (W.c.fact 11 rfl)) (FunD.cfun DF) (DF.bindsN (fun _ _ _ _ _ _ us hl => match us, hl with | [_, _], _ => rfl))
theorem z_mkRoutine (W : Top K mg) : Mak P w K mg base 4 "Routine" (He.ga K "Routine") (spRinit (He.ga K "Routine")) [] := by
  obtain ⟨fd, DD⟩ := W.c.def_ (d := ⟨fun K => He.ma K (He.ga K "Routine") "__init__", "__init__", "Routine.__init__", (sRc 0), []⟩) 41 rfl
  have DF : FunD K "__init__" "Routine.__init__" (fnArgs (sRc 0)) (fnBody (sRc 0)) (fnScope (sRc 0)) [] [] (He.ma K (He.ga K "Routine") "__init__") fd := DD
  exact w_Rinit W.tb (W.num (x := "MOST_BLOCKS") (i := 40) (W.c.fact 49 rfl)) (W.num (x := "MOST_JUMPS") (i := 120) (W.c.fact 50 rfl)) (z_clRoutine W) (z_initRoutine W) (z_within W) (z_is_jump W) (FunD.cfun DF) (DF.bindsN (fun _ _ _ _ _ _ us hl => match us, hl with | [_, _, _], _ => rfl))
theorem z_come_to (W : Top K mg) : Cal P w K mg base 1 "come_to" spTo [] := by
  obtain ⟨fd, DD⟩ := W.c.def_ (d := ⟨fun K => He.ga K "come_to", "come_to", "come_to", sComeTo, []⟩) 4 rfl
  have DF : FunD K "come_to" "come_to" (fnArgs sComeTo) (fnBody sComeTo) (fnScope sComeTo) [] [] (He.ga K "come_to") fd := DD
  exact w_come_to ⟨FunD.cfun DF, W.glo (x := "come_to") (W.c.fact 55 rfl), DF.kp⟩ (DF.bindsN (fun _ _ _ _ _ _ us hl => match us, hl with | [_, _], _ => rfl))
theorem z_come_from (W : Top K mg) : Cal P w K mg base 1 "come_from" spFrom [] := by
  obtain ⟨fd, DD⟩ := W.c.def_ (d := ⟨fun K => He.ga K "come_from", "come_from", "come_from", sComeFrom, []⟩) 5 rfl
  have DF : FunD K "come_from" "come_from" (fnArgs sComeFrom) (fnBody sComeFrom) (fnScope sComeFrom) [] [] (He.ga K "come_from") fd := DD
  exact w_come_from ⟨FunD.cfun DF, W.glo (x := "come_from") (W.c.fact 56 rfl), DF.kp⟩ (DF.bindsN (fun _ _ _ _ _ _ us hl => match us, hl with | [_, _], _ => rfl))
theorem z_useful_jumps (W : Top K mg) : Cal P w K mg base 2 "useful_jumps" spUse [] := by
  obtain ⟨fd, DD⟩ := W.c.def_ (d := ⟨fun K => He.ga K "useful_jumps", "useful_jumps", "useful_jumps", sUseful, []⟩) 6 rfl
  have DF : FunD K "useful_jumps" "useful_jumps" (fnArgs sUseful) (fnBody sUseful) (fnScope sUseful) [] [] (He.ga K "useful_jumps") fd := DD
  exact w_useful (z_come_to W) (z_come_from W) ⟨FunD.cfun DF, W.glo (x := "useful_jumps") (W.c.fact 57 rfl), DF.kp⟩ (DF.bindsN (fun _ _ _ _ _ _ us hl => match us, hl with | [_, _], _ => rfl))
theorem z_going_on (W : Top K mg) : Cal P w K mg base 1 "going_on" spGo [] := by
  obtain ⟨fd, DD⟩ := W.c.def_ (d := ⟨fun K => He.ga K "going_on", "going_on", "going_on", sGoingOn, []⟩) 8 rfl
  have DF : FunD K "going_on" "going_on" (fnArgs sGoingOn) (fnBody sGoingOn) (fnScope sGoingOn) [] [] (He.ga K "going_on") fd := DD
  exact w_going ⟨FunD.cfun DF, W.glo (x := "going_on") (W.c.fact 59 rfl), DF.kp⟩ (DF.bindsN (fun _ _ _ _ _ _ us hl => match us, hl with | [_], _ => rfl))
theorem z_mkPart (W : Top K mg) : Mak P w K mg base 5 "Part" (He.ga K "Part") (spPinit (He.ga K "Routine") (He.ga K "Part")) [] := by
  obtain ⟨fd, DD⟩ := W.c.def_ (d := ⟨fun K => He.ma K (He.ga K "Part") "__init__", "__init__", "Part.__init__", (sPt 0), []⟩) 56 rfl
  have DF : FunD K "__init__" "Part.__init__" (fnArgs (sPt 0)) (fnBody (sPt 0)) (fnScope (sPt 0)) [] [] (He.ma K (He.ga K "Part") "__init__") fd := DD
  exact w_Pinit W.tb (z_clRoutine W) (z_clPart W) (z_initPart W) (z_Routine___contains__ W) (z_useful_jumps W) (FunD.cfun DF) (DF.bindsN (fun _ _ _ _ _ _ us hl => match us, hl with | [_, _, _], _ => rfl))
theorem z_Part_jumps (W : Top K mg) : Prp P w K mg base 1 (He.ga K "Part") "jumps" (spPjumps (He.ga K "Routine") (He.ga K "Part")) := by
  obtain ⟨fd, DD⟩ := W.c.def_ (d := ⟨fun K => pgA K (He.ga K "Part") "jumps", "jumps", "Part.jumps", (sPt 2), []⟩) 66 rfl
  have DF : FunD K "jumps" "Part.jumps" (fnArgs (sPt 2)) (fnBody (sPt 2)) (fnScope (sPt 2)) [] [] (pgA K (He.ga K "Part") "jumps") fd := DD
  exact ⟨_, _, fd, ["self"], (z_clPart W).cl, prpB_ok (x := "Part") (m := "jumps") (W.c.fact 30 rfl), w_Pjumps W.tb (z_clPart W) (FunD.cfun DF), DF.bindsN (fun _ _ _ _ _ _ us hl => match us, hl with | [_], _ => rfl)⟩
theorem z_kept (W : Top K mg) : ∃ fdk, JFn P w K mg base 86 (He.ma K (He.ga K "Part") "kept_runs") fdk ["self"] (spKept (He.ga K "Routine") (He.ga K "Part")) ∧ Binds K fdk ["self"] [] ∧ Meth K (He.ga K "Part") "kept_runs" (He.ma K (He.ga K "Part") "kept_runs") := by
  obtain ⟨fd, DD⟩ := W.c.def_ (d := ⟨fun K => He.ma K (He.ga K "Part") "kept_runs", "kept_runs", "Part.kept_runs", (sPt 14), []⟩) 57 rfl
  have DF : FunD K "kept_runs" "Part.kept_runs" (fnArgs (sPt 14)) (fnBody (sPt 14)) (fnScope (sPt 14)) [] [] (He.ma K (He.ga K "Part") "kept_runs") fd := DD
  obtain ⟨fd2, DD2⟩ := W.c.def_ (d := ⟨fun K => He.ga K "runs_from", "runs_from", "runs_from", sRunsFrom, []⟩) 7 rfl
  have DF2 : FunD K "runs_from" "runs_from" (fnArgs sRunsFrom) (fnBody sRunsFrom) (fnScope sRunsFrom) [] [] (He.ga K "runs_from") fd2 := DD2
  exact ⟨fd, w_kept (z_clRoutine W) (z_clPart W) (z_going_on W) (FunD.lfun DF2) (W.glo (x := "runs_from") (W.c.fact 58 rfl)) (DF2.bindsN (fun _ _ _ _ _ _ us hl => match us, hl with | [_, _, _], _ => rfl)) (FunD.lfun DF), DF.bindsN (fun _ _ _ _ _ _ us hl => match us, hl with | [_], _ => rfl), He.meth_ok (x := "Part") (m := "kept_runs") (W.c.fact 19 rfl)⟩
theorem z_is_number (W : Top K mg) : Cal P w K mg base 2 "is_number" spNumber [] := by
  obtain ⟨fd, DD⟩ := W.c.def_ (d := ⟨fun K => He.ga K "is_number", "is_number", "is_number", sNumber, []⟩) 9 rfl
  have DF : FunD K "is_number" "is_number" (fnArgs sNumber) (fnBody sNumber) (fnScope sNumber) [] [] (He.ga K "is_number") fd := DD
  exact w_is_number (z_is_integer W) ⟨FunD.cfun DF, W.glo (x := "is_number") (W.c.fact 60 rfl), DF.kp⟩ (DF.bindsN (fun _ _ _ _ _ _ us hl => match us, hl with | [_, _], _ => rfl))
theorem z_named_numbers (W : Top K mg) : Cal P w K mg base 5 "named_numbers" (spNamed (He.ga K "Routine")) [] := by
  obtain ⟨fd, DD⟩ := W.c.def_ (d := ⟨fun K => He.ga K "named_numbers", "named_numbers", "named_numbers", sNamed, []⟩) 10 rfl
  have DF : FunD K "named_numbers" "named_numbers" (fnArgs sNamed) (fnBody sNamed) (fnScope sNamed) [] [] (He.ga K "named_numbers") fd := DD
  exact w_named W.tb (z_is_number W) (z_Routine___contains__ W) ⟨FunD.cfun DF, W.glo (x := "named_numbers") (W.c.fact 61 rfl), DF.kp⟩ (DF.bindsN (fun _ _ _ _ _ _ us hl => match us, hl with | [_, _, _], _ => rfl))
theorem z_uneven_blocks (W : Top K mg) : Cal P w K mg base 1 "uneven_blocks" (spUneven (He.ga K "Routine")) [] := by
  obtain ⟨fd, DD⟩ := W.c.def_ (d := ⟨fun K => He.ga K "uneven_blocks", "uneven_blocks", "uneven_blocks", sUneven, []⟩) 11 rfl
  have DF : FunD K "uneven_blocks" "uneven_blocks" (fnArgs sUneven) (fnBody sUneven) (fnScope sUneven) [] [] (He.ga K "uneven_blocks") fd := DD
  exact w_uneven W.tb (z_clRoutine W) ⟨FunD.cfun DF, W.glo (x := "uneven_blocks") (W.c.fact 62 rfl), DF.kp⟩ (DF.bindsN (fun _ _ _ _ _ _ us hl => match us, hl with | [_, _], _ => rfl))
theorem z_mkKCounts (W : Top K mg) : MakK P w K mg base 6 "Counts" (He.ga K "Counts") (spCinit (He.ga K "Routine") (He.ga K "Counts")) := by
  obtain ⟨fd, DD⟩ := W.c.def_ (d := ⟨fun K => He.ma K (He.ga K "Counts") "__init__", "__init__", "Counts.__init__", (sCt 0), [("most", .int mostN)]⟩) 46 rfl
  have DF : FunD K "__init__" "Counts.__init__" (fnArgs (sCt 0)) (fnBody (sCt 0)) (fnScope (sCt 0)) [] [("most", .int mostN)] (He.ma K (He.ga K "Counts") "__init__") fd := DD
  obtain ⟨mv, kb⟩ := DF.kbinds0 (ps := ["self", "routine", "pairs", "most"]) 3 ["most"] [] (fun us _ ws => us ++ ws) (by simp) (by simp) (fun r _ z => r.append z) (fun _ _ _ _ _ _ us mv ws h1 h2 h3 => match us, h1, mv, h2, ws, h3 with | [_, _, _], _, [], _, [_], _ => rfl)
  exact ⟨_, fd, ["self", "routine", "pairs", "most"], z_initCounts W, w_Cinit W.tb (z_clRoutine W) (z_clCounts W) (z_named_numbers W) (z_uneven_blocks W) (FunD.cfun DF), (z_clCounts W).gl, kb⟩
theorem z_mkCountsD (W : Top K mg) : Mak P w K mg base 6 "Counts" (He.ga K "Counts") (spCinit (He.ga K "Routine") (He.ga K "Counts")) [.int mostN] := by
  obtain ⟨fd, DD⟩ := W.c.def_ (d := ⟨fun K => He.ma K (He.ga K "Counts") "__init__", "__init__", "Counts.__init__", (sCt 0), [("most", .int mostN)]⟩) 46 rfl
  have DF : FunD K "__init__" "Counts.__init__" (fnArgs (sCt 0)) (fnBody (sCt 0)) (fnScope (sCt 0)) [] [("most", .int mostN)] (He.ma K (He.ga K "Counts") "__init__") fd := DD
  obtain ⟨ds, dr, kb⟩ := DF.binds0 (ps := ["self", "routine", "pairs", "most"]) 3 (by simp) rfl (fun _ _ _ _ _ _ us ks h1 h2 => match us, h1, ks, h2 with | [_, _, _], _, [_], _ => ⟨_, _, _, _, _, _, rfl, rfl, rfl⟩)
  exact ⟨_, fd, ["self", "routine", "pairs", "most"], ds, z_initCounts W, w_Cinit W.tb (z_clRoutine W) (z_clCounts W) (z_named_numbers W) (z_uneven_blocks W) (FunD.cfun DF), (z_clCounts W).gl, kb, dr⟩
theorem z_Counts___getitem__ (W : Top K mg) : Dn P w K mg base 5 (He.ga K "Counts") "__getitem__" (spCget (He.ga K "Routine") (He.ga K "Counts")) := by
  obtain ⟨fd, DD⟩ := W.c.def_ (d := ⟨fun K => He.ma K (He.ga K "Counts") "__getitem__", "__getitem__", "Counts.__getitem__", (sCt 5), []⟩) 47 rfl
  have DF : FunD K "__getitem__" "Counts.__getitem__" (fnArgs (sCt 5)) (fnBody (sCt 5)) (fnScope (sCt 5)) [] [] (He.ma K (He.ga K "Counts") "__getitem__") fd := DD
  exact w_Cget (z_clCounts W) (z_Routine___contains__ W) (FunD.cfun DF) (dunB_ok (x := "Counts") (m := "__getitem__") (W.c.fact 22 rfl)).2 (dunB_ok (x := "Counts") (m := "__getitem__") (W.c.fact 22 rfl)).1 (DF.bindsN (fun _ _ _ _ _ _ us hl => match us, hl with | [_, _], _ => rfl))
theorem z_Counts___eq__ (W : Top K mg) : Dn P w K mg base 2 (He.ga K "Counts") "__eq__" (spEq (CtEq (He.ga K "Routine") (He.ga K "Counts"))) := by
  obtain ⟨fd, DD⟩ := W.c.def_ (d := ⟨fun K => He.ma K (He.ga K "Counts") "__eq__", "__eq__", "Counts.__eq__", (sCt 6), []⟩) 48 rfl
  have DF : FunD K "__eq__" "Counts.__eq__" (fnArgs (sCt 6)) (fnBody (sCt 6)) (fnScope (sCt 6)) [] [] (He.ma K (He.ga K "Counts") "__eq__") fd := DD
  exact w_Ceq W.tb (z_clCounts W) (z_Routine___eq__ W) (FunD.cfun DF) (dunB_ok (x := "Counts") (m := "__eq__") (W.c.fact 23 rfl)).2 (dunB_ok (x := "Counts") (m := "__eq__") (W.c.fact 23 rfl)).1 (DF.bindsN (fun _ _ _ _ _ _ us hl => match us, hl with | [_, _], _ => rfl))
theorem z_Counts_rmul (W : Top K mg) : Rmu P w K mg base 8 (He.ga K "Counts") (spCmul (He.ga K "Routine") (He.ga K "Counts")) := by
  obtain ⟨fd, DD⟩ := W.c.def_ (d := ⟨fun K => He.ma K (He.ga K "Counts") "__rmul__", "__rmul__", "Counts.__rmul__", (sCt 9), []⟩) 49 rfl
  have DF : FunD K "__rmul__" "Counts.__rmul__" (fnArgs (sCt 9)) (fnBody (sCt 9)) (fnScope (sCt 9)) [] [] (He.ma K (He.ga K "Counts") "__rmul__") fd := DD
  obtain ⟨h1, h2, h3⟩ := rmuB_ok (x := "Counts") (W.c.fact 31 rfl)
  exact ⟨_, fd, ["self", "other"], _, (dunB_ok (x := "Counts") (m := "__rmul__") (W.c.fact 24 rfl)).1, h1, h2, h3, w_Cmul (z_clCounts W) (z_is_integer W) (z_mkKCounts W) (FunD.cfun DF), DF.bindsN (fun _ _ _ _ _ _ us hl => match us, hl with | [_, _], _ => rfl)⟩
theorem z_times_of (W : Top K mg) : Cal P w K mg base 6 "times_of" (spTimes (He.ga K "Routine")) [] := by
  obtain ⟨fd, DD⟩ := W.c.def_ (d := ⟨fun K => He.ga K "times_of", "times_of", "times_of", sTimesOf, []⟩) 12 rfl
  have DF : FunD K "times_of" "times_of" (fnArgs sTimesOf) (fnBody sTimesOf) (fnScope sTimesOf) [] [] (He.ga K "times_of") fd := DD
  exact w_times W.tb (z_clRoutine W) (z_is_integer W) (z_Routine_is_run W) ⟨FunD.cfun DF, W.glo (x := "times_of") (W.c.fact 63 rfl), DF.kp⟩ (DF.bindsN (fun _ _ _ _ _ _ us hl => match us, hl with | [_, _, _], _ => rfl))
theorem z_multiplied (W : Top K mg) : Cal P w K mg base 1 "multiplied" spMulti [] := by
  obtain ⟨fd, DD⟩ := W.c.def_ (d := ⟨fun K => He.ga K "multiplied", "multiplied", "multiplied", sMultiplied, []⟩) 13 rfl
  have DF : FunD K "multiplied" "multiplied" (fnArgs sMultiplied) (fnBody sMultiplied) (fnScope sMultiplied) [] [] (He.ga K "multiplied") fd := DD
  exact w_multi ⟨FunD.cfun DF, W.glo (x := "multiplied") (W.c.fact 64 rfl), DF.kp⟩ (DF.bindsN (fun _ _ _ _ _ _ us hl => match us, hl with | [_, _], _ => rfl))
theorem z_mkKLedger (W : Top K mg) : MakK P w K mg base 7 "Ledger" (He.ga K "Ledger") (spLinit (He.ga K "Routine") (He.ga K "Ledger")) := by
  obtain ⟨fd, DD⟩ := W.c.def_ (d := ⟨fun K => He.ma K (He.ga K "Ledger") "__init__", "__init__", "Ledger.__init__", (sLg 0), [("most", .int mostN)]⟩) 50 rfl
  have DF : FunD K "__init__" "Ledger.__init__" (fnArgs (sLg 0)) (fnBody (sLg 0)) (fnScope (sLg 0)) [] [("most", .int mostN)] (He.ma K (He.ga K "Ledger") "__init__") fd := DD
  obtain ⟨mv, kb⟩ := DF.kbinds0 (ps := ["self", "routine", "entries", "most"]) 3 ["most"] [] (fun us _ ws => us ++ ws) (by simp) (by simp) (fun r _ z => r.append z) (fun _ _ _ _ _ _ us mv ws h1 h2 h3 => match us, h1, mv, h2, ws, h3 with | [_, _, _], _, [], _, [_], _ => rfl)
  exact ⟨_, fd, ["self", "routine", "entries", "most"], z_initLedger W, w_Linit (z_clLedger W) (z_times_of W) (FunD.cfun DF), (z_clLedger W).gl, kb⟩
theorem z_mkLedgerD (W : Top K mg) : Mak P w K mg base 7 "Ledger" (He.ga K "Ledger") (spLinit (He.ga K "Routine") (He.ga K "Ledger")) [.int mostN] := by
  obtain ⟨fd, DD⟩ := W.c.def_ (d := ⟨fun K => He.ma K (He.ga K "Ledger") "__init__", "__init__", "Ledger.__init__", (sLg 0), [("most", .int mostN)]⟩) 50 rfl
  have DF : FunD K "__init__" "Ledger.__init__" (fnArgs (sLg 0)) (fnBody (sLg 0)) (fnScope (sLg 0)) [] [("most", .int mostN)] (He.ma K (He.ga K "Ledger") "__init__") fd := DD
  obtain ⟨ds, dr, kb⟩ := DF.binds0 (ps := ["self", "routine", "entries", "most"]) 3 (by simp) rfl (fun _ _ _ _ _ _ us ks h1 h2 => match us, h1, ks, h2 with | [_, _, _], _, [_], _ => ⟨_, _, _, _, _, _, rfl, rfl, rfl⟩)
  exact ⟨_, fd, ["self", "routine", "entries", "most"], ds, z_initLedger W, w_Linit (z_clLedger W) (z_times_of W) (FunD.cfun DF), (z_clLedger W).gl, kb, dr⟩
theorem z_Ledger_entries (W : Top K mg) : Prp P w K mg base 1 (He.ga K "Ledger") "entries" (spLentries (He.ga K "Routine") (He.ga K "Ledger")) := by
  obtain ⟨fd, DD⟩ := W.c.def_ (d := ⟨fun K => pgA K (He.ga K "Ledger") "entries", "entries", "Ledger.entries", (sLg 1), []⟩) 65 rfl
  have DF : FunD K "entries" "Ledger.entries" (fnArgs (sLg 1)) (fnBody (sLg 1)) (fnScope (sLg 1)) [] [] (pgA K (He.ga K "Ledger") "entries") fd := DD
  exact ⟨_, _, fd, ["self"], (z_clLedger W).cl, prpB_ok (x := "Ledger") (m := "entries") (W.c.fact 29 rfl), w_Lentries W.tb (z_clLedger W) (FunD.cfun DF), DF.bindsN (fun _ _ _ _ _ _ us hl => match us, hl with | [_], _ => rfl)⟩
theorem z_Ledger___getitem__ (W : Top K mg) : Dn P w K mg base 6 (He.ga K "Ledger") "__getitem__" (spLget (He.ga K "Routine") (He.ga K "Ledger")) := by
  obtain ⟨fd, DD⟩ := W.c.def_ (d := ⟨fun K => He.ma K (He.ga K "Ledger") "__getitem__", "__getitem__", "Ledger.__getitem__", (sLg 3), []⟩) 51 rfl
  have DF : FunD K "__getitem__" "Ledger.__getitem__" (fnArgs (sLg 3)) (fnBody (sLg 3)) (fnScope (sLg 3)) [] [] (He.ma K (He.ga K "Ledger") "__getitem__") fd := DD
  exact w_Lget (z_clRoutine W) (z_clLedger W) (z_Routine_is_run W) (FunD.cfun DF) (dunB_ok (x := "Ledger") (m := "__getitem__") (W.c.fact 25 rfl)).2 (dunB_ok (x := "Ledger") (m := "__getitem__") (W.c.fact 25 rfl)).1 (DF.bindsN (fun _ _ _ _ _ _ us hl => match us, hl with | [_, _], _ => rfl))
theorem z_Ledger___len__ (W : Top K mg) : Dn P w K mg base 1 (He.ga K "Ledger") "__len__" (spLlen (He.ga K "Routine") (He.ga K "Ledger")) := by
  obtain ⟨fd, DD⟩ := W.c.def_ (d := ⟨fun K => He.ma K (He.ga K "Ledger") "__len__", "__len__", "Ledger.__len__", (sLg 4), []⟩) 52 rfl
  have DF : FunD K "__len__" "Ledger.__len__" (fnArgs (sLg 4)) (fnBody (sLg 4)) (fnScope (sLg 4)) [] [] (He.ma K (He.ga K "Ledger") "__len__") fd := DD
  exact w_Llen W.tb (z_clLedger W) (FunD.cfun DF) (dunB_ok (x := "Ledger") (m := "__len__") (W.c.fact 26 rfl)).2 (dunB_ok (x := "Ledger") (m := "__len__") (W.c.fact 26 rfl)).1 (DF.bindsN (fun _ _ _ _ _ _ us hl => match us, hl with | [_], _ => rfl))
theorem z_Ledger___eq__ (W : Top K mg) : Dn P w K mg base 2 (He.ga K "Ledger") "__eq__" (spEq (LgEq (He.ga K "Routine") (He.ga K "Ledger"))) := by
  obtain ⟨fd, DD⟩ := W.c.def_ (d := ⟨fun K => He.ma K (He.ga K "Ledger") "__eq__", "__eq__", "Ledger.__eq__", (sLg 5), []⟩) 53 rfl
  have DF : FunD K "__eq__" "Ledger.__eq__" (fnArgs (sLg 5)) (fnBody (sLg 5)) (fnScope (sLg 5)) [] [] (He.ma K (He.ga K "Ledger") "__eq__") fd := DD
  exact w_Leq W.tb (z_clLedger W) (z_Routine___eq__ W) (FunD.cfun DF) (dunB_ok (x := "Ledger") (m := "__eq__") (W.c.fact 27 rfl)).2 (dunB_ok (x := "Ledger") (m := "__eq__") (W.c.fact 27 rfl)).1 (DF.bindsN (fun _ _ _ _ _ _ us hl => match us, hl with | [_, _], _ => rfl))
theorem z_Ledger_rmul (W : Top K mg) : Rmu P w K mg base 9 (He.ga K "Ledger") (spLmul (He.ga K "Routine") (He.ga K "Ledger")) := by
  obtain ⟨fd, DD⟩ := W.c.def_ (d := ⟨fun K => He.ma K (He.ga K "Ledger") "__rmul__", "__rmul__", "Ledger.__rmul__", (sLg 8), []⟩) 54 rfl
  have DF : FunD K "__rmul__" "Ledger.__rmul__" (fnArgs (sLg 8)) (fnBody (sLg 8)) (fnScope (sLg 8)) [] [] (He.ma K (He.ga K "Ledger") "__rmul__") fd := DD
  obtain ⟨h1, h2, h3⟩ := rmuB_ok (x := "Ledger") (W.c.fact 32 rfl)
  exact ⟨_, fd, ["self", "other"], _, (dunB_ok (x := "Ledger") (m := "__rmul__") (W.c.fact 28 rfl)).1, h1, h2, h3, w_Lmul (z_clLedger W) (z_is_integer W) (z_multiplied W) (z_mkKLedger W) (FunD.cfun DF), DF.bindsN (fun _ _ _ _ _ _ us hl => match us, hl with | [_, _], _ => rfl)⟩
theorem z_Ledger_counts (W : Top K mg) : Met P w K mg base 8 (He.ga K "Ledger") "counts" (spLcounts (He.ga K "Routine") (He.ga K "Counts") (He.ga K "Ledger")) [] := by
  obtain ⟨fd, DD⟩ := W.c.def_ (d := ⟨fun K => He.ma K (He.ga K "Ledger") "counts", "counts", "Ledger.counts", (sLg 9), []⟩) 55 rfl
  have DF : FunD K "counts" "Ledger.counts" (fnArgs (sLg 9)) (fnBody (sLg 9)) (fnScope (sLg 9)) [] [] (He.ma K (He.ga K "Ledger") "counts") fd := DD
  exact w_Lcounts (z_clLedger W) W.tb (z_jumps_of W) (z_mkKCounts W) (He.meth_ok (x := "Ledger") (m := "counts") (W.c.fact 12 rfl)) (FunD.cfun DF) (DF.bindsN (fun _ _ _ _ _ _ us hl => match us, hl with | [_], _ => rfl))
theorem z_fine_of (W : Top K mg) : Cal P w K mg base 6 "fine_of" (spFine (He.ga K "Routine")) [] := by
  obtain ⟨fd, DD⟩ := W.c.def_ (d := ⟨fun K => He.ga K "fine_of", "fine_of", "fine_of", sFineOf, []⟩) 14 rfl
  have DF : FunD K "fine_of" "fine_of" (fnArgs sFineOf) (fnBody sFineOf) (fnScope sFineOf) [] [] (He.ga K "fine_of") fd := DD
  exact w_fine W.tb (z_mkRoutine W) ⟨FunD.cfun DF, W.glo (x := "fine_of") (W.c.fact 65 rfl), DF.kp⟩ (DF.bindsN (fun _ _ _ _ _ _ us hl => match us, hl with | [_, _], _ => rfl))
theorem z_named_right (W : Top K mg) : Cal P w K mg base 4 "named_right" (spNR (He.ga K "Routine")) [] := by
  obtain ⟨fd, DD⟩ := W.c.def_ (d := ⟨fun K => He.ga K "named_right", "named_right", "named_right", sNamedRight, []⟩) 15 rfl
  have DF : FunD K "named_right" "named_right" (fnArgs sNamedRight) (fnBody sNamedRight) (fnScope sNamedRight) [] [] (He.ga K "named_right") fd := DD
  exact w_nr W.tb (z_clRoutine W) (z_within W) (z_Routine_outs W) ⟨FunD.cfun DF, W.glo (x := "named_right") (W.c.fact 66 rfl), DF.kp⟩ (DF.bindsN (fun _ _ _ _ _ _ us hl => match us, hl with | [_, _, _], _ => rfl))
theorem z_mkCover (W : Top K mg) : Mak P w K mg base 7 "Cover" (He.ga K "Cover") (spVinit (He.ga K "Routine") (He.ga K "Cover")) [] := by
  obtain ⟨fd, DD⟩ := W.c.def_ (d := ⟨fun K => He.ma K (He.ga K "Cover") "__init__", "__init__", "Cover.__init__", (sCv 0), []⟩) 58 rfl
  have DF : FunD K "__init__" "Cover.__init__" (fnArgs (sCv 0)) (fnBody (sCv 0)) (fnScope (sCv 0)) [] [] (He.ma K (He.ga K "Cover") "__init__") fd := DD
  exact w_Vinit W.tb (z_clRoutine W) (z_clCover W) (z_initCover W) (z_fine_of W) (z_named_right W) (FunD.cfun DF) (DF.bindsN (fun _ _ _ _ _ _ us hl => match us, hl with | [_, _, _, _], _ => rfl))
theorem z_Cover_lift_part (W : Top K mg) : Met P w K mg base 7 (He.ga K "Cover") "lift_part" (spLiftP (He.ga K "Routine") (He.ga K "Part") (He.ga K "Cover")) [] := by
  obtain ⟨fd, DD⟩ := W.c.def_ (d := ⟨fun K => He.ma K (He.ga K "Cover") "lift_part", "lift_part", "Cover.lift_part", (sCv 7), []⟩) 61 rfl
  have DF : FunD K "lift_part" "Cover.lift_part" (fnArgs (sCv 7)) (fnBody (sCv 7)) (fnScope (sCv 7)) [] [] (He.ma K (He.ga K "Cover") "lift_part") fd := DD
  exact w_liftP (z_clRoutine W) (z_clCover W) (z_clPart W) (z_Routine___eq__ W) (z_mkPart W) (He.meth_ok (x := "Cover") (m := "lift_part") (W.c.fact 15 rfl)) (FunD.cfun DF) (DF.bindsN (fun _ _ _ _ _ _ us hl => match us, hl with | [_, _], _ => rfl))
theorem z_Cover_sums (W : Top K mg) : Met P w K mg base 8 (He.ga K "Cover") "sums" (spSums (He.ga K "Routine") (He.ga K "Counts") (He.ga K "Cover")) [] := by
  obtain ⟨fd, DD⟩ := W.c.def_ (d := ⟨fun K => He.ma K (He.ga K "Cover") "sums", "sums", "Cover.sums", (sCv 10), []⟩) 64 rfl
  have DF : FunD K "sums" "Cover.sums" (fnArgs (sCv 10)) (fnBody (sCv 10)) (fnScope (sCv 10)) [] [] (He.ma K (He.ga K "Cover") "sums") fd := DD
  exact w_sums W.tb (z_clRoutine W) (z_clCover W) (z_clCounts W) (z_Routine___eq__ W) (z_mkKCounts W) (He.meth_ok (x := "Cover") (m := "sums") (W.c.fact 18 rfl)) (FunD.cfun DF) (DF.bindsN (fun _ _ _ _ _ _ us hl => match us, hl with | [_, _], _ => rfl))
theorem z_NR (W : Top K mg) : NR P w K mg base (He.ga K "NoRun") := by
  obtain ⟨fd, DD⟩ := W.c.def_ (d := ⟨fun K => He.ma K (He.ga K "NoRun") "__init__", "__init__", "NoRun.__init__", (inClass (top 8) 0), []⟩) 67 rfl
  have DF : FunD K "__init__" "NoRun.__init__" (fnArgs (inClass (top 8) 0)) (fnBody (inClass (top 8) 0)) (fnScope (inClass (top 8) 0)) [] [] (He.ma K (He.ga K "NoRun") "__init__") fd := DD
  obtain ⟨c1, c⟩ := He.ba (W.c.fact (f := norB) 33 rfl)
  obtain ⟨c2, c⟩ := He.ba c
  obtain ⟨c3, c⟩ := He.ba c
  obtain ⟨c4, c⟩ := He.ba c
  obtain ⟨c5, c⟩ := He.ba c
  obtain ⟨c6, c7⟩ := He.ba c
  exact ⟨oexB_ok c2, xfB_ok c3, W.glo c1, He.eqO_ok c4, of_decide_eq_true c5, _, fd, ["self", "run"], He.eqO_ok c6, of_decide_eq_true c7, w_NRinit (oexB_ok c2) (He.eqO_ok c4) (FunD.cfun DF), DF.bindsN (fun _ _ _ _ _ _ us hl => match us, hl with | [_, _], _ => rfl)⟩
theorem z_Cover_name (W : Top K mg) : MetX P w K mg base 6 (He.ga K "Cover") "name" (spName (He.ga K "Routine") (He.ga K "Cover") (He.ga K "NoRun")) := by
  obtain ⟨fd, DD⟩ := W.c.def_ (d := ⟨fun K => He.ma K (He.ga K "Cover") "name", "name", "Cover.name", (sCv 6), []⟩) 60 rfl
  have DF : FunD K "name" "Cover.name" (fnArgs (sCv 6)) (fnBody (sCv 6)) (fnScope (sCv 6)) [] [] (He.ma K (He.ga K "Cover") "name") fd := DD
  exact w_name W.tb (z_clRoutine W) (z_clCover W) (z_NR W) (z_Routine_is_run W) (He.meth_ok (x := "Cover") (m := "name") (W.c.fact 14 rfl)) (FunD.cfun DF) (DF.bindsN (fun _ _ _ _ _ _ us hl => match us, hl with | [_, _], _ => rfl))
theorem z_Cover_lift (W : Top K mg) : MetX P w K mg base 6 (He.ga K "Cover") "lift" (spLift (He.ga K "Routine") (He.ga K "Cover") (He.ga K "NoRun")) := by
  obtain ⟨fd, DD⟩ := W.c.def_ (d := ⟨fun K => He.ma K (He.ga K "Cover") "lift", "lift", "Cover.lift", (sCv 5), []⟩) 59 rfl
  have DF : FunD K "lift" "Cover.lift" (fnArgs (sCv 5)) (fnBody (sCv 5)) (fnScope (sCv 5)) [] [] (He.ma K (He.ga K "Cover") "lift") fd := DD
  exact w_lift W.tb (z_clRoutine W) (z_clCover W) (z_NR W) (z_Routine_is_run W) (He.meth_ok (x := "Cover") (m := "lift") (W.c.fact 13 rfl)) (FunD.cfun DF) (DF.bindsN (fun _ _ _ _ _ _ us hl => match us, hl with | [_, _], _ => rfl))
theorem z_Cover_lift_ledger (W : Top K mg) : Met P w K mg base 9 (He.ga K "Cover") "lift_ledger" (spLiftL (He.ga K "Routine") (He.ga K "Ledger") (He.ga K "Cover")) [] := by
  obtain ⟨fd, DD⟩ := W.c.def_ (d := ⟨fun K => He.ma K (He.ga K "Cover") "lift_ledger", "lift_ledger", "Cover.lift_ledger", (sCv 8), []⟩) 62 rfl
  have DF : FunD K "lift_ledger" "Cover.lift_ledger" (fnArgs (sCv 8)) (fnBody (sCv 8)) (fnScope (sCv 8)) [] [] (He.ma K (He.ga K "Cover") "lift_ledger") fd := DD
  exact w_liftL (z_clRoutine W) (z_clCover W) (z_clLedger W) (z_Routine___eq__ W) (z_Cover_lift W) (z_mkKLedger W) (He.meth_ok (x := "Cover") (m := "lift_ledger") (W.c.fact 16 rfl)) (FunD.cfun DF) (DF.bindsN (fun _ _ _ _ _ _ us hl => match us, hl with | [_, _], _ => rfl))
theorem z_Cover_name_ledger (W : Top K mg) : Met P w K mg base 9 (He.ga K "Cover") "name_ledger" (spNameL (He.ga K "Routine") (He.ga K "Ledger") (He.ga K "Cover")) [] := by
  obtain ⟨fd, DD⟩ := W.c.def_ (d := ⟨fun K => He.ma K (He.ga K "Cover") "name_ledger", "name_ledger", "Cover.name_ledger", (sCv 9), []⟩) 63 rfl
  have DF : FunD K "name_ledger" "Cover.name_ledger" (fnArgs (sCv 9)) (fnBody (sCv 9)) (fnScope (sCv 9)) [] [] (He.ma K (He.ga K "Cover") "name_ledger") fd := DD
  exact w_nameL (z_clRoutine W) (z_clCover W) (z_clLedger W) (z_Routine___eq__ W) (z_Cover_name W) (z_mkKLedger W) (He.meth_ok (x := "Cover") (m := "name_ledger") (W.c.fact 17 rfl)) (FunD.cfun DF) (DF.bindsN (fun _ _ _ _ _ _ us hl => match us, hl with | [_, _], _ => rfl))
theorem z__law_take (W : Top K mg) : Cal P w K mg base 1 "_law_take" spTake [] := by
  obtain ⟨fd, DD⟩ := W.c.def_ (d := ⟨fun K => He.ga K "_law_take", "_law_take", "_law_take", sTake, []⟩) 17 rfl
  have DF : FunD K "_law_take" "_law_take" (fnArgs sTake) (fnBody sTake) (fnScope sTake) [] [] (He.ga K "_law_take") fd := DD
  exact w_take W.tb ⟨FunD.cfun DF, W.glo (x := "_law_take") (W.c.fact 68 rfl), DF.kp⟩ (DF.bindsN (fun _ _ _ _ _ _ us hl => match us, hl with | [_, _], _ => rfl))
theorem z__law_pick (W : Top K mg) : Cal P w K mg base 2 "_law_pick" spPick [] := by
  obtain ⟨fd, DD⟩ := W.c.def_ (d := ⟨fun K => He.ga K "_law_pick", "_law_pick", "_law_pick", sPick, []⟩) 18 rfl
  have DF : FunD K "_law_pick" "_law_pick" (fnArgs sPick) (fnBody sPick) (fnScope sPick) [] [] (He.ga K "_law_pick") fd := DD
  exact w_pick W.tb (z__law_take W) ⟨FunD.cfun DF, W.glo (x := "_law_pick") (W.c.fact 69 rfl), DF.kp⟩ (DF.bindsN (fun _ _ _ _ _ _ us hl => match us, hl with | [_, _], _ => rfl))
theorem z__law_steps (W : Top K mg) : Cal P w K mg base 1 "_law_steps" spSteps [] := by
  obtain ⟨fd, DD⟩ := W.c.def_ (d := ⟨fun K => He.ga K "_law_steps", "_law_steps", "_law_steps", sSteps, []⟩) 19 rfl
  have DF : FunD K "_law_steps" "_law_steps" (fnArgs sSteps) (fnBody sSteps) (fnScope sSteps) [] [] (He.ga K "_law_steps") fd := DD
  exact w_steps W.tb ⟨FunD.cfun DF, W.glo (x := "_law_steps") (W.c.fact 70 rfl), DF.kp⟩ (DF.bindsN (fun _ _ _ _ _ _ us hl => match us, hl with | [_], _ => rfl))
theorem z__law_feed (W : Top K mg) : Cal P w K mg base 1 "_law_feed" (spFeed K) [] := by
  obtain ⟨fd, DD⟩ := W.c.def_ (d := ⟨fun K => He.ga K "_law_feed", "_law_feed", "_law_feed", sFeed, []⟩) 16 rfl
  have DF : FunD K "_law_feed" "_law_feed" (fnArgs sFeed) (fnBody sFeed) (fnScope sFeed) [] [] (He.ga K "_law_feed") fd := DD
  exact w_feed W.tb ⟨FunD.cfun DF, W.glo (x := "_law_feed") (W.c.fact 67 rfl), DF.kp⟩ (DF.bindsN (fun _ _ _ _ _ _ us hl => match us, hl with | [_, _], _ => rfl))
theorem z__law_run (W : Top K mg) : Cal P w K mg base 2 "_law_run" spRunL [] := by
  obtain ⟨fd, DD⟩ := W.c.def_ (d := ⟨fun K => He.ga K "_law_run", "_law_run", "_law_run", sRun, []⟩) 20 rfl
  have DF : FunD K "_law_run" "_law_run" (fnArgs sRun) (fnBody sRun) (fnScope sRun) [] [] (He.ga K "_law_run") fd := DD
  exact w_run W.tb (z__law_take W) ⟨FunD.cfun DF, W.glo (x := "_law_run") (W.c.fact 71 rfl), DF.kp⟩ (DF.bindsN (fun _ _ _ _ _ _ us hl => match us, hl with | [_, _], _ => rfl))
theorem z__law_whole (W : Top K mg) : Cal P w K mg base 1 "_law_whole" spWithin [] := by
  obtain ⟨fd, DD⟩ := W.c.def_ (d := ⟨fun K => He.ga K "_law_whole", "_law_whole", "_law_whole", sWhole, []⟩) 24 rfl
  have DF : FunD K "_law_whole" "_law_whole" (fnArgs sWhole) (fnBody sWhole) (fnScope sWhole) [] [] (He.ga K "_law_whole") fd := DD
  exact w_whole W.tb ⟨FunD.cfun DF, W.glo (x := "_law_whole") (W.c.fact 75 rfl), DF.kp⟩ (DF.bindsN (fun _ _ _ _ _ _ us hl => match us, hl with | [_, _, _], _ => rfl))
theorem z__law_is_run (W : Top K mg) : Cal P w K mg base 2 "_law_is_run" spIsRunL [] := by
  obtain ⟨fd, DD⟩ := W.c.def_ (d := ⟨fun K => He.ga K "_law_is_run", "_law_is_run", "_law_is_run", sIsRun, []⟩) 25 rfl
  have DF : FunD K "_law_is_run" "_law_is_run" (fnArgs sIsRun) (fnBody sIsRun) (fnScope sIsRun) [] [] (He.ga K "_law_is_run") fd := DD
  exact w_isRunL W.tb (z__law_whole W) (z__law_steps W) ⟨FunD.cfun DF, W.glo (x := "_law_is_run") (W.c.fact 76 rfl), DF.kp⟩ (DF.bindsN (fun _ _ _ _ _ _ us hl => match us, hl with | [_, _, _], _ => rfl))
theorem z__law_routine (W : Top K mg) : Cal P w K mg base 3 "_law_routine" spRoutL [] := by
  obtain ⟨fd, DD⟩ := W.c.def_ (d := ⟨fun K => He.ga K "_law_routine", "_law_routine", "_law_routine", sRoutine, []⟩) 21 rfl
  have DF : FunD K "_law_routine" "_law_routine" (fnArgs sRoutine) (fnBody sRoutine) (fnScope sRoutine) [] [] (He.ga K "_law_routine") fd := DD
  exact w_routine W.tb (z__law_take W) (z__law_pick W) (z__law_steps W) (z__law_run W) ⟨FunD.cfun DF, W.glo (x := "_law_routine") (W.c.fact 72 rfl), DF.kp⟩ (DF.bindsN (fun _ _ _ _ _ _ us hl => match us, hl with | [_, _], _ => rfl))
theorem z__law_rows (W : Top K mg) : Cal P w K mg base 1 "_law_rows" spRows [] := by
  obtain ⟨fd, DD⟩ := W.c.def_ (d := ⟨fun K => He.ga K "_law_rows", "_law_rows", "_law_rows", sRows, []⟩) 22 rfl
  have DF : FunD K "_law_rows" "_law_rows" (fnArgs sRows) (fnBody sRows) (fnScope sRows) [] [] (He.ga K "_law_rows") fd := DD
  exact w_rows W.tb ⟨FunD.cfun DF, W.glo (x := "_law_rows") (W.c.fact 73 rfl), DF.kp⟩ (DF.bindsN (fun _ _ _ _ _ _ us hl => match us, hl with | [_, _], _ => rfl))
theorem z__law_rests (W : Top K mg) : Cal P w K mg base 21 "_law_rests" (spRests 21) [] := by
  obtain ⟨fd, DD⟩ := W.c.def_ (d := ⟨fun K => He.ga K "_law_rests", "_law_rests", "_law_rests", sRests, []⟩) 23 rfl
  have DF : FunD K "_law_rests" "_law_rests" (fnArgs sRests) (fnBody sRests) (fnScope sRests) [] [] (He.ga K "_law_rests") fd := DD
  exact w_rests W.tb ⟨FunD.cfun DF, W.glo (x := "_law_rests") (W.c.fact 74 rfl), DF.kp⟩ (DF.bindsN (fun _ _ _ _ _ _ us hl => match us, hl with | [_, _, _], _ => rfl)) 21
theorem z__law_times (W : Top K mg) : Cal P w K mg base 3 "_law_times" spTimesL [] := by
  obtain ⟨fd, DD⟩ := W.c.def_ (d := ⟨fun K => He.ga K "_law_times", "_law_times", "_law_times", sTimes, []⟩) 26 rfl
  have DF : FunD K "_law_times" "_law_times" (fnArgs sTimes) (fnBody sTimes) (fnScope sTimes) [] [] (He.ga K "_law_times") fd := DD
  exact w_timesL W.tb (z__law_take W) (z__law_pick W) ⟨FunD.cfun DF, W.glo (x := "_law_times") (W.c.fact 77 rfl), DF.kp⟩ (DF.bindsN (fun _ _ _ _ _ _ us hl => match us, hl with | [_], _ => rfl))
theorem z__law_ledger (W : Top K mg) : Cal P w K mg base 4 "_law_ledger" spLedL [] := by
  obtain ⟨fd, DD⟩ := W.c.def_ (d := ⟨fun K => He.ga K "_law_ledger", "_law_ledger", "_law_ledger", sLedgerL, []⟩) 27 rfl
  have DF : FunD K "_law_ledger" "_law_ledger" (fnArgs sLedgerL) (fnBody sLedgerL) (fnScope sLedgerL) [] [] (He.ga K "_law_ledger") fd := DD
  exact w_ledL W.tb (z__law_take W) (z__law_pick W) (z__law_times W) ⟨FunD.cfun DF, W.glo (x := "_law_ledger") (W.c.fact 78 rfl), DF.kp⟩ (DF.bindsN (fun _ _ _ _ _ _ us hl => match us, hl with | [_, _, _], _ => rfl))
theorem z__law_pairs (W : Top K mg) : Cal P w K mg base 1 "_law_pairs" spPairsL [] := by
  obtain ⟨fd, DD⟩ := W.c.def_ (d := ⟨fun K => He.ga K "_law_pairs", "_law_pairs", "_law_pairs", sPairs, []⟩) 29 rfl
  have DF : FunD K "_law_pairs" "_law_pairs" (fnArgs sPairs) (fnBody sPairs) (fnScope sPairs) [] [] (He.ga K "_law_pairs") fd := DD
  exact w_pairsL ⟨FunD.cfun DF, W.glo (x := "_law_pairs") (W.c.fact 80 rfl), DF.kp⟩ (DF.bindsN (fun _ _ _ _ _ _ us hl => match us, hl with | [_], _ => rfl))
theorem z__law_table (W : Top K mg) : Cal P w K mg base 2 "_law_table" spTableL [] := by
  obtain ⟨fd, DD⟩ := W.c.def_ (d := ⟨fun K => He.ga K "_law_table", "_law_table", "_law_table", sTable, []⟩) 28 rfl
  have DF : FunD K "_law_table" "_law_table" (fnArgs sTable) (fnBody sTable) (fnScope sTable) [] [] (He.ga K "_law_table") fd := DD
  exact w_tableL (z__law_steps W) ⟨FunD.cfun DF, W.glo (x := "_law_table") (W.c.fact 79 rfl), DF.kp⟩ (DF.bindsN (fun _ _ _ _ _ _ us hl => match us, hl with | [_, _], _ => rfl))
theorem z__law_keeping (W : Top K mg) : Cal P w K mg base 2 "_law_keeping" spKeep [] := by
  obtain ⟨fd, DD⟩ := W.c.def_ (d := ⟨fun K => He.ga K "_law_keeping", "_law_keeping", "_law_keeping", sKeeping, []⟩) 31 rfl
  have DF : FunD K "_law_keeping" "_law_keeping" (fnArgs sKeeping) (fnBody sKeeping) (fnScope sKeeping) [] [] (He.ga K "_law_keeping") fd := DD
  exact w_keep (z__law_steps W) ⟨FunD.cfun DF, W.glo (x := "_law_keeping") (W.c.fact 82 rfl), DF.kp⟩ (DF.bindsN (fun _ _ _ _ _ _ us hl => match us, hl with | [_, _], _ => rfl))
theorem z__law_lift (W : Top K mg) : Cal P w K mg base 1 "_law_lift" spLawLift [] := by
  obtain ⟨fd, DD⟩ := W.c.def_ (d := ⟨fun K => He.ga K "_law_lift", "_law_lift", "_law_lift", sLift, []⟩) 33 rfl
  have DF : FunD K "_law_lift" "_law_lift" (fnArgs sLift) (fnBody sLift) (fnScope sLift) [] [] (He.ga K "_law_lift") fd := DD
  exact w_lawLift W.tb ⟨FunD.cfun DF, W.glo (x := "_law_lift") (W.c.fact 84 rfl), DF.kp⟩ (DF.bindsN (fun _ _ _ _ _ _ us hl => match us, hl with | [_, _, _], _ => rfl))
theorem z__law_part (W : Top K mg) : Cal P w K mg base 3 "_law_part" spPartL [] := by
  obtain ⟨fd, DD⟩ := W.c.def_ (d := ⟨fun K => He.ga K "_law_part", "_law_part", "_law_part", sPartL, []⟩) 30 rfl
  have DF : FunD K "_law_part" "_law_part" (fnArgs sPartL) (fnBody sPartL) (fnScope sPartL) [] [] (He.ga K "_law_part") fd := DD
  exact w_partL W.tb (z__law_take W) (z__law_pick W) (z__law_steps W) ⟨FunD.cfun DF, W.glo (x := "_law_part") (W.c.fact 81 rfl), DF.kp⟩ (DF.bindsN (fun _ _ _ _ _ _ us hl => match us, hl with | [_, _, _], _ => rfl))
theorem z__law_cover (W : Top K mg) : Cal P w K mg base 3 "_law_cover" spCoverL [] := by
  obtain ⟨fd, DD⟩ := W.c.def_ (d := ⟨fun K => He.ga K "_law_cover", "_law_cover", "_law_cover", sCoverL, []⟩) 32 rfl
  have DF : FunD K "_law_cover" "_law_cover" (fnArgs sCoverL) (fnBody sCoverL) (fnScope sCoverL) [] [] (He.ga K "_law_cover") fd := DD
  exact w_coverL W.tb (z__law_take W) (z__law_pick W) ⟨FunD.cfun DF, W.glo (x := "_law_cover") (W.c.fact 83 rfl), DF.kp⟩ (DF.bindsN (fun _ _ _ _ _ _ us hl => match us, hl with | [_, _, _], _ => rfl))
theorem z__law_exchanged (W : Top K mg) : Cal P w K mg base 2 "_law_exchanged" spExchL [] := by
  obtain ⟨fd, DD⟩ := W.c.def_ (d := ⟨fun K => He.ga K "_law_exchanged", "_law_exchanged", "_law_exchanged", sExchanged, []⟩) 34 rfl
  have DF : FunD K "_law_exchanged" "_law_exchanged" (fnArgs sExchanged) (fnBody sExchanged) (fnScope sExchanged) [] [] (He.ga K "_law_exchanged") fd := DD
  exact w_exchL W.tb (z__law_take W) ⟨FunD.cfun DF, W.glo (x := "_law_exchanged") (W.c.fact 85 rfl), DF.kp⟩ (DF.bindsN (fun _ _ _ _ _ _ us hl => match us, hl with | [_, _, _], _ => rfl))
theorem z__law_lifted (W : Top K mg) : CalG P w K mg base 7 "_law_lifted" (spLifted K (He.ga K "Routine") (He.ga K "Cover")) := by
  obtain ⟨fd, DD⟩ := W.c.def_ (d := ⟨fun K => He.ga K "_law_lifted", "_law_lifted", "_law_lifted", sLifted, []⟩) 35 rfl
  have DF : FunD K "_law_lifted" "_law_lifted" (fnArgs sLifted) (fnBody sLifted) (fnScope sLifted) [] [] (He.ga K "_law_lifted") fd := DD
  exact w_lifted W.tb (z_NR W) (z_Cover_lift W) ⟨FunD.cfun DF, W.glo (x := "_law_lifted") (W.c.fact 86 rfl), DF.kp⟩ (DF.bindsN (fun _ _ _ _ _ _ us hl => match us, hl with | [_, _], _ => rfl))
theorem z__law_named (W : Top K mg) : CalG P w K mg base 7 "_law_named" (spNamedV K (He.ga K "Routine") (He.ga K "Cover")) := by
  obtain ⟨fd, DD⟩ := W.c.def_ (d := ⟨fun K => He.ga K "_law_named", "_law_named", "_law_named", sNamedL, []⟩) 36 rfl
  have DF : FunD K "_law_named" "_law_named" (fnArgs sNamedL) (fnBody sNamedL) (fnScope sNamedL) [] [] (He.ga K "_law_named") fd := DD
  exact w_namedV W.tb (z_NR W) (z_Cover_name W) ⟨FunD.cfun DF, W.glo (x := "_law_named") (W.c.fact 87 rfl), DF.kp⟩ (DF.bindsN (fun _ _ _ _ _ _ us hl => match us, hl with | [_, _], _ => rfl))
theorem z__law_refused (W : Top K mg) : CalG P w K mg base 8 "_law_refused" (spRefused (He.ga K "Routine") (He.ga K "Cover")) := by
  obtain ⟨fd, DD⟩ := W.c.def_ (d := ⟨fun K => He.ga K "_law_refused", "_law_refused", "_law_refused", sRefused, []⟩) 37 rfl
  have DF : FunD K "_law_refused" "_law_refused" (fnArgs sRefused) (fnBody sRefused) (fnScope sRefused) [] [] (He.ga K "_law_refused") fd := DD
  exact w_refused W.tb (z__law_is_run W) (z__law_lifted W) (z__law_named W) ⟨FunD.cfun DF, W.glo (x := "_law_refused") (W.c.fact 88 rfl), DF.kp⟩ (DF.bindsN (fun _ _ _ _ _ _ us hl => match us, hl with | [_, _, _, _, _], _ => rfl))
theorem z__law_runs_right (W : Top K mg) : CalG P w K mg base 22 "_law_runs_right" (spRunsRight (He.ga K "Routine") (He.ga K "Cover")) := by
  obtain ⟨fd, DD⟩ := W.c.def_ (d := ⟨fun K => He.ga K "_law_runs_right", "_law_runs_right", "_law_runs_right", sRunsRight, []⟩) 38 rfl
  have DF : FunD K "_law_runs_right" "_law_runs_right" (fnArgs sRunsRight) (fnBody sRunsRight) (fnScope sRunsRight) [] [] (He.ga K "_law_runs_right") fd := DD
  exact w_runsRight W.tb (z__law_lift W) (z__law_lifted W) (z__law_named W) (z__law_rests W) ⟨FunD.cfun DF, W.glo (x := "_law_runs_right") (W.c.fact 89 rfl), DF.kp⟩ (DF.bindsN (fun _ _ _ _ _ _ us hl => match us, hl with | [_, _, _, _], _ => rfl))
theorem z__law_ledgers_right (W : Top K mg) : Cal P w K mg base 11 "_law_ledgers_right" (spLedR (He.ga K "Routine") (He.ga K "Cover")) [] := by
  obtain ⟨fd, DD⟩ := W.c.def_ (d := ⟨fun K => He.ga K "_law_ledgers_right", "_law_ledgers_right", "_law_ledgers_right", sLedgersRight, []⟩) 39 rfl
  have DF : FunD K "_law_ledgers_right" "_law_ledgers_right" (fnArgs sLedgersRight) (fnBody sLedgersRight) (fnScope sLedgersRight) [] [] (He.ga K "_law_ledgers_right") fd := DD
  exact w_ledR W.tb (z_clRoutine W) (z_clCounts W) (z_clLedger W) (z_clCover W) (z_Routine___eq__ W) (z_Counts___eq__ W) (z_Ledger___eq__ W) (z_Ledger___len__ W) (z_Ledger___getitem__ W) (z_Counts___getitem__ W) (z_mkRoutine W) (z_mkLedgerD W) (z_mkCountsD W) (z_Cover_lift_ledger W) (z_Cover_name_ledger W) (z_Cover_sums W) (z_Ledger_counts W) (z_Ledger_entries W) (z_Ledger_rmul W) (z_Counts_rmul W) (z__law_lift W) (z__law_table W) (z__law_pairs W) ⟨FunD.cfun DF, W.glo (x := "_law_ledgers_right") (W.c.fact 90 rfl), DF.kp⟩ (DF.bindsN (fun _ _ _ _ _ _ us hl => match us, hl with | [_, _, _, _, _, _], _ => rfl))
end
end K46
end
section
set_option maxHeartbeats 4000000
/-! Hf: the law's call; the row's claim. -/
namespace K46
open PySem Ja PyProof.Rows PySem.Spec
open L2 hiding CX0 E0 pass0 Fun del del_ne
open PySem.W (Frag findIn isFn fnIn)
open C8 (Cal Met Mak Def Fun CX0 E0 pass0 fnScope fnBody fnArgs fnScope_by cal0 met0 mak0 pe_c pe_mk pe_mt pe_mt0 pe_gc fn0)
section
variable {P : Program} {w : World} {Fo : Outcome → Shared → Prop} {K : Frag} {mg : Str → Option Value} {base : Heap} {a : Addr} {s : Shared} {H : Hp} {zs : List Int}
theorem law_sc : FnScope ["_law_script", "_law_k", "_law_feed_here", "_law_blocks", "_law_drawn", "_law_base", "_law_rows_here", "_law_runs", "_law_names", "_law_jumps", "_law_turn", "_law_cover_here", "_law_some", "_law_fine", "_law_due", "_law_jump", "_law_lifts", "_law_run_here", "_law_told", "_law_times_here"] ["_law_script"] (fnScope sLaw) := fnScope_by (by decide +kernel)
theorem room0 : Room 91 callerA := ⟨rfl, by decide +kernel, by decide +kernel⟩
theorem law_ends (W : Top K mg) (e0 : Env0 P w K mg base callerA [] s H) (hs : SqL K H a (zs.map V.int)) (hz : zs.length ≤ 63) :
    codeJ (model P w) Fo callerA (.call (.ref (He.ga K "law")) ⟨[.ref a], []⟩) (fun r s' => match r with | .ok (.ret u) => CE [] P w H s (fun v _ => v = .bl true) u s' | _ => False) s := by
  obtain ⟨fd, DD⟩ := W.c.def_ (d := ⟨fun K => He.ga K "law", "law", "law", sLaw, []⟩) 40 rfl
  have DF : FunD K "law" "law" (fnArgs sLaw) (fnBody sLaw) (fnScope sLaw) [] [] (He.ga K "law") fd := DD
  have bd := DF.bindsA (ps := ["_law_script"]) (fun _ _ _ _ _ _ us hl => match us, hl with | [_], _ => rfl) s [.ref a] rfl
  obtain ⟨oc, od, dV, kV, doc, pm, an, cdv, ct, osl, rfl, lk, hcd, _, _⟩ := DF.ex
  obtain ⟨fdk, ck, kb, kme⟩ := z_kept (P := P) (w := w) (base := base) W
  refine def_ofJ (k := 90) (us := [.ref a]) (vs := [.ref a]) (Q := fun v _ => v = .bl true) lk hcd law_sc rfl room0 e0 bd (.cons rfl .nil) ?_
  exact law_body (Q := fun v _ => v = .bl true) W.tb (z_clRoutine W) (z_clCover W) (z_clPart W) (z__law_feed W) (z__law_routine W) (z_mkRoutine W) (z__law_rows W) (z__law_rests W) (z__law_cover W) (z__law_exchanged W)
    (z_mkCover W) (z__law_runs_right W) (z__law_refused W) (z__law_part W) (z_mkPart W) (z_Cover_lift_part W)
    (z_Part_jumps W) (z__law_keeping W) (z__law_lift W) (z_clPart W).cl kme ck kb
    (z__law_ledger W) (z__law_ledgers_right W) rfl (room0.deeper _) hs hz (fun _ => rfl)
end
end K46
end
section
set_option maxHeartbeats 4000000
/-! Hg: the row's claim. -/
namespace K46
open PySem PySem.W PySem.Calls PyProof.Rows
theorem law_claim : Ja.WalkJ qv namesL (XL qv []) hookM.says LL.row.toRowW dLaw [] := by
  refine Ja.attachJ (l := LL) (n := 63) rfl (by kernel_rfl) ?F
  intro w s₀ s₁ mg mb fa o pm cd doc a vs ns G Y ho hd hcd hmg0 hobj hints hlen hg F
  obtain ⟨K, KX, c⟩ := Y
  have hmg : mg ("law" : PySem.Str) = some (.ref fa) := by
    have en : dLaw.name = ("law" : PySem.Str) := by kernel_rfl
    rw [en] at hmg0
    exact hmg0
  have W : Top K mg := ⟨c, _, KX, G.T.g⟩
  have e := hmg.symm.trans (W.glo (x := "law") (c.fact 91 rfl))
  have e2 : fa = He.ga K "law" := by
    injection e with e
    injection e
  subst e2
  exact Ja.law_callJ KX G.T.g G.T.b G.T.builtins G.T.nolimit hg hobj hints (Nat.le_trans hlen (by decide)) fun base H hb hn e0 hO hS => law_ends W e0 hS hlen
theorem law_holds : RR.Holds := Ja.headJ obM_eq head_open head_fence run head_def head_the head_kw head_wr head_well head_ok head_bare head_prom law_claim
end K46
end
section
set_option maxHeartbeats 4000000
/-! Hh: the law. -/
open PySem PySem.W PySem.Calls PyProof.Rows
theorem PySem.Challenge.cw_runledger_k46_whole_runs_one_to_one_holds : PySem.Challenge.rw_runledger_k46_whole_runs_one_to_one.Holds := by
  w_on; o_law
  exact K46.law_holds
end
