import PyProof.Rows.All
import Wide.All
import OpenK.AllK
import Wide.FinOn
import KE.KStateDown
import HandS.ForMost
import HandS.More
import HandS.Exc
import HandS.Walk
import HandS.Flow
import HandS.Defaults
import HandS.Star
import HandS.Property
import HandS.ClsMeth
import HandS.IsInst
import HandS.Strs
import HandS.TupAny
import HandS.TupMul
import HandS.Conv
import HandS.Zip
import HandS.FStr
import HandS.Wide
import HandS.Style
import HandS.GenYield
import HandS.GenCall
import HandS.Head0
import HandS.Head1
import HandS.Head2
import HandS.HeadEnd
import HandS.HeadHook1
import HandS.HeadHook2
import KE.GoesEnumKw
import PyProof.DictCopy
import PyProof.DictUpdate
import HandS.DictComp
import HandS.Zip0
import KE.GoesMore
import HandS.GenList
import KE.KDictZip
import PyProof.ReprLen
import PyProof.ReprRoads
import Lean
import HandS.Ends
import PySem.Challenge.RW_tallypeaks_k16_whole_results_of_beginnin
set_option Elab.async false
set_option linter.all false
set_option maxRecDepth 100000
set_option maxHeartbeats 4000000
/-! the text by places -/
namespace TP
open PySem PySem.Spec PyProof.Rows L2
def top (i : Nat) : Stmt := PySem.Challenge.pw_tallypeaks_k16_whole_results_of_beginnin.main.body.getD i (.Pass ⟨0, 0, 0, 0⟩)
abbrev FnP (K : PySem.W.Frag) (x q : Str) (st : Stmt) (f : Addr) (fd : FuncData) : Prop := FunD K x q (defArgs st) (defBody st) (defScope st) [] [] f fd
/-! is_integer -/
abbrev sIsInteger : Stmt := top 24
abbrev nIsInteger : List Str := ["value"]
abbrev pIsInteger : List Str := ["value"]
theorem scIsInteger : FnScope nIsInteger pIsInteger (defScope sIsInteger) := ⟨rfl, rfl, rfl, by decide +kernel, rfl, by decide +kernel, by decide +kernel⟩
/-! is_kind -/
abbrev sIsKind : Stmt := top 25
abbrev nIsKind : List Str := ["value", "letter"]
abbrev pIsKind : List Str := ["value"]
theorem scIsKind : FnScope nIsKind pIsKind (defScope sIsKind) := ⟨rfl, rfl, rfl, by decide +kernel, rfl, by decide +kernel, by decide +kernel⟩
/-! is_amount -/
abbrev sIsAmount : Stmt := top 26
abbrev nIsAmount : List Str := ["value"]
abbrev pIsAmount : List Str := ["value"]
theorem scIsAmount : FnScope nIsAmount pIsAmount (defScope sIsAmount) := ⟨rfl, rfl, rfl, by decide +kernel, rfl, by decide +kernel, by decide +kernel⟩
/-! is_event -/
abbrev sIsEvent : Stmt := top 27
abbrev nIsEvent : List Str := ["value"]
abbrev pIsEvent : List Str := ["value"]
theorem scIsEvent : FnScope nIsEvent pIsEvent (defScope sIsEvent) := ⟨rfl, rfl, rfl, by decide +kernel, rfl, by decide +kernel, by decide +kernel⟩
/-! first_wrong -/
abbrev sFirstWrong : Stmt := top 28
abbrev nFirstWrong : List Str := ["value", "kinds", "index", "event"]
abbrev pFirstWrong : List Str := ["value", "kinds"]
theorem scFirstWrong : FnScope nFirstWrong pFirstWrong (defScope sFirstWrong) := ⟨rfl, rfl, rfl, by decide +kernel, rfl, by decide +kernel, by decide +kernel⟩
/-! check_log -/
abbrev sCheckLog : Stmt := top 29
abbrev nCheckLog : List Str := ["log", "kinds", "wrong"]
abbrev pCheckLog : List Str := ["log", "kinds"]
theorem scCheckLog : FnScope nCheckLog pCheckLog (defScope sCheckLog) := ⟨rfl, rfl, rfl, by decide +kernel, rfl, by decide +kernel, by decide +kernel⟩
/-! check_amount -/
abbrev sCheckAmount : Stmt := top 30
abbrev nCheckAmount : List Str := ["amount"]
abbrev pCheckAmount : List Str := ["amount"]
theorem scCheckAmount : FnScope nCheckAmount pCheckAmount (defScope sCheckAmount) := ⟨rfl, rfl, rfl, by decide +kernel, rfl, by decide +kernel, by decide +kernel⟩
/-! terms_of -/
abbrev sTermsOf : Stmt := top 33
abbrev nTermsOf : List Str := ["count", "found", "slot"]
abbrev pTermsOf : List Str := ["count"]
theorem scTermsOf : FnScope nTermsOf pTermsOf (defScope sTermsOf) := ⟨rfl, rfl, rfl, by decide +kernel, rfl, by decide +kernel, by decide +kernel⟩
/-! source_of -/
abbrev sSourceOf : Stmt := top 34
abbrev nSourceOf : List Str := ["term"]
abbrev pSourceOf : List Str := ["term"]
theorem scSourceOf : FnScope nSourceOf pSourceOf (defScope sSourceOf) := ⟨rfl, rfl, rfl, by decide +kernel, rfl, by decide +kernel, by decide +kernel⟩
/-! term_from -/
abbrev sTermFrom : Stmt := top 35
abbrev nTermFrom : List Str := ["source", "taken"]
abbrev pTermFrom : List Str := ["source", "taken"]
theorem scTermFrom : FnScope nTermFrom pTermFrom (defScope sTermFrom) := ⟨rfl, rfl, rfl, by decide +kernel, rfl, by decide +kernel, by decide +kernel⟩
/-! best_of -/
abbrev sBestOf : Stmt := top 36
abbrev nBestOf : List Str := ["side", "values", "found", "value"]
abbrev pBestOf : List Str := ["side", "values"]
theorem scBestOf : FnScope nBestOf pBestOf (defScope sBestOf) := ⟨rfl, rfl, rfl, by decide +kernel, rfl, by decide +kernel, by decide +kernel⟩
/-! stepped -/
abbrev sStepped : Stmt := top 37
abbrev nStepped : List Str := ["side", "rule", "row", "amount", "held", "found", "terms", "values", "source", "taken", "slot", "content", "term"]
abbrev pStepped : List Str := ["side", "rule", "row", "amount"]
theorem scStepped : FnScope nStepped pStepped (defScope sStepped) := ⟨rfl, rfl, rfl, by decide +kernel, rfl, by decide +kernel, by decide +kernel⟩
/-! read_out -/
abbrev sReadOut : Stmt := top 38
abbrev nReadOut : List Str := ["side", "result", "held", "slot"]
abbrev pReadOut : List Str := ["side", "result", "held"]
theorem scReadOut : FnScope nReadOut pReadOut (defScope sReadOut) := ⟨rfl, rfl, rfl, by decide +kernel, rfl, by decide +kernel, by decide +kernel⟩
/-! first_fall -/
abbrev sFirstFall : Stmt := top 40
abbrev nFirstFall : List Str := ["value", "known", "index", "element"]
abbrev pFirstFall : List Str := ["value", "known"]
theorem scFirstFall : FnScope nFirstFall pFirstFall (defScope sFirstFall) := ⟨rfl, rfl, rfl, by decide +kernel, rfl, by decide +kernel, by decide +kernel⟩
/-! check_kinds -/
abbrev sCheckKinds : Stmt := top 41
abbrev nCheckKinds : List Str := ["kinds", "wrong", "kind"]
abbrev pCheckKinds : List Str := ["kinds"]
theorem scCheckKinds : FnScope nCheckKinds pCheckKinds (defScope sCheckKinds) := ⟨rfl, rfl, rfl, by decide +kernel, rfl, by decide +kernel, by decide +kernel⟩
/-! check_start -/
abbrev sCheckStart : Stmt := top 42
abbrev nCheckStart : List Str := ["start", "index", "begun"]
abbrev pCheckStart : List Str := ["start"]
theorem scCheckStart : FnScope nCheckStart pCheckStart (defScope sCheckStart) := ⟨rfl, rfl, rfl, by decide +kernel, rfl, by decide +kernel, by decide +kernel⟩
/-! is_rule -/
abbrev sIsRule : Stmt := top 43
abbrev nIsRule : List Str := ["value", "count", "known", "terms"]
abbrev pIsRule : List Str := ["value", "count"]
theorem scIsRule : FnScope nIsRule pIsRule (defScope sIsRule) := ⟨rfl, rfl, rfl, by decide +kernel, rfl, by decide +kernel, by decide +kernel⟩
/-! check_rules -/
abbrev sCheckRules : Stmt := top 44
abbrev nCheckRules : List Str := ["rules", "kinds", "count", "index", "rule"]
abbrev pCheckRules : List Str := ["rules", "kinds", "count"]
theorem scCheckRules : FnScope nCheckRules pCheckRules (defScope sCheckRules) := ⟨rfl, rfl, rfl, by decide +kernel, rfl, by decide +kernel, by decide +kernel⟩
/-! check_result -/
abbrev sCheckResult : Stmt := top 45
abbrev nCheckResult : List Str := ["result", "count", "wrong"]
abbrev pCheckResult : List Str := ["result", "count"]
theorem scCheckResult : FnScope nCheckResult pCheckResult (defScope sCheckResult) := ⟨rfl, rfl, rfl, by decide +kernel, rfl, by decide +kernel, by decide +kernel⟩
/-! Statistic.__init__ -/
abbrev sSInit : Stmt := inClass (top 46) 1
abbrev nSInit : List Str := ["self", "kinds", "start", "rules", "result"]
abbrev pSInit : List Str := ["self", "kinds", "start", "rules", "result"]
theorem scSInit : FnScope nSInit pSInit (defScope sSInit) := ⟨rfl, rfl, rfl, by decide +kernel, rfl, by decide +kernel, by decide +kernel⟩
/-! Statistic.peak -/
abbrev sSPeak : Stmt := inClass (top 46) 4
abbrev nSPeak : List Str := ["cls", "kinds"]
abbrev pSPeak : List Str := ["cls", "kinds"]
theorem scSPeak : FnScope nSPeak pSPeak (defScope sSPeak) := ⟨rfl, rfl, rfl, by decide +kernel, rfl, by decide +kernel, by decide +kernel⟩
/-! Statistic.best_run -/
abbrev sSBestRun : Stmt := inClass (top 46) 5
abbrev nSBestRun : List Str := ["cls", "kinds"]
abbrev pSBestRun : List Str := ["cls", "kinds"]
theorem scSBestRun : FnScope nSBestRun pSBestRun (defScope sSBestRun) := ⟨rfl, rfl, rfl, by decide +kernel, rfl, by decide +kernel, by decide +kernel⟩
/-! Statistic.last -/
abbrev sSLast : Stmt := inClass (top 46) 6
abbrev nSLast : List Str := ["cls", "kinds"]
abbrev pSLast : List Str := ["cls", "kinds"]
theorem scSLast : FnScope nSLast pSLast (defScope sSLast) := ⟨rfl, rfl, rfl, by decide +kernel, rfl, by decide +kernel, by decide +kernel⟩
/-! Statistic.result -/
abbrev sSResult : Stmt := inClass (top 46) 7
abbrev nSResult : List Str := ["self"]
abbrev pSResult : List Str := ["self"]
theorem scSResult : FnScope nSResult pSResult (defScope sSResult) := ⟨rfl, rfl, rfl, by decide +kernel, rfl, by decide +kernel, by decide +kernel⟩
/-! Statistic.__call__ -/
abbrev sSCall : Stmt := inClass (top 46) 9
abbrev nSCall : List Str := ["self", "log", "contents", "kind", "amount"]
abbrev pSCall : List Str := ["self", "log"]
theorem scSCall : FnScope nSCall pSCall (defScope sSCall) := ⟨rfl, rfl, rfl, by decide +kernel, rfl, by decide +kernel, by decide +kernel⟩
/-! Statistic.__getitem__ -/
abbrev sSGetitem : Stmt := inClass (top 46) 11
abbrev nSGetitem : List Str := ["self", "kind", "known", "rule"]
abbrev pSGetitem : List Str := ["self", "kind"]
theorem scSGetitem : FnScope nSGetitem pSGetitem (defScope sSGetitem) := ⟨rfl, rfl, rfl, by decide +kernel, rfl, by decide +kernel, by decide +kernel⟩
/-! Statistic.__or__ -/
abbrev sSOr : Stmt := inClass (top 46) 15
abbrev nSOr : List Str := ["self", "other", "shift", "rules", "result", "one", "two", "slot"]
abbrev pSOr : List Str := ["self", "other"]
theorem scSOr : FnScope nSOr pSOr (defScope sSOr) := ⟨rfl, rfl, rfl, by decide +kernel, rfl, by decide +kernel, by decide +kernel⟩
/-! Statistic.turned -/
abbrev sSTurned : Stmt := inClass (top 46) 18
abbrev nSTurned : List Str := ["self", "side"]
abbrev pSTurned : List Str := ["self"]
theorem scSTurned : FnScope nSTurned pSTurned (defScope sSTurned) := ⟨rfl, rfl, rfl, by decide +kernel, rfl, by decide +kernel, by decide +kernel⟩
/-! made -/
abbrev sMade : Stmt := top 49
abbrev nMade : List Str := ["side", "kinds", "start", "rules", "result"]
abbrev pMade : List Str := ["side", "kinds", "start", "rules", "result"]
theorem scMade : FnScope nMade pMade (defScope sMade) := ⟨rfl, rfl, rfl, by decide +kernel, rfl, by decide +kernel, by decide +kernel⟩
/-! check_statistic -/
abbrev sCheckStatistic : Stmt := top 50
abbrev nCheckStatistic : List Str := ["value"]
abbrev pCheckStatistic : List Str := ["value"]
theorem scCheckStatistic : FnScope nCheckStatistic pCheckStatistic (defScope sCheckStatistic) := ⟨rfl, rfl, rfl, by decide +kernel, rfl, by decide +kernel, by decide +kernel⟩
/-! check_two -/
abbrev sCheckTwo : Stmt := top 51
abbrev nCheckTwo : List Str := ["one", "other"]
abbrev pCheckTwo : List Str := ["one", "other"]
theorem scCheckTwo : FnScope nCheckTwo pCheckTwo (defScope sCheckTwo) := ⟨rfl, rfl, rfl, by decide +kernel, rfl, by decide +kernel, by decide +kernel⟩
/-! raised -/
abbrev sRaised : Stmt := top 52
abbrev nRaised : List Str := ["slot", "shift"]
abbrev pRaised : List Str := ["slot", "shift"]
theorem scRaised : FnScope nRaised pRaised (defScope sRaised) := ⟨rfl, rfl, rfl, by decide +kernel, rfl, by decide +kernel, by decide +kernel⟩
/-! raised_rule -/
abbrev sRaisedRule : Stmt := top 53
abbrev nRaisedRule : List Str := ["rule", "shift", "found", "terms", "some", "source", "taken", "term"]
abbrev pRaisedRule : List Str := ["rule", "shift"]
theorem scRaisedRule : FnScope nRaisedRule pRaisedRule (defScope sRaisedRule) := ⟨rfl, rfl, rfl, by decide +kernel, rfl, by decide +kernel, by decide +kernel⟩
/-! contents -/
abbrev sContents : Stmt := top 64
abbrev nContents : List Str := ["statistic", "log", "held", "kind", "amount"]
abbrev pContents : List Str := ["statistic", "log"]
theorem scContents : GScope nContents pContents (defScope sContents) := ⟨rfl, rfl, rfl, by decide +kernel, rfl, by decide +kernel, by decide +kernel⟩
/-! results -/
abbrev sResults : Stmt := top 65
abbrev nResults : List Str := ["statistic", "log", "held"]
abbrev pResults : List Str := ["statistic", "log"]
theorem scResults : FnScope nResults pResults (defScope sResults) := ⟨rfl, rfl, rfl, by decide +kernel, rfl, by decide +kernel, by decide +kernel⟩
/-! Counter.__init__ -/
abbrev sCInit : Stmt := inClass (top 66) 0
abbrev nCInit : List Str := ["self", "statistic", "registers"]
abbrev pCInit : List Str := ["self", "statistic", "registers"]
theorem scCInit : FnScope nCInit pCInit (defScope sCInit) := ⟨rfl, rfl, rfl, by decide +kernel, rfl, by decide +kernel, by decide +kernel⟩
/-! Counter.result -/
abbrev sCResult : Stmt := inClass (top 66) 3
abbrev nCResult : List Str := ["self"]
abbrev pCResult : List Str := ["self"]
theorem scCResult : FnScope nCResult pCResult (defScope sCResult) := ⟨rfl, rfl, rfl, by decide +kernel, rfl, by decide +kernel, by decide +kernel⟩
/-! Counter.follow -/
abbrev sCFollow : Stmt := inClass (top 66) 5
abbrev nCFollow : List Str := ["self", "kind", "amount", "rule"]
abbrev pCFollow : List Str := ["self", "kind", "amount"]
theorem scCFollow : FnScope nCFollow pCFollow (defScope sCFollow) := ⟨rfl, rfl, rfl, by decide +kernel, rfl, by decide +kernel, by decide +kernel⟩
/-! _law_cell -/
abbrev sLawCell : Stmt := top 68
abbrev nLawCell : List Str := ["_law_cells", "_law_k", "_law_seed", "_law_part_here"]
abbrev pLawCell : List Str := ["_law_cells", "_law_k"]
theorem scLawCell : FnScope nLawCell pLawCell (defScope sLawCell) := ⟨rfl, rfl, rfl, by decide +kernel, rfl, by decide +kernel, by decide +kernel⟩
/-! _law_pool -/
abbrev sLawPool : Stmt := top 69
abbrev nLawPool : List Str := ["_law_cell_here", "_law_digits"]
abbrev pLawPool : List Str := ["_law_cell_here"]
theorem scLawPool : FnScope nLawPool pLawPool (defScope sLawPool) := ⟨rfl, rfl, rfl, by decide +kernel, rfl, by decide +kernel, by decide +kernel⟩
/-! _law_draw -/
abbrev sLawDraw : Stmt := top 70
abbrev nLawDraw : List Str := ["_law_pool_here", "_law_many", "_law_seed", "_law_digit"]
abbrev pLawDraw : List Str := ["_law_pool_here", "_law_many"]
theorem scLawDraw : FnScope nLawDraw pLawDraw (defScope sLawDraw) := ⟨rfl, rfl, rfl, by decide +kernel, rfl, by decide +kernel, by decide +kernel⟩
/-! _law_terms -/
abbrev sLawTerms : Stmt := top 71
abbrev nLawTerms : List Str := ["_law_count", "_law_found", "_law_k"]
abbrev pLawTerms : List Str := ["_law_count"]
theorem scLawTerms : FnScope nLawTerms pLawTerms (defScope sLawTerms) := ⟨rfl, rfl, rfl, by decide +kernel, rfl, by decide +kernel, by decide +kernel⟩
/-! _law_source -/
abbrev sLawSource : Stmt := top 72
abbrev nLawSource : List Str := ["_law_term"]
abbrev pLawSource : List Str := ["_law_term"]
theorem scLawSource : FnScope nLawSource pLawSource (defScope sLawSource) := ⟨rfl, rfl, rfl, by decide +kernel, rfl, by decide +kernel, by decide +kernel⟩
/-! _law_some -/
abbrev sLawSome : Stmt := top 73
abbrev nLawSome : List Str := ["_law_pool_here", "_law_count", "_law_k", "_law_own", "_law_way", "_law_every", "_law_term"]
abbrev pLawSome : List Str := ["_law_pool_here", "_law_count", "_law_k"]
theorem scLawSome : FnScope nLawSome pLawSome (defScope sLawSome) := ⟨rfl, rfl, rfl, by decide +kernel, rfl, by decide +kernel, by decide +kernel⟩
/-! _law_named -/
abbrev sLawNamed : Stmt := top 74
abbrev nLawNamed : List Str := ["_law_pool_here", "_law_many", "_law_some_here"]
abbrev pLawNamed : List Str := ["_law_pool_here", "_law_many"]
theorem scLawNamed : FnScope nLawNamed pLawNamed (defScope sLawNamed) := ⟨rfl, rfl, rfl, by decide +kernel, rfl, by decide +kernel, by decide +kernel⟩
/-! _law_plain -/
abbrev sLawPlain : Stmt := top 75
abbrev nLawPlain : List Str := ["_law_pool_here", "_law_many", "_law_count", "_law_begun", "_law_body", "_law_ends", "_law_side", "_law_k", "_law_turn"]
abbrev pLawPlain : List Str := ["_law_pool_here", "_law_many", "_law_count"]
theorem scLawPlain : FnScope nLawPlain pLawPlain (defScope sLawPlain) := ⟨rfl, rfl, rfl, by decide +kernel, rfl, by decide +kernel, by decide +kernel⟩
/-! _law_of -/
abbrev sLawOf : Stmt := top 76
abbrev nLawOf : List Str := ["_law_plain_here"]
abbrev pLawOf : List Str := ["_law_plain_here"]
theorem scLawOf : FnScope nLawOf pLawOf (defScope sLawOf) := ⟨rfl, rfl, rfl, by decide +kernel, rfl, by decide +kernel, by decide +kernel⟩
/-! _law_best -/
abbrev sLawBest : Stmt := top 77
abbrev nLawBest : List Str := ["_law_side", "_law_some_here", "_law_found", "_law_value_here"]
abbrev pLawBest : List Str := ["_law_side", "_law_some_here"]
theorem scLawBest : FnScope nLawBest pLawBest (defScope sLawBest) := ⟨rfl, rfl, rfl, by decide +kernel, rfl, by decide +kernel, by decide +kernel⟩
/-! _law_step -/
abbrev sLawStep : Stmt := top 78
abbrev nLawStep : List Str := ["_law_plain_here", "_law_held", "_law_event", "_law_sources", "_law_found", "_law_k", "_law_terms_here", "_law_some_here", "_law_term", "_law_node", "_law_taken"]
abbrev pLawStep : List Str := ["_law_plain_here", "_law_held", "_law_event"]
theorem scLawStep : FnScope nLawStep pLawStep (defScope sLawStep) := ⟨rfl, rfl, rfl, by decide +kernel, rfl, by decide +kernel, by decide +kernel⟩
/-! _law_end -/
abbrev sLawEnd : Stmt := top 79
abbrev nLawEnd : List Str := ["_law_plain_here", "_law_held", "_law_one_end"]
abbrev pLawEnd : List Str := ["_law_plain_here", "_law_held"]
theorem scLawEnd : FnScope nLawEnd pLawEnd (defScope sLawEnd) := ⟨rfl, rfl, rfl, by decide +kernel, rfl, by decide +kernel, by decide +kernel⟩
/-! _law_events -/
abbrev sLawEvents : Stmt := top 80
abbrev nLawEvents : List Str := ["_law_pool_here", "_law_plain_here", "_law_size", "_law_wide", "_law_named_here", "_law_k"]
abbrev pLawEvents : List Str := ["_law_pool_here", "_law_plain_here", "_law_size", "_law_wide"]
theorem scLawEvents : FnScope nLawEvents pLawEvents (defScope sLawEvents) := ⟨rfl, rfl, rfl, by decide +kernel, rfl, by decide +kernel, by decide +kernel⟩
/-! _law_all_results -/
abbrev sLawAllResults : Stmt := top 81
abbrev nLawAllResults : List Str := ["_law_plain_here", "_law_events_here", "_law_held", "_law_found", "_law_event"]
abbrev pLawAllResults : List Str := ["_law_plain_here", "_law_events_here"]
theorem scLawAllResults : FnScope nLawAllResults pLawAllResults (defScope sLawAllResults) := ⟨rfl, rfl, rfl, by decide +kernel, rfl, by decide +kernel, by decide +kernel⟩
/-! _law_times -/
abbrev sLawTimes : Stmt := top 82
abbrev nLawTimes : List Str := ["_law_events_here", "_law_factor", "_law_event"]
abbrev pLawTimes : List Str := ["_law_events_here", "_law_factor"]
theorem scLawTimes : FnScope nLawTimes pLawTimes (defScope sLawTimes) := ⟨rfl, rfl, rfl, by decide +kernel, rfl, by decide +kernel, by decide +kernel⟩
/-! _law_raised -/
abbrev sLawRaised : Stmt := top 83
abbrev nLawRaised : List Str := ["_law_row", "_law_factor", "_law_value_here"]
abbrev pLawRaised : List Str := ["_law_row", "_law_factor"]
theorem scLawRaised : FnScope nLawRaised pLawRaised (defScope sLawRaised) := ⟨rfl, rfl, rfl, by decide +kernel, rfl, by decide +kernel, by decide +kernel⟩
/-! _law_walked -/
abbrev sLawWalked : Stmt := top 84
abbrev nLawWalked : List Str := ["_law_meter", "_law_events_here", "_law_walker", "_law_found", "_law_event"]
abbrev pLawWalked : List Str := ["_law_meter", "_law_events_here"]
theorem scLawWalked : FnScope nLawWalked pLawWalked (defScope sLawWalked) := ⟨rfl, rfl, rfl, by decide +kernel, rfl, by decide +kernel, by decide +kernel⟩
/-! _law_told_right -/
abbrev sLawToldRight : Stmt := top 85
abbrev nLawToldRight : List Str := ["_law_plain_here", "_law_events_here", "_law_meter", "_law_due", "_law_told", "_law_mirrored", "_law_k"]
abbrev pLawToldRight : List Str := ["_law_plain_here", "_law_events_here"]
theorem scLawToldRight : FnScope nLawToldRight pLawToldRight (defScope sLawToldRight) := ⟨rfl, rfl, rfl, by decide +kernel, rfl, by decide +kernel, by decide +kernel⟩
/-! _law_both_right -/
abbrev sLawBothRight : Stmt := top 86
abbrev nLawBothRight : List Str := ["_law_plain_here", "_law_mate", "_law_events_here", "_law_pairs_here", "_law_due", "_law_one_result", "_law_mate_result"]
abbrev pLawBothRight : List Str := ["_law_plain_here", "_law_mate", "_law_events_here"]
theorem scLawBothRight : FnScope nLawBothRight pLawBothRight (defScope sLawBothRight) := ⟨rfl, rfl, rfl, by decide +kernel, rfl, by decide +kernel, by decide +kernel⟩
/-! _law_right -/
abbrev sLawRight : Stmt := top 87
abbrev nLawRight : List Str := ["_law_pool_here", "_law_turn", "_law_many", "_law_plain_here", "_law_mate", "_law_events_here", "_law_some_here"]
abbrev pLawRight : List Str := ["_law_pool_here"]
theorem scLawRight : FnScope nLawRight pLawRight (defScope sLawRight) := ⟨rfl, rfl, rfl, by decide +kernel, rfl, by decide +kernel, by decide +kernel⟩
/-! _law_by_hand -/
abbrev sLawByHand : Stmt := top 88
abbrev nLawByHand : List Str := ["_law_log_here", "_law_told"]
abbrev pLawByHand : List Str := []
theorem scLawByHand : FnScope nLawByHand pLawByHand (defScope sLawByHand) := ⟨rfl, rfl, rfl, by decide +kernel, rfl, by decide +kernel, by decide +kernel⟩
/-! law -/
abbrev sLaw : Stmt := top 89
abbrev nLaw : List Str := ["_law_cells", "_law_k"]
abbrev pLaw : List Str := ["_law_cells"]
theorem scLaw : FnScope nLaw pLaw (defScope sLaw) := ⟨rfl, rfl, rfl, by decide +kernel, rfl, by decide +kernel, by decide +kernel⟩
end TP
set_option Elab.async false
set_option linter.all false
set_option maxRecDepth 100000
set_option maxHeartbeats 4000000
/-! the mathematics: terms, steps, results -/
namespace TP
open PySem
/-- a term by its place among all: 0 is "0", 2k+1 is "rk", 2k+2 is "rk+x", 13 is "x" -/
abbrev Tm := Fin 14
def tmT : List Str := ["0", "r0", "r0+x", "r1", "r1+x", "r2", "r2+x", "r3", "r3+x", "r4", "r4+x", "r5", "r5+x", "x"]
def tmS (t : Tm) : Str := tmT.getD t.val Str.empty
def regT : List Str := ["r0", "r1", "r2", "r3", "r4", "r5"]
def regS (k : Fin 6) : Str := regT.getD k.val Str.empty
/-- the register a term goes on from; none for the node 0 -/
def tmSrc (t : Tm) : Option Nat := if t.val = 0 ∨ t.val = 13 then none else some ((t.val - 1) / 2)
def tmTk (t : Tm) : Bool := decide (t.val = 13) || (decide (t.val ≠ 0) && decide (t.val % 2 = 0))
def sideS (g : Bool) : Str := if g then "greatest" else "least"
/-- the better of two -/
def cmb (g : Bool) : Option Int → Option Int → Option Int
  | none, y => y
  | some a, none => some a
  | some a, some b => some (if g then max a b else min a b)
def best (g : Bool) (l : List (Option Int)) : Option Int := l.foldr (cmb g) none
abbrev Row := List (Option Int)
abbrev Rule := List (List Tm)
def tval (row : Row) (a : Int) (t : Tm) : Option Int := match tmSrc t with
  | none => some (if tmTk t then a else 0)
  | some k => (row.getD k none).map fun z => if tmTk t then z + a else z
def stepR (g : Bool) (rule : Rule) (row : Row) (a : Int) : Row := rule.map fun ts => best g (ts.map (tval row a))
def resR (g : Bool) (ends : List (Fin 6)) (row : Row) : Option Int := best g (ends.map fun k => row.getD k.val none)
structure Sta where
  g : Bool
  kinds : List Str
  start : List Bool
  rules : List Rule
  ends : List (Fin 6)
abbrev Ev := Nat × Int
def Sta.row (st : Sta) : Row := st.start.map fun b => if b then some 0 else none
def Sta.stp (st : Sta) (row : Row) (e : Ev) : Row := stepR st.g (st.rules.getD e.1 []) row e.2
def Sta.run (st : Sta) (row : Row) (log : List Ev) : Row := log.foldl st.stp row
def Sta.res (st : Sta) (row : Row) : Option Int := resR st.g st.ends row
def Sta.resultsFrom (st : Sta) (row : Row) : List Ev → List (Option Int)
  | [] => [st.res row]
  | e :: r => st.res row :: st.resultsFrom (st.stp row e) r
def Sta.results (st : Sta) (log : List Ev) : List (Option Int) := st.resultsFrom st.row log

/-! ### bests -/
theorem cmb_none (g : Bool) (x : Option Int) : cmb g x none = x := by cases x <;> rfl
theorem cmb_assoc (g : Bool) (x y z : Option Int) : cmb g (cmb g x y) z = cmb g x (cmb g y z) := by
  cases x <;> cases y <;> cases z <;> cases g <;> simp [cmb] <;> omega
theorem cmb_comm (g : Bool) (x y : Option Int) : cmb g x y = cmb g y x := by
  cases x <;> cases y <;> cases g <;> simp [cmb] <;> omega
theorem best_append (g : Bool) (l m : List (Option Int)) : best g (l ++ m) = cmb g (best g l) (best g m) := by
  induction l with
  | nil => rfl
  | cons x l ih =>
    show cmb g x (best g (l ++ m)) = cmb g (cmb g x (best g l)) (best g m)
    rw [ih, cmb_assoc]
theorem best_pair (g : Bool) (x y : Option Int) : best g [x, y] = cmb g x y := by
  show cmb g x (cmb g y none) = _
  rw [cmb_none]
/-- the ints among them -/
def somes (l : List (Option Int)) : List Int := l.filterMap id
theorem best_nil {g : Bool} {l : List (Option Int)} (h : somes l = []) : best g l = none := by
  induction l with
  | nil => rfl
  | cons x l ih =>
    cases x with
    | none => exact ih h
    | some a => cases (show a :: somes l = [] from h)
/-- a greatest (least) one of the ints is the best -/
theorem best_of_mem {g : Bool} {m : Int} : ∀ {l : List (Option Int)}, m ∈ somes l → (∀ n ∈ somes l, if g then n ≤ m else m ≤ n) → best g l = some m := by
  intro l
  induction l with
  | nil => intro h; cases h
  | cons x l ih =>
    intro hm hle
    cases x with
    | none => exact ih hm hle
    | some a =>
      have hm' : m ∈ a :: somes l := hm
      have ha : if g then a ≤ m else m ≤ a := hle a (show a ∈ a :: somes l from List.mem_cons_self)
      have hl : ∀ n ∈ somes l, if g then n ≤ m else m ≤ n := fun n hn => hle n (show n ∈ a :: somes l from List.mem_cons_of_mem _ hn)
      show cmb g (some a) (best g l) = some m
      by_cases q : m ∈ somes l
      · rw [ih q hl]
        show some _ = some _
        cases g <;> simp at ha ⊢ <;> omega
      · have e : m = a := (List.mem_cons.mp hm').resolve_right q
        subst e
        have hb : ∀ k, best g l = some k → k ∈ somes l := by
          clear ih hm hle ha hl q hm'
          intro k
          induction l generalizing k with
          | nil => intro h; cases h
          | cons y l ih =>
            cases y with
            | none => exact ih k
            | some b =>
              intro h
              have h : cmb g (some b) (best g l) = some k := h
              show k ∈ b :: somes l
              cases z : best g l with
              | none =>
                rw [z] at h
                cases h
                exact List.mem_cons_self
              | some c =>
                rw [z] at h
                have hc := ih c z
                have h' : (if g then max b c else min b c) = k := Option.some.inj h
                have : k = b ∨ k = c := by cases g <;> simp at h' <;> omega
                rcases this with rfl | rfl
                · exact List.mem_cons_self
                · exact List.mem_cons_of_mem _ hc
        cases z : best g l with
        | none => rfl
        | some c =>
          have hc := hl c (hb c z)
          show some _ = some _
          cases g <;> simp at hc ⊢ <;> omega

/-! ### turned: amounts negative; larger amounts -/
def onO (f : Int → Int) : Option Int → Option Int := Option.map f
theorem best_neg (g : Bool) (l : List (Option Int)) : best (!g) (l.map (onO (fun z => -1 * z))) = onO (fun z => -1 * z) (best g l) := by
  induction l with
  | nil => rfl
  | cons x l ih =>
    show cmb (!g) (onO (fun z => -1 * z) x) (best (!g) (l.map (onO (fun z => -1 * z)))) = onO (fun z => -1 * z) (cmb g x (best g l))
    rw [ih]
    cases x <;> cases best g l <;> cases g <;> simp [cmb, onO] <;> omega
theorem best_mul (g : Bool) {c : Int} (hc : 0 < c) (l : List (Option Int)) : best g (l.map (onO (fun z => c * z))) = onO (fun z => c * z) (best g l) := by
  induction l with
  | nil => rfl
  | cons x l ih =>
    show cmb g (onO (fun z => c * z) x) (best g (l.map (onO (fun z => c * z)))) = onO (fun z => c * z) (cmb g x (best g l))
    rw [ih]
    have mono : ∀ a b : Int, a ≤ b → c * a ≤ c * b := fun a b h => Int.mul_le_mul_of_nonneg_left h (Int.le_of_lt hc)
    cases x with
    | none => simp [cmb, onO]
    | some a =>
      cases best g l with
      | none => simp [cmb, onO]
      | some b =>
        cases g <;> simp only [cmb, onO, Option.map, Bool.false_eq_true, if_false, if_true] <;> congr 1
        · rcases Int.le_total a b with h | h
          · have := mono a b h
            rw [Int.min_eq_left h, Int.min_eq_left this]
          · have := mono b a h
            rw [Int.min_eq_right h, Int.min_eq_right this]
        · rcases Int.le_total a b with h | h
          · have := mono a b h
            rw [Int.max_eq_right h, Int.max_eq_right this]
          · have := mono b a h
            rw [Int.max_eq_left h, Int.max_eq_left this]
theorem getD_map (f : Int → Int) (row : Row) (k : Nat) : (row.map (onO f)).getD k none = onO f (row.getD k none) := by
  rw [List.getD_eq_getElem?_getD, List.getD_eq_getElem?_getD, List.getElem?_map]
  cases row[k]? <;> rfl
theorem tval_map {f : Int → Int} (h0 : f 0 = 0) (ha : ∀ a b, f (a + b) = f a + f b) (row : Row) (a : Int) (t : Tm) : tval (row.map (onO f)) (f a) t = onO f (tval row a t) := by
  unfold tval
  cases tmSrc t with
  | none =>
    show some _ = some _
    cases tmTk t
    · exact congrArg some h0.symm
    · rfl
  | some k =>
    show Option.map (fun z => if tmTk t then z + f a else z) ((row.map (onO f)).getD k none) = onO f (Option.map (fun z => if tmTk t then z + a else z) (row.getD k none))
    rw [getD_map]
    generalize row.getD k none = z
    cases z with
    | none => rfl
    | some z =>
      show some _ = some _
      cases tmTk t
      · rfl
      · exact congrArg some (ha z a).symm
def Sta.turned (st : Sta) : Sta := { st with g := !st.g }
def evMul (c : Int) (log : List Ev) : List Ev := log.map fun e => (e.1, c * e.2)
theorem step_map {g g' : Bool} {f : Int → Int} (h0 : f 0 = 0) (ha : ∀ a b, f (a + b) = f a + f b) (hb : ∀ l, best g' (l.map (onO f)) = onO f (best g l)) (rule : Rule) (row : Row) (a : Int) :
    stepR g' rule (row.map (onO f)) (f a) = (stepR g rule row a).map (onO f) := by
  unfold stepR
  rw [List.map_map]
  refine List.map_congr_left fun ts _ => ?_
  show best g' (ts.map (tval (row.map (onO f)) (f a))) = onO f (best g (ts.map (tval row a)))
  rw [← hb, List.map_map]
  congr 1
  exact List.map_congr_left fun t _ => tval_map h0 ha row a t
theorem res_map {g g' : Bool} {f : Int → Int} (hb : ∀ l, best g' (l.map (onO f)) = onO f (best g l)) (ends : List (Fin 6)) (row : Row) : resR g' ends (row.map (onO f)) = onO f (resR g ends row) := by
  unfold resR
  rw [← hb, List.map_map]
  congr 1
  exact List.map_congr_left fun k _ => getD_map f row k.val
theorem row_map {f : Int → Int} (h0 : f 0 = 0) (st : Sta) : st.row.map (onO f) = st.row := by
  unfold Sta.row
  rw [List.map_map]
  refine List.map_congr_left fun b _ => ?_
  cases b
  · rfl
  · exact congrArg some h0
theorem resultsFrom_map {st st' : Sta} {f : Int → Int} (h0 : f 0 = 0) (ha : ∀ a b, f (a + b) = f a + f b) (hb : ∀ l, best st'.g (l.map (onO f)) = onO f (best st.g l)) (hr : st'.rules = st.rules) (he : st'.ends = st.ends) :
    ∀ (log : List Ev) (row : Row), st'.resultsFrom (row.map (onO f)) (log.map fun e => (e.1, f e.2)) = (st.resultsFrom row log).map (onO f) := by
  intro log
  induction log with
  | nil =>
    intro row
    show [resR st'.g st'.ends (row.map (onO f))] = [onO f (resR st.g st.ends row)]
    rw [he, res_map hb]
  | cons e log ih =>
    intro row
    show resR st'.g st'.ends (row.map (onO f)) :: st'.resultsFrom (stepR st'.g (st'.rules.getD e.1 []) (row.map (onO f)) (f e.2)) (log.map fun e => (e.1, f e.2)) = onO f (resR st.g st.ends row) :: (st.resultsFrom (stepR st.g (st.rules.getD e.1 []) row e.2) log).map (onO f)
    rw [he, hr, res_map hb, step_map h0 ha hb, ih]
theorem results_turned (st : Sta) (log : List Ev) : st.turned.results (evMul (-1) log) = (st.results log).map (onO fun z => -1 * z) := by
  have h := resultsFrom_map (st := st) (st' := st.turned) (f := fun z => -1 * z) rfl (fun a b => by omega) (fun l => best_neg st.g l) rfl rfl log st.row
  rw [row_map rfl st] at h
  exact h
theorem results_mul (st : Sta) {c : Int} (hc : 0 < c) (log : List Ev) : st.results (evMul c log) = (st.results log).map (onO fun z => c * z) := by
  have h := resultsFrom_map (st := st) (st' := st) (f := fun z => c * z) (Int.mul_zero c) (fun a b => Int.mul_add c a b) (fun l => best_mul st.g hc l) rfl rfl log st.row
  rw [row_map (Int.mul_zero c) st] at h
  exact h
/-! ### lengths -/
theorem resultsFrom_length (st : Sta) : ∀ (log : List Ev) (row : Row), (st.resultsFrom row log).length = log.length + 1
  | [], _ => rfl
  | e :: r, row => by
    show (st.resultsFrom (st.stp row e) r).length + 1 = _
    rw [resultsFrom_length st r]; rfl
theorem results_length (st : Sta) (log : List Ev) : (st.results log).length = log.length + 1 := resultsFrom_length st log st.row
/-- the result behind the first i events -/
theorem resultsFrom_get (st : Sta) : ∀ (log : List Ev) (row : Row) (i : Nat), i ≤ log.length → (st.resultsFrom row log)[i]? = some (st.res (st.run row (log.take i)))
  | [], row, i, h => by
    have e : i = 0 := Nat.le_zero.mp h
    subst e
    rfl
  | e :: r, row, 0, _ => rfl
  | e :: r, row, i + 1, h => by
    show (st.resultsFrom (st.stp row e) r)[i]? = _
    rw [resultsFrom_get st r _ i (Nat.le_of_succ_le_succ h)]
    rfl
end TP
set_option Elab.async false
set_option linter.all false
set_option maxRecDepth 100000
set_option maxHeartbeats 4000000
/-! calls whose whole change of the state is known (PySem.Keeps): what an element of a comprehension over a generator may do -/
namespace TP
open PySem PySem.Spec PyProof.Rows L2
theorem kp_refl (s : Shared) : Keeps s s := ⟨s.heap, s.toks, rfl, fun _ _ e => e⟩
theorem kp_trans {a b c : Shared} (x : Keeps a b) (y : Keeps b c) : Keeps a c := by
  obtain ⟨h1, t1, rfl, k1⟩ := x
  obtain ⟨h2, t2, rfl, k2⟩ := y
  exact ⟨h2, t2, rfl, fun d o e => k2 d o (k1 d o e)⟩
theorem kp_old {a b : Shared} (x : Keeps a b) : ∀ d o, a.heap.get? d = some o → b.heap.get? d = some o := by
  obtain ⟨h1, t1, rfl, k1⟩ := x
  exact k1
theorem keeps_inv {X : Cx} {pins : List (Addr × Obj)} {σ : L2.St} {H : Hp} {s s' : Shared} (I : Inv X pins σ H s) (k : Keeps s s') : Inv X pins σ H s' := by
  obtain ⟨h', tk, rfl, q⟩ := k
  exact I.kept q
section
variable {P : Program} {w : World} {K : PySem.W.Frag} {mg : Str → Option Value} {base : Heap} {A : Around} {outer : List Env} {s : Shared} {H : Hp}
/-- a plain def's call, its body on the raw level -/
theorem raw_call {x q : Str} {st : Stmt} {f : Addr} {fd : FuncData} {N ps : List Str} {k : Nat} {us : List Value} {vs : List V} {R : Value → Heap → Prop} (F : FnP K x q st f fd) (S : FnScope N ps (defScope st)) (hr : Room (k + 1) A)
    (e0 : Env0 P w K mg base A outer s H) (hb : BindsTo s fd ⟨us, []⟩ (ps.zip us)) (r : Vals vs us) (hl : vs.length = ps.length)
    (body : ∀ (cdv : Value) (s1 : Shared), Room k (cxOf CX0 P w K mg base N q (defScope st) f cdv A outer s H E0).A → Inv (cxOf CX0 P w K mg base N q (defScope st) f cdv A outer s H E0) [] (start N vs) H s1 → Keeps s s1 →
      wpAny (model P w) (cxOf CX0 P w K mg base N q (defScope st) f cdv A outer s H E0).A (execs (defBody st) (cxOf CX0 P w K mg base N q (defScope st) f cdv A outer s H E0).env) (fun fl s' => Keeps s s' ∧ ∃ u, fl = .ret u ∧ R u s'.heap) (fun _ _ => False) s1) :
    codeAny (model P w) A (.call (.ref f) ⟨us, []⟩) (fun r s' => Keeps s s' ∧ ∃ u, r = .ok (.ret u) ∧ R u s'.heap) s := by
  obtain ⟨oc, od, dV, kV, doc, pm, an, cdv, ct, osl, rfl, lk, hcd, _, _⟩ := F.ex
  have KX : K.In s.heap := e0.mod.kin.keeps fun b o e => (e0.bs b o e).1
  have lim : s.heap.NoLimit := e0.mod.nolimit.keeps fun b o e => (e0.bs b o e).1
  have hkind : ∀ y ∈ ps.zip us, (defScope st).names.lookup y.1 = some .local ∨ ((defScope st).names.lookup y.1 = some .cell ∧ ((cellsFrom (s.heap.objs.size + 1) (defScope st).names []).lookup y.1).isSome = true) := fun ⟨n, v⟩ hy => by
    rcases S.par n (List.of_mem_zip hy).1 with q | q
    · exact .inl q
    · exact .inr ⟨q, PySem.W.cellsFrom_some _ _ _ (.inl q)⟩
  refine codeAny_call_function hr.depth (KX _ _ lk) rfl S.co S.gen rfl (PySem.W.codeRec_of KX hcd) (hb _ _ _ _ ?_)
  refine wpAny_newFunctionEnv_cells S.kind hkind fun env he s1 x => ?_
  subst he
  refine ⟨lim.keeps x.toInCall.keep, codeAny_func ?_⟩
  have I : Inv (cxOf CX0 P w K mg base N q (defScope st) f cdv A outer s H E0) [] (start N vs) H s1 := inv_start S hr.hd e0 hl r x
  refine wpAny_mono (body cdv s1 (hr.deeper _) I x.done) (fun fl s' hs => ?_) fun e s' hs => False.elim hs
  obtain ⟨h1, u, rfl, h2⟩ := hs
  exact ⟨h1, u, rfl, h2⟩
end
/-- a local name's value -/
theorem raw_name {M : Model} {A : Around} {E : Value → Shared → Prop} {s : Shared} {env : Env} {x : Str} {pos : Pos} {m : Str → Option Value} {u : Value} {Q : Value → Shared → Prop} (hk : env.scope.kind = .function) (hl : env.kindOf x = some .local) (hn : s.heap.Ns env.locals m) (hm : m x = some u) (h : Q u s)
    (hd : (x == ("__debug__" : Str)) = false := by decide) : wpAny M A (eval (.Name x pos) env) Q E s := wpAny_Name (wpAny_loadName_local hk hl hn hm h) hd
/-- a built-in's name, a global's -/
theorem raw_blt {P : Program} {w : World} {A : Around} {E : Value → Shared → Prop} {s : Shared} {env : Env} {x : Str} {pos : Pos} {K : PySem.W.Frag} {mg : Str → Option Value} {base : Heap} {u : Value} {Q : Value → Shared → Prop} (mod : Mod K mg base) (kb : ∀ b o, base.get? b = some o → s.heap.get? b = some o)
    (hk : env.scope.kind = .function) (hgl : env.globals = mainGlobals) (hbl : env.builtins = builtinsNs) (hg : env.kindOf x = some .globalImplicit) (hm : mg x = none) (hv : bootBuiltins x = some u) (h : Q u s) (hn : x ≠ "__name__" := by decide) (hd : (x == ("__debug__" : Str)) = false := by decide) :
    wpAny (model P w) A (eval (.Name x pos) env) Q E s := by
  obtain ⟨mb, h1, h2⟩ := mod.blt
  exact Calls.Name_function_global hk hg (Calls.loadGlobal_builtin (by rw [hgl]; exact mod.glob.keeps kb) hm (by rw [hbl]; exact h1.keeps kb) ((h2 x hn).trans hv) h) hd
theorem raw_glob {P : Program} {w : World} {A : Around} {E : Value → Shared → Prop} {s : Shared} {env : Env} {x : Str} {pos : Pos} {K : PySem.W.Frag} {mg : Str → Option Value} {base : Heap} {u : Value} {Q : Value → Shared → Prop} (mod : Mod K mg base) (kb : ∀ b o, base.get? b = some o → s.heap.get? b = some o)
    (hk : env.scope.kind = .function) (hgl : env.globals = mainGlobals) (hg : env.kindOf x = some .globalImplicit) (hm : mg x = some u) (h : Q u s) (hd : (x == ("__debug__" : Str)) = false := by decide) : wpAny (model P w) A (eval (.Name x pos) env) Q E s :=
  Calls.Name_function_global hk hg (Calls.loadGlobal_global (by rw [hgl]; exact mod.glob.keeps kb) hm h) hd
def optV : Option Int → V
  | none => .non
  | some z => .int z
end TP
set_option Elab.async false
set_option linter.all false
set_option maxRecDepth 100000
set_option maxHeartbeats 4000000
namespace TP
open PySem PySem.Spec PyProof.Rows L2
/-- a value of a row: None or an int -/
def IsOpt (o : Option Int) (u : Value) : Prop := RelV (optV o) u
theorem isOpt_none {o : Option Int} {u : Value} (h : IsOpt o u) : (u == Value.none) = decide (o = none) := by
  rw [RelV.none_iff h]
  cases o <;> simp [optV]
/-- the ints among the values -/
theorem filter_ints : ∀ {os : List (Option Int)} {us : List Value}, Paired IsOpt os us → IntsAre (us.filter fun v => !(v == Value.none)) (somes os)
  | [], _, .nil => .nil
  | o :: os, u :: us, .cons r t => by
    have ih := filter_ints t
    have e := isOpt_none r
    cases o with
    | none =>
      have e' : (u == Value.none) = true := by rw [e]; rfl
      rw [List.filter_cons, e']
      exact ih
    | some z =>
      have e' : (u == Value.none) = false := by rw [e]; rfl
      rw [List.filter_cons, e']
      obtain ⟨t', rfl⟩ : ∃ t', u = Value.int z t' := r
      exact .cons z t' ih

theorem reads_ints : ∀ {us : List Value} {ns : List Int} {h : Heap}, IntsAre us ns → ReadsAll h us (ns.map PyData.int) []
  | _, _, _, .nil => .nil
  | _, _, _, .cons n t r => .cons (.int n t) (reads_ints r)
theorem shaped_ints (ns : List Int) : SeqAt.shaped (.list (ns.map PyData.int)) = true := by
  have h : ∀ l : List Int, PyData.canLayAll0 (l.map PyData.int) = true ∧ PyData.depthAll (l.map PyData.int) ≤ 1 := by
    intro l
    induction l with
    | nil => exact ⟨rfl, by decide⟩
    | cons n l ih =>
      refine ⟨?_, ?_⟩
      · rw [List.map_cons, PyData.canLayAll0, ih.1]; rfl
      · rw [List.map_cons, PyData.depthAll, PyData.depth]
        exact Nat.max_le.mpr ⟨by decide, ih.2⟩
  unfold SeqAt.shaped
  rw [PyData.canLay0, (h ns).1, PyData.depth]
  have := (h ns).2
  simp
  omega
theorem eqv_nil (ns : List Int) : PyData.eqv (.list (ns.map PyData.int)) (.list []) = ns.isEmpty := by
  cases ns <;> rfl
section
variable {P : Program} {w : World} {K : PySem.W.Frag} {mg : Str → Option Value} {base : Heap} {A : Around} {outer : List Env} {s : Shared} {H : Hp} {f l : Addr} {fd : FuncData} {g : Bool} {t : Tok} {os : List (Option Int)} {its : List Value}
theorem bestof_raw (F : FnP K "best_of" "best_of" sBestOf f fd) (hb : Binds K fd pBestOf []) (gMax : mg "max" = none) (gMin : mg "min" = none) (hr : Room 2 A) (e0 : Env0 P w K mg base A outer s H)
    (hl : s.heap.IsList l its.toArray) (hv : Paired IsOpt os its) (hlen : its.length ≤ 1000) {E : Value → Shared → Prop} :
    wpAny (model P w) A (call (.ref f) [.str (sideS g) t, .ref l]) (fun u s' => Keeps s s' ∧ IsOpt (best g os) u) E s := by
  have KX : K.In s.heap := e0.mod.kin.keeps fun b o e => (e0.bs b o e).1
  have hb2 := hb s [.str (sideS g) t, .ref l] KX rfl
  refine wpAny_call (codeAny_mono (raw_call (R := fun u _ => IsOpt (best g os) u) (vs := [.str (sideS g), .ref l]) F scBestOf hr e0 hb2 (.cons ⟨t, rfl⟩ (.cons rfl .nil)) rfl fun cdv s1 hr1 I1 k1 => ?_) fun r s' hq => ?_)
  · obtain ⟨m, hn, hlk⟩ := I1.loc
    obtain ⟨u0, ru0, lk0⟩ := hlk 0 "side" (.str (sideS g)) rfl rfl (.inl rfl)
    obtain ⟨u1, ru1, lk1⟩ := hlk 1 "values" (.ref l) rfl rfl (.inl rfl)
    have m0 : m "side" = some u0 := by
      rcases lk0 with ⟨_, h⟩ | ⟨h, _⟩
      · exact h
      · rcases h with h | h <;> cases h
    have m1 : m "values" = some u1 := by
      rcases lk1 with ⟨_, h⟩ | ⟨h, _⟩
      · exact h
      · rcases h with h | h <;> cases h
    obtain rfl : u1 = Value.ref l := ru1
    obtain ⟨t0, rfl⟩ := ru0
    have hl1 : s1.heap.IsList l its.toArray := hl.at fun o e => kp_old k1 _ o e
    refine wpAny_execs_cons (wpAny_Assign_ListComp_free (p := fun v => !(v == Value.none)) (F := fun v y => v = y) (sw_true rfl rfl rfl (by decide +kernel)) rfl (by decide +kernel) rfl (by decide +kernel) rfl rfl rfl ?_)
    refine raw_name rfl rfl hn m1 ?_
    refine wpAny_pyIter_list hl1 ?_
    have hlt : l < s1.heap.objs.size := by obtain ⟨o, ho, _⟩ := hl1; exact Heap.lt_size ho
    have hL : (cxOf CX0 P w K mg base nBestOf "best_of" (defScope sBestOf) f cdv A outer s H E0).env.locals < s1.heap.objs.size := I1.lt
    have hL0 : s.heap.objs.size ≤ (cxOf CX0 P w K mg base nBestOf "best_of" (defScope sBestOf) f cdv A outer s H E0).env.locals := Nat.le_refl _
    have hsz : its.toArray.size ≤ sizeLine := by rw [List.size_toArray]; exact Nat.le_of_lt (small1000 hlen)
    have up2 : ∀ b o, s1.heap.get? b = some o → (s1.heap.push { cls := .type "list_iterator", data := .fields #[.ref l, .int 0 0] }).get? b = some o := fun b o e => Heap.get?_push_of_some _ e
    refine ⟨s1.heap.objs.size, _, _, _, _, _, m, rfl, Walks.list hr1.hd _ l (Nat.ne_of_lt hlt) its.toArray, hsz, ⟨⟨_, Heap.get?_push_size _ rfl, rfl, rfl⟩, hl1.at fun o e => up2 _ o e⟩, ?_, ?_, hn.keeps up2, ⟨?_, ?_⟩, ?_⟩
    · intro b hb
      show b < (s1.heap.push _).objs.size
      rw [Heap.size_push]
      rcases List.mem_cons.mp hb with e | hb
      · rw [e]; exact Nat.lt_succ_self _
      · rw [List.mem_singleton.mp hb]; exact Nat.lt_succ_of_lt hlt
    · intro hm
      rw [List.mem_singleton.mp hm] at hL
      exact Nat.lt_irrefl _ hL
    · -- the test
      intro C i v s₃ m₃ E' hC hP hn3 hm3 hk3 ht3
      refine wpAny_tests_one (wpAny_isTrue_Compare1 (raw_name rfl rfl hn3 hm3 ?_))
      refine Constant_none (isnot_none_gen (wpAny_truthy_bool ⟨rfl, kp_refl _⟩))
    · intro C i v s₃ m₃ E' hC hP hp hn3 hm3 hk3 ht3
      exact raw_name rfl rfl hn3 hm3 ⟨rfl, kp_refl _⟩
    · intro D h' tk ys vs hD hlist hplain hlen' hP hF hns hkeep
      have hvs : vs = its := by
        refine List.ext_getElem? fun j => ?_
        rw [List.size_toArray] at hlen'
        by_cases hj : j < vs.length
        · have e := hP j vs[j] (by simp [hj])
          rw [List.getElem?_eq_getElem hj]
          simpa using e.symm
        · rw [List.getElem?_eq_none (by omega), List.getElem?_eq_none (by omega)]
      have hys : ys.toList = its.filter fun v => !(v == Value.none) := by
        rw [← hvs]
        clear hP hlen' hvs hlist hplain
        generalize vs.filter (fun v => !(v == Value.none)) = zs at hF
        generalize ys.toList = ws at hF
        induction hF with
        | nil => rfl
        | cons r _ ih => rw [r, ih]
      have hints := filter_ints hv
      have kp1 : ∀ b o, s.heap.get? b = some o → h'.get? b = some o := fun b o e => by
        have hlt := Heap.lt_size e
        refine hkeep b o (Nat.ne_of_lt (Nat.lt_of_lt_of_le hlt hL0)) (fun hm => ?_) (up2 b o (kp_old k1 b o e))
        rw [List.mem_singleton.mp hm] at hlt
        exact Nat.lt_irrefl _ (Nat.lt_trans (Nat.lt_of_lt_of_le hlt hL0) hL)
      obtain ⟨hs1, ts1, rfl, _⟩ := k1
      have kb : ∀ b o, base.get? b = some o → h'.get? b = some o := fun b o e => kp1 b o (e0.bs b o e).1
      have hnf : h'.Ns (cxOf CX0 P w K mg base nBestOf "best_of" (defScope sBestOf) f cdv A outer s H E0).env.locals (fun z => if z = "found" then some (.ref D) else m z) := hns
      -- if found == []
      refine wpAny_execs_cons (wpAny_If (wpAny_isTrue_Compare1 (raw_name rfl rfl hnf (by rfl) ?_)))
      refine wpAny_List_spliced (Calls.spliced_nil ⟨Nat.zero_le _, ?_⟩)
      have hRd : Reads (h'.push { cls := .type "list", data := .seq ([] : List Value).toArray }) (.ref D) (.list ((somes os).map PyData.int)) [D] := by
        obtain ⟨o, ho, hc, n, hd⟩ := hlist
        exact .list (Heap.get?_push_of_some _ ho) hc hd (by rw [hys]; exact reads_ints hints)
      refine SeqAt.compareEq_shaped hRd (.list (Heap.get?_push_size _ rfl) rfl rfl .nil) (shaped_ints _) (by decide) hr1.units ?_
      rw [eqv_nil]
      refine wpAny_truthy_bool ?_
      have kb2 : ∀ b o, s.heap.get? b = some o → (h'.push { cls := .type "list", data := .seq ([] : List Value).toArray }).get? b = some o := fun b o e => Heap.get?_push_of_some _ (kp1 b o e)
      cases hso : somes os with
      | nil =>
        refine iteT (wpAny_execs_cons (wpAny_Return_some (Constant_none ?_)))
        exact ⟨⟨_, _, rfl, kb2⟩, Value.none, rfl, by rw [best_nil hso]; rfl⟩
      | cons z zs =>
        refine iteF (wpAny_execs_nil ?_)
        have hn2 := hnf.keeps (h' := h'.push { cls := .type "list", data := .seq ([] : List Value).toArray }) fun b o e => Heap.get?_push_of_some _ e
        have hl2 : (h'.push { cls := .type "list", data := .seq ([] : List Value).toArray }).IsList D (its.filter fun v => !(v == Value.none)).toArray := by
          rw [← hys]
          exact hlist.at fun o e => Heap.get?_push_of_some _ e
        have kbb : ∀ b o, base.get? b = some o → (h'.push { cls := .type "list", data := .seq ([] : List Value).toArray }).get? b = some o := fun b o e => Heap.get?_push_of_some _ (kb b o e)
        have hne : 0 < (somes os).length := by rw [hso]; exact Nat.succ_pos _
        generalize hhp : h'.push { cls := .type "list", data := .seq ([] : List Value).toArray } = hp at hn2 hl2 kbb kb2
        refine wpAny_execs_cons (wpAny_Return_some (wpAny_IfExp (wpAny_isTrue_Compare1 (raw_name rfl rfl hn2 (u := .str (sideS g) t0) (by rw [if_neg (by decide +kernel)]; exact m0) (Calls.Constant_str (eq_str (wpAny_truthy_bool ?_)))))))
        cases g with
        | true =>
          show if (sideS true == "greatest") = true then _ else _
          rw [show (sideS true == ("greatest" : Str)) = true by decide +kernel]
          refine iteT (wpAny_Call_Name_kw (raw_blt (u := .builtin "max") e0.mod kbb rfl rfl rfl rfl gMax (by decide +kernel) ?_))
          refine PyProof.Rows.callWith_builtin1 (Calls.spliced_cons (raw_name rfl rfl hn2 (u := .ref D) (by rfl) (Calls.spliced_nil ?_)))
          refine max_raw hr1.hd hl2 hints hne fun h3 tk3 M t3 hk3 hM hle => ⟨⟨_, _, rfl, fun b o e => hk3 b o (kb2 b o e)⟩, _, rfl, ?_⟩
          rw [best_of_mem (g := true) hM fun n hn => iteT (hle n hn)]
          exact ⟨t3, rfl⟩
        | false =>
          show if (sideS false == "greatest") = true then _ else _
          rw [show (sideS false == ("greatest" : Str)) = false by decide +kernel]
          refine iteF (wpAny_Call_Name_kw (raw_blt (u := .builtin "min") e0.mod kbb rfl rfl rfl rfl gMin (by decide +kernel) ?_))
          refine PyProof.Rows.callWith_builtin1 (Calls.spliced_cons (raw_name rfl rfl hn2 (u := .ref D) (by rfl) (Calls.spliced_nil ?_)))
          refine min_raw hr1.hd hl2 hints hne fun h3 tk3 M t3 hk3 hM hle => ⟨⟨_, _, rfl, fun b o e => hk3 b o (kb2 b o e)⟩, _, rfl, ?_⟩
          rw [best_of_mem (g := false) hM fun n hn => iteF (hle n hn)]
          exact ⟨t3, rfl⟩
  · obtain ⟨h1, u, rfl, h2⟩ := hq
    exact ⟨h1, h2⟩
end
end TP
set_option Elab.async false
set_option linter.all false
set_option maxRecDepth 100000
set_option maxHeartbeats 4000000
namespace TP
open PySem PySem.Spec PyProof.Rows L2
def digT : List Str := ["0", "1", "2", "3", "4", "5"]
def digS (k : Fin 6) : Str := digT.getD k.val Str.empty
theorem cut_reg : ∀ k : Fin 6, PySem.StrLaws.sliceText (regS k) (some 1) none = digS k := by decide +kernel
theorem regS_inj : ∀ i j : _root_.Fin 6, regS i = regS j → i = j := by decide +kernel
theorem cut_not : ∀ k : Fin 6, (((1 : Int) == 1 && (Builtin.Str.strSliceIndices (some 1) none 1 (regS k).length).length == (regS k).length)) = false := by decide +kernel
theorem int_dig : ∀ k : Fin 6, PySem.intText? (digS k) = some (k.val : Int) := by decide +kernel
theorem dig_len : ∀ k : Fin 6, (digS k).length ≤ 640 := by decide +kernel
section
variable {P : Program} {w : World} {K : PySem.W.Frag} {mg : Str → Option Value} {base : Heap} {A : Around} {outer : List Env} {s : Shared} {H : Hp} {f l : Addr} {fd : FuncData} {g : Bool} {t : Tok} {os : List (Option Int)} {its : List Value}
/-- slot[1:] -/
theorem raw_cut {E : Value → Shared → Prop} {env : Env} {e : Expr} {c : Nat} {p1 p2 pos : Pos} {k : Fin 6} {Q : Value → Shared → Prop} (h : ∀ Q' : Value → Shared → Prop, (∀ t, Q' (.str (regS k) t) s) → wpAny (model P w) A (eval e env) Q' E s)
    (hQ : ∀ t s', Keeps s s' → Q (.str (digS k) t) s') :
    wpAny (model P w) A (eval (.Subscript e (.Slice (some (.Constant (.int 1) c p1)) none none p2) pos) env) Q E s := by
  refine Subscript_ (h _ fun t => ?_)
  refine wpAny_Slice ?_
  rw [evalPart_some]
  refine wpAny_Constant_int ?_
  rw [evalPart_none]
  refine wpAny_pure (wpAny_pure ?_)
  generalize hh : s.heap.push { cls := .type "slice", data := .fields #[.int 1 s.toks, .none, .none] } = h1
  have hs1 : h1.IsSliceOf s.heap.objs.size (.int 1 s.toks) .none .none := by rw [← hh]; exact Heap.IsSliceOf.new ..
  have k1 : ∀ b o, s.heap.get? b = some o → h1.get? b = some o := fun b o e => by rw [← hh]; exact Heap.get?_push_of_some _ e
  obtain ⟨os, hos, hcs, hds⟩ := hs1
  refine tail_any (ops := [.ref s.heap.objs.size, .str (regS k) t]) (typeIs_str _ _ _) F.slot_str_getitem.lookup ?_ (by with_unfolding_all rfl)
  refine wpAny_getItem_str_slice (l := some (1, s.toks)) (u := none) (st := none) ⟨os, hos, hcs, hds⟩ rfl ?_
  show Made.post (if ((1 : Int) == 1 && (Builtin.Str.strSliceIndices (some 1) none 1 (regS k).length).length == (regS k).length) = true then Made.val (.str (regS k) t)
    else Made.str ⟨((Builtin.Str.strSliceIndices (some 1) none 1 (regS k).length).filterMap ((regS k).cps[·]?)).toArray⟩) Q _
  rw [if_neg (by rw [cut_not k]; exact Bool.false_ne_true)]
  have e := cut_reg k
  unfold PySem.StrLaws.sliceText at e
  rw [if_neg (by rw [cut_not k]; exact Bool.false_ne_true)] at e
  rw [e]
  exact ⟨Nat.le_trans (dig_len k) (by decide), hQ _ _ ⟨_, _, rfl, k1⟩⟩

theorem kp_of {s s' : Shared} {h' : Heap} {tk : Nat} (k : Keeps s s') (q : ∀ b o, s'.heap.get? b = some o → h'.get? b = some o) : Keeps s { s' with heap := h', toks := tk } := kp_trans k ⟨_, _, rfl, q⟩
theorem readout_raw {fb ra ha : Addr} {fdb : FuncData} {ends : List (_root_.Fin 6)} {rits hits : List Value} {row : Row} (F : FnP K "read_out" "read_out" sReadOut f fd) (hb : Binds K fd pReadOut []) (FB : FnP K "best_of" "best_of" sBestOf fb fdb) (hbB : Binds K fdb pBestOf [])
    (gB : mg "best_of" = some (.ref fb)) (gI : mg "int" = none) (gMax : mg "max" = none) (gMin : mg "min" = none) (hr : Room 4 A) (e0 : Env0 P w K mg base A outer s H)
    (hra : s.heap.IsTuple ra rits.toArray) (hha : s.heap.IsTuple ha hits.toArray) (hrv : Paired (fun (k : _root_.Fin 6) u => RelV (.str (regS k)) u) ends rits) (hhv : Paired IsOpt row hits) (hlr : ends.length ≤ 100) (hlh : row.length ≤ 100) (hin : ∀ k ∈ ends, k.val < row.length)
    {E : Value → Shared → Prop} :
    wpAny (model P w) A (call (.ref f) [.str (sideS g) t, .ref ra, .ref ha]) (fun u s' => Keeps s s' ∧ IsOpt (resR g ends row) u) E s := by
  have KX : K.In s.heap := e0.mod.kin.keeps fun b o e => (e0.bs b o e).1
  have hb2 := hb s [.str (sideS g) t, .ref ra, .ref ha] KX rfl
  refine wpAny_call (codeAny_mono (raw_call (R := fun u _ => IsOpt (resR g ends row) u) (vs := [.str (sideS g), .ref ra, .ref ha]) F scReadOut hr e0 hb2 (.cons ⟨t, rfl⟩ (.cons rfl (.cons rfl .nil))) rfl fun cdv s1 hr1 I1 k1 => ?_) fun r s' hq => ?_)
  · obtain ⟨m, hn, hlk⟩ := I1.loc
    obtain ⟨u0, ru0, lk0⟩ := hlk 0 "side" (.str (sideS g)) rfl rfl (.inl rfl)
    obtain ⟨u1, ru1, lk1⟩ := hlk 1 "result" (.ref ra) rfl rfl (.inl rfl)
    obtain ⟨u2, ru2, lk2⟩ := hlk 2 "held" (.ref ha) rfl rfl (.inr (.inl rfl))
    have m0 : m "side" = some u0 := by
      rcases lk0 with ⟨_, h⟩ | ⟨h, _⟩
      · exact h
      · rcases h with h | h <;> cases h
    have m1 : m "result" = some u1 := by
      rcases lk1 with ⟨_, h⟩ | ⟨h, _⟩
      · exact h
      · rcases h with h | h <;> cases h
    obtain rfl : u1 = Value.ref ra := ru1
    obtain rfl : u2 = Value.ref ha := ru2
    obtain ⟨t0, rfl⟩ := ru0
    obtain ⟨c, hc, hcell⟩ : ∃ c, (cxOf CX0 P w K mg base nReadOut "read_out" (defScope sReadOut) f cdv A outer s H E0).env.cells.lookup ("held" : Str) = some c ∧ s1.heap.IsCell c (some (.ref ha)) := by
      rcases lk2 with ⟨h, _⟩ | ⟨_, c, h1, h2⟩
      · cases h
      · exact ⟨c, h1, h2⟩
    have kb1 : ∀ b o, base.get? b = some o → s1.heap.get? b = some o := I1.bk
    refine wpAny_execs_cons (wpAny_Return_some (wpAny_Call_Name_kw (raw_glob e0.mod kb1 rfl rfl rfl gB ?_)))
    refine PySem.W.callWith_K (h₀ := base) e0.mod.kin FB.kp (Calls.spliced_cons (raw_name rfl rfl hn m0 (Calls.spliced_cons ?_))) rfl rfl
    have hta : s1.heap.IsTuple ra rits.toArray := hra.at fun o e => kp_old k1 _ o e
    have hth : s1.heap.IsTuple ha hits.toArray := hha.at fun o e => kp_old k1 _ o e
    have hlt : ra < s1.heap.objs.size := by obtain ⟨o, ho, _⟩ := hta; exact Heap.lt_size ho
    have hclt : c < s1.heap.objs.size := hcell.lt
    have hhlt : ha < s1.heap.objs.size := by obtain ⟨o, ho, _⟩ := hth; exact Heap.lt_size ho
    have hrl := Paired.length hrv
    have hhl := Paired.length hhv
    have hsz : rits.toArray.size ≤ sizeLine := by rw [List.size_toArray, ← hrl]; exact Nat.le_of_lt (small1000 (Nat.le_trans hlr (by decide)))
    have up2 : ∀ b o, s1.heap.get? b = some o → (s1.heap.push { cls := .type "tuple_iterator", data := .fields #[.ref ra, .int 0 0] }).get? b = some o := fun b o e => Heap.get?_push_of_some _ e
    refine wpAny_ListComp_free (p := fun _ => true) (F := fun v y => ∃ k : _root_.Fin 6, RelV (.str (regS k)) v ∧ k ∈ ends ∧ IsOpt (row.getD k.val none) y) (closure_ok fun y hy e => ?_) (by decide +kernel) rfl (by decide +kernel) rfl ?_
    · refine I1.ok.has y.1 (.inl ?_)
      show (defScope sReadOut).names.lookup y.1 = some .cell
      revert e
      revert hy
      revert y
      decide +kernel
    refine raw_name rfl rfl hn m1 (wpAny_pyIter_tuple hta ?_)
    refine ⟨s1.heap.objs.size, _, _, _, _, _, rfl, Walks.tuple hr1.hd _ ra (Nat.ne_of_lt hlt) rits.toArray, hsz, ⟨⟨_, Heap.get?_push_size _ rfl, rfl, rfl⟩, hta.at fun o e => up2 _ o e⟩, ?_, ⟨?_, ?_⟩, ?_⟩
    · intro b hb
      show b < (s1.heap.push _).objs.size
      rw [Heap.size_push]
      rcases List.mem_cons.mp hb with e | hb
      · rw [e]; exact Nat.lt_succ_self _
      · rw [List.mem_singleton.mp hb]; exact Nat.lt_succ_of_lt hlt
    · intro C i v s₃ m₃ E' hC hP hn3 hm3 hk3 ht3
      exact wpAny_tests_nil ⟨rfl, kp_refl _⟩
    · intro C i v s₃ m₃ E' hC hP hp hn3 hm3 hk3 ht3
      obtain ⟨k, hk, rk, hmem⟩ : ∃ k : _root_.Fin 6, k ∈ ends ∧ RelV (.str (regS k)) v ∧ True := by
        have hP' : rits.toArray[i]? = some v := hP
        have hP2 : rits[i]? = some v := by simpa using hP'
        have hi : i < ends.length := by
          have := (List.getElem?_eq_some_iff.mp hP2).1
          omega
        obtain ⟨b, hb, rb⟩ := paired_get hrv (List.getElem?_eq_getElem hi)
        rw [hP2] at hb
        cases hb
        exact ⟨_, List.getElem_mem hi, rb, trivial⟩
      obtain ⟨tv, rfl⟩ := rk
      have hcell3 : s₃.heap.IsCell c (some (.ref ha)) := by
        obtain ⟨o, ho, hd⟩ := hcell
        refine ⟨o, hk3 c o (fun z => ?_) (up2 c o ho), hd⟩
        rw [List.mem_singleton.mp z] at hclt
        exact Nat.lt_irrefl _ hclt
      have hth3 : s₃.heap.IsTuple ha hits.toArray := hth.at fun o e => hk3 ha o (fun z => by rw [List.mem_singleton.mp z] at hhlt; exact Nat.lt_irrefl _ hhlt) (up2 ha o e)
      have kb3 : ∀ b o, base.get? b = some o → s₃.heap.get? b = some o := fun b o e => hk3 b o (fun z => by
        have h1 := Heap.lt_size (kb1 b o e)
        rw [List.mem_singleton.mp z] at h1
        exact Nat.lt_irrefl _ h1) (up2 b o (kb1 b o e))
      -- held[int(slot[1:])]
      refine Subscript_ (wpAny_Name (wpAny_loadName_cell rfl rfl (c := c) ?_ hcell3 ?_) (by decide))
      · show some (((cxOf CX0 P w K mg base nReadOut "read_out" (defScope sReadOut) f cdv A outer s H E0).env.cells.lookup ("held" : Str)).getD 0) = some c
        rw [hc]
        rfl
      refine wpAny_Call_Name_kw (raw_blt (u := .type "int") e0.mod kb3 rfl rfl rfl rfl gI (by decide +kernel) ?_)
      refine PyProof.Rows.callWith_type1 (Calls.spliced_cons (raw_cut (k := k) (fun Q' hq => raw_name rfl rfl hn3 hm3 (hq tv)) fun t4 s4 k4 => Calls.spliced_nil ?_))
      refine PySem.W.KIN.call_text (int_dig k) (dig_len k) ?_
      have hj : k.val < hits.length := by rw [← hhl]; exact hin k hk
      obtain ⟨y, hy, ry⟩ := paired_get hhv (List.getElem?_eq_getElem (hin k hk))
      have hth4 : s4.heap.IsTuple ha hits.toArray := hth3.at fun o e => kp_old k4 _ o e
      refine subscriptTail_builtinR (x := y) (show ({ s4 with toks := s4.toks + 1 } : Shared).TypeIs (.ref ha) "tuple" from hth4.typeIs) slot_tuple_getitem.lookup
        (getItem_tuple (j := k.val) (Q := fun r s' => r = y ∧ _) hth4 (by omega) (by omega) (PySem.StrLaws.seqIndex_nonneg (by omega) (by rw [List.size_toArray]; omega)) (by simpa using hy) ⟨rfl, ⟨k, ⟨tv, rfl⟩, hk, ?_⟩, ?_⟩) (by intros; rfl)
      · rw [List.getD_eq_getElem?_getD, List.getElem?_eq_getElem (hin k hk)]
        exact ry
      · exact kp_trans k4 ⟨_, _, rfl, fun _ _ e => e⟩
    · intro D h' tk ys vs hD hlist hplain hlen' hP hF hkeep
      have hvs : vs = rits := by
        refine List.ext_getElem? fun j => ?_
        rw [List.size_toArray] at hlen'
        by_cases hj : j < vs.length
        · have e := hP j vs[j] (by simp [hj])
          rw [List.getElem?_eq_getElem hj]
          simpa using e.symm
        · rw [List.getElem?_eq_none (by omega), List.getElem?_eq_none (by omega)]
      have hF2 : Paired (fun v y => ∃ k : _root_.Fin 6, RelV (.str (regS k)) v ∧ k ∈ ends ∧ IsOpt (row.getD k.val none) y) rits ys.toList := by
        rw [← hvs]
        have e : vs.filter (fun _ => true) = vs := by simp
        rw [e] at hF
        exact hF
      have hos : Paired IsOpt (ends.map fun k => row.getD k.val none) ys.toList := by
        clear hP hlen' hvs hlist hplain hF hkeep
        have gen : ∀ {es : List (_root_.Fin 6)} {rs us : List Value}, Paired (fun (k : _root_.Fin 6) u => RelV (.str (regS k)) u) es rs → Paired (fun v y => ∃ k : _root_.Fin 6, RelV (.str (regS k)) v ∧ k ∈ ends ∧ IsOpt (row.getD k.val none) y) rs us → Paired IsOpt (es.map fun k => row.getD k.val none) us := by
          intro es rs us a
          induction a generalizing us with
          | nil => intro b; cases b; exact .nil
          | cons r _ ih =>
            intro b
            cases b with
            | cons r2 b2 =>
              obtain ⟨k, rk, _, ro⟩ := r2
              have e : _ = k := regS_inj _ _ (V.str.inj (r.inj rk))
              rw [← e] at ro
              exact .cons ro (ih b2)
        exact gen hrv hF2
      have kp1 : ∀ b o, s1.heap.get? b = some o → h'.get? b = some o := fun b o e => by
        refine hkeep b o (fun hm => ?_) (up2 b o e)
        have h1 := Heap.lt_size e
        rw [List.mem_singleton.mp hm] at h1
        exact Nat.lt_irrefl _ h1
      have kst : Keeps s1 { s1 with heap := h', toks := tk } := ⟨_, _, rfl, kp1⟩
      have I2 := keeps_inv I1 kst
      refine Calls.spliced_nil ⟨I2.kIn, ?_⟩
      refine wpAny_mono (bestof_raw (g := g) (t := t0) FB hbB gMax gMin (hr1.mono (by decide)) I2.env0 (l := D) (its := ys.toList) (by simpa using hlist) hos ?_) (fun u s' hq => ?_) (fun _ _ e => e)
      · have := Paired.length hos
        rw [List.length_map] at this
        omega
      · exact ⟨kp_trans k1 (kp_trans kst hq.1), u, rfl, hq.2⟩
  · obtain ⟨h1, u, rfl, h2⟩ := hq
    exact ⟨h1, h2⟩
end
end TP
set_option Elab.async false
set_option linter.all false
set_option maxRecDepth 100000
set_option maxHeartbeats 4000000
/-! a for loop in a generator's body, on the level of segments -/
namespace TP
open PySem PySem.Spec PyProof.Rows L2 GenW
section
variable {M : Model} {A : Around} {R : GenEnd} {Y : Protocol} {n : Nat} {s₀ s : Shared} {c : Code} {fs : List Frame} {env : Env} {K : Flow → Sem PySem.Fin} {J : Value → Sem PySem.Fin} {gd : Bool → Bool} {lv : List Value → List Value}
/-- the loop's own frame under its caller's -/
abbrev loopFr (env : Env) (K : Flow → Sem PySem.Fin) (J : Value → Sem PySem.Fin) (gd : Bool → Bool) (lv : List Value → List Value) (c : Code) (p : Pos) : Frame :=
  .ret (fun r => ((match r with | .ok f => (.pure f : Sem Flow) | .error e => .raise e).onRaise (cameBack env)).wrap K J gd lv) none (gd false) (lv []) c p []
theorem seg_runOwn {c' : Code} (h : ∀ p, Seg M A R Y n s₀ c' (M.den c') (loopFr env K J gd lv c p :: fs) s) : Seg M A R Y n s₀ c ((runOwn c' env).wrap K J gd lv) fs s := seg_call h
theorem seg_bw {α β : Type} {m : Sem α} {f : α → Sem β} {K : β → Sem PySem.Fin} (h : wpAny M (A.over c fs) m (fun a s' => Seg M A R Y n s₀ c ((f a).wrap K J gd lv) fs s') (fun x s' => Seg M A R Y n s₀ c (J x) fs s') s) :
    Seg M A R Y n s₀ c ((m >>= f).wrap K J gd lv) fs s := by
  rw [Sem.bind_eq_wrap' m f, Sem.wrap_wrap]
  exact seg_wrap h
theorem seg_For {target iter : Expr} {body orelse : List Stmt} {pos : Pos}
    (h : wpAny M (A.over c fs) (eval iter env) (fun x s₁ => wpAny M (A.over c fs) (pyIter x) (fun it s₂ => ∀ p, Seg M A R Y n s₀ (.forLoop target it body orelse env) (M.den (.forLoop target it body orelse env)) (loopFr env K J gd lv c p :: fs) s₂)
      (fun x s' => Seg M A R Y n s₀ c (J x) fs s') s₁) (fun x s' => Seg M A R Y n s₀ c (J x) fs s') s)
    (hs : ∀ x, foldedSetIterable iter env x = pure x := by intro _; rfl) : Seg M A R Y n s₀ c ((exec (.For target iter body orelse pos) env).wrap K J gd lv) fs s := by
  rw [exec_For]
  refine seg_bw (wpAny_standAt ?_)
  refine seg_bw (wpAny_mono h (fun x s₁ h₁ => ?_) fun _ _ e => e)
  refine seg_bw (wpAny_of_eq (hs x) ?_)
  refine seg_bw (wpAny_standAt ?_)
  refine seg_bw (wpAny_holding (wpAny_mono h₁ (fun it s₂ h₂ => ?_) fun _ _ e => e))
  exact seg_runOwn h₂
end
section
variable {prog : Program} {w : World} {A : Around} {R : GenEnd} {Y : Protocol} {n : Nat} {s₀ : Shared} {fs : List Frame} {s : Shared} {env : Env}
/-- one turn of the loop's code (nothing is raised) -/
theorem seg_forLoop {target : Expr} {it : Value} {body : List Stmt} (J : Value → Sem PySem.Fin := fun x => (do noteFrame x env; theTreesLotGoes x : Sem Unit).wrap (fun _ => .raise x) .raise id id)
    (h : wpAny (model prog w) (A.over (.forLoop target it body [] env) fs) (pyNext it) (fun r s₁ => match r with
      | none => Seg (model prog w) A R Y n s₀ (.block [] env) ((model prog w).den (.block [] env)) fs s₁
      | some v => wpAny (model prog w) (A.over (.forLoop target it body [] env) fs) (letOwnedTupleGo target it v) (fun _ s₂ => wpAny (model prog w) (A.over (.forLoop target it body [] env) fs) (assign target env v) (fun _ s₃ =>
          Seg (model prog w) A R Y n s₀ (.forLoop target it body [] env) ((execs body env).wrap (fun f => match f with
            | .next | .cont => .pure (.again (.forLoop target it body [] env))
            | .brk => .pure (.done .next)
            | .ret v => .pure (.done (.ret v))) (fun x => (do noteFrame x env; theTreesLotGoes x : Sem Unit).wrap (fun _ => .raise x) .raise id id) id id) fs s₃) (fun _ _ => False) s₂) (fun _ _ => False) s₁) (fun _ _ => False) s) :
    Seg (model prog w) A R Y n s₀ (.forLoop target it body [] env) ((model prog w).den (.forLoop target it body [] env)) fs s := by
  show Seg _ A R Y n s₀ _ ((forTurn target it body [] env).onRaise (fun x => do noteFrame x env; theTreesLotGoes x)) fs s
  unfold forTurn
  rw [Sem.onRaise_eq_wrap]
  refine seg_bw (wpAny_standAt ?_)
  refine seg_bw (wpAny_onRaise (wpAny_mono h (fun r s₁ h₁ => ?_) fun _ _ e => e.elim))
  cases r with
  | none => exact seg_again rfl h₁
  | some v =>
    refine seg_bw (wpAny_mono h₁ (fun _ s₂ h₂ => ?_) fun _ _ e => e.elim)
    refine seg_bw (wpAny_mono h₂ (fun _ s₃ h₃ => ?_) fun _ _ e => e.elim)
    rw [Sem.bind_eq_wrap', Sem.wrap_wrap]
    rw [Sem.wrap_congr (execs body env) _ _ (K' := fun f => match f with
            | .next | .cont => .pure (.again (.forLoop target it body [] env))
            | .brk => .pure (.done .next)
            | .ret v => .pure (.done (.ret v))) (H' := (fun x => (do noteFrame x env; theTreesLotGoes x : Sem Unit).wrap (fun _ => .raise x) .raise id id))
        (fun f => by cases f <;> rfl) (fun e => by first | exact Sem.bind_eq_wrap _ _ | (show (do noteFrame e env; theTreesLotGoes e : Sem Unit).bind (fun _ => .raise e) = _; rw [Sem.bind_eq_wrap]))]
    exact h₃
/-- behind the last turn -/
theorem seg_block_nil (h : Seg (model prog w) A R Y n s₀ (.block [] env) (.pure (.done .next)) fs s) : Seg (model prog w) A R Y n s₀ (.block [] env) ((model prog w).den (.block [] env)) fs s := h
end
end TP
set_option Elab.async false
set_option linter.all false
set_option maxRecDepth 100000
set_option maxHeartbeats 4000000
/-! zip of two tuples with the keyword strict -/
namespace TP
open PySem PySem.Spec PyProof.Rows L2 RZ
theorem zk_type (a b : Value) (c : Bool) : checkTypeCall "zip" ⟨[a, b], [(Str.ofString "strict", .bool c)]⟩ = pure () := by kernel_rfl
theorem zk_new (a b : Value) (c : Bool) : checkBuiltinCall "zip.__new__" ⟨[.type "zip", a, b], [(Str.ofString "strict", .bool c)]⟩ = pure () := by kernel_rfl
theorem zk_init (o a b : Value) (c : Bool) : argsOk "object.__init__" ⟨[o, a, b], [(Str.ofString "strict", .bool c)]⟩ := by unfold argsOk; kernel_rfl
/-- a zip object, strict or not -/
abbrev IsZipB (c : Bool) (h : Heap) (z TI TO : Addr) (f0 : Value) : Prop :=
  h.get? z = some { cls := .type "zip", dict := none, data := .fields #[f0, .bool false, .bool c, .ref TI, .ref TO], slots := #[] }
abbrev zkH5 (c : Bool) (h : Heap) (l1 l2 : Addr) : Heap := (zipTH4 h l1 l2).push { cls := .type "zip", data := .fields #[.none, .bool false, .bool c, .ref (zipTH2 h l1 l2).objs.size, .ref (zipTH3 h l1 l2).objs.size] }
theorem zk_meets (c : Bool) (l1 l2 : Addr) (xs ys : Array Value) :
    Meets (Builtin.«zip.__new__» ⟨[.type "zip", .ref l1, .ref l2], [(Str.ofString "strict", .bool c)]⟩) (fun _ R s => s.heap.IsTuple l1 xs ∧ s.heap.IsTuple l2 ys ∧
      R (.ok (.ret (.ref (zipTH4 s.heap l1 l2).objs.size))) { s with heap := zkH5 c s.heap l1 l2 }) :=
  .of_wp fun prog w A R s h => by
    obtain ⟨hp, g, d, tk, os⟩ := s
    obtain ⟨ha, hb, h⟩ := h
    have sub := sub_zip
    have e1 : (Str.ofString "strict" != ("strict" : Str)) = false := by decide +kernel
    have tA : Heap.IsTuple (Shared.heap ⟨hp, g, d, tk, os⟩) l1 xs := ha
    have tB : Heap.IsTuple (Shared.heap ⟨hp.push { cls := .type "tuple_iterator", data := .fields #[.ref l1, .int 0 0] }, g, d, tk, os⟩) l2 ys := Heap.IsTuple.push hb _
    wp_walk using wpAny_pyIter_tuple tA, wpAny_pyIter_tuple tB
    exact ⟨_, rfl, h⟩
section
variable {prog : Program} {w : World} {A : Around} {E : Value → Shared → Prop} {s : Shared}
/-- zip(t1, t2, strict=c) -/
theorem zk_call {c : Bool} {l1 l2 : Addr} {xs ys : Array Value} {Q : Value → Shared → Prop} (ha : s.heap.IsTuple l1 xs) (hb : s.heap.IsTuple l2 ys)
    (h : ∀ h', IsZipB c h' (s.heap.objs.size + 4) (s.heap.objs.size + 2) (s.heap.objs.size + 3) .none → IsPair h' (s.heap.objs.size + 2) (.ref s.heap.objs.size) (.ref (s.heap.objs.size + 1)) →
      IsPair h' (s.heap.objs.size + 3) .none .none → h'.IsTupleIter s.heap.objs.size l1 0 → h'.IsTupleIter (s.heap.objs.size + 1) l2 0 →
      (∀ d o, s.heap.get? d = some o → h'.get? d = some o) → Q (.ref (s.heap.objs.size + 4)) { s with heap := h' }) :
    wpAny (model prog w) A (call (.type "zip") [.ref l1, .ref l2] [(Str.ofString "strict", .bool c)]) Q E s := by
  refine callType_newKw F.called_zip (by decide) (zk_type _ _ _) (zk_new _ _ _) (fun obj => zk_init obj _ _ _) F.entry_zip_new (zk_meets c l1 l2 xs ys) ⟨ha, hb, ?_⟩
  have n1 : (zipTH1 s.heap l1).objs.size = s.heap.objs.size + 1 := Heap.size_push ..
  have n2 : (zipTH2 s.heap l1 l2).objs.size = s.heap.objs.size + 2 := by rw [Heap.size_push, n1]
  have n3 : (zipTH3 s.heap l1 l2).objs.size = s.heap.objs.size + 3 := by rw [Heap.size_push, n2]
  have n4 : (zipTH4 s.heap l1 l2).objs.size = s.heap.objs.size + 4 := by rw [Heap.size_push, n3]
  have p5 : (zkH5 c s.heap l1 l2).get? (zipTH4 s.heap l1 l2).objs.size = some _ := Heap.get?_push_size _ rfl
  have p4 : (zkH5 c s.heap l1 l2).get? (zipTH3 s.heap l1 l2).objs.size = some _ := Heap.get?_push_of_some _ (Heap.get?_push_size _ rfl)
  have p3 : (zkH5 c s.heap l1 l2).get? (zipTH2 s.heap l1 l2).objs.size = some _ := Heap.get?_push_of_some _ (Heap.get?_push_of_some _ (Heap.get?_push_size _ rfl))
  have p2 : (zkH5 c s.heap l1 l2).get? (zipTH1 s.heap l1).objs.size = some _ := Heap.get?_push_of_some _ (Heap.get?_push_of_some _ (Heap.get?_push_of_some _ (Heap.get?_push_size _ rfl)))
  have p1 : (zkH5 c s.heap l1 l2).get? s.heap.objs.size = some _ := Heap.get?_push_of_some _ (Heap.get?_push_of_some _ (Heap.get?_push_of_some _ (Heap.get?_push_of_some _ (Heap.get?_push_size _ rfl))))
  show _ ∧ _
  rw [n2, n3, n4] at p5
  rw [n1, n2] at p3
  rw [n3] at p4
  rw [n1] at p2
  rw [n4]
  exact ⟨⟨_, p5, rfl⟩, h _ p5 p3 p4 ⟨_, p1, rfl, rfl⟩ ⟨_, p2, rfl, rfl⟩ fun d o x =>
    Heap.get?_push_of_some _ (Heap.get?_push_of_some _ (Heap.get?_push_of_some _ (Heap.get?_push_of_some _ (Heap.get?_push_of_some _ x))))⟩
theorem zk_draw {it l : Addr} {i : Nat} {items : Array Value} {x : Value} {Q : Option Value → Shared → Prop} (hit : s.heap.IsTupleIter it l i) (hl : s.heap.IsTuple l items) (hx : items[i]? = some x)
    (hQ : ∀ h', h'.IsTupleIter it l (i + 1) → Heap.SameBut it s.heap h' → Q (some x) { s with heap := h' }) : wpAny (model prog w) A (Builtin.SmallTypes.nextOrEnd (.ref it)) Q E s := by
  unfold Builtin.SmallTypes.nextOrEnd
  exact wpAny_bind (wpAny_attempt (nextOf_tuple_item hit hl hx fun h' a b => wpAny_pure (hQ h' a b)))
theorem zk_drawn {it l : Addr} {i : Nat} {items : Array Value} {Q : Option Value → Shared → Prop} (hh : A.handled = none) (hit : s.heap.IsTupleIter it l i) (hl : s.heap.IsTuple l items) (hx : items[i]? = none)
    (hQ : ∀ h', Heap.ExtBut it s.heap h' → Q none { s with heap := h' }) : wpAny (model prog w) A (Builtin.SmallTypes.nextOrEnd (.ref it)) Q E s := by
  unfold Builtin.SmallTypes.nextOrEnd
  refine wpAny_bind (wpAny_attempt (nextOf_tuple_end hh hit hl hx fun h' e a b => ?_))
  obtain ⟨o, ho, hc⟩ := b
  refine wpAny_bind (wpAny_isInstance (T := "StopIteration") (b := true) ⟨o, ho, hc⟩ isSubtype_stop ?_)
  exact wpAny_pure (hQ h' a)
theorem zk_next {z TI TO i1 i2 l1 l2 : Addr} {k1 k2 : Nat} {xs ys : Array Value} {x y a b : Value} {Q : Value → Shared → Prop} (D : ZipApart z TI TO i1 i2 l1 l2)
    (hz : IsZipB true s.heap z TI TO .none) (hI : IsPair s.heap TI (.ref i1) (.ref i2)) (hO : IsPair s.heap TO a b)
    (h1 : s.heap.IsTupleIter i1 l1 k1) (h2 : s.heap.IsTupleIter i2 l2 k2) (hl1 : s.heap.IsTuple l1 xs) (hl2 : s.heap.IsTuple l2 ys) (hx : xs[k1]? = some x) (hy : ys[k2]? = some y)
    (hQ : ∀ h', IsZipB true h' z TI TO (rawInt s.heap.objs.size) → IsPair h' TO x y → h'.IsTupleIter i1 l1 (k1 + 1) → h'.IsTupleIter i2 l2 (k2 + 1) → IsPair h' s.heap.objs.size x y →
      (∀ c o, c ≠ z → c ≠ TO → c ≠ i1 → c ≠ i2 → s.heap.get? c = some o → h'.get? c = some o) → Q (.ref s.heap.objs.size) { s with heap := h' }) :
    wpAny (model prog w) A (Builtin.«zip.__next__» ⟨[.ref z], []⟩) (fun fin s' => ∃ v, fin = .done (.ret v) ∧ Q v s') E s := by
  show wpAny _ _ (field (.ref z) 2 >>= _) _ _ _
  refine wpAny_bind (wpAny_field hz rfl (x := .bool true) rfl ?_)
  show wpAny _ _ (field (.ref z) 3 >>= _) _ _ _
  refine wpAny_bind (wpAny_field hz rfl (x := .ref TI) rfl ?_)
  refine wpAny_bind (wpAny_seqItems hI rfl ?_)
  show wpAny _ _ (Builtin.SmallTypes.ownedTupleIsFree (.ref z) >>= _) _ _ _
  refine wpAny_bind ?_
  unfold Builtin.SmallTypes.ownedTupleIsFree
  refine wpAny_bind (wpAny_field hz rfl (x := .none) rfl (wpAny_pure ?_))
  simp only [if_true]
  refine wpAny_bind (wpAny_rule ?_)
  refine wpAny_bind (wpAny_field hz rfl (x := .ref TO) rfl ?_)
  refine wpAny_bind (wpAny_setField_rec hz (by simp) fun g1 e1 b1 => ?_)
  replace e1 : IsZipB true g1 z TI TO .ellipsis := e1
  refine wpAny_bind ?_
  simp only [List.zipIdx_cons, List.zipIdx_nil, List.forIn_cons, List.forIn_nil]
  refine wpAny_bind (wpAny_bind (wpAny_onRaise ?_))
  refine zk_draw (h1.extBut b1.extBut D.i1z) (hl1.extBut b1.extBut D.l1z) hx fun g2 j2 b2 => ?_
  have o2 : IsPair g2 TO a b := b2.extBut _ _ D.TOi1 (b1.extBut _ _ D.TOz hO)
  refine wpAny_bind (wpAny_seqItems o2 rfl ?_)
  refine wpAny_bind (wpAny_updateSeq_pair o2 fun g3 o3 b3 => ?_)
  replace o3 : IsPair g3 TO x b := o3
  refine wpAny_bind (wpAny_letGo (wpAny_pure ?_))
  refine wpAny_bind (wpAny_bind (wpAny_onRaise ?_))
  refine zk_draw (((h2.extBut b1.extBut D.i2z).extBut b2.extBut D.i12.symm).extBut b3.extBut D.TOi2.symm) (((hl2.extBut b1.extBut D.l2z).extBut b2.extBut D.l2i1).extBut b3.extBut D.l2TO) hy fun g4 j4 b4 => ?_
  have o4 : IsPair g4 TO x b := b4.extBut _ _ D.TOi2 o3
  refine wpAny_bind (wpAny_seqItems o4 rfl ?_)
  refine wpAny_bind (wpAny_updateSeq_pair o4 fun g5 o5 b5 => ?_)
  replace o5 : IsPair g5 TO x y := o5
  refine wpAny_bind (wpAny_letGo (wpAny_pure (wpAny_pure ?_)))
  refine wpAny_bind (wpAny_seqItems o5 rfl ?_)
  refine wpAny_bind (wpAny_newTuple ?_)
  have sz : g5.objs.size = s.heap.objs.size := by rw [b5.1, b4.1, b3.1, b2.1, b1.1]
  have e5 : IsZipB true g5 z TI TO .ellipsis := b5.extBut _ _ D.TOz.symm (b4.extBut _ _ D.i2z.symm (b3.extBut _ _ D.TOz.symm (b2.extBut _ _ D.i1z.symm e1)))
  have k5 : ∀ c o, c ≠ z → c ≠ TO → c ≠ i1 → c ≠ i2 → s.heap.get? c = some o → g5.get? c = some o := fun c o c1 c2 c3 c4 e =>
    b5.extBut _ _ c2 (b4.extBut _ _ c4 (b3.extBut _ _ c2 (b2.extBut _ _ c3 (b1.extBut _ _ c1 e))))
  have t1 : g5.IsTupleIter i1 l1 (k1 + 1) := ((j2.extBut b3.extBut D.TOi1.symm).extBut b4.extBut D.i12).extBut b5.extBut D.TOi1.symm
  have t2 : g5.IsTupleIter i2 l2 (k2 + 1) := j4.extBut b5.extBut D.TOi2.symm
  have lz : z < g5.objs.size := Heap.lt_size e5
  show wpAny _ _ (Builtin.SmallTypes.ownedTupleHandOut (.ref z) (.ref g5.objs.size) >>= _) _ _ _
  refine wpAny_bind ?_
  unfold Builtin.SmallTypes.ownedTupleHandOut
  have e6 : IsZipB true (g5.push { cls := .type "tuple", data := .seq #[x, y] }) z TI TO .ellipsis := Heap.get?_push_of_some _ e5
  refine wpAny_bind (wpAny_setField_rec e6 (by simp) fun g7 e7 b7 => ?_)
  replace e7 : IsZipB true g7 z TI TO (rawInt g5.objs.size) := e7
  refine wpAny_setField_rec e7 (by simp) fun g8 e8 b8 => ?_
  replace e8 : IsZipB true g8 z TI TO (rawInt g5.objs.size) := e8
  have up : ∀ c o, c ≠ z → g5.get? c = some o → g8.get? c = some o := fun c o c1 e => b8.extBut _ _ c1 (b7.extBut _ _ c1 (Heap.get?_push_of_some _ e))
  have t8 : IsPair g8 g5.objs.size x y := b8.extBut _ _ (Nat.ne_of_gt lz) (b7.extBut _ _ (Nat.ne_of_gt lz) (Heap.get?_push_size _ rfl))
  rw [sz] at e8 t8
  refine wpAny_pure ⟨_, rfl, ?_⟩
  show Q (.ref g5.objs.size) _
  rw [sz]
  exact hQ g8 e8 (up _ _ D.TOz o5) (t1.at fun o e => up _ o D.i1z e) (t2.at fun o e => up _ o D.i2z e) t8 fun c o c1 c2 c3 c4 e => up c o c1 (k5 c o c1 c2 c3 c4 e)
end
end TP
set_option Elab.async false
set_option linter.all false
set_option maxRecDepth 100000
set_option maxHeartbeats 4000000
namespace TP
open PySem PySem.Spec PyProof.Rows L2 RZ
section
variable {prog : Program} {w : World} {A : Around} {E : Value → Shared → Prop} {s : Shared}
theorem zk_end {z TI TO i1 i2 l1 l2 : Addr} {k1 k2 : Nat} {xs ys : Array Value} {a b : Value} {Q : PySem.Fin → Shared → Prop} (hh : A.handled = none) (D : ZipApart z TI TO i1 i2 l1 l2)
    (hz : IsZipB true s.heap z TI TO .none) (hTI : IsPair s.heap TI (.ref i1) (.ref i2)) (hTO : IsPair s.heap TO a b)
    (h1 : s.heap.IsTupleIter i1 l1 k1) (h2 : s.heap.IsTupleIter i2 l2 k2) (hl1 : s.heap.IsTuple l1 xs) (hl2 : s.heap.IsTuple l2 ys) (hx : xs[k1]? = none) (hy : ys[k2]? = none)
    (hE : ∀ h' e, (∀ c o, c ≠ z → c ≠ TO → c ≠ i1 → c ≠ i2 → s.heap.get? c = some o → h'.get? c = some o) → (∃ o, h'.get? e = some o ∧ o.cls = .type "StopIteration") → E (.ref e) { s with heap := h' }) :
    wpAny (model prog w) A (Builtin.«zip.__next__» ⟨[.ref z], []⟩) Q E s := by
  show wpAny _ _ (field (.ref z) 2 >>= _) _ _ _
  refine wpAny_bind (wpAny_field hz rfl (x := .bool true) rfl ?_)
  show wpAny _ _ (field (.ref z) 3 >>= _) _ _ _
  refine wpAny_bind (wpAny_field hz rfl (x := .ref TI) rfl ?_)
  refine wpAny_bind (wpAny_seqItems hTI rfl ?_)
  show wpAny _ _ (Builtin.SmallTypes.ownedTupleIsFree (.ref z) >>= _) _ _ _
  refine wpAny_bind ?_
  unfold Builtin.SmallTypes.ownedTupleIsFree
  refine wpAny_bind (wpAny_field hz rfl (x := .none) rfl (wpAny_pure ?_))
  simp only [if_true]
  refine wpAny_bind (wpAny_rule ?_)
  refine wpAny_bind (wpAny_field hz rfl (x := .ref TO) rfl ?_)
  refine wpAny_bind (wpAny_setField_rec hz (by simp) fun g1 e1 b1 => ?_)
  replace e1 : IsZipB true g1 z TI TO .ellipsis := e1
  refine wpAny_bind ?_
  simp only [List.zipIdx_cons, List.zipIdx_nil, List.forIn_cons, List.forIn_nil]
  refine wpAny_bind (wpAny_bind (wpAny_onRaise ?_))
  refine zk_drawn hh (h1.extBut b1.extBut D.i1z) (hl1.extBut b1.extBut D.l1z) hx fun g2 b2 => ?_
  have e2 : IsZipB true g2 z TI TO .ellipsis := b2 _ _ D.i1z.symm e1
  refine wpAny_bind (wpAny_setField_rec e2 (by simp) fun g3 e3 b3 => ?_)
  refine wpAny_bind ?_
  show wpAny _ _ (forIn (m := Sem) [(Value.ref i2, (1 : Nat))] _ _ >>= _) _ _ _
  simp only [List.forIn_cons, List.forIn_nil]
  refine wpAny_bind (wpAny_bind (wpAny_bind ?_))
  refine zk_drawn hh (((h2.extBut b1.extBut D.i2z).extBut b2 D.i12.symm).extBut b3.extBut D.i2z) (((hl2.extBut b1.extBut D.l2z).extBut b2 D.l2i1).extBut b3.extBut D.l2z) hy fun g4 b4 => ?_
  refine wpAny_pure (wpAny_pure (wpAny_bind (wpAny_rule ?_)))
  show wpAny _ _ (newExc (.type "StopIteration") [] >>= _) _ _ _
  refine wpAny_bind ?_
  simp only [newExc, newTuple]
  refine wpAny_bind (wpAny_newObj_type ?_ (by size_fits))
  refine wpAny_bind (m := firstArgMember _ _) (wpAny_of_eq (a := Value.none) (by first | rfl | (simp only [firstArgMember]; rfl)) ?_)
  refine wpAny_newObj_type ?_ (by size_fits)
  simp only [raiseNew]
  refine wpAny_bind (wpAny_handled ?_)
  first | rw [show A.in1.handled = none from hh] | rw [hh]
  refine wpAny_bind (wpAny_pure (wpAny_throw ?_))
  exact hE _ _ (fun c o c1 c2 c3 c4 x => Heap.get?_push_of_some _ (Heap.get?_push_of_some _ (b4 _ _ c4 (b3.extBut _ _ c1 (b2 _ _ c3 (b1.extBut _ _ c1 x)))))) ⟨_, Heap.get?_push_size _ rfl, rfl⟩

theorem pyNext_zk_item {z TI TO i1 i2 l1 l2 : Addr} {k1 k2 : Nat} {xs ys : Array Value} {x y a b : Value} {Q : Option Value → Shared → Prop} (D : ZipApart z TI TO i1 i2 l1 l2)
    (hz : IsZipB true s.heap z TI TO .none) (hTI : IsPair s.heap TI (.ref i1) (.ref i2)) (hTO : IsPair s.heap TO a b)
    (h1 : s.heap.IsTupleIter i1 l1 k1) (h2 : s.heap.IsTupleIter i2 l2 k2) (hl1 : s.heap.IsTuple l1 xs) (hl2 : s.heap.IsTuple l2 ys) (hx : xs[k1]? = some x) (hy : ys[k2]? = some y)
    (hQ : ∀ h', IsZipB true h' z TI TO (rawInt s.heap.objs.size) → IsPair h' TO x y → h'.IsTupleIter i1 l1 (k1 + 1) → h'.IsTupleIter i2 l2 (k2 + 1) → IsPair h' s.heap.objs.size x y →
      (∀ c o, c ≠ z → c ≠ TO → c ≠ i1 → c ≠ i2 → s.heap.get? c = some o → h'.get? c = some o) → Q (some (.ref s.heap.objs.size)) { s with heap := h' }) :
    wpAny (model prog w) A (pyNext (.ref z)) Q E s := by
  have hT : s.TypeIs (.ref z) "zip" := ⟨_, hz, rfl⟩
  unfold pyNext
  exact wpAny_bind (wpAny_attempt (wpAny_callSpecial?_slot (name := Str.ofString "__next__") hT F.slot_zip_next
    (wpAny_call_entry F.slot_zip_next hT F.entry_zip_next
      (zk_next D hz hTI hTO h1 h2 hl1 hl2 hx hy fun h' a1 a2 a3 a4 a5 a6 => wpAny_pure (hQ h' a1 a2 a3 a4 a5 a6)) (F.args_zip_next_1 _))))
theorem pyNext_zk_end {z TI TO i1 i2 l1 l2 : Addr} {k1 k2 : Nat} {xs ys : Array Value} {a b : Value} {Q : Option Value → Shared → Prop} (hh : A.handled = none) (D : ZipApart z TI TO i1 i2 l1 l2)
    (hz : IsZipB true s.heap z TI TO .none) (hTI : IsPair s.heap TI (.ref i1) (.ref i2)) (hTO : IsPair s.heap TO a b)
    (h1 : s.heap.IsTupleIter i1 l1 k1) (h2 : s.heap.IsTupleIter i2 l2 k2) (hl1 : s.heap.IsTuple l1 xs) (hl2 : s.heap.IsTuple l2 ys) (hx : xs[k1]? = none) (hy : ys[k2]? = none)
    (hQ : ∀ h', (∀ c o, c ≠ z → c ≠ TO → c ≠ i1 → c ≠ i2 → s.heap.get? c = some o → h'.get? c = some o) → Q none { s with heap := h' }) : wpAny (model prog w) A (pyNext (.ref z)) Q E s := by
  have hT : s.TypeIs (.ref z) "zip" := ⟨_, hz, rfl⟩
  unfold pyNext
  refine wpAny_bind (wpAny_attempt (wpAny_callSpecial?_slot (name := Str.ofString "__next__") hT F.slot_zip_next
    (wpAny_call_entry F.slot_zip_next hT F.entry_zip_next (zk_end (show A.in1.handled = none from hh) D hz hTI hTO h1 h2 hl1 hl2 hx hy fun h' e hk he => ?_) (F.args_zip_next_1 _))))
  obtain ⟨o, ho, hc⟩ := he
  refine wpAny_bind (wpAny_isInstance (T := "StopIteration") (b := true) ⟨o, ho, hc⟩ isSubtype_stop ?_)
  exact wpAny_pure (hQ _ hk)
theorem iter_zk {c : Bool} {z TI TO : Addr} {f0 : Value} {Q : Value → Shared → Prop} (hz : IsZipB c s.heap z TI TO f0) (h : Q (.ref z) s) : wpAny (model prog w) A (pyIter (.ref z)) Q E s := by
  have hT : s.TypeIs (.ref z) "zip" := ⟨_, hz, rfl⟩
  refine wpAny_pyIter_slot hT F.slot_zip_iter (wpAny_call_entry F.slot_zip_iter hT F.entry_zip_iter ?_ (F.args_zip_iter_1 _))
  show wpAny _ _ (ret (.ref z)) _ _ s
  exact wpAny_pure ⟨_, rfl, "zip", _, hT, F.slot_zip_next.lookup, h⟩
theorem letgo_zk {elts : List Expr} {x1} {pos : Pos} {c : Bool} {z TI TO T : Addr} {Q : Unit → Shared → Prop} (hz : IsZipB c s.heap z TI TO (rawInt T))
    (hQ : ∀ h', IsZipB c h' z TI TO .none → Heap.SameBut z s.heap h' → Q () { s with heap := h' }) :
    wpAny (model prog w) A (letOwnedTupleGo (.Tuple elts x1 pos) (.ref z) (.ref T)) Q E s := by
  unfold letOwnedTupleGo
  refine wpAny_bind (wpAny_load hz ?_)
  dsimp only
  split
  · exact wpAny_bind (wpAny_rule (wpAny_setField_rec hz (by simp) fun g z1 same => hQ g z1 same))
  · rename_i no
    exact absurd (by simp) no
end
/-- the tuples at a and b, of one length, as they stand at each turn, the items in new pairs (strict) -/
def ItzS (K : PySem.W.Frag) (a b : Addr) : It :=
  ⟨fun i H => ∃ (xs ys : List V) (x y : V), SqT K H a xs ∧ SqT K H b ys ∧ xs[i]? = some x ∧ ys[i]? = some y,
    fun i H v H' => ∃ T x y, v = .ref T ∧ H T = none ∧ H' = upd H T (.tup [x, y]) ∧ (∀ xs, SqT K H a xs → xs[i]? = some x) ∧ ∀ ys, SqT K H b ys → ys[i]? = some y,
    fun i H => ∃ xs ys : List V, SqT K H a xs ∧ SqT K H b ys ∧ xs.length ≤ i ∧ ys.length ≤ i⟩
theorem mem5 {c z x y u v : Addr} : c ∈ [z, x, y, u, v] ↔ c = z ∨ c = x ∨ c = y ∨ c = u ∨ c = v := by simp
/-- where a zip of two tuples stands -/
abbrev ZkS (c : Bool) (z TI TO i1 i2 a b : Addr) (i : Nat) (h : Heap) : Prop := IsZipB c h z TI TO .none ∧ IsPair h TI (.ref i1) (.ref i2) ∧ (∃ x y, IsPair h TO x y) ∧ h.IsTupleIter i1 a i ∧ h.IsTupleIter i2 b i
theorem zk_live {c : Bool} {z TI TO i1 i2 a b : Addr} {i : Nat} {h : Heap} : ZkS c z TI TO i1 i2 a b i h → ∀ d ∈ [z, TI, TO, i1, i2], ∃ o, h.get? d = some o ∧ ∀ v, o.data ≠ .cell v := by
  rintro ⟨hz, hI, ⟨x, y, hO⟩, ⟨o1, g1, -, d1⟩, o2, g2, -, d2⟩ d hd
  rcases mem5.mp hd with rfl | rfl | rfl | rfl | rfl
  · exact ⟨_, hz, nofun⟩
  · exact ⟨_, hI, nofun⟩
  · exact ⟨_, hO, nofun⟩
  · exact ⟨o1, g1, fun v q => nomatch d1.symm.trans q⟩
  · exact ⟨o2, g2, fun v q => nomatch d2.symm.trans q⟩
theorem turn_zk {P : Program} {w : World} {K : PySem.W.Frag} {elts : List Expr} {kk : Nat} {tpos : Pos} {a b z TI TO i1 i2 : Addr} (D : ZipApart z TI TO i1 i2 a b) : Turn P w K (.Tuple elts kk tpos) (ItzS K a b) [z, TI, TO, i1, i2] z (ZkS true z TI TO i1 i2 a b) where
  mem := List.mem_cons_self
  obj := fun _ _ => zk_live
  keep := fun _ _ _ ⟨hz, hI, ⟨x, y, hO⟩, h1, h2⟩ k => ⟨k z (by simp) _ hz, k TI (by simp) _ hI, ⟨x, y, k TO (by simp) _ hO⟩, h1.at (k i1 (by simp)), h2.at (k i2 (by simp))⟩
  item := fun X hP hw hK hc i pins s σ H E I hf st hg => by
    subst hP hw hK
    have young : ∀ c ∈ [z, TI, TO, i1, i2], c ≠ s.heap.objs.size := fun c hc => (zk_live st c hc).elim fun _ q => Nat.ne_of_lt (Heap.lt_size q.1)
    obtain ⟨hz, hI, ⟨x0, y0, hO⟩, h1, h2⟩ := st
    obtain ⟨xs, ys, x, y, qx, qy, hx, hy⟩ := hg
    obtain ⟨us, ux, pa, -⟩ := I.tuple qx
    obtain ⟨vs, vy, pb, -⟩ := I.tuple qy
    obtain ⟨u, hu, ru⟩ := ux.get hx
    obtain ⟨v, hv, rv⟩ := vy.get hy
    refine pyNext_zk_item D hz hI hO h1 h2 pa pb (x := u) (y := v) (by simpa using hu) (by simpa using hv) fun g1 z1 O1 a1 a2 T1 k1 => ⟨_, rfl, letgo_zk (s := { s with heap := g1 }) z1 fun g2 z2 same => ?_⟩
    have T2 : IsPair g2 s.heap.objs.size u v := (same.2 _ (young z (by simp)).symm).trans T1
    have k2 : ∀ c o, c ∉ [z, TI, TO, i1, i2] → s.heap.get? c = some o → g2.get? c = some o := fun c o nc q => by
      simp only [mem5, not_or] at nc
      exact (same.2 c nc.1).trans (k1 c o nc.1 nc.2.2.1 nc.2.2.2.1 nc.2.2.2.2 q)
    have ok : ObjOk X.prog X.w (upd H s.heap.objs.size (.tup [x, y])) g2 s.heap.objs.size (.tup [x, y]) := ⟨by show 2 ≤ sizeLine; decide, [u, v], .cons ru (.cons rv .nil), ⟨_, T2, rfl, _, rfl⟩⟩
    refine ⟨.ref s.heap.objs.size, _, I.turnedNew (t' := s.toks) (ch := [z, TI, TO, i1, i2]) k2 hf (Nat.le_refl _) ok, rfl,
      ⟨_, x, y, rfl, I.hok.fresh (Nat.le_refl _), rfl, fun l hl => I.tuple_inj hl qx ▸ hx, fun l hl => I.tuple_inj hl qy ▸ hy⟩,
      ⟨z2, (same.2 _ D.TIz).trans (k1 _ _ D.TIz D.TITO D.TIi1 D.TIi2 hI), ⟨u, v, (same.2 _ D.TOz).trans O1⟩, a1.at fun _ => (same.2 _ D.i1z).trans, a2.at fun _ => (same.2 _ D.i2z).trans⟩, fun c hc => ?_⟩
    rw [upd_ne (young c hc)]
    exact (hf c hc).1
  done := fun X hP hw hK hc i pins s σ H E I hf st hg => by
    subst hP hw hK
    obtain ⟨hz, hI, ⟨x0, y0, hO⟩, h1, h2⟩ := st
    obtain ⟨xs, ys, qx, qy, ex, ey⟩ := hg
    obtain ⟨us, ux, pa, -⟩ := I.tuple qx
    obtain ⟨vs, vy, pb, -⟩ := I.tuple qy
    have lu := ux.length
    have lv := vy.length
    refine pyNext_zk_end (I.ok.hd hc) D hz hI hO h1 h2 pa pb (by simp; omega) (by simp; omega) fun g k => ⟨rfl, I.turnedL (t' := s.toks) (ch := [z, TI, TO, i1, i2]) (fun c o nc q => ?_) hf⟩
    simp only [mem5, not_or] at nc
    exact k c o nc.1 nc.2.2.1 nc.2.2.2.1 nc.2.2.2.2 q
  self := fun _ _ _ _ _ st => iter_zk st.1
section
variable {M : Model} {A : Around} {E : Value → Shared → Prop} {s : Shared} {env : Env} {pos : Pos} {T : String} {e : Expr} {rest : List Expr} {kws : List Keyword} {Q : Value → Shared → Prop}
abbrev posOf (pos : Pos) (es : List Expr) (env : Env) := backTo pos (starEach es env)
abbrev kwOf (pos : Pos) (kws : List Keyword) (env : Env) := backToKw pos (keywordEach kws env)
/-- T(e, .., k = v), T a built-in class: the arguments in order, then the call -/
theorem callWith_tykw (h : wpAny M A (spliced (posOf pos (e :: rest) env)) (fun us s1 => wpAny M A (evalAll ((kwOf pos kws env).map (·.2))) (fun ws s2 => wpAny M A (call (.type T) us (((kwOf pos kws env).filterMap (·.1)).zip ws)) Q E s2) E s1) E s)
    (hst : posOf pos (e :: rest) env = (false, eval e env) :: posOf pos rest env) (hns : (posOf pos (e :: rest) env).any (·.1) = false) (hall : (kwOf pos kws env).all (·.1.isSome) = true := by rfl) (hnk : (kwOf pos kws env).any (·.1.isNone) = false := by rfl) :
    wpAny M A (callWith pos (.type T) [] (posOf pos (e :: rest) env) (kwOf pos kws env)) Q E s := by
  have args : wpAny M A (evalArgs (.type T) true (posOf pos (e :: rest) env) (kwOf pos kws env)) (fun a s1 => wpAny M A (call (.type T) a.pos a.kw) Q E s1) E s := by
    rw [hst] at h ⊢
    exact PyProof.Rows.evalArgs_kwB hall h
  unfold callWith
  refine wpAny_bind (wpAny_holding (wpAny_mono args (fun a s1 called => wpAny_bind (wpAny_standAt ?_)) fun _ _ z => z))
  simp only [show (backTo pos (starEach (e :: rest) env)).any (·.1) = false from hns, show (backToKw pos (keywordEach kws env)).any (·.1.isNone) = false from hnk, Bool.or_false]
  exact wpAny_bind (wpAny_pure (wpAny_bind (wpAny_mono called (fun _ _ z => wpAny_bind (wpAny_holding (wpAny_point (wpAny_pure z)))) fun _ _ z => z)))
end
def iZipK (K : PySem.W.Frag) (J : PySem.W.Frag → Addr → Addr → It) (ta : TA) : TI := fun σ H R => ta σ H fun vs H1 => ∃ a b xs ys, vs = [.ref a, .ref b] ∧ SqT K H1 a xs ∧ SqT K H1 b ys ∧ R (J K a b) H1
section
variable {X : Cx} {e e2 : Expr} {ta : TA} {p pos tpos p1 p2 : Pos} {elts : List Expr} {kk c1 : Nat}
theorem zk_go {c : Bool} {J : PySem.W.Frag → Addr → Addr → It} (hJ : ∀ {P : Program} {w : World} {K : PySem.W.Frag} {a b z TI TO i1 i2 : Addr}, ZipApart z TI TO i1 i2 a b → Turn P w K (.Tuple elts kk tpos) (J K a b) [z, TI, TO, i1, i2] z (ZkS c z TI TO i1 i2 a b))
    (hg : Gl X "zip") (hm : X.mg "zip" = none) (ha : PA X [e, e2] ta) (hs : starEach [e, e2] X.env = (false, eval e X.env) :: starEach [e2] X.env := by rfl) (hpl : (backTo pos (starEach [e, e2] X.env)).any (·.1) = false := by rfl) :
    PI X (.Tuple elts kk tpos) (.Call (.Name "zip" p) [e, e2] [⟨some "strict", .Constant (.bool c) c1 p1, p2⟩] pos) (iZipK X.K J ta) where
  run := fun pins s σ H R I h => by
    refine wpAny_Call_Name_kw (ld_blt I hg hm PyProof.Rows.boot_zip (callWith_tykw (thn (ha.run pos pins s σ H _ I h) fun us s1 got => ?_) (by rw [posOf, hs]; rfl) hpl))
    refine PyProof.Rows.kws_cons (wpAny_Constant_bool (PyProof.Rows.kws_nil ?_))
    obtain ⟨_, H1, I1, r, a, b, xs, ys, rfl, qx, qy, q⟩ := got
    obtain ⟨u, v, rfl, ru, rv⟩ := vals2 r
    cases ru
    cases rv
    obtain ⟨us, -, pa, -⟩ := I1.tuple qx
    obtain ⟨vs, -, pb, -⟩ := I1.tuple qy
    obtain ⟨oa, ga, -⟩ := id pa
    obtain ⟨ob, gb, -⟩ := id pb
    refine zk_call (show s1.heap.IsTuple a us.toArray from pa) (show s1.heap.IsTuple b vs.toArray from pb) fun g hz hI hO h1 h2 keep => iter_zk hz ?_
    refine ⟨_, [s1.heap.objs.size + 4, s1.heap.objs.size + 2, s1.heap.objs.size + 3, s1.heap.objs.size, s1.heap.objs.size + 1], _, _, H1, rfl, I1.kept (t' := s1.toks) keep, hJ (PySem.W.ktu_apart s1.heap.objs.size a b (Heap.lt_size ga) (Heap.lt_size gb)), ⟨hz, hI, ⟨_, _, hO⟩, h1, h2⟩, fun d hd => ?_, q⟩
    have new : s1.heap.objs.size ≤ d := by
      rcases mem5.mp hd with rfl | rfl | rfl | rfl | rfl <;> first | exact Nat.le_refl _ | exact Nat.le_add_right _ _
    exact I1.fpOk new (I1.hok.fresh new)
theorem pi_zipS (hg : Gl X "zip") (hm : X.mg "zip" = none) (ha : PA X [e, e2] ta)
    (hs : starEach [e, e2] X.env = (false, eval e X.env) :: starEach [e2] X.env := by rfl) (hpl : (backTo pos (starEach [e, e2] X.env)).any (·.1) = false := by rfl) :
    PI X (.Tuple elts kk tpos) (.Call (.Name "zip" p) [e, e2] [⟨some "strict", .Constant (.bool true) c1 p1, p2⟩] pos) (iZipK X.K ItzS ta) := zk_go (fun D => turn_zk D) hg hm ha hs hpl
theorem pi_zipF (hg : Gl X "zip") (hm : X.mg "zip" = none) (ha : PA X [e, e2] ta)
    (hs : starEach [e, e2] X.env = (false, eval e X.env) :: starEach [e2] X.env := by rfl) (hpl : (backTo pos (starEach [e, e2] X.env)).any (·.1) = false := by rfl) :
    PI X (.Tuple elts kk tpos) (.Call (.Name "zip" p) [e, e2] [⟨some "strict", .Constant (.bool false) c1 p1, p2⟩] pos) (iZipK X.K ItzT ta) := zk_go (fun D => turn_zipT D) hg hm ha hs hpl
end
theorem walk_zipS {K : PySem.W.Frag} {a b : Addr} {xs ys : List V} (hn : xs.length = ys.length) : Walk (ItzS K a b) xs.length (fun H => SqT K H a xs ∧ SqT K H b ys) (YPair (fun i => xs[i]?) (fun i => ys[i]?)) :=
  ⟨fun i _ hi q => ⟨xs, ys, xs[i], ys[i], q.1, q.2, by simp [hi], by simp [hn ▸ hi]⟩, fun _ q => ⟨xs, ys, q.1, q.2, Nat.le_refl _, by omega⟩, fun _ _ _ _ _ q y => by
    obtain ⟨T, x, y', h1, h2, h3, h4, h5⟩ := y
    exact ⟨T, x, y', h1, h2, h3, h4 xs q.1, h5 ys q.2⟩⟩
theorem walk_zipT {K : PySem.W.Frag} {a b : Addr} {xs ys : List V} {n : Nat} (hn : n = min xs.length ys.length) : Walk (ItzT K a b) n (fun H => SqT K H a xs ∧ SqT K H b ys) (YPair (fun i => xs[i]?) (fun i => ys[i]?)) :=
  ⟨fun i _ hi q => ⟨xs, ys, xs[i]'(by omega), ys[i]'(by omega), q.1, q.2, by simp, by simp⟩, fun _ q => ⟨xs, ys, q.1, q.2, by omega⟩, fun _ _ _ _ _ q y => by
    obtain ⟨T, x, y', h1, h2, h3, h4, h5⟩ := y
    exact ⟨T, x, y', h1, h2, h3, h4 xs q.1, h5 ys q.2⟩⟩
end TP
set_option Elab.async false
set_option linter.all false
set_option maxRecDepth 100000
set_option maxHeartbeats 4000000
namespace TP
open PySem PySem.Spec PyProof.Rows L2
section
variable {prog : Program} {w : World} {K : Type} [DecidableEq K] {knd : KeyKind prog w K} {A : Around} {E : Value → Shared → Prop} {s : Shared}
/-- a | b of two dicts -/
theorem dict_or {a b : Addr} {kvs more : List (K × Value)} {Q : Value → Shared → Prop} (ha : (a == sysModules) = false) (hb : (b == sysModules) = false) (da : s.heap.DictOf knd a kvs) (db : s.heap.DictOf knd b more) (hne : kvs ≠ []) (hsz : kvs.length + more.length ≤ sizeLine)
    (hQ : ∀ h', h'.DictOf knd s.heap.objs.size (merged kvs more) → (∀ c o, s.heap.get? c = some o → h'.get? c = some o) → Q (.ref s.heap.objs.size) { s with heap := h' }) :
    wpAny (model prog w) A (binaryOp .BitOr (.ref a) (.ref b)) Q E s := by
  refine wpAny_binaryOp_same (op := .BitOr) (T := "dict") da.typeIs db.typeIs F.fills_dict_or F.slot_dict_or ?_
  refine wpAny_call_entry F.slot_dict_or da.typeIs F.entry_dict_or ?_ (F.args_dict_or_2 _ _)
  obtain ⟨o, es, ep, ho, hc, hdat, hk, hp, hn⟩ := id da
  unfold Builtin.«dict.__or__»
  refine wpAny_bind ?_
  unfold Builtin.Dict.dictSlotArgs
  refine wpAny_bind (wpAny_notOrdered_dict da.typeIs ?_)
  show wpAny _ _ (pure (Value.ref a, Value.ref b)) _ _ s
  refine wpAny_pure ?_
  show wpAny _ _ ((isInstance (.ref a) (.type "dict") <&&> isInstance (.ref b) (.type "dict")) >>= _) _ _ s
  refine wpAny_bind (wpAny_bind (wpAny_isInstance da.typeIs isSubtype_dict_dict ?_))
  refine wpAny_isInstance db.typeIs isSubtype_dict_dict ?_
  simp only [Bool.not_true, Bool.false_eq_true, if_false]
  have hlen : es.size = kvs.length := by have e1 := hp.length; have e2 : es.toList.length = es.size := by simp
                                         omega
  have hes : es.size ≤ sizeLine + 1 := by omega
  have e0 : ¬ (es.isEmpty = true) := fun z => hne (List.length_eq_zero_iff.mp (by rw [← hlen, Array.isEmpty_iff.mp z]; rfl))
  refine wpAny_bind ?_
  unfold Builtin.Dict.copyOf
  refine wpAny_bind (wpAny_pure ?_)
  unfold Builtin.Dict.showsAll
  rw [if_neg (by rw [ha]; exact Bool.false_ne_true)]
  refine wpAny_bind (wpAny_pure ?_)
  refine wpAny_bind (wpAny_dictEntries ho hdat ?_)
  rw [if_neg e0]
  refine wpAny_bind ?_
  unfold Builtin.Dict.readDirectly
  refine wpAny_bind (wpAny_isInstance da.typeIs isSubtype_dict_dict ?_)
  simp only [Bool.not_true, Bool.false_eq_true, if_false]
  refine wpAny_bind (wpAny_specialOf da.typeIs F.slot_dict_iter.lookup (wpAny_pure ?_))
  simp only [beq_self_eq_true, if_true]
  refine wpAny_bind (wpAny_entriesForEmpty (knd := knd) ho hdat hk (wpAny_newObj_type ?_ hes))
  have hd : (s.heap.push { cls := .type "dict", data := .dict es }).DictOf knd s.heap.objs.size kvs := ⟨_, es, 0, Heap.get?_push_size _ rfl, ⟨rfl, rfl, rfl⟩, rfl, hk, hp, hn⟩
  have hb2 : (s.heap.push { cls := .type "dict", data := .dict es }).DictOf knd b more := db.push _
  have hdo : s.heap.objs.size ≠ b := fun z => by
    obtain ⟨ob, _, _, h1, _⟩ := db
    have h2 := Heap.lt_size h1
    rw [← z] at h2
    exact Nat.lt_irrefl _ h2
  generalize hh : s.heap.push { cls := .type "dict", data := .dict es } = h1 at hd hb2
  refine wpAny_bind (wpAny_pure ?_)
  refine wpAny_holding ?_
  unfold Builtin.Dict.updateFrom
  refine wpAny_bind (wpAny_typeOf (s := { s with heap := h1 }) hb2.typeIs ?_)
  rw [if_neg (by decide)]
  refine wpAny_bind ?_
  unfold Builtin.Dict.merge
  refine wpAny_bind ?_
  unfold Builtin.Dict.readDirectly
  refine wpAny_bind (wpAny_isInstance (s := { s with heap := h1 }) hb2.typeIs isSubtype_dict_dict ?_)
  simp only [Bool.not_true, Bool.false_eq_true, if_false]
  refine wpAny_bind (wpAny_specialOf (s := { s with heap := h1 }) hb2.typeIs F.slot_dict_iter.lookup (wpAny_pure ?_))
  simp only [beq_self_eq_true, if_true]
  refine wpAny_bind (wpAny_pure ?_)
  refine wpAny_mergeDict (s := { s with heap := h1 }) (hsz := hsz) hdo hb hd hb2 fun h' hd' ho' hs' => ?_
  show wpAny _ _ (Builtin.Dict.addKeywords _ [] >>= _) _ _ _
  refine wpAny_bind (wpAny_pure (wpAny_pure ⟨_, rfl, by simp, hQ h' hd' fun c o q => ?_⟩))
  rw [hs'.2 c (Nat.ne_of_lt (Heap.lt_size q)), ← hh]
  exact Heap.get?_push_of_some _ q
end
def rDOr : R2 := fun x y H Q => ∃ a b ks ls, x = .ref a ∧ y = .ref b ∧ H a = some (.dK ks) ∧ H b = some (.dK ls) ∧ ks ≠ [] ∧ ks.length + ls.length ≤ 1000 ∧ ∀ p, H p = none → Q (.ref p) (upd H p (.dK (mergeK ks ls)))
theorem op_dOr {X : Cx} : OpR X (binaryOp .BitOr) rDOr := by
  intro pins s σ H x y v u Q I rx ry h
  obtain ⟨a, b, ks, ls, rfl, rfl, ea, eb, hne, hsz, q⟩ := h
  obtain rfl : v = Value.ref a := rx
  obtain rfl : u = Value.ref b := ry
  obtain ⟨za, ya, va, ra, da⟩ := dk_of I.hok ea
  obtain ⟨zb, yb, vb, rb, db⟩ := dk_of I.hok eb
  have hl : ∀ {kvs : List (Key × V)} {vs : List (Key × Value)}, KV kvs vs → kvs.length = vs.length := fun r => r.length
  refine dict_or (knd := mixKind X.prog X.w) ya yb da db (fun z => hne (List.length_eq_zero_iff.mp (by rw [hl ra, z]; rfl))) (Nat.le_of_lt (small1000 (by rw [← hl ra, ← hl rb]; exact hsz))) fun h' dd hk => ?_
  refine ⟨.ref s.heap.objs.size, _, I.laid (a := s.heap.objs.size) (o := .dK (mergeK ks ls)) (t' := s.toks) hk (Nat.le_refl _) (dk_new ?_ (beq_eq_false_iff_ne.mpr (Ne.symm (Nat.ne_of_lt I.big))) (rb.merge ra) dd), rfl, q _ (I.hok.fresh (Nat.le_refl _))⟩
  have := length_mergeK ls ks
  have h2 := small1000 (Nat.le_refl 1000)
  omega
end TP
set_option Elab.async false
set_option linter.all false
set_option maxRecDepth 100000
set_option maxHeartbeats 4000000
/-! enumerate of a tuple: over the library's Draws.tuple -/
namespace TP
open PySem PySem.Spec PyProof.Rows L2 RZ
abbrev itO (l : Addr) : Obj := { cls := .type "tuple_iterator", data := .fields #[.ref l, .int 0 0] }
abbrev enO (i : Addr) : Obj := { cls := .type "enumerate", data := .fields #[.none, .bool false, .ref i, rawInt 0, .none, .none] }
theorem en_new (l : Addr) (items : Array Value) :
    Meets (Builtin.«enumerate.__new__» ⟨[.type "enumerate", .ref l], []⟩) (fun _ R s => s.heap.IsTuple l items ∧ R (.ok (.ret (.ref (s.heap.push (itO l)).objs.size))) { s with heap := (s.heap.push (itO l)).push (enO s.heap.objs.size) }) :=
  .of_wp fun _ _ _ R st hst => by
    obtain ⟨h0, gs, dr, tk, os⟩ := st
    obtain ⟨isT, fin⟩ := hst
    have sub := sub_enumerate
    replace isT : Heap.IsTuple (Shared.heap ⟨h0, gs, dr, tk, os⟩) l items := isT
    wp_walk using wpAny_pyIter_tuple isT
    refine wpAny_stack_any fun _ => wpAny_pure ?_
    split
    case h_1 c _ _ _ _ _ =>
      cases (c == Value.type "enumerate") <;> (wp_walk using wpAny_pyIter_tuple isT; exact ⟨_, rfl, fin⟩)
    case h_2 => wp_walk using wpAny_pyIter_tuple isT; exact ⟨_, rfl, fin⟩
section
variable {prog : Program} {w : World} {A : Around} {E : Value → Shared → Prop} {s : Shared}
/-- enumerate(t) lays an iterator of t, then the enumerate object -/
theorem en_call {l : Addr} {items : Array Value} {Q : Value → Shared → Prop} (isT : s.heap.IsTuple l items)
    (h : ∀ h', IsEnum h' (s.heap.objs.size + 1) s.heap.objs.size 0 .none → h'.IsTupleIter s.heap.objs.size l 0 → (∀ b o, s.heap.get? b = some o → h'.get? b = some o) → Q (.ref (s.heap.objs.size + 1)) { s with heap := h' }) :
    wpAny (model prog w) A (call (.type "enumerate") [.ref l]) Q E s := by
  have n1 : (s.heap.push (itO l)).objs.size = s.heap.objs.size + 1 := Heap.size_push ..
  have at1 : ((s.heap.push (itO l)).push (enO s.heap.objs.size)).get? (s.heap.objs.size + 1) = some (enO s.heap.objs.size) := n1 ▸ Heap.get?_push_size _ rfl
  have at0 : ((s.heap.push (itO l)).push (enO s.heap.objs.size)).get? s.heap.objs.size = some (itO l) := Heap.get?_push_of_some _ (Heap.get?_push_size _ rfl)
  refine callType_new F.called_enumerate (by decide) (F.typeCall_enumerate_1 _) (F.newCall_enumerate_1 _) (fun o => F.args_object_init_2 o _) F.entry_enumerate_new (en_new l items) ⟨isT, ?_⟩
  show _ ∧ _
  rw [n1]
  exact ⟨⟨_, at1, rfl⟩, h _ at1 ⟨_, at0, rfl, rfl⟩ fun b o q => Heap.get?_push_of_some _ (Heap.get?_push_of_some _ q)⟩
end
/-- the tuple at a as it stands at each turn, each item in a new pair -/
def IteT (K : PySem.W.Frag) (a : Addr) : It :=
  ⟨fun i H => ∃ (xs : List V) (x : V), SqT K H a xs ∧ xs[i]? = some x, fun i H v H' => ∃ T x, v = .ref T ∧ H T = none ∧ H' = upd H T (.tup [.int (i : Nat), x]) ∧ ∀ xs, SqT K H a xs → xs[i]? = some x, fun i H => ∃ xs : List V, SqT K H a xs ∧ xs.length = i⟩
/-- where an enumerate over a tuple's iterator stands -/
structure EnT (a e it : Addr) (i : Nat) (h : Heap) : Prop where
  en : ∃ old, IsEnum h e it ((i : Nat) : Int) old
  ti : h.IsTupleIter it a i
  ne : e ≠ it
theorem EnT.iter_ne {a e it : Addr} {i : Nat} {h : Heap} (t : EnT a e it i h) {xs : Array Value} (p : h.IsTuple a xs) : a ≠ it ∧ e ≠ a := by
  obtain ⟨o1, g1, c1, -⟩ := p
  obtain ⟨o2, g2, c2, -⟩ := t.ti
  obtain ⟨old, g3⟩ := t.en
  refine ⟨fun z => ?_, fun z => ?_⟩
  · rw [z, g2] at g1
    cases g1
    rw [c1] at c2
    exact absurd c2 (by decide)
  · rw [← z, show h.get? e = _ from g3] at g1
    cases g1
    exact absurd (show Value.type "enumerate" = .type "tuple" from c1) (by decide)
theorem mem2 {b x y : Addr} : b ∈ [x, y] ↔ b = x ∨ b = y := by simp
theorem EnT.old {a e it : Addr} {i : Nat} {h : Heap} (t : EnT a e it i h) : ∀ b ∈ [e, it], b < h.objs.size := fun b hb => by
  obtain ⟨o2, g2, -⟩ := t.ti
  obtain ⟨_, g3⟩ := t.en
  rcases mem2.mp hb with rfl | rfl
  · exact Heap.lt_size g3
  · exact Heap.lt_size g2
theorem turn_en {P : Program} {w : World} {K : PySem.W.Frag} {elts : List Expr} {kk : Nat} {tpos : Pos} (a e it : Addr) : Turn P w K (.Tuple elts kk tpos) (IteT K a) [e, it] e (EnT a e it) where
  mem := List.mem_cons_self
  obj := fun i h t b hb => by
    obtain ⟨o2, g2, -, d2⟩ := t.ti
    obtain ⟨_, g3⟩ := t.en
    rcases mem2.mp hb with rfl | rfl
    · exact ⟨_, g3, nofun⟩
    · exact ⟨o2, g2, fun v z => by rw [d2] at z; cases z⟩
  keep := fun i h h' t k => ⟨t.en.imp fun _ g => k e (by simp) _ g, t.ti.at fun o q => k it (by simp) o q, t.ne⟩
  item := fun X hP hw hK hc i pins s σ H E I hf t hg => by
    subst hP hw hK
    obtain ⟨xs, x, hq, hx⟩ := hg
    obtain ⟨its, rv, p, -⟩ := I.tuple hq
    obtain ⟨u, hu, ru⟩ := rv.get hx
    obtain ⟨n1, n2⟩ := t.iter_ne p
    have old := t.old
    obtain ⟨o0, he⟩ := t.en
    have hlt : i < its.toArray.size := by
      have := (List.getElem?_eq_some_iff.mp hu).1
      simpa using this
    refine wpAny_pyNext_enum_itemD (D := Draws.tuple (show X.A.in1.handled = none from I.ok.hd hc) it a n1 its.toArray) he ⟨t.ti, p⟩ hlt t.ne (by simp [t.ne, n2]) fun y h1 tk hy ho ⟨ti1, _⟩ hT _ keep1 => ?_
    obtain rfl : u = y := Option.some.inj (hu.symm.trans (by simpa using hy))
    refine ⟨_, rfl, wpAny_letOwnedTupleGo_enum (s := { s with heap := h1, toks := tk + 1 }) ho fun h2 he2 same => ?_⟩
    have big : ∀ b ∈ [e, it], s.heap.objs.size ≠ b := fun b hb => Nat.ne_of_gt (old b hb)
    have hT2 : h2.get? s.heap.objs.size = some { cls := .type "tuple", data := .seq #[.int i tk, u] } := (same.2 _ (big e (by simp))).trans hT
    have kept2 : ∀ b o, b ∉ [e, it] → s.heap.get? b = some o → h2.get? b = some o := fun b o nb q => by
      have nb := not_or.mp fun z => nb (mem2.mpr z)
      exact (same.2 b nb.1).trans (keep1 b o nb.1 nb.2 q)
    have ok : ObjOk X.prog X.w (upd H s.heap.objs.size (.tup [.int (i : Nat), x])) h2 s.heap.objs.size (.tup [.int (i : Nat), x]) := ⟨by show 2 ≤ sizeLine; decide, [.int i tk, u], .cons ⟨tk, rfl⟩ (.cons ru .nil), ⟨_, hT2, rfl, _, rfl⟩⟩
    refine ⟨.ref s.heap.objs.size, _, I.turnedNew (t' := tk + 1) (ch := [e, it]) kept2 hf (Nat.le_refl _) ok, rfl, ⟨_, x, rfl, I.hok.fresh (Nat.le_refl _), rfl, fun ys hy => by rw [I.tuple_inj hy hq]; exact hx⟩, ⟨⟨u, ?_⟩, ti1.at fun o q => (same.2 it t.ne.symm).trans q, t.ne⟩, fun b hb => ?_⟩
    · rw [show ((i + 1 : Nat) : Int) = (i : Int) + 1 by omega]
      exact he2
    · rw [upd_ne (big b hb).symm]
      exact (hf b hb).1
  done := fun X hP hw hK hc i pins s σ H E I hf t hg => by
    subst hP hw hK
    obtain ⟨xs, hq, hx⟩ := hg
    obtain ⟨its, rv, p, -⟩ := I.tuple hq
    obtain ⟨n1, -⟩ := t.iter_ne p
    obtain ⟨o0, he⟩ := t.en
    obtain ⟨f0, f1, f2, f3, f4, f5⟩ := hf it (by simp)
    have ei : its.toArray.size = i := by rw [← hx, rv.length]; simp
    exact wpAny_pyNext_enum_endD (Draws.tuple (show X.A.in1.handled = none from I.ok.hd hc) it a n1 its.toArray) he ⟨by rw [ei]; exact t.ti, p⟩ fun h' eb => ⟨rfl, I.turned (t' := s.toks) (fun b o nb q => eb b o nb q) f0 f1 f3 f4 f5⟩
  self := fun A i s Q E t h => t.en.elim fun _ he => wpAny_pyIter_enum he h
def iEnumT (K : PySem.W.Frag) (ta : TA) : TI := fun σ H R => ta σ H fun vs H1 => ∃ a xs, vs = [.ref a] ∧ SqT K H1 a xs ∧ R (IteT K a) H1
theorem pi_enT {X : Cx} {e : Expr} {ta : TA} {p pos tpos : Pos} {elts : List Expr} {kk : Nat} (hg : Gl X "enumerate") (hm : X.mg "enumerate" = none) (ha : PA X [e] ta) (hs : starEach [e] X.env = [(false, eval e X.env)] := by rfl) :
    PI X (.Tuple elts kk tpos) (.Call (.Name "enumerate" p) [e] [] pos) (iEnumT X.K ta) where
  run := fun pins s σ H R I h => by
    refine Call_ (ld_blt I hg hm boot_enumerate (PyProof.Rows.callWith_type1 (thn (ha.run pos pins s σ H _ I h) fun us s1 hus => ?_) hs rfl))
    obtain ⟨_, H1, I1, r1, a, xs, rfl, hq, q⟩ := hus
    obtain ⟨u, rfl, ru⟩ := vals1 r1
    cases ru
    obtain ⟨its, -, tp, -⟩ := I1.tuple hq
    refine en_call (show s1.heap.IsTuple a its.toArray from tp) fun h' he ti keep => wpAny_pyIter_enum he ?_
    refine ⟨s1.heap.objs.size + 1, [s1.heap.objs.size + 1, s1.heap.objs.size], _, _, H1, rfl, I1.kept (t' := s1.toks) keep, turn_en a _ _, ⟨⟨_, he⟩, ti, Nat.succ_ne_self _⟩, fun b hb => ?_, q⟩
    have old : s1.heap.objs.size ≤ b := by
      rcases mem2.mp hb with rfl | rfl
      · exact Nat.le_succ _
      · exact Nat.le_refl _
    exact I1.fpOk old (I1.hok.fresh old)
theorem walk_enT {K : PySem.W.Frag} {a : Addr} {xs : List V} : Walk (IteT K a) xs.length (fun H => SqT K H a xs) (YPair (fun i => some (.int (i : Nat))) (fun i => xs[i]?)) :=
  ⟨fun i _ hi q => ⟨xs, xs[i], q, by simp [hi]⟩, fun _ q => ⟨xs, q, rfl⟩, fun _ _ _ _ _ q ⟨T, x, h1, h2, h3, h4⟩ => ⟨T, _, x, h1, h2, h3, rfl, h4 xs q⟩⟩
end TP
set_option Elab.async false
set_option linter.all false
set_option maxRecDepth 100000
set_option maxHeartbeats 4000000
/-! heaps that grow, data in them, defs by names -/
namespace TP
open PySem PySem.Spec PyProof.Rows L2
/-- all is kept but what stands at the addresses M -/
def Kp (M : List Addr) (H H' : Hp) : Prop := ∀ p o, p ∉ M → H p = some o → H' p = some o
/-- what may change: lists, small instances -/
def Vol : HO → Bool
  | .lst _ => true
  | .ins _ _ fs => decide (fs.length < 4)
  | _ => false
/-- all is kept but what may change -/
def Tst (H H' : Hp) : Prop := ∀ p o, Vol o = false → H p = some o → H' p = some o
section
variable {M : List Addr} {H H1 H2 : Hp} {p : Addr} {o : HO} {l l' : List V}
theorem Kp.refl : Kp M H H := fun _ _ _ h => h
theorem Kp.trans (a : Kp M H H1) (b : Kp M H1 H2) : Kp M H H2 := fun q u m h => b q u m (a q u m h)
theorem Kp.mono {M' : List Addr} (a : Kp M H H1) (h : ∀ q ∈ M, q ∈ M') : Kp M' H H1 := fun q u m e => a q u (fun z => m (h q z)) e
theorem Kp.up (a : Kp [] H H1) : Kp M H H1 := a.mono fun _ z => by cases z
theorem Kp.new (h : H p = none) : Kp M H (upd H p o) := fun q u _ e => by rw [upd_ne (ne_of_none e h)]; exact e
theorem Kp.newT (a : Kp M H H1) (h : H1 p = none) : Kp M H (upd H1 p o) := a.trans (.new h)
theorem Kp.put (h : p ∈ M) : Kp M H (upd H p o) := fun q u m e => by rw [upd_ne fun z => m (by rw [z]; exact h)]; exact e
/-- a write at what was not there at the start -/
theorem Kp.putN (a : Kp M H H1) (h : H p = none) : Kp M H (upd H1 p o) := fun q u m e => by
  rw [upd_ne (ne_of_none e h)]
  exact a q u m e
theorem Kp.same (a : Kp [] H H1) : Same H H1 := fun q u e => a q u (by simp) e
theorem Kp.of_same (a : Same H H1) : Kp M H H1 := fun q u _ e => a q u e
theorem Kp.free (a : Kp M H H1) (hp : p ∉ M) (h : H1 p = none) : H p = none := by
  cases e : H p with
  | none => rfl
  | some u => rw [a p u hp e] at h; cases h
theorem Kp.fre (a : Kp [] H H1) (h : H1 p = none) : H p = none := a.free (by simp) h
/-- writes at p, which was not there at the start -/
theorem Kp.glue (a : Kp M H H1) (b : Kp [p] H1 H2) (h : H p = none) : Kp M H H2 := fun q u m e => b q u (fun z => by
  rw [List.mem_singleton.mp z, h] at e
  cases e) (a q u m e)
theorem Tst.refl : Tst H H := fun _ _ _ h => h
theorem Tst.trans (a : Tst H H1) (b : Tst H1 H2) : Tst H H2 := fun q u m h => b q u m (a q u m h)
theorem Kp.tst (a : Kp M H H1) (h : ∀ q ∈ M, ∃ u, H q = some u ∧ Vol u = true) : Tst H H1 := fun q u n e => a q u (fun z => by
  obtain ⟨u', hl, hv⟩ := h q z
  rw [hl] at e
  cases e
  rw [hv] at n
  cases n) e
theorem Kp.tst0 (a : Kp [] H H1) : Tst H H1 := a.tst fun _ z => by cases z
theorem Kp.tstV {u : HO} (a : Kp [p] H H1) (h : H p = some u) (hv : Vol u = true) : Tst H H1 := a.tst fun q z => by
  rw [List.mem_singleton.mp z]
  exact ⟨u, h, hv⟩
theorem Kp.tst1 (a : Kp [p] H H1) (h : H p = some (.lst l)) : Tst H H1 := a.tstV h rfl
theorem Tst.put (h : H p = some (.lst l)) : Tst H (upd H p o) := fun q u n e => by
  rw [upd_ne fun z => by
    rw [z, h] at e
    cases e
    cases n]
  exact e
theorem Tst.new (h : H p = none) : Tst H (upd H p o) := (Kp.new (M := []) h).tst0
theorem sqT_tst {K : PySem.W.Frag} {a : Addr} {xs : List V} (h : SqT K H a xs) (t : Tst H H1) : SqT K H1 a xs := by
  rcases h with (h | ⟨o, h⟩) | h
  · exact .inl (.inl (t _ _ rfl h))
  · exact .inl (.inr ⟨o, t _ _ rfl h⟩)
  · exact .inr h
end
/-- a tuple of things R -/
def TupP {α : Type} (K : PySem.W.Frag) (R : Hp → α → V → Prop) (H : Hp) (l : List α) (v : V) : Prop := ∃ a vs, v = .ref a ∧ SqT K H a vs ∧ Paired (R H) l vs
/-- R stands while only lists change -/
def Stb {α : Type} (R : Hp → α → V → Prop) : Prop := ∀ H H' x v, Tst H H' → R H x v → R H' x v
theorem paired_map {α β : Type} {F G : α → β → Prop} (h : ∀ a b, F a b → G a b) : ∀ {l : List α} {m : List β}, Paired F l m → Paired G l m
  | _, _, .nil => .nil
  | _, _, .cons r t => .cons (h _ _ r) (paired_map h t)
theorem TupP.stb {α : Type} {K : PySem.W.Frag} {R : Hp → α → V → Prop} (h : Stb R) : Stb (TupP K R) := fun H H' l v t ⟨a, vs, e, q, r⟩ => ⟨a, vs, e, sqT_tst q t, paired_map (fun x y => h H H' x y t) r⟩
theorem stb_pure {α : Type} {f : α → V → Prop} : Stb (fun _ => f) := fun _ _ _ _ _ h => h
theorem paired_get' {α β : Type} {F : α → β → Prop} : ∀ {l : List α} {m : List β} {i : Nat} {y : β}, Paired F l m → m[i]? = some y → ∃ x, l[i]? = some x ∧ F x y
  | _, _, i, y, .nil, h => by simp at h
  | _, _, 0, y, .cons r t, h => ⟨_, rfl, by simp at h; rw [← h]; exact r⟩
  | _, _, i + 1, y, .cons r t, h => by
    obtain ⟨x, hx, q⟩ := paired_get' t (by simpa using h)
    exact ⟨x, by simpa using hx, q⟩
theorem paired_at {α β : Type} {F : α → β → Prop} : ∀ {l : List α} {m : List β} {i : Nat} {x : α}, Paired F l m → l[i]? = some x → ∃ y, m[i]? = some y ∧ F x y
  | _, _, i, x, .nil, h => by simp at h
  | _, _, 0, x, .cons r t, h => ⟨_, rfl, by simp at h; rw [← h]; exact r⟩
  | _, _, i + 1, x, .cons r t, h => by
    obtain ⟨y, hy, q⟩ := paired_at t (by simpa using h)
    exact ⟨y, by simpa using hy, q⟩
theorem paired_append {α β : Type} {F : α → β → Prop} : ∀ {l l' : List α} {m m' : List β}, Paired F l m → Paired F l' m' → Paired F (l ++ l') (m ++ m')
  | _, _, _, _, .nil, q => q
  | _, _, _, _, .cons r t, q => .cons r (paired_append t q)
theorem paired_of_map {α β : Type} {F : α → β → Prop} (f : α → β) (h : ∀ a, F a (f a)) : ∀ l : List α, Paired F l (l.map f)
  | [] => .nil
  | a :: l => .cons (h a) (paired_of_map f h l)
theorem paired_eq {α β : Type} {F : α → β → Prop} (f : α → β) (h : ∀ a b, F a b → b = f a) : ∀ {l : List α} {m : List β}, Paired F l m → m = l.map f
  | _, _, .nil => rfl
  | _, _, .cons r t => by rw [h _ _ r, paired_eq f h t]; rfl
theorem paired_take {α β : Type} {F : α → β → Prop} : ∀ {l : List α} {m : List β} (n : Nat), Paired F l m → Paired F (l.take n) (m.take n)
  | _, _, n, .nil => by simp; exact .nil
  | _, _, 0, .cons _ _ => .nil
  | _, _, n + 1, .cons r t => .cons r (paired_take n t)
theorem take_succ_of {α : Type} {l : List α} {i : Nat} {x : α} (h : l[i]? = some x) : l.take (i + 1) = l.take i ++ [x] := by
  rw [List.take_add_one, h]; rfl
theorem paired_snoc {α β : Type} {F : α → β → Prop} {l : List α} {m : List β} {i : Nat} {x : α} {y : β} (h : Paired F (l.take i) m) (hx : l[i]? = some x) (r : F x y) : Paired F (l.take (i + 1)) (m ++ [y]) := by
  rw [take_succ_of hx]
  exact paired_append h (.cons r .nil)
/-! ### the data -/
def RStr : Hp → Str → V → Prop := fun _ z v => v = .str z
def ROpt : Hp → Option Int → V → Prop := fun _ o v => v = optV o
def RTerm : Hp → Tm → V → Prop := fun _ t v => v = .str (tmS t)
def REnd : Hp → _root_.Fin 6 → V → Prop := fun _ k v => v = .str (regS k)
def RBeg : Hp → Bool → V → Prop := fun _ b v => v = if b then .int 0 else .non
section
variable (K : PySem.W.Frag)
abbrev RTerms : Hp → List Tm → V → Prop := TupP K RTerm
abbrev RRule : Hp → Rule → V → Prop := TupP K (RTerms K)
abbrev RRules : Hp → List Rule → V → Prop := TupP K (RRule K)
abbrev RRow : Hp → Row → V → Prop := TupP K ROpt
abbrev REnds : Hp → List (_root_.Fin 6) → V → Prop := TupP K REnd
abbrev RKinds : Hp → List Str → V → Prop := TupP K RStr
/-- an event: the kind's name, the amount -/
def REv (kinds : List Str) : Hp → Ev → V → Prop := fun H e v => ∃ a, v = .ref a ∧ SqT K H a [.str (kinds.getD e.1 Str.empty), .int e.2]
abbrev RLog (kinds : List Str) : Hp → List Ev → V → Prop := TupP K (REv K kinds)
end
theorem stbStr : Stb RStr := stb_pure
theorem stbOpt : Stb ROpt := stb_pure
theorem stbTerm : Stb RTerm := stb_pure
theorem stbEnd : Stb REnd := stb_pure
theorem stbTerms {K : PySem.W.Frag} : Stb (RTerms K) := TupP.stb stb_pure
theorem stbRule {K : PySem.W.Frag} : Stb (RRule K) := TupP.stb stbTerms
theorem stbRules {K : PySem.W.Frag} : Stb (RRules K) := TupP.stb stbRule
theorem stbRow {K : PySem.W.Frag} : Stb (RRow K) := TupP.stb stb_pure
theorem stbEnds {K : PySem.W.Frag} : Stb (REnds K) := TupP.stb stb_pure
theorem stbKinds {K : PySem.W.Frag} : Stb (RKinds K) := TupP.stb stb_pure
theorem stbEv {K : PySem.W.Frag} {kinds : List Str} : Stb (REv K kinds) := fun H H' e v t ⟨a, h, q⟩ => ⟨a, h, sqT_tst q t⟩
theorem stbLog {K : PySem.W.Frag} {kinds : List Str} : Stb (RLog K kinds) := TupP.stb stbEv
/-! ### the loop of a list comprehension: acc is made so far -/
def LS (D : Addr) (M : List Addr) (H1 : Hp) (S : Nat → List V → Hp → Prop) (i : Nat) (H : Hp) : Prop := ∃ acc, H D = some (.lst acc) ∧ acc.length ≤ i ∧ Kp M H1 H ∧ S i acc H
def StbS (S : Nat → List V → Hp → Prop) : Prop := ∀ i acc H H', Tst H H' → S i acc H → S i acc H'
section
variable {D : Addr} {M : List Addr} {H1 H H4 : Hp} {S : Nat → List V → Hp → Prop} {i : Nat} {acc : List V} {y : V}
theorem LS.start (hD : H1 D = none) (st : StbS S) (h : S 0 [] H1) : LS D M H1 S 0 (upd H1 D (.lst [])) := ⟨[], upd_same, Nat.le_refl _, .new hD, st _ _ _ _ (.new hD) h⟩
theorem LS.put (hD : H1 D = none) (hM : D ∉ M) (st : StbS S) (hi : i < 10000) (hl : acc.length ≤ i) (h4 : H4 D = some (.lst acc)) (k : Kp M H1 H4) (h : S (i + 1) (acc ++ [y]) H4) :
    ∃ acc, H4 D = some (.lst acc) ∧ acc.length < sizeLine ∧ LS D M H1 S (i + 1) (upd H4 D (.lst (acc ++ [y]))) :=
  ⟨acc, h4, Nat.lt_of_lt_of_le (Nat.lt_of_le_of_lt hl hi) (by rw [sizeLine_eq]; decide), acc ++ [y], upd_same, by rw [List.length_append]; exact Nat.succ_le_succ hl, k.putN hD, st _ _ _ _ (.put h4) h⟩
theorem LS.skip (hl : acc.length ≤ i) (h4 : H4 D = some (.lst acc)) (k : Kp M H1 H4) (h : S (i + 1) acc H4) : LS D M H1 S (i + 1) H4 := ⟨acc, h4, Nat.le_succ_of_le hl, k, h⟩
end
theorem sz (n : Nat) (h : n ≤ 1000 := by decide) : n ≤ sizeLine := Nat.le_of_lt (small1000 h)
theorem tyes {σ : L2.St} {H : Hp} {Q : Bool → Hp → Prop} (h : Q true H) : tYes σ H Q := h
/-! ### defs by their names -/
structure DefA (K : PySem.W.Frag) (mg : Str → Option Value) (x : Str) (st : Stmt) (ps : List Str) (dvs : List V) : Prop where
  ex : ∃ f fd, FunD K x x (defArgs st) (defBody st) (defScope st) dvs [] f fd ∧ mg x = some (.ref f) ∧ Binds K fd ps []
/-- a def that may be called by its name, every argument given -/
structure Cal (P : Program) (w : World) (K : PySem.W.Frag) (mg : Str → Option Value) (base : Heap) (k : Nat) (x : Str) (sp : Sp) : Prop where
  ex : ∃ (f : Addr) (fd : FuncData) (ps : List Str), FnOk P w K mg base CX0 k f fd ps sp ∧ mg x = some (.ref f) ∧ PySem.W.keepIn K (.ref f) = true ∧ Binds K fd ps []
section
variable {P : Program} {w : World} {K : PySem.W.Frag} {mg : Str → Option Value} {base : Heap}
theorem calOf {x : Str} {st : Stmt} {N ps : List Str} {dvs : List V} {k : Nat} {sp : Sp} (D : DefA K mg x st ps dvs) (S : FnScope N ps (defScope st)) (len : ∀ vs H Q E, sp vs H Q E → vs.length = ps.length)
    (hbody : ∀ (f : Addr) (cdv : Value) (A : Around) (outer : List Env) (s : Shared) (H : Hp) (vs : List V) (Q : VK) (E : XK), Room k (A.deeper (envOfC x (defScope st) s.heap.objs.size f cdv)) → sp vs H Q E →
      ∃ t, PSs (cxOf CX0 P w K mg base N x (defScope st) f cdv A outer s H E).nox (defBody st) t ∧ t { nx := fun _ H' => Q .non H', rt := Q } (start N vs) H) : Cal P w K mg base (k + 1) x sp := by
  obtain ⟨f, fd, F, hm, hb⟩ := D.ex
  refine ⟨f, fd, ps, F.ok S len fun cdv A outer s H vs Q E hr h => ?_, hm, F.kp, hb⟩
  obtain ⟨t, h1, h2⟩ := hbody f cdv A outer s H vs Q E hr h
  exact ⟨t, h1.nox, h2⟩
end
section
variable {X : Cx} {k j : Nat} {C : Addr} {x m : Str} {sp : Sp} {p pos apos : Pos} {e o : Expr} {es : List Expr} {ta : TE} {t : TA}
theorem pe_c (c : Cal X.prog X.w X.K X.mg X.base k x sp) (hr : Room j X.A) (ha : PA X (e :: es) t) (hk : k ≤ j := by decide) (hg : Gl X x := by rfl)
    (hdb : (x == ("__debug__" : Str)) = false := by decide) (he : starEach (e :: es) X.env = (false, eval e X.env) :: starEach es X.env := by rfl) (hpl : (backTo pos (starEach es X.env)).any (·.1) = false := by rfl) :
    PE X (.Call (.Name x p) (e :: es) [] pos) (tCall sp [] E0 t) := by
  obtain ⟨f, fd, ps, F, hm, kp, b⟩ := c.ex
  exact pe_call F (hr.mono hk) hg hm kp b .nil pass0 ha hdb he hpl
theorem pe_c0 (c : Cal X.prog X.w X.K X.mg X.base k x sp) (hr : Room j X.A) (hk : k ≤ j := by decide) (hg : Gl X x := by rfl)
    (hdb : (x == ("__debug__" : Str)) = false := by decide) : PE X (.Call (.Name x p) [] [] pos) (tCall sp [] E0 tNil) := by
  obtain ⟨f, fd, ps, F, hm, kp, b⟩ := c.ex
  exact pe_call0 F (hr.mono hk) hg hm kp b .nil pass0 hdb
end
/-- a module's name that holds v -/
def GV (mg : Str → Option Value) (x : Str) (v : V) : Prop := ∃ u, mg x = some u ∧ RelV v u
theorem pe_gv {X : Cx} {x : Str} {v : V} {pos : Pos} (h : GV X.mg x v) (hg : Gl X x := by rfl) (hd : (x == ("__debug__" : Str)) = false := by decide) : PE X (.Name x pos) (tC v) := by
  obtain ⟨u, hm, r⟩ := h
  exact pe_glob hg hm r hd
/-- a built-in's name -/
theorem pe_bt {X : Cx} {T : String} {x : Str} {pos : Pos} (hm : X.mg x = none) (hv : bootBuiltins x = some (.type T) := by decide +kernel) (hg : Gl X x := by rfl) (hn : x ≠ "__name__" := by decide) (hd : (x == ("__debug__" : Str)) = false := by decide) : PE X (.Name x pos) (tC (.ty T)) := pe_bltn hg hm hv rfl hn hd
def frees : List Str := ["int", "bool", "str", "tuple", "list", "isinstance", "len", "all", "enumerate", "max", "min", "zip", "sorted", "range", "divmod", "abs", "repr"]
def letters : Str := "abcdefghijklmnopqrstuvwxyz"
/-- what the text's first part needs of the top -/
structure Tx (K : PySem.W.Frag) (mg : Str → Option Value) : Prop where
  free : ∀ x ∈ frees, mg x = none
  cKinds : GV mg "MAX_KINDS" (.int 4)
  cRegs : GV mg "MAX_REGISTERS" (.int 6)
  cEvents : GV mg "MAX_EVENTS" (.int 1000)
  cAmount : GV mg "MAX_AMOUNT" (.int (10 ^ 30))
  cLetters : GV mg "LETTERS" (.str letters)
  regs : ∃ r, mg "REGISTERS" = some (.ref r) ∧ ∀ H, SqT K H r (regT.map V.str)
  isInteger : DefA K mg "is_integer" sIsInteger pIsInteger []
  isKind : DefA K mg "is_kind" sIsKind pIsKind []
  isAmount : DefA K mg "is_amount" sIsAmount pIsAmount []
  isEvent : DefA K mg "is_event" sIsEvent pIsEvent []
  firstWrong : DefA K mg "first_wrong" sFirstWrong pFirstWrong [.non]
  checkLog : DefA K mg "check_log" sCheckLog pCheckLog [.non]
  checkAmount : DefA K mg "check_amount" sCheckAmount pCheckAmount []
  termsOf : DefA K mg "terms_of" sTermsOf pTermsOf []
  sourceOf : DefA K mg "source_of" sSourceOf pSourceOf []
  termFrom : DefA K mg "term_from" sTermFrom pTermFrom []
  bestOf : DefA K mg "best_of" sBestOf pBestOf []
  stepped : DefA K mg "stepped" sStepped pStepped []
  readOut : DefA K mg "read_out" sReadOut pReadOut []
  firstFall : DefA K mg "first_fall" sFirstFall pFirstFall []
  checkKinds : DefA K mg "check_kinds" sCheckKinds pCheckKinds []
  checkStart : DefA K mg "check_start" sCheckStart pCheckStart []
  isRule : DefA K mg "is_rule" sIsRule pIsRule []
  checkRules : DefA K mg "check_rules" sCheckRules pCheckRules []
  checkResult : DefA K mg "check_result" sCheckResult pCheckResult []
  made : DefA K mg "made" sMade pMade []
  checkStatistic : DefA K mg "check_statistic" sCheckStatistic pCheckStatistic []
  checkTwo : DefA K mg "check_two" sCheckTwo pCheckTwo []
  raised : DefA K mg "raised" sRaised pRaised []
  raisedRule : DefA K mg "raised_rule" sRaisedRule pRaisedRule []
  contents : DefA K mg "contents" sContents pContents []
  results : DefA K mg "results" sResults pResults []
end TP
set_option Elab.async false
set_option linter.all false
set_option maxRecDepth 100000
set_option maxHeartbeats 4000000
/-! the checks of a log -/
namespace TP
open PySem PySem.Spec PyProof.Rows L2
/-- a kind's name -/
def KN (z : Str) : Prop := 1 ≤ z.length ∧ z.length ≤ 8 ∧ ∀ c ∈ z.cps.toList, c ∈ letters.cps.toList
def AmtOk (a : Int) : Prop := -(10 ^ 30) ≤ a ∧ a ≤ 10 ^ 30
def spIsInteger : Sp := fun vs H Q _ => ∃ i : Int, vs = [.int i] ∧ Q (.bl true) H
def spIsKind : Sp := fun vs H Q _ => ∃ z, vs = [.str z] ∧ KN z ∧ ∀ H', Kp [] H H' → Q (.bl true) H'
def spIsAmount : Sp := fun vs H Q _ => ∃ i : Int, vs = [.int i] ∧ AmtOk i ∧ Q (.bl true) H
section
variable {P : Program} {w : World} {K : PySem.W.Frag} {mg : Str → Option Value} {base : Heap}
section
variable {X : Cx} {e c : Expr} {te : TE} {T : String} {pos p : Pos}
/-- isinstance(e, T), T a built-in class -/
theorem pe_isi (hm : X.mg "isinstance" = none) (he : PE X e te) {x : Str} {px : Pos} (hx : X.mg x = none) (hv : bootBuiltins x = some (.type T) := by decide +kernel) (hg : Gl X "isinstance" := by rfl) (hgx : Gl X x := by rfl)
    (hn : x ≠ "__name__" := by decide) (hd : (x == ("__debug__" : Str)) = false := by decide) (hs : starEach [e, .Name x px] X.env = (false, eval e X.env) :: starEach [.Name x px] X.env := by rfl) :
    PE X (.Call (.Name "isinstance" p) [e, .Name x px] [] pos) (tCB (rIsi X.K) (tCons te (tCons (tC (.ty T)) tNil))) :=
  pe_callB call_isi hg hm (by decide +kernel) (pa_cons he (pa_cons (pe_bt hx hv hgx hn hd) pa_nil) hs) (by decide) (by decide) hs
theorem tyT {K : PySem.W.Frag} {H : Hp} {a : Addr} {xs : List V} (h : SqT K H a xs) : TyX K H (.ref a) (.type "tuple") := by
  rcases h with (h | ⟨o, h⟩) | ⟨o, its, n, h, c, _⟩
  · exact .base (.tup h)
  · exact .fTuple h
  · exact .kTuple h c
end
theorem Tx.f (T : Tx K mg) {x : Str} (h : x ∈ frees := by decide +kernel) : mg x = none := T.free x h
theorem c_isInteger (T : Tx K mg) : Cal P w K mg base 1 "is_integer" spIsInteger := by
  refine calOf T.isInteger scIsInteger (fun vs H Q E h => ?_) (fun f cdv A outer s H vs Q E hr h => ?_)
  · obtain ⟨i, rfl, _⟩ := h
    rfl
  · obtain ⟨i, rfl, q⟩ := h
    refine ⟨_, pss_one (ps_ret (pe_and (pe_isi (T := "int") T.f (pv 0) T.f) (pe_one (pe_not (pe_isi (T := "bool") T.f (pv 0) T.f))))), ?_⟩
    refine ⟨_, rfl, _, _, _, _, true, rfl, .ty _, .base (.int i), kit_ty (by decide +kernel), true, rfl, iteT ?_⟩
    exact ⟨_, rfl, _, _, _, _, false, rfl, .ty _, .base (.int i), kit_ty (by decide +kernel), _, rfl, q⟩
theorem c_isKind (T : Tx K mg) : Cal P w K mg base 1 "is_kind" spIsKind := by
  refine calOf T.isKind scIsKind (fun vs H Q E h => ?_) (fun f cdv A outer s H vs Q E hr h => ?_)
  · obtain ⟨i, rfl, _⟩ := h
    rfl
  · obtain ⟨z, rfl, ⟨k1, k2, k3⟩, q⟩ := h
    refine ⟨_, pss_one (ps_ret (pe_and (pe_isi (T := "str") T.f (pv 0) T.f) (pe_and (pe_chain op_le op_le pe_int (pe_callB call_len_str rfl T.f (by decide +kernel) (pa_cons (pv 0) pa_nil)) pe_int)
      (pe_one (pe_callB (cr_all rfl) rfl T.f (by decide +kernel) (pa_cons (pe_lc (own := [("letter", 1)]) (g := gName 1) (tt := tYes) rfl scIsKind.nd (pi_str (pv 0)) (blkOk_by (N := nIsKind) (sc := defScope sIsKind) (by decide +kernel))
        (fun _ _ _ _ _ => pg_name (i := 1) scIsKind.nd rfl (Or.inl rfl)) (fun _ _ _ _ _ => pts_nil) (fun _ _ _ _ _ => pe_cmpR op_in_sign (pv 1) (pe_gv T.cLetters) rfl)) pa_nil)))))), ?_⟩
    refine ⟨_, rfl, _, _, _, _, true, rfl, .ty _, .base (.str z), kit_ty (by decide +kernel), true, rfl, iteT ?_⟩
    refine ⟨_, rfl, _, rfl, Nat.le_of_lt (small1000 (Nat.le_trans k2 (by decide))), _, _, rfl, rfl, true, congrArg V.bl (decide_eq_true (by omega)), iteT ?_⟩
    refine ⟨_, _, rfl, rfl, true, congrArg V.bl (decide_eq_true (by omega)), iteT ?_⟩
    refine ⟨_, rfl, _, rfl, fun D hD => lc_it walk_str (LS D [] H fun i acc _ => acc = List.replicate i (.bl true)) (LS.start hD (fun _ _ _ _ _ h => h) rfl) (fun _ _ _ _ => True.intro) (fun i x H1 H2 hi hp hy => ?_) fun H1 hp => ?_⟩
    · obtain ⟨acc, hA, hl, hk, hS⟩ := hp
      obtain ⟨rfl, c, hc, rfl⟩ := hy
      refine ⟨rfl, tyes (iteT ?_)⟩
      refine ⟨_, rfl, c, _, rfl, rfl, ?_⟩
      have hz : i < 10000 := Nat.lt_of_lt_of_le hi (Nat.le_trans (show z.cps.size ≤ 8 from k2) (by decide))
      have e : decide (c ∈ letters.cps.toList) = true := decide_eq_true (k3 c (by
        have := Array.mem_of_getElem? hc
        simpa using this))
      rw [e]
      exact LS.put hD (by simp) (fun _ _ _ _ _ h => h) hz hl hA hk (by rw [hS, List.replicate_succ'])
    · obtain ⟨acc, hA, hl, hk, rfl⟩ := hp
      refine ⟨D, List.replicate z.cps.size true, rfl, SqL.of (by rw [hA, List.map_replicate]), ?_⟩
      have e : (List.replicate z.cps.size true).all id = true := List.all_eq_true.mpr fun x hx => by rw [(List.mem_replicate.mp hx).2]; rfl
      rw [e]
      exact q H1 hk
theorem c_isAmount (T : Tx K mg) : Cal P w K mg base 2 "is_amount" spIsAmount := by
  refine calOf T.isAmount scIsAmount (fun vs H Q E h => ?_) (fun f cdv A outer s H vs Q E hr h => ?_)
  · obtain ⟨i, rfl, _⟩ := h
    rfl
  · obtain ⟨i, rfl, ⟨a1, a2⟩, q⟩ := h
    refine ⟨_, pss_one (ps_ret (pe_and (pe_c (c_isInteger T) hr (pa_cons (pv 0) pa_nil)) (pe_one (pe_chain op_le op_le (pe_un un_neg (pe_gv T.cAmount)) (pv 0) (pe_gv T.cAmount))))), ?_⟩
    refine ⟨_, rfl, i, rfl, true, rfl, iteT ?_⟩
    refine ⟨_, rfl, _, rfl, _, _, rfl, rfl, true, congrArg V.bl (decide_eq_true a1), iteT ?_⟩
    refine ⟨_, _, rfl, rfl, ?_⟩
    show Q (.bl (decide (i ≤ 10 ^ 30))) H
    rw [decide_eq_true a2]
    exact q
def spIsEvent (K : PySem.W.Frag) : Sp := fun vs H Q _ => ∃ p z a, vs = [.ref p] ∧ SqT K H p [.str z, .int a] ∧ KN z ∧ AmtOk a ∧ ∀ H', Kp [] H H' → Q (.bl true) H'
theorem c_isEvent (T : Tx K mg) : Cal P w K mg base 3 "is_event" (spIsEvent K) := by
  refine calOf T.isEvent scIsEvent (fun vs H Q E h => ?_) (fun f cdv A outer s H vs Q E hr h => ?_)
  · obtain ⟨p, z, a, rfl, _⟩ := h
    rfl
  · obtain ⟨p, z, a, rfl, hp, hz, ha, q⟩ := h
    refine ⟨_, pss_one (ps_ret (pe_and (pe_isi (T := "tuple") T.f (pv 0) T.f) (pe_and (pe_cmpR op_eq (pe_callB call_len_seq rfl T.f (by decide +kernel) (pa_cons (pv 0) pa_nil)) pe_int (nomark _))
      (pe_and (pe_c (c_isKind T) hr (pa_cons (pe_ix ix_tup (pv 0) pe_int (fun _ _ => rfl)) pa_nil)) (pe_one (pe_c (c_isAmount T) hr (pa_cons (pe_ix ix_tup (pv 0) pe_int (fun _ _ => rfl)) pa_nil))))))), ?_⟩
    refine ⟨_, rfl, _, _, _, _, true, rfl, .ty _, tyT hp, kit_ty (by decide +kernel), true, rfl, iteT ?_⟩
    refine ⟨_, rfl, _, _, rfl, .inr hp, rfl, true, rfl, iteT ?_⟩
    refine ⟨_, rfl, _, _, _, _, rfl, rfl, hp, atI_nat (j := 0) rfl, z, rfl, hz, fun H1 k1 => ⟨true, rfl, iteT ?_⟩⟩
    have hp1 := sqT_tst hp k1.tst0
    exact ⟨_, rfl, _, _, _, _, rfl, rfl, hp1, atI_nat (j := 1) rfl, a, rfl, ha, q _ k1⟩
/-- a log that the checks let through -/
def LogOk (kinds : List Str) (log : List Ev) : Prop := log.length ≤ 1000 ∧ ∀ e ∈ log, e.1 < kinds.length ∧ AmtOk e.2
def KsOk (kinds : List Str) : Prop := kinds.length ≤ 4 ∧ ∀ z ∈ kinds, KN z
theorem getD_get {l : List Str} {i : Nat} (h : i < l.length) : l[i]? = some (l.getD i Str.empty) := by
  rw [List.getD_eq_getElem?_getD, List.getElem?_eq_getElem h]; rfl
theorem getD_mem {l : List Str} {i : Nat} (h : i < l.length) : l.getD i Str.empty ∈ l := List.mem_of_getElem? (getD_get h)
theorem inV_str {z : Str} : ∀ {l : List Str}, z ∈ l → inV (.str z) (l.map V.str) = true := by
  intro l h
  unfold inV
  rw [List.any_eq_true]
  refine ⟨.str z, List.mem_map.mpr ⟨z, h, rfl⟩, ?_⟩
  simp [eqV]
theorem flat_strs (l : List Str) : (l.map V.str).all flatV = true := by
  rw [List.all_eq_true]
  intro x hx
  obtain ⟨y, _, rfl⟩ := List.mem_map.mp hx
  rfl
theorem kinds_eq {K : PySem.W.Frag} {H : Hp} {kinds : List Str} {v : V} (h : RKinds K H kinds v) : ∃ a, v = .ref a ∧ SqT K H a (kinds.map V.str) := by
  obtain ⟨a, vs, rfl, q, r⟩ := h
  rw [paired_eq V.str (fun _ _ e => e) r] at q
  exact ⟨a, rfl, q⟩
def spFirstWrong (K : PySem.W.Frag) : Sp := fun vs H Q _ => ∃ kinds log v vk, vs = [v, vk] ∧ RLog K kinds H log v ∧ RKinds K H kinds vk ∧ LogOk kinds log ∧ KsOk kinds ∧ ∀ H', Kp [] H H' → Q .non H'
theorem c_firstWrong (T : Tx K mg) : Cal P w K mg base 4 "first_wrong" (spFirstWrong K) := by
  refine calOf T.firstWrong scFirstWrong (fun vs H Q E h => ?_) (fun f cdv A outer s H vs Q E hr h => ?_)
  · obtain ⟨_, _, _, _, rfl, _⟩ := h
    rfl
  · obtain ⟨kinds, log, v, vk, rfl, ⟨a, its, rfl, ha, hits⟩, hk, ⟨hlen, hev⟩, ⟨hk4, hkn⟩, q⟩ := h
    obtain ⟨b, rfl, hb⟩ := kinds_eq hk
    refine ⟨_, pss_cons (ps_if (PW.pt (pw_or (pt_not (pt_val (pe_isi (T := "tuple") T.f (pv 0) T.f))) (pw_or1 (pt_cmpR op_gt (pe_callB call_len_seq rfl T.f (by decide +kernel) (pa_cons (pv 0) pa_nil)) (pe_gv T.cEvents) (nomark _))))) pss_never pss_nil)
      (pss_cons (ps_for PassesOwn.never rfl (pi_enT rfl T.f (pa_cons (pv 0) pa_nil)) (pg_tup rfl (pgs_cons (pg_name (i := 2) scFirstWrong.nd rfl (Or.inl rfl)) (pgs_cons (pg_name (i := 3) scFirstWrong.nd rfl (Or.inl rfl)) pgs_nil)))
        (pss_one (ps_if (PW.pt (pw_or (pt_not (pt_val (pe_c (c_isEvent T) hr (pa_cons (pv 3) pa_nil)))) (pw_or1 (PW.pt (pw_and (pt_cmpR op_notN (pv 1) pe_non (nomark _))
          (pw_and1 (pt_cmpR op_notIn_seq (pe_ix ix_tup (pv 3) pe_int (fun _ _ => rfl)) (pv 1) rfl))))))) pss_never pss_nil)))
      (pss_one (ps_ret pe_non))), ?_⟩
    have hl := Paired.length hits
    refine ⟨_, rfl, _, _, _, _, true, rfl, .ty _, tyT ha, kit_ty (by decide +kernel), true, rfl, iteF ?_⟩
    refine ⟨_, rfl, _, _, rfl, .inr ha, _, _, rfl, rfl, false, congrArg V.bl (decide_eq_false (by omega)), iteF ?_⟩
    refine ⟨_, rfl, a, its, rfl, ha, for_it walk_enT (fun _ σ' H' => Kp [] H H' ∧ ∃ x y, σ' = [some (.ref a), some (.ref b), x, y]) ⟨.refl, none, none, rfl⟩ (fun _ _ _ _ h => sqT_tst ha h.1.tst0) (fun i x σ' H1 H2 hi hp hy => ?_) fun σ' H1 hp => ?_⟩
    · obtain ⟨k1, x1, x2, rfl⟩ := hp
      obtain ⟨U, c, y, rfl, hU, rfl, hc, hy⟩ := hy
      obtain rfl : V.int (i : Nat) = c := Option.some.inj hc
      obtain ⟨ev, hev1, p, rfl, hp⟩ := paired_get' hits hy
      obtain ⟨he1, he2⟩ := hev ev (List.mem_of_getElem? hev1)
      refine ⟨U, _, rfl, SqT.of upd_same, rfl, _, _, rfl, _, _, rfl, rfl, ?_⟩
      have k2 : Kp [] H (upd H1 U (.tup [V.int (i : Nat), .ref p])) := k1.newT hU
      refine ⟨_, rfl, p, _, _, rfl, sqT_tst hp k2.tst0, hkn _ (getD_mem he1), he2, fun H3 k3 => ⟨true, rfl, iteF ?_⟩⟩
      have k4 := k2.trans k3
      refine ⟨_, rfl, rfl, true, rfl, iteT ?_⟩
      refine ⟨_, rfl, _, _, _, _, rfl, rfl, sqT_tst hp k4.tst0, atI_nat (j := 0) rfl, _, rfl, b, _, rfl, .inr (sqT_tst hb k4.tst0), rfl, flat_strs _, false, ?_, iteF ?_⟩
      · rw [inV_str (getD_mem he1)]
        rfl
      · exact ⟨k4, _, _, rfl⟩
    · exact q _ hp.1
theorem c_checkLog (T : Tx K mg) : Cal P w K mg base 5 "check_log" (spFirstWrong K) := by
  refine calOf T.checkLog scCheckLog (fun vs H Q E h => ?_) (fun f cdv A outer s H vs Q E hr h => ?_)
  · obtain ⟨_, _, _, _, rfl, _⟩ := h
    rfl
  · obtain ⟨kinds, log, v, vk, rfl, h1, h2, h3, h4, q⟩ := h
    refine ⟨_, pss_one (ps_ifW (ptw_cmp op_notN (pew_named (i := 2) scCheckLog.nd rfl (Or.inl rfl) (pew_of (pe_c (c_firstWrong T) hr (pa_cons (pv 0) (pa_cons (pv 1) pa_nil))))) pe_non (nomark _)) pss_never pss_nil), ?_⟩
    exact ⟨_, rfl, _, rfl, kinds, log, v, vk, rfl, h1, h2, h3, h4, fun H1 k1 => ⟨rfl, false, rfl, iteF (q _ k1)⟩⟩
def spCheckAmount : Sp := fun vs H Q _ => ∃ i : Int, vs = [.int i] ∧ AmtOk i ∧ Q .non H
theorem c_checkAmount (T : Tx K mg) : Cal P w K mg base 3 "check_amount" spCheckAmount := by
  refine calOf T.checkAmount scCheckAmount (fun vs H Q E h => ?_) (fun f cdv A outer s H vs Q E hr h => ?_)
  · obtain ⟨i, rfl, _⟩ := h
    rfl
  · obtain ⟨i, rfl, a, q⟩ := h
    refine ⟨_, pss_one (ps_if (pt_not (pt_val (pe_c (c_isAmount T) hr (pa_cons (pv 0) pa_nil)))) pss_never pss_nil), ?_⟩
    exact ⟨_, rfl, i, rfl, a, true, rfl, iteF q⟩
end
end TP
set_option Elab.async false
set_option linter.all false
set_option maxRecDepth 100000
set_option maxHeartbeats 4000000
/-! terms, the checks of a statistic -/
namespace TP
open PySem PySem.Spec PyProof.Rows L2
def srcS (t : Tm) : Str := match tmSrc t with
  | none => "0"
  | some k => regT.getD k Str.empty
def termsL (n : Nat) : List Str := tmT.take (2 * n + 1) ++ [("x" : Str)]
theorem reg_get : ∀ i : _root_.Fin 6, regT[i.val]? = some (regS i) := by decide +kernel
theorem reg_plus : ∀ i : _root_.Fin 6, tmT.take (2 * i.val + 1) ++ [regS i, regS i ++ "+x"] = tmT.take (2 * (i.val + 1) + 1) := by decide +kernel
theorem reg_short : ∀ i : _root_.Fin 6, (regS i).length ≤ 2 := by decide +kernel
theorem cut_regs : ∀ n : _root_.Fin 7, cutV (regT.map V.str) none (some (n.val : Int)) = (regT.take n.val).map V.str := by decide +kernel
theorem sl_regs : ∀ n : _root_.Fin 7, (HT.sIx (regT.map V.str).length 0 none = 0 ∧ HT.sIx (regT.map V.str).length (regT.map V.str).length (some (n.val : Int)) = (regT.map V.str).length) → n.val = 6 := by decide +kernel
theorem src_cut : ∀ t : Tm, t.val ≠ 0 → t.val ≠ 13 → cutS (tmS t) none (some 2) = srcS t := by decide +kernel
theorem src_taken : ∀ t : Tm, t.val ≠ 0 → t.val ≠ 13 → decide (2 < (tmS t).length) = tmTk t := by decide +kernel
theorem src_in : ∀ t : Tm, inV (.str (tmS t)) [V.str "0", V.str "x"] = decide (t.val = 0 ∨ t.val = 13) := by decide +kernel
theorem src_end : ∀ t : Tm, t.val = 0 ∨ t.val = 13 → srcS t = "0" ∧ decide (tmS t = "x") = tmTk t := by decide +kernel
theorem tm_short : ∀ t : Tm, (tmS t).length ≤ 4 := by decide +kernel
theorem src_short : ∀ t : Tm, (srcS t).length ≤ 2 := by decide +kernel
theorem from_zero : ∀ t : Tm, srcS t = "0" → (if tmTk t then ("x" : Str) else "0") = tmS t := by decide +kernel
theorem from_reg : ∀ t : Tm, srcS t ≠ "0" → (if tmTk t then srcS t ++ "+x" else srcS t) = tmS t := by decide +kernel
/-- the registers' names, a cut of them -/
theorem regs_cut {K : PySem.W.Frag} {r : Addr} {n : Nat} {H : Hp} {Q : VK} (hr : SqT K H r (regT.map V.str)) (hn : n ≤ 6) (q : ∀ a H', Kp [] H H' → SqT K H' a ((regT.take n).map V.str) → Q (.ref a) H') : rSlA K (.ref r) none (some (n : Int)) H Q := by
  have hc := cut_regs ⟨n, by omega⟩
  have hs := sl_regs ⟨n, by omega⟩
  refine ⟨r, _, rfl, hr, fun z => ?_, fun _ p hp => ?_⟩
  · have e : n = 6 := hs z
    subst e
    exact q r H .refl hr
  · refine q p _ (.new hp) (SqT.of ?_)
    rw [upd_same]
    exact congrArg (fun l => some (HO.tup l)) hc
def rSlReg (K : PySem.W.Frag) (r : Addr) : V → Option Int → Option Int → Hp → VK → Prop := fun x lo hi H Q => ∃ n : Nat, x = .ref r ∧ lo = none ∧ hi = some (n : Int) ∧ n ≤ 6 ∧ ∀ a H', Kp [] H H' → SqT K H' a ((regT.take n).map V.str) → Q (.ref a) H'
theorem sl_reg {X : Cx} {r : Addr} (hr : ∀ H, SqT X.K H r (regT.map V.str)) : SlR X (rSlReg X.K r) := by
  intro pins s σ H x v vl vu lo hi sl Q I rx hs pl pu h
  obtain ⟨n, rfl, rfl, rfl, hn, q⟩ := h
  exact sl_tupA pins s σ H _ v vl vu _ _ sl Q I rx hs pl pu (regs_cut (hr H) hn q)
theorem PE.imp {X : Cx} {e : Expr} {t t' : TE} (h : PE X e t) (i : ∀ σ H Q, t' σ H Q → t σ H Q) : PE X e t' := ⟨fun pins s σ H Q I q => h.run pins s σ H Q I (i σ H Q q)⟩
def spTermsOf : Sp := fun vs H Q _ => ∃ n : Nat, vs = [.int (n : Int)] ∧ n ≤ 6 ∧ ∀ p H', Kp [] H H' → H' p = some (.lst ((termsL n).map V.str)) → Q (.ref p) H'
def spSourceOf (K : PySem.W.Frag) : Sp := fun vs H Q _ => ∃ t : Tm, vs = [.str (tmS t)] ∧ ∀ p H', Kp [] H H' → H p = none → H' p = some (.tup [.str (srcS t), .bl (tmTk t)]) → Q (.ref p) H'
def spTermFrom : Sp := fun vs H Q _ => ∃ t : Tm, vs = [.str (srcS t), .bl (tmTk t)] ∧ Q (.str (tmS t)) H
section
variable {P : Program} {w : World} {K : PySem.W.Frag} {mg : Str → Option Value} {base : Heap}
theorem c_termsOf (T : Tx K mg) : Cal P w K mg base 1 "terms_of" spTermsOf := by
  refine calOf T.termsOf scTermsOf (fun vs H Q E h => ?_) (fun f cdv A outer s H vs Q E hr h => ?_)
  · obtain ⟨_, rfl, _⟩ := h
    rfl
  · obtain ⟨n, rfl, hn, q⟩ := h
    obtain ⟨r, hr1, hr2⟩ := T.regs
    refine ⟨_, pss_cons (ps_set (i := 1) scTermsOf.nd rfl (Or.inl rfl) (pe_lst (pa_cons pe_str pa_nil)))
      (pss_cons (ps_for PassesOwn.never rfl (pi_tup (pe_slice (sl_reg hr2) (pe_gv (v := .ref r) ⟨_, hr1, rfl⟩) po_none (po_some (pv 0)))) (pg_name (i := 2) scTermsOf.nd rfl (Or.inl rfl))
        (pss_one (ps_expr (pe_bm PySem.F.plainAttrs_list PySem.F.slot_list_extend PySem.F.type_list_extend mt_extend (pv 1) (pa_cons (pe_lst (pa_cons (pv 2) (pa_cons (pe_op op_add_str (pv 2) pe_str) pa_nil))) pa_nil)))))
      (pss_one (ps_ret (pe_lst (StX.pa_star (pv 1) (pa_cons pe_str pa_nil)))))), ?_⟩
    refine ⟨by decide, fun l hl => ?_⟩
    refine ⟨_, rfl, _, rfl, n, rfl, rfl, rfl, hn, fun a H1 k1 ha => ?_⟩
    have hl1 : H1 l = some (.lst ((tmT.take 1).map V.str)) := k1 _ _ (by simp) upd_same
    refine ⟨a, rfl, ⟨_, ha⟩, for_tup (fun i σ' H' => Kp [] H H' ∧ SqT K H' a ((regT.take n).map V.str) ∧ H' l = some (.lst ((tmT.take (2 * i + 1)).map V.str)) ∧ ∃ x, σ' = [some (.int n), some (.ref l), x]) ⟨(Kp.new hl).trans k1, ha, hl1, none, rfl⟩ (fun i σ' H' _ h => h.2.1) (fun i x σ' H2 hx hp => ?_) fun σ' H2 hp => ?_⟩
    · obtain ⟨k2, ha2, hl2, x0, rfl⟩ := hp
      rw [List.getElem?_map] at hx
      obtain ⟨z, hz, rfl⟩ := Option.map_eq_some_iff.mp hx
      have hi : i < n := by
        have h1 := (List.getElem?_eq_some_iff.mp hz).1
        rw [List.length_take] at h1
        omega
      rw [List.getElem?_take_of_lt hi] at hz
      have e1 := reg_get ⟨i, by omega⟩
      have e2 : z = regS ⟨i, by omega⟩ := Option.some.inj (hz.symm.trans e1)
      subst e2
      have hs := reg_short ⟨i, by omega⟩
      refine ⟨_, rfl, .inl ⟨rfl, _, SqL.of hl2⟩, ?_⟩
      refine ⟨_, rfl, _, rfl, _, _, rfl, rfl, ?_, ?_⟩
      · show _ + 2 ≤ _
        have h3 := small1000 (Nat.le_refl 1000)
        omega
      refine ⟨sz 2, fun p hp => ?_⟩
      have np : l ≠ p := ne_of_none hl2 hp
      refine ⟨l, p, _, _, rfl, rfl, by rw [upd_ne np]; exact hl2, upd_same, ?_, ?_⟩
      · have h3 := small1000 (Nat.le_refl 1000)
        rw [List.length_map, List.length_take]
        show _ + 2 ≤ _
        have : tmT.length = 14 := rfl
        omega
      · refine ⟨(k2.newT hp).putN hl, sqT_tst ha2 ((Kp.new (M := []) hp).tst0.trans (.put (by rw [upd_ne np]; exact hl2))), ?_, _, rfl⟩
        rw [upd_same, ← reg_plus ⟨i, by omega⟩, List.map_append]
        rfl
    · obtain ⟨k2, ha2, hl2, x0, rfl⟩ := hp
      have hlen : ((regT.take n).map V.str).length = n := by
        rw [List.length_map, List.length_take]
        exact Nat.min_eq_left hn
      rw [hlen] at hl2
      refine ⟨_, rfl, l, _, rfl, .inr (SqL.of hl2), ?_, fun p hp => ?_⟩
      · rw [List.length_append, List.length_map, List.length_take]
        have h3 := small1000 (Nat.le_refl 1000)
        have : tmT.length = 14 := rfl
        show _ + 1 ≤ _
        omega
      · refine q p _ (k2.newT hp) ?_
        rw [upd_same]
        unfold termsL
        rw [List.map_append]
        rfl
theorem c_sourceOf (T : Tx K mg) : Cal P w K mg base 1 "source_of" (spSourceOf K) := by
  refine calOf T.sourceOf scSourceOf (fun vs H Q E h => ?_) (fun f cdv A outer s H vs Q E hr h => ?_)
  · obtain ⟨_, rfl, _⟩ := h
    rfl
  · obtain ⟨t, rfl, q⟩ := h
    have h3 := small1000 (Nat.le_refl 1000)
    refine ⟨_, pss_cons (ps_if (pt_cmpR op_in_seq (pv 0) (pe_tup (pa_cons pe_str (pa_cons pe_str pa_nil))) rfl) (pss_one (ps_ret (pe_tup (pa_cons pe_str (pa_cons (pe_cmpR op_eq (pv 0) pe_str (nomark _)) pa_nil))))) pss_nil)
      (pss_one (ps_ret (pe_tup (pa_cons (pe_slice sl_str (pv 0) po_none (po_some pe_int)) (pa_cons (pe_cmpR op_gt (pe_callB call_len_str rfl T.f (by decide +kernel) (pa_cons (pv 0) pa_nil)) pe_int (nomark _)) pa_nil))))), ?_⟩
    refine ⟨_, rfl, by decide, fun p hp => ?_⟩
    refine ⟨p, _, rfl, .inr (SqT.of upd_same), rfl, rfl, _, congrArg V.bl (src_in t), ?_⟩
    refine ite2 (fun z => ?_) fun z => ?_
    · have z := of_decide_eq_true z
      obtain ⟨e1, e2⟩ := src_end t z
      refine ⟨_, rfl, rfl, by show 2 ≤ sizeLine; omega, fun p2 hp2 => q p2 _ ((Kp.new hp).newT hp2) ((Kp.new (M := []) hp).fre hp2) ?_⟩
      rw [upd_same, e1, ← e2]
      simp
    · have z : ¬ (t.val = 0 ∨ t.val = 13) := fun y => z (decide_eq_true y)
      have z1 : t.val ≠ 0 := fun y => z (.inl y)
      have z2 : t.val ≠ 13 := fun y => z (.inr y)
      have hs := tm_short t
      refine ⟨_, rfl, _, rfl, _, rfl, by omega, ?_⟩
      refine ⟨_, rfl, _, rfl, by omega, _, _, rfl, rfl, by show 2 ≤ sizeLine; omega, fun p2 hp2 => q p2 _ ((Kp.new hp).newT hp2) ((Kp.new (M := []) hp).fre hp2) ?_⟩
      rw [upd_same, src_cut t z1 z2, ← src_taken t z1 z2]
      simp
      omega
theorem c_termFrom (T : Tx K mg) : Cal P w K mg base 1 "term_from" spTermFrom := by
  refine calOf T.termFrom scTermFrom (fun vs H Q E h => ?_) (fun f cdv A outer s H vs Q E hr h => ?_)
  · obtain ⟨_, rfl, _⟩ := h
    rfl
  · obtain ⟨t, rfl, q⟩ := h
    have h3 := small1000 (Nat.le_refl 1000)
    refine ⟨_, pss_cons (ps_if (pt_cmpR op_eq (pv 0) pe_str (nomark _)) (pss_one (ps_ret (pe_ifExp (pt_val (pv 1)) pe_str pe_str))) pss_nil)
      (pss_one (ps_ret (pe_ifExp (pt_val (pv 1)) (pe_op op_add_str (pv 0) pe_str) (pv 0)))), ?_⟩
    refine ⟨_, rfl, rfl, _, rfl, ?_⟩
    by_cases z : srcS t = "0"
    · have e : decide (V.str (srcS t) = V.str "0") = true := by rw [z]; exact decide_eq_true rfl
      rw [e]
      refine iteT ⟨_, rfl, _, rfl, ?_⟩
      have e1 := from_zero t z
      cases ht : tmTk t with
      | true =>
        rw [ht] at e1
        refine iteT ?_
        rw [← e1] at q
        exact q
      | false =>
        rw [ht] at e1
        refine iteF ?_
        rw [← e1] at q
        exact q
    · have e : decide (V.str (srcS t) = V.str "0") = false := decide_eq_false fun y => z (V.str.inj y)
      rw [e]
      refine iteF ⟨_, rfl, _, rfl, ?_⟩
      have e1 := from_reg t z
      have hs := src_short t
      cases ht : tmTk t with
      | true =>
        rw [ht] at e1
        refine iteT ⟨_, rfl, _, _, rfl, rfl, ?_, ?_⟩
        · show _ + 2 ≤ _
          omega
        rw [← e1] at q
        exact q
      | false =>
        rw [ht] at e1
        refine iteF ⟨_, rfl, ?_⟩
        rw [← e1] at q
        exact q
end
end TP
set_option Elab.async false
set_option linter.all false
set_option maxRecDepth 100000
set_option maxHeartbeats 4000000
/-! the checks of a statistic -/
namespace TP
open PySem PySem.Spec PyProof.Rows L2
/-- texts in strict order -/
def Asc (xs : List Str) : Prop := ∀ i a b, xs[i]? = some a → xs[i + 1]? = some b → a.cps.toList < b.cps.toList
def spFirstFall (K : PySem.W.Frag) : Sp := fun vs H Q _ => ∃ (a b : Addr) (xs ks : List Str), vs = [.ref a, .ref b] ∧ SqT K H a (xs.map V.str) ∧ (SqL K H b (ks.map V.str) ∨ SqT K H b (ks.map V.str)) ∧ xs.length ≤ 1000 ∧ (∀ x ∈ xs, x ∈ ks) ∧ Asc xs ∧ ∀ H', Kp [] H H' → Q .non H'
section
variable {P : Program} {w : World} {K : PySem.W.Frag} {mg : Str → Option Value} {base : Heap}
theorem seq_kp {H H' : Hp} {b : Addr} {xs : List V} (h : SqL K H b xs ∨ SqT K H b xs) (k : Kp [] H H') : SqL K H' b xs ∨ SqT K H' b xs := by
  rcases h with h | h
  · exact .inl (k.same.seq h)
  · exact .inr (sqT_tst h k.tst0)
theorem c_firstFall (T : Tx K mg) : Cal P w K mg base 1 "first_fall" (spFirstFall K) := by
  refine calOf T.firstFall scFirstFall (fun vs H Q E h => ?_) (fun f cdv A outer s H vs Q E hr h => ?_)
  · obtain ⟨_, _, _, _, rfl, _⟩ := h
    rfl
  · obtain ⟨a, b, xs, ks, rfl, ha, hb, hlen, hin, hasc, q⟩ := h
    refine ⟨_, pss_cons (ps_for PassesOwn.never rfl (pi_enT rfl T.f (pa_cons (pv 0) pa_nil)) (pg_tup rfl (pgs_cons (pg_name (i := 2) scFirstFall.nd rfl (Or.inl rfl)) (pgs_cons (pg_name (i := 3) scFirstFall.nd rfl (Or.inl rfl)) pgs_nil)))
        (pss_one (ps_if (PW.pt (pw_or (pt_not (pt_val (pe_isi (T := "str") T.f (pv 3) T.f))) (pw_or (pt_cmpR op_notIn_seq (pv 3) (pv 1) rfl) (pw_or1 (PW.pt (pw_and (pt_cmpR op_gt (pv 2) pe_int (nomark _))
          (pw_and1 (pt_cmpR op_le_str (pv 3) (pe_ix ix_tup (pv 0) (pe_op op_sub (pv 2) pe_int) (fun _ _ => rfl)) (nomark _))))))))) pss_never pss_nil)))
      (pss_one (ps_ret pe_non)), ?_⟩
    refine ⟨_, rfl, a, _, rfl, ha, for_it walk_enT (fun _ σ' H' => Kp [] H H' ∧ ∃ x y, σ' = [some (.ref a), some (.ref b), x, y]) ⟨.refl, none, none, rfl⟩ (fun _ _ _ _ h => sqT_tst ha h.1.tst0) (fun i x σ' H1 H2 hi hp hy => ?_) fun σ' H1 hp => ?_⟩
    · obtain ⟨k1, x1, x2, rfl⟩ := hp
      obtain ⟨U, c, y, rfl, hU, rfl, hc, hy⟩ := hy
      obtain rfl : V.int (i : Nat) = c := Option.some.inj hc
      replace hy : (xs.map V.str)[i]? = some y := hy
      rw [List.getElem?_map] at hy
      obtain ⟨z, hz, rfl⟩ := Option.map_eq_some_iff.mp hy
      refine ⟨U, _, rfl, SqT.of upd_same, rfl, _, _, rfl, _, _, rfl, rfl, ?_⟩
      have k2 : Kp [] H (upd H1 U (.tup [V.int (i : Nat), .str z])) := k1.newT hU
      refine ⟨_, rfl, _, _, _, _, true, rfl, .ty _, .base (.str z), kit_ty (by decide +kernel), true, rfl, iteF ?_⟩
      refine ⟨_, rfl, _, rfl, b, _, rfl, seq_kp hb k2, rfl, flat_strs _, false, ?_, iteF ?_⟩
      · rw [inV_str (hin z (List.mem_of_getElem? hz))]
        rfl
      refine ⟨_, rfl, _, _, rfl, rfl, decide (0 < (i : Int)), rfl, ?_⟩
      by_cases h0 : 0 < (i : Int)
      · rw [decide_eq_true h0]
        obtain ⟨j, rfl⟩ : ∃ j, i = j + 1 := ⟨i - 1, by omega⟩
        have hj : j < xs.length := by
          rw [List.length_map] at hi
          omega
        have hzj : xs[j]? = some xs[j] := List.getElem?_eq_getElem hj
        refine iteT ⟨_, rfl, _, rfl, _, rfl, _, _, rfl, rfl, a, _, _, .str xs[j], rfl, rfl, sqT_tst ha k2.tst0, ?_, _, _, rfl, rfl, false, ?_, iteF ⟨k2, _, _, rfl⟩⟩
        · have e : (((j + 1 : Nat) : Int) - 1) = (j : Int) := by omega
          rw [e]
          exact atI_nat (by rw [List.getElem?_map, hzj]; rfl)
        · have hlt := hasc j _ _ hzj hz
          rw [decide_eq_true hlt]
          rfl
      · rw [decide_eq_false h0]
        exact iteF (iteF ⟨k2, _, _, rfl⟩)
    · exact q _ hp.1
end
/-! ### what stands in a statistic -/
def TermsOk (n : Nat) (ts : List Tm) : Prop := ts.Pairwise (fun a b => a.val < b.val) ∧ ∀ t ∈ ts, t.val = 13 ∨ t.val ≤ 2 * n
def RuleOk (n : Nat) (r : Rule) : Prop := r.length = n ∧ ∀ ts ∈ r, TermsOk n ts
def BegOk (row : Row) : Prop := (1 ≤ row.length ∧ row.length ≤ 6) ∧ ∀ o ∈ row, o = none ∨ o = some 0
def KindsOk (kinds : List Str) : Prop := 1 ≤ kinds.length ∧ KsOk kinds ∧ Asc kinds
def RulesOk (m n : Nat) (rules : List Rule) : Prop := rules.length = m ∧ ∀ r ∈ rules, RuleOk n r
def EndsOk (n : Nat) (ends : List (_root_.Fin 6)) : Prop := ends ≠ [] ∧ ends.Pairwise (fun a b => a.val < b.val) ∧ ∀ k ∈ ends, k.val < n
structure Sta.Ok (st : Sta) : Prop where
  kinds : KindsOk st.kinds
  start : BegOk st.row
  rules : RulesOk st.kinds.length st.start.length st.rules
  ends : EndsOk st.start.length st.ends
theorem pair_adj {α : Type} {R : α → α → Prop} {l : List α} {i : Nat} {a b : α} (h : l.Pairwise R) (ha : l[i]? = some a) (hb : l[i + 1]? = some b) : R a b := by
  obtain ⟨h1, rfl⟩ := List.getElem?_eq_some_iff.mp ha
  obtain ⟨h2, rfl⟩ := List.getElem?_eq_some_iff.mp hb
  exact List.pairwise_iff_getElem.mp h i (i + 1) h1 h2 (Nat.lt_succ_self _)
theorem tm_lt : ∀ a b : Tm, a.val < b.val → (tmS a).cps.toList < (tmS b).cps.toList := by decide +kernel
theorem reg_lt : ∀ a b : _root_.Fin 6, a.val < b.val → (regS a).cps.toList < (regS b).cps.toList := by decide +kernel
theorem asc_map {α : Type} {f : α → Str} {l : List α} {R : α → α → Prop} (hf : ∀ a b, R a b → (f a).cps.toList < (f b).cps.toList) (h : l.Pairwise R) : Asc (l.map f) := by
  intro i a b ha hb
  rw [List.getElem?_map] at ha hb
  obtain ⟨x, hx, rfl⟩ := Option.map_eq_some_iff.mp ha
  obtain ⟨y, hy, rfl⟩ := Option.map_eq_some_iff.mp hb
  exact hf _ _ (pair_adj h hx hy)
theorem len_asc0 {m : Nat} : ∀ (l : List Nat) (k : Nat), l.Pairwise (· < ·) → (∀ x ∈ l, k ≤ x ∧ x < m) → l.length ≤ m - k
  | [], _, _, _ => Nat.zero_le _
  | x :: l, k, h, hm => by
    obtain ⟨h1, h2⟩ := List.pairwise_cons.mp h
    obtain ⟨a, b⟩ := hm x List.mem_cons_self
    have := len_asc0 l (x + 1) h2 fun y hy => ⟨h1 y hy, (hm y (List.mem_cons_of_mem _ hy)).2⟩
    rw [List.length_cons]
    omega
theorem len_asc {l : List Nat} {m : Nat} (h : l.Pairwise (· < ·)) (hm : ∀ x ∈ l, x < m) : l.length ≤ m := len_asc0 l 0 h fun x hx => ⟨Nat.zero_le _, hm x hx⟩
theorem tms_len {ts : List Tm} (h : ts.Pairwise (fun a b => a.val < b.val)) : ts.length ≤ 14 := by
  have h2 : (ts.map (·.val)).Pairwise (· < ·) := List.pairwise_map.mpr h
  have := len_asc h2 fun x hx => by
    obtain ⟨t, _, rfl⟩ := List.mem_map.mp hx
    exact t.isLt
  rwa [List.length_map] at this
theorem ends_len {ts : List (_root_.Fin 6)} (h : ts.Pairwise (fun a b => a.val < b.val)) : ts.length ≤ 6 := by
  have h2 : (ts.map (·.val)).Pairwise (· < ·) := List.pairwise_map.mpr h
  have := len_asc h2 fun x hx => by
    obtain ⟨t, _, rfl⟩ := List.mem_map.mp hx
    exact t.isLt
  rwa [List.length_map] at this
theorem tm_known : ∀ (n : _root_.Fin 7) (t : Tm), t.val = 13 ∨ t.val ≤ 2 * n.val → tmS t ∈ termsL n.val := by decide +kernel
theorem reg_known : ∀ (n : _root_.Fin 7) (k : _root_.Fin 6), k.val < n.val → regS k ∈ regT.take n.val := by decide +kernel
theorem terms_eq {K : PySem.W.Frag} {H : Hp} {ts : List Tm} {v : V} (h : RTerms K H ts v) : ∃ a, v = .ref a ∧ SqT K H a ((ts.map tmS).map V.str) := by
  obtain ⟨a, vs, rfl, q, r⟩ := h
  rw [paired_eq (fun t => V.str (tmS t)) (fun _ _ e => e) r] at q
  exact ⟨a, rfl, by rw [List.map_map]; exact q⟩
theorem ends_eq {K : PySem.W.Frag} {H : Hp} {ts : List (_root_.Fin 6)} {v : V} (h : REnds K H ts v) : ∃ a, v = .ref a ∧ SqT K H a ((ts.map regS).map V.str) := by
  obtain ⟨a, vs, rfl, q, r⟩ := h
  rw [paired_eq (fun t => V.str (regS t)) (fun _ _ e => e) r] at q
  exact ⟨a, rfl, by rw [List.map_map]; exact q⟩
theorem row_eq {K : PySem.W.Frag} {H : Hp} {row : Row} {v : V} (h : RRow K H row v) : ∃ a, v = .ref a ∧ SqT K H a (row.map optV) := by
  obtain ⟨a, vs, rfl, q, r⟩ := h
  rw [paired_eq optV (fun _ _ e => e) r] at q
  exact ⟨a, rfl, q⟩
def spCheckKinds (K : PySem.W.Frag) : Sp := fun vs H Q _ => ∃ kinds v, vs = [v] ∧ RKinds K H kinds v ∧ KindsOk kinds ∧ ∀ H', Kp [] H H' → Q .non H'
def spCheckStart (K : PySem.W.Frag) : Sp := fun vs H Q _ => ∃ row v, vs = [v] ∧ RRow K H row v ∧ BegOk row ∧ ∀ H', Kp [] H H' → Q .non H'
def spIsRule (K : PySem.W.Frag) : Sp := fun vs H Q _ => ∃ (n : Nat) (r : Rule) (v : V), vs = [v, .int n] ∧ RRule K H r v ∧ RuleOk n r ∧ n ≤ 6 ∧ ∀ H', Kp [] H H' → Q (.bl true) H'
def spCheckRules (K : PySem.W.Frag) : Sp := fun vs H Q _ => ∃ (n : Nat) (rules : List Rule) (kinds : List Str) (v vk : V), vs = [v, vk, .int n] ∧ RRules K H rules v ∧ RKinds K H kinds vk ∧ RulesOk kinds.length n rules ∧ n ≤ 6 ∧ kinds.length ≤ 4 ∧ ∀ H', Kp [] H H' → Q .non H'
def spCheckResult (K : PySem.W.Frag) : Sp := fun vs H Q _ => ∃ (n : Nat) (ends : List (_root_.Fin 6)) (v : V), vs = [v, .int n] ∧ REnds K H ends v ∧ EndsOk n ends ∧ n ≤ 6 ∧ ∀ H', Kp [] H H' → Q .non H'
section
variable {P : Program} {w : World} {K : PySem.W.Frag} {mg : Str → Option Value} {base : Heap}
theorem c_checkKinds (T : Tx K mg) : Cal P w K mg base 2 "check_kinds" (spCheckKinds K) := by
  refine calOf T.checkKinds scCheckKinds (fun vs H Q E h => ?_) (fun f cdv A outer s H vs Q E hr h => ?_)
  · obtain ⟨_, _, rfl, _⟩ := h
    rfl
  · obtain ⟨kinds, v, rfl, hk, ⟨h1, ⟨h4, hn⟩, hasc⟩, q⟩ := h
    obtain ⟨a, rfl, ha⟩ := kinds_eq hk
    refine ⟨_, pss_cons (ps_if (PW.pt (pw_or (pt_not (pt_val (pe_isi (T := "tuple") T.f (pv 0) T.f))) (pw_or1 (pt_not (pt_chain op_le op_le pe_int (pe_callB call_len_seq rfl T.f (by decide +kernel) (pa_cons (pv 0) pa_nil)) (pe_gv T.cKinds)))))) pss_never pss_nil)
      (pss_cons (ps_set (i := 1) scCheckKinds.nd rfl (Or.inl rfl) (pe_c (c_firstFall T) hr (pa_cons (pv 0) (pa_cons (pe_lc (own := [("kind", 2)]) (g := gName 2) rfl scCheckKinds.nd (pi_tup (pv 0)) (blkOk_by (N := nCheckKinds) (sc := defScope sCheckKinds) (by decide +kernel))
        (fun _ _ _ _ _ => pg_name (i := 2) scCheckKinds.nd rfl (Or.inl rfl)) (fun _ _ _ _ _ => pts_one (pt_val (pe_c (c_isKind T) hr (pa_cons (pv 2) pa_nil)))) (fun _ _ _ _ _ => pv 2)) pa_nil))))
      (pss_one (ps_if (pt_cmpR op_notN (pv 1) pe_non (nomark _)) pss_never pss_nil))), ?_⟩
    have hl : (kinds.map V.str).length = kinds.length := List.length_map ..
    refine ⟨_, rfl, _, _, _, _, true, rfl, .ty _, tyT ha, kit_ty (by decide +kernel), true, rfl, iteF ?_⟩
    refine ⟨_, rfl, _, _, rfl, .inr ha, _, _, rfl, rfl, true, congrArg V.bl (decide_eq_true (by omega)), iteT ?_⟩
    refine ⟨_, _, rfl, rfl, true, congrArg V.bl (decide_eq_true (by omega)), iteF ?_⟩
    refine ⟨_, rfl, _, rfl, a, rfl, ⟨_, ha⟩, fun D hD => lc_it walk_tup (LS D [] H fun i acc _ => acc = (kinds.take i).map V.str) (LS.start hD (fun _ _ _ _ _ h => h) rfl) (fun i H1 _ ⟨acc, _, _, k, _⟩ => sqT_tst ha k.tst0) (fun i x H1 H2 hi hp hy => ?_) fun H1 hp => ?_⟩
    · obtain ⟨acc, hA, hl, hk, hS⟩ := hp
      obtain ⟨rfl, hx⟩ := hy
      rw [List.getElem?_map] at hx
      obtain ⟨z, hz, rfl⟩ := Option.map_eq_some_iff.mp hx
      refine ⟨rfl, _, rfl, z, rfl, hn z (List.mem_of_getElem? hz), fun H3 k3 => ⟨true, rfl, iteT ?_⟩⟩
      exact ⟨_, rfl, LS.put hD (by simp) (fun _ _ _ _ _ h => h) (by omega) hl (k3 _ _ (by simp) hA) (hk.trans k3) (by rw [hS, take_succ_of hz, List.map_append]; rfl)⟩
    · obtain ⟨acc, hA, hl2, hk, rfl⟩ := hp
      rw [hl, List.take_length] at hA
      refine ⟨a, D, kinds, kinds, rfl, sqT_tst ha hk.tst0, .inl (SqL.of hA), by omega, fun _ h => h, hasc, fun H2 k2 => ?_⟩
      exact ⟨_, rfl, rfl, false, rfl, iteF (q _ (hk.trans k2))⟩
theorem c_checkStart (T : Tx K mg) : Cal P w K mg base 2 "check_start" (spCheckStart K) := by
  refine calOf T.checkStart scCheckStart (fun vs H Q E h => ?_) (fun f cdv A outer s H vs Q E hr h => ?_)
  · obtain ⟨_, _, rfl, _⟩ := h
    rfl
  · obtain ⟨row, v, rfl, hk, ⟨⟨h1, h4⟩, hn⟩, q⟩ := h
    obtain ⟨a, rfl, ha⟩ := row_eq hk
    refine ⟨_, pss_cons (ps_if (PW.pt (pw_or (pt_not (pt_val (pe_isi (T := "tuple") T.f (pv 0) T.f))) (pw_or1 (pt_not (pt_chain op_le op_le pe_int (pe_callB call_len_seq rfl T.f (by decide +kernel) (pa_cons (pv 0) pa_nil)) (pe_gv T.cRegs)))))) pss_never pss_nil)
      (pss_one (ps_for PassesOwn.never rfl (pi_enT rfl T.f (pa_cons (pv 0) pa_nil)) (pg_tup rfl (pgs_cons (pg_name (i := 1) scCheckStart.nd rfl (Or.inl rfl)) (pgs_cons (pg_name (i := 2) scCheckStart.nd rfl (Or.inl rfl)) pgs_nil)))
        (pss_one (ps_if (PW.pt (pw_and (pt_cmpR op_notN (pv 2) pe_non (nomark _)) (pw_and1 (PW.pt (pw_or (pt_not (pt_val (pe_c (c_isInteger T) hr (pa_cons (pv 2) pa_nil)))) (pw_or1 (pt_cmpR op_ne (pv 2) pe_int (nomark _)))))))) pss_never pss_nil)))), ?_⟩
    have hl : (row.map optV).length = row.length := List.length_map ..
    refine ⟨_, rfl, _, _, _, _, true, rfl, .ty _, tyT ha, kit_ty (by decide +kernel), true, rfl, iteF ?_⟩
    refine ⟨_, rfl, _, _, rfl, .inr ha, _, _, rfl, rfl, true, congrArg V.bl (decide_eq_true (by omega)), iteT ?_⟩
    refine ⟨_, _, rfl, rfl, true, congrArg V.bl (decide_eq_true (by omega)), iteF ?_⟩
    refine ⟨_, rfl, a, _, rfl, ha, for_it walk_enT (fun _ σ' H' => Kp [] H H' ∧ ∃ x y, σ' = [some (.ref a), x, y]) ⟨.refl, none, none, rfl⟩ (fun _ _ _ _ h => sqT_tst ha h.1.tst0) (fun i x σ' H1 H2 hi hp hy => ?_) fun σ' H1 hp => ?_⟩
    · obtain ⟨k1, x1, x2, rfl⟩ := hp
      obtain ⟨U, c, y, rfl, hU, rfl, hc, hy⟩ := hy
      obtain rfl : V.int (i : Nat) = c := Option.some.inj hc
      replace hy : (row.map optV)[i]? = some y := hy
      rw [List.getElem?_map] at hy
      obtain ⟨z, hz, rfl⟩ := Option.map_eq_some_iff.mp hy
      refine ⟨U, _, rfl, SqT.of upd_same, rfl, _, _, rfl, _, _, rfl, rfl, ?_⟩
      have k2 : Kp [] H (upd H1 U (.tup [V.int (i : Nat), optV z])) := k1.newT hU
      rcases hn z (List.mem_of_getElem? hz) with rfl | rfl
      · exact ⟨_, rfl, rfl, false, rfl, iteF (iteF ⟨k2, _, _, rfl⟩)⟩
      · refine ⟨_, rfl, rfl, true, rfl, iteT ?_⟩
        refine ⟨_, rfl, 0, rfl, true, rfl, iteF ?_⟩
        exact ⟨_, rfl, rfl, false, rfl, iteF ⟨k2, _, _, rfl⟩⟩
    · exact q _ hp.1
end
end TP
set_option Elab.async false
set_option linter.all false
set_option maxRecDepth 100000
set_option maxHeartbeats 4000000
/-! the checks of a statistic: rules, result -/
namespace TP
open PySem PySem.Spec PyProof.Rows L2
theorem shaped_strs {l : List Str} (hl : ∀ z ∈ l, PyData.strOk z = true) : SeqAt.shaped (.tuple (l.map PyData.str)) = true := by
  have h : ∀ l : List Str, (∀ z ∈ l, PyData.strOk z = true) → PyData.canLayAll0 (l.map PyData.str) = true ∧ PyData.depthAll (l.map PyData.str) ≤ 1 := by
    intro l
    induction l with
    | nil => exact fun _ => ⟨rfl, by decide⟩
    | cons n l ih =>
      intro hl
      have ih := ih fun z hz => hl z (List.mem_cons_of_mem _ hz)
      refine ⟨?_, ?_⟩
      · rw [List.map_cons, PyData.canLayAll0, ih.1, PyData.canLay0, hl n List.mem_cons_self]; rfl
      · rw [List.map_cons, PyData.depthAll, PyData.depth]
        exact Nat.max_le.mpr ⟨by decide, ih.2⟩
  unfold SeqAt.shaped
  rw [PyData.canLay0, (h l hl).1, PyData.depth]
  have := (h l hl).2
  simp
  omega
theorem regs_ok : ∀ k : _root_.Fin 6, PyData.strOk (regS k) = true := by decide +kernel
theorem dp_strs {K : PySem.W.Frag} {H : Hp} : ∀ l : List Str, DpAll K H (l.map V.str) (l.map PyData.str)
  | [] => .nil
  | z :: l => .cons (.str z) (dp_strs l)
theorem eqv_tnil (l : List Str) : PyData.eqv (.tuple (l.map PyData.str)) (.tuple []) = l.isEmpty := by cases l <;> rfl
/-- the same with the written part named (within a comprehension) -/
theorem pe_isiK {X : Cx} {e : Expr} {te : TE} {T : String} {pos p : Pos} (K0 : PySem.W.Frag) (hK : X.K = K0) (hm : X.mg "isinstance" = none) (he : PE X e te) {x : Str} {px : Pos} (hx : X.mg x = none) (hv : bootBuiltins x = some (.type T) := by decide +kernel) (hg : Gl X "isinstance" := by rfl) (hgx : Gl X x := by rfl)
    (hn : x ≠ "__name__" := by decide) (hd : (x == ("__debug__" : Str)) = false := by decide) (hs : starEach [e, .Name x px] X.env = (false, eval e X.env) :: starEach [.Name x px] X.env := by rfl) :
    PE X (.Call (.Name "isinstance" p) [e, .Name x px] [] pos) (tCB (rIsi K0) (tCons te (tCons (tC (.ty T)) tNil))) := by
  subst hK
  exact pe_isi hm he hx hv hg hgx hn hd hs
theorem ix_tupK {X : Cx} (K0 : PySem.W.Frag) (hK : X.K = K0) : IxR X (rIxT K0) := by
  subst hK
  exact ix_tup
section
variable {P : Program} {w : World} {K : PySem.W.Frag} {mg : Str → Option Value} {base : Heap}
theorem c_isRule (T : Tx K mg) : Cal P w K mg base 2 "is_rule" (spIsRule K) := by
  refine calOf T.isRule scIsRule (fun vs H Q E h => ?_) (fun f cdv A outer s H vs Q E hr h => ?_)
  · obtain ⟨_, _, _, rfl, _⟩ := h
    rfl
  · obtain ⟨n, r, v, rfl, ⟨a, its, rfl, ha, hits⟩, ⟨hlen, hts⟩, hn, q⟩ := h
    have hl := Paired.length hits
    refine ⟨_, pss_cons (ps_if (PW.pt (pw_or (pt_not (pt_val (pe_isi (T := "tuple") T.f (pv 0) T.f))) (pw_or1 (pt_cmpR op_ne (pe_callB call_len_seq rfl T.f (by decide +kernel) (pa_cons (pv 0) pa_nil)) (pv 1) (nomark _))))) pss_never pss_nil)
      (pss_cons (ps_set (i := 2) scIsRule.nd rfl (by first | exact Or.inl rfl | exact Or.inr rfl) (pe_c (c_termsOf T) hr (pa_cons (pv 1) pa_nil)))
      (pss_one (ps_ret (pe_callB (cr_all rfl) rfl T.f (by decide +kernel) (pa_cons (pe_lc (own := [("terms", 3)]) (g := gName 3) (tt := tYes) rfl scIsRule.nd (pi_tup (pv 0)) (blkOk_by (N := nIsRule) (sc := defScope sIsRule) (by decide +kernel))
        (fun _ _ _ _ _ => pg_name (i := 3) scIsRule.nd rfl (Or.inl rfl)) (fun _ _ _ _ _ => pts_nil) (fun _ _ _ _ _ => pe_and (pe_isiK (T := "tuple") K rfl T.f (pv 3) T.f) (pe_one (pe_cmpR op_isN (pe_c (c_firstFall T) hr (pa_cons (pv 3) (pa_cons (pv 2) pa_nil))) pe_non (nomark _))))) pa_nil))))), ?_⟩
    refine ⟨_, rfl, _, _, _, _, true, rfl, .ty _, tyT ha, kit_ty (by decide +kernel), true, rfl, iteF ?_⟩
    refine ⟨_, rfl, _, _, rfl, .inr ha, _, rfl, rfl, false, ?_, iteF ?_⟩
    · rw [← hl, hlen]
      simp
    refine ⟨_, rfl, n, rfl, hn, fun p H1 k1 hp1 => ?_⟩
    refine ⟨_, rfl, a, rfl, ⟨_, sqT_tst ha k1.tst0⟩, fun D hD => lc_it (walk_tup (xs := its)) (LS D [] H1 fun i acc _ => acc = List.replicate i (.bl true)) (LS.start hD (fun _ _ _ _ _ h => h) rfl) (fun i H2 _ ⟨acc, _, _, k, _⟩ => sqT_tst ha (k1.trans k).tst0) (fun i x H2 H3 hi hp hy => ?_) fun H2 hp => ?_⟩
    · obtain ⟨acc, hA, hl2, hk, hS⟩ := hp
      obtain ⟨rfl, hx⟩ := hy
      obtain ⟨ts, hts1, hts2⟩ := paired_get' hits hx
      obtain ⟨b, rfl, hb⟩ := terms_eq hts2
      have hb3 := sqT_tst hb (k1.trans hk).tst0
      obtain ⟨o1, o2⟩ := hts ts (List.mem_of_getElem? hts1)
      refine ⟨rfl, tyes (iteT ?_)⟩
      refine ⟨_, rfl, _, _, _, _, true, rfl, .ty _, tyT hb3, kit_ty (by decide +kernel), true, rfl, iteT ?_⟩
      refine ⟨_, rfl, _, rfl, b, p, ts.map tmS, termsL n, rfl, hb3, .inl (SqL.of (hk _ _ (by simp) hp1)), ?_, fun x hx => ?_, asc_map tm_lt o1, fun H4 k4 => ⟨rfl, ?_⟩⟩
      · rw [List.length_map]
        exact Nat.le_trans (tms_len o1) (by decide)
      · obtain ⟨t, ht, rfl⟩ := List.mem_map.mp hx
        exact tm_known ⟨n, by omega⟩ t (o2 t ht)
      · exact LS.put hD (by simp) (fun _ _ _ _ _ h => h) (by
          have := (List.getElem?_eq_some_iff.mp hx).1
          omega) hl2 (k4 _ _ (by simp) hA) (hk.trans k4) (by rw [hS, List.replicate_succ']; rfl)
    · obtain ⟨acc, hA, hl2, hk, rfl⟩ := hp
      refine ⟨D, List.replicate its.length true, rfl, SqL.of (by rw [hA, List.map_replicate]), ?_⟩
      have e : (List.replicate its.length true).all id = true := List.all_eq_true.mpr fun x hx => by rw [(List.mem_replicate.mp hx).2]; rfl
      rw [e]
      exact q _ (k1.trans hk)
theorem c_checkRules (T : Tx K mg) : Cal P w K mg base 3 "check_rules" (spCheckRules K) := by
  refine calOf T.checkRules scCheckRules (fun vs H Q E h => ?_) (fun f cdv A outer s H vs Q E hr h => ?_)
  · obtain ⟨_, _, _, _, _, rfl, _⟩ := h
    rfl
  · obtain ⟨n, rules, kinds, v, vk, rfl, ⟨a, its, rfl, ha, hits⟩, hk, ⟨hlen, hts⟩, hn, h4, q⟩ := h
    obtain ⟨b, rfl, hb⟩ := kinds_eq hk
    have hl := Paired.length hits
    refine ⟨_, pss_cons (ps_if (PW.pt (pw_or (pt_not (pt_val (pe_isi (T := "tuple") T.f (pv 0) T.f))) (pw_or1 (pt_cmpR op_ne (pe_callB call_len_seq rfl T.f (by decide +kernel) (pa_cons (pv 0) pa_nil)) (pe_callB call_len_seq rfl T.f (by decide +kernel) (pa_cons (pv 1) pa_nil)) (nomark _))))) pss_never pss_nil)
      (pss_one (ps_for PassesOwn.never rfl (pi_enT rfl T.f (pa_cons (pv 0) pa_nil)) (pg_tup rfl (pgs_cons (pg_name (i := 3) scCheckRules.nd rfl (Or.inl rfl)) (pgs_cons (pg_name (i := 4) scCheckRules.nd rfl (Or.inl rfl)) pgs_nil)))
        (pss_one (ps_if (pt_not (pt_val (pe_c (c_isRule T) hr (pa_cons (pv 4) (pa_cons (pv 2) pa_nil))))) pss_never pss_nil)))), ?_⟩
    refine ⟨_, rfl, _, _, _, _, true, rfl, .ty _, tyT ha, kit_ty (by decide +kernel), true, rfl, iteF ?_⟩
    refine ⟨_, rfl, _, _, rfl, .inr ha, _, rfl, _, _, rfl, .inr hb, rfl, false, ?_, iteF ?_⟩
    · rw [← hl, hlen, List.length_map]
      simp
    refine ⟨_, rfl, a, _, rfl, ha, for_it walk_enT (fun _ σ' H' => Kp [] H H' ∧ ∃ x y, σ' = [some (.ref a), some (.ref b), some (.int n), x, y]) ⟨.refl, none, none, rfl⟩ (fun _ _ _ _ h => sqT_tst ha h.1.tst0) (fun i x σ' H1 H2 hi hp hy => ?_) fun σ' H1 hp => ?_⟩
    · obtain ⟨k1, x1, x2, rfl⟩ := hp
      obtain ⟨U, c, y, rfl, hU, rfl, hc, hy⟩ := hy
      obtain rfl : V.int (i : Nat) = c := Option.some.inj hc
      obtain ⟨r, hr1, hr2⟩ := paired_get' hits hy
      refine ⟨U, _, rfl, SqT.of upd_same, rfl, _, _, rfl, _, _, rfl, rfl, ?_⟩
      have k2 : Kp [] H (upd H1 U (.tup [V.int (i : Nat), y])) := k1.newT hU
      refine ⟨_, rfl, _, rfl, n, r, y, rfl, stbRule _ _ _ _ k2.tst0 hr2, hts r (List.mem_of_getElem? hr1), hn, fun H3 k3 => ⟨true, rfl, iteF ⟨k2.trans k3, _, _, rfl⟩⟩⟩
    · exact q _ hp.1
theorem c_checkResult (T : Tx K mg) : Cal P w K mg base 2 "check_result" (spCheckResult K) := by
  refine calOf T.checkResult scCheckResult (fun vs H Q E h => ?_) (fun f cdv A outer s H vs Q E hr h => ?_)
  · obtain ⟨_, _, _, rfl, _⟩ := h
    rfl
  · obtain ⟨n, ends, v, rfl, he, ⟨hne, hasc, hin⟩, hn, q⟩ := h
    obtain ⟨a, rfl, ha⟩ := ends_eq he
    obtain ⟨r, hr1, hr2⟩ := T.regs
    refine ⟨_, pss_cons (ps_if (PW.pt (pw_or (pt_not (pt_val (pe_isi (T := "tuple") T.f (pv 0) T.f))) (pw_or1 (pt_cmpR (op_eqD hr.units) (pv 0) (pe_tup pa_nil) (nomark _))))) pss_never pss_nil)
      (pss_cons (ps_set (i := 2) scCheckResult.nd rfl (Or.inl rfl) (pe_c (c_firstFall T) hr (pa_cons (pv 0) (pa_cons (pe_slice (sl_reg hr2) (pe_gv (v := .ref r) ⟨_, hr1, rfl⟩) po_none (po_some (pv 1))) pa_nil))))
      (pss_one (ps_if (pt_cmpR op_notN (pv 2) pe_non (nomark _)) pss_never pss_nil))), ?_⟩
    refine ⟨_, rfl, _, _, _, _, true, rfl, .ty _, tyT ha, kit_ty (by decide +kernel), true, rfl, iteF ?_⟩
    refine ⟨_, rfl, sz 0, fun p hp => ?_⟩
    have k1 : Kp [] H (upd H p (.tup [])) := .new hp
    refine ⟨_, _, .tup (sqT_tst ha k1.tst0) (dp_strs _), .tup (SqT.of upd_same) .nil, shaped_strs (fun z hz => by
      obtain ⟨k, _, rfl⟩ := List.mem_map.mp hz
      exact regs_ok k), by decide, false, ?_, iteF ?_⟩
    · rw [eqv_tnil]
      cases ends with
      | nil => exact absurd rfl hne
      | cons k l => rfl
    refine ⟨_, rfl, _, rfl, _, rfl, n, rfl, rfl, rfl, hn, fun b H1 k2 hb => ?_⟩
    refine ⟨a, b, ends.map regS, regT.take n, rfl, sqT_tst ha (k1.trans k2).tst0, .inr hb, ?_, fun x hx => ?_, asc_map reg_lt hasc, fun H2 k3 => ⟨_, rfl, rfl, false, rfl, iteF (q _ ((k1.trans k2).trans k3))⟩⟩
    · rw [List.length_map]
      exact Nat.le_trans (ends_len hasc) (by decide)
    · obtain ⟨k, hk, rfl⟩ := List.mem_map.mp hx
      exact reg_known ⟨n, by omega⟩ k (hin k hk)
end
end TP
set_option Elab.async false
set_option linter.all false
set_option maxRecDepth 100000
set_option maxHeartbeats 4000000
/-! best_of, stepped -/
namespace TP
open PySem PySem.Spec PyProof.Rows L2
def spBestOf (K : PySem.W.Frag) : Sp := fun vs H Q _ => ∃ (g : Bool) (l : Addr) (os : List (Option Int)), vs = [.str (sideS g), .ref l] ∧ SqL K H l (os.map optV) ∧ os.length ≤ 1000 ∧ ∀ H', Kp [] H H' → Q (optV (best g os)) H'
theorem side_eq : ∀ g : Bool, decide (V.str (sideS g) = V.str "greatest") = g := by decide +kernel
theorem dp_ints {K : PySem.W.Frag} {H : Hp} : ∀ l : List Int, DpAll K H (l.map V.int) (l.map PyData.int)
  | [] => .nil
  | z :: l => .cons (.int z) (dp_ints l)
theorem somes_take {os : List (Option Int)} {i : Nat} {o : Option Int} (h : os[i]? = some o) : somes (os.take (i + 1)) = somes (os.take i) ++ (match o with | some z => [z] | none => []) := by
  rw [take_succ_of h]
  unfold somes
  rw [List.filterMap_append]
  cases o <;> rfl
section
variable {P : Program} {w : World} {K : PySem.W.Frag} {mg : Str → Option Value} {base : Heap}
theorem c_bestOf (T : Tx K mg) : Cal P w K mg base 1 "best_of" (spBestOf K) := by
  refine calOf T.bestOf scBestOf (fun vs H Q E h => ?_) (fun f cdv A outer s H vs Q E hr h => ?_)
  · obtain ⟨_, _, _, rfl, _⟩ := h
    rfl
  · obtain ⟨g, a, os, rfl, ha, hlen, q⟩ := h
    refine ⟨_, pss_cons (ps_setLc (i := 2) (own := [("value", 3)]) (g := gName 3) rfl scBestOf.nd rfl rfl (sw_true rfl rfl rfl (by decide +kernel)) (pi_list (pv 1)) (blkOk_by (N := nBestOf) (sc := defScope sBestOf) (by decide +kernel))
        (fun _ _ _ _ _ => pg_name (i := 3) scBestOf.nd rfl (Or.inl rfl)) (fun _ _ _ _ _ => pts_one (pt_cmpR op_notN (pv 3) pe_non (nomark _))) (fun _ _ _ _ _ => pv 3))
      (pss_cons (ps_if (pt_cmpR (op_eqD hr.units) (pv 2) (pe_lst pa_nil) (nomark _)) (pss_one (ps_ret pe_non)) pss_nil)
      (pss_one (ps_ret (pe_ifExp (pt_cmpR op_eq (pv 0) pe_str (nomark _)) (pe_callB (cr_max rfl) rfl T.f (by decide +kernel) (pa_cons (pv 2) pa_nil)) (pe_callB (cr_min rfl) rfl T.f (by decide +kernel) (pa_cons (pv 2) pa_nil)))))), ?_⟩
    have hl : (os.map optV).length = os.length := List.length_map ..
    refine ⟨_, rfl, a, rfl, ⟨_, ha⟩, fun D hD => lc_it walk_list (LS D [] H fun i acc _ => acc = (somes (os.take i)).map V.int) (LS.start hD (fun _ _ _ _ _ h => h) rfl) (fun i H1 _ ⟨acc, _, _, k, _⟩ => k.same.seq ha) (fun i x H1 H2 hi hp hy => ?_) fun H1 hp => ?_⟩
    · obtain ⟨acc, hA, hl2, hk, hS⟩ := hp
      obtain ⟨rfl, hx⟩ := hy
      rw [List.getElem?_map] at hx
      obtain ⟨o, ho, rfl⟩ := Option.map_eq_some_iff.mp hx
      have hs := somes_take ho
      cases o with
      | none => exact ⟨rfl, _, rfl, rfl, false, rfl, iteF (LS.skip hl2 hA hk (by rw [hS, hs, List.append_nil]))⟩
      | some z => exact ⟨rfl, _, rfl, rfl, true, rfl, iteT ⟨_, rfl, LS.put hD (by simp) (fun _ _ _ _ _ h => h) (by omega) hl2 hA hk (by rw [hS, hs, List.map_append]; rfl)⟩⟩
    · obtain ⟨acc, hA, hl2, hk, rfl⟩ := hp
      rw [hl, List.take_length] at hA
      refine ⟨_, rfl, sz 0, fun p hp => ?_⟩
      have np : D ≠ p := ne_of_none hA hp
      have k2 : Kp [] H (upd H1 p (.lst [])) := hk.newT hp
      have hA2 : upd H1 p (.lst []) D = some (.lst ((somes os).map V.int)) := by rw [upd_ne np]; exact hA
      refine ⟨_, _, .lst (SqL.of hA2) (dp_ints _), .lst (SqL.of upd_same) .nil, shaped_ints _, by decide, (somes os).isEmpty, by rw [eqv_nil], ?_⟩
      cases hso : somes os with
      | nil =>
        refine iteT ?_
        have e := best_nil (g := g) hso
        have q2 := q _ k2
        rw [e] at q2
        exact q2
      | cons z zs =>
        refine iteF ?_
        rw [hso] at hA2
        refine ⟨_, rfl, rfl, g, congrArg V.bl (side_eq g), ?_⟩
        cases g with
        | true =>
          refine iteT ⟨_, rfl, D, z :: zs, rfl, SqL.of hA2, Nat.succ_pos _, fun m hm hle => ?_⟩
          have e : best true os = some m := best_of_mem (g := true) (by rw [hso]; exact hm) fun n hn => iteT (hle n (by rw [← hso]; exact hn))
          have q2 := q _ k2
          rw [e] at q2
          exact q2
        | false =>
          refine iteF ⟨_, rfl, D, z :: zs, rfl, SqL.of hA2, Nat.succ_pos _, fun m hm hle => ?_⟩
          have e : best false os = some m := best_of_mem (g := false) (by rw [hso]; exact hm) fun n hn => iteF (hle n (by rw [← hso]; exact hn))
          have q2 := q _ k2
          rw [e] at q2
          exact q2
end
end TP
set_option Elab.async false
set_option linter.all false
set_option maxRecDepth 100000
set_option maxHeartbeats 4000000
/-! stepped -/
namespace TP
open PySem PySem.Spec PyProof.Rows L2
theorem dc_it {J : It} {n : Nat} {G : Hp → Prop} {Y : Nat → Hp → V → Hp → Prop} (w : Walk J n G Y) {g : TG} {tt : TT} {tk tv : TE} {vs : List Nat} {σ : L2.St} {H1 : Hp} {D : Addr} {Qd : Hp → Prop} (Pv : Nat → Hp → Prop) (h0 : Pv 0 (upd H1 D (.dK []))) (hG : ∀ i H, i ≤ n → Pv i H → G H)
    (hs : ∀ i x H H', i < n → Pv i H → Y i H x H' → g x (wipe σ vs) H' fun σ2 H2 => wipe σ2 vs = wipe σ vs ∧ tt σ2 H2 fun b H3 =>
      if b = true then tk σ2 H3 fun y H4 => tv σ2 H4 fun z H5 => ∃ kvs k, y = kV k ∧ H5 D = some (.dK kvs) ∧ kvs.length < sizeLine ∧ Pv (i + 1) (upd H5 D (.dK (putK kvs k z))) else Pv (i + 1) H3) (hd : ∀ H, Pv n H → Qd H) :
    ∃ W : Nat → Nat → Hp → Prop, (∃ m, W 0 m (upd H1 D (.dK []))) ∧ ∀ i m H, W i m H →
      (J.stop i H ∧ Qd H) ∨ (J.go i H ∧ ∃ Nx : Hp → Prop, (∀ H', Nx H' → ∃ m', m' < m ∧ W (i + 1) m' H') ∧ ∀ x H', J.yld i H x H' → g x (wipe σ vs) H' fun σ2 H2 => wipe σ2 vs = wipe σ vs ∧ tt σ2 H2 fun b H3 =>
        if b = true then tk σ2 H3 fun y H4 => tv σ2 H4 fun z H5 => ∃ kvs k, y = kV k ∧ H5 D = some (.dK kvs) ∧ kvs.length < sizeLine ∧ Nx (upd H5 D (.dK (putK kvs k z))) else Nx H3) := by
  refine ⟨fun i m H => m = n - i ∧ i ≤ n ∧ Pv i H, ⟨n, by simp, Nat.zero_le _, h0⟩, ?_⟩
  rintro i m H ⟨rfl, hi, p⟩
  have q := hG i H hi p
  by_cases hlt : i < n
  · exact .inr ⟨w.goes i H hlt q, Pv (i + 1), fun H' p' => ⟨n - (i + 1), by omega, rfl, hlt, p'⟩, fun x H' y => hs i x H H' hlt p (w.yields i H x H' hlt q y)⟩
  · have e : i = n := by omega
    subst e
    exact .inl ⟨w.stops H q, hd H p⟩
/-- the registers' contents by their names, the first i -/
structure DV (row : Row) (i : Nat) (kvs : List (Key × V)) : Prop where
  have_ : ∀ k : _root_.Fin 6, k.val < i → valV kvs (.inr (regS k)) = some (optV (row.getD k.val none))
  not_ : ∀ k : _root_.Fin 6, i ≤ k.val → valV kvs (.inr (regS k)) = none
  zero : valV kvs (.inr "0") = none
  nd : (kvs.map (·.1)).Nodup
  len : kvs.length ≤ i
theorem reg_ne0 : ∀ k : _root_.Fin 6, (("0" : Str) = regS k) = False := by
  have h : ∀ k : _root_.Fin 6, ¬ (("0" : Str) = regS k) := by decide +kernel
  exact fun k => eq_false (h k)
theorem DV.start (row : Row) : DV row 0 [] := ⟨fun k h => absurd h (Nat.not_lt_zero _), fun _ _ => rfl, rfl, .nil, Nat.le_refl _⟩
theorem DV.put {row : Row} {kvs : List (Key × V)} {k : _root_.Fin 6} (d : DV row k.val kvs) : DV row (k.val + 1) (putK kvs (.inr (regS k)) (optV (row.getD k.val none))) := by
  refine ⟨fun j hj => ?_, fun j hj => ?_, ?_, nd_putK _ d.nd (d.not_ k (Nat.le_refl _)), Nat.le_trans (length_putK _ _ _) (Nat.succ_le_succ d.len)⟩
  · rw [valV_put]
    by_cases e : j = k
    · subst e
      rw [if_pos rfl]
    · rw [if_neg fun z => e (regS_inj _ _ (Sum.inr.inj z))]
      exact d.have_ j (by
        have : j.val ≠ k.val := fun z => e (_root_.Fin.ext z)
        omega)
  · rw [valV_put, if_neg fun z => by
      have := regS_inj _ _ (Sum.inr.inj z)
      subst this
      omega]
    exact d.not_ j (by omega)
  · rw [valV_put, if_neg fun z => by
      have h := Sum.inr.inj z
      rw [reg_ne0] at h
      exact h]
    exact d.zero
theorem valV_merge : ∀ (b a : List (Key × V)) (j : Key), (b.map (·.1)).Nodup → valV (mergeK a b) j = (valV b j).or (valV a j)
  | [], a, j, _ => by rfl
  | (k, v) :: r, a, j, hn => by
    have h1 : mergeK a ((k, v) :: r) = mergeK (putK a k v) r := rfl
    obtain ⟨h2, h3⟩ := List.nodup_cons.mp (show (k :: r.map (·.1)).Nodup from hn)
    rw [h1, valV_merge r _ j h3, valV_put]
    by_cases e : j = k
    · subst e
      rw [if_pos rfl, valV_pos rfl]
      have : valV r j = none := by
        cases q : valV r j with
        | none => rfl
        | some x => exact absurd (valV_in q) h2
      rw [this]
      rfl
    · rw [if_neg e, valV_neg fun z => e z.symm]
/-- what a term goes on from -/
def hv (row : Row) (t : Tm) : Option Int := match tmSrc t with
  | none => some 0
  | some k => row.getD k none
theorem tval_hv (row : Row) (a : Int) (t : Tm) : tval row a t = (hv row t).map fun z => if tmTk t then z + a else z := by
  unfold tval hv
  cases tmSrc t with
  | none =>
    show some _ = some _
    cases tmTk t <;> simp
  | some k => rfl
/-- the sources' contents by name -/
def Held (row : Row) (kvs : List (Key × V)) : Prop := valV kvs (.inr "0") = some (.int 0) ∧ ∀ k : _root_.Fin 6, k.val < row.length → valV kvs (.inr (regS k)) = some (optV (row.getD k.val none))
theorem src_reg : ∀ t : Tm, t.val = 0 ∨ t.val = 13 ∨ ∃ k : _root_.Fin 6, tmSrc t = some k.val ∧ srcS t = regS k ∧ 2 * k.val + 1 ≤ t.val := by decide +kernel
theorem Held.at_ {row : Row} {kvs : List (Key × V)} (h : Held row kvs) {t : Tm} (ht : t.val = 13 ∨ t.val ≤ 2 * row.length) : valV kvs (.inr (srcS t)) = some (optV (hv row t)) := by
  unfold hv
  rcases src_reg t with z | z | ⟨k, e1, e2, e3⟩
  · obtain ⟨e, _⟩ := src_end t (.inl z)
    have e4 : tmSrc t = none := by unfold tmSrc; rw [if_pos (.inl z)]
    rw [e, e4]
    exact h.1
  · obtain ⟨e, _⟩ := src_end t (.inr z)
    have e4 : tmSrc t = none := by unfold tmSrc; rw [if_pos (.inr z)]
    rw [e, e4]
    exact h.1
  · rw [e1, e2]
    have : t.val ≠ 13 := fun z => by
      unfold tmSrc at e1
      rw [if_pos (.inr z)] at e1
      cases e1
    exact h.2 k (by omega)
theorem best_some (g : Bool) (l : List (Option Int)) : best g ((somes l).map some) = best g l := by
  induction l with
  | nil => rfl
  | cons x l ih =>
    cases x with
    | none => exact ih
    | some a =>
      show cmb g (some a) (best g ((somes l).map some)) = cmb g (some a) (best g l)
      rw [ih]
theorem optV_some (l : List Int) : (l.map some).map optV = l.map V.int := by
  rw [List.map_map]; rfl
/-- the pair of a term, laid -/
def RPr : Hp → Tm → V → Prop := fun H t v => ∃ p, v = .ref p ∧ H p = some (.tup [.str (srcS t), .bl (tmTk t)])
theorem stbPr : Stb RPr := fun H H' t v k ⟨p, e, h⟩ => ⟨p, e, k _ _ rfl h⟩
def spStepped (K : PySem.W.Frag) : Sp := fun vs H Q _ => ∃ (g : Bool) (rule : Rule) (row : Row) (a : Int) (vr vw : V), vs = [.str (sideS g), vr, vw, .int a] ∧ RRule K H rule vr ∧ RRow K H row vw ∧ RuleOk row.length rule ∧ row.length ≤ 6 ∧
  ∀ p H', Kp [] H H' → H' p = some (.tup ((stepR g rule row a).map optV)) → Q (.ref p) H'
section
variable {P : Program} {w : World} {K : PySem.W.Frag} {mg : Str → Option Value} {base : Heap}
theorem c_stepped (T : Tx K mg) : Cal P w K mg base 2 "stepped" (spStepped K) := by
  refine calOf T.stepped scStepped (fun vs H Q E h => ?_) (fun f cdv A outer s H vs Q E hr h => ?_)
  · obtain ⟨_, _, _, _, _, _, rfl, _⟩ := h
    rfl
  · obtain ⟨g, rule, row, am, vr, vw, rfl, ⟨ar, its, rfl, har, hits⟩, hw, ⟨hrl, hok⟩, h6, q⟩ := h
    obtain ⟨aw, rfl, haw⟩ := row_eq hw
    obtain ⟨r, hr1, hr2⟩ := T.regs
    have hu := hu_of hr
    refine ⟨_, pss_cons (ps_set (i := 4) scStepped.nd rfl (Or.inl rfl) (pe_op op_dOr (pe_disp (pps_cons pe_str pe_int pps_nil) rfl rfl (by simp) (by decide))
        (pe_dc (own := [("slot", 10), ("content", 11)]) (g := gTup K 2 (gCons (gName 10) (gCons (gName 11) gNil))) (tt := tYes) rfl scStepped.nd (pi_zipF rfl T.f (pa_cons (pe_gv (v := .ref r) ⟨_, hr1, rfl⟩) (pa_cons (pv 2) pa_nil))) (blkOk_by (N := nStepped) (sc := defScope sStepped) (by decide +kernel))
          (fun _ _ _ _ _ => pg_tup rfl (pgs_cons (pg_name (i := 10) scStepped.nd rfl (Or.inl rfl)) (pgs_cons (pg_name (i := 11) scStepped.nd rfl (Or.inl rfl)) pgs_nil))) (fun _ _ _ _ _ => pts_nil) (fun _ _ _ _ _ => pv 10) (fun _ _ _ _ _ => pv 11))))
      (pss_cons (ps_set (i := 5) scStepped.nd rfl (Or.inl rfl) (pe_lst pa_nil))
      (pss_cons (ps_for PassesOwn.never rfl (pi_tup (pv 1)) (pg_name (i := 6) scStepped.nd rfl (Or.inl rfl))
        (pss_cons (ps_set (i := 7) scStepped.nd rfl (Or.inl rfl) (pe_lst pa_nil))
        (pss_cons (ps_for PassesOwn.never rfl (pi_list (pe_lc (own := [("term", 12)]) (g := gName 12) (tt := tYes) rfl scStepped.nd (pi_tup (pv 6)) (blkOk_by (N := nStepped) (sc := defScope sStepped) (by decide +kernel))
            (fun _ _ _ _ _ => pg_name (i := 12) scStepped.nd rfl (Or.inl rfl)) (fun _ _ _ _ _ => pts_nil) (fun _ _ _ _ _ => pe_c (c_sourceOf T) hr (pa_cons (pv 12) pa_nil))))
          (pg_tup rfl (pgs_cons (pg_name (i := 8) scStepped.nd rfl (Or.inl rfl)) (pgs_cons (pg_name (i := 9) scStepped.nd rfl (Or.inl rfl)) pgs_nil)))
          (pss_one (ps_if (pt_cmpR op_notN (pe_dget hu (pv 4) (pv 8) (fun _ _ => rfl)) pe_non (nomark _))
            (pss_one (ps_expr (pe_bm PySem.F.plainAttrs_list PySem.F.slot_list_append PySem.F.type_list_append mt_append (pv 7) (pa_cons (pe_ifExp (pt_val (pv 9)) (pe_op op_add (pe_dget hu (pv 4) (pv 8) (fun _ _ => rfl)) (pv 3)) (pe_dget hu (pv 4) (pv 8) (fun _ _ => rfl))) pa_nil)))) pss_nil)))
        (pss_one (ps_expr (pe_bm PySem.F.plainAttrs_list PySem.F.slot_list_append PySem.F.type_list_append mt_append (pv 5) (pa_cons (pe_c (c_bestOf T) hr (pa_cons (pv 0) (pa_cons (pv 7) pa_nil))) pa_nil)))))))
      (pss_one (ps_ret (pe_callTy call_tuple_of rfl T.f (by decide +kernel) (pa_cons (pv 5) pa_nil)))))), ?_⟩
    -- held
    refine fun p0 hp0 => ⟨upd_same, [(.inr "0", .int 0)], rfl, by decide, ?_⟩
    have k0 : Kp [] H (upd (upd H p0 (.dK [])) p0 (.dK (mergeK [] [(.inr "0", .int 0)]))) := (Kp.new hp0).putN hp0
    have e0 : upd (upd H p0 (.dK [])) p0 (.dK (mergeK [] [(.inr "0", .int 0)])) p0 = some (.dK (mergeK [] [(.inr "0", .int 0)])) := upd_same
    generalize upd (upd H p0 (.dK [])) p0 (.dK (mergeK [] [(.inr "0", .int 0)])) = H0 at k0 e0
    have hlw : (row.map optV).length = row.length := List.length_map ..
    refine ⟨_, rfl, r, aw, _, _, rfl, hr2 _, sqT_tst haw k0.tst0, fun D hD => dc_it (walk_zipT (n := row.length) (xs := regT.map V.str) (ys := row.map optV) (by
      rw [hlw, List.length_map]
      show _ = min 6 _
      omega)) (fun i H' => ∃ kvs, H' D = some (.dK kvs) ∧ DV row i kvs ∧ Kp [] H0 H') ⟨[], upd_same, .start row, .new hD⟩ (fun i H1 _ ⟨_, _, _, k⟩ => ⟨hr2 _, sqT_tst haw (k0.trans k).tst0⟩) (fun i x H1 H2 hi hp hy => ?_) fun H1 hp => ?_⟩
    · obtain ⟨kvs, hA, hdv, hk⟩ := hp
      obtain ⟨U, x, y, rfl, hU, rfl, hx, hy⟩ := hy
      replace hx : (regT.map V.str)[i]? = some x := hx
      replace hy : (row.map optV)[i]? = some y := hy
      rw [List.getElem?_map, reg_get ⟨i, by omega⟩] at hx
      rw [List.getElem?_map, List.getElem?_eq_getElem hi] at hy
      obtain rfl : V.str (regS ⟨i, by omega⟩) = x := Option.some.inj hx
      have ey : optV (row.getD i none) = y := by
        rw [List.getD_eq_getElem?_getD, List.getElem?_eq_getElem hi]
        exact Option.some.inj hy
      refine ⟨U, _, rfl, SqT.of upd_same, rfl, _, _, rfl, _, _, rfl, rfl, rfl, tyes (iteT ?_)⟩
      refine ⟨_, rfl, _, rfl, kvs, .inr (regS ⟨i, by omega⟩), rfl, by rw [upd_ne (ne_of_none hA hU)]; exact hA, Nat.lt_of_le_of_lt hdv.len (small1000 (by omega)), _, upd_same, ?_, (hk.newT hU).putN hD⟩
      rw [← ey]
      exact DV.put (k := ⟨i, by omega⟩) hdv
    obtain ⟨kvs, hA, hdv, hk⟩ := hp
    refine ⟨p0, D, _, kvs, rfl, rfl, hk _ _ (by simp) e0, hA, by simp [mergeK, putK], Nat.le_trans (Nat.add_le_add_left hdv.len _) (by
      show 1 + _ ≤ _
      omega), fun dH hdH => ?_⟩
    have k2 : Kp [] H (upd H1 dH (.dK (mergeK (mergeK [] [(.inr "0", .int 0)]) kvs))) := (k0.trans hk).newT hdH
    have hheld : Held row (mergeK (mergeK [] [(.inr "0", .int 0)]) kvs) := by
      refine ⟨?_, fun k hk => ?_⟩
      · rw [valV_merge _ _ _ hdv.nd, hdv.zero]
        rfl
      · rw [valV_merge _ _ _ hdv.nd, hdv.have_ k hk]
        rfl
    have hdd : upd H1 dH (.dK (mergeK (mergeK [] [(.inr "0", .int 0)]) kvs)) dH = some (.dK (mergeK (mergeK [] [(.inr "0", .int 0)]) kvs)) := upd_same
    generalize mergeK (mergeK [] [(.inr "0", .int 0)]) kvs = kv at k2 hheld hdd
    generalize upd H1 dH (.dK kv) = H2 at k2 hdd
    -- found
    refine ⟨sz 0, fun fl hfl => ?_⟩
    have ndf : dH ≠ fl := ne_of_none hdd hfl
    have k3 : Kp [] H (upd H2 fl (.lst [])) := k2.newT hfl
    have hff : H fl = none := k2.fre hfl
    refine ⟨_, rfl, ar, rfl, ⟨_, sqT_tst har k3.tst0⟩, for_tup (fun i σ' H' => Kp [] H H' ∧ H' dH = some (.dK kv) ∧ H' fl = some (.lst (((rule.take i).map fun ts => best g (ts.map (tval row am))).map optV)) ∧
      ∃ x6 x7 x8 x9, σ' = [some (.str (sideS g)), some (.ref ar), some (.ref aw), some (.int am), some (.ref dH), some (.ref fl), x6, x7, x8, x9, none, none, none])
      ⟨k3, by rw [upd_ne ndf]; exact hdd, upd_same, none, none, none, none, rfl⟩ (fun _ _ _ _ h => sqT_tst har h.1.tst0) (fun i x σ' H3 hx hp => ?_) fun σ' H3 hp => ?_⟩
    · obtain ⟨k4, hd4, hf4, x6, x7, x8, x9, rfl⟩ := hp
      obtain ⟨ts, hts1, hts2⟩ := paired_get' hits hx
      obtain ⟨at_, rfl, hat⟩ := terms_eq hts2
      obtain ⟨o1, o2⟩ := hok ts (List.mem_of_getElem? hts1)
      have hi : i < rule.length := (List.getElem?_eq_some_iff.mp hts1).1
      have htl : ts.length ≤ 14 := tms_len o1
      -- values
      refine ⟨sz 0, fun vl hvl => ?_⟩
      have nvd : dH ≠ vl := ne_of_none hd4 hvl
      have nvf : fl ≠ vl := ne_of_none hf4 hvl
      have k5 : Kp [] H (upd H3 vl (.lst [])) := k4.newT hvl
      have hvv : upd H3 vl (.lst []) vl = some (.lst []) := upd_same
      have hd5 : upd H3 vl (.lst []) dH = some (.dK kv) := by rw [upd_ne nvd]; exact hd4
      have hf5 : upd H3 vl (.lst []) fl = _ := (by rw [upd_ne nvf]; exact hf4 : upd H3 vl (.lst []) fl = some (.lst (((rule.take i).map fun ts => best g (ts.map (tval row am))).map optV)))
      have hvH : H vl = none := k4.fre hvl
      generalize upd H3 vl (.lst []) = H5 at k5 hvv hd5 hf5
      refine ⟨_, rfl, at_, rfl, ⟨_, sqT_tst hat k5.tst0⟩, fun D2 hD2 => lc_it (walk_tup (xs := (ts.map tmS).map V.str)) (LS D2 [] H5 fun j acc H' => Paired (RPr H') (ts.take j) acc) (LS.start hD2 (fun _ _ _ _ k h => paired_map (fun t v => stbPr _ _ t v k) h) .nil) (fun j H6 _ ⟨acc, _, _, k, _⟩ => sqT_tst hat (k5.trans k).tst0) (fun j x H6 H7 hj hp hy => ?_) fun H6 hp => ?_⟩
      · obtain ⟨acc, hA, hl2, hk, hS⟩ := hp
        obtain ⟨rfl, hx⟩ := hy
        rw [List.getElem?_map, List.getElem?_map] at hx
        obtain ⟨z, hz, rfl⟩ := Option.map_eq_some_iff.mp hx
        obtain ⟨t, ht, rfl⟩ := Option.map_eq_some_iff.mp hz
        refine ⟨rfl, tyes (iteT ?_)⟩
        refine ⟨_, rfl, t, rfl, fun p H8 k8 _ h8 => ?_⟩
        refine LS.put hD2 (by simp) (fun _ _ _ _ k h => paired_map (fun t v => stbPr _ _ t v k) h) ?_ hl2 (k8 _ _ (by simp) hA) (hk.trans k8) ?_
        · have := (List.getElem?_eq_some_iff.mp ht).1
          omega
        · exact paired_snoc (paired_map (fun t v => stbPr _ _ t v k8.tst0) hS) ht ⟨p, rfl, h8⟩
      obtain ⟨acc, hA, hl2, hk, hS⟩ := hp
      rw [List.length_map, List.length_map, List.take_length] at hS
      have nD : D2 ≠ vl := fun z => by rw [z, hvv] at hD2; cases hD2
      have k6 : Kp [] H H6 := k5.trans hk
      have hv6 := hk _ _ (by simp) hvv
      have hd6 := hk _ _ (by simp) hd5
      have hf6 := hk _ _ (by simp) hf5
      have hla := Paired.length hS
      refine ⟨D2, rfl, ⟨_, SqL.of hA⟩, for_list (xs := acc) (fun j σ' H' => Kp [vl] H6 H' ∧ H' vl = some (.lst ((somes ((ts.take j).map (tval row am))).map V.int)) ∧
        ∃ x8 x9, σ' = [some (.str (sideS g)), some (.ref ar), some (.ref aw), some (.int am), some (.ref dH), some (.ref fl), some (.ref at_), some (.ref vl), x8, x9, none, none, none])
        ⟨.refl, hv6, x8, x9, rfl⟩ (fun j σ' H' _ h => SqL.of (h.1 _ _ (by simp [nD]) hA)) (fun j x σ' H7 hx hp => ?_) fun σ' H7 hp => ?_⟩
      · obtain ⟨k7, hv7, y8, y9, rfl⟩ := hp
        obtain ⟨t, ht, p, rfl, hp⟩ := paired_get' hS hx
        have hj : j < ts.length := (List.getElem?_eq_some_iff.mp ht).1
        have npv : p ≠ vl := fun z => by rw [z, hv6] at hp; cases hp
        have hp7 := k7 p _ (by simp [npv]) hp
        have hd7 := k7 dH _ (by simp [nvd]) hd6
        have hat7 := hheld.at_ (o2 t (List.mem_of_getElem? ht))
        have hg : DGet H7 dH (.str (srcS t)) (some (optV (hv row t))) := by
          have := DGet.k (k := Sum.inr (srcS t)) hd7
          rw [hat7] at this
          exact this
        have htk : (ts.take (j + 1)).map (tval row am) = (ts.take j).map (tval row am) ++ [tval row am t] := by rw [take_succ_of ht, List.map_append]; rfl
        have hsm : somes ((ts.take (j + 1)).map (tval row am)) = somes ((ts.take j).map (tval row am)) ++ (match tval row am t with | some z => [z] | none => []) := by
          rw [htk]
          unfold somes
          rw [List.filterMap_append]
          cases tval row am t <;> rfl
        have hle : ((somes ((ts.take j).map (tval row am))).map V.int).length < sizeLine := by
          refine small1000 ?_
          rw [List.length_map]
          have h1 : (somes ((ts.take j).map (tval row am))).length ≤ ((ts.take j).map (tval row am)).length := List.length_filterMap_le ..
          rw [List.length_map, List.length_take] at h1
          omega
        rw [tval_hv] at hsm
        refine ⟨p, _, rfl, SqT.of hp7, rfl, _, _, rfl, _, _, rfl, rfl, ?_⟩
        refine ⟨_, rfl, _, rfl, dH, _, rfl, hg, rfl, _, rfl, ?_⟩
        cases hh : hv row t with
        | none =>
          rw [hh] at hsm
          refine iteF ⟨k7, ?_, _, _, rfl⟩
          rw [hsm]
          simpa using hv7
        | some z =>
          rw [hh] at hsm hg
          refine iteT ⟨_, rfl, .inl ⟨rfl, _, SqL.of hv7⟩, ?_⟩
          refine ⟨_, rfl, tmTk t, rfl, ?_⟩
          cases hb : tmTk t with
          | true =>
            rw [hb] at hsm
            refine iteT ⟨_, rfl, _, rfl, dH, _, rfl, hg, _, rfl, z, am, rfl, rfl, vl, _, _, rfl, rfl, hv7, hle, k7.trans (.put (by simp)), ?_, _, _, rfl⟩
            rw [upd_same, hsm, List.map_append]
            rfl
          | false =>
            rw [hb] at hsm
            refine iteF ⟨_, rfl, _, rfl, dH, _, rfl, hg, vl, _, _, rfl, rfl, hv7, hle, k7.trans (.put (by simp)), ?_, _, _, rfl⟩
            rw [upd_same, hsm, List.map_append]
            rfl
      · obtain ⟨k7, hv7, y8, y9, rfl⟩ := hp
        rw [← hla, List.take_length] at hv7
        have hf7 := k7 fl _ (by simp [nvf]) hf6
        have hd7 := k7 dH _ (by simp [nvd]) hd6
        have k8 : Kp [] H H7 := k6.glue k7 hvH
        refine ⟨_, rfl, .inl ⟨rfl, _, SqL.of hf7⟩, ?_⟩
        refine ⟨_, rfl, _, rfl, g, vl, (somes (ts.map (tval row am))).map some, rfl, SqL.of (by rw [hv7, optV_some]), ?_, fun H8 k9 => ?_⟩
        · rw [List.length_map]
          have h1 : (somes (ts.map (tval row am))).length ≤ (ts.map (tval row am)).length := List.length_filterMap_le ..
          rw [List.length_map] at h1
          omega
        · rw [best_some]
          refine ⟨fl, _, _, rfl, rfl, k9 _ _ (by simp) hf7, small1000 ?_, (k8.trans k9).putN hff, by rw [upd_ne ndf]; exact k9 _ _ (by simp) hd7, ?_, _, _, _, _, rfl⟩
          · rw [List.length_map, List.length_map, List.length_take]
            omega
          · rw [upd_same, take_succ_of hts1, List.map_append, List.map_append]
            rfl
    · obtain ⟨k4, hd4, hf4, x6, x7, x8, x9, rfl⟩ := hp
      have hli := Paired.length hits
      rw [← hli, List.take_length] at hf4
      refine ⟨_, rfl, fl, _, rfl, .inl ⟨SqL.of hf4, fun p hp => q p _ (k4.newT hp) upd_same⟩⟩
end
end TP
set_option Elab.async false
set_option linter.all false
set_option maxRecDepth 100000
set_option maxHeartbeats 4000000
/-! the class Statistic: its objects -/
namespace TP
open PySem PySem.Spec PyProof.Rows L2
/-- a method (or its like) that stands at f -/
def MethD (K : PySem.W.Frag) (m q : Str) (st : Stmt) (ps : List Str) (dvs : List V) (f : Addr) : Prop := ∃ fd, FunD K m q (defArgs st) (defBody st) (defScope st) dvs [] f fd ∧ Binds K fd ps []
def clsN (g : Bool) : Str := if g then "Greatest" else "Least"
/-- isinstance of an own class's object -/
structure InsTy (K : PySem.W.Frag) (C : Addr) : Prop where
  ha : PySem.W.findIn K (.ref C) "__class__" = some (some (.builtin "object.__class__"))
  hn : PySem.W.specialIn K (.builtin "object.__class__") "__get__" = some (some (.builtin "getset_descriptor.__get__"))
  ht : PySem.W.takesIn K (.builtin "object.__class__") = some true
  hm : PySem.W.mroIn K C (.type "object") = some true
def fieldsS : List Str := ["kinds", "start", "rules", "ends"]
/-- o[i] -/
structure IxO (K : PySem.W.Frag) (C g : Addr) : Prop where
  at_ : PySem.W.findIn K (.ref C) "__getitem__" = some (some (.ref g))
  fn : PySem.W.isFn K (.ref g) = true
  fi : PySem.W.fnIn K g = true
/-- o | o2 -/
structure OrO (K : PySem.W.Frag) (C g : Addr) : Prop where
  at_ : PySem.W.findIn K (.ref C) "__or__" = some (some (.ref g))
  fn : PySem.W.isFn K (.ref g) = true
  sf : PySem.W.selfFirst K C = true
/-- the statistics' classes -/
structure Tc (K : PySem.W.Frag) (mg : Str → Option Value) where
  tx : Tx K mg
  C : Bool → Addr
  S : Addr
  fInit : Addr
  fCall : Addr
  fGet : Addr
  fOr : Addr
  fTurned : Addr
  fRes : Addr
  pRes : Addr
  mgC : ∀ g, mg (clsN g) = some (.ref (C g))
  mgS : mg "Statistic" = some (.ref S)
  cls : ∀ g, Cls K (C g)
  ty : ∀ g, InsTy K (C g)
  sub : ∀ g, PySem.W.kitOne K (.ref (C g)) (.ref S) = some true
  side : ∀ g, ∃ u, Con K (C g) "SIDE" (.str (sideS g)) u
  no : ∀ g, ∀ f ∈ fieldsS, NoAttr K (C g) f
  make : ∀ g, Mk K (C g) fInit
  call : ∀ g, StX.CallO K (C g) fCall
  get : ∀ g, IxO K (C g) fGet
  or_ : ∀ g, OrO K (C g) fOr
  turned : ∀ g, Meth K (C g) "turned" fTurned
  res : ∀ g, PropOf K (C g) "result" pRes fRes
  dInit : MethD K "__init__" "Statistic.__init__" sSInit pSInit [] fInit
  dCall : MethD K "__call__" "Statistic.__call__" sSCall pSCall [] fCall
  dGet : MethD K "__getitem__" "Statistic.__getitem__" sSGetitem pSGetitem [] fGet
  dOr : MethD K "__or__" "Statistic.__or__" sSOr pSOr [] fOr
  dTurned : MethD K "turned" "Statistic.turned" sSTurned pSTurned [] fTurned
  dRes : MethD K "result" "Statistic.result" sSResult pSResult [] fRes
/-- a statistic's own attributes -/
def sF (vk vs vr ve : V) : List (Str × V) := [("kinds", vk), ("start", vs), ("rules", vr), ("ends", ve)]
/-- the statistic st stands at v -/
def StI {K : PySem.W.Frag} {mg : Str → Option Value} (T : Tc K mg) (H : Hp) (st : Sta) (v : V) : Prop :=
  ∃ a dx vk vs vr ve, v = .ref a ∧ H a = some (.ins (T.C st.g) dx (sF vk vs vr ve)) ∧ RKinds K H st.kinds vk ∧ RRow K H st.row vs ∧ RRules K H st.rules vr ∧ REnds K H st.ends ve
theorem stbSt {K : PySem.W.Frag} {mg : Str → Option Value} {T : Tc K mg} : Stb (StI T) := fun H H' st v t ⟨a, dx, vk, vs, vr, ve, e, h, h1, h2, h3, h4⟩ =>
  ⟨a, dx, vk, vs, vr, ve, e, t _ _ rfl h, stbKinds _ _ _ _ t h1, stbRow _ _ _ _ t h2, stbRules _ _ _ _ t h3, stbEnds _ _ _ _ t h4⟩
/-- the four parts of a statistic -/
structure Parts (K : PySem.W.Frag) (H : Hp) (st : Sta) (vk vs vr ve : V) : Prop where
  k : RKinds K H st.kinds vk
  s : RRow K H st.row vs
  r : RRules K H st.rules vr
  e : REnds K H st.ends ve
theorem Parts.stb {K : PySem.W.Frag} {H H' : Hp} {st : Sta} {vk vs vr ve : V} (p : Parts K H st vk vs vr ve) (t : Tst H H') : Parts K H' st vk vs vr ve := ⟨stbKinds _ _ _ _ t p.k, stbRow _ _ _ _ t p.s, stbRules _ _ _ _ t p.r, stbEnds _ _ _ _ t p.e⟩
theorem f1 : putF "kinds" vk [] = ([("kinds", vk)] : List (Str × V)) := rfl
theorem f2 {vk vs : V} : putF "start" vs [("kinds", vk)] = ([("kinds", vk), ("start", vs)] : List (Str × V)) := by
  show (if ("kinds" : Str) = "start" then _ else _) = _
  rw [if_neg (by decide +kernel)]
  rfl
theorem f3 {vk vs vr : V} : putF "rules" vr [("kinds", vk), ("start", vs)] = ([("kinds", vk), ("start", vs), ("rules", vr)] : List (Str × V)) := by
  show (if ("kinds" : Str) = "rules" then _ else (("kinds" : Str), vk) :: (if ("start" : Str) = "rules" then _ else _)) = _
  rw [if_neg (by decide +kernel), if_neg (by decide +kernel)]
  rfl
theorem f4 {vk vs vr ve : V} : putF "ends" ve [("kinds", vk), ("start", vs), ("rules", vr)] = sF vk vs vr ve := by
  show (if ("kinds" : Str) = "ends" then _ else (("kinds" : Str), vk) :: (if ("start" : Str) = "ends" then _ else (("start" : Str), vs) :: (if ("rules" : Str) = "ends" then _ else _))) = _
  rw [if_neg (by decide +kernel), if_neg (by decide +kernel), if_neg (by decide +kernel)]
  rfl
theorem lk_kinds {vk vs vr ve : V} : (sF vk vs vr ve).lookup ("kinds" : Str) = some vk := by
  rw [← f4, ← f3, ← f2, ← f1, lookup_putF, if_neg (by decide +kernel), lookup_putF, if_neg (by decide +kernel), lookup_putF, if_neg (by decide +kernel), lookup_putF, if_pos rfl]
theorem lk_start {vk vs vr ve : V} : (sF vk vs vr ve).lookup ("start" : Str) = some vs := by
  rw [← f4, ← f3, ← f2, lookup_putF, if_neg (by decide +kernel), lookup_putF, if_neg (by decide +kernel), lookup_putF, if_pos rfl]
theorem lk_rules {vk vs vr ve : V} : (sF vk vs vr ve).lookup ("rules" : Str) = some vr := by
  rw [← f4, ← f3, lookup_putF, if_neg (by decide +kernel), lookup_putF, if_pos rfl]
theorem lk_ends {vk vs vr ve : V} : (sF vk vs vr ve).lookup ("ends" : Str) = some ve := by
  rw [← f4, lookup_putF, if_pos rfl]
theorem lk_not {vk vs vr ve : V} {f : Str} (h1 : ¬ f = "kinds" := by decide +kernel) (h2 : ¬ f = "start" := by decide +kernel) (h3 : ¬ f = "rules" := by decide +kernel) (h4 : ¬ f = "ends" := by decide +kernel) : (sF vk vs vr ve).lookup f = none := by
  rw [← f4, ← f3, ← f2, ← f1, lookup_putF, if_neg h4, lookup_putF, if_neg h3, lookup_putF, if_neg h2, lookup_putF, if_neg h1]
  rfl
/-- a method by its body -/
theorem methOf {P : Program} {w : World} {K : PySem.W.Frag} {mg : Str → Option Value} {base : Heap} {m q : Str} {st : Stmt} {N ps : List Str} {dvs : List V} {k : Nat} {f : Addr} {sp : Sp} (D : MethD K m q st ps dvs f) (S : FnScope N ps (defScope st)) (len : ∀ vs H Q E, sp vs H Q E → vs.length = ps.length)
    (hbody : ∀ (cdv : Value) (A : Around) (outer : List Env) (s : Shared) (H : Hp) (vs : List V) (Q : VK) (E : XK), Room k (A.deeper (envOfC q (defScope st) s.heap.objs.size f cdv)) → sp vs H Q E →
      ∃ t, PSs (cxOf CX0 P w K mg base N q (defScope st) f cdv A outer s H E).nox (defBody st) t ∧ t { nx := fun _ H' => Q .non H', rt := Q } (start N vs) H) :
    ∃ fd, FnOk P w K mg base CX0 (k + 1) f fd ps sp ∧ Binds K fd ps [] := by
  obtain ⟨fd, F, hb⟩ := D
  refine ⟨fd, F.ok S len fun cdv A outer s H vs Q E hr h => ?_, hb⟩
  obtain ⟨t, h1, h2⟩ := hbody cdv A outer s H vs Q E hr h
  exact ⟨t, h1.nox, h2⟩
def spSInit {K : PySem.W.Frag} {mg : Str → Option Value} (T : Tc K mg) : Sp := fun vs H Q _ => ∃ (st : Sta) (a dx : Addr) (vk v1 vr ve : V), vs = [.ref a, vk, v1, vr, ve] ∧ H a = some (.ins (T.C st.g) dx []) ∧ st.Ok ∧ Parts K H st vk v1 vr ve ∧
  ∀ H', Kp [a] H H' → H' a = some (.ins (T.C st.g) dx (sF vk v1 vr ve)) → Q .non H'
theorem row_len (st : Sta) : st.row.length = st.start.length := List.length_map ..
section
variable {P : Program} {w : World} {K : PySem.W.Frag} {mg : Str → Option Value} {base : Heap}
theorem m_sInit (T : Tc K mg) : ∃ fd, FnOk P w K mg base CX0 4 T.fInit fd pSInit (spSInit T) ∧ Binds K fd pSInit [] := by
  refine methOf T.dInit scSInit (fun vs H Q E h => ?_) (fun cdv A outer s H vs Q E hr h => ?_)
  · obtain ⟨_, _, _, _, _, _, _, rfl, _⟩ := h
    rfl
  · obtain ⟨st, a, dx, vk, v1, vr, ve, rfl, ha, ok, ps, q⟩ := h
    have TX := T.tx
    obtain ⟨b, rfl, hb⟩ := row_eq ps.s
    have hl : (st.row.map optV).length = st.start.length := by rw [List.length_map, row_len]
    have h6 : st.start.length ≤ 6 := by rw [← row_len]; exact ok.start.1.2
    refine ⟨_, pss_cons (ps_expr (pe_c (c_checkKinds TX) hr (pa_cons (pv 1) pa_nil)))
      (pss_cons (ps_expr (pe_c (c_checkStart TX) hr (pa_cons (pv 2) pa_nil)))
      (pss_cons (ps_expr (pe_c (c_checkRules TX) hr (pa_cons (pv 3) (pa_cons (pv 1) (pa_cons (pe_callB call_len_seq rfl TX.f (by decide +kernel) (pa_cons (pv 2) pa_nil)) pa_nil)))))
      (pss_cons (ps_expr (pe_c (c_checkResult TX) hr (pa_cons (pv 4) (pa_cons (pe_callB call_len_seq rfl TX.f (by decide +kernel) (pa_cons (pv 2) pa_nil)) pa_nil))))
      (pss_cons (ps_fld (pv 0) (pv 1) rfl) (pss_cons (ps_fld (pv 0) (pv 2) rfl) (pss_cons (ps_fld (pv 0) (pv 3) rfl) (pss_one (ps_fld (pv 0) (pv 4) rfl)))))))), ?_⟩
    refine ⟨_, rfl, st.kinds, vk, rfl, ps.k, ok.kinds, fun H1 k1 => ?_⟩
    refine ⟨_, rfl, st.row, .ref b, rfl, (ps.stb k1.tst0).s, ok.start, fun H2 k2 => ?_⟩
    have k12 := k1.trans k2
    refine ⟨_, rfl, _, rfl, _, rfl, b, _, rfl, .inr (sqT_tst hb k12.tst0), st.start.length, st.rules, st.kinds, vr, vk, by rw [hl]; rfl, (ps.stb k12.tst0).r, (ps.stb k12.tst0).k, ok.rules, h6, ok.kinds.2.1.1, fun H3 k3 => ?_⟩
    have k13 := k12.trans k3
    refine ⟨_, rfl, _, rfl, b, _, rfl, .inr (sqT_tst hb k13.tst0), st.start.length, st.ends, ve, by rw [hl]; rfl, (ps.stb k13.tst0).e, ok.ends, h6, fun H4 k4 => ?_⟩
    have k14 := k13.trans k4
    have ha4 := k14 _ _ (by simp) ha
    have no := fun f hf => T.no st.g f hf
    refine ⟨_, rfl, _, rfl, a, _, dx, _, rfl, ha4, T.cls st.g, no _ (by decide +kernel), by show 0 < 1000; decide, ?_⟩
    refine ⟨_, rfl, _, rfl, a, _, dx, _, rfl, upd_same, T.cls st.g, no _ (by decide +kernel), by rw [f1]; show 1 < 1000; decide, ?_⟩
    refine ⟨_, rfl, _, rfl, a, _, dx, _, rfl, upd_same, T.cls st.g, no _ (by decide +kernel), by rw [f1, f2]; show 2 < 1000; decide, ?_⟩
    refine ⟨_, rfl, _, rfl, a, _, dx, _, rfl, upd_same, T.cls st.g, no _ (by decide +kernel), by rw [f1, f2, f3]; show 3 < 1000; decide, ?_⟩
    refine q _ ((((k14.up.trans (.put (by simp))).trans (.put (by simp))).trans (.put (by simp))).trans (.put (by simp))) ?_
    rw [upd_same, f1, f2, f3, f4]
end
end TP
set_option Elab.async false
set_option linter.all false
set_option maxRecDepth 100000
set_option maxHeartbeats 4000000
/-! the class Statistic: made, turned, its result, its item, its call -/
namespace TP
open PySem PySem.Spec PyProof.Rows L2
section
variable {K : PySem.W.Frag} {mg : Str → Option Value}
def spCheckStatistic (T : Tc K mg) : Sp := fun vs H Q _ => ∃ (st : Sta) (v : V), vs = [v] ∧ StI T H st v ∧ Q .non H
def spMade (T : Tc K mg) : Sp := fun vs H Q _ => ∃ (st : Sta) (vk v1 vr ve : V), vs = [.str (sideS st.g), vk, v1, vr, ve] ∧ st.Ok ∧ Parts K H st vk v1 vr ve ∧ ∀ p H', Kp [] H H' → StI T H' st (.ref p) → Q (.ref p) H'
def spSRes (T : Tc K mg) : Sp := fun vs H Q _ => ∃ (st : Sta) (v : V), vs = [v] ∧ StI T H st v ∧ ∀ u, REnds K H st.ends u → Q u H
def spTurned (T : Tc K mg) : Sp := fun vs H Q _ => ∃ (st : Sta) (v : V), vs = [v] ∧ StI T H st v ∧ st.Ok ∧ ∀ p H', Kp [] H H' → StI T H' st.turned (.ref p) → Q (.ref p) H'
def spGet (T : Tc K mg) : Sp := fun vs H Q _ => ∃ (st : Sta) (v : V) (i : Nat), vs = [v, .str (st.kinds.getD i Str.empty)] ∧ StI T H st v ∧ st.Ok ∧ i < st.kinds.length ∧ ∀ u H', Kp [] H H' → RRule K H' (st.rules.getD i []) u → Q u H'
def spReadOut (K : PySem.W.Frag) : Sp := fun vs H Q _ => ∃ (g : Bool) (n : Nat) (ends : List (_root_.Fin 6)) (row : Row) (ve vr : V), vs = [.str (sideS g), ve, vr] ∧ REnds K H ends ve ∧ RRow K H row vr ∧ row.length = n ∧ EndsOk n ends ∧
  ∀ H', Kp [] H H' → Q (optV (resR g ends row)) H'
end
theorem asc_ne {xs : List Str} (h : Asc xs) : ∀ (d i : Nat) (a b : Str), xs[i]? = some a → xs[i + d + 1]? = some b → a.cps.toList < b.cps.toList
  | 0, i, a, b, ha, hb => h i a b ha hb
  | d + 1, i, a, b, ha, hb => by
    have h1 : i + d + 1 < xs.length := by
      have := (List.getElem?_eq_some_iff.mp hb).1
      omega
    have h2 := asc_ne h d i a _ ha (List.getElem?_eq_getElem h1)
    exact List.lt_trans h2 (h (i + d + 1) _ _ (List.getElem?_eq_getElem h1) hb)
theorem asc_inj {xs : List Str} (h : Asc xs) {i j : Nat} {a : Str} (hi : xs[i]? = some a) (hj : xs[j]? = some a) : i = j := by
  have irr : ¬ a.cps.toList < a.cps.toList := List.lt_irrefl _
  rcases Nat.lt_trichotomy i j with q | q | q
  · exact absurd (asc_ne h (j - i - 1) i a a hi (by rw [show i + (j - i - 1) + 1 = j by omega]; exact hj)) irr
  · exact q
  · exact absurd (asc_ne h (i - j - 1) j a a hj (by rw [show j + (i - j - 1) + 1 = i by omega]; exact hi)) irr
theorem turned_ok {st : Sta} (ok : st.Ok) : st.turned.Ok := ⟨ok.kinds, ok.start, ok.rules, ok.ends⟩
theorem side_not : ∀ g : Bool, (if g then ("least" : Str) else "greatest") = sideS (!g) := by decide +kernel
section
variable {P : Program} {w : World} {K : PySem.W.Frag} {mg : Str → Option Value} {base : Heap}
theorem tyS (T : Tc K mg) {H : Hp} {a dx : Addr} {fs : List (Str × V)} {g : Bool} (h : H a = some (.ins (T.C g) dx fs)) : TyX K H (.ref a) (.ref (T.C g)) := .base (.ins h (T.cls g) (T.ty g).ha (T.ty g).hn (T.ty g).ht (T.ty g).hm)
theorem c_checkStatistic (T : Tc K mg) : Cal P w K mg base 1 "check_statistic" (spCheckStatistic T) := by
  refine calOf T.tx.checkStatistic scCheckStatistic (fun vs H Q E h => ?_) (fun f cdv A outer s H vs Q E hr h => ?_)
  · obtain ⟨_, _, rfl, _⟩ := h
    rfl
  · obtain ⟨st, v, rfl, ⟨a, dx, vk, v1, vr, ve, rfl, ha, _⟩, q⟩ := h
    have TX := T.tx
    refine ⟨_, pss_one (ps_if (pt_not (pt_val (pe_callB call_isi rfl TX.f (by decide +kernel) (pa_cons (pv 0) (pa_cons (pe_gv (v := .ref T.S) ⟨_, T.mgS, rfl⟩) pa_nil))))) pss_never pss_nil), ?_⟩
    exact ⟨_, rfl, _, _, _, _, true, rfl, .own _, tyS T ha, T.sub _, true, rfl, iteF q⟩
theorem c_made (T : Tc K mg) : Cal P w K mg base 6 "made" (spMade T) := by
  refine calOf T.tx.made scMade (fun vs H Q E h => ?_) (fun f cdv A outer s H vs Q E hr h => ?_)
  · obtain ⟨_, _, _, _, _, rfl, _⟩ := h
    rfl
  · obtain ⟨st, vk, v1, vr, ve, rfl, ok, ps, q⟩ := h
    obtain ⟨fd, F, hb⟩ := m_sInit (P := P) (w := w) (base := base) T
    have fin : ∀ g, st.g = g → ∀ x dx : Addr, H x = none → H dx = none → dx ≠ x → spSInit T (.ref x :: ([vk, v1, vr, ve] ++ [])) (upd (upd H dx (.own x)) x (.ins (T.C g) dx [])) (fun v H2 => v = .non ∧ Q (.ref x) H2) E0 := by
      intro g hg x dx hx hd hne
      subst hg
      have hx2 : upd H dx (.own x) x = none := by rw [upd_ne hne.symm]; exact hx
      have k1 : Kp [] H (upd (upd H dx (.own x)) x (.ins (T.C st.g) dx [])) := (Kp.new hd).newT hx2
      refine ⟨st, x, dx, vk, v1, vr, ve, rfl, upd_same, ok, ps.stb k1.tst0, fun H' k2 h2 => ⟨rfl, ?_⟩⟩
      have k3 : Kp [] H H' := k1.glue k2 hx
      have ps2 := ps.stb k3.tst0
      exact q x H' k3 ⟨x, dx, vk, v1, vr, ve, rfl, h2, ps2.k, ps2.s, ps2.r, ps2.e⟩
    refine ⟨_, pss_cons (ps_if (pt_cmpR op_eq (pv 0) pe_str (nomark _)) (pss_one (ps_ret (pe_make (T.make true) F hr rfl (T.mgC true) hb .nil pass0 (pa_cons (pv 1) (pa_cons (pv 2) (pa_cons (pv 3) (pa_cons (pv 4) pa_nil))))))) pss_nil)
      (pss_one (ps_ret (pe_make (T.make false) F hr rfl (T.mgC false) hb .nil pass0 (pa_cons (pv 1) (pa_cons (pv 2) (pa_cons (pv 3) (pa_cons (pv 4) pa_nil))))))), ?_⟩
    refine ⟨_, rfl, rfl, st.g, congrArg V.bl (side_eq st.g), ?_⟩
    cases hg : st.g with
    | true => exact iteT ⟨_, rfl, _, rfl, _, rfl, _, rfl, fin true hg⟩
    | false => exact iteF ⟨_, rfl, _, rfl, _, rfl, _, rfl, fin false hg⟩
theorem m_sRes (T : Tc K mg) : ∃ fd, FnOk P w K mg base CX0 1 T.fRes fd pSResult (spSRes T) ∧ Binds K fd pSResult [] := by
  refine methOf T.dRes scSResult (fun vs H Q E h => ?_) (fun cdv A outer s H vs Q E hr h => ?_)
  · obtain ⟨_, _, rfl, _⟩ := h
    rfl
  · obtain ⟨st, v, rfl, ⟨a, dx, vk, v1, vr, ve, rfl, ha, h1, h2, h3, h4⟩, q⟩ := h
    refine ⟨_, pss_one (ps_ret (pe_fld (pv 0) rfl)), ?_⟩
    exact ⟨_, rfl, a, _, dx, _, _, rfl, ha, T.cls _, T.no _ _ (by decide +kernel), lk_ends, q _ h4⟩
theorem m_sTurned (T : Tc K mg) : ∃ fd, FnOk P w K mg base CX0 7 T.fTurned fd pSTurned (spTurned T) ∧ Binds K fd pSTurned [] := by
  refine methOf T.dTurned scSTurned (fun vs H Q E h => ?_) (fun cdv A outer s H vs Q E hr h => ?_)
  · obtain ⟨_, _, rfl, _⟩ := h
    rfl
  · obtain ⟨st, v, rfl, ⟨a, dx, vk, v1, vr, ve, rfl, ha, h1, h2, h3, h4⟩, ok, q⟩ := h
    have TX := T.tx
    obtain ⟨u, hu⟩ := T.side st.g
    have no := fun f hf => T.no st.g f hf
    refine ⟨_, pss_cons (ps_set (i := 1) scSTurned.nd rfl (Or.inl rfl) (pe_ifExp (pt_cmpR op_eq (pe_con (pv 0) rfl) pe_str (nomark _)) pe_str pe_str))
      (pss_one (ps_ret (pe_c (c_made T) hr (pa_cons (pv 1) (pa_cons (pe_fld (pv 0) rfl) (pa_cons (pe_fld (pv 0) rfl) (pa_cons (pe_fld (pv 0) rfl) (pa_cons (pe_fld (pv 0) rfl) pa_nil)))))))), ?_⟩
    refine ⟨_, rfl, a, _, dx, _, _, u, rfl, ha, T.cls _, hu, lk_not, rfl, st.g, congrArg V.bl (side_eq st.g), ?_⟩
    have fin : ∀ z, z = sideS (!st.g) → spMade T ([.str z, vk, v1, vr, ve] ++ []) H Q E0 := fun z hz => ⟨st.turned, vk, v1, vr, ve, by rw [hz]; rfl, turned_ok ok, ⟨h1, h2, h3, h4⟩, q⟩
    have hs := side_not st.g
    have c := T.cls st.g
    cases hg : st.g with
    | true =>
      rw [hg] at hs ha c
      refine iteT ?_
      refine ⟨_, rfl, _, rfl, a, _, dx, _, _, rfl, ha, c, T.no _ _ (by decide +kernel), lk_kinds, _, rfl, a, _, dx, _, _, rfl, ha, c, T.no _ _ (by decide +kernel), lk_start, _, rfl, a, _, dx, _, _, rfl, ha, c, T.no _ _ (by decide +kernel), lk_rules,
        _, rfl, a, _, dx, _, _, rfl, ha, c, T.no _ _ (by decide +kernel), lk_ends, fin _ (by rw [hg]; exact hs)⟩
    | false =>
      rw [hg] at hs ha c
      refine iteF ?_
      refine ⟨_, rfl, _, rfl, a, _, dx, _, _, rfl, ha, c, T.no _ _ (by decide +kernel), lk_kinds, _, rfl, a, _, dx, _, _, rfl, ha, c, T.no _ _ (by decide +kernel), lk_start, _, rfl, a, _, dx, _, _, rfl, ha, c, T.no _ _ (by decide +kernel), lk_rules,
        _, rfl, a, _, dx, _, _, rfl, ha, c, T.no _ _ (by decide +kernel), lk_ends, fin _ (by rw [hg]; exact hs)⟩
theorem m_sGet (T : Tc K mg) : ∃ fd, FnOk P w K mg base CX0 1 T.fGet fd pSGetitem (spGet T) ∧ Binds K fd pSGetitem [] := by
  refine methOf T.dGet scSGetitem (fun vs H Q E h => ?_) (fun cdv A outer s H vs Q E hr h => ?_)
  · obtain ⟨_, _, _, rfl, _⟩ := h
    rfl
  · obtain ⟨st, v, j, rfl, ⟨a, dx, vk, v1, vr, ve, rfl, ha, h1, h2, ⟨br, rs, rfl, hbr, hrs⟩, h4⟩, ok, hj, q⟩ := h
    have TX := T.tx
    obtain ⟨bk, rfl, hbk⟩ := kinds_eq h1
    have c := T.cls st.g
    have hlr := Paired.length hrs
    have hl2 : st.rules.length = st.kinds.length := ok.rules.1
    refine ⟨_, pss_cons (ps_if (pt_val (pe_isi (T := "str") TX.f (pv 1) TX.f)) (pss_one (ps_for PassesOwn.never rfl (pi_zipS rfl TX.f (pa_cons (pe_fld (pv 0) rfl) (pa_cons (pe_fld (pv 0) rfl) pa_nil)))
        (pg_tup rfl (pgs_cons (pg_name (i := 2) scSGetitem.nd rfl (Or.inl rfl)) (pgs_cons (pg_name (i := 3) scSGetitem.nd rfl (Or.inl rfl)) pgs_nil)))
        (pss_one (ps_if (pt_cmpR op_eq (pv 2) (pv 1) (nomark _)) (pss_one (ps_ret (pv 3))) pss_nil)))) pss_nil) pss_never, ?_⟩
    refine ⟨_, rfl, _, _, _, _, true, rfl, .ty _, .base (.str _), kit_ty (by decide +kernel), true, rfl, iteT ?_⟩
    refine ⟨_, rfl, a, _, dx, _, _, rfl, ha, c, T.no _ _ (by decide +kernel), lk_kinds, _, rfl, a, _, dx, _, _, rfl, ha, c, T.no _ _ (by decide +kernel), lk_rules, bk, br, _, _, rfl, hbk, hbr,
      for_it (walk_zipS (xs := st.kinds.map V.str) (ys := rs) (by rw [List.length_map]; omega)) (fun i σ' H' => Kp [] H H' ∧ i ≤ j ∧ ∃ x y, σ' = [some (.ref a), some (.str (st.kinds.getD j Str.empty)), x, y]) ⟨.refl, Nat.zero_le _, none, none, rfl⟩ (fun _ _ _ _ h => ⟨sqT_tst hbk h.1.tst0, sqT_tst hbr h.1.tst0⟩) (fun i x σ' H1 H2 hi hp hy => ?_) fun σ' H1 hp => ?_⟩
    · obtain ⟨k1, hij, x1, x2, rfl⟩ := hp
      obtain ⟨U, x, y, rfl, hU, rfl, hx, hy⟩ := hy
      replace hx : (st.kinds.map V.str)[i]? = some x := hx
      rw [List.getElem?_map] at hx
      obtain ⟨z, hz, rfl⟩ := Option.map_eq_some_iff.mp hx
      refine ⟨U, _, rfl, SqT.of upd_same, rfl, _, _, rfl, _, _, rfl, rfl, ?_⟩
      refine ⟨_, rfl, _, rfl, rfl, _, rfl, ?_⟩
      by_cases e : z = st.kinds.getD j Str.empty
      · have hij2 : i = j := asc_inj ok.kinds.2.2 hz (by rw [e]; exact getD_get hj)
        subst hij2
        rw [e, decide_eq_true rfl]
        obtain ⟨r, hr1, hr2⟩ := paired_get' hrs hy
        refine iteT ⟨_, rfl, q _ _ (k1.newT hU) ?_⟩
        have e2 : st.rules.getD i [] = r := by rw [List.getD_eq_getElem?_getD, hr1]; rfl
        rw [e2]
        exact stbRule _ _ _ _ (k1.newT hU).tst0 hr2
      · rw [decide_eq_false fun y => e (V.str.inj y)]
        have : i ≠ j := fun y => e (by
          subst y
          exact Option.some.inj (hz.symm.trans (getD_get hj)))
        exact iteF ⟨k1.newT hU, by omega, _, _, rfl⟩
    · obtain ⟨_, h, _⟩ := hp
      rw [List.length_map] at h
      omega
theorem c_readOut (T : Tx K mg) : Cal P w K mg base 2 "read_out" (spReadOut K) := by
  refine calOf T.readOut scReadOut (fun vs H Q E h => ?_) (fun f cdv A outer s H vs Q E hr h => ?_)
  · obtain ⟨_, _, _, _, _, _, rfl, _⟩ := h
    rfl
  · obtain ⟨g, n, ends, row, ve, vr, rfl, he, hw, hlen, ⟨_, hpw, hin⟩, q⟩ := h
    obtain ⟨a, rfl, ha⟩ := ends_eq he
    obtain ⟨b, rfl, hb⟩ := row_eq hw
    have hel := ends_len hpw
    refine ⟨_, pss_one (ps_ret (pe_c (c_bestOf T) hr (pa_cons (pv 0) (pa_cons (pe_lc (own := [("slot", 3)]) (g := gName 3) (tt := tYes) rfl scReadOut.nd (pi_tup (pv 1)) (blkOk_by (N := nReadOut) (sc := defScope sReadOut) (by decide +kernel))
        (fun _ _ _ _ _ => pg_name (i := 3) scReadOut.nd rfl (Or.inl rfl)) (fun _ _ _ _ _ => pts_nil) (fun _ _ _ _ _ => pe_ix (ix_tupK K rfl) (pv 2) (pe_callTy call_int_str rfl T.f (by decide +kernel) (pa_cons (pe_slice sl_str (pv 3) (po_some pe_int) po_none) pa_nil)) (fun _ _ => rfl))) pa_nil)))), ?_⟩
    refine ⟨_, rfl, _, rfl, a, rfl, ⟨_, ha⟩, fun D hD => lc_it (walk_tup (xs := (ends.map regS).map V.str)) (LS D [] H fun i acc _ => acc = ((ends.take i).map fun k => row.getD k.val none).map optV) (LS.start hD (fun _ _ _ _ _ h => h) rfl) (fun i H1 _ ⟨acc, _, _, k, _⟩ => sqT_tst ha k.tst0) (fun i x H1 H2 hi hp hy => ?_) fun H1 hp => ?_⟩
    · obtain ⟨acc, hA, hl2, hk, hS⟩ := hp
      obtain ⟨rfl, hx⟩ := hy
      rw [List.getElem?_map, List.getElem?_map] at hx
      obtain ⟨z, hz, rfl⟩ := Option.map_eq_some_iff.mp hx
      obtain ⟨k, hk2, rfl⟩ := Option.map_eq_some_iff.mp hz
      have hkl : k.val < row.length := by rw [hlen]; exact hin k (List.mem_of_getElem? hk2)
      refine ⟨rfl, tyes (iteT ?_)⟩
      refine ⟨_, rfl, _, rfl, _, rfl, _, rfl, ?_, ?_⟩
      · exact Nat.le_trans (reg_short k) (sz 2)
      have e1 : cutS (regS k) (some 1) none = digS k := by rw [← sliceText_cut]; exact cut_reg k
      rw [e1]
      refine ⟨_, _, rfl, int_dig k, dig_len k, b, _, _, optV (row.getD k.val none), rfl, rfl, sqT_tst hb hk.tst0, atI_nat (j := k.val) ?_, ?_⟩
      · rw [List.getElem?_map, List.getElem?_eq_getElem hkl, List.getD_eq_getElem?_getD, List.getElem?_eq_getElem hkl]
        rfl
      · refine LS.put hD (by simp) (fun _ _ _ _ _ h => h) ?_ hl2 hA hk ?_
        · have := (List.getElem?_eq_some_iff.mp hk2).1
          omega
        · rw [hS, take_succ_of hk2, List.map_append, List.map_append]
          rfl
    · obtain ⟨acc, hA, hl2, hk, rfl⟩ := hp
      rw [List.length_map, List.length_map, List.take_length] at hA
      refine ⟨g, D, ends.map fun (k : _root_.Fin 6) => row.getD k.val none, rfl, SqL.of hA, ?_, fun H2 k2 => q _ (hk.trans k2)⟩
      rw [List.length_map]
      omega
end
end TP
set_option Elab.async false
set_option linter.all false
set_option maxRecDepth 100000
set_option maxHeartbeats 4000000
/-! o[i] and o | o2 of own classes; the call of a statistic -/
namespace TP
open PySem PySem.Spec PyProof.Rows L2
def tIxO (C : Addr) (sp : Sp) (ta tb : TE) : TE := fun σ H Q => ta σ H fun x H1 => tb σ H1 fun y H2 => ∃ a dx fs, x = .ref a ∧ H2 a = some (.ins C dx fs) ∧ sp [.ref a, y] H2 Q E0
section
variable {X : Cx} {C g : Addr} {k : Nat} {fd : FuncData} {ps : List Str} {sp : Sp} {a b : Expr} {ta tb : TE} {pos : Pos}
theorem call_own {pins : List (Addr × Obj)} {σ : L2.St} {H : Hp} {s : Shared} {Q : VK} {A : Around} {us : List Value} {vs : List V} {E : Value → Shared → Prop} (hA : A.frames = X.A.frames) (F : FnOk X.prog X.w X.K X.mg X.base CX0 k g fd ps sp) (hr : Room k A) (hb : Binds X.K fd ps []) (I : Inv X pins σ H s) (r : Vals vs us)
    (h : sp vs H Q E0) : wpAny (model X.prog X.w) A (call (.ref g) us) (EP X pins σ Q) E s := by
  have hl : (us ++ []).length = ps.length := by rw [List.append_nil, ← r.length]; exact F.len _ _ _ _ h
  have hb2 := hb s us I.kIn hl
  rw [List.append_nil] at hb2
  have e := I.env0
  refine wpAny_call (codeAny_mono (F.run A X.stack s H ⟨us, []⟩ us vs Q E0 hr ⟨hA.trans e.frames, e.mod, e.bs, e.bsz, e.funs, e.frf, e.hok, e.bare⟩ hb2 r h) fun r s' hq => ?_)
  cases r with
  | error er => exact False.elim hq
  | ok fl =>
    cases fl with
    | ret u => exact I.after hq
    | next => exact False.elim hq
    | brk => exact False.elim hq
    | cont => exact False.elim hq
/-- o[i], o of an own class -/
theorem pe_ixO (c : IxO X.K C g) (F : FnOk X.prog X.w X.K X.mg X.base CX0 k g fd ps sp) (hr : Room (k + 1) X.A) (hb : Binds X.K fd ps []) (ha : PE X a ta) (hi : PE X b tb)
    (hsl : ∀ x i, subscripted b true (.ref x) i = runValue (.builtin "lifetime.subscript" ⟨[.ref x, i], []⟩) := by intro _ _; with_unfolding_all rfl) : PE X (.Subscript a b pos) (tIxO C sp ta tb) := by
  refine ⟨fun pins s σ H Q I h => ?_⟩
  refine Subscript_ (binT ha hi I h fun v u s2 x y H2 I2 rx ry q => ?_)
  obtain ⟨p, dx, fs, rfl, hp, q⟩ := q
  obtain rfl : v = Value.ref p := rx
  obtain ⟨mA, O, _⟩ := ins_get I2.hok hp
  obtain ⟨od, J, _⟩ := O.look
  obtain ⟨m, F2⟩ := I2.fr
  exact PySem.W.sub_K F2 I2.ok.mod.kin J c.at_ c.fi c.fn (call_own (A := X.A.in1) (vs := [.ref p, y]) rfl F hr.in1 hb I2 (.cons rfl (.cons ry .nil)) q) (hsl _ _)
/-- o | o2, both of one own class -/
def rOrO (C : Addr) (sp : Sp) : R2 := fun x y H Q => ∃ a b dx dx2 fs fs2, x = .ref a ∧ y = .ref b ∧ H a = some (.ins C dx fs) ∧ H b = some (.ins C dx2 fs2) ∧ sp [.ref a, .ref b] H (fun v H' => (∃ p, v = .ref p) ∧ Q v H') E0
theorem op_orO (c : OrO X.K C g) (F : FnOk X.prog X.w X.K X.mg X.base CX0 k g fd ps sp) (hr : Room k X.A) (hb : Binds X.K fd ps []) : OpR X (binaryOp .BitOr) (rOrO C sp) := by
  intro pins s σ H x y v u Q I rx ry h
  obtain ⟨p, p2, dx, dx2, fs, fs2, rfl, rfl, hp, hp2, q⟩ := h
  obtain rfl : v = Value.ref p := rx
  obtain rfl : u = Value.ref p2 := ry
  obtain ⟨mA, O, _⟩ := ins_get I.hok hp
  obtain ⟨od, J, _⟩ := O.look
  obtain ⟨mA2, O2, _⟩ := ins_get I.hok hp2
  obtain ⟨od2, J2, _⟩ := O2.look
  obtain ⟨m, F2⟩ := I.fr
  refine PySem.W.binop_K (op := .BitOr) F2 I.ok.mod.kin J J2.type c.sf c.at_ c.fn (thn (call_own (A := X.A) (vs := [.ref p, .ref p2]) rfl F hr hb I (.cons rfl (.cons rfl .nil)) q) fun u2 s2 ⟨v2, H2, I2, r2, ⟨p3, e3⟩, q3⟩ => ?_)
  subst e3
  obtain rfl : u2 = Value.ref p3 := r2
  exact ⟨.ref p3, _, I2, rfl, q3⟩
end
theorem step_len {g : Bool} {rule : Rule} {row : Row} {a : Int} : (stepR g rule row a).length = rule.length := List.length_map ..
theorem rule_at {st : Sta} (ok : st.Ok) {i : Nat} (h : i < st.kinds.length) : RuleOk st.start.length (st.rules.getD i []) := by
  have hl := ok.rules.1
  refine ok.rules.2 _ ?_
  rw [List.getD_eq_getElem?_getD, List.getElem?_eq_getElem (by omega)]
  exact List.getElem_mem _
theorem stp_len {st : Sta} (ok : st.Ok) {e : Ev} (h : e.1 < st.kinds.length) (row : Row) : (st.stp row e).length = st.start.length := by
  unfold Sta.stp
  rw [step_len]
  exact (rule_at ok h).1
theorem run_len {st : Sta} (ok : st.Ok) : ∀ {log : List Ev} {row : Row}, (∀ e ∈ log, e.1 < st.kinds.length) → row.length = st.start.length → (st.run row log).length = st.start.length
  | [], row, _, h => h
  | e :: r, row, hl, h => run_len ok (log := r) (row := st.stp row e) (fun x hx => hl x (List.mem_cons_of_mem _ hx)) (stp_len ok (hl e List.mem_cons_self) row)
theorem run_take {st : Sta} {log : List Ev} {i : Nat} {e : Ev} (row : Row) (h : log[i]? = some e) : st.run row (log.take (i + 1)) = st.stp (st.run row (log.take i)) e := by
  unfold Sta.run
  rw [take_succ_of h, List.foldl_append]
  rfl
theorem res_eq (st : Sta) (row : Row) : st.res row = resR st.g st.ends row := rfl
section
variable {K : PySem.W.Frag} {mg : Str → Option Value}
def spCall (T : Tc K mg) : Sp := fun vs H Q _ => ∃ (st : Sta) (log : List Ev) (v vl : V), vs = [v, vl] ∧ StI T H st v ∧ st.Ok ∧ RLog K st.kinds H log vl ∧ LogOk st.kinds log ∧ ∀ H', Kp [] H H' → Q (optV (st.res (st.run st.row log))) H'
end
section
variable {P : Program} {w : World} {K : PySem.W.Frag} {mg : Str → Option Value} {base : Heap}
theorem m_sCall (T : Tc K mg) : ∃ fd, FnOk P w K mg base CX0 6 T.fCall fd pSCall (spCall T) ∧ Binds K fd pSCall [] := by
  refine methOf T.dCall scSCall (fun vs H Q E h => ?_) (fun cdv A outer s H vs Q E hr h => ?_)
  · obtain ⟨_, _, _, _, rfl, _⟩ := h
    rfl
  · obtain ⟨st, log, v, vl, rfl, ⟨a, dx, vk, v1, vr, ve, rfl, ha, h1, h2, h3, h4⟩, ok, hl, lok, q⟩ := h
    have TX := T.tx
    obtain ⟨u, hu⟩ := T.side st.g
    obtain ⟨fdg, FG, hbg⟩ := m_sGet (P := P) (w := w) (base := base) T
    have c := T.cls st.g
    obtain ⟨al, its, rfl, hal, hits⟩ := id hl
    refine ⟨_, pss_cons (ps_expr (pe_c (c_checkLog TX) hr (pa_cons (pv 1) (pa_cons (pe_fld (pv 0) rfl) pa_nil))))
      (pss_cons (ps_set (i := 2) scSCall.nd rfl (Or.inl rfl) (pe_fld (pv 0) rfl))
      (pss_cons (ps_for PassesOwn.never rfl (pi_tup (pv 1)) (pg_tup rfl (pgs_cons (pg_name (i := 3) scSCall.nd rfl (Or.inl rfl)) (pgs_cons (pg_name (i := 4) scSCall.nd rfl (Or.inl rfl)) pgs_nil)))
        (pss_one (ps_set (i := 2) scSCall.nd rfl (Or.inl rfl) (pe_c (c_stepped TX) hr (pa_cons (pe_con (pv 0) rfl) (pa_cons (pe_ixO (T.get st.g) FG (hr.mono (by decide)) hbg (pv 0) (pv 3)) (pa_cons (pv 2) (pa_cons (pv 4) pa_nil))))))))
      (pss_one (ps_ret (pe_c (c_readOut TX) hr (pa_cons (pe_con (pv 0) rfl) (pa_cons (pe_fld (pv 0) rfl) (pa_cons (pv 2) pa_nil)))))))), ?_⟩
    refine ⟨_, rfl, _, rfl, a, _, dx, _, _, rfl, ha, c, T.no _ _ (by decide +kernel), lk_kinds, st.kinds, log, .ref al, vk, rfl, hl, h1, lok, ok.kinds.2.1, fun H1 k1 => ?_⟩
    refine ⟨_, rfl, a, _, dx, _, _, rfl, k1 _ _ (by simp) ha, c, T.no _ _ (by decide +kernel), lk_start, ?_⟩
    refine ⟨_, rfl, al, rfl, ⟨_, sqT_tst hal k1.tst0⟩, for_tup (xs := its) (fun i σ' H' => Kp [] H H' ∧ ∃ vc x y, RRow K H' (st.run st.row (log.take i)) vc ∧ σ' = [some (.ref a), some (.ref al), some vc, x, y]) ⟨k1, v1, none, none, stbRow _ _ _ _ k1.tst0 h2, rfl⟩ (fun _ _ _ _ h => sqT_tst hal h.1.tst0) (fun i x σ' H2 hx hp => ?_) fun σ' H2 hp => ?_⟩
    · obtain ⟨k2, vc, x3, x4, hvc, rfl⟩ := hp
      obtain ⟨e, he, p, rfl, hp⟩ := paired_get' hits hx
      obtain ⟨e1, e2⟩ := lok.2 e (List.mem_of_getElem? he)
      have hrl := run_len (log := log.take i) (row := st.row) ok (fun x hx => (lok.2 x (List.mem_of_mem_take hx)).1) (row_len st)
      refine ⟨p, _, rfl, sqT_tst hp k2.tst0, rfl, _, _, rfl, _, _, rfl, rfl, ?_⟩
      refine ⟨_, rfl, a, _, dx, _, _, u, rfl, k2 _ _ (by simp) ha, c, hu, lk_not, _, rfl, _, rfl, a, dx, _, rfl, k2 _ _ (by simp) ha, ?_⟩
      have hst2 : StI T H2 st (.ref a) := stbSt _ _ _ _ k2.tst0 ⟨a, dx, vk, v1, vr, ve, rfl, ha, h1, h2, h3, h4⟩
      refine ⟨st, _, e.1, rfl, hst2, ok, e1, fun ur H3 k3 hr3 => ?_⟩
      refine ⟨_, rfl, _, rfl, st.g, st.rules.getD e.1 [], st.run st.row (log.take i), e.2, ur, vc, rfl, hr3, stbRow _ _ _ _ k3.tst0 hvc, by rw [hrl]; exact rule_at ok e1, by rw [hrl, ← row_len]; exact ok.start.1.2, fun p2 H4 k4 h4 => ?_⟩
      refine ⟨(k2.trans k3).trans k4, _, _, _, ⟨p2, _, rfl, SqT.of h4, ?_⟩, rfl⟩
      rw [run_take _ he]
      exact paired_of_map (F := ROpt H4) optV (fun _ => rfl) _
    · obtain ⟨k2, vc, x3, x4, hvc, rfl⟩ := hp
      have hli := Paired.length hits
      rw [← hli, List.take_length] at hvc
      have hrl := run_len (log := log) (row := st.row) ok (fun x hx => (lok.2 x hx).1) (row_len st)
      refine ⟨_, rfl, a, _, dx, _, _, u, rfl, k2 _ _ (by simp) ha, c, hu, lk_not, _, rfl, a, _, dx, _, _, rfl, k2 _ _ (by simp) ha, c, T.no _ _ (by decide +kernel), lk_ends, _, rfl, st.g, st.start.length, st.ends, _, ve, vc, rfl, stbEnds _ _ _ _ k2.tst0 h4, hvc, hrl, ok.ends, fun H3 k3 => q _ (k2.trans k3)⟩
end
end TP
set_option Elab.async false
set_option linter.all false
set_option maxRecDepth 100000
set_option maxHeartbeats 4000000
/-! the mathematics of one | other -/
namespace TP
open PySem
def rTm (s : Nat) (t : Tm) : Tm := if h : t.val ≠ 0 ∧ t.val ≠ 13 ∧ t.val + 2 * s ≤ 12 then ⟨t.val + 2 * s, by omega⟩ else t
def rReg (s : Nat) (k : _root_.Fin 6) : _root_.Fin 6 := if h : k.val + s < 6 then ⟨k.val + s, h⟩ else k
def rRule (s : Nat) (r : Rule) : Rule := r.map fun ts => ts.map (rTm s)
def Sta.union (a b : Sta) : Sta := { g := a.g, kinds := a.kinds, start := a.start ++ b.start, rules := List.zipWith (fun r1 r2 => r1 ++ rRule a.start.length r2) a.rules b.rules, ends := a.ends ++ b.ends.map (rReg a.start.length) }
theorem rTm_val {s : Nat} {t : Tm} {n : Nat} (h : t.val = 13 ∨ t.val ≤ 2 * n) (hn : n + s ≤ 6) : (rTm s t).val = if t.val = 0 ∨ t.val = 13 then t.val else t.val + 2 * s := by
  unfold rTm
  split
  · rename_i q
    rw [if_neg (by omega)]
  · rename_i q
    rw [if_pos (by omega)]
theorem rReg_val {s : Nat} {k : _root_.Fin 6} (h : k.val + s < 6) : (rReg s k).val = k.val + s := by
  unfold rReg
  rw [dif_pos h]
theorem src_val (t : Tm) : tmSrc t = if t.val = 0 ∨ t.val = 13 then none else some ((t.val - 1) / 2) := rfl
theorem tk_val (t : Tm) : tmTk t = (decide (t.val = 13) || (decide (t.val ≠ 0) && decide (t.val % 2 = 0))) := rfl
theorem rTm_src {s n : Nat} {t : Tm} (h : t.val = 13 ∨ t.val ≤ 2 * n) (hn : n + s ≤ 6) : tmSrc (rTm s t) = (tmSrc t).map (· + s) := by
  rw [src_val, src_val, rTm_val h hn]
  by_cases q : t.val = 0 ∨ t.val = 13
  · rw [if_pos q, if_pos q]
    rfl
  · rw [if_neg q, if_neg q, if_neg (by omega)]
    show some _ = some ((t.val - 1) / 2 + s)
    congr 1
    omega
theorem rTm_tk {s n : Nat} {t : Tm} (h : t.val = 13 ∨ t.val ≤ 2 * n) (hn : n + s ≤ 6) : tmTk (rTm s t) = tmTk t := by
  rw [tk_val, tk_val, rTm_val h hn]
  by_cases q : t.val = 0 ∨ t.val = 13
  · rw [if_pos q]
  · rw [if_neg q]
    have e1 : decide (t.val + 2 * s = 13) = decide (t.val = 13) := by
      rw [decide_eq_false (by omega), decide_eq_false (by omega)]
    have e2 : decide (t.val + 2 * s ≠ 0) = decide (t.val ≠ 0) := by
      rw [decide_eq_true (by omega), decide_eq_true (by omega)]
    have e3 : (t.val + 2 * s) % 2 = t.val % 2 := by omega
    rw [e1, e2, e3]
theorem getD_app1 {l m : Row} {k : Nat} (h : k < l.length) : (l ++ m).getD k none = l.getD k none := by
  rw [List.getD_eq_getElem?_getD, List.getD_eq_getElem?_getD, List.getElem?_append_left h]
theorem getD_app2 {l m : Row} {k : Nat} : (l ++ m).getD (k + l.length) none = m.getD k none := by
  rw [List.getD_eq_getElem?_getD, List.getD_eq_getElem?_getD, List.getElem?_append_right (by omega), show k + l.length - l.length = k by omega]
theorem tval_app1 {l m : Row} {a : Int} {t : Tm} (h : t.val = 13 ∨ t.val ≤ 2 * l.length) : tval (l ++ m) a t = tval l a t := by
  unfold tval
  cases e : tmSrc t with
  | none => rfl
  | some k =>
    have : k < l.length := by
      rw [src_val] at e
      by_cases q : t.val = 0 ∨ t.val = 13
      · rw [if_pos q] at e; cases e
      · rw [if_neg q] at e
        have := Option.some.inj e
        omega
    show Option.map _ _ = Option.map _ _
    rw [getD_app1 this]
theorem tval_app2 {l m : Row} {a : Int} {t : Tm} (h : t.val = 13 ∨ t.val ≤ 2 * m.length) (hn : m.length + l.length ≤ 6) : tval (l ++ m) a (rTm l.length t) = tval m a t := by
  unfold tval
  rw [rTm_src h hn, rTm_tk h hn]
  cases e : tmSrc t with
  | none => rfl
  | some k =>
    show Option.map _ _ = Option.map _ _
    rw [getD_app2]
theorem step_app {g : Bool} {r1 r2 : Rule} {l m : Row} {a : Int} (h1 : RuleOk l.length r1) (h2 : RuleOk m.length r2) (hn : m.length + l.length ≤ 6) :
    stepR g (r1 ++ rRule l.length r2) (l ++ m) a = stepR g r1 l a ++ stepR g r2 m a := by
  unfold stepR rRule
  rw [List.map_append, List.map_map]
  congr 1
  · refine List.map_congr_left fun ts hts => ?_
    congr 1
    exact List.map_congr_left fun t ht => tval_app1 ((h1.2 ts hts).2 t ht)
  · refine List.map_congr_left fun ts hts => ?_
    show best g ((ts.map (rTm l.length)).map (tval (l ++ m) a)) = best g (ts.map (tval m a))
    rw [List.map_map]
    congr 1
    exact List.map_congr_left fun t ht => tval_app2 ((h2.2 ts hts).2 t ht) hn
theorem res_app {g : Bool} {e1 e2 : List (_root_.Fin 6)} {l m : Row} (h1 : ∀ k ∈ e1, k.val < l.length) (h2 : ∀ k ∈ e2, k.val < m.length) (hn : m.length + l.length ≤ 6) :
    resR g (e1 ++ e2.map (rReg l.length)) (l ++ m) = cmb g (resR g e1 l) (resR g e2 m) := by
  unfold resR
  rw [List.map_append, best_append, List.map_map]
  congr 2
  · exact List.map_congr_left fun k hk => getD_app1 (h1 k hk)
  · refine List.map_congr_left fun k hk => ?_
    have := h2 k hk
    show (l ++ m).getD (rReg l.length k).val none = _
    rw [rReg_val (by omega), getD_app2]
theorem getD_zip {a b : List Rule} {s : Nat} {i : Nat} (h : i < a.length) (h2 : i < b.length) : (List.zipWith (fun r1 r2 => r1 ++ rRule s r2) a b).getD i [] = a.getD i [] ++ rRule s (b.getD i []) := by
  rw [List.getD_eq_getElem?_getD, List.getD_eq_getElem?_getD, List.getD_eq_getElem?_getD, List.getElem?_zipWith, List.getElem?_eq_getElem h, List.getElem?_eq_getElem h2]
  rfl
theorem union_row (a b : Sta) : (a.union b).row = a.row ++ b.row := List.map_append
theorem union_from {a b : Sta} (oa : a.Ok) (ob : b.Ok) (hg : a.g = b.g) (hk : a.kinds = b.kinds) (hn : b.start.length + a.start.length ≤ 6) :
    ∀ (log : List Ev) (l m : Row), (∀ e ∈ log, e.1 < a.kinds.length) → l.length = a.start.length → m.length = b.start.length →
      (a.union b).resultsFrom (l ++ m) log = List.zipWith (cmb a.g) (a.resultsFrom l log) (b.resultsFrom m log) := by
  intro log
  have hres : ∀ l m : Row, l.length = a.start.length → m.length = b.start.length → (a.union b).res (l ++ m) = cmb a.g (a.res l) (b.res m) := by
    intro l m hl hm
    show resR a.g (a.ends ++ b.ends.map (rReg a.start.length)) (l ++ m) = cmb a.g (resR a.g a.ends l) (resR b.g b.ends m)
    rw [← hl, res_app (fun k hk => by rw [hl]; exact oa.ends.2.2 k hk) (fun k hk => by rw [hm]; exact ob.ends.2.2 k hk) (by omega), hg]
  induction log with
  | nil =>
    intro l m _ hl hm
    show [(a.union b).res (l ++ m)] = [cmb a.g (a.res l) (b.res m)]
    rw [hres l m hl hm]
  | cons e log ih =>
    intro l m hlog hl hm
    have he := hlog e List.mem_cons_self
    have he2 : e.1 < b.kinds.length := by rw [← hk]; exact he
    have hs : (a.union b).stp (l ++ m) e = a.stp l e ++ b.stp m e := by
      show stepR a.g ((List.zipWith (fun r1 r2 => r1 ++ rRule a.start.length r2) a.rules b.rules).getD e.1 []) (l ++ m) e.2 = stepR a.g (a.rules.getD e.1 []) l e.2 ++ stepR b.g (b.rules.getD e.1 []) m e.2
      rw [getD_zip (by rw [oa.rules.1]; exact he) (by rw [ob.rules.1]; exact he2), ← hl, step_app (by rw [hl]; exact rule_at oa he) (by rw [hm]; exact rule_at ob he2) (by omega), hg]
    show (a.union b).res (l ++ m) :: (a.union b).resultsFrom ((a.union b).stp (l ++ m) e) log = cmb a.g (a.res l) (b.res m) :: List.zipWith (cmb a.g) (a.resultsFrom (a.stp l e) log) (b.resultsFrom (b.stp m e) log)
    rw [hres l m hl hm, hs, ih _ _ (fun x hx => hlog x (List.mem_cons_of_mem _ hx)) (stp_len oa he l) (stp_len ob he2 m)]
theorem results_union {a b : Sta} (oa : a.Ok) (ob : b.Ok) (hg : a.g = b.g) (hk : a.kinds = b.kinds) (hn : b.start.length + a.start.length ≤ 6) {log : List Ev} (hl : ∀ e ∈ log, e.1 < a.kinds.length) :
    (a.union b).results log = List.zipWith (cmb a.g) (a.results log) (b.results log) := by
  unfold Sta.results
  rw [union_row]
  exact union_from oa ob hg hk hn log _ _ hl (row_len a) (row_len b)
theorem rTm_mono {s n : Nat} (hn : n + s ≤ 6) {a b : Tm} (ha : a.val = 13 ∨ a.val ≤ 2 * n) (hb : b.val = 13 ∨ b.val ≤ 2 * n) (h : a.val < b.val) : (rTm s a).val < (rTm s b).val := by
  rw [rTm_val ha hn, rTm_val hb hn]
  have := b.isLt
  split <;> split <;> omega
theorem pairwise_map_in {α β : Type} {R : α → α → Prop} {S : β → β → Prop} {f : α → β} : ∀ {l : List α}, (∀ a ∈ l, ∀ b ∈ l, R a b → S (f a) (f b)) → l.Pairwise R → (l.map f).Pairwise S
  | [], _, _ => .nil
  | a :: l, h, p => by
    obtain ⟨p1, p2⟩ := List.pairwise_cons.mp p
    refine List.pairwise_cons.mpr ⟨fun y hy => ?_, pairwise_map_in (fun x hx y hy => h x (List.mem_cons_of_mem _ hx) y (List.mem_cons_of_mem _ hy)) p2⟩
    obtain ⟨b, hb, rfl⟩ := List.mem_map.mp hy
    exact h a List.mem_cons_self b (List.mem_cons_of_mem _ hb) (p1 b hb)
theorem raise_ok {s n : Nat} (hn : n + s ≤ 6) {ts : List Tm} (h : TermsOk n ts) : TermsOk (s + n) (ts.map (rTm s)) := by
  refine ⟨pairwise_map_in (fun a ha b hb q => rTm_mono hn (h.2 a ha) (h.2 b hb) q) h.1, fun t ht => ?_⟩
  obtain ⟨u, hu, rfl⟩ := List.mem_map.mp ht
  have := h.2 u hu
  rw [rTm_val this hn]
  split <;> omega
theorem terms_mono {n m : Nat} (h : n ≤ m) {ts : List Tm} (q : TermsOk n ts) : TermsOk m ts := ⟨q.1, fun t ht => (q.2 t ht).imp id fun z => by omega⟩
theorem union_ok {a b : Sta} (oa : a.Ok) (ob : b.Ok) (hk : a.kinds = b.kinds) (hn : b.start.length + a.start.length ≤ 6) : (a.union b).Ok := by
  have hlen : (a.union b).start.length = a.start.length + b.start.length := List.length_append
  refine ⟨oa.kinds, ⟨⟨?_, ?_⟩, fun o ho => ?_⟩, ⟨?_, fun r hr => ?_⟩, ⟨?_, ?_, fun k hk2 => ?_⟩⟩
  · rw [row_len, hlen]
    have := oa.start.1.1
    rw [row_len] at this
    omega
  · rw [row_len, hlen]; omega
  · rw [union_row] at ho
    exact (List.mem_append.mp ho).elim (oa.start.2 o) (ob.start.2 o)
  · show (List.zipWith _ a.rules b.rules).length = a.kinds.length
    rw [List.length_zipWith, oa.rules.1, ob.rules.1, ← hk, Nat.min_self]
  · obtain ⟨i, hi⟩ := List.getElem?_of_mem hr
    have hi : (List.zipWith (fun r1 r2 => r1 ++ rRule a.start.length r2) a.rules b.rules)[i]? = some r := hi
    rw [List.getElem?_zipWith] at hi
    cases h1 : a.rules[i]? with
    | none => rw [h1] at hi; cases hi
    | some r1 =>
      cases h2 : b.rules[i]? with
      | none => rw [h1, h2] at hi; cases hi
      | some r2 =>
        rw [h1, h2] at hi
        obtain rfl : r1 ++ rRule a.start.length r2 = r := Option.some.inj hi
        obtain ⟨l1, t1⟩ := oa.rules.2 r1 (List.mem_of_getElem? h1)
        obtain ⟨l2, t2⟩ := ob.rules.2 r2 (List.mem_of_getElem? h2)
        refine ⟨?_, fun ts hts => ?_⟩
        · unfold rRule
          rw [List.length_append, List.length_map, hlen, l1, l2]
        · rw [hlen]
          rcases List.mem_append.mp hts with q | q
          · exact terms_mono (Nat.le_add_right _ _) (t1 ts q)
          · obtain ⟨us, hus, rfl⟩ := List.mem_map.mp q
            exact raise_ok hn (t2 us hus)
  · show a.ends ++ _ ≠ []
    intro z
    exact oa.ends.1 (List.append_eq_nil_iff.mp z).1
  · show (a.ends ++ b.ends.map (rReg a.start.length)).Pairwise _
    refine List.pairwise_append.mpr ⟨oa.ends.2.1, pairwise_map_in (fun x hx y hy q => ?_) ob.ends.2.1, fun x hx y hy => ?_⟩
    · have h1 := ob.ends.2.2 x hx
      have h2 := ob.ends.2.2 y hy
      rw [rReg_val (by omega), rReg_val (by omega)]
      omega
    · obtain ⟨z, hz, rfl⟩ := List.mem_map.mp hy
      have h1 := oa.ends.2.2 x hx
      have h2 := ob.ends.2.2 z hz
      rw [rReg_val (by omega)]
      omega
  · rw [hlen]
    rcases List.mem_append.mp (show k ∈ a.ends ++ b.ends.map (rReg a.start.length) from hk2) with q | q
    · have := oa.ends.2.2 k q
      omega
    · obtain ⟨z, hz, rfl⟩ := List.mem_map.mp q
      have h2 := ob.ends.2.2 z hz
      rw [rReg_val (by omega)]
      omega
end TP
set_option Elab.async false
set_option linter.all false
set_option maxRecDepth 100000
set_option maxHeartbeats 4000000
/-! one | other -/
namespace TP
open PySem PySem.Spec PyProof.Rows L2
theorem asc_sorted : ∀ {l : List Str}, l.Pairwise (fun a b => a.cps.toList < b.cps.toList) → l.Pairwise (fun a b => ¬ b.cps.toList < a.cps.toList) := fun h => h.imp fun h1 h2 => List.lt_irrefl _ (List.lt_trans h1 h2)
theorem rising_le : ∀ {l : List Str} {p : Str}, risingS p l = true → (p :: l).Pairwise (fun a b => ¬ b.cps.toList < a.cps.toList)
  | [], p, _ => by simp
  | x :: r, p, h => by
    have h2 : (!ltCps x.cps.toList p.cps.toList && risingS x r) = true := h
    rw [Bool.and_eq_true, Bool.not_eq_true', ltCps_eq] at h2
    obtain ⟨h3, h4⟩ := h2
    have ih := rising_le h4
    have h3 := of_decide_eq_false h3
    refine List.pairwise_cons.mpr ⟨fun y hy => ?_, ih⟩
    rcases List.mem_cons.mp hy with rfl | hy
    · exact h3
    · have h5 := (List.pairwise_cons.mp ih).1 y hy
      intro z
      rcases Classical.em (y.cps.toList < x.cps.toList) with q | q
      · exact h5 q
      · have : x.cps.toList ≤ y.cps.toList := List.not_lt.mp q
        exact h3 (List.lt_of_le_of_lt this z)
theorem sorted_le : ∀ {l : List Str}, sortedS l = true → l.Pairwise (fun a b => ¬ b.cps.toList < a.cps.toList)
  | [], _ => .nil
  | x :: r, h => rising_le h
theorem str_ext {a b : Str} (h : a.cps.toList = b.cps.toList) : a = b := by
  obtain ⟨⟨x⟩⟩ := a
  obtain ⟨⟨y⟩⟩ := b
  exact congrArg (fun l : List Nat => (⟨⟨l⟩⟩ : Str)) h
theorem sorted_uniq {ys xs : List Str} (hp : ys.Perm xs) (hs : sortedS ys = true) (hx : xs.Pairwise (fun a b => a.cps.toList < b.cps.toList)) : ys = xs :=
  hp.eq_of_pairwise (fun a b _ _ h1 h2 => str_ext (List.le_antisymm (List.not_lt.mp h1) (List.not_lt.mp h2))) (sorted_le hs) (asc_sorted hx)
theorem raised_txt : ∀ k s : _root_.Fin 6, k.val + s.val < 6 → ((Str.empty ++ ("r" : Str)) ++ Str.ofString (toString (((k.val : Nat) : Int) + ((s.val : Nat) : Int)))) = regS (rReg s.val k) := by decide +kernel
theorem raised_log : ∀ k s : _root_.Fin 6, k.val + s.val < 6 → ((((k.val : Nat) : Int) + ((s.val : Nat) : Int))).natAbs.log2 < 1920 := by decide +kernel
theorem tms_pw {ts : List Tm} (h : ts.Pairwise (fun a b => a.val < b.val)) : (ts.map tmS).Pairwise (fun a b => a.cps.toList < b.cps.toList) := pairwise_map_in (fun a _ b _ q => tm_lt a b q) h
def spRaised : Sp := fun vs H Q _ => ∃ (k : _root_.Fin 6) (s : Nat), vs = [.str (regS k), .int s] ∧ k.val + s < 6 ∧ Q (.str (regS (rReg s k))) H
def spRaisedRule (K : PySem.W.Frag) : Sp := fun vs H Q _ => ∃ (s n : Nat) (r : Rule) (v : V), vs = [v, .int s] ∧ RRule K H r v ∧ RuleOk n r ∧ n + s ≤ 6 ∧ n ≤ 6 ∧ ∀ p vs' H', Kp [] H H' → H' p = some (.tup vs') → Paired (RTerms K H') (rRule s r) vs' → Q (.ref p) H'
theorem src_raise : ∀ (s : _root_.Fin 7) (t : Tm), t.val ≠ 0 → t.val ≠ 13 → t.val + 2 * s.val ≤ 12 → ∃ k : _root_.Fin 6, srcS t = regS k ∧ k.val + s.val < 6 ∧ srcS (rTm s.val t) = regS (rReg s.val k) ∧ tmTk (rTm s.val t) = tmTk t ∧ srcS t ≠ "0" := by decide +kernel
theorem src_keep : ∀ (s : _root_.Fin 7) (t : Tm), t.val = 0 ∨ t.val = 13 → rTm s.val t = t := by decide +kernel
theorem eqv_strs : ∀ l : List Str, PyData.eqv (.tuple (l.map PyData.str)) (.tuple (l.map PyData.str)) = true := by
  have h : ∀ l : List Str, PyData.eqvAll (l.map PyData.str) (l.map PyData.str) = true := by
    intro l
    induction l with
    | nil => rfl
    | cons z l ih =>
      rw [List.map_cons, PyData.eqvAll, ih, PyData.eqv]
      simp
  intro l
  rw [PyData.eqv]
  exact h l
theorem letters_small : ∀ c ∈ letters.cps.toList, c < 0x110000 := by decide +kernel
theorem KN.ok {z : Str} (h : KN z) : PyData.strOk z = true := by
  unfold PyData.strOk
  rw [← Array.all_toList, List.all_eq_true]
  intro c hc
  exact decide_eq_true (letters_small c (h.2.2 c hc))
theorem pa_starK {X : Cx} {e : Expr} {es : List Expr} {te : TE} {t : TA} {p : Pos} (K0 : PySem.W.Frag) (hK : X.K = K0) (he : PE X e te) (hr : PA X es t) (hs : starEach (.Starred e p :: es) X.env = (true, eval e X.env) :: starEach es X.env := by rfl) : PA X (.Starred e p :: es) (StX.tStar K0 te t) := by
  subst hK
  exact StX.pa_star he hr hs
section
variable {P : Program} {w : World} {K : PySem.W.Frag} {mg : Str → Option Value} {base : Heap}
theorem c_raised (T : Tx K mg) : Cal P w K mg base 1 "raised" spRaised := by
  refine calOf T.raised scRaised (fun vs H Q E h => ?_) (fun f cdv A outer s H vs Q E hr h => ?_)
  · obtain ⟨_, _, rfl, _⟩ := h
    rfl
  · obtain ⟨k, s, rfl, hk, q⟩ := h
    refine ⟨_, pss_one (ps_ret (pe_joined (.cons pe_str (.cons (pe_fmt (pe_op op_add (pe_callTy call_int_str rfl T.f (by decide +kernel) (pa_cons (pe_slice sl_str (pv 0) (po_some pe_int) po_none) pa_nil)) (pv 1))) .nil)))), ?_⟩
    have e1 : cutS (regS k) (some 1) none = digS k := by rw [← sliceText_cut]; exact cut_reg k
    refine ⟨_, rfl, sz 1, _, rfl, _, rfl, _, rfl, Nat.le_trans (reg_short k) (sz 2), ?_⟩
    rw [e1]
    refine ⟨_, _, rfl, int_dig k, dig_len k, _, rfl, _, _, rfl, rfl, .inr ⟨_, rfl, raised_log k ⟨s, by omega⟩ hk, _, rfl, ?_, ?_⟩⟩
    · have := raised_txt k ⟨s, by omega⟩ hk
      have h2 := reg_short (rReg s k)
      show ((Str.empty ++ ("r" : Str)) ++ Str.ofString (toString (((k.val : Nat) : Int) + ((s : Nat) : Int)))).length ≤ sizeLine
      rw [show ((Str.empty ++ ("r" : Str)) ++ Str.ofString (toString (((k.val : Nat) : Int) + ((s : Nat) : Int)))) = regS (rReg s k) from this]
      exact Nat.le_trans h2 (sz 2)
    · have := raised_txt k ⟨s, by omega⟩ hk
      show Q (.str ((Str.empty ++ ("r" : Str)) ++ Str.ofString (toString (((k.val : Nat) : Int) + ((s : Nat) : Int))))) H
      rw [show ((Str.empty ++ ("r" : Str)) ++ Str.ofString (toString (((k.val : Nat) : Int) + ((s : Nat) : Int)))) = regS (rReg s k) from this]
      exact q
theorem c_raisedRule (T : Tx K mg) : Cal P w K mg base 2 "raised_rule" (spRaisedRule K) := by
  refine calOf T.raisedRule scRaisedRule (fun vs H Q E h => ?_) (fun f cdv A outer s H vs Q E hr h => ?_)
  · obtain ⟨_, _, _, _, rfl, _⟩ := h
    rfl
  · obtain ⟨sh, n, rule, vr, rfl, ⟨ar, its, rfl, har, hits⟩, ⟨hrl, hok⟩, hn, h6, q⟩ := h
    refine ⟨_, pss_cons (ps_set (i := 2) scRaisedRule.nd rfl (Or.inl rfl) (pe_lst pa_nil))
      (pss_cons (ps_for PassesOwn.never rfl (pi_tup (pv 0)) (pg_name (i := 3) scRaisedRule.nd rfl (Or.inl rfl))
        (pss_cons (ps_set (i := 4) scRaisedRule.nd rfl (Or.inl rfl) (pe_lst pa_nil))
        (pss_cons (ps_for PassesOwn.never rfl (pi_list (pe_lc (own := [("term", 7)]) (g := gName 7) (tt := tYes) rfl scRaisedRule.nd (pi_tup (pv 3)) (blkOk_by (N := nRaisedRule) (sc := defScope sRaisedRule) (by decide +kernel))
            (fun _ _ _ _ _ => pg_name (i := 7) scRaisedRule.nd rfl (Or.inl rfl)) (fun _ _ _ _ _ => pts_nil) (fun _ _ _ _ _ => pe_c (c_sourceOf T) hr (pa_cons (pv 7) pa_nil))))
          (pg_tup rfl (pgs_cons (pg_name (i := 5) scRaisedRule.nd rfl (Or.inl rfl)) (pgs_cons (pg_name (i := 6) scRaisedRule.nd rfl (Or.inl rfl)) pgs_nil)))
          (pss_one (ps_expr (pe_bm PySem.F.plainAttrs_list PySem.F.slot_list_append PySem.F.type_list_append mt_append (pv 4)
            (pa_cons (pe_c (c_termFrom T) hr (pa_cons (pe_ifExp (pt_cmpR op_eq (pv 5) pe_str (nomark _)) (pv 5) (pe_c (c_raised T) hr (pa_cons (pv 5) (pa_cons (pv 1) pa_nil)))) (pa_cons (pv 6) pa_nil))) pa_nil)))))
        (pss_one (ps_expr (pe_bm PySem.F.plainAttrs_list PySem.F.slot_list_append PySem.F.type_list_append mt_append (pv 2) (pa_cons (pe_callTy call_tuple_of rfl T.f (by decide +kernel) (pa_cons (pe_callB cr_sortedS rfl T.f (by decide +kernel) (pa_cons (pv 4) pa_nil)) pa_nil)) pa_nil)))))))
      (pss_one (ps_ret (pe_callTy call_tuple_of rfl T.f (by decide +kernel) (pa_cons (pv 2) pa_nil))))), ?_⟩
    refine ⟨sz 0, fun fl hfl => ?_⟩
    have k3 : Kp [] H (upd H fl (.lst [])) := .new hfl
    refine ⟨_, rfl, ar, rfl, ⟨_, sqT_tst har k3.tst0⟩, for_tup (xs := its) (fun i σ' H' => Kp [] H H' ∧ (∃ acc, H' fl = some (.lst acc) ∧ Paired (RTerms K H') (rRule sh (rule.take i)) acc) ∧
      ∃ x3 x4 x5 x6, σ' = [some (.ref ar), some (.int sh), some (.ref fl), x3, x4, x5, x6, none])
      ⟨k3, ⟨[], upd_same, .nil⟩, none, none, none, none, rfl⟩ (fun _ _ _ _ h => sqT_tst har h.1.tst0) (fun i x σ' H3 hx hp => ?_) fun σ' H3 hp => ?_⟩
    · obtain ⟨k4, ⟨facc, hf4, hfr⟩, x3, x4, x5, x6, rfl⟩ := hp
      obtain ⟨ts, hts1, hts2⟩ := paired_get' hits hx
      obtain ⟨at_, rfl, hat⟩ := terms_eq hts2
      obtain ⟨o1, o2⟩ := hok ts (List.mem_of_getElem? hts1)
      have hi : i < rule.length := (List.getElem?_eq_some_iff.mp hts1).1
      have htl : ts.length ≤ 14 := tms_len o1
      refine ⟨sz 0, fun vl hvl => ?_⟩
      have nvf : fl ≠ vl := ne_of_none hf4 hvl
      have k5 : Kp [] H (upd H3 vl (.lst [])) := k4.newT hvl
      have hvv : upd H3 vl (.lst []) vl = some (.lst []) := upd_same
      have hf5 : upd H3 vl (.lst []) fl = some (.lst facc) := by rw [upd_ne nvf]; exact hf4
      have hfr5 : Paired (RTerms K (upd H3 vl (.lst []))) (rRule sh (rule.take i)) facc := paired_map (fun t v => stbTerms _ _ t v (Kp.new (M := []) hvl).tst0) hfr
      have hvH : H vl = none := k4.fre hvl
      generalize upd H3 vl (.lst []) = H5 at k5 hvv hf5 hfr5
      refine ⟨_, rfl, at_, rfl, ⟨_, sqT_tst hat k5.tst0⟩, fun D2 hD2 => lc_it (walk_tup (xs := (ts.map tmS).map V.str)) (LS D2 [] H5 fun j acc H' => Paired (RPr H') (ts.take j) acc) (LS.start hD2 (fun _ _ _ _ k h => paired_map (fun t v => stbPr _ _ t v k) h) .nil) (fun j H6 _ ⟨acc, _, _, k, _⟩ => sqT_tst hat (k5.trans k).tst0) (fun j x H6 H7 hj hp hy => ?_) fun H6 hp => ?_⟩
      · obtain ⟨acc, hA, hl2, hk, hS⟩ := hp
        obtain ⟨rfl, hx⟩ := hy
        rw [List.getElem?_map, List.getElem?_map] at hx
        obtain ⟨z, hz, rfl⟩ := Option.map_eq_some_iff.mp hx
        obtain ⟨t, ht, rfl⟩ := Option.map_eq_some_iff.mp hz
        refine ⟨rfl, tyes (iteT ?_)⟩
        refine ⟨_, rfl, t, rfl, fun p H8 k8 _ h8 => ?_⟩
        refine LS.put hD2 (by simp) (fun _ _ _ _ k h => paired_map (fun t v => stbPr _ _ t v k) h) ?_ hl2 (k8 _ _ (by simp) hA) (hk.trans k8) ?_
        · have := (List.getElem?_eq_some_iff.mp ht).1
          omega
        · exact paired_snoc (paired_map (fun t v => stbPr _ _ t v k8.tst0) hS) ht ⟨p, rfl, h8⟩
      obtain ⟨acc, hA, hl2, hk, hS⟩ := hp
      rw [List.length_map, List.length_map, List.take_length] at hS
      have nD : D2 ≠ vl := fun z => by rw [z, hvv] at hD2; cases hD2
      have k6 : Kp [] H H6 := k5.trans hk
      have hv6 := hk _ _ (by simp) hvv
      have hf6 := hk _ _ (by simp) hf5
      have hfr6 : Paired (RTerms K H6) (rRule sh (rule.take i)) facc := paired_map (fun t v => stbTerms _ _ t v hk.tst0) hfr5
      have hla := Paired.length hS
      refine ⟨D2, rfl, ⟨_, SqL.of hA⟩, for_list (xs := acc) (fun j σ' H' => Kp [vl] H6 H' ∧ H' vl = some (.lst (((ts.take j).map (rTm sh)).map fun t => V.str (tmS t))) ∧
        ∃ x5 x6, σ' = [some (.ref ar), some (.int sh), some (.ref fl), some (.ref at_), some (.ref vl), x5, x6, none])
        ⟨.refl, hv6, x5, x6, rfl⟩ (fun j σ' H' _ h => SqL.of (h.1 _ _ (by simp [nD]) hA)) (fun j x σ' H7 hx hp => ?_) fun σ' H7 hp => ?_⟩
      · obtain ⟨k7, hv7, y8, y9, rfl⟩ := hp
        obtain ⟨t, ht, p, rfl, hp⟩ := paired_get' hS hx
        have hj : j < ts.length := (List.getElem?_eq_some_iff.mp ht).1
        have npv : p ≠ vl := fun z => by rw [z, hv6] at hp; cases hp
        have hp7 := k7 p _ (by simp [npv]) hp
        have ho2 := o2 t (List.mem_of_getElem? ht)
        have hle : (((ts.take j).map (rTm sh)).map fun t => V.str (tmS t)).length < sizeLine := by
          refine small1000 ?_
          rw [List.length_map, List.length_map, List.length_take]
          omega
        have fin : ∀ z, z = srcS (rTm sh t) → spTermFrom ([.str z, .bl (tmTk t)] ++ []) H7 (fun x H8 => ∃ (l : Addr) (xs : List V) (y : V), V.ref vl = .ref l ∧ [x] = [y] ∧ H8 l = some (.lst xs) ∧ xs.length < sizeLine ∧
            (Kp [vl] H6 (upd H8 l (.lst (xs ++ [y]))) ∧ upd H8 l (.lst (xs ++ [y])) vl = some (.lst (((ts.take (j + 1)).map (rTm sh)).map fun t => V.str (tmS t))) ∧
              ∃ x5 x6, ([some (.ref ar), some (.int sh), some (.ref fl), some (.ref at_), some (.ref vl), some (.str (srcS t)), some (.bl (tmTk t)), none] : L2.St) = [some (.ref ar), some (.int sh), some (.ref fl), some (.ref at_), some (.ref vl), x5, x6, none])) E0 := by
          intro z hz
          refine ⟨rTm sh t, ?_, vl, _, _, rfl, rfl, hv7, hle, k7.trans (.put (by simp)), ?_, _, _, rfl⟩
          · rw [hz, rTm_tk ho2 hn]
            rfl
          · rw [upd_same, take_succ_of ht, List.map_append, List.map_append]
            rfl
        refine ⟨p, _, rfl, SqT.of hp7, rfl, _, _, rfl, _, _, rfl, rfl, ?_⟩
        refine ⟨_, rfl, .inl ⟨rfl, _, SqL.of hv7⟩, ?_⟩
        by_cases hz : t.val = 0 ∨ t.val = 13
        · have e0 := (src_end t hz).1
          have e1 := src_keep ⟨sh, by omega⟩ t hz
          refine ⟨_, rfl, rfl, true, congrArg V.bl (by rw [e0]; exact decide_eq_true rfl), iteT ?_⟩
          exact ⟨_, rfl, _, rfl, fin (srcS t) (by rw [e1])⟩
        · have ht2 : t.val + 2 * sh ≤ 12 := by omega
          obtain ⟨k, e1, e2, e3, e4, e5⟩ := src_raise ⟨sh, by omega⟩ t (fun z => hz (.inl z)) (fun z => hz (.inr z)) ht2
          refine ⟨_, rfl, rfl, false, congrArg V.bl (decide_eq_false fun y => e5 (V.str.inj y)), iteF ?_⟩
          exact ⟨_, rfl, _, rfl, k, sh, by rw [e1]; rfl, e2, _, rfl, fin _ e3.symm⟩
      · obtain ⟨k7, hv7, y8, y9, rfl⟩ := hp
        rw [← hla, List.take_length] at hv7
        have hv7' : H7 vl = some (.lst (((ts.map (rTm sh)).map tmS).map V.str)) := by rw [hv7, List.map_map, List.map_map, List.map_map]; rfl
        have hf7 := k7 fl _ (by simp [nvf]) hf6
        have k8 : Kp [] H H7 := k6.glue k7 hvH
        have hro := raise_ok hn ⟨o1, o2⟩
        refine ⟨_, rfl, .inl ⟨rfl, _, SqL.of hf7⟩, ?_⟩
        refine ⟨_, rfl, vl, (ts.map (rTm sh)).map tmS, rfl, SqL.of hv7', ?_, fun ys p hperm hsort hp => ?_⟩
        · rw [List.length_map, List.length_map]
          omega
        obtain rfl := sorted_uniq hperm hsort (tms_pw hro.1)
        have nvp : fl ≠ p := ne_of_none hf7 hp
        refine ⟨p, _, rfl, .inl ⟨SqL.of upd_same, fun p2 hp2 => ?_⟩⟩
        have nfp : fl ≠ p2 := ne_of_none (by rw [upd_ne nvp]; exact hf7 : upd H7 p _ fl = _) hp2
        have tA : Tst H6 H7 := k7.tst1 hv6
        have tB : Tst H7 (upd (upd H7 p (.lst (((ts.map (rTm sh)).map tmS).map V.str))) p2 (.tup (((ts.map (rTm sh)).map tmS).map V.str))) := (Tst.new hp).trans (.new hp2)
        refine ⟨fl, facc, _, rfl, rfl, by rw [upd_ne nfp, upd_ne nvp]; exact hf7, ?_, (((k8.newT hp).newT hp2).putN hfl), ⟨_, upd_same, ?_⟩, _, _, _, _, rfl⟩
        · refine small1000 ?_
          have := Paired.length hfr
          unfold rRule at this
          rw [List.length_map, List.length_take] at this
          omega
        · have tC : Tst (upd (upd H7 p (.lst (((ts.map (rTm sh)).map tmS).map V.str))) p2 (.tup (((ts.map (rTm sh)).map tmS).map V.str))) (upd (upd (upd H7 p (.lst (((ts.map (rTm sh)).map tmS).map V.str))) p2 (.tup (((ts.map (rTm sh)).map tmS).map V.str))) fl (.lst (facc ++ [.ref p2]))) := .put (by rw [upd_ne nfp, upd_ne nvp]; exact hf7)
          unfold rRule
          rw [take_succ_of hts1, List.map_append]
          refine paired_append (paired_map (fun t v => stbTerms _ _ t v ((tA.trans tB).trans tC)) hfr6) (.cons ?_ .nil)
          refine ⟨p2, _, rfl, sqT_tst (SqT.of upd_same) tC, ?_⟩
          rw [List.map_map]
          exact paired_of_map (F := RTerm _) (V.str ∘ tmS) (fun _ => rfl) _
    · obtain ⟨k4, ⟨facc, hf4, hfr⟩, x3, x4, x5, x6, rfl⟩ := hp
      have hli := Paired.length hits
      rw [← hli, List.take_length] at hfr
      exact ⟨_, rfl, fl, _, rfl, .inl ⟨SqL.of hf4, fun p hp => q p _ _ (k4.newT hp) upd_same (paired_map (fun t v => stbTerms _ _ t v (Tst.new hp)) hfr)⟩⟩
end
end TP
set_option Elab.async false
set_option linter.all false
set_option maxRecDepth 100000
set_option maxHeartbeats 4000000
/-! one | other: the method -/
namespace TP
open PySem PySem.Spec PyProof.Rows L2
section
variable {K : PySem.W.Frag} {mg : Str → Option Value}
def spCheckTwo (T : Tc K mg) : Sp := fun vs H Q _ => ∃ (a b : Sta) (v u : V), vs = [v, u] ∧ StI T H a v ∧ StI T H b u ∧ a.g = b.g ∧ a.kinds = b.kinds ∧ KindsOk a.kinds ∧ Q .non H
def spOr (T : Tc K mg) : Sp := fun vs H Q _ => ∃ (a b : Sta) (v u : V), vs = [v, u] ∧ StI T H a v ∧ StI T H b u ∧ a.Ok ∧ b.Ok ∧ a.g = b.g ∧ a.kinds = b.kinds ∧ b.start.length + a.start.length ≤ 6 ∧ ∀ p H', Kp [] H H' → StI T H' (a.union b) (.ref p) → Q (.ref p) H'
end
section
variable {P : Program} {w : World} {K : PySem.W.Frag} {mg : Str → Option Value} {base : Heap}
theorem c_checkTwo (T : Tc K mg) : Cal P w K mg base 2 "check_two" (spCheckTwo T) := by
  refine calOf T.tx.checkTwo scCheckTwo (fun vs H Q E h => ?_) (fun f cdv A outer s H vs Q E hr h => ?_)
  · obtain ⟨_, _, _, _, rfl, _⟩ := h
    rfl
  · obtain ⟨a, b, v, u, rfl, sa, sb, hg, hk, hko, q⟩ := h
    obtain ⟨pa, da, ka, s1, r1, e1, rfl, ha, ha1, ha2, ha3, ha4⟩ := id sa
    obtain ⟨pb, db, kb, s2, r2, e2, rfl, hb, hb1, hb2, hb3, hb4⟩ := id sb
    obtain ⟨ua, hua⟩ := T.side a.g
    obtain ⟨ub, hub⟩ := T.side b.g
    obtain ⟨qa, rfl, hqa⟩ := kinds_eq ha1
    obtain ⟨qb, rfl, hqb⟩ := kinds_eq hb1
    refine ⟨_, pss_cons (ps_expr (pe_c (c_checkStatistic T) hr (pa_cons (pv 0) pa_nil))) (pss_cons (ps_expr (pe_c (c_checkStatistic T) hr (pa_cons (pv 1) pa_nil)))
      (pss_one (ps_if (PW.pt (pw_or (pt_cmpR op_ne (pe_con (pv 0) rfl) (pe_con (pv 1) rfl) (nomark _)) (pw_or1 (pt_cmpR (op_neD hr.units) (pe_fld (pv 0) rfl) (pe_fld (pv 1) rfl) (nomark _))))) pss_never pss_nil))), ?_⟩
    refine ⟨_, rfl, a, _, rfl, sa, _, rfl, b, _, rfl, sb, ?_⟩
    refine ⟨_, rfl, pa, _, da, _, _, ua, rfl, ha, T.cls _, hua, lk_not, _, rfl, pb, _, db, _, _, ub, rfl, hb, T.cls _, hub, lk_not, rfl, false, ?_, iteF ?_⟩
    · rw [hg]
      simp
    refine ⟨_, rfl, pa, _, da, _, _, rfl, ha, T.cls _, T.no _ _ (by decide +kernel), lk_kinds, _, rfl, pb, _, db, _, _, rfl, hb, T.cls _, T.no _ _ (by decide +kernel), lk_kinds, ?_⟩
    refine ⟨_, _, .tup hqa (dp_strs _), .tup hqb (dp_strs _), shaped_strs fun z hz => (hko.2.1.2 z hz).ok, shaped_strs fun z hz => (hko.2.1.2 z (by rw [hk]; exact hz)).ok, false, ?_, iteF q⟩
    rw [hk, eqv_strs]
    rfl
theorem m_sOr (T : Tc K mg) : ∃ fd, FnOk P w K mg base CX0 7 T.fOr fd pSOr (spOr T) ∧ Binds K fd pSOr [] := by
  refine methOf T.dOr scSOr (fun vs H Q E h => ?_) (fun cdv A outer s H vs Q E hr h => ?_)
  · obtain ⟨_, _, _, _, rfl, _⟩ := h
    rfl
  · obtain ⟨a, b, v, u, rfl, sa, sb, oa, ob, hg, hk, hn, q⟩ := h
    have TX := T.tx
    obtain ⟨pa, da, ka, s1, r1, e1, rfl, ha, ha1, ha2, ⟨ra, ia, rfl, hra, hia⟩, ha4⟩ := id sa
    obtain ⟨pb, db, kb, s2, r2, e2, rfl, hb, hb1, hb2, ⟨rb, ib, rfl, hrb, hib⟩, hb4⟩ := id sb
    obtain ⟨ua, hua⟩ := T.side a.g
    obtain ⟨qa, rfl, hqa⟩ := row_eq ha2
    obtain ⟨qb, rfl, hqb⟩ := row_eq hb2
    obtain ⟨ea, rfl, hea⟩ := ends_eq ha4
    obtain ⟨eb, rfl, heb⟩ := ends_eq hb4
    have hla := Paired.length hia
    have hlb := Paired.length hib
    have hl1 : (a.row.map optV).length = a.start.length := by rw [List.length_map, row_len]
    have hl2 : (b.row.map optV).length = b.start.length := by rw [List.length_map, row_len]
    have ca := T.cls a.g
    have cb := T.cls b.g
    have hkl : a.rules.length = a.kinds.length := oa.rules.1
    have hkl2 : b.rules.length = b.kinds.length := ob.rules.1
    have hkk : a.kinds.length ≤ 4 := oa.kinds.2.1.1
    have hkk2 : a.kinds.length = b.kinds.length := by rw [hk]
    refine ⟨_, pss_cons (ps_expr (pe_c (c_checkTwo T) hr (pa_cons (pv 0) (pa_cons (pv 1) pa_nil))))
      (pss_cons (ps_if (pt_cmpR op_gt (pe_op op_add (pe_callB call_len_seq rfl TX.f (by decide +kernel) (pa_cons (pe_fld (pv 0) rfl) pa_nil)) (pe_callB call_len_seq rfl TX.f (by decide +kernel) (pa_cons (pe_fld (pv 1) rfl) pa_nil))) (pe_gv TX.cRegs) (nomark _)) pss_never pss_nil)
      (pss_cons (ps_set (i := 2) scSOr.nd rfl (by first | exact Or.inl rfl | exact Or.inr rfl) (pe_callB call_len_seq rfl TX.f (by decide +kernel) (pa_cons (pe_fld (pv 0) rfl) pa_nil)))
      (pss_cons (ps_setLc (i := 3) (own := [("one", 5), ("two", 6)]) (g := gTup K 2 (gCons (gName 5) (gCons (gName 6) gNil))) (tt := tYes) rfl scSOr.nd rfl rfl (sw_true rfl rfl rfl (by decide +kernel)) (pi_zipS rfl TX.f (pa_cons (pe_fld (pv 0) rfl) (pa_cons (pe_fld (pv 1) rfl) pa_nil))) (blkOk_by (N := nSOr) (sc := defScope sSOr) (by decide +kernel))
          (fun _ _ _ _ _ => pg_tup rfl (pgs_cons (pg_name (i := 5) scSOr.nd rfl (Or.inl rfl)) (pgs_cons (pg_name (i := 6) scSOr.nd rfl (Or.inl rfl)) pgs_nil))) (fun _ _ _ _ _ => pts_nil)
          (fun _ _ _ _ _ => pe_tup (pa_starK K rfl (pv 5) (pa_starK K rfl (pe_c (c_raisedRule TX) hr (pa_cons (pv 6) (pa_cons (pv 2) pa_nil))) pa_nil))))
      (pss_cons (ps_set (i := 4) scSOr.nd rfl (Or.inl rfl) (pe_tup (StX.pa_star (pe_fld (pv 0) rfl) (StX.pa_star (pe_lc (own := [("slot", 7)]) (g := gName 7) (tt := tYes) rfl scSOr.nd (pi_tup (pe_fld (pv 1) rfl)) (blkOk_by (N := nSOr) (sc := defScope sSOr) (by decide +kernel))
          (fun _ _ _ _ _ => pg_name (i := 7) scSOr.nd rfl (Or.inl rfl)) (fun _ _ _ _ _ => pts_nil) (fun _ _ _ _ _ => pe_c (c_raised TX) hr (pa_cons (pv 7) (pa_cons (pv 2) pa_nil)))) pa_nil))))
      (pss_one (ps_ret (pe_c (c_made T) hr (pa_cons (pe_con (pv 0) rfl) (pa_cons (pe_fld (pv 0) rfl) (pa_cons (pe_op op_catA (pe_fld (pv 0) rfl) (pe_fld (pv 1) rfl)) (pa_cons (pe_callTy call_tuple_of rfl TX.f (by decide +kernel) (pa_cons (pv 3) pa_nil)) (pa_cons (pv 4) pa_nil)))))))))))), ?_⟩
    refine ⟨_, rfl, _, rfl, a, b, _, _, rfl, sa, sb, hg, hk, oa.kinds, ?_⟩
    refine ⟨_, rfl, pa, _, da, _, _, rfl, ha, ca, T.no _ _ (by decide +kernel), lk_start, _, _, rfl, .inr hqa, _, rfl, pb, _, db, _, _, rfl, hb, cb, T.no _ _ (by decide +kernel), lk_start, _, _, rfl, .inr hqb, _, _, rfl, rfl, _, _, rfl, rfl, false, ?_, iteF ?_⟩
    · rw [hl1, hl2]
      exact congrArg V.bl (decide_eq_false (by omega))
    refine ⟨_, rfl, pa, _, da, _, _, rfl, ha, ca, T.no _ _ (by decide +kernel), lk_start, _, _, rfl, .inr hqa, ?_⟩
    rw [hl1]
    -- rules
    refine ⟨_, rfl, pa, _, da, _, _, rfl, ha, ca, T.no _ _ (by decide +kernel), lk_rules, _, rfl, pb, _, db, _, _, rfl, hb, cb, T.no _ _ (by decide +kernel), lk_rules, ra, rb, ia, ib, rfl, hra, hrb, fun D hD =>
      lc_it (walk_zipS (xs := ia) (ys := ib) (by omega)) (LS D [] H fun i acc H' => Paired (RRule K H') ((a.union b).rules.take i) acc) (LS.start hD (fun _ _ _ _ k h => paired_map (fun t v => stbRule _ _ t v k) h) .nil) (fun i H1 _ ⟨acc, _, _, k, _⟩ => ⟨sqT_tst hra k.tst0, sqT_tst hrb k.tst0⟩) (fun i x H1 H2 hi hp hy => ?_) fun H1 hp => ?_⟩
    · obtain ⟨acc, hA, hl, k1, hS⟩ := hp
      obtain ⟨U, x, y, rfl, hU, rfl, hx, hy⟩ := hy
      obtain ⟨rx, hrx1, px, ix, rfl, hpx, hix⟩ := paired_get' hia hx
      obtain ⟨ry, hry1, hry2⟩ := paired_get' hib hy
      have k2 : Kp [] H1 (upd H1 U (.tup [.ref px, y])) := .new hU
      have k3 := k1.trans k2
      have hA2 : upd H1 U (.tup [.ref px, y]) D = some (.lst acc) := k2 _ _ (by simp) hA
      have hS2 : Paired (RRule K (upd H1 U (.tup [.ref px, y]))) ((a.union b).rules.take i) acc := paired_map (fun t v => stbRule _ _ t v k2.tst0) hS
      refine ⟨U, _, rfl, SqT.of upd_same, rfl, _, _, rfl, _, _, rfl, rfl, rfl, tyes (iteT ?_)⟩
      have hrx := oa.rules.2 rx (List.mem_of_getElem? hrx1)
      have hry := ob.rules.2 ry (List.mem_of_getElem? hry1)
      have hil := Paired.length hix
      have h6 : b.start.length ≤ 6 := by omega
      refine ⟨_, rfl, px, ix, rfl, .inl (sqT_tst hpx k3.tst0), _, rfl, _, rfl, a.start.length, b.start.length, ry, y, rfl, stbRule _ _ _ _ k3.tst0 hry2, hry, hn, h6, fun p vs' H4 k4 hp4 hv4 => ?_⟩
      refine ⟨p, vs', rfl, .inl (SqT.of hp4), ?_, fun p2 hp2 => ?_⟩
      · have := Paired.length hv4
        unfold rRule at this
        rw [List.length_map, hry.1] at this
        rw [List.length_append, List.length_append, ← hil, hrx.1, ← this]
        exact Nat.le_trans (by show _ + (_ + 0) ≤ 12; omega) (sz 12)
      · have k5 := (k3.trans k4).newT hp2 (o := .tup (ix ++ (vs' ++ [])))
        have k45 : Kp [] (upd H1 U (.tup [.ref px, y])) (upd H4 p2 (.tup (ix ++ (vs' ++ [])))) := k4.newT hp2
        refine LS.put hD (by simp) (fun _ _ _ _ k h => paired_map (fun t v => stbRule _ _ t v k) h) ?_ hl (k45 _ _ (by simp) hA2) k5 ?_
        · omega
        · have hu : (a.union b).rules[i]? = some (rx ++ rRule a.start.length ry) := by
            show (List.zipWith (fun r1 r2 => r1 ++ rRule a.start.length r2) a.rules b.rules)[i]? = _
            rw [List.getElem?_zipWith, hrx1, hry1]
          refine paired_snoc (paired_map (fun t v => stbRule _ _ t v k45.tst0) hS2) hu ⟨p2, _, rfl, SqT.of upd_same, ?_⟩
          simp only [List.append_nil] at k5 ⊢
          exact paired_append (paired_map (fun t v => stbTerms _ _ t v k5.tst0) hix) (paired_map (fun t v => stbTerms _ _ t v (Kp.new (M := []) hp2).tst0) hv4)
    obtain ⟨racc, hD1, _, k1, hS⟩ := hp
    have hul : (a.union b).rules.length = ia.length := by
      show (List.zipWith _ a.rules b.rules).length = _
      rw [List.length_zipWith]
      omega
    rw [← hul, List.take_length] at hS
    have ha1' := k1 _ _ (by simp) ha
    have hb1' := k1 _ _ (by simp) hb
    -- result
    refine ⟨_, rfl, pa, _, da, _, _, rfl, ha1', ca, T.no _ _ (by decide +kernel), lk_ends, ea, _, rfl, .inl (sqT_tst hea k1.tst0), ?_⟩
    refine ⟨_, rfl, pb, _, db, _, _, rfl, hb1', cb, T.no _ _ (by decide +kernel), lk_ends, eb, rfl, ⟨_, sqT_tst heb k1.tst0⟩, fun D2 hD2 => lc_it (walk_tup (xs := (b.ends.map regS).map V.str)) (LS D2 [] H1 fun i acc _ => acc = ((b.ends.take i).map (rReg a.start.length)).map fun k => V.str (regS k)) (LS.start hD2 (fun _ _ _ _ _ h => h) rfl) (fun i H2 _ ⟨acc, _, _, k, _⟩ => sqT_tst heb (k1.trans k).tst0) (fun i x H2 H3 hi hp hy => ?_) fun H2 hp => ?_⟩
    · obtain ⟨acc, hA, hl, k2, hS⟩ := hp
      obtain ⟨rfl, hx⟩ := hy
      rw [List.getElem?_map, List.getElem?_map] at hx
      obtain ⟨z, hz, rfl⟩ := Option.map_eq_some_iff.mp hx
      obtain ⟨k, hk2, rfl⟩ := Option.map_eq_some_iff.mp hz
      have hke := ob.ends.2.2 k (List.mem_of_getElem? hk2)
      refine ⟨rfl, tyes (iteT ?_)⟩
      refine ⟨_, rfl, _, rfl, k, a.start.length, rfl, by omega, ?_⟩
      refine LS.put hD2 (by simp) (fun _ _ _ _ _ h => h) ?_ hl hA k2 ?_
      · have := (List.getElem?_eq_some_iff.mp hk2).1
        have := ends_len ob.ends.2.1
        omega
      · rw [hS, take_succ_of hk2, List.map_append, List.map_append]
        rfl
    obtain ⟨acc, hD22, _, k2, rfl⟩ := hp
    rw [List.length_map, List.length_map, List.take_length] at hD22
    refine ⟨D2, _, rfl, .inr (SqL.of hD22), ?_, fun p hp => ?_⟩
    · have h1 := ends_len oa.ends.2.1
      have h2 := ends_len ob.ends.2.1
      rw [List.length_append, List.length_append, List.length_map, List.length_map, List.length_map, List.length_map]
      exact Nat.le_trans (by show _ + (_ + 0) ≤ 12; omega) (sz 12)
    have k3 : Kp [] H (upd H2 p (.tup (((a.ends.map regS).map V.str) ++ ((((b.ends.map (rReg a.start.length)).map fun k => V.str (regS k))) ++ [])))) := (k1.trans k2).newT hp
    have k23 : Kp [] H1 (upd H2 p (.tup (((a.ends.map regS).map V.str) ++ ((((b.ends.map (rReg a.start.length)).map fun k => V.str (regS k))) ++ [])))) := k2.newT hp
    have hpp : upd H2 p (.tup (((a.ends.map regS).map V.str) ++ ((((b.ends.map (rReg a.start.length)).map fun k => V.str (regS k))) ++ []))) p = some (.tup (((a.ends.map regS).map V.str) ++ ((((b.ends.map (rReg a.start.length)).map fun k => V.str (regS k))) ++ []))) := upd_same
    generalize upd H2 p (.tup (((a.ends.map regS).map V.str) ++ ((((b.ends.map (rReg a.start.length)).map fun k => V.str (regS k))) ++ []))) = H3 at k3 k23 hpp
    have ha3' := k3 _ _ (by simp) ha
    have hb3' := k3 _ _ (by simp) hb
    refine ⟨_, rfl, pa, _, da, _, _, ua, rfl, ha3', ca, hua, lk_not, _, rfl, pa, _, da, _, _, rfl, ha3', ca, T.no _ _ (by decide +kernel), lk_kinds, _, rfl, pa, _, da, _, _, rfl, ha3', ca, T.no _ _ (by decide +kernel), lk_start, _, rfl, pb, _, db, _, _, rfl, hb3', cb, T.no _ _ (by decide +kernel), lk_start, qa, qb, _, _, rfl, rfl, sqT_tst hqa k3.tst0, sqT_tst hqb k3.tst0, ?_, fun z => ?_, fun _ z => ?_, fun _ _ p4 hp4 => ?_⟩
    · rw [hl1, hl2]
      exact Nat.le_trans (by omega : _ ≤ 6) (sz 6)
    · have := congrArg List.length z
      rw [hl1] at this
      have h1 := oa.start.1.1
      rw [row_len] at h1
      simp at this
      rw [this] at h1
      simp at h1
    · have := congrArg List.length z
      rw [hl2] at this
      have h1 := ob.start.1.1
      rw [row_len] at h1
      simp at this
      rw [this] at h1
      simp at h1
    have k4 : Kp [] H1 (upd H3 p4 (.tup (a.row.map optV ++ b.row.map optV))) := k23.newT hp4
    refine ⟨_, rfl, D, racc, rfl, .inl ⟨SqL.of (k4 _ _ (by simp) hD1), fun p5 hp5 => ?_⟩⟩
    have k5 : Kp [] H1 (upd (upd H3 p4 (.tup (a.row.map optV ++ b.row.map optV))) p5 (.tup racc)) := k4.newT hp5
    have k35 : Kp [] H3 (upd (upd H3 p4 (.tup (a.row.map optV ++ b.row.map optV))) p5 (.tup racc)) := (Kp.new hp4).newT hp5
    have k05 := k1.trans k5
    refine ⟨_, rfl, a.union b, ka, .ref p4, .ref p5, .ref p, rfl, union_ok oa ob hk hn, ⟨stbKinds _ _ _ _ k05.tst0 ha1, ⟨p4, a.row.map optV ++ b.row.map optV, rfl, SqT.of ?_, ?_⟩, ⟨p5, racc, rfl, SqT.of upd_same, paired_map (fun t v => stbRule _ _ t v k5.tst0) hS⟩, ⟨p, _, rfl, SqT.of (k35 _ _ (by simp) hpp), ?_⟩⟩, fun p6 H6 k6 h6 => q p6 H6 (k05.trans k6) h6⟩
    · exact (Kp.new (M := []) hp5) _ _ (by simp) upd_same
    · rw [union_row]
      exact paired_append (paired_of_map (F := ROpt _) optV (fun _ => rfl) _) (paired_of_map (F := ROpt _) optV (fun _ => rfl) _)
    · rw [List.append_nil, List.map_map]
      exact paired_append (paired_of_map (F := REnd _) (V.str ∘ regS) (fun _ => rfl) _) (paired_of_map (F := REnd _) (fun k => V.str (regS k)) (fun _ => rfl) _)
end
end TP
set_option Elab.async false
set_option linter.all false
set_option maxRecDepth 100000
set_option maxHeartbeats 4000000
/-! a generator that a comprehension walks: what it may lean on -/
namespace TP
open PySem PySem.Spec PyProof.Rows L2 GenW
/-- while the generator sleeps its consumer writes its list at D and its block of names at C; all else is kept -/
structure Slept2 (D C : Addr) (s s' : Shared) : Prop where
  os : s'.os = s.os
  bare : AllBare s'.gens
  keep : ∀ b o, b ≠ D → b ≠ C → s.heap.get? b = some o → s'.heap.get? b = some o
  d : ∃ o, s'.heap.get? D = some o ∧ ∀ v, o.data ≠ .cell v
  c : ∃ o, s'.heap.get? C = some o ∧ ∀ v, o.data ≠ .cell v
/-- running: the consumer's two objects are as they stood at the last waking (s₀) -/
def GI2 (X : Cx) (D C : Addr) (ip : List (Addr × Obj)) (s₀ : Shared) (σ : L2.St) (H : Hp) (s : Shared) : Prop :=
  ∃ oD oC : Obj, s₀.heap.get? D = some oD ∧ s₀.heap.get? C = some oC ∧ Inv X ((D, oD) :: (C, oC) :: ip) σ H s
theorem GI2.at {X : Cx} {D C : Addr} {ip : List (Addr × Obj)} {s₀ s : Shared} {σ : L2.St} {H : Hp} (h : GI2 X D C ip s₀ σ H s) :
    H D = none ∧ H C = none ∧ s.heap.get? D = s₀.heap.get? D ∧ s.heap.get? C = s₀.heap.get? C ∧ (∃ o, s.heap.get? D = some o ∧ ∀ v, o.data ≠ .cell v) ∧ (∃ o, s.heap.get? C = some o ∧ ∀ v, o.data ≠ .cell v) := by
  obtain ⟨oD, oC, e1, e2, I⟩ := h
  obtain ⟨h1, h2, h3, h4, h5⟩ := I.pin (D, oD) (List.mem_append_right _ List.mem_cons_self)
  obtain ⟨g1, g2, g3, g4, g5⟩ := I.pin (C, oC) (List.mem_append_right _ (List.mem_cons_of_mem _ List.mem_cons_self))
  exact ⟨h2, g2, h1.trans e1.symm, g1.trans e2.symm, ⟨oD, h1, h5⟩, ⟨oC, g1, g5⟩⟩
/-- woken again -/
theorem GI2.woken {X : Cx} {D C : Addr} {ip : List (Addr × Obj)} {s₀ s s' : Shared} {σ : L2.St} {H : Hp} (hpn : ∀ p ∈ X.pn, p.1 ≠ D ∧ p.1 ≠ C) (hip : ∀ p ∈ ip, p.1 ≠ D ∧ p.1 ≠ C) (hD : Apart X D) (hC : Apart X C) (h : GI2 X D C ip s₀ σ H s) (z : Slept2 D C s s') : GI2 X D C ip s' σ H s' := by
  obtain ⟨hD0, hC0, _⟩ := h.at
  obtain ⟨oD, oC, e1, e2, I⟩ := h
  obtain ⟨_, _, hDL, hDf, _⟩ := I.pin (D, oD) (List.mem_append_right _ List.mem_cons_self)
  obtain ⟨_, _, hCL, hCf, _⟩ := I.pin (C, oC) (List.mem_append_right _ (List.mem_cons_of_mem _ List.mem_cons_self))
  have I0 : Inv X ip σ H s := I.pins_of fun p hp => I.pin p (List.mem_append_right _ (List.mem_cons_of_mem _ (List.mem_cons_of_mem _ hp)))
  have nt : ∀ b u, H b = some u → b ≠ D ∧ b ≠ C := fun b u q => ⟨fun hb => (by rw [hb, hD0] at q; cases q), fun hb => (by rw [hb, hC0] at q; cases q)⟩
  obtain ⟨z1, z2, z3, ⟨oD', d1, d2⟩, ⟨oC', c1, c2⟩⟩ := z
  obtain ⟨hh, g, d, t, o⟩ := s'
  have ho : o = s.os := z1
  subst ho
  have nc : ∀ b, b ∉ [D, C] → b ≠ D ∧ b ≠ C := fun b hb => ⟨fun e => hb (by rw [e]; simp), fun e => hb (by rw [e]; simp)⟩
  have J : Inv X ip σ H { s with heap := hh, gens := g, drawn := d, toks := t } := by
    refine I0.step (g' := g) (t' := t) (d' := d) (ch := [D, C]) (fun b hb => ?_)
      (fun b ob _ _ hc q _ => z3 b ob (nc b hc).1 (nc b hc).2 q) (fun b ob _ _ hc q _ => ⟨ob.slots, z3 b ob (nc b hc).1 (nc b hc).2 q⟩) (fun _ _ _ _ n => n) (fun b ob hc q => ⟨ob, z3 b ob (nc b hc).1 (nc b hc).2 q⟩)
      (fun _ _ q => q) (fun _ _ _ q => q) (fun b ps q => ⟨#[], by rw [q]; simp⟩) (fun m hm => ?_) (fun b u q => ?_) z2
    · rcases List.mem_cons.mp hb with e | hb
      · rw [e]
        refine ⟨.inr hD.1, hD.2.1, hD.2.2, fun p hp => ?_⟩
        rcases List.mem_append.mp hp with hp | hp
        · exact (hpn p hp).1
        · exact (hip p hp).1
      · rw [List.mem_singleton.mp hb]
        refine ⟨.inr hC.1, hC.2.1, hC.2.2, fun p hp => ?_⟩
        rcases List.mem_append.mp hp with hp | hp
        · exact (hpn p hp).2
        · exact (hip p hp).2
    · obtain ⟨ob, es, ep, ho, r⟩ := hm
      exact ⟨ob, es, ep, z3 _ ob (Ne.symm hDL) (Ne.symm hCL) ho, r⟩
    · refine (I0.hok b u q).stay (fun c v hc y => ?_) (fun _ y => y) fun _ _ y => y
      rcases hc with e | e
      · rw [e] at y ⊢
        exact z3 b v (nt b u q).1 (nt b u q).2 y
      · exact z3 c v (nt c _ e).1 (nt c _ e).2 y
  refine ⟨oD', oC', d1, c1, J.pins_of fun p hp => ?_⟩
  rcases List.mem_cons.mp hp with hp | hp
  · rw [hp]
    exact ⟨d1, hD0, hDL, hDf, d2⟩
  rcases List.mem_cons.mp hp with hp | hp
  · rw [hp]
    exact ⟨c1, hC0, hCL, hCf, c2⟩
  · exact J.pin p (List.mem_append_right _ hp)
theorem un_young {fs ex : List Addr} {H H' : Hp} {h h1 h2 : Heap} {D C : Addr} (u : Un fs ex H H' h h1) (k : ∀ b o, b ≠ D → b ≠ C → h1.get? b = some o → h2.get? b = some o) (hD : h.objs.size ≤ D) (hC : h.objs.size ≤ C) : Un fs ex H H' h h2 := by
  have ne : ∀ b o, h.get? b = some o → b ≠ D ∧ b ≠ C := fun b o e => ⟨Nat.ne_of_lt (Nat.lt_of_lt_of_le (Heap.lt_size e) hD), Nat.ne_of_lt (Nat.lt_of_lt_of_le (Heap.lt_size e) hC)⟩
  refine ⟨fun b o q n hb hx => k b o (ne b o q).1 (ne b o q).2 (u.keep b o q n hb hx), fun b o q n hb hx => ?_, u.free, fun b o q hx => ?_, u.tups, u.frzs, u.tbls⟩
  · obtain ⟨sl, e⟩ := u.slot b o q n hb hx
    exact ⟨sl, k b _ (ne b o q).1 (ne b o q).2 e⟩
  · obtain ⟨o', e⟩ := u.there b o q hx
    exact ⟨o', k b _ (ne b o q).1 (ne b o q).2 e⟩
theorem hok_young {P : Program} {w : World} {H' : Hp} {h1 h2 : Heap} {D C : Addr} (ok : HOk P w H' h1) (hD : H' D = none) (hC : H' C = none) (k : ∀ b o, b ≠ D → b ≠ C → h1.get? b = some o → h2.get? b = some o) : HOk P w H' h2 := fun b u q => by
  have nt : ∀ b u, H' b = some u → b ≠ D ∧ b ≠ C := fun b u q => ⟨fun hb => (by rw [hb, hD] at q; cases q), fun hb => (by rw [hb, hC] at q; cases q)⟩
  refine (ok b u q).stay (fun c v hc y => ?_) (fun _ y => y) fun _ _ y => y
  rcases hc with e | e
  · rw [e] at y ⊢
    exact k b v (nt b u q).1 (nt b u q).2 y
  · exact k c v (nt c _ e).1 (nt c _ e).2 y
/-- what a call of the generator def gives -/
structure Made2 (P : Program) (w : World) (K : PySem.W.Frag) (mg : Str → Option Value) (base : Heap) (N : List Str) (q : Str) (st : Stmt) (k : Nat) (outer : List Env) (H : Hp) (s : Shared) (vs : List V) (u : Value) (s' : Shared) : Prop where
  ex : ∃ (a : Addr) (g : Nat) (f : Addr) (cdv : Value) (go : Obj), u = .ref a ∧ s.heap.objs.size ≤ a ∧ a < s'.heap.objs.size ∧ (∀ h : Heap, h.get? a = some go → h.IsGen a g) ∧ s'.heap.get? a = some go ∧
    s'.gens[g]? = some (.fresh (.func (defBody st) (envOfC q (defScope st) s.heap.objs.size f cdv))) ∧ s'.os = s.os ∧ AllBare s'.gens ∧ s'.heap.NoLimit ∧ (∀ b o, s.heap.get? b = some o → s'.heap.get? b = some o) ∧
    ∀ (A : Around) (s2 : Shared), Room (k + 1) A → A.frames = some outer → (∀ b o, s'.heap.get? b = some o → s2.heap.get? b = some o) → s2.os = s.os → AllBare s2.gens →
      Room k (A.deeper (envOfC q (defScope st) s.heap.objs.size f cdv)) ∧ Inv (gcxOf P w K mg base N q (defScope st) f cdv A outer s H E0 [(a, go)]) [] (start N vs) H s2 ∧
      ∀ S, s'.heap.objs.size ≤ S → Apart (gcxOf P w K mg base N q (defScope st) f cdv A outer s H E0 [(a, go)]) S ∧ H S = none ∧ S ∉ frs outer ∧ S ≠ a
theorem gen_made {P : Program} {w : World} {K : PySem.W.Frag} {mg : Str → Option Value} {base : Heap} {x q : Str} {st : Stmt} {f : Addr} {fd : FuncData} {N ps : List Str} {k : Nat} (F : FnP K x q st f fd) (S : GScope N ps (defScope st)) {A : Around} {outer : List Env} {s : Shared} {H : Hp} {args : Args} {us : List Value} {vs : List V}
    (hr : Room (k + 1) A) (e0 : Env0 P w K mg base A outer s H) (hb : BindsTo s fd args (ps.zip us)) (r : Vals vs us) (hl : vs.length = ps.length) :
    codeAny (model P w) A (.call (.ref f) args) (fun r s' => match r with | .ok (.ret u) => Made2 P w K mg base N q st k outer H s vs u s' | _ => False) s := by
  obtain ⟨oc, od, dV, kV, doc, pm, an, cdv, ct, osl, rfl, lk, hcd, _, _⟩ := F.ex
  have KX : K.In s.heap := e0.mod.kin.keeps fun b o e => (e0.bs b o e).1
  have lim : s.heap.NoLimit := e0.mod.nolimit.keeps fun b o e => (e0.bs b o e).1
  have hkind : ∀ y ∈ ps.zip us, (defScope st).names.lookup y.1 = some .local ∨ ((defScope st).names.lookup y.1 = some .cell ∧ ((cellsFrom (s.heap.objs.size + 1) (defScope st).names []).lookup y.1).isSome = true) := fun ⟨n, v⟩ hy => by
    rcases S.par n (List.of_mem_zip hy).1 with q | q
    · exact .inl q
    · exact .inr ⟨q, PySem.W.cellsFrom_some _ _ _ (.inl q)⟩
  refine codeAny_call_generator hr.depth (KX _ _ lk) rfl S.co S.gen rfl (PySem.W.codeRec_of KX hcd) (hb _ _ _ _ ?_)
  refine wpAny_newFunctionEnv_cells S.kind hkind fun env he s1 x => ?_
  subst he
  have lim1 : s1.heap.NoLimit := lim.keeps x.toInCall.keep
  refine ⟨lim1, ?_⟩
  obtain ⟨h1, tk, es1, hk1⟩ := x.done
  have os1 : s1.os = s.os := by rw [es1]
  have gen1 : s1.gens = s.gens := by rw [es1]
  have lt1 : s.heap.objs.size < s1.heap.objs.size := x.toInCall.ns.lt
  have sz1 : s.heap.objs.size ≤ s1.heap.objs.size := Nat.le_of_lt lt1
  have kp1 : ∀ b o, s.heap.get? b = some o → s1.heap.get? b = some o := x.toInCall.keep
  have main : ∀ (go : Obj) (nm qn : Value) (tk2 : Nat), go.cls = .type "generator" → go.data = .fields #[.int s1.gens.size 0, nm, qn] → go.slots = #[] → (∀ h : Heap, (h.push go).get? h.objs.size = some go) →
      Made2 P w K mg base N q st k outer H s vs (.ref s1.heap.objs.size) { s1 with gens := s1.gens.push (.fresh (.func (defBody st) (envOfC q (defScope st) s.heap.objs.size f cdv))), toks := tk2, heap := s1.heap.push go } := by
    intro go nm qn tk2 hgc hgd0 hgs hgp
    have hgen : ∀ h : Heap, h.get? s1.heap.objs.size = some go → h.IsGen s1.heap.objs.size s1.gens.size := fun h e => ⟨go, nm, qn, e, hgc, hgd0, hgs⟩
    have hpushed : (s1.heap.push go).get? s1.heap.objs.size = some go := hgp _
    refine ⟨s1.heap.objs.size, s1.gens.size, f, cdv, go, rfl, sz1, ?_, hgen, hpushed, Array.getElem?_push_size .., os1, ?_, lim1.keeps fun b o e => Heap.get?_push_of_some _ e, fun b o e => Heap.get?_push_of_some _ (kp1 b o e), ?_⟩
    · show _ < (s1.heap.push _).objs.size
      rw [Heap.size_push]; exact Nat.lt_succ_self _
    · exact AllBare.push (by rw [gen1]; exact e0.bare) rfl
    intro Aw s2 hrw hfr hk2 hos hba
    have e0w : Env0 P w K mg base Aw outer s H := ⟨hfr, e0.mod, e0.bs, e0.bsz, e0.funs, e0.frf, e0.hok, e0.bare⟩
    have I1 : Inv (gcxOf P w K mg base N q (defScope st) f cdv Aw outer s H E0 []) [] (start N vs) H s1 := inv_startG S hrw.hd e0w hl r x
    have kp2 : ∀ b o, s1.heap.get? b = some o → s2.heap.get? b = some o := fun b o e => hk2 b o (Heap.get?_push_of_some _ e)
    have I2 : Inv (gcxOf P w K mg base N q (defScope st) f cdv Aw outer s H E0 []) [] (start N vs) H s2 :=
      I1.call' (ch := []) (hos.trans os1.symm) (Un.kept kp2) (I1.hok.kept kp2) hba fun b z => by simp at z
    have hea : s2.heap.get? s1.heap.objs.size = some go := hk2 s1.heap.objs.size go hpushed
    have hgd : ∀ v, go.data ≠ .cell v := fun v q => by rw [hgd0] at q; cases q
    have young : ∀ b, s1.heap.objs.size ≤ b → H b = none ∧ b ≠ s.heap.objs.size ∧ b ∉ frs outer ∧ s.heap.objs.size ≤ b ∧ ∀ y c, (cellsFrom (s.heap.objs.size + 1) (defScope st).names []).lookup y = some c → c ≠ b := fun b hb => by
      refine ⟨I1.hok.fresh hb, Nat.ne_of_gt (Nat.lt_of_lt_of_le lt1 hb), I1.nofs hb, Nat.le_trans sz1 hb, fun y c e z => ?_⟩
      obtain ⟨v, ob, ho, _⟩ := I1.cell y c e
      have := Heap.lt_size ho
      rw [z] at this
      exact absurd (Nat.lt_of_lt_of_le this hb) (Nat.lt_irrefl _)
    refine ⟨hrw.deeper _, Inv.pinnedG I2 fun p hp => ?_, fun Sx hSx => ?_⟩
    · rcases List.mem_append.mp hp with z | z
      · rw [List.mem_singleton.mp z]
        obtain ⟨y1, y2, y3, _, _⟩ := young s1.heap.objs.size (Nat.le_refl _)
        exact ⟨hea, y1, y2, y3, hgd⟩
      · exact absurd z (by simp)
    · have hSz : s1.heap.objs.size < Sx := by
        have hSx' : (s1.heap.push go).objs.size ≤ Sx := hSx
        rw [Heap.size_push] at hSx'
        exact hSx'
      obtain ⟨y1, y2, y3, y4, y5⟩ := young Sx (Nat.le_of_lt hSz)
      exact ⟨⟨y4, y2, y5⟩, y1, y3, Nat.ne_of_gt hSz⟩
  exact main _ _ _ _ rfl rfl rfl fun h => Heap.get?_push_size _ rfl
end TP
set_option Elab.async false
set_option linter.all false
set_option maxRecDepth 100000
set_option maxHeartbeats 4000000
/-! the generator contents -/
namespace TP
open PySem PySem.Spec PyProof.Rows L2 GenW
/-- the state as the generator's consumer sees it -/
structure CS (P : Program) (w : World) (outer : List Env) (H : Hp) (sc : Shared) (D C : Addr) (H' : Hp) (s : Shared) : Prop where
  os : s.os = sc.os
  bare : AllBare s.gens
  un : Un (frs outer) [] H H' sc.heap s.heap
  hok : HOk P w H' s.heap
  hD : H' D = none
  hC : H' C = none
  kp : Kp [] H H'
/-- an item is handed out: the i-th row -/
def Yc (P : Program) (w : World) (K : PySem.W.Frag) (outer : List Env) (H : Hp) (sc : Shared) (D C a : Addr) (go : Obj) (row : Nat → Row) (N : Nat) : Protocol := fun n s₀ v s1 kap =>
  ∃ (H' : Hp) (p : Addr) (i : Nat), n + 1 + i = N ∧ v = .ref p ∧ SqT K H' p ((row i).map optV) ∧ CS P w outer H sc D C H' s1 ∧ s1.heap.get? D = s₀.heap.get? D ∧ s1.heap.get? C = s₀.heap.get? C ∧ s1.heap.get? a = some go ∧ ∀ s', Slept2 D C s1 s' → kap (.send .none) s'
/-- it ends behind the last one -/
def Rc (P : Program) (w : World) (outer : List Env) (H : Hp) (sc : Shared) (D C : Addr) : GenEnd := fun n s₀ r s1 => ((r = .ok (.ret .none) ∨ r = .ok .next) ∧ (n = 0 ∧ ∃ H', CS P w outer H sc D C H' s1 ∧ s1.heap.get? D = s₀.heap.get? D ∧ s1.heap.get? C = s₀.heap.get? C)) ∨ ∃ e, r = .error e ∧ False
theorem seg_ps {X : Cx} {st : Stmt} {t : TS} (h : PS X st t) (hx : ∀ e s, ¬ X.xe e s) {A : Around} {c : Code} {fs : List Frame} (ho : A.over c fs = X.A) {R : GenEnd} {Y : Protocol} {n : Nat} {s₀ s : Shared} {K : Flow → Sem PySem.Fin} {J : Value → Sem PySem.Fin} {gd : Bool → Bool} {lv : List Value → List Value}
    {pins : List (Addr × Obj)} {σ : L2.St} {H : Hp} (nx : L2.St → Hp → Prop) (I : Inv X pins σ H s) (ht : t { nx := nx, rt := fun _ _ => False } σ H) (hk : ∀ s' σ' H', Inv X pins σ' H' s' → nx σ' H' → Seg (model X.prog X.w) A R Y n s₀ c (K .next) fs s') :
    Seg (model X.prog X.w) A R Y n s₀ c ((exec st X.env).wrap K J gd lv) fs s := by
  refine seg_wrap ?_
  rw [ho]
  refine wpAny_mono (h.run pins s σ H _ I ht) (fun f s' hs => ?_) fun x s' hx' => (hx x s' hx').elim
  cases f with
  | next =>
    obtain ⟨σ', H', I', q⟩ := hs
    exact hk s' σ' H' I' q
  | brk => obtain ⟨_, _, _, q⟩ := hs; exact q.elim
  | cont => obtain ⟨_, _, _, q⟩ := hs; exact q.elim
  | ret u => obtain ⟨_, _, _, _, _, q⟩ := hs; exact q.elim
/-- a for whose body is one statement and a yield -/
theorem seg_gloop {X : Cx} {D C : Addr} {A : Around} {R : GenEnd} {Y : Protocol} {fs : List Frame} {tgt e : Expr} {st1 : Stmt} {yp pos : Pos} {it : Addr} {fp : List Addr} {tn : Nat → Heap → Prop} {J : It} {g : TG} {t1 : TS} {te : TE} {N : Nat} {Iv : Nat → L2.St → Hp → Prop} {Wd : Nat → V → Hp → Prop}
    (hpn : ∀ p ∈ X.pn, p.1 ≠ D ∧ p.1 ≠ C) (hD : Apart X D) (hC : Apart X C) (hc : X.calm = true) (hx : ∀ e s, ¬ X.xe e s)
    (Tn : Turn X.prog X.w X.K tgt J fp it tn) (ff : ∀ b ∈ fp, b ≠ X.env.locals ∧ b ∉ X.fs ∧ (b ∈ X.ex ∨ X.s_0.heap.objs.size ≤ b) ∧ (∀ x c, X.env.cells.lookup x = some c → c ≠ b) ∧ (∀ p ∈ X.pn, p.1 ≠ b) ∧ D ≠ b ∧ C ≠ b)
    (hg : PG X tgt g) (h1 : PS X st1 t1) (he : PE X e te)
    (hgo : ∀ i σ H, i < N → Iv i σ H → J.go i H) (hst : ∀ σ H, Iv N σ H → J.stop N H)
    (hstep : ∀ i x σ H H', i < N → Iv i σ H → J.yld i H x H' → g x σ H' fun σ2 H2 => t1 { nx := fun σ3 H3 => te σ3 H3 fun v H4 => Wd (i + 1) v H4 ∧ Iv (i + 1) σ3 H4, rt := fun _ _ => False } σ2 H2)
    (hY : ∀ (i n : Nat) (s₀ s : Shared) (v : V) (u : Value) (σ : L2.St) (H : Hp) (kap : Resume → Shared → Prop) (ip : List (Addr × Obj)), n + i = N → GI2 X D C ip s₀ σ H s → RelV v u → Wd i v H → Iv i σ H → (∀ s', Slept2 D C s s' → kap (.send .none) s') → Y n s₀ u s kap)
    (ho : A.over (.forLoop tgt (.ref it) [st1, .Expr (.Yield (some e) yp) pos] [] X.env) fs = X.A) (hsp : splitAtGen fs = none) (hgd : fs.any Frame.guarded = false)
    (hend : ∀ (s₀ s : Shared) (σ : L2.St) (H : Hp), GI2 X D C [] s₀ σ H s → Iv N σ H → Seg (model X.prog X.w) A R Y 0 s₀ (.block [] X.env) (.pure (.done .next)) fs s)
    (hco : X.env.scope.isCoroutine = false) (hia : interactive X.env = false) :
    ∀ (j i n : Nat) (s₀ s : Shared) (σ : L2.St) (H : Hp), i + j = N → n = j → GI2 X D C [] s₀ σ H s → Iv i σ H → tn i s.heap → (∀ b ∈ fp, H b = none) →
      Seg (model X.prog X.w) A R Y n s₀ (.forLoop tgt (.ref it) [st1, .Expr (.Yield (some e) yp) pos] [] X.env) ((model X.prog X.w).den (.forLoop tgt (.ref it) [st1, .Expr (.Yield (some e) yp) pos] [] X.env)) fs s := by
  have stat : ∀ {H' : Hp} {oD oC : Obj}, (∀ b ∈ fp, H' b = none) → ∀ b ∈ fp, FpOk X [(D, oD), (C, oC)] H' b := fun {H' oD oC} hn b hb => by
    obtain ⟨f1, f2, f3, f4, f5, f6, f7⟩ := ff b hb
    refine ⟨hn b hb, f1, f2, f3, f4, fun p hp => ?_⟩
    rcases List.mem_append.mp hp with hp | hp
    · exact f5 p hp
    rcases List.mem_cons.mp hp with hp | hp
    · rw [hp]; exact f6
    · rw [List.mem_singleton.mp hp]; exact f7
  intro j
  induction j with
  | zero =>
    intro i n s₀ s σ H hij hn hG hI htn hfr
    obtain rfl : i = N := by omega
    subst hn
    obtain ⟨oD, oC, e1, e2, I⟩ := hG
    refine seg_forLoop (h := ?_)
    rw [ho]
    refine wpAny_mono (Tn.done X rfl rfl rfl hc i _ s σ H (fun _ _ => False) I (stat hfr) htn (hst σ H hI)) (fun r s1 h1 => ?_) fun _ _ z => z
    obtain ⟨rfl, I1⟩ := h1
    exact seg_block_nil (hend s₀ s1 σ H ⟨oD, oC, e1, e2, I1⟩ hI)
  | succ j ih =>
    intro i n s₀ s σ H hij hn hG hI htn hfr
    subst hn
    have hi : i < N := by omega
    obtain ⟨oD, oC, e1, e2, I⟩ := hG
    refine seg_forLoop (h := ?_)
    rw [ho]
    refine wpAny_mono (Tn.item X rfl rfl rfl hc i _ s σ H (fun _ _ => False) I (stat hfr) htn (hgo i σ H hi hI)) (fun r s1 h1 => ?_) fun _ _ z => z
    obtain ⟨u, rfl, h2⟩ := h1
    refine wpAny_mono h2 (fun _ s2 h3 => ?_) fun _ _ z => z
    obtain ⟨x, H2, I2, rx, y2, st2, fr2⟩ := h3
    have hob := Tn.obj _ _ st2
    have I2' := I2.pinned (stat fr2) hob
    refine wpAny_mono (hg.run _ s2 σ H2 x u _ I2' rx (hstep i x σ H H2 hi hI y2)) (fun _ s3 h4 => ?_) fun x s' z => (hx x s' z).elim
    obtain ⟨σ3, H3, I3, q3⟩ := h4
    refine seg_execs_cons (seg_ps (X := X) h1 hx ho _ I3 q3 fun s4 σ4 H4 I4 q4 => ?_)
    refine seg_execs_cons (seg_Expr_Yield hsp rfl hgd ?_ hco hia)
    rw [ho]
    refine wpAny_mono (he.run _ s4 σ4 H4 _ I4 q4) (fun v s5 hv => ?_) fun x s' z => (hx x s' z).elim
    obtain ⟨vv, H5, I5, rv, hW, hI5⟩ := hv
    intro kap hk
    have G5 : GI2 X D C (pinsAt fp s2.heap) s₀ σ4 H5 s5 := ⟨oD, oC, e1, e2, I5⟩
    refine hY (i + 1) j s₀ s5 vv v σ4 H5 kap _ (by omega) G5 rv hW hI5 fun s6 z6 => hk .none s6 ?_
    have G6 := G5.woken hpn (fun p hp => by
      obtain ⟨hb, _⟩ := of_pinsAt hp
      obtain ⟨_, _, _, _, _, f6, f7⟩ := ff p.1 hb
      exact ⟨f6.symm, f7.symm⟩) hD hC z6
    obtain ⟨oD6, oC6, g1, g2, I6⟩ := G6
    have pinAt : ∀ b ∈ fp, ∀ o, s2.heap.get? b = some o → s6.heap.get? b = some o ∧ H5 b = none := fun b hb o eo => by
      have := I6.pin (b, o) (List.mem_append_right _ (List.mem_cons_of_mem _ (List.mem_cons_of_mem _ (mem_pinsAt hb eo))))
      exact ⟨this.1, this.2.1⟩
    have G7 : GI2 X D C [] s6 σ4 H5 s6 := ⟨oD6, oC6, g1, g2, I6.pins_of fun p hp => by
      rcases List.mem_cons.mp hp with e | hp
      · rw [e]; exact I6.pin (D, oD6) (List.mem_append_right _ List.mem_cons_self)
      · rw [List.mem_singleton.mp hp]; exact I6.pin (C, oC6) (List.mem_append_right _ (List.mem_cons_of_mem _ List.mem_cons_self))⟩
    exact seg_again rfl (ih (i + 1) j s6 s6 σ4 H5 (by omega) rfl G7 hI5 (Tn.keep _ _ _ st2 fun b hb o eo => (pinAt b hb o eo).1) fun b hb => by
      obtain ⟨o, eo, _⟩ := hob b hb
      exact (pinAt b hb o eo).2)
section
variable {P : Program} {w : World} {K : PySem.W.Frag} {mg : Str → Option Value} {base : Heap}
/-- the context of the generator's body; nothing leaves it -/
abbrev gX (P : Program) (w : World) (K : PySem.W.Frag) (mg : Str → Option Value) (base : Heap) (f : Addr) (cdv : Value) (A : Around) (outer : List Env) (sc : Shared) (H : Hp) (pn : List (Addr × Obj)) : Cx :=
  (gcxOf P w K mg base nContents "contents" (defScope sContents) f cdv A outer sc H E0 pn).nox
theorem gi_cs {f : Addr} {cdv : Value} {A : Around} {outer : List Env} {sc : Shared} {H : Hp} {pn : List (Addr × Obj)} {D C : Addr} {ip : List (Addr × Obj)} {s₀ s : Shared} {σ : L2.St} {H' : Hp} (h : GI2 (gX P w K mg base f cdv A outer sc H pn) D C ip s₀ σ H' s) (k : Kp [] H H') :
    CS P w outer H sc D C H' s ∧ s.heap.get? D = s₀.heap.get? D ∧ s.heap.get? C = s₀.heap.get? C := by
  obtain ⟨h1, h2, h3, h4, _⟩ := h.at
  obtain ⟨oD, oC, _, _, I⟩ := h
  exact ⟨⟨I.os, I.bare, I.base, I.hok, h1, h2, k⟩, h3, h4⟩
def cTgt : Expr := match (defBody sContents).getD 4 (.Pass ⟨0, 0, 0, 0⟩) with
  | .For t _ _ _ _ => t
  | _ => .Constant .none 0 ⟨0, 0, 0, 0⟩
theorem contents_seg (T : Tc K mg) {f : Addr} {cdv : Value} {A : Around} {outer : List Env} {sc s2 : Shared} {H : Hp} {a D C : Addr} {go : Obj} {st : Sta} {log : List Ev} {va vl : V} {oD oC : Obj}
    (hr : Room 5 (A.deeper (envOfC "contents" (defScope sContents) sc.heap.objs.size f cdv))) (I : Inv (gX P w K mg base f cdv A outer sc H [(a, go)]) [(D, oD), (C, oC)] (start nContents [va, vl]) H s2)
    (hD : Apart (gX P w K mg base f cdv A outer sc H [(a, go)]) D) (hC : Apart (gX P w K mg base f cdv A outer sc H [(a, go)]) C) (hDa : a ≠ D) (hCa : a ≠ C) (hDo : s2.heap.get? D = some oD) (hCo : s2.heap.get? C = some oC)
    (hst : StI T H st va) (ok : st.Ok) (hlog : RLog K st.kinds H log vl) (lok : LogOk st.kinds log) :
    Seg (model P w) A (Rc P w outer H sc D C) (Yc P w K outer H sc D C a go (fun i => st.run st.row (log.take i)) (log.length + 1)) (log.length + 1) s2 (.func (defBody sContents) (envOfC "contents" (defScope sContents) sc.heap.objs.size f cdv))
      ((model P w).den (.func (defBody sContents) (envOfC "contents" (defScope sContents) sc.heap.objs.size f cdv))) [] s2 := by
  obtain ⟨p, dx, vk, v1, vr, ve, rfl, ha, h1, h2, h3, h4⟩ := id hst
  obtain ⟨al, its, rfl, hal, hits⟩ := id hlog
  obtain ⟨b1, rfl, hb1⟩ := row_eq h2
  have TX := T.tx
  obtain ⟨u, hu⟩ := T.side st.g
  obtain ⟨fdg, FG, hbg⟩ := m_sGet (P := P) (w := w) (base := base) T
  have c := T.cls st.g
  have hpn : ∀ q ∈ (gX P w K mg base f cdv A outer sc H [(a, go)]).pn, q.1 ≠ D ∧ q.1 ≠ C := fun q hq => by
    rw [List.mem_singleton.mp (show q ∈ [(a, go)] from hq)]
    exact ⟨hDa, hCa⟩
  have hxe : ∀ e s, ¬ (gX P w K mg base f cdv A outer sc H [(a, go)]).xe e s := fun _ _ h => h
  have ho : A.over (.func (defBody sContents) (envOfC "contents" (defScope sContents) sc.heap.objs.size f cdv)) [] = (gX P w K mg base f cdv A outer sc H [(a, go)]).A := over_func
  have hgo : ∀ {ip : List (Addr × Obj)} {s₀ s : Shared} {σ : L2.St} {H' : Hp}, GI2 (gX P w K mg base f cdv A outer sc H [(a, go)]) D C ip s₀ σ H' s → s.heap.get? a = some go := fun {ip s₀ s σ H'} h => by
    obtain ⟨_, _, _, _, J⟩ := h
    exact (J.pin (a, go) (List.mem_append_left _ (List.mem_singleton.mpr rfl))).1
  refine seg_func ?_
  -- check_statistic(statistic)
  refine seg_execs_cons (seg_ps (X := gX P w K mg base f cdv A outer sc H [(a, go)]) (ps_expr (pe_c (c_checkStatistic T) hr (pa_cons (pv 0) pa_nil))) hxe ho (fun σ' H' => σ' = start nContents [.ref p, .ref al] ∧ H' = H) I ⟨_, rfl, st, _, rfl, hst, rfl, rfl⟩ fun s3 σ3 H3 I3 q3 => ?_)
  obtain ⟨rfl, rfl⟩ := q3
  -- check_log(log, statistic.kinds)
  refine seg_execs_cons (seg_ps (X := gX P w K mg base f cdv A outer sc H3 [(a, go)]) (ps_expr (pe_c (c_checkLog TX) hr (pa_cons (pv 1) (pa_cons (pe_fld (pv 0) rfl) pa_nil)))) hxe ho (fun σ' H' => σ' = start nContents [.ref p, .ref al] ∧ Kp [] H3 H') I3
    ⟨_, rfl, _, rfl, p, _, dx, _, _, rfl, ha, c, T.no _ _ (by decide +kernel), lk_kinds, st.kinds, log, .ref al, vk, rfl, hlog, h1, lok, ok.kinds.2.1, fun H1 k1 => ⟨rfl, k1⟩⟩ fun s4 σ4 H4 I4 q4 => ?_)
  obtain ⟨rfl, k4⟩ := q4
  -- held = statistic.start
  refine seg_execs_cons (seg_ps (X := gX P w K mg base f cdv A outer sc H3 [(a, go)]) (ps_set (i := 2) scContents.nd rfl (Or.inl rfl) (pe_fld (pv 0) rfl)) hxe ho (fun σ' H' => σ' = [some (.ref p), some (.ref al), some (.ref b1), none, none] ∧ H' = H4) I4
    ⟨_, rfl, p, _, dx, _, _, rfl, k4 _ _ (by simp) ha, c, T.no _ _ (by decide +kernel), lk_start, rfl, rfl⟩ fun s5 σ5 H5 I5 q5 => ?_)
  obtain ⟨rfl, rfl⟩ := q5
  have G5 : GI2 (gX P w K mg base f cdv A outer sc H3 [(a, go)]) D C [] s2 [some (.ref p), some (.ref al), some (.ref b1), none, none] H5 s5 := ⟨oD, oC, hDo, hCo, I5⟩
  -- yield held
  refine seg_execs_cons (seg_Expr_Yield rfl rfl rfl ?_ rfl rfl)
  rw [ho]
  refine wpAny_mono ((pv (X := gX P w K mg base f cdv A outer sc H3 [(a, go)]) 2).run _ s5 _ H5 (fun v H' => v = .ref b1 ∧ H' = H5) I5 ⟨_, rfl, rfl, rfl⟩) (fun v s6 hv => ?_) fun x s' hx => hx.elim
  obtain ⟨x, H6, I6, rv, rfl, rfl⟩ := hv
  obtain rfl : v = Value.ref b1 := rv
  intro kap hk
  have G6 : GI2 (gX P w K mg base f cdv A outer sc H3 [(a, go)]) D C [] s2 [some (.ref p), some (.ref al), some (.ref b1), none, none] H6 s6 := ⟨oD, oC, hDo, hCo, I6⟩
  obtain ⟨cs6, e6, e7⟩ := gi_cs G6 k4
  refine ⟨H6, b1, 0, rfl, rfl, sqT_tst hb1 k4.tst0, cs6, e6, e7, hgo G6, fun s7 z7 => hk .none s7 ?_⟩
  have G7 := G6.woken hpn (fun _ z => by cases z) hD hC z7
  -- for kind, amount in log
  refine seg_execs_cons (seg_For ?_)
  rw [ho]
  obtain ⟨oD7, oC7, g1, g2, I7⟩ := id G7
  refine wpAny_mono ((pi_tup (tg := cTgt) (pv 1)).run _ s7 _ H6 (fun J H' => J = Itt K al ∧ H' = H6) I7 ⟨_, rfl, al, rfl, ⟨_, sqT_tst hal k4.tst0⟩, rfl, rfl⟩) (fun v s8 h8 => wpAny_mono h8 (fun itv s9 h9 => ?_) fun _ _ z => z.elim) fun _ _ z => z.elim
  obtain ⟨it, fp, tn, J, H9, rfl, I9, Tn, st9, f9, rfl, rfl⟩ := h9
  intro p'
  have hlen : its.length = log.length := (Paired.length hits).symm
  have wk : ∀ {H' : Hp}, Kp [] H3 H' → SqT K H' al its := fun k => sqT_tst hal k.tst0
  refine seg_gloop (X := gX P w K mg base f cdv A outer sc H3 [(a, go)]) (D := D) (C := C) (N := log.length) (J := Itt K al)
    (Iv := fun i σ' H' => Kp [] H3 H' ∧ ∃ vc x y, RRow K H' (st.run st.row (log.take i)) vc ∧ σ' = [some (.ref p), some (.ref al), some vc, x, y])
    (Wd := fun i v H' => ∃ pp, v = .ref pp ∧ SqT K H' pp ((st.run st.row (log.take i)).map optV))
    hpn hD hC rfl hxe Tn (fun b hb => ?_) (pg_tup rfl (pgs_cons (pg_name (i := 3) scContents.nd rfl (Or.inl rfl)) (pgs_cons (pg_name (i := 4) scContents.nd rfl (Or.inl rfl)) pgs_nil)))
    (ps_set (i := 2) scContents.nd rfl (Or.inl rfl) (pe_c (c_stepped TX) hr (pa_cons (pe_con (pv 0) rfl) (pa_cons (pe_ixO (T.get st.g) FG (hr.mono (by decide)) hbg (pv 0) (pv 3)) (pa_cons (pv 2) (pa_cons (pv 4) pa_nil))))))
    (pv 2) (fun i σ' H' hi hI => ?_) (fun σ' H' hI => ?_) (fun i x σ' H1 H2 hi hI hy => ?_) (fun i n s₀ s v u σ' H' kap ip hn hG rv hW hI hk => ?_) ((over_loop rfl rfl).trans ho) rfl rfl (fun s₀ s' σ' H' hG hI => ?_) rfl rfl
    log.length 0 log.length s7 s9 _ H9 (Nat.zero_add _) rfl ⟨oD7, oC7, g1, g2, I9⟩ ⟨k4, .ref b1, none, none, ⟨b1, _, rfl, sqT_tst hb1 k4.tst0, paired_of_map (F := ROpt _) optV (fun _ => rfl) _⟩, rfl⟩ st9 fun b hb => (f9 b hb).1
  · obtain ⟨_, q1, q2, q3, q4, q5⟩ := f9 b hb
    exact ⟨q1, q2, q3, q4, fun p hp => q5 p (List.mem_append_left _ hp), q5 (D, oD7) (List.mem_append_right _ List.mem_cons_self), q5 (C, oC7) (List.mem_append_right _ (List.mem_cons_of_mem _ List.mem_cons_self))⟩
  · exact (walk_tup (xs := its)).goes i H' (by omega) (wk hI.1)
  · have := (walk_tup (K := K) (a := al) (xs := its)).stops H' (wk hI.1)
    rw [hlen] at this
    exact this
  · obtain ⟨rfl, hx⟩ := (walk_tup (xs := its)).yields i H1 x H2 (by omega) (wk hI.1) hy
    obtain ⟨k2, vc, x3, x4, hvc, rfl⟩ := hI
    obtain ⟨e, he, pp, rfl, hp⟩ := paired_get' hits hx
    obtain ⟨e1, e2⟩ := lok.2 e (List.mem_of_getElem? he)
    have hrl := run_len (log := log.take i) (row := st.row) ok (fun x hx => (lok.2 x (List.mem_of_mem_take hx)).1) (row_len st)
    refine ⟨pp, _, rfl, sqT_tst hp k2.tst0, rfl, _, _, rfl, _, _, rfl, rfl, ?_⟩
    refine ⟨_, rfl, p, _, dx, _, _, u, rfl, k2 _ _ (by simp) ha, c, hu, lk_not, _, rfl, _, rfl, p, dx, _, rfl, k2 _ _ (by simp) ha, ?_⟩
    have hst2 : StI T H2 st (.ref p) := stbSt _ _ _ _ k2.tst0 hst
    refine ⟨st, _, e.1, rfl, hst2, ok, e1, fun ur H5 k3 hr3 => ?_⟩
    refine ⟨_, rfl, _, rfl, st.g, st.rules.getD e.1 [], st.run st.row (log.take i), e.2, ur, vc, rfl, hr3, stbRow _ _ _ _ k3.tst0 hvc, by rw [hrl]; exact rule_at ok e1, by rw [hrl, ← row_len]; exact ok.start.1.2, fun p2 H8 k8 h8 => ?_⟩
    have hrow : (stepR st.g (st.rules.getD e.1 []) (st.run st.row (log.take i)) e.2) = st.run st.row (log.take (i + 1)) := (run_take _ he).symm
    rw [hrow] at h8
    exact ⟨_, rfl, ⟨p2, rfl, SqT.of h8⟩, (k2.trans k3).trans k8, .ref p2, _, _, ⟨p2, _, rfl, SqT.of h8, paired_of_map (F := ROpt _) optV (fun _ => rfl) _⟩, rfl⟩
  · obtain ⟨pp, rfl, hpp⟩ := hW
    obtain rfl : u = Value.ref pp := rv
    obtain ⟨cs, q1, q2⟩ := gi_cs hG hI.1
    exact ⟨H', pp, i, by omega, rfl, hpp, cs, q1, q2, hgo hG, hk⟩
  · obtain ⟨cs, q1, q2⟩ := gi_cs hG hI.1
    exact seg_leaf (.ok .next) (seg_end (.ok (.ret .none)) (.inl ⟨.inl rfl, rfl, H', cs, q1, q2⟩))
end
end TP
set_option Elab.async false
set_option linter.all false
set_option maxRecDepth 100000
set_option maxHeartbeats 4000000
/-! results: the comprehension's element, on the raw level -/
namespace TP
open PySem PySem.Spec PyProof.Rows L2 GenW
/-- the comprehension of results -/
def cLC : Expr := match (defBody sResults).getD 0 (.Pass ⟨0, 0, 0, 0⟩) with
  | .Return (some (.Call _ (e :: _) _ _)) _ => e
  | _ => .Constant .none 0 ⟨0, 0, 0, 0⟩
def cElt : Expr := match cLC with
  | .ListComp e _ _ _ => e
  | _ => .Constant .none 0 ⟨0, 0, 0, 0⟩
def cScope : Scope := match cLC with
  | .ListComp _ _ s _ => s
  | _ => { kind := .function, names := [], isGenerator := false, isCoroutine := false }
section
variable {P : Program} {w : World} {K : PySem.W.Frag} {mg : Str → Option Value} {base : Heap}
/-- statistic.result by a call of its getter -/
theorem res_raw (T : Tc K mg) {A : Around} {outer : List Env} {s : Shared} {H : Hp} {st : Sta} {a dx : Addr} {vk v1 vr : V} {ea : Addr} (hr : Room 2 A) (e0 : Env0 P w K mg base A outer s H) (ha : H a = some (.ins (T.C st.g) dx (sF vk v1 vr (.ref ea)))) :
    codeAny (model P w) A (.call (.ref T.fRes) ⟨[.ref a], []⟩) (fun r s' => Keeps s s' ∧ ∃ u, r = .ok (.ret u) ∧ u = .ref ea) s := by
  obtain ⟨fd, F, hb⟩ := T.dRes
  have KX : K.In s.heap := e0.mod.kin.keeps fun b o e => (e0.bs b o e).1
  have hb2 := hb s [.ref a] KX rfl
  have c := T.cls st.g
  refine raw_call (R := fun u _ => u = .ref ea) (vs := [.ref a]) F scSResult hr e0 hb2 (.cons rfl .nil) rfl fun cdv s1 hr1 I1 k1 => ?_
  obtain ⟨m, hn, hlk⟩ := I1.loc
  obtain ⟨u0, ru0, lk0⟩ := hlk 0 "self" (.ref a) rfl rfl (.inl rfl)
  have m0 : m "self" = some u0 := by
    rcases lk0 with ⟨_, h⟩ | ⟨h, _⟩
    · exact h
    · rcases h with h | h <;> cases h
  obtain rfl : u0 = Value.ref a := ru0
  refine wpAny_execs_cons (wpAny_Return_some (attr_of rfl (raw_name rfl rfl hn m0 ?_)))
  obtain ⟨mA, O, r, _, _, _⟩ := ins_get I1.hok ha
  obtain ⟨u, hu, ru⟩ := RelO.some_of (v := .ref ea) (o := mA "ends") (by rw [← lk_ends (vk := vk) (vs := v1) (vr := vr) (ve := .ref ea)]; exact r "ends")
  obtain rfl : u = Value.ref ea := ru
  exact get_map I1.kIn O (c.get "ends") c.hd (T.no _ _ (by decide +kernel)) hu rfl ⟨kp_trans k1 ⟨_, _, rfl, fun _ _ e => e⟩, _, rfl, rfl⟩
/-- read_out(statistic.SIDE, statistic.result, held) -/
theorem elt_raw (T : Tc K mg) {f : Addr} {cdv : Value} {A0 : Around} {outer : List Env} {s0 s : Shared} {H0 H : Hp} {E0' : XK} {pins : List (Addr × Obj)} {x1 : V} {o2 : Option V} {st : Sta} {a : Addr} {C hp : Addr} {row : Row} {hits : List Value} {mC : Str → Option Value}
    {cl : List (Str × Addr)} {E : Value → Shared → Prop} (hcl : cl = cloFrom (cxOf CX0 P w K mg base nResults "results" (defScope sResults) f cdv A0 outer s0 H0 E0').nox.env.cells cScope.names [])
    (hr : Room 5 (cxOf CX0 P w K mg base nResults "results" (defScope sResults) f cdv A0 outer s0 H0 E0').nox.A) (I : Inv (cxOf CX0 P w K mg base nResults "results" (defScope sResults) f cdv A0 outer s0 H0 E0').nox pins [some (.ref a), some x1, o2] H s)
    (hst : StI T H st (.ref a)) (ok : st.Ok) (hn : s.heap.Ns C mC) (hm : mC "held" = some (.ref hp)) (hhp : s.heap.IsTuple hp hits.toArray) (hrow : Paired IsOpt row hits) (hlen : row.length = st.start.length) :
    wpAny (model P w) (cxOf CX0 P w K mg base nResults "results" (defScope sResults) f cdv A0 outer s0 H0 E0').nox.A (eval cElt (compEnvC cScope cl C (cxOf CX0 P w K mg base nResults "results" (defScope sResults) f cdv A0 outer s0 H0 E0').nox.env)) (fun u s' => Keeps s s' ∧ IsOpt (st.res row) u) E s := by
  obtain ⟨pa, dx, vk, v1, vr, ve, e, ha, h1, h2, h3, h4⟩ := id hst
  cases e
  obtain ⟨ea, rfl, hea⟩ := ends_eq h4
  have TX := T.tx
  obtain ⟨u, hu⟩ := T.side st.g
  have c := T.cls st.g
  obtain ⟨fR, fdR, FR, mR, bR⟩ := TX.readOut.ex
  obtain ⟨fB, fdB, FB, mB, bB⟩ := TX.bestOf.ex
  have h6 : st.start.length ≤ 6 := by rw [← row_len]; exact ok.start.1.2
  -- where statistic stands
  obtain ⟨m, hnL, hlk⟩ := I.loc
  obtain ⟨u0, ru0, lk0⟩ := hlk 0 "statistic" (.ref a) rfl rfl (.inr (.inl rfl))
  obtain rfl : u0 = Value.ref a := ru0
  obtain ⟨cc, hcc, hcell⟩ : ∃ cc, (cxOf CX0 P w K mg base nResults "results" (defScope sResults) f cdv A0 outer s0 H0 E0').nox.env.cells.lookup ("statistic" : Str) = some cc ∧ s.heap.IsCell cc (some (.ref a)) := by
    rcases lk0 with ⟨h, _⟩ | ⟨_, c, h1, h2⟩
    · cases h
    · exact ⟨c, h1, h2⟩
  have stat : ∀ {s' : Shared} {Q : Value → Shared → Prop} {pos : Pos}, (∀ d o, s.heap.get? d = some o → s'.heap.get? d = some o) → Q (.ref a) s' →
      wpAny (model P w) (cxOf CX0 P w K mg base nResults "results" (defScope sResults) f cdv A0 outer s0 H0 E0').nox.A (eval (.Name "statistic" pos) (compEnvC cScope cl C (cxOf CX0 P w K mg base nResults "results" (defScope sResults) f cdv A0 outer s0 H0 E0').nox.env)) Q E s' := by
    intro s' Q pos k hQ
    refine wpAny_Name (wpAny_loadName_cell rfl rfl (c := cc) ?_ ?_ hQ) (by decide)
    · subst hcl
      show some (((cxOf CX0 P w K mg base nResults "results" (defScope sResults) f cdv A0 outer s0 H0 E0').nox.env.cells.lookup ("statistic" : Str)).getD 0) = some cc
      rw [hcc]
      rfl
    · obtain ⟨o, ho, hd⟩ := hcell
      exact ⟨o, k cc o ho, hd⟩
  obtain ⟨mA, O, r, _, _, _⟩ := ins_get I.hok ha
  obtain ⟨od, J, hJ⟩ := O.look
  have hn0 : mA "SIDE" = none := RelO.none_of (by rw [← lk_not (vk := vk) (vs := v1) (vr := vr) (ve := .ref ea) (f := "SIDE")]; exact r "SIDE")
  obtain ⟨t, rfl⟩ : ∃ t, u = Value.str (sideS st.g) t := hu.rel
  refine wpAny_Call_Name_kw (raw_glob I.ok.mod I.bk rfl rfl rfl mR ?_)
  refine PySem.W.callWith_K (h₀ := base) I.ok.mod.kin FR.kp (Calls.spliced_cons (attr_of rfl (stat (fun _ _ e => e) (get_const I.kIn O (c.get "SIDE") c.hd hu.at_ hu.get hu.cp hn0 rfl (Calls.spliced_cons ?_))))) rfl rfl
  -- statistic.result
  generalize hs1 : ({ s with toks := s.toks + 1 } : Shared) = s1
  have k1 : Keeps s s1 := by rw [← hs1]; exact ⟨_, _, rfl, fun _ _ e => e⟩
  have I1 := keeps_inv I k1
  have J1 : PySem.W.InstAt s1.heap a (PySem.W.instObj (T.C st.g) dx) (T.C st.g) (some od) := by rw [← hs1]; exact J
  have hp := T.res st.g
  obtain ⟨rest, hrec⟩ := hp.rec_
  have hc : (PySem.W.clsIn K (T.C st.g)).isSome = true := by
    obtain ⟨cd, hc, _⟩ := PySem.W.any_some c.hd
    rw [hc]
    rfl
  show wpAny _ _ (eval (.Attribute (.Name "statistic" _) "result" _) _) _ _ _
  refine attr_of rfl (stat (fun d o e => kp_old k1 d o e) ?_)
  refine PySem.W.get_bind I1.kIn J1 (PySem.W.plainGet_of (c.get "result")).1 (PySem.W.findObj_data hc hp.at_ hp.get hp.tak) (PySem.W.plainGet_of (c.get "result")).2 (wpAny_call (PySem.W.prop_get (s := { s1 with toks := s1.toks + 1 }) I1.kIn hrec ?_))
  generalize hs2 : ({ s1 with toks := s1.toks + 1 } : Shared) = s2
  have k2 : Keeps s s2 := by rw [← hs2]; exact kp_trans k1 ⟨_, _, rfl, fun _ _ e => e⟩
  have I2 := keeps_inv I k2
  refine codeAny_mono (res_raw T (hr.mono (by decide : 3 ≤ 5)).in1 I2.env0.in1 ha) fun rr s3 hq => ?_
  obtain ⟨k3, u3, rfl, rfl⟩ := hq
  show wpAny _ _ (handedOut (.ref ea)) _ _ _
  rw [PySem.W.handedOut_of (handed_of (v := V.ref ea) rfl)]
  refine wpAny_pure (Calls.spliced_cons ?_)
  have k23 := kp_trans k2 k3
  have I3 := keeps_inv I k23
  refine raw_name rfl rfl (hn.keeps fun b o e => kp_old k23 b o e) hm (Calls.spliced_nil ⟨I3.kIn, ?_⟩)
  obtain ⟨eits, er, ep, _⟩ := I3.tuple hea
  refine wpAny_mono (readout_raw (g := st.g) (t := t) (ends := st.ends) (row := row) (rits := eits) (hits := hits) FR bR FB bB mB TX.f TX.f TX.f (hr.mono (by decide)) I3.env0 ep (hhp.at fun o e => kp_old k23 _ o e) ?_ hrow ?_ ?_ fun k hk => ?_) (fun u s' hq => ⟨kp_trans k23 hq.1, hq.2⟩) (fun _ _ e => e)
  · have : ∀ {es : List (_root_.Fin 6)} {us : List Value}, Vals ((es.map regS).map V.str) us → Paired (fun (k : _root_.Fin 6) u => RelV (.str (regS k)) u) es us := by
      intro es
      induction es with
      | nil => intro us h; cases h; exact .nil
      | cons k es ih => intro us h; cases h with | cons r t => exact .cons r (ih t)
    exact this er
  · exact Nat.le_trans (ends_len ok.ends.2.1) (by decide)
  · omega
  · rw [hlen]
    exact ok.ends.2.2 k hk
end
end TP
set_option Elab.async false
set_option linter.all false
set_option maxRecDepth 100000
set_option maxHeartbeats 4000000
/-! results: the comprehension over the generator -/
namespace TP
open PySem PySem.Spec PyProof.Rows L2 GenW
def cIter : Expr := match cLC with
  | .ListComp _ (c :: _) _ _ => c.iter
  | _ => .Constant .none 0 ⟨0, 0, 0, 0⟩
def cTgt2 : Expr := match cLC with
  | .ListComp _ (c :: _) _ _ => c.target
  | _ => .Constant .none 0 ⟨0, 0, 0, 0⟩
def cPos : Pos := match cLC with
  | .ListComp _ _ _ p => p
  | _ => ⟨0, 0, 0, 0⟩
theorem cLC_is : cLC = .ListComp cElt [⟨cTgt2, cIter, [], 0⟩] cScope cPos := rfl
theorem kp_gens {s s' : Shared} (k : Keeps s s') : s'.gens = s.gens ∧ s'.os = s.os := by
  obtain ⟨h, t, e, _⟩ := k
  rw [e]
  exact ⟨rfl, rfl⟩
section
variable {P : Program} {w : World} {K : PySem.W.Frag} {mg : Str → Option Value} {base : Heap}
theorem CS.young {outer : List Env} {H H' : Hp} {sc s s' : Shared} {D C : Addr} (c : CS P w outer H sc D C H' s) (os : s'.os = s.os) (b : AllBare s'.gens) (hD : sc.heap.objs.size ≤ D) (hC : sc.heap.objs.size ≤ C) (k : ∀ b o, b ≠ D → b ≠ C → s.heap.get? b = some o → s'.heap.get? b = some o) :
    CS P w outer H sc D C H' s' := ⟨os.trans c.os, b, un_young c.un k hD hC, hok_young c.hok c.hD c.hC k, c.hD, c.hC, c.kp⟩
abbrev rX (P : Program) (w : World) (K : PySem.W.Frag) (mg : Str → Option Value) (base : Heap) (f : Addr) (cdv : Value) (A : Around) (outer : List Env) (s : Shared) (H : Hp) (E : XK) : Cx := (cxOf CX0 P w K mg base nResults "results" (defScope sResults) f cdv A outer s H E).nox
def tRes (T : Tc K mg) : TE := fun σ H Q => ∃ va vl o2 st log, σ = [some va, some vl, o2] ∧ StI T H st va ∧ st.Ok ∧ RLog K st.kinds H log vl ∧ LogOk st.kinds log ∧ ∀ p H', Kp [] H H' → H' p = some (.lst ((st.results log).map optV)) → Q (.ref p) H'
theorem vals_opt : ∀ {l : List (Option Int)} {us : List Value}, Paired IsOpt l us → Vals (l.map optV) us
  | _, _, .nil => .nil
  | _, _, .cons r t => .cons r (vals_opt t)
theorem opt_of_vals : ∀ {l : List (Option Int)} {us : List Value}, Vals (l.map optV) us → Paired IsOpt l us
  | [], us, h => by cases h; exact .nil
  | o :: l, us, h => by cases h with | cons r t => exact .cons r (opt_of_vals t)
def RIv (P : Program) (w : World) (K : PySem.W.Frag) (A : Around) (outer : List Env) (H : Hp) (sc : Shared) (D C ag : Addr) (go : Obj) (g : Nat) (st : Sta) (log : List Ev) (k : Nat) (s : Shared) : Prop :=
  ∃ i ys gs H' mC, i + k = log.length + 2 ∧ i ≤ log.length + 1 ∧ CS P w outer H sc D C H' s ∧ s.heap.PlainList D ys.toArray ∧ Paired IsOpt ((st.results log).take i) ys ∧ s.heap.Ns C mC ∧ s.heap.get? ag = some go ∧ s.gens[g]? = some gs ∧
    gs.Goes (model P w) A.in1 (Rc P w outer H sc D C) (Yc P w K outer H sc D C ag go (fun i => st.run st.row (log.take i)) (log.length + 1)) (log.length + 1 - i) (.send .none) (s.setGen g .running)
theorem res_loop (T : Tc K mg) {f : Addr} {cdv : Value} {A0 : Around} {outer : List Env} {s0 sc : Shared} {H0 H : Hp} {E0' : XK} {pins : List (Addr × Obj)} {a D C ag : Addr} {g : Nat} {go : Obj} {vl : V} {o2 : Option V} {st : Sta} {log : List Ev} {cl : List (Str × Addr)} {R : Result → Shared → Prop}
    (hcl : cl = cloFrom (rX P w K mg base f cdv A0 outer s0 H0 E0').env.cells cScope.names []) (hr : Room 7 (rX P w K mg base f cdv A0 outer s0 H0 E0').A) (I : Inv (rX P w K mg base f cdv A0 outer s0 H0 E0') pins [some (.ref a), some vl, o2] H sc)
    (hst : StI T H st (.ref a)) (ok : st.Ok) (lok : LogOk st.kinds log) (hD : sc.heap.objs.size ≤ D) (hC : sc.heap.objs.size ≤ C) (hDC : D ≠ C) (hgen : ∀ h : Heap, h.get? ag = some go → h.IsGen ag g) (hgD : ag ≠ D) (hgC : ag ≠ C)
    (hend : ∀ s' H' ys m, CS P w (rX P w K mg base f cdv A0 outer s0 H0 E0').stack H sc D C H' s' → s'.heap.PlainList D ys.toArray → Paired IsOpt (st.results log) ys → s'.heap.Ns C m → R (.ok .next) s') :
    ∀ k s, RIv P w K (rX P w K mg base f cdv A0 outer s0 H0 E0').A (rX P w K mg base f cdv A0 outer s0 H0 E0').stack H sc D C ag go g st log k s →
      codeAny (model P w) (rX P w K mg base f cdv A0 outer s0 H0 E0').A (.compLoop (.ListComp cElt [⟨cTgt2, cIter, [], 0⟩] cScope cPos) 0 (.ref ag) (.ref D) (compEnvC cScope cl C (rX P w K mg base f cdv A0 outer s0 H0 E0').env)) R s := by
  refine fun k s h => compLoop_list_any (RIv P w K (rX P w K mg base f cdv A0 outer s0 H0 E0').A (rX P w K mg base f cdv A0 outer s0 H0 E0').stack H sc D C ag go g st log) (fun k s hI => ?_) k h
  obtain ⟨i, ys, gs, H', mC, hik, hiN, cs, hl, hys, hn, hgo, hgs, hgoes⟩ := hI
  have seen : ∀ {s' : Shared} {H' : Hp}, CS P w (rX P w K mg base f cdv A0 outer s0 H0 E0').stack H sc D C H' s' → Inv (rX P w K mg base f cdv A0 outer s0 H0 E0') pins [some (.ref a), some vl, o2] H' s' :=
    fun {s' H'} c => I.call' (ch := []) c.os c.un c.hok c.bare fun b z => by simp at z
  have J := seen cs
  have lim : s.heap.NoLimit := J.env0.mod.nolimit.keeps fun b o e => (J.env0.bs b o e).1
  have hgl : g < s.gens.size := (Array.getElem?_eq_some_iff.mp hgs).1
  have plain : ∀ {h : Heap} {l : Array Value}, h.PlainList D l → ∃ o, h.get? D = some o ∧ ∀ v, o.data ≠ .cell v := fun ⟨n, e⟩ => ⟨_, e, fun v z => by cases z⟩
  have blk : ∀ {h : Heap} {m : Str → Option Value}, h.Ns C m → ∃ o, h.get? C = some o ∧ ∀ v, o.data ≠ .cell v := fun ⟨o, es, ep, e, r, _⟩ => ⟨o, e, fun v z => by rw [r] at z; cases z⟩
  refine wpAny_gsz (n := g + 1) hgl (next_genG (F := fun n s₀ s1 => n = 0 ∧ ∃ H', CS P w (rX P w K mg base f cdv A0 outer s0 H0 E0').stack H sc D C H' s1 ∧ s1.heap.get? D = s₀.heap.get? D ∧ s1.heap.get? C = s₀.heap.get? C) (Er := fun _ _ => False) hr.hd lim hr.depth (hgen _ hgo) hgs hgoes (fun v s1 gs' hb hy => ?_) (fun s1 hp h' hk => ?_) fun e s1 he => he.elim)
  · intro hsz
    obtain ⟨H1, p, i', hi', rfl, hrow, cs1, eD, eC, ego, kap⟩ := hy
    have hlD : s1.heap.PlainList D ys.toArray := hl.at fun o e => eD.trans e
    have hnC : s1.heap.Ns C mC := hn.at' fun o e => eC.trans e
    have refl1 : Slept2 D C s1 s1 := ⟨rfl, cs1.bare, fun _ _ _ _ e => e, plain hlD, blk hnC⟩
    generalize hn0 : log.length + 1 - i = n0 at kap hi'
    cases n0 with
    | zero => exact (kap s1 refl1).elim
    | succ m =>
    obtain rfl : i' = i := by omega
    refine wpAny_of_eq (rfl : letOwnedTupleGo cTgt2 (.ref ag) (.ref p) = pure ()) ?_
    refine wpAny_assign_Name (wpAny_storeName_local (name := "held") rfl hnC (fun h5 hn5 hs5 => ?_) rfl)
    refine wpAny_tests_nil ?_
    rw [if_pos rfl]
    have kp5 : ∀ b o, b ≠ C → s1.heap.get? b = some o → h5.get? b = some o := fun b o hb e => (hs5.2 b hb).trans e
    have cs5 : CS P w (rX P w K mg base f cdv A0 outer s0 H0 E0').stack H sc D C H1 { s1.setGen g gs' with heap := h5, toks := s1.toks + 1 } :=
      cs1.young rfl (allBare_setGen cs1.bare hb) hD hC fun b o _ hb e => kp5 b o hb e
    have J5 := seen cs5
    obtain ⟨hits, ev, ep, _⟩ := J5.tuple hrow
    have hlen : (st.run st.row (log.take i')).length = st.start.length := by
      rw [run_len (log := log.take i') (row := st.row) ok (fun x hx => (lok.2 x (List.mem_of_mem_take hx)).1) (row_len st)]
    refine wpAny_mono (elt_raw T hcl (hr.mono (by decide)) J5 (stbSt _ _ _ _ cs1.kp.tst0 hst) ok hn5 (if_pos rfl) ep (opt_of_vals ev) hlen) (fun u s6 hu => ?_) fun _ _ z => z
    obtain ⟨k6, hu⟩ := hu
    obtain ⟨g6, o6⟩ := kp_gens k6
    have hl5 : h5.PlainList D ys.toArray := hlD.at fun o e => kp5 D o hDC e
    have hl6 : s6.heap.PlainList D ys.toArray := hl5.at fun o e => kp_old k6 D o e
    have hyl : ys.length ≤ 1000 := by
      have := hys.length
      rw [List.length_take] at this
      have h2 := lok.1
      omega
    refine wpAny_list_append_plain (hsz := by rw [List.size_toArray]; exact Nat.le_trans hyl (sz 1000)) hl6 fun h7 hl7 hs7 => ?_
    have kp7 : ∀ b o, b ≠ D → b ≠ C → s1.heap.get? b = some o → h7.get? b = some o := fun b o h1 h2 e => (hs7.2 b h1).trans (kp_old k6 b o (kp5 b o h2 e))
    have hn7 : h7.Ns C _ := (hn5.keeps fun b o e => kp_old k6 b o e).sameBut hs7 (Ne.symm hDC)
    have bare7 : AllBare s6.gens := by rw [g6]; exact allBare_setGen cs1.bare hb
    have ep7 : ys.toArray.push u = (ys ++ [u]).toArray := by simp
    rw [ep7] at hl7
    have hgl1 : g < s1.gens.size := by
      have q : (s1.setGen g gs').gens.size = s1.gens.size := setGen_size _ _ _
      have q2 : g + 1 ≤ (s1.setGen g gs').gens.size := hsz
      omega
    refine ⟨k - 1, by omega, i' + 1, ys ++ [u], gs', H1, _, by omega, by omega, cs1.young (o6.trans rfl) bare7 hD hC kp7, hl7, ?_, hn7, kp7 _ _ hgD hgC ego, ?_, ?_⟩
    · exact paired_snoc hys (resultsFrom_get st log st.row i' (by omega)) hu
    · show s6.gens[g]? = some gs'
      rw [g6]
      exact setGen_at hgl1
    · have e : log.length + 1 - (i' + 1) = m := by omega
      rw [e]
      exact kap _ ⟨o6.trans rfl, allBare_setGen (s := { s6 with heap := h7 }) bare7 rfl, kp7, plain hl7, blk hn7⟩
  · intro hsz
    obtain ⟨h0, H1, cs1, eD, eC⟩ := hp
    have hi : i = log.length + 1 := by omega
    subst hi
    have hk1 : ∀ b o, b ≠ D → b ≠ C → s1.heap.get? b = some o → h'.get? b = some o := fun b o _ _ e => hk b o e
    refine hend _ H1 ys mC (cs1.young rfl (allBare_setGen cs1.bare rfl) hD hC hk1) (hl.at fun o e => hk _ _ (eD.trans e)) (by rw [← results_length st log, List.take_length] at hys; exact hys) (hn.at' fun o e => hk _ _ (eC.trans e))
theorem pe_res (T : Tc K mg) {f : Addr} {cdv : Value} {A0 : Around} {outer : List Env} {s0 : Shared} {H0 : Hp} {E0' : XK} (hr : Room 7 (rX P w K mg base f cdv A0 outer s0 H0 E0').A) : PE (rX P w K mg base f cdv A0 outer s0 H0 E0') cLC (tRes T) := by
  refine ⟨fun pins s σ H Q I h => ?_⟩
  obtain ⟨va, vl, o2, st, log, rfl, hst, ok, hlog, lok, q⟩ := h
  obtain ⟨a, dx, vk, v1, vr, ve, rfl, ha, h1, h2, h3, h4⟩ := id hst
  obtain ⟨fC, fdC, FC, mgC, bC⟩ := T.tx.contents.ex
  generalize hX : rX P w K mg base f cdv A0 outer s0 H0 E0' = X at *
  have hfree : ∀ y ∈ cScope.names, y.2 = .free → ∃ c, X.env.cells.lookup y.1 = some c := fun y hy e => by
    subst hX
    exact I.ok.has _ (.inl (show (defScope sResults).names.lookup y.1 = some .cell from (by decide +kernel : ∀ y ∈ cScope.names, y.2 = .free → (defScope sResults).names.lookup y.1 = some .cell) y hy e))
  rw [cLC_is, eval_ListComp]
  refine wpAny_comprehension_free (use := none) rfl (fun _ => rfl) (closure_ok hfree) rfl (by decide +kernel) ?_
  subst hX
  show wpAny _ _ (eval (.Call (.Name "contents" _) [.Name "statistic" _, .Name "log" _] [] _) _) _ _ _
  refine wpAny_Call_Name_kw (ld_glob I rfl mgC ?_ rfl)
  refine PySem.W.callWith_K (h₀ := base) I.ok.mod.kin FC.kp (thn ((pa_cons (X := rX P w K mg base f cdv A0 outer s0 H0 E0') (pv 0) (pa_cons (pv 1) pa_nil)).run _ pins s _ H (fun vs H' => vs = [.ref a, vl] ∧ H' = H) I ⟨_, rfl, _, rfl, rfl, rfl⟩) fun us s1 hq => ⟨?_, ?_⟩) rfl rfl
  · obtain ⟨vs, H1, I1, r, rfl, rfl⟩ := hq
    exact I1.kIn
  obtain ⟨vs, H1, I1, r, rfl, rfl⟩ := hq
  have hl : us.length = pContents.length := r.length.symm
  refine wpAny_call (codeAny_mono (gen_made (k := 5) FC scContents (hr.mono (by decide)) I1.env0 (bC s1 us I1.kIn (by simpa using hl)) (by simpa using r) rfl) fun rr s2 hq => ?_)
  cases rr with
  | error e => exact False.elim hq
  | ok fl =>
  cases fl with
  | next => exact False.elim hq
  | brk => exact False.elim hq
  | cont => exact False.elim hq
  | ret u =>
  obtain ⟨ag, g, fg, cdvg, go, rfl, ha1, ha2, hgen, hgo, hfr, hos, hba, hlim, hkp, wake⟩ := hq.ex
  refine wpAny_pyIter_gen (hgen _ hgo) ?_
  refine wpAny_newObj_type (wpAny_newFunctionEnv (by decide +kernel) (by intro y hy; simp at hy) (fun h₃ hns₃ hsb₃ => ?_) rfl) (by show 0 ≤ sizeLine; decide)
  have hsz : (s2.heap.push { cls := .type "list", data := .seq ([] : List Value).toArray }).objs.size = s2.heap.objs.size + 1 := Heap.size_push ..
  have k3 : ∀ b o, s2.heap.get? b = some o → h₃.get? b = some o := fun b o e => hsb₃.extBut b o (by rw [hsz]; exact Nat.ne_of_lt (Nat.lt_succ_of_lt (Heap.lt_size e))) (Heap.get?_push_of_some _ (Heap.get?_push_of_some _ e))
  have hD3 : h₃.PlainList s2.heap.objs.size #[] := ⟨_, hsb₃.extBut _ _ (by rw [hsz]; exact Nat.ne_of_lt (Nat.lt_succ_self _)) (Heap.get?_push_of_some _ (Heap.get?_push_size _ rfl))⟩
  have hC3 : h₃.Ns (s2.heap.objs.size + 1) fun _ => none := by rw [hsz] at hns₃; exact hns₃
  dsimp only
  show codeAny _ _ (.compStart (.ListComp cElt [⟨cTgt2, cIter, [], 0⟩] cScope cPos) 0 (.ref ag) (.ref s2.heap.objs.size) (compEnvC cScope (cloFrom (rX P w K mg base f cdv A0 outer s0 H0 E0').env.cells cScope.names []) (s2.heap.push { cls := .type "list", data := .seq ([] : List Value).toArray }).objs.size (rX P w K mg base f cdv A0 outer s0 H0 E0').env)) _ _
  rw [hsz]
  obtain ⟨D, hDD⟩ : ∃ D, D = s2.heap.objs.size := ⟨_, rfl⟩
  rw [← hDD] at hD3 hC3 ⊢
  have agD : ag < D := by rw [hDD]; exact ha2
  have sD : s1.heap.objs.size ≤ D := Nat.le_of_lt (Nat.lt_of_le_of_lt ha1 agD)
  have sD1 : s1.heap.objs.size ≤ D + 1 := Nat.le_succ_of_le sD
  have nDD : D ≠ D + 1 := Nat.ne_of_lt (Nat.lt_succ_self _)
  have agN : ag ≠ D := Nat.ne_of_lt agD
  have agN1 : ag ≠ D + 1 := Nat.ne_of_lt (Nat.lt_succ_of_lt agD)
  have I2 : CS P w (rX P w K mg base f cdv A0 outer s0 H0 E0').stack H1 s1 D (D + 1) H1 s1 := ⟨rfl, I1.bare, .refl, I1.hok, I1.hok.fresh sD, I1.hok.fresh sD1, .refl⟩
  have kp3 : ∀ b o, s1.heap.get? b = some o → h₃.get? b = some o := fun b o e => k3 b o (hkp b o e)
  have loop : ∀ tk, codeAny (model P w) (rX P w K mg base f cdv A0 outer s0 H0 E0').A (.compLoop (.ListComp cElt [⟨cTgt2, cIter, [], 0⟩] cScope cPos) 0 (.ref ag) (.ref D) (compEnvC cScope (cloFrom (rX P w K mg base f cdv A0 outer s0 H0 E0').env.cells cScope.names []) (D + 1) (rX P w K mg base f cdv A0 outer s0 H0 E0').env))
      (compPost (model P w) (rX P w K mg base f cdv A0 outer s0 H0 E0').A (rX P w K mg base f cdv A0 outer s0 H0 E0').xe none (EP (rX P w K mg base f cdv A0 outer s0 H0 E0') pins [some (.ref a), some vl, o2] Q) (.ref D) (D + 1)) { s2 with heap := h₃, toks := tk } := by
    intro tk
    refine res_loop T rfl hr I1 hst ok lok sD sD1 nDD hgen agN agN1 (fun s' H' ys m cs hl hys hn => ?_) (log.length + 2) _ ⟨0, [], _, H1, _, by omega, by omega, I2.young hos hba sD sD1 fun b o _ _ e => kp3 b o e, hD3, by rw [List.take_zero]; exact .nil, hC3, k3 _ _ hgo, hfr, rfl, ?_⟩
    · refine ⟨m, hn, fun h'' sb => ?_⟩
      have c2 : CS P w (rX P w K mg base f cdv A0 outer s0 H0 E0').stack H1 s1 D (D + 1) H' { s' with heap := h'' } := cs.young rfl cs.bare sD sD1 fun b o _ hb e => (sb.2 b hb).trans e
      have hl2 : h''.PlainList D ys.toArray := hl.at fun o e => (sb.2 D nDD).trans e
      obtain ⟨c, hl3⟩ := hl2
      refine ⟨.ref D, upd H' D (.lst ((st.results log).map optV)), ?_, rfl, q D _ (cs.kp.newT cs.hD) upd_same⟩
      refine Inv.drained (ex := []) (acc := ys.toArray) (c := c) I1 sD ?_ hl3 (vals_opt hys) .nil c2.os c2.bare c2.un c2.hok c2.hD
      rw [List.length_map, results_length]
      exact Nat.le_trans (Nat.succ_le_succ lok.1) (by rw [sizeLine_eq]; decide)
    · obtain ⟨w1, w2, w3⟩ := wake (rX P w K mg base f cdv A0 outer s0 H0 E0').A.in1 (({ s2 with heap := h₃, toks := tk } : Shared).setGen g .running) (hr.in1) I1.env0.in1.frames k3 hos (allBare_setGen (s := { s2 with heap := h₃, toks := tk }) hba rfl)
      obtain ⟨oD, eD, nD⟩ : ∃ o, h₃.get? D = some o ∧ ∀ v, o.data ≠ .cell v := let ⟨_, e⟩ := hD3; ⟨_, e, fun v z => by cases z⟩
      obtain ⟨oC, eC, nC⟩ : ∃ o, h₃.get? (D + 1) = some o ∧ ∀ v, o.data ≠ .cell v := let ⟨o, es, ep, e, r, _⟩ := hC3; ⟨o, e, fun v z => by rw [r] at z; cases z⟩
      obtain ⟨p1, p2, p3, p4⟩ := w3 D (Nat.le_of_eq hDD.symm)
      obtain ⟨q1, q2, q3, q4⟩ := w3 (D + 1) (Nat.le_succ_of_le (Nat.le_of_eq hDD.symm))
      refine contents_seg T (oD := oD) (oC := oC) w1 ((w2.wish fun _ _ => False).pins_of fun x hx => ?_) p1 q1 agN agN1 eD eC hst ok hlog lok
      rcases List.mem_cons.mp hx with e | hx
      · rw [e]
        exact ⟨eD, p2, p1.2.1, p3, nD⟩
      · rw [List.mem_singleton.mp hx]
        exact ⟨eC, q2, q1.2.1, q3, nC⟩
  exact codeAny_compStart_list (loop _) (wpAny_pyIter_gen (hgen _ (k3 _ _ hgo)) (loop _))
end
end TP
set_option Elab.async false
set_option linter.all false
set_option maxRecDepth 100000
set_option maxHeartbeats 4000000
/-! results, called in both ways -/
namespace TP
open PySem PySem.Spec PyProof.Rows L2
theorem vals_rev : ∀ {vs : List V} {us : List Value}, Vals vs us → Vals vs.reverse us.reverse
  | _, _, .nil => .nil
  | _, _, .cons r t => by
    rw [List.reverse_cons, List.reverse_cons]
    exact (vals_rev t).append (.cons r .nil)
def spResults {K : PySem.W.Frag} {mg : Str → Option Value} (T : Tc K mg) : Sp := fun vs H Q _ => ∃ va vl st log, vs = [va, vl] ∧ StI T H st va ∧ st.Ok ∧ RLog K st.kinds H log vl ∧ LogOk st.kinds log ∧
  ∀ p H', Kp [] H H' → H' p = some (.tup ((st.results log).map optV)) → Q (.ref p) H'
/-- f(k = v, ..) -/
theorem pe_callN0 {X : Cx} {CX : CXT} {k : Nat} {f : Addr} {fd : FuncData} {ps ks : List Str} {sp : Sp} {E : XK} {x : Str} {p pos : Pos} {kws : List Keyword} {tk : TA} {g : List Value → List Value → List Value} {gV : List V → List V → List V}
    (F : FnOk X.prog X.w X.K X.mg X.base CX k f fd ps sp) (hr : Room k X.A) (hg : Gl X x) (hm : X.mg x = some (.ref f)) (hk : PySem.W.keepIn X.K (.ref f) = true) (hb : KBn X.K fd ps 0 ks g gV) (hx : Passes CX X E)
    (hkw : PK X kws tk) (hall : (backToKw pos (keywordEach kws X.env)).all (·.1.isSome) = true := by rfl) (hks : (backToKw pos (keywordEach kws X.env)).filterMap (·.1) = ks := by rfl)
    (hdb : (x == ("__debug__" : Str)) = false := by decide)
    (hpl : ((backTo pos (starEach [] X.env)).any (·.1) || (backToKw pos (keywordEach kws X.env)).any (·.1.isNone)) = false := by rfl) :
    PE X (.Call (.Name x p) [] kws pos) (tCallN 0 ks.length sp gV E tNil tk) := by
  refine ⟨fun pins s σ H Q I h => ?_⟩
  refine wpAny_Call_Name_kw (ld_glob I hg hm ?_ hdb)
  refine PySem.W.callWith_KW0 (h₀ := X.base) I.ok.mod.kin hk hall ?_ hpl
  refine thn (hkw.run pos pins s σ H _ I h) fun ws s2 ⟨zs, H2, I2, rz, l1, l2, q2⟩ => ⟨I2.kIn, ?_⟩
  rw [hks]
  exact run_fnN (us := []) (vs := []) F hr hb hx I2 .nil rz rfl l2 q2
def kwsRes : List Str := ["log", "statistic"]
section
variable {P : Program} {w : World} {K : PySem.W.Frag} {mg : Str → Option Value} {base : Heap}
theorem kb_results {f : Addr} {fd : FuncData} (F : FnP K "results" "results" sResults f fd) : KBn K fd pResults 0 kwsRes (fun _ ws => ws.reverse) (fun _ zs => zs.reverse) := by
  obtain ⟨oc, od, dV, kV, doc, pm, an, cdv, ct, osl, rfl, lk, hcd, hD, hK⟩ := F.ex
  rcases hD with ⟨_, rfl⟩ | ⟨e, _⟩
  · refine ⟨fun s us ws X l1 l2 => ?_, fun _ r2 => vals_rev r2⟩
    obtain rfl := List.length_eq_zero_iff.mp l1
    match ws, l2 with
    | [a, b], _ => exact .of_eq rfl
  · exact absurd rfl e
theorem results_ok (T : Tc K mg) : ∃ (f : Addr) (fd : FuncData), FnOk P w K mg base CX0 8 f fd pResults (spResults T) ∧ mg "results" = some (.ref f) ∧ PySem.W.keepIn K (.ref f) = true ∧ Binds K fd pResults [] ∧ KBn K fd pResults 0 kwsRes (fun _ ws => ws.reverse) (fun _ zs => zs.reverse) := by
  obtain ⟨f, fd, F, hm, hb⟩ := T.tx.results.ex
  refine ⟨f, fd, F.ok scResults (fun vs H Q E h => ?_) fun cdv A outer s H vs Q E hr h => ?_, hm, F.kp, hb, kb_results F⟩
  · obtain ⟨_, _, _, _, rfl, _⟩ := h
    rfl
  · obtain ⟨va, vl, st, log, rfl, h1, h2, h3, h4, q⟩ := h
    refine ⟨_, PSs.nox (pss_one (ps_ret (pe_callTy (X := rX P w K mg base f cdv A outer s H E) call_tuple_of rfl T.tx.f (by decide +kernel) (pa_cons (pe_res T hr) pa_nil)))), ?_⟩
    refine ⟨va, vl, none, st, log, rfl, h1, h2, h3, h4, fun p H' k hp => ⟨p, _, rfl, .inl ⟨SqL.of hp, fun l hl => q l _ (k.newT hl) upd_same⟩⟩⟩
theorem c_results (T : Tc K mg) : Cal P w K mg base 8 "results" (spResults T) := by
  obtain ⟨f, fd, F, hm, hk, hb, _⟩ := results_ok T
  exact ⟨f, fd, pResults, F, hm, hk, hb⟩
theorem pe_resultsK {X : Cx} {j : Nat} {p pos : Pos} {kws : List Keyword} {tk : TA} (T : Tc X.K X.mg) (hr : Room j X.A) (hkw : PK X kws tk) (h : 8 ≤ j := by decide) (hg : Gl X "results" := by rfl) (hall : (backToKw pos (keywordEach kws X.env)).all (·.1.isSome) = true := by rfl) (hks : (backToKw pos (keywordEach kws X.env)).filterMap (·.1) = kwsRes := by rfl)
    (hpl : ((backTo pos (starEach [] X.env)).any (·.1) || (backToKw pos (keywordEach kws X.env)).any (·.1.isNone)) = false := by rfl) :
    PE X (.Call (.Name "results" p) [] kws pos) (tCallN 0 2 (spResults T) (fun _ zs => zs.reverse) E0 tNil tk) := by
  obtain ⟨f, fd, F, hm, hk, _, hb⟩ := results_ok (P := X.prog) (w := X.w) (base := X.base) T
  exact pe_callN0 F (hr.mono h) hg hm hk hb pass0 hkw hall hks (by decide) hpl
end
end TP
set_option Elab.async false
set_option linter.all false
set_option maxRecDepth 100000
set_option maxHeartbeats 4000000
/-! the class Counter -/
namespace TP
open PySem PySem.Spec PyProof.Rows L2
def fieldsC : List Str := ["kept", "held", "many"]
structure Tk (K : PySem.W.Frag) (mg : Str → Option Value) where
  tc : Tc K mg
  D : Addr
  kInit : Addr
  kRes : Addr
  kFollow : Addr
  qRes : Addr
  mgD : mg "Counter" = some (.ref D)
  cls : Cls K D
  no : ∀ f ∈ fieldsC, NoAttr K D f
  make : Mk K D kInit
  res : PropOf K D "result" qRes kRes
  follow : Meth K D "follow" kFollow
  dInit : ∃ fd ds, FunD K "__init__" "Counter.__init__" (defArgs sCInit) (defBody sCInit) (defScope sCInit) [.non] [] kInit fd ∧ Vals [.non] ds ∧ Binds K fd pCInit ds
  dRes : MethD K "result" "Counter.result" sCResult pCResult [] kRes
  dFollow : MethD K "follow" "Counter.follow" sCFollow pCFollow [] kFollow
def cF (vs vh vn : V) : List (Str × V) := [("kept", vs), ("held", vh), ("many", vn)]
def CtI {K : PySem.W.Frag} {mg : Str → Option Value} (T : Tk K mg) (H : Hp) (st : Sta) (row : Row) (n : Nat) (v : V) : Prop :=
  ∃ c dx vs vh, v = .ref c ∧ H c = some (.ins T.D dx (cF vs vh (.int n))) ∧ StI T.tc H st vs ∧ RRow K H row vh
theorem stbCt {K : PySem.W.Frag} {mg : Str → Option Value} {T : Tk K mg} {H H' : Hp} {st : Sta} {row : Row} {n : Nat} {v : V} (k : Kp [] H H') (h : CtI T H st row n v) : CtI T H' st row n v := by
  obtain ⟨c, dx, vs, vh, e, hc, h1, h2⟩ := h
  exact ⟨c, dx, vs, vh, e, k _ _ (by simp) hc, stbSt _ _ _ _ k.tst0 h1, stbRow _ _ _ _ k.tst0 h2⟩
theorem c1 {vs : V} : putF "kept" vs [] = ([("kept", vs)] : List (Str × V)) := rfl
theorem c2 {vs vh : V} : putF "held" vh [("kept", vs)] = ([("kept", vs), ("held", vh)] : List (Str × V)) := by
  show (if ("kept" : Str) = "held" then _ else _) = _
  rw [if_neg (by decide +kernel)]
  rfl
theorem c3 {vs vh vn : V} : putF "many" vn [("kept", vs), ("held", vh)] = cF vs vh vn := by
  show (if ("kept" : Str) = "many" then _ else (("kept" : Str), vs) :: (if ("held" : Str) = "many" then _ else _)) = _
  rw [if_neg (by decide +kernel), if_neg (by decide +kernel)]
  rfl
theorem cPutH {vs vh vn u : V} : putF "held" u (cF vs vh vn) = cF vs u vn := by
  show (if ("kept" : Str) = "held" then _ else (("kept" : Str), vs) :: (if ("held" : Str) = "held" then _ else _)) = _
  rw [if_neg (by decide +kernel), if_pos rfl]
  rfl
theorem cPutM {vs vh vn u : V} : putF "many" u (cF vs vh vn) = cF vs vh u := by
  show (if ("kept" : Str) = "many" then _ else (("kept" : Str), vs) :: (if ("held" : Str) = "many" then _ else (("held" : Str), vh) :: (if ("many" : Str) = "many" then _ else _))) = _
  rw [if_neg (by decide +kernel), if_neg (by decide +kernel), if_pos rfl]
  rfl
theorem lkKept {vs vh vn : V} : (cF vs vh vn).lookup ("kept" : Str) = some vs := by
  rw [← c3, ← c2, ← c1, lookup_putF, if_neg (by decide +kernel), lookup_putF, if_neg (by decide +kernel), lookup_putF, if_pos rfl]
theorem lkHeld {vs vh vn : V} : (cF vs vh vn).lookup ("held" : Str) = some vh := by
  rw [← c3, ← c2, lookup_putF, if_neg (by decide +kernel), lookup_putF, if_pos rfl]
theorem lkMany {vs vh vn : V} : (cF vs vh vn).lookup ("many" : Str) = some vn := by
  rw [← c3, lookup_putF, if_pos rfl]
theorem lkNotC {vs vh vn : V} {f : Str} (h1 : ¬ f = "kept" := by decide +kernel) (h2 : ¬ f = "held" := by decide +kernel) (h3 : ¬ f = "many" := by decide +kernel) : (cF vs vh vn).lookup f = none := by
  rw [← c3, ← c2, ← c1, lookup_putF, if_neg h3, lookup_putF, if_neg h2, lookup_putF, if_neg h1]
  rfl
section
variable {K : PySem.W.Frag} {mg : Str → Option Value}
def spKInit (T : Tk K mg) : Sp := fun vs H Q _ => ∃ (st : Sta) (c dx : Addr) (v : V), vs = [.ref c, v, .non] ∧ H c = some (.ins T.D dx []) ∧ StI T.tc H st v ∧ ∀ H', Kp [c] H H' → CtI T H' st st.row 0 (.ref c) → Q .non H'
def spKRes (T : Tk K mg) : Sp := fun vs H Q _ => ∃ (st : Sta) (row : Row) (n : Nat) (v : V), vs = [v] ∧ CtI T H st row n v ∧ st.Ok ∧ row.length = st.start.length ∧ ∀ H', Kp [] H H' → Q (optV (st.res row)) H'
def spKFollow (T : Tk K mg) : Sp := fun vs H Q _ => ∃ (st : Sta) (row : Row) (n : Nat) (c : Addr) (e : Ev), vs = [.ref c, .str (st.kinds.getD e.1 Str.empty), .int e.2] ∧ CtI T H st row n (.ref c) ∧ st.Ok ∧ row.length = st.start.length ∧ e.1 < st.kinds.length ∧ AmtOk e.2 ∧
  ∀ H', Kp [c] H H' → CtI T H' st (st.stp row e) (n + 1) (.ref c) → Q (optV (st.res (st.stp row e))) H'
end
section
variable {P : Program} {w : World} {K : PySem.W.Frag} {mg : Str → Option Value} {base : Heap}
theorem m_kInit (T : Tk K mg) : ∃ fd ds, FnOk P w K mg base CX0 2 T.kInit fd pCInit (spKInit T) ∧ Vals [.non] ds ∧ Binds K fd pCInit ds := by
  obtain ⟨fd, ds, F, hd, hb⟩ := T.dInit
  refine ⟨fd, ds, F.ok scCInit (fun vs H Q E h => ?_) fun cdv A outer s H vs Q E hr h => ?_, hd, hb⟩
  · obtain ⟨_, _, _, _, rfl, _⟩ := h
    rfl
  · obtain ⟨st, c, dx, v, rfl, hc, hst, q⟩ := h
    obtain ⟨a, da, vk, v1, vr, ve, rfl, ha, h1, h2, h3, h4⟩ := id hst
    have no := fun f hf => T.no f hf
    have hne : a ≠ c := fun e => by
      rw [e, hc] at ha
      have z := Option.some.inj ha
      injection z with _ _ z3
      cases z3
    refine ⟨_, PSs.nox (pss_cons (ps_expr (pe_c (c_checkStatistic T.tc) hr (pa_cons (pv 1) pa_nil)))
      (pss_cons (ps_if (pt_cmpR op_notN (pv 2) pe_non (nomark _)) pss_never pss_nil)
      (pss_cons (ps_fld (pv 0) (pv 1) rfl)
      (pss_cons (ps_fld (pv 0) (pe_ifExp (pt_cmpR op_isN (pv 2) pe_non (nomark _)) (pe_fld (pv 1) rfl) (pv 2)) rfl)
      (pss_one (ps_fld (pv 0) pe_int rfl)))))), ?_⟩
    refine ⟨_, rfl, st, _, rfl, hst, _, rfl, rfl, _, rfl, iteF ?_⟩
    refine ⟨_, rfl, _, rfl, c, _, dx, _, rfl, hc, T.cls, no _ (by decide +kernel), by show 0 < 1000; decide, ?_⟩
    refine ⟨_, rfl, rfl, _, rfl, iteT ?_⟩
    refine ⟨_, rfl, a, _, da, _, _, rfl, by rw [upd_ne hne]; exact ha, T.tc.cls _, T.tc.no _ _ (by decide +kernel), lk_start, ?_⟩
    refine ⟨_, rfl, c, _, dx, _, rfl, upd_same, T.cls, no _ (by decide +kernel), by rw [c1]; show 1 < 1000; decide, ?_⟩
    refine ⟨_, rfl, c, _, dx, _, rfl, upd_same, T.cls, no _ (by decide +kernel), by rw [c1, c2]; show 2 < 1000; decide, ?_⟩
    rw [c1, c2, c3]
    have k1 : Kp [c] H (upd (upd (upd H c (.ins T.D dx [("kept", .ref a)])) c (.ins T.D dx [("kept", .ref a), ("held", v1)])) c (.ins T.D dx (cF (.ref a) v1 (.int 0)))) := ((Kp.put (by simp)).trans (.put (by simp))).trans (.put (by simp))
    have t1 := k1.tstV hc rfl
    exact q _ k1 ⟨c, dx, .ref a, v1, rfl, upd_same, stbSt _ _ _ _ t1 hst, stbRow _ _ _ _ t1 h2⟩
theorem m_kRes (T : Tk K mg) : ∃ fd, FnOk P w K mg base CX0 3 T.kRes fd pCResult (spKRes T) ∧ Binds K fd pCResult [] := by
  refine methOf T.dRes scCResult (fun vs H Q E h => ?_) (fun cdv A outer s H vs Q E hr h => ?_)
  · obtain ⟨_, _, _, _, rfl, _⟩ := h
    rfl
  · obtain ⟨st, row, n, v, rfl, ⟨c, dx, vs, vh, rfl, hc, hst, hrow⟩, ok, hl, q⟩ := h
    obtain ⟨a, da, vk, v1, vr, ve, rfl, ha, h1, h2, h3, h4⟩ := id hst
    obtain ⟨u, hu⟩ := T.tc.side st.g
    obtain ⟨fdr, FR, hbr⟩ := m_sRes (P := P) (w := w) (base := base) T.tc
    have no := fun f hf => T.no f hf
    refine ⟨_, pss_one (ps_ret (pe_c (c_readOut T.tc.tx) hr (pa_cons (pe_con (pe_fld (pv 0) rfl) rfl) (pa_cons (pe_prop (pe_fld (pv 0) rfl) (T.tc.cls st.g) (T.tc.res st.g) FR hr hbr .nil pass0 rfl) (pa_cons (pe_fld (pv 0) rfl) pa_nil))))), ?_⟩
    refine ⟨_, rfl, c, _, dx, _, _, rfl, hc, T.cls, no _ (by decide +kernel), lkKept, a, _, da, _, _, u, rfl, ha, T.tc.cls _, hu, lk_not, ?_⟩
    refine ⟨_, rfl, c, _, dx, _, _, rfl, hc, T.cls, no _ (by decide +kernel), lkKept, a, da, _, rfl, ha, st, _, rfl, hst, fun u2 hu2 => ?_⟩
    refine ⟨_, rfl, c, _, dx, _, _, rfl, hc, T.cls, no _ (by decide +kernel), lkHeld, ?_⟩
    exact ⟨st.g, st.start.length, st.ends, row, u2, vh, rfl, hu2, hrow, hl, ok.ends, q⟩
theorem m_kFollow (T : Tk K mg) : ∃ fd, FnOk P w K mg base CX0 5 T.kFollow fd pCFollow (spKFollow T) ∧ Binds K fd pCFollow [] := by
  refine methOf T.dFollow scCFollow (fun vs H Q E h => ?_) (fun cdv A outer s H vs Q E hr h => ?_)
  · obtain ⟨_, _, _, _, _, rfl, _⟩ := h
    rfl
  · obtain ⟨st, row, n, c, e, rfl, ⟨c', dx, vs, vh, ec, hc, hst, hrow⟩, ok, hl, e1, e2, q⟩ := h
    cases ec
    obtain ⟨a, da, vk, v1, vr, ve, rfl, ha, h1, h2, h3, h4⟩ := id hst
    obtain ⟨u, hu⟩ := T.tc.side st.g
    obtain ⟨fdg, FG, hbg⟩ := m_sGet (P := P) (w := w) (base := base) T.tc
    obtain ⟨fdr, FR, hbr⟩ := m_kRes (P := P) (w := w) (base := base) T
    have no := fun f hf => T.no f hf
    refine ⟨_, pss_cons (ps_set (i := 3) scCFollow.nd rfl (Or.inl rfl) (pe_ixO (T.tc.get st.g) FG (hr.mono (by decide)) hbg (pe_fld (pv 0) rfl) (pv 1)))
      (pss_cons (ps_expr (pe_c (c_checkAmount T.tc.tx) hr (pa_cons (pv 2) pa_nil)))
      (pss_cons (ps_fld (pv 0) (pe_c (c_stepped T.tc.tx) hr (pa_cons (pe_con (pe_fld (pv 0) rfl) rfl) (pa_cons (pv 3) (pa_cons (pe_fld (pv 0) rfl) (pa_cons (pv 2) pa_nil))))) rfl)
      (pss_cons (ps_fldaug (pv 0) pe_int in_add)
      (pss_one (ps_ret (pe_prop (pv 0) T.cls T.res FR hr hbr .nil pass0 rfl)))))), ?_⟩
    refine ⟨_, rfl, c, _, dx, _, _, rfl, hc, T.cls, no _ (by decide +kernel), lkKept, _, rfl, a, da, _, rfl, ha, ?_⟩
    refine ⟨st, _, e.1, rfl, hst, ok, e1, fun ur H5 k5 hr5 => ?_⟩
    refine ⟨_, rfl, e.2, rfl, e2, ?_⟩
    have hc5 := k5 _ _ (by simp) hc
    have hst5 := stbSt _ _ _ _ k5.tst0 hst
    refine ⟨_, rfl, c, _, dx, _, _, rfl, hc5, T.cls, no _ (by decide +kernel), lkKept, a, _, da, _, _, u, rfl, k5 _ _ (by simp) ha, T.tc.cls _, hu, lk_not, ?_⟩
    refine ⟨_, rfl, _, rfl, c, _, dx, _, _, rfl, hc5, T.cls, no _ (by decide +kernel), lkHeld, _, rfl, ?_⟩
    refine ⟨st.g, st.rules.getD e.1 [], row, e.2, ur, vh, rfl, hr5, stbRow _ _ _ _ k5.tst0 hrow, by rw [hl]; exact rule_at ok e1, by rw [hl, ← row_len]; exact ok.start.1.2, fun p2 H8 k8 h8 => ?_⟩
    have k58 := k5.trans k8
    refine ⟨_, rfl, c, _, dx, _, rfl, k58 _ _ (by simp) hc, T.cls, no _ (by decide +kernel), by show 3 < 1000; decide, ?_⟩
    rw [cPutH]
    refine ⟨_, rfl, c, _, dx, _, _, rfl, upd_same, T.cls, no _ (by decide +kernel), lkMany, n, 1, rfl, rfl, dx, _, upd_same, by show 3 < 1000; decide, ?_⟩
    rw [cPutM]
    have k9 : Kp [c] H (upd (upd H8 c (.ins T.D dx (cF (.ref a) (.ref p2) (.int n)))) c (.ins T.D dx (cF (.ref a) (.ref p2) (.int ((n : Nat) + 1))))) := (k58.up.trans (.put (by simp))).trans (.put (by simp))
    have t9 := k9.tstV hc rfl
    have hne : p2 ≠ c := fun z => by
      have := k58 _ _ (by simp) hc
      rw [← z, h8] at this
      cases this
    have ct : CtI T (upd (upd H8 c (.ins T.D dx (cF (.ref a) (.ref p2) (.int n)))) c (.ins T.D dx (cF (.ref a) (.ref p2) (.int ((n : Nat) + 1))))) st (st.stp row e) (n + 1) (.ref c) :=
      ⟨c, dx, .ref a, .ref p2, rfl, by rw [upd_same]; rfl, stbSt _ _ _ _ t9 hst, p2, _, rfl, SqT.of (by rw [upd_ne hne, upd_ne hne]; exact h8), paired_of_map (F := ROpt _) optV (fun _ => rfl) _⟩
    refine ⟨_, rfl, c, dx, _, rfl, upd_same, st, st.stp row e, n + 1, _, rfl, ct, ok, stp_len ok e1 row, fun H10 k10 => ?_⟩
    exact q _ (k9.trans k10.up) (stbCt k10 ct)
end
end TP
set_option Elab.async false
set_option linter.all false
set_option maxRecDepth 100000
set_option maxHeartbeats 4000000
/-! the classmethods peak, best_run, last of one kind -/
namespace TP
open PySem PySem.Spec PyProof.Rows L2
theorem tuple_mul1 (l : Addr) (items : Array Value) (n : Nat) (dd : Option Addr) (sl : Array (Option Value)) (u : Tok) :
    Meets (Builtin.«tuple.__mul__» ⟨[.ref l, .int 1 u], []⟩) (fun _ R s => s.heap.get? l = some { cls := .type "tuple", dict := dd, data := .seq items n, slots := sl } ∧ R (.ok (.ret (Value.ref l))) s) :=
  .of_wp fun prog w A R s h => by
    obtain ⟨hp, g, d, tk, os⟩ := s
    obtain ⟨hl, h⟩ := h
    have f1 := AutoSeq1.idx_int
    wp_walk using wpAny_loadPart' hl
    repeat (first
      | (refine wpAny_ite_false (by decide) ?_; wp_walk using wpAny_loadPart' hl)
      | (refine wpAny_ite_true (by simp) ?_; wp_walk using wpAny_loadPart' hl))
    exact ⟨_, rfl, h⟩
def rRepT1 (K : PySem.W.Frag) : R2 := fun x y H Q => ∃ l xs, x = .ref l ∧ y = .int 1 ∧ SqT K H l xs ∧ xs ≠ [] ∧ Q (.ref l) H
theorem op_repT1 {X : Cx} : OpR X (binaryOp .Mult) (rRepT1 X.K) := by
  intro pins s σ H x y v u Q I rx ry h
  obtain ⟨l, xs, rfl, rfl, hT, hne, q⟩ := h
  cases rx
  obtain ⟨t, rfl⟩ := ry
  obtain ⟨its, r, ⟨⟨cls, dd, data, sl⟩, ho, hc, n, hd⟩, hs⟩ := I.tuple hT
  simp only at hc hd
  subst hc hd
  exact wpAny_binaryOp_repeat_ref (T := "tuple") (U := "int") (by decide) ⟨_, ho, rfl⟩ (fun s' => typeIs_int s' 1 t) noFill_tuple_mul PySem.F.fills_int_mul PySem.F.slot_int_rmul repeat_tuple PySem.F.slot_int_index.lookup
    (call_meets PySem.F.slot_int_rmul (typeIs_int s 1 t) PySem.F.entry_int_rmul (PySem.F.args_int_rmul_2 _ _) (int_rmul_tuple 1 t l its.toArray n dd sl)
      ⟨ho, rfl, ⟨_, ho, rfl⟩, call_meets PySem.F.slot_tuple_mul ⟨_, ho, rfl⟩ PySem.F.entry_tuple_mul (PySem.F.args_tuple_mul_2 _ _) (tuple_mul1 l its.toArray n dd sl t) ⟨ho, .ref l, H, I, rfl, q⟩⟩)
/-- a local name that holds the class at C, called -/
def tMakeL (i : Nat) (C : Addr) (sp : Sp) (dvs : List V) (E : XK) (t : TA) : TE := fun σ H Q => σ[i]? = some (some (.ref C)) ∧ tMake C sp dvs E t σ H Q
theorem pe_makeL {X : Cx} {CX : CXT} {k i : Nat} {f C : Addr} {fd : FuncData} {ps : List Str} {sp : Sp} {dvs : List V} {ds : List Value} {E : XK} {x : Str} {p pos : Pos} {e : Expr} {es : List Expr} {t : TA}
    (M : Mk X.K C f) (F : FnOk X.prog X.w X.K X.mg X.base CX k f fd ps sp) (hr : Room (k + 1) X.A) (hN : X.N[i]? = some x) (hv : Vis X.env.scope x) (hb : Binds X.K fd ps ds) (hd : Vals dvs ds) (hx : Passes CX X E) (ha : PA X (e :: es) t)
    (hdb : (x == ("__debug__" : Str)) = false := by decide) (hcd : (x == ("__classdict__" : Str)) = false := by decide)
    (he : starEach (e :: es) X.env = (false, eval e X.env) :: starEach es X.env := by rfl) (hpl : (backTo pos (starEach es X.env)).any (·.1) = false := by rfl) : PE X (.Call (.Name x p) (e :: es) [] pos) (tMakeL i C sp dvs E t) := by
  refine ⟨fun pins s σ H Q I h => ?_⟩
  obtain ⟨hs, ht⟩ := h
  refine wpAny_Call_Name_kw (thn ((pe_var (pos := p) hN hv hdb hcd).run pins s σ H (fun v H1 => v = .ref C ∧ H1 = H) I ⟨.ref C, hs, rfl, rfl⟩) fun u s1 ⟨v, H1, I1, r1, q1⟩ => ?_)
  obtain ⟨rfl, rfl⟩ := q1
  cases r1
  refine PySem.W.callWith_K (h₀ := X.base) I.ok.mod.kin M.kp (thn (ha.run pos pins s1 σ _ _ I1 ht) fun us s2 ⟨vs, H2, I2, r, q⟩ => ⟨I2.kIn, ?_⟩) he hpl
  exact run_make M F hr hb hd hx I2 r q
def stPeak (g : Bool) (k : Str) : Sta := ⟨g, [k], [true, true], [[[2], [2, 3]]], [1]⟩
def stBestRun (g : Bool) (k : Str) : Sta := ⟨g, [k], [false, false], [[[2, 13], [2, 3, 13]]], [1]⟩
def stLast (g : Bool) (k : Str) : Sta := ⟨g, [k], [false], [[[13]]], [0]⟩
theorem ok1 {g : Bool} {k : Str} {start : List Bool} {rule : Rule} {ends : List (_root_.Fin 6)} (hk : KN k) (h1 : 1 ≤ start.length) (h6 : start.length ≤ 6) (h2 : RuleOk start.length rule) (h3 : EndsOk start.length ends) : (Sta.mk g [k] start [rule] ends).Ok where
  kinds := ⟨Nat.le_refl _, ⟨by show 1 ≤ 4; decide, fun z hz => by rw [List.mem_singleton.mp hz]; exact hk⟩, fun i a b ha hb => by
    have := (List.getElem?_eq_some_iff.mp hb).1
    simp at this⟩
  start := ⟨⟨by rw [row_len]; exact h1, by rw [row_len]; exact h6⟩, fun o ho => by
    obtain ⟨b, _, rfl⟩ := List.mem_map.mp ho
    cases b
    · exact .inl rfl
    · exact .inr rfl⟩
  rules := ⟨rfl, fun r hr => by rw [List.mem_singleton.mp hr]; exact h2⟩
  ends := h3
instance {n : Nat} {ts : List TP.Tm} : Decidable (TermsOk n ts) := by unfold TermsOk; infer_instance
theorem okPeak {g : Bool} {k : Str} (hk : KN k) : (stPeak g k).Ok := ok1 hk (by decide) (by decide) ⟨rfl, by decide⟩ ⟨by decide, by decide, by decide⟩
theorem okBestRun {g : Bool} {k : Str} (hk : KN k) : (stBestRun g k).Ok := ok1 hk (by decide) (by decide) ⟨rfl, by decide⟩ ⟨by decide, by decide, by decide⟩
theorem okLast {g : Bool} {k : Str} (hk : KN k) : (stLast g k).Ok := ok1 hk (by decide) (by decide) ⟨rfl, by decide⟩ ⟨by decide, by decide, by decide⟩
structure Tm2 (K : PySem.W.Frag) (mg : Str → Option Value) where
  tk : Tk K mg
  mc : Value
  pPeak : Addr
  fPeak : Addr
  pBestRun : Addr
  fBestRun : Addr
  pLast : Addr
  fLast : Addr
  rd : ∀ g, ClX.CRead K (tk.tc.C g) mc
  peak : ∀ g, ClX.CMet K (tk.tc.C g) mc "peak" pPeak fPeak
  bestRun : ∀ g, ClX.CMet K (tk.tc.C g) mc "best_run" pBestRun fBestRun
  last : ∀ g, ClX.CMet K (tk.tc.C g) mc "last" pLast fLast
  dPeak : MethD K "peak" "Statistic.peak" sSPeak pSPeak [] fPeak
  dBestRun : MethD K "best_run" "Statistic.best_run" sSBestRun pSBestRun [] fBestRun
  dLast : MethD K "last" "Statistic.last" sSLast pSLast [] fLast
section
variable {K : PySem.W.Frag} {mg : Str → Option Value}
def spBuild (T : Tc K mg) (mk : Bool → Str → Sta) : Sp := fun vs H Q _ => ∃ (g : Bool) (k : Str) (v : V), vs = [.ref (T.C g), v] ∧ RKinds K H [k] v ∧ KN k ∧ ∀ p H', Kp [] H H' → StI T H' (mk g k) (.ref p) → Q (.ref p) H'
end
/-- a new statistic from its parts -/
theorem fin_init {K : PySem.W.Frag} {mg : Str → Option Value} (T : Tc K mg) {H0 H : Hp} {Q : VK} {st : Sta} {vk vs vr ve : V} (ok : st.Ok) (k0 : Kp [] H0 H) (ps : Parts K H st vk vs vr ve) (q : ∀ p H', Kp [] H0 H' → StI T H' st (.ref p) → Q (.ref p) H') :
    ∀ x dx : Addr, H x = none → H dx = none → dx ≠ x → spSInit T (.ref x :: ([vk, vs, vr, ve] ++ [])) (upd (upd H dx (.own x)) x (.ins (T.C st.g) dx [])) (fun v H2 => v = .non ∧ Q (.ref x) H2) E0 := by
  intro x dx hx hd hne
  have hx2 : upd H dx (.own x) x = none := by rw [upd_ne hne.symm]; exact hx
  have k1 : Kp [] H (upd (upd H dx (.own x)) x (.ins (T.C st.g) dx [])) := (Kp.new hd).newT hx2
  refine ⟨st, x, dx, vk, vs, vr, ve, rfl, upd_same, ok, ps.stb k1.tst0, fun H' k2 h2 => ⟨rfl, ?_⟩⟩
  have k3 : Kp [] H H' := k1.glue k2 hx
  have ps2 := ps.stb k3.tst0
  exact q x H' (k0.trans k3) ⟨x, dx, vk, vs, vr, ve, rfl, h2, ps2.k, ps2.s, ps2.r, ps2.e⟩
theorem tupP1 {α : Type} {K : PySem.W.Frag} {R : Hp → α → V → Prop} {H : Hp} {p : Addr} {vs : List V} {l : List α} (h : H p = some (.tup vs)) (r : Paired (R H) l vs) : TupP K R H l (.ref p) := ⟨p, vs, rfl, SqT.of h, r⟩
section
variable {P : Program} {w : World} {K : PySem.W.Frag} {mg : Str → Option Value} {base : Heap}
theorem m_sLast (T : Tm2 K mg) : ∃ fd, FnOk P w K mg base CX0 6 T.fLast fd pSLast (spBuild T.tk.tc stLast) ∧ Binds K fd pSLast [] := by
  refine methOf T.dLast scSLast (fun vs H Q E h => ?_) (fun cdv A outer s H vs Q E hr h => ?_)
  · obtain ⟨_, _, _, rfl, _⟩ := h
    rfl
  · obtain ⟨g, k, v, rfl, hv, hk, q⟩ := h
    have TX := T.tk.tc.tx
    obtain ⟨fd, F, hb⟩ := m_sInit (P := P) (w := w) (base := base) T.tk.tc
    obtain ⟨bk, rfl, hbk⟩ := kinds_eq hv
    refine ⟨_, pss_cons (ps_expr (pe_c (c_checkKinds TX) hr (pa_cons (pv 1) pa_nil)))
      (pss_one (ps_ret (pe_makeL (i := 0) (T.tk.tc.make g) F hr rfl (Or.inl rfl) hb .nil pass0 (pa_cons (pv 1) (pa_cons (pe_tup (pa_cons pe_non pa_nil)) (pa_cons (pe_op op_repT1 (pe_tup (pa_cons (pe_tup (pa_cons (pe_tup (pa_cons pe_str pa_nil)) pa_nil)) pa_nil)) (pe_callB call_len_seq rfl TX.f (by decide +kernel) (pa_cons (pv 1) pa_nil))) (pa_cons (pe_tup (pa_cons pe_str pa_nil)) pa_nil))))))), ?_⟩
    refine ⟨_, rfl, [k], _, rfl, hv, (okLast (g := g) hk).kinds, fun H1 k1 => ?_⟩
    refine ⟨rfl, _, rfl, by show 1 ≤ sizeLine; exact sz 1, fun p1 hp1 => ?_⟩
    refine ⟨by show 1 ≤ sizeLine; exact sz 1, fun p2 hp2 => ?_⟩
    refine ⟨by show 1 ≤ sizeLine; exact sz 1, fun p3 hp3 => ?_⟩
    refine ⟨by show 1 ≤ sizeLine; exact sz 1, fun p4 hp4 => ?_⟩
    have e2 : upd (upd H1 p1 (.tup [.non])) p2 (.tup [.str "x"]) p2 = some (.tup [.str "x"]) := upd_same
    have e3 : upd (upd (upd H1 p1 (.tup [.non])) p2 (.tup [.str "x"])) p3 (.tup [.ref p2]) p3 = some (.tup [.ref p2]) := upd_same
    have e1 : upd H1 p1 (.tup [.non]) p1 = some (.tup [.non]) := upd_same
    have k2 := Kp.new (M := []) (o := .tup [.str "x"]) hp2
    have k3 := Kp.new (M := []) (o := .tup [.ref p2]) hp3
    have k4 := Kp.new (M := []) (o := .tup [.ref p3]) hp4
    have kA := ((((Kp.new (M := []) (o := .tup [.non]) hp1).trans k2).trans k3).trans k4)
    refine ⟨_, rfl, bk, _, rfl, .inr (sqT_tst hbk (k1.trans kA).tst0), _, _, rfl, rfl, SqT.of upd_same, by simp, ?_⟩
    refine ⟨by show 1 ≤ sizeLine; exact sz 1, fun p9 hp9 => ?_⟩
    have k9 := Kp.new (M := []) (o := .tup [.str "r0"]) hp9
    refine fin_init T.tk.tc (st := stLast g k) (okLast hk) ((k1.trans kA).trans k9) ⟨stbKinds _ _ _ _ ((k1.trans kA).trans k9).tst0 hv, ?_, ?_, ?_⟩ q
    · exact tupP1 (((k2.trans k3).trans (k4.trans k9)) _ _ (by simp) e1) (.cons rfl .nil)
    · refine tupP1 (k9 _ _ (by simp) upd_same) (.cons (tupP1 ((k4.trans k9) _ _ (by simp) e3) (.cons (tupP1 ((k3.trans (k4.trans k9)) _ _ (by simp) e2) (.cons rfl .nil)) .nil)) .nil)
    · exact tupP1 upd_same (.cons rfl .nil)
theorem m_sPeak (T : Tm2 K mg) : ∃ fd, FnOk P w K mg base CX0 6 T.fPeak fd pSPeak (spBuild T.tk.tc stPeak) ∧ Binds K fd pSPeak [] := by
  refine methOf T.dPeak scSPeak (fun vs H Q E h => ?_) (fun cdv A outer s H vs Q E hr h => ?_)
  · obtain ⟨_, _, _, rfl, _⟩ := h
    rfl
  · obtain ⟨g, k, v, rfl, hv, hk, q⟩ := h
    have TX := T.tk.tc.tx
    obtain ⟨fd, F, hb⟩ := m_sInit (P := P) (w := w) (base := base) T.tk.tc
    obtain ⟨bk, rfl, hbk⟩ := kinds_eq hv
    refine ⟨_, pss_cons (ps_expr (pe_c (c_checkKinds TX) hr (pa_cons (pv 1) pa_nil)))
      (pss_one (ps_ret (pe_makeL (i := 0) (T.tk.tc.make g) F hr rfl (Or.inl rfl) hb .nil pass0 (pa_cons (pv 1) (pa_cons (pe_tup (pa_cons pe_int (pa_cons pe_int pa_nil))) (pa_cons (pe_op op_repT1 (pe_tup (pa_cons (pe_tup (pa_cons (pe_tup (pa_cons pe_str pa_nil)) (pa_cons (pe_tup (pa_cons pe_str (pa_cons pe_str pa_nil))) pa_nil))) pa_nil)) (pe_callB call_len_seq rfl TX.f (by decide +kernel) (pa_cons (pv 1) pa_nil))) (pa_cons (pe_tup (pa_cons pe_str pa_nil)) pa_nil))))))), ?_⟩
    refine ⟨_, rfl, [k], _, rfl, hv, (okPeak (g := g) hk).kinds, fun H1 k1 => ?_⟩
    refine ⟨rfl, _, rfl, by show 2 ≤ sizeLine; exact sz 2, fun p1 hp1 => ?_⟩
    refine ⟨by show 1 ≤ sizeLine; exact sz 1, fun p2 hp2 => ?_⟩
    refine ⟨by show 2 ≤ sizeLine; exact sz 2, fun p3 hp3 => ?_⟩
    refine ⟨by show 2 ≤ sizeLine; exact sz 2, fun p4 hp4 => ?_⟩
    refine ⟨by show 1 ≤ sizeLine; exact sz 1, fun p5 hp5 => ?_⟩
    have e1 : upd H1 p1 (.tup [.int 0, .int 0]) p1 = some (.tup [.int 0, .int 0]) := upd_same
    have k2 := Kp.new (M := []) (o := .tup [.str "r0+x"]) hp2
    have e2 : upd (upd H1 p1 (.tup [.int 0, .int 0])) p2 (.tup [.str "r0+x"]) p2 = some (.tup [.str "r0+x"]) := upd_same
    have k3 := Kp.new (M := []) (o := .tup [.str "r0+x", .str "r1"]) hp3
    have e3 : upd (upd (upd H1 p1 (.tup [.int 0, .int 0])) p2 (.tup [.str "r0+x"])) p3 (.tup [.str "r0+x", .str "r1"]) p3 = some (.tup [.str "r0+x", .str "r1"]) := upd_same
    have k4 := Kp.new (M := []) (o := .tup [.ref p2, .ref p3]) hp4
    have e4 : upd (upd (upd (upd H1 p1 (.tup [.int 0, .int 0])) p2 (.tup [.str "r0+x"])) p3 (.tup [.str "r0+x", .str "r1"])) p4 (.tup [.ref p2, .ref p3]) p4 = some (.tup [.ref p2, .ref p3]) := upd_same
    have k5 := Kp.new (M := []) (o := .tup [.ref p4]) hp5
    have k45 := k4.trans k5
    have k35 := k3.trans k45
    have k25 := k2.trans k35
    have kA := (Kp.new (M := []) (o := .tup [.int 0, .int 0]) hp1).trans k25
    refine ⟨_, rfl, bk, _, rfl, .inr (sqT_tst hbk (k1.trans kA).tst0), _, _, rfl, rfl, SqT.of upd_same, by simp, ?_⟩
    refine ⟨by show 1 ≤ sizeLine; exact sz 1, fun p9 hp9 => ?_⟩
    have k9 := Kp.new (M := []) (o := .tup [.str "r1"]) hp9
    refine fin_init T.tk.tc (st := stPeak g k) (okPeak hk) ((k1.trans kA).trans k9) ⟨stbKinds _ _ _ _ ((k1.trans kA).trans k9).tst0 hv, ?_, ?_, ?_⟩ q
    · exact tupP1 ((k25.trans k9) _ _ (by simp) e1) (.cons rfl (.cons rfl .nil))
    · exact tupP1 (k9 _ _ (by simp) upd_same) (.cons (tupP1 ((k5.trans k9) _ _ (by simp) e4) (.cons (tupP1 ((k35.trans k9) _ _ (by simp) e2) (.cons rfl .nil)) (.cons (tupP1 ((k45.trans k9) _ _ (by simp) e3) (.cons rfl (.cons rfl .nil))) .nil))) .nil)
    · exact tupP1 upd_same (.cons rfl .nil)
theorem m_sBestRun (T : Tm2 K mg) : ∃ fd, FnOk P w K mg base CX0 6 T.fBestRun fd pSBestRun (spBuild T.tk.tc stBestRun) ∧ Binds K fd pSBestRun [] := by
  refine methOf T.dBestRun scSBestRun (fun vs H Q E h => ?_) (fun cdv A outer s H vs Q E hr h => ?_)
  · obtain ⟨_, _, _, rfl, _⟩ := h
    rfl
  · obtain ⟨g, k, v, rfl, hv, hk, q⟩ := h
    have TX := T.tk.tc.tx
    obtain ⟨fd, F, hb⟩ := m_sInit (P := P) (w := w) (base := base) T.tk.tc
    obtain ⟨bk, rfl, hbk⟩ := kinds_eq hv
    refine ⟨_, pss_cons (ps_expr (pe_c (c_checkKinds TX) hr (pa_cons (pv 1) pa_nil)))
      (pss_one (ps_ret (pe_makeL (i := 0) (T.tk.tc.make g) F hr rfl (Or.inl rfl) hb .nil pass0 (pa_cons (pv 1) (pa_cons (pe_tup (pa_cons pe_non (pa_cons pe_non pa_nil))) (pa_cons (pe_op op_repT1 (pe_tup (pa_cons (pe_tup (pa_cons (pe_tup (pa_cons pe_str (pa_cons pe_str pa_nil))) (pa_cons (pe_tup (pa_cons pe_str (pa_cons pe_str (pa_cons pe_str pa_nil)))) pa_nil))) pa_nil)) (pe_callB call_len_seq rfl TX.f (by decide +kernel) (pa_cons (pv 1) pa_nil))) (pa_cons (pe_tup (pa_cons pe_str pa_nil)) pa_nil))))))), ?_⟩
    refine ⟨_, rfl, [k], _, rfl, hv, (okBestRun (g := g) hk).kinds, fun H1 k1 => ?_⟩
    refine ⟨rfl, _, rfl, by show 2 ≤ sizeLine; exact sz 2, fun p1 hp1 => ?_⟩
    refine ⟨by show 2 ≤ sizeLine; exact sz 2, fun p2 hp2 => ?_⟩
    refine ⟨by show 3 ≤ sizeLine; exact sz 3, fun p3 hp3 => ?_⟩
    refine ⟨by show 2 ≤ sizeLine; exact sz 2, fun p4 hp4 => ?_⟩
    refine ⟨by show 1 ≤ sizeLine; exact sz 1, fun p5 hp5 => ?_⟩
    have e1 : upd H1 p1 (.tup [.non, .non]) p1 = some (.tup [.non, .non]) := upd_same
    have k2 := Kp.new (M := []) (o := .tup [.str "r0+x", .str "x"]) hp2
    have e2 : upd (upd H1 p1 (.tup [.non, .non])) p2 (.tup [.str "r0+x", .str "x"]) p2 = some (.tup [.str "r0+x", .str "x"]) := upd_same
    have k3 := Kp.new (M := []) (o := .tup [.str "r0+x", .str "r1", .str "x"]) hp3
    have e3 : upd (upd (upd H1 p1 (.tup [.non, .non])) p2 (.tup [.str "r0+x", .str "x"])) p3 (.tup [.str "r0+x", .str "r1", .str "x"]) p3 = some (.tup [.str "r0+x", .str "r1", .str "x"]) := upd_same
    have k4 := Kp.new (M := []) (o := .tup [.ref p2, .ref p3]) hp4
    have e4 : upd (upd (upd (upd H1 p1 (.tup [.non, .non])) p2 (.tup [.str "r0+x", .str "x"])) p3 (.tup [.str "r0+x", .str "r1", .str "x"])) p4 (.tup [.ref p2, .ref p3]) p4 = some (.tup [.ref p2, .ref p3]) := upd_same
    have k5 := Kp.new (M := []) (o := .tup [.ref p4]) hp5
    have k45 := k4.trans k5
    have k35 := k3.trans k45
    have k25 := k2.trans k35
    have kA := (Kp.new (M := []) (o := .tup [.non, .non]) hp1).trans k25
    refine ⟨_, rfl, bk, _, rfl, .inr (sqT_tst hbk (k1.trans kA).tst0), _, _, rfl, rfl, SqT.of upd_same, by simp, ?_⟩
    refine ⟨by show 1 ≤ sizeLine; exact sz 1, fun p9 hp9 => ?_⟩
    have k9 := Kp.new (M := []) (o := .tup [.str "r1"]) hp9
    refine fin_init T.tk.tc (st := stBestRun g k) (okBestRun hk) ((k1.trans kA).trans k9) ⟨stbKinds _ _ _ _ ((k1.trans kA).trans k9).tst0 hv, ?_, ?_, ?_⟩ q
    · exact tupP1 ((k25.trans k9) _ _ (by simp) e1) (.cons rfl (.cons rfl .nil))
    · exact tupP1 (k9 _ _ (by simp) upd_same) (.cons (tupP1 ((k5.trans k9) _ _ (by simp) e4) (.cons (tupP1 ((k35.trans k9) _ _ (by simp) e2) (.cons rfl (.cons rfl .nil))) (.cons (tupP1 ((k45.trans k9) _ _ (by simp) e3) (.cons rfl (.cons rfl (.cons rfl .nil)))) .nil))) .nil)
    · exact tupP1 upd_same (.cons rfl .nil)
end
end TP
set_option Elab.async false
set_option linter.all false
set_option maxRecDepth 100000
set_option maxHeartbeats 4000000
/-! the law's own functions: the pool -/
namespace TP
open PySem PySem.Spec PyProof.Rows L2
structure Tl (K : PySem.W.Frag) (mg : Str → Option Value) where
  tm : Tm2 K mg
  cell : DefA K mg "_law_cell" sLawCell pLawCell []
  pool : DefA K mg "_law_pool" sLawPool pLawPool []
  draw : DefA K mg "_law_draw" sLawDraw pLawDraw []
  terms : DefA K mg "_law_terms" sLawTerms pLawTerms []
  source : DefA K mg "_law_source" sLawSource pLawSource []
  some_ : DefA K mg "_law_some" sLawSome pLawSome []
  named : DefA K mg "_law_named" sLawNamed pLawNamed []
  plain : DefA K mg "_law_plain" sLawPlain pLawPlain []
  of_ : DefA K mg "_law_of" sLawOf pLawOf []
  best : DefA K mg "_law_best" sLawBest pLawBest []
  step : DefA K mg "_law_step" sLawStep pLawStep []
  end_ : DefA K mg "_law_end" sLawEnd pLawEnd []
  events : DefA K mg "_law_events" sLawEvents pLawEvents []
  allResults : DefA K mg "_law_all_results" sLawAllResults pLawAllResults []
  times : DefA K mg "_law_times" sLawTimes pLawTimes []
  raised : DefA K mg "_law_raised" sLawRaised pLawRaised []
  walked : DefA K mg "_law_walked" sLawWalked pLawWalked []
  toldRight : DefA K mg "_law_told_right" sLawToldRight pLawToldRight []
  bothRight : DefA K mg "_law_both_right" sLawBothRight pLawBothRight []
  right : DefA K mg "_law_right" sLawRight pLawRight []
  byHand : DefA K mg "_law_by_hand" sLawByHand pLawByHand []
theorem pe_ixr {X : Cx} {r : R2} {a b : Expr} {ta tb : TE} {pos : Pos} (hr : IxR X r) (ha : PE X a ta) (hb : PE X b tb) (hs : PlainIx b := by exact fun _ _ => rfl) : PE X (.Subscript a b pos) (tOp r ta tb) := pe_ix hr ha hb hs
/-! ### tuples whose object is known -/
def DNo (H : Hp) (v : V) : Prop := ∃ a o xs, v = .ref a ∧ H a = some (.frz o (.tup xs)) ∧ o.cls = .type "tuple" ∧ o.dict = none
theorem DNo.tst {H H' : Hp} {v : V} (h : DNo H v) (t : Tst H H') : DNo H' v := by
  obtain ⟨a, o, xs, e, h, c, d⟩ := h
  exact ⟨a, o, xs, e, t _ _ rfl h, c, d⟩
theorem call_tuple_frz {X : Cx} : CallR X (.type "tuple") (fun xs H Q => ∃ p ys, xs = [.ref p] ∧ SqL X.K H p ys ∧ ∀ (l : Addr) (o : Obj), o.cls = .type "tuple" → o.dict = none → H l = none → Q (.ref l) (upd H l (.frz o (.tup ys)))) := by
  intro pins s σ H xs us Q I r h
  obtain ⟨p, ys, rfl, hq, q⟩ := h
  obtain ⟨u, rfl, rx⟩ := vals1 r
  cases rx
  obtain ⟨its, r', pl, hz⟩ := I.list hq
  have hlen := r'.length
  refine call_tuple_list pl.isList (fun h' kp => ?_) (by simp only [List.size_toArray] <;> omega)
  have I1 : Inv X pins σ H { s with heap := h' } := I.kept (t' := s.toks) kp
  have I2 : Inv X pins σ (upd H h'.objs.size (.frz { cls := .type "tuple", data := .seq its.toArray } (.tup ys))) { s with heap := h'.push { cls := .type "tuple", data := .seq its.toArray } } :=
    I1.laid (t' := s.toks) (fun b o e => Heap.get?_push_of_some _ e) (Nat.le_refl _) (show ObjOk X.prog X.w _ _ _ (.frz _ (.tup ys)) from ⟨Heap.get?_push_size _ rfl, hz, its, r', IsTup.new _ _⟩)
  exact ⟨.ref h'.objs.size, _, I2, rfl, q _ _ rfl rfl (I1.hok.fresh (Nat.le_refl _))⟩
/-- a method of such a tuple -/
def tBMT (r : V → List V → Hp → VK → Prop) (to : TE) (t : TA) : TE := fun σ H Q => to σ H fun x H1 => DNo H1 x ∧ t σ H1 fun xs H2 => r x xs H2 Q
theorem pe_bmT {X : Cx} {o e : Expr} {es : List Expr} {to : TE} {t : TA} {name : Str} {apos cpos : Pos} {id : String} {r : V → List V → Hp → VK → Prop} (slot : PySem.Slot "tuple" name id) (hty : typeOf (.builtin id) = pure (.type "method_descriptor")) (hm : MtR X id r) (ho : PE X o to) (ha : PA X (e :: es) t)
    (hbase : attributeBase o name X.env (eval o X.env) = eval o X.env := by rfl)
    (hfew : ((backTo cpos (starEach (e :: es) X.env)).all (fun x => !x.1) && (backToKw cpos (keywordEach [] X.env)).all (fun x => x.1.isSome)
      && decide ((e :: es).length + ([] : List Keyword).length + (if ([] : List Keyword).isEmpty then 0 else 1) < 30)) = true := by rfl)
    (hline : (apos.endLine == cpos.line) = true := by rfl) (hs : starEach (e :: es) X.env = (false, eval e X.env) :: starEach es X.env := by rfl) (hplain : (backTo cpos (starEach es X.env)).any (·.1) = false := by rfl) :
    PE X (.Call (.Attribute o name apos) (e :: es) [] cpos) (tBMT r to t) := by
  refine ⟨fun pins s σ H Q I h => ?_⟩
  refine wpAny_Call_method_late hbase hfew hline rfl (thn (ho.run pins s σ H _ I h) fun v s1 ⟨x, H1, I1, r1, ty, q1⟩ => ?_)
  obtain ⟨p, ob, xs, rfl, hp, hc, hd⟩ := ty
  obtain rfl : v = Value.ref p := r1
  obtain ⟨hg, _⟩ := (show ObjOk X.prog X.w H1 s1.heap p (.frz ob (.tup xs)) from I1.hok p _ hp)
  refine ⟨"tuple", id, PySem.F.plainAttrs_tuple, slot, hty, ⟨ob, hg, hc⟩, (fun a e => by
    cases e
    exact ⟨ob, hg, hd⟩), ?_⟩
  have hA := ha.run cpos pins s1 σ H1 _ I1 q1
  rw [hs] at hA ⊢
  refine Calls.callWith_builtin (by show (false || (backTo cpos (starEach es X.env)).any (·.1)) = false; rw [hplain] <;> rfl) (Calls.evalArgs_plain ?_)
  exact thn hA fun us s2 ⟨vs, H2, I2, r2, q2⟩ => hm pins s2 σ H2 (.ref p) vs (.ref p) us Q I2 rfl r2 q2
/-! ### cuts -/
theorem cut_take (xs : List V) (n : Nat) : cutV xs none (some (n : Int)) = xs.take n := by
  unfold cutV
  rw [HT.sIx_none, HT.sIx_nat, List.drop_zero, Nat.sub_zero]
  rcases Nat.le_total n xs.length with h | h
  · rw [Nat.min_eq_left h]
  · rw [Nat.min_eq_right h, List.take_of_length_le h, List.take_length]
theorem cut_drop (xs : List V) (n : Nat) : cutV xs (some (n : Int)) none = xs.drop n := by
  unfold cutV
  rw [HT.sIx_none, HT.sIx_nat]
  rcases Nat.le_total n xs.length with h | h
  · rw [Nat.min_eq_left h, List.take_of_length_le]
    rw [List.length_drop]
    exact Nat.le_refl _
  · rw [Nat.min_eq_right h, Nat.sub_self, List.take_zero, List.drop_eq_nil_of_le h]
/-- t[:n] -/
def rSlTk (K : PySem.W.Frag) : V → Option Int → Option Int → Hp → VK → Prop := fun x lo hi H Q => ∃ (a : Addr) (xs : List V) (n : Nat), x = .ref a ∧ lo = none ∧ hi = some (n : Int) ∧ SqT K H a xs ∧ ∀ b H', Kp [] H H' → SqT K H' b (xs.take n) → Q (.ref b) H'
theorem sl_tk {X : Cx} : SlR X (rSlTk X.K) := by
  intro pins s σ H x v vl vu lo hi sl Q I rx hs pl pu h
  obtain ⟨a, xs, n, rfl, rfl, rfl, hx, q⟩ := h
  refine sl_tupA pins s σ H _ v vl vu _ _ sl Q I rx hs pl pu ⟨a, xs, rfl, hx, fun z => ?_, fun _ p hp => ?_⟩
  · have z2 := z.2
    rw [HT.sIx_nat] at z2
    refine q a H .refl ?_
    rw [List.take_of_length_le (by omega)]
    exact hx
  · refine q p _ (.new hp) (SqT.of ?_)
    rw [upd_same, cut_take]
/-- t[n:] -/
def rSlDr (K : PySem.W.Frag) : V → Option Int → Option Int → Hp → VK → Prop := fun x lo hi H Q => ∃ (a : Addr) (xs : List V) (n : Nat), x = .ref a ∧ lo = some (n : Int) ∧ hi = none ∧ SqT K H a xs ∧ ∀ b H', Kp [] H H' → SqT K H' b (xs.drop n) → Q (.ref b) H'
theorem sl_dr {X : Cx} : SlR X (rSlDr X.K) := by
  intro pins s σ H x v vl vu lo hi sl Q I rx hs pl pu h
  obtain ⟨a, xs, n, rfl, rfl, rfl, hx, q⟩ := h
  refine sl_tupA pins s σ H _ v vl vu _ _ sl Q I rx hs pl pu ⟨a, xs, rfl, hx, fun z => ?_, fun _ p hp => ?_⟩
  · have z1 := z.1
    rw [HT.sIx_nat] at z1
    refine q a H .refl ?_
    rcases Nat.eq_zero_or_pos n with e | e
    · rw [e, List.drop_zero]
      exact hx
    · have : xs.length = 0 := by omega
      rw [List.length_eq_zero_iff.mp this] at hx ⊢
      rw [List.drop_nil]
      exact hx
  · refine q p _ (.new hp) (SqT.of ?_)
    rw [upd_same, cut_drop]
theorem at_nat {xs : List V} {k : Int} (h0 : 0 ≤ k) (h : k < xs.length) : atI xs k = xs[k.toNat]? := by
  unfold atI ixN
  rw [if_pos h0, if_pos h]
  rfl
theorem laid' {H H' : Hp} {p : Addr} {o : HO} (k : Kp [] (upd H p o) H') : H' p = some o := k _ _ (by simp) upd_same
/-! ### the pool -/
def Pool (H : Hp) (l : Addr) : Prop := ∃ s d n : Int, H l = some (.lst [.int s, .int d, .int n])
theorem Pool.kp {H H' : Hp} {l : Addr} {M : List Addr} (h : Pool H l) (k : Kp M H H') (hl : l ∉ M) : Pool H' l := by
  obtain ⟨s, d, n, h⟩ := h
  exact ⟨s, d, n, k _ _ hl h⟩
theorem Pool.tst {H H' : Hp} {l : Addr} (h : Pool H l) (k : Kp [l] H H') : Tst H H' := by
  obtain ⟨s, d, n, h⟩ := h
  exact k.tst1 h
def spLawCell (K : PySem.W.Frag) : Sp := fun vs H Q _ => ∃ (c : Addr) (zs : List Int) (k : Int), vs = [.ref c, .int k] ∧ SqL K H c (zs.map V.int) ∧ 0 ≤ k ∧ k < 5 ∧ ∀ z H', Kp [] H H' → Q (.int z) H'
def spLawPool : Sp := fun vs H Q _ => ∃ z : Int, vs = [.int z] ∧ ∀ l H', Kp [] H H' → H l = none → Pool H' l → Q (.ref l) H'
def spLawDraw : Sp := fun vs H Q _ => ∃ (l : Addr) (m : Int), vs = [.ref l, .int m] ∧ Pool H l ∧ 0 < m ∧ m < 1000 ∧ ∀ r H', Kp [l] H H' → Pool H' l → 0 ≤ r → r < m → Q (.int r) H'
section
variable {P : Program} {w : World} {K : PySem.W.Frag} {mg : Str → Option Value} {base : Heap}
theorem c_lawCell (T : Tl K mg) : Cal P w K mg base 1 "_law_cell" (spLawCell K) := by
  refine calOf T.cell scLawCell (fun vs H Q E h => ?_) (fun f cdv A outer s H vs Q E hr h => ?_)
  · obtain ⟨_, _, _, rfl, _⟩ := h
    rfl
  · obtain ⟨c, zs, k, rfl, hc, hk, hk5, q⟩ := h
    have TX := T.tm.tk.tc.tx
    refine ⟨_, pss_cons (ps_if (pt_cmpR op_lt (pv 1) (pe_callB call_len_seq rfl TX.f (by decide +kernel) (pa_cons (pv 0) pa_nil)) (nomark _)) (pss_one (ps_ret (pe_ixr ix_list (pv 0) (pv 1)))) pss_nil)
      (pss_cons (ps_set (i := 2) scLawCell.nd rfl (Or.inl rfl) (pe_op op_mod (pe_op op_mul pe_int (pe_op op_add (pe_op op_add (pe_op op_mul (pv 1) (pv 1)) (pe_op op_mul pe_int (pv 1))) pe_int)) pe_int))
      (pss_cons (ps_for PassesOwn.never rfl (pi_list (pe_slice sl_list (pv 0) po_none (po_some pe_int))) (pg_name (i := 3) scLawCell.nd rfl (Or.inl rfl))
        (pss_one (ps_set (i := 2) scLawCell.nd rfl (Or.inl rfl) (pe_op op_mod (pe_op op_add (pe_op op_mul (pv 2) pe_int) (pv 3)) pe_int))))
      (pss_one (ps_ret (pv 2))))), ?_⟩
    refine ⟨_, rfl, _, rfl, c, _, rfl, .inl hc, _, _, rfl, rfl, _, rfl, ?_⟩
    refine ite2 (fun z => ?_) fun z => ?_
    · have z := of_decide_eq_true z
      have hk2 : k.toNat < zs.length := by
        rw [List.length_map] at z
        omega
      refine ⟨_, rfl, _, rfl, c, _, k, .int zs[k.toNat], rfl, rfl, hc, ?_, q _ _ .refl⟩
      rw [at_nat hk z, List.getElem?_map, List.getElem?_eq_getElem hk2]
      rfl
    · refine ⟨_, rfl, _, rfl, _, _, rfl, rfl, .inl ⟨by omega, by omega⟩, _, rfl, _, _, rfl, rfl, .inl ⟨by omega, by omega⟩, _, _, rfl, rfl, _, _, rfl, rfl, _, _, rfl, rfl, .inl ⟨by omega, by omega⟩, _, _, rfl, rfl, (by decide : (0 : Int) < 2147483179), ?_⟩
      refine ⟨_, rfl, _, rfl, c, _, rfl, hc, fun b hb => ?_⟩
      have k1 := Kp.new (M := []) (o := .lst (cutV (zs.map V.int) none (some 3))) hb
      have hb1 := laid' (Kp.refl (M := []) (H := upd H b (.lst (cutV (zs.map V.int) none (some 3)))))
      have hcut : cutV (zs.map V.int) none (some 3) = (zs.take 3).map V.int := by
        have := cut_take (zs.map V.int) 3
        rw [List.map_take]
        exact this
      rw [hcut] at hb1 k1 ⊢
      generalize upd H b (.lst ((zs.take 3).map V.int)) = H1 at k1 hb1
      refine ⟨b, rfl, ⟨_, SqL.of hb1⟩, for_list (xs := (zs.take 3).map V.int) (fun i σ' H' => Kp [] H1 H' ∧ ∃ (x : Option V) (z : Int), σ' = [some (.ref c), some (.int k), some (.int z), x]) ⟨.refl, none, _, rfl⟩ (fun i σ' H' _ h => SqL.of (h.1 _ _ (by simp) hb1)) (fun i x σ' H2 hx hp => ?_) fun σ' H2 hp => ?_⟩
      · obtain ⟨k2, x0, z0, rfl⟩ := hp
        rw [List.getElem?_map] at hx
        obtain ⟨y, _, rfl⟩ := Option.map_eq_some_iff.mp hx
        refine ⟨_, rfl, _, _, rfl, rfl, .inr ⟨by decide, by decide⟩, _, rfl, _, _, rfl, rfl, _, _, rfl, rfl, (by decide : (0 : Int) < 2147483179), k2, _, _, rfl⟩
      · obtain ⟨k2, x0, z0, rfl⟩ := hp
        exact ⟨_, rfl, q _ _ (k1.trans k2)⟩
theorem c_lawPool (T : Tl K mg) : Cal P w K mg base 1 "_law_pool" spLawPool := by
  refine calOf T.pool scLawPool (fun vs H Q E h => ?_) (fun f cdv A outer s H vs Q E hr h => ?_)
  · obtain ⟨_, rfl, _⟩ := h
    rfl
  · obtain ⟨z, rfl, q⟩ := h
    have TX := T.tm.tk.tc.tx
    refine ⟨_, pss_cons (ps_set (i := 1) scLawPool.nd rfl (Or.inl rfl) (pe_ifExp (PW.pt (pw_or (pt_cmpR op_lt (pv 0) pe_int (nomark _)) (pw_or1 (pt_cmpR op_ge (pv 0) (pe_op op_pow pe_int pe_int) (nomark _))))) (pe_callB call_abs rfl TX.f (by decide +kernel) (pa_cons (pv 0) pa_nil)) pe_int))
      (pss_one (ps_ret (pe_lst (pa_cons (pe_op op_mod (pv 0) pe_int) (pa_cons (pv 1) (pa_cons pe_int pa_nil)))))), ?_⟩
    have p0 : (0 : Int) < 2147483179 := by decide
    refine ⟨_, rfl, _, _, rfl, rfl, _, rfl, ?_⟩
    refine ite2 (fun _ => ?_) fun _ => ?_
    · dsimp only
      exact ⟨_, rfl, _, rfl, _, rfl, _, _, rfl, rfl, p0, _, rfl, by show 3 ≤ sizeLine; exact sz 3, fun l hl => q l _ (.new hl) hl ⟨_, _, _, upd_same⟩⟩
    · refine ⟨_, rfl, _, _, rfl, rfl, ⟨by decide, by decide, by decide⟩, _, _, rfl, rfl, _, rfl, ite2 (fun _ => ?_) fun _ => ?_⟩
      · dsimp only
        exact ⟨_, rfl, _, rfl, _, rfl, _, _, rfl, rfl, p0, _, rfl, by show 3 ≤ sizeLine; exact sz 3, fun l hl => q l _ (.new hl) hl ⟨_, _, _, upd_same⟩⟩
      · dsimp only
        exact ⟨_, rfl, _, _, rfl, rfl, p0, _, rfl, by show 3 ≤ sizeLine; exact sz 3, fun l hl => q l _ (.new hl) hl ⟨_, _, _, upd_same⟩⟩
theorem c_lawDraw (T : Tl K mg) : Cal P w K mg base 1 "_law_draw" spLawDraw := by
  refine calOf T.draw scLawDraw (fun vs H Q E h => ?_) (fun f cdv A outer s H vs Q E hr h => ?_)
  · obtain ⟨_, _, rfl, _⟩ := h
    rfl
  · obtain ⟨l, m, rfl, hp, hm, hm2, q⟩ := h
    have TX := T.tm.tk.tc.tx
    refine ⟨_, pss_cons (ps_asg (pe_op op_add (pe_ixr ix_list (pv 0) pe_int) pe_int) (pg_sub (pv 0) pe_int set_list))
      (pss_cons (ps_set (i := 2) scLawDraw.nd rfl (Or.inl rfl) (pe_ixr ix_list (pv 0) pe_int))
      (pss_cons (ps_asg (pe_op op_mod (pe_op op_add (pe_op op_add (pe_op op_mul (pv 2) (pe_op op_add (pe_op op_mod (pv 2) pe_int) pe_int)) (pe_op op_mul pe_int (pe_ixr ix_list (pv 0) pe_int))) pe_int) pe_int) (pg_sub (pv 0) pe_int set_list))
      (pss_cons (ps_if (pt_cmpR op_gt (pe_ixr ix_list (pv 0) pe_int) pe_int (nomark _))
        (pss_cons (ps_asg (pe_callB call_divmod rfl TX.f (by decide +kernel) (pa_cons (pe_ixr ix_list (pv 0) pe_int) (pa_cons (pv 1) pa_nil))) (pg_tup rfl (pgs_cons (pg_sub (pv 0) pe_int set_list) (pgs_cons (pg_name (i := 3) scLawDraw.nd rfl (Or.inl rfl)) pgs_nil))))
        (pss_one (ps_ret (pv 3)))) pss_nil)
      (pss_one (ps_ret (pe_op op_mod (pe_op op_fdiv (pe_ixr ix_list (pv 0) pe_int) pe_int) (pv 1))))))), ?_⟩
    obtain ⟨s0, d0, n0, hl⟩ := hp
    have p0 : (0 : Int) < 2147483179 := by decide
    refine ⟨_, rfl, l, _, 2, _, rfl, rfl, SqL.of hl, rfl, _, _, rfl, rfl, _, rfl, l, _, 2, _, rfl, rfl, hl, rfl, ?_⟩
    refine ⟨_, rfl, l, _, 0, _, rfl, rfl, SqL.of upd_same, rfl, ?_⟩
    have hb : (-(2 ^ 64) < s0 % 40993 + 30013 ∧ s0 % 40993 + 30013 < 2 ^ 64) := by omega
    refine ⟨_, rfl, _, rfl, _, _, rfl, rfl, (by decide : (0 : Int) < 40993), _, _, rfl, rfl, _, _, rfl, rfl, .inr hb, ?_⟩
    refine ⟨_, rfl, l, _, 2, _, rfl, rfl, SqL.of upd_same, rfl, _, _, rfl, rfl, .inl ⟨by decide, by decide⟩, _, _, rfl, rfl, _, _, rfl, rfl, _, _, rfl, rfl, p0, _, rfl, l, _, 0, _, rfl, rfl, upd_same, rfl, ?_⟩
    refine ⟨_, rfl, l, _, 1, _, rfl, rfl, SqL.of upd_same, rfl, _, _, rfl, rfl, _, rfl, ?_⟩
    have hc : CDiv d0 m := ⟨hm, by omega⟩
    refine ite2 (fun z => ?_) fun z => ?_
    · dsimp only
      refine ⟨_, rfl, l, _, 1, _, rfl, rfl, SqL.of upd_same, rfl, _, rfl, _, _, rfl, hc, fun p hp => ?_⟩
      refine ⟨p, _, rfl, SqT.of upd_same, rfl, _, _, rfl, _, rfl, l, _, 1, 1, rfl, rfl, (Kp.new (M := []) hp) _ _ (by simp) upd_same, rfl, _, _, rfl, rfl, _, rfl, ?_⟩
      exact q _ _ ((((Kp.put (by simp)).trans (.put (by simp))).trans (.new hp)).trans (.put (by simp))) ⟨_, _, _, upd_same⟩ (Int.emod_nonneg _ (by omega)) (Int.emod_lt_of_pos _ hm)
    · dsimp only
      refine ⟨_, rfl, l, _, 0, _, rfl, rfl, SqL.of upd_same, rfl, _, _, rfl, rfl, ⟨by decide, by decide⟩, _, rfl, _, _, rfl, rfl, hm, ?_⟩
      exact q _ _ ((Kp.put (by simp)).trans (.put (by simp))) ⟨_, _, _, upd_same⟩ (Int.emod_nonneg _ (by omega)) (Int.emod_lt_of_pos _ hm)
end
end TP
set_option Elab.async false
set_option linter.all false
set_option maxRecDepth 100000
set_option maxHeartbeats 4000000
/-! the law's own functions: terms, rules' nodes, kinds -/
namespace TP
open PySem PySem.Spec PyProof.Rows L2
/-! ### comprehensions that draw from the pool at l -/
def LP (D l : Addr) (H1 : Hp) (S : Nat → List V → Hp → Prop) (i : Nat) (H : Hp) : Prop := ∃ acc, H D = some (.lst acc) ∧ acc.length ≤ i ∧ Kp [l] H1 H ∧ Pool H l ∧ S i acc H
section
variable {D l : Addr} {H1 H H4 : Hp} {S : Nat → List V → Hp → Prop} {i : Nat} {acc : List V} {y : V}
theorem Pool.upd (h : Pool H l) (hne : l ≠ D) {o : HO} : Pool (upd H D o) l := by
  obtain ⟨s, d, n, h⟩ := h
  exact ⟨s, d, n, by rw [upd_ne hne]; exact h⟩
theorem Pool.ne (h : Pool H l) (hD : H D = none) : l ≠ D := by
  obtain ⟨s, d, n, h⟩ := h
  exact ne_of_none h hD
theorem LP.start (hD : H1 D = none) (hp : Pool H1 l) (st : StbS S) (h : S 0 [] H1) : LP D l H1 S 0 (upd H1 D (.lst [])) := ⟨[], upd_same, Nat.le_refl _, .new hD, hp.upd (hp.ne hD), st _ _ _ _ (.new hD) h⟩
theorem LP.put (hD : H1 D = none) (hp : Pool H1 l) (st : StbS S) (hi : i < 10000) (hl : acc.length ≤ i) (h4 : H4 D = some (.lst acc)) (k : Kp [l] H1 H4) (hp4 : Pool H4 l) (h : S (i + 1) (acc ++ [y]) H4) :
    ∃ acc, H4 D = some (.lst acc) ∧ acc.length < sizeLine ∧ LP D l H1 S (i + 1) (upd H4 D (.lst (acc ++ [y]))) :=
  ⟨acc, h4, Nat.lt_of_lt_of_le (Nat.lt_of_le_of_lt hl hi) (by rw [sizeLine_eq]; decide), acc ++ [y], upd_same, by rw [List.length_append]; exact Nat.succ_le_succ hl, k.putN hD, hp4.upd (hp.ne hD), st _ _ _ _ (.put h4) h⟩
theorem LP.skip (hl : acc.length ≤ i) (h4 : H4 D = some (.lst acc)) (k : Kp [l] H1 H4) (hp4 : Pool H4 l) (h : S (i + 1) acc H4) : LP D l H1 S (i + 1) H4 := ⟨acc, h4, Nat.le_succ_of_le hl, k, hp4, h⟩
end
theorem call_lenK {X : Cx} (K0 : PySem.W.Frag) (hK : X.K = K0) : CallR X (.builtin "len") (fun xs H Q => ∃ p ys, xs = [.ref p] ∧ (SqL K0 H p ys ∨ SqT K0 H p ys) ∧ Q (.int ys.length) H) := by
  subst hK
  exact call_len_seq
theorem laid {H H' : Hp} {p : Addr} {o : HO} (k : Kp [] (upd H p o) H') : H' p = some o := k _ _ (by simp) upd_same
/-! ### terms by numbers -/
def termsI (n : Nat) : List Tm := (List.finRange 14).take (2 * n + 1) ++ [13]
theorem terms_map : ∀ n : _root_.Fin 7, termsL n.val = (termsI n.val).map tmS := by decide +kernel
theorem terms_pw : ∀ n : _root_.Fin 7, (termsI n.val).Pairwise (fun a b => a.val < b.val) := by decide +kernel
theorem terms_le : ∀ n : _root_.Fin 7, ∀ t ∈ termsI n.val, t.val = 13 ∨ t.val ≤ 2 * n.val := by decide +kernel
theorem terms_len : ∀ n : _root_.Fin 7, (termsI n.val).length ≤ 14 := by decide +kernel
theorem termsOk_sub {n : Nat} (hn : n ≤ 6) {ts : List Tm} (h : ts.Sublist (termsI n)) : TermsOk n ts :=
  ⟨(terms_pw ⟨n, by omega⟩).sublist h, fun t ht => terms_le ⟨n, by omega⟩ t (h.subset ht)⟩
theorem reg_txt : ∀ k : _root_.Fin 6, ("r" : Str) ++ Str.ofString (toString ((k.val : Nat) : Int)) = regS k := by decide +kernel
theorem reg_log : ∀ k : _root_.Fin 6, ((k.val : Nat) : Int).natAbs.log2 < 1920 := by decide +kernel
theorem txt_len : ∀ k : _root_.Fin 6, ("r" : Str).length + (Str.ofString (toString ((k.val : Nat) : Int))).length ≤ 2 := by decide +kernel
theorem reg_add : ∀ k : _root_.Fin 6, (regS k).length + ("+x" : Str).length ≤ 4 := by decide +kernel
def tA (k : _root_.Fin 6) : Tm := ⟨2 * k.val + 1, by omega⟩
def tB (k : _root_.Fin 6) : Tm := ⟨2 * k.val + 2, by omega⟩
theorem tA_txt : ∀ k : _root_.Fin 6, regS k = tmS (tA k) := by decide +kernel
theorem tB_txt : ∀ k : _root_.Fin 6, regS k ++ "+x" = tmS (tB k) := by decide +kernel
/-- 'r' + str(k) -/
theorem op_reg {X : Cx} : OpR X (binaryOp .Add) (fun x y H Q => ∃ k : _root_.Fin 6, x = .str "r" ∧ y = .str (Str.ofString (toString ((k.val : Nat) : Int))) ∧ Q (.str (regS k)) H) := by
  intro pins s σ H x y v u Q I rx ry h
  obtain ⟨k, rfl, rfl, q⟩ := h
  refine op_add_str pins s σ H _ _ v u Q I rx ry ⟨_, _, rfl, rfl, Nat.le_trans (txt_len k) (sz 2), ?_⟩
  rw [reg_txt k]
  exact q
/-- own + '+x' -/
theorem op_plusx {X : Cx} : OpR X (binaryOp .Add) (fun x y H Q => ∃ k : _root_.Fin 6, x = .str (regS k) ∧ y = .str "+x" ∧ Q (.str (tmS (tB k))) H) := by
  intro pins s σ H x y v u Q I rx ry h
  obtain ⟨k, rfl, rfl, q⟩ := h
  refine op_add_str pins s σ H _ _ v u Q I rx ry ⟨_, _, rfl, rfl, Nat.le_trans (reg_add k) (sz 4), ?_⟩
  rw [tB_txt k]
  exact q
def spLawTerms : Sp := fun vs H Q _ => ∃ n : Nat, vs = [.int (n : Int)] ∧ n ≤ 6 ∧ ∀ p H', Kp [] H H' → H p = none → H' p = some (.lst ((termsL n).map V.str)) → Q (.ref p) H'
def spLawSome (K : PySem.W.Frag) : Sp := fun vs H Q _ => ∃ (l : Addr) (n k : Nat), vs = [.ref l, .int (n : Int), .int (k : Int)] ∧ Pool H l ∧ k < n ∧ n ≤ 6 ∧ ∀ ts v H', Kp [l] H H' → Pool H' l → RTerms K H' ts v → TermsOk n ts → Q v H'
theorem tb_step : ∀ k : _root_.Fin 6, (tmT.take (2 * k.val + 1)) ++ [regS k, tmS (tB k)] = tmT.take (2 * (k.val + 1) + 1) := by decide +kernel
section
variable {P : Program} {w : World} {K : PySem.W.Frag} {mg : Str → Option Value} {base : Heap}
theorem c_lawTerms (T : Tl K mg) : Cal P w K mg base 1 "_law_terms" spLawTerms := by
  refine calOf T.terms scLawTerms (fun vs H Q E h => ?_) (fun f cdv A outer s H vs Q E hr h => ?_)
  · obtain ⟨_, rfl, _⟩ := h
    rfl
  · obtain ⟨n, rfl, hn, q⟩ := h
    have TX := T.tm.tk.tc.tx
    refine ⟨_, pss_cons (ps_set (i := 1) scLawTerms.nd rfl (Or.inl rfl) (pe_lst (pa_cons pe_str pa_nil)))
      (pss_cons (ps_for PassesOwn.never rfl (pi_range1 rfl TX.f (pa_cons (pv 0) pa_nil)) (pg_name (i := 2) scLawTerms.nd rfl (Or.inl rfl))
        (pss_one (ps_set (i := 1) scLawTerms.nd rfl (Or.inl rfl) (pe_op op_cat (pv 1) (pe_lst (pa_cons (pe_op op_reg pe_str (pe_callTy call_str_int rfl TX.f (by decide +kernel) (pa_cons (pv 2) pa_nil))) (pa_cons (pe_op op_plusx (pe_op op_reg pe_str (pe_callTy call_str_int rfl TX.f (by decide +kernel) (pa_cons (pv 2) pa_nil))) pe_str) pa_nil)))))))
      (pss_one (ps_ret (pe_op op_cat (pv 1) (pe_lst (pa_cons pe_str pa_nil)))))), ?_⟩
    refine ⟨sz 1, fun l hl => ?_⟩
    refine ⟨_, rfl, (n : Int), rfl, by omega, by omega, for_it walk_range (fun i σ' H' => ∃ (p : Addr) (x : Option V), H' p = some (.lst ((tmT.take (2 * i + 1)).map V.str)) ∧ H p = none ∧ Kp [] H H' ∧ σ' = [some (.int n), some (.ref p), x])
      ⟨l, none, upd_same, hl, .new hl, rfl⟩ (fun _ _ _ _ _ => trivial) (fun i x σ' H1 H2 hi hp hy => ?_) fun σ' H1 hp => ?_⟩
    · obtain ⟨p, x0, hp1, hp0, k1, rfl⟩ := hp
      obtain ⟨rfl, hx⟩ := hy
      replace hx : x = V.int (0 + (i : Int)) := hx
      rw [Int.zero_add] at hx
      subst hx
      rw [Int.toNat_natCast] at hi
      have hl6 := reg_log ⟨i, by omega⟩
      refine ⟨_, rfl, _, rfl, _, rfl, hl6, ⟨i, by omega⟩, rfl, rfl, _, rfl, _, rfl, hl6, ⟨i, by omega⟩, rfl, rfl, ⟨i, by omega⟩, rfl, rfl, sz 2, fun p2 hp2 => ?_⟩
      have np : p ≠ p2 := ne_of_none hp1 hp2
      have hsz : (List.map V.str (List.take (2 * i + 1) tmT)).length + 2 ≤ sizeLine := by
        rw [List.length_map, List.length_take]
        exact Nat.le_trans (by omega) (sz 30)
      refine ⟨p, p2, _, _, rfl, rfl, by rw [upd_ne np]; exact hp1, upd_same, hsz, fun p3 hp3 => ?_⟩
      have k2 := (k1.newT hp2 (o := .lst [.str (regS ⟨i, by omega⟩), .str (tmS (tB ⟨i, by omega⟩))]))
      refine ⟨p3, _, ?_, k2.fre hp3, k2.newT hp3, rfl⟩
      rw [upd_same, ← tb_step ⟨i, by omega⟩, List.map_append]
      rfl
    · obtain ⟨p, x0, hp1, hp0, k1, rfl⟩ := hp
      rw [Int.toNat_natCast] at hp1
      refine ⟨_, rfl, sz 1, fun p2 hp2 => ?_⟩
      have np : p ≠ p2 := ne_of_none hp1 hp2
      have hsz : (List.map V.str (List.take (2 * n + 1) tmT)).length + 1 ≤ sizeLine := by
        rw [List.length_map, List.length_take]
        exact Nat.le_trans (by omega) (sz 30)
      refine ⟨p, p2, _, _, rfl, rfl, by rw [upd_ne np]; exact hp1, upd_same, hsz, fun p3 hp3 => ?_⟩
      have k2 := (k1.newT hp2 (o := .lst [.str "x"]))
      refine q p3 _ (k2.newT hp3) (k2.fre hp3) ?_
      rw [upd_same]
      unfold termsL
      rw [List.map_append]
      rfl
theorem c_lawSome (T : Tl K mg) : Cal P w K mg base 2 "_law_some" (spLawSome K) := by
  refine calOf T.some_ scLawSome (fun vs H Q E h => ?_) (fun f cdv A outer s H vs Q E hr h => ?_)
  · obtain ⟨_, _, _, rfl, _⟩ := h
    rfl
  · obtain ⟨l, n, k, rfl, hp, hk, hn, q⟩ := h
    have TX := T.tm.tk.tc.tx
    refine ⟨_, pss_cons (ps_par (i := 3) (j := 4) rfl scLawSome.nd rfl rfl (by decide) rfl rfl (pa_cons (pe_op op_reg pe_str (pe_callTy call_str_int rfl TX.f (by decide +kernel) (pa_cons (pv 2) pa_nil))) (pa_cons (pe_c (c_lawDraw T) hr (pa_cons (pv 0) (pa_cons pe_int pa_nil))) pa_nil)) rfl)
      (pss_cons (ps_if (pt_cmpR op_lt (pv 4) pe_int (nomark _)) (pss_one (ps_ret (pe_ixr ix_list (pe_lst (pa_cons (pe_tup (pa_cons (pv 3) pa_nil)) (pa_cons (pe_tup (pa_cons (pe_op op_plusx (pv 3) pe_str) pa_nil)) (pa_cons (pe_tup (pa_cons (pe_op op_plusx (pv 3) pe_str) (pa_cons pe_str pa_nil))) (pa_cons (pe_tup (pa_cons pe_str pa_nil)) (pa_cons (pe_tup pa_nil) pa_nil)))))) (pv 4)))) pss_nil)
      (pss_cons (ps_set (i := 5) scLawSome.nd rfl (Or.inr rfl) (pe_c (c_lawTerms T) hr (pa_cons (pv 1) pa_nil)))
      (pss_one (ps_ret (pe_callTy call_tuple_of rfl TX.f (by decide +kernel) (pa_cons (pe_lc (own := [("_law_term", 6)]) (g := gName 6) rfl scLawSome.nd (pi_list (pv 5)) (blkOk_by (N := nLawSome) (sc := defScope sLawSome) (by decide +kernel))
        (fun _ _ _ _ _ => pg_name (i := 6) scLawSome.nd rfl (Or.inl rfl)) (fun _ _ _ _ _ => pts_one (pt_cmpR op_lt (pe_c (c_lawDraw T) hr (pa_cons (pv 0) (pa_cons (pe_callB (call_lenK K rfl) rfl TX.f (by decide +kernel) (pa_cons (pv 5) pa_nil)) pa_nil))) pe_int (nomark _))) (fun _ _ _ _ _ => pv 6)) pa_nil)))))), ?_⟩
    have hk6 : k < 6 := by omega
    refine ⟨_, rfl, _, rfl, reg_log ⟨k, hk6⟩, ⟨k, hk6⟩, rfl, rfl, _, rfl, l, 8, rfl, hp, by decide, by decide, fun r H1 k1 hp1 h0 h8 => ?_⟩
    refine ⟨_, _, rfl, _, rfl, _, _, rfl, rfl, _, rfl, ?_⟩
    refine ite2 (fun z => ?_) fun z => ?_
    · have z := of_decide_eq_true z
      dsimp only
      refine ⟨_, rfl, sz 1, fun p1 hp1' => ⟨_, rfl, ⟨k, hk6⟩, rfl, rfl, sz 1, fun p2 hp2 => ⟨_, rfl, ⟨k, hk6⟩, rfl, rfl, sz 2, fun p3 hp3 => ⟨sz 1, fun p4 hp4 => ⟨sz 0, fun p5 hp5 => ⟨sz 5, fun p6 hp6 => ?_⟩⟩⟩⟩⟩⟩
      have n1 := Kp.new (M := []) (o := .tup [.str (regS ⟨k, hk6⟩)]) hp1'
      have n2 := Kp.new (M := []) (o := .tup [.str (tmS (tB ⟨k, hk6⟩))]) hp2
      have n3 := Kp.new (M := []) (o := .tup [.str (tmS (tB ⟨k, hk6⟩)), .str "x"]) hp3
      have n4 := Kp.new (M := []) (o := .tup [.str "0"]) hp4
      have n5 := Kp.new (M := []) (o := .tup []) hp5
      have n6 := Kp.new (M := []) (o := .lst [.ref p1, .ref p2, .ref p3, .ref p4, .ref p5]) hp6
      have m5 := n5.trans n6
      have m4 := n4.trans m5
      have m3 := n3.trans m4
      have m2 := n2.trans m3
      have kF := k1.trans (n1.trans m2).up
      have hpF := hp1.kp (n1.trans m2) (by simp)
      have f1 := laid m2
      have f2 := laid m3
      have f3 := laid m4
      have f4 := laid m5
      have f5 := laid n6
      have f6 := laid (H := upd (upd (upd (upd (upd H1 p1 (.tup [.str (regS ⟨k, hk6⟩)])) p2 (.tup [.str (tmS (tB ⟨k, hk6⟩))])) p3 (.tup [.str (tmS (tB ⟨k, hk6⟩)), .str "x"])) p4 (.tup [.str "0"])) p5 (.tup [])) (p := p6) (o := .lst [.ref p1, .ref p2, .ref p3, .ref p4, .ref p5]) .refl
      have c1 : tmS (tA ⟨k, hk6⟩) = regS ⟨k, hk6⟩ := (tA_txt ⟨k, hk6⟩).symm
      have bA : (tA ⟨k, hk6⟩).val = 2 * k + 1 := rfl
      have bB : (tB ⟨k, hk6⟩).val = 2 * k + 2 := rfl
      generalize upd (upd (upd (upd (upd (upd H1 p1 _) p2 _) p3 _) p4 _) p5 _) p6 _ = HF at *
      have hr5 : r = 0 ∨ r = 1 ∨ r = 2 ∨ r = 3 ∨ r = 4 := by omega
      rcases hr5 with rfl | rfl | rfl | rfl | rfl
      · exact ⟨_, rfl, p6, _, 0, .ref p1, rfl, rfl, SqL.of f6, rfl, q [tA ⟨k, hk6⟩] _ _ kF hpF (tupP1 f1 (.cons (by rw [RTerm, c1]) .nil)) ⟨by simp, fun t ht => by rw [List.mem_singleton.mp ht, bA]; omega⟩⟩
      · exact ⟨_, rfl, p6, _, 1, .ref p2, rfl, rfl, SqL.of f6, rfl, q [tB ⟨k, hk6⟩] _ _ kF hpF (tupP1 f2 (.cons rfl .nil)) ⟨by simp, fun t ht => by rw [List.mem_singleton.mp ht, bB]; omega⟩⟩
      · exact ⟨_, rfl, p6, _, 2, .ref p3, rfl, rfl, SqL.of f6, rfl, q [tB ⟨k, hk6⟩, 13] _ _ kF hpF (tupP1 f3 (.cons rfl (.cons rfl .nil))) ⟨by simp only [List.pairwise_cons, List.mem_singleton, forall_eq, List.not_mem_nil, false_imp_iff, implies_true, List.Pairwise.nil, and_true, bB]; show 2 * k + 2 < 13; omega, fun t ht => (List.mem_cons.mp ht).elim (fun e => by rw [e, bB]; omega) fun ht => .inl (by rw [List.mem_singleton.mp ht]; rfl)⟩⟩
      · exact ⟨_, rfl, p6, _, 3, .ref p4, rfl, rfl, SqL.of f6, rfl, q [0] _ _ kF hpF (tupP1 f4 (.cons rfl .nil)) ⟨by simp, fun t ht => by rw [List.mem_singleton.mp ht]; exact .inr (Nat.zero_le _)⟩⟩
      · exact ⟨_, rfl, p6, _, 4, .ref p5, rfl, rfl, SqL.of f6, rfl, q [] _ _ kF hpF (tupP1 f5 .nil) ⟨.nil, fun t ht => by cases ht⟩⟩
    · dsimp only
      refine ⟨_, rfl, n, rfl, hn, fun pe H2 k2 hpe0 hpe => ?_⟩
      have hp2 := hp1.kp k2 (by simp)
      have hne : pe ≠ l := fun e => (hp1.ne hpe0) e.symm
      have h7 : n < 7 := by omega
      have tlen : (termsL n).length ≤ 14 := by
        rw [terms_map ⟨n, h7⟩, List.length_map]
        exact terms_len ⟨n, h7⟩
      have keep : ∀ {H' : Hp}, Kp [l] H2 H' → SqL K H' pe ((termsL n).map V.str) := fun k => SqL.of (k _ _ (by simpa using hne) hpe)
      refine ⟨_, rfl, pe, rfl, ⟨_, keep .refl⟩, fun D hD => lc_it walk_list (LP D l H2 fun i acc _ => ∃ ts : List Tm, ts.Sublist ((termsI n).take i) ∧ acc = ts.map fun t => V.str (tmS t)) (LP.start hD hp2 (fun _ _ _ _ _ h => h) ⟨[], by simp, rfl⟩) (fun i H' _ ⟨acc, _, _, k, _⟩ => keep k) (fun i x H3 H4 hi hP hy => ?_) fun H3 hP => ?_⟩
      · obtain ⟨acc, hA, hl2, hk3, hp3, ts, hts, rfl⟩ := hP
        obtain ⟨rfl, hx⟩ := hy
        rw [terms_map ⟨n, h7⟩, List.map_map, List.getElem?_map] at hx
        obtain ⟨t, ht, rfl⟩ := Option.map_eq_some_iff.mp hx
        have hlD : D ≠ l := fun e => (hp2.ne hD) e.symm
        refine ⟨rfl, _, rfl, _, rfl, pe, _, rfl, .inl (keep hk3), l, _, rfl, hp3, ?_, ?_, fun r H5 k5 hp5 h0 h5 => ?_⟩
        · rw [List.length_map, terms_map ⟨n, h7⟩]
          show (0 : Int) < ((List.map tmS ((List.finRange 14).take (2 * n + 1) ++ [13])).length : Nat)
          rw [List.length_map, List.length_append]
          simp
        · rw [List.length_map]
          omega
        have hA5 := k5 _ _ (by simpa using hlD) hA
        refine ⟨_, _, rfl, rfl, _, rfl, ite2 (fun z => ?_) fun z => ?_⟩
        · refine ⟨_, rfl, LP.put hD hp2 (fun _ _ _ _ _ h => h) (by rw [List.length_map] at hi; omega) hl2 hA5 (hk3.trans k5) hp5 ⟨ts ++ [t], ?_, by rw [List.map_append]; rfl⟩⟩
          rw [take_succ_of ht]
          exact hts.append (List.Sublist.refl _)
        · refine LP.skip (S := fun i acc _ => ∃ ts : List Tm, ts.Sublist ((termsI n).take i) ∧ acc = ts.map fun t => V.str (tmS t)) hl2 hA5 (hk3.trans k5) hp5 ⟨ts, ?_, rfl⟩
          rw [take_succ_of ht]
          exact hts.trans (List.sublist_append_left _ _)
      · obtain ⟨acc, hA, hl2, hk3, hp3, ts, hts, rfl⟩ := hP
        refine ⟨D, _, rfl, .inl ⟨SqL.of hA, fun p6 hp6 => q ts _ _ (((k1.trans k2.up).trans hk3).trans (.new hp6)) (hp3.upd (hp3.ne hp6)) (tupP1 upd_same ?_) (termsOk_sub hn (hts.trans (List.take_sublist _ _)))⟩⟩
        exact paired_of_map (F := RTerm _) (fun t => V.str (tmS t)) (fun _ => rfl) ts
end
end TP
set_option Elab.async false
set_option linter.all false
set_option maxRecDepth 100000
set_option maxHeartbeats 4000000
/-! the law's own functions: a drawn statistic -/
namespace TP
open PySem PySem.Spec PyProof.Rows L2
theorem ix_listK {X : Cx} (K0 : PySem.W.Frag) (hK : X.K = K0) : IxR X (rIxL K0) := by
  subst hK
  exact ix_list
theorem call_tupleK {X : Cx} (K0 : PySem.W.Frag) (hK : X.K = K0) : CallR X (.type "tuple") (fun xs H Q => ∃ p ys, xs = [.ref p] ∧ ((SqL K0 H p ys ∧ ∀ l, H l = none → Q (.ref l) (upd H l (.tup ys))) ∨ (SqT K0 H p ys ∧ Q (.ref p) H))) := by
  subst hK
  exact call_tuple_of
def namesL : List (List Str) := [["a", "b", "c", "d"], ["buy", "deal", "new", "sell"], ["a", "aa", "ab", "b"], ["k", "z", "zz", "zzzzzzzz"]]
instance {z : Str} : Decidable (KN z) := by unfold KN; infer_instance
theorem asc_of {xs : List Str} (h : xs.Pairwise (fun a b => a.cps.toList < b.cps.toList)) : Asc xs := fun i a b ha hb => pair_adj (R := fun a b : Str => a.cps.toList < b.cps.toList) h ha hb
theorem names_ok : ∀ xs ∈ namesL, xs.length = 4 ∧ (∀ z ∈ xs, KN z) ∧ xs.Pairwise (fun a b => a.cps.toList < b.cps.toList) := by decide +kernel
theorem names_take {xs : List Str} (h : xs ∈ namesL) {m : Nat} (h1 : 1 ≤ m) (h4 : m ≤ 4) : KindsOk (xs.take m) ∧ (xs.take m).length = m := by
  obtain ⟨e, hk, hp⟩ := names_ok xs h
  have hl : (xs.take m).length = m := by rw [List.length_take, e]; omega
  exact ⟨⟨by omega, ⟨by omega, fun z hz => hk z (List.mem_of_mem_take hz)⟩, asc_of (hp.sublist (List.take_sublist _ _))⟩, hl⟩
def spLawNamed (K : PySem.W.Frag) : Sp := fun vs H Q _ => ∃ (l : Addr) (m : Nat), vs = [.ref l, .int (m : Int)] ∧ Pool H l ∧ 1 ≤ m ∧ m ≤ 4 ∧ ∀ kinds v H', Kp [l] H H' → Pool H' l → RKinds K H' kinds v → KindsOk kinds → kinds.length = m → DNo H' v → Q v H'
section
variable {P : Program} {w : World} {K : PySem.W.Frag} {mg : Str → Option Value} {base : Heap}
theorem c_lawNamed (T : Tl K mg) : Cal P w K mg base 2 "_law_named" (spLawNamed K) := by
  refine calOf T.named scLawNamed (fun vs H Q E h => ?_) (fun f cdv A outer s H vs Q E hr h => ?_)
  · obtain ⟨_, _, rfl, _⟩ := h
    rfl
  · obtain ⟨l, m, rfl, hp, h1, h4, q⟩ := h
    have TX := T.tm.tk.tc.tx
    refine ⟨_, pss_cons (ps_set (i := 2) scLawNamed.nd rfl (Or.inl rfl) (pe_lst (pa_cons (pe_lst (pa_cons pe_str (pa_cons pe_str (pa_cons pe_str (pa_cons pe_str pa_nil))))) (pa_cons (pe_lst (pa_cons pe_str (pa_cons pe_str (pa_cons pe_str (pa_cons pe_str pa_nil))))) (pa_cons (pe_lst (pa_cons pe_str (pa_cons pe_str (pa_cons pe_str (pa_cons pe_str pa_nil))))) (pa_cons (pe_lst (pa_cons pe_str (pa_cons pe_str (pa_cons pe_str (pa_cons pe_str pa_nil))))) pa_nil))))))
      (pss_one (ps_ret (pe_callTy call_tuple_frz rfl TX.f (by decide +kernel) (pa_cons (pe_slice sl_list (pe_ixr ix_list (pv 2) (pe_c (c_lawDraw T) hr (pa_cons (pv 0) (pa_cons pe_int pa_nil)))) po_none (po_some (pv 1))) pa_nil)))), ?_⟩
    refine ⟨sz 4, fun p1 hp1 => ⟨sz 4, fun p2 hp2 => ⟨sz 4, fun p3 hp3 => ⟨sz 4, fun p4 hp4 => ⟨sz 4, fun p5 hp5 => ?_⟩⟩⟩⟩⟩
    have n1 := Kp.new (M := []) (o := .lst ((namesL.getD 0 []).map V.str)) hp1
    have n2 := Kp.new (M := []) (o := .lst ((namesL.getD 1 []).map V.str)) hp2
    have n3 := Kp.new (M := []) (o := .lst ((namesL.getD 2 []).map V.str)) hp3
    have n4 := Kp.new (M := []) (o := .lst ((namesL.getD 3 []).map V.str)) hp4
    have n5 := Kp.new (M := []) (o := .lst [.ref p1, .ref p2, .ref p3, .ref p4]) hp5
    have m4 := n4.trans n5
    have m3 := n3.trans m4
    have m2 := n2.trans m3
    have m1 := n1.trans m2
    have f1 := laid m2
    have f2 := laid m3
    have f3 := laid m4
    have f4 := laid n5
    have f5 := laid (Kp.refl (M := []) (H := upd (upd (upd (upd (upd H p1 (.lst ((namesL.getD 0 []).map V.str))) p2 (.lst ((namesL.getD 1 []).map V.str))) p3 (.lst ((namesL.getD 2 []).map V.str))) p4 (.lst ((namesL.getD 3 []).map V.str))) p5 (.lst [.ref p1, .ref p2, .ref p3, .ref p4])))
    have hpF := hp.kp m1 (by simp)
    have e1 := hp.ne hp1
    have e2 := (hp.kp n1 (by simp)).ne hp2
    have e3 := (hp.kp (n1.trans n2) (by simp)).ne hp3
    have e4 := (hp.kp ((n1.trans n2).trans n3) (by simp)).ne hp4
    have e5 := (hp.kp (((n1.trans n2).trans n3).trans n4) (by simp)).ne hp5
    refine ⟨_, rfl, _, rfl, l, 4, rfl, hpF, by decide, by decide, fun r H1 k1 hpl h0 hr4 => ?_⟩
    have g1 := k1 _ _ (by simpa using e1.symm) f1
    have g2 := k1 _ _ (by simpa using e2.symm) f2
    have g3 := k1 _ _ (by simpa using e3.symm) f3
    have g4 := k1 _ _ (by simpa using e4.symm) f4
    have g5 := k1 _ _ (by simpa using e5.symm) f5
    have fin : ∀ (xs : List Str), xs ∈ namesL → ∀ (a b : Addr) (o : Obj), o.cls = .type "tuple" → o.dict = none → H1 a = none → upd H1 a (.lst (cutV (xs.map V.str) none (some (m : Int)))) b = none → Q (.ref b) (upd (upd H1 a (.lst (cutV (xs.map V.str) none (some (m : Int))))) b (.frz o (.tup (cutV (xs.map V.str) none (some (m : Int)))))) := by
      intro xs hx a b o hc hd ha hb
      have na := Kp.new (M := []) (o := .lst (cutV (xs.map V.str) none (some (m : Int)))) ha
      have nb := Kp.new (M := []) (o := .frz o (.tup (cutV (xs.map V.str) none (some (m : Int))))) hb
      obtain ⟨k1', k2'⟩ := names_take hx h1 h4
      refine q (xs.take m) _ _ ((m1.up.trans k1).trans (na.trans nb).up) (hpl.kp (na.trans nb) (by simp)) ⟨b, _, rfl, .inl (.inr ⟨o, upd_same⟩), ?_⟩ k1' k2' ⟨b, o, _, rfl, upd_same, hc, hd⟩
      rw [cut_take, ← List.map_take]
      exact paired_of_map (F := RStr _) V.str (fun _ => rfl) _
    have hr5 : r = 0 ∨ r = 1 ∨ r = 2 ∨ r = 3 := by omega
    rcases hr5 with rfl | rfl | rfl | rfl
    · exact ⟨p5, _, 0, .ref p1, rfl, rfl, SqL.of g5, rfl, _, rfl, _, rfl, p1, _, rfl, SqL.of g1, fun a ha => ⟨a, _, rfl, SqL.of upd_same, fun b o hc hd hb => fin (namesL.getD 0 []) (by decide +kernel) a b o hc hd ha hb⟩⟩
    · exact ⟨p5, _, 1, .ref p2, rfl, rfl, SqL.of g5, rfl, _, rfl, _, rfl, p2, _, rfl, SqL.of g2, fun a ha => ⟨a, _, rfl, SqL.of upd_same, fun b o hc hd hb => fin (namesL.getD 1 []) (by decide +kernel) a b o hc hd ha hb⟩⟩
    · exact ⟨p5, _, 2, .ref p3, rfl, rfl, SqL.of g5, rfl, _, rfl, _, rfl, p3, _, rfl, SqL.of g3, fun a ha => ⟨a, _, rfl, SqL.of upd_same, fun b o hc hd hb => fin (namesL.getD 2 []) (by decide +kernel) a b o hc hd ha hb⟩⟩
    · exact ⟨p5, _, 3, .ref p4, rfl, rfl, SqL.of g5, rfl, _, rfl, _, rfl, p4, _, rfl, SqL.of g4, fun a ha => ⟨a, _, rfl, SqL.of upd_same, fun b o hc hd hb => fin (namesL.getD 3 []) (by decide +kernel) a b o hc hd ha hb⟩⟩
end
end TP
set_option Elab.async false
set_option linter.all false
set_option maxRecDepth 100000
set_option maxHeartbeats 4000000
/-! _law_plain -/
namespace TP
open PySem PySem.Spec PyProof.Rows L2
/-- the statistic st as the law's tuple -/
def RPlain (K : PySem.W.Frag) (H : Hp) (st : Sta) (v : V) : Prop := ∃ p vk vs vr ve, v = .ref p ∧ SqT K H p [.str (sideS st.g), vk, vs, vr, ve] ∧ Parts K H st vk vs vr ve ∧ DNo H vk
theorem stbPlain {K : PySem.W.Frag} : Stb (RPlain K) := fun H H' st v t ⟨p, vk, vs, vr, ve, e, h, ps, dn⟩ => ⟨p, vk, vs, vr, ve, e, sqT_tst h t, ps.stb t, dn.tst t⟩
def spLawPlain (K : PySem.W.Frag) : Sp := fun vs H Q _ => ∃ (l : Addr) (m n : Nat), vs = [.ref l, .int (m : Int), .int (n : Int)] ∧ Pool H l ∧ (1 ≤ m ∧ m ≤ 4) ∧ (1 ≤ n ∧ n ≤ 6) ∧
  ∀ st v H', Kp [l] H H' → Pool H' l → RPlain K H' st v → st.Ok → st.kinds.length = m → st.start.length = n → Q v H'
def lpScope : Scope := match (defBody sLawPlain).getD 1 (.Pass ⟨0, 0, 0, 0⟩) with
  | .Assign _ (.Call _ (.ListComp _ _ sc _ :: _) _ _) _ => sc
  | _ => { kind := .function, names := [], isGenerator := false, isCoroutine := false }
def intsF (is : List (_root_.Fin 6)) : List V := (is.map fun k => ((k.val : Nat) : Int)).map V.int
theorem intsF_app (is : List (_root_.Fin 6)) (k : _root_.Fin 6) : intsF (is ++ [k]) = intsF is ++ [.int ((k.val : Nat) : Int)] := by
  unfold intsF
  rw [List.map_append, List.map_append]
  rfl
def begV (b : Bool) : V := if b then .int 0 else .non
theorem beg_row {H : Hp} : ∀ bs : List Bool, Paired (ROpt H) (bs.map fun b => if b then some 0 else none) (bs.map begV)
  | [] => .nil
  | b :: bs => .cons (by cases b <;> rfl) (beg_row bs)
section
variable {P : Program} {w : World} {K : PySem.W.Frag} {mg : Str → Option Value} {base : Heap}
theorem c_lawPlain (T : Tl K mg) : Cal P w K mg base 3 "_law_plain" (spLawPlain K) := by
  refine calOf T.plain scLawPlain (fun vs H Q E h => ?_) (fun f cdv A outer s H vs Q E hr h => ?_)
  · obtain ⟨_, _, _, rfl, _⟩ := h
    rfl
  · obtain ⟨l, m, n, rfl, hp, hm, hn, q⟩ := h
    have TX := T.tm.tk.tc.tx
    refine ⟨_, pss_cons (ps_set (i := 3) scLawPlain.nd rfl (Or.inl rfl) (pe_callTy call_tuple_of rfl TX.f (by decide +kernel) (pa_cons (pe_lc (own := [("_law_k", 7)]) (g := gName 7) (tt := tYes) rfl scLawPlain.nd (pi_range1 rfl TX.f (pa_cons (pv 2) pa_nil)) (blkOk_by (N := nLawPlain) (sc := defScope sLawPlain) (by decide +kernel))
          (fun _ _ _ _ _ => pg_name (i := 7) scLawPlain.nd rfl (Or.inl rfl)) (fun _ _ _ _ _ => pts_nil) (fun _ _ _ _ _ => pe_ixr (ix_listK K rfl) (pe_lst (pa_cons pe_int (pa_cons pe_non pa_nil))) (pe_c (c_lawDraw T) hr (pa_cons (pv 0) (pa_cons pe_int pa_nil))))) pa_nil)))
      (pss_cons (ps_set (i := 4) scLawPlain.nd rfl (Or.inl rfl) (pe_callTy call_tuple_of rfl TX.f (by decide +kernel) (pa_cons (pe_lc (own := [("_law_turn", 8)]) (g := gName 8) (tt := tYes) rfl scLawPlain.nd (pi_range1 rfl TX.f (pa_cons (pv 1) pa_nil)) (blkOk_by (N := nLawPlain) (sc := defScope sLawPlain) (by decide +kernel))
          (fun _ _ _ _ _ => pg_name (i := 8) scLawPlain.nd rfl (Or.inl rfl)) (fun _ _ _ _ _ => pts_nil)
          (fun _ _ _ _ _ => pe_callTy (call_tupleK K rfl) rfl TX.f (by decide +kernel) (pa_cons (pe_lc (own := [("_law_k", 7)]) (g := gName 7) (tt := tYes) rfl scLawPlain.nd (pi_range1 rfl TX.f (pa_cons (pv 2) pa_nil)) (blkOk_by (N := nLawPlain) (sc := relS lpScope (defScope sLawPlain)) (by decide +kernel))
            (fun _ _ _ _ _ => pg_name (i := 7) scLawPlain.nd rfl (Or.inl rfl)) (fun _ _ _ _ _ => pts_nil) (fun _ _ _ _ _ => pe_c (c_lawSome T) hr (pa_cons (pv 0) (pa_cons (pv 2) (pa_cons (pv 7) pa_nil))))) pa_nil))) pa_nil)))
      (pss_cons (ps_setLc (i := 5) (own := [("_law_k", 7)]) (g := gName 7) rfl scLawPlain.nd rfl rfl (sw_true rfl rfl rfl (by decide +kernel)) (pi_range1 rfl TX.f (pa_cons (pv 2) pa_nil)) (blkOk_by (N := nLawPlain) (sc := defScope sLawPlain) (by decide +kernel))
          (fun _ _ _ _ _ => pg_name (i := 7) scLawPlain.nd rfl (Or.inl rfl)) (fun _ _ _ _ _ => pts_one (pt_cmpR op_eq (pe_c (c_lawDraw T) hr (pa_cons (pv 0) (pa_cons pe_int pa_nil))) pe_int (nomark _))) (fun _ _ _ _ _ => pv 7))
      (pss_cons (ps_set (i := 5) scLawPlain.nd rfl (Or.inl rfl) (pe_ifExp (pt_cmpR (op_eqD hr.units) (pv 5) (pe_lst pa_nil) (nomark _)) (pe_lst (pa_cons (pe_op op_sub (pv 2) pe_int) pa_nil)) (pv 5)))
      (pss_cons (ps_set (i := 6) scLawPlain.nd rfl (Or.inl rfl) (pe_ixr ix_list (pe_lst (pa_cons pe_str (pa_cons pe_str pa_nil))) (pe_c (c_lawDraw T) hr (pa_cons (pv 0) (pa_cons pe_int pa_nil)))))
      (pss_one (ps_ret (pe_tup (pa_cons (pv 6) (pa_cons (pe_c (c_lawNamed T) hr (pa_cons (pv 0) (pa_cons (pv 1) pa_nil))) (pa_cons (pv 3) (pa_cons (pv 4) (pa_cons
          (pe_callTy call_tuple_of rfl TX.f (by decide +kernel) (pa_cons (pe_lc (own := [("_law_k", 7)]) (g := gName 7) (tt := tYes) rfl scLawPlain.nd (pi_list (pv 5)) (blkOk_by (N := nLawPlain) (sc := defScope sLawPlain) (by decide +kernel))
            (fun _ _ _ _ _ => pg_name (i := 7) scLawPlain.nd rfl (Or.inl rfl)) (fun _ _ _ _ _ => pts_nil) (fun _ _ _ _ _ => pe_op op_reg pe_str (pe_callTy call_str_int rfl TX.f (by decide +kernel) (pa_cons (pv 7) pa_nil)))) pa_nil)) pa_nil)))))))))))), ?_⟩
    -- begun
    refine ⟨_, rfl, (n : Int), rfl, by omega, by omega, fun D1 hD1 => lc_it walk_range (LP D1 l H fun i acc _ => ∃ bs : List Bool, bs.length = i ∧ acc = bs.map begV) (LP.start hD1 hp (fun _ _ _ _ _ h => h) ⟨[], rfl, rfl⟩) (fun _ _ _ _ => trivial) (fun i x H1 H2 hi hP hy => ?_) fun H1 hP => ?_⟩
    · obtain ⟨acc, hA, hl2, k1, hp1, bs, hbl, rfl⟩ := hP
      obtain ⟨rfl, rfl⟩ := hy
      refine ⟨rfl, tyes (iteT ?_)⟩
      refine ⟨sz 2, fun pl hpl => ?_⟩
      have n1 := Kp.new (M := []) (o := .lst [.int 0, .non]) hpl
      have hlD : D1 ≠ l := fun e => (hp.ne hD1) e.symm
      refine ⟨_, rfl, l, 2, rfl, hp1.kp n1 (by simp), by decide, by decide, fun r H5 k5 hp5 h0 h2 => ?_⟩
      have hpl5 := k5 _ _ (by simpa using (hp1.ne hpl).symm) (laid (Kp.refl (M := []) (H := upd H2 pl (.lst [.int 0, .non]))))
      have hA5 := k5 _ _ (by simpa using hlD) (n1 _ _ (by simp) hA)
      obtain ⟨b, hb⟩ : ∃ b, atI [V.int 0, V.non] r = some (begV b) := by
        have : r = 0 ∨ r = 1 := by omega
        rcases this with rfl | rfl
        · exact ⟨true, rfl⟩
        · exact ⟨false, rfl⟩
      exact ⟨pl, _, r, _, rfl, rfl, SqL.of hpl5, hb, LP.put hD1 hp (fun _ _ _ _ _ h => h) (by rw [Int.toNat_natCast] at hi; omega) hl2 hA5 ((k1.trans n1.up).trans k5) hp5 ⟨bs ++ [b], by rw [List.length_append, hbl]; rfl, by rw [List.map_append]; rfl⟩⟩
    obtain ⟨acc1, hA1, _, k1, hp1, bs, hbl, rfl⟩ := hP
    rw [Int.toNat_natCast] at hbl
    refine ⟨D1, _, rfl, .inl ⟨SqL.of hA1, fun pb hpb => ?_⟩⟩
    have kb := Kp.new (M := []) (o := .tup (bs.map begV)) hpb
    have hB := laid (Kp.refl (M := []) (H := upd H1 pb (.tup (bs.map begV))))
    have k2 := k1.trans kb.up
    have hp2 := hp1.kp kb (by simp)
    generalize upd H1 pb (.tup (bs.map begV)) = H2 at kb hB k2 hp2
    clear hA1 k1 hp1 hpb kb
    -- body
    refine ⟨_, rfl, (m : Int), rfl, by omega, by omega, fun D2 hD2 => lc_it walk_range (LP D2 l H2 fun i acc H' => ∃ rules : List Rule, rules.length = i ∧ Paired (RRule K H') rules acc ∧ ∀ r ∈ rules, RuleOk n r)
      (LP.start hD2 hp2 (fun _ _ _ _ t ⟨rs, h1, h2, h3⟩ => ⟨rs, h1, paired_map (fun x v => stbRule _ _ x v t) h2, h3⟩) ⟨[], rfl, .nil, fun _ h => by cases h⟩) (fun _ _ _ _ => trivial) (fun i x H3 H4 hi hP hy => ?_) fun H3 hP => ?_⟩
    · obtain ⟨acc, hA, hl2, k3, hp3, rules, hrl, hra, hrok⟩ := hP
      obtain ⟨rfl, rfl⟩ := hy
      have hlD : D2 ≠ l := fun e => (hp2.ne hD2) e.symm
      refine ⟨rfl, tyes (iteT ?_)⟩
      refine ⟨_, rfl, (n : Int), rfl, by omega, by omega, fun D3 hD3 => lc_it walk_range (LP D3 l H4 fun i acc H' => ∃ r : Rule, r.length = i ∧ Paired (RTerms K H') r acc ∧ ∀ ts ∈ r, TermsOk n ts)
        (LP.start hD3 hp3 (fun _ _ _ _ t ⟨rs, h1, h2, h3⟩ => ⟨rs, h1, paired_map (fun x v => stbTerms _ _ x v t) h2, h3⟩) ⟨[], rfl, .nil, fun _ h => by cases h⟩) (fun _ _ _ _ => trivial) (fun j x H5 H6 hj hP5 hy5 => ?_) fun H5 hP5 => ?_⟩
      · obtain ⟨acc5, hA5, hl5, k5, hp5, r, hr1, hr2, hr3⟩ := hP5
        obtain ⟨rfl, rfl⟩ := hy5
        have hlD3 : D3 ≠ l := fun e => (hp3.ne hD3) e.symm
        rw [Int.toNat_natCast] at hj
        refine ⟨rfl, tyes (iteT ?_)⟩
        refine ⟨_, rfl, _, rfl, _, rfl, l, n, j, by show [V.ref l, V.int n, V.int (0 + (j : Int))] = _; rw [Int.zero_add], hp5, hj, hn.2, fun ts v H7 k7 hp7 hv hts => ?_⟩
        refine LP.put hD3 hp3 (fun _ _ _ _ t ⟨rs, h1, h2, h3⟩ => ⟨rs, h1, paired_map (fun x v => stbTerms _ _ x v t) h2, h3⟩) (by omega) hl5 (k7 _ _ (by simpa using hlD3) hA5) (k5.trans k7) hp7 ⟨r ++ [ts], by rw [List.length_append, hr1]; rfl, paired_append (paired_map (fun x v => stbTerms _ _ x v (hp5.tst k7)) hr2) (.cons hv .nil), fun t ht => ?_⟩
        rcases List.mem_append.mp ht with ht | ht
        · exact hr3 t ht
        · rw [List.mem_singleton.mp ht]; exact hts
      · obtain ⟨acc5, hA5, hl5, k5, hp5, r, hr1, hr2, hr3⟩ := hP5
        rw [Int.toNat_natCast] at hr1 hi
        refine ⟨D3, _, rfl, .inl ⟨SqL.of hA5, fun pt hpt => ?_⟩⟩
        have nt := Kp.new (M := []) (o := .tup acc5) hpt
        have k6 := k5.trans nt.up
        refine LP.put hD2 hp2 (fun _ _ _ _ t ⟨rs, h1, h2, h3⟩ => ⟨rs, h1, paired_map (fun x v => stbRule _ _ x v t) h2, h3⟩) (by omega) hl2 (k6 _ _ (by simpa using hlD) hA) (k3.trans k6) (hp5.kp nt (by simp))
          ⟨rules ++ [r], by rw [List.length_append, hrl]; rfl, paired_append (paired_map (fun x v => stbRule _ _ x v (hp3.tst k6)) hra) (.cons (tupP1 upd_same (paired_map (fun x v => stbTerms _ _ x v nt.tst0) hr2)) .nil), fun t ht => ?_⟩
        rcases List.mem_append.mp ht with ht | ht
        · exact hrok t ht
        · rw [List.mem_singleton.mp ht]; exact ⟨hr1, hr3⟩
    obtain ⟨acc3, hA3, _, k3, hp3, rules, hrl, hra, hrok⟩ := hP
    rw [Int.toNat_natCast] at hrl
    refine ⟨D2, _, rfl, .inl ⟨SqL.of hA3, fun pr hpr => ?_⟩⟩
    have nr := Kp.new (M := []) (o := .tup acc3) hpr
    have hR : RRules K (upd H3 pr (.tup acc3)) rules (.ref pr) := tupP1 upd_same (paired_map (fun x v => stbRule _ _ x v nr.tst0) hra)
    have k4 := k3.trans nr.up
    have hp4 := hp3.kp nr (by simp)
    generalize upd H3 pr (.tup acc3) = H4 at nr hR k4 hp4
    clear hA3 k3 hp3 hpr nr hra
    -- ends
    have hpbl : pb ≠ l := fun e => by
      obtain ⟨_, _, _, h⟩ := hp2
      rw [← e, hB] at h
      cases h
    refine ⟨_, rfl, (n : Int), rfl, by omega, by omega, fun D4 hD4 => lc_it walk_range (LP D4 l H4 fun i acc _ => ∃ is : List (_root_.Fin 6), is.Pairwise (fun a b => a.val < b.val) ∧ (∀ k ∈ is, k.val < i) ∧ acc = intsF is) (LP.start hD4 hp4 (fun _ _ _ _ _ h => h) ⟨[], .nil, (fun _ h => by cases h), rfl⟩) (fun _ _ _ _ => trivial) (fun i x H5 H6 hi hP hy => ?_) fun H5 hP => ?_⟩
    · obtain ⟨acc, hA, hl2, k5, hp5, is, his, hlt, rfl⟩ := hP
      obtain ⟨rfl, rfl⟩ := hy
      rw [Int.toNat_natCast] at hi
      have hlD : D4 ≠ l := fun e => (hp4.ne hD4) e.symm
      refine ⟨rfl, _, rfl, l, 3, rfl, hp5, by decide, by decide, fun r H7 k7 hp7 h0 h2 => ?_⟩
      have hA7 := k7 _ _ (by simpa using hlD) hA
      refine ⟨rfl, _, rfl, ite2 (fun z => ?_) fun z => ?_⟩
      · refine ⟨_, rfl, LP.put hD4 hp4 (fun _ _ _ _ _ h => h) (by omega) hl2 hA7 (k5.trans k7) hp7 ⟨is ++ [⟨i, by omega⟩], ?_, fun k hk => ?_, ?_⟩⟩
        · exact List.pairwise_append.mpr ⟨his, by simp, fun a ha b hb => by rw [List.mem_singleton.mp hb]; exact hlt a ha⟩
        · rcases List.mem_append.mp hk with hk | hk
          · exact Nat.lt_succ_of_lt (hlt k hk)
          · rw [List.mem_singleton.mp hk]; exact Nat.lt_succ_self _
        · rw [intsF_app]
          show _ ++ [V.int (0 + (i : Int))] = _
          rw [Int.zero_add]
      · exact LP.skip (S := fun i acc _ => ∃ is : List (_root_.Fin 6), is.Pairwise (fun a b => a.val < b.val) ∧ (∀ k ∈ is, k.val < i) ∧ acc = intsF is) hl2 hA7 (k5.trans k7) hp7 ⟨is, his, fun k hk => Nat.lt_succ_of_lt (hlt k hk), rfl⟩
    obtain ⟨acc, hA, _, k5, hp5, is, his, hlt, rfl⟩ := hP
    rw [Int.toNat_natCast] at hlt
    refine ⟨_, rfl, sz 0, fun p0 hp0 => ?_⟩
    have np : D4 ≠ p0 := ne_of_none hA hp0
    have n6 := Kp.new (M := []) (o := .lst []) hp0
    have hA6 : upd H5 p0 (.lst []) D4 = some (.lst (intsF is)) := by rw [upd_ne np]; exact hA
    have hp6 := hp5.kp n6 (by simp)
    have k6 := k5.trans n6.up
    refine ⟨_, _, .lst (SqL.of hA6) (dp_ints _), .lst (SqL.of upd_same) .nil, shaped_ints _, by decide, (is.map fun k => ((k.val : Nat) : Int)).isEmpty, by rw [eqv_nil], ?_⟩
    generalize upd H5 p0 (.lst []) = H6 at *
    cases is with
    | nil =>
      refine iteT ?_
      refine ⟨_, rfl, _, _, rfl, rfl, sz 1, fun pe hpe1 => ?_⟩
      have hn1 : n - 1 < 6 := by omega
      obtain ⟨es, hE⟩ : ∃ es : List (_root_.Fin 6), es = [⟨n - 1, hn1⟩] := ⟨_, rfl⟩
      have hpe0 : pe ≠ l := (hp6.ne hpe1).symm
      have e0 : [V.int ((n : Int) - 1)] = intsF es := by
        rw [hE]
        show [V.int ((n : Int) - 1)] = [V.int (((n - 1 : Nat) : Int))]
        rw [show ((n : Int) - 1) = ((n - 1 : Nat) : Int) by omega]
      have n61 := Kp.new (M := []) (o := .lst [.int ((n : Int) - 1)]) hpe1
      have hpe : upd H6 pe (.lst [.int ((n : Int) - 1)]) pe = some (.lst (intsF es)) := by rw [upd_same, e0]
      replace hp6 := hp6.kp n61 (by simp)
      replace k6 := k6.trans n61.up
      have hes : es ≠ [] := by rw [hE]; simp
      have hes2 : es.Pairwise (fun a b => a.val < b.val) := by rw [hE]; simp
      have hes3 : ∀ k ∈ es, k.val < n := fun k hk => by
        rw [hE] at hk
        rw [List.mem_singleton.mp hk]
        show n - 1 < n
        omega
      generalize upd H6 pe (.lst [.int ((n : Int) - 1)]) = H6 at *
      clear hE e0 hA6 n61
      -- the rest
      refine ⟨sz 2, fun pl hpl => ?_⟩
      have n7 := Kp.new (M := []) (o := .lst [.str "greatest", .str "least"]) hpl
      refine ⟨_, rfl, l, 2, rfl, hp6.kp n7 (by simp), by decide, by decide, fun r H7 k7 hp7 h0 h2 => ?_⟩
      have hpl7 := k7 _ _ (by simpa using (hp6.ne hpl).symm) (laid (Kp.refl (M := []) (H := upd H6 pl (.lst [.str "greatest", .str "least"]))))
      have hpe7 := k7 _ _ (by simpa using hpe0) (n7 _ _ (by simp) hpe)
      obtain ⟨g, hg⟩ : ∃ g, atI [V.str "greatest", V.str "least"] r = some (.str (sideS g)) := by
        have : r = 0 ∨ r = 1 := by omega
        rcases this with rfl | rfl
        · exact ⟨true, rfl⟩
        · exact ⟨false, rfl⟩
      refine ⟨pl, _, r, _, rfl, rfl, SqL.of hpl7, hg, ?_⟩
      refine ⟨_, rfl, _, rfl, _, rfl, l, m, rfl, hp7, hm.1, hm.2, fun kinds vk H8 k8 hp8 hk hko hkl hdn => ?_⟩
      have hpe8 := k8 _ _ (by simpa using hpe0) hpe7
      refine ⟨_, rfl, _, rfl, _, rfl, pe, rfl, ⟨_, SqL.of hpe8⟩, fun D5 hD5 => lc_it walk_list (LS D5 [] H8 fun i acc _ => acc = (es.take i).map fun k => V.str (regS k)) (LS.start hD5 (fun _ _ _ _ _ h => h) rfl) (fun i H9 _ ⟨acc, _, _, k, _⟩ => SqL.of (k _ _ (by simp) hpe8)) (fun i x H9 H10 hi hP hy => ?_) fun H9 hP => ?_⟩
      · obtain ⟨acc, hA, hl2, k9, rfl⟩ := hP
        obtain ⟨rfl, hx⟩ := hy
        unfold intsF at hx
        rw [List.map_map, List.getElem?_map] at hx
        obtain ⟨k, hk2, rfl⟩ := Option.map_eq_some_iff.mp hx
        refine ⟨rfl, tyes (iteT ?_)⟩
        refine ⟨_, rfl, _, rfl, reg_log k, k, rfl, rfl, LS.put hD5 (by simp) (fun _ _ _ _ _ h => h) ?_ hl2 hA k9 ?_⟩
        · have := (List.getElem?_eq_some_iff.mp hk2).1
          have := ends_len hes2
          omega
        · rw [take_succ_of hk2, List.map_append]
          rfl
      · obtain ⟨acc, hA, _, k9, rfl⟩ := hP
        have hlen : (intsF es).length = es.length := by unfold intsF; rw [List.length_map, List.length_map]
        rw [hlen, List.take_length] at hA
        refine ⟨D5, _, rfl, .inl ⟨SqL.of hA, fun p9 hp9 => ?_⟩⟩
        have n9 := Kp.new (M := []) (o := .tup (es.map fun k => V.str (regS k))) hp9
        refine ⟨sz 5, fun pf hpf => ?_⟩
        have nf := Kp.new (M := []) (o := .tup [.str (sideS g), vk, .ref pb, .ref pr, .ref p9]) hpf
        have kA : Kp [] H8 (upd (upd H9 p9 (.tup (es.map fun k => V.str (regS k)))) pf (.tup [.str (sideS g), vk, .ref pb, .ref pr, .ref p9])) := (k9.trans n9).trans nf
        have k67 : Kp [l] H4 H8 := ((k6.trans n7.up).trans k7).trans k8
        have t67 := hp4.tst k67
        refine q ⟨g, kinds, bs, rules, es⟩ _ _ (((k2.trans k4).trans k67).trans kA.up) (hp8.kp kA (by simp)) ⟨pf, vk, .ref pb, .ref pr, .ref p9, rfl, SqT.of upd_same, ⟨stbKinds _ _ _ _ kA.tst0 hk, ?_, stbRules _ _ _ _ (t67.trans kA.tst0) hR, ?_⟩, hdn.tst kA.tst0⟩ ⟨hko, ?_, ⟨hrl.trans hkl.symm, ?_⟩, ⟨hes, hes2, ?_⟩⟩ hkl hbl
        · refine ⟨pb, bs.map begV, rfl, SqT.of (kA _ _ (by simp) (k67 _ _ (by simpa using hpbl) (k4 _ _ (by simpa using hpbl) hB))), ?_⟩
          exact beg_row bs
        · exact tupP1 (nf _ _ (by simp) upd_same) (paired_of_map (F := REnd _) (fun k => V.str (regS k)) (fun _ => rfl) es)
        · refine ⟨by rw [row_len]; show 1 ≤ bs.length ∧ bs.length ≤ 6; omega, fun o ho => ?_⟩
          obtain ⟨b, _, rfl⟩ := List.mem_map.mp ho
          cases b
          · exact .inl rfl
          · exact .inr rfl
        · intro r hr
          rw [show (Sta.mk g kinds bs rules es).start.length = n from hbl]
          exact hrok r hr
        · intro k hk
          rw [show (Sta.mk g kinds bs rules es).start.length = n from hbl]
          exact hes3 k hk
    | cons e is =>
      refine iteF ?_
      refine ⟨_, rfl, ?_⟩
      obtain ⟨es, hE⟩ : ∃ es : List (_root_.Fin 6), es = e :: is := ⟨_, rfl⟩
      rw [← hE] at hA6 his hlt
      obtain ⟨pe, hP4⟩ : ∃ pe, pe = D4 := ⟨_, rfl⟩
      rw [← hP4] at hA6 ⊢
      have hpe := hA6
      have hpe0 : pe ≠ l := by rw [hP4]; exact fun e => (hp4.ne hD4) e.symm
      have hes : es ≠ [] := by rw [hE]; simp
      have hes2 := his
      have hes3 := hlt
      -- the rest
      refine ⟨sz 2, fun pl hpl => ?_⟩
      have n7 := Kp.new (M := []) (o := .lst [.str "greatest", .str "least"]) hpl
      refine ⟨_, rfl, l, 2, rfl, hp6.kp n7 (by simp), by decide, by decide, fun r H7 k7 hp7 h0 h2 => ?_⟩
      have hpl7 := k7 _ _ (by simpa using (hp6.ne hpl).symm) (laid (Kp.refl (M := []) (H := upd H6 pl (.lst [.str "greatest", .str "least"]))))
      have hpe7 := k7 _ _ (by simpa using hpe0) (n7 _ _ (by simp) hpe)
      obtain ⟨g, hg⟩ : ∃ g, atI [V.str "greatest", V.str "least"] r = some (.str (sideS g)) := by
        have : r = 0 ∨ r = 1 := by omega
        rcases this with rfl | rfl
        · exact ⟨true, rfl⟩
        · exact ⟨false, rfl⟩
      refine ⟨pl, _, r, _, rfl, rfl, SqL.of hpl7, hg, ?_⟩
      refine ⟨_, rfl, _, rfl, _, rfl, l, m, rfl, hp7, hm.1, hm.2, fun kinds vk H8 k8 hp8 hk hko hkl hdn => ?_⟩
      have hpe8 := k8 _ _ (by simpa using hpe0) hpe7
      refine ⟨_, rfl, _, rfl, _, rfl, pe, rfl, ⟨_, SqL.of hpe8⟩, fun D5 hD5 => lc_it walk_list (LS D5 [] H8 fun i acc _ => acc = (es.take i).map fun k => V.str (regS k)) (LS.start hD5 (fun _ _ _ _ _ h => h) rfl) (fun i H9 _ ⟨acc, _, _, k, _⟩ => SqL.of (k _ _ (by simp) hpe8)) (fun i x H9 H10 hi hP hy => ?_) fun H9 hP => ?_⟩
      · obtain ⟨acc, hA, hl2, k9, rfl⟩ := hP
        obtain ⟨rfl, hx⟩ := hy
        unfold intsF at hx
        rw [List.map_map, List.getElem?_map] at hx
        obtain ⟨k, hk2, rfl⟩ := Option.map_eq_some_iff.mp hx
        refine ⟨rfl, tyes (iteT ?_)⟩
        refine ⟨_, rfl, _, rfl, reg_log k, k, rfl, rfl, LS.put hD5 (by simp) (fun _ _ _ _ _ h => h) ?_ hl2 hA k9 ?_⟩
        · have := (List.getElem?_eq_some_iff.mp hk2).1
          have := ends_len hes2
          omega
        · rw [take_succ_of hk2, List.map_append]
          rfl
      · obtain ⟨acc, hA, _, k9, rfl⟩ := hP
        have hlen : (intsF es).length = es.length := by unfold intsF; rw [List.length_map, List.length_map]
        rw [hlen, List.take_length] at hA
        refine ⟨D5, _, rfl, .inl ⟨SqL.of hA, fun p9 hp9 => ?_⟩⟩
        have n9 := Kp.new (M := []) (o := .tup (es.map fun k => V.str (regS k))) hp9
        refine ⟨sz 5, fun pf hpf => ?_⟩
        have nf := Kp.new (M := []) (o := .tup [.str (sideS g), vk, .ref pb, .ref pr, .ref p9]) hpf
        have kA : Kp [] H8 (upd (upd H9 p9 (.tup (es.map fun k => V.str (regS k)))) pf (.tup [.str (sideS g), vk, .ref pb, .ref pr, .ref p9])) := (k9.trans n9).trans nf
        have k67 : Kp [l] H4 H8 := ((k6.trans n7.up).trans k7).trans k8
        have t67 := hp4.tst k67
        refine q ⟨g, kinds, bs, rules, es⟩ _ _ (((k2.trans k4).trans k67).trans kA.up) (hp8.kp kA (by simp)) ⟨pf, vk, .ref pb, .ref pr, .ref p9, rfl, SqT.of upd_same, ⟨stbKinds _ _ _ _ kA.tst0 hk, ?_, stbRules _ _ _ _ (t67.trans kA.tst0) hR, ?_⟩, hdn.tst kA.tst0⟩ ⟨hko, ?_, ⟨hrl.trans hkl.symm, ?_⟩, ⟨hes, hes2, ?_⟩⟩ hkl hbl
        · refine ⟨pb, bs.map begV, rfl, SqT.of (kA _ _ (by simp) (k67 _ _ (by simpa using hpbl) (k4 _ _ (by simpa using hpbl) hB))), ?_⟩
          exact beg_row bs
        · exact tupP1 (nf _ _ (by simp) upd_same) (paired_of_map (F := REnd _) (fun k => V.str (regS k)) (fun _ => rfl) es)
        · refine ⟨by rw [row_len]; show 1 ≤ bs.length ∧ bs.length ≤ 6; omega, fun o ho => ?_⟩
          obtain ⟨b, _, rfl⟩ := List.mem_map.mp ho
          cases b
          · exact .inl rfl
          · exact .inr rfl
        · intro r hr
          rw [show (Sta.mk g kinds bs rules es).start.length = n from hbl]
          exact hrok r hr
        · intro k hk
          rw [show (Sta.mk g kinds bs rules es).start.length = n from hbl]
          exact hes3 k hk
end
end TP
set_option Elab.async false
set_option linter.all false
set_option maxRecDepth 100000
set_option maxHeartbeats 4000000
/-! the law's own functions: the statistic made, a step, an end -/
namespace TP
open PySem PySem.Spec PyProof.Rows L2
section
variable {K : PySem.W.Frag} {mg : Str → Option Value}
def spLawOf (T : Tl K mg) : Sp := fun vs H Q _ => ∃ (st : Sta) (v : V), vs = [v] ∧ RPlain K H st v ∧ st.Ok ∧ ∀ p H', Kp [] H H' → StI T.tm.tk.tc H' st (.ref p) → Q (.ref p) H'
end
section
variable {P : Program} {w : World} {K : PySem.W.Frag} {mg : Str → Option Value} {base : Heap}
theorem c_lawSource (T : Tl K mg) : Cal P w K mg base 1 "_law_source" (spSourceOf K) := by
  refine calOf T.source scLawSource (fun vs H Q E h => ?_) (fun f cdv A outer s H vs Q E hr h => ?_)
  · obtain ⟨_, rfl, _⟩ := h
    rfl
  · obtain ⟨t, rfl, q⟩ := h
    have TX := T.tm.tk.tc.tx
    have h3 := small1000 (Nat.le_refl 1000)
    refine ⟨_, pss_cons (ps_if (pt_cmpR op_in_seq (pv 0) (pe_lst (pa_cons pe_str (pa_cons pe_str pa_nil))) rfl) (pss_one (ps_ret (pe_tup (pa_cons pe_str (pa_cons (pe_cmpR op_eq (pv 0) pe_str (nomark _)) pa_nil))))) pss_nil)
      (pss_one (ps_ret (pe_tup (pa_cons (pe_slice sl_str (pv 0) po_none (po_some pe_int)) (pa_cons (pe_cmpR op_gt (pe_callB call_len_str rfl TX.f (by decide +kernel) (pa_cons (pv 0) pa_nil)) pe_int (nomark _)) pa_nil))))), ?_⟩
    refine ⟨_, rfl, by decide, fun p hp => ?_⟩
    refine ⟨p, _, rfl, .inl (SqL.of upd_same), rfl, rfl, _, congrArg V.bl (src_in t), ?_⟩
    refine ite2 (fun z => ?_) fun z => ?_
    · have z := of_decide_eq_true z
      obtain ⟨e1, e2⟩ := src_end t z
      refine ⟨_, rfl, rfl, by show 2 ≤ sizeLine; omega, fun p2 hp2 => q p2 _ ((Kp.new hp).newT hp2) ((Kp.new (M := []) hp).fre hp2) ?_⟩
      rw [upd_same, e1, ← e2]
      simp
    · have z : ¬ (t.val = 0 ∨ t.val = 13) := fun y => z (decide_eq_true y)
      have z1 : t.val ≠ 0 := fun y => z (.inl y)
      have z2 : t.val ≠ 13 := fun y => z (.inr y)
      have hs := tm_short t
      refine ⟨_, rfl, _, rfl, _, rfl, by omega, ?_⟩
      refine ⟨_, rfl, _, rfl, by omega, _, _, rfl, rfl, by show 2 ≤ sizeLine; omega, fun p2 hp2 => q p2 _ ((Kp.new hp).newT hp2) ((Kp.new (M := []) hp).fre hp2) ?_⟩
      rw [upd_same, src_cut t z1 z2, ← src_taken t z1 z2]
      simp
      omega
theorem c_lawBest (T : Tl K mg) : Cal P w K mg base 1 "_law_best" (spBestOf K) := by
  refine calOf T.best scLawBest (fun vs H Q E h => ?_) (fun f cdv A outer s H vs Q E hr h => ?_)
  · obtain ⟨_, _, _, rfl, _⟩ := h
    rfl
  · obtain ⟨g, a, os, rfl, ha, hlen, q⟩ := h
    have TX := T.tm.tk.tc.tx
    refine ⟨_, pss_cons (ps_setLc (i := 2) (own := [("_law_value_here", 3)]) (g := gName 3) rfl scLawBest.nd rfl rfl (sw_true rfl rfl rfl (by decide +kernel)) (pi_list (pv 1)) (blkOk_by (N := nLawBest) (sc := defScope sLawBest) (by decide +kernel))
        (fun _ _ _ _ _ => pg_name (i := 3) scLawBest.nd rfl (Or.inl rfl)) (fun _ _ _ _ _ => pts_one (pt_cmpR op_notN (pv 3) pe_non (nomark _))) (fun _ _ _ _ _ => pv 3))
      (pss_cons (ps_if (pt_cmpR (op_eqD hr.units) (pv 2) (pe_lst pa_nil) (nomark _)) (pss_one (ps_ret pe_non)) pss_nil)
      (pss_one (ps_ret (pe_ifExp (pt_cmpR op_eq (pv 0) pe_str (nomark _)) (pe_callB (cr_max rfl) rfl TX.f (by decide +kernel) (pa_cons (pv 2) pa_nil)) (pe_callB (cr_min rfl) rfl TX.f (by decide +kernel) (pa_cons (pv 2) pa_nil)))))), ?_⟩
    have hl : (os.map optV).length = os.length := List.length_map ..
    refine ⟨_, rfl, a, rfl, ⟨_, ha⟩, fun D hD => lc_it walk_list (LS D [] H fun i acc _ => acc = (somes (os.take i)).map V.int) (LS.start hD (fun _ _ _ _ _ h => h) rfl) (fun i H1 _ ⟨acc, _, _, k, _⟩ => k.same.seq ha) (fun i x H1 H2 hi hp hy => ?_) fun H1 hp => ?_⟩
    · obtain ⟨acc, hA, hl2, hk, hS⟩ := hp
      obtain ⟨rfl, hx⟩ := hy
      rw [List.getElem?_map] at hx
      obtain ⟨o, ho, rfl⟩ := Option.map_eq_some_iff.mp hx
      have hs := somes_take ho
      cases o with
      | none => exact ⟨rfl, _, rfl, rfl, false, rfl, iteF (LS.skip hl2 hA hk (by rw [hS, hs, List.append_nil]))⟩
      | some z => exact ⟨rfl, _, rfl, rfl, true, rfl, iteT ⟨_, rfl, LS.put hD (by simp) (fun _ _ _ _ _ h => h) (by omega) hl2 hA hk (by rw [hS, hs, List.map_append]; rfl)⟩⟩
    · obtain ⟨acc, hA, hl2, hk, rfl⟩ := hp
      rw [hl, List.take_length] at hA
      refine ⟨_, rfl, sz 0, fun p hp => ?_⟩
      have np : D ≠ p := ne_of_none hA hp
      have k2 : Kp [] H (upd H1 p (.lst [])) := hk.newT hp
      have hA2 : upd H1 p (.lst []) D = some (.lst ((somes os).map V.int)) := by rw [upd_ne np]; exact hA
      refine ⟨_, _, .lst (SqL.of hA2) (dp_ints _), .lst (SqL.of upd_same) .nil, shaped_ints _, by decide, (somes os).isEmpty, by rw [eqv_nil], ?_⟩
      cases hso : somes os with
      | nil =>
        refine iteT ?_
        have e := best_nil (g := g) hso
        have q2 := q _ k2
        rw [e] at q2
        exact q2
      | cons z zs =>
        refine iteF ?_
        rw [hso] at hA2
        refine ⟨_, rfl, rfl, g, congrArg V.bl (side_eq g), ?_⟩
        cases g with
        | true =>
          refine iteT ⟨_, rfl, D, z :: zs, rfl, SqL.of hA2, Nat.succ_pos _, fun m hm hle => ?_⟩
          have e : best true os = some m := best_of_mem (g := true) (by rw [hso]; exact hm) fun n hn => iteT (hle n (by rw [← hso]; exact hn))
          have q2 := q _ k2
          rw [e] at q2
          exact q2
        | false =>
          refine iteF ⟨_, rfl, D, z :: zs, rfl, SqL.of hA2, Nat.succ_pos _, fun m hm hle => ?_⟩
          have e : best false os = some m := best_of_mem (g := false) (by rw [hso]; exact hm) fun n hn => iteF (hle n (by rw [← hso]; exact hn))
          have q2 := q _ k2
          rw [e] at q2
          exact q2
theorem c_lawOf (T : Tl K mg) : Cal P w K mg base 6 "_law_of" (spLawOf T) := by
  refine calOf T.of_ scLawOf (fun vs H Q E h => ?_) (fun f cdv A outer s H vs Q E hr h => ?_)
  · obtain ⟨_, _, rfl, _⟩ := h
    rfl
  · obtain ⟨st, v, rfl, ⟨p, vk, vs, vr, ve, rfl, hp, ps, _⟩, ok, q⟩ := h
    have TC := T.tm.tk.tc
    obtain ⟨fd, F, hb⟩ := m_sInit (P := P) (w := w) (base := base) T.tm.tk.tc
    have fin := fin_init T.tm.tk.tc ok (.refl (M := []) (H := H)) ps q
    refine ⟨_, pss_cons (ps_if (pt_cmpR op_eq (pe_ixr ix_tup (pv 0) pe_int) pe_str (nomark _)) (pss_one (ps_ret (pe_make (T.tm.tk.tc.make true) F hr rfl (T.tm.tk.tc.mgC true) hb .nil pass0 (pa_cons (pe_ixr ix_tup (pv 0) pe_int) (pa_cons (pe_ixr ix_tup (pv 0) pe_int) (pa_cons (pe_ixr ix_tup (pv 0) pe_int) (pa_cons (pe_ixr ix_tup (pv 0) pe_int) pa_nil))))))) pss_nil)
      (pss_one (ps_ret (pe_make (T.tm.tk.tc.make false) F hr rfl (T.tm.tk.tc.mgC false) hb .nil pass0 (pa_cons (pe_ixr ix_tup (pv 0) pe_int) (pa_cons (pe_ixr ix_tup (pv 0) pe_int) (pa_cons (pe_ixr ix_tup (pv 0) pe_int) (pa_cons (pe_ixr ix_tup (pv 0) pe_int) pa_nil))))))), ?_⟩
    refine ⟨_, rfl, p, _, 0, _, rfl, rfl, hp, rfl, rfl, st.g, congrArg V.bl (side_eq st.g), ?_⟩
    cases hg : st.g with
    | true =>
      rw [hg] at fin
      refine iteT ?_
      exact ⟨_, rfl, p, _, 1, _, rfl, rfl, hp, rfl, _, rfl, p, _, 2, _, rfl, rfl, hp, rfl, _, rfl, p, _, 3, _, rfl, rfl, hp, rfl, _, rfl, p, _, 4, _, rfl, rfl, hp, rfl, fin⟩
    | false =>
      rw [hg] at fin
      refine iteF ?_
      exact ⟨_, rfl, p, _, 1, _, rfl, rfl, hp, rfl, _, rfl, p, _, 2, _, rfl, rfl, hp, rfl, _, rfl, p, _, 3, _, rfl, rfl, hp, rfl, _, rfl, p, _, 4, _, rfl, rfl, hp, rfl, fin⟩
end
end TP
set_option Elab.async false
set_option linter.all false
set_option maxRecDepth 100000
set_option maxHeartbeats 4000000
/-! the law's own step -/
namespace TP
open PySem PySem.Spec PyProof.Rows L2
def spLawStep (K : PySem.W.Frag) : Sp := fun vs H Q _ => ∃ (st : Sta) (row : Row) (e : Ev) (vp vh ve : V), vs = [vp, vh, ve] ∧ RPlain K H st vp ∧ st.Ok ∧ RRow K H row vh ∧ row.length = st.start.length ∧ REv K st.kinds H e ve ∧ e.1 < st.kinds.length ∧
  (-(2 ^ 63) < e.2 ∧ e.2 < 2 ^ 63) ∧ ∀ p H', Kp [] H H' → H' p = some (.tup ((st.stp row e).map optV)) → Q (.ref p) H'
/-- the first i registers' contents and the node 0 -/
structure DW (row : Row) (i : Nat) (kvs : List (Key × V)) : Prop where
  have_ : ∀ k : _root_.Fin 6, k.val < i → valV kvs (.inr (regS k)) = some (optV (row.getD k.val none))
  zero : valV kvs (.inr "0") = some (.int 0)
  len : kvs.length ≤ i + 1
theorem DW.put {row : Row} {kvs : List (Key × V)} {k : _root_.Fin 6} (d : DW row k.val kvs) : DW row (k.val + 1) (putK kvs (.inr (regS k)) (optV (row.getD k.val none))) := by
  refine ⟨fun j hj => ?_, ?_, Nat.le_trans (length_putK _ _ _) (Nat.succ_le_succ d.len)⟩
  · rw [valV_put]
    by_cases e : j = k
    · subst e
      rw [if_pos rfl]
    · rw [if_neg fun z => e (regS_inj _ _ (Sum.inr.inj z))]
      exact d.have_ j (by
        have : j.val ≠ k.val := fun z => e (_root_.Fin.ext z)
        omega)
  · rw [valV_put, if_neg fun z => by
      have h := Sum.inr.inj z
      rw [reg_ne0] at h
      exact h]
    exact d.zero
section
variable {P : Program} {w : World} {K : PySem.W.Frag} {mg : Str → Option Value} {base : Heap}
theorem c_lawStep (T : Tl K mg) : Cal P w K mg base 2 "_law_step" (spLawStep K) := by
  refine calOf T.step scLawStep (fun vs H Q E h => ?_) (fun f cdv A outer s H vs Q E hr h => ?_)
  · obtain ⟨_, _, _, _, _, _, rfl, _⟩ := h
    rfl
  · obtain ⟨st, row, e, vp, vh, ve, rfl, hpl, ok, hrow, hrl, hev, he1, he2, q⟩ := h
    have TX := T.tm.tk.tc.tx
    have hu := hu_of hr
    refine ⟨_, pss_cons (ps_par (i := 3) (j := 4) rfl scLawStep.nd rfl rfl (by decide) rfl rfl (pa_cons (pe_disp (pps_cons pe_str pe_int pps_nil) rfl rfl (by simp) (by decide)) (pa_cons (pe_lst pa_nil) pa_nil)) rfl)
      (pss_cons (ps_for PassesOwn.never rfl (pi_range1 rfl TX.f (pa_cons (pe_callB call_len_seq rfl TX.f (by decide +kernel) (pa_cons (pv 1) pa_nil)) pa_nil)) (pg_name (i := 5) scLawStep.nd rfl (Or.inl rfl))
        (pss_one (ps_dput hu (pv 3) (pe_op op_reg pe_str (pe_callTy call_str_int rfl TX.f (by decide +kernel) (pa_cons (pv 5) pa_nil))) (pe_ixr ix_tup (pv 1) (pv 5)) rfl)))
      (pss_cons (ps_for PassesOwn.never rfl (pi_tup (pe_ixr ix_tup (pe_ixr ix_tup (pv 0) pe_int) (pe_bmT PySem.F.slot_tuple_index PySem.F.type_tuple_index mt_tup_index (pe_ixr ix_tup (pv 0) pe_int) (pa_cons (pe_ixr ix_tup (pv 2) pe_int) pa_nil)))) (pg_name (i := 6) scLawStep.nd rfl (Or.inl rfl))
        (pss_cons (ps_set (i := 7) scLawStep.nd rfl (Or.inl rfl) (pe_lst pa_nil))
        (pss_cons (ps_for PassesOwn.never rfl (pi_tup (pv 6)) (pg_name (i := 8) scLawStep.nd rfl (Or.inl rfl))
          (pss_cons (ps_asg (pe_c (c_lawSource T) hr (pa_cons (pv 8) pa_nil)) (pg_tup rfl (pgs_cons (pg_name (i := 9) scLawStep.nd rfl (Or.inl rfl)) (pgs_cons (pg_name (i := 10) scLawStep.nd rfl (Or.inl rfl)) pgs_nil))))
          (pss_one (ps_if (pt_cmpR op_notN (pe_dget hu (pv 3) (pv 9) (fun _ _ => rfl)) pe_non (nomark _))
            (pss_one (ps_expr (pe_bm PySem.F.plainAttrs_list PySem.F.slot_list_append PySem.F.type_list_append mt_append (pv 7) (pa_cons (pe_op op_add (pe_dget hu (pv 3) (pv 9) (fun _ _ => rfl)) (pe_op op_mul (pe_ixr ix_tup (pv 2) pe_int) (pe_callTy call_int1 rfl TX.f (by decide +kernel) (pa_cons (pv 10) pa_nil)))) pa_nil)))) pss_nil))))
        (pss_one (ps_expr (pe_bm PySem.F.plainAttrs_list PySem.F.slot_list_append PySem.F.type_list_append mt_append (pv 4) (pa_cons (pe_c (c_lawBest T) hr (pa_cons (pe_ixr ix_tup (pv 0) pe_int) (pa_cons (pv 7) pa_nil))) pa_nil)))))))
      (pss_one (ps_ret (pe_callTy call_tuple_of rfl TX.f (by decide +kernel) (pa_cons (pv 4) pa_nil)))))), ?_⟩
    obtain ⟨pp, vk, vs, vr, ve2, rfl, hpp, ps, hdn⟩ := id hpl
    obtain ⟨aw, rfl, haw⟩ := row_eq hrow
    obtain ⟨ae, rfl, hae⟩ := id hev
    obtain ⟨ak, rfl, hak⟩ := kinds_eq ps.k
    obtain ⟨ar, rs, rfl, har, hrs⟩ := ps.r
    have h6 : row.length ≤ 6 := by rw [hrl, ← row_len]; exact ok.start.1.2
    have hlw : (row.map optV).length = row.length := List.length_map ..
    refine fun p0 hp0 => ⟨upd_same, [(.inr "0", .int 0)], rfl, by decide, ?_⟩
    have k0 : Kp [] H (upd (upd H p0 (.dK [])) p0 (.dK (mergeK [] [(.inr "0", .int 0)]))) := (Kp.new hp0).putN hp0
    have e0 : upd (upd H p0 (.dK [])) p0 (.dK (mergeK [] [(.inr "0", .int 0)])) p0 = some (.dK (mergeK [] [(.inr "0", .int 0)])) := upd_same
    generalize upd (upd H p0 (.dK [])) p0 (.dK (mergeK [] [(.inr "0", .int 0)])) = H0 at k0 e0
    refine ⟨sz 0, fun fl hfl => ?_⟩
    have ndf : p0 ≠ fl := ne_of_none e0 hfl
    have hff : H fl = none := k0.fre hfl
    have n1 := Kp.new (M := []) (o := .lst []) hfl
    have k1 := k0.trans n1
    have e1 := n1 _ _ (by simp) e0
    have hfl1 := laid (Kp.refl (M := []) (H := upd H0 fl (.lst [])))
    generalize upd H0 fl (.lst []) = H1 at n1 k1 e1 hfl1
    refine ⟨_, _, rfl, ?_⟩
    refine ⟨_, rfl, aw, _, rfl, .inr (sqT_tst haw k1.tst0), _, rfl, by omega, by omega, for_it walk_range (fun i σ' H' => Kp [] H H' ∧ H' fl = some (.lst []) ∧ ∃ kvs x, H' p0 = some (.dK kvs) ∧ DW row i kvs ∧ σ' = [some (.ref pp), some (.ref aw), some (.ref ae), some (.ref p0), some (.ref fl), x, none, none, none, none, none])
      ⟨k1, hfl1, _, none, e1, ⟨fun k h => absurd h (Nat.not_lt_zero _), rfl, Nat.le_refl _⟩, rfl⟩ (fun _ _ _ _ _ => trivial) (fun i x σ' H2 H3 hi hP hy => ?_) fun σ' H2 hP => ?_⟩
    · obtain ⟨k2, hfl2, kvs, x0, hd, dw, rfl⟩ := hP
      obtain ⟨rfl, hx⟩ := hy
      replace hx : x = V.int (0 + (i : Int)) := hx
      rw [Int.zero_add] at hx
      subst hx
      rw [Int.toNat_natCast, hlw] at hi
      have hi6 : i < 6 := by omega
      have hg : (row.map optV)[i]? = some (optV (row.getD i none)) := by
        rw [List.getElem?_map, List.getElem?_eq_getElem hi, List.getD_eq_getElem?_getD, List.getElem?_eq_getElem hi]
        rfl
      refine ⟨_, rfl, _, rfl, aw, _, _, _, rfl, rfl, sqT_tst haw k2.tst0, atI_nat (j := i) hg, _, rfl, _, rfl, _, rfl, reg_log ⟨i, hi6⟩, ⟨i, hi6⟩, rfl, rfl, p0, _, rfl, DPut.k (k := .inr (regS ⟨i, hi6⟩)) hd (Nat.lt_of_le_of_lt dw.len (small1000 (by omega))), k2.putN hp0, by rw [upd_ne ndf.symm]; exact hfl2, _, _, upd_same, DW.put (k := ⟨i, hi6⟩) dw, rfl⟩
    obtain ⟨k2, hfl2, kv, x5, hd2, dw, rfl⟩ := hP
    rw [Int.toNat_natCast, hlw] at dw
    have hheld : Held row kv := ⟨dw.zero, fun k hk => dw.have_ k hk⟩
    clear dw
    have har2 := sqT_tst har k2.tst0
    obtain ⟨rule, hrule⟩ : ∃ rule, rule = st.rules.getD e.1 [] := ⟨_, rfl⟩
    have hro : RuleOk row.length rule := by rw [hrl, hrule]; exact rule_at ok he1
    have hr1 : st.rules[e.1]? = some rule := by
      rw [hrule, List.getD_eq_getElem?_getD, List.getElem?_eq_getElem (by have := ok.rules.1; omega)]
      rfl
    obtain ⟨rv, hrv1, hrv2⟩ := paired_at hrs hr1
    obtain ⟨arr, its, rfl, harr, hits⟩ := hrv2
    obtain ⟨hrlen, hok⟩ := hro
    have sqp : ∀ {H' : Hp}, Kp [] H H' → SqT K H' pp [.str (sideS st.g), .ref ak, vs, .ref ar, ve2] := fun k => sqT_tst hpp k.tst0
    refine ⟨_, rfl, pp, _, 3, _, rfl, rfl, sqp k2, rfl, _, rfl, pp, _, 1, _, rfl, rfl, sqp k2, rfl, hdn.tst k2.tst0, _, rfl, ae, _, 0, _, rfl, rfl, sqT_tst hae k2.tst0, rfl, ak, st.kinds, _, e.1, rfl, rfl, sqT_tst hak k2.tst0, getD_get he1, fun m hm z => absurd (asc_inj ok.kinds.2.2 z (getD_get he1)) (Nat.ne_of_lt hm), ar, rs, _, _, rfl, rfl, har2, atI_nat hrv1, ?_⟩
    refine ⟨arr, rfl, ⟨_, sqT_tst harr k2.tst0⟩, for_tup (fun i σ' H' => Kp [] H H' ∧ H' p0 = some (.dK kv) ∧ H' fl = some (.lst (((rule.take i).map fun ts => best st.g (ts.map (tval row e.2))).map optV)) ∧
      ∃ x6 x7 x8 x9 x10, σ' = [some (.ref pp), some (.ref aw), some (.ref ae), some (.ref p0), some (.ref fl), x5, x6, x7, x8, x9, x10])
      ⟨k2, hd2, hfl2, none, none, none, none, none, rfl⟩ (fun _ _ _ _ h => sqT_tst harr h.1.tst0) (fun i x σ' H3 hx hp => ?_) fun σ' H3 hp => ?_⟩
    · obtain ⟨k4, hd4, hf4, x6, x7, x8, x9, x10, rfl⟩ := hp
      obtain ⟨ts, hts1, hts2⟩ := paired_get' hits hx
      obtain ⟨at_, rfl, hat⟩ := terms_eq hts2
      obtain ⟨o1, o2⟩ := hok ts (List.mem_of_getElem? hts1)
      have hi : i < rule.length := (List.getElem?_eq_some_iff.mp hts1).1
      have htl : ts.length ≤ 14 := tms_len o1
      refine ⟨sz 0, fun vl hvl => ?_⟩
      have nvd : p0 ≠ vl := ne_of_none hd4 hvl
      have nvf : fl ≠ vl := ne_of_none hf4 hvl
      have n5 := Kp.new (M := []) (o := .lst []) hvl
      have k5 := k4.trans n5
      have hvv := laid (Kp.refl (M := []) (H := upd H3 vl (.lst [])))
      have hd5 := n5 _ _ (by simp) hd4
      have hf5 := n5 _ _ (by simp) hf4
      have hvH : H vl = none := k4.fre hvl
      generalize upd H3 vl (.lst []) = H5 at n5 k5 hvv hd5 hf5
      refine ⟨_, rfl, at_, rfl, ⟨_, sqT_tst hat k5.tst0⟩, for_tup (xs := (ts.map tmS).map V.str) (fun j σ' H' => Kp [vl] H5 H' ∧ H' vl = some (.lst ((somes ((ts.take j).map (tval row e.2))).map V.int)) ∧
        ∃ x8 x9 x10, σ' = [some (.ref pp), some (.ref aw), some (.ref ae), some (.ref p0), some (.ref fl), x5, some (.ref at_), some (.ref vl), x8, x9, x10])
        ⟨.refl, hvv, x8, x9, x10, rfl⟩ (fun j σ' H' _ h => sqT_tst hat (k5.tst0.trans (h.1.tst1 hvv))) (fun j x σ' H6 hx hp => ?_) fun σ' H7 hp => ?_⟩
      · obtain ⟨k6, hv6, y8, y9, y10, rfl⟩ := hp
        rw [List.getElem?_map, List.getElem?_map] at hx
        obtain ⟨z, hz, rfl⟩ := Option.map_eq_some_iff.mp hx
        obtain ⟨t, ht, rfl⟩ := Option.map_eq_some_iff.mp hz
        have hj : j < ts.length := (List.getElem?_eq_some_iff.mp ht).1
        refine ⟨_, rfl, t, rfl, fun p H7 k7 hpn h7 => ?_⟩
        have hv7 := k7 _ _ (by simp) hv6
        have hd7 := k7 _ _ (by simp) (k6 p0 _ (by simp [nvd]) hd5)
        have k67 : Kp [vl] H5 H7 := k6.trans k7.up
        have hat7 := hheld.at_ (o2 t (List.mem_of_getElem? ht))
        have hg : DGet H7 p0 (.str (srcS t)) (some (optV (hv row t))) := by
          have := DGet.k (k := Sum.inr (srcS t)) hd7
          rw [hat7] at this
          exact this
        have hsm : somes ((ts.take (j + 1)).map (tval row e.2)) = somes ((ts.take j).map (tval row e.2)) ++ (match tval row e.2 t with | some z => [z] | none => []) := by
          rw [take_succ_of ht, List.map_append]
          unfold somes
          rw [List.filterMap_append]
          show _ ++ List.filterMap id [tval row e.2 t] = _
          cases tval row e.2 t <;> rfl
        have hle : ((somes ((ts.take j).map (tval row e.2))).map V.int).length < sizeLine := by
          refine small1000 ?_
          rw [List.length_map]
          have h1 : (somes ((ts.take j).map (tval row e.2))).length ≤ ((ts.take j).map (tval row e.2)).length := List.length_filterMap_le ..
          rw [List.length_map, List.length_take] at h1
          omega
        rw [tval_hv] at hsm
        refine ⟨p, _, rfl, SqT.of h7, rfl, _, _, rfl, _, _, rfl, rfl, ?_⟩
        refine ⟨_, rfl, _, rfl, p0, _, rfl, hg, rfl, _, rfl, ?_⟩
        cases hh : hv row t with
        | none =>
          rw [hh] at hsm
          refine iteF ⟨k67, ?_, _, _, _, rfl⟩
          rw [hsm]
          simpa using hv7
        | some z =>
          rw [hh] at hsm hg
          refine iteT ⟨_, rfl, .inl ⟨rfl, _, SqL.of hv7⟩, ?_⟩
          refine ⟨_, rfl, _, rfl, p0, _, rfl, hg, _, rfl, ae, _, 1, _, rfl, rfl, sqT_tst hae (k5.tst0.trans (k67.tst1 hvv)), rfl, _, rfl, .inr ⟨tmTk t, rfl, e.2, _, rfl, rfl, .inl ⟨by omega, by omega⟩, z, _, rfl, rfl, vl, _, _, rfl, rfl, hv7, hle, k67.trans (.put (by simp)), ?_, _, _, _, rfl⟩⟩
          rw [upd_same, hsm, List.map_append]
          cases tmTk t <;> simp
      · obtain ⟨k7, hv7, y8, y9, y10, rfl⟩ := hp
        rw [List.length_map, List.length_map, List.take_length] at hv7
        have hf7 := k7 fl _ (by simp [nvf]) hf5
        have hd7 := k7 p0 _ (by simp [nvd]) hd5
        have k8 : Kp [] H H7 := k5.glue k7 hvH
        refine ⟨_, rfl, .inl ⟨rfl, _, SqL.of hf7⟩, ?_⟩
        refine ⟨_, rfl, pp, _, 0, _, rfl, rfl, sqp k8, rfl, _, rfl, st.g, vl, (somes (ts.map (tval row e.2))).map some, rfl, SqL.of (by rw [hv7, optV_some]), ?_, fun H8 k9 => ?_⟩
        · rw [List.length_map]
          have h1 : (somes (ts.map (tval row e.2))).length ≤ (ts.map (tval row e.2)).length := List.length_filterMap_le ..
          rw [List.length_map] at h1
          omega
        · rw [best_some]
          refine ⟨fl, _, _, rfl, rfl, k9 _ _ (by simp) hf7, small1000 ?_, (k8.trans k9).putN hff, by rw [upd_ne ndf]; exact k9 _ _ (by simp) hd7, ?_, _, _, _, _, _, rfl⟩
          · rw [List.length_map, List.length_map, List.length_take]
            omega
          · rw [upd_same, take_succ_of hts1, List.map_append, List.map_append]
            rfl
    · obtain ⟨k4, hd4, hf4, x6, x7, x8, x9, x10, rfl⟩ := hp
      have hli := Paired.length hits
      rw [← hli, List.take_length] at hf4
      refine ⟨_, rfl, fl, _, rfl, .inl ⟨SqL.of hf4, fun p hp => q p _ (k4.newT hp) ?_⟩⟩
      rw [upd_same, hrule]
      rfl
end
end TP
set_option Elab.async false
set_option linter.all false
set_option maxRecDepth 100000
set_option maxHeartbeats 4000000
/-! the law's own functions: ends, events, results -/
namespace TP
open PySem PySem.Spec PyProof.Rows L2
/-- events of a drawn log -/
def EvB (n : Nat) (log : List Ev) : Prop := log.length ≤ 20 ∧ ∀ e ∈ log, e.1 < n ∧ -30 ≤ e.2 ∧ e.2 ≤ 30
theorem EvB.ok {kinds : List Str} {log : List Ev} (h : EvB kinds.length log) : LogOk kinds log := ⟨by have := h.1; omega, fun e he => ⟨(h.2 e he).1, by have := (h.2 e he).2; exact ⟨by omega, by omega⟩⟩⟩
theorem res_get (st : Sta) {log : List Ev} {i : Nat} (h : i ≤ log.length) : (st.results log)[i]? = some (st.res (st.run st.row (log.take i))) := resultsFrom_get st log st.row i h
def spLawEnd (K : PySem.W.Frag) : Sp := fun vs H Q _ => ∃ (st : Sta) (row : Row) (vp vh : V), vs = [vp, vh] ∧ RPlain K H st vp ∧ st.Ok ∧ RRow K H row vh ∧ row.length = st.start.length ∧ ∀ H', Kp [] H H' → Q (optV (st.res row)) H'
def spLawEvents (K : PySem.W.Frag) : Sp := fun vs H Q _ => ∃ (l : Addr) (st : Sta) (vp : V) (n : Nat) (wd : Int), vs = [.ref l, vp, .int (n : Int), .int wd] ∧ Pool H l ∧ RPlain K H st vp ∧ st.Ok ∧ n ≤ 20 ∧ (0 ≤ wd ∧ wd ≤ 30) ∧
  ∀ log v H', Kp [l] H H' → Pool H' l → RLog K st.kinds H' log v → EvB st.kinds.length log → Q v H'
def spLawAll (K : PySem.W.Frag) : Sp := fun vs H Q _ => ∃ (st : Sta) (log : List Ev) (vp vl : V), vs = [vp, vl] ∧ RPlain K H st vp ∧ st.Ok ∧ RLog K st.kinds H log vl ∧ EvB st.kinds.length log ∧
  ∀ p H', Kp [] H H' → H' p = some (.tup ((st.results log).map optV)) → Q (.ref p) H'
section
variable {P : Program} {w : World} {K : PySem.W.Frag} {mg : Str → Option Value} {base : Heap}
theorem c_lawEnd (T : Tl K mg) : Cal P w K mg base 2 "_law_end" (spLawEnd K) := by
  refine calOf T.end_ scLawEnd (fun vs H Q E h => ?_) (fun f cdv A outer s H vs Q E hr h => ?_)
  · obtain ⟨_, _, _, _, rfl, _⟩ := h
    rfl
  · obtain ⟨st, row, vp, vh, rfl, ⟨pp, vk, vs, vr, ve, rfl, hpp, ps, hdn⟩, ok, hrow, hlen, q⟩ := h
    have TX := T.tm.tk.tc.tx
    obtain ⟨b, rfl, hb⟩ := row_eq hrow
    obtain ⟨be, rfl, hbe⟩ := ends_eq ps.e
    refine ⟨_, pss_one (ps_ret (pe_c (c_lawBest T) hr (pa_cons (pe_ixr ix_tup (pv 0) pe_int) (pa_cons (pe_lc (own := [("_law_one_end", 2)]) (g := gName 2) (tt := tYes) rfl scLawEnd.nd (pi_tup (pe_ixr ix_tup (pv 0) pe_int)) (blkOk_by (N := nLawEnd) (sc := defScope sLawEnd) (by decide +kernel))
        (fun _ _ _ _ _ => pg_name (i := 2) scLawEnd.nd rfl (Or.inl rfl)) (fun _ _ _ _ _ => pts_nil) (fun _ _ _ _ _ => pe_ix (ix_tupK K rfl) (pv 1) (pe_callTy call_int_str rfl TX.f (by decide +kernel) (pa_cons (pe_slice sl_str (pv 2) (po_some pe_int) po_none) pa_nil)) (fun _ _ => rfl))) pa_nil)))), ?_⟩
    obtain ⟨_, hpw, hin⟩ := ok.ends
    have hel := ends_len hpw
    refine ⟨_, rfl, pp, _, 0, _, rfl, rfl, hpp, rfl, _, rfl, pp, _, 4, _, rfl, rfl, hpp, rfl, be, rfl, ⟨_, hbe⟩, fun D hD => lc_it (walk_tup (xs := (st.ends.map regS).map V.str)) (LS D [] H fun i acc _ => acc = ((st.ends.take i).map fun k => row.getD k.val none).map optV) (LS.start hD (fun _ _ _ _ _ h => h) rfl) (fun i H1 _ ⟨acc, _, _, k, _⟩ => sqT_tst hbe k.tst0) (fun i x H1 H2 hi hp hy => ?_) fun H1 hp => ?_⟩
    · obtain ⟨acc, hA, hl2, hk, hS⟩ := hp
      obtain ⟨rfl, hx⟩ := hy
      rw [List.getElem?_map, List.getElem?_map] at hx
      obtain ⟨z, hz, rfl⟩ := Option.map_eq_some_iff.mp hx
      obtain ⟨k, hk2, rfl⟩ := Option.map_eq_some_iff.mp hz
      have hkl : k.val < row.length := by rw [hlen]; exact hin k (List.mem_of_getElem? hk2)
      refine ⟨rfl, tyes (iteT ?_)⟩
      refine ⟨_, rfl, _, rfl, _, rfl, _, rfl, ?_, ?_⟩
      · exact Nat.le_trans (reg_short k) (sz 2)
      have e1 : cutS (regS k) (some 1) none = digS k := by rw [← sliceText_cut]; exact cut_reg k
      rw [e1]
      refine ⟨_, _, rfl, int_dig k, dig_len k, b, _, _, optV (row.getD k.val none), rfl, rfl, sqT_tst hb hk.tst0, atI_nat (j := k.val) ?_, ?_⟩
      · rw [List.getElem?_map, List.getElem?_eq_getElem hkl, List.getD_eq_getElem?_getD, List.getElem?_eq_getElem hkl]
        rfl
      · refine LS.put hD (by simp) (fun _ _ _ _ _ h => h) ?_ hl2 hA hk ?_
        · have := (List.getElem?_eq_some_iff.mp hk2).1
          omega
        · rw [hS, take_succ_of hk2, List.map_append, List.map_append]
          rfl
    · obtain ⟨acc, hA, hl2, hk, rfl⟩ := hp
      rw [List.length_map, List.length_map, List.take_length] at hA
      refine ⟨st.g, D, st.ends.map fun (k : _root_.Fin 6) => row.getD k.val none, rfl, SqL.of hA, ?_, fun H2 k2 => q _ (hk.trans k2)⟩
      rw [List.length_map]
      omega
theorem c_lawAll (T : Tl K mg) : Cal P w K mg base 3 "_law_all_results" (spLawAll K) := by
  refine calOf T.allResults scLawAllResults (fun vs H Q E h => ?_) (fun f cdv A outer s H vs Q E hr h => ?_)
  · obtain ⟨_, _, _, _, rfl, _⟩ := h
    rfl
  · obtain ⟨st, log, vp, vl, rfl, hpl, ok, hlog, lok, q⟩ := h
    have TX := T.tm.tk.tc.tx
    obtain ⟨pp, vk, vs, vr, ve, rfl, hpp, ps, hdn⟩ := id hpl
    obtain ⟨al, its, rfl, hal, hits⟩ := id hlog
    refine ⟨_, pss_cons (ps_set (i := 2) scLawAllResults.nd rfl (Or.inl rfl) (pe_ixr ix_tup (pv 0) pe_int))
      (pss_cons (ps_set (i := 3) scLawAllResults.nd rfl (Or.inl rfl) (pe_lst (pa_cons (pe_c (c_lawEnd T) hr (pa_cons (pv 0) (pa_cons (pv 2) pa_nil))) pa_nil)))
      (pss_cons (ps_for PassesOwn.never rfl (pi_tup (pv 1)) (pg_name (i := 4) scLawAllResults.nd rfl (Or.inl rfl))
        (pss_cons (ps_set (i := 2) scLawAllResults.nd rfl (Or.inl rfl) (pe_c (c_lawStep T) hr (pa_cons (pv 0) (pa_cons (pv 2) (pa_cons (pv 4) pa_nil)))))
        (pss_one (ps_expr (pe_bm PySem.F.plainAttrs_list PySem.F.slot_list_append PySem.F.type_list_append mt_append (pv 3) (pa_cons (pe_c (c_lawEnd T) hr (pa_cons (pv 0) (pa_cons (pv 2) pa_nil))) pa_nil))))))
      (pss_one (ps_ret (pe_callTy call_tuple_of rfl TX.f (by decide +kernel) (pa_cons (pv 3) pa_nil)))))), ?_⟩
    refine ⟨_, rfl, pp, _, 2, _, rfl, rfl, hpp, rfl, ?_⟩
    refine ⟨_, rfl, _, rfl, st, st.row, _, _, rfl, hpl, ok, ps.s, row_len st, fun H1 k1 => ⟨sz 1, fun fl hfl => ?_⟩⟩
    have n1 := Kp.new (M := []) (o := .lst [optV (st.res st.row)]) hfl
    have hff := k1.fre hfl
    have hl1 := laid (Kp.refl (M := []) (H := upd H1 fl (.lst [optV (st.res st.row)])))
    have k2 := k1.trans n1
    generalize upd H1 fl (.lst [optV (st.res st.row)]) = H2 at n1 hl1 k2
    have hll : its.length = log.length := (Paired.length hits).symm
    refine ⟨_, rfl, al, rfl, ⟨_, sqT_tst hal k2.tst0⟩, for_tup (xs := its) (fun i σ' H' => Kp [] H H' ∧ H' fl = some (.lst (((st.results log).take (i + 1)).map optV)) ∧ ∃ vc x, RRow K H' (st.run st.row (log.take i)) vc ∧ σ' = [some (.ref pp), some (.ref al), some vc, some (.ref fl), x])
      ⟨k2, ?_, vs, none, stbRow _ _ _ _ k2.tst0 ps.s, rfl⟩ (fun _ _ _ _ h => sqT_tst hal h.1.tst0) (fun i x σ' H3 hx hp => ?_) fun σ' H3 hp => ?_⟩
    · rw [hl1]
      cases log <;> rfl
    · obtain ⟨k3, hf3, vc, x4, hvc, rfl⟩ := hp
      obtain ⟨e, he, hev⟩ := paired_get' hits hx
      obtain ⟨e1, e2, e3⟩ := lok.2 e (List.mem_of_getElem? he)
      have hi : i < log.length := (List.getElem?_eq_some_iff.mp he).1
      have hrl := run_len (log := log.take i) (row := st.row) ok (fun x hx => (lok.2 x (List.mem_of_mem_take hx)).1) (row_len st)
      refine ⟨_, rfl, _, rfl, _, rfl, st, _, e, _, vc, x, rfl, stbPlain _ _ _ _ k3.tst0 hpl, ok, hvc, hrl, stbEv _ _ _ _ k3.tst0 hev, e1, ⟨by omega, by omega⟩, fun p4 H4 k4 h4 => ?_⟩
      have k34 := k3.trans k4
      have hf4 := k4 _ _ (by simp) hf3
      have hr4 : RRow K H4 (st.run st.row (log.take (i + 1))) (.ref p4) := by
        rw [run_take _ he]
        exact ⟨p4, _, rfl, SqT.of h4, paired_of_map (F := ROpt H4) optV (fun _ => rfl) _⟩
      have hrl2 := run_len (log := log.take (i + 1)) (row := st.row) ok (fun x hx => (lok.2 x (List.mem_of_mem_take hx)).1) (row_len st)
      refine ⟨_, rfl, .inl ⟨rfl, _, SqL.of hf4⟩, _, rfl, _, rfl, st, _, _, _, rfl, stbPlain _ _ _ _ k34.tst0 hpl, ok, hr4, hrl2, fun H5 k5 => ?_⟩
      refine ⟨fl, _, _, rfl, rfl, k5 _ _ (by simp) hf4, small1000 ?_, (k34.trans k5).putN hff, ?_, .ref p4, _, stbRow _ _ _ _ (k5.tst0.trans (.put (k5 _ _ (by simp) hf4))) hr4, rfl⟩
      · rw [List.length_map, List.length_take]
        have := lok.1
        omega
      · rw [upd_same, take_succ_of (res_get st (i := i + 1) hi), List.map_append]
        rfl
    · obtain ⟨k3, hf3, vc, x4, hvc, rfl⟩ := hp
      rw [hll, ← results_length st log, List.take_length] at hf3
      exact ⟨_, rfl, fl, _, rfl, .inl ⟨SqL.of hf3, fun p hp => q p _ (k3.newT hp) upd_same⟩⟩
theorem c_lawEvents (T : Tl K mg) : Cal P w K mg base 2 "_law_events" (spLawEvents K) := by
  refine calOf T.events scLawEvents (fun vs H Q E h => ?_) (fun f cdv A outer s H vs Q E hr h => ?_)
  · obtain ⟨_, _, _, _, _, rfl, _⟩ := h
    rfl
  · obtain ⟨l, st, vp, n, wd, rfl, hp, hpl, ok, hn, hw, q⟩ := h
    have TX := T.tm.tk.tc.tx
    obtain ⟨pp, vk, vs, vr, ve, rfl, hpp, ps, hdn⟩ := id hpl
    obtain ⟨ak, rfl, hak⟩ := kinds_eq ps.k
    refine ⟨_, pss_cons (ps_set (i := 4) scLawEvents.nd rfl (Or.inr rfl) (pe_ixr ix_tup (pv 1) pe_int))
      (pss_one (ps_ret (pe_callTy call_tuple_of rfl TX.f (by decide +kernel) (pa_cons (pe_lc (own := [("_law_k", 5)]) (g := gName 5) (tt := tYes) rfl scLawEvents.nd (pi_range1 rfl TX.f (pa_cons (pv 2) pa_nil)) (blkOk_by (N := nLawEvents) (sc := defScope sLawEvents) (by decide +kernel))
        (fun _ _ _ _ _ => pg_name (i := 5) scLawEvents.nd rfl (Or.inl rfl)) (fun _ _ _ _ _ => pts_nil) (fun _ _ _ _ _ => pe_tup (pa_cons (pe_ixr (ix_tupK K rfl) (pv 4) (pe_c (c_lawDraw T) hr (pa_cons (pv 0) (pa_cons (pe_callB (call_lenK K rfl) rfl TX.f (by decide +kernel) (pa_cons (pv 4) pa_nil)) pa_nil)))) (pa_cons (pe_op op_sub (pe_c (c_lawDraw T) hr (pa_cons (pv 0) (pa_cons (pe_op op_add (pe_op op_mul pe_int (pv 3)) pe_int) pa_nil))) (pv 3)) pa_nil)))) pa_nil)))), ?_⟩
    have hkl : 1 ≤ st.kinds.length ∧ st.kinds.length ≤ 4 := ⟨ok.kinds.1, ok.kinds.2.1.1⟩
    refine ⟨_, rfl, pp, _, 1, _, rfl, rfl, hpp, rfl, ?_⟩
    refine ⟨_, rfl, (n : Int), rfl, by omega, by omega, fun D hD => lc_it walk_range (LP D l H fun i acc H' => ∃ log : List Ev, log.length = i ∧ Paired (REv K st.kinds H') log acc ∧ ∀ e ∈ log, e.1 < st.kinds.length ∧ -30 ≤ e.2 ∧ e.2 ≤ 30)
      (LP.start hD hp (fun _ _ _ _ t ⟨rs, h1, h2, h3⟩ => ⟨rs, h1, paired_map (fun x v => stbEv _ _ x v t) h2, h3⟩) ⟨[], rfl, .nil, fun _ h => by cases h⟩) (fun _ _ _ _ => trivial) (fun i x H3 H4 hi hP hy => ?_) fun H3 hP => ?_⟩
    · obtain ⟨acc, hA, hl2, k3, hp3, log, hll, hev, hb⟩ := hP
      obtain ⟨rfl, rfl⟩ := hy
      rw [Int.toNat_natCast] at hi
      have hlD : D ≠ l := fun e => (hp.ne hD) e.symm
      have hak3 := sqT_tst hak (hp.tst k3)
      refine ⟨rfl, tyes (iteT ?_)⟩
      refine ⟨_, rfl, _, rfl, _, rfl, ak, _, rfl, .inr hak3, l, _, rfl, hp3, by rw [List.length_map]; omega, by rw [List.length_map]; omega, fun r H5 k5 hp5 h0 hr5 => ?_⟩
      have hak5 := sqT_tst hak3 (hp3.tst k5)
      have hr6 : r.toNat < st.kinds.length := by
        rw [List.length_map] at hr5
        omega
      refine ⟨ak, _, r, .str (st.kinds.getD r.toNat Str.empty), rfl, rfl, hak5, ?_, ?_⟩
      · rw [at_nat h0 hr5, List.getElem?_map, getD_get hr6]
        rfl
      refine ⟨_, rfl, _, rfl, _, _, rfl, rfl, .inl ⟨by decide, by decide⟩, _, _, rfl, rfl, l, _, rfl, hp5, by omega, by omega, fun r2 H6 k6 hp6 h2 hr2 => ?_⟩
      refine ⟨_, rfl, _, _, rfl, rfl, sz 2, fun pt hpt => ?_⟩
      have nt := Kp.new (M := []) (o := .tup [.str (st.kinds.getD r.toNat Str.empty), .int (r2 - wd)]) hpt
      have k7 := (k5.trans k6).trans nt.up
      refine LP.put hD hp (fun _ _ _ _ t ⟨rs, h1, h2, h3⟩ => ⟨rs, h1, paired_map (fun x v => stbEv _ _ x v t) h2, h3⟩) (by omega) hl2 (k7 _ _ (by simpa using hlD) hA) (k3.trans k7) (hp6.kp nt (by simp))
        ⟨log ++ [(r.toNat, r2 - wd)], by rw [List.length_append, hll]; rfl, paired_append (paired_map (fun x v => stbEv _ _ x v (hp3.tst k7)) hev) (.cons ⟨pt, rfl, SqT.of upd_same⟩ .nil), fun e he => ?_⟩
      rcases List.mem_append.mp he with he | he
      · exact hb e he
      · rw [List.mem_singleton.mp he]
        exact ⟨hr6, by show -30 ≤ r2 - wd; omega, by show r2 - wd ≤ 30; omega⟩
    · obtain ⟨acc, hA, _, k3, hp3, log, hll, hev, hb⟩ := hP
      rw [Int.toNat_natCast] at hll
      refine ⟨D, _, rfl, .inl ⟨SqL.of hA, fun pt hpt => ?_⟩⟩
      have nt := Kp.new (M := []) (o := .tup acc) hpt
      exact q log _ _ (k3.trans nt.up) (hp3.kp nt (by simp)) (tupP1 upd_same (paired_map (fun x v => stbEv _ _ x v nt.tst0) hev)) ⟨by omega, hb⟩
end
end TP
set_option Elab.async false
set_option linter.all false
set_option maxRecDepth 100000
set_option maxHeartbeats 4000000
/-! the law's own functions: larger amounts, larger results, the Counter's walk -/
namespace TP
open PySem PySem.Spec PyProof.Rows L2
def spLawTimes (K : PySem.W.Frag) : Sp := fun vs H Q _ => ∃ (kinds : List Str) (log : List Ev) (c : Int) (vl : V), vs = [vl, .int c] ∧ RLog K kinds H log vl ∧ EvB kinds.length log ∧ ∀ v H', Kp [] H H' → RLog K kinds H' (evMul c log) v → Q v H'
def spLawRaised (K : PySem.W.Frag) : Sp := fun vs H Q _ => ∃ (p : Addr) (os : List (Option Int)) (c : Int), vs = [.ref p, .int c] ∧ SqT K H p (os.map optV) ∧ os.length ≤ 1000 ∧ (∀ z, some z ∈ os → -(2 ^ 63) < z ∧ z < 2 ^ 63) ∧
  ∀ p' H', Kp [] H H' → H' p' = some (.tup ((os.map (onO fun z => c * z)).map optV)) → Q (.ref p') H'
def spLawWalked {K : PySem.W.Frag} {mg : Str → Option Value} (T : Tl K mg) : Sp := fun vs H Q _ => ∃ (st : Sta) (log : List Ev) (v vl : V), vs = [v, vl] ∧ StI T.tm.tk.tc H st v ∧ st.Ok ∧ RLog K st.kinds H log vl ∧ LogOk st.kinds log ∧
  ∀ p H', Kp [] H H' → H' p = some (.tup ((st.results log).map optV)) → Q (.ref p) H'
section
variable {P : Program} {w : World} {K : PySem.W.Frag} {mg : Str → Option Value} {base : Heap}
theorem c_lawTimes (T : Tl K mg) : Cal P w K mg base 1 "_law_times" (spLawTimes K) := by
  refine calOf T.times scLawTimes (fun vs H Q E h => ?_) (fun f cdv A outer s H vs Q E hr h => ?_)
  · obtain ⟨_, _, _, _, rfl, _⟩ := h
    rfl
  · obtain ⟨kinds, log, c, vl, rfl, ⟨al, its, rfl, hal, hits⟩, lok, q⟩ := h
    have TX := T.tm.tk.tc.tx
    refine ⟨_, pss_one (ps_ret (pe_callTy call_tuple_of rfl TX.f (by decide +kernel) (pa_cons (pe_lc (own := [("_law_event", 2)]) (g := gName 2) (tt := tYes) rfl scLawTimes.nd (pi_tup (pv 0)) (blkOk_by (N := nLawTimes) (sc := defScope sLawTimes) (by decide +kernel))
        (fun _ _ _ _ _ => pg_name (i := 2) scLawTimes.nd rfl (Or.inl rfl)) (fun _ _ _ _ _ => pts_nil) (fun _ _ _ _ _ => pe_tup (pa_cons (pe_ixr (ix_tupK K rfl) (pv 2) pe_int) (pa_cons (pe_op op_mul (pv 1) (pe_ixr (ix_tupK K rfl) (pv 2) pe_int)) pa_nil)))) pa_nil))), ?_⟩
    have hll : its.length = log.length := (Paired.length hits).symm
    refine ⟨_, rfl, al, rfl, ⟨_, hal⟩, fun D hD => lc_it (walk_tup (xs := its)) (LS D [] H fun i acc H' => Paired (REv K kinds H') ((evMul c log).take i) acc) (LS.start hD (fun _ _ _ _ t h => paired_map (fun x v => stbEv _ _ x v t) h) .nil) (fun i H1 _ ⟨acc, _, _, k, _⟩ => sqT_tst hal k.tst0) (fun i x H1 H2 hi hp hy => ?_) fun H1 hp => ?_⟩
    · obtain ⟨acc, hA, hl2, k1, hS⟩ := hp
      obtain ⟨rfl, hx⟩ := hy
      obtain ⟨e, he, ae, rfl, hae⟩ := paired_get' hits hx
      obtain ⟨e1, e2, e3⟩ := lok.2 e (List.mem_of_getElem? he)
      have hae1 := sqT_tst hae k1.tst0
      refine ⟨rfl, tyes (iteT ?_)⟩
      refine ⟨_, rfl, ae, _, 0, _, rfl, rfl, hae1, rfl, _, rfl, _, rfl, ae, _, 1, _, rfl, rfl, hae1, rfl, _, _, rfl, rfl, .inr ⟨by omega, by omega⟩, sz 2, fun pt hpt => ?_⟩
      have nt := Kp.new (M := []) (o := .tup [.str (kinds.getD e.1 Str.empty), .int (c * e.2)]) hpt
      refine LS.put hD (by simp) (fun _ _ _ _ t h => paired_map (fun x v => stbEv _ _ x v t) h) ?_ hl2 (nt _ _ (by simp) hA) (k1.trans nt) ?_
      · have := lok.1
        omega
      · have he2 : (evMul c log)[i]? = some (e.1, c * e.2) := by
          unfold evMul
          rw [List.getElem?_map, he]
          rfl
        exact paired_snoc (paired_map (fun x v => stbEv _ _ x v nt.tst0) hS) he2 ⟨pt, rfl, SqT.of upd_same⟩
    · obtain ⟨acc, hA, _, k1, hS⟩ := hp
      have hml : (evMul c log).length = its.length := by unfold evMul; rw [List.length_map, hll]
      rw [← hml, List.take_length] at hS
      refine ⟨D, _, rfl, .inl ⟨SqL.of hA, fun pt hpt => ?_⟩⟩
      have nt := Kp.new (M := []) (o := .tup acc) hpt
      exact q _ _ (k1.trans nt) (tupP1 upd_same (paired_map (fun x v => stbEv _ _ x v nt.tst0) hS))
theorem c_lawRaised (T : Tl K mg) : Cal P w K mg base 1 "_law_raised" (spLawRaised K) := by
  refine calOf T.raised scLawRaised (fun vs H Q E h => ?_) (fun f cdv A outer s H vs Q E hr h => ?_)
  · obtain ⟨_, _, _, rfl, _⟩ := h
    rfl
  · obtain ⟨p, os, c, rfl, hp, hl, hb, q⟩ := h
    have TX := T.tm.tk.tc.tx
    refine ⟨_, pss_one (ps_ret (pe_callTy call_tuple_of rfl TX.f (by decide +kernel) (pa_cons (pe_lc (own := [("_law_value_here", 2)]) (g := gName 2) (tt := tYes) rfl scLawRaised.nd (pi_tup (pv 0)) (blkOk_by (N := nLawRaised) (sc := defScope sLawRaised) (by decide +kernel))
        (fun _ _ _ _ _ => pg_name (i := 2) scLawRaised.nd rfl (Or.inl rfl)) (fun _ _ _ _ _ => pts_nil) (fun _ _ _ _ _ => pe_ifExp (pt_cmpR op_isN (pv 2) pe_non (nomark _)) pe_non (pe_op op_mul (pv 1) (pv 2)))) pa_nil))), ?_⟩
    refine ⟨_, rfl, p, rfl, ⟨_, hp⟩, fun D hD => lc_it (walk_tup (xs := os.map optV)) (LS D [] H fun i acc _ => acc = ((os.take i).map (onO fun z => c * z)).map optV) (LS.start hD (fun _ _ _ _ _ h => h) rfl) (fun i H1 _ ⟨acc, _, _, k, _⟩ => sqT_tst hp k.tst0) (fun i x H1 H2 hi hP hy => ?_) fun H1 hP => ?_⟩
    · obtain ⟨acc, hA, hl2, k1, rfl⟩ := hP
      obtain ⟨rfl, hx⟩ := hy
      rw [List.getElem?_map] at hx
      obtain ⟨o, ho, rfl⟩ := Option.map_eq_some_iff.mp hx
      rw [List.length_map] at hi
      have fin : ∀ y, y = optV (onO (fun z => c * z) o) → ∃ acc, H2 D = some (.lst acc) ∧ acc.length < sizeLine ∧ LS D [] H (fun i acc _ => acc = ((os.take i).map (onO fun z => c * z)).map optV) (i + 1) (upd H2 D (.lst (acc ++ [y]))) := fun y hy =>
        LS.put hD (by simp) (fun _ _ _ _ _ h => h) (by omega) hl2 hA k1 (by rw [hy, take_succ_of ho, List.map_append, List.map_append]; rfl)
      refine ⟨rfl, tyes (iteT ?_)⟩
      cases o with
      | none => exact ⟨_, rfl, rfl, true, rfl, iteT (fin _ rfl)⟩
      | some z =>
        have := hb z (List.mem_of_getElem? ho)
        exact ⟨_, rfl, rfl, false, rfl, iteF ⟨_, rfl, _, rfl, c, z, rfl, rfl, .inr ⟨by omega, by omega⟩, fin _ rfl⟩⟩
    · obtain ⟨acc, hA, _, k1, rfl⟩ := hP
      rw [List.length_map, List.take_length] at hA
      exact ⟨D, _, rfl, .inl ⟨SqL.of hA, fun pt hpt => q pt _ (k1.newT hpt) upd_same⟩⟩
theorem c_lawWalked (T : Tl K mg) : Cal P w K mg base 6 "_law_walked" (spLawWalked T) := by
  refine calOf T.walked scLawWalked (fun vs H Q E h => ?_) (fun f cdv A outer s H vs Q E hr h => ?_)
  · obtain ⟨_, _, _, _, rfl, _⟩ := h
    rfl
  · obtain ⟨st, log, v, vl, rfl, hst, ok, hlog, lok, q⟩ := h
    have TX := T.tm.tk.tc.tx
    obtain ⟨al, its, rfl, hal, hits⟩ := id hlog
    obtain ⟨fdi, ds, FI, hdi, hbi⟩ := m_kInit (P := P) (w := w) (base := base) T.tm.tk
    obtain ⟨fdr, FR, hbr⟩ := m_kRes (P := P) (w := w) (base := base) T.tm.tk
    obtain ⟨fdf, FF, hbf⟩ := m_kFollow (P := P) (w := w) (base := base) T.tm.tk
    refine ⟨_, pss_cons (ps_set (i := 2) scLawWalked.nd rfl (Or.inl rfl) (pe_make T.tm.tk.make FI (hr.mono (by decide)) rfl T.tm.tk.mgD hbi hdi pass0 (pa_cons (pv 0) pa_nil)))
      (pss_cons (ps_set (i := 3) scLawWalked.nd rfl (Or.inl rfl) (pe_lst (pa_cons (pe_prop (pv 2) T.tm.tk.cls T.tm.tk.res FR (hr.mono (by decide)) hbr .nil pass0 rfl) pa_nil)))
      (pss_cons (ps_for PassesOwn.never rfl (pi_tup (pv 1)) (pg_name (i := 4) scLawWalked.nd rfl (Or.inl rfl))
        (pss_one (ps_expr (pe_bm PySem.F.plainAttrs_list PySem.F.slot_list_append PySem.F.type_list_append mt_append (pv 3) (pa_cons (pe_meth (pv 2) T.tm.tk.cls T.tm.tk.follow FF hr hbf .nil pass0 (pa_cons (pe_ixr ix_tup (pv 4) pe_int) (pa_cons (pe_ixr ix_tup (pv 4) pe_int) pa_nil))) pa_nil)))))
      (pss_one (ps_ret (pe_callTy call_tuple_of rfl TX.f (by decide +kernel) (pa_cons (pv 3) pa_nil)))))), ?_⟩
    refine ⟨_, rfl, fun x dx hx hd hne => ?_⟩
    have hx2 : upd H dx (.own x) x = none := by rw [upd_ne hne.symm]; exact hx
    have k1 : Kp [] H (upd (upd H dx (.own x)) x (.ins T.tm.tk.D dx [])) := (Kp.new hd).newT hx2
    refine ⟨st, x, dx, _, rfl, upd_same, stbSt _ _ _ _ k1.tst0 hst, fun H1 k2 ct => ⟨rfl, ?_⟩⟩
    have k3 : Kp [] H H1 := k1.glue k2 hx
    obtain ⟨c1, dx1, vs1, vh1, ec1, hc1, _⟩ := id ct
    cases ec1
    refine ⟨_, rfl, x, _, _, rfl, hc1, st, st.row, 0, _, rfl, ct, ok, row_len st, fun H2 k4 => ⟨sz 1, fun fl hfl => ?_⟩⟩
    have k5 := k3.trans k4
    have n1 := Kp.new (M := []) (o := .lst [optV (st.res st.row)]) hfl
    have hff := k5.fre hfl
    have hl1 := laid (Kp.refl (M := []) (H := upd H2 fl (.lst [optV (st.res st.row)])))
    have k6 := k5.trans n1
    have ct6 := stbCt (k4.trans n1) ct
    generalize upd H2 fl (.lst [optV (st.res st.row)]) = H3 at n1 hl1 k6 ct6
    have hll : its.length = log.length := (Paired.length hits).symm
    refine ⟨_, rfl, al, rfl, ⟨_, sqT_tst hal k6.tst0⟩, for_tup (xs := its) (fun i σ' H' => Kp [] H H' ∧ H' fl = some (.lst (((st.results log).take (i + 1)).map optV)) ∧ CtI T.tm.tk H' st (st.run st.row (log.take i)) i (.ref x) ∧ ∃ y, σ' = [some v, some (.ref al), some (.ref x), some (.ref fl), y])
      ⟨k6, ?_, ct6, none, rfl⟩ (fun _ _ _ _ h => sqT_tst hal h.1.tst0) (fun i y σ' H4 hy hp => ?_) fun σ' H4 hp => ?_⟩
    · rw [hl1]
      cases log <;> rfl
    · obtain ⟨k7, hf7, ct7, y4, rfl⟩ := hp
      obtain ⟨e, he, ae, rfl, hae⟩ := paired_get' hits hy
      obtain ⟨e1, e2⟩ := lok.2 e (List.mem_of_getElem? he)
      have hi : i < log.length := (List.getElem?_eq_some_iff.mp he).1
      have hrl := run_len (log := log.take i) (row := st.row) ok (fun x hx => (lok.2 x (List.mem_of_mem_take hx)).1) (row_len st)
      have hae7 := sqT_tst hae k7.tst0
      obtain ⟨c7, dx7, vs7, vh7, ec7, hc7, _⟩ := id ct7
      cases ec7
      have nfx : fl ≠ x := ne_of hf7 hc7 (by simp)
      refine ⟨_, rfl, .inl ⟨rfl, _, SqL.of hf7⟩, _, rfl, x, _, _, rfl, hc7, lkNotC, _, rfl, ae, _, 0, _, rfl, rfl, hae7, rfl, _, rfl, ae, _, 1, _, rfl, rfl, hae7, rfl, st, _, i, x, e, rfl, ct7, ok, hrl, e1, e2, fun H8 k8 ct8 => ?_⟩
      have hf8 := k8 fl _ (by simpa using nfx) hf7
      have k9 := k7.glue k8 hx
      refine ⟨fl, _, _, rfl, rfl, hf8, small1000 ?_, k9.putN hff, ?_, ?_, _, rfl⟩
      · rw [List.length_map, List.length_take]
        have := lok.1
        omega
      · rw [upd_same, take_succ_of (res_get st (i := i + 1) hi), List.map_append, run_take _ he]
        rfl
      · obtain ⟨c8, dx8, vs8, vh8, ec8, hc8, hs8, hr8⟩ := ct8
        cases ec8
        rw [run_take _ he]
        have t8 : Tst H8 _ := Tst.put (o := .lst (((st.results log).take (i + 1)).map optV ++ [optV (st.res (st.stp (st.run st.row (log.take i)) e))])) hf8
        exact ⟨x, dx8, vs8, vh8, rfl, by rw [upd_ne nfx.symm]; exact hc8, stbSt _ _ _ _ t8 hs8, stbRow _ _ _ _ t8 hr8⟩
    · obtain ⟨k7, hf7, ct7, y4, rfl⟩ := hp
      rw [hll, ← results_length st log, List.take_length] at hf7
      exact ⟨_, rfl, fl, _, rfl, .inl ⟨SqL.of hf7, fun p hp => q p _ (k7.newT hp) upd_same⟩⟩
end
end TP
set_option Elab.async false
set_option linter.all false
set_option maxRecDepth 100000
set_option maxHeartbeats 4000000
/-! list(zip(t1, t2)) of two tuples -/
namespace TP
open PySem PySem.Spec PyProof.Rows L2 RZ
section
variable {prog : Program} {w : World} {A : Around} {E : Value → Shared → Prop} {s : Shared}
/-- the pair z gives next, where its last one is held elsewhere -/
abbrev ZhQ (s : Shared) (z TI TO T i1 i2 l1 l2 : Addr) (n m : Nat) (x y : Value) (R : Shared → Prop) : Prop := ∀ g, IsZipHeld g z TI TO T true → g.IsTupleIter i1 l1 (n + 1) → g.IsTupleIter i2 l2 (m + 1) → IsPair g s.heap.objs.size x y → g.objs.size = s.heap.objs.size + 1 →
  (∀ c o, c ≠ z → c ≠ i1 → c ≠ i2 → s.heap.get? c = some o → g.get? c = some o) → R { s with heap := g }
variable {z TI TO T i1 i2 l1 l2 : Addr} {f : Bool} {oT : Obj} {n m : Nat} {xs ys : Array Value} {x y : Value}
theorem zh_item {R : Shared → Prop} (D : ZipApart z TI TO i1 i2 l1 l2) (hz : IsZipHeld s.heap z TI TO T f) (gT : s.heap.get? T = some oT) (hI : IsPair s.heap TI (.ref i1) (.ref i2))
    (t1 : s.heap.IsTupleIter i1 l1 n) (t2 : s.heap.IsTupleIter i2 l2 m) (pa : s.heap.IsTuple l1 xs) (pb : s.heap.IsTuple l2 ys) (hx : xs[n]? = some x) (hy : ys[m]? = some y) (out : ZhQ s z TI TO T i1 i2 l1 l2 n m x y R) :
    wpAny (model prog w) A (Builtin.«zip.__next__» ⟨[.ref z], []⟩) (fun fin s' => ∃ v, fin = .done (.ret v) ∧ v = .ref s.heap.objs.size ∧ R s') E s := by
  refine wpAny_bind (m := field (.ref z) 2) (wpAny_field hz rfl (x := .bool false) rfl (wpAny_bind (m := field (.ref z) 3) (wpAny_field hz rfl (x := .ref TI) rfl (wpAny_bind (wpAny_seqItems hI rfl ?_)))))
  refine wpAny_bind (m := Builtin.SmallTypes.ownedTupleIsFree (.ref z)) (wpAny_tupleHeld_zip hz gT fun g1 z1 b1 => ?_)
  rw [if_neg (by decide)]
  refine wpAny_bind ?_
  rw [← Array.forIn_toList]
  simp only [List.forIn_cons, List.forIn_nil]
  -- both draws
  refine wpAny_bind (wpAny_bind (wpAny_holding (wpAny_bind (m := Builtin.SmallTypes.nextOf (.ref i1)) (nextOf_tuple_item (s := { s with heap := g1 }) (t1.extBut b1.extBut D.i1z) (pa.extBut b1.extBut D.l1z) hx fun g2 a2 b2 => wpAny_pure (wpAny_pure ?_)))))
  refine wpAny_bind (wpAny_bind (wpAny_holding (wpAny_bind (m := Builtin.SmallTypes.nextOf (.ref i2)) (nextOf_tuple_item (s := { s with heap := g2 }) ((t2.extBut b1.extBut D.i2z).extBut b2.extBut D.i12.symm) ((pb.extBut b1.extBut D.l2z).extBut b2.extBut D.l2i1) hy fun g3 a3 b3 => wpAny_pure (wpAny_pure (wpAny_pure ?_))))))
  -- the new pair
  refine wpAny_bind (m := newTuple [x, y]) (wpAny_newTuple (wpAny_pure ⟨_, rfl, ?_, ?_⟩))
  · show Value.ref g3.objs.size = _
    rw [b3.1, b2.1, b1.1]
  have keep : ∀ c o, c ≠ z → c ≠ i1 → c ≠ i2 → s.heap.get? c = some o → (g3.push { cls := .type "tuple", data := .seq #[x, y] }).get? c = some o := fun c o n1 n2 n3 q => Heap.get?_push_of_some _ (b3.extBut _ _ n3 (b2.extBut _ _ n2 (b1.extBut _ _ n1 q)))
  have e3 : g3.objs.size = s.heap.objs.size := by rw [b3.1, b2.1, b1.1]
  exact out _ (Heap.get?_push_of_some _ (b3.extBut _ _ D.i2z.symm (b2.extBut _ _ D.i1z.symm z1))) ((a2.extBut b3.extBut D.i12).at fun _ => Heap.get?_push_of_some _) (a3.at fun _ => Heap.get?_push_of_some _) (e3 ▸ Heap.get?_push_size _ rfl) ((Heap.size_push ..).trans (congrArg (· + 1) e3)) keep
theorem zh_end {Q : PySem.Fin → Shared → Prop} (hh : A.handled = none) (D : ZipApart z TI TO i1 i2 l1 l2) (hz : IsZipHeld s.heap z TI TO T f) (gT : s.heap.get? T = some oT) (hI : IsPair s.heap TI (.ref i1) (.ref i2)) (t1 : s.heap.IsTupleIter i1 l1 n) (pa : s.heap.IsTuple l1 xs) (hx : xs[n]? = none)
    (out : ∀ g x, (∀ c o, c ≠ z → c ≠ i1 → c ≠ i2 → s.heap.get? c = some o → g.get? c = some o) → (∃ o, g.get? x = some o ∧ o.cls = .type "StopIteration") → E (.ref x) { s with heap := g }) : wpAny (model prog w) A (Builtin.«zip.__next__» ⟨[.ref z], []⟩) Q E s := by
  refine wpAny_bind (m := field (.ref z) 2) (wpAny_field hz rfl (x := .bool false) rfl (wpAny_bind (m := field (.ref z) 3) (wpAny_field hz rfl (x := .ref TI) rfl (wpAny_bind (wpAny_seqItems hI rfl ?_)))))
  refine wpAny_bind (m := Builtin.SmallTypes.ownedTupleIsFree (.ref z)) (wpAny_tupleHeld_zip hz gT fun g1 z1 b1 => ?_)
  rw [if_neg (by decide)]
  refine wpAny_bind ?_
  rw [← Array.forIn_toList]
  simp only [List.forIn_cons, List.forIn_nil]
  exact wpAny_bind (wpAny_bind (wpAny_holding (wpAny_bind (m := Builtin.SmallTypes.nextOf (.ref i1)) (nextOf_tuple_end (s := { s with heap := g1 }) hh (t1.extBut b1.extBut D.i1z) (pa.extBut b1.extBut D.l1z) hx fun g2 e b2 stop => out g2 e (fun c o n1 n2 _ q => b2 _ _ n2 (b1.extBut _ _ n1 q)) stop))))
theorem pyNext_zh_item {Q : Option Value → Shared → Prop} (D : ZipApart z TI TO i1 i2 l1 l2) (hz : IsZipHeld s.heap z TI TO T f) (gT : s.heap.get? T = some oT) (hI : IsPair s.heap TI (.ref i1) (.ref i2))
    (t1 : s.heap.IsTupleIter i1 l1 n) (t2 : s.heap.IsTupleIter i2 l2 m) (pa : s.heap.IsTuple l1 xs) (pb : s.heap.IsTuple l2 ys) (hx : xs[n]? = some x) (hy : ys[m]? = some y) (out : ZhQ s z TI TO T i1 i2 l1 l2 n m x y (Q (some (.ref s.heap.objs.size)))) : wpAny (model prog w) A (pyNext (.ref z)) Q E s := by
  have ty : s.TypeIs (.ref z) "zip" := ⟨_, hz, rfl⟩
  unfold pyNext
  refine wpAny_bind (wpAny_attempt (wpAny_callSpecial?_slot (name := Str.ofString "__next__") ty PySem.F.slot_zip_next (wpAny_call_entry PySem.F.slot_zip_next ty PySem.F.entry_zip_next ?_ (PySem.F.args_zip_next_1 _))))
  refine wpAny_mono (zh_item (R := Q (some (.ref s.heap.objs.size))) D hz gT hI t1 t2 pa pb hx hy out) (fun fin s' ⟨v, e, ev, r⟩ => ⟨v, e, wpAny_pure ?_⟩) fun _ _ z => z
  rw [ev]
  exact r
theorem pyNext_zh_end {Q : Option Value → Shared → Prop} (hh : A.handled = none) (D : ZipApart z TI TO i1 i2 l1 l2) (hz : IsZipHeld s.heap z TI TO T f) (gT : s.heap.get? T = some oT) (hI : IsPair s.heap TI (.ref i1) (.ref i2)) (t1 : s.heap.IsTupleIter i1 l1 n) (pa : s.heap.IsTuple l1 xs) (hx : xs[n]? = none)
    (out : ∀ g, (∀ c o, c ≠ z → c ≠ i1 → c ≠ i2 → s.heap.get? c = some o → g.get? c = some o) → Q none { s with heap := g }) : wpAny (model prog w) A (pyNext (.ref z)) Q E s := by
  have ty : s.TypeIs (.ref z) "zip" := ⟨_, hz, rfl⟩
  unfold pyNext
  exact wpAny_bind (wpAny_attempt (wpAny_callSpecial?_slot (name := Str.ofString "__next__") ty PySem.F.slot_zip_next (wpAny_call_entry PySem.F.slot_zip_next ty PySem.F.entry_zip_next
    (zh_end hh D hz gT hI t1 pa hx fun g x keep ⟨o, ho, hc⟩ => wpAny_bind (wpAny_isInstance (T := "StopIteration") (b := true) ⟨o, ho, hc⟩ isSubtype_stop (wpAny_pure (out g keep)))) (PySem.F.args_zip_next_1 _))))
end
theorem nolen_zip : typeLookup (.type "zip") "__len__" = pure none := by rw [typeLookup_type, builtinLookup_eq_fast]; kernel_rfl
theorem nohint_zip : typeLookup (.type "zip") "__length_hint__" = pure none := by rw [typeLookup_type, builtinLookup_eq_fast]; kernel_rfl
/-- a zip of the tuples at a and b, before the i-th pair -/
def ZSt (h : Heap) (z TI TO i1 i2 a b : Addr) (i : Nat) : Prop := IsPair h TI (.ref i1) (.ref i2) ∧ h.IsTupleIter i1 a i ∧ h.IsTupleIter i2 b i ∧ (∃ o, h.get? TO = some o) ∧ ((IsZip h z TI TO .none ∧ ∃ x y, IsPair h TO x y) ∨ ∃ T f oT, IsZipHeld h z TI TO T f ∧ h.get? T = some oT)
section
variable {prog : Program} {w : World} {A : Around} {E : Value → Shared → Prop} {s : Shared}
theorem zs_item {z TI TO i1 i2 a b : Addr} {i : Nat} {xs ys : Array Value} {x y : Value} {Q : Option Value → Shared → Prop} (D : ZipApart z TI TO i1 i2 a b) (st : ZSt s.heap z TI TO i1 i2 a b i) (hl1 : s.heap.IsTuple a xs) (hl2 : s.heap.IsTuple b ys) (hx : xs[i]? = some x) (hy : ys[i]? = some y)
    (hQ : ∀ h', ZSt h' z TI TO i1 i2 a b (i + 1) → IsPair h' s.heap.objs.size x y → (∀ c o, c ≠ z → c ≠ TO → c ≠ i1 → c ≠ i2 → s.heap.get? c = some o → h'.get? c = some o) → Q (some (.ref s.heap.objs.size)) { s with heap := h' }) : wpAny (model prog w) A (pyNext (.ref z)) Q E s := by
  obtain ⟨hTI, h1, h2, ⟨oO, hO⟩, ⟨hz, x0, y0, hTO⟩ | ⟨T, f, oT, hz, hT⟩⟩ := st
  · exact pyNext_zipT_item D hz hTI hTO h1 h2 hl1 hl2 hx hy fun h' a1 a2 a3 a4 a5 a6 a7 => hQ h' ⟨a7 _ _ D.TIz D.TITO D.TIi1 D.TIi2 hTI, a3, a4, ⟨_, a2⟩, .inr ⟨_, false, _, a1, a5⟩⟩ a5 a7
  · exact pyNext_zh_item D hz hT hTI h1 h2 hl1 hl2 hx hy fun h' a1 a3 a4 a5 a6 a7 => by
      obtain ⟨o', ho'⟩ : ∃ o', h'.get? T = some o' := by
        by_cases e1 : T = z
        · exact ⟨_, by rw [e1]; exact a1⟩
        by_cases e2 : T = i1
        · obtain ⟨o, ho, _⟩ := a3
          exact ⟨o, by rw [e2]; exact ho⟩
        by_cases e3 : T = i2
        · obtain ⟨o, ho, _⟩ := a4
          exact ⟨o, by rw [e3]; exact ho⟩
        exact ⟨oT, a7 T oT e1 e2 e3 hT⟩
      exact hQ h' ⟨a7 _ _ D.TIz D.TIi1 D.TIi2 hTI, a3, a4, ⟨_, a7 _ _ D.TOz D.TOi1 D.TOi2 hO⟩, .inr ⟨T, true, o', a1, ho'⟩⟩ a5 fun c o c1 _ c3 c4 e => a7 c o c1 c3 c4 e
theorem zs_end {z TI TO i1 i2 a b : Addr} {i : Nat} {xs ys : Array Value} {Q : Option Value → Shared → Prop} (hh : A.handled = none) (D : ZipApart z TI TO i1 i2 a b) (st : ZSt s.heap z TI TO i1 i2 a b i) (hl1 : s.heap.IsTuple a xs) (hl2 : s.heap.IsTuple b ys) (hx : xs[i]? = none)
    (hQ : ∀ h', (∀ c o, c ≠ z → c ≠ TO → c ≠ i1 → c ≠ i2 → s.heap.get? c = some o → h'.get? c = some o) → Q none { s with heap := h' }) : wpAny (model prog w) A (pyNext (.ref z)) Q E s := by
  obtain ⟨hTI, h1, h2, ⟨oO, hO⟩, ⟨hz, x0, y0, hTO⟩ | ⟨T, f, oT, hz, hT⟩⟩ := st
  · exact pyNext_zipT_end hh D hz hTI hTO h1 h2 hl1 hl2 (.inl hx) hQ
  · exact pyNext_zh_end hh D hz hT hTI h1 hl1 hx fun h' k => hQ h' fun c o c1 _ c3 c4 e => k c o c1 c3 c4 e
end
theorem ZSt.kept {h h' : Heap} {z TI TO i1 i2 a b : Addr} {i : Nat} {S : Addr} (st : ZSt h z TI TO i1 i2 a b i) (k : ∀ c o, c ≠ S → h.get? c = some o → h'.get? c = some o) (kS : ∃ o, h'.get? S = some o) (hz : z ≠ S) (hTI : TI ≠ S) (hTO : TO ≠ S) (h1 : i1 ≠ S) (h2 : i2 ≠ S) : ZSt h' z TI TO i1 i2 a b i := by
  obtain ⟨p, t1, t2, ⟨oO, hO⟩, r⟩ := st
  refine ⟨k _ _ hTI p, t1.at fun o e => k _ _ h1 e, t2.at fun o e => k _ _ h2 e, ⟨_, k _ _ hTO hO⟩, ?_⟩
  rcases r with ⟨q, x, y, e⟩ | ⟨T, f, oT, q, e⟩
  · exact .inl ⟨k _ _ hz q, x, y, k _ _ hTO e⟩
  · by_cases c : T = S
    · obtain ⟨o, ho⟩ := kS
      exact .inr ⟨T, f, o, k _ _ hz q, by rw [c]; exact ho⟩
    · exact .inr ⟨T, f, oT, k _ _ hz q, k _ _ c e⟩
section
variable {X : Cx} {pins : List (Addr × Obj)} {σ : L2.St}
theorem sqT_of_kp {K : PySem.W.Frag} {H H' : Hp} {a : Addr} {xs : List V} (h : SqT K H a xs) (k : Kp [] H H') : SqT K H' a xs := sqT_tst h k.tst0
/-- the pairs that are made, at their addresses -/
def Prs (H : Hp) (xs ys : List V) (n : Nat) (ts : List Addr) : Prop := Paired (fun (p : V × V) (t : Addr) => H t = some (.tup [p.1, p.2])) ((xs.zip ys).take n) ts
theorem lz_loop {H0 : Hp} {S z TI TO i1 i2 a b : Addr} {xs ys : List V} {A : Around} {R : Result → Shared → Prop} {res : Value} (hh : A.handled = none) (D : ZipApart z TI TO i1 i2 a b) (hn : xs.length = ys.length) (hsz : xs.length ≤ 1000) (ha : SqT X.K H0 a xs) (hb : SqT X.K H0 b ys)
    (hz : z ≠ S) (hTI : TI ≠ S) (hTO : TO ≠ S) (h1 : i1 ≠ S) (h2 : i2 ≠ S) (hS0 : H0 S = none)
    (hend : ∀ s' H' ts, Inv X pins σ H' s' → Kp [] H0 H' → H' S = some (.lst (ts.map V.ref)) → Prs H' xs ys xs.length ts → R (.ok (.ret res)) s') :
    ∀ (k i : Nat) (s : Shared) (H : Hp) (ts : List Addr), xs.length - i = k → i ≤ xs.length → Inv X pins σ H s → Kp [] H0 H → H S = some (.lst (ts.map V.ref)) → ts.length = i → Prs H xs ys i ts → ZSt s.heap z TI TO i1 i2 a b i → (∀ c ∈ [z, TI, TO, i1, i2], FpOk X pins H c) →
      codeAny (model X.prog X.w) A (.builtin "list.extend.loop" ⟨[.ref S, .ref z, res], []⟩) R s := by
  intro k
  induction k with
  | zero =>
    intro i s H ts hk hi I k0 hS hts hP st hf
    obtain rfl : i = xs.length := by omega
    obtain ⟨its, rv, p, _⟩ := I.tuple (sqT_of_kp ha k0)
    obtain ⟨its2, rv2, p2, _⟩ := I.tuple (sqT_of_kp hb k0)
    refine codeAny_builtin PySem.F.entry_extend_loop ?_
    rw [Around.under_plainId PySem.F.plain_extend_loop _]
    show wpAny _ A.in1 (pyNext (.ref z) >>= _) _ _ s
    refine wpAny_bind (zs_end hh D st p p2 (by have := rv.length; simp; omega) fun h' hk2 => ?_)
    refine wpAny_pure (hend _ H ts ?_ k0 hS hP)
    exact I.turnedL (t' := s.toks) (ch := [z, TI, TO, i1, i2]) (fun c o hb q => hk2 c o (fun q' => hb (by simp [q'])) (fun q' => hb (by simp [q'])) (fun q' => hb (by simp [q'])) (fun q' => hb (by simp [q'])) q) hf
  | succ k ih =>
    intro i s H ts hk hi I k0 hS hts hP st hf
    have hlt : i < xs.length := by omega
    obtain ⟨its, rv, p, _⟩ := I.tuple (sqT_of_kp ha k0)
    obtain ⟨its2, rv2, p2, _⟩ := I.tuple (sqT_of_kp hb k0)
    have gx : xs[i]? = some xs[i] := List.getElem?_eq_getElem hlt
    have gy : ys[i]? = some (ys[i]'(by omega)) := List.getElem?_eq_getElem (by omega)
    obtain ⟨u, hu, ru⟩ := rv.get gx
    obtain ⟨u2, hu2, ru2⟩ := rv2.get gy
    have live : ∀ c ∈ [z, TI, TO, i1, i2], c < s.heap.objs.size := fun c hc => by
      obtain ⟨q1, ⟨o2, q2, _⟩, ⟨o3, q3, _⟩, ⟨o4, q4⟩, q5⟩ := id st
      have e' := mem5.mp hc
      rcases e' with q | q | q | q | q
      · rw [q]
        rcases q5 with ⟨q6, _⟩ | ⟨_, _, _, q6, _⟩
        · exact Heap.lt_size q6
        · exact Heap.lt_size q6
      · rw [q]; exact Heap.lt_size q1
      · rw [q]; exact Heap.lt_size q4
      · rw [q]; exact Heap.lt_size q2
      · rw [q]; exact Heap.lt_size q3
    refine codeAny_builtin PySem.F.entry_extend_loop ?_
    rw [Around.under_plainId PySem.F.plain_extend_loop _]
    show wpAny _ A.in1 (pyNext (.ref z) >>= _) _ _ s
    refine wpAny_bind (zs_item D st p p2 (x := u) (y := u2) (by simpa using hu) (by simpa using hu2) fun h' st' hT hk2 => ?_)
    have hT0 : H s.heap.objs.size = none := I.hok.fresh (Nat.le_refl _)
    have new : ObjOk X.prog X.w (upd H s.heap.objs.size (.tup [xs[i], ys[i]'(by omega)])) h' s.heap.objs.size (.tup [xs[i], ys[i]'(by omega)]) :=
      ⟨by show 2 ≤ sizeLine; decide, [u, u2], .cons ru (.cons ru2 .nil), ⟨_, hT, rfl, _, rfl⟩⟩
    have I1 : Inv X pins σ (upd H s.heap.objs.size (.tup [xs[i], ys[i]'(by omega)])) { s with heap := h' } :=
      I.turnedNew (t' := s.toks) (ch := [z, TI, TO, i1, i2]) (fun c o hb q => hk2 c o (fun q' => hb (by simp [q'])) (fun q' => hb (by simp [q'])) (fun q' => hb (by simp [q'])) (fun q' => hb (by simp [q'])) q) hf (Nat.le_refl _) new
    have nS : S ≠ s.heap.objs.size := ne_of_none hS hT0
    have hS1 : upd H s.heap.objs.size (.tup [xs[i], ys[i]'(by omega)]) S = some (.lst (ts.map V.ref)) := by rw [upd_ne nS]; exact hS
    have n1 : Kp [] H (upd H s.heap.objs.size (.tup [xs[i], ys[i]'(by omega)])) := .new hT0
    obtain ⟨hz', its3, n3, ri, e⟩ := I1.hok S _ hS1
    have ri3 : its3.length = i := by rw [← ri.length, List.length_map, hts]
    show wpAny _ A.in1 (updateSeq S (·.push (.ref s.heap.objs.size)) >>= _) _ _ _
    refine wpAny_bind (wpAny_updateSeq e rfl (wpAny_pure ⟨plainId_quiet PySem.F.plain_extend_loop _, ?_⟩) (by rw [List.size_toArray, ri3, sizeLine_eq]; omega) (by show (its3.toArray.push _).size ≤ sizeLine + 1; rw [Array.size_push, List.size_toArray, ri3, sizeLine_eq]; omega))
    have hup := Heap.get?_update_self (Obj.mapSeq (·.push (Value.ref s.heap.objs.size))) e rfl
    have I2 : Inv X pins σ (upd (upd H s.heap.objs.size (.tup [xs[i], ys[i]'(by omega)])) S (.lst ((ts ++ [s.heap.objs.size]).map V.ref))) { s with heap := h'.update S (Obj.mapSeq (·.push (Value.ref s.heap.objs.size))) } := by
      refine I1.write (t' := s.toks) (by rw [hS1]; trivial) (.inl rfl) (fun b u hb q => (Heap.get?_update_other _ _ (Ne.symm hb)).trans q) ⟨_, hup⟩ ⟨by rw [List.length_map, List.length_append, hts, sizeLine_eq]; show i + 1 ≤ _; omega, its3 ++ [.ref s.heap.objs.size], n3 + 1, ?_, ?_⟩
      · rw [List.map_append]
        exact ri.append (.cons rfl .nil)
      · rw [hup]
        simp [Obj.mapSeq]
    refine ih (i + 1) _ _ (ts ++ [s.heap.objs.size]) (by omega) hlt I2 ((k0.trans n1).putN hS0) upd_same (by rw [List.length_append, hts]; rfl) ?_ (st'.kept (S := S) (fun c o hc q => (Heap.get?_update_other _ _ (Ne.symm hc)).trans q) ⟨_, hup⟩ hz hTI hTO h1 h2) fun c hc => ?_
    · have hzip : (xs.zip ys)[i]? = some (xs[i], ys[i]'(by omega)) := by
        rw [List.getElem?_eq_getElem (by rw [List.length_zip]; omega), List.getElem_zip]
      refine paired_snoc (paired_map (fun p t ht => ?_) hP) hzip ?_
      · rw [upd_ne (ne_of ht hS (by simp))]
        exact n1 _ _ (by simp) ht
      · rw [upd_ne nS.symm, upd_same]
    · have e' := mem5.mp hc
      have cS : c ≠ S := by
        rcases e' with q | q | q | q | q <;> rw [q] <;> assumption
      exact ⟨by rw [upd_ne cS, upd_ne (Nat.ne_of_lt (live c hc))]; exact (hf c hc).1, (hf c hc).2⟩
theorem call_list_zip {H : Hp} {s : Shared} {z TI TO i1 i2 a b : Addr} {xs ys : List V} {Q : VK} {E : Value → Shared → Prop} (hh : X.A.handled = none) (I : Inv X pins σ H s) (D : ZipApart z TI TO i1 i2 a b) (hz : IsZip s.heap z TI TO .none) (st : ZSt s.heap z TI TO i1 i2 a b 0)
    (hf : ∀ c ∈ [z, TI, TO, i1, i2], FpOk X pins H c) (ha : SqT X.K H a xs) (hb : SqT X.K H b ys) (hn : xs.length = ys.length) (hsz : xs.length ≤ 1000)
    (hQ : ∀ (H' : Hp) (S : Addr) (ts : List Addr), Kp [] H H' → H' S = some (.lst (ts.map V.ref)) → Prs H' xs ys xs.length ts → Q (.ref S) H') : wpAny (model X.prog X.w) X.A (call (.type "list") [.ref z]) (EP X pins σ Q) E s := by
  have hzl : z < s.heap.objs.size := Heap.lt_size hz
  have hSz : s.heap.objs.size ≠ z := Nat.ne_of_gt hzl
  refine callType_codes (Q₁ := fun obj s₁ => obj = .ref s.heap.objs.size ∧ s₁ = { s with heap := s.heap.push { cls := .type "list", data := .seq #[] } }) PySem.F.called_list (PySem.F.typeCall_list_1 _) PySem.F.entry_list_init
    (code_list_new _ ⟨rfl, rfl⟩) fun obj s₁ h₁ => ?_
  obtain ⟨rfl, rfl⟩ := h₁
  have hS : (s.heap.push { cls := .type "list", data := .seq #[] }).get? s.heap.objs.size = some { cls := .type "list", data := .seq #[] } := Heap.get?_push_size _ rfl
  refine ⟨⟨_, hS, rfl⟩, PySem.F.args_list_init_2 _ _, ?_⟩
  refine wpAny_bind (m := Builtin.List.listItems (.ref s.heap.objs.size)) ?_
  unfold Builtin.List.listItems
  refine wpAny_bind (wpAny_seqItems hS rfl (wpAny_pure (wpAny_bind (m := updateSeq s.heap.objs.size fun _ => #[]) (wpAny_updateSeq hS rfl ?_))))
  have hS2 := Heap.get?_update_self (Obj.mapSeq (fun _ => (#[] : Array Value))) hS rfl
  refine wpAny_bind (wpAny_letGo ?_)
  unfold Builtin.List.listExtendWith
  have up : ∀ (h : Heap) (f : Obj → Obj), (∀ b o, s.heap.get? b = some o → h.get? b = some o) → ∀ b o, s.heap.get? b = some o → (h.update s.heap.objs.size f).get? b = some o := fun h f q b o e =>
    (Heap.get?_update_other _ _ (Ne.symm (Nat.ne_of_lt (Heap.lt_size e)))).trans (q b o e)
  have k1 : ∀ b o, s.heap.get? b = some o → (s.heap.push { cls := .type "list", data := .seq #[] }).get? b = some o := fun b o e => Heap.get?_push_of_some _ e
  have k2 := up _ (Obj.mapSeq (fun _ => (#[] : Array Value))) k1
  have zty : ∀ {s' : Shared}, (∀ b o, s.heap.get? b = some o → s'.heap.get? b = some o) → s'.TypeIs (.ref z) "zip" := fun {s'} q => ⟨_, q _ _ hz, rfl⟩
  refine wpAny_bind (wpAny_typeOf (zty (s' := { s with heap := _ }) k2) ?_)
  have h1 : Builtin.List.listSameRef (.ref s.heap.objs.size) (.ref z) = false := by simp [Builtin.List.listSameRef, hSz]
  have h2 : (Value.type "zip" == Value.type "list") = false := by decide
  have h3 : (Value.type "zip" == Value.type "tuple") = false := by decide
  simp only [h1, h2, h3, Bool.or_false, Bool.false_eq_true, if_false]
  refine wpAny_bind (iter_zk (c := false) (s := { s with heap := _ }) (k2 _ _ hz) ?_)
  refine wpAny_bind (wpAny_holding ?_)
  unfold Builtin.List.listLengthHint
  refine wpAny_bind (wpAny_specialOf (zty (s' := { s with heap := _ }) k2) nolen_zip ?_)
  show wpAny _ X.A.in1.in1 (specialOf (Value.ref z) (Str.ofString "__length_hint__") >>= _) _ _ _
  refine wpAny_bind (wpAny_specialOf (zty (s' := { s with heap := _ }) k2) nohint_zip ?_)
  refine wpAny_pure ?_
  refine wpAny_bind (m := rule "list.extend.makes-room") (wpAny_rule ?_)
  refine wpAny_bind (m := Builtin.List.listTouch (.ref s.heap.objs.size)) (wpAny_bind (m := updateSeq s.heap.objs.size (·.push .none)) (wpAny_updateSeq hS2 rfl ?_))
  have hS3 := Heap.get?_update_self (Obj.mapSeq (·.push Value.none)) hS2 rfl
  refine wpAny_updateSeq (hz := by seq_fits) hS3 rfl ?_
  have hS4 := Heap.get?_update_self (Obj.mapSeq (·.pop)) hS3 rfl
  have k4 := up _ (Obj.mapSeq (·.pop)) (up _ (Obj.mapSeq (·.push Value.none)) k2)
  refine wpAny_pure ⟨plainId_quiet PySem.F.plain_extend_loop _, ?_⟩
  obtain ⟨n5, hS5⟩ : ∃ c, ((((s.heap.push { cls := .type "list", data := .seq #[] }).update s.heap.objs.size (Obj.mapSeq (fun _ => (#[] : Array Value)))).update s.heap.objs.size (Obj.mapSeq (·.push Value.none))).update s.heap.objs.size (Obj.mapSeq (·.pop))).get? s.heap.objs.size = some (({ cls := .type "list", dict := none, data := .seq #[] c, slots := #[] } : Obj)) := ⟨_, hS4⟩
  generalize (((((s.heap.push { cls := .type "list", data := .seq #[] }).update s.heap.objs.size (Obj.mapSeq (fun _ => (#[] : Array Value)))).update s.heap.objs.size (Obj.mapSeq (·.push Value.none))).update s.heap.objs.size (Obj.mapSeq (·.pop)))) = g4 at hS4 hS5 k4 ⊢
  have hS0 : H s.heap.objs.size = none := I.hok.fresh (Nat.le_refl _)
  have I4 : Inv X pins σ (upd H s.heap.objs.size (.lst (([] : List Addr).map V.ref))) { s with heap := g4 } := by
    refine I.laid (t' := s.toks) k4 (Nat.le_refl _) ⟨Nat.zero_le _, [], n5, .nil, ?_⟩
    rw [hS5]
  have ne : ∀ c ∈ [z, TI, TO, i1, i2], c < s.heap.objs.size := fun c hc => by
    obtain ⟨q1, ⟨o2, q2, _⟩, ⟨o3, q3, _⟩, ⟨o4, q4⟩, q5⟩ := id st
    have e' := mem5.mp hc
    rcases e' with q | q | q | q | q
    · rw [q]; exact hzl
    · rw [q]; exact Heap.lt_size q1
    · rw [q]; exact Heap.lt_size q4
    · rw [q]; exact Heap.lt_size q2
    · rw [q]; exact Heap.lt_size q3
  have nS : ∀ c ∈ [z, TI, TO, i1, i2], c ≠ s.heap.objs.size := fun c hc => Nat.ne_of_lt (ne c hc)
  refine lz_loop (X := X) (pins := pins) (σ := σ) (H0 := H) (S := s.heap.objs.size) (A := X.A.in1) (xs := xs) (ys := ys) hh D hn hsz ha hb (nS _ (by simp)) (nS _ (by simp)) (nS _ (by simp)) (nS _ (by simp)) (nS _ (by simp)) hS0 (fun s' H' ts J k hl hp => ?_) xs.length 0 { s with heap := g4 } _ [] rfl (Nat.zero_le _) I4 (.new hS0) upd_same rfl (by unfold Prs; rw [List.take_zero]; exact .nil)
    (st.kept (S := s.heap.objs.size) (fun c o _ e => k4 c o e) ⟨_, hS4⟩ (nS _ (by simp)) (nS _ (by simp)) (nS _ (by simp)) (nS _ (by simp)) (nS _ (by simp))) fun c hc => ⟨by rw [upd_ne (nS c hc)]; exact (hf c hc).1, (hf c hc).2⟩
  exact ⟨rfl, .ref s.heap.objs.size, H', J, rfl, hQ H' _ ts k hl hp⟩
/-- list(zip(e, e2)) of two tuples of one length -/
def tListZip (K : PySem.W.Frag) (ta : TA) : TE := fun σ H Q => ta σ H fun vs H1 => ∃ a b xs ys, vs = [.ref a, .ref b] ∧ SqT K H1 a xs ∧ SqT K H1 b ys ∧ xs.length = ys.length ∧ xs.length ≤ 1000 ∧
  ∀ (H' : Hp) (S : Addr) (ts : List Addr), Kp [] H1 H' → H' S = some (.lst (ts.map V.ref)) → Prs H' xs ys xs.length ts → Q (.ref S) H'
theorem pe_listZip {e e2 : Expr} {ta : TA} {p p2 pos pos2 : Pos} (hc : X.calm = true) (hml : X.mg "list" = none) (hm : X.mg "zip" = none) (ha : PA X [e, e2] ta) (hgl : Gl X "list" := by rfl) (hg : Gl X "zip" := by rfl)
    (hs0 : starEach [.Call (.Name "zip" p2) [e, e2] [] pos2] X.env = (false, eval (.Call (.Name "zip" p2) [e, e2] [] pos2) X.env) :: starEach [] X.env := by rfl)
    (hs : starEach [e, e2] X.env = (false, eval e X.env) :: starEach [e2] X.env := by rfl) (hpl : (backTo pos2 (starEach [e2] X.env)).any (·.1) = false := by rfl) :
    PE X (.Call (.Name "list" p) [.Call (.Name "zip" p2) [e, e2] [] pos2] [] pos) (tListZip X.K ta) := by
  refine ⟨fun pins s σ H Q I h => ?_⟩
  refine Call_ (ld_blt I hgl hml (show bootBuiltins "list" = some (.type "list") by decide +kernel) (PyProof.Rows.callWith_type1 ?_ hs0 rfl))
  rw [hs0]
  show wpAny _ _ (spliced ((false, eval (.Call (.Name "zip" p2) [e, e2] [] pos2) X.env) :: backTo pos (starEach [] X.env))) _ _ s
  refine Calls.spliced_cons ?_
  refine Call_ (ld_blt I hg hm PyProof.Rows.boot_zip (PyProof.Rows.callWith_type1 (thn (ha.run pos2 pins s σ H _ I h) fun us s1 ⟨vs, H1, I1, r1, q1⟩ => ?_) hs hpl))
  obtain ⟨a, b, xs, ys, ex, hqx, hqy, hn, hsz, q⟩ := q1
  subst ex
  cases r1 with
  | cons r rr =>
    cases rr with
    | cons r' rr =>
      cases rr
      cases r
      cases r'
      have fresh5 : ∀ c, c ∈ [s1.heap.objs.size + 4, s1.heap.objs.size + 2, s1.heap.objs.size + 3, s1.heap.objs.size, s1.heap.objs.size + 1] → FpOk X pins H1 c := fun c hcm => by
        have e' : c = s1.heap.objs.size + 4 ∨ c = s1.heap.objs.size + 2 ∨ c = s1.heap.objs.size + 3 ∨ c = s1.heap.objs.size ∨ c = s1.heap.objs.size + 1 := by simpa using hcm
        have hle : s1.heap.objs.size ≤ c := by
          rcases e' with z | z | z | z | z
          · rw [z]; exact Nat.le_add_right _ _
          · rw [z]; exact Nat.le_add_right _ _
          · rw [z]; exact Nat.le_add_right _ _
          · rw [z]; exact Nat.le_refl _
          · rw [z]; exact Nat.le_add_right _ _
        exact I1.fpOk hle (I1.hok.fresh hle)
      obtain ⟨its, rv, p1, _⟩ := I1.tuple hqx
      obtain ⟨its2, rv2, p2, _⟩ := I1.tuple hqy
      obtain ⟨o1, ho1, _⟩ := id p1
      obtain ⟨o2, ho2, _⟩ := id p2
      refine call_zipT p1 p2 fun h' hz hTI hTO h1 h2 hsz' hk => Calls.spliced_nil ?_
      have I2 : Inv X pins σ H1 { s1 with heap := h' } := I1.kept (t' := s1.toks) hk
      exact call_list_zip (I.ok.hd hc) I2 (PySem.W.ktu_apart s1.heap.objs.size a b (Heap.lt_size ho1) (Heap.lt_size ho2)) hz ⟨hTI, h1, h2, ⟨_, hTO⟩, .inl ⟨hz, _, _, hTO⟩⟩ fresh5 hqx hqy hn hsz q
end
end TP
set_option Elab.async false
set_option linter.all false
set_option maxRecDepth 100000
set_option maxHeartbeats 4000000
/-! bounds on results, their texts' lengths -/
namespace TP
open PySem PySem.Spec PyProof.Rows L2
theorem cmb_mem {g : Bool} {x y : Option Int} {z : Int} (h : cmb g x y = some z) : x = some z ∨ y = some z := by
  cases x with
  | none => exact .inr h
  | some a =>
    cases y with
    | none => exact .inl h
    | some b =>
      have h : (some (if g then max a b else min a b) : Option Int) = some z := h
      have h2 := Option.some.inj h
      cases g
      · simp only [Bool.false_eq_true, if_false] at h2
        rcases Int.le_total a b with q | q
        · left; rw [← h2, Int.min_eq_left q]
        · right; rw [← h2, Int.min_eq_right q]
      · simp only [if_true] at h2
        rcases Int.le_total a b with q | q
        · right; rw [← h2, Int.max_eq_right q]
        · left; rw [← h2, Int.max_eq_left q]
theorem best_mem {g : Bool} {l : List (Option Int)} {z : Int} (h : best g l = some z) : some z ∈ l := by
  induction l with
  | nil => cases h
  | cons x l ih =>
    rcases cmb_mem (show cmb g x (best g l) = some z from h) with q | q
    · rw [q]; exact List.mem_cons_self
    · exact List.mem_cons_of_mem _ (ih q)
/-- values within B -/
def RowB (B : Int) (l : List (Option Int)) : Prop := ∀ z, some z ∈ l → -B ≤ z ∧ z ≤ B
theorem hv_bound {B : Int} {row : Row} (hB : 0 ≤ B) (h : RowB B row) {t : Tm} {z : Int} (e : hv row t = some z) : -B ≤ z ∧ z ≤ B := by
  unfold hv at e
  cases ht : tmSrc t with
  | none =>
    rw [ht] at e
    have : (0 : Int) = z := Option.some.inj e
    omega
  | some k =>
    rw [ht] at e
    have e : row.getD k none = some z := e
    rw [List.getD_eq_getElem?_getD] at e
    cases hk : row[k]? with
    | none => rw [hk] at e; cases e
    | some o =>
      rw [hk] at e
      have e : o = some z := e
      rw [e] at hk
      exact h z (List.mem_of_getElem? hk)
theorem step_bound {B C : Int} {g : Bool} {rule : Rule} {row : Row} {a : Int} (hB : 0 ≤ B) (hC : -C ≤ a ∧ a ≤ C) (h : RowB B row) : RowB (B + C) (stepR g rule row a) := by
  intro z hz
  obtain ⟨ts, _, e⟩ := List.mem_map.mp (show some z ∈ rule.map fun ts => best g (ts.map (tval row a)) from hz)
  obtain ⟨t, _, et⟩ := List.mem_map.mp (best_mem e)
  rw [tval_hv] at et
  obtain ⟨z0, e0, e1⟩ := Option.map_eq_some_iff.mp et
  obtain ⟨b1, b2⟩ := hv_bound hB h e0
  have e1 : (if tmTk t = true then z0 + a else z0) = z := e1
  by_cases hh : tmTk t = true
  · rw [if_pos hh] at e1
    omega
  · rw [if_neg hh] at e1
    omega
theorem res_bound {B : Int} {st : Sta} {row : Row} (hB : 0 ≤ B) (h : RowB B row) {z : Int} (e : st.res row = some z) : -B ≤ z ∧ z ≤ B := by
  obtain ⟨k, _, ek⟩ := List.mem_map.mp (best_mem (show best st.g (st.ends.map fun k => row.getD k.val none) = some z from e))
  rw [List.getD_eq_getElem?_getD] at ek
  cases hk : row[k.val]? with
  | none => rw [hk] at ek; cases ek
  | some o =>
    rw [hk] at ek
    have ek : o = some z := ek
    rw [ek] at hk
    exact h z (List.mem_of_getElem? hk)
theorem resultsFrom_bound (st : Sta) {C : Int} (hC0 : 0 ≤ C) : ∀ (log : List Ev) (row : Row) (B : Int), 0 ≤ B → (∀ e ∈ log, -C ≤ e.2 ∧ e.2 ≤ C) → RowB B row → RowB (B + C * log.length) (st.resultsFrom row log)
  | [], row, B, hB, _, h => fun z hz => by
    have := res_bound (st := st) hB h (List.mem_singleton.mp (show some z ∈ [st.res row] from hz)).symm
    simpa using this
  | e :: r, row, B, hB, hl, h => fun z hz => by
    have hlen : ((e :: r).length : Int) = (r.length : Int) + 1 := by simp
    have hmul : C * ((r.length : Int) + 1) = C * r.length + C := by rw [Int.mul_add, Int.mul_one]
    have hr0 : 0 ≤ C * (r.length : Int) := Int.mul_nonneg hC0 (by omega)
    rw [hlen, hmul]
    rcases List.mem_cons.mp (show some z ∈ st.res row :: st.resultsFrom (st.stp row e) r from hz) with q | q
    · have := res_bound (st := st) hB h q.symm
      omega
    · have := resultsFrom_bound st hC0 r (st.stp row e) (B + C) (by omega) (fun x hx => hl x (List.mem_cons_of_mem _ hx)) (step_bound hB (hl e List.mem_cons_self) h) z q
      omega
theorem row0_bound (st : Sta) : RowB 0 st.row := fun z hz => by
  obtain ⟨b, _, e⟩ := List.mem_map.mp hz
  cases b
  · cases e
  · have : (0 : Int) = z := Option.some.inj e
    omega
theorem results_bound (st : Sta) {n : Nat} {log : List Ev} (h : EvB n log) : RowB 600 (st.results log) := fun z hz => by
  have := resultsFrom_bound st (C := 30) (by decide) log st.row 0 (by decide) (fun e he => (h.2 e he).2) (row0_bound st) z hz
  have hl := h.1
  omega
end TP
set_option Elab.async false
set_option linter.all false
set_option maxRecDepth 100000
set_option maxHeartbeats 4000000
/-! results as data, their texts -/
namespace TP
open PySem PySem.Spec PyProof.Rows L2
def dOpt : Option Int → PyData
  | none => .none
  | some z => .int z
def dRow (os : List (Option Int)) : PyData := .tuple (os.map dOpt)
theorem dp_opts {K : PySem.W.Frag} {H : Hp} : ∀ os : List (Option Int), DpAll K H (os.map optV) (os.map dOpt)
  | [] => .nil
  | none :: os => .cons .non (dp_opts os)
  | some z :: os => .cons (.int z) (dp_opts os)
/-- a value whose text may be made -/
structure Sh (d : PyData) (n : Nat) : Prop where
  show_ : d.showable = true
  dict : d.hasDict = false
  len : d.shown.length ≤ n
def Small (z : Int) : Prop := z.natAbs.log2 < 1920
theorem sh_opt {o : Option Int} (h : ∀ z, o = some z → Small z) : Sh (dOpt o) 1921 := by
  cases o with
  | none => exact ⟨rfl, rfl, by decide +kernel⟩
  | some z =>
    have hz := h z rfl
    exact ⟨by simp [dOpt, PyData.showable]; exact hz, by simp [dOpt, PyData.hasDict], by simp only [dOpt, PyData.shown]; exact PyProof.Rows.int_text_len_1921 hz⟩
theorem shAll {n : Nat} : ∀ {ds : List PyData}, (∀ d ∈ ds, Sh d n) → PyData.showableAll ds = true ∧ PyData.hasDictAll ds = false ∧ (PyData.shownAll ds).length = ds.length ∧ ((PyData.shownAll ds).map (·.length)).sum ≤ n * ds.length
  | [], _ => ⟨rfl, rfl, rfl, Nat.le_refl _⟩
  | d :: ds, h => by
    obtain ⟨h1, h2, h3, h4⟩ := shAll (ds := ds) fun x hx => h x (List.mem_cons_of_mem _ hx)
    have hd := h d List.mem_cons_self
    refine ⟨by simp [PyData.showableAll, hd.show_, h1], by simp [PyData.hasDictAll, hd.dict, h2], by simp [PyData.shownAll, h3], ?_⟩
    have := hd.len
    simp only [PyData.shownAll, List.map_cons, List.sum_cons, List.length_cons, Nat.mul_add, Nat.mul_one]
    omega
theorem sh_tuple {n m : Nat} {ds : List PyData} (h : ∀ d ∈ ds, Sh d n) (hl : ds.length ≤ m) : Sh (.tuple ds) (n * m + 2 * m + 3) := by
  obtain ⟨h1, h2, h3, h4⟩ := shAll h
  refine ⟨by simp [PyData.showable, h1], by simp [PyData.hasDict, h2], ?_⟩
  simp only [PyData.shown]
  have := tupleText_len_le (PyData.shownAll ds)
  have h5 : n * ds.length ≤ n * m := Nat.mul_le_mul_left _ hl
  omega
theorem sh_list {n m : Nat} {ds : List PyData} (h : ∀ d ∈ ds, Sh d n) (hl : ds.length ≤ m) : Sh (.list ds) (n * m + 2 * m + 3) := by
  obtain ⟨h1, h2, h3, h4⟩ := shAll h
  refine ⟨by simp [PyData.showable, h1], by simp [PyData.hasDict, h2], ?_⟩
  simp only [PyData.shown]
  have := listText_len_le (PyData.shownAll ds)
  have h5 : n * ds.length ≤ n * m := Nat.mul_le_mul_left _ hl
  omega
theorem sh_row {os : List (Option Int)} (h : ∀ z, some z ∈ os → Small z) (hl : os.length ≤ 21) : Sh (dRow os) 50000 := by
  have := sh_tuple (n := 1921) (m := 21) (ds := os.map dOpt) (fun d hd => by
    obtain ⟨o, ho, rfl⟩ := List.mem_map.mp hd
    exact sh_opt fun z hz => h z (by rw [← hz]; exact ho)) (by rw [List.length_map]; exact hl)
  exact ⟨this.show_, this.dict, Nat.le_trans this.len (by decide)⟩
theorem sh_rows {rs : List (List (Option Int))} (h : ∀ os ∈ rs, (∀ z, some z ∈ os → Small z) ∧ os.length ≤ 21) (hl : rs.length ≤ 4) : Sh (.list (rs.map dRow)) 300000 := by
  have := sh_list (n := 50000) (m := 4) (ds := rs.map dRow) (fun d hd => by
    obtain ⟨o, ho, rfl⟩ := List.mem_map.mp hd
    exact sh_row (h o ho).1 (h o ho).2) (by rw [List.length_map]; exact hl)
  exact ⟨this.show_, this.dict, Nat.le_trans this.len (by decide)⟩
theorem small_of {z : Int} (h : -(10 ^ 500) < z ∧ z < 10 ^ 500) : Small z := by
  unfold Small
  rcases Nat.eq_zero_or_pos z.natAbs with e | e
  · rw [e]; decide
  · refine (Nat.log2_lt (Nat.pos_iff_ne_zero.mp e)).mpr (Nat.lt_of_lt_of_le (m := 10 ^ 500) (by omega) (by decide +kernel))
end TP
set_option Elab.async false
set_option linter.all false
set_option maxRecDepth 100000
set_option maxHeartbeats 4000000
/-! defs whose surroundings hold no repr: repr(..) -/
namespace TP
open PySem PySem.Spec PyProof.Rows L2
def rRepr (K : PySem.W.Frag) : List V → Hp → VK → Prop := fun xs H Q => ∃ p d n, xs = [.ref p] ∧ Dp K H (.ref p) d ∧ Sh d n ∧ n ≤ 300000 ∧ d.depth ≤ 5 ∧ Q (.str d.shown) H
theorem call_reprD {X : Cx} (hg : X.A.guards = some []) (hu : X.A.units + 10 < cLine) : CallR X (.builtin "repr") (rRepr X.K) := by
  intro pins s σ H xs us Q I r h
  obtain ⟨p, d, n, rfl, hd, sh, hn, hdp, q⟩ := h
  obtain ⟨u, rfl, rx⟩ := vals1 r
  obtain ⟨as, rd⟩ := Dp.reads I d _ u hd rx
  cases rx
  refine repr_of_reads' rd sh.show_ (PyData.noDict_hsm sh.dict) hg (by omega) (fun _ _ e => e) (fun h' u tk hk => ⟨.str d.shown, H, I.kept (t' := tk) hk, ⟨u, rfl⟩, q⟩) ?_
  have := sh.len
  rw [sizeLine_eq]
  omega
/-- FnOk of surroundings without a repr -/
structure FnG (P : Program) (w : World) (K : PySem.W.Frag) (mg : Str → Option Value) (base : Heap) (k : Nat) (f : Addr) (fd : FuncData) (ps : List Str) (sp : Sp) : Prop where
  len : ∀ vs H Q E, sp vs H Q E → vs.length = ps.length
  run : ∀ (A : Around) (outer : List Env) (s : Shared) (H : Hp) (args : Args) (us : List Value) (vs : List V) (Q : VK) (E : XK), A.guards = some [] → Room k A → Env0 P w K mg base A outer s H → BindsTo s fd args (ps.zip us) → Vals vs us → sp vs H Q E →
    codeAny (model P w) A (.call (.ref f) args) (CR CX0 outer P w H s Q E) s
/-- a def that may be called by its name where no repr stands around -/
structure CalG (P : Program) (w : World) (K : PySem.W.Frag) (mg : Str → Option Value) (base : Heap) (k : Nat) (x : Str) (sp : Sp) : Prop where
  ex : ∃ (f : Addr) (fd : FuncData) (ps : List Str), FnG P w K mg base k f fd ps sp ∧ mg x = some (.ref f) ∧ PySem.W.keepIn K (.ref f) = true ∧ Binds K fd ps []
theorem guards_deeper {A : Around} {env : Env} : (A.deeper env).guards = A.guards := rfl
theorem fnG_of {P : Program} {w : World} {K : PySem.W.Frag} {mg : Str → Option Value} {base : Heap} {x q : Str} {st : Stmt} {N ps : List Str} {dvs : List V} {k : Nat} {f : Addr} {fd : FuncData} {sp : Sp} (F : FunD K x q (defArgs st) (defBody st) (defScope st) dvs [] f fd) (S : FnScope N ps (defScope st)) (len : ∀ vs H Q E, sp vs H Q E → vs.length = ps.length)
    (hbody : ∀ (cdv : Value) (A : Around) (outer : List Env) (s : Shared) (H : Hp) (vs : List V) (Q : VK) (E : XK), (A.deeper (envOfC q (defScope st) s.heap.objs.size f cdv)).guards = some [] → Room k (A.deeper (envOfC q (defScope st) s.heap.objs.size f cdv)) → sp vs H Q E →
      ∃ t, PSs (cxOf CX0 P w K mg base N q (defScope st) f cdv A outer s H E).nox (defBody st) t ∧ t { nx := fun _ H' => Q .non H', rt := Q } (start N vs) H) : FnG P w K mg base (k + 1) f fd ps sp := by
  refine ⟨len, fun A outer s H args us vs Q E hgd hr e0 hb r hsp => ?_⟩
  obtain ⟨oc, od, dV, kV, doc, pm, an, cdv, ct, osl, rfl, lk, hcd, _, _⟩ := F.ex
  have hl := len _ _ _ _ hsp
  have KX : K.In s.heap := e0.mod.kin.keeps fun b o e => (e0.bs b o e).1
  have lim : s.heap.NoLimit := e0.mod.nolimit.keeps fun b o e => (e0.bs b o e).1
  have hkind : ∀ y ∈ ps.zip us, (defScope st).names.lookup y.1 = some .local ∨ ((defScope st).names.lookup y.1 = some .cell ∧ ((cellsFrom (s.heap.objs.size + 1) (defScope st).names []).lookup y.1).isSome = true) := fun ⟨n, v⟩ hy => by
    rcases S.par n (List.of_mem_zip hy).1 with q | q
    · exact .inl q
    · exact .inr ⟨q, PySem.W.cellsFrom_some _ _ _ (.inl q)⟩
  refine codeAny_call_function hr.depth (KX _ _ lk) rfl S.co S.gen rfl (PySem.W.codeRec_of KX hcd) (hb _ _ _ _ ?_)
  refine wpAny_newFunctionEnv_cells S.kind hkind fun env he s1 x => ?_
  subst he
  refine ⟨lim.keeps x.toInCall.keep, codeAny_func ?_⟩
  obtain ⟨t, ht, hq⟩ := hbody cdv A outer s H vs Q E hgd (hr.deeper _) hsp
  have I : Inv (cxOf CX0 P w K mg base N q (defScope st) f cdv A outer s H E) [] (start N vs) H s1 := inv_start S hr.hd e0 hl r x
  refine wpAny_mono (ht.nox.run [] s1 (start N vs) H _ I hq) (fun fl s' hs => ?_) fun e s' hs => hs
  cases fl with
  | ret u =>
    obtain ⟨v, σ', H', J, rv, q⟩ := hs
    exact ⟨v, H', J.os, J.bare, J.base, J.hok, rv, q⟩
  | next =>
    obtain ⟨σ', H', J, q⟩ := hs
    exact ⟨V.non, H', J.os, J.bare, J.base, J.hok, rfl, q⟩
  | brk =>
    obtain ⟨_, _, _, q⟩ := hs
    exact False.elim q
  | cont =>
    obtain ⟨_, _, _, q⟩ := hs
    exact False.elim q
theorem calG_of {P : Program} {w : World} {K : PySem.W.Frag} {mg : Str → Option Value} {base : Heap} {x : Str} {st : Stmt} {N ps : List Str} {dvs : List V} {k : Nat} {sp : Sp} (D : DefA K mg x st ps dvs) (S : FnScope N ps (defScope st)) (len : ∀ vs H Q E, sp vs H Q E → vs.length = ps.length)
    (hbody : ∀ (f : Addr) (cdv : Value) (A : Around) (outer : List Env) (s : Shared) (H : Hp) (vs : List V) (Q : VK) (E : XK), (A.deeper (envOfC x (defScope st) s.heap.objs.size f cdv)).guards = some [] → Room k (A.deeper (envOfC x (defScope st) s.heap.objs.size f cdv)) → sp vs H Q E →
      ∃ t, PSs (cxOf CX0 P w K mg base N x (defScope st) f cdv A outer s H E).nox (defBody st) t ∧ t { nx := fun _ H' => Q .non H', rt := Q } (start N vs) H) : CalG P w K mg base (k + 1) x sp := by
  obtain ⟨f, fd, F, hm, hb⟩ := D.ex
  exact ⟨f, fd, ps, fnG_of F S len fun cdv A outer s H vs Q E hg hr h => hbody f cdv A outer s H vs Q E hg hr h, hm, F.kp, hb⟩
theorem pe_cg {X : Cx} {k j : Nat} {x : Str} {sp : Sp} {p pos : Pos} {e : Expr} {es : List Expr} {t : TA} (c : CalG X.prog X.w X.K X.mg X.base k x sp) (hgd : X.A.guards = some []) (hr : Room j X.A) (ha : PA X (e :: es) t) (hk : k ≤ j := by decide) (hg : Gl X x := by rfl)
    (hdb : (x == ("__debug__" : Str)) = false := by decide) (he : starEach (e :: es) X.env = (false, eval e X.env) :: starEach es X.env := by rfl) (hpl : (backTo pos (starEach es X.env)).any (·.1) = false := by rfl) :
    PE X (.Call (.Name x p) (e :: es) [] pos) (tCall sp [] E0 t) := by
  obtain ⟨f, fd, ps, F, hm, kp, hb⟩ := c.ex
  refine ⟨fun pins s σ H Q I h => ?_⟩
  refine wpAny_Call_Name_kw (ld_glob I hg hm ?_ hdb)
  refine PySem.W.callWith_K (h₀ := X.base) I.ok.mod.kin kp (thn (ha.run pos pins s σ H _ I h) fun us s1 ⟨vs, H1, I1, r, q⟩ => ⟨I1.kIn, ?_⟩) he hpl
  have r2 : Vals (vs ++ []) (us ++ []) := r.append .nil
  have hl : (us ++ []).length = ps.length := by rw [← r2.length]; exact F.len _ _ _ _ q
  refine wpAny_call (codeAny_mono (F.run X.A X.stack s1 H1 ⟨us, []⟩ (us ++ []) (vs ++ []) Q E0 hgd (hr.mono hk) I1.env0 (hb s1 us I1.kIn hl) r2 q) fun r s' hq => ?_)
  cases r with
  | error e => exact False.elim hq
  | ok fl =>
    cases fl with
    | ret u => exact I1.after hq
    | next => exact False.elim hq
    | brk => exact False.elim hq
    | cont => exact False.elim hq
end TP
set_option Elab.async false
set_option linter.all false
set_option maxRecDepth 100000
set_option maxHeartbeats 4000000
/-! _law_both_right -/
namespace TP
open PySem PySem.Spec PyProof.Rows L2
theorem depth_opts : ∀ os : List (Option Int), PyData.depthAll (os.map dOpt) = 0
  | [] => rfl
  | none :: os => by
    show max 0 (PyData.depthAll (os.map dOpt)) = 0
    rw [depth_opts os]; rfl
  | some z :: os => by
    show max 0 (PyData.depthAll (os.map dOpt)) = 0
    rw [depth_opts os]; rfl
theorem depth_row (os : List (Option Int)) : (dRow os).depth ≤ 5 := by
  show PyData.depthAll (os.map dOpt) + 1 ≤ 5
  rw [depth_opts]
  decide
section
variable {K : PySem.W.Frag} {mg : Str → Option Value}
def spBoth (K : PySem.W.Frag) : Sp := fun vs H Q _ => ∃ (a b : Sta) (log : List Ev) (va vb vl : V), vs = [va, vb, vl] ∧ RPlain K H a va ∧ RPlain K H b vb ∧ a.Ok ∧ b.Ok ∧ a.g = b.g ∧ a.kinds = b.kinds ∧ b.start.length + a.start.length ≤ 6 ∧
  RLog K a.kinds H log vl ∧ EvB a.kinds.length log ∧ ∀ H', Kp [] H H' → Q (.bl true) H'
end
section
variable {P : Program} {w : World} {K : PySem.W.Frag} {mg : Str → Option Value} {base : Heap}
theorem g_both (T : Tl K mg) : CalG P w K mg base 9 "_law_both_right" (spBoth K) := by
  refine calG_of T.bothRight scLawBothRight (fun vs H Q E h => ?_) (fun f cdv A outer s H vs Q E hgd hr h => ?_)
  · obtain ⟨_, _, _, _, _, _, rfl, _⟩ := h
    rfl
  · obtain ⟨a, b, log, va, vb, vl, rfl, hpa, hpb, oa, ob, hg, hk, hn, hlog, lok, q⟩ := h
    have TX := T.tm.tk.tc.tx
    obtain ⟨fdo, FO, hbo⟩ := m_sOr (P := P) (w := w) (base := base) T.tm.tk.tc
    have hu : (A.deeper (envOfC "_law_both_right" (defScope sLawBothRight) s.heap.objs.size f cdv)).units + 10 < cLine := by have := hr.un; omega
    refine ⟨_, pss_cons (ps_set (i := 3) scLawBothRight.nd rfl (Or.inl rfl) (pe_listZip rfl TX.f TX.f (pa_cons (pe_c (c_lawAll T) hr (pa_cons (pv 0) (pa_cons (pv 2) pa_nil))) (pa_cons (pe_c (c_lawAll T) hr (pa_cons (pv 1) (pa_cons (pv 2) pa_nil))) pa_nil))))
      (pss_cons (ps_set (i := 4) scLawBothRight.nd rfl (Or.inl rfl) (pe_callTy call_tuple_of rfl TX.f (by decide +kernel) (pa_cons (pe_lc (own := [("_law_one_result", 5), ("_law_mate_result", 6)]) (g := gTup K 2 (gCons (gName 5) (gCons (gName 6) gNil))) (tt := tYes) rfl scLawBothRight.nd (pi_list (pv 3)) (blkOk_by (N := nLawBothRight) (sc := defScope sLawBothRight) (by decide +kernel))
        (fun _ _ _ _ _ => pg_tup rfl (pgs_cons (pg_name (i := 5) scLawBothRight.nd rfl (Or.inl rfl)) (pgs_cons (pg_name (i := 6) scLawBothRight.nd rfl (Or.inl rfl)) pgs_nil))) (fun _ _ _ _ _ => pts_nil)
        (fun _ _ _ _ _ => pe_c (c_lawBest T) hr (pa_cons (pe_ixr (ix_tupK K rfl) (pv 0) pe_int) (pa_cons (pe_lst (pa_cons (pv 5) (pa_cons (pv 6) pa_nil))) pa_nil)))) pa_nil)))
      (pss_one (ps_ret (pe_cmpR op_eq (pe_callB (call_reprD hgd hu) rfl TX.f (by decide +kernel) (pa_cons (pe_c (c_results T.tm.tk.tc) hr (pa_cons (pe_op (op_orO (T.tm.tk.tc.or_ a.g) FO (hr.mono (by decide)) hbo) (pe_c (c_lawOf T) hr (pa_cons (pv 0) pa_nil)) (pe_c (c_lawOf T) hr (pa_cons (pv 1) pa_nil))) (pa_cons (pv 2) pa_nil))) pa_nil))
        (pe_callB (call_reprD hgd hu) rfl TX.f (by decide +kernel) (pa_cons (pv 4) pa_nil)) (nomark _))))), ?_⟩
    obtain ⟨pp, vk, vs, vr, ve, rfl, hpp, ps, hdn⟩ := id hpa
    have lokb : EvB b.kinds.length log := by rw [← hk]; exact lok
    have hlogb : RLog K b.kinds H log vl := by rw [← hk]; exact hlog
    have la : (a.results log).length = log.length + 1 := results_length a log
    have lb : (b.results log).length = log.length + 1 := results_length b log
    have hl20 := lok.1
    refine ⟨_, rfl, _, rfl, a, log, _, _, rfl, hpa, oa, hlog, lok, fun p1 H1 k1 h1 => ?_⟩
    refine ⟨_, rfl, _, rfl, b, log, _, _, rfl, stbPlain _ _ _ _ k1.tst0 hpb, ob, stbLog _ _ _ _ k1.tst0 hlogb, lokb, fun p2 H2 k2 h2 => ?_⟩
    have h12 := k2 _ _ (by simp) h1
    refine ⟨p1, p2, _, _, rfl, SqT.of h12, SqT.of h2, by rw [List.length_map, List.length_map, la, lb], by rw [List.length_map, la]; omega, fun H3 S ts k3 hS hP => ?_⟩
    have k13 := (k1.trans k2).trans k3
    have htl : ts.length = log.length + 1 := by
      have := Paired.length hP
      rw [List.length_take, List.length_zip, List.length_map, List.length_map, la, lb] at this
      omega
    refine ⟨_, rfl, S, rfl, ⟨_, SqL.of hS⟩, fun D hD => lc_it walk_list (LS D [] H3 fun i acc _ => acc = ((List.zipWith (cmb a.g) (a.results log) (b.results log)).take i).map optV) (LS.start hD (fun _ _ _ _ _ h => h) rfl) (fun i H4 _ ⟨acc, _, _, k, _⟩ => SqL.of (k _ _ (by simp) hS)) (fun i x H4 H5 hi hp hy => ?_) fun H4 hp => ?_⟩
    · obtain ⟨acc, hA, hl2, k4, rfl⟩ := hp
      obtain ⟨rfl, hx⟩ := hy
      rw [List.getElem?_map] at hx
      obtain ⟨t, ht, rfl⟩ := Option.map_eq_some_iff.mp hx
      have hi1 : i < log.length + 1 := by
        have := (List.getElem?_eq_some_iff.mp ht).1
        omega
      obtain ⟨pr, hpr, ht2⟩ := paired_get' hP ht
      have ga : (a.results log)[i]? = some (a.results log)[i] := List.getElem?_eq_getElem (by omega)
      have gb : (b.results log)[i]? = some (b.results log)[i] := List.getElem?_eq_getElem (by omega)
      have epr : pr = (optV (a.results log)[i], optV (b.results log)[i]) := by
        rw [List.getElem?_take_of_lt (by rw [List.length_map]; omega), List.getElem?_eq_getElem (by rw [List.length_zip, List.length_map, List.length_map]; omega), List.getElem_zip, List.getElem_map, List.getElem_map] at hpr
        exact (Option.some.inj hpr).symm
      rw [epr] at ht2
      have hz : (List.zipWith (cmb a.g) (a.results log) (b.results log))[i]? = some (cmb a.g (a.results log)[i] (b.results log)[i]) := by
        rw [List.getElem?_zipWith, ga, gb]
      refine ⟨t, _, rfl, SqT.of (k4 _ _ (by simp) ht2), rfl, _, _, rfl, _, _, rfl, rfl, rfl, tyes (iteT ?_)⟩
      refine ⟨_, rfl, pp, _, 0, _, rfl, rfl, sqT_tst hpp (k13.trans k4).tst0, rfl, _, rfl, _, rfl, sz 2, fun pl hpl => ?_⟩
      have nl := Kp.new (M := []) (o := .lst [optV (a.results log)[i], optV (b.results log)[i]]) hpl
      refine ⟨a.g, pl, [(a.results log)[i], (b.results log)[i]], rfl, SqL.of upd_same, by show 2 ≤ 1000; decide, fun H6 k6 => ?_⟩
      have k46 := nl.trans k6
      refine LS.put hD (by simp) (fun _ _ _ _ _ h => h) (by omega) hl2 (k46 _ _ (by simp) hA) (k4.trans k46) ?_
      rw [take_succ_of hz, List.map_append, best_pair]
      rfl
    obtain ⟨acc, hA, _, k4, rfl⟩ := hp
    rw [List.length_map, htl] at hA
    have lz : (List.zipWith (cmb a.g) (a.results log) (b.results log)).length = log.length + 1 := by rw [List.length_zipWith]; omega
    rw [← lz, List.take_length] at hA
    refine ⟨D, _, rfl, .inl ⟨SqL.of hA, fun pd hpd => ?_⟩⟩
    have nd := Kp.new (M := []) (o := .tup ((List.zipWith (cmb a.g) (a.results log) (b.results log)).map optV)) hpd
    have hd5 := laid (Kp.refl (M := []) (H := upd H4 pd (.tup ((List.zipWith (cmb a.g) (a.results log) (b.results log)).map optV))))
    have k5 := (k13.trans k4).trans nd
    generalize upd H4 pd (.tup ((List.zipWith (cmb a.g) (a.results log) (b.results log)).map optV)) = H5 at nd hd5 k5
    refine ⟨_, rfl, a, _, rfl, stbPlain _ _ _ _ k5.tst0 hpa, oa, fun pa H6 k6 sa => ?_⟩
    refine ⟨_, rfl, b, _, rfl, stbPlain _ _ _ _ (k5.trans k6).tst0 hpb, ob, fun pb H7 k7 sb => ?_⟩
    have sa7 := stbSt _ _ _ _ k7.tst0 sa
    obtain ⟨a1, dx1, vk1, vs1, vr1, ve1, e1, ha1, _⟩ := id sa7
    obtain ⟨b1, dx2, vk2, vs2, vr2, ve2, e2, hb1, _⟩ := id sb
    cases e1
    cases e2
    rw [← hg] at hb1
    have k57 := (k5.trans k6).trans k7
    refine ⟨pa, pb, dx1, dx2, _, _, rfl, rfl, ha1, hb1, a, b, _, _, rfl, sa7, sb, oa, ob, hg, hk, hn, fun po H8 k8 so => ⟨⟨po, rfl⟩, ?_⟩⟩
    have k58 := k57.trans k8
    refine ⟨_, rfl, _, _, a.union b, log, rfl, so, union_ok oa ob hk hn, stbLog _ _ _ _ k58.tst0 hlog, lok.ok, fun pr H9 k9 h9 => ?_⟩
    rw [results_union oa ob hg hk hn (fun e he => (lok.2 e he).1)] at h9
    have bnd : ∀ z, some z ∈ List.zipWith (cmb a.g) (a.results log) (b.results log) → Small z := fun z hz => by
      obtain ⟨i, hi⟩ := List.getElem?_of_mem hz
      rw [List.getElem?_zipWith] at hi
      cases ga : (a.results log)[i]? with
      | none => rw [ga] at hi; cases hi
      | some r1 =>
        cases gb : (b.results log)[i]? with
        | none => rw [ga, gb] at hi; cases hi
        | some r2 =>
          rw [ga, gb] at hi
          have hi : cmb a.g r1 r2 = some z := Option.some.inj hi
          rcases cmb_mem hi with q1 | q1
          · have := results_bound a lok z (by rw [← q1]; exact List.mem_of_getElem? ga)
            exact small_of ⟨by omega, by omega⟩
          · have := results_bound b lokb z (by rw [← q1]; exact List.mem_of_getElem? gb)
            exact small_of ⟨by omega, by omega⟩
    have sh := sh_row bnd (by omega)
    have kA := k58.trans k9
    have hd9 := ((((k6.trans k7).trans k8).trans k9)) _ _ (by simp) hd5
    refine ⟨pr, _, 50000, rfl, .tup (SqT.of h9) (dp_opts _), sh, by decide, depth_row _, ?_⟩
    refine ⟨_, rfl, pd, _, 50000, rfl, .tup (SqT.of hd9) (dp_opts _), sh, by decide, depth_row _, ?_⟩
    refine ⟨rfl, ?_⟩
    show Q (.bl (decide (_ = _))) H9
    rw [decide_eq_true rfl]
    exact q _ kA
end
end TP
set_option Elab.async false
set_option linter.all false
set_option maxRecDepth 100000
set_option maxHeartbeats 4000000
/-! _law_told_right -/
namespace TP
open PySem PySem.Spec PyProof.Rows L2
theorem depth_all : ∀ rs : List (List (Option Int)), PyData.depthAll (rs.map dRow) ≤ 1
  | [] => by show 0 ≤ 1; decide
  | os :: rs => by
    have := depth_all rs
    show max (PyData.depthAll (os.map dOpt) + 1) (PyData.depthAll (rs.map dRow)) ≤ 1
    rw [depth_opts]
    omega
theorem depth_rows (rs : List (List (Option Int))) : (PyData.list (rs.map dRow)).depth ≤ 5 := by
  have := depth_all rs
  show PyData.depthAll (rs.map dRow) + 1 ≤ 5
  omega
def tCallOI (C : Addr) (sp : Sp) (E : XK) (tf : TE) (t : TA) : TE := fun σ H Q => tf σ H fun y H1 => ∃ a, y = V.ref a ∧ t σ H1 fun vs H2 => ((∃ dx vs, SlX.Slt H2 a C dx vs) ∨ ∃ dx fs, H2 a = some (.ins C dx fs)) ∧ sp (V.ref a :: vs) H2 Q E
theorem pe_callOI {X : Cx} {k : Nat} {C g : Addr} {sp : Sp} {fe e : Expr} {es : List Expr} {tf : TE} {t : TA} {pos : Pos} (hf : PE X fe tf) (c : StX.CallO X.K C g) (F : FnR X.prog X.w X.K X.mg X.base CX0 k g sp) (hr : Room k X.A) (ha : PA X (e :: es) t)
    (ht : eval (.Call fe (e :: es) [] pos) X.env = (do callWith pos (← eval fe X.env) [] (backTo pos (starEach (e :: es) X.env)) (backToKw pos (keywordEach [] X.env))) := by rfl)
    (he : starEach (e :: es) X.env = (false, eval e X.env) :: starEach es X.env := by rfl) (hpl : (backTo pos (starEach es X.env)).any (·.1) = false := by rfl) : PE X (.Call fe (e :: es) [] pos) (tCallOI C sp E0 tf t) :=
  StX.pe_callO (E := E0) hf c F hr pass0 ha ht he hpl
theorem sl_tkK {X : Cx} (K0 : PySem.W.Frag) (hK : X.K = K0) : SlR X (rSlTk K0) := by
  subst hK
  exact sl_tk
def spTold (K : PySem.W.Frag) : Sp := fun vs H Q _ => ∃ (st : Sta) (log : List Ev) (va vl : V), vs = [va, vl] ∧ RPlain K H st va ∧ st.Ok ∧ RLog K st.kinds H log vl ∧ EvB st.kinds.length log ∧ ∀ H', Kp [] H H' → Q (.bl true) H'
section
variable {P : Program} {w : World} {K : PySem.W.Frag} {mg : Str → Option Value} {base : Heap}
theorem g_told (T : Tl K mg) : CalG P w K mg base 9 "_law_told_right" (spTold K) := by
  refine calG_of T.toldRight scLawToldRight (fun vs H Q E h => ?_) (fun f cdv A outer s H vs Q E hgd hr h => ?_)
  · obtain ⟨_, _, _, _, rfl, _⟩ := h
    rfl
  · obtain ⟨st, log, va, vl, rfl, hpa, ok, hlog, lok, q⟩ := h
    have TX := T.tm.tk.tc.tx
    obtain ⟨fdc, FC, hbc⟩ := m_sCall (P := P) (w := w) (base := base) T.tm.tk.tc
    obtain ⟨fdt, FT, hbt⟩ := m_sTurned (P := P) (w := w) (base := base) T.tm.tk.tc
    have hu : (A.deeper (envOfC "_law_told_right" (defScope sLawToldRight) s.heap.objs.size f cdv)).units + 10 < cLine := by have := hr.un; omega
    refine ⟨_, pss_cons (ps_asg (pe_tup (pa_cons (pe_c (c_lawOf T) hr (pa_cons (pv 0) pa_nil)) (pa_cons (pe_c (c_lawAll T) hr (pa_cons (pv 0) (pa_cons (pv 1) pa_nil))) pa_nil))) (pg_tup rfl (pgs_cons (pg_name (i := 2) scLawToldRight.nd rfl (Or.inr rfl)) (pgs_cons (pg_name (i := 3) scLawToldRight.nd rfl (Or.inl rfl)) pgs_nil))))
      (pss_cons (ps_set (i := 4) scLawToldRight.nd rfl (Or.inl rfl) (pe_lst (pa_cons (pe_c (c_results T.tm.tk.tc) hr (pa_cons (pv 2) (pa_cons (pv 1) pa_nil))) (pa_cons (pe_resultsK T.tm.tk.tc hr (pk_cons (pv 1) (pk_cons (pv 2) pk_nil))) (pa_cons (pe_c (c_lawWalked T) hr (pa_cons (pv 2) (pa_cons (pv 1) pa_nil))) pa_nil)))))
      (pss_cons (ps_expr (pe_bm PySem.F.plainAttrs_list PySem.F.slot_list_append PySem.F.type_list_append mt_append (pv 4) (pa_cons (pe_callTy call_tuple_of rfl TX.f (by decide +kernel) (pa_cons (pe_lc (own := [("_law_k", 6)]) (g := gName 6) (tt := tYes) rfl scLawToldRight.nd (pi_range1 rfl TX.f (pa_cons (pe_op op_add (pe_callB call_len_seq rfl TX.f (by decide +kernel) (pa_cons (pv 1) pa_nil)) pe_int) pa_nil)) (blkOk_by (N := nLawToldRight) (sc := defScope sLawToldRight) (by decide +kernel))
          (fun _ _ _ _ _ => pg_name (i := 6) scLawToldRight.nd rfl (Or.inl rfl)) (fun _ _ _ _ _ => pts_nil) (fun _ _ _ _ _ => pe_callOI (pv 2) (T.tm.tk.tc.call st.g) (FC.raw hbc .nil) (hr.mono (by decide)) (pa_cons (pe_slice (sl_tkK K rfl) (pv 1) po_none (po_some (pv 6))) pa_nil))) pa_nil)) pa_nil)))
      (pss_cons (ps_if (pt_cmpR op_ne (pe_callB (call_reprD hgd hu) rfl TX.f (by decide +kernel) (pa_cons (pv 4) pa_nil)) (pe_callB (call_reprD hgd hu) rfl TX.f (by decide +kernel) (pa_cons (pe_op op_rep (pe_lst (pa_cons (pv 3) pa_nil)) pe_int) pa_nil)) (nomark _)) pss_never pss_nil)
      (pss_cons (ps_set (i := 5) scLawToldRight.nd rfl (Or.inl rfl) (pe_c (c_results T.tm.tk.tc) hr (pa_cons (pe_meth0 (pv 2) (T.tm.tk.tc.cls st.g) (T.tm.tk.tc.turned st.g) FT (hr.mono (by decide)) hbt .nil pass0) (pa_cons (pe_c (c_lawTimes T) hr (pa_cons (pv 1) (pa_cons (pe_un un_neg pe_int) pa_nil))) pa_nil))))
      (pss_one (ps_ret (pe_cmpR op_eq (pe_callB (call_reprD hgd hu) rfl TX.f (by decide +kernel) (pa_cons (pe_lst (pa_cons (pv 5) (pa_cons (pe_c (c_results T.tm.tk.tc) hr (pa_cons (pv 2) (pa_cons (pe_c (c_lawTimes T) hr (pa_cons (pv 1) (pa_cons (pe_op op_pow pe_int pe_int) pa_nil))) pa_nil))) pa_nil))) pa_nil))
        (pe_callB (call_reprD hgd hu) rfl TX.f (by decide +kernel) (pa_cons (pe_lst (pa_cons (pe_c (c_lawRaised T) hr (pa_cons (pv 3) (pa_cons (pe_un un_neg pe_int) pa_nil))) (pa_cons (pe_c (c_lawRaised T) hr (pa_cons (pv 3) (pa_cons (pe_op op_pow pe_int pe_int) pa_nil))) pa_nil))) pa_nil)) (nomark _)))))))), ?_⟩
    have la : (st.results log).length = log.length + 1 := results_length st log
    have hl20 := lok.1
    obtain ⟨al, its, rfl, hal, hits⟩ := id hlog
    have hll : its.length = log.length := (Paired.length hits).symm
    refine ⟨_, rfl, st, _, rfl, hpa, ok, fun pm H1 k1 sm => ?_⟩
    refine ⟨_, rfl, _, rfl, st, log, _, _, rfl, stbPlain _ _ _ _ k1.tst0 hpa, ok, stbLog _ _ _ _ k1.tst0 hlog, lok, fun pd H2 k2 hd => ?_⟩
    refine ⟨sz 2, fun pt hpt => ?_⟩
    have nt := Kp.new (M := []) (o := .tup [.ref pm, .ref pd]) hpt
    refine ⟨pt, _, rfl, SqT.of upd_same, rfl, _, _, rfl, _, _, rfl, rfl, ?_⟩
    have sm2 := stbSt _ _ _ _ (k2.trans nt).tst0 sm
    have hd2 := nt _ _ (by simp) hd
    have k3 := (k1.trans k2).trans nt
    generalize upd H2 pt (.tup [.ref pm, .ref pd]) = H3 at nt sm2 hd2 k3
    have hal3 := sqT_tst hal k3.tst0
    have hlog3 := stbLog _ _ _ _ k3.tst0 hlog
    -- told
    refine ⟨_, rfl, _, rfl, _, _, st, log, rfl, sm2, ok, hlog3, lok.ok, fun p1 H4 k4 h4 => ?_⟩
    refine ⟨_, rfl, _, rfl, rfl, rfl, _, _, st, log, rfl, stbSt _ _ _ _ k4.tst0 sm2, ok, stbLog _ _ _ _ k4.tst0 hlog3, lok.ok, fun p2 H5 k5 h5 => ?_⟩
    have k45 := k4.trans k5
    refine ⟨_, rfl, _, rfl, st, log, _, _, rfl, stbSt _ _ _ _ k45.tst0 sm2, ok, stbLog _ _ _ _ k45.tst0 hlog3, lok.ok, fun p3 H6 k6 h6 => ?_⟩
    refine ⟨sz 3, fun tl htl => ?_⟩
    have n7 := Kp.new (M := []) (o := .lst [.ref p1, .ref p2, .ref p3]) htl
    have htl7 := laid (Kp.refl (M := []) (H := upd H6 tl (.lst [.ref p1, .ref p2, .ref p3])))
    have g1 := (((k5.trans k6).trans n7)) _ _ (by simp) h4
    have g2 := ((k6.trans n7)) _ _ (by simp) h5
    have g3 := n7 _ _ (by simp) h6
    have k37 := (k45.trans k6).trans n7
    have k7 := k3.trans k37
    have sm7 := stbSt _ _ _ _ k37.tst0 sm2
    have hd7 := k37 _ _ (by simp) hd2
    have hal7 := sqT_tst hal3 k37.tst0
    have htH : H tl = none := (k3.trans (k45.trans k6)).fre htl
    generalize upd H6 tl (.lst [.ref p1, .ref p2, .ref p3]) = H7 at n7 htl7 g1 g2 g3 k37 k7 sm7 hd7 hal7
    refine ⟨_, rfl, .inl ⟨rfl, _, SqL.of htl7⟩, _, rfl, al, _, rfl, .inr hal7, _, _, rfl, rfl, _, rfl, by omega, by omega, fun D hD => lc_it walk_range (LS D [] H7 fun i acc _ => acc = ((st.results log).take i).map optV) (LS.start hD (fun _ _ _ _ _ h => h) rfl) (fun _ _ _ _ => trivial) (fun i x H8 H9 hi hp hy => ?_) fun H8 hp => ?_⟩
    · obtain ⟨acc, hA, hl2, k8, rfl⟩ := hp
      obtain ⟨rfl, hx⟩ := hy
      replace hx : x = V.int (0 + (i : Int)) := hx
      rw [Int.zero_add] at hx
      subst hx
      have hi1 : i ≤ log.length := by omega
      have sm9 := stbSt _ _ _ _ k8.tst0 sm7
      obtain ⟨a1, dx1, vk1, vs1, vr1, ve1, e1, ha1, _⟩ := id sm9
      cases e1
      refine ⟨rfl, tyes (iteT ?_)⟩
      refine ⟨_, rfl, pm, rfl, _, rfl, _, rfl, _, rfl, al, _, i, rfl, rfl, rfl, sqT_tst hal7 k8.tst0, fun b H10 k10 hb => ⟨.inr ⟨_, _, k10 _ _ (by simp) ha1⟩, ?_⟩⟩
      refine ⟨st, log.take i, _, _, rfl, stbSt _ _ _ _ k10.tst0 sm9, ok, ⟨b, _, rfl, hb, paired_take i (paired_map (fun e v => stbEv _ _ e v ((k7.trans k8).trans k10).tst0) hits)⟩, ⟨by rw [List.length_take]; omega, fun e he => lok.ok.2 e (List.mem_of_mem_take he)⟩, fun H11 k11 => ?_⟩
      refine LS.put hD (by simp) (fun _ _ _ _ _ h => h) (by omega) hl2 ((k10.trans k11) _ _ (by simp) hA) (k8.trans (k10.trans k11)) ?_
      rw [take_succ_of (res_get st hi1), List.map_append]
      rfl
    obtain ⟨acc, hA, _, k8, rfl⟩ := hp
    have eN : (((its.length : Nat) : Int) + 1).toNat = log.length + 1 := by omega
    rw [eN, ← la, List.take_length] at hA
    refine ⟨D, _, rfl, .inl ⟨SqL.of hA, fun p4 hp4 => ?_⟩⟩
    have n9 := Kp.new (M := []) (o := .tup ((st.results log).map optV)) hp4
    have h9 := laid (Kp.refl (M := []) (H := upd H8 p4 (.tup ((st.results log).map optV))))
    have k9 := k8.trans n9
    have htl9 := k9 _ _ (by simp) htl7
    generalize upd H8 p4 (.tup ((st.results log).map optV)) = H9 at n9 h9 k9 htl9
    refine ⟨tl, _, _, rfl, rfl, htl9, small1000 (by show 3 ≤ 1000; decide), ?_⟩
    have kT := k7.trans k9
    have nput : Tst H9 (upd H9 tl (.lst ([.ref p1, .ref p2, .ref p3] ++ [.ref p4]))) := .put htl9
    have kU : Kp [] H (upd H9 tl (.lst ([.ref p1, .ref p2, .ref p3] ++ [.ref p4]))) := kT.putN htH
    have tt : ∀ p, H9 p = some (.tup ((st.results log).map optV)) → upd H9 tl (.lst ([.ref p1, .ref p2, .ref p3] ++ [.ref p4])) p = some (.tup ((st.results log).map optV)) := fun p hp => nput _ _ rfl hp
    have r1 := tt _ (k9 _ _ (by simp) g1)
    have r2 := tt _ (k9 _ _ (by simp) g2)
    have r3 := tt _ (k9 _ _ (by simp) g3)
    have r4 := tt _ h9
    have rd := tt _ (k9 _ _ (by simp) hd7)
    have smU := stbSt _ _ _ _ (k9.tst0.trans nput) sm7
    have htlU : upd H9 tl (.lst ([.ref p1, .ref p2, .ref p3] ++ [.ref p4])) tl = some (.lst [.ref p1, .ref p2, .ref p3, .ref p4]) := upd_same
    generalize upd H9 tl (.lst ([.ref p1, .ref p2, .ref p3] ++ [.ref p4])) = HU at kU r1 r2 r3 r4 rd smU htlU
    clear n9 h9 k9 htl9 kT nput tt
    have smallB : ∀ z, some z ∈ st.results log → Small z := fun z hz => by
      have := results_bound st lok z hz
      exact small_of ⟨by omega, by omega⟩
    have sh4 := sh_rows (rs := [st.results log, st.results log, st.results log, st.results log]) (fun os hos => by
      have e : os = st.results log := by simpa using hos
      rw [e]
      exact ⟨smallB, by omega⟩) (by show 4 ≤ 4; decide)
    refine ⟨_, rfl, tl, _, 300000, rfl, .lst (SqL.of htlU) (.cons (.tup (SqT.of r1) (dp_opts _)) (.cons (.tup (SqT.of r2) (dp_opts _)) (.cons (.tup (SqT.of r3) (dp_opts _)) (.cons (.tup (SqT.of r4) (dp_opts _)) .nil)))), sh4, by decide, ?_, ?_⟩
    · exact depth_rows [st.results log, st.results log, st.results log, st.results log]
    refine ⟨_, rfl, sz 1, fun pl hpl => ?_⟩
    refine ⟨pl, 4, _, rfl, rfl, upd_same, by decide, by decide, by show 1 * 4 ≤ sizeLine; exact sz 4, fun pr hpr => ?_⟩
    have nl := Kp.new (M := []) (o := .lst [.ref pd]) hpl
    have npr := Kp.new (M := []) (o := .lst (List.replicate (Int.toNat 4) [V.ref pd]).flatten) hpr
    have rdd := npr _ _ (by simp) (nl _ _ (by simp) rd)
    have hpr2 := laid (Kp.refl (M := []) (H := upd (upd HU pl (.lst [.ref pd])) pr (.lst (List.replicate (Int.toNat 4) [V.ref pd]).flatten)))
    have kV := (kU.trans nl).trans npr
    have smV := stbSt _ _ _ _ (nl.trans npr).tst0 smU
    generalize upd (upd HU pl (.lst [.ref pd])) pr (.lst (List.replicate (Int.toNat 4) [V.ref pd]).flatten) = HV at npr rdd hpr2 kV smV
    refine ⟨pr, _, 300000, rfl, .lst (SqL.of hpr2) (.cons (.tup (SqT.of rdd) (dp_opts _)) (.cons (.tup (SqT.of rdd) (dp_opts _)) (.cons (.tup (SqT.of rdd) (dp_opts _)) (.cons (.tup (SqT.of rdd) (dp_opts _)) .nil)))), sh4, by decide, depth_rows [st.results log, st.results log, st.results log, st.results log], ?_⟩
    refine ⟨rfl, false, ?_, iteF ?_⟩
    · rw [decide_eq_true rfl]
      rfl
    have hlogV := stbLog _ _ _ _ kV.tst0 hlog
    obtain ⟨a1, dx1, vk1, vs1, vr1, ve1, e1, ha1, _⟩ := id smV
    cases e1
    have mulOk : ∀ (c : Int), (∀ x : Int, -30 ≤ x → x ≤ 30 → AmtOk (c * x)) → LogOk st.kinds (evMul c log) := fun c hc => by
      refine ⟨by unfold evMul; rw [List.length_map]; omega, fun e he => ?_⟩
      obtain ⟨e0, he0, rfl⟩ := List.mem_map.mp he
      obtain ⟨q1, q2, q3⟩ := lok.2 e0 he0
      exact ⟨q1, hc _ q2 q3⟩
    have bnd63 : ∀ z, some z ∈ st.results log → -(2 ^ 63) < z ∧ z < 2 ^ 63 := fun z hz => by
      have := results_bound st lok z hz
      omega
    refine ⟨_, rfl, pm, _, _, rfl, ha1, lk_not, st, _, rfl, smV, ok, fun pT H11 k11 sT => ?_⟩
    refine ⟨_, rfl, _, rfl, st.kinds, log, -1, _, rfl, stbLog _ _ _ _ k11.tst0 hlogV, lok, fun vM H12 k12 hM => ?_⟩
    refine ⟨_, _, st.turned, evMul (-1) log, rfl, stbSt _ _ _ _ k12.tst0 sT, turned_ok ok, hM, mulOk (-1) (fun x h1 h2 => by unfold AmtOk; omega), fun pM H13 k13 h13 => ?_⟩
    rw [results_turned] at h13
    have k1V := (k11.trans k12).trans k13
    have smW := stbSt _ _ _ _ k1V.tst0 smV
    have hlogW := stbLog _ _ _ _ k1V.tst0 hlogV
    have rdW := k1V _ _ (by simp) rdd
    have kW := kV.trans k1V
    -- return
    refine ⟨_, rfl, _, rfl, _, rfl, 10, 20, rfl, rfl, ⟨by decide, by decide, by decide⟩, ?_⟩
    refine ⟨st.kinds, log, 10 ^ 20, _, rfl, hlogW, lok, fun vB H14 k14 hB => ?_⟩
    refine ⟨_, _, st, evMul (10 ^ 20) log, rfl, stbSt _ _ _ _ k14.tst0 smW, ok, hB, mulOk (10 ^ 20) (fun x h1 h2 => by unfold AmtOk; omega), fun pB H15 k15 h15 => ?_⟩
    rw [results_mul st (by decide)] at h15
    have bigB : ∀ z, some z ∈ (st.results log).map (onO fun z => 10 ^ 20 * z) → Small z := fun z hz => by
      obtain ⟨o, ho, e⟩ := List.mem_map.mp hz
      cases o with
      | none => cases e
      | some x =>
        have e : 10 ^ 20 * x = z := Option.some.inj e
        have := results_bound st lok x ho
        exact small_of ⟨by omega, by omega⟩
    have negB : ∀ z, some z ∈ (st.results log).map (onO fun z => -1 * z) → Small z := fun z hz => by
      obtain ⟨o, ho, e⟩ := List.mem_map.mp hz
      cases o with
      | none => cases e
      | some x =>
        have e : -1 * x = z := Option.some.inj e
        have := results_bound st lok x ho
        exact small_of ⟨by omega, by omega⟩
    have l1 : ((st.results log).map (onO fun z => -1 * z)).length ≤ 21 := by rw [List.length_map]; omega
    have l2 : ((st.results log).map (onO fun z => 10 ^ 20 * z)).length ≤ 21 := by rw [List.length_map]; omega
    generalize eN2 : (st.results log).map (onO fun z => -1 * z) = rN at h13 negB l1
    generalize eB2 : (st.results log).map (onO fun z => 10 ^ 20 * z) = rB at h15 bigB l2
    have sh2 := sh_rows (rs := [rN, rB]) (fun os hos => by
      rcases List.mem_cons.mp hos with rfl | hos
      · exact ⟨negB, l1⟩
      · rw [List.mem_singleton.mp hos]
        exact ⟨bigB, l2⟩) (by show 2 ≤ 4; decide)
    refine ⟨sz 2, fun pl2 hpl2 => ?_⟩
    have nl2 := Kp.new (M := []) (o := .lst [.ref pM, .ref pB]) hpl2
    have hl16 := laid (Kp.refl (M := []) (H := upd H15 pl2 (.lst [.ref pM, .ref pB])))
    have k16 := (k14.trans k15).trans nl2
    have gM := k16 _ _ (by simp) h13
    have gB := nl2 _ _ (by simp) h15
    have gd := k16 _ _ (by simp) rdW
    generalize upd H15 pl2 (.lst [.ref pM, .ref pB]) = H16 at nl2 hl16 k16 gM gB gd
    refine ⟨pl2, _, 300000, rfl, .lst (SqL.of hl16) (.cons (.tup (SqT.of gM) (dp_opts _)) (.cons (.tup (SqT.of gB) (dp_opts _)) .nil)), sh2, by decide, depth_rows [rN, rB], ?_⟩
    refine ⟨_, rfl, _, rfl, _, _, -1, rfl, SqT.of gd, by omega, bnd63, fun q1 H17 k17 h17 => ?_⟩
    refine ⟨_, rfl, 10, 20, rfl, rfl, ⟨by decide, by decide, by decide⟩, _, _, 10 ^ 20, rfl, SqT.of (k17 _ _ (by simp) gd), by omega, bnd63, fun q2 H18 k18 h18 => ?_⟩
    rw [eN2] at h17
    rw [eB2] at h18
    refine ⟨sz 2, fun pl3 hpl3 => ?_⟩
    have nl3 := Kp.new (M := []) (o := .lst [.ref q1, .ref q2]) hpl3
    have hl19 := laid (Kp.refl (M := []) (H := upd H18 pl3 (.lst [.ref q1, .ref q2])))
    have i1 := (k18.trans nl3) _ _ (by simp) h17
    have i2 := nl3 _ _ (by simp) h18
    have kZ := ((((kW.trans k16).trans k17).trans k18).trans nl3)
    generalize upd H18 pl3 (.lst [.ref q1, .ref q2]) = H19 at nl3 hl19 i1 i2 kZ
    refine ⟨pl3, _, 300000, rfl, .lst (SqL.of hl19) (.cons (.tup (SqT.of i1) (dp_opts _)) (.cons (.tup (SqT.of i2) (dp_opts _)) .nil)), sh2, by decide, depth_rows [rN, rB], ?_⟩
    refine ⟨rfl, ?_⟩
    show Q (.bl (decide (_ = _))) H19
    rw [decide_eq_true rfl]
    exact q _ kZ
end
end TP
set_option Elab.async false
set_option linter.all false
set_option maxRecDepth 100000
set_option maxHeartbeats 4000000
/-! _law_right -/
namespace TP
open PySem PySem.Spec PyProof.Rows L2
def spRight : Sp := fun vs H Q _ => ∃ l : Addr, vs = [.ref l] ∧ Pool H l ∧ ∀ H', Kp [l] H H' → Q (.bl true) H'
/-- the mate: the parts of one under the side and the kinds of another -/
def Sta.mate (a b : Sta) : Sta := { b with g := a.g, kinds := a.kinds }
theorem mate_ok {a b : Sta} (oa : a.Ok) (ob : b.Ok) (h : a.kinds.length = b.kinds.length) : (a.mate b).Ok := ⟨oa.kinds, ob.start, by show RulesOk a.kinds.length _ _; rw [h]; exact ob.rules, ob.ends⟩
def six (v0 : V) (a b c d e f : Option V) : L2.St := [some v0, a, b, c, d, e, f]
section
variable {P : Program} {w : World} {K : PySem.W.Frag} {mg : Str → Option Value} {base : Heap}
theorem g_right (T : Tl K mg) : CalG P w K mg base 10 "_law_right" spRight := by
  refine calG_of T.right scLawRight (fun vs H Q E h => ?_) (fun f cdv A outer s H vs Q E hgd hr h => ?_)
  · obtain ⟨_, rfl, _⟩ := h
    rfl
  · obtain ⟨l, rfl, hp, q⟩ := h
    have TX := T.tm.tk.tc.tx
    refine ⟨_, pss_cons (ps_for PassesOwn.never rfl (pi_range1 rfl TX.f (pa_cons pe_int pa_nil)) (pg_name (i := 1) scLawRight.nd rfl (Or.inl rfl))
        (pss_cons (ps_set (i := 2) scLawRight.nd rfl (Or.inl rfl) (pe_op op_add pe_int (pe_c (c_lawDraw T) hr (pa_cons (pv 0) (pa_cons pe_int pa_nil)))))
        (pss_cons (ps_set (i := 3) scLawRight.nd rfl (Or.inl rfl) (pe_c (c_lawPlain T) hr (pa_cons (pv 0) (pa_cons (pv 2) (pa_cons (pe_op op_add pe_int (pe_c (c_lawDraw T) hr (pa_cons (pv 0) (pa_cons pe_int pa_nil)))) pa_nil)))))
        (pss_cons (ps_set (i := 4) scLawRight.nd rfl (Or.inl rfl) (pe_op op_catA (pe_slice sl_tk (pv 3) po_none (po_some pe_int)) (pe_slice sl_dr (pe_c (c_lawPlain T) hr (pa_cons (pv 0) (pa_cons (pv 2) (pa_cons (pe_op op_add pe_int (pe_c (c_lawDraw T) hr (pa_cons (pv 0) (pa_cons pe_int pa_nil)))) pa_nil)))) (po_some pe_int) po_none)))
        (pss_cons (ps_set (i := 5) scLawRight.nd rfl (Or.inl rfl) (pe_c (c_lawEvents T) hr (pa_cons (pv 0) (pa_cons (pv 3) (pa_cons (pe_c (c_lawDraw T) hr (pa_cons (pv 0) (pa_cons pe_int pa_nil))) (pa_cons (pe_ixr ix_list (pe_lst (pa_cons pe_int (pa_cons pe_int pa_nil))) (pe_c (c_lawDraw T) hr (pa_cons (pv 0) (pa_cons pe_int pa_nil)))) pa_nil))))))
        (pss_one (ps_for PassesOwn.never rfl (pi_list (pe_lst (pa_cons (pv 5) (pa_cons (pe_tup pa_nil) pa_nil)))) (pg_name (i := 6) scLawRight.nd rfl (Or.inl rfl))
          (pss_one (ps_if (PW.pt (pw_or (pt_not (pt_val (pe_cg (g_told T) hgd hr (pa_cons (pv 3) (pa_cons (pv 6) pa_nil))))) (pw_or1 (pt_not (pt_val (pe_cg (g_both T) hgd hr (pa_cons (pv 3) (pa_cons (pv 4) (pa_cons (pv 6) pa_nil)))))))))  pss_never pss_nil)))))))))
      (pss_one (ps_ret pe_bl)), ?_⟩
    refine ⟨2, rfl, by decide, by decide, for_it walk_range (fun i σ' H' => Kp [l] H H' ∧ Pool H' l ∧ ∃ a b c d e g, σ' = six (.ref l) a b c d e g) ⟨.refl, hp, none, none, none, none, none, none, rfl⟩ (fun _ _ _ _ _ => trivial) (fun i x σ' H1 H2 hi hP hy => ?_) fun σ' H1 hP => ?_⟩
    · obtain ⟨k1, hp1, a0, b0, c0, d0, e0, g0, rfl⟩ := hP
      obtain ⟨rfl, hx⟩ := hy
      refine ⟨_, rfl, l, 3, rfl, hp1, by decide, by decide, fun r1 H3 k3 hp3 r10 r13 => ⟨_, _, rfl, rfl, ?_⟩⟩
      obtain ⟨m, rfl⟩ : ∃ m : Nat, r1 = (m : Int) := ⟨r1.toNat, by omega⟩
      have hm : m < 3 := by omega
      -- the plain form
      refine ⟨_, rfl, _, rfl, _, rfl, l, 3, rfl, hp3, by decide, by decide, fun r2 H4 k4 hp4 r20 r23 => ⟨_, _, rfl, rfl, ?_⟩⟩
      obtain ⟨n, rfl⟩ : ∃ n : Nat, r2 = (n : Int) := ⟨r2.toNat, by omega⟩
      have hn : n < 3 := by omega
      refine ⟨l, 1 + m, 1 + n, rfl, hp4, ⟨by omega, by omega⟩, ⟨by omega, by omega⟩, fun a va H5 k5 hp5 ha oa la na => ?_⟩
      -- the mate
      obtain ⟨pa, vk, vs, vr, ve, rfl, hpa, psa, hdn⟩ := id ha
      refine ⟨_, rfl, _, rfl, pa, _, 2, rfl, rfl, rfl, hpa, fun b1 H6 k6 hb1 => ?_⟩
      have hp6 := hp5.kp k6 (by simp)
      refine ⟨_, rfl, _, rfl, _, rfl, l, 3, rfl, hp6, by decide, by decide, fun r3 H7 k7 hp7 r30 r33 => ⟨_, _, rfl, rfl, ?_⟩⟩
      obtain ⟨n2, rfl⟩ : ∃ n2 : Nat, r3 = (n2 : Int) := ⟨r3.toNat, by omega⟩
      have hn2 : n2 < 3 := by omega
      refine ⟨l, 1 + m, 1 + n2, rfl, hp7, ⟨by omega, by omega⟩, ⟨by omega, by omega⟩, fun b vb H8 k8 hp8 hb ob lb nb => ?_⟩
      obtain ⟨pb, wk, ws, wr, we, rfl, hpb, psb, hdn2⟩ := id hb
      refine ⟨_, rfl, pb, _, 2, rfl, rfl, rfl, hpb, fun b2 H9 k9 hb2 => ?_⟩
      have hp9 := hp8.kp k9 (by simp)
      have t69 := ((hp6.tst k7).trans (hp7.tst k8)).trans k9.tst0
      have hb19 := sqT_tst hb1 t69
      refine ⟨b1, b2, _, _, rfl, rfl, hb19, hb2, sz 5, nofun, nofun, fun _ _ pm hpm => ?_⟩
      have nm := Kp.new (M := []) (o := .tup [.str (sideS a.g), vk, ws, wr, we]) hpm
      have hmt : SqT K (upd H9 pm (.tup [.str (sideS a.g), vk, ws, wr, we])) pm [.str (sideS a.g), vk, ws, wr, we] := SqT.of upd_same
      have tA : Tst H5 (upd H9 pm (.tup [.str (sideS a.g), vk, ws, wr, we])) := (k6.tst0.trans t69).trans nm.tst0
      have tB : Tst H8 (upd H9 pm (.tup [.str (sideS a.g), vk, ws, wr, we])) := (k9.trans nm).tst0
      have k5m : Kp [l] H5 (upd H9 pm (.tup [.str (sideS a.g), vk, ws, wr, we])) := (((k6.up.trans k7).trans k8).trans k9.up).trans nm.up
      have hpA := hp9.kp nm (by simp)
      show gName 4 (.ref pm) _ (upd H9 pm (.tup [.str (sideS a.g), vk, ws, wr, we])) _
      generalize upd H9 pm (.tup [.str (sideS a.g), vk, ws, wr, we]) = HA at hmt tA tB k5m hpA
      have hAa := stbPlain _ _ _ _ tA ha
      have psA := psa.stb tA
      have psB := psb.stb tB
      have hAb : RPlain K HA (a.mate b) (.ref pm) := ⟨pm, vk, ws, wr, we, rfl, hmt, ⟨psA.k, psB.s, psB.r, psB.e⟩, hdn.tst tA⟩
      have okm : (a.mate b).Ok := mate_ok oa ob (by rw [la, lb])
      -- the events
      refine ⟨_, rfl, _, rfl, _, rfl, l, 21, rfl, hpA, by decide, by decide, fun r4 HB kB hpB r40 r421 => ?_⟩
      obtain ⟨ne, rfl⟩ : ∃ ne : Nat, r4 = (ne : Int) := ⟨r4.toNat, by omega⟩
      refine ⟨sz 2, fun pl hpl => ?_⟩
      have nl := Kp.new (M := []) (o := .lst [.int 2, .int 30]) hpl
      have hll := laid (Kp.refl (M := []) (H := upd HB pl (.lst [.int 2, .int 30])))
      have hpC := hpB.kp nl (by simp)
      have hne : pl ≠ l := fun e => by
        obtain ⟨z1, z2, z3, z4⟩ := hpB
        rw [e, z4] at hpl
        cases hpl
      generalize upd HB pl (.lst [.int 2, .int 30]) = HC at nl hll hpC
      refine ⟨_, rfl, l, 2, rfl, hpC, by decide, by decide, fun r5 HD kD hpD r50 r52 => ?_⟩
      have hl2 := kD _ _ (by simpa using hne) hll
      obtain ⟨wd, hwd, hw0, hw30⟩ : ∃ wd : Int, atI [V.int 2, V.int 30] r5 = some (.int wd) ∧ 0 ≤ wd ∧ wd ≤ 30 := by
        have : r5 = 0 ∨ r5 = 1 := by omega
        rcases this with rfl | rfl
        · exact ⟨2, rfl, by decide, by decide⟩
        · exact ⟨30, rfl, by decide, by decide⟩
      refine ⟨pl, _, r5, .int wd, rfl, rfl, SqL.of hl2, hwd, ?_⟩
      have tAD : Tst HA HD := ((hpA.tst kB).trans nl.tst0).trans (hpC.tst kD)
      have hDa := stbPlain _ _ _ _ tAD hAa
      refine ⟨l, a, .ref pa, ne, wd, rfl, hpD, hDa, oa, by omega, ⟨hw0, hw30⟩, fun log vlog HE kE hpE hlog lok => ?_⟩
      have tAE := tAD.trans (hpD.tst kE)
      have hEa := stbPlain _ _ _ _ tAE hAa
      have hEb := stbPlain _ _ _ _ tAE hAb
      have kHE : Kp [l] H HE := ((((((k1.trans k3).trans k4).trans k5).trans k5m).trans kB).trans nl.up).trans (kD.trans kE)
      -- both logs
      refine ⟨_, rfl, sz 0, fun pe hpe => ?_⟩
      have n1 := Kp.new (M := []) (o := .tup []) hpe
      refine ⟨sz 2, fun pq hpq => ?_⟩
      have n2k := Kp.new (M := []) (o := .lst [vlog, .ref pe]) hpq
      have hpe2 := n2k _ _ (by simp) (laid (Kp.refl (M := []) (H := upd HE pe (.tup []))))
      have hpq2 := laid (Kp.refl (M := []) (H := upd (upd HE pe (.tup [])) pq (.lst [vlog, .ref pe])))
      have kF : Kp [] HE (upd (upd HE pe (.tup [])) pq (.lst [vlog, .ref pe])) := n1.trans n2k
      have hpF := hpE.kp kF (by simp)
      generalize upd (upd HE pe (.tup [])) pq (.lst [vlog, .ref pe]) = HF at n2k hpe2 hpq2 kF hpF
      have hFa := stbPlain _ _ _ _ kF.tst0 hEa
      have hFb := stbPlain _ _ _ _ kF.tst0 hEb
      have hFl := stbLog _ _ _ _ kF.tst0 hlog
      refine ⟨pq, rfl, ⟨_, SqL.of hpq2⟩, for_list (xs := [vlog, .ref pe]) (fun i σ' H' => Kp [] HF H' ∧ ∃ c, σ' = six (.ref l) (some x) (some (.int ((1 + m : Nat) : Int))) (some (.ref pa)) (some (.ref pm)) (some vlog) c)
        ⟨.refl, _, rfl⟩ (fun i σ' H' _ hh => SqL.of (hh.1 _ _ (by simp) hpq2)) (fun i y σ' HG hy hp => ?_) fun σ' HG hp => ?_⟩
      · obtain ⟨kG, c, rfl⟩ := hp
        obtain ⟨lg, hlg, lgk⟩ : ∃ lg, RLog K a.kinds HG lg y ∧ EvB a.kinds.length lg := by
          have hc : y = vlog ∨ y = .ref pe := by
            match i, hy with
            | 0, hy => exact .inl (Option.some.inj hy).symm
            | 1, hy => exact .inr (Option.some.inj hy).symm
          rcases hc with rfl | rfl
          · exact ⟨log, stbLog _ _ _ _ kG.tst0 hFl, lok⟩
          · exact ⟨[], ⟨pe, [], rfl, SqT.of (kG _ _ (by simp) hpe2), .nil⟩, ⟨by decide, fun _ hz => by cases hz⟩⟩
        have hGa := stbPlain _ _ _ _ kG.tst0 hFa
        have hGb := stbPlain _ _ _ _ kG.tst0 hFb
        refine ⟨_, rfl, _, rfl, a, lg, _, _, rfl, hGa, oa, hlg, lgk, fun HJ kJ => ⟨true, rfl, iteF ?_⟩⟩
        refine ⟨_, rfl, _, rfl, _, rfl, a, a.mate b, lg, _, _, _, rfl, stbPlain _ _ _ _ kJ.tst0 hGa, stbPlain _ _ _ _ kJ.tst0 hGb, oa, okm, rfl, rfl, ?_, stbLog _ _ _ _ kJ.tst0 hlg, lgk, fun HK kK => ⟨true, rfl, iteF ?_⟩⟩
        · show b.start.length + a.start.length ≤ 6
          omega
        exact ⟨(kG.trans kJ).trans kK, _, rfl⟩
      · obtain ⟨kG, c, rfl⟩ := hp
        exact ⟨kHE.trans (kF.trans kG).up, hpF.kp kG (by simp), _, _, _, _, _, _, rfl⟩
    · obtain ⟨k1, hp1, a0, b0, c0, d0, e0, g0, rfl⟩ := hP
      exact q _ k1
end
end TP
set_option Elab.async false
set_option linter.all false
set_option maxRecDepth 100000
set_option maxHeartbeats 4000000
/-! _law_by_hand -/
namespace TP
open PySem PySem.Spec PyProof.Rows L2
def spByHand : Sp := fun vs H Q _ => vs = [] ∧ ∀ H', Kp [] H H' → Q (.bl true) H'
def hLog : List Ev := [(0, 2), (0, -3), (0, 4)]
def hA : List (Option Int) := [none, some 2, some 2, some 4]
def hB : List (Option Int) := [none, some 2, some (-3), some (-3)]
def hC : List (Option Int) := [none, some 2, some (-3), some 4]
def hD : List (Option Int) := [some 0, some 0, some (-1), some (-1)]
theorem eA : (stBestRun true "a").results hLog = hA := by decide +kernel
theorem eB : (stBestRun false "a").results hLog = hB := by decide +kernel
theorem eC : (stLast true "a").results hLog = hC := by decide +kernel
theorem eD : (stPeak false "a").results hLog = hD := by decide +kernel
theorem kn_a : KN "a" := ⟨by decide +kernel, by decide +kernel, by decide +kernel⟩
theorem lok_h : LogOk ["a"] hLog := ⟨by decide, fun e he => by
  have : e = (0, 2) ∨ e = (0, -3) ∨ e = (0, 4) := by simpa [hLog] using he
  rcases this with rfl | rfl | rfl <;> exact ⟨by decide, by unfold AmtOk; decide⟩⟩
theorem kin1 {K : PySem.W.Frag} {H : Hp} {p : Addr} (h : H p = some (.tup [.str "a"])) : RKinds K H ["a"] (.ref p) := tupP1 h (.cons rfl .nil)
section
variable {P : Program} {w : World} {K : PySem.W.Frag} {mg : Str → Option Value} {base : Heap}
theorem c_byHand (T : Tl K mg) : Cal P w K mg base 9 "_law_by_hand" spByHand := by
  refine calOf T.byHand scLawByHand (fun vs H Q E h => ?_) (fun f cdv A outer s H vs Q E hr h => ?_)
  · obtain ⟨rfl, _⟩ := h
    rfl
  · obtain ⟨rfl, q⟩ := h
    have TX := T.tm.tk.tc.tx
    have cG : GV mg "Greatest" (.ref (T.tm.tk.tc.C true)) := ⟨_, T.tm.tk.tc.mgC true, rfl⟩
    have cL : GV mg "Least" (.ref (T.tm.tk.tc.C false)) := ⟨_, T.tm.tk.tc.mgC false, rfl⟩
    obtain ⟨f1, F1, b1⟩ := m_sBestRun (P := P) (w := w) (base := base) T.tm
    obtain ⟨f2, F2, b2⟩ := m_sLast (P := P) (w := w) (base := base) T.tm
    obtain ⟨f3, F3, b3⟩ := m_sPeak (P := P) (w := w) (base := base) T.tm
    refine ⟨_, pss_cons (ps_set (i := 0) scLawByHand.nd rfl (Or.inl rfl) (pe_tup (pa_cons (pe_tup (pa_cons pe_str (pa_cons pe_int pa_nil))) (pa_cons (pe_tup (pa_cons pe_str (pa_cons (pe_un un_neg pe_int) pa_nil))) (pa_cons (pe_tup (pa_cons pe_str (pa_cons pe_int pa_nil))) pa_nil)))))
      (pss_cons (ps_set (i := 1) scLawByHand.nd rfl (Or.inl rfl) (pe_lst (pa_cons
          (pe_c (c_results T.tm.tk.tc) hr (pa_cons (ClX.pe_cmeth (E := E0) (pe_gv cG) (T.tm.rd true) (T.tm.bestRun true) (F1.raw b1 .nil) (hr.mono (by decide)) pass0 (pa_cons (pe_tup (pa_cons pe_str pa_nil)) pa_nil)) (pa_cons (pv 0) pa_nil))) (pa_cons
          (pe_c (c_results T.tm.tk.tc) hr (pa_cons (ClX.pe_cmeth (E := E0) (pe_gv cL) (T.tm.rd false) (T.tm.bestRun false) (F1.raw b1 .nil) (hr.mono (by decide)) pass0 (pa_cons (pe_tup (pa_cons pe_str pa_nil)) pa_nil)) (pa_cons (pv 0) pa_nil))) pa_nil))))
      (pss_cons (ps_if (pt_cmpR (op_neD hr.units) (pv 1) (pe_lst (pa_cons (pe_tup (pa_cons pe_non (pa_cons pe_int (pa_cons pe_int (pa_cons pe_int pa_nil))))) (pa_cons (pe_tup (pa_cons pe_non (pa_cons pe_int (pa_cons (pe_un un_neg pe_int) (pa_cons (pe_un un_neg pe_int) pa_nil))))) pa_nil))) (nomark _)) pss_never pss_nil)
      (pss_cons (ps_set (i := 1) scLawByHand.nd rfl (Or.inl rfl) (pe_lst (pa_cons
          (pe_c (c_results T.tm.tk.tc) hr (pa_cons (ClX.pe_cmeth (E := E0) (pe_gv cG) (T.tm.rd true) (T.tm.last true) (F2.raw b2 .nil) (hr.mono (by decide)) pass0 (pa_cons (pe_tup (pa_cons pe_str pa_nil)) pa_nil)) (pa_cons (pv 0) pa_nil))) (pa_cons
          (pe_c (c_results T.tm.tk.tc) hr (pa_cons (ClX.pe_cmeth (E := E0) (pe_gv cL) (T.tm.rd false) (T.tm.peak false) (F3.raw b3 .nil) (hr.mono (by decide)) pass0 (pa_cons (pe_tup (pa_cons pe_str pa_nil)) pa_nil)) (pa_cons (pv 0) pa_nil))) pa_nil))))
      (pss_one (ps_ret (pe_cmpR (op_eqD hr.units) (pv 1) (pe_lst (pa_cons (pe_tup (pa_cons pe_non (pa_cons pe_int (pa_cons (pe_un un_neg pe_int) (pa_cons pe_int pa_nil))))) (pa_cons (pe_tup (pa_cons pe_int (pa_cons pe_int (pa_cons (pe_un un_neg pe_int) (pa_cons (pe_un un_neg pe_int) pa_nil))))) pa_nil))) (nomark _))))))), ?_⟩
    -- the log
    refine ⟨sz 2, fun p1 hp1 => ⟨_, rfl, sz 2, fun p2 hp2 => ⟨sz 2, fun p3 hp3 => ⟨sz 3, fun pl hpl => ?_⟩⟩⟩⟩
    have n1 := Kp.new (M := []) (o := .tup [.str "a", .int 2]) hp1
    have n2 := Kp.new (M := []) (o := .tup [.str "a", .int (-3)]) hp2
    have n3 := Kp.new (M := []) (o := .tup [.str "a", .int 4]) hp3
    have n4 := Kp.new (M := []) (o := .tup [.ref p1, .ref p2, .ref p3]) hpl
    have e1 := (n2.trans (n3.trans n4)) _ _ (by simp) (laid (Kp.refl (M := []) (H := upd H p1 (.tup [.str "a", .int 2]))))
    have e2 := (n3.trans n4) _ _ (by simp) (laid (Kp.refl (M := []) (H := upd (upd H p1 (.tup [.str "a", .int 2])) p2 (.tup [.str "a", .int (-3)]))))
    have e3 := n4 _ _ (by simp) (laid (Kp.refl (M := []) (H := upd (upd (upd H p1 (.tup [.str "a", .int 2])) p2 (.tup [.str "a", .int (-3)])) p3 (.tup [.str "a", .int 4]))))
    have e4 := laid (Kp.refl (M := []) (H := upd (upd (upd (upd H p1 (.tup [.str "a", .int 2])) p2 (.tup [.str "a", .int (-3)])) p3 (.tup [.str "a", .int 4])) pl (.tup [.ref p1, .ref p2, .ref p3])))
    have k4 := n1.trans (n2.trans (n3.trans n4))
    show gName 0 (.ref pl) _ (upd (upd (upd (upd H p1 (.tup [.str "a", .int 2])) p2 (.tup [.str "a", .int (-3)])) p3 (.tup [.str "a", .int 4])) pl (.tup [.ref p1, .ref p2, .ref p3])) _
    generalize upd (upd (upd (upd H p1 (.tup [.str "a", .int 2])) p2 (.tup [.str "a", .int (-3)])) p3 (.tup [.str "a", .int 4])) pl (.tup [.ref p1, .ref p2, .ref p3]) = H4 at e1 e2 e3 e4 k4
    have hlog : RLog K ["a"] H4 hLog (.ref pl) := ⟨pl, _, rfl, SqT.of e4, .cons ⟨p1, rfl, SqT.of e1⟩ (.cons ⟨p2, rfl, SqT.of e2⟩ (.cons ⟨p3, rfl, SqT.of e3⟩ .nil))⟩
    have okA := okBestRun (g := true) kn_a
    have okB := okBestRun (g := false) kn_a
    have okC := okLast (g := true) kn_a
    have okD := okPeak (g := false) kn_a
    -- the best runs
    refine ⟨rfl, sz 1, fun pk hpk => ?_⟩
    have m5 := Kp.new (M := []) (o := .tup [.str "a"]) hpk
    refine ⟨true, "a", _, rfl, kin1 upd_same, kn_a, fun s1 H5 k5 hs1 => ?_⟩
    have k45 := m5.trans k5
    refine ⟨_, rfl, _, _, stBestRun true "a", hLog, rfl, hs1, okA, stbLog _ _ _ _ k45.tst0 hlog, lok_h, fun r1 H6 k6 h6 => ?_⟩
    rw [eA] at h6
    have k46 := k45.trans k6
    refine ⟨rfl, sz 1, fun pk2 hpk2 => ?_⟩
    have m7 := Kp.new (M := []) (o := .tup [.str "a"]) hpk2
    refine ⟨false, "a", _, rfl, kin1 upd_same, kn_a, fun s2 H7 k7 hs2 => ?_⟩
    have k67 := m7.trans k7
    refine ⟨_, rfl, _, _, stBestRun false "a", hLog, rfl, hs2, okB, stbLog _ _ _ _ (k46.trans k67).tst0 hlog, lok_h, fun r2 H8 k8 h8 => ?_⟩
    rw [eB] at h8
    have k48 := (k46.trans k67).trans k8
    have h6b := (k67.trans k8) _ _ (by simp) h6
    refine ⟨sz 2, fun q1 hq1 => ?_⟩
    have m9 := Kp.new (M := []) (o := .lst [.ref r1, .ref r2]) hq1
    have hq1b := laid (Kp.refl (M := []) (H := upd H8 q1 (.lst [.ref r1, .ref r2])))
    have g6 := m9 _ _ (by simp) h6b
    have g8 := m9 _ _ (by simp) h8
    have k49 := k48.trans m9
    show gName 1 (.ref q1) _ (upd H8 q1 (.lst [.ref r1, .ref r2])) _
    generalize upd H8 q1 (.lst [.ref r1, .ref r2]) = H9 at m9 hq1b g6 g8 k49
    refine ⟨_, rfl, sz 4, fun u1 hu1 => ⟨_, rfl, _, rfl, sz 4, fun u2 hu2 => ⟨sz 2, fun u3 hu3 => ?_⟩⟩⟩
    have w1 := Kp.new (M := []) (o := .tup [.non, .int 2, .int 2, .int 4]) hu1
    have w2 := Kp.new (M := []) (o := .tup [.non, .int 2, .int (-3), .int (-3)]) hu2
    have w3 := Kp.new (M := []) (o := .lst [.ref u1, .ref u2]) hu3
    have z1 := (w2.trans w3) _ _ (by simp) (laid (Kp.refl (M := []) (H := upd H9 u1 (.tup [.non, .int 2, .int 2, .int 4]))))
    have z2 := w3 _ _ (by simp) (laid (Kp.refl (M := []) (H := upd (upd H9 u1 (.tup [.non, .int 2, .int 2, .int 4])) u2 (.tup [.non, .int 2, .int (-3), .int (-3)]))))
    have z3 := laid (Kp.refl (M := []) (H := upd (upd (upd H9 u1 (.tup [.non, .int 2, .int 2, .int 4])) u2 (.tup [.non, .int 2, .int (-3), .int (-3)])) u3 (.lst [.ref u1, .ref u2])))
    have kw := w1.trans (w2.trans w3)
    have k4w := k49.trans kw
    have hq1c := kw _ _ (by simp) hq1b
    have g6c := kw _ _ (by simp) g6
    have g8c := kw _ _ (by simp) g8
    generalize upd (upd (upd H9 u1 (.tup [.non, .int 2, .int 2, .int 4])) u2 (.tup [.non, .int 2, .int (-3), .int (-3)])) u3 (.lst [.ref u1, .ref u2]) = HX at z1 z2 z3 k4w hq1c g6c g8c
    refine ⟨PyData.list [dRow hA, dRow hB], PyData.list [dRow hA, dRow hB], .lst (SqL.of hq1c) (.cons (.tup (SqT.of g6c) (dp_opts hA)) (.cons (.tup (SqT.of g8c) (dp_opts hB)) .nil)), .lst (SqL.of z3) (.cons (.tup (SqT.of z1) (dp_opts hA)) (.cons (.tup (SqT.of z2) (dp_opts hB)) .nil)), by decide +kernel, by decide +kernel, false, congrArg V.bl (by decide +kernel), iteF ?_⟩
    have hlogX := stbLog _ _ _ _ k4w.tst0 hlog
    -- last, peak
    refine ⟨rfl, sz 1, fun pk3 hpk3 => ?_⟩
    have m11 := Kp.new (M := []) (o := .tup [.str "a"]) hpk3
    refine ⟨true, "a", _, rfl, kin1 upd_same, kn_a, fun s3 H11 k11 hs3 => ?_⟩
    have kX1 := m11.trans k11
    refine ⟨_, rfl, _, _, stLast true "a", hLog, rfl, hs3, okC, stbLog _ _ _ _ kX1.tst0 hlogX, lok_h, fun r3 H12 k12 h12 => ?_⟩
    rw [eC] at h12
    have kX2 := kX1.trans k12
    refine ⟨rfl, sz 1, fun pk4 hpk4 => ?_⟩
    have m13 := Kp.new (M := []) (o := .tup [.str "a"]) hpk4
    refine ⟨false, "a", _, rfl, kin1 upd_same, kn_a, fun s4 H13 k13 hs4 => ?_⟩
    have kY1 := m13.trans k13
    refine ⟨_, rfl, _, _, stPeak false "a", hLog, rfl, hs4, okD, stbLog _ _ _ _ (kX2.trans kY1).tst0 hlogX, lok_h, fun r4 H14 k14 h14 => ?_⟩
    rw [eD] at h14
    have h12b := (kY1.trans k14) _ _ (by simp) h12
    have kX4 := (kX2.trans kY1).trans k14
    refine ⟨sz 2, fun q2 hq2 => ?_⟩
    have m15 := Kp.new (M := []) (o := .lst [.ref r3, .ref r4]) hq2
    have hq2b := laid (Kp.refl (M := []) (H := upd H14 q2 (.lst [.ref r3, .ref r4])))
    have g12 := m15 _ _ (by simp) h12b
    have g14 := m15 _ _ (by simp) h14
    have kX5 := kX4.trans m15
    show gName 1 (.ref q2) _ (upd H14 q2 (.lst [.ref r3, .ref r4])) _
    generalize upd H14 q2 (.lst [.ref r3, .ref r4]) = H15 at m15 hq2b g12 g14 kX5
    refine ⟨_, rfl, _, rfl, sz 4, fun y1 hy1 => ⟨_, rfl, _, rfl, sz 4, fun y2 hy2 => ⟨sz 2, fun y3 hy3 => ?_⟩⟩⟩
    have x1 := Kp.new (M := []) (o := .tup [.non, .int 2, .int (-3), .int 4]) hy1
    have x2 := Kp.new (M := []) (o := .tup [.int 0, .int 0, .int (-1), .int (-1)]) hy2
    have x3 := Kp.new (M := []) (o := .lst [.ref y1, .ref y2]) hy3
    have t1 := (x2.trans x3) _ _ (by simp) (laid (Kp.refl (M := []) (H := upd H15 y1 (.tup [.non, .int 2, .int (-3), .int 4]))))
    have t2 := x3 _ _ (by simp) (laid (Kp.refl (M := []) (H := upd (upd H15 y1 (.tup [.non, .int 2, .int (-3), .int 4])) y2 (.tup [.int 0, .int 0, .int (-1), .int (-1)]))))
    have t3 := laid (Kp.refl (M := []) (H := upd (upd (upd H15 y1 (.tup [.non, .int 2, .int (-3), .int 4])) y2 (.tup [.int 0, .int 0, .int (-1), .int (-1)])) y3 (.lst [.ref y1, .ref y2])))
    have kx := x1.trans (x2.trans x3)
    have kZ := (k4.trans k4w).trans (kX5.trans kx)
    have hq2c := kx _ _ (by simp) hq2b
    have g12c := kx _ _ (by simp) g12
    have g14c := kx _ _ (by simp) g14
    generalize upd (upd (upd H15 y1 (.tup [.non, .int 2, .int (-3), .int 4])) y2 (.tup [.int 0, .int 0, .int (-1), .int (-1)])) y3 (.lst [.ref y1, .ref y2]) = HZ at t1 t2 t3 kZ hq2c g12c g14c
    refine ⟨PyData.list [dRow hC, dRow hD], PyData.list [dRow hC, dRow hD], .lst (SqL.of hq2c) (.cons (.tup (SqT.of g12c) (dp_opts hC)) (.cons (.tup (SqT.of g14c) (dp_opts hD)) .nil)), .lst (SqL.of t3) (.cons (.tup (SqT.of t1) (dp_opts hC)) (.cons (.tup (SqT.of t2) (dp_opts hD)) .nil)), by decide +kernel, by decide +kernel, ?_⟩
    have ez : PyData.eqv (PyData.list [dRow hC, dRow hD]) (PyData.list [dRow hC, dRow hD]) = true := by decide +kernel
    show Q (.bl (PyData.eqv (PyData.list [dRow hC, dRow hD]) (PyData.list [dRow hC, dRow hD]))) HZ
    rw [ez]
    exact q _ kZ
end
end TP
set_option Elab.async false
set_option linter.all false
set_option maxRecDepth 100000
set_option maxHeartbeats 4000000
/-! law -/
namespace TP
open PySem PySem.Spec PyProof.Rows L2
def spLaw (K : PySem.W.Frag) : Sp := fun vs H Q _ => ∃ (c : Addr) (zs : List Int), vs = [.ref c] ∧ SqL K H c (zs.map V.int) ∧ ∀ H', Q (.bl true) H'
section
variable {P : Program} {w : World} {K : PySem.W.Frag} {mg : Str → Option Value} {base : Heap}
theorem g_law (T : Tl K mg) {f : Addr} {fd : FuncData} (F : FunD K "law" "law" (defArgs sLaw) (defBody sLaw) (defScope sLaw) [] [] f fd) : FnG P w K mg base 11 f fd pLaw (spLaw K) := by
  refine fnG_of F scLaw (fun vs H Q E h => ?_) (fun cdv A outer s H vs Q E hgd hr h => ?_)
  · obtain ⟨_, _, rfl, _⟩ := h
    rfl
  · obtain ⟨c, zs, rfl, hc, q⟩ := h
    have TX := T.tm.tk.tc.tx
    refine ⟨_, pss_cons (ps_if (pt_not (pt_val (pe_c0 (c_byHand T) hr))) pss_never pss_nil)
      (pss_one (ps_ret (pe_callB (cr_all rfl) rfl TX.f (by decide +kernel) (pa_cons (pe_lc (own := [("_law_k", 1)]) (g := gName 1) (tt := tYes) rfl scLaw.nd (pi_range1 rfl TX.f (pa_cons (pe_callB (call_max2 rfl) rfl TX.f (by decide +kernel) (pa_cons pe_int (pa_cons (pe_callB (call_min2 rfl) rfl TX.f (by decide +kernel) (pa_cons (pe_callB call_len_seq rfl TX.f (by decide +kernel) (pa_cons (pv 0) pa_nil)) (pa_cons pe_int pa_nil))) pa_nil))) pa_nil))
        (blkOk_by (N := nLaw) (sc := defScope sLaw) (by decide +kernel)) (fun _ _ _ _ _ => pg_name (i := 1) scLaw.nd rfl (Or.inl rfl)) (fun _ _ _ _ _ => pts_nil)
        (fun _ _ _ _ _ => pe_cg (g_right T) hgd hr (pa_cons (pe_c (c_lawPool T) hr (pa_cons (pe_c (c_lawCell T) hr (pa_cons (pv 0) (pa_cons (pv 1) pa_nil))) pa_nil)) pa_nil))) pa_nil)))), ?_⟩
    refine ⟨rfl, fun H1 k1 => ⟨true, rfl, iteF ?_⟩⟩
    have hc1 := k1.same.seq hc
    refine ⟨_, rfl, c, _, rfl, .inl hc1, _, _, rfl, _, _, rfl, ?_⟩
    have hM : ∃ M : Int, (if (if (5 : Int) < (((zs.map V.int).length : Nat) : Int) then 5 else (((zs.map V.int).length : Nat) : Int)) > 2 then (if (5 : Int) < (((zs.map V.int).length : Nat) : Int) then 5 else (((zs.map V.int).length : Nat) : Int)) else 2) = M ∧ 0 ≤ M ∧ M ≤ 5 := ⟨_, rfl, by split <;> split <;> omega, by split <;> split <;> omega⟩
    obtain ⟨M, eM, hM0, hM5⟩ := hM
    refine ⟨M, congrArg (fun z => [V.int z]) eM, by omega, by omega, fun D hD => lc_it walk_range (LS D [] H1 fun i acc _ => acc = List.replicate i (.bl true)) (LS.start hD (fun _ _ _ _ _ h => h) rfl) (fun _ _ _ _ => trivial) (fun i x H2 H3 hi hp hy => ?_) fun H2 hp => ?_⟩
    · obtain ⟨acc, hA, hl2, k2, hS⟩ := hp
      obtain ⟨rfl, hx⟩ := hy
      replace hx : x = V.int (0 + (i : Int)) := hx
      rw [Int.zero_add] at hx
      subst hx
      refine ⟨rfl, tyes (iteT ?_)⟩
      refine ⟨_, rfl, _, rfl, c, zs, (i : Int), rfl, k2.same.seq hc1, by omega, by omega, fun z H4 k4 => ⟨z, rfl, fun l H5 k5 hl hp5 => ⟨l, rfl, hp5, fun H6 k6 => ?_⟩⟩⟩
      have k7 := (k4.trans k5).glue k6 (k4.fre hl)
      exact LS.put hD (by simp) (fun _ _ _ _ _ h => h) (by omega) hl2 (k7 _ _ (by simp) hA) (k2.trans k7) (by rw [hS, List.replicate_succ'])
    · obtain ⟨acc, hA, _, k2, rfl⟩ := hp
      refine ⟨D, List.replicate M.toNat true, rfl, SqL.of (by rw [hA, List.map_replicate]), ?_⟩
      have e : (List.replicate M.toNat true).all id = true := List.all_eq_true.mpr fun x hx => by rw [(List.mem_replicate.mp hx).2]; rfl
      rw [e]
      exact q _
end
end TP
set_option Elab.async false
set_option linter.all false
set_option maxRecDepth 100000
set_option maxHeartbeats 4000000
/-! what the head shows of the top, as Bools; printed by genH.py -/
namespace TP
open PySem PySem.Spec PyProof.Rows L2
/-! ### objects by names -/
def oFn (c m : Str) (K : PySem.W.Frag) : Addr := He.ma K (He.ga K c) m
def unw (K : PySem.W.Frag) (p : Addr) (t : String) : Addr := match PySem.W.recIn K p t with
  | some (.ref g :: _) => g
  | _ => 0
/-- the def behind a property, a classmethod -/
def oUn (c m : Str) (t : String) (K : PySem.W.Frag) : Addr := unw K (oFn c m K) t
/-- a def: where it stands, its statement -/
structure DY where
  pl : PySem.W.Frag → Addr
  nm : Str
  qn : Str
  st : Stmt
  dv : List V
def dyW (K : PySem.W.Frag) (d : DY) : He.FnW := match K.lookup (d.pl K) with
  | some u => (match u.data with
    | .func g => some (g.name, g.qualname, g.params, g.body, g.scope, g.globals, g.closure, g.builtins)
    | _ => none)
  | none => none
def DY.val (d : DY) : He.FnW := some (d.nm, d.qn, defArgs d.st, .stmts (defBody d.st), defScope d.st, mainGlobals, [], builtinsNs)
def dyB (K : PySem.W.Frag) (d : DY) : Bool := PySem.W.keepIn K (.ref (d.pl K)) && (match K.lookup (d.pl K) with
  | some u => (match u.data with
    | .func g => PySem.W.codeIn K g.code d.qn && He.dflB K g.defaults d.dv
    | _ => false)
  | none => false)
theorem DY.fun {K : PySem.W.Frag} {d : DY} (e : dyW K d = d.val) (c : dyB K d = true) : ∃ fd, FunD K d.nm d.qn (defArgs d.st) (defBody d.st) (defScope d.st) d.dv [] (d.pl K) fd := by
  obtain ⟨kp, c2⟩ := Bool.and_eq_true_iff.mp c
  unfold dyW at e
  cases q : K.lookup (d.pl K) with
  | none => rw [q] at c2; cases c2
  | some u =>
    rw [q] at e c2
    obtain ⟨u1, u2, u3, u4⟩ := u
    cases u3 with
    | func g =>
      obtain ⟨g1, g2, g3, g4, g5, g6, g7, g8, g9, g10, g11, g12, g13, g14, g15⟩ := g
      have e2 : (some (g1, g2, g3, g4, g5, g6, g7, g15) : He.FnW) = some (d.nm, d.qn, defArgs d.st, .stmts (defBody d.st), defScope d.st, mainGlobals, [], builtinsNs) := e
      simp only [Option.some.injEq, Prod.mk.injEq] at e2
      obtain ⟨rfl, rfl, rfl, rfl, rfl, rfl, rfl, rfl⟩ := e2
      obtain ⟨j1, j2⟩ := Bool.and_eq_true_iff.mp (show (PySem.W.codeIn K g13 _ && He.dflB K g8 d.dv) = true from c2)
      exact ⟨_, ⟨u1, u2, g8, g9, g10, g11, g12, g13, g14, u4, rfl, q, j1, He.dflB_ok j2, .inl rfl⟩, kp⟩
    | _ => cases c2
/-! ### what a call binds -/
def Bnd (st : Stmt) (x q : Str) (ps : List Str) : Prop := ∀ (kV doc pm : Value) (an : Option Addr) (cdv ct : Value) (us : List Value), us.length = ps.length → bindArgs (PySem.W.fnOf x q (defArgs st) (defBody st) (defScope st) .none kV doc pm an cdv ct) ⟨us, []⟩ = pure (ps.zip us)
theorem binds_of {K : PySem.W.Frag} {x q : Str} {st : Stmt} {ps : List Str} {f : Addr} {fd : FuncData} (b : Bnd st x q ps) (F : FunD K x q (defArgs st) (defBody st) (defScope st) [] [] f fd) : Binds K fd ps [] := F.bindsN b
/-- all parameters written, the last has a default -/
def Bnd1 (st : Stmt) (x q : Str) (ps : List Str) (n : Nat) : Prop := ∀ (T : Addr) (kV doc pm : Value) (an : Option Addr) (cdv ct : Value) (us its : List Value), us.length = n → its.length = 1 →
  ∃ k, bindArgs (PySem.W.fnOf x q (defArgs st) (defBody st) (defScope st) (.ref T) kV doc pm an cdv ct) ⟨us, []⟩ = seqItems? (.ref T) >>= k ∧ k (some its.toArray) = pure (ps.zip (us ++ its.drop (n + 1 - ps.length)))

theorem bnIsInteger : Bnd sIsInteger "is_integer" "is_integer" pIsInteger := fun _ _ _ _ _ _ us hl => match us, hl with | [_], _ => rfl
theorem bnIsKind : Bnd sIsKind "is_kind" "is_kind" pIsKind := fun _ _ _ _ _ _ us hl => match us, hl with | [_], _ => rfl
theorem bnIsAmount : Bnd sIsAmount "is_amount" "is_amount" pIsAmount := fun _ _ _ _ _ _ us hl => match us, hl with | [_], _ => rfl
theorem bnIsEvent : Bnd sIsEvent "is_event" "is_event" pIsEvent := fun _ _ _ _ _ _ us hl => match us, hl with | [_], _ => rfl
theorem bnFirstWrong : Bnd1 sFirstWrong "first_wrong" "first_wrong" pFirstWrong 2 := fun _ _ _ _ _ _ _ us its hl h1 => match us, its, hl, h1 with | [_, _], [_], _, _ => ⟨_, rfl, rfl⟩
theorem bnCheckLog : Bnd1 sCheckLog "check_log" "check_log" pCheckLog 2 := fun _ _ _ _ _ _ _ us its hl h1 => match us, its, hl, h1 with | [_, _], [_], _, _ => ⟨_, rfl, rfl⟩
theorem bnCheckAmount : Bnd sCheckAmount "check_amount" "check_amount" pCheckAmount := fun _ _ _ _ _ _ us hl => match us, hl with | [_], _ => rfl
theorem bnTermsOf : Bnd sTermsOf "terms_of" "terms_of" pTermsOf := fun _ _ _ _ _ _ us hl => match us, hl with | [_], _ => rfl
theorem bnSourceOf : Bnd sSourceOf "source_of" "source_of" pSourceOf := fun _ _ _ _ _ _ us hl => match us, hl with | [_], _ => rfl
theorem bnTermFrom : Bnd sTermFrom "term_from" "term_from" pTermFrom := fun _ _ _ _ _ _ us hl => match us, hl with | [_, _], _ => rfl
theorem bnBestOf : Bnd sBestOf "best_of" "best_of" pBestOf := fun _ _ _ _ _ _ us hl => match us, hl with | [_, _], _ => rfl
theorem bnStepped : Bnd sStepped "stepped" "stepped" pStepped := fun _ _ _ _ _ _ us hl => match us, hl with | [_, _, _, _], _ => rfl
theorem bnReadOut : Bnd sReadOut "read_out" "read_out" pReadOut := fun _ _ _ _ _ _ us hl => match us, hl with | [_, _, _], _ => rfl
theorem bnFirstFall : Bnd sFirstFall "first_fall" "first_fall" pFirstFall := fun _ _ _ _ _ _ us hl => match us, hl with | [_, _], _ => rfl
theorem bnCheckKinds : Bnd sCheckKinds "check_kinds" "check_kinds" pCheckKinds := fun _ _ _ _ _ _ us hl => match us, hl with | [_], _ => rfl
theorem bnCheckStart : Bnd sCheckStart "check_start" "check_start" pCheckStart := fun _ _ _ _ _ _ us hl => match us, hl with | [_], _ => rfl
theorem bnIsRule : Bnd sIsRule "is_rule" "is_rule" pIsRule := fun _ _ _ _ _ _ us hl => match us, hl with | [_, _], _ => rfl
theorem bnCheckRules : Bnd sCheckRules "check_rules" "check_rules" pCheckRules := fun _ _ _ _ _ _ us hl => match us, hl with | [_, _, _], _ => rfl
theorem bnCheckResult : Bnd sCheckResult "check_result" "check_result" pCheckResult := fun _ _ _ _ _ _ us hl => match us, hl with | [_, _], _ => rfl
theorem bnMade : Bnd sMade "made" "made" pMade := fun _ _ _ _ _ _ us hl => match us, hl with | [_, _, _, _, _], _ => rfl
theorem bnCheckStatistic : Bnd sCheckStatistic "check_statistic" "check_statistic" pCheckStatistic := fun _ _ _ _ _ _ us hl => match us, hl with | [_], _ => rfl
theorem bnCheckTwo : Bnd sCheckTwo "check_two" "check_two" pCheckTwo := fun _ _ _ _ _ _ us hl => match us, hl with | [_, _], _ => rfl
theorem bnRaised : Bnd sRaised "raised" "raised" pRaised := fun _ _ _ _ _ _ us hl => match us, hl with | [_, _], _ => rfl
theorem bnRaisedRule : Bnd sRaisedRule "raised_rule" "raised_rule" pRaisedRule := fun _ _ _ _ _ _ us hl => match us, hl with | [_, _], _ => rfl
theorem bnContents : Bnd sContents "contents" "contents" pContents := fun _ _ _ _ _ _ us hl => match us, hl with | [_, _], _ => rfl
theorem bnResults : Bnd sResults "results" "results" pResults := fun _ _ _ _ _ _ us hl => match us, hl with | [_, _], _ => rfl
theorem bnLawCell : Bnd sLawCell "_law_cell" "_law_cell" pLawCell := fun _ _ _ _ _ _ us hl => match us, hl with | [_, _], _ => rfl
theorem bnLawPool : Bnd sLawPool "_law_pool" "_law_pool" pLawPool := fun _ _ _ _ _ _ us hl => match us, hl with | [_], _ => rfl
theorem bnLawDraw : Bnd sLawDraw "_law_draw" "_law_draw" pLawDraw := fun _ _ _ _ _ _ us hl => match us, hl with | [_, _], _ => rfl
theorem bnLawTerms : Bnd sLawTerms "_law_terms" "_law_terms" pLawTerms := fun _ _ _ _ _ _ us hl => match us, hl with | [_], _ => rfl
theorem bnLawSource : Bnd sLawSource "_law_source" "_law_source" pLawSource := fun _ _ _ _ _ _ us hl => match us, hl with | [_], _ => rfl
theorem bnLawSome : Bnd sLawSome "_law_some" "_law_some" pLawSome := fun _ _ _ _ _ _ us hl => match us, hl with | [_, _, _], _ => rfl
theorem bnLawNamed : Bnd sLawNamed "_law_named" "_law_named" pLawNamed := fun _ _ _ _ _ _ us hl => match us, hl with | [_, _], _ => rfl
theorem bnLawPlain : Bnd sLawPlain "_law_plain" "_law_plain" pLawPlain := fun _ _ _ _ _ _ us hl => match us, hl with | [_, _, _], _ => rfl
theorem bnLawOf : Bnd sLawOf "_law_of" "_law_of" pLawOf := fun _ _ _ _ _ _ us hl => match us, hl with | [_], _ => rfl
theorem bnLawBest : Bnd sLawBest "_law_best" "_law_best" pLawBest := fun _ _ _ _ _ _ us hl => match us, hl with | [_, _], _ => rfl
theorem bnLawStep : Bnd sLawStep "_law_step" "_law_step" pLawStep := fun _ _ _ _ _ _ us hl => match us, hl with | [_, _, _], _ => rfl
theorem bnLawEnd : Bnd sLawEnd "_law_end" "_law_end" pLawEnd := fun _ _ _ _ _ _ us hl => match us, hl with | [_, _], _ => rfl
theorem bnLawEvents : Bnd sLawEvents "_law_events" "_law_events" pLawEvents := fun _ _ _ _ _ _ us hl => match us, hl with | [_, _, _, _], _ => rfl
theorem bnLawAllResults : Bnd sLawAllResults "_law_all_results" "_law_all_results" pLawAllResults := fun _ _ _ _ _ _ us hl => match us, hl with | [_, _], _ => rfl
theorem bnLawTimes : Bnd sLawTimes "_law_times" "_law_times" pLawTimes := fun _ _ _ _ _ _ us hl => match us, hl with | [_, _], _ => rfl
theorem bnLawRaised : Bnd sLawRaised "_law_raised" "_law_raised" pLawRaised := fun _ _ _ _ _ _ us hl => match us, hl with | [_, _], _ => rfl
theorem bnLawWalked : Bnd sLawWalked "_law_walked" "_law_walked" pLawWalked := fun _ _ _ _ _ _ us hl => match us, hl with | [_, _], _ => rfl
theorem bnLawToldRight : Bnd sLawToldRight "_law_told_right" "_law_told_right" pLawToldRight := fun _ _ _ _ _ _ us hl => match us, hl with | [_, _], _ => rfl
theorem bnLawBothRight : Bnd sLawBothRight "_law_both_right" "_law_both_right" pLawBothRight := fun _ _ _ _ _ _ us hl => match us, hl with | [_, _, _], _ => rfl
theorem bnLawRight : Bnd sLawRight "_law_right" "_law_right" pLawRight := fun _ _ _ _ _ _ us hl => match us, hl with | [_], _ => rfl
theorem bnLawByHand : Bnd sLawByHand "_law_by_hand" "_law_by_hand" pLawByHand := fun _ _ _ _ _ _ us hl => match us, hl with | [], _ => rfl
theorem bnLaw : Bnd sLaw "law" "law" pLaw := fun _ _ _ _ _ _ us hl => match us, hl with | [_], _ => rfl
theorem bnSInit : Bnd sSInit "__init__" "Statistic.__init__" pSInit := fun _ _ _ _ _ _ us hl => match us, hl with | [_, _, _, _, _], _ => rfl
theorem bnSCall : Bnd sSCall "__call__" "Statistic.__call__" pSCall := fun _ _ _ _ _ _ us hl => match us, hl with | [_, _], _ => rfl
theorem bnSGetitem : Bnd sSGetitem "__getitem__" "Statistic.__getitem__" pSGetitem := fun _ _ _ _ _ _ us hl => match us, hl with | [_, _], _ => rfl
theorem bnSOr : Bnd sSOr "__or__" "Statistic.__or__" pSOr := fun _ _ _ _ _ _ us hl => match us, hl with | [_, _], _ => rfl
theorem bnSTurned : Bnd sSTurned "turned" "Statistic.turned" pSTurned := fun _ _ _ _ _ _ us hl => match us, hl with | [_], _ => rfl
theorem bnSResult : Bnd sSResult "result" "Statistic.result" pSResult := fun _ _ _ _ _ _ us hl => match us, hl with | [_], _ => rfl
theorem bnSPeak : Bnd sSPeak "peak" "Statistic.peak" pSPeak := fun _ _ _ _ _ _ us hl => match us, hl with | [_, _], _ => rfl
theorem bnSBestRun : Bnd sSBestRun "best_run" "Statistic.best_run" pSBestRun := fun _ _ _ _ _ _ us hl => match us, hl with | [_, _], _ => rfl
theorem bnSLast : Bnd sSLast "last" "Statistic.last" pSLast := fun _ _ _ _ _ _ us hl => match us, hl with | [_, _], _ => rfl
theorem bnCInit : Bnd1 sCInit "__init__" "Counter.__init__" pCInit 2 := fun _ _ _ _ _ _ _ us its hl h1 => match us, its, hl, h1 with | [_, _], [_], _, _ => ⟨_, rfl, rfl⟩
theorem bnCResult : Bnd sCResult "result" "Counter.result" pCResult := fun _ _ _ _ _ _ us hl => match us, hl with | [_], _ => rfl
theorem bnCFollow : Bnd sCFollow "follow" "Counter.follow" pCFollow := fun _ _ _ _ _ _ us hl => match us, hl with | [_, _, _], _ => rfl
/-! ### the defs -/
def dys0 : List DY := [
  ⟨fun K => He.ga K "is_integer", "is_integer", "is_integer", sIsInteger, []⟩,
  ⟨fun K => He.ga K "is_kind", "is_kind", "is_kind", sIsKind, []⟩,
  ⟨fun K => He.ga K "is_amount", "is_amount", "is_amount", sIsAmount, []⟩,
  ⟨fun K => He.ga K "is_event", "is_event", "is_event", sIsEvent, []⟩,
  ⟨fun K => He.ga K "first_wrong", "first_wrong", "first_wrong", sFirstWrong, [.non]⟩,
  ⟨fun K => He.ga K "check_log", "check_log", "check_log", sCheckLog, [.non]⟩,
  ⟨fun K => He.ga K "check_amount", "check_amount", "check_amount", sCheckAmount, []⟩,
  ⟨fun K => He.ga K "terms_of", "terms_of", "terms_of", sTermsOf, []⟩,
  ⟨fun K => He.ga K "source_of", "source_of", "source_of", sSourceOf, []⟩,
  ⟨fun K => He.ga K "term_from", "term_from", "term_from", sTermFrom, []⟩,
  ⟨fun K => He.ga K "best_of", "best_of", "best_of", sBestOf, []⟩,
  ⟨fun K => He.ga K "stepped", "stepped", "stepped", sStepped, []⟩,
  ⟨fun K => He.ga K "read_out", "read_out", "read_out", sReadOut, []⟩,
  ⟨fun K => He.ga K "first_fall", "first_fall", "first_fall", sFirstFall, []⟩,
  ⟨fun K => He.ga K "check_kinds", "check_kinds", "check_kinds", sCheckKinds, []⟩]
def dys1 : List DY := [
  ⟨fun K => He.ga K "check_start", "check_start", "check_start", sCheckStart, []⟩,
  ⟨fun K => He.ga K "is_rule", "is_rule", "is_rule", sIsRule, []⟩,
  ⟨fun K => He.ga K "check_rules", "check_rules", "check_rules", sCheckRules, []⟩,
  ⟨fun K => He.ga K "check_result", "check_result", "check_result", sCheckResult, []⟩,
  ⟨fun K => He.ga K "made", "made", "made", sMade, []⟩,
  ⟨fun K => He.ga K "check_statistic", "check_statistic", "check_statistic", sCheckStatistic, []⟩,
  ⟨fun K => He.ga K "check_two", "check_two", "check_two", sCheckTwo, []⟩,
  ⟨fun K => He.ga K "raised", "raised", "raised", sRaised, []⟩,
  ⟨fun K => He.ga K "raised_rule", "raised_rule", "raised_rule", sRaisedRule, []⟩,
  ⟨fun K => He.ga K "contents", "contents", "contents", sContents, []⟩,
  ⟨fun K => He.ga K "results", "results", "results", sResults, []⟩,
  ⟨fun K => He.ga K "_law_cell", "_law_cell", "_law_cell", sLawCell, []⟩,
  ⟨fun K => He.ga K "_law_pool", "_law_pool", "_law_pool", sLawPool, []⟩,
  ⟨fun K => He.ga K "_law_draw", "_law_draw", "_law_draw", sLawDraw, []⟩,
  ⟨fun K => He.ga K "_law_terms", "_law_terms", "_law_terms", sLawTerms, []⟩]
def dys2 : List DY := [
  ⟨fun K => He.ga K "_law_source", "_law_source", "_law_source", sLawSource, []⟩,
  ⟨fun K => He.ga K "_law_some", "_law_some", "_law_some", sLawSome, []⟩,
  ⟨fun K => He.ga K "_law_named", "_law_named", "_law_named", sLawNamed, []⟩,
  ⟨fun K => He.ga K "_law_plain", "_law_plain", "_law_plain", sLawPlain, []⟩,
  ⟨fun K => He.ga K "_law_of", "_law_of", "_law_of", sLawOf, []⟩,
  ⟨fun K => He.ga K "_law_best", "_law_best", "_law_best", sLawBest, []⟩,
  ⟨fun K => He.ga K "_law_step", "_law_step", "_law_step", sLawStep, []⟩,
  ⟨fun K => He.ga K "_law_end", "_law_end", "_law_end", sLawEnd, []⟩,
  ⟨fun K => He.ga K "_law_events", "_law_events", "_law_events", sLawEvents, []⟩,
  ⟨fun K => He.ga K "_law_all_results", "_law_all_results", "_law_all_results", sLawAllResults, []⟩,
  ⟨fun K => He.ga K "_law_times", "_law_times", "_law_times", sLawTimes, []⟩,
  ⟨fun K => He.ga K "_law_raised", "_law_raised", "_law_raised", sLawRaised, []⟩,
  ⟨fun K => He.ga K "_law_walked", "_law_walked", "_law_walked", sLawWalked, []⟩,
  ⟨fun K => He.ga K "_law_told_right", "_law_told_right", "_law_told_right", sLawToldRight, []⟩,
  ⟨fun K => He.ga K "_law_both_right", "_law_both_right", "_law_both_right", sLawBothRight, []⟩]
def dys3 : List DY := [
  ⟨fun K => He.ga K "_law_right", "_law_right", "_law_right", sLawRight, []⟩,
  ⟨fun K => He.ga K "_law_by_hand", "_law_by_hand", "_law_by_hand", sLawByHand, []⟩,
  ⟨fun K => He.ga K "law", "law", "law", sLaw, []⟩,
  ⟨oFn "Greatest" "__init__", "__init__", "Statistic.__init__", sSInit, []⟩,
  ⟨oFn "Greatest" "__call__", "__call__", "Statistic.__call__", sSCall, []⟩,
  ⟨oFn "Greatest" "__getitem__", "__getitem__", "Statistic.__getitem__", sSGetitem, []⟩,
  ⟨oFn "Greatest" "__or__", "__or__", "Statistic.__or__", sSOr, []⟩,
  ⟨oFn "Greatest" "turned", "turned", "Statistic.turned", sSTurned, []⟩,
  ⟨oUn "Greatest" "result" "property", "result", "Statistic.result", sSResult, []⟩,
  ⟨oUn "Greatest" "peak" "classmethod", "peak", "Statistic.peak", sSPeak, []⟩,
  ⟨oUn "Greatest" "best_run" "classmethod", "best_run", "Statistic.best_run", sSBestRun, []⟩,
  ⟨oUn "Greatest" "last" "classmethod", "last", "Statistic.last", sSLast, []⟩,
  ⟨oFn "Counter" "__init__", "__init__", "Counter.__init__", sCInit, [.non]⟩,
  ⟨oUn "Counter" "result" "property", "result", "Counter.result", sCResult, []⟩,
  ⟨oFn "Counter" "follow", "follow", "Counter.follow", sCFollow, []⟩]
def dys : List DY := dys0 ++ dys1 ++ dys2 ++ dys3
/-- the names that hold defs -/
def gls0 : List Str := ["is_integer", "is_kind", "is_amount", "is_event", "first_wrong", "check_log", "check_amount", "terms_of", "source_of", "term_from", "best_of", "stepped", "read_out", "first_fall", "check_kinds", "check_start", "is_rule", "check_rules", "check_result", "made"]
def gls1 : List Str := ["check_statistic", "check_two", "raised", "raised_rule", "contents", "results", "_law_cell", "_law_pool", "_law_draw", "_law_terms", "_law_source", "_law_some", "_law_named", "_law_plain", "_law_of", "_law_best", "_law_step", "_law_end", "_law_events", "_law_all_results"]
def gls2 : List Str := ["_law_times", "_law_raised", "_law_walked", "_law_told_right", "_law_both_right", "_law_right", "_law_by_hand", "law"]
def gls : List Str := gls0 ++ gls1 ++ gls2
/-! ### the classes' facts -/
section
variable (K : PySem.W.Frag) (C : Addr)
def clB : Bool := PySem.W.plainGet K C Str.empty && (PySem.W.hasDictIn K C && (PySem.W.plainOver K C && He.eqO (PySem.W.findIn K (.ref C) "__setattr__") (some (some (.builtin "object.__setattr__")))))
def atB (m : Str) (f : Addr) : Bool := He.eqO (PySem.W.findIn K (.ref C) m) (some (some (.ref f)))
def insB : Bool := He.eqO (PySem.W.findIn K (.ref C) "__class__") (some (some (.builtin "object.__class__"))) && (He.eqO (PySem.W.specialIn K (.builtin "object.__class__") "__get__") (some (some (.builtin "getset_descriptor.__get__"))) &&
  (decide (PySem.W.takesIn K (.builtin "object.__class__") = some true) && decide (PySem.W.mroIn K C (.type "object") = some true)))
def cnB (f : Str) (v : V) : Bool := match PySem.W.findIn K (.ref C) f with
  | some (some u) => He.relB v u && He.eqO (PySem.W.specialIn K u "__get__") (some none)
  | _ => false
def noB (fs : List Str) : Bool := fs.all fun f => He.eqO (PySem.W.findIn K (.ref C) f) (some none)
def mkB (f : Addr) : Bool := PySem.W.makesIn K C && (atB K C "__init__" f && (PySem.W.isFn K (.ref f) && PySem.W.keepIn K (.ref C)))
def mtB (m : Str) (f : Addr) : Bool := atB K C m f && (PySem.W.isFn K (.ref f) && PySem.W.keepIn K (.ref f))
def dunB (m : Str) (f : Addr) : Bool := atB K C m f && (PySem.W.isFn K (.ref f) && PySem.W.fnIn K f)
def unB (p : Addr) (t : String) (g : Addr) : Bool := match PySem.W.recIn K p t with
  | some (.ref g' :: _) => decide (g' = g)
  | _ => false
def prB (f : Str) (p g : Addr) : Bool := atB K C f p && (He.eqO (PySem.W.specialIn K (.ref p) "__get__") (some (some (.builtin "property.__get__"))) && (decide (PySem.W.takesIn K (.ref p) = some true) && unB K p "property" g))
def rdB : Bool := PySem.W.readsIn K C (.type "type") && He.eqO (PySem.W.specialIn K (.ref C) "__getattribute__") (some (some (.builtin "type.__getattribute__")))
def cmA (m : Str) (p : Addr) : Bool := match PySem.W.findCls K (.ref C) (.type "type") m with
  | some (.get (.builtin s) (.ref p') .none (.ref c')) => decide (s = "classmethod.__get__") && (decide (p' = p) && decide (c' = C))
  | _ => false
def cmB (m : Str) (p g : Addr) : Bool := cmA K C m p && (unB K p "classmethod" g && PySem.W.fnIn K g)
end
section
variable {K : PySem.W.Frag} {C : Addr}
theorem an {a b : Bool} (h : (a && b) = true) : a = true ∧ b = true := Bool.and_eq_true_iff.mp h
theorem clB_ok (h : clB K C = true) : Cls K C := ⟨(an h).1, (an (an h).2).1, (an (an (an h).2).2).1, He.eqO_ok (an (an (an h).2).2).2⟩
theorem insB_ok (h : insB K C = true) : InsTy K C := ⟨He.eqO_ok (an h).1, He.eqO_ok (an (an h).2).1, of_decide_eq_true (an (an (an h).2).2).1, of_decide_eq_true (an (an (an h).2).2).2⟩
theorem cnB_ok {f : Str} {v : V} (h : cnB K C f v = true) (hc : PySem.W.copiedNames.contains f = false) : ∃ u, Con K C f v u := by
  unfold cnB at h
  split at h
  · rename_i u e
    exact ⟨u, e, He.relB_ok (an h).1, He.eqO_ok (an h).2, hc⟩
  · cases h
theorem noB_ok {fs : List Str} (h : noB K C fs = true) : ∀ f ∈ fs, NoAttr K C f := fun f hf => He.eqO_ok (List.all_eq_true.mp h f hf)
theorem atB_ok {m : Str} {f : Addr} (h : atB K C m f = true) : PySem.W.findIn K (.ref C) m = some (some (.ref f)) := He.eqO_ok h
theorem mkB_ok {f : Addr} (h : mkB K C f = true) : Mk K C f := ⟨(an h).1, atB_ok (an (an h).2).1, (an (an (an h).2).2).1, (an (an (an h).2).2).2⟩
theorem mtB_ok {m : Str} {f : Addr} (h : mtB K C m f = true) : Meth K C m f := ⟨atB_ok (an h).1, (an (an h).2).1, (an (an h).2).2⟩
theorem unB_ok {p g : Addr} {t : String} (h : unB K p t g = true) : ∃ rest, PySem.W.recIn K p t = some (.ref g :: rest) := by
  unfold unB at h
  split at h
  · rename_i g' rest e
    rw [of_decide_eq_true h] at e
    exact ⟨rest, e⟩
  · cases h
theorem prB_ok {f : Str} {p g : Addr} (h : prB K C f p g = true) : PropOf K C f p g := ⟨atB_ok (an h).1, He.eqO_ok (an (an h).2).1, of_decide_eq_true (an (an (an h).2).2).1, unB_ok (an (an (an h).2).2).2⟩
theorem rdB_ok (h : rdB K C = true) : ClX.CRead K C (.type "type") := ⟨(an h).1, He.eqO_ok (an h).2⟩
theorem cmB_ok {m : Str} {p g : Addr} (h : cmB K C m p g = true) : ClX.CMet K C (.type "type") m p g := by
  obtain ⟨h1, h2⟩ := an h
  refine ⟨?_, unB_ok (an h2).1, (an h2).2⟩
  unfold cmA at h1
  split at h1
  · rename_i s p' c' e
    rw [e, of_decide_eq_true (an h1).1, of_decide_eq_true (an (an h1).2).1, of_decide_eq_true (an (an h1).2).2]
  · cases h1
end
/-- a class of statistics -/
def stB (K : PySem.W.Frag) (c : Str) (z : Str) : Bool := clB K (He.ga K c) && (insB K (He.ga K c) && (decide (PySem.W.kitOne K (.ref (He.ga K c)) (.ref (He.ga K "Statistic")) = some true) && (cnB K (He.ga K c) "SIDE" (.str z) && (noB K (He.ga K c) fieldsS &&
  (mkB K (He.ga K c) (oFn "Greatest" "__init__" K) && (dunB K (He.ga K c) "__call__" (oFn "Greatest" "__call__" K) && (dunB K (He.ga K c) "__getitem__" (oFn "Greatest" "__getitem__" K) && (dunB K (He.ga K c) "__or__" (oFn "Greatest" "__or__" K) && (PySem.W.selfFirst K (He.ga K c) &&
  (mtB K (He.ga K c) "turned" (oFn "Greatest" "turned" K) && (prB K (He.ga K c) "result" (oFn "Greatest" "result" K) (oUn "Greatest" "result" "property" K) && (rdB K (He.ga K c) &&
  (cmB K (He.ga K c) "peak" (oFn "Greatest" "peak" K) (oUn "Greatest" "peak" "classmethod" K) && (cmB K (He.ga K c) "best_run" (oFn "Greatest" "best_run" K) (oUn "Greatest" "best_run" "classmethod" K) && cmB K (He.ga K c) "last" (oFn "Greatest" "last" K) (oUn "Greatest" "last" "classmethod" K)))))))))))))))
def ctB (K : PySem.W.Frag) : Bool := clB K (He.ga K "Counter") && (noB K (He.ga K "Counter") fieldsC && (mkB K (He.ga K "Counter") (oFn "Counter" "__init__" K) && (prB K (He.ga K "Counter") "result" (oFn "Counter" "result" K) (oUn "Counter" "result" "property" K) && mtB K (He.ga K "Counter") "follow" (oFn "Counter" "follow" K))))
def gvB (K : PySem.W.Frag) (x : Str) (v : V) : Bool := match PySem.W.nsIn K mainGlobals x with
  | some (some u) => He.relB v u
  | _ => false
def glB (K : PySem.W.Frag) (x : Str) : Bool := He.eqO (PySem.W.nsIn K mainGlobals x) (some (some (.ref (He.ga K x))))
def clss : List Str := ["Greatest", "Least", "Statistic", "Counter", "REGISTERS"]
def fctB (K : PySem.W.Frag) : Bool := (frees.all fun x => He.eqO (PySem.W.nsIn K mainGlobals x) (some none)) && (gls.all (glB K) && (clss.all (glB K) && (gvB K "MAX_KINDS" (.int 4) && (gvB K "MAX_REGISTERS" (.int 6) && (gvB K "MAX_EVENTS" (.int 1000) && (gvB K "MAX_AMOUNT" (.int (10 ^ 30)) &&
  (gvB K "LETTERS" (.str letters) && (He.tupB K "REGISTERS" (regT.map He.Dv.str) && (stB K "Greatest" "greatest" && (stB K "Least" "least" && ctB K))))))))))
/-! ### the Hook -/
def rfs (o : Obj) : List Addr := (match o.dict with
  | some d => [d]
  | none => []) ++ match o.data with
  | .seq its _ => its.toList.flatMap He.refV
  | .dict es _ => es.toList.flatMap fun e => He.refV e.val
  | .func g => He.refV g.code ++ He.refV g.defaults
  | .cls c => [c.ns]
  | .fields vs => vs.toList.flatMap He.refV
  | _ => []
def more (g : Addr → Option Obj) (as : List Addr) : List Addr := as.flatMap fun a => match g a with
  | some o => rfs o
  | none => []
/-- what the module's names hold -/
def nam (g : Addr → Option Obj) : List Addr := (clss ++ gls).filterMap fun x => match PySem.W.nsIn (He.frG g [mainGlobals]) mainGlobals x with
  | some (some (.ref a)) => some a
  | _ => none
def lv2 (g : Addr → Option Obj) (l1 l2 : List Addr) : List Addr := l1 ++ (l2 ++ (more g l2 ++ (more g (more g l2) ++ more g (more g (more g l2)))))
def ads (g : Addr → Option Obj) : List Addr := cStatics :: mainGlobals :: lv2 g (nam g) (more g (nam g))
def fry (g : Addr → Option Obj) : PySem.W.Frag := He.frG g (ads g)
abbrev AlY : Type := Bool × List He.FnW
def obsY (K : PySem.W.Frag) : AlY := (fctB K && dys.all fun d => dyB K d, dys.map fun d => dyW K d)
def valY : AlY := (true, dys.map DY.val)
def hookY : PySem.W.Hook where
  α := AlY
  obs := fun s => obsY (fry s.heap.get?)
  val := fun _ => valY
  says := fun _ h => ∃ K : PySem.W.Frag, K.In h ∧ obsY K = valY
  of := fun _ _ e => ⟨_, He.frG_in, e⟩
  keeps := fun _ _ _ ⟨K, hK, c⟩ k => ⟨K, PySem.W.Frag.In.keeps hK k, c⟩
def obY (s : PySem.W.SharedT) : AlY := obsY (fry (HandSHeadRun.getT s))
theorem obY_eq (s : PySem.W.SharedT) : obY s = hookY.obs s.abs := by
  have e : HandSHeadRun.getT s = s.abs.heap.get? := funext (HandSHeadRun.getT_eq s)
  show obsY (fry (HandSHeadRun.getT s)) = obsY (fry s.abs.heap.get?)
  rw [e]
/-! ### the structures -/
section
variable {K : PySem.W.Frag} {h : Heap} {mg : Str → Option Value}
theorem dy_at (c : obsY K = valY) (i : Nat) {d : DY} (hd : dys[i]? = some d) : ∃ fd, FunD K d.nm d.qn (defArgs d.st) (defBody d.st) (defScope d.st) d.dv [] (d.pl K) fd := by
  have c1 : (fctB K && dys.all fun d => dyB K d) = true := congrArg (fun z : AlY => z.1) c
  have c2 : dys.map (fun d => dyW K d) = dys.map DY.val := congrArg (fun z : AlY => z.2) c
  have e2 : (dys.map fun d => dyW K d)[i]? = (dys.map DY.val)[i]? := by rw [c2]
  rw [List.getElem?_map, List.getElem?_map, hd] at e2
  exact DY.fun (Option.some.inj e2) (List.all_eq_true.mp (an c1).2 d (List.mem_of_getElem? hd))
theorem dy_fct (c : obsY K = valY) : fctB K = true := (an (show (fctB K && dys.all fun d => dyB K d) = true from congrArg (fun z : AlY => z.1) c)).1
structure Ctx (K : PySem.W.Frag) (mg : Str → Option Value) : Prop where
  c : obsY K = valY
  gl : ∀ x, glB K x = true → mg x = some (.ref (He.ga K x))
  fr : ∀ x, PySem.W.nsIn K mainGlobals x = some none → mg x = none
  gv : ∀ x v, gvB K x v = true → GV mg x v
theorem ctx_of (X : K.In h) (G : h.Ns mainGlobals mg) (c : obsY K = valY) : Ctx K mg where
  c := c
  gl := fun x e => PySem.W.mg_of X G (He.eqO_ok e)
  fr := fun x e => PySem.W.mg_none_of X G e
  gv := fun x v e => by
    unfold gvB at e
    split at e
    · rename_i u q
      exact ⟨u, PySem.W.mg_of X G q, He.relB_ok e⟩
    · cases e
theorem Ctx.glo (x : Ctx K mg) {y : Str} (hy : y ∈ gls) : mg y = some (.ref (He.ga K y)) := x.gl y (List.all_eq_true.mp (an (an (dy_fct x.c)).2).1 y hy)
theorem Ctx.cls (x : Ctx K mg) {y : Str} (hy : y ∈ clss) : mg y = some (.ref (He.ga K y)) := x.gl y (List.all_eq_true.mp (an (an (an (dy_fct x.c)).2).2).1 y hy)
theorem defA_of (x : Ctx K mg) (i j : Nat) {y : Str} {st : Stmt} {ps : List Str} (b : Bnd st y y ps) (hd : dys[i]? = some ⟨fun K => He.ga K y, y, y, st, []⟩) (hy : gls[j]? = some y) : DefA K mg y st ps [] := by
  obtain ⟨fd, F⟩ := dy_at x.c i hd
  exact ⟨_, fd, F, x.glo (List.mem_of_getElem? hy), binds_of b F⟩
theorem defA1_of (x : Ctx K mg) (i j n : Nat) {y : Str} {st : Stmt} {ps : List Str} (b : Bnd1 st y y ps n) (hn : n = ps.length) (hd : dys[i]? = some ⟨fun K => He.ga K y, y, y, st, [.non]⟩) (hy : gls[j]? = some y) : DefA K mg y st ps [.non] := by
  obtain ⟨fd, F⟩ := dy_at x.c i hd
  obtain ⟨ds, r, hb⟩ := F.binds1 (ps := ps) n 1 (by simp) (by simp [hn]) fun T kV doc pm an cdv ct us its h1 h2 => by
    have := b T kV doc pm an cdv ct us its h1 h2
    rw [show n + 1 - ps.length = 1 by omega] at this
    exact this
  cases r
  exact ⟨_, fd, F, x.glo (List.mem_of_getElem? hy), hb⟩
theorem methD_of (x : Ctx K mg) (i : Nat) {m q : Str} {st : Stmt} {ps : List Str} {pl : PySem.W.Frag → Addr} (b : Bnd st m q ps) (hd : dys[i]? = some ⟨pl, m, q, st, []⟩) : MethD K m q st ps [] (pl K) := by
  obtain ⟨fd, F⟩ := dy_at x.c i hd
  exact ⟨fd, F, binds_of b F⟩
end
section
variable {K : PySem.W.Frag} {mg : Str → Option Value}
theorem txOf (x : Ctx K mg) : Tx K mg where
  free := fun y hy => x.fr y (He.eqO_ok (List.all_eq_true.mp (an (dy_fct x.c)).1 y hy))
  cKinds := x.gv _ _ (an (an (an (an (dy_fct x.c)).2).2).2).1
  cRegs := x.gv _ _ (an (an (an (an (an (dy_fct x.c)).2).2).2).2).1
  cEvents := x.gv _ _ (an (an (an (an (an (an (dy_fct x.c)).2).2).2).2).2).1
  cAmount := x.gv _ _ (an (an (an (an (an (an (an (dy_fct x.c)).2).2).2).2).2).2).1
  cLetters := x.gv _ _ (an (an (an (an (an (an (an (an (dy_fct x.c)).2).2).2).2).2).2).2).1
  regs := ⟨He.ga K "REGISTERS", x.cls (List.mem_of_getElem? (i := 4) rfl), fun H => by
    have e := He.tupB_ok (an (an (an (an (an (an (an (an (an (dy_fct x.c)).2).2).2).2).2).2).2).2).1 H
    rw [List.map_map] at e
    exact e⟩
  isInteger := defA_of x 0 0 bnIsInteger rfl rfl
  isKind := defA_of x 1 1 bnIsKind rfl rfl
  isAmount := defA_of x 2 2 bnIsAmount rfl rfl
  isEvent := defA_of x 3 3 bnIsEvent rfl rfl
  firstWrong := defA1_of x 4 4 2 bnFirstWrong rfl rfl rfl
  checkLog := defA1_of x 5 5 2 bnCheckLog rfl rfl rfl
  checkAmount := defA_of x 6 6 bnCheckAmount rfl rfl
  termsOf := defA_of x 7 7 bnTermsOf rfl rfl
  sourceOf := defA_of x 8 8 bnSourceOf rfl rfl
  termFrom := defA_of x 9 9 bnTermFrom rfl rfl
  bestOf := defA_of x 10 10 bnBestOf rfl rfl
  stepped := defA_of x 11 11 bnStepped rfl rfl
  readOut := defA_of x 12 12 bnReadOut rfl rfl
  firstFall := defA_of x 13 13 bnFirstFall rfl rfl
  checkKinds := defA_of x 14 14 bnCheckKinds rfl rfl
  checkStart := defA_of x 15 15 bnCheckStart rfl rfl
  isRule := defA_of x 16 16 bnIsRule rfl rfl
  checkRules := defA_of x 17 17 bnCheckRules rfl rfl
  checkResult := defA_of x 18 18 bnCheckResult rfl rfl
  made := defA_of x 19 19 bnMade rfl rfl
  checkStatistic := defA_of x 20 20 bnCheckStatistic rfl rfl
  checkTwo := defA_of x 21 21 bnCheckTwo rfl rfl
  raised := defA_of x 22 22 bnRaised rfl rfl
  raisedRule := defA_of x 23 23 bnRaisedRule rfl rfl
  contents := defA_of x 24 24 bnContents rfl rfl
  results := defA_of x 25 25 bnResults rfl rfl
theorem stx (x : Ctx K mg) : stB K "Greatest" "greatest" = true ∧ (stB K "Least" "least" = true ∧ ctB K = true) := by
  have e := (an (an (an (an (an (an (an (an (an (dy_fct x.c)).2).2).2).2).2).2).2).2).2
  exact ⟨(an e).1, an (an e).2⟩
theorem stg (x : Ctx K mg) (g : Bool) : stB K (clsN g) (sideS g) = true := by
  cases g
  · exact (stx x).2.1
  · exact (stx x).1
def tcOf (x : Ctx K mg) : Tc K mg where
  tx := txOf x
  C := fun g => He.ga K (clsN g)
  S := He.ga K "Statistic"
  fInit := oFn "Greatest" "__init__" K
  fCall := oFn "Greatest" "__call__" K
  fGet := oFn "Greatest" "__getitem__" K
  fOr := oFn "Greatest" "__or__" K
  fTurned := oFn "Greatest" "turned" K
  fRes := oUn "Greatest" "result" "property" K
  pRes := oFn "Greatest" "result" K
  mgC := fun g => by
    cases g
    · exact x.cls (List.mem_of_getElem? (i := 1) rfl)
    · exact x.cls (List.mem_of_getElem? (i := 0) rfl)
  mgS := x.cls (List.mem_of_getElem? (i := 2) rfl)
  cls := fun g => clB_ok (an (stg x g)).1
  ty := fun g => insB_ok (an (an (stg x g)).2).1
  sub := fun g => of_decide_eq_true (an (an (an (stg x g)).2).2).1
  side := fun g => cnB_ok (an (an (an (an (stg x g)).2).2).2).1 (by decide +kernel)
  no := fun g => noB_ok (an (an (an (an (an (stg x g)).2).2).2).2).1
  make := fun g => mkB_ok (an (an (an (an (an (an (stg x g)).2).2).2).2).2).1
  call := fun g => ⟨atB_ok (an (an (an (an (an (an (an (an (stg x g)).2).2).2).2).2).2).1).1, (an (an (an (an (an (an (an (an (an (stg x g)).2).2).2).2).2).2).1).2).1, (an (an (an (an (an (an (an (an (an (stg x g)).2).2).2).2).2).2).1).2).2⟩
  get := fun g => ⟨atB_ok (an (an (an (an (an (an (an (an (an (stg x g)).2).2).2).2).2).2).2).1).1, (an (an (an (an (an (an (an (an (an (an (stg x g)).2).2).2).2).2).2).2).1).2).1, (an (an (an (an (an (an (an (an (an (an (stg x g)).2).2).2).2).2).2).2).1).2).2⟩
  or_ := fun g => ⟨atB_ok (an (an (an (an (an (an (an (an (an (an (stg x g)).2).2).2).2).2).2).2).2).1).1, (an (an (an (an (an (an (an (an (an (an (an (stg x g)).2).2).2).2).2).2).2).2).1).2).1, (an (an (an (an (an (an (an (an (an (an (stg x g)).2).2).2).2).2).2).2).2).2).1⟩
  turned := fun g => mtB_ok (an (an (an (an (an (an (an (an (an (an (an (stg x g)).2).2).2).2).2).2).2).2).2).2).1
  res := fun g => prB_ok (an (an (an (an (an (an (an (an (an (an (an (an (stg x g)).2).2).2).2).2).2).2).2).2).2).2).1
  dInit := methD_of x 48 bnSInit rfl
  dCall := methD_of x 49 bnSCall rfl
  dGet := methD_of x 50 bnSGetitem rfl
  dOr := methD_of x 51 bnSOr rfl
  dTurned := methD_of x 52 bnSTurned rfl
  dRes := methD_of x 53 bnSResult rfl
def tkOf (x : Ctx K mg) : Tk K mg where
  tc := tcOf x
  D := He.ga K "Counter"
  kInit := oFn "Counter" "__init__" K
  kRes := oUn "Counter" "result" "property" K
  kFollow := oFn "Counter" "follow" K
  qRes := oFn "Counter" "result" K
  mgD := x.cls (List.mem_of_getElem? (i := 3) rfl)
  cls := clB_ok (an (stx x).2.2).1
  no := noB_ok (an (an (stx x).2.2).2).1
  make := mkB_ok (an (an (an (stx x).2.2).2).2).1
  res := prB_ok (an (an (an (an (stx x).2.2).2).2).2).1
  follow := mtB_ok (an (an (an (an (stx x).2.2).2).2).2).2
  dInit := by
    obtain ⟨fd, F⟩ := dy_at x.c 57 (d := ⟨oFn "Counter" "__init__", "__init__", "Counter.__init__", sCInit, [.non]⟩) rfl
    obtain ⟨ds, r, hb⟩ := F.binds1 (ps := pCInit) 2 0 (by simp) rfl fun T kV doc pm an cdv ct us its h1 h2 => bnCInit T kV doc pm an cdv ct us its h1 h2
    exact ⟨fd, ds, F, r, hb⟩
  dRes := methD_of x 58 bnCResult rfl
  dFollow := methD_of x 59 bnCFollow rfl
def tmOf (x : Ctx K mg) : Tm2 K mg where
  tk := tkOf x
  mc := .type "type"
  pPeak := oFn "Greatest" "peak" K
  fPeak := oUn "Greatest" "peak" "classmethod" K
  pBestRun := oFn "Greatest" "best_run" K
  fBestRun := oUn "Greatest" "best_run" "classmethod" K
  pLast := oFn "Greatest" "last" K
  fLast := oUn "Greatest" "last" "classmethod" K
  rd := fun g => rdB_ok (an (an (an (an (an (an (an (an (an (an (an (an (an (stg x g)).2).2).2).2).2).2).2).2).2).2).2).2).1
  peak := fun g => cmB_ok (an (an (an (an (an (an (an (an (an (an (an (an (an (an (stg x g)).2).2).2).2).2).2).2).2).2).2).2).2).2).1
  bestRun := fun g => cmB_ok (an (an (an (an (an (an (an (an (an (an (an (an (an (an (an (stg x g)).2).2).2).2).2).2).2).2).2).2).2).2).2).2).1
  last := fun g => cmB_ok (an (an (an (an (an (an (an (an (an (an (an (an (an (an (an (stg x g)).2).2).2).2).2).2).2).2).2).2).2).2).2).2).2
  dPeak := methD_of x 54 bnSPeak rfl
  dBestRun := methD_of x 55 bnSBestRun rfl
  dLast := methD_of x 56 bnSLast rfl
def tlOf (x : Ctx K mg) : Tl K mg where
  tm := tmOf x
  cell := defA_of x 26 26 bnLawCell rfl rfl
  pool := defA_of x 27 27 bnLawPool rfl rfl
  draw := defA_of x 28 28 bnLawDraw rfl rfl
  terms := defA_of x 29 29 bnLawTerms rfl rfl
  source := defA_of x 30 30 bnLawSource rfl rfl
  some_ := defA_of x 31 31 bnLawSome rfl rfl
  named := defA_of x 32 32 bnLawNamed rfl rfl
  plain := defA_of x 33 33 bnLawPlain rfl rfl
  of_ := defA_of x 34 34 bnLawOf rfl rfl
  best := defA_of x 35 35 bnLawBest rfl rfl
  step := defA_of x 36 36 bnLawStep rfl rfl
  end_ := defA_of x 37 37 bnLawEnd rfl rfl
  events := defA_of x 38 38 bnLawEvents rfl rfl
  allResults := defA_of x 39 39 bnLawAllResults rfl rfl
  times := defA_of x 40 40 bnLawTimes rfl rfl
  raised := defA_of x 41 41 bnLawRaised rfl rfl
  walked := defA_of x 42 42 bnLawWalked rfl rfl
  toldRight := defA_of x 43 43 bnLawToldRight rfl rfl
  bothRight := defA_of x 44 44 bnLawBothRight rfl rfl
  right := defA_of x 45 45 bnLawRight rfl rfl
  byHand := defA_of x 46 46 bnLawByHand rfl rfl
theorem lawA (x : Ctx K mg) : DefA K mg "law" sLaw pLaw [] := defA_of x 47 47 bnLaw rfl rfl
end
end TP
set_option Elab.async false
set_option linter.all false
set_option maxRecDepth 100000
set_option maxHeartbeats 0
namespace HeadT
open PySem PySem.W PySem.Calls PyProof.Rows
abbrev R : OpenRow := OpenLaw.row PySem.Challenge.rw_tallypeaks_k16_whole_results_of_beginnin
abbrev qv : Program := view R.prog [89]
def n1 : List PySem.Str := ["_wall", "TallyError", "InvalidKinds", "InvalidStart", "InvalidRules", "InvalidResult", "InvalidLog", "InvalidRegisters", "InvalidAmount", "InvalidText", "NotAStatistic", "SearchError", "UnknownKind", "ConflictError", "NotComparable", "LimitError", "TooMany", "MAX_KINDS", "MAX_REGISTERS", "MAX_EVENTS", "MAX_AMOUNT", "LETTERS", "is_integer", "is_kind", "is_amount", "is_event", "first_wrong", "check_log", "check_amount", "REGISTERS"]
def n2 : List PySem.Str := ["terms_of", "source_of", "term_from", "best_of", "stepped", "read_out", "first_fall", "check_kinds", "check_start", "is_rule", "check_rules", "check_result", "Statistic", "Greatest", "Least", "made", "check_statistic", "check_two", "raised", "raised_rule", "lines_of", "read_words", "read_terms", "read_rule", "line_at", "read_kinds", "read_start", "read_lines"]
def n3 : List PySem.Str := ["check_registers", "contents", "results", "Counter", "_law_cell", "_law_pool", "_law_draw", "_law_terms", "_law_source", "_law_some", "_law_named", "_law_plain", "_law_of", "_law_best", "_law_step", "_law_end", "_law_events", "_law_all_results", "_law_times", "_law_raised", "_law_walked", "_law_told_right", "_law_both_right", "_law_right", "_law_by_hand"]
def names : List PySem.Str := n1 ++ n2 ++ n3
theorem run (w : World) : HandSHeadRun.RunEq R qv TP.hookY TP.obY 8200 names w := by
  intro os
  kernel_rfl
end HeadT
set_option Elab.async false
set_option linter.all false
set_option maxRecDepth 100000
set_option maxHeartbeats 4000000
/-! the end: the call of law behind the top -/
namespace TP
open PySem PySem.Spec PyProof.Rows L2
/-- what is followed: the script alone, which is no object of K -/
def Scr (K : PySem.W.Frag) (a : Addr) (H : Hp) : Prop := ∀ b u, H b = some u → b = a ∧ K.lookup a = none ∧ ∃ o xs, u = .frz o (.lst xs)
section
variable {P : Program} {w : World} {K : PySem.W.Frag} {mg mb : Str → Option Value} {k : Nat} {fa a : Addr} {fd : FuncData} {x : Str} {sp : Sp} {s1 : Shared} {vs : List Value} {ns : List Int}
theorem end_core (KX : K.In s1.heap) (hns : s1.heap.Ns mainGlobals mg) (hbs : s1.heap.Ns builtinsNs mb) (hbt : ∀ y : Str, y ≠ "__name__" → mb y = bootBuiltins y) (hlm : s1.heap.NoLimit) (hgn : s1.gens = #[])
    (hal : s1.heap.get? a = some { cls := .type "list", data := .seq vs.toArray }) (hr : Room k callerA)
    (F : ∀ base : Heap, K.In base → base.Ns mainGlobals mg → FnG P w K mg base k fa fd [x] sp) (hbd : ∀ (s : Shared) (u : Value), BindsTo s fd ⟨[u], []⟩ [(x, u)])
    {H : Hp} (hS : Scr K a H) (hok : HOk P w H s1.heap) (hsp : sp [.ref a] H (fun v _ => v = .bl true) E0) :
    codeAny (model P w) callerA (.call (.ref fa) ⟨[.ref a], []⟩) (fun r s' => r = .ok (.ret (.bool true)) ∧ OldK s1.heap s'.heap ∧ s'.os = s1.os ∧ AllBare s'.gens) s1 := by
  -- a names table is no list: it is not followed
  have dic : ∀ {b : Addr} {o : Obj} {es : Array DictEntry} {ep : Nat}, s1.heap.get? b = some o → o.data = .dict es ep → H b = none := by
    intro b o es ep e d
    cases q : H b with
    | none => rfl
    | some u =>
      obtain ⟨rfl, -, -⟩ := hS b u q
      rw [hal] at e
      cases e
      cases (show Data.seq vs.toArray _ = Data.dict es ep from d)
  have low : ∀ {b : Addr} {m : Str → Option Value}, s1.heap.Ns b m → (hidT s1.heap H).Ns b m := by
    rintro b m ⟨o, es, ep, e, d, r⟩
    exact ⟨o, es, ep, hidT_get e (dic e d), d, r⟩
  have kin : K.In (hidT s1.heap H) := by
    intro b o e
    refine hidT_get (KX b o e) ?_
    cases q : H b with
    | none => rfl
    | some u =>
      obtain ⟨rfl, z, -⟩ := hS b u q
      rw [z] at e
      cases e
  obtain ⟨mc, l1, l2⟩ := hlm
  have md : Mod K mg (hidT s1.heap H) := ⟨kin, low hns, ⟨mb, low hbs, hbt⟩, ⟨mc, low l1, l2⟩⟩
  have ev : Env0 P w K mg (hidT s1.heap H) callerA [] s1 H := ⟨rfl, md, fun b o e => of_hidT e, Nat.le_of_eq (hidT_size _ _), trivial, fun b hb => absurd (show b ∈ ([] : List Addr) from hb) (by simp), hok, .of_eq hgn⟩
  refine codeAny_mono ((F _ kin (low hns)).run callerA [] s1 H ⟨[.ref a], []⟩ [.ref a] [.ref a] _ _ rfl hr ev (hbd s1 (.ref a)) (.cons rfl .nil) hsp) fun r s' hq => ?_
  match r, hq with
  | .ok (.ret u), hq =>
    obtain ⟨v, H', os, br, un, hok', rv, rfl⟩ := hq
    have eu : u = Value.bool true := rv
    subst eu
    refine ⟨rfl, OldK.of_keep fun b o e => ?_, os, br⟩
    cases q : H b with
    | none => exact un.keep b o e q (by intro z; exact absurd (show b ∈ ([] : List Addr) from z) (by simp)) (by simp)
    | some u =>
      obtain ⟨-, -, ob, xs, rfl⟩ := hS b u q
      obtain ⟨g1, -⟩ := hok b _ q
      obtain ⟨g2, -⟩ := hok' b _ (un.frzs b ob _ q)
      rw [g1] at e
      cases e
      exact g2
theorem end_call (KX : K.In s1.heap) (hns : s1.heap.Ns mainGlobals mg) (hbs : s1.heap.Ns builtinsNs mb) (hbt : ∀ y : Str, y ≠ "__name__" → mb y = bootBuiltins y) (hlm : s1.heap.NoLimit) (hgn : s1.gens = #[])
    (hal : s1.heap.get? a = some { cls := .type "list", data := .seq vs.toArray }) (hi : IntsAre vs ns) (hl : ns.length ≤ sizeLine) (hr : Room k callerA)
    (F : ∀ base : Heap, K.In base → base.Ns mainGlobals mg → FnG P w K mg base k fa fd [x] sp) (hbd : ∀ (s : Shared) (u : Value), BindsTo s fd ⟨[u], []⟩ [(x, u)])
    (hsp : ∀ H : Hp, SqL K H a (ns.map V.int) → sp [.ref a] H (fun v _ => v = .bl true) E0) :
    codeAny (model P w) callerA (.call (.ref fa) ⟨[.ref a], []⟩) (fun r s' => r = .ok (.ret (.bool true)) ∧ OldK s1.heap s'.heap ∧ s'.os = s1.os ∧ AllBare s'.gens) s1 := by
  have rv := vals_ints hi
  have nl := hi.length
  cases hk : K.lookup a with
  | some o =>
    have e := KX a o hk
    rw [hal] at e
    cases e
    exact end_core KX hns hbs hbt hlm hgn hal hr F hbd (H := fun _ => none) (fun b u z => by cases z) (fun b u z => by cases z) (hsp _ (.inr ⟨_, vs.toArray, _, hk, rfl, rfl, rfl, by rw [List.size_toArray, nl]; exact hl, by simpa using rv⟩))
  | none =>
    have only : ∀ (b : Addr) (u : HO), (if b = a then some (HO.frz { cls := .type "list", data := .seq vs.toArray } (.lst (ns.map V.int))) else none) = some u → b = a ∧ u = .frz { cls := .type "list", data := .seq vs.toArray } (.lst (ns.map V.int)) := fun b u z => by
      by_cases q : b = a
      · rw [if_pos q] at z
        exact ⟨q, (Option.some.inj z).symm⟩
      · rw [if_neg q] at z
        cases z
    refine end_core KX hns hbs hbt hlm hgn hal hr F hbd (H := fun b => if b = a then some (.frz { cls := .type "list", data := .seq vs.toArray } (.lst (ns.map V.int))) else none) (fun b u z => ?_) (fun b u z => ?_) (hsp _ (.inl (.inr ⟨{ cls := .type "list", data := .seq vs.toArray }, if_pos rfl⟩)))
    · obtain ⟨rfl, rfl⟩ := only b u z
      exact ⟨rfl, hk, _, _, rfl⟩
    · obtain ⟨rfl, rfl⟩ := only b u z
      exact ⟨hal, by rw [List.length_map]; exact hl, vs, _, rv, hal⟩
end
theorem law_walk {l : PySem.W.OpenLaw} {n : Nat} {q : Program} {loose : List Str} {XP : (Str → Option Value) → Heap → Prop} {d : DefRec} (hn : l.most = some n) (hn2 : n ≤ sizeLine) (hdf : d.params.defaults = []) (hnm : d.name = "law") :
    PySem.W.WalkO q loose XP hookY.says l.row.toRowW d [] (fun f vs => PySem.call f vs) := by
  refine Att.attach_call hn hdf fun w s0 s1 mg mb fa o pm cd doc a vs ns G Y ho hd hcd hmg hobj hints hlen hg => ?_
  obtain ⟨K, KX, c⟩ := Y
  have x := ctx_of KX G.T.g c
  obtain ⟨f, fd, F, hm, hb⟩ := (lawA x).ex
  rw [hnm, hm] at hmg
  cases hmg
  refine end_call (x := "_law_cells") (sp := spLaw K) KX G.T.g G.T.b G.T.builtins G.T.nolimit hg hobj hints (Nat.le_trans hlen hn2) (k := 11) ⟨rfl, by decide, by decide⟩ (fun base _ _ => g_law (tlOf x) F) (fun s u => ?_) (fun H hS => ⟨a, ns, rfl, hS, fun _ => rfl⟩)
  exact FunD.bindsA (ps := pLaw) F (fun kV doc pm an cdv ct us hl => bnLaw kV doc pm an cdv ct us hl) s [u] rfl
end TP
set_option Elab.async false
set_option linter.all false
set_option maxRecDepth 100000
set_option maxHeartbeats 0
open PySem PySem.W PySem.Calls PyProof.Rows
theorem PySem.Challenge.cw_tallypeaks_k16_whole_results_of_beginnin_holds : PySem.Challenge.rw_tallypeaks_k16_whole_results_of_beginnin.Holds := by
  w_on; o_law
  refine HandSHeadRun.head_any (r := HeadT.R) (q := HeadT.qv) (H := TP.hookY) (ob := TP.obY) (M := 8200) (loose := HeadT.names) (d := HandSHeadRun.topDef HeadT.R.prog 89) (kwd := []) TP.obY_eq (by kernel_rfl) (fun s => by kernel_rfl) HeadT.run (by kernel_rfl) (by kernel_rfl) (by kernel_rfl) (by rfl) (by first | assumption | decide +kernel) (by decide +kernel) ⟨rfl, rfl, rfl, rfl, rfl, by decide +kernel⟩ ?hw ?hc
  case hw => w_witness2
  case hc => exact TP.law_walk (l := PySem.Challenge.rw_tallypeaks_k16_whole_results_of_beginnin) (n := 63) rfl (by decide) (by kernel_rfl) (by kernel_rfl)
