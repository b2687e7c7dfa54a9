import PyProof.Rows.All
import Wide.All
import OpenK.AllK
import Wide.FinOn
import HandS.ForMost
import HandS.ForExc
import HandS.DictTup
import HandS.Walk
import HandS.IsInst
import HandS.TupAny
import HandS.TupMul
import HandS.TupLen
import HandS.TryMany
import HandS.ExcField
import HandS.Defaults
import HandS.MakeKw
import HandS.Lambda
import HandS.EndTab
import HandS.Flow
import HandS.Conv
import HandS.RaiseMore
import HandS.CallSlots
import HandS.WordsExc
import HandS.Steps
import HandS.More
import HandS.RaiseOp
import HandS.WrittenGet
import KE.KExcSuper
import HandS.ExcInit
import KE.KTryMore
import HandS.HeadHook4
import HandS.Head2
import KE.KStateDown
import HandS.Head0
import HandS.Head1
import HandS.MakeKwOnly
import HandS.TupSets
import KE.GoesEnum
import KE.KDictDisplayH
import KE.KDictCopyH
import HandS.SortRule
import HandS.NamedTupSort
import HandS.Small
import PyProof.CallFns
import PyProof.StrLawsRepr
import PyProof.ReprRoads
import HandS.ExcOwn
import HandS.EndBits
import PySem.Challenge.RW_houseslessties_k51_whole_a_desk_of_one_n

set_option Elab.async false
set_option maxRecDepth 100000
namespace Hl
open PySem L2
def topS (i : Nat) : Stmt := PySem.Challenge.pw_houseslessties_k51_whole_a_desk_of_one_n.main.body.getD i (.Pass ⟨0, 0, 0, 0⟩)
abbrev sIsInteger : Stmt := topS 16
abbrev nIsInteger : List Str := ["value"]
abbrev pIsInteger : List Str := ["value"]
theorem scIsInteger : FnScope nIsInteger pIsInteger (defScope sIsInteger) := ⟨rfl, rfl, rfl, by decide +kernel, rfl, by decide +kernel, by decide +kernel⟩
abbrev sIsNumber : Stmt := topS 17
abbrev nIsNumber : List Str := ["value"]
abbrev pIsNumber : List Str := ["value"]
theorem scIsNumber : FnScope nIsNumber pIsNumber (defScope sIsNumber) := ⟨rfl, rfl, rfl, by decide +kernel, rfl, by decide +kernel, by decide +kernel⟩
abbrev sIsBelow : Stmt := topS 18
abbrev nIsBelow : List Str := ["value", "most"]
abbrev pIsBelow : List Str := ["value", "most"]
theorem scIsBelow : FnScope nIsBelow pIsBelow (defScope sIsBelow) := ⟨rfl, rfl, rfl, by decide +kernel, rfl, by decide +kernel, by decide +kernel⟩
abbrev sIsWithin : Stmt := topS 19
abbrev nIsWithin : List Str := ["value", "least", "most"]
abbrev pIsWithin : List Str := ["value", "least", "most"]
theorem scIsWithin : FnScope nIsWithin pIsWithin (defScope sIsWithin) := ⟨rfl, rfl, rfl, by decide +kernel, rfl, by decide +kernel, by decide +kernel⟩
abbrev sIsSequence : Stmt := topS 20
abbrev nIsSequence : List Str := ["value"]
abbrev pIsSequence : List Str := ["value"]
theorem scIsSequence : FnScope nIsSequence pIsSequence (defScope sIsSequence) := ⟨rfl, rfl, rfl, by decide +kernel, rfl, by decide +kernel, by decide +kernel⟩
abbrev sIsText : Stmt := topS 21
abbrev nIsText : List Str := ["value"]
abbrev pIsText : List Str := ["value"]
theorem scIsText : FnScope nIsText pIsText (defScope sIsText) := ⟨rfl, rfl, rfl, by decide +kernel, rfl, by decide +kernel, by decide +kernel⟩
abbrev sIsTable : Stmt := topS 23
abbrev nIsTable : List Str := ["value", "states", "state"]
abbrev pIsTable : List Str := ["value", "states"]
theorem scIsTable : FnScope nIsTable pIsTable (defScope sIsTable) := ⟨rfl, rfl, rfl, by decide +kernel, rfl, by decide +kernel, by decide +kernel⟩
abbrev sCheckTables : Stmt := topS 24
abbrev nCheckTables : List Str := ["value", "states", "at", "table"]
abbrev pCheckTables : List Str := ["value"]
theorem scCheckTables : FnScope nCheckTables pCheckTables (defScope sCheckTables) := ⟨rfl, rfl, rfl, by decide +kernel, rfl, by decide +kernel, by decide +kernel⟩
abbrev sMachI : Stmt := inClass (topS 25) 0
abbrev nMachI : List Str := ["self", "tables"]
abbrev pMachI : List Str := ["self", "tables"]
theorem scMachI : FnScope nMachI pMachI (defScope sMachI) := ⟨rfl, rfl, rfl, by decide +kernel, rfl, by decide +kernel, by decide +kernel⟩
abbrev sNeedState : Stmt := topS 26
abbrev nNeedState : List Str := ["machine", "state"]
abbrev pNeedState : List Str := ["machine", "state"]
theorem scNeedState : FnScope nNeedState pNeedState (defScope sNeedState) := ⟨rfl, rfl, rfl, by decide +kernel, rfl, by decide +kernel, by decide +kernel⟩
abbrev sNeedDeed : Stmt := topS 27
abbrev nNeedDeed : List Str := ["machine", "deed"]
abbrev pNeedDeed : List Str := ["machine", "deed"]
theorem scNeedDeed : FnScope nNeedDeed pNeedDeed (defScope sNeedDeed) := ⟨rfl, rfl, rfl, by decide +kernel, rfl, by decide +kernel, by decide +kernel⟩
abbrev sPairRows : Stmt := topS 29
abbrev nPairRows : List Str := ["machine", "one", "other", "found", "waiting", "at", "pair", "deed", "table", "after"]
abbrev pPairRows : List Str := ["machine", "one", "other"]
theorem scPairRows : FnScope nPairRows pPairRows (defScope sPairRows) := ⟨rfl, rfl, rfl, by decide +kernel, rfl, by decide +kernel, by decide +kernel⟩
abbrev sEndsOf : Stmt := topS 30
abbrev nEndsOf : List Str := ["machine", "archive", "here", "there", "rows", "found", "pair", "row"]
abbrev pEndsOf : List Str := ["machine", "archive", "here", "there"]
theorem scEndsOf : FnScope nEndsOf pEndsOf (defScope sEndsOf) := ⟨rfl, rfl, rfl, by decide +kernel, rfl, by decide +kernel, by decide +kernel⟩
abbrev sJoin : Stmt := topS 31
abbrev nJoin : List Str := ["machine", "archive", "here", "there", "ends"]
abbrev pJoin : List Str := ["machine", "archive", "here", "there"]
theorem scJoin : FnScope nJoin pJoin (defScope sJoin) := ⟨rfl, rfl, rfl, by decide +kernel, rfl, by decide +kernel, by decide +kernel⟩
abbrev sIsPair : Stmt := topS 33
abbrev nIsPair : List Str := ["value", "houses", "house"]
abbrev pIsPair : List Str := ["value", "houses"]
theorem scIsPair : FnScope nIsPair pIsPair (defScope sIsPair) := ⟨rfl, rfl, rfl, by decide +kernel, rfl, by decide +kernel, by decide +kernel⟩
abbrev sCheckTies : Stmt := topS 34
abbrev nCheckTies : List Str := ["houses", "ties", "at", "tie"]
abbrev pCheckTies : List Str := ["houses", "ties"]
theorem scCheckTies : FnScope nCheckTies pCheckTies (defScope sCheckTies) := ⟨rfl, rfl, rfl, by decide +kernel, rfl, by decide +kernel, by decide +kernel⟩
abbrev sWebI : Stmt := inClass (topS 35) 0
abbrev nWebI : List Str := ["self", "houses", "ties"]
abbrev pWebI : List Str := ["self", "houses", "ties"]
theorem scWebI : FnScope nWebI pWebI (defScope sWebI) := ⟨rfl, rfl, rfl, by decide +kernel, rfl, by decide +kernel, by decide +kernel⟩
abbrev sNeedHouse : Stmt := topS 36
abbrev nNeedHouse : List Str := ["web", "house"]
abbrev pNeedHouse : List Str := ["web", "house"]
theorem scNeedHouse : FnScope nNeedHouse pNeedHouse (defScope sNeedHouse) := ⟨rfl, rfl, rfl, by decide +kernel, rfl, by decide +kernel, by decide +kernel⟩
abbrev sNeedTie : Stmt := topS 37
abbrev nNeedTie : List Str := ["web", "tie"]
abbrev pNeedTie : List Str := ["web", "tie"]
theorem scNeedTie : FnScope nNeedTie pNeedTie (defScope sNeedTie) := ⟨rfl, rfl, rfl, by decide +kernel, rfl, by decide +kernel, by decide +kernel⟩
abbrev sOtherEnd : Stmt := topS 38
abbrev nOtherEnd : List Str := ["web", "tie", "house", "here", "there"]
abbrev pOtherEnd : List Str := ["web", "tie", "house"]
theorem scOtherEnd : FnScope nOtherEnd pOtherEnd (defScope sOtherEnd) := ⟨rfl, rfl, rfl, by decide +kernel, rfl, by decide +kernel, by decide +kernel⟩
abbrev sTiesAt : Stmt := topS 39
abbrev nTiesAt : List Str := ["web", "house", "tie", "pair"]
abbrev pTiesAt : List Str := ["web", "house"]
theorem scTiesAt : FnScope nTiesAt pTiesAt (defScope sTiesAt) := ⟨rfl, rfl, rfl, by decide +kernel, rfl, by decide +kernel, by decide +kernel⟩
abbrev sWithItem : Stmt := topS 41
abbrev nWithItem : List Str := ["row", "at", "value"]
abbrev pWithItem : List Str := ["row", "at", "value"]
theorem scWithItem : FnScope nWithItem pWithItem (defScope sWithItem) := ⟨rfl, rfl, rfl, by decide +kernel, rfl, by decide +kernel, by decide +kernel⟩
abbrev sStoreI : Stmt := inClass (topS 42) 0
abbrev nStoreI : List Str := ["self", "machine", "web", "first"]
abbrev pStoreI : List Str := ["self", "machine", "web", "first"]
theorem scStoreI : FnScope nStoreI pStoreI (defScope sStoreI) := ⟨rfl, rfl, rfl, by decide +kernel, rfl, by decide +kernel, by decide +kernel⟩
abbrev sLeaveWalk : Stmt := inClass (topS 42) 1
abbrev nLeaveWalk : List Str := ["self"]
abbrev pLeaveWalk : List Str := ["self"]
theorem scLeaveWalk : FnScope nLeaveWalk pLeaveWalk (defScope sLeaveWalk) := ⟨rfl, rfl, rfl, by decide +kernel, rfl, by decide +kernel, by decide +kernel⟩
abbrev sCount : Stmt := inClass (topS 42) 2
abbrev nCount : List Str := ["self", "step", "houses", "house"]
abbrev pCount : List Str := ["self", "step", "houses"]
theorem scCount : FnScope nCount pCount (defScope sCount) := ⟨rfl, rfl, rfl, by decide +kernel, rfl, by decide +kernel, by decide +kernel⟩
abbrev sDo : Stmt := inClass (topS 42) 3
abbrev nDo : List Str := ["self", "house", "deed", "state"]
abbrev pDo : List Str := ["self", "house", "deed"]
theorem scDo : FnScope nDo pDo (defScope sDo) := ⟨rfl, rfl, rfl, by decide +kernel, rfl, by decide +kernel, by decide +kernel⟩
abbrev sMeet : Stmt := inClass (topS 42) 4
abbrev nMeet : List Str := ["self", "tie", "one", "other", "state", "unread", "house"]
abbrev pMeet : List Str := ["self", "tie"]
theorem scMeet : FnScope nMeet pMeet (defScope sMeet) := ⟨rfl, rfl, rfl, by decide +kernel, rfl, by decide +kernel, by decide +kernel⟩
abbrev sRead : Stmt := inClass (topS 42) 5
abbrev nRead : List Str := ["self", "house", "tie"]
abbrev pRead : List Str := ["self", "house"]
theorem scRead : FnScope nRead pRead (defScope sRead) := ⟨rfl, rfl, rfl, by decide +kernel, rfl, by decide +kernel, by decide +kernel⟩
abbrev sPutBack : Stmt := inClass (topS 42) 6
abbrev nPutBack : List Str := ["self"]
abbrev pPutBack : List Str := ["self"]
theorem scPutBack : FnScope nPutBack pPutBack (defScope sPutBack) := ⟨rfl, rfl, rfl, by decide +kernel, rfl, by decide +kernel, by decide +kernel⟩
abbrev sNumbersText : Stmt := topS 45
abbrev nNumbersText : List Str := ["numbers", "number"]
abbrev pNumbersText : List Str := ["numbers"]
theorem scNumbersText : FnScope nNumbersText pNumbersText (defScope sNumbersText) := ⟨rfl, rfl, rfl, by decide +kernel, rfl, by decide +kernel, by decide +kernel⟩
abbrev sTold : Stmt := topS 51
abbrev nTold : List Str := ["word", "sign"]
abbrev pTold : List Str := ["word"]
theorem scTold : FnScope nTold pTold (defScope sTold) := ⟨rfl, rfl, rfl, by decide +kernel, rfl, by decide +kernel, by decide +kernel⟩
abbrev sCopiesText : Stmt := topS 52
abbrev nCopiesText : List Str := ["copies", "state"]
abbrev pCopiesText : List Str := ["copies"]
theorem scCopiesText : FnScope nCopiesText pCopiesText (defScope sCopiesText) := ⟨rfl, rfl, rfl, by decide +kernel, rfl, by decide +kernel, by decide +kernel⟩
abbrev sDeskI : Stmt := inClass (topS 53) 0
abbrev nDeskI : List Str := ["self", "machine", "web", "first"]
abbrev pDeskI : List Str := ["self", "machine", "web", "first"]
theorem scDeskI : FnScope nDeskI pDeskI (defScope sDeskI) := ⟨rfl, rfl, rfl, by decide +kernel, rfl, by decide +kernel, by decide +kernel⟩
abbrev sSayPlain : Stmt := inClass (topS 53) 1
abbrev nSayPlain : List Str := ["self", "word", "store"]
abbrev pSayPlain : List Str := ["self", "word"]
theorem scSayPlain : FnScope nSayPlain pSayPlain (defScope sSayPlain) := ⟨rfl, rfl, rfl, by decide +kernel, rfl, by decide +kernel, by decide +kernel⟩
abbrev sSayTold : Stmt := inClass (topS 53) 2
abbrev nSayTold : List Str := ["self", "word", "numbers"]
abbrev pSayTold : List Str := ["self", "word", "numbers"]
theorem scSayTold : FnScope nSayTold pSayTold (defScope sSayTold) := ⟨rfl, rfl, rfl, by decide +kernel, rfl, by decide +kernel, by decide +kernel⟩
abbrev sSay : Stmt := inClass (topS 53) 3
abbrev nSay : List Str := ["self", "line", "words", "numbers", "word"]
abbrev pSay : List Str := ["self", "line"]
theorem scSay : FnScope nSay pSay (defScope sSay) := ⟨rfl, rfl, rfl, by decide +kernel, rfl, by decide +kernel, by decide +kernel⟩
abbrev sLBox : Stmt := topS 55
abbrev nLBox : List Str := ["_law_script", "_law_k", "_law_cell", "_law_great"]
abbrev pLBox : List Str := ["_law_script", "_law_k"]
theorem scLBox : FnScope nLBox pLBox (defScope sLBox) := ⟨rfl, rfl, rfl, by decide +kernel, rfl, by decide +kernel, by decide +kernel⟩
abbrev sLTake : Stmt := topS 56
abbrev nLTake : List Str := ["_law_box_here", "_law_many", "_law_digit", "_law_raw"]
abbrev pLTake : List Str := ["_law_box_here", "_law_many"]
theorem scLTake : FnScope nLTake pLTake (defScope sLTake) := ⟨rfl, rfl, rfl, by decide +kernel, rfl, by decide +kernel, by decide +kernel⟩
abbrev sLPick : Stmt := topS 57
abbrev nLPick : List Str := ["_law_box_here", "_law_some"]
abbrev pLPick : List Str := ["_law_box_here", "_law_some"]
theorem scLPick : FnScope nLPick pLPick (defScope sLPick) := ⟨rfl, rfl, rfl, by decide +kernel, rfl, by decide +kernel, by decide +kernel⟩
abbrev sLTables : Stmt := topS 59
abbrev nLTables : List Str := ["_law_box_here", "_law_style", "_law_many", "_law_states", "_law_steps", "_law_bits", "_law_turn", "_law_state", "_law_step", "_law_bit"]
abbrev pLTables : List Str := ["_law_box_here"]
theorem scLTables : FnScope nLTables pLTables (defScope sLTables) := ⟨rfl, rfl, rfl, by decide +kernel, rfl, by decide +kernel, by decide +kernel⟩
abbrev sLTies : Stmt := topS 60
abbrev nLTies : List Str := ["_law_box_here", "_law_houses", "_law_most", "_law_found", "_law_turn", "_law_one", "_law_other"]
abbrev pLTies : List Str := ["_law_box_here", "_law_houses", "_law_most"]
theorem scLTies : FnScope nLTies pLTies (defScope sLTies) := ⟨rfl, rfl, rfl, by decide +kernel, rfl, by decide +kernel, by decide +kernel⟩
abbrev sLRow : Stmt := topS 61
abbrev nLRow : List Str := ["_law_row_here", "_law_number"]
abbrev pLRow : List Str := ["_law_row_here"]
theorem scLRow : FnScope nLRow pLRow (defScope sLRow) := ⟨rfl, rfl, rfl, by decide +kernel, rfl, by decide +kernel, by decide +kernel⟩
abbrev sLJoin : Stmt := topS 62
abbrev nLJoin : List Str := ["_law_tables_here", "_law_archive", "_law_here", "_law_there", "_law_met_here", "_law_waiting", "_law_turn", "_law_one", "_law_other", "_law_table", "_law_pair", "_law_ends"]
abbrev pLJoin : List Str := ["_law_tables_here", "_law_archive", "_law_here", "_law_there"]
theorem scLJoin : FnScope nLJoin pLJoin (defScope sLJoin) := ⟨rfl, rfl, rfl, by decide +kernel, rfl, by decide +kernel, by decide +kernel⟩
abbrev sLEnded : Stmt := topS 63
abbrev nLEnded : List Str := ["_law_net"]
abbrev pLEnded : List Str := ["_law_net"]
theorem scLEnded : FnScope nLEnded pLEnded (defScope sLEnded) := ⟨rfl, rfl, rfl, by decide +kernel, rfl, by decide +kernel, by decide +kernel⟩
abbrev sLRead : Stmt := topS 64
abbrev nLRead : List Str := ["_law_net", "_law_ties_here", "_law_house", "_law_tie"]
abbrev pLRead : List Str := ["_law_net", "_law_ties_here", "_law_house"]
theorem scLRead : FnScope nLRead pLRead (defScope sLRead) := ⟨rfl, rfl, rfl, by decide +kernel, rfl, by decide +kernel, by decide +kernel⟩
abbrev sLCounted : Stmt := topS 65
abbrev nLCounted : List Str := ["_law_net", "_law_step", "_law_houses", "_law_house"]
abbrev pLCounted : List Str := ["_law_net", "_law_step", "_law_houses"]
theorem scLCounted : FnScope nLCounted pLCounted (defScope sLCounted) := ⟨rfl, rfl, rfl, by decide +kernel, rfl, by decide +kernel, by decide +kernel⟩
abbrev sLMet : Stmt := topS 66
abbrev nLMet : List Str := ["_law_net", "_law_tables_here", "_law_ties_here", "_law_tie", "_law_one", "_law_other", "_law_before", "_law_state", "_law_unread", "_law_house"]
abbrev pLMet : List Str := ["_law_net", "_law_tables_here", "_law_ties_here", "_law_tie"]
theorem scLMet : FnScope nLMet pLMet (defScope sLMet) := ⟨rfl, rfl, rfl, by decide +kernel, rfl, by decide +kernel, by decide +kernel⟩
abbrev sLHeld : Stmt := topS 67
abbrev nLHeld : List Str := ["_law_net", "_law_word", "_law_copy"]
abbrev pLHeld : List Str := ["_law_net", "_law_word"]
theorem scLHeld : FnScope nLHeld pLHeld (defScope sLHeld) := ⟨rfl, rfl, rfl, by decide +kernel, rfl, by decide +kernel, by decide +kernel⟩
abbrev sLFault : Stmt := topS 68
abbrev nLFault : List Str := ["_law_ask", "fault"]
abbrev pLFault : List Str := ["_law_ask"]
theorem scLFault : FnScope nLFault pLFault (defScope sLFault) := ⟨rfl, rfl, rfl, by decide +kernel, rfl, by decide +kernel, by decide +kernel⟩
abbrev sLMoved : Stmt := topS 69
abbrev nLMoved : List Str := ["_law_box_here", "_law_desk", "_law_net", "_law_tables_here", "_law_ties_here", "_law_way", "_law_houses", "_law_house", "_law_deed", "_law_tie", "_law_due"]
abbrev pLMoved : List Str := ["_law_box_here", "_law_desk", "_law_net", "_law_tables_here", "_law_ties_here"]
theorem scLMoved : FnScope nLMoved pLMoved (defScope sLMoved) := ⟨rfl, rfl, rfl, by decide +kernel, rfl, by decide +kernel, by decide +kernel⟩
abbrev sLLines : Stmt := topS 70
abbrev nLLines : List Str := ["_law_box_here", "_law_desk", "_law_houses", "_law_ties_here", "_law_deeds", "_law_refused", "_law_line", "_law_odd", "_law_turn", "_law_bad"]
abbrev pLLines : List Str := ["_law_box_here", "_law_desk", "_law_houses", "_law_ties_here", "_law_deeds"]
theorem scLLines : FnScope nLLines pLLines (defScope sLLines) := ⟨rfl, rfl, rfl, by decide +kernel, rfl, by decide +kernel, by decide +kernel⟩
abbrev sLaw : Stmt := topS 71
abbrev nLaw : List Str := ["_law_script", "_law_box_here", "_law_tables_here", "_law_houses", "_law_ties_here", "_law_first", "_law_desk", "_law_net", "_law_k", "_law_word", "fault"]
abbrev pLaw : List Str := ["_law_script"]
theorem scLaw : FnScope nLaw pLaw (defScope sLaw) := ⟨rfl, rfl, rfl, by decide +kernel, rfl, by decide +kernel, by decide +kernel⟩
end Hl
set_option Elab.async false
set_option maxRecDepth 100000
namespace Hl
open PySem PySem.W PySem.F
abbrev veMro : List Value := [.type "ValueError", .type "Exception", .type "BaseException", .type "object"]
abbrev keMro : List Value := [.type "KeyError", .type "LookupError", .type "Exception", .type "BaseException", .type "object"]
/-- what an exception's built-in __init__ is, to a class whose base is B -/
structure XIni (B initId : String) : Prop where
  kd : builtinKind initId = some .slot
  row : Manifest.signature? initId = some ⟨.positional, "*", B, .self, [⟨"args", .varPos, false⟩]⟩
  ent : entryFor table initId = some Builtin.«BaseException.__init__»
  pl : plainId initId = true
  ns : (B != "*") = true
  sup : KxsFacts B initId
theorem keyIni : XIni "KeyError" "KeyError.__init__" := {
  kd := by kernel_rfl, row := by kernel_rfl, pl := by decide +kernel, ns := by decide +kernel,
  ent := entryFor_alias (id' := "BaseException.__init__") (by rw [fastTable_eq_tree]; kernel_rfl) (by first | rfl | decide +kernel) (by decide +kernel) (by (rw [fastTable_eq_tree]; kernel_rfl)),
  sup := ⟨by (show builtinType _ = _; rw [builtinType_eq_fast]; kernel_rfl), by first | kernel_rfl | rfl⟩ }
theorem valIni : XIni "ValueError" "ValueError.__init__" := ⟨excBase_ValueError.initKind, excBase_ValueError.initRow, excBase_ValueError.initEntry, excBase_ValueError.init.plain, excBase_ValueError.noStar, kxs_ValueError⟩
theorem keyStore : StoreFacts "KeyError" keMro "object.__setattr__" "object" := {
  mro := by kernel_rfl,
  slot := .of (owner := "object") (n := "__setattr__") (by (rw [typeLookup_type, builtinLookup_eq_fast]; kernel_rfl)) (by decide +kernel) (by decide +kernel) (by decide +kernel) (by first | exact .inl (by decide +kernel) | exact .inr (by decide +kernel)) (by (rw [isSubtype_type]; kernel_rfl)),
  entry := entry_object_sa, kind := by decide +kernel, split := by decide +kernel, hasOwner := by decide +kernel,
  args := fun a b c => by (unfold argsOk; kernel_rfl), passes := fun self => by kernel_rfl }
end Hl
set_option Elab.async false
set_option maxRecDepth 100000
set_option maxHeartbeats 4000000
namespace Hl
open PySem PySem.W PySem.Calls PySem.HandSPX
section
variable {prog : Program} {w : World} {M : Model} {A : Around} {E : Value → Shared → Prop} {R : Result → Shared → Prop} {h : Heap} {g : Array GenState} {d : Drawn} {t : Nat} {os : OsState}
variable {nm q : Str} {C N : Addr} {bs bm bmn : List Value} {hdct : Bool} {sn : List Str} {sub : List Value} {ab : Bool} {col : Option Bool} {dd : Option Addr} {k0 k1 k2 k3 k5 : Option Value} {B newId inN : String}
/-- which built-in stands in a class's mro behind itself -/
structure XTail (bm : List Value) (B : String) : Prop where
  b : bm.contains (.type B) = true
  na : bm.contains (.type "AttributeError") = false
  nn : bm.contains (.type "NameError") = false
theorem x_check (F : ExcBaseFacts B newId inN bmn) (T : XTail bm B) {rest : List Value} {Q : Unit → Shared → Prop}
    (hC : h.get? C = some (excClassObj nm q C N bs bm hdct sn sub ab col dd k0 k1 k2 k3 k5 newId)) (hq : Q () ⟨h, g, d, t, os⟩) : wpAny M A (checkBuiltinCall newId ⟨.ref C :: rest, []⟩) Q E ⟨h, g, d, t, os⟩ := by
  have has : (Value.ref C :: bm).contains (.type B) = true := by rw [List.contains_cons, T.b, Bool.or_true]
  have z := F.noStar
  simp only [F.newRow, F.newSplit, F.newKind, checkBuiltinCall]
  repeat (first | refine wpAny_loadPart_at hC ?_ | (refine wpAny_isSubtype_exc hC ?_; rw [has]) | refine wpAny_staticBase_exc hC ?_ | refine wpAny_madeBy_exc hC ?_ | simp only [bne_self_eq_false, if_false, Bool.false_eq_true] | wp_step)
  exact hq
theorem x_new (F : ExcBaseFacts B newId inN bmn) (T : XTail bm B) {rest : List Value} (hC : h.get? C = some (excClassObj nm q C N bs bm hdct sn sub ab col dd k0 k1 k2 k3 k5 newId)) (hrest : rest.length ≤ sizeLine)
    (hq : R (.ok (.ret (.ref (h.objs.size + 1)))) ⟨(h.push { cls := .type "tuple", data := .seq rest.toArray }).push { cls := .ref C, data := .fields #[.ref h.objs.size, .none, .none, .none, .bool false, .none] }, g, d, t, os⟩) :
    codeAny (model prog w) A (.builtin newId ⟨.ref C :: rest, []⟩) R ⟨h, g, d, t, os⟩ := by
  have z := F.ends
  have c1 : (Value.ref C :: bm).contains (.type B) = true := by rw [List.contains_cons, T.b, Bool.or_true]
  have c2 : (Value.ref C :: bm).contains (.type "AttributeError") = false := by rw [List.contains_cons, T.na]; rfl
  have c3 : (Value.ref C :: bm).contains (.type "NameError") = false := by rw [List.contains_cons, T.nn]; rfl
  refine codeAny_builtinAt F.entry ?_
  unfold Builtin.«BaseException.__new__»
  refine wpAt_bind ?_
  show wpAt _ _ _ (stack >>= _) _ _ _
  refine wpAt_bind (wpAt_stack fun p below => wpAt_of_wpAny ?_)
  wp_walk
  refine wpAt_of_wpAny ?_
  rw [F.owner]
  repeat (first | with_reducible refine wpAny_madeHere_exc F.canon hC ?_ | with_reducible refine wpAny_loadPart_at hC ?_ | (with_reducible refine wpAny_isSubtype_exc hC ?_; first | rw [c1] | rw [c2] | rw [c3]) | wp_step)
  show R _ _
  rw [Heap.size_push]
  exact hq
theorem x_tcall (F : ExcBaseFacts B newId inN bmn) (T : XTail bm B) {rest : List Value} {fI : Addr} {Q : Fin → Shared → Prop} (hC : h.get? C = some (excClassObj nm q C N bs bm hdct sn sub ab col dd k0 k1 k2 k3 k5 newId))
    (hi : W.Looks (model prog w) h (typeLookup (.ref C) "__init__") (some (.ref fI))) (hb : ∀ self, W.Looks (model prog w) h (bindSpecial (.ref fI) self) (.ref fI, [self])) (hrest : rest.length ≤ sizeLine)
    (hq : codeAny (model prog w) A (.call (.ref fI) ⟨.ref (h.objs.size + 1) :: rest, []⟩) (fun r s' => match r with | .ok (.ret v) => v = .none ∧ Q (.done (.ret (.ref (h.objs.size + 1)))) s' | .ok _ => False | .error e => E e s')
      ⟨(h.push (W.kdv_tup rest)).push (excO C h.objs.size), g, d, t, os⟩) : wpAny (model prog w) A (Builtin.«type.__call__» ⟨.ref C :: rest, []⟩) Q E ⟨h, g, d, t, os⟩ := by
  repeat (first | with_reducible refine wpAny_loadPart_at hC ?_ | with_reducible refine wpAny_madeBy_exc hC ?_ | wp_step)
  refine codeAny_call_builtin_code (Code.quiet_builtin _ F.quiet) (x_check F T hC (x_new F T hC hrest ?_))
  show wpAny _ _ _ _ _ _
  have k : ∀ b o, h.get? b = some o → ((h.push (W.kdv_tup rest)).push (excO C h.objs.size)).get? b = some o := fun b o e => (Heap.get?_push_of_some _ (Heap.get?_push_of_some _ e))
  have cls' := k _ _ hC
  have at' : ((h.push (W.kdv_tup rest)).push (excO C h.objs.size)).get? (h.objs.size + 1) = some (excO C h.objs.size) := by heap_get
  have own : (Value.ref C :: bm).contains (.ref C) = true := by simp
  have i1 := hi.keeps k
  have b1 := (hb (.ref (h.objs.size + 1))).keeps k
  unfold isInstance
  repeat (first | with_reducible refine wpAny_loadPart_at at' ?_ | (with_reducible refine wpAny_isSubtype_exc cls' ?_; rw [own]) | wp_step)
  show wpAny _ _ (typeLookup (.ref C) _) _ _ _
  refine i1.at (wpAny_holding (wpAny_bind (b1.at (wpAny_bind (wpAny_call (codeAny_mono hq fun r s' z => ?_))))))
  rcases r with e | (v | _ | _ | _) <;> first | exact z | exact z.elim | skip
  obtain ⟨rfl, z⟩ := z
  first | exact wpAny_pure (wpAny_pure z) | (wp_walk; exact z)
theorem x_call (F : ExcBaseFacts B newId inN bmn) (T : XTail bm B) {rest : List Value} {fI : Addr} (hC : h.get? C = some (excClassObj nm q C N bs bm hdct sn sub ab col dd k0 k1 k2 k3 k5 newId))
    (hi : W.Looks (model prog w) h (typeLookup (.ref C) "__init__") (some (.ref fI))) (hb : ∀ self, W.Looks (model prog w) h (bindSpecial (.ref fI) self) (.ref fI, [self])) (hrest : rest.length ≤ sizeLine)
    (hq : codeAny (model prog w) (A.under (.builtin "type.__call__" ⟨.ref C :: rest, []⟩)) (.call (.ref fI) ⟨.ref (h.objs.size + 1) :: rest, []⟩) (W.InitBack (h.objs.size + 1) R) ⟨(h.push (W.kdv_tup rest)).push (excO C h.objs.size), g, d, t, os⟩) :
    codeAny (model prog w) A (.call (.ref C) ⟨rest, []⟩) R ⟨h, g, d, t, os⟩ := by
  have f1 := tc_lookup
  have f2 := tc_bind (.ref C)
  have ty : (⟨h, g, d, t, os⟩ : Shared).TypeIs (.ref C) "type" := ⟨_, hC, rfl⟩
  refine codeAny_of_tree ?_
  show wpAny _ _ (callAny (.ref C) _) _ _ _
  repeat (any_goals (first | assumption | with_reducible refine wpAny_loadPart_at hC ?_ | wp_step))
  refine ⟨rfl, codeAny_call_builtin_at (Code.quiet_builtin _ (by decide +kernel)) entry_typeCall (wpAny_check_type_call_sub hC (x_tcall F T hC hi hb hrest (codeAny_mono hq fun r s' z => ?_)))⟩
  rcases r with e | (v | _ | _ | _) <;> exact z
end
end Hl
set_option Elab.async false
set_option maxRecDepth 100000
set_option maxHeartbeats 4000000
namespace Hl
open PySem PySem.W PySem.Calls PySem.HandSPX
/-- a built-in base of own exceptions: where __new__ and where __init__ come from -/
structure XKind (Bn newId inN : String) (bmn : List Value) (B initId : String) (bmB : List Value) : Prop where
  F : ExcBaseFacts Bn newId inN bmn
  ini : XIni B initId
  sf : StoreFacts B bmB "object.__setattr__" "object"
  b1 : bmB.contains (.type Bn) = true
  na : bmB.contains (.type "AttributeError") = false
  nn : bmB.contains (.type "NameError") = false
abbrev leMro : List Value := [.type "LookupError", .type "Exception", .type "BaseException", .type "object"]
theorem valKind : XKind "ValueError" "ValueError.__new__" "ValueError.__init__" veMro "ValueError" "ValueError.__init__" veMro :=
  ⟨PySem.F.excBase_ValueError, valIni, PySem.F.store_ValueError, by decide +kernel, by decide +kernel, by decide +kernel⟩
theorem keyKind : XKind "LookupError" "LookupError.__new__" "LookupError.__init__" leMro "KeyError" "KeyError.__init__" keMro :=
  ⟨PySem.F.excBase_LookupError, keyIni, keyStore, by decide +kernel, by decide +kernel, by decide +kernel⟩
theorem XKind.tail {Bn newId inN : String} {bmn : List Value} {B initId : String} {bmB bm : List Value} (k : XKind Bn newId inN bmn B initId bmB) (e : excTail bmB bm = true) : XTail bm Bn :=
  ⟨(excTail_contains Bn _ e).trans k.b1, (excTail_contains _ _ e).trans k.na, (excTail_contains _ _ e).trans k.nn⟩
/-- what the written part says of an own exception class at C whose __init__, at fI, calls super().__init__ and then stores its arguments under the names fs -/
structure XTxt (K : Frag) (mg : Str → Option Value) (P : Program) (C fI cc cda : Addr) (newId B initId : String) (bmB : List Value) (fs : List Str) (qual : Str) (params : Arguments) (body : List Stmt) (scope : Scope) : Prop where
  cls : ∃ nm q N bs bm sn sub ab col dd k0 k1 k2 k3 k5, K.lookup C = some (excClassObj nm q C N bs bm true sn sub ab col dd k0 k1 k2 k3 k5 newId) ∧ excTail bmB bm = true
  sa : findIn K (.ref C) "__setattr__" = some (some (.builtin "object.__setattr__"))
  exC : subIn K (.ref C) (.type "BaseException") = some true
  tyC : typeIn K (.ref C) = some (.type "type")
  kC : keepIn K (.ref C) = true
  hdC : hasDictIn K C = true
  iC : findIn K (.ref C) "__init__" = some (some (.ref fI))
  tC : typeIn K (.ref fI) = some (.type "function")
  sup : ks_superIn K C C "__init__" = some (some (.builtin initId))
  inB : subIn K (.ref C) (.type B) = some true
  own : mroIn K C (.ref C) = some true
  opq : nsIn K cStatics "thirdparty.any" = some none
  over : excOver K C bmB = true
  fn : ∃ oc od doc pm an ct osl, K.lookup fI = some ⟨oc, od, .func (ksFn "__init__" qual params body scope .none .none doc pm an (.ref cda) ct cc), osl⟩
  code : codeIn K (.ref cda) qual = true
  file : ∃ ccl cdd vs ccs file tf, K.lookup cda = some ⟨ccl, cdd, .fields vs, ccs⟩ ∧ vs[2]? = some (.str file tf) ∧ ((P.main.file : Str) == file) = true
  cell : ∃ cl cld csl, K.lookup cc = some ⟨cl, cld, .cell (some (.ref C)), csl⟩
  gS : mg "super" = none
  top : (P.main.scope.names.lookup ("super" : Str)).isSome = false
  no : ∀ f ∈ fs, findIn K (.ref C) f = some none
/-- self.f = f, one after the other -/
inductive Stores : List Str → List Stmt → Prop
  | nil : Stores [] []
  | cons {f : Str} {fs : List Str} {r : List Stmt} {q1 q2 q3 q4 : Pos} : Stores fs r → Stores (f :: fs) (.Assign [.Attribute (.Name "self" q1) f q2] (.Name f q3) q4 :: r)
theorem eval_meth1 {o e : Expr} {name : Str} {apos pos : Pos} {env : Env} (h : (apos.endLine == pos.line) = true) (hst : starEach [e] env = [(false, eval e env)]) :
    eval (.Call (.Attribute o name apos) [e] [] pos) env = (do
      let ov ← attributeBase o name env (eval o env)
      standAt apos.atName
      let (f, first) ← holding [ov] (getMethod ov name (do return (← importBound o env).getD true))
      callWith pos f first (backTo pos (starEach [e] env)) []) := by
  show (do
    let ov ← attributeBase o name env (eval o env)
    standAt apos.atName
    methodCall o name apos pos env ov 1 (backTo pos (starEach [e] env)) []) = _
  have hf : methodCallForm 1 (backTo pos (starEach [e] env)) [] = true := by rw [hst]; rfl
  have hp : methodCallPos true o env apos pos = pure pos := by unfold methodCallPos; simp [h]
  unfold methodCall
  rw [hf, hp]
  simp only [pure_bind]
  rfl
section
variable {prog : Program} {w : World} {A : Around} {E : Value → Shared → Prop} {R : Result → Shared → Prop} {s : Shared} {K : Frag} {mg : Str → Option Value} {base : Heap} {C fI cc cda : Addr} {newId B initId : String} {bmB : List Value} {fs : List Str} {qual : Str} {params : Arguments} {body : List Stmt} {scope : Scope}
/-- super().__init__(msg) -/
theorem x_super {env : Env} {p0 p1 p2 p3 p4 p5 : Pos} {msg : Str} {j : Nat} {x t0 : Addr} {ar : Arg} {m : Str → Option Value} {Q : Flow → Shared → Prop} (T : XTxt K mg prog C fI cc cda newId B initId bmB fs qual params body scope) (ini : XIni B initId)
    (M : L2.Mod K mg base) (bk : ∀ b o, base.get? b = some o → s.heap.get? b = some o) {L : Addr} (henv : env = ksEnv qual scope L fI (.ref cda) cc) (hks : scope.names.lookup ("super" : Str) = some .globalImplicit) (hkc : scope.names.lookup ("__class__" : Str) = some .free)
    (hk : scope.kind = .function) (hp : (params.posonlyargs ++ params.args).head? = some ar) (hka : scope.names.lookup ar.arg = some .local) (hn : s.heap.Ns L m) (hv : m ar.arg = some (.ref x)) (hx : s.heap.get? x = some (excO C t0))
    (hln : (p2.endLine == p4.line) = true)
    (hq : ∀ h' tk t1, (∀ b o, b ≠ x → s.heap.get? b = some o → h'.get? b = some o) → h'.get? x = some (excO C t1) → Q .next { s with heap := h', toks := tk }) :
    PySem.wpAt (model prog w) A (.func body env) (exec (.Expr (.Call (.Attribute (.Call (.Name "super" p0) [] [] p1) "__init__" p2) [.Constant (.str msg) j p3] [] p4) p5) env) Q E s := by
  subst henv
  have X : K.In s.heap := M.kin.keeps bk
  obtain ⟨oc, od, doc, pm, an, ct, osl, hf⟩ := T.fn
  obtain ⟨ccl, cdd, vs, ccs, file, tf, hcode, hvs, hfile⟩ := T.file
  obtain ⟨cl, cld, csl, hcell⟩ := T.cell
  obtain ⟨nm, q, N, bs, bm, sn, sub, ab, col, dd, k0, k1, k2, k3, k5, hC, hbm⟩ := T.cls
  obtain ⟨mb, hb, hbb⟩ := M.blt
  have bkNs : ∀ {b : Addr} {m : Str → Option Value}, base.Ns b m → s.heap.Ns b m := fun {b m} ⟨o, es, ep, e, r⟩ => ⟨o, es, ep, bk _ _ e, r⟩
  have hxC : x ≠ C := fun e => by
    have z := X _ _ hC
    rw [← e, hx] at z
    cases z
  obtain ⟨hh, g, d, t, os⟩ := s
  refine ks_wpAt_Expr_any (hi := by unfold interactive; show (scope.kind == _ && _) = false; rw [hk]; rfl) (ks_wpAt_MethodCall ?_ (eval_meth1 hln rfl))
  refine ks_wpAt_super_base (fd := ksFn "__init__" qual params body scope .none .none doc pm an (.ref cda) ct cc) hks hkc rfl rfl (X _ _ hf) rfl hp rfl (X _ _ hcode) rfl hvs hfile T.top ?_
  refine ks_loadName_global hk hks (loadGlobal_builtin (env := ksEnv qual scope L fI (.ref cda) cc) (bkNs M.glob) T.gS (bkNs hb) ((hbb _ (by decide +kernel)).trans (by first | boot_by_name | kernel_rfl)) ⟨rfl, ?_⟩)
  refine wpAny_loadName_free hk hkc rfl ⟨_, X _ _ hcell, rfl⟩ ?_
  refine wpAny_loadName_local hk hka hn hv ?_
  refine ks_wpAny_isType_cls (X _ _ hC) rfl ⟨rfl, ?_⟩
  refine ks_wpAny_call_super (X _ _ hC) rfl hx rfl (fun c e => by cases e) (looks_mroIn X T.own) (fun h1 e1 kk1 => ?_)
  have X1 : K.In h1 := X.keeps kk1
  have hx1 := kk1 _ _ hx
  have LT : W.Looks (model prog w) h1 (isInstance (.ref x) (.type B)) true := (InstAt.type (ox := excO C t0) (od := none) (C := C) ⟨hx1, rfl, rfl, trivial⟩).andThen (looks_subIn X1 T.inB)
  have hm := T.sup
  unfold ks_superIn at hm
  cases hc : clsIn K C with
  | none => rw [hc] at hm; cases hm
  | some cd =>
    rw [hc] at hm
    refine kxs_getMethod ini.sup e1 (looks_opaque X1 T.opq) (l₀ := cd.mro) (fun A Q E s k q => wpAny_bind ((looks_clsIn X1 hc) A _ E s k (wpAny_pure q))) rfl X1 hm LT hxC rfl ?_
    have kk2 : ∀ b o, h1.get? b = some o → (h1.push (kxs_mw initId x)).get? b = some o := fun b o e => Heap.get?_push_of_some _ e
    have hu : (h1.push (kxs_mw initId x)).get? h1.objs.size = some (kxs_mw initId x) := Heap.get?_push_at rfl rfl
    refine kxs_callWith (i := initId) (x := x) rfl (evalArgs_plain ?_)
    refine Calls.spliced_cons (Constant_str (k := j) (pos := p3) ?_)
    refine Calls.spliced_nil ⟨hu, ?_⟩
    refine wpAny_call (codeAny_of_tree ?_)
    show wpAny _ _ (callAny (.ref h1.objs.size) _) _ _ _
    simp only [callAny]
    refine wpAny_bind (wpAny_load hu ?_)
    simp only [kxs_mw, show (Value.type "method-wrapper" == Value.type "method" || Value.type "method-wrapper" == Value.type "builtin_function_or_method" || Value.type "method-wrapper" == Value.type "method-wrapper") = true by decide, if_true]
    refine KFB.if_so (by decide) ?_
    have hx2 := kk2 _ _ hx1
    have hC2 := kk2 _ _ (X1 _ _ hC)
    have hshort := ini.ns
    refine wpAny_bind ?_
    simp only [ini.row, ini.kd, checkBoundCall]
    repeat (first | with_reducible refine wpAny_loadPart_at hx2 ?_ | with_reducible refine wpAny_loadPart_at hC2 ?_ | wp_step)
    refine ⟨plainId_quiet ini.pl _, codeAny_builtin ini.ent ?_⟩
    refine exc_init_tree (cls := .ref C) (t0 := t0) (dv := none) (c2 := .none) (c3 := .none) (b4 := .bool false) hx2 (by show [_].length ≤ sizeLine; rw [sizeLine_eq]; exact (by decide : 1 ≤ 16777216)) fun h3 kk3 hx3 ht3 => ?_
    exact hq h3 _ _ (fun b o hb e => kk3 b o hb (kk2 _ _ (kk1 _ _ e))) hx3
end
end Hl
set_option Elab.async false
set_option maxRecDepth 100000
set_option maxHeartbeats 4000000
namespace Hl
open PySem PySem.W PySem.Calls PySem.HandSPX
open Builtin Builtin.ObjectAttr
section
variable {prog : Program} {w : World} {A : Around} {E : Value → Shared → Prop} {R : Result → Shared → Prop} {K : Frag} {C x : Addr} {B : String} {bmB : List Value} {hp : Heap} {g : Array GenState} {d : Drawn} {t : Nat} {os : OsState}
/-- the first field: the exception gets its dict -/
theorem x_set0 {f : Str} {v : Value} {fv : Array Value} {Q : Unit → Shared → Prop} (SF : StoreFacts B bmB "object.__setattr__" "object") (X : K.In hp) (hx : hp.get? x = some { cls := .ref C, data := .fields fv }) (ov : excOver K C bmB = true)
    (sa : findIn K (.ref C) "__setattr__" = some (some (.builtin "object.__setattr__"))) (no : findIn K (.ref C) f = some none) (hd : hasDictIn K C = true)
    (hq : ∀ h' tk' dx, (∀ b o, b ≠ x → hp.get? b = some o → h'.get? b = some o) → hp.objs.size ≤ dx → dx ≠ x → h'.get? x = some { cls := .ref C, dict := some dx, data := .fields fv } → h'.Ns1 dx (fun y => if y = f then some v else none) → Q () ⟨h', g, d, tk', os⟩) :
    wpAny (model prog w) A (setAttr (.ref x) f v) Q E ⟨hp, g, d, t, os⟩ := by
  have I : W.InstAt hp x { cls := .ref C, data := .fields fv } C none := ⟨hx, rfl, rfl, trivial⟩
  have hxs : x ≠ hp.objs.size := Nat.ne_of_lt (Heap.lt_size hx)
  refine set_plain X I sa (osa_openX (od := none) (r := none) SF X I ov (by unfold takerIn; rw [no]; rfl) fun b => ?_)
  obtain ⟨cd, hcd, hh⟩ := any_some hd
  have hcls : W.Looks (model prog w) hp (classData C) cd := W.looks_clsIn X hcd
  obtain ⟨nm, bs, mro, ns, qn, hd', sn, sb, ab, col, del⟩ := cd
  dsimp only at hh
  subst hh
  unfold storeInOwnDict ownDictForStores
  repeat (first | with_reducible refine store_in_new ?_ ?_ | with_reducible refine wpAny_loadPart_at hx ?_ | with_reducible refine hcls.at ?_ | wp_step)
  · exact ⟨_, #[], _, (Heap.get?_update_ne _ _ _ _ hxs.symm).trans (Heap.get?_push_at rfl rfl), rfl, fun e he => absurd he (by simp), fun _ => rfl⟩
  · intro h' tk' hn' hs
    have hx₁ : (hp.push { cls := .type "dict", data := .dict #[] }).get? x = some { cls := .ref C, data := .fields fv } := Heap.get?_push_of_some _ hx
    exact hq h' tk' hp.objs.size (fun b o hb ho => (hs.2 b (Nat.ne_of_lt (Heap.lt_size ho))).trans ((Heap.get?_update_ne _ _ _ _ hb).trans (Heap.get?_push_of_some _ ho))) (Nat.le_refl _) hxs.symm ((hs.2 x hxs).trans (Heap.get?_update_self _ hx₁ rfl)) hn'
/-- a further field -/
theorem x_set1 {f : Str} {v : Value} {fv : Array Value} {dx : Addr} {m0 : Str → Option Value} {nl : List Str} {Q : Unit → Shared → Prop} (SF : StoreFacts B bmB "object.__setattr__" "object") (X : K.In hp) (hx : hp.get? x = some { cls := .ref C, dict := some dx, data := .fields fv }) (hns : hp.Ns1 dx m0) (hw : Within m0 nl) (hz : nl.length ≤ 1000)
    (ov : excOver K C bmB = true) (sa : findIn K (.ref C) "__setattr__" = some (some (.builtin "object.__setattr__"))) (no : findIn K (.ref C) f = some none) (hd : hasDictIn K C = true)
    (hq : ∀ h' tk', (∀ b o, b ≠ dx → hp.get? b = some o → h'.get? b = some o) → h'.Ns1 dx (fun y => if y = f then some v else m0 y) → Q () ⟨h', g, d, tk', os⟩) :
    wpAny (model prog w) A (setAttr (.ref x) f v) Q E ⟨hp, g, d, t, os⟩ := by
  obtain ⟨oD, esD, epD, hoD, hdD, _⟩ := hns.count hw
  have I : W.InstAt hp x { cls := .ref C, dict := some dx, data := .fields fv } C (some oD) := ⟨hx, rfl, rfl, hoD⟩
  refine set_plain X I sa (osa_openX (od := some oD) (r := none) SF X I ov (by unfold takerIn; rw [no]; rfl) fun b => ?_)
  obtain ⟨cd, hcd, hh⟩ := any_some hd
  have hcls : W.Looks (model prog w) hp (classData C) cd := W.looks_clsIn X hcd
  obtain ⟨nm, bs, mro, ns, qn, hd', sn, sb, ab, col, del⟩ := cd
  dsimp only at hh
  subst hh
  unfold storeInOwnDict ownDictForStores
  repeat (first | with_reducible refine OEX.store_in_old hns hw hz ?_ | with_reducible refine wpAny_loadPart_at hx ?_ | with_reducible refine hcls.at ?_ | wp_step)
  intro h' tk' hn' hs
  exact hq h' tk' (fun b o hb ho => (hs.2 b hb).trans ho) hn'
end
/-- what stands in an exception's own dict behind its stores -/
def fieldsOf : List (Str × Value) → Str → Option Value
  | [], _ => none
  | (f, v) :: r, y => if y = f then some v else fieldsOf r y
theorem within_fields : ∀ l : List (Str × Value), Within (fieldsOf l) (l.map (·.1))
  | [] => fun y hy => absurd rfl hy
  | (f, v) :: r => fun y hy => by
    by_cases e : y = f
    · rw [e]; exact List.mem_cons_self ..
    · have : fieldsOf ((f, v) :: r) y = fieldsOf r y := if_neg e
      rw [this] at hy
      exact List.mem_cons_of_mem _ (within_fields r y hy)
section
variable {prog : Program} {w : World} {A : Around} {E : Value → Shared → Prop} {K : Frag} {mg : Str → Option Value} {C fI cc cda : Addr} {newId B initId : String} {bmB : List Value} {fs0 : List Str} {qual : Str} {params : Arguments} {body : List Stmt} {scope : Scope}
/-- all the stores, from the second on: l is what the dict holds -/
theorem x_more {x dx L : Addr} {fv : Array Value} {env : Env} (T : XTxt K mg prog C fI cc cda newId B initId bmB fs0 qual params body scope) (SF : StoreFacts B bmB "object.__setattr__" "object") (henv : env = ksEnv qual scope L fI (.ref cda) cc) (hk : scope.kind = .function) (hks : scope.names.lookup ("self" : Str) = some .local) (nd : K.lookup dx = none) (nL : dx ≠ L) :
    ∀ {fs : List Str} {ss : List Stmt} (S : Stores fs ss) (vs : List Value) (l : List (Str × Value)) (hp : Heap) (g : Array GenState) (d : Drawn) (t : Nat) (os : OsState) (m : Str → Option Value) (Q : Flow → Shared → Prop), (∀ f ∈ fs, scope.names.lookup f = some .local ∧ (f == ("__debug__" : Str)) = false) → (∀ f ∈ fs, f ∈ fs0) → fs.length = vs.length → l.length + fs.length ≤ 1000 →
      K.In hp → hp.Ns L m → m "self" = some (.ref x) → (∀ (i : Nat) (f : Str) (v : Value), fs[i]? = some f → vs[i]? = some v → m f = some v) → hp.get? x = some { cls := .ref C, dict := some dx, data := .fields fv } → hp.Ns1 dx (fieldsOf l) → dx ≠ x →
      (∀ h' tk', (∀ b o, b ≠ dx → hp.get? b = some o → h'.get? b = some o) → h'.Ns1 dx (fieldsOf ((fs.zip vs).reverse ++ l)) → Q .next ⟨h', g, d, tk', os⟩) → wpAny (model prog w) A (execs ss env) Q E ⟨hp, g, d, t, os⟩ := by
  intro fs ss S
  induction S with
  | nil =>
    intro vs l hp g d t os m Q _ _ hlen _ _ _ _ _ _ hns _ hq
    refine wpAny_execs_nil (hq hp t (fun _ _ _ e => e) ?_)
    exact hns
  | @cons f fs r q1 q2 q3 q4 S ih =>
    intro vs l hp g d t os m Q hloc hin hlen hz X hn hself hval hx hns hne hq
    cases vs with
    | nil => cases hlen
    | cons v vs =>
      obtain ⟨hl, hdb⟩ := hloc f (List.mem_cons_self ..)
      subst henv
      refine wpAny_execs_cons (plainObj_wpAny_Assign_Attribute ?_)
      refine wpAny_Name (wpAny_loadName_local hk hl hn (hval 0 f v rfl rfl) ?_) hdb
      refine wpAny_Name (wpAny_loadName_local hk hks hn hself ?_) (by decide)
      refine x_set1 SF X hx hns (within_fields l) (by rw [List.length_map]; omega) T.over T.sa (T.no f (hin f (List.mem_cons_self ..))) T.hdC fun h' tk' k hns' => ?_
      show wpAny _ _ (execs r _) Q E _
      have X' : K.In h' := fun a o e => k a o (fun z => by rw [z, nd] at e; cases e) (X a o e)
      have hn' : h'.Ns L m := by
        obtain ⟨o, es, ep, e, r⟩ := hn
        exact ⟨o, es, ep, k _ _ (fun z => nL z.symm) e, r⟩
      refine ih vs ((f, v) :: l) h' g d tk' os m Q (fun y hy => hloc y (List.mem_cons_of_mem _ hy)) (fun y hy => hin y (List.mem_cons_of_mem _ hy)) (by simpa using hlen) (by simp only [List.length_cons] at hz ⊢; omega) X' hn' hself (fun i y u h1 h2 => hval (i + 1) y u h1 h2) (k _ _ (Ne.symm hne) hx) hns' hne fun h2 tk2 k2 ns2 => ?_
      refine hq h2 tk2 (fun b o hb e => k2 b o hb (k b o hb e)) ?_
      have e : (List.zip (f :: fs) (v :: vs)).reverse ++ l = (fs.zip vs).reverse ++ (f, v) :: l := by simp
      rw [e]
      exact ns2
end
end Hl
set_option Elab.async false
set_option maxRecDepth 100000
set_option maxHeartbeats 4000000
namespace Hl
open PySem PySem.W PySem.Calls PySem.HandSPX
/-- the text of such an __init__ -/
structure XBody (msg : Str) (f : Str) (fs : List Str) (params : Arguments) (body : List Stmt) (scope : Scope) : Prop where
  txt : ∃ (p0 p1 p2 p3 p4 p5 q1 q2 q3 q4 : Pos) (j : Nat) (ss : List Stmt), body = .Expr (.Call (.Attribute (.Call (.Name "super" p0) [] [] p1) "__init__" p2) [.Constant (.str msg) j p3] [] p4) p5 :: .Assign [.Attribute (.Name "self" q1) f q2] (.Name f q3) q4 :: ss ∧
    Stores fs ss ∧ (p2.endLine == p4.line) = true
  par : ∃ ar : Arg, (params.posonlyargs ++ params.args).head? = some ar ∧ ar.arg = "self"
  kind : scope.kind = .function
  co : scope.isCoroutine = false
  gen : scope.isGenerator = false
  sup : scope.names.lookup ("super" : Str) = some .globalImplicit
  clsv : scope.names.lookup ("__class__" : Str) = some .free
  self : scope.names.lookup ("self" : Str) = some .local
  loc : ∀ y ∈ f :: fs, scope.names.lookup y = some .local ∧ (y == ("__debug__" : Str)) = false
  cell : ∀ y ∈ scope.names, y.2 ≠ .cell
  nd : ("self" :: f :: fs : List Str).Nodup
theorem zip_look : ∀ {ks : List Str} {us : List Value} {i : Nat} {k : Str} {u : Value}, ks.Nodup → ks[i]? = some k → us[i]? = some u → (ks.zip us).reverse.lookup k = some u := by
  intro ks us i k u nd h1 h2
  have key : ∀ (l : List (Str × Value)), (l.map (·.1)).Nodup → (k, u) ∈ l → l.lookup k = some u := by
    intro l
    induction l with
    | nil => intro _ h; cases h
    | cons p r ih =>
      intro nd h
      obtain ⟨a, b⟩ := p
      rw [List.map_cons, List.nodup_cons] at nd
      rcases List.mem_cons.mp h with e | e
      · cases e; simp [List.lookup]
      · have ne : (k == a) = false := by
          simp only [beq_eq_false_iff_ne]
          intro z
          subst z
          exact nd.1 (List.mem_map.mpr ⟨_, e, rfl⟩)
        simp only [List.lookup, ne]
        exact ih nd.2 e
  refine key _ ?_ ?_
  · rw [List.map_reverse, (List.reverse_perm _).nodup_iff]
    have sub : ((ks.zip us).map (·.1)).Sublist ks := by
      clear h1 h2
      induction ks generalizing us with
      | nil => simp
      | cons a r ih =>
        cases us with
        | nil => simp
        | cons b q =>
          simp only [List.zip_cons_cons, List.map_cons]
          exact List.Sublist.cons_cons _ (ih (List.nodup_cons.mp nd).2)
    exact nd.sublist sub
  · rw [List.mem_reverse]
    exact List.mem_of_getElem? (i := i) (by rw [List.getElem?_zip_eq_some]; exact ⟨h1, h2⟩)
section
variable {prog : Program} {w : World} {A : Around} {R : Result → Shared → Prop} {s : Shared} {K : Frag} {mg : Str → Option Value} {base : Heap} {C fI cc cda : Addr} {newId B initId : String} {bmB : List Value} {qual msg f : Str} {fs : List Str} {params : Arguments} {body : List Stmt} {scope : Scope}
theorem x_init (T : XTxt K mg prog C fI cc cda newId B initId bmB (f :: fs) qual params body scope) (Y : XBody msg f fs params body scope) (ini : XIni B initId) (SF : StoreFacts B bmB "object.__setattr__" "object")
    (M : L2.Mod K mg base) (bk : ∀ b o, base.get? b = some o → s.heap.get? b = some o) (hroom : A.depth < recursionLimit) {x t0 : Addr} {v : Value} {vs : List Value} (hlen : vs.length = fs.length) (hfs : fs.length ≤ 100) (hx : s.heap.get? x = some (excO C t0)) (hnx : base.get? x = none)
    (hbind : ∀ (oc : Value) (od : Option Addr) (doc pm : Value) (an : Option Addr) (ct : Value), BindsTo s (ksFn "__init__" qual params body scope .none .none doc pm an (.ref cda) ct cc) ⟨.ref x :: v :: vs, []⟩ (("self" :: f :: fs : List Str).zip (.ref x :: v :: vs)))
    (hq : ∀ h' tk dx t1, (∀ b o, b ≠ x → s.heap.get? b = some o → h'.get? b = some o) → s.heap.objs.size ≤ dx → dx ≠ x → h'.get? x = some ({ cls := .ref C, dict := some dx, data := .fields #[.ref t1, .none, .none, .none, .bool false, .none] } : Obj) →
      h'.Ns1 dx (fieldsOf ((fs.zip vs).reverse ++ [(f, v)])) → R (.ok (.ret .none)) { s with heap := h', toks := tk }) :
    codeAny (model prog w) A (.call (.ref fI) ⟨.ref x :: v :: vs, []⟩) R s := by
  have X : K.In s.heap := M.kin.keeps bk
  obtain ⟨oc, od, doc, pm, an, ct, osl, hf⟩ := T.fn
  obtain ⟨p0, p1, p2, p3, p4, p5, q1, q2, q3, q4, j, ss, eb, S, hln⟩ := Y.txt
  obtain ⟨ar, har, ha⟩ := Y.par
  have hKx : K.lookup x = none := by
    cases e : K.lookup x with
    | none => rfl
    | some o =>
      have z := M.kin _ _ e
      rw [hnx] at z
      cases z
  obtain ⟨hp, g, d, t, os⟩ := s
  refine ks_codeAny_call_defAt (fd := ksFn "__init__" qual params body scope .none .none doc pm an (.ref cda) ct cc) (body := body) (binds := ("self" :: f :: fs : List Str).zip (.ref x :: v :: vs)) hroom (X _ _ hf) rfl (M.nolimit.keeps bk) (codeRec_of X T.code) rfl (hbind oc od doc pm an ct) Y.cell (fun y hy => ?_) (fun h0 hns k0 => ?_) Y.co Y.gen Y.kind
  · obtain ⟨a, b⟩ := y
    rcases List.mem_cons.mp (List.of_mem_zip hy).1 with e | e
    · rw [show a = "self" from e]; exact Y.self
    · exact (Y.loc a e).1
  · have look : ∀ (i : Nat) (y : Str) (u : Value), ("self" :: f :: fs : List Str)[i]? = some y → (Value.ref x :: v :: vs)[i]? = some u → (fun z => (("self" :: f :: fs : List Str).zip (.ref x :: v :: vs)).reverse.lookup z) y = some u := fun i y u h1 h2 => zip_look Y.nd h1 h2
    have henv : callEnv (ksFn "__init__" qual params body scope .none .none doc pm an (.ref cda) ct cc) hp.objs.size fI = ksEnv qual scope hp.objs.size fI (.ref cda) cc := rfl
    show PySem.wpAt _ _ _ (execs body (callEnv (ksFn "__init__" qual params body scope .none .none doc pm an (.ref cda) ct cc) hp.objs.size fI)) _ _ _
    rw [henv]
    have bk0 : ∀ b o, base.get? b = some o → h0.get? b = some o := fun b o e => k0 b o (bk b o e)
    have hx0 := k0 _ _ hx
    have hs0 : (fun z => (("self" :: f :: fs : List Str).zip (.ref x :: v :: vs)).reverse.lookup z) ar.arg = some (.ref x) := by
      rw [ha]
      exact look 0 "self" _ rfl rfl
    have hxs : hp.objs.size ≠ x := Nat.ne_of_gt (Heap.lt_size hx)
    have eb' : execs body (ksEnv qual scope hp.objs.size fI (.ref cda) cc) = execs (.Expr (.Call (.Attribute (.Call (.Name "super" p0) [] [] p1) "__init__" p2) [.Constant (.str msg) j p3] [] p4) p5 :: .Assign [.Attribute (.Name "self" q1) f q2] (.Name f q3) q4 :: ss) (ksEnv qual scope hp.objs.size fI (.ref cda) cc) := by rw [eb]
    rw [eb']
    refine ks_wpAt_execs_cons (x_super T ini M (s := ⟨h0, g, d, _, os⟩) bk0 rfl Y.sup Y.clsv Y.kind har (by rw [ha]; exact Y.self) hns hs0 hx0 hln fun h1 tk1 t1 k1 hx1 => ?_)
    refine wpAt_of_wpAny ?_
    have X1 : K.In h1 := fun a o e => k1 a o (fun z => by rw [z, hKx] at e; cases e) (k0 _ _ (X a o e))
    have hn1 : h1.Ns hp.objs.size (fun z => (("self" :: f :: fs : List Str).zip (.ref x :: v :: vs)).reverse.lookup z) := by
      obtain ⟨o, es, ep, e, r⟩ := hns
      exact ⟨o, es, ep, k1 _ _ hxs e, r⟩
    obtain ⟨hl, hdb⟩ := Y.loc f (List.mem_cons_self ..)
    refine wpAny_execs_cons (plainObj_wpAny_Assign_Attribute ?_)
    refine wpAny_Name (wpAny_loadName_local Y.kind hl hn1 (look 1 f v rfl rfl) ?_) hdb
    refine wpAny_Name (wpAny_loadName_local Y.kind Y.self hn1 (look 0 "self" (.ref x) rfl rfl) ?_) (by decide)
    refine x_set0 SF X1 hx1 T.over T.sa (T.no f (List.mem_cons_self ..)) T.hdC fun h2 tk2 dx k2 hge hne hx2 hns2 => ?_
    show wpAny _ _ (execs ss _) _ _ _
    have lt01 : hp.objs.size < h1.objs.size := hn1.lt
    have dxL : dx ≠ hp.objs.size := Nat.ne_of_gt (Nat.lt_of_lt_of_le lt01 hge)
    have hKd : K.lookup dx = none := by
      cases e : K.lookup dx with
      | none => rfl
      | some o => exact absurd (Nat.lt_of_lt_of_le (Heap.lt_size (X1 _ _ e)) hge) (Nat.lt_irrefl _)
    have X2 : K.In h2 := fun a o e => k2 a o (fun z => by rw [z, hKx] at e; cases e) (X1 a o e)
    have hn2 : h2.Ns hp.objs.size (fun z => (("self" :: f :: fs : List Str).zip (.ref x :: v :: vs)).reverse.lookup z) := by
      obtain ⟨o, es, ep, e, r⟩ := hn1
      exact ⟨o, es, ep, k2 _ _ hxs e, r⟩
    have hns2' : h2.Ns1 dx (fieldsOf [(f, v)]) := by
      have e : fieldsOf [(f, v)] = fun y => if y = f then some v else none := rfl
      rw [e]
      exact hns2
    refine x_more (fs0 := f :: fs) (x := x) (dx := dx) (L := hp.objs.size) (env := ksEnv qual scope hp.objs.size fI (.ref cda) cc) T SF rfl Y.kind Y.self hKd dxL S vs [(f, v)] h2 g d tk2 os _ _ (fun y hy => Y.loc y (List.mem_cons_of_mem _ hy)) (fun y hy => List.mem_cons_of_mem _ hy) hlen.symm (by simp; omega) X2 hn2 (look 0 "self" (.ref x) rfl rfl)
      (fun i y u h1 h2 => look (i + 2) y u h1 h2) hx2 hns2' hne fun h3 tk3 k3 hns3 => ?_
    refine hq h3 tk3 dx t1 (fun b o hb e => ?_) (Nat.le_trans (Nat.le_of_lt lt01) hge) hne (k3 _ _ (Ne.symm hne) hx2) hns3
    have ltb := Heap.lt_size (show hp.get? b = some o from e)
    exact k3 b o (Nat.ne_of_lt (Nat.lt_of_lt_of_le (Nat.lt_trans ltb lt01) hge)) (k2 b o hb (k1 b o hb (k0 b o e)))
end
end Hl
set_option Elab.async false
set_option maxRecDepth 100000
set_option maxHeartbeats 4000000
namespace Hl
open PySem PySem.Spec PyProof.Rows L2
theorem relO_fields : ∀ {l : List (Str × V)} {m : List (Str × Value)}, KV l m → ∀ y : Str, RelO (l.lookup y) (fieldsOf m y)
  | _, _, .nil, _ => trivial
  | _, _, .cons (a := (a, v)) (b := (b, u)) (l₁ := l) (l₂ := m) r t, y => by
    obtain ⟨e, rv⟩ := r
    have e : a = b := e
    subst e
    have rv : RelV v u := rv
    by_cases h : y = a
    · subst h
      have e1 : List.lookup y ((y, v) :: l) = some v := by simp [List.lookup]
      have e2 : fieldsOf ((y, u) :: m) y = some u := if_pos rfl
      rw [e1, e2]
      exact rv
    · have q : (y == a) = false := by simpa using h
      have e1 : List.lookup y ((a, v) :: l) = l.lookup y := by simp [List.lookup, q]
      have e2 : fieldsOf ((a, u) :: m) y = fieldsOf m y := if_neg h
      rw [e1, e2]
      exact relO_fields t y
theorem kv_zip : ∀ {fs : List Str} {vs : List V} {us : List Value}, Vals vs us → KV (fs.zip vs) (fs.zip us)
  | [], _, _, _ => .nil
  | _ :: _, _, _, .nil => .nil
  | _ :: _, _, _, .cons r t => .cons ⟨rfl, r⟩ (kv_zip t)
theorem kv_app : ∀ {l l2 : List (Str × V)} {m m2 : List (Str × Value)}, KV l m → KV l2 m2 → KV (l ++ l2) (m ++ m2)
  | _, _, _, _, .nil, s => s
  | _, _, _, _, .cons r t, s => .cons r (kv_app t s)
theorem kv_rev : ∀ {l : List (Str × V)} {m : List (Str × Value)}, KV l m → KV l.reverse m.reverse
  | _, _, .nil => .nil
  | _, _, .cons r t => by
    rw [List.reverse_cons, List.reverse_cons]
    exact kv_app (kv_rev t) (.cons r .nil)
section
variable {X : Cx} {Bn newId inN : String} {bmn : List Value} {B initId : String} {bmB : List Value} {C fI cc cda : Addr} {qual msg f : Str} {fs : List Str} {params : Arguments} {body : List Stmt} {scope : Scope}
/-- C(e, ..): the exception's own dict holds the arguments under the names (the last one first) -/
def tMkX (C : Addr) (fs : List Str) (ta : TA) : L2.St → Hp → XK → Prop := fun σ H Q => ta σ H fun vs H1 => vs.length = fs.length ∧ ∀ d, H1 d = none → Q (.ref C) (some d) (upd H1 d (.xd (fs.zip vs).reverse))
theorem pmk_x {x : Str} {e : Expr} {es : List Expr} {ta : TA} {p pos : Pos} {k : Nat} (kd : XKind Bn newId inN bmn B initId bmB) (T : XTxt X.K X.mg X.prog C fI cc cda newId B initId bmB (f :: fs) qual params body scope) (Y : XBody msg f fs params body scope) (gC : X.mg x = some (.ref C)) (hfs : fs.length ≤ 100)
    (hb : ∀ (s : Shared) (doc pm : Value) (an : Option Addr) (ct : Value) (us : List Value), us.length = ("self" :: f :: fs : List Str).length → BindsTo s (PySem.W.ksFn "__init__" qual params body scope .none .none doc pm an (.ref cda) ct cc) ⟨us, []⟩ (("self" :: f :: fs : List Str).zip us))
    (hr : Room k X.A) (ha : PA X (e :: es) ta) (hg : Gl X x := by rfl) (hdb : (x == ("__debug__" : Str)) = false := by decide)
    (he : starEach (e :: es) X.env = (false, eval e X.env) :: starEach es X.env := by rfl) (hpl : (backTo pos (starEach es X.env)).any (·.1) = false := by rfl) :
    PMk X (.Call (.Name x p) (e :: es) [] pos) (tMkX C (f :: fs) ta) := by
  intro pins s σ H Q I h
  refine wpAny_Call_Name_kw (ld_glob I hg gC ?_ hdb)
  refine PySem.W.callWith_K (h₀ := X.base) I.ok.mod.kin T.kC (thn (ha.run pos pins s σ H _ I h) fun us s1 hh => ?_) he hpl
  obtain ⟨vs, H1, I1, r1, hlen, q1⟩ := hh
  refine ⟨I1.kIn, ?_⟩
  show wpAny _ _ (call (.ref C) us) _ _ _
  have bk1 := I1.bk
  have hroom : X.A.depth + 1 < recursionLimit := by have := hr.dp; omega
  obtain ⟨nm, q, N, bs, bm, sn, sub, ab, col, dd, k0, k1, k2, k3, k5, hC, hbm⟩ := T.cls
  have ul : us.length = (f :: fs).length := by rw [← Paired.length r1]; exact hlen
  obtain ⟨hp, g, dr, tk, os⟩ := s1
  cases us with
  | nil => simp at ul
  | cons u us =>
    have hget : ((hp.push (PySem.W.kdv_tup (u :: us))).push (PySem.HandSPX.excO C hp.objs.size)).get? (hp.objs.size + 1) = some (PySem.HandSPX.excO C hp.objs.size) := by heap_get
    have kk : ∀ b o, hp.get? b = some o → ((hp.push (PySem.W.kdv_tup (u :: us))).push (PySem.HandSPX.excO C hp.objs.size)).get? b = some o := fun b o e => Heap.get?_push_of_some _ (Heap.get?_push_of_some _ e)
    have hnb : X.base.get? (hp.objs.size + 1) = none := by
      cases z : X.base.get? (hp.objs.size + 1) with
      | none => rfl
      | some o => exact absurd (Nat.lt_of_succ_lt (Heap.lt_size (bk1 _ _ z))) (Nat.lt_irrefl _)
    have hz : (u :: us).length ≤ sizeLine := by rw [ul, sizeLine_eq]; simp only [List.length_cons]; omega
    refine wpAny_call (x_call kd.F (kd.tail hbm) (I1.kIn _ _ hC) (PySem.W.looks_findIn I1.kIn T.iC) (fun self => PySem.W.bind_fn I1.kIn self T.tC) hz ?_)
    refine x_init T Y kd.ini kd.sf I1.mod (fun b o e => kk b o (bk1 b o e)) (by rw [make_depth]; exact hroom) (by simpa using ul) hfs hget hnb (fun _ _ doc pm an ct => hb _ doc pm an ct _ (by simp [ul])) fun h' tk' d t1 k' hge hne hx hns => ?_
    refine ⟨rfl, ?_⟩
    show MkP X pins σ Q (.ref (hp.objs.size + 1)) ⟨h', g, dr, tk', os⟩
    have old : ∀ b o, hp.get? b = some o → h'.get? b = some o := fun b o e => k' b o (Nat.ne_of_lt (Nat.lt_succ_of_lt (Heap.lt_size e))) (kk b o e)
    have hdb' : hp.objs.size ≤ d := by
      have z : ((hp.push (PySem.W.kdv_tup (u :: us))).push (PySem.HandSPX.excO C hp.objs.size)).objs.size ≤ d := hge
      rw [Heap.size_push, Heap.size_push] at z
      omega
    obtain ⟨G', g1, g2⟩ := restrict h' fun b => decide (b ≠ hp.objs.size + 1)
    have gk : ∀ b, b ≠ hp.objs.size + 1 → G'.get? b = h'.get? b := fun b hb => g1 b (decide_eq_true hb)
    have ge : G'.get? (hp.objs.size + 1) = none := g2 _ (by simp)
    have old' : ∀ b o, hp.get? b = some o → G'.get? b = some o := fun b o q => (gk b (Nat.ne_of_lt (Nat.lt_succ_of_lt (Heap.lt_size q)))).trans (old b o q)
    cases vs with
    | nil => simp at hlen
    | cons v vs =>
      have kv : KV ((f :: fs).zip (v :: vs)).reverse ((fs.zip us).reverse ++ [(f, u)]) := by
        have z := kv_rev (kv_zip (fs := f :: fs) r1)
        rw [show ((f :: fs).zip (u :: us)).reverse = (fs.zip us).reverse ++ [(f, u)] by simp] at z
        exact z
      have ob : ObjOk X.prog X.w (upd H1 d (.xd ((f :: fs).zip (v :: vs)).reverse)) G' d (.xd ((f :: fs).zip (v :: vs)).reverse) :=
        ⟨_, hns.at (fun o q => (gk d hne).trans q), fun y => relO_fields kv y⟩
      have J : Inv X pins σ (upd H1 d (.xd ((f :: fs).zip (v :: vs)).reverse)) ⟨G', g, dr, tk', os⟩ := I1.laid (t' := tk') old' hdb' ob
      refine ⟨hp.objs.size + 1, _, _, ⟨G', g, dr, tk', os⟩, _, .ref C, some d, rfl, J, fun b o q => ?_, ge, hx, ⟨rfl, rfl⟩, rfl, rfl, ?_, rfl, I1.bare, raises_own T.exC T.tyC, q1 d (I1.hok.fresh hdb')⟩
      · by_cases hb : b = hp.objs.size + 1
        · have q' : G'.get? b = some o := q
          rw [hb, ge] at q'; cases q'
        · exact (gk b hb).symm.trans q
      · rw [upd_ne (Ne.symm hne)]
        exact I1.hok.fresh (Nat.le_succ _)
end
end Hl
set_option Elab.async false
set_option maxRecDepth 100000
set_option maxHeartbeats 4000000
namespace Hl
open PySem PySem.Spec PyProof.Rows L2
/-- except x: suite one / except (y, z): suite two, which takes what is left -/
def wTwo (K : PySem.W.Frag) (c y z : Value) (t1 t2 : Addr → Value → Option Addr → TS) (D : Ends) : WX := fun cls d σ H =>
  ∃ b, PySem.W.exmOne K cls c = some b ∧ (b = true → ∀ a, H a = none → t1 a cls d D σ H) ∧ (b = false → PySem.W.exmAny K cls [y, z] = some true ∧ ∀ a, H a = none → t2 a cls d D σ H)
section
variable {X : Cx} {pins : List (Addr × Obj)} {σ : L2.St} {H : Hp} {s : Shared}
theorem nm_val {x : Str} {c : Value} {np : Pos} {E : Value → Shared → Prop} {Q : Value → Shared → Prop} (hc : Names X x c) (I : Inv X pins σ H s) (q : Q c s) : wpAny (model X.prog X.w) X.A (eval (.Name x np) X.env) Q E s := by
  obtain ⟨hg, hd, hm | ⟨hm, hv, hn⟩⟩ := hc
  · exact ld_glob I hg hm q hd
  · exact ld_blt I hg hm hv q hn hd
theorem fly_keeps {G h h' : Heap} {l : List Env} {a : Addr} {Z : Obj → Prop} (x : HandSPX.FlyingZ G l a Z h) (k : ∀ b o, h.get? b = some o → h'.get? b = some o) : HandSPX.FlyingZ G l a Z h' := by
  obtain ⟨h1, h2, h3, oe, vs, T, oT, ts, a1, a2, a3, a4, a5, a6, a7, a8, a9⟩ := x
  exact ⟨fun b o e => k b o (h1 b o e), h2, Heap.FunFrames.of_keeps (fun b o e _ => ⟨o, k b o e, rfl⟩) h3, oe, vs, T, oT, ts, k _ _ a1, a2, a3, a4, a5, a6, k _ _ a7, a8, a9⟩
/-- how a suite ends -/
theorem suite_back {a : Addr} {oe : Obj} {D : Ends} {f : Flow} {s6 : Shared} (ok : X.Ok) (h : SP (X.suite a ((a, oe) :: (X.pn ++ pins))) [] D f s6) : SP X pins D f s6 := by
  cases f with
  | next => obtain ⟨σ6, H6, S6, q6⟩ := h; exact ⟨_, _, S6.unsuite ok, q6⟩
  | brk => obtain ⟨σ6, H6, S6, q6⟩ := h; exact ⟨_, _, S6.unsuite ok, q6⟩
  | cont => obtain ⟨σ6, H6, S6, q6⟩ := h; exact ⟨_, _, S6.unsuite ok, q6⟩
  | ret u => obtain ⟨v6, σ6, H6, S6, r6, q6⟩ := h; exact ⟨_, _, _, S6.unsuite ok, r6, q6⟩
theorem body_back {D : Ends} {xe : Value → Shared → Prop} {f : Flow} {s1 : Shared} (ok : X.Ok) (h : SP (X.tr (X.pn ++ pins) xe) [] D f s1) : SP X pins D f s1 := by
  cases f with
  | next => obtain ⟨σ', H', J', q⟩ := h; exact ⟨σ', H', J'.ofTry ok, q⟩
  | brk => obtain ⟨σ', H', J', q⟩ := h; exact ⟨σ', H', J'.ofTry ok, q⟩
  | cont => obtain ⟨σ', H', J', q⟩ := h; exact ⟨σ', H', J'.ofTry ok, q⟩
  | ret u => obtain ⟨v, σ', H', J', r, q⟩ := h; exact ⟨v, σ', H', J'.ofTry ok, r, q⟩
end
section
variable {X : Cx} {body s1 s2 : List Stmt} {b1 b2 : Stmt} {x y z : Str} {c cy cz : Value} {p1 p2 p3 p4 p5 p6 pos : Pos} {k : Nat} {tb : WX → TS} {t1 t2 : Addr → Value → Option Addr → TS}
theorem ps_try_two (hs : X.stack = X.env :: X.outer) (hf : X.env.frame = some X.env.locals) (hc : Names X x c) (hy : Names X y cy) (hz : Names X z cz)
    (hb : ∀ (W : WX) (pn : List (Addr × Obj)) (xe : Value → Shared → Prop), Takes (X.tr pn xe) W → PassesOwn (model X.prog X.w) X.A X.env xe → PSs (X.tr pn xe) body (tb W))
    (h1 : ∀ (a : Addr) (oe : Obj) (cls : Value) (d : Option Addr) (pn : List (Addr × Obj)), Zc cls d oe → (∃ vs, oe.data = .fields vs) → PSs (X.suite a ((a, oe) :: pn)) (b1 :: s1) (t1 a cls d))
    (h2 : ∀ (a : Addr) (oe : Obj) (cls : Value) (d : Option Addr) (pn : List (Addr × Obj)), Zc cls d oe → (∃ vs, oe.data = .fields vs) → PSs (X.suite a ((a, oe) :: pn)) (b2 :: s2) (t2 a cls d)) :
    PS X (.Try body [.ExceptHandler (some (.Name x p1)) none (b1 :: s1) p2, .ExceptHandler (some (.Tuple [.Name y p3, .Name z p4] k p5)) none (b2 :: s2) p6] [] [] pos) (fun D σ H => tb (wTwo X.K c cy cz t1 t2 D) D σ H) := by
  refine ⟨fun pins s σ H D I h => ?_⟩
  have ok := I.ok
  have fr : X.A.frames = some (X.env :: X.outer) := by rw [ok.frames, hs]
  refine wpAny_Try_except ?_
  refine wpAny_mono ((hb (wTwo X.K c cy cz t1 t2 D) (X.pn ++ pins) (fun e s₁ => wpAny (model X.prog X.w) X.A (noteFrame e X.env) (fun _ s₂ => wpAny (model X.prog X.w) X.A (setFlight e none) (fun _ s₃ =>
    wpAny (model X.prog X.w) X.A (handleBy e X.env [.ExceptHandler (some (.Name x p1)) none (b1 :: s1) p2, .ExceptHandler (some (.Tuple [.Name y p3, .Name z p4] k p5)) none (b2 :: s2) p6]) (SP X pins D) X.xe s₃) X.xe s₂) X.xe s₁) (fun u s' xx => ?_) PassesOwn.looking).run [] s σ H D (I.toTry _) h) (fun f s1 hsp => ?_) (fun e s1 he => he)
  · obtain ⟨a, G, sI, pins', σ', H', cls, d, rfl, J', nb, up, sky, na, os, ag, w⟩ := xx
    have J : Inv X pins σ' H' sI := J'.ofTry ok
    rw [show (X.tr (X.pn ++ pins) _).stack = X.env :: X.outer from hs] at sky
    show wpAny (model X.prog X.w) X.A (noteFrame (.ref a) X.env) _ _ _
    refine Sky.land Zc.steady fr hf sky fun h3 fl3 up3 => ?_
    have J3 : Inv X pins σ' H' { s' with heap := h3 } := J.landed nb fl3.1 (up.trans up3) os ag
    obtain ⟨oe3, vs3, he3, hz3, hd3⟩ := fl3.there
    have nfr : a ∉ frs (X.env :: X.outer) := fun hm => by
      obtain ⟨_, o', e', hnf⟩ := fl3.2.2.1.mem hm
      rw [he3] at e'; cases e'
      exact hnf _ hd3
    have nL : a ≠ X.env.locals := fun q => nfr (List.mem_filterMap.mpr ⟨X.env, List.mem_cons_self, by rw [hf, q]⟩)
    have nF : a ∉ X.fs := fun hm => by
      obtain ⟨e, he, q⟩ := List.mem_filterMap.mp hm
      exact nfr (List.mem_filterMap.mpr ⟨e, List.mem_cons_of_mem _ he, q⟩)
    have S3 := J3.suite he3 hd3 na nL nF
    have LT : PySem.W.Looks (model X.prog X.w) h3 (typeOf (.ref a)) cls := fun A Q E s k q => wpAny_typeOf_ref (k _ _ he3) (by rw [hz3.1]; exact q)
    -- a suite runs
    have runs : ∀ {b₀ : Stmt} {suite : List Stmt} {ts : Addr → Value → Option Addr → TS} {q : Pos} (h5 : Heap) (fl5 : HandSPX.FlyingZ G (X.env :: X.outer) a (Zc cls d) h5) (up5 : s'.heap.UpToSlots h5),
        (∀ (a : Addr) (oe : Obj) (cls : Value) (d : Option Addr) (pn : List (Addr × Obj)), Zc cls d oe → (∃ vs, oe.data = .fields vs) → PSs (X.suite a ((a, oe) :: pn)) (b₀ :: suite) (ts a cls d)) → ts a cls d D σ' H' →
        codeAny (model X.prog X.w) (X.A.mark (some (.ref a))) (.handlers (.ref a) [.ExceptHandler none none (b₀ :: suite) q] X.env) (fun r s₂ => match r with
          | .ok f => SP X pins D f s₂
          | .error x => cameBackBy (model X.prog X.w) X.A X.env X.xe x s₂) { s' with heap := h5 } := by
      intro b₀ suite ts q h5 fl5 up5 hsu w
      refine codeAny_handlers_suite ?_
      refine HandSPX.lands_againZ fl5 fun h4 fl4 up4 => ?_
      have J4 : Inv X pins σ' H' { s' with heap := h4 } := J.landed nb fl4.1 ((up.trans up5).trans up4) os ag
      obtain ⟨oe4, vs4, he4, hz4, hd4⟩ := fl4.there
      exact wpAny_mono ((hsu a oe4 cls d (X.pn ++ pins) hz4 ⟨_, hd4⟩).run [] _ _ H' _ (J4.suite he4 hd4 na nL nF) w) (fun f s6 hsp => suite_back ok hsp) (fun _ _ z => False.elim z)
    obtain ⟨b, hb1, hyes, hno⟩ := w
    refine wpAny_handleBy_cons (codeAny_handlers_test ?_) (by intro q; cases q)
    refine nm_val (X := X.suite a ((a, oe3) :: (X.pn ++ pins))) hc S3 ((PySem.W.exm_one (M := model X.prog X.w) J3.kIn LT hb1).here ?_)
    cases b with
    | true => exact runs h3 fl3 up3 h1 (hyes rfl a na)
    | false =>
      show wpAny _ X.A (handleBy (.ref a) X.env _) _ _ _
      obtain ⟨hb2, w2⟩ := hno rfl
      refine wpAny_handleBy_cons (codeAny_handlers_test ?_) (by intro q; cases q)
      refine wpAny_Tuple_spliced (Calls.spliced_cons (nm_val (X := X.suite a ((a, oe3) :: (X.pn ++ pins))) hy S3 (Calls.spliced_cons (nm_val (X := X.suite a ((a, oe3) :: (X.pn ++ pins))) hz S3 (Calls.spliced_nil ⟨by rw [sizeLine_eq]; exact (by decide : 2 ≤ 16777216), ?_⟩)))))
      have kk : ∀ b o, h3.get? b = some o → (h3.push { cls := .type "tuple", data := .seq [cy, cz].toArray }).get? b = some o := fun b o e => Heap.get?_push_of_some _ e
      have fl5 : HandSPX.FlyingZ G (X.env :: X.outer) a (Zc cls d) (h3.push { cls := .type "tuple", data := .seq [cy, cz].toArray }) := fly_keeps fl3 kk
      refine (PySem.W.exm_tup2 (M := model X.prog X.w) (J3.kIn.keeps kk) (LT.keeps kk) (Heap.get?_push_size _ rfl) hb2).here ?_
      exact runs _ fl5 (up3.trans (Heap.UpToSlots.of_keeps kk)) h2 (w2 a na)
  · have q := body_back ok hsp
    cases f with
    | next => exact wpAny_execs_nil q
    | brk => exact q
    | cont => exact q
    | ret u => exact q
end
end Hl
set_option Elab.async false
set_option maxRecDepth 100000
namespace Hl
open PySem PySem.Spec PyProof.Rows L2
def plainW : List Str := ["states", "ties", "copies", "backup", "steps", "caught", "back"]
/-- the first words of the odd lines -/
def oddW : List Str := ["", "states", "State", "back", "steps\n", "copies,", "none"]
/-- where the defs and the classes stand -/
structure Ad where
  fIsInteger : Addr
  fIsNumber : Addr
  fIsBelow : Addr
  fIsWithin : Addr
  fIsSequence : Addr
  fIsText : Addr
  fIsTable : Addr
  fCheckTables : Addr
  fMachI : Addr
  fNeedState : Addr
  fNeedDeed : Addr
  fPairRows : Addr
  fEndsOf : Addr
  fJoin : Addr
  fIsPair : Addr
  fCheckTies : Addr
  fWebI : Addr
  fNeedHouse : Addr
  fNeedTie : Addr
  fOtherEnd : Addr
  fTiesAt : Addr
  fWithItem : Addr
  fStoreI : Addr
  fLeaveWalk : Addr
  fCount : Addr
  fDo : Addr
  fMeet : Addr
  fRead : Addr
  fPutBack : Addr
  fNumbersText : Addr
  fTold : Addr
  fCopiesText : Addr
  fDeskI : Addr
  fSayPlain : Addr
  fSayTold : Addr
  fSay : Addr
  fLBox : Addr
  fLTake : Addr
  fLPick : Addr
  fLTables : Addr
  fLTies : Addr
  fLRow : Addr
  fLJoin : Addr
  fLEnded : Addr
  fLRead : Addr
  fLCounted : Addr
  fLMet : Addr
  fLHeld : Addr
  fLFault : Addr
  fLMoved : Addr
  fLLines : Addr
  fLaw : Addr
  cMachine : Addr
  cWeb : Addr
  cStore : Addr
  cDesk : Addr
  xNetError : Addr
  xBadMachine : Addr
  xBadWeb : Addr
  xBadText : Addr
  xRefused : Addr
  xUntold : Addr
  xNoState : Addr
  xNoDeed : Addr
  xNoHouse : Addr
  xNoTie : Addr
  iBadText : Addr
  ccBadText : Addr
  cdBadText : Addr
  iRefused : Addr
  ccRefused : Addr
  cdRefused : Addr
  iUntold : Addr
  ccUntold : Addr
  cdUntold : Addr
  iNoState : Addr
  ccNoState : Addr
  cdNoState : Addr
  iNoDeed : Addr
  ccNoDeed : Addr
  cdNoDeed : Addr
  iNoHouse : Addr
  ccNoHouse : Addr
  cdNoHouse : Addr
  iNoTie : Addr
  ccNoTie : Addr
  cdNoTie : Addr
  aPlain : Addr
  aNumbers : Addr
/-- the defs' own data -/
structure Fd where
  fIsInteger : FuncData
  fIsNumber : FuncData
  fIsBelow : FuncData
  fIsWithin : FuncData
  fIsSequence : FuncData
  fIsText : FuncData
  fIsTable : FuncData
  fCheckTables : FuncData
  fMachI : FuncData
  fNeedState : FuncData
  fNeedDeed : FuncData
  fPairRows : FuncData
  fEndsOf : FuncData
  fJoin : FuncData
  fIsPair : FuncData
  fCheckTies : FuncData
  fWebI : FuncData
  fNeedHouse : FuncData
  fNeedTie : FuncData
  fOtherEnd : FuncData
  fTiesAt : FuncData
  fWithItem : FuncData
  fStoreI : FuncData
  fLeaveWalk : FuncData
  fCount : FuncData
  fDo : FuncData
  fMeet : FuncData
  fRead : FuncData
  fPutBack : FuncData
  fNumbersText : FuncData
  fTold : FuncData
  fCopiesText : FuncData
  fDeskI : FuncData
  fSayPlain : FuncData
  fSayTold : FuncData
  fSay : FuncData
  fLBox : FuncData
  fLTake : FuncData
  fLPick : FuncData
  fLTables : FuncData
  fLTies : FuncData
  fLRow : FuncData
  fLJoin : FuncData
  fLEnded : FuncData
  fLRead : FuncData
  fLCounted : FuncData
  fLMet : FuncData
  fLHeld : FuncData
  fLFault : FuncData
  fLMoved : FuncData
  fLLines : FuncData
  fLaw : FuncData
/-- what the top has left -/
structure Txt (P : Program) (w : World) (K : PySem.W.Frag) (mg : Str → Option Value) (a : Ad) (d : Fd) : Prop where
  FIsInteger : Fun K "is_integer" "is_integer" sIsInteger a.fIsInteger d.fIsInteger
  bIsInteger : Binds K d.fIsInteger pIsInteger []
  gIsInteger : mg "is_integer" = some (.ref a.fIsInteger)
  FIsNumber : Fun K "is_number" "is_number" sIsNumber a.fIsNumber d.fIsNumber
  bIsNumber : Binds K d.fIsNumber pIsNumber []
  gIsNumber : mg "is_number" = some (.ref a.fIsNumber)
  FIsBelow : Fun K "is_below" "is_below" sIsBelow a.fIsBelow d.fIsBelow
  bIsBelow : Binds K d.fIsBelow pIsBelow []
  gIsBelow : mg "is_below" = some (.ref a.fIsBelow)
  FIsWithin : Fun K "is_within" "is_within" sIsWithin a.fIsWithin d.fIsWithin
  bIsWithin : Binds K d.fIsWithin pIsWithin []
  gIsWithin : mg "is_within" = some (.ref a.fIsWithin)
  FIsSequence : Fun K "is_sequence" "is_sequence" sIsSequence a.fIsSequence d.fIsSequence
  bIsSequence : Binds K d.fIsSequence pIsSequence []
  gIsSequence : mg "is_sequence" = some (.ref a.fIsSequence)
  FIsText : Fun K "is_text" "is_text" sIsText a.fIsText d.fIsText
  bIsText : Binds K d.fIsText pIsText []
  gIsText : mg "is_text" = some (.ref a.fIsText)
  FIsTable : Fun K "is_table" "is_table" sIsTable a.fIsTable d.fIsTable
  bIsTable : Binds K d.fIsTable pIsTable []
  gIsTable : mg "is_table" = some (.ref a.fIsTable)
  FCheckTables : Fun K "check_tables" "check_tables" sCheckTables a.fCheckTables d.fCheckTables
  bCheckTables : Binds K d.fCheckTables pCheckTables []
  gCheckTables : mg "check_tables" = some (.ref a.fCheckTables)
  FMachI : Fun K "__init__" "Machine.__init__" sMachI a.fMachI d.fMachI
  bMachI : Binds K d.fMachI pMachI []
  MMachine : Mk K a.cMachine a.fMachI
  FNeedState : Fun K "need_state" "need_state" sNeedState a.fNeedState d.fNeedState
  bNeedState : Binds K d.fNeedState pNeedState []
  gNeedState : mg "need_state" = some (.ref a.fNeedState)
  FNeedDeed : Fun K "need_deed" "need_deed" sNeedDeed a.fNeedDeed d.fNeedDeed
  bNeedDeed : Binds K d.fNeedDeed pNeedDeed []
  gNeedDeed : mg "need_deed" = some (.ref a.fNeedDeed)
  FPairRows : Fun K "pair_rows" "pair_rows" sPairRows a.fPairRows d.fPairRows
  bPairRows : Binds K d.fPairRows pPairRows []
  gPairRows : mg "pair_rows" = some (.ref a.fPairRows)
  FEndsOf : Fun K "ends_of" "ends_of" sEndsOf a.fEndsOf d.fEndsOf
  bEndsOf : Binds K d.fEndsOf pEndsOf []
  gEndsOf : mg "ends_of" = some (.ref a.fEndsOf)
  FJoin : Fun K "join" "join" sJoin a.fJoin d.fJoin
  bJoin : Binds K d.fJoin pJoin []
  gJoin : mg "join" = some (.ref a.fJoin)
  FIsPair : Fun K "is_pair" "is_pair" sIsPair a.fIsPair d.fIsPair
  bIsPair : Binds K d.fIsPair pIsPair []
  gIsPair : mg "is_pair" = some (.ref a.fIsPair)
  FCheckTies : Fun K "check_ties" "check_ties" sCheckTies a.fCheckTies d.fCheckTies
  bCheckTies : Binds K d.fCheckTies pCheckTies []
  gCheckTies : mg "check_ties" = some (.ref a.fCheckTies)
  FWebI : Fun K "__init__" "Web.__init__" sWebI a.fWebI d.fWebI
  bWebI : Binds K d.fWebI pWebI []
  MWeb : Mk K a.cWeb a.fWebI
  FNeedHouse : Fun K "need_house" "need_house" sNeedHouse a.fNeedHouse d.fNeedHouse
  bNeedHouse : Binds K d.fNeedHouse pNeedHouse []
  gNeedHouse : mg "need_house" = some (.ref a.fNeedHouse)
  FNeedTie : Fun K "need_tie" "need_tie" sNeedTie a.fNeedTie d.fNeedTie
  bNeedTie : Binds K d.fNeedTie pNeedTie []
  gNeedTie : mg "need_tie" = some (.ref a.fNeedTie)
  FOtherEnd : Fun K "other_end" "other_end" sOtherEnd a.fOtherEnd d.fOtherEnd
  bOtherEnd : Binds K d.fOtherEnd pOtherEnd []
  gOtherEnd : mg "other_end" = some (.ref a.fOtherEnd)
  FTiesAt : Fun K "ties_at" "ties_at" sTiesAt a.fTiesAt d.fTiesAt
  bTiesAt : Binds K d.fTiesAt pTiesAt []
  gTiesAt : mg "ties_at" = some (.ref a.fTiesAt)
  FWithItem : Fun K "with_item" "with_item" sWithItem a.fWithItem d.fWithItem
  bWithItem : Binds K d.fWithItem pWithItem []
  gWithItem : mg "with_item" = some (.ref a.fWithItem)
  FStoreI : Fun K "__init__" "Store.__init__" sStoreI a.fStoreI d.fStoreI
  bStoreI : Binds K d.fStoreI pStoreI []
  MStore : Mk K a.cStore a.fStoreI
  FLeaveWalk : Fun K "leave_walk" "Store.leave_walk" sLeaveWalk a.fLeaveWalk d.fLeaveWalk
  bLeaveWalk : Binds K d.fLeaveWalk pLeaveWalk []
  mLeaveWalk : Meth K a.cStore "leave_walk" a.fLeaveWalk
  FCount : Fun K "count" "Store.count" sCount a.fCount d.fCount
  bCount : Binds K d.fCount pCount []
  mCount : Meth K a.cStore "count" a.fCount
  FDo : Fun K "do" "Store.do" sDo a.fDo d.fDo
  bDo : Binds K d.fDo pDo []
  mDo : Meth K a.cStore "do" a.fDo
  FMeet : Fun K "meet" "Store.meet" sMeet a.fMeet d.fMeet
  bMeet : Binds K d.fMeet pMeet []
  mMeet : Meth K a.cStore "meet" a.fMeet
  FRead : Fun K "read" "Store.read" sRead a.fRead d.fRead
  bRead : Binds K d.fRead pRead []
  mRead : Meth K a.cStore "read" a.fRead
  FPutBack : Fun K "put_back" "Store.put_back" sPutBack a.fPutBack d.fPutBack
  bPutBack : Binds K d.fPutBack pPutBack []
  mPutBack : Meth K a.cStore "put_back" a.fPutBack
  FNumbersText : Fun K "numbers_text" "numbers_text" sNumbersText a.fNumbersText d.fNumbersText
  bNumbersText : Binds K d.fNumbersText pNumbersText []
  gNumbersText : mg "numbers_text" = some (.ref a.fNumbersText)
  FTold : Fun K "told_number" "told_number" sTold a.fTold d.fTold
  bTold : Binds K d.fTold pTold []
  gTold : mg "told_number" = some (.ref a.fTold)
  FCopiesText : Fun K "copies_text" "copies_text" sCopiesText a.fCopiesText d.fCopiesText
  bCopiesText : Binds K d.fCopiesText pCopiesText []
  gCopiesText : mg "copies_text" = some (.ref a.fCopiesText)
  FDeskI : Fun K "__init__" "Desk.__init__" sDeskI a.fDeskI d.fDeskI
  bDeskI : Binds K d.fDeskI pDeskI []
  MDesk : Mk K a.cDesk a.fDeskI
  FSayPlain : Fun K "say_plain" "Desk.say_plain" sSayPlain a.fSayPlain d.fSayPlain
  bSayPlain : Binds K d.fSayPlain pSayPlain []
  mSayPlain : Meth K a.cDesk "say_plain" a.fSayPlain
  FSayTold : Fun K "say_told" "Desk.say_told" sSayTold a.fSayTold d.fSayTold
  bSayTold : Binds K d.fSayTold pSayTold []
  mSayTold : Meth K a.cDesk "say_told" a.fSayTold
  FSay : Fun K "say" "Desk.say" sSay a.fSay d.fSay
  bSay : Binds K d.fSay pSay []
  mSay : Meth K a.cDesk "say" a.fSay
  FLBox : Fun K "_law_box" "_law_box" sLBox a.fLBox d.fLBox
  bLBox : Binds K d.fLBox pLBox []
  gLBox : mg "_law_box" = some (.ref a.fLBox)
  FLTake : Fun K "_law_take" "_law_take" sLTake a.fLTake d.fLTake
  bLTake : Binds K d.fLTake pLTake []
  gLTake : mg "_law_take" = some (.ref a.fLTake)
  FLPick : Fun K "_law_pick" "_law_pick" sLPick a.fLPick d.fLPick
  bLPick : Binds K d.fLPick pLPick []
  gLPick : mg "_law_pick" = some (.ref a.fLPick)
  FLTables : Fun K "_law_tables" "_law_tables" sLTables a.fLTables d.fLTables
  bLTables : Binds K d.fLTables pLTables []
  gLTables : mg "_law_tables" = some (.ref a.fLTables)
  FLTies : Fun K "_law_ties" "_law_ties" sLTies a.fLTies d.fLTies
  bLTies : Binds K d.fLTies pLTies []
  gLTies : mg "_law_ties" = some (.ref a.fLTies)
  FLRow : Fun K "_law_row" "_law_row" sLRow a.fLRow d.fLRow
  bLRow : Binds K d.fLRow pLRow []
  gLRow : mg "_law_row" = some (.ref a.fLRow)
  FLJoin : Fun K "_law_join" "_law_join" sLJoin a.fLJoin d.fLJoin
  bLJoin : Binds K d.fLJoin pLJoin []
  gLJoin : mg "_law_join" = some (.ref a.fLJoin)
  FLEnded : Fun K "_law_ended" "_law_ended" sLEnded a.fLEnded d.fLEnded
  bLEnded : Binds K d.fLEnded pLEnded []
  gLEnded : mg "_law_ended" = some (.ref a.fLEnded)
  FLRead : Fun K "_law_read" "_law_read" sLRead a.fLRead d.fLRead
  bLRead : Binds K d.fLRead pLRead []
  gLRead : mg "_law_read" = some (.ref a.fLRead)
  FLCounted : Fun K "_law_counted" "_law_counted" sLCounted a.fLCounted d.fLCounted
  bLCounted : Binds K d.fLCounted pLCounted []
  gLCounted : mg "_law_counted" = some (.ref a.fLCounted)
  FLMet : Fun K "_law_met" "_law_met" sLMet a.fLMet d.fLMet
  bLMet : Binds K d.fLMet pLMet []
  gLMet : mg "_law_met" = some (.ref a.fLMet)
  FLHeld : Fun K "_law_held" "_law_held" sLHeld a.fLHeld d.fLHeld
  bLHeld : Binds K d.fLHeld pLHeld []
  gLHeld : mg "_law_held" = some (.ref a.fLHeld)
  FLFault : Fun K "_law_fault" "_law_fault" sLFault a.fLFault d.fLFault
  bLFault : Binds K d.fLFault pLFault []
  gLFault : mg "_law_fault" = some (.ref a.fLFault)
  FLMoved : Fun K "_law_moved" "_law_moved" sLMoved a.fLMoved d.fLMoved
  bLMoved : Binds K d.fLMoved pLMoved []
  gLMoved : mg "_law_moved" = some (.ref a.fLMoved)
  FLLines : Fun K "_law_lines_right" "_law_lines_right" sLLines a.fLLines d.fLLines
  bLLines : Binds K d.fLLines pLLines []
  gLLines : mg "_law_lines_right" = some (.ref a.fLLines)
  FLaw : Fun K "law" "law" sLaw a.fLaw d.fLaw
  bLaw : Binds K d.fLaw pLaw []
  gLaw : mg "law" = some (.ref a.fLaw)
  clMachine : Cls K a.cMachine
  gMachine : mg "Machine" = some (.ref a.cMachine)
  nMachine_tables : NoAttr K a.cMachine "tables"
  nMachine_deeds : NoAttr K a.cMachine "deeds"
  nMachine_states : NoAttr K a.cMachine "states"
  clWeb : Cls K a.cWeb
  gWeb : mg "Web" = some (.ref a.cWeb)
  nWeb_ties : NoAttr K a.cWeb "ties"
  nWeb_houses : NoAttr K a.cWeb "houses"
  clStore : Cls K a.cStore
  gStore : mg "Store" = some (.ref a.cStore)
  nStore_machine : NoAttr K a.cStore "machine"
  nStore_web : NoAttr K a.cStore "web"
  nStore_first : NoAttr K a.cStore "first"
  nStore_states : NoAttr K a.cStore "states"
  nStore_archives : NoAttr K a.cStore "archives"
  nStore_steps : NoAttr K a.cStore "steps"
  nStore_backup : NoAttr K a.cStore "backup"
  nStore_caught : NoAttr K a.cStore "caught"
  nStore_copies : NoAttr K a.cStore "copies"
  nStore_tied : NoAttr K a.cStore "tied"
  nStore_going : NoAttr K a.cStore "going"
  clDesk : Cls K a.cDesk
  gDesk : mg "Desk" = some (.ref a.cDesk)
  nDesk_store : NoAttr K a.cDesk "store"
  b_isinstance : mg "isinstance" = none
  b_int : mg "int" = none
  b_bool : mg "bool" = none
  b_list : mg "list" = none
  b_tuple : mg "tuple" = none
  b_str : mg "str" = none
  b_len : mg "len" = none
  b_all : mg "all" = none
  b_enumerate : mg "enumerate" = none
  b_sorted : mg "sorted" = none
  b_range : mg "range" = none
  b_abs : mg "abs" = none
  b_min : mg "min" = none
  b_max : mg "max" = none
  b_repr : mg "repr" = none
  b_KeyError : mg "KeyError" = none
  gMOST_DEEDS : ∃ t, mg "MOST_DEEDS" = some (.int 8 t)
  gMOST_STATES : ∃ t, mg "MOST_STATES" = some (.int 12 t)
  gMOST_HOUSES : ∃ t, mg "MOST_HOUSES" = some (.int 12 t)
  gMOST_TIES : ∃ t, mg "MOST_TIES" = some (.int 20 t)
  gMOST_FIGURES : ∃ t, mg "MOST_FIGURES" = some (.int 9 t)
  gNONE : ∃ t, mg "NONE" = some (.str "-" t)
  gFIGURES : ∃ t, mg "FIGURES" = some (.str "0123456789" t)
  gPLAIN : mg "PLAIN" = some (.ref a.aPlain)
  gNUMBERS : mg "NUMBERS" = some (.ref a.aNumbers)
  plain : ∀ H, SqT K H a.aPlain (plainW.map V.str)
  numK : ∃ es n, K.lookup a.aNumbers = some ⟨.type "dict", none, .dict es n, #[]⟩ ∧ PySem.W.KeysLit w.params es.toList ∧ (a.aNumbers == sysModules) = false
  num : KDct K w a.aNumbers "do" (.int 2) ∧ KDct K w a.aNumbers "meet" (.int 1) ∧ KDct K w a.aNumbers "read" (.int 1)
  numNo : ∀ x ∈ oddW, PySem.W.nsIn K a.aNumbers x = some none
  gNetError : mg "NetError" = some (.ref a.xNetError)
  gBadMachine : mg "BadMachine" = some (.ref a.xBadMachine)
  gBadWeb : mg "BadWeb" = some (.ref a.xBadWeb)
  gBadText : mg "BadText" = some (.ref a.xBadText)
  gRefused : mg "Refused" = some (.ref a.xRefused)
  gUntold : mg "Untold" = some (.ref a.xUntold)
  gNoState : mg "NoState" = some (.ref a.xNoState)
  gNoDeed : mg "NoDeed" = some (.ref a.xNoDeed)
  gNoHouse : mg "NoHouse" = some (.ref a.xNoHouse)
  gNoTie : mg "NoTie" = some (.ref a.xNoTie)
  XBadText : XTxt K mg P a.xBadText a.iBadText a.ccBadText a.cdBadText "ValueError.__new__" "ValueError" "ValueError.__init__" veMro ["at"] "BadText.__init__" (defArgs (inClass (topS 4) 0)) (defBody (inClass (topS 4) 0)) (defScope (inClass (topS 4) 0))
  XRefused : XTxt K mg P a.xRefused a.iRefused a.ccRefused a.cdRefused "ValueError.__new__" "ValueError" "ValueError.__init__" veMro ["at"] "Refused.__init__" (defArgs (inClass (topS 5) 0)) (defBody (inClass (topS 5) 0)) (defScope (inClass (topS 5) 0))
  XUntold : XTxt K mg P a.xUntold a.iUntold a.ccUntold a.cdUntold "ValueError.__new__" "ValueError" "ValueError.__init__" veMro ["archive", "here", "there"] "Untold.__init__" (defArgs (inClass (topS 6) 0)) (defBody (inClass (topS 6) 0)) (defScope (inClass (topS 6) 0))
  XNoState : XTxt K mg P a.xNoState a.iNoState a.ccNoState a.cdNoState "LookupError.__new__" "KeyError" "KeyError.__init__" keMro ["state"] "NoState.__init__" (defArgs (inClass (topS 7) 0)) (defBody (inClass (topS 7) 0)) (defScope (inClass (topS 7) 0))
  XNoDeed : XTxt K mg P a.xNoDeed a.iNoDeed a.ccNoDeed a.cdNoDeed "LookupError.__new__" "KeyError" "KeyError.__init__" keMro ["deed"] "NoDeed.__init__" (defArgs (inClass (topS 8) 0)) (defBody (inClass (topS 8) 0)) (defScope (inClass (topS 8) 0))
  XNoHouse : XTxt K mg P a.xNoHouse a.iNoHouse a.ccNoHouse a.cdNoHouse "LookupError.__new__" "KeyError" "KeyError.__init__" keMro ["house"] "NoHouse.__init__" (defArgs (inClass (topS 9) 0)) (defBody (inClass (topS 9) 0)) (defScope (inClass (topS 9) 0))
  XNoTie : XTxt K mg P a.xNoTie a.iNoTie a.ccNoTie a.cdNoTie "LookupError.__new__" "KeyError" "KeyError.__init__" keMro ["tie"] "NoTie.__init__" (defArgs (inClass (topS 10) 0)) (defBody (inClass (topS 10) 0)) (defScope (inClass (topS 10) 0))
  eUntold : PySem.W.exmOne K (.ref a.xUntold) (.ref a.xUntold) = some true
  eRefused : PySem.W.exmOne K (.ref a.xRefused) (.ref a.xUntold) = some false
  yRefused : PySem.W.exmAny K (.ref a.xRefused) [.ref a.xNetError, .type "KeyError"] = some true
  eNoHouse : PySem.W.exmOne K (.ref a.xNoHouse) (.ref a.xUntold) = some false
  yNoHouse : PySem.W.exmAny K (.ref a.xNoHouse) [.ref a.xNetError, .type "KeyError"] = some true
  eNoDeed : PySem.W.exmOne K (.ref a.xNoDeed) (.ref a.xUntold) = some false
  yNoDeed : PySem.W.exmAny K (.ref a.xNoDeed) [.ref a.xNetError, .type "KeyError"] = some true
  eNoTie : PySem.W.exmOne K (.ref a.xNoTie) (.ref a.xUntold) = some false
  yNoTie : PySem.W.exmAny K (.ref a.xNoTie) [.ref a.xNetError, .type "KeyError"] = some true
  sBadText : PySem.W.exmOne K (.ref a.xBadText) (.ref a.xBadText) = some true
  fBadText : XfC K a.xBadText
  sNoState : PySem.W.exmOne K (.ref a.xNoState) (.ref a.xNoState) = some true
  fNoState : XfC K a.xNoState
end Hl
set_option Elab.async false
set_option linter.all false
set_option maxRecDepth 100000
set_option maxHeartbeats 2000000
namespace Hl
open PySem PySem.Spec PyProof.Rows L2
/-! ### what the head has left: looked at, one part of the heap -/
def xMroB (C : Addr) (bmB : List Value) : List Value → Bool
  | .ref b :: r => decide (b = C) && PySem.W.excTail bmB r
  | _ => false
def xSltB (newId : String) : List (Option Value) → Bool
  | [_, _, _, _, some (.builtin n), _] => decide (n = newId)
  | _ => false
/-- the class at C is laid as an exception's -/
def xClsB (K : PySem.W.Frag) (C : Addr) (newId : String) (bmB : List Value) : Bool := match K.lookup C with
  | some ⟨.type t, _, .cls cd, sl⟩ => decide (t = "type") && (cd.hasDict && (!cd.hasDel && (xMroB C bmB cd.mro && xSltB newId sl.toList)))
  | _ => false
theorem xMroB_ok {C : Addr} {bmB l : List Value} (h : xMroB C bmB l = true) : ∃ bm, l = .ref C :: bm ∧ PySem.W.excTail bmB bm = true := by
  unfold xMroB at h
  split at h
  · rename_i b r
    obtain ⟨h1, h2⟩ := He.ba h
    exact ⟨r, by rw [of_decide_eq_true h1], h2⟩
  · cases h
theorem xSltB_ok {newId : String} {sl : Array (Option Value)} (h : xSltB newId sl.toList = true) : ∃ k0 k1 k2 k3 k5, sl = #[k0, k1, k2, k3, some (.builtin newId), k5] := by
  obtain ⟨l⟩ := sl
  unfold xSltB at h
  split at h
  · rename_i k0 k1 k2 k3 n k5 e
    have e2 : l = [k0, k1, k2, k3, some (.builtin n), k5] := e
    exact ⟨k0, k1, k2, k3, k5, by rw [e2, of_decide_eq_true h]⟩
  · cases h
theorem xClsB_ok {K : PySem.W.Frag} {C : Addr} {newId : String} {bmB : List Value} (h : xClsB K C newId bmB = true) :
    ∃ nm q N bs bm sn sub ab col dd k0 k1 k2 k3 k5, K.lookup C = some (excClassObj nm q C N bs bm true sn sub ab col dd k0 k1 k2 k3 k5 newId) ∧ PySem.W.excTail bmB bm = true := by
  unfold xClsB at h
  split at h
  · rename_i t dd cd sl e
    obtain ⟨h1, h⟩ := He.ba h
    obtain ⟨h2, h⟩ := He.ba h
    obtain ⟨h3, h⟩ := He.ba h
    obtain ⟨h4, h5⟩ := He.ba h
    obtain ⟨bm, h6, h7⟩ := xMroB_ok h4
    obtain ⟨k0, k1, k2, k3, k5, h8⟩ := xSltB_ok h5
    obtain ⟨nm, bs, mro, N, q, hd, sn, sub, ab, col, del⟩ := cd
    have h9 : hd = true := h2
    have h10 : del = false := by
      have z : (!del) = true := h3
      cases del with
      | false => rfl
      | true => cases z
    have h11 : mro = .ref C :: bm := h6
    refine ⟨nm, q, N, bs, bm, sn, sub, ab, col, dd, k0, k1, k2, k3, k5, ?_, h7⟩
    rw [e, h9, h10, h11, h8, of_decide_eq_true h1]
  · cases h
/-- an own exception's __init__, as the text has it -/
structure XD where
  x : Str
  newId : String
  base : String
  initId : String
  bm : List Value
  fs : List Str
  qual : Str
  st : Stmt
abbrev XfV : Type := Option (Str × Str × Arguments × FuncBody × Scope × Addr × List Str × Value × Value × Addr)
def XD.at_ (d : XD) : He.Defn := (d.x, some "__init__")
def xfO (K : PySem.W.Frag) (d : XD) : XfV := match K.lookup (He.fAd K d.at_) with
  | some ⟨_, _, .func fd, _⟩ => some (fd.name, fd.qualname, fd.params, fd.body, fd.scope, fd.globals, fd.closure.map (·.1), fd.defaults, fd.kwdefaults, fd.builtins)
  | _ => none
def XD.val (d : XD) : XfV := some ("__init__", d.qual, defArgs d.st, .stmts (defBody d.st), defScope d.st, mainGlobals, ["__class__"], .none, .none, builtinsNs)
/-- the cell of __class__ -/
def xfC (K : PySem.W.Frag) (d : XD) : Addr := match K.lookup (He.fAd K d.at_) with
  | some ⟨_, _, .func fd, _⟩ => (match fd.closure with
    | (_, c) :: _ => c
    | _ => 0)
  | _ => 0
def xCodB (K : PySem.W.Frag) (d : XD) : Bool := match K.lookup (He.fAd K d.at_) with
  | some ⟨_, _, .func fd, _⟩ => PySem.W.codeIn K fd.code d.qual
  | _ => false
theorem xf_ok {K : PySem.W.Frag} {d : XD} (e : xfO K d = d.val) (c : xCodB K d = true) : ∃ oc od doc pm an ct osl, K.lookup (He.fAd K d.at_) = some ⟨oc, od, .func (PySem.W.ksFn "__init__" d.qual (defArgs d.st) (defBody d.st) (defScope d.st) .none .none doc pm an (.ref (He.codeOf K d.at_)) ct (xfC K d)), osl⟩ ∧ PySem.W.codeIn K (.ref (He.codeOf K d.at_)) d.qual = true := by
  unfold xCodB at c
  cases q : K.lookup (He.fAd K d.at_) with
  | none =>
    rw [q] at c
    cases c
  | some o =>
    obtain ⟨oc, od, dt, osl⟩ := o
    unfold xfO at e
    rw [q] at e c
    cases dt with
    | func fd =>
      have c2 : PySem.W.codeIn K fd.code d.qual = true := c
      obtain ⟨cd, ecd⟩ := He.codeIn_ref c2
      have e0 := He.codeOf_eq q ecd
      have ec : xfC K d = (match fd.closure with
        | (_, c) :: _ => c
        | _ => 0) := by
        unfold xfC
        rw [q]
      obtain ⟨n1, n2, n3, n4, n5, n6, n7, n8, n9, n10, n11, n12, n13, n14, n15⟩ := fd
      have e2 : (some (n1, n2, n3, n4, n5, n6, n7.map (·.1), n8, n9, n15) : XfV) = d.val := e
      unfold XD.val at e2
      simp only [Option.some.injEq, Prod.mk.injEq] at e2
      obtain ⟨rfl, rfl, rfl, rfl, rfl, rfl, h7, rfl, rfl, rfl⟩ := e2
      have ecd' : n13 = .ref cd := ecd
      subst ecd'
      match n7, h7, ec with
      | [(x, cc)], h7, ec =>
        have hx : x = "__class__" := by
          injection h7
        subst hx
        rw [e0, show xfC K d = cc from ec]
        exact ⟨oc, od, n10, n11, n12, n14, osl, rfl, c2⟩
    | _ => cases c
def eqF (a b : Option Bool) : Bool := decide (a = b)
/-- the file of the code object -/
def xFilB (file : Str) (K : PySem.W.Frag) (cda : Addr) : Bool := match K.lookup cda with
  | some ⟨_, _, .fields vs, _⟩ => (match (vs[2]? : Option Value) with
    | some (.str f _) => file == f
    | _ => false)
  | _ => false
theorem xFilB_ok {file : Str} {K : PySem.W.Frag} {cda : Addr} (h : xFilB file K cda = true) : ∃ ccl cdd vs ccs f tf, K.lookup cda = some ⟨ccl, cdd, .fields vs, ccs⟩ ∧ vs[2]? = some (.str f tf) ∧ (file == f) = true := by
  unfold xFilB at h
  split at h
  · rename_i ccl cdd vs ccs e
    split at h
    · rename_i f tf e2
      exact ⟨ccl, cdd, vs, ccs, f, tf, e, e2, h⟩
    · cases h
  · cases h
def xCelB (K : PySem.W.Frag) (cc C : Addr) : Bool := match K.lookup cc with
  | some ⟨_, _, .cell (some (.ref b)), _⟩ => decide (b = C)
  | _ => false
theorem xCelB_ok {K : PySem.W.Frag} {cc C : Addr} (h : xCelB K cc C = true) : ∃ cl cld csl, K.lookup cc = some ⟨cl, cld, .cell (some (.ref C)), csl⟩ := by
  unfold xCelB at h
  split at h
  · rename_i cl cld b csl e
    rw [of_decide_eq_true h] at e
    exact ⟨cl, cld, csl, e⟩
  · cases h
def XD.C (K : PySem.W.Frag) (d : XD) : Addr := He.ga K d.x
def XD.I (K : PySem.W.Frag) (d : XD) : Addr := He.fAd K d.at_
def XD.ok1 (file : Str) (K : PySem.W.Frag) (d : XD) : Bool := xClsB K (d.C K) d.newId d.bm && (He.eqO (PySem.W.findIn K (.ref (d.C K)) "__setattr__") (some (some (.builtin "object.__setattr__"))) && (eqF (PySem.W.subIn K (.ref (d.C K)) (.type "BaseException")) (some true) && (decide (PySem.W.typeIn K (.ref (d.C K)) = some (.type "type")) &&
  (PySem.W.keepIn K (.ref (d.C K)) && (PySem.W.hasDictIn K (d.C K) && (He.eqO (PySem.W.findIn K (.ref (d.C K)) "__init__") (some (some (.ref (d.I K)))) && (decide (PySem.W.typeIn K (.ref (d.I K)) = some (.type "function")) &&
  (He.eqO (PySem.W.ks_superIn K (d.C K) (d.C K) "__init__") (some (some (.builtin d.initId))) && (eqF (PySem.W.subIn K (.ref (d.C K)) (.type d.base)) (some true) && eqF (PySem.W.mroIn K (d.C K) (.ref (d.C K))) (some true))))))))))
def XD.ok2 (file : Str) (K : PySem.W.Frag) (d : XD) : Bool := PySem.W.excOver K (d.C K) d.bm && (xCodB K d && (xFilB file K (He.codeOf K d.at_) && (xCelB K (xfC K d) (d.C K) && d.fs.all fun f => He.eqO (PySem.W.findIn K (.ref (d.C K)) f) (some none))))
theorem XD.txt {K : PySem.W.Frag} {mg : Str → Option Value} {P : Program} {d : XD} (e : xfO K d = d.val) (h1 : d.ok1 P.main.file K = true) (h2 : d.ok2 P.main.file K = true) (opq : PySem.W.nsIn K cStatics "thirdparty.any" = some none) (gS : mg "super" = none) (top : (P.main.scope.names.lookup ("super" : Str)).isSome = false) :
    XTxt K mg P (d.C K) (d.I K) (xfC K d) (He.codeOf K d.at_) d.newId d.base d.initId d.bm d.fs d.qual (defArgs d.st) (defBody d.st) (defScope d.st) := by
  obtain ⟨a1, h1⟩ := He.ba h1
  obtain ⟨a2, h1⟩ := He.ba h1
  obtain ⟨a3, h1⟩ := He.ba h1
  obtain ⟨a4, h1⟩ := He.ba h1
  obtain ⟨a5, h1⟩ := He.ba h1
  obtain ⟨a6, h1⟩ := He.ba h1
  obtain ⟨a7, h1⟩ := He.ba h1
  obtain ⟨a8, h1⟩ := He.ba h1
  obtain ⟨a9, h1⟩ := He.ba h1
  obtain ⟨a10, a11⟩ := He.ba h1
  obtain ⟨b1, h2⟩ := He.ba h2
  obtain ⟨b2, h2⟩ := He.ba h2
  obtain ⟨b3, h2⟩ := He.ba h2
  obtain ⟨b4, b5⟩ := He.ba h2
  obtain ⟨oc, od, doc, pm, an, ct, osl, c1, c2⟩ := xf_ok e b2
  exact ⟨xClsB_ok a1, He.eqO_ok a2, of_decide_eq_true a3, of_decide_eq_true a4, a5, a6, He.eqO_ok a7, of_decide_eq_true a8, He.eqO_ok a9, of_decide_eq_true a10, of_decide_eq_true a11, opq, b1, ⟨oc, od, doc, pm, an, ct, osl, c1⟩, c2, xFilB_ok b3, xCelB_ok b4, gS, top, fun f hf => He.eqO_ok (List.all_eq_true.mp b5 f hf)⟩
/-! ### the Hook -/
/-- the statics and what the module's names reach in n steps, the empty tables left out -/
def KH (n : Nat) (g : Addr → Option Obj) : PySem.W.Frag := He.frT g (cStatics :: He.asD g n)
abbrev AlH : Type := He.AlT × Bool × List XfV
structure HD where
  fa : List He.Fa
  fn : List He.DefD
  ts : List He.Tab
  tf : List He.Defn
  ex : PySem.W.Frag → Bool
  xs : List XD
def obsH (n : Nat) (D : HD) (g : Addr → Option Obj) : AlH := (He.obsT D.fa D.fn D.ts (KH n g), D.ex (KH n g) && He.tabsB g D.tf (KH n g), D.xs.map fun d => xfO (KH n g) d)
def valH (D : HD) (w : World) : AlH := (He.valT D.fn D.ts w, true, D.xs.map XD.val)
structure SaysH (D : HD) (w : World) (h : Heap) (K : PySem.W.Frag) : Prop where
  t : He.SaysT D.fa D.fn D.ts w K
  more : D.ex K = true
  hd : ∀ p ∈ D.tf, PySem.W.codeHdIn K (He.cT K p).1 (He.cT K p).2 = true
  out : ∀ p ∈ D.tf, K.lookup (He.cT K p).2 = none
  empty : ∀ p ∈ D.tf, h.get? (He.cT K p).2 = some { cls := .none, data := .fields #[] }
  xs : ∀ d ∈ D.xs, xfO K d = d.val
theorem saysH_of {n : Nat} {D : HD} {w : World} {h : Heap} (e : obsH n D h.get? = valH D w) : SaysH D w h (KH n h.get?) := by
  have e2 : (D.ex (KH n h.get?) && He.tabsB h.get? D.tf (KH n h.get?)) = true := congrArg (fun z : AlH => z.2.1) e
  have e3 : (D.xs.map fun d => xfO (KH n h.get?) d) = D.xs.map XD.val := congrArg (fun z : AlH => z.2.2) e
  obtain ⟨m, tb⟩ := He.ba e2
  have one : ∀ p ∈ D.tf, PySem.W.codeHdIn (KH n h.get?) (He.cT (KH n h.get?) p).1 (He.cT (KH n h.get?) p).2 = true ∧ ∃ o, h.get? (He.cT (KH n h.get?) p).2 = some o ∧ He.emptyTab o = true := fun p hp => by
    obtain ⟨x, y⟩ := He.ba (List.all_eq_true.mp tb p hp)
    refine ⟨x, ?_⟩
    cases q : h.get? (He.cT (KH n h.get?) p).2 with
    | none =>
      rw [q] at y
      cases y
    | some o =>
      rw [q] at y
      exact ⟨o, rfl, y⟩
  refine ⟨congrArg (fun z : AlH => z.1) e, m, fun p hp => (one p hp).1, fun p hp => ?_, fun p hp => ?_, fun d hd => ?_⟩
  · obtain ⟨_, o, q, z⟩ := one p hp
    exact He.frT_none q z
  · obtain ⟨_, o, q, z⟩ := one p hp
    rw [q, He.emptyTab_eq z]
  · exact List.map_inj_left.mp e3 d hd
def hookH (n : Nat) (D : HD) : PySem.W.Hook where
  α := AlH
  obs := fun s => obsH n D s.heap.get?
  val := fun w => valH D w
  says := fun w h => ∃ K : PySem.W.Frag, K.In h ∧ SaysH D w h K
  of := fun _ _ e => ⟨_, He.frT_in, saysH_of e⟩
  keeps := fun _ _ _ ⟨K, hK, c⟩ k => ⟨K, PySem.W.Frag.In.keeps hK k, ⟨c.t, c.more, c.hd, c.out, fun p hp => k _ _ (c.empty p hp), c.xs⟩⟩
theorem obsH_eq {n : Nat} {D : HD} {g : Addr → Option Obj} {s : Shared} (h : ∀ a, g a = s.heap.get? a) : obsH n D g = (hookH n D).obs s := by
  have e : g = s.heap.get? := funext h
  rw [e] <;> rfl
end Hl
set_option Elab.async false
set_option linter.all false
set_option maxRecDepth 100000
set_option maxHeartbeats 0
namespace Hl
open PySem PySem.Spec PyProof.Rows L2
/-! ### what is looked at behind the head -/
def hdIsInteger : He.DefD := ⟨("is_integer", none), "is_integer", "is_integer", defArgs sIsInteger, defBody sIsInteger, defScope sIsInteger, [], []⟩
def hdIsNumber : He.DefD := ⟨("is_number", none), "is_number", "is_number", defArgs sIsNumber, defBody sIsNumber, defScope sIsNumber, [], []⟩
def hdIsBelow : He.DefD := ⟨("is_below", none), "is_below", "is_below", defArgs sIsBelow, defBody sIsBelow, defScope sIsBelow, [], []⟩
def hdIsWithin : He.DefD := ⟨("is_within", none), "is_within", "is_within", defArgs sIsWithin, defBody sIsWithin, defScope sIsWithin, [], []⟩
def hdIsSequence : He.DefD := ⟨("is_sequence", none), "is_sequence", "is_sequence", defArgs sIsSequence, defBody sIsSequence, defScope sIsSequence, [], []⟩
def hdIsText : He.DefD := ⟨("is_text", none), "is_text", "is_text", defArgs sIsText, defBody sIsText, defScope sIsText, [], []⟩
def hdIsTable : He.DefD := ⟨("is_table", none), "is_table", "is_table", defArgs sIsTable, defBody sIsTable, defScope sIsTable, [], []⟩
def hdCheckTables : He.DefD := ⟨("check_tables", none), "check_tables", "check_tables", defArgs sCheckTables, defBody sCheckTables, defScope sCheckTables, [], []⟩
def hdMachI : He.DefD := ⟨("Machine", some "__init__"), "__init__", "Machine.__init__", defArgs sMachI, defBody sMachI, defScope sMachI, [], []⟩
def hdNeedState : He.DefD := ⟨("need_state", none), "need_state", "need_state", defArgs sNeedState, defBody sNeedState, defScope sNeedState, [], []⟩
def hdNeedDeed : He.DefD := ⟨("need_deed", none), "need_deed", "need_deed", defArgs sNeedDeed, defBody sNeedDeed, defScope sNeedDeed, [], []⟩
def hdPairRows : He.DefD := ⟨("pair_rows", none), "pair_rows", "pair_rows", defArgs sPairRows, defBody sPairRows, defScope sPairRows, [], []⟩
def hdEndsOf : He.DefD := ⟨("ends_of", none), "ends_of", "ends_of", defArgs sEndsOf, defBody sEndsOf, defScope sEndsOf, [], []⟩
def hdJoin : He.DefD := ⟨("join", none), "join", "join", defArgs sJoin, defBody sJoin, defScope sJoin, [], []⟩
def hdIsPair : He.DefD := ⟨("is_pair", none), "is_pair", "is_pair", defArgs sIsPair, defBody sIsPair, defScope sIsPair, [], []⟩
def hdCheckTies : He.DefD := ⟨("check_ties", none), "check_ties", "check_ties", defArgs sCheckTies, defBody sCheckTies, defScope sCheckTies, [], []⟩
def hdWebI : He.DefD := ⟨("Web", some "__init__"), "__init__", "Web.__init__", defArgs sWebI, defBody sWebI, defScope sWebI, [], []⟩
def hdNeedHouse : He.DefD := ⟨("need_house", none), "need_house", "need_house", defArgs sNeedHouse, defBody sNeedHouse, defScope sNeedHouse, [], []⟩
def hdNeedTie : He.DefD := ⟨("need_tie", none), "need_tie", "need_tie", defArgs sNeedTie, defBody sNeedTie, defScope sNeedTie, [], []⟩
def hdOtherEnd : He.DefD := ⟨("other_end", none), "other_end", "other_end", defArgs sOtherEnd, defBody sOtherEnd, defScope sOtherEnd, [], []⟩
def hdTiesAt : He.DefD := ⟨("ties_at", none), "ties_at", "ties_at", defArgs sTiesAt, defBody sTiesAt, defScope sTiesAt, [], []⟩
def hdWithItem : He.DefD := ⟨("with_item", none), "with_item", "with_item", defArgs sWithItem, defBody sWithItem, defScope sWithItem, [], []⟩
def hdStoreI : He.DefD := ⟨("Store", some "__init__"), "__init__", "Store.__init__", defArgs sStoreI, defBody sStoreI, defScope sStoreI, [], []⟩
def hdLeaveWalk : He.DefD := ⟨("Store", some "leave_walk"), "leave_walk", "Store.leave_walk", defArgs sLeaveWalk, defBody sLeaveWalk, defScope sLeaveWalk, [], []⟩
def hdCount : He.DefD := ⟨("Store", some "count"), "count", "Store.count", defArgs sCount, defBody sCount, defScope sCount, [], []⟩
def hdDo : He.DefD := ⟨("Store", some "do"), "do", "Store.do", defArgs sDo, defBody sDo, defScope sDo, [], []⟩
def hdMeet : He.DefD := ⟨("Store", some "meet"), "meet", "Store.meet", defArgs sMeet, defBody sMeet, defScope sMeet, [], []⟩
def hdRead : He.DefD := ⟨("Store", some "read"), "read", "Store.read", defArgs sRead, defBody sRead, defScope sRead, [], []⟩
def hdPutBack : He.DefD := ⟨("Store", some "put_back"), "put_back", "Store.put_back", defArgs sPutBack, defBody sPutBack, defScope sPutBack, [], []⟩
def hdNumbersText : He.DefD := ⟨("numbers_text", none), "numbers_text", "numbers_text", defArgs sNumbersText, defBody sNumbersText, defScope sNumbersText, [], []⟩
def hdTold : He.DefD := ⟨("told_number", none), "told_number", "told_number", defArgs sTold, defBody sTold, defScope sTold, [], []⟩
def hdCopiesText : He.DefD := ⟨("copies_text", none), "copies_text", "copies_text", defArgs sCopiesText, defBody sCopiesText, defScope sCopiesText, [], []⟩
def hdDeskI : He.DefD := ⟨("Desk", some "__init__"), "__init__", "Desk.__init__", defArgs sDeskI, defBody sDeskI, defScope sDeskI, [], []⟩
def hdSayPlain : He.DefD := ⟨("Desk", some "say_plain"), "say_plain", "Desk.say_plain", defArgs sSayPlain, defBody sSayPlain, defScope sSayPlain, [], []⟩
def hdSayTold : He.DefD := ⟨("Desk", some "say_told"), "say_told", "Desk.say_told", defArgs sSayTold, defBody sSayTold, defScope sSayTold, [], []⟩
def hdSay : He.DefD := ⟨("Desk", some "say"), "say", "Desk.say", defArgs sSay, defBody sSay, defScope sSay, [], []⟩
def hdLBox : He.DefD := ⟨("_law_box", none), "_law_box", "_law_box", defArgs sLBox, defBody sLBox, defScope sLBox, [], []⟩
def hdLTake : He.DefD := ⟨("_law_take", none), "_law_take", "_law_take", defArgs sLTake, defBody sLTake, defScope sLTake, [], []⟩
def hdLPick : He.DefD := ⟨("_law_pick", none), "_law_pick", "_law_pick", defArgs sLPick, defBody sLPick, defScope sLPick, [], []⟩
def hdLTables : He.DefD := ⟨("_law_tables", none), "_law_tables", "_law_tables", defArgs sLTables, defBody sLTables, defScope sLTables, [], []⟩
def hdLTies : He.DefD := ⟨("_law_ties", none), "_law_ties", "_law_ties", defArgs sLTies, defBody sLTies, defScope sLTies, [], []⟩
def hdLRow : He.DefD := ⟨("_law_row", none), "_law_row", "_law_row", defArgs sLRow, defBody sLRow, defScope sLRow, [], []⟩
def hdLJoin : He.DefD := ⟨("_law_join", none), "_law_join", "_law_join", defArgs sLJoin, defBody sLJoin, defScope sLJoin, [], []⟩
def hdLEnded : He.DefD := ⟨("_law_ended", none), "_law_ended", "_law_ended", defArgs sLEnded, defBody sLEnded, defScope sLEnded, [], []⟩
def hdLRead : He.DefD := ⟨("_law_read", none), "_law_read", "_law_read", defArgs sLRead, defBody sLRead, defScope sLRead, [], []⟩
def hdLCounted : He.DefD := ⟨("_law_counted", none), "_law_counted", "_law_counted", defArgs sLCounted, defBody sLCounted, defScope sLCounted, [], []⟩
def hdLMet : He.DefD := ⟨("_law_met", none), "_law_met", "_law_met", defArgs sLMet, defBody sLMet, defScope sLMet, [], []⟩
def hdLHeld : He.DefD := ⟨("_law_held", none), "_law_held", "_law_held", defArgs sLHeld, defBody sLHeld, defScope sLHeld, [], []⟩
def hdLFault : He.DefD := ⟨("_law_fault", none), "_law_fault", "_law_fault", defArgs sLFault, defBody sLFault, defScope sLFault, [], []⟩
def hdLMoved : He.DefD := ⟨("_law_moved", none), "_law_moved", "_law_moved", defArgs sLMoved, defBody sLMoved, defScope sLMoved, [], []⟩
def hdLLines : He.DefD := ⟨("_law_lines_right", none), "_law_lines_right", "_law_lines_right", defArgs sLLines, defBody sLLines, defScope sLLines, [], []⟩
def hdLaw : He.DefD := ⟨("law", none), "law", "law", defArgs sLaw, defBody sLaw, defScope sLaw, [], []⟩
def hxBadText : XD := ⟨"BadText", "ValueError.__new__", "ValueError", "ValueError.__init__", veMro, ["at"], "BadText.__init__", inClass (topS 4) 0⟩
def hxRefused : XD := ⟨"Refused", "ValueError.__new__", "ValueError", "ValueError.__init__", veMro, ["at"], "Refused.__init__", inClass (topS 5) 0⟩
def hxUntold : XD := ⟨"Untold", "ValueError.__new__", "ValueError", "ValueError.__init__", veMro, ["archive", "here", "there"], "Untold.__init__", inClass (topS 6) 0⟩
def hxNoState : XD := ⟨"NoState", "LookupError.__new__", "KeyError", "KeyError.__init__", keMro, ["state"], "NoState.__init__", inClass (topS 7) 0⟩
def hxNoDeed : XD := ⟨"NoDeed", "LookupError.__new__", "KeyError", "KeyError.__init__", keMro, ["deed"], "NoDeed.__init__", inClass (topS 8) 0⟩
def hxNoHouse : XD := ⟨"NoHouse", "LookupError.__new__", "KeyError", "KeyError.__init__", keMro, ["house"], "NoHouse.__init__", inClass (topS 9) 0⟩
def hxNoTie : XD := ⟨"NoTie", "LookupError.__new__", "KeyError", "KeyError.__init__", keMro, ["tie"], "NoTie.__init__", inClass (topS 10) 0⟩
def hdFn : List He.DefD := [hdIsInteger, hdIsNumber, hdIsBelow, hdIsWithin, hdIsSequence, hdIsText, hdIsTable, hdCheckTables, hdMachI, hdNeedState, hdNeedDeed, hdPairRows, hdEndsOf, hdJoin, hdIsPair, hdCheckTies, hdWebI, hdNeedHouse, hdNeedTie, hdOtherEnd, hdTiesAt, hdWithItem, hdStoreI, hdLeaveWalk, hdCount, hdDo, hdMeet, hdRead, hdPutBack, hdNumbersText, hdTold, hdCopiesText, hdDeskI, hdSayPlain, hdSayTold, hdSay, hdLBox, hdLTake, hdLPick, hdLTables, hdLTies, hdLRow, hdLJoin, hdLEnded, hdLRead, hdLCounted, hdLMet, hdLHeld, hdLFault, hdLMoved, hdLLines, hdLaw]
def hdFa0 : List He.Fa := [.glo "is_integer", .glo "is_number", .glo "is_below", .glo "is_within", .glo "is_sequence", .glo "is_text", .glo "is_table", .glo "check_tables", .mkr "Machine", .glo "need_state", .glo "need_deed", .glo "pair_rows", .glo "ends_of", .glo "join", .glo "is_pair", .glo "check_ties", .mkr "Web", .glo "need_house", .glo "need_tie", .glo "other_end", .glo "ties_at", .glo "with_item", .mkr "Store", .meth "Store" "leave_walk", .meth "Store" "count", .meth "Store" "do", .meth "Store" "meet", .meth "Store" "read", .meth "Store" "put_back", .glo "numbers_text", .glo "told_number", .glo "copies_text", .mkr "Desk", .meth "Desk" "say_plain", .meth "Desk" "say_told", .meth "Desk" "say", .glo "_law_box", .glo "_law_take", .glo "_law_pick", .glo "_law_tables"]
def hdFa1 : List He.Fa := [.glo "_law_ties", .glo "_law_row", .glo "_law_join", .glo "_law_ended", .glo "_law_read", .glo "_law_counted", .glo "_law_met", .glo "_law_held", .glo "_law_fault", .glo "_law_moved", .glo "_law_lines_right", .glo "law", .cls "Machine", .glo "Machine", .noat "Machine" "tables", .noat "Machine" "deeds", .noat "Machine" "states", .cls "Web", .glo "Web", .noat "Web" "ties", .noat "Web" "houses", .cls "Store", .glo "Store", .noat "Store" "machine", .noat "Store" "web", .noat "Store" "first", .noat "Store" "states", .noat "Store" "archives", .noat "Store" "steps", .noat "Store" "backup", .noat "Store" "caught", .noat "Store" "copies", .noat "Store" "tied", .noat "Store" "going", .cls "Desk", .glo "Desk", .noat "Desk" "store", .free "isinstance", .free "int", .free "bool"]
def hdFa2 : List He.Fa := [.free "list", .free "tuple", .free "str", .free "len", .free "all", .free "enumerate", .free "sorted", .free "range", .free "abs", .free "min", .free "max", .free "repr", .free "KeyError", .free "super", .int "MOST_DEEDS" 8, .int "MOST_STATES" 12, .int "MOST_HOUSES" 12, .int "MOST_TIES" 20, .int "MOST_FIGURES" 9, .str "NONE" "-", .str "FIGURES" "0123456789", .glo "PLAIN", .glo "NUMBERS", .glo "NetError", .glo "BadMachine", .glo "BadWeb", .glo "BadText", .glo "Refused", .glo "Untold", .glo "NoState", .glo "NoDeed", .glo "NoHouse", .glo "NoTie", .exm "Untold" "Untold" true, .exm "Refused" "Untold" false, .exm "NoHouse" "Untold" false, .exm "NoDeed" "Untold" false, .exm "NoTie" "Untold" false, .exm "BadText" "BadText" true, .exm "NoState" "NoState" true]
def hdXs : List XD := [hxBadText, hxRefused, hxUntold, hxNoState, hxNoDeed, hxNoHouse, hxNoTie]
def hdTs : List He.Tab := [((fun K => He.ga K "NUMBERS"), ["do", "meet", "read"])]
def hdTf : List He.Defn := [("_law_lines_right", none)]
def hdPlain : List He.Dv := [.str "states", .str "ties", .str "copies", .str "backup", .str "steps", .str "caught", .str "back"]
def hdNum : List (Str × He.Dv) := [("do", .int 2), ("meet", .int 1), ("read", .int 1)]
def hdFile : Str := PySem.Challenge.pw_houseslessties_k51_whole_a_desk_of_one_n.main.file
def hdEx (K : PySem.W.Frag) : Bool := (hdXs.all fun d => d.ok1 hdFile K && d.ok2 hdFile K) && (He.eqO (PySem.W.nsIn K cStatics "thirdparty.any") (some none) && (He.tupB K "PLAIN" hdPlain && (He.valsB K (He.ga K "NUMBERS") hdNum && ((oddW.all fun x => He.eqO (PySem.W.nsIn K (He.ga K "NUMBERS") x) (some none)) &&
  (xfB K (He.ga K "BadText") && (xfB K (He.ga K "NoState") && (eqF (PySem.W.exmAny K (.ref (He.ga K "Refused")) [.ref (He.ga K "NetError"), .type "KeyError"]) (some true) && eqF (PySem.W.exmAny K (.ref (He.ga K "NoHouse")) [.ref (He.ga K "NetError"), .type "KeyError"]) (some true) && eqF (PySem.W.exmAny K (.ref (He.ga K "NoDeed")) [.ref (He.ga K "NetError"), .type "KeyError"]) (some true) && eqF (PySem.W.exmAny K (.ref (He.ga K "NoTie")) [.ref (He.ga K "NetError"), .type "KeyError"]) (some true))))))))
def hdFa : List He.Fa := hdFa0 ++ (hdFa1 ++ (hdFa2))
def hdD : HD := ⟨hdFa, hdFn, hdTs, hdTf, hdEx, hdXs⟩
end Hl
set_option Elab.async false
set_option linter.all false
set_option maxRecDepth 100000
set_option maxHeartbeats 0
namespace HlRun
open PySem PySem.W PySem.Calls PyProof.Rows
abbrev R : OpenRow := OpenLaw.row PySem.Challenge.rw_houseslessties_k51_whole_a_desk_of_one_n
abbrev qv : Program := view R.prog [71]
def names1 : List PySem.Str := ["NetError", "BadMachine", "BadWeb", "BadText", "Refused", "Untold", "NoState", "NoDeed", "NoHouse", "NoTie", "MOST_DEEDS", "MOST_STATES", "MOST_HOUSES", "MOST_TIES", "is_integer", "is_number", "is_below", "is_within", "is_sequence", "is_text", "is_table", "check_tables", "Machine", "need_state", "need_deed", "pair_rows", "ends_of", "join", "is_pair", "check_ties", "Web"]
def names2 : List PySem.Str := ["need_house", "need_tie", "other_end", "ties_at", "with_item", "Store", "NONE", "numbers_text", "FIGURES", "MOST_FIGURES", "PLAIN", "NUMBERS", "told_number", "copies_text", "Desk", "_law_box", "_law_take", "_law_pick", "_law_mixed", "_law_tables", "_law_ties", "_law_row", "_law_join", "_law_ended", "_law_read", "_law_counted", "_law_met", "_law_held", "_law_fault", "_law_moved", "_law_lines_right"]
def names : List PySem.Str := names1 ++ names2
end HlRun
set_option Elab.async false
set_option linter.all false
set_option maxRecDepth 100000
set_option maxHeartbeats 0
namespace Hl
open PySem PySem.W PySem.Calls PyProof.Rows
/-! ### the head is run -/
abbrev hkH : Hook := hookH 4 hdD
def obHd (s : SharedT) : AlH := obsH 4 hdD (HandSHeadRun.getT s)
theorem obHd_eq (s : SharedT) : obHd s = hkH.obs s.abs := obsH_eq (HandSHeadRun.getT_eq s)
theorem headF (w : World) : HandSHeadRun.RunEq HlRun.R HlRun.qv hkH obHd 6000 HlRun.names (w.withFollow "special-get-raises" false) := by
  intro os
  kernel_rfl
theorem headT (w : World) : HandSHeadRun.RunEq HlRun.R HlRun.qv hkH obHd 6000 HlRun.names (w.withFollow "special-get-raises" true) := by
  intro os
  kernel_rfl
theorem headAll (w : World) : HandSHeadRun.RunEq HlRun.R HlRun.qv hkH obHd 6000 HlRun.names w :=
  byRow2 "special-get-raises" (P := fun w => HandSHeadRun.RunEq HlRun.R HlRun.qv hkH obHd 6000 HlRun.names w) headF headT w
end Hl
set_option Elab.async false
set_option maxRecDepth 100000
set_option maxHeartbeats 2000000
namespace Hl
open PySem PySem.Spec PyProof.Rows L2
/-! ### words.py -/
def spIsInteger : Sp := fun vs H Q _ => ∃ i : Int, vs = [.int i] ∧ Q (.bl true) H
def spIsNumber : Sp := fun vs H Q _ => ∃ i : Int, vs = [.int i] ∧ Q (.bl (decide (0 ≤ i))) H
def spIsBelow : Sp := fun vs H Q _ => ∃ i m : Int, vs = [.int i, .int m] ∧ Q (.bl (decide (0 ≤ i ∧ i < m))) H
def spIsWithin : Sp := fun vs H Q _ => ∃ i l m : Int, vs = [.int i, .int l, .int m] ∧ Q (.bl (decide (l ≤ i ∧ i ≤ m))) H
/-- a list or a tuple -/
inductive SeqV (K : PySem.W.Frag) (H : Hp) : V → List V → Prop
  | lst {a : Addr} {xs : List V} (h : H a = some (.lst xs)) : SeqV K H (.ref a) xs
  | tup {a : Addr} {xs : List V} (h : H a = some (.tup xs)) : SeqV K H (.ref a) xs
def spIsSequence (K : PySem.W.Frag) : Sp := fun vs H Q _ => ∃ (x : V) (xs : List V), vs = [x] ∧ SeqV K H x xs ∧ ∀ H', Same H H' → Q (.bl true) H'
/-- what say is handed -/
inductive LineV (K : PySem.W.Frag) (H : Hp) : V → Bool → Prop
  | str (z : Str) : LineV K H (.str z) true
  | non : LineV K H .non false
  | int (i : Int) : LineV K H (.int i) false
  | tup {a : Addr} {xs : List V} (h : H a = some (.tup xs)) : LineV K H (.ref a) false
def spIsText (K : PySem.W.Frag) : Sp := fun vs H Q _ => ∃ (x : V) (b : Bool), vs = [x] ∧ LineV K H x b ∧ Q (.bl b) H
theorem kit_any1 {K : PySem.W.Frag} {t c : Value} {r : List Value} (h : PySem.W.kitOne K t c = some true) : PySem.W.kitAny K t (c :: r) = some true := by
  unfold PySem.W.kitAny
  rw [h]
theorem kit_any2 {K : PySem.W.Frag} {t c e : Value} {r : List Value} (h : PySem.W.kitOne K t c = some false) (h2 : PySem.W.kitOne K t e = some true) : PySem.W.kitAny K t (c :: e :: r) = some true := by
  unfold PySem.W.kitAny
  rw [h]
  exact kit_any1 h2
theorem SeqV.tyx {K : PySem.W.Frag} {H : Hp} {x : V} {xs : List V} (h : SeqV K H x xs) : ∃ t, TyX K H x t ∧ PySem.W.kitAny K t [.type "list", .type "tuple"] = some true := by
  cases h with
  | lst h => exact ⟨.type "list", .base (.lst h), kit_any1 (kit_ty (by decide +kernel))⟩
  | tup h => exact ⟨.type "tuple", .base (.tup h), kit_any2 (kit_ty (by decide +kernel)) (kit_ty (by decide +kernel))⟩
theorem LineV.tyx {K : PySem.W.Frag} {H : Hp} {x : V} {b : Bool} (h : LineV K H x b) : ∃ t, TyX K H x t ∧ PySem.W.kitOne K t (.type "str") = some b := by
  cases h with
  | str z => exact ⟨.type "str", .base (.str _), kit_ty (by decide +kernel)⟩
  | non => exact ⟨.type "NoneType", .base .non, kit_ty (by decide +kernel)⟩
  | int i => exact ⟨.type "int", .base (.int _), kit_ty (by decide +kernel)⟩
  | tup h => exact ⟨.type "tuple", .base (.tup h), kit_ty (by decide +kernel)⟩
section
variable {P : Program} {w : World} {K : PySem.W.Frag} {mg : Str → Option Value} {base : Heap} {a : Ad} {d : Fd}
theorem ok_IsInteger (T : Txt P w K mg a d) : FnOk P w K mg base CX0 1 a.fIsInteger d.fIsInteger pIsInteger spIsInteger := by
  refine T.FIsInteger.ok scIsInteger (fun vs H Q E h => ?_) (fun cdv A outer s H vs Q E hr h => ?_)
  · obtain ⟨i, rfl, _⟩ := h
    rfl
  · obtain ⟨i, rfl, k⟩ := h
    refine ⟨_, pss_one (ps_ret (pe_and (pe_callB call_isi (by rfl) T.b_isinstance boot_isinstance (pa_cons (pv 0) (pa_cons (pe_bltn (v := .ty "int") (by rfl) T.b_int boot_int rfl) pa_nil)))
      (pe_one (pe_not (pe_callB call_isi (by rfl) T.b_isinstance boot_isinstance (pa_cons (pv 0) (pa_cons (pe_bltn (v := .ty "bool") (by rfl) T.b_bool boot_bool rfl) pa_nil))))))), ?_⟩
    refine ⟨_, rfl, _, _, _, _, true, rfl, .ty _, .base (.int _), kit_ty (by decide +kernel), true, rfl, iteT ⟨_, rfl, _, _, _, _, false, rfl, .ty _, .base (.int _), kit_ty (by decide +kernel), false, rfl, k⟩⟩
theorem ok_IsNumber (T : Txt P w K mg a d) : FnOk P w K mg base CX0 2 a.fIsNumber d.fIsNumber pIsNumber spIsNumber := by
  have G : FnOk P w K mg base CX0 1 a.fIsInteger d.fIsInteger pIsInteger spIsInteger := ok_IsInteger T
  refine T.FIsNumber.ok scIsNumber (fun vs H Q E h => ?_) (fun cdv A outer s H vs Q E hr h => ?_)
  · obtain ⟨i, rfl, _⟩ := h
    rfl
  · obtain ⟨i, rfl, k⟩ := h
    refine ⟨_, pss_one (ps_ret (pe_and (pe_call G hr (by rfl) T.gIsInteger T.FIsInteger.kp T.bIsInteger .nil pass0 (pa_cons (pv 0) pa_nil)) (pe_one (pe_cmpR op_ge (pv 0) pe_int (nomark _))))), ?_⟩
    exact ⟨_, rfl, i, rfl, true, rfl, iteT ⟨_, rfl, _, _, rfl, rfl, k⟩⟩
theorem ok_IsBelow (T : Txt P w K mg a d) : FnOk P w K mg base CX0 3 a.fIsBelow d.fIsBelow pIsBelow spIsBelow := by
  have G : FnOk P w K mg base CX0 2 a.fIsNumber d.fIsNumber pIsNumber spIsNumber := ok_IsNumber T
  refine T.FIsBelow.ok scIsBelow (fun vs H Q E h => ?_) (fun cdv A outer s H vs Q E hr h => ?_)
  · obtain ⟨i, m, rfl, _⟩ := h
    rfl
  · obtain ⟨i, m, rfl, k⟩ := h
    refine ⟨_, pss_one (ps_ret (pe_and (pe_call G hr (by rfl) T.gIsNumber T.FIsNumber.kp T.bIsNumber .nil pass0 (pa_cons (pv 0) pa_nil)) (pe_one (pe_cmpR op_lt (pv 0) (pv 1) (nomark _))))), ?_⟩
    refine ⟨_, rfl, i, rfl, _, rfl, ite2 (fun c => ?_) (fun c => ?_)⟩
    · have c' : 0 ≤ i := of_decide_eq_true c
      refine ⟨_, rfl, _, rfl, _, _, rfl, rfl, ?_⟩
      rw [show decide (0 ≤ i ∧ i < m) = decide (i < m) by simp [c']] at k
      exact k
    · have c' : ¬ 0 ≤ i := fun z => c (decide_eq_true z)
      rw [show decide (0 ≤ i ∧ i < m) = false by simp [c']] at k
      exact k
theorem ok_IsWithin (T : Txt P w K mg a d) : FnOk P w K mg base CX0 2 a.fIsWithin d.fIsWithin pIsWithin spIsWithin := by
  have G : FnOk P w K mg base CX0 1 a.fIsInteger d.fIsInteger pIsInteger spIsInteger := ok_IsInteger T
  refine T.FIsWithin.ok scIsWithin (fun vs H Q E h => ?_) (fun cdv A outer s H vs Q E hr h => ?_)
  · obtain ⟨i, l, m, rfl, _⟩ := h
    rfl
  · obtain ⟨i, l, m, rfl, k⟩ := h
    refine ⟨_, pss_one (ps_ret (pe_and (pe_call G hr (by rfl) T.gIsInteger T.FIsInteger.kp T.bIsInteger .nil pass0 (pa_cons (pv 0) pa_nil)) (pe_one (pe_chain op_le op_le (pv 1) (pv 0) (pv 2))))), ?_⟩
    refine ⟨_, rfl, i, rfl, true, rfl, iteT ⟨_, rfl, _, rfl, _, _, rfl, rfl, _, rfl, ite2 (fun c => ?_) (fun c => ?_)⟩⟩
    · have c' : l ≤ i := of_decide_eq_true c
      refine ⟨_, rfl, _, _, rfl, rfl, ?_⟩
      rw [show decide (l ≤ i ∧ i ≤ m) = decide (i ≤ m) by simp [c']] at k
      exact k
    · have c' : ¬ l ≤ i := fun z => c (decide_eq_true z)
      rw [show decide (l ≤ i ∧ i ≤ m) = false by simp [c']] at k
      exact k
theorem ok_IsSequence (T : Txt P w K mg a d) : FnOk P w K mg base CX0 1 a.fIsSequence d.fIsSequence pIsSequence (spIsSequence K) := by
  refine T.FIsSequence.ok scIsSequence (fun vs H Q E h => ?_) (fun cdv A outer s H vs Q E hr h => ?_)
  · obtain ⟨x, xs, rfl, _⟩ := h
    rfl
  · obtain ⟨x, xs, rfl, hx, k⟩ := h
    refine ⟨_, pss_one (ps_ret (pe_callB call_isiT (by rfl) T.b_isinstance boot_isinstance (pa_cons (pv 0) (pa_cons (pe_tup (pa_cons (pe_bltn (v := .ty "list") (by rfl) T.b_list boot_list rfl) (pa_cons (pe_bltn (v := .ty "tuple") (by rfl) T.b_tuple boot_tuple rfl) pa_nil))) pa_nil)))), ?_⟩
    refine ⟨_, rfl, (by show 2 ≤ sizeLine; decide), fun t ht => ?_⟩
    have sm : Same H (upd H t (.tup [.ty "list", .ty "tuple"])) := fun b o e => by rw [upd_ne (ne_of_none e ht)]; exact e
    have hx' : SeqV K (upd H t (.tup [.ty "list", .ty "tuple"])) x xs := by
      cases hx with
      | lst h => exact .lst (sm _ _ h)
      | tup h => exact .tup (sm _ _ h)
    obtain ⟨ty, h1, h2⟩ := hx'.tyx
    exact ⟨_, _, _, _, _, true, rfl, upd_same, .cons (.ty _) (.cons (.ty _) .nil), h1, h2, k _ sm⟩
theorem ok_IsText (T : Txt P w K mg a d) : FnOk P w K mg base CX0 1 a.fIsText d.fIsText pIsText (spIsText K) := by
  refine T.FIsText.ok scIsText (fun vs H Q E h => ?_) (fun cdv A outer s H vs Q E hr h => ?_)
  · obtain ⟨x, b, rfl, _⟩ := h
    rfl
  · obtain ⟨x, b, rfl, hx, k⟩ := h
    obtain ⟨ty, h1, h2⟩ := hx.tyx
    refine ⟨_, pss_one (ps_ret (pe_callB call_isi (by rfl) T.b_isinstance boot_isinstance (pa_cons (pv 0) (pa_cons (pe_bltn (v := .ty "str") (by rfl) T.b_str boot_str rfl) pa_nil)))), ?_⟩
    exact ⟨_, rfl, _, _, _, _, b, rfl, .ty _, h1, h2, k⟩
end
end Hl
set_option Elab.async false
set_option maxRecDepth 100000
set_option maxHeartbeats 2000000
namespace Hl
open PySem PySem.Spec PyProof.Rows L2
theorem upd_none {H : Hp} {p q : Addr} {o : HO} (h : upd H p o q = none) : q ≠ p ∧ H q = none := by
  have n : q ≠ p := fun z => by rw [z, upd_same] at h; cases h
  rw [upd_ne n] at h
  exact ⟨n, h⟩
theorem itdT {c A B : Prop} [Decidable c] (hc : c) (h : A) : if decide c = true then A else B := by
  rw [if_pos (decide_eq_true hc)]
  exact h
theorem itdF {c A B : Prop} [Decidable c] (hc : ¬ c) (h : B) : if decide c = true then A else B := by
  rw [if_neg (by simpa using hc)]
  exact h
theorem itdN {c A B : Prop} [Decidable c] (hc : ¬ c) (h : A) : if (!decide c) = true then A else B := by
  rw [decide_eq_false hc]
  exact iteT h
theorem yesT {σ : L2.St} {H : Hp} {A B : Hp → Prop} (h : A H) : tYes σ H fun b H3 => if b = true then A H3 else B H3 := by
  show if true = true then A H else B H
  exact iteT h
theorem map_at {α : Type} {g : α → V} {l : List α} {i : Nat} {x : V} (h : (l.map g)[i]? = some x) : ∃ z, l[i]? = some z ∧ g z = x := by
  rw [List.getElem?_map] at h
  cases e : l[i]? with
  | none => rw [e] at h; cases h
  | some z => rw [e] at h; exact ⟨z, rfl, Option.some.inj h⟩
theorem at_map {α : Type} {g : α → V} {l : List α} {i : Nat} {z : α} (h : l[i]? = some z) : (l.map g)[i]? = some (g z) := by rw [List.getElem?_map, h]; rfl
theorem there {α : Type} {l : List α} {i : Nat} (h : i < l.length) : ∃ z, l[i]? = some z := ⟨l[i], List.getElem?_eq_getElem h⟩
theorem range_getD {l : List V} : (List.range l.length).map (fun i => (l[i]?).getD .non) = l := by
  apply List.ext_getElem
  · simp
  · intro i h1 h2
    simp [h2]
/-- what the turns below i have kept -/
def kept (p : Nat → Bool) (f : Nat → V) (i : Nat) : List V := ((List.range i).filter p).map f
theorem kept_yes {p : Nat → Bool} {f : Nat → V} {i : Nat} (h : p i = true) : kept p f (i + 1) = kept p f i ++ [f i] := by
  unfold kept
  rw [List.range_succ, List.filter_append, List.map_append]
  simp [h]
theorem kept_no {p : Nat → Bool} {f : Nat → V} {i : Nat} (h : p i = false) : kept p f (i + 1) = kept p f i := by
  unfold kept
  rw [List.range_succ, List.filter_append, List.map_append]
  simp [h]
theorem kept_le {p : Nat → Bool} {f : Nat → V} {i : Nat} : (kept p f i).length ≤ i := by
  unfold kept
  rw [List.length_map]
  exact Nat.le_trans (List.length_filter_le _ _) (by simp)
theorem kept_all {f : Nat → V} {i : Nat} : kept (fun _ => true) f i = (List.range i).map f := by
  unfold kept
  congr 1
  simp
theorem same_new {H : Hp} {D : Addr} {o : HO} (h : H D = none) : Same H (upd H D o) := fun b u e => by rw [upd_ne (ne_of_none e h)]; exact e
theorem same_put {H H1 : Hp} {D : Addr} {o : HO} (s : Same H H1) (h : H D = none) : Same H (upd H1 D o) := fun b u e => by rw [upd_ne (ne_of_none e h)]; exact s b u e
/-- a comprehension whose turns only make new things: what is kept -/
theorem lc_fil {J : It} {n : Nat} {G : Hp → Prop} {Y : Nat → Hp → V → Hp → Prop} (w : Walk J n G Y) (p : Nat → Bool) (f : Nat → V) {g : TG} {tt : TT} {te : TE} {vs : List Nat} {σ : L2.St} {H1 : Hp} {D : Addr} {Qd : Hp → Prop} (hD : H1 D = none) (hn : n < sizeLine) (hG : ∀ H, Same H1 H → G H)
    (hs : ∀ i x H H' (k : V → Hp → Prop) (k0 : Hp → Prop), i < n → Same H1 H → Y i H x H' → (p i = true → ∀ H4, Same H H4 → k (f i) H4) → (p i = false → ∀ H4, Same H H4 → k0 H4) →
      g x (wipe σ vs) H' fun σ2 H2 => wipe σ2 vs = wipe σ vs ∧ tt σ2 H2 fun b H3 => if b = true then te σ2 H3 k else k0 H3)
    (hd : ∀ H, Same H1 H → H D = some (.lst (kept p f n)) → Qd H) :
    ∃ W : Nat → Nat → Hp → Prop, (∃ m, W 0 m (upd H1 D (.lst []))) ∧ ∀ i m H, W i m H →
      (J.stop i H ∧ Qd H) ∨ (J.go i H ∧ ∃ Nx : Hp → Prop, (∀ H', Nx H' → ∃ m', m' < m ∧ W (i + 1) m' H') ∧ ∀ x H', J.yld i H x H' → g x (wipe σ vs) H' fun σ2 H2 => wipe σ2 vs = wipe σ vs ∧ tt σ2 H2 fun b H3 =>
        if b = true then te σ2 H3 fun y H4 => ∃ acc, H4 D = some (.lst acc) ∧ acc.length < sizeLine ∧ Nx (upd H4 D (.lst (acc ++ [y]))) else Nx H3) := by
  refine lc_it w (fun i H => Same H1 H ∧ H D = some (.lst (kept p f i))) ⟨same_new hD, by rw [upd_same]; rfl⟩ (fun i H _ h => hG H h.1) (fun i x H H' hi h y => ?_) (fun H h => hd H h.1 h.2)
  obtain ⟨s1, hL⟩ := h
  refine hs i x H H' _ _ hi s1 y (fun c H4 s4 => ⟨_, s4 _ _ hL, Nat.lt_of_le_of_lt kept_le (Nat.lt_trans hi hn), same_put (s1.trans s4) hD, ?_⟩) (fun c H4 s4 => ⟨s1.trans s4, ?_⟩)
  · rw [upd_same, kept_yes c]
  · rw [kept_no c]
    exact s4 _ _ hL
end Hl
set_option Elab.async false
set_option maxRecDepth 100000
set_option maxHeartbeats 2000000
namespace Hl
/-! ### the closure of a pair of states under the tables -/
abbrev Pr := Int × Int
def nxt (t : List Int) (p : Pr) : Pr := (t.getD p.1.toNat 0, t.getD p.2.toNat 0)
inductive Reach (tb : List (List Int)) (p0 : Pr) : Pr → Prop
  | base : Reach tb p0 p0
  | step {p : Pr} {t : List Int} (ht : t ∈ tb) (h : Reach tb p0 p) : Reach tb p0 (nxt t p)
/-- W: the pairs reached from p0, each once -/
structure Clo (tb : List (List Int)) (p0 : Pr) (W : List Pr) : Prop where
  nd : W.Nodup
  mem : ∀ p, p ∈ W ↔ Reach tb p0 p
theorem clo_of {tb : List (List Int)} {p0 : Pr} {W : List Pr} (nd : W.Nodup) (h0 : p0 ∈ W) (hr : ∀ p ∈ W, Reach tb p0 p) (hc : ∀ p ∈ W, ∀ t ∈ tb, nxt t p ∈ W) : Clo tb p0 W :=
  ⟨nd, fun p => ⟨hr p, fun h => by
    induction h with
    | base => exact h0
    | step ht _ ih => exact hc _ ih _ ht⟩⟩
theorem Clo.perm {tb : List (List Int)} {p0 : Pr} {W W' : List Pr} (a : Clo tb p0 W) (b : Clo tb p0 W') : W.Perm W' :=
  (List.perm_ext_iff_of_nodup a.nd b.nd).mpr fun p => (a.mem p).trans (b.mem p).symm
/-- where the archive x stands, what stands beside it -/
def endsP (W : List Pr) (x : Int) : List Int := (W.filter fun p => p.1 == x).map (·.2)
def oneOf : List Int → Option Int
  | [e] => some e
  | _ => none
theorem oneOf_perm {a b : List Int} (h : a.Perm b) : oneOf a = oneOf b := by
  match a, b, h with
  | [], b, h => rw [h.symm.eq_nil]
  | [x], b, h => rw [List.perm_singleton.mp h.symm]
  | x :: y :: r, b, h =>
    have hl := h.length_eq
    match b, hl with
    | u :: v :: q, _ => rfl
    | [u], hl => simp at hl
    | [], hl => simp at hl
theorem endsP_perm {W W' : List Pr} {x : Int} (h : W.Perm W') : (endsP W x).Perm (endsP W' x) := (h.filter _).map _
/-- what the join of three states is -/
def JoinIs (tb : List (List Int)) (ar he th : Int) (o : Option Int) : Prop := ∃ W, Clo tb (ar, he) W ∧ o = oneOf (endsP W th)
theorem JoinIs.uniq {tb : List (List Int)} {ar he th : Int} {o o' : Option Int} (a : JoinIs tb ar he th o) (b : JoinIs tb ar he th o') : o = o' := by
  obtain ⟨W, c, rfl⟩ := a
  obtain ⟨W', c', rfl⟩ := b
  exact oneOf_perm (endsP_perm (c.perm c'))
/-- tables of S states -/
structure Tb (tb : List (List Int)) (S : Nat) : Prop where
  l1 : 1 ≤ tb.length
  l8 : tb.length ≤ 8
  s1 : 1 ≤ S
  s12 : S ≤ 8
  len : ∀ r ∈ tb, r.length = S
  lo : ∀ r ∈ tb, ∀ x ∈ r, (0 : Int) ≤ x
  hi : ∀ r ∈ tb, ∀ x ∈ r, x < (S : Int)
theorem getD_in {r : List Int} {i : Int} {S : Nat} (hl : r.length = S) (h0 : 0 ≤ i) (h1 : i < S) : r[i.toNat]? = some (r.getD i.toNat 0) ∧ r.getD i.toNat 0 ∈ r := by
  have hi : i.toNat < r.length := by omega
  rw [List.getD_eq_getElem?_getD, List.getElem?_eq_getElem hi]
  exact ⟨rfl, List.getElem_mem hi⟩
/-- both states are states -/
def InS (S : Nat) (p : Pr) : Prop := 0 ≤ p.1 ∧ p.1 < (S : Int) ∧ 0 ≤ p.2 ∧ p.2 < (S : Int)
theorem nxt_in {tb : List (List Int)} {S : Nat} {t : List Int} {p : Pr} (T : Tb tb S) (ht : t ∈ tb) (h : InS S p) : InS S (nxt t p) := by
  have a := (getD_in (T.len t ht) h.1 h.2.1).2
  have b := (getD_in (T.len t ht) h.2.2.1 h.2.2.2).2
  exact ⟨T.lo t ht _ a, T.hi t ht _ a, T.lo t ht _ b, T.hi t ht _ b⟩
theorem Reach.inS {tb : List (List Int)} {S : Nat} {p0 p : Pr} (T : Tb tb S) (h0 : InS S p0) (h : Reach tb p0 p) : InS S p := by
  induction h with
  | base => exact h0
  | step ht _ ih => exact nxt_in T ht ih
theorem few_pairs {S : Nat} {W : List Pr} (hS : S ≤ 8) (nd : W.Nodup) (h : ∀ p ∈ W, InS S p) : W.length ≤ 64 := by
  have z := L2.nat_nodup_len (W.map fun p => p.1.toNat * 8 + p.2.toNat) (List.range 64) ?_ ?_
  · simpa using z
  · refine List.Pairwise.map _ (fun _ _ z => z) ?_
    refine List.pairwise_map.mp ?_
    rw [List.pairwise_map]
    refine List.Pairwise.imp_of_mem ?_ nd
    intro p q hp hq ne e
    have a := h p hp
    have b := h q hq
    unfold InS at a b
    refine ne ?_
    have e1 : p.1 = q.1 := by omega
    have e2 : p.2 = q.2 := by omega
    exact Prod.ext e1 e2
  · intro x hx
    obtain ⟨p, hp, rfl⟩ := List.mem_map.mp hx
    have a := h p hp
    unfold InS at a
    rw [List.mem_range]
    omega
/-- breadth first: the first n are done -/
structure Bfs (tb : List (List Int)) (p0 : Pr) (W : List Pr) (n : Nat) : Prop where
  nd : W.Nodup
  st : p0 ∈ W
  re : ∀ p ∈ W, Reach tb p0 p
  done : ∀ j p, j < n → W[j]? = some p → ∀ t ∈ tb, nxt t p ∈ W
theorem Bfs.start {tb : List (List Int)} {p0 : Pr} : Bfs tb p0 [p0] 0 := ⟨by simp, by simp, fun p hp => by rw [List.mem_singleton.mp hp]; exact .base, fun j p h => absurd h (by omega)⟩
/-- .. and the n-th under the first i tables -/
structure BfsI (tb : List (List Int)) (p0 : Pr) (W : List Pr) (n : Nat) (p : Pr) (i : Nat) : Prop where
  b : Bfs tb p0 W n
  at_ : W[n]? = some p
  some_ : ∀ t ∈ tb.take i, nxt t p ∈ W
theorem BfsI.start {tb : List (List Int)} {p0 : Pr} {W : List Pr} {n : Nat} {p : Pr} (b : Bfs tb p0 W n) (h : W[n]? = some p) : BfsI tb p0 W n p 0 := ⟨b, h, fun t ht => by simp at ht⟩
theorem take_mem {α : Type} {l : List α} {i : Nat} {x y : α} (h : l[i]? = some x) (m : y ∈ l.take (i + 1)) : y ∈ l.take i ∨ y = x := by
  rw [List.take_add_one, h] at m
  simpa using m
theorem BfsI.old {tb : List (List Int)} {p0 : Pr} {W : List Pr} {n i : Nat} {p : Pr} {t : List Int} (b : BfsI tb p0 W n p i) (ht : tb[i]? = some t) (h : nxt t p ∈ W) : BfsI tb p0 W n p (i + 1) :=
  ⟨b.b, b.at_, fun u hu => (take_mem ht hu).elim (b.some_ u) fun e => by rw [e]; exact h⟩
theorem BfsI.more {tb : List (List Int)} {p0 : Pr} {W : List Pr} {n i : Nat} {p : Pr} {t : List Int} (b : BfsI tb p0 W n p i) (ht : tb[i]? = some t) (h : nxt t p ∉ W) : BfsI tb p0 (W ++ [nxt t p]) n p (i + 1) := by
  have hn : n < W.length := (List.getElem?_eq_some_iff.mp b.at_).1
  have hm := List.mem_of_getElem? ht
  refine ⟨⟨?_, List.mem_append_left _ b.b.st, fun q hq => ?_, fun j q hj hq u hu => ?_⟩, ?_, fun u hu => ?_⟩
  · rw [List.nodup_append]
    exact ⟨b.b.nd, by simp, fun a ha c hc => by rw [List.mem_singleton.mp hc]; exact fun e => h (e ▸ ha)⟩
  · rcases List.mem_append.mp hq with hq | hq
    · exact b.b.re q hq
    · rw [List.mem_singleton.mp hq]
      exact .step hm (b.b.re p (List.mem_of_getElem? b.at_))
  · rw [List.getElem?_append_left (by omega)] at hq
    exact List.mem_append_left _ (b.b.done j q hj hq u hu)
  · rw [List.getElem?_append_left hn]
    exact b.at_
  · rcases take_mem ht hu with k | k
    · exact List.mem_append_left _ (b.some_ u k)
    · rw [k]
      exact List.mem_append_right _ (List.mem_singleton.mpr rfl)
theorem BfsI.fin {tb : List (List Int)} {p0 : Pr} {W : List Pr} {n : Nat} {p : Pr} (b : BfsI tb p0 W n p tb.length) : Bfs tb p0 W (n + 1) := by
  refine ⟨b.b.nd, b.b.st, b.b.re, fun j q hj hq => ?_⟩
  by_cases e : j = n
  · subst e
    rw [b.at_] at hq
    rw [← Option.some.inj hq]
    intro t ht
    exact b.some_ t (by rw [List.take_length]; exact ht)
  · exact b.b.done j q (by omega) hq
theorem Bfs.clo {tb : List (List Int)} {p0 : Pr} {W : List Pr} (b : Bfs tb p0 W W.length) : Clo tb p0 W := by
  refine clo_of b.nd b.st b.re fun p hp => ?_
  obtain ⟨j, hj⟩ := List.mem_iff_getElem?.mp hp
  exact b.done j p (List.getElem?_eq_some_iff.mp hj).1 hj
theorem Bfs.few {tb : List (List Int)} {S : Nat} {p0 : Pr} {W : List Pr} {n : Nat} (b : Bfs tb p0 W n) (T : Tb tb S) (h0 : InS S p0) : W.length ≤ 64 := few_pairs T.s12 b.nd fun p hp => (b.re p hp).inS T h0
/-- a stack: what is met is waiting, or done -/
structure Dfs (tb : List (List Int)) (p0 : Pr) (M Wt : List Pr) : Prop where
  nd : M.Nodup
  st : p0 ∈ M
  re : ∀ p ∈ M, Reach tb p0 p
  sub : ∀ p ∈ Wt, p ∈ M
  done : ∀ p ∈ M, p ∈ Wt ∨ ∀ t ∈ tb, nxt t p ∈ M
theorem Dfs.start {tb : List (List Int)} {p0 : Pr} : Dfs tb p0 [p0] [p0] := ⟨by simp, by simp, fun p hp => by rw [List.mem_singleton.mp hp]; exact .base, fun p hp => hp, fun p hp => .inl hp⟩
structure DfsI (tb : List (List Int)) (p0 : Pr) (M Wt : List Pr) (p : Pr) (i : Nat) : Prop where
  nd : M.Nodup
  st : p0 ∈ M
  re : ∀ p ∈ M, Reach tb p0 p
  sub : ∀ p ∈ Wt, p ∈ M
  cur : p ∈ M
  done : ∀ q ∈ M, q ∈ Wt ∨ q = p ∨ ∀ t ∈ tb, nxt t q ∈ M
  some_ : ∀ t ∈ tb.take i, nxt t p ∈ M
theorem Dfs.pop {tb : List (List Int)} {p0 : Pr} {M Wt : List Pr} {p : Pr} (d : Dfs tb p0 M Wt) (h : Wt[Wt.length - 1]? = some p) : DfsI tb p0 M Wt.dropLast p 0 := by
  have hm := List.mem_of_getElem? h
  refine ⟨d.nd, d.st, d.re, fun q hq => d.sub q (List.dropLast_subset _ hq), d.sub p hm, fun q hq => ?_, fun t ht => by simp at ht⟩
  rcases d.done q hq with k | k
  · by_cases e : q = p
    · exact .inr (.inl e)
    · refine .inl ?_
      have hne : Wt ≠ [] := fun z => by rw [z] at hm; cases hm
      have e2 : Wt.getLast hne = p := by
        rw [List.getLast_eq_getElem]
        rw [List.getElem?_eq_getElem (by have := List.length_pos_of_mem hm; omega)] at h
        exact Option.some.inj h
      rw [← List.dropLast_concat_getLast hne, e2] at k
      rcases List.mem_append.mp k with k | k
      · exact k
      · exact absurd (List.mem_singleton.mp k) e
  · exact .inr (.inr k)
theorem DfsI.old {tb : List (List Int)} {p0 : Pr} {M Wt : List Pr} {p : Pr} {i : Nat} {t : List Int} (d : DfsI tb p0 M Wt p i) (ht : tb[i]? = some t) (h : nxt t p ∈ M) : DfsI tb p0 M Wt p (i + 1) :=
  ⟨d.nd, d.st, d.re, d.sub, d.cur, d.done, fun u hu => (take_mem ht hu).elim (d.some_ u) fun e => by rw [e]; exact h⟩
theorem DfsI.more {tb : List (List Int)} {p0 : Pr} {M Wt : List Pr} {p : Pr} {i : Nat} {t : List Int} (d : DfsI tb p0 M Wt p i) (ht : tb[i]? = some t) (h : nxt t p ∉ M) : DfsI tb p0 (M ++ [nxt t p]) (Wt ++ [nxt t p]) p (i + 1) := by
  have hm := List.mem_of_getElem? ht
  refine ⟨?_, List.mem_append_left _ d.st, fun q hq => ?_, fun q hq => ?_, List.mem_append_left _ d.cur, fun q hq => ?_, fun u hu => ?_⟩
  · rw [List.nodup_append]
    exact ⟨d.nd, by simp, fun a ha c hc => by rw [List.mem_singleton.mp hc]; exact fun e => h (e ▸ ha)⟩
  · rcases List.mem_append.mp hq with hq | hq
    · exact d.re q hq
    · rw [List.mem_singleton.mp hq]
      exact .step hm (d.re p d.cur)
  · rcases List.mem_append.mp hq with hq | hq
    · exact List.mem_append_left _ (d.sub q hq)
    · exact List.mem_append_right _ hq
  · rcases List.mem_append.mp hq with hq | hq
    · rcases d.done q hq with k | k | k
      · exact .inl (List.mem_append_left _ k)
      · exact .inr (.inl k)
      · exact .inr (.inr fun t ht => List.mem_append_left _ (k t ht))
    · exact .inl (List.mem_append_right _ hq)
  · rcases take_mem ht hu with k | k
    · exact List.mem_append_left _ (d.some_ u k)
    · rw [k]
      exact List.mem_append_right _ (List.mem_singleton.mpr rfl)
theorem DfsI.fin {tb : List (List Int)} {p0 : Pr} {M Wt : List Pr} {p : Pr} (d : DfsI tb p0 M Wt p tb.length) : Dfs tb p0 M Wt := by
  refine ⟨d.nd, d.st, d.re, d.sub, fun q hq => ?_⟩
  rcases d.done q hq with k | k | k
  · exact .inl k
  · refine .inr ?_
    rw [k]
    intro t ht
    exact d.some_ t (by rw [List.take_length]; exact ht)
  · exact .inr k
theorem Dfs.clo {tb : List (List Int)} {p0 : Pr} {M : List Pr} (d : Dfs tb p0 M []) : Clo tb p0 M :=
  clo_of d.nd d.st d.re fun p hp => (d.done p hp).elim (fun k => by cases k) id
theorem DfsI.few {tb : List (List Int)} {S : Nat} {p0 : Pr} {M Wt : List Pr} {p : Pr} {i : Nat} (d : DfsI tb p0 M Wt p i) (T : Tb tb S) (h0 : InS S p0) : M.length ≤ 64 := few_pairs T.s12 d.nd fun p hp => (d.re p hp).inS T h0
theorem Dfs.few {tb : List (List Int)} {S : Nat} {p0 : Pr} {M Wt : List Pr} (d : Dfs tb p0 M Wt) (T : Tb tb S) (h0 : InS S p0) : M.length ≤ 64 := few_pairs T.s12 d.nd fun p hp => (d.re p hp).inS T h0
end Hl
set_option Elab.async false
set_option maxRecDepth 100000
set_option maxHeartbeats 2000000
namespace Hl
open PySem PySem.Spec PyProof.Rows L2
/-! ### machines.py -/
/-- the rows stand as lists at as -/
def RowsL (H : Hp) (as : List Addr) (tb : List (List Int)) : Prop := as.length = tb.length ∧ ∀ (j : Nat) (a : Addr) (r : List Int), as[j]? = some a → tb[j]? = some r → H a = some (.lst (r.map V.int))
/-- the rows stand as tuples at as -/
def RowsT (H : Hp) (as : List Addr) (tb : List (List Int)) : Prop := as.length = tb.length ∧ ∀ (j : Nat) (a : Addr) (r : List Int), as[j]? = some a → tb[j]? = some r → H a = some (.tup (r.map V.int))
theorem RowsL.same {H H' : Hp} {as : List Addr} {tb : List (List Int)} (h : RowsL H as tb) (s : Same H H') : RowsL H' as tb := ⟨h.1, fun j a r e1 e2 => s _ _ (h.2 j a r e1 e2)⟩
theorem RowsT.same {H H' : Hp} {as : List Addr} {tb : List (List Int)} (h : RowsT H as tb) (s : Same H H') : RowsT H' as tb := ⟨h.1, fun j a r e1 e2 => s _ _ (h.2 j a r e1 e2)⟩
def spIsTable : Sp := fun vs H Q _ => ∃ (a : Addr) (r : List Int) (S : Nat), vs = [.ref a, .int S] ∧ H a = some (.lst (r.map V.int)) ∧ r.length = S ∧ S ≤ 8 ∧ (∀ x ∈ r, (0 : Int) ≤ x ∧ x < S) ∧ ∀ H', Same H H' → Q (.bl true) H'
theorem all_true (n : Nat) : (List.replicate n true).all id = true := by simp
theorem map_true (n : Nat) : (List.range n).map (fun _ => V.bl true) = (List.replicate n true).map V.bl := by
  rw [List.map_const', List.length_range, List.map_replicate]
theorem small8 {n m : Nat} (h : n ≤ m) (h2 : m ≤ 1000 := by decide) : n < sizeLine := small1000 (Nat.le_trans h h2)
def spCheckTables : Sp := fun vs H Q _ => ∃ (v : Addr) (as : List Addr) (tb : List (List Int)) (S : Nat), vs = [.ref v] ∧ H v = some (.lst (as.map V.ref)) ∧ RowsL H as tb ∧ Tb tb S ∧
  ∀ (H' : Hp) (t : Addr) (bs : List Addr), Same H H' → H' t = some (.tup (bs.map V.ref)) → RowsT H' bs tb → Q (.ref t) H'
/-- tuple(xs) within a comprehension -/
def rTupOf (K : PySem.W.Frag) : List V → Hp → VK → Prop := fun xs H Q => ∃ p ys, xs = [.ref p] ∧ ((SqL K H p ys ∧ ∀ l, H l = none → Q (.ref l) (upd H l (.tup ys))) ∨ (SqT K H p ys ∧ Q (.ref p) H))
theorem call_tupOf {X : Cx} (K : PySem.W.Frag) (hK : X.K = K) : CallR X (.type "tuple") (rTupOf K) := by
  subst hK
  exact call_tuple_of
/-- a list of new tuples grows by one -/
theorem rowsT_more {H : Hp} {D l : Addr} {bs : List Addr} {tb : List (List Int)} {r : List Int} (hl : H l = none) (hD : H D = some (.lst (bs.map V.ref))) (hb : ∀ (j : Nat) (a : Addr) (r : List Int), bs[j]? = some a → tb[j]? = some r → H a = some (.tup (r.map V.int)))
    (hr : tb[bs.length]? = some r) : ∀ (j : Nat) (a : Addr) (r' : List Int), (bs ++ [l])[j]? = some a → tb[j]? = some r' → upd (upd H l (.tup (r.map V.int))) D (.lst ((bs ++ [l]).map V.ref)) a = some (.tup (r'.map V.int)) := by
  intro j a r' ha hr'
  have nl : D ≠ l := ne_of_none hD hl
  by_cases hj : j < bs.length
  · rw [List.getElem?_append_left hj] at ha
    have q := hb j a r' ha hr'
    rw [upd_ne (ne_of q hD (by intro z; cases z)), upd_ne (ne_of_none q hl)]
    exact q
  · rw [List.getElem?_append_right (by omega)] at ha
    have hj2 : j - bs.length = 0 := by
      cases e : j - bs.length with
      | zero => rfl
      | succ n => rw [e] at ha; simp at ha
    rw [hj2] at ha
    have ea : l = a := Option.some.inj ha
    have ej : j = bs.length := by omega
    subst ea ej
    rw [hr] at hr'
    rw [upd_ne nl.symm, upd_same, Option.some.inj hr']
section
variable {P : Program} {w : World} {K : PySem.W.Frag} {mg : Str → Option Value} {base : Heap} {a : Ad} {d : Fd}
theorem ok_IsTable (T : Txt P w K mg a d) : FnOk P w K mg base CX0 4 a.fIsTable d.fIsTable pIsTable spIsTable := by
  have GS : FnOk P w K mg base CX0 1 a.fIsSequence d.fIsSequence pIsSequence (spIsSequence K) := ok_IsSequence T
  have GB : FnOk P w K mg base CX0 3 a.fIsBelow d.fIsBelow pIsBelow spIsBelow := ok_IsBelow T
  refine T.FIsTable.ok scIsTable (fun vs H Q E h => ?_) (fun cdv A outer s H vs Q E hr h => ?_)
  · obtain ⟨a, r, S, rfl, _⟩ := h
    rfl
  · obtain ⟨p, r, S, rfl, hp, hl, hS, hin, k⟩ := h
    refine ⟨_, pss_one (ps_ret (pe_and (pe_call GS (hr.mono (by decide)) (by rfl) T.gIsSequence T.FIsSequence.kp T.bIsSequence .nil pass0 (pa_cons (pv 0) pa_nil))
      (pe_and (pe_cmpR op_eq (pe_callB call_len_seq (by rfl) T.b_len boot_len (pa_cons (pv 0) pa_nil)) (pv 1) (nomark _))
      (pe_one (pe_callB (cr_all rfl) (by rfl) T.b_all boot_all (pa_cons (pe_lc (own := [("state", 2)]) (g := gName 2) (tt := tYes) rfl scIsTable.nd (pi_list (pv 0)) (blkOk_by (own := [("state", 2)]) (N := nIsTable) (sc := defScope sIsTable) (by decide +kernel))
        (fun _ _ _ _ _ => pg_name (i := 2) scIsTable.nd rfl (Or.inl rfl)) (fun _ _ _ _ _ => pts_nil)
        (fun _ _ _ _ _ => pe_call GB hr (by rfl) T.gIsBelow T.FIsBelow.kp T.bIsBelow .nil pass0 (pa_cons (pv 2) (pa_cons (pv 1) pa_nil)))) pa_nil)))))), ?_⟩
    refine ⟨_, rfl, _, _, rfl, .lst hp, fun H1 s1 => ⟨true, rfl, iteT ?_⟩⟩
    refine ⟨_, rfl, p, _, rfl, .inl (SqL.of (s1 _ _ hp)), _, rfl, rfl, _, rfl, ?_⟩
    rw [List.length_map, hl]
    rw [show decide (V.int ((S : Nat) : Int) = V.int ((S : Nat) : Int)) = true by simp]
    refine iteT ⟨_, rfl, p, rfl, ⟨_, SqL.of (s1 _ _ hp)⟩, fun D hD => ?_⟩
    refine lc_fil (walk_list (xs := r.map V.int)) (fun _ => true) (fun _ => .bl true) hD (by rw [List.length_map, hl]; exact small8 hS) (fun H s => s.seq (SqL.of (s1 _ _ hp))) (fun i x H2 H3 kk k0 hi s2 y hy _ => ?_) (fun H2 s2 e => ?_)
    · obtain ⟨rfl, hx⟩ := y
      obtain ⟨z, hz, rfl⟩ : ∃ z, r[i]? = some z ∧ V.int z = x := by
        rw [List.getElem?_map] at hx
        cases e : r[i]? with
        | none => rw [e] at hx; cases hx
        | some z => rw [e] at hx; exact ⟨z, rfl, Option.some.inj hx⟩
      have hb := hin z (List.mem_of_getElem? hz)
      refine ⟨rfl, iteT (B := k0 H3) ?_⟩
      refine ⟨_, rfl, _, rfl, z, _, rfl, ?_⟩
      rw [show decide (0 ≤ z ∧ z < (S : Int)) = true by simp [hb]]
      exact hy rfl _ (Same.refl _)
    · refine ⟨D, List.replicate (r.map V.int).length true, rfl, ?_, ?_⟩
      · rw [kept_all, map_true] at e
        exact SqL.of e
      · rw [all_true]
        exact k _ (s1.trans s2)
theorem ok_CheckTables (T : Txt P w K mg a d) : FnOk P w K mg base CX0 5 a.fCheckTables d.fCheckTables pCheckTables spCheckTables := by
  have GS : FnOk P w K mg base CX0 1 a.fIsSequence d.fIsSequence pIsSequence (spIsSequence K) := ok_IsSequence T
  have GT : FnOk P w K mg base CX0 4 a.fIsTable d.fIsTable pIsTable spIsTable := ok_IsTable T
  obtain ⟨t1, g1⟩ := T.gMOST_DEEDS
  obtain ⟨t2, g2⟩ := T.gMOST_STATES
  refine T.FCheckTables.ok scCheckTables (fun vs H Q E h => ?_) (fun cdv A outer s H vs Q E hr h => ?_)
  · obtain ⟨v, as, tb, S, rfl, _⟩ := h
    rfl
  · obtain ⟨v, as, tb, S, rfl, hv, hR, hT, k⟩ := h
    refine ⟨_, pss_cons (ps_if (PW.pt (pw_or (pt_not (pt_val (pe_call GS (hr.mono (by decide)) (by rfl) T.gIsSequence T.FIsSequence.kp T.bIsSequence .nil pass0 (pa_cons (pv 0) pa_nil))))
        (pw_or1 (pt_not (pt_chain op_le op_le pe_int (pe_callB call_len_seq (by rfl) T.b_len boot_len (pa_cons (pv 0) pa_nil)) (pe_glob (v := .int 8) rfl g1 ⟨_, rfl⟩)))))) pss_never pss_nil)
      (pss_cons (ps_set (i := 1) scCheckTables.nd rfl (.inl rfl) (pe_ifExp (pt_val (pe_call GS (hr.mono (by decide)) (by rfl) T.gIsSequence T.FIsSequence.kp T.bIsSequence .nil pass0 (pa_cons (pe_ix ix_list (pv 0) pe_int (fun _ _ => rfl)) pa_nil)))
        (pe_callB call_len_seq (by rfl) T.b_len boot_len (pa_cons (pe_ix ix_list (pv 0) pe_int (fun _ _ => rfl)) pa_nil)) pe_int))
      (pss_cons (ps_for PassesOwn.never rfl (pi_enum (by rfl) T.b_enumerate (pa_cons (pv 0) pa_nil)) (pg_tup rfl (pgs_cons (pg_name (i := 2) scCheckTables.nd rfl (.inl rfl)) (pgs_cons (pg_name (i := 3) scCheckTables.nd rfl (.inl rfl)) pgs_nil)))
        (pss_one (ps_if (PW.pt (pw_or (pt_not (pt_chain op_le op_le pe_int (pv 1) (pe_glob (v := .int 12) rfl g2 ⟨_, rfl⟩)))
          (pw_or1 (pt_not (pt_val (pe_call GT hr (by rfl) T.gIsTable T.FIsTable.kp T.bIsTable .nil pass0 (pa_cons (pv 3) (pa_cons (pv 1) pa_nil)))))))) pss_never pss_nil)))
      (pss_one (ps_ret (pe_callTy call_tuple_of (by rfl) T.b_tuple boot_tuple (pa_cons (pe_lc (own := [("table", 3)]) (g := gName 3) (tt := tYes) rfl scCheckTables.nd (pi_list (pv 0)) (blkOk_by (own := [("table", 3)]) (N := nCheckTables) (sc := defScope sCheckTables) (by decide +kernel))
        (fun _ _ _ _ _ => pg_name (i := 3) scCheckTables.nd rfl (Or.inl rfl)) (fun _ _ _ _ _ => pts_nil)
        (fun _ _ _ _ _ => pe_callTy (call_tupOf K rfl) (by rfl) T.b_tuple boot_tuple (pa_cons (pv 3) pa_nil))) pa_nil)))))), ?_⟩
    have hlen : as.length = tb.length := hR.1
    obtain ⟨p0, hp0⟩ : ∃ p, as[0]? = some p := ⟨as[0]'(by have := hT.l1; omega), List.getElem?_eq_getElem _⟩
    obtain ⟨r0, hr0⟩ : ∃ r, tb[0]? = some r := ⟨tb[0]'(by have := hT.l1; omega), List.getElem?_eq_getElem _⟩
    have hrow0 := hR.2 0 p0 r0 hp0 hr0
    have hlen0 : r0.length = S := hT.len r0 (List.mem_of_getElem? hr0)
    refine ⟨_, rfl, _, _, rfl, .lst hv, fun H1 s1 => ⟨true, rfl, ?_⟩⟩
    refine iteF ⟨_, rfl, v, _, rfl, .inl (SqL.of (s1 _ _ hv)), ?_⟩
    rw [List.length_map]
    refine ⟨_, _, rfl, rfl, _, rfl, ?_⟩
    have b1 : decide ((1 : Int) ≤ ((as.length : Nat) : Int)) = true := decide_eq_true (by have := hT.l1; omega)
    have b2 : decide (((as.length : Nat) : Int) ≤ 8) = true := decide_eq_true (by have := hT.l8; omega)
    rw [b1]
    refine iteT ⟨_, _, rfl, rfl, _, rfl, ?_⟩
    rw [b2]
    refine iteF ?_
    have hit : (as.map V.ref)[0]? = some (.ref p0) := by rw [List.getElem?_map, hp0]; rfl
    refine ⟨_, rfl, v, _, _, _, rfl, rfl, SqL.of (s1 _ _ hv), at_of (j := 0) (v := V.ref p0) rfl hit, _, _, rfl, .lst (s1 _ _ hrow0), fun H2 s2 => ⟨true, rfl, ?_⟩⟩
    have s02 := s1.trans s2
    refine iteT (B := _) ⟨_, rfl, v, _, _, _, rfl, rfl, SqL.of (s02 _ _ hv), at_of (j := 0) (v := V.ref p0) rfl hit, p0, _, rfl, .inl (SqL.of (s02 _ _ hrow0)), ?_⟩
    rw [List.length_map, hlen0]
    refine ⟨_, rfl, v, _, rfl, SqL.of (s02 _ _ hv), ?_⟩
    refine for_it (walk_enum (xs := as.map V.ref)) (fun i σ H' => ∃ x y, σ = [some (.ref v), some (.int S), x, y] ∧ Same H2 H') ⟨none, none, rfl, Same.refl _⟩ (fun i σ H' _ h => by obtain ⟨_, _, _, s3⟩ := h; exact s3.seq (SqL.of (s02 _ _ hv))) ?_ ?_
    · rintro i x σ H3 H4 hi ⟨c1, c2, rfl, s3⟩ ⟨T, y1, y2, rfl, hTn, rfl, e1, e2⟩
      obtain rfl : V.int ((i : Nat) : Int) = y1 := Option.some.inj e1
      obtain ⟨q, hq, rfl⟩ := map_at e2
      obtain ⟨r, hr'⟩ : ∃ r, tb[i]? = some r := there (by rw [List.length_map] at hi; omega)
      have s4 : Same H (upd H3 T (.tup [.int (i : Nat), .ref q])) := same_put (s02.trans s3) ((s02.trans s3).free hTn)
      have hrow := s4 _ _ (hR.2 i q r hq hr')
      have hm := List.mem_of_getElem? hr'
      refine ⟨T, _, rfl, SqT.of upd_same, rfl, _, _, rfl, _, _, rfl, rfl, ?_⟩
      refine ⟨_, rfl, _, _, rfl, rfl, _, rfl, itdT (by have := hT.s1; omega) ⟨_, _, rfl, rfl, _, rfl, ?_⟩⟩
      refine iteNS (by have := hT.s12; omega) ?_
      refine ⟨_, rfl, _, rfl, q, r, S, rfl, hrow, hT.len r hm, hT.s12, fun x hx => ⟨hT.lo r hm x hx, hT.hi r hm x hx⟩, fun H5 s5 => ⟨true, rfl, ?_⟩⟩
      exact iteF ⟨_, _, rfl, (same_put s3 (s3.free hTn)).trans s5⟩
    · rintro σ H3 ⟨c1, c2, rfl, s3⟩
      have s03 := s02.trans s3
      refine ⟨_, rfl, v, rfl, ⟨_, SqL.of (s03 _ _ hv)⟩, fun D hD => ?_⟩
      refine lc_it (walk_list (xs := as.map V.ref)) (fun i H' => Same H3 H' ∧ ∃ bs : List Addr, H' D = some (.lst (bs.map V.ref)) ∧ bs.length = i ∧ ∀ (j : Nat) (a : Addr) (r : List Int), bs[j]? = some a → tb[j]? = some r → H' a = some (.tup (r.map V.int)))
        ⟨same_new hD, [], upd_same, rfl, fun j a r e => by simp at e⟩ (fun i H' _ h => (s03.trans h.1).seq (SqL.of hv)) (fun i x H4 H5 hi h y => ?_) (fun H4 h => ?_)
      · obtain ⟨rfl, hx⟩ := y
        obtain ⟨s5, bs, hD5, hl5, hb5⟩ := h
        obtain ⟨q, hq, rfl⟩ := map_at hx
        obtain ⟨r, hr'⟩ : ∃ r, tb[i]? = some r := there (by rw [List.length_map] at hi; omega)
        have hrow := (s03.trans s5) _ _ (hR.2 i q r hq hr')
        refine ⟨rfl, yesT ?_⟩
        refine ⟨_, rfl, q, _, rfl, .inl ⟨SqL.of hrow, fun l hl => ?_⟩⟩
        have nl : D ≠ l := ne_of_none hD5 hl
        refine ⟨bs.map V.ref, by rw [upd_ne nl]; exact hD5, by rw [List.length_map, hl5]; exact small8 (m := 8) (by rw [List.length_map] at hi; have := hT.l8; omega), same_put (same_put s5 (s5.free hl)) hD, bs ++ [l], by rw [upd_same, List.map_append]; rfl, by simp [hl5], ?_⟩
        have z := rowsT_more hl hD5 hb5 (r := r) (by rw [hl5]; exact hr')
        rw [List.map_append] at z
        exact z
      · obtain ⟨s4, bs, hD4, hl4, hb4⟩ := h
        refine ⟨D, _, rfl, .inl ⟨SqL.of hD4, fun t ht => ?_⟩⟩
        have s5 : Same H4 (upd H4 t (.tup (bs.map V.ref))) := same_new ht
        refine k _ t bs ((s03.trans s4).trans s5) upd_same ⟨by rw [hl4, List.length_map, hlen], fun j a r e1 e2 => s5 _ _ (hb4 j a r e1 e2)⟩
end
end Hl
set_option Elab.async false
set_option maxRecDepth 100000
set_option maxHeartbeats 2000000
namespace Hl
open PySem PySem.Spec PyProof.Rows L2
/-- what raise C(e, ..) asks, the names and the values -/
def tR (C : Addr) (fs : List Str) (W : WX) (ta : TA) : TS := fun _ σ H => tMkX C fs ta σ H fun cls d H' => W cls d σ H'

theorem yBadText : XBody "no such text" "at" [] (defArgs (inClass (topS 4) 0)) (defBody (inClass (topS 4) 0)) (defScope (inClass (topS 4) 0)) where
  txt := ⟨_, _, _, _, _, _, _, _, _, _, _, _, rfl, .nil, rfl⟩
  par := ⟨_, rfl, rfl⟩
  kind := rfl
  co := rfl
  gen := rfl
  sup := rfl
  clsv := rfl
  self := rfl
  loc := by decide +kernel
  cell := by decide +kernel
  nd := by decide +kernel
section
variable {X : Cx} {P : Program} {w : World} {K : PySem.W.Frag} {mg : Str → Option Value} {a : Ad} {d : Fd}
/-- raise BadText(..) -/
theorem raise_BadText {e : Expr} {es : List Expr} {ta : TA} {W : WX} {p pos pos2 : Pos} {k : Nat} (T : Txt X.prog X.w X.K X.mg a d) (hc : X.calm = true) (hr : Room k X.A) (tk : Takes X W) (ha : PA X (e :: es) ta) (hg : Gl X "BadText" := by rfl)
    (he : starEach (e :: es) X.env = (false, eval e X.env) :: starEach es X.env := by rfl) (hpl : (backTo pos (starEach es X.env)).any (·.1) = false := by rfl) :
    PS X (.Raise (some (.Call (.Name "BadText" p) (e :: es) [] pos)) none pos2) (tR a.xBadText ["at"] W ta) :=
  ps_raise hc tk (pmk_x valKind T.XBadText yBadText T.gBadText (by decide) (fun s doc pm an ct us hl => match us, hl with | [_, _], _ => .of_eq rfl) hr ha hg (by decide) he hpl)
end
theorem yRefused : XBody "no such value here" "at" [] (defArgs (inClass (topS 5) 0)) (defBody (inClass (topS 5) 0)) (defScope (inClass (topS 5) 0)) where
  txt := ⟨_, _, _, _, _, _, _, _, _, _, _, _, rfl, .nil, rfl⟩
  par := ⟨_, rfl, rfl⟩
  kind := rfl
  co := rfl
  gen := rfl
  sup := rfl
  clsv := rfl
  self := rfl
  loc := by decide +kernel
  cell := by decide +kernel
  nd := by decide +kernel
section
variable {X : Cx} {P : Program} {w : World} {K : PySem.W.Frag} {mg : Str → Option Value} {a : Ad} {d : Fd}
/-- raise Refused(..) -/
theorem raise_Refused {e : Expr} {es : List Expr} {ta : TA} {W : WX} {p pos pos2 : Pos} {k : Nat} (T : Txt X.prog X.w X.K X.mg a d) (hc : X.calm = true) (hr : Room k X.A) (tk : Takes X W) (ha : PA X (e :: es) ta) (hg : Gl X "Refused" := by rfl)
    (he : starEach (e :: es) X.env = (false, eval e X.env) :: starEach es X.env := by rfl) (hpl : (backTo pos (starEach es X.env)).any (·.1) = false := by rfl) :
    PS X (.Raise (some (.Call (.Name "Refused" p) (e :: es) [] pos)) none pos2) (tR a.xRefused ["at"] W ta) :=
  ps_raise hc tk (pmk_x valKind T.XRefused yRefused T.gRefused (by decide) (fun s doc pm an ct us hl => match us, hl with | [_, _], _ => .of_eq rfl) hr ha hg (by decide) he hpl)
end
theorem yUntold : XBody "a join that three states do not tell" "archive" ["here", "there"] (defArgs (inClass (topS 6) 0)) (defBody (inClass (topS 6) 0)) (defScope (inClass (topS 6) 0)) where
  txt := ⟨_, _, _, _, _, _, _, _, _, _, _, _, rfl, .cons (.cons (.nil)), rfl⟩
  par := ⟨_, rfl, rfl⟩
  kind := rfl
  co := rfl
  gen := rfl
  sup := rfl
  clsv := rfl
  self := rfl
  loc := by decide +kernel
  cell := by decide +kernel
  nd := by decide +kernel
section
variable {X : Cx} {P : Program} {w : World} {K : PySem.W.Frag} {mg : Str → Option Value} {a : Ad} {d : Fd}
/-- raise Untold(..) -/
theorem raise_Untold {e : Expr} {es : List Expr} {ta : TA} {W : WX} {p pos pos2 : Pos} {k : Nat} (T : Txt X.prog X.w X.K X.mg a d) (hc : X.calm = true) (hr : Room k X.A) (tk : Takes X W) (ha : PA X (e :: es) ta) (hg : Gl X "Untold" := by rfl)
    (he : starEach (e :: es) X.env = (false, eval e X.env) :: starEach es X.env := by rfl) (hpl : (backTo pos (starEach es X.env)).any (·.1) = false := by rfl) :
    PS X (.Raise (some (.Call (.Name "Untold" p) (e :: es) [] pos)) none pos2) (tR a.xUntold ["archive", "here", "there"] W ta) :=
  ps_raise hc tk (pmk_x valKind T.XUntold yUntold T.gUntold (by decide) (fun s doc pm an ct us hl => match us, hl with | [_, _, _, _], _ => .of_eq rfl) hr ha hg (by decide) he hpl)
end
theorem yNoState : XBody "no such state" "state" [] (defArgs (inClass (topS 7) 0)) (defBody (inClass (topS 7) 0)) (defScope (inClass (topS 7) 0)) where
  txt := ⟨_, _, _, _, _, _, _, _, _, _, _, _, rfl, .nil, rfl⟩
  par := ⟨_, rfl, rfl⟩
  kind := rfl
  co := rfl
  gen := rfl
  sup := rfl
  clsv := rfl
  self := rfl
  loc := by decide +kernel
  cell := by decide +kernel
  nd := by decide +kernel
section
variable {X : Cx} {P : Program} {w : World} {K : PySem.W.Frag} {mg : Str → Option Value} {a : Ad} {d : Fd}
/-- raise NoState(..) -/
theorem raise_NoState {e : Expr} {es : List Expr} {ta : TA} {W : WX} {p pos pos2 : Pos} {k : Nat} (T : Txt X.prog X.w X.K X.mg a d) (hc : X.calm = true) (hr : Room k X.A) (tk : Takes X W) (ha : PA X (e :: es) ta) (hg : Gl X "NoState" := by rfl)
    (he : starEach (e :: es) X.env = (false, eval e X.env) :: starEach es X.env := by rfl) (hpl : (backTo pos (starEach es X.env)).any (·.1) = false := by rfl) :
    PS X (.Raise (some (.Call (.Name "NoState" p) (e :: es) [] pos)) none pos2) (tR a.xNoState ["state"] W ta) :=
  ps_raise hc tk (pmk_x keyKind T.XNoState yNoState T.gNoState (by decide) (fun s doc pm an ct us hl => match us, hl with | [_, _], _ => .of_eq rfl) hr ha hg (by decide) he hpl)
end
theorem yNoDeed : XBody "no such deed" "deed" [] (defArgs (inClass (topS 8) 0)) (defBody (inClass (topS 8) 0)) (defScope (inClass (topS 8) 0)) where
  txt := ⟨_, _, _, _, _, _, _, _, _, _, _, _, rfl, .nil, rfl⟩
  par := ⟨_, rfl, rfl⟩
  kind := rfl
  co := rfl
  gen := rfl
  sup := rfl
  clsv := rfl
  self := rfl
  loc := by decide +kernel
  cell := by decide +kernel
  nd := by decide +kernel
section
variable {X : Cx} {P : Program} {w : World} {K : PySem.W.Frag} {mg : Str → Option Value} {a : Ad} {d : Fd}
/-- raise NoDeed(..) -/
theorem raise_NoDeed {e : Expr} {es : List Expr} {ta : TA} {W : WX} {p pos pos2 : Pos} {k : Nat} (T : Txt X.prog X.w X.K X.mg a d) (hc : X.calm = true) (hr : Room k X.A) (tk : Takes X W) (ha : PA X (e :: es) ta) (hg : Gl X "NoDeed" := by rfl)
    (he : starEach (e :: es) X.env = (false, eval e X.env) :: starEach es X.env := by rfl) (hpl : (backTo pos (starEach es X.env)).any (·.1) = false := by rfl) :
    PS X (.Raise (some (.Call (.Name "NoDeed" p) (e :: es) [] pos)) none pos2) (tR a.xNoDeed ["deed"] W ta) :=
  ps_raise hc tk (pmk_x keyKind T.XNoDeed yNoDeed T.gNoDeed (by decide) (fun s doc pm an ct us hl => match us, hl with | [_, _], _ => .of_eq rfl) hr ha hg (by decide) he hpl)
end
theorem yNoHouse : XBody "no such house" "house" [] (defArgs (inClass (topS 9) 0)) (defBody (inClass (topS 9) 0)) (defScope (inClass (topS 9) 0)) where
  txt := ⟨_, _, _, _, _, _, _, _, _, _, _, _, rfl, .nil, rfl⟩
  par := ⟨_, rfl, rfl⟩
  kind := rfl
  co := rfl
  gen := rfl
  sup := rfl
  clsv := rfl
  self := rfl
  loc := by decide +kernel
  cell := by decide +kernel
  nd := by decide +kernel
section
variable {X : Cx} {P : Program} {w : World} {K : PySem.W.Frag} {mg : Str → Option Value} {a : Ad} {d : Fd}
/-- raise NoHouse(..) -/
theorem raise_NoHouse {e : Expr} {es : List Expr} {ta : TA} {W : WX} {p pos pos2 : Pos} {k : Nat} (T : Txt X.prog X.w X.K X.mg a d) (hc : X.calm = true) (hr : Room k X.A) (tk : Takes X W) (ha : PA X (e :: es) ta) (hg : Gl X "NoHouse" := by rfl)
    (he : starEach (e :: es) X.env = (false, eval e X.env) :: starEach es X.env := by rfl) (hpl : (backTo pos (starEach es X.env)).any (·.1) = false := by rfl) :
    PS X (.Raise (some (.Call (.Name "NoHouse" p) (e :: es) [] pos)) none pos2) (tR a.xNoHouse ["house"] W ta) :=
  ps_raise hc tk (pmk_x keyKind T.XNoHouse yNoHouse T.gNoHouse (by decide) (fun s doc pm an ct us hl => match us, hl with | [_, _], _ => .of_eq rfl) hr ha hg (by decide) he hpl)
end
theorem yNoTie : XBody "no such tie" "tie" [] (defArgs (inClass (topS 10) 0)) (defBody (inClass (topS 10) 0)) (defScope (inClass (topS 10) 0)) where
  txt := ⟨_, _, _, _, _, _, _, _, _, _, _, _, rfl, .nil, rfl⟩
  par := ⟨_, rfl, rfl⟩
  kind := rfl
  co := rfl
  gen := rfl
  sup := rfl
  clsv := rfl
  self := rfl
  loc := by decide +kernel
  cell := by decide +kernel
  nd := by decide +kernel
section
variable {X : Cx} {P : Program} {w : World} {K : PySem.W.Frag} {mg : Str → Option Value} {a : Ad} {d : Fd}
/-- raise NoTie(..) -/
theorem raise_NoTie {e : Expr} {es : List Expr} {ta : TA} {W : WX} {p pos pos2 : Pos} {k : Nat} (T : Txt X.prog X.w X.K X.mg a d) (hc : X.calm = true) (hr : Room k X.A) (tk : Takes X W) (ha : PA X (e :: es) ta) (hg : Gl X "NoTie" := by rfl)
    (he : starEach (e :: es) X.env = (false, eval e X.env) :: starEach es X.env := by rfl) (hpl : (backTo pos (starEach es X.env)).any (·.1) = false := by rfl) :
    PS X (.Raise (some (.Call (.Name "NoTie" p) (e :: es) [] pos)) none pos2) (tR a.xNoTie ["tie"] W ta) :=
  ps_raise hc tk (pmk_x keyKind T.XNoTie yNoTie T.gNoTie (by decide) (fun s doc pm an ct us hl => match us, hl with | [_, _], _ => .of_eq rfl) hr ha hg (by decide) he hpl)
end
end Hl
set_option Elab.async false
set_option maxRecDepth 100000
set_option maxHeartbeats 2000000
namespace Hl
open PySem PySem.Spec PyProof.Rows L2
/-- all but what stands at p is as it was -/
def But (p : Addr) (H H' : Hp) : Prop := ∀ b o, H b = some o → b ≠ p → H' b = some o
theorem But.of {p : Addr} {H H' : Hp} (s : Same H H') : But p H H' := fun b o e _ => s b o e
theorem But.trans {p : Addr} {H H1 H2 : Hp} (x : But p H H1) (y : But p H1 H2) : But p H H2 := fun b o e n => y b o (x b o e n) n
theorem But.put {p : Addr} {H H1 : Hp} {u : HO} (x : But p H H1) : But p H (upd H1 p u) := fun b o e n => by rw [upd_ne n]; exact x b o e n
theorem but_put {p : Addr} {H : Hp} {u : HO} : But p H (upd H p u) := fun b o e n => by rw [upd_ne n]; exact e
def machF (t : Addr) (D S : Nat) : List (Str × V) := [("tables", .ref t), ("deeds", .int D), ("states", .int S)]
/-- a Machine of the tables tb, of S states, stands at m -/
structure MachAt (C : Addr) (H : Hp) (m : Addr) (tb : List (List Int)) (S : Nat) : Prop where
  at_ : ∃ (dx t : Addr) (bs : List Addr), H m = some (.ins C dx (machF t tb.length S)) ∧ H t = some (.tup (bs.map V.ref)) ∧ RowsT H bs tb
  ok : Tb tb S
theorem MachAt.same {C : Addr} {H H' : Hp} {m : Addr} {tb : List (List Int)} {S : Nat} (h : MachAt C H m tb S) (s : Same H H') : MachAt C H' m tb S := by
  obtain ⟨⟨dx, t, bs, h1, h2, h3⟩, h4⟩ := h
  exact ⟨⟨dx, t, bs, s _ _ h1, s _ _ h2, h3.same s⟩, h4⟩
def spMachI (C : Addr) : Sp := fun vs H Q _ => ∃ (m dx v : Addr) (as : List Addr) (tb : List (List Int)) (S : Nat), vs = [.ref m, .ref v] ∧ H m = some (.ins C dx []) ∧ H v = some (.lst (as.map V.ref)) ∧ RowsL H as tb ∧ Tb tb S ∧
  ∀ H', MachAt C H' m tb S → But m H H' → Q .non H'
def spNeedState (C Ex : Addr) : Sp := fun vs H Q E => ∃ (m : Addr) (tb : List (List Int)) (S : Nat) (i : Int), vs = [.ref m, .int i] ∧ MachAt C H m tb S ∧ (0 ≤ i → i < S → Q (.int i) H) ∧
  (¬ (0 ≤ i ∧ i < S) → ∀ d : Addr, H d = none → E (.ref Ex) (some d) (upd H d (.xd [("state", .int i)])))
def spNeedDeed (C Ex : Addr) : Sp := fun vs H Q E => ∃ (m : Addr) (tb : List (List Int)) (S : Nat) (i : Int), vs = [.ref m, .int i] ∧ MachAt C H m tb S ∧ (0 ≤ i → i < tb.length → Q (.int i) H) ∧
  (¬ (0 ≤ i ∧ i < tb.length) → ∀ d : Addr, H d = none → E (.ref Ex) (some d) (upd H d (.xd [("deed", .int i)])))
section
variable {P : Program} {w : World} {K : PySem.W.Frag} {mg : Str → Option Value} {base : Heap} {a : Ad} {d : Fd}
theorem ok_MachI (T : Txt P w K mg a d) : FnOk P w K mg base CX0 6 a.fMachI d.fMachI pMachI (spMachI a.cMachine) := by
  have G : FnOk P w K mg base CX0 5 a.fCheckTables d.fCheckTables pCheckTables spCheckTables := ok_CheckTables T
  refine T.FMachI.ok scMachI (fun vs H Q E h => ?_) (fun cdv A outer s H vs Q E hr h => ?_)
  · obtain ⟨m, dx, v, as, tb, S, rfl, _⟩ := h
    rfl
  · obtain ⟨m, dx, v, as, tb, S, rfl, hm, hv, hR, hT, k⟩ := h
    refine ⟨_, pss_cons (ps_fld (pv 0) (pe_call G hr (by rfl) T.gCheckTables T.FCheckTables.kp T.bCheckTables .nil pass0 (pa_cons (pv 1) pa_nil)) rfl)
      (pss_cons (ps_fld (pv 0) (pe_callB call_len_seq (by rfl) T.b_len boot_len (pa_cons (pe_fld (pv 0) rfl) pa_nil)) rfl)
      (pss_one (ps_fld (pv 0) (pe_callB call_len_seq (by rfl) T.b_len boot_len (pa_cons (pe_ix ix_tup (pe_fld (pv 0) rfl) pe_int (fun _ _ => rfl)) pa_nil)) rfl))), ?_⟩
    refine ⟨_, rfl, v, as, tb, S, rfl, hv, hR, hT, fun H1 t bs s1 ht hRT => ?_⟩
    have hm1 := s1 _ _ hm
    have hlen : bs.length = tb.length := hRT.1
    have nmt : t ≠ m := ne_of ht hm1 (by intro z; cases z)
    obtain ⟨q, hq⟩ := there (l := bs) (i := 0) (by have := hT.l1; omega)
    obtain ⟨r, hr'⟩ := there (l := tb) (i := 0) (by have := hT.l1; omega)
    have hrow := hRT.2 0 q r hq hr'
    have nqm : q ≠ m := ne_of hrow hm1 (by intro z; cases z)
    refine ⟨_, rfl, m, _, dx, _, rfl, hm1, T.clMachine, T.nMachine_tables, (by show 0 < 1000; decide), ?_⟩
    refine ⟨_, rfl, m, _, dx, _, _, rfl, upd_same, T.clMachine, T.nMachine_tables, rfl, t, _, rfl, .inr (SqT.of (by rw [upd_ne nmt]; exact ht)), ?_⟩
    refine ⟨_, rfl, m, _, dx, _, rfl, upd_same, T.clMachine, T.nMachine_deeds, (by show 1 < 1000; decide), ?_⟩
    refine ⟨_, rfl, m, _, dx, _, _, rfl, upd_same, T.clMachine, T.nMachine_tables, rfl, t, _, _, _, rfl, rfl, SqT.of (by rw [upd_ne nmt, upd_ne nmt]; exact ht), at_of (j := 0) rfl (at_map hq), q, _, rfl, .inr (SqT.of (by rw [upd_ne nqm, upd_ne nqm]; exact hrow)), ?_⟩
    refine ⟨_, rfl, m, _, dx, _, rfl, upd_same, T.clMachine, T.nMachine_states, (by show 2 < 1000; decide), ?_⟩
    refine k _ ⟨⟨dx, t, bs, ?_, ?_, hlen, fun j b r e1 e2 => ?_⟩, hT⟩ (((But.of s1).put).put.put)
    · rw [upd_same, List.length_map, List.length_map, hlen, hT.len r (List.mem_of_getElem? hr')]
      rfl
    · rw [upd_ne nmt, upd_ne nmt, upd_ne nmt]
      exact ht
    · have z := hRT.2 j b r e1 e2
      have n : b ≠ m := ne_of z hm1 (by intro z; cases z)
      rw [upd_ne n, upd_ne n, upd_ne n]
      exact z
theorem ok_NeedState (T : Txt P w K mg a d) : FnOk P w K mg base (L2.CX P w) 4 a.fNeedState d.fNeedState pNeedState (spNeedState a.cMachine a.xNoState) := by
  have G : FnOk P w K mg base CX0 3 a.fIsBelow d.fIsBelow pIsBelow spIsBelow := ok_IsBelow T
  refine T.FNeedState.okX scNeedState (fun vs H Q E h => ?_) (fun cdv A outer s H vs Q E hr h => ?_)
  · obtain ⟨m, tb, S, i, rfl, _⟩ := h
    rfl
  · obtain ⟨m, tb, S, i, rfl, hM, kY, kN⟩ := h
    obtain ⟨⟨dx, t, bs, hm, ht, hR⟩, hT⟩ := id hM
    refine ⟨_, pss_cons (ps_if (pt_not (pt_val (pe_call G hr (by rfl) T.gIsBelow T.FIsBelow.kp T.bIsBelow .nil pass0 (pa_cons (pv 1) (pa_cons (pe_fld (pv 0) rfl) pa_nil)))))
      (pss_one (raise_NoState (W := fun cls d _ H => E cls d H) T rfl hr (takes_of rfl rfl rfl rfl) (pa_cons (pv 1) pa_nil))) pss_nil)
      (pss_one (ps_ret (pv 1))), ?_⟩
    refine ⟨_, rfl, _, rfl, m, _, dx, _, _, rfl, hm, T.clMachine, T.nMachine_states, rfl, i, S, rfl, _, rfl, ?_⟩
    by_cases c : 0 ≤ i ∧ i < (S : Int)
    · refine iteNS c ⟨_, rfl, kY c.1 c.2⟩
    · exact itdN c ⟨_, rfl, rfl, fun d hd => kN c d hd⟩
theorem ok_NeedDeed (T : Txt P w K mg a d) : FnOk P w K mg base (L2.CX P w) 4 a.fNeedDeed d.fNeedDeed pNeedDeed (spNeedDeed a.cMachine a.xNoDeed) := by
  have G : FnOk P w K mg base CX0 3 a.fIsBelow d.fIsBelow pIsBelow spIsBelow := ok_IsBelow T
  refine T.FNeedDeed.okX scNeedDeed (fun vs H Q E h => ?_) (fun cdv A outer s H vs Q E hr h => ?_)
  · obtain ⟨m, tb, S, i, rfl, _⟩ := h
    rfl
  · obtain ⟨m, tb, S, i, rfl, hM, kY, kN⟩ := h
    obtain ⟨⟨dx, t, bs, hm, ht, hR⟩, hT⟩ := id hM
    refine ⟨_, pss_cons (ps_if (pt_not (pt_val (pe_call G hr (by rfl) T.gIsBelow T.FIsBelow.kp T.bIsBelow .nil pass0 (pa_cons (pv 1) (pa_cons (pe_fld (pv 0) rfl) pa_nil)))))
      (pss_one (raise_NoDeed (W := fun cls d _ H => E cls d H) T rfl hr (takes_of rfl rfl rfl rfl) (pa_cons (pv 1) pa_nil))) pss_nil)
      (pss_one (ps_ret (pv 1))), ?_⟩
    refine ⟨_, rfl, _, rfl, m, _, dx, _, _, rfl, hm, T.clMachine, T.nMachine_deeds, rfl, i, tb.length, rfl, _, rfl, ?_⟩
    by_cases c : 0 ≤ i ∧ i < (tb.length : Int)
    · refine iteNS c ⟨_, rfl, kY c.1 c.2⟩
    · exact itdN c ⟨_, rfl, rfl, fun d hd => kN c d hd⟩
end
end Hl
set_option Elab.async false
set_option maxRecDepth 100000
set_option maxHeartbeats 4000000
namespace Hl
open PySem PySem.Spec PyProof.Rows L2
/-! ### enumerate(tuple) -/
theorem meets_enum1 {v : Value} {o : Obj} {G0 : Heap → Prop} (B : Begins v o G0) :
    Meets (Builtin.«enumerate.__new__» ⟨[.type "enumerate", v], []⟩) (fun _ R s => G0 s.heap ∧
      R (.ok (.ret (.ref (s.heap.push o).objs.size))) { s with heap := (s.heap.push o).push { cls := .type "enumerate", data := .fields #[.none, .bool false, .ref s.heap.objs.size, rawInt 0, .none, .none] } }) :=
  .of_wp fun prog w A R s h => by
    obtain ⟨hp, g, d, tk, os⟩ := s; obtain ⟨h1, h⟩ := h
    have z := sub_enumerate
    have it : ∀ {A' : Around} {E : Value → Shared → Prop} {Q : Value → Shared → Prop}, Q (.ref hp.objs.size) ⟨hp.push o, g, d, tk, os⟩ → wpAny (model prog w) A' (pyIter v) Q E ⟨hp, g, d, tk, os⟩ := fun q => B.iter prog w _ _ ⟨hp, g, d, tk, os⟩ _ h1 q
    wp_walk using it
    refine wpAny_stack_any fun st => wpAny_pure ?_
    split
    · rename_i c _ _ _ _ _
      cases (c == Value.type "enumerate") <;> (wp_walk using it; exact ⟨_, rfl, h⟩)
    · wp_walk using it
      exact ⟨_, rfl, h⟩
theorem enum1 {prog : Program} {w : World} {A : Around} {E : Value → Shared → Prop} {s : Shared} {v : Value} {o : Obj} {G0 : Heap → Prop} {Q : Value → Shared → Prop} (B : Begins v o G0) (h1 : G0 s.heap)
    (h : ∀ h', IsEnum h' (s.heap.objs.size + 1) s.heap.objs.size 0 .none → h'.get? s.heap.objs.size = some o → (∀ b o, s.heap.get? b = some o → h'.get? b = some o) → Q (.ref (s.heap.objs.size + 1)) { s with heap := h' }) :
    wpAny (model prog w) A (call (.type "enumerate") [v]) Q E s := by
  refine callType_new F.called_enumerate (by decide) (F.typeCall_enumerate_1 _) (F.newCall_enumerate_1 _) (fun obj => F.args_object_init_2 obj _) F.entry_enumerate_new (meets_enum1 B) ⟨h1, ?_⟩
  have hz : (s.heap.push o).objs.size = s.heap.objs.size + 1 := Heap.size_push ..
  show _ ∧ _
  rw [hz]
  have he : IsEnum ((s.heap.push o).push { cls := .type "enumerate", data := .fields #[.none, .bool false, .ref s.heap.objs.size, rawInt 0, .none, .none] }) (s.heap.objs.size + 1) s.heap.objs.size 0 .none := by
    have z := Heap.get?_push_size (s.heap.push o) (o := { cls := .type "enumerate", data := .fields #[.none, .bool false, .ref s.heap.objs.size, rawInt 0, .none, .none] }) rfl
    rw [hz] at z; exact z
  exact ⟨⟨_, he, rfl⟩, h _ he (Heap.get?_push_of_some _ (Heap.get?_push_size _ B.free)) fun b o x => Heap.get?_push_of_some _ (Heap.get?_push_of_some _ x)⟩
/-- the tuple at a, each item in a new pair -/
def IteT (K : PySem.W.Frag) (a : Addr) : It :=
  ⟨fun i H => ∃ (xs : List V) (x : V), SqT K H a xs ∧ xs[i]? = some x, fun i H v H' => ∃ T x, v = .ref T ∧ H T = none ∧ H' = upd H T (.tup [.int (i : Nat), x]) ∧ ∀ xs, SqT K H a xs → xs[i]? = some x, fun i H => ∃ xs : List V, SqT K H a xs ∧ xs.length = i⟩
theorem turn_enumT {P : Program} {w : World} {K : PySem.W.Frag} {elts : List Expr} {kk : Nat} {tpos : Pos} (a e it : Addr) (hae : a ≠ e) (hai : a ≠ it) :
    Turn P w K (.Tuple elts kk tpos) (IteT K a) [e, it] e (fun i h => (∃ old, IsEnum h e it ((i : Nat) : Int) old) ∧ h.IsTupleIter it a i ∧ e ≠ it) where
  mem := by simp
  obj := fun i h st b hb => by
    obtain ⟨⟨old, he⟩, ⟨o, ho, hc, hd⟩, _⟩ := st
    rcases (show b = e ∨ b = it by simpa using hb) with z | z
    · rw [z]; exact ⟨_, he, fun v q => nomatch q⟩
    · rw [z]; exact ⟨o, ho, fun v q => by rw [hd] at q; cases q⟩
  keep := fun i h h' st k => let ⟨⟨old, he⟩, hi, hne⟩ := st; ⟨⟨old, k e (by simp) _ he⟩, hi.at fun o q => k it (by simp) o q, hne⟩
  item := by
    intro X hP hw hK hc i pins s σ H E I hf st hg
    subst hP hw hK
    obtain ⟨⟨old, he⟩, hit, hne⟩ := st
    obtain ⟨xs, x, hq, hx⟩ := hg
    obtain ⟨its, rv, p, hz⟩ := I.tuple hq
    obtain ⟨u, hu, ru⟩ := rv.get hx
    have hel : e < s.heap.objs.size := Heap.lt_size he
    have hil : it < s.heap.objs.size := by obtain ⟨_, q, _⟩ := hit; exact Heap.lt_size q
    have D := Draws.tuple (prog := X.prog) (w := X.w) (A := X.A.in1) (I.ok.hd hc) it a hai its.toArray
    have hlt : i < its.toArray.size := by
      obtain ⟨q, _⟩ := List.getElem?_eq_some_iff.mp hu
      simpa using q
    refine wpAny_pyNext_enum_itemD D he ⟨hit, p⟩ hlt hne (by simp [hne, Ne.symm hae]) fun x' h' tk hPx ho hst' hT hsz hk => ?_
    have ex : x' = u := by
      have z : its.toArray[i]? = some x' := hPx
      rw [List.getElem?_toArray, hu] at z
      exact (Option.some.inj z).symm
    subst ex
    refine ⟨_, rfl, wpAny_letOwnedTupleGo_enum (s := { s with heap := h', toks := tk + 1 }) ho fun h'' he' sb => ?_⟩
    have hT2 : h''.get? s.heap.objs.size = some { cls := .type "tuple", data := .seq #[.int i tk, x'] } := (sb.2 _ (Nat.ne_of_gt hel)).trans hT
    have new : ObjOk X.prog X.w (upd H s.heap.objs.size (.tup [.int (i : Nat), x])) h'' s.heap.objs.size (.tup [.int (i : Nat), x]) :=
      ⟨by show 2 ≤ sizeLine; decide, [.int i tk, x'], .cons ⟨_, rfl⟩ (.cons ru .nil), ⟨_, hT2, rfl, _, rfl⟩⟩
    have I1 : Inv X pins σ (upd H s.heap.objs.size (.tup [.int (i : Nat), x])) { s with heap := h'', toks := tk + 1 } :=
      I.turnedNew (ch := [e, it]) (fun b ob hb q => (sb.2 b (fun z => hb (by simp [z]))).trans (hk b ob (fun z => hb (by simp [z])) (fun z => hb (by simp [z])) q)) hf (Nat.le_refl _) new
    refine ⟨.ref s.heap.objs.size, _, I1, rfl, ⟨_, x, rfl, I.hok.fresh (Nat.le_refl _), rfl, fun ys hy => by rw [I.tuple_inj hy hq]; exact hx⟩, ⟨⟨x', ?_⟩, hst'.1.at fun o q => (sb.2 it (Ne.symm hne)).trans q, hne⟩, fun b hb => ?_⟩
    · rw [show ((i + 1 : Nat) : Int) = (i : Int) + 1 by omega]; exact he'
    · have hb' : b < s.heap.objs.size := by
        rcases (show b = e ∨ b = it by simpa using hb) with z | z
        · rw [z]; exact hel
        · rw [z]; exact hil
      rw [upd_ne (Nat.ne_of_lt hb')]
      exact (hf b hb).1
  done := by
    intro X hP hw hK hc i pins s σ H E I hf st hg
    subst hP hw hK
    obtain ⟨⟨old, he⟩, hit, hne⟩ := st
    obtain ⟨xs, hq, hx⟩ := hg
    obtain ⟨its, rv, p, hz⟩ := I.tuple hq
    obtain ⟨f0, f1, f2, f3, f4, f5⟩ := hf it (by simp)
    have hl := rv.length
    have D := Draws.tuple (prog := X.prog) (w := X.w) (A := X.A.in1) (I.ok.hd hc) it a hai its.toArray
    have hit' : s.heap.IsTupleIter it a its.toArray.size := by
      rw [show its.toArray.size = i by rw [List.size_toArray, ← hl, hx]]
      exact hit
    exact wpAny_pyNext_enum_endD D he ⟨hit', p⟩ fun h' eb => ⟨rfl, I.turned (t' := s.toks) (fun b o hb q => eb b o hb q) f0 f1 f3 f4 f5⟩
  self := fun A i s Q E st h => let ⟨⟨_, he⟩, _⟩ := st; wpAny_pyIter_enum he h
def iEnumT (K : PySem.W.Frag) (ta : TA) : TI := fun σ H R => ta σ H fun vs H1 => ∃ a xs, vs = [.ref a] ∧ SqT K H1 a xs ∧ R (IteT K a) H1
theorem pi_enumT {X : Cx} {e : Expr} {ta : TA} {p pos tpos : Pos} {elts : List Expr} {kk : Nat} (hg : Gl X "enumerate") (hm : X.mg "enumerate" = none) (ha : PA X [e] ta) (hs : starEach [e] X.env = [(false, eval e X.env)] := by rfl) :
    PI X (.Tuple elts kk tpos) (.Call (.Name "enumerate" p) [e] [] pos) (iEnumT X.K ta) := by
  refine ⟨fun pins s σ H R I h => ?_⟩
  refine Call_ (ld_blt I hg hm boot_enumerate (PyProof.Rows.callWith_type1 (thn (ha.run pos pins s σ H _ I h) fun us s1 ⟨vs, H1, I1, r1, q1⟩ => ?_) hs rfl))
  obtain ⟨a, xs, ex, hq, q⟩ := q1
  subst ex
  cases r1 with
  | cons r rr =>
    cases rr
    cases r
    obtain ⟨its, rv, p', hz⟩ := I1.tuple hq
    have hal : a < s1.heap.objs.size := p'.lt
    refine enum1 (begins_tuple a its.toArray) p' fun h' he hit hk => wpAny_pyIter_enum he ?_
    have I2 : Inv X pins σ H1 { s1 with heap := h' } := I1.kept (t' := s1.toks) hk
    refine ⟨s1.heap.objs.size + 1, [s1.heap.objs.size + 1, s1.heap.objs.size], _, _, H1, rfl, I2, turn_enumT a (s1.heap.objs.size + 1) s1.heap.objs.size (Nat.ne_of_lt (Nat.lt_succ_of_lt hal)) (Nat.ne_of_lt hal), ⟨⟨.none, he⟩, ⟨_, hit, rfl, rfl⟩, Nat.succ_ne_self _⟩, fun b hb => ?_, q⟩
    have hle : s1.heap.objs.size ≤ b := by
      rcases (show b = s1.heap.objs.size + 1 ∨ b = s1.heap.objs.size by simpa using hb) with z | z
      · rw [z]; exact Nat.le_add_right _ _
      · rw [z]; exact Nat.le_refl _
    exact I1.fpOk hle (I1.hok.fresh hle)
end Hl
set_option Elab.async false
set_option maxRecDepth 100000
set_option maxHeartbeats 2000000
namespace Hl
/-! ### the net, in plain Lean -/
/-- ties of n houses -/
structure Ws (ps : List Pr) (n : Nat) : Prop where
  n1 : 1 ≤ n
  n4 : n ≤ 4
  len : ps.length ≤ 5
  a0 : ∀ p ∈ ps, 0 ≤ p.1
  a1 : ∀ p ∈ ps, p.1 < (n : Int)
  b0 : ∀ p ∈ ps, 0 ≤ p.2
  b1 : ∀ p ∈ ps, p.2 < (n : Int)
  ne : ∀ p ∈ ps, p.1 ≠ p.2
def otherEnd (p : Pr) (h : Int) : Int := if p.1 = h then p.2 else p.1
/-- house h is an end of the i-th tie -/
def endOf (ps : List Pr) (h : Int) (i : Nat) : Bool := match ps[i]? with
  | some p => p.1 == h || p.2 == h
  | none => false
def tiesAt (ps : List Pr) (h : Int) : List Nat := (List.range ps.length).filter (endOf ps h)
inductive Stp where
  | doo (h d : Int)
  | meet (t : Int)
structure Net where
  st : List Int
  ar : List Int
  co : List (Option Int)
  ti : List Int
  sp : List Stp
  go : List Stp
  bk : Option (List Int × List Int × List Stp)
def Net.ended (n : Net) : Net := { n with co := List.replicate n.st.length none, ti := n.ar, go := n.sp }
def noCopy (co : List (Option Int)) (h : Int) : Bool := (co.getD h.toNat none).isNone
def Net.counted (n : Net) (x : Stp) (hs : List Int) : Net := { n with sp := n.sp ++ [x], go := if hs.all (noCopy n.co) = true then n.go ++ [x] else n.go }
def tiStep (ps : List Pr) (co : List (Option Int)) (ar : List Int) (h : Int) (ti : List Int) (t : Nat) : List Int := if noCopy co (otherEnd (ps.getD t (0, 0)) h) = true then ti else ti.set t (ar.getD t 0)
def Net.tiRead (n : Net) (ps : List Pr) (h : Int) : List Int := (tiesAt ps h).foldl (tiStep ps n.co n.ar h) n.ti
def valsOf (co : List (Option Int)) : List Int := co.map (·.getD 0)
/-- house h is read, before the walk's end is looked for -/
def Net.read1 (n : Net) (ps : List Pr) (h : Int) : Net := { n with co := n.co.set h.toNat (some (n.st.getD h.toNat 0)), ti := n.tiRead ps h }
def Net.whole (n : Net) : Net := Net.ended { n with bk := some (valsOf n.co, n.ti, n.go) }
def Net.read (n : Net) (ps : List Pr) (h : Int) : Net := if (n.read1 ps h).co.all Option.isSome = true then (n.read1 ps h).whole else n.read1 ps h
def nextSt (tb : List (List Int)) (d x : Int) : Int := (tb.getD d.toNat []).getD x.toNat 0
def Net.doo (n : Net) (tb : List (List Int)) (h d : Int) : Net := Net.counted { n with st := n.st.set h.toNat (nextSt tb d (n.st.getD h.toNat 0)) } (.doo h d) [h]
def Net.unread (n : Net) (p : Pr) : List Int := [p.1, p.2].filter (noCopy n.co)
def Net.met0 (n : Net) (ps : List Pr) (p : Pr) : Net := match n.unread p with
  | [h] => n.read ps h
  | _ => n
def Net.met1 (n : Net) (t : Int) (p : Pr) (e : Int) : Net := Net.counted { n with st := (n.st.set p.1.toNat e).set p.2.toNat e, ar := n.ar.set t.toNat e } (.meet t) [p.1, p.2]
def Net.met (n : Net) (ps : List Pr) (t : Int) (p : Pr) (e : Int) : Net := (n.met0 ps p).met1 t p e
def Net.back (n : Net) (c t : List Int) (g : List Stp) : Net := Net.ended { n with st := c, ar := t, sp := g }
def InR (S : Nat) (x : Int) : Prop := 0 ≤ x ∧ x < (S : Int)
structure Gd (S nh nt N : Nat) (n : Net) : Prop where
  st : n.st.length = nh
  ar : n.ar.length = nt
  co : n.co.length = nh
  ti : n.ti.length = nt
  stR : ∀ x ∈ n.st, InR S x
  arR : ∀ x ∈ n.ar, InR S x
  coR : ∀ x, some x ∈ n.co → InR S x
  tiR : ∀ x ∈ n.ti, InR S x
  sp : n.sp.length ≤ N
  go : n.go.length ≤ N
  bk : ∀ c t g, n.bk = some (c, t, g) → c.length = nh ∧ t.length = nt ∧ (∀ x ∈ c, InR S x) ∧ (∀ x ∈ t, InR S x) ∧ g.length ≤ N
theorem Gd.mono {S nh nt N N' : Nat} {n : Net} (g : Gd S nh nt N n) (h : N ≤ N') : Gd S nh nt N' n :=
  ⟨g.st, g.ar, g.co, g.ti, g.stR, g.arR, g.coR, g.tiR, Nat.le_trans g.sp h, Nat.le_trans g.go h, fun c t x e => let ⟨a, b, c, d, f⟩ := g.bk c t x e; ⟨a, b, c, d, Nat.le_trans f h⟩⟩
theorem Gd.ended {S nh nt N : Nat} {n : Net} (g : Gd S nh nt N n) : Gd S nh nt N n.ended :=
  ⟨g.st, g.ar, (by show (List.replicate n.st.length none).length = nh; rw [List.length_replicate]; exact g.st), g.ar, g.stR, g.arR, fun x hx => by
    have z : some x ∈ List.replicate n.st.length (none : Option Int) := hx
    simp at z, g.arR, g.sp, g.sp, g.bk⟩
theorem Gd.counted {S nh nt N : Nat} {n : Net} (g : Gd S nh nt N n) (x : Stp) (hs : List Int) : Gd S nh nt (N + 1) (n.counted x hs) := by
  refine ⟨g.st, g.ar, g.co, g.ti, g.stR, g.arR, g.coR, g.tiR, ?_, ?_, fun c t y e => let ⟨a, b, c, d, f⟩ := g.bk c t y e; ⟨a, b, c, d, Nat.le_succ_of_le f⟩⟩
  · show (n.sp ++ [x]).length ≤ _
    rw [List.length_append]
    exact Nat.succ_le_succ g.sp
  · show (if hs.all (noCopy n.co) = true then n.go ++ [x] else n.go).length ≤ _
    by_cases c : hs.all (noCopy n.co) = true
    · rw [if_pos c, List.length_append]
      exact Nat.succ_le_succ g.go
    · rw [if_neg c]
      exact Nat.le_succ_of_le g.go
theorem mem_set_or {α : Type} {l : List α} {i : Nat} {a x : α} (h : x ∈ l.set i a) : x ∈ l ∨ x = a := by
  rcases List.mem_or_eq_of_mem_set h with h | h
  · exact .inl h
  · exact .inr h
theorem getD_mem {l : List Int} {i : Nat} (h : i < l.length) : l.getD i 0 ∈ l := by
  rw [List.getD_eq_getElem?_getD, List.getElem?_eq_getElem h]
  exact List.getElem_mem h
theorem fold_inv {α β : Type} (Pv : β → Prop) (f : β → α → β) : ∀ (l : List α) (b : β), Pv b → (∀ b a, a ∈ l → Pv b → Pv (f b a)) → Pv (l.foldl f b)
  | [], b, h, _ => h
  | a :: l, b, h, hs => fold_inv Pv f l (f b a) (hs b a List.mem_cons_self h) fun b' a' m h' => hs b' a' (List.mem_cons_of_mem _ m) h'
theorem Gd.tiRead {S nh nt N : Nat} {n : Net} {ps : List Pr} (g : Gd S nh nt N n) (hp : ps.length = nt) (h : Int) : (n.tiRead ps h).length = nt ∧ ∀ x ∈ n.tiRead ps h, InR S x := by
  refine fold_inv (fun ti => ti.length = nt ∧ ∀ x ∈ ti, InR S x) _ _ _ ⟨g.ti, g.tiR⟩ fun ti t ht ih => ?_
  have hlt : t < ps.length := by
    have z := (List.mem_filter.mp ht).1
    simpa using z
  unfold tiStep
  by_cases c : noCopy n.co (otherEnd (ps.getD t (0, 0)) h) = true
  · rw [if_pos c]
    exact ih
  · rw [if_neg c]
    refine ⟨by rw [List.length_set]; exact ih.1, fun x hx => ?_⟩
    rcases mem_set_or hx with hx | hx
    · exact ih.2 x hx
    · rw [hx]
      exact g.arR _ (getD_mem (by rw [g.ar, ← hp]; exact hlt))
theorem Gd.read1 {S nh nt N : Nat} {n : Net} {ps : List Pr} {h : Int} (g : Gd S nh nt N n) (hp : ps.length = nt) (h0 : 0 ≤ h) (h1 : h < (nh : Int)) : Gd S nh nt N (n.read1 ps h) := by
  obtain ⟨a, b⟩ := g.tiRead hp h
  refine ⟨g.st, g.ar, ?_, a, g.stR, g.arR, fun x hx => ?_, b, g.sp, g.go, g.bk⟩
  · show (n.co.set h.toNat (some (n.st.getD h.toNat 0))).length = nh
    rw [List.length_set]
    exact g.co
  · have z : some x ∈ n.co.set h.toNat (some (n.st.getD h.toNat 0)) := hx
    rcases mem_set_or z with z | z
    · exact g.coR x z
    · rw [Option.some.inj z]
      exact g.stR _ (getD_mem (by rw [g.st]; omega))
theorem Gd.whole {S nh nt N : Nat} {n : Net} (g : Gd S nh nt N n) (h : n.co.all Option.isSome = true) : Gd S nh nt N n.whole := by
  have z : Gd S nh nt N { n with bk := some (valsOf n.co, n.ti, n.go) } := by
    refine ⟨g.st, g.ar, g.co, g.ti, g.stR, g.arR, g.coR, g.tiR, g.sp, g.go, fun c t x e => ?_⟩
    injection e with e
    injection e with e1 e
    injection e with e2 e3
    subst e1 e2 e3
    refine ⟨by unfold valsOf; rw [List.length_map]; exact g.co, g.ti, fun x hx => ?_, g.tiR, g.go⟩
    obtain ⟨o, ho, rfl⟩ := List.mem_map.mp hx
    have hs := List.all_eq_true.mp h o ho
    cases o with
    | none => cases hs
    | some y => exact g.coR y ho
  exact z.ended
theorem Gd.read {S nh nt N : Nat} {n : Net} {ps : List Pr} {h : Int} (g : Gd S nh nt N n) (hp : ps.length = nt) (h0 : 0 ≤ h) (h1 : h < (nh : Int)) : Gd S nh nt N (n.read ps h) := by
  have g1 := g.read1 hp h0 h1
  unfold Net.read
  by_cases c : (n.read1 ps h).co.all Option.isSome = true
  · rw [if_pos c]
    exact g1.whole c
  · rw [if_neg c]
    exact g1
theorem nextSt_in {tb : List (List Int)} {S : Nat} {d x : Int} (T : Tb tb S) (h0 : 0 ≤ d) (h1 : d < (tb.length : Int)) (hx : InR S x) : ∃ r, tb[d.toNat]? = some r ∧ r ∈ tb ∧ r[x.toNat]? = some (nextSt tb d x) ∧ InR S (nextSt tb d x) := by
  have hi : d.toNat < tb.length := by omega
  have hm : tb[d.toNat] ∈ tb := List.getElem_mem hi
  obtain ⟨a, b⟩ := getD_in (T.len _ hm) hx.1 hx.2
  have e : nextSt tb d x = tb[d.toNat].getD x.toNat 0 := by
    unfold nextSt
    rw [List.getD_eq_getElem?_getD (l := tb), List.getElem?_eq_getElem hi]
    rfl
  rw [e]
  exact ⟨tb[d.toNat], List.getElem?_eq_getElem hi, hm, a, T.lo _ hm _ b, T.hi _ hm _ b⟩
theorem Gd.doo {S nh nt N : Nat} {n : Net} {tb : List (List Int)} {h d : Int} (g : Gd S nh nt N n) (T : Tb tb S) (h0 : 0 ≤ h) (h1 : h < (nh : Int)) (d0 : 0 ≤ d) (d1 : d < (tb.length : Int)) : Gd S nh nt (N + 1) (n.doo tb h d) := by
  have z : Gd S nh nt N { n with st := n.st.set h.toNat (nextSt tb d (n.st.getD h.toNat 0)) } := by
    refine ⟨by show (n.st.set _ _).length = nh; rw [List.length_set]; exact g.st, g.ar, g.co, g.ti, fun x hx => ?_, g.arR, g.coR, g.tiR, g.sp, g.go, g.bk⟩
    rcases mem_set_or (show x ∈ n.st.set h.toNat (nextSt tb d (n.st.getD h.toNat 0)) from hx) with k | k
    · exact g.stR x k
    · obtain ⟨r, _, _, _, q⟩ := nextSt_in T d0 d1 (g.stR _ (getD_mem (i := h.toNat) (by rw [g.st]; omega)))
      rw [k]
      exact q
  exact z.counted _ _
theorem Gd.met0 {S nh nt N : Nat} {n : Net} {ps : List Pr} {p : Pr} (g : Gd S nh nt N n) (hp : ps.length = nt) (a0 : 0 ≤ p.1) (a1 : p.1 < (nh : Int)) (b0 : 0 ≤ p.2) (b1 : p.2 < (nh : Int)) : Gd S nh nt N (n.met0 ps p) := by
  have mem : ∀ h ∈ n.unread p, h = p.1 ∨ h = p.2 := fun h hh => by
    have z := (List.mem_filter.mp hh).1
    simpa using z
  unfold Net.met0
  match hu : n.unread p, mem with
  | [], _ => exact g
  | [h], mem =>
    rcases mem h (List.mem_singleton.mpr rfl) with e | e
    · rw [e]; exact g.read hp a0 a1
    · rw [e]; exact g.read hp b0 b1
  | _ :: _ :: _, _ => exact g
theorem Gd.met1 {S nh nt N : Nat} {n : Net} {t e : Int} {p : Pr} (g : Gd S nh nt N n) (he : InR S e) : Gd S nh nt (N + 1) (n.met1 t p e) := by
  have z : Gd S nh nt N { n with st := (n.st.set p.1.toNat e).set p.2.toNat e, ar := n.ar.set t.toNat e } := by
    refine ⟨by show ((n.st.set _ _).set _ _).length = nh; rw [List.length_set, List.length_set]; exact g.st, by show (n.ar.set _ _).length = nt; rw [List.length_set]; exact g.ar, g.co, g.ti, fun x hx => ?_, fun x hx => ?_, g.coR, g.tiR, g.sp, g.go, g.bk⟩
    · rcases mem_set_or (show x ∈ (n.st.set p.1.toNat e).set p.2.toNat e from hx) with k | k
      · rcases mem_set_or k with k | k
        · exact g.stR x k
        · rw [k]; exact he
      · rw [k]; exact he
    · rcases mem_set_or (show x ∈ n.ar.set t.toNat e from hx) with k | k
      · exact g.arR x k
      · rw [k]; exact he
  exact z.counted _ _
theorem Gd.met {S nh nt N : Nat} {n : Net} {ps : List Pr} {t e : Int} {p : Pr} (g : Gd S nh nt N n) (hp : ps.length = nt) (a0 : 0 ≤ p.1) (a1 : p.1 < (nh : Int)) (b0 : 0 ≤ p.2) (b1 : p.2 < (nh : Int)) (he : InR S e) : Gd S nh nt (N + 1) (n.met ps t p e) :=
  (g.met0 hp a0 a1 b0 b1).met1 he
theorem Gd.back {S nh nt N : Nat} {n : Net} {c t : List Int} {x : List Stp} (g : Gd S nh nt N n) (h : n.bk = some (c, t, x)) : Gd S nh nt N (n.back c t x) := by
  obtain ⟨a, b, cr, d, f⟩ := g.bk c t x h
  have z : Gd S nh nt N { n with st := c, ar := t, sp := x } := ⟨a, b, g.co, g.ti, cr, d, g.coR, g.tiR, f, g.go, g.bk⟩
  exact z.ended
end Hl
set_option Elab.async false
set_option maxRecDepth 100000
set_option maxHeartbeats 2000000
namespace Hl
open PySem PySem.Spec PyProof.Rows L2
/-! ### webs.py -/
theorem walk_enumT {K : PySem.W.Frag} {a : Addr} {xs : List V} : Walk (IteT K a) xs.length (fun H => SqT K H a xs) (YPair (fun i => some (.int (i : Nat))) (fun i => xs[i]?)) := by
  refine ⟨fun i _ hi q => ⟨xs, xs[i], q, by simp [hi]⟩, fun _ q => ⟨xs, q, rfl⟩, fun i H v H' _ q y => ?_⟩
  obtain ⟨T, x, h1, h2, h3, h4⟩ := y
  exact ⟨T, .int (i : Nat), x, h1, h2, h3, rfl, h4 xs q⟩
def prV (p : Pr) : List V := [.int p.1, .int p.2]
/-- the ties stand as tuples at ts -/
def TiesL (H : Hp) (ts : List Addr) (ps : List Pr) : Prop := ts.length = ps.length ∧ ∀ (j : Nat) (a : Addr) (p : Pr), ts[j]? = some a → ps[j]? = some p → H a = some (.tup (prV p))
theorem TiesL.same {H H' : Hp} {ts : List Addr} {ps : List Pr} (h : TiesL H ts ps) (s : Same H H') : TiesL H' ts ps := ⟨h.1, fun j a r e1 e2 => s _ _ (h.2 j a r e1 e2)⟩
def webF (t : Addr) (n : Nat) : List (Str × V) := [("ties", .ref t), ("houses", .int n)]
/-- a Web of the ties ps and n houses stands at m -/
structure WebAt (C : Addr) (H : Hp) (m : Addr) (ps : List Pr) (n : Nat) : Prop where
  at_ : ∃ (dx t : Addr) (ts : List Addr), H m = some (.ins C dx (webF t n)) ∧ H t = some (.tup (ts.map V.ref)) ∧ TiesL H ts ps
  ok : Ws ps n
theorem WebAt.same {C : Addr} {H H' : Hp} {m : Addr} {ps : List Pr} {n : Nat} (h : WebAt C H m ps n) (s : Same H H') : WebAt C H' m ps n := by
  obtain ⟨⟨dx, t, bs, h1, h2, h3⟩, h4⟩ := h
  exact ⟨⟨dx, t, bs, s _ _ h1, s _ _ h2, h3.same s⟩, h4⟩
def spIsPair : Sp := fun vs H Q _ => ∃ (t : Addr) (p : Pr) (n : Nat), vs = [.ref t, .int n] ∧ H t = some (.tup (prV p)) ∧ 0 ≤ p.1 ∧ p.1 < (n : Int) ∧ 0 ≤ p.2 ∧ p.2 < (n : Int) ∧ p.1 ≠ p.2 ∧ ∀ H', Same H H' → Q (.bl true) H'
def spCheckTies : Sp := fun vs H Q _ => ∃ (l : Addr) (ts : List Addr) (ps : List Pr) (n : Nat), vs = [.int n, .ref l] ∧ H l = some (.lst (ts.map V.ref)) ∧ TiesL H ts ps ∧ Ws ps n ∧
  ∀ (H' : Hp) (t : Addr), Same H H' → H' t = some (.tup (ts.map V.ref)) → Q (.ref t) H'
def spWebI (C : Addr) : Sp := fun vs H Q _ => ∃ (m dx l : Addr) (ts : List Addr) (ps : List Pr) (n : Nat), vs = [.ref m, .int n, .ref l] ∧ H m = some (.ins C dx []) ∧ H l = some (.lst (ts.map V.ref)) ∧ TiesL H ts ps ∧ Ws ps n ∧
  ∀ H', WebAt C H' m ps n → But m H H' → Q .non H'
def spNeedHouse (C Ex : Addr) : Sp := fun vs H Q E => ∃ (m : Addr) (ps : List Pr) (n : Nat) (i : Int), vs = [.ref m, .int i] ∧ WebAt C H m ps n ∧ (0 ≤ i → i < n → Q (.int i) H) ∧
  (¬ (0 ≤ i ∧ i < n) → ∀ d : Addr, H d = none → E (.ref Ex) (some d) (upd H d (.xd [("house", .int i)])))
def spNeedTie (C Ex : Addr) : Sp := fun vs H Q E => ∃ (m : Addr) (ps : List Pr) (n : Nat) (i : Int), vs = [.ref m, .int i] ∧ WebAt C H m ps n ∧ (0 ≤ i → i < ps.length → Q (.int i) H) ∧
  (¬ (0 ≤ i ∧ i < ps.length) → ∀ d : Addr, H d = none → E (.ref Ex) (some d) (upd H d (.xd [("tie", .int i)])))
def spOtherEnd (C : Addr) : Sp := fun vs H Q _ => ∃ (m : Addr) (ps : List Pr) (n : Nat) (i : Nat) (p : Pr) (h : Int), vs = [.ref m, .int i, .int h] ∧ WebAt C H m ps n ∧ ps[i]? = some p ∧ Q (.int (otherEnd p h)) H
def spTiesAt (C : Addr) : Sp := fun vs H Q _ => ∃ (m : Addr) (ps : List Pr) (n : Nat) (h : Int), vs = [.ref m, .int h] ∧ WebAt C H m ps n ∧
  ∀ (H' : Hp) (l : Addr), Same H H' → H' l = some (.lst ((tiesAt ps h).map fun i => .int (i : Nat))) → Q (.ref l) H'
section
variable {P : Program} {w : World} {K : PySem.W.Frag} {mg : Str → Option Value} {base : Heap} {a : Ad} {d : Fd}
theorem ok_IsPair (T : Txt P w K mg a d) : FnOk P w K mg base CX0 4 a.fIsPair d.fIsPair pIsPair spIsPair := by
  have GS : FnOk P w K mg base CX0 1 a.fIsSequence d.fIsSequence pIsSequence (spIsSequence K) := ok_IsSequence T
  have GB : FnOk P w K mg base CX0 3 a.fIsBelow d.fIsBelow pIsBelow spIsBelow := ok_IsBelow T
  refine T.FIsPair.ok scIsPair (fun vs H Q E h => ?_) (fun cdv A outer s H vs Q E hr h => ?_)
  · obtain ⟨t, p, n, rfl, _⟩ := h
    rfl
  · obtain ⟨t, p, n, rfl, ht, hp1, hp2, hp3, hp4, hne, k⟩ := h
    refine ⟨_, pss_cons (ps_if (PW.pt (pw_or (pt_not (pt_val (pe_call GS (hr.mono (by decide)) (by rfl) T.gIsSequence T.FIsSequence.kp T.bIsSequence .nil pass0 (pa_cons (pv 0) pa_nil))))
      (pw_or (pt_cmpR op_ne (pe_callB call_len_seq (by rfl) T.b_len boot_len (pa_cons (pv 0) pa_nil)) pe_int (nomark _))
      (pw_or1 (pt_not (pt_val (pe_callB (cr_all rfl) (by rfl) T.b_all boot_all (pa_cons (pe_lc (own := [("house", 2)]) (g := gName 2) (tt := tYes) rfl scIsPair.nd (pi_tup (pv 0)) (blkOk_by (own := [("house", 2)]) (N := nIsPair) (sc := defScope sIsPair) (by decide +kernel))
        (fun _ _ _ _ _ => pg_name (i := 2) scIsPair.nd rfl (Or.inl rfl)) (fun _ _ _ _ _ => pts_nil)
        (fun _ _ _ _ _ => pe_call GB hr (by rfl) T.gIsBelow T.FIsBelow.kp T.bIsBelow .nil pass0 (pa_cons (pv 2) (pa_cons (pv 1) pa_nil)))) pa_nil)))))))) pss_never pss_nil)
      (pss_one (ps_ret (pe_cmpR op_ne (pe_ix ix_tup (pv 0) pe_int (fun _ _ => rfl)) (pe_ix ix_tup (pv 0) pe_int (fun _ _ => rfl)) (nomark _)))), ?_⟩
    refine ⟨_, rfl, _, _, rfl, .tup ht, fun H1 s1 => ⟨true, rfl, ?_⟩⟩
    have ht1 := s1 _ _ ht
    refine iteF ⟨_, rfl, t, _, rfl, .inr (SqT.of ht1), rfl, _, rfl, ?_⟩
    refine iteF ⟨_, rfl, t, rfl, ⟨_, SqT.of ht1⟩, fun D hD => ?_⟩
    refine lc_fil (walk_tup (xs := prV p)) (fun _ => true) (fun _ => .bl true) hD (by show 2 < sizeLine; decide) (fun H s => .inl (.inl (s _ _ ht1))) (fun i x H2 H3 kk k0 hi s2 y hy _ => ?_) (fun H2 s2 e => ?_)
    · obtain ⟨rfl, hx⟩ := y
      obtain ⟨z, rfl, hz1, hz2⟩ : ∃ z : Int, V.int z = x ∧ 0 ≤ z ∧ z < (n : Int) := by
        match i, hx with
        | 0, hx => exact ⟨p.1, Option.some.inj hx, hp1, hp2⟩
        | 1, hx => exact ⟨p.2, Option.some.inj hx, hp3, hp4⟩
        | i + 2, hx => simp [prV] at hx
      refine ⟨rfl, iteT (B := k0 H3) ?_⟩
      refine ⟨_, rfl, _, rfl, z, _, rfl, ?_⟩
      rw [show decide (0 ≤ z ∧ z < (n : Int)) = true by simp [hz1, hz2]]
      exact hy rfl _ (Same.refl _)
    · refine ⟨D, List.replicate 2 true, rfl, ?_, true, rfl, ?_⟩
      · rw [kept_all, map_true] at e
        exact SqL.of e
      · have ht2 := s2 _ _ ht1
        refine iteF ⟨_, rfl, t, _, _, _, rfl, rfl, SqT.of ht2, at_of (j := 0) (v := V.int p.1) rfl rfl, _, rfl, t, _, _, _, rfl, rfl, SqT.of ht2, at_of (j := 1) (v := V.int p.2) rfl rfl, rfl, ?_⟩
        have e : (!decide (V.int p.1 = V.int p.2)) = true := by
          have : ¬ V.int p.1 = V.int p.2 := fun z => hne (by injection z)
          simp [this]
        rw [e]
        exact k _ (s1.trans s2)
theorem ok_CheckTies (T : Txt P w K mg a d) : FnOk P w K mg base CX0 5 a.fCheckTies d.fCheckTies pCheckTies spCheckTies := by
  have GW : FnOk P w K mg base CX0 2 a.fIsWithin d.fIsWithin pIsWithin spIsWithin := ok_IsWithin T
  have GS : FnOk P w K mg base CX0 1 a.fIsSequence d.fIsSequence pIsSequence (spIsSequence K) := ok_IsSequence T
  have GP : FnOk P w K mg base CX0 4 a.fIsPair d.fIsPair pIsPair spIsPair := ok_IsPair T
  obtain ⟨t1, g1⟩ := T.gMOST_HOUSES
  obtain ⟨t2, g2⟩ := T.gMOST_TIES
  refine T.FCheckTies.ok scCheckTies (fun vs H Q E h => ?_) (fun cdv A outer s H vs Q E hr h => ?_)
  · obtain ⟨l, ts, ps, n, rfl, _⟩ := h
    rfl
  · obtain ⟨l, ts, ps, n, rfl, hl, hR, hW, k⟩ := h
    refine ⟨_, pss_cons (ps_if (PW.pt (pw_or (pt_not (pt_val (pe_call GW (hr.mono (by decide)) (by rfl) T.gIsWithin T.FIsWithin.kp T.bIsWithin .nil pass0 (pa_cons (pv 0) (pa_cons pe_int (pa_cons (pe_glob (v := .int 12) rfl g1 ⟨_, rfl⟩) pa_nil))))))
        (pw_or (pt_not (pt_val (pe_call GS (hr.mono (by decide)) (by rfl) T.gIsSequence T.FIsSequence.kp T.bIsSequence .nil pass0 (pa_cons (pv 1) pa_nil))))
        (pw_or1 (pt_cmpR op_gt (pe_callB call_len_seq (by rfl) T.b_len boot_len (pa_cons (pv 1) pa_nil)) (pe_glob (v := .int 20) rfl g2 ⟨_, rfl⟩) (nomark _)))))) pss_never pss_nil)
      (pss_cons (ps_for PassesOwn.never rfl (pi_enum (by rfl) T.b_enumerate (pa_cons (pv 1) pa_nil)) (pg_tup rfl (pgs_cons (pg_name (i := 2) scCheckTies.nd rfl (.inl rfl)) (pgs_cons (pg_name (i := 3) scCheckTies.nd rfl (.inl rfl)) pgs_nil)))
        (pss_one (ps_if (pt_not (pt_val (pe_call GP hr (by rfl) T.gIsPair T.FIsPair.kp T.bIsPair .nil pass0 (pa_cons (pv 3) (pa_cons (pv 0) pa_nil))))) pss_never pss_nil)))
      (pss_one (ps_ret (pe_callTy call_tuple_of (by rfl) T.b_tuple boot_tuple (pa_cons (pe_lc (own := [("tie", 3)]) (g := gName 3) (tt := tYes) rfl scCheckTies.nd (pi_list (pv 1)) (blkOk_by (own := [("tie", 3)]) (N := nCheckTies) (sc := defScope sCheckTies) (by decide +kernel))
        (fun _ _ _ _ _ => pg_name (i := 3) scCheckTies.nd rfl (Or.inl rfl)) (fun _ _ _ _ _ => pts_nil)
        (fun _ _ _ _ _ => pe_callTy (call_tupOf K rfl) (by rfl) T.b_tuple boot_tuple (pa_cons (pv 3) pa_nil))) pa_nil))))), ?_⟩
    have hlen : ts.length = ps.length := hR.1
    have h5 := hW.len
    refine ⟨_, rfl, n, 1, 12, rfl, _, rfl, ?_⟩
    refine iteNS ⟨by have := hW.n1; omega, by have := hW.n4; omega⟩ ?_
    refine ⟨_, rfl, _, _, rfl, .lst hl, fun H1 s1 => ⟨true, rfl, ?_⟩⟩
    refine iteF ⟨_, rfl, l, _, rfl, .inl (SqL.of (s1 _ _ hl)), ?_⟩
    refine ⟨_, _, rfl, rfl, _, rfl, ?_⟩
    refine itdF (by rw [List.length_map]; omega) ?_
    refine ⟨_, rfl, l, _, rfl, SqL.of (s1 _ _ hl), ?_⟩
    refine for_it (walk_enum (xs := ts.map V.ref)) (fun i σ H' => ∃ x y, σ = [some (.int n), some (.ref l), x, y] ∧ Same H1 H') ⟨none, none, rfl, Same.refl _⟩ (fun i σ H' _ h => by obtain ⟨_, _, _, s3⟩ := h; exact s3.seq (SqL.of (s1 _ _ hl))) ?_ ?_
    · rintro i x σ H3 H4 hi ⟨c1, c2, rfl, s3⟩ ⟨T, y1, y2, rfl, hTn, rfl, e1, e2⟩
      obtain rfl : V.int ((i : Nat) : Int) = y1 := Option.some.inj e1
      obtain ⟨q, hq, rfl⟩ := map_at e2
      obtain ⟨r, hr'⟩ : ∃ r, ps[i]? = some r := there (by rw [List.length_map] at hi; omega)
      have s4 : Same H (upd H3 T (.tup [.int (i : Nat), .ref q])) := same_put (s1.trans s3) ((s1.trans s3).free hTn)
      have hrow := s4 _ _ (hR.2 i q r hq hr')
      have hm := List.mem_of_getElem? hr'
      refine ⟨T, _, rfl, SqT.of upd_same, rfl, _, _, rfl, _, _, rfl, rfl, ?_⟩
      refine ⟨_, rfl, _, rfl, q, r, n, rfl, hrow, hW.a0 r hm, hW.a1 r hm, hW.b0 r hm, hW.b1 r hm, hW.ne r hm, fun H5 s5 => ⟨true, rfl, ?_⟩⟩
      exact iteF ⟨_, _, rfl, (same_put s3 (s3.free hTn)).trans s5⟩
    · rintro σ H3 ⟨c1, c2, rfl, s3⟩
      have s03 := s1.trans s3
      refine ⟨_, rfl, l, rfl, ⟨_, SqL.of (s03 _ _ hl)⟩, fun D hD => ?_⟩
      refine lc_fil (walk_list (xs := ts.map V.ref)) (fun _ => true) (fun i => ((ts.map V.ref)[i]?).getD .non) hD (by rw [List.length_map, hlen]; exact small8 h5) (fun H s => s.seq (SqL.of (s03 _ _ hl))) (fun i x H2 H3 kk k0 hi s2 y hy _ => ?_) (fun H2 s2 e => ?_)
      · obtain ⟨rfl, hx⟩ := y
        have hy' := hy rfl _ (Same.refl _)
        rw [hx] at hy'
        obtain ⟨q, hq, rfl⟩ := map_at hx
        obtain ⟨r, hr'⟩ : ∃ r, ps[i]? = some r := there (by rw [List.length_map] at hi; omega)
        have hrow := (s03.trans s2) _ _ (hR.2 i q r hq hr')
        refine ⟨rfl, iteT (B := k0 H3) ?_⟩
        exact ⟨_, rfl, q, _, rfl, .inr ⟨SqT.of hrow, hy'⟩⟩
      · rw [kept_all, range_getD] at e
        refine ⟨D, _, rfl, .inl ⟨SqL.of e, fun t ht => ?_⟩⟩
        exact k _ t (same_put (s03.trans s2) ((s03.trans s2).free ht)) upd_same
theorem ok_WebI (T : Txt P w K mg a d) : FnOk P w K mg base CX0 6 a.fWebI d.fWebI pWebI (spWebI a.cWeb) := by
  have G : FnOk P w K mg base CX0 5 a.fCheckTies d.fCheckTies pCheckTies spCheckTies := ok_CheckTies T
  refine T.FWebI.ok scWebI (fun vs H Q E h => ?_) (fun cdv A outer s H vs Q E hr h => ?_)
  · obtain ⟨m, dx, l, ts, ps, n, rfl, _⟩ := h
    rfl
  · obtain ⟨m, dx, l, ts, ps, n, rfl, hm, hl, hR, hW, k⟩ := h
    refine ⟨_, pss_cons (ps_fld (pv 0) (pe_call G hr (by rfl) T.gCheckTies T.FCheckTies.kp T.bCheckTies .nil pass0 (pa_cons (pv 1) (pa_cons (pv 2) pa_nil))) rfl)
      (pss_one (ps_fld (pv 0) (pv 1) rfl)), ?_⟩
    refine ⟨_, rfl, _, rfl, l, ts, ps, n, rfl, hl, hR, hW, fun H1 t s1 ht => ?_⟩
    have hm1 := s1 _ _ hm
    have nmt : t ≠ m := ne_of ht hm1 (by intro z; cases z)
    refine ⟨_, rfl, m, _, dx, _, rfl, hm1, T.clWeb, T.nWeb_ties, (by show 0 < 1000; decide), ?_⟩
    refine ⟨_, rfl, _, rfl, m, _, dx, _, rfl, upd_same, T.clWeb, T.nWeb_houses, (by show 1 < 1000; decide), ?_⟩
    refine k _ ⟨⟨dx, t, ts, ?_, ?_, hR.1, fun j b p e1 e2 => ?_⟩, hW⟩ (((But.of s1).put).put)
    · rw [upd_same]
      rfl
    · rw [upd_ne nmt, upd_ne nmt]
      exact ht
    · have z := s1 _ _ (hR.2 j b p e1 e2)
      have n : b ≠ m := ne_of z hm1 (by intro z; cases z)
      rw [upd_ne n, upd_ne n]
      exact z
theorem ok_NeedHouse (T : Txt P w K mg a d) : FnOk P w K mg base (L2.CX P w) 4 a.fNeedHouse d.fNeedHouse pNeedHouse (spNeedHouse a.cWeb a.xNoHouse) := by
  have G : FnOk P w K mg base CX0 3 a.fIsBelow d.fIsBelow pIsBelow spIsBelow := ok_IsBelow T
  refine T.FNeedHouse.okX scNeedHouse (fun vs H Q E h => ?_) (fun cdv A outer s H vs Q E hr h => ?_)
  · obtain ⟨m, ps, n, i, rfl, _⟩ := h
    rfl
  · obtain ⟨m, ps, n, i, rfl, hM, kY, kN⟩ := h
    obtain ⟨⟨dx, t, bs, hm, ht, hR⟩, hT⟩ := id hM
    refine ⟨_, pss_cons (ps_if (pt_not (pt_val (pe_call G hr (by rfl) T.gIsBelow T.FIsBelow.kp T.bIsBelow .nil pass0 (pa_cons (pv 1) (pa_cons (pe_fld (pv 0) rfl) pa_nil)))))
      (pss_one (raise_NoHouse (W := fun cls d _ H => E cls d H) T rfl hr (takes_of rfl rfl rfl rfl) (pa_cons (pv 1) pa_nil))) pss_nil)
      (pss_one (ps_ret (pv 1))), ?_⟩
    refine ⟨_, rfl, _, rfl, m, _, dx, _, _, rfl, hm, T.clWeb, T.nWeb_houses, rfl, i, n, rfl, _, rfl, ?_⟩
    by_cases c : 0 ≤ i ∧ i < (n : Int)
    · refine iteNS c ⟨_, rfl, kY c.1 c.2⟩
    · exact itdN c ⟨_, rfl, rfl, fun d hd => kN c d hd⟩
theorem ok_NeedTie (T : Txt P w K mg a d) : FnOk P w K mg base (L2.CX P w) 4 a.fNeedTie d.fNeedTie pNeedTie (spNeedTie a.cWeb a.xNoTie) := by
  have G : FnOk P w K mg base CX0 3 a.fIsBelow d.fIsBelow pIsBelow spIsBelow := ok_IsBelow T
  refine T.FNeedTie.okX scNeedTie (fun vs H Q E h => ?_) (fun cdv A outer s H vs Q E hr h => ?_)
  · obtain ⟨m, ps, n, i, rfl, _⟩ := h
    rfl
  · obtain ⟨m, ps, n, i, rfl, hM, kY, kN⟩ := h
    obtain ⟨⟨dx, t, bs, hm, ht, hR⟩, hT⟩ := id hM
    refine ⟨_, pss_cons (ps_if (pt_not (pt_val (pe_call G hr (by rfl) T.gIsBelow T.FIsBelow.kp T.bIsBelow .nil pass0 (pa_cons (pv 1) (pa_cons (pe_callB call_len_seq (by rfl) T.b_len boot_len (pa_cons (pe_fld (pv 0) rfl) pa_nil)) pa_nil)))))
      (pss_one (raise_NoTie (W := fun cls d _ H => E cls d H) T rfl hr (takes_of rfl rfl rfl rfl) (pa_cons (pv 1) pa_nil))) pss_nil)
      (pss_one (ps_ret (pv 1))), ?_⟩
    refine ⟨_, rfl, _, rfl, m, _, dx, _, _, rfl, hm, T.clWeb, T.nWeb_ties, rfl, t, _, rfl, .inr (SqT.of ht), ?_⟩
    rw [List.length_map, hR.1]
    refine ⟨i, ps.length, rfl, _, rfl, ?_⟩
    by_cases c : 0 ≤ i ∧ i < (ps.length : Int)
    · refine iteNS c ⟨_, rfl, kY c.1 c.2⟩
    · exact itdN c ⟨_, rfl, rfl, fun d hd => kN c d hd⟩
theorem ok_OtherEnd (T : Txt P w K mg a d) : FnOk P w K mg base CX0 1 a.fOtherEnd d.fOtherEnd pOtherEnd (spOtherEnd a.cWeb) := by
  refine T.FOtherEnd.ok scOtherEnd (fun vs H Q E h => ?_) (fun cdv A outer s H vs Q E hr h => ?_)
  · obtain ⟨m, ps, n, i, p, h, rfl, _⟩ := h
    rfl
  · obtain ⟨m, ps, n, i, p, h, rfl, hM, hp, k⟩ := h
    obtain ⟨⟨dx, t, ts, hm, ht, hR⟩, hT⟩ := id hM
    refine ⟨_, pss_cons (ps_asg (pe_ix ix_tup (pe_fld (pv 0) rfl) (pv 1) (fun _ _ => rfl)) (pg_tup rfl (pgs_cons (pg_name (i := 3) scOtherEnd.nd rfl (.inl rfl)) (pgs_cons (pg_name (i := 4) scOtherEnd.nd rfl (.inl rfl)) pgs_nil))))
      (pss_one (ps_ret (pe_ifExp (pt_cmpR op_eq (pv 3) (pv 2) (nomark _)) (pv 4) (pv 3)))), ?_⟩
    obtain ⟨q, hq⟩ := there (l := ts) (i := i) (by rw [hR.1]; exact (List.getElem?_eq_some_iff.mp hp).1)
    refine ⟨_, rfl, m, _, dx, _, _, rfl, hm, T.clWeb, T.nWeb_ties, rfl, _, rfl, t, _, _, _, rfl, rfl, SqT.of ht, at_of (j := i) rfl (at_map hq), ?_⟩
    refine ⟨q, _, rfl, SqT.of (hR.2 i q p hq hp), rfl, _, _, rfl, _, _, rfl, rfl, ?_⟩
    refine ⟨_, rfl, _, rfl, rfl, _, rfl, ?_⟩
    by_cases c : p.1 = h
    · refine itdT (by rw [c]) ⟨_, rfl, ?_⟩
      rw [show otherEnd p h = p.2 from if_pos c] at k
      exact k
    · refine itdF (fun z => c (by injection z)) ⟨_, rfl, ?_⟩
      rw [show otherEnd p h = p.1 from if_neg c] at k
      exact k
theorem ok_TiesAt (T : Txt P w K mg a d) : FnOk P w K mg base CX0 1 a.fTiesAt d.fTiesAt pTiesAt (spTiesAt a.cWeb) := by
  refine T.FTiesAt.ok scTiesAt (fun vs H Q E h => ?_) (fun cdv A outer s H vs Q E hr h => ?_)
  · obtain ⟨m, ps, n, h, rfl, _⟩ := h
    rfl
  · obtain ⟨m, ps, n, h, rfl, hM, k⟩ := h
    obtain ⟨⟨dx, t, ts, hm, ht, hR⟩, hW⟩ := id hM
    refine ⟨_, pss_one (ps_ret (pe_lc (own := [("tie", 2), ("pair", 3)]) (g := gTup K 2 (gCons (gName 2) (gCons (gName 3) gNil))) (tt := tTest (tOp (rIn K false) (tVar 1) (tVar 3))) rfl scTiesAt.nd (pi_enumT (by rfl) T.b_enumerate (pa_cons (pe_fld (pv 0) rfl) pa_nil)) (blkOk_by (own := [("tie", 2), ("pair", 3)]) (N := nTiesAt) (sc := defScope sTiesAt) (by decide +kernel))
      (fun _ _ _ _ _ => pg_tup rfl (pgs_cons (pg_name (i := 2) scTiesAt.nd rfl (.inl rfl)) (pgs_cons (pg_name (i := 3) scTiesAt.nd rfl (.inl rfl)) pgs_nil)))
      (fun _ _ _ _ _ => pts_one (pt_cmpR op_in_seq (pv 1) (pv 3) rfl)) (fun _ _ _ _ _ => pv 2))), ?_⟩
    have hlen : ts.length = ps.length := hR.1
    have h5 := hW.len
    refine ⟨_, rfl, m, _, dx, _, _, rfl, hm, T.clWeb, T.nWeb_ties, rfl, t, _, rfl, SqT.of ht, fun D hD => ?_⟩
    refine lc_fil (walk_enumT (xs := ts.map V.ref)) (endOf ps h) (fun i => .int (i : Nat)) hD (by rw [List.length_map, hlen]; exact small8 h5) (fun H s => .inl (.inl (s _ _ ht))) (fun i x H2 H3 kk k0 hi s2 y hy hn => ?_) (fun H2 s2 e => ?_)
    · obtain ⟨T, y1, y2, rfl, hTn, rfl, e1, e2⟩ := y
      obtain rfl : V.int ((i : Nat) : Int) = y1 := Option.some.inj e1
      obtain ⟨q, hq, rfl⟩ := map_at e2
      obtain ⟨p, hp⟩ : ∃ r, ps[i]? = some r := there (by rw [List.length_map] at hi; omega)
      have s3 : Same H2 (upd H2 T (.tup [.int (i : Nat), .ref q])) := same_new hTn
      have hrow := s3 _ _ (s2 _ _ (hR.2 i q p hq hp))
      refine ⟨T, _, rfl, SqT.of upd_same, rfl, _, _, rfl, _, _, rfl, rfl, rfl, ?_⟩
      refine ⟨_, rfl, _, rfl, q, _, rfl, .inr (SqT.of hrow), rfl, rfl, _, rfl, ?_⟩
      have he : inV (V.int h) (prV p) = endOf ps h i := by
        unfold endOf
        rw [hp]
        simp [inV, prV, eqV]
      cases c : endOf ps h i with
      | true =>
        rw [c] at he
        rw [show (if false = true then !inV (V.int h) (prV p) else inV (V.int h) (prV p)) = true by rw [he]; rfl]
        exact iteT ⟨_, rfl, hy c _ s3⟩
      | false =>
        rw [c] at he
        rw [show (if false = true then !inV (V.int h) (prV p) else inV (V.int h) (prV p)) = false by rw [he]; rfl]
        exact iteF (hn c _ s3)
    · refine k _ D s2 ?_
      rw [e, List.length_map, hlen]
      rfl
end
end Hl
set_option Elab.async false
set_option maxRecDepth 100000
set_option maxHeartbeats 4000000
namespace Hl
open PySem PySem.Spec PyProof.Rows L2
/-! ### {(a, b): v} -/
def tDispT (tk tv : TE) : TE := fun σ H Q => ∀ p, H p = none → tk σ (upd H p (.dT [])) fun x H1 => tv σ H1 fun y H2 => ∃ (b : Addr) (k : List Key), x = .ref b ∧ H2 b = some (.tup (k.map kV)) ∧ H2 p = some (.dT []) ∧ Q (.ref p) (upd H2 p (.dT [(k, y)]))
theorem pe_dispT {X : Cx} {k v : Expr} {tk tv : TE} {pos : Pos} (hu : X.A.units + 1 < cLine) (hk : PE X k tk) (hv : PE X v tv) : PE X (.Dict [some k] [v] pos) (tDispT tk tv) := by
  refine ⟨fun pins s σ H Q I q => ?_⟩
  have hn := I.hok.fresh (Nat.le_refl s.heap.objs.size)
  have I1 := I.laid (a := s.heap.objs.size) (o := .dT []) (h' := s.heap.push { cls := .type "dict", data := .dict #[] }) (t' := s.toks) (fun _ _ q => Heap.get?_push_of_some _ q) (Nat.le_refl _) (dt_empty s.heap I.big)
  rw [arm_eval_Dict, zip_pairTrees [some k] [v] X.env pos rfl rfl, dictDisplay_pairs (pairTrees [some k] [v] X.env pos) (by intro z; cases z) (by show 1 < 17; decide)]
  refine wpAny_bind (wpAny_standAt (wpAny_bind (wpAny_subDictH (knd := tupleKind (mixKind X.prog X.w)) (show X.A.units < cLine by omega) (by show 1 ≤ 15; decide) ?_)))
  refine pairTrees_cons_walk (thn (hk.run pins _ σ _ _ I1 (q _ hn)) fun u s1 ⟨x, H1, I2, rx, q1⟩ => thn (hv.run pins s1 σ H1 _ I2 q1) fun w2 s2 ⟨y, H2, I3, ry, q2⟩ => pairTrees_nil_walk ?_)
  obtain ⟨b, ky, ex, hb, hp, q3⟩ := q2
  subst ex
  obtain rfl : u = Value.ref b := rx
  obtain ⟨z, hd, xs, rel, dd⟩ := dt_of I3.hok hp
  cases rel
  refine ⟨[(ky, b, w2)], ⟨rfl, rfl, key_of I3.hok hb, True.intro⟩, dd, fun h' tk dd' hs => wpAny_pure ⟨.ref s.heap.objs.size, _, ?_, rfl, q3⟩⟩
  obtain ⟨o, es, ep, hq, h2, h3, h4, h5, h6⟩ := dd'
  refine d_write I3 (by rw [hp]; exact True.intro) hs ⟨o, hq⟩ ⟨by show 1 ≤ sizeLine; decide, hd, _, ?_, o, es, ep, hq, h2, h3, h4, h6⟩
  rw [storedAllH_nil_of_nodup _ (by simp)]
  refine .cons ⟨rfl, ?_, ry⟩ .nil
  rw [upd_ne (ne_of hb hp (fun z => nomatch z))]
  exact hb
end Hl
set_option Elab.async false
set_option maxRecDepth 100000
set_option maxHeartbeats 4000000
namespace Hl
open PySem PySem.Spec PyProof.Rows L2
/-! ### for k, v in d.items(), d a dict whose keys are tuples -/
section
variable {P : Program} {w : World} {K : PySem.W.Frag} {d : Addr} {o : Obj} {es : Array DictEntry} {ep : Nat}
theorem frz_tup {X : Cx} {pins : List (Addr × Obj)} {σ : L2.St} {H : Hp} {s : Shared} {kvs : List (List Key × V)} (I : Inv X pins σ H s) (h : H d = some (.frz o (.dT kvs))) :
    (d == sysModules) = false ∧ s.heap.get? d = some o ∧ o.ExactDict ∧ ∃ (es : Array DictEntry) (ep : Nat), o.data = .dict es ep ∧ es.size = kvs.length ∧
      ∀ (i : Nat) (k : List Key) (v : V), kvs[i]? = some (k, v) → ∃ (en : DictEntry) (q : Addr), es[i]? = some en ∧ en.key = .ref q ∧ H q = some (.tup (k.map kV)) ∧ RelV v en.val := by
  obtain ⟨hd, z, hs, xs, pr, o', es, ep, ho, hx, hdt, he, _⟩ := I.hok d _ h
  rw [hd] at ho
  cases ho
  have l1 : es.size = xs.length := size_of_entries he
  have l2 : kvs.length = xs.length := Paired.length pr
  refine ⟨hs, hd, hx, es, ep, hdt, by omega, fun i k v e => ?_⟩
  obtain ⟨b, hb, e1, e2, e3⟩ := paired_get pr e
  have q := entry_at he i
  rw [hb] at q
  exact ⟨_, b.2.1, q, rfl, e2, e3⟩
def ItiT (d : Addr) (o : Obj) (kvs : List (List Key × V)) : It :=
  ⟨fun i H => H d = some (.frz o (.dT kvs)) ∧ i < kvs.length, fun i H x H' => ∃ (T : Addr) (k : List Key) (v : V) (q : Addr), kvs[i]? = some (k, v) ∧ x = .ref T ∧ H q = some (.tup (k.map kV)) ∧ H T = none ∧ H' = upd H T (.tup [.ref q, v]),
    fun i H => H d = some (.frz o (.dT kvs)) ∧ kvs.length ≤ i⟩
theorem turn_itemsT {kvs : List (List Key × V)} {elts : List Expr} {kk : Nat} {tpos : Pos} (it : Addr) (hod : o.data = .dict es ep) :
    Turn P w K (.Tuple elts kk tpos) (ItiT d o kvs) [it] it (fun i h => ∃ ok ov, IsItemIter h it d i kvs.length ep ok ov) where
  mem := by simp
  obj := fun i h st b hb => by
    have e : b = it := by simpa using hb
    subst e
    obtain ⟨ok, ov, e⟩ := st
    exact ⟨_, e, fun v z => nomatch z⟩
  keep := fun i h h' st k => let ⟨ok, ov, e⟩ := st; ⟨ok, ov, k it (by simp) _ e⟩
  item := by
    intro X hP hw hK hc i pins s σ H E I hf st hg
    subst hP hw hK
    obtain ⟨hd, hi⟩ := hg
    obtain ⟨hs, hgd, hx, es', ep', hdt, hsz, ent⟩ := frz_tup I hd
    obtain ⟨rfl, rfl⟩ := dict_ep hod hdt
    obtain ⟨⟨k, v⟩, hkv⟩ : ∃ p, kvs[i]? = some p := ⟨kvs[i], List.getElem?_eq_getElem hi⟩
    obtain ⟨en, q, hen, hkey, hq, rv⟩ := ent i k v hkv
    obtain ⟨ok, ov, he⟩ := st
    rw [← hsz] at he
    have hlt : it < s.heap.objs.size := Heap.lt_size he
    have hie : i < es'.size := by omega
    have een : es'[i] = en := by
      rw [Array.getElem?_eq_getElem hie] at hen
      exact Option.some.inj hen
    refine DT.nextI he ⟨o, hgd, hx, hdt⟩ hie fun h' ho hT hz hk => ?_
    rw [een] at ho hT
    refine ⟨_, rfl, wpAny_letOwnedTupleGo_items (s := { s with heap := h' }) ho fun h'' he' sb => ?_⟩
    have hT2 : h''.get? s.heap.objs.size = some { cls := .type "tuple", data := .seq #[en.key, en.val] } := (sb.2 _ (Nat.ne_of_gt hlt)).trans hT
    have new : ObjOk X.prog X.w (upd H s.heap.objs.size (.tup [.ref q, v])) h'' s.heap.objs.size (.tup [.ref q, v]) :=
      ⟨by show 2 ≤ sizeLine; decide, [en.key, en.val], .cons hkey (.cons rv .nil), ⟨_, hT2, rfl, _, rfl⟩⟩
    have I1 : Inv X pins σ (upd H s.heap.objs.size (.tup [.ref q, v])) { s with heap := h'' } :=
      I.turnedNew (t' := s.toks) (ch := [it]) (fun b ob hb e => (sb.2 b (by simpa using hb)).trans (hk b ob (by simpa using hb) e)) hf (Nat.le_refl _) new
    refine ⟨.ref s.heap.objs.size, _, I1, rfl, ⟨_, k, v, q, hkv, rfl, hq, I.hok.fresh (Nat.le_refl _), rfl⟩, ⟨en.key, en.val, ?_⟩, fun b hb => ?_⟩
    · rw [← hsz]; exact he'
    · have e : b = it := by simpa using hb
      rw [e, upd_ne (Nat.ne_of_lt hlt)]
      exact (hf it (by simp)).1
  done := by
    intro X hP hw hK hc i pins s σ H E I hf st hg
    subst hP hw hK
    obtain ⟨hd, hi⟩ := hg
    obtain ⟨f0, f1, f2, f3, f4, f5⟩ := hf it (by simp)
    obtain ⟨hs, hgd, hx, es', ep', hdt, hsz, ent⟩ := frz_tup I hd
    obtain ⟨rfl, rfl⟩ := dict_ep hod hdt
    obtain ⟨ok, ov, he⟩ := st
    rw [← hsz] at he
    exact DT.endI (I.ok.hd hc) he ⟨o, hgd, hx, hdt⟩ (by omega) fun h' eb => ⟨rfl, I.turned (t' := s.toks) (fun b ob hb e => eb b ob hb e) f0 f1 f3 f4 f5⟩
  self := fun A i s Q E st h => let ⟨_, _, e⟩ := st; PySem.W.kcp_self e h
end
def iItemsT (td : TE) : TI := fun σ H R => td σ H fun x H1 => ∃ d o kvs, x = .ref d ∧ H1 d = some (.frz o (.dT kvs)) ∧ R (ItiT d o kvs) H1
theorem pi_itemsT {X : Cx} {e : Expr} {td : TE} {apos cpos : Pos} {elts : List Expr} {kk : Nat} {tpos : Pos} (he : PE X e td) (hbase : attributeBase e "items" X.env (eval e X.env) = eval e X.env := by rfl) (hline : (apos.endLine == cpos.line) = true := by rfl) :
    PI X (.Tuple elts kk tpos) (.Call (.Attribute e "items" apos) [] [] cpos) (iItemsT td) := by
  refine ⟨fun pins s σ H R I h => ?_⟩
  refine wpAny_Call_method (T := "dict") (id := "dict.items") hbase rfl hline F.plainAttrs_dict F.slot_dict_items F.type_dict_items (thn (he.run pins s σ H _ I h) fun u s1 ⟨x, H1, I1, rx, d, o, kvs, ex, hd, q⟩ => ?_)
  subst ex
  obtain rfl : u = Value.ref d := rx
  obtain ⟨hs, hgd, hx, es, ep, hdt, hsz, ent⟩ := frz_tup I1 hd
  have raw : DT.Raw s1.heap d es ep := ⟨o, hgd, hx, hdt⟩
  refine ⟨raw.typeIs, fun b q => by cases q; exact ⟨o, hgd, hx.2.1⟩, ?_⟩
  have I2 : Inv X pins σ H1 { s1 with heap := s1.heap.push { cls := .type "dict_items", data := .fields #[.ref d] } } := I1.kept (t' := s1.toks) fun b ob q => Heap.get?_push_of_some _ q
  have fin : wpAny (model X.prog X.w) X.A (pyIter (.ref s1.heap.objs.size)) (PIE X pins σ (.Tuple elts kk tpos) R) X.xe { s1 with heap := s1.heap.push { cls := .type "dict_items", data := .fields #[.ref d] } } := by
    refine DT.iterI (d := d) (es := es) (ep := ep) ⟨_, Heap.get?_push_size _ rfl, rfl, rfl⟩ (raw.push _) (pi_one (tk := s1.toks) I2 _ (turn_itemsT _ hdt) ⟨.none, .none, ?_⟩ q)
    rw [← hsz]
    exact Heap.get?_push_size _ rfl
  show wpAny _ _ (callWith cpos (.builtin "dict.items") [.ref d] [] []) _ X.xe s1
  exact method_meetsIn F.slot_dict_items F.entry_dict_items rfl (PySem.evalArgs_none ⟨rfl, raw.typeIs, F.args_dict_items_1 _, _, DT.meetsItems (es := es) (ep := ep) hs, raw, fin⟩)
theorem walk_itemsT {d : Addr} {o : Obj} {kvs : List (List Key × V)} : Walk (ItiT d o kvs) kvs.length (fun H => H d = some (.frz o (.dT kvs)))
    (fun i H x H' => ∃ (T : Addr) (k : List Key) (v : V) (q : Addr), kvs[i]? = some (k, v) ∧ x = .ref T ∧ H q = some (.tup (k.map kV)) ∧ H T = none ∧ H' = upd H T (.tup [.ref q, v])) :=
  ⟨fun _ _ hi q => ⟨q, hi⟩, fun _ q => ⟨q, Nat.le_refl _⟩, fun _ _ _ _ _ _ y => y⟩
end Hl
set_option Elab.async false
set_option maxRecDepth 100000
set_option maxHeartbeats 4000000
namespace Hl
open PySem PySem.Spec PyProof.Rows L2 Srt
/-! ### sorted(xs), xs a list of triples (the row's length, the row, a number) -/
/-- v is such a triple -/
def Tri (h : Heap) (v : Value) (r : List Int) (p : Int) : Prop := ∃ (a q : Addr) (o oq : Obj) (its : Array Value) (t u : Tok) (n nq : Nat), v = .ref a ∧ h.get? a = some o ∧ o.cls = .type "tuple" ∧ o.data = .seq #[.int r.length t, .ref q, .int p u] n ∧
  h.get? q = some oq ∧ oq.cls = .type "tuple" ∧ oq.data = .seq its nq ∧ IntsAre its.toList r
theorem Tri.keeps {h h' : Heap} {v : Value} {r : List Int} {p : Int} (x : Tri h v r p) (k : ∀ b o, h.get? b = some o → o.cls = .type "tuple" → h'.get? b = some o) : Tri h' v r p := by
  obtain ⟨a, q, o, oq, its, t, u, n, nq, e, h1, h2, h3, h4, h5, h6, h7⟩ := x
  exact ⟨a, q, o, oq, its, t, u, n, nq, e, k _ _ h1 h2, h2, h3, k _ _ h4 h5, h5, h6, h7⟩
def triKey (r : List Int) (p : Int) : List Int := (r.length : Int) :: (r ++ [p])
theorem lex_same : ∀ (r r' : List Int) (p p' : Int), r.length = r'.length → HT.lexLt (r ++ [p]) (r' ++ [p']) = if r = r' then decide (p < p') else HT.lexLt r r'
  | [], [], p, p', _ => by
    show (if p = p' then HT.lexLt [] [] else decide (p < p')) = _
    by_cases e : p = p'
    · subst e; simp [HT.lexLt_nil_nil]
    · rw [if_neg e, if_pos rfl]
  | [], _ :: _, _, _, h => by simp at h
  | _ :: _, [], _, _, h => by simp at h
  | x :: r, y :: r', p, p', h => by
    have ih := lex_same r r' p p' (by simpa using h)
    show HT.lexLt (x :: (r ++ [p])) (y :: (r' ++ [p'])) = _
    rw [HT.lexLt_cons, HT.lexLt_cons, ih]
    by_cases e : x = y
    · subst e; simp
    · simp [e]
theorem tri_lt (r r' : List Int) (p p' : Int) : HT.lexLt (triKey r p) (triKey r' p') = if (r.length : Int) = (r'.length : Int) then (if r = r' then decide (p < p') else HT.lexLt r r') else decide ((r.length : Int) < (r'.length : Int)) := by
  unfold triKey
  rw [HT.lexLt_cons]
  by_cases e : (r.length : Int) = (r'.length : Int)
  · rw [if_pos e, if_pos e, lex_same r r' p p' (by omega)]
  · rw [if_neg e, if_neg e]
theorem items_ints {prog : Program} {w : World} : ∀ {its : List Value} {r : List Int}, IntsAre its r → ItemsAre (L2.mixKind prog w) (r.map Sum.inl) its
  | _, _, .nil => .nil
  | _, _, .cons i t h => .cons (L2.mixKind_int prog w i t) (items_ints h)
section
variable {prog : Program} {w : World} {A : Around} {E : Value → Shared → Prop} {s : Shared}
theorem tri_firsts {h : Heap} {k : Value → List Int} {p : Value → Int} : ∀ {vs : List Value}, (∀ v ∈ vs, Tri h v (k v) (p v)) → ∃ fs : List Value, PySem.W.KatTups h vs fs ∧ fs.length = vs.length ∧ ∀ f ∈ fs, ∃ x t, f = Value.int x t
  | [], _ => ⟨[], PySem.W.KatTups.nil, rfl, fun _ hm => by simp at hm⟩
  | v :: vs, hp => by
    obtain ⟨fs, h1, h2, h3⟩ := tri_firsts (vs := vs) fun v' hm => hp v' (List.mem_cons_of_mem _ hm)
    have hv := hp v (List.mem_cons_self ..)
    obtain ⟨a, q, o, oq, its, t, u, n, nq, e, h4, h5, h6, _⟩ := hv
    subst e
    refine ⟨.int (k (.ref a)).length t :: fs, PySem.W.KatTups.cons h4 h5 h6 rfl h1, by rw [List.length_cons, List.length_cons, h2], fun f hm => ?_⟩
    rcases List.mem_cons.mp hm with rfl | hm
    · exact ⟨_, t, rfl⟩
    · exact h3 f hm
theorem tri_cmp {vs : List Value} {k : Value → List Int} {p : Value → Int} (hu : A.units < cLine) (hp : ∀ v ∈ vs, Tri s.heap v (k v) (p v)) : SrtO.Cmp prog w A s (tuples' true) (fun p => p.1 ∈ vs) (SrtO.lt2 fun v u => HT.lexLt (triKey (k v) (p v)) (triKey (k u) (p u))) := by
  intro x y hm hm'
  have h1 := hp _ hm
  have h2 := hp _ hm'
  show wpAny (model prog w) A (keyLt' (tuples' true) x.1 y.1) (fun r s' => s' = s ∧ r = HT.lexLt (triKey (k x.1) (p x.1)) (triKey (k y.1) (p y.1))) (fun _ _ => False) s
  rw [tri_lt]
  generalize k x.1 = r at h1 ⊢
  generalize p x.1 = i at h1 ⊢
  generalize k y.1 = r' at h2 ⊢
  generalize p y.1 = i' at h2 ⊢
  obtain ⟨a, q, o, oq, its, t, u, n, nq, e, ho, hc, hd, hoq, hcq, hdq, hi⟩ := h1
  obtain ⟨a', q', o', oq', its', t', u', n', nq', e', ho', hc', hd', hoq', hcq', hdq', hi'⟩ := h2
  rw [e, e']
  have K1 : IsTupleKey (L2.mixKind prog w) s.heap (r.map Sum.inl) q := ⟨oq, its, nq, hoq, hcq, hdq, items_ints hi⟩
  have K2 : IsTupleKey (L2.mixKind prog w) s.heap (r'.map Sum.inl) q' := ⟨oq', its', nq', hoq', hcq', hdq', items_ints hi'⟩
  have inj : (r.map (Sum.inl : Int → Key) = r'.map Sum.inl) → r = r' := fun z => List.map_inj_right (fun x y e => Sum.inl.inj e) |>.mp z
  refine PySem.W.kat_lt ho hd ho' hd' ?_
  show PySem.W.KatLex prog w A true (decide (3 < 3)) _ [(.int r.length t, .int r'.length t'), (.ref q, .ref q'), (.int i u, .int i' u')] 0 s
  refine PySem.W.kat_cons (SeqAt.EqAt.int_int _ t _ t' prog w _ _ ?_)
  refine PySem.W.kat_go (fun e1 => ?_) (fun e1 => ?_)
  · have ex : (r.length : Int) = (r'.length : Int) := by simpa using e1
    rw [if_pos ex]
    refine PySem.W.kat_yes (PySem.W.kat_cons (wpAny_eqBool_tuple hu K1 K2 ?_))
    refine PySem.W.kat_go (fun e2 => ?_) (fun e2 => ?_)
    · have er : r = r' := inj (of_decide_eq_true e2)
      rw [if_pos er]
      refine PySem.W.kat_yes (PySem.W.kat_cons (SeqAt.EqAt.int_int _ u _ u' prog w _ _ ?_))
      refine PySem.W.kat_go (fun e3 => ?_) (fun e3 => ?_)
      · have ey : i = i' := by simpa using e3
        have e4 : decide (i < i') = false := by rw [ey]; exact decide_eq_false (Int.lt_irrefl _)
        exact PySem.W.kat_yes (PySem.W.kat_nil ⟨rfl, e4.symm⟩)
      · exact PySem.W.kat_no (PySem.W.kat_one _ _ (PyProof.Rows.lt_int ⟨rfl, rfl⟩))
    · have er : ¬ r = r' := fun z => (of_decide_eq_false e2) (by rw [z])
      rw [if_neg er]
      refine PySem.W.kat_no (PySem.W.kat_one _ _ (HT.lt_tupInts ⟨oq, hoq, hcq, _, hdq⟩ ⟨oq', hoq', hcq', _, hdq'⟩ hi hi' hu ⟨rfl, rfl⟩))
  · have ex : ¬ (r.length : Int) = (r'.length : Int) := by simpa using e1
    rw [if_neg ex]
    exact PySem.W.kat_no (oneLt_int ⟨rfl, rfl⟩)
theorem tri_sortable {a : Addr} {vs : List Value} {k : Value → List Int} {p : Value → Int} (hu : A.units < cLine) (h0 : 0 < vs.length) (hp : ∀ v ∈ vs, Tri s.heap v (k v) (p v)) (ha : ∀ o, s.heap.get? a = some o → o.cls ≠ .type "tuple") :
    SrtO.SortableO prog w A s a vs fun v u => HT.lexLt (triKey (k v) (p v)) (triKey (k u) (p u)) := by
  intro h' keep
  have hp' : ∀ v ∈ vs, Tri h' v (k v) (p v) := fun v hm => (hp v hm).keeps fun b o e c => keep b o (fun z => by subst z; exact ha o e c) e
  obtain ⟨fs, h1, h2, h3⟩ := tri_firsts hp'
  refine ⟨tuples' true, fun Q E hq => ?_, tri_cmp hu hp'⟩
  refine PySem.W.kat_kind (T := .type "int") h1 (by omega) (fun f hm => ?_) (by rfl) ?_
  · obtain ⟨x, t, rfl⟩ := h3 f hm
    exact PySem.W.Looks.now
  · have e : (Value.type "int" != Value.type "tuple") = true := by first | decide +kernel | rfl | decide
    rw [e]
    exact hq
theorem sorted_tri {l : Addr} {vs : List Value} {k : Value → List Int} {p : Value → Int} {Q : Value → Shared → Prop} (hu : A.in1.in1.units < cLine) (hl : s.heap.IsList l vs.toArray) (hz : vs.length ≤ sizeLine) (hp : ∀ v ∈ vs, Tri s.heap v (k v) (p v))
    (h : ∀ (h' : Heap) (d : Addr) (out : List Value), out.Perm vs → (∀ b o, s.heap.get? b = some o → h'.get? b = some o) → s.heap.objs.size ≤ d → (∃ n, h'.get? d = some (seqObj "list" out.toArray n)) → Q (.ref d) { s with heap := h' }) :
    wpAny (model prog w) A (call (.builtin "sorted") [.ref l]) Q E s := by
  refine SrtO.sorted_ord (NtL.swo_lexL fun v => triKey (k v) (p v)) hl hz (fun h2 h₁ a ha kk => ?_) fun out hs hb => ?_
  · refine tri_sortable (s := { s with heap := h₁ }) hu (by omega) (fun v hm => (hp v hm).keeps fun b o e _ => (kk b o e).2) fun o e => ?_
    have e' : some o = some (seqObj "list" vs.toArray 0) := e.symm.trans ha
    cases e'
    intro c
    exact absurd (Value.type.inj c) (by decide)
  · exact h _ _ out hb.perm (fun b o e => sortedAll_old e) (Nat.le_succ _) (sortedAll_at s.heap vs out.toArray)
end
def rSort3 (K : PySem.W.Frag) : List V → Hp → VK → Prop := fun vs H Q => ∃ (a : Addr) (ts : List Addr) (R : Addr → List Int) (pp : Addr → Int), vs = [.ref a] ∧ SqL K H a (ts.map V.ref) ∧
  (∀ t ∈ ts, ∃ q, H t = some (.tup [.int (R t).length, .ref q, .int (pp t)]) ∧ H q = some (.tup ((R t).map V.int))) ∧ ∀ (ts' : List Addr) (p : Addr), ts'.Perm ts → H p = none → Q (.ref p) (upd H p (.lst (ts'.map V.ref)))
def adV : Value → Addr
  | .ref a => a
  | _ => 0
theorem ad_refs : ∀ ts : List Addr, (ts.map Value.ref).map adV = ts
  | [] => rfl
  | t :: ts => by rw [List.map_cons, List.map_cons, ad_refs ts]; rfl
theorem refs_ad : ∀ {out : List Value}, (∀ v ∈ out, ∃ t, v = Value.ref t) → (out.map adV).map Value.ref = out
  | [], _ => rfl
  | v :: out, h => by
    obtain ⟨t, e⟩ := h v List.mem_cons_self
    subst e
    rw [List.map_cons, List.map_cons, refs_ad fun u hu => h u (List.mem_cons_of_mem _ hu)]
    rfl
theorem vals_refs : ∀ {ts : List Addr} {us : List Value}, Vals (ts.map V.ref) us → us = ts.map Value.ref
  | [], us, r => by rw [List.map_nil] at r; cases r; rfl
  | t :: ts, us, r => by
    rw [List.map_cons] at r
    cases r with
    | cons h q => cases h; rw [List.map_cons, ← vals_refs q]
theorem refs_vals : ∀ ts : List Addr, Vals (ts.map V.ref) (ts.map Value.ref)
  | [] => .nil
  | _ :: ts => .cons rfl (refs_vals ts)
theorem cr_sort3 {X : Cx} (hu : X.A.units + 4 < cLine) : CallR X (.builtin "sorted") (rSort3 X.K) := by
  intro pins s σ H vs us Q I r h
  obtain ⟨a, ts, R, pp, rfl, hs, hx, q⟩ := h
  obtain ⟨its, rv, hl, hz⟩ := I.list hs
  obtain ⟨u, rfl, ru⟩ := vals1 r
  obtain rfl : u = Value.ref a := ru
  have ei := vals_refs rv
  subst ei
  refine sorted_tri (k := fun v => R (adV v)) (p := fun v => pp (adV v)) (show X.A.units + 1 + 1 < cLine by omega) hl.isList (by rw [← rv.length]; exact hz) (fun v hv => ?_) fun h' d out hp kp hd hn => ?_
  · obtain ⟨t, ht, rfl⟩ := List.mem_map.mp hv
    obtain ⟨q, h1, h2⟩ := hx t ht
    obtain ⟨_, its1, r1, o1, ho1, hc1, n1, hd1⟩ := I.hok _ _ h1
    obtain ⟨_, its2, r2, o2, ho2, hc2, n2, hd2⟩ := I.hok _ _ h2
    cases r1 with
    | cons a1 r1 => cases r1 with
      | cons a2 r1 => cases r1 with
        | cons a3 r1 =>
          cases r1
          obtain ⟨t1, rfl⟩ := a1
          cases a2
          obtain ⟨t3, rfl⟩ := a3
          exact ⟨t, q, o1, o2, its2.toArray, t1, t3, n1, n2, rfl, ho1, hc1, hd1, ho2, hc2, hd2, intsAre_of r2⟩
  · have h3 : ∀ u ∈ out, ∃ a, u = Value.ref a := fun u hu => by
      obtain ⟨t, _, e⟩ := List.mem_map.mp (hp.mem_iff.mp hu)
      exact ⟨t, e.symm⟩
    obtain ⟨n, hn⟩ := hn
    have hp2 : (out.map adV).Perm ts := by
      have z := hp.map adV
      rw [ad_refs] at z
      exact z
    refine ⟨.ref d, upd H d (.lst ((out.map adV).map V.ref)), I.laid (t' := s.toks) kp hd ⟨?_, out, n, ?_, hn⟩, rfl, q _ d hp2 (I.hok.fresh hd)⟩
    · rw [List.length_map, hp2.length_eq, ← List.length_map (f := V.ref)]
      exact hz
    · have z := refs_vals (out.map adV)
      rw [refs_ad h3] at z
      exact z
end Hl
set_option Elab.async false
set_option maxRecDepth 100000
set_option maxHeartbeats 4000000
namespace Hl
open PySem PySem.Spec PyProof.Rows L2
/-! ### tuples: +, slices, *: the answer stands somewhere, all else as it was -/
def rCatN : R2 := fun x y H Q => ∃ a b xs ys, x = .ref a ∧ y = .ref b ∧ H a = some (.tup xs) ∧ H b = some (.tup ys) ∧ xs.length + ys.length ≤ sizeLine ∧ ∀ (p : Addr) (H' : Hp), Same H H' → H' p = some (.tup (xs ++ ys)) → Q (.ref p) H'
theorem op_catN {X : Cx} : OpR X (binaryOp .Add) rCatN := by
  intro pins s σ H x y v u Q I rx ry h
  obtain ⟨a, b, xs, ys, rfl, rfl, ha, hb, hz, q⟩ := h
  refine op_catA pins s σ H _ _ v u Q I rx ry ⟨a, b, xs, ys, rfl, rfl, SqT.of ha, SqT.of hb, hz, fun e => ?_, fun _ e => ?_, fun _ _ p hp => ?_⟩
  · subst e
    exact q b H (Same.refl _) hb
  · subst e
    refine q a H (Same.refl _) ?_
    rw [List.append_nil]
    exact ha
  · exact q p _ (same_new hp) upd_same
def rSlN : V → Option Int → Option Int → Hp → VK → Prop := fun x lo hi H Q => ∃ a xs, x = .ref a ∧ H a = some (.tup xs) ∧ ∀ (p : Addr) (H' : Hp), Same H H' → H' p = some (.tup (cutV xs lo hi)) → Q (.ref p) H'
theorem sl_tupN {X : Cx} : SlR X rSlN := by
  intro pins s σ H x v vl vu lo hi sl Q I rx hs pl pu h
  obtain ⟨a, xs, rfl, ha, q⟩ := h
  refine sl_tupA pins s σ H _ v vl vu lo hi sl Q I rx hs pl pu ⟨a, xs, rfl, SqT.of ha, fun e => ?_, fun _ p hp => q p _ (same_new hp) upd_same⟩
  refine q a H (Same.refl _) ?_
  unfold cutV
  rw [e.1, e.2]
  simpa using ha
section
open PySem.SeqAt
open PySem.AutoSeq1 (wpAny_loadPart')
open PySem.MeetsSeq PySem.MeetsSeq2 PySem.MeetsSeq3
theorem tuple_mul1 (l : Addr) (items : Array Value) (n : Nat) (dd : Option Addr) (sl : Array (Option Value)) (u : Tok) :
    Meets (Builtin.«tuple.__mul__» ⟨[.ref l, .int 1 u], []⟩) (fun _ R s => s.heap.get? l = some { cls := .type "tuple", dict := dd, data := .seq items n, slots := sl } ∧ R (.ok (.ret (Value.ref l))) s) :=
  .of_wp fun prog w A R s h => by
    obtain ⟨hp, g, d, tk, os⟩ := s
    obtain ⟨hl, h⟩ := h
    have f1 := AutoSeq1.idx_int
    have f2 := AutoSeq1.sub_tuple_tuple
    wp_walk using wpAny_loadPart' hl
    repeat (first
      | (refine wpAny_ite_false (decide_eq_false (by decide)) ?_; wp_walk using wpAny_loadPart' hl)
      | (refine wpAny_ite_true (decide_eq_true (by simp)) ?_; wp_walk using wpAny_loadPart' hl))
    exact ⟨_, rfl, h⟩
theorem tuple_mul0 (l : Addr) (items : Array Value) (n : Nat) (dd : Option Addr) (sl : Array (Option Value)) (u : Tok) (c1 : items.isEmpty = false) :
    Meets (Builtin.«tuple.__mul__» ⟨[.ref l, .int 0 u], []⟩) (fun _ R s => s.heap.get? l = some { cls := .type "tuple", dict := dd, data := .seq items n, slots := sl } ∧
      R (.ok (.ret (Value.ref s.heap.objs.size))) { s with heap := s.heap.push { cls := Value.type "tuple", data := Data.seq #[] } }) :=
  .of_wp fun prog w A R s h => by
    obtain ⟨hp, g, d, tk, os⟩ := s
    obtain ⟨hl, h⟩ := h
    have f1 := AutoSeq1.idx_int
    wp_walk using wpAny_loadPart' hl
    repeat (first
      | (refine wpAny_ite_false (decide_eq_false (by decide)) ?_; wp_walk using wpAny_loadPart' hl)
      | (refine wpAny_ite_false (decide_eq_false (by rw [c1]; decide)) ?_; wp_walk using wpAny_loadPart' hl)
      | (refine wpAny_ite_true (decide_eq_true (by simp)) ?_; wp_walk using wpAny_loadPart' hl))
    exact ⟨_, rfl, h⟩
end
/-- (x,) * k -/
def rRepN : R2 := fun x y H Q => ∃ (l : Addr) (k : Nat) (z : V), x = .ref l ∧ y = .int k ∧ H l = some (.tup [z]) ∧ k ≤ 1000 ∧ ∀ (p : Addr) (H' : Hp), Same H H' → H' p = some (.tup (List.replicate k z)) → Q (.ref p) H'
theorem flat_one {α : Type} (z : α) : ∀ k : Nat, (List.replicate k [z]).flatten = List.replicate k z
  | 0 => rfl
  | k + 1 => by rw [List.replicate_succ, List.flatten_cons, flat_one z k, List.replicate_succ]; rfl
theorem op_repN {X : Cx} : OpR X (binaryOp .Mult) rRepN := by
  intro pins s σ H x y v u Q I rx ry h
  obtain ⟨l, k, z, rfl, rfl, hT, hk, q⟩ := h
  by_cases h2 : 2 ≤ k
  · refine op_repT pins s σ H _ _ v u Q I rx ry ⟨l, k, [z], rfl, rfl, SqT.of hT, by simp, by omega, by omega, by simp, fun p hp => q p _ (same_new hp) ?_⟩
    rw [upd_same, Int.toNat_natCast, flat_one]
  cases rx
  obtain ⟨t, rfl⟩ := ry
  obtain ⟨its, r, ⟨⟨cls, dd, data, sl⟩, ho, hc, n, hd⟩, hs⟩ := I.tuple (SqT.of hT)
  simp only at hc hd
  subst hc hd
  have hi : its.toArray.isEmpty = false := by
    cases r with
    | cons a b => rfl
  have key : wpAny (model X.prog X.w) X.A (call (.builtin "tuple.__mul__") [.ref l, .int ((k : Nat) : Int) t]) (EP X pins σ Q) X.xe s := by
    match k, h2 with
    | 0, _ =>
      refine call_meets F.slot_tuple_mul ⟨_, ho, rfl⟩ F.entry_tuple_mul (F.args_tuple_mul_2 _ _) (tuple_mul0 l its.toArray n dd sl t hi) ⟨ho, ?_⟩
      exact ⟨.ref s.heap.objs.size, _, I.laid (t' := s.toks) (o := .tup []) (fun b ob q => Heap.get?_push_of_some _ q) (Nat.le_refl _) ⟨by show 0 ≤ sizeLine; omega, [], .nil, IsTup.new _ _⟩, rfl, q _ _ (same_new (I.hok.fresh (Nat.le_refl _))) upd_same⟩
    | 1, _ =>
      refine call_meets F.slot_tuple_mul ⟨_, ho, rfl⟩ F.entry_tuple_mul (F.args_tuple_mul_2 _ _) (tuple_mul1 l its.toArray n dd sl t) ⟨ho, ?_⟩
      exact ⟨.ref l, H, I, rfl, q l H (Same.refl _) hT⟩
    | k + 2, h2 => exact absurd (by omega) h2
  exact wpAny_binaryOp_repeat_ref (T := "tuple") (U := "int") (by decide) ⟨_, ho, rfl⟩ (fun s' => typeIs_int s' _ t) noFill_tuple_mul F.fills_int_mul F.slot_int_rmul repeat_tuple F.slot_int_index.lookup
    (call_meets F.slot_int_rmul (typeIs_int s _ t) F.entry_int_rmul (F.args_int_rmul_2 _ _) (int_rmul_tuple _ t l its.toArray n dd sl) ⟨ho, rfl, ⟨_, ho, rfl⟩, key⟩)
theorem noI_tup : typeLookup (.type "tuple") (dunderI "add") = pure none := by rw [typeLookup_type, builtinLookup_eq_fast]; kernel_rfl
/-- t += (x, ..) on two values -/
theorem in_catN {X : Cx} : InOp X .Add rCatN := by
  intro pins s σ H x y u v Q I rx ry h
  obtain ⟨a, b, xs, ys, rfl, rfl, ha, hb, hz, q⟩ := h
  cases rx
  cases ry
  obtain ⟨its, r1, p1, _⟩ := I.tuple (SqT.of ha)
  obtain ⟨its2, r2, p2, _⟩ := I.tuple (SqT.of hb)
  have T1 : s.TypeIs (.ref a) "tuple" := p1.typeIs
  have T2 : s.TypeIs (.ref b) "tuple" := p2.typeIs
  obtain ⟨⟨cls, dd, data, sl⟩, ho, hc, n, hd⟩ := id p1
  obtain ⟨⟨cls2, dd2, data2, sl2⟩, ho2, hc2, n2, hd2⟩ := id p2
  simp only at hc hd hc2 hd2
  subst hc hd hc2 hd2
  have l1 := r1.length
  have l2 := r2.length
  refine wpAny_inplaceOp_concat T1 T2 noI_tup noFill_tuple_add seq_tuple_add ?_
  by_cases hx : its = []
  · have hx' : xs = [] := List.eq_nil_of_length_eq_zero (by rw [l1, hx]; rfl)
    refine call_meets PySem.F.slot_tuple_add T1 PySem.F.entry_tuple_add (PySem.F.args_tuple_add_2 _ _) (tuple_addW0 a b its.toArray its2.toArray n n2 dd dd2 sl sl2 (by simp [hx])) ⟨ho, ho2, ?_⟩
    refine ⟨.ref b, H, I, rfl, q b H (Same.refl _) ?_⟩
    rw [hx']
    exact hb
  · by_cases hy : its2 = []
    · have hy' : ys = [] := List.eq_nil_of_length_eq_zero (by rw [l2, hy]; rfl)
      refine call_meets PySem.F.slot_tuple_add T1 PySem.F.entry_tuple_add (PySem.F.args_tuple_add_2 _ _) (tuple_addW1 a b its.toArray its2.toArray n n2 dd dd2 sl sl2 (by simpa using hx) (by simp [hy])) ⟨ho, ho2, ?_⟩
      refine ⟨.ref a, H, I, rfl, q a H (Same.refl _) ?_⟩
      rw [hy', List.append_nil]
      exact ha
    · refine call_meets PySem.F.slot_tuple_add T1 PySem.F.entry_tuple_add (PySem.F.args_tuple_add_2 _ _) (tuple_addW2 a b its.toArray its2.toArray n n2 dd dd2 sl sl2 (by simpa using hx) (by simpa using hy) (by rw [List.size_toArray, List.size_toArray, ← l1, ← l2]; exact hz)) ⟨ho, ho2, ?_⟩
      have e : its.toArray ++ its2.toArray = (its ++ its2).toArray := by simp
      rw [e]
      exact ⟨.ref s.heap.objs.size, _, I.laid (t' := s.toks) (o := .tup (xs ++ ys)) (fun b ob q => Heap.get?_push_of_some _ q) (Nat.le_refl _) ⟨by rw [List.length_append]; exact hz, _, r1.append r2, IsTup.new _ _⟩, rfl, q _ _ (same_new (I.hok.fresh (Nat.le_refl _))) upd_same⟩
end Hl
set_option Elab.async false
set_option maxRecDepth 100000
set_option maxHeartbeats 4000000
namespace Hl
open PySem PySem.Spec PyProof.Rows L2
/-! ### joins.py -/
def keyP (p : Pr) : List Key := [Sum.inl p.1, Sum.inl p.2]
theorem keyP_inj {p q : Pr} (h : keyP p = keyP q) : p = q := by
  unfold keyP at h
  injection h with h1 h2
  injection h2 with h2 _
  injection h1 with h1
  injection h2 with h2
  exact Prod.ext h1 h2
def kvsOf (es : List (Pr × Addr)) : List (List Key × V) := es.map fun e => (keyP e.1, V.ref e.2)
theorem kvs_none : ∀ {es : List (Pr × Addr)} {p : Pr}, valV (kvsOf es) (keyP p) = none ↔ p ∉ es.map (·.1)
  | [], p => by simp [kvsOf, valV_nil]
  | e :: es, p => by
    have ih := kvs_none (es := es) (p := p)
    show valV ((keyP e.1, V.ref e.2) :: kvsOf es) (keyP p) = none ↔ _
    by_cases h : e.1 = p
    · rw [valV_pos (p := (keyP e.1, V.ref e.2)) (by show keyP e.1 = keyP p; rw [h])]
      simp [h]
    · rw [valV_neg (p := (keyP e.1, V.ref e.2)) (fun z => h (keyP_inj z)), ih]
      simp [Ne.symm h]
theorem kvs_some : ∀ {es : List (Pr × Addr)} {p : Pr}, p ∈ es.map (·.1) → ∃ (j : Nat) (e : Pr × Addr), es[j]? = some e ∧ e.1 = p ∧ valV (kvsOf es) (keyP p) = some (.ref e.2)
  | [], p, h => by simp at h
  | e :: es, p, h => by
    show ∃ (j : Nat) (e' : Pr × Addr), (e :: es)[j]? = some e' ∧ e'.1 = p ∧ valV ((keyP e.1, V.ref e.2) :: kvsOf es) (keyP p) = some (.ref e'.2)
    by_cases hp : e.1 = p
    · exact ⟨0, e, rfl, hp, valV_pos (p := (keyP e.1, V.ref e.2)) (by show keyP e.1 = keyP p; rw [hp])⟩
    · have h' : p ∈ es.map (·.1) := by
        rw [List.map_cons] at h
        exact (List.mem_cons.mp h).elim (fun z => absurd z.symm hp) id
      obtain ⟨j, e', h1, h2, h3⟩ := kvs_some h'
      exact ⟨j + 1, e', h1, h2, by rw [valV_neg (p := (keyP e.1, V.ref e.2)) (fun z => hp (keyP_inj z))]; exact h3⟩
structure PRI (H : Hp) (d l : Addr) (es : List (Pr × Addr)) (ws : List Addr) : Prop where
  dict : H d = some (.dT (kvsOf es))
  lst : H l = some (.lst (ws.map V.ref))
  len : ws.length = es.length
  wt : ∀ (j : Nat) (a : Addr) (e : Pr × Addr), ws[j]? = some a → es[j]? = some e → H a = some (.tup (prV e.1))
  rw : ∀ (j : Nat) (e : Pr × Addr), es[j]? = some e → ∃ r : List Int, H e.2 = some (.tup (r.map V.int)) ∧ r.length ≤ j
theorem PRI.same {H H' : Hp} {d l : Addr} {es : List (Pr × Addr)} {ws : List Addr} (h : PRI H d l es ws) (s : Same H H') : PRI H' d l es ws :=
  ⟨s _ _ h.dict, s _ _ h.lst, h.len, fun j a e h1 h2 => s _ _ (h.wt j a e h1 h2), fun j e h1 => let ⟨r, a, b⟩ := h.rw j e h1; ⟨r, s _ _ a, b⟩⟩
theorem at_fst {es : List (Pr × Addr)} {n : Nat} {e : Pr × Addr} (h : es[n]? = some e) : (es.map (·.1))[n]? = some e.1 := by rw [List.getElem?_map, h]; rfl
/-- n less what slot i holds -/
def cntS (n i : Nat) (σ : L2.St) : Nat := match σ[i]? with
  | some (some (V.int k)) => n - k.toNat
  | _ => 0
def spPairRows (C : Addr) : Sp := fun vs H Q _ => ∃ (m : Addr) (tb : List (List Int)) (S : Nat) (p0 : Pr), vs = [.ref m, .int p0.1, .int p0.2] ∧ MachAt C H m tb S ∧ InS S p0 ∧
  ∀ (H' : Hp) (d : Addr) (es : List (Pr × Addr)), Same H H' → H d = none → H' d = some (.dT (kvsOf es)) → (∀ e ∈ es, ∃ r : List Int, H' e.2 = some (.tup (r.map V.int)) ∧ r.length ≤ 64) → Clo tb p0 (es.map (·.1)) → Q (.ref d) H'
section
variable {P : Program} {w : World} {K : PySem.W.Frag} {mg : Str → Option Value} {base : Heap} {a : Ad} {d : Fd}
theorem ok_PairRows (T : Txt P w K mg a d) : FnOk P w K mg base CX0 1 a.fPairRows d.fPairRows pPairRows (spPairRows a.cMachine) := by
  refine T.FPairRows.ok scPairRows (fun vs H Q E h => ?_) (fun cdv A outer s H vs Q E hr h => ?_)
  · obtain ⟨m, tb, S, p0, rfl, _⟩ := h
    rfl
  · obtain ⟨m, tb, S, p0, rfl, hM, hin, k⟩ := h
    have hu := hu_of hr
    obtain ⟨⟨dx, t, bs, hm, ht, hR⟩, hT⟩ := id hM
    refine ⟨_, pss_cons (ps_set (i := 3) scPairRows.nd rfl (.inl rfl) (pe_dispT hu (pe_tup (pa_cons (pv 1) (pa_cons (pv 2) pa_nil))) (pe_tup pa_nil)))
      (pss_cons (ps_set (i := 4) scPairRows.nd rfl (.inl rfl) (pe_lst (pa_cons (pe_tup (pa_cons (pv 1) (pa_cons (pv 2) pa_nil))) pa_nil)))
      (pss_cons (ps_set (i := 5) scPairRows.nd rfl (.inl rfl) pe_int)
      (pss_cons (ps_while PassesOwn.never (pt_cmpR op_lt (pv 5) (pe_callB call_len_seq (by rfl) T.b_len boot_len (pa_cons (pv 4) pa_nil)) (nomark _))
        (pss_cons (ps_set (i := 6) scPairRows.nd rfl (.inl rfl) (pe_ix ix_list (pv 4) (pv 5) (fun _ _ => rfl)))
        (pss_cons (ps_aug (i := 5) scPairRows.nd rfl (.inl rfl) pe_int ip_add)
        (pss_one (ps_for PassesOwn.never rfl (pi_enumT (by rfl) T.b_enumerate (pa_cons (pe_fld (pv 0) rfl) pa_nil)) (pg_tup rfl (pgs_cons (pg_name (i := 7) scPairRows.nd rfl (.inl rfl)) (pgs_cons (pg_name (i := 8) scPairRows.nd rfl (.inl rfl)) pgs_nil)))
          (pss_cons (ps_set (i := 9) scPairRows.nd rfl (.inl rfl) (pe_tup (pa_cons (pe_ix ix_tup (pv 8) (pe_ix ix_tup (pv 6) pe_int (fun _ _ => rfl)) (fun _ _ => rfl)) (pa_cons (pe_ix ix_tup (pv 8) (pe_ix ix_tup (pv 6) pe_int (fun _ _ => rfl)) (fun _ _ => rfl)) pa_nil))))
          (pss_one (ps_if (pt_cmp (pc_dnotin hu (pv 9) (pv 3)))
            (pss_cons (ps_dput hu (pv 3) (pv 9) (pe_op op_catN (pe_dget hu (pv 3) (pv 6) (fun _ _ => rfl)) (pe_tup (pa_cons (pv 7) pa_nil))) rfl)
            (pss_one (ps_expr (pe_bm PySem.F.plainAttrs_list PySem.F.slot_list_append PySem.F.type_list_append mt_append (pv 4) (pa_cons (pv 9) pa_nil))))) pss_nil))))))))
      (pss_one (ps_ret (pv 3)))))), ?_⟩
    intro fd hfd
    refine ⟨_, rfl, _, rfl, (by show 2 ≤ sizeLine; decide), fun kt hkt => ⟨(by show 0 ≤ sizeLine; decide), fun r0 hr0 => ?_⟩⟩
    obtain ⟨n1, hkt0⟩ := upd_none hkt
    obtain ⟨n2, hr1⟩ := upd_none hr0
    obtain ⟨n3, hr00⟩ := upd_none hr1
    refine ⟨kt, keyP p0, rfl, ?_, ?_, ?_⟩
    · rw [upd_ne n2.symm, upd_same]
      rfl
    · rw [upd_ne n3.symm, upd_ne n1.symm, upd_same]
    refine ⟨_, rfl, _, rfl, (by show 2 ≤ sizeLine; decide), fun w0 hw0 => ⟨(by show 1 ≤ sizeLine; decide), fun l hl => ?_⟩⟩
    obtain ⟨n4, hw1⟩ := upd_none hw0
    obtain ⟨n5, hw2⟩ := upd_none hw1
    obtain ⟨n6, hw3⟩ := upd_none hw2
    obtain ⟨_, hw00⟩ := upd_none hw3
    obtain ⟨n7, hl1⟩ := upd_none hl
    obtain ⟨n8, hl2⟩ := upd_none hl1
    obtain ⟨n9, hl3⟩ := upd_none hl2
    obtain ⟨n10, hl4⟩ := upd_none hl3
    obtain ⟨_, hl00⟩ := upd_none hl4
    have hl0 : H l = none := hl00
    have s6 : Same H (upd (upd (upd (upd (upd (upd H fd (HO.dT [])) kt (HO.tup [V.int p0.fst, V.int p0.snd])) r0 (HO.tup [])) fd (HO.dT [(keyP p0, V.ref r0)])) w0 (HO.tup [V.int p0.fst, V.int p0.snd])) l (HO.lst [V.ref w0])) :=
      same_put (same_put (same_put (same_put (same_put (same_new hfd) hkt0) hr00) hfd) hw00) hl00
    have P0 : PRI (upd (upd (upd (upd (upd (upd H fd (HO.dT [])) kt (HO.tup [V.int p0.fst, V.int p0.snd])) r0 (HO.tup [])) fd (HO.dT [(keyP p0, V.ref r0)])) w0 (HO.tup [V.int p0.fst, V.int p0.snd])) l (HO.lst [V.ref w0])) fd l [(p0, r0)] [w0] := by
      refine ⟨?_, upd_same, rfl, fun j a e h1 h2 => ?_, fun j e h1 => ?_⟩
      · rw [upd_ne n8.symm, upd_ne n4.symm, upd_same]
        rfl
      · match j, h1, h2 with
        | 0, h1, h2 =>
          rw [← Option.some.inj h1, ← Option.some.inj h2, upd_ne n7.symm, upd_same]
          rfl
        | j + 1, h1, h2 => simp at h1
      · match j, h1 with
        | 0, h1 =>
          rw [← Option.some.inj h1]
          exact ⟨[], by rw [upd_ne n9.symm, upd_ne n5.symm, upd_ne n3, upd_same]; rfl, Nat.le_refl _⟩
        | j + 1, h1 => simp at h1
    generalize (upd (upd (upd (upd (upd (upd H fd (HO.dT [])) kt (HO.tup [V.int p0.fst, V.int p0.snd])) r0 (HO.tup [])) fd (HO.dT [(keyP p0, V.ref r0)])) w0 (HO.tup [V.int p0.fst, V.int p0.snd])) l (HO.lst [V.ref w0])) = H6 at s6 P0
    clear hl hl1 hl2 hl3 hl4 hw0 hw1 hw2 hw3 hr0 hr1 hkt
    refine while_by (fun σ H' => ∃ (es : List (Pr × Addr)) (ws : List Addr) (n : Nat) (c6 c7 c8 c9 : Option V), σ = [some (.ref m), some (.int p0.1), some (.int p0.2), some (.ref fd), some (.ref l), some (.int n), c6, c7, c8, c9] ∧ Same H H' ∧ PRI H' fd l es ws ∧ Bfs tb p0 (es.map (·.1)) n ∧ n ≤ es.length)
      (fun σ _ => cntS 64 5 σ) ⟨_, _, 0, none, none, none, none, rfl, s6, P0, Bfs.start, Nat.zero_le _⟩ ?_ ?_
    · rintro σ H1 ⟨es, ws, n, c6, c7, c8, c9, rfl, s1, R, B, hn⟩
      have few : es.length ≤ 64 := by
        have z := B.few hT hin
        rw [List.length_map] at z
        exact z
      refine ⟨_, rfl, _, rfl, l, _, rfl, .inl (SqL.of R.lst), ?_⟩
      rw [List.length_map, R.len]
      refine ⟨_, _, rfl, rfl, _, rfl, ?_⟩
      by_cases hlt : n < es.length
      · refine itdT (by omega) ?_
        obtain ⟨e, he⟩ := there hlt
        obtain ⟨wa, hwa⟩ := there (l := ws) (i := n) (by rw [R.len]; exact hlt)
        have hwt := R.wt n wa e hwa he
        refine ⟨_, rfl, _, rfl, l, _, _, _, rfl, rfl, SqL.of R.lst, at_of (j := n) rfl (at_map hwa), ?_⟩
        refine ⟨_, rfl, _, _, rfl, rfl, ?_⟩
        refine ⟨_, rfl, m, _, dx, _, _, rfl, s1 _ _ hm, T.clMachine, T.nMachine_tables, rfl, t, _, rfl, SqT.of (s1 _ _ ht), ?_⟩
        have hlenB : bs.length = tb.length := hR.1
        refine for_it (walk_enumT (xs := bs.map V.ref)) (fun i σ H' => ∃ (es' : List (Pr × Addr)) (ws' : List Addr) (c7 c8 c9 : Option V), σ = [some (.ref m), some (.int p0.1), some (.int p0.2), some (.ref fd), some (.ref l), some (.int ((n : Int) + 1)), some (.ref wa), c7, c8, c9] ∧ Same H H' ∧ PRI H' fd l es' ws' ∧
            BfsI tb p0 (es'.map (·.1)) n e.1 i ∧ H' wa = some (.tup (prV e.1))) ⟨es, ws, _, _, _, rfl, s1, R, BfsI.start B (at_fst he), hwt⟩ (fun i σ H' _ h => by obtain ⟨_, _, _, _, _, _, s2, _⟩ := h; exact .inl (.inl (s2 _ _ ht))) ?_ ?_
        · rintro i x σ H2 H3 hi ⟨es', ws', c7, c8, c9, rfl, s2, R2, B2, hwa2⟩ ⟨T, y1, y2, rfl, hTn, rfl, e1, e2⟩
          obtain rfl : V.int ((i : Nat) : Int) = y1 := Option.some.inj e1
          obtain ⟨q, hq, rfl⟩ := map_at e2
          obtain ⟨r, hr'⟩ : ∃ r, tb[i]? = some r := there (by rw [List.length_map] at hi; omega)
          have hTn0 := s2.free hTn
          have s3 : Same H2 (upd H2 T (.tup [.int (i : Nat), .ref q])) := same_new hTn
          have s03 := s2.trans s3
          have R3 := R2.same s3
          have hrow := s03 _ _ (hR.2 i q r hq hr')
          have hwa3 := s3 _ _ hwa2
          have hT3 : upd H2 T (.tup [.int (i : Nat), .ref q]) T = some (.tup [.int (i : Nat), .ref q]) := upd_same
          generalize upd H2 T (.tup [.int (i : Nat), .ref q]) = H3 at s3 s03 R3 hrow hwa3 hT3
          have hre := B2.b.re e.1 (List.mem_of_getElem? B2.at_)
          have hpin := hre.inS hT hin
          have hm1 := List.mem_of_getElem? hr'
          obtain ⟨ga, _⟩ := getD_in (hT.len r hm1) hpin.1 hpin.2.1
          obtain ⟨gb, _⟩ := getD_in (hT.len r hm1) hpin.2.2.1 hpin.2.2.2
          have few2 : es'.length ≤ 64 := by
            have z := B2.b.few hT hin
            rw [List.length_map] at z
            exact z
          refine ⟨T, _, rfl, SqT.of hT3, rfl, _, _, rfl, _, _, rfl, rfl, ?_⟩
          -- after = (table[pair[0]], table[pair[1]])
          refine ⟨_, rfl, _, rfl, wa, _, _, _, rfl, rfl, SqT.of hwa3, at_of (j := 0) (v := .int e.1.1) rfl rfl, q, _, _, _, rfl, rfl, SqT.of hrow, at_of (j := e.1.1.toNat) (by have := hpin.1; omega) (at_map ga), ?_⟩
          refine ⟨_, rfl, _, rfl, wa, _, _, _, rfl, rfl, SqT.of hwa3, at_of (j := 1) (v := .int e.1.2) rfl rfl, q, _, _, _, rfl, rfl, SqT.of hrow, at_of (j := e.1.2.toNat) (by have := hpin.2.2.1; omega) (at_map gb), ?_⟩
          refine ⟨(by show 2 ≤ sizeLine; decide), fun af haf => ?_⟩
          have s4 : Same H3 (upd H3 af (.tup [.int (r.getD e.1.1.toNat 0), .int (r.getD e.1.2.toNat 0)])) := same_new haf
          have s04 := s03.trans s4
          have R4 := R3.same s4
          have hwa4 := s4 _ _ hwa3
          have haf4 : upd H3 af (.tup [.int (r.getD e.1.1.toNat 0), .int (r.getD e.1.2.toNat 0)]) af = some (.tup (prV (nxt r e.1))) := upd_same
          generalize upd H3 af (.tup [.int (r.getD e.1.1.toNat 0), .int (r.getD e.1.2.toNat 0)]) = H4 at s4 s04 R4 hwa4 haf4
          refine ⟨_, rfl, _, rfl, fd, _, rfl, DGet.t (k := keyP (nxt r e.1)) R4.dict haf4, _, rfl, ?_⟩
          by_cases hmem : nxt r e.1 ∈ es'.map (·.1)
          · obtain ⟨j, e', hj, ej, hv⟩ := kvs_some hmem
            rw [hv]
            exact iteF ⟨es', ws', _, _, _, rfl, s04, R4, B2.old hr' hmem, hwa4⟩
          · have hv := kvs_none.mpr hmem
            rw [hv]
            refine iteT ?_
            obtain ⟨j, e', hj, ej, hv2⟩ := kvs_some (List.mem_of_getElem? B2.at_)
            obtain ⟨row, hrw, hrl⟩ := R4.rw j e' hj
            have hjl := (List.getElem?_eq_some_iff.mp hj).1
            refine ⟨_, rfl, _, rfl, fd, _, rfl, (by rw [← hv2]; exact DGet.t (k := keyP e.1) R4.dict hwa4), ?_⟩
            refine ⟨_, rfl, (by show 1 ≤ sizeLine; decide), fun u hu => ?_⟩
            have s5 : Same H4 (upd H4 u (.tup [.int (i : Nat)])) := same_new hu
            refine ⟨e'.2, u, _, _, rfl, rfl, s5 _ _ hrw, upd_same, ?_, fun pr H5 s6 hpr => ?_⟩
            · rw [List.length_map, sizeLine_eq]
              show row.length + 1 ≤ _
              omega
            have s45 := s5.trans s6
            have s05 := s04.trans s45
            have R5 := R4.same s45
            have haf5 := s45 _ _ haf4
            have hwa5 := s45 _ _ hwa4
            refine ⟨_, rfl, _, rfl, fd, _, rfl, DPut.t (k := keyP (nxt r e.1)) R5.dict haf5 (by unfold kvsOf; rw [List.length_map]; exact small8 few2), ?_⟩
            rw [putK_new _ hv]
            have nfl : fd ≠ l := ne_of R5.dict R5.lst (by intro z; cases z)
            have s06 : Same H (upd H5 fd (.dT (kvsOf es' ++ [(keyP (nxt r e.1), .ref pr)]))) := same_put s05 hfd
            refine ⟨_, rfl, .inl ⟨rfl, _, SqL.of (by rw [upd_ne nfl.symm]; exact R5.lst)⟩, _, rfl, l, _, _, rfl, rfl, (by rw [upd_ne nfl.symm]; exact R5.lst), (by rw [List.length_map, R5.len]; exact small8 few2), ?_⟩
            have keep : ∀ (b : Addr) (xs : List V), H5 b = some (.tup xs) → upd (upd H5 fd (.dT (kvsOf es' ++ [(keyP (nxt r e.1), .ref pr)]))) l (.lst (ws'.map V.ref ++ [.ref af])) b = some (.tup xs) := fun b xs hb => by
              rw [upd_ne (ne_of hb R5.lst (by intro z; cases z)), upd_ne (ne_of hb R5.dict (by intro z; cases z))]
              exact hb
            refine ⟨es' ++ [(nxt r e.1, pr)], ws' ++ [af], _, _, _, rfl, same_put s06 hl0, ⟨?_, ?_, ?_, fun j2 a2 e2 h1 h2 => ?_, fun j2 e2 h1 => ?_⟩, ?_, keep _ _ hwa5⟩
            · rw [upd_ne nfl, upd_same]
              unfold kvsOf
              rw [List.map_append]
              rfl
            · rw [upd_same, List.map_append]
              rfl
            · rw [List.length_append, List.length_append, R5.len]
              rfl
            · by_cases hj2 : j2 < es'.length
              · rw [List.getElem?_append_left (by rw [R5.len]; exact hj2)] at h1
                rw [List.getElem?_append_left hj2] at h2
                exact keep _ _ (R5.wt j2 a2 e2 h1 h2)
              · have hj3 : j2 = es'.length := by
                  have z := (List.getElem?_eq_some_iff.mp h2).1
                  rw [List.length_append] at z
                  simp at z
                  omega
                subst hj3
                rw [List.getElem?_append_right (Nat.le_refl _)] at h2
                rw [← R5.len, List.getElem?_append_right (Nat.le_refl _)] at h1
                simp at h1 h2
                rw [← h1, ← h2]
                exact keep _ _ haf5
            · by_cases hj2 : j2 < es'.length
              · rw [List.getElem?_append_left hj2] at h1
                obtain ⟨r2, a1, a2⟩ := R5.rw j2 e2 h1
                exact ⟨r2, keep _ _ a1, a2⟩
              · have hj3 : j2 = es'.length := by
                  have z := (List.getElem?_eq_some_iff.mp h1).1
                  rw [List.length_append] at z
                  simp at z
                  omega
                subst hj3
                rw [List.getElem?_append_right (Nat.le_refl _)] at h1
                simp at h1
                rw [← h1]
                refine ⟨row ++ [(i : Int)], ?_, by rw [List.length_append]; simp; omega⟩
                rw [List.map_append]
                exact keep _ _ hpr
            · rw [List.map_append]
              exact B2.more hr' hmem
        · rintro σ H2 ⟨es', ws', c7, c8, c9, rfl, s2, R2, B2, hwa2⟩
          rw [List.length_map, hlenB] at B2
          have B3 := B2.fin
          have n3 : n + 1 ≤ es'.length := by
            have z := (List.getElem?_eq_some_iff.mp B2.at_).1
            rw [List.length_map] at z
            omega
          refine ⟨⟨es', ws', n + 1, _, _, _, _, rfl, s2, R2, B3, n3⟩, ?_⟩
          show 64 - ((n : Int) + 1).toNat < 64 - ((n : Int)).toNat
          omega
      · refine itdF (by omega) ⟨_, rfl, ?_⟩
        have hn2 : n = es.length := by omega
        refine k H1 fd es s1 hfd R.dict (fun e he => ?_) ?_
        · obtain ⟨j, hj⟩ := List.mem_iff_getElem?.mp he
          obtain ⟨r, h1, h2⟩ := R.rw j e hj
          exact ⟨r, h1, by have := (List.getElem?_eq_some_iff.mp hj).1; omega⟩
        · subst hn2
          rw [← List.length_map (f := (·.1))] at B
          exact B.clo
    · intro σ H1 Q1 Q2 hq h
      obtain ⟨v, e1, x, e2, p, ys, e3, e4, i, j, e5, e6, b, e7, q⟩ := h
      exact ⟨v, e1, x, e2, p, ys, e3, e4, i, j, e5, e6, b, e7, hq _ _ q⟩
end
end Hl
set_option Elab.async false
set_option maxRecDepth 100000
set_option maxHeartbeats 4000000
namespace Hl
open PySem PySem.Spec PyProof.Rows L2
/-- len within a comprehension -/
def rLenS (K : PySem.W.Frag) : List V → Hp → VK → Prop := fun xs H Q => ∃ p ys, xs = [.ref p] ∧ (SqL K H p ys ∨ SqT K H p ys) ∧ Q (.int ys.length) H
/-- at t: (len(row), row, p) -/
def TriAt (H : Hp) (t : Addr) (p : Int) : Prop := ∃ (q : Addr) (r : List Int), H t = some (.tup [.int r.length, .ref q, .int p]) ∧ H q = some (.tup (r.map V.int))
theorem TriAt.same {H H' : Hp} {t : Addr} {p : Int} (h : TriAt H t p) (s : Same H H') : TriAt H' t p := by
  obtain ⟨q, r, a, b⟩ := h
  exact ⟨q, r, s _ _ a, s _ _ b⟩
def vInt : V → Int
  | .int i => i
  | _ => 0
def triP (H : Hp) (t : Addr) : Int := match H t with
  | some (.tup [_, _, .int p]) => p
  | _ => 0
def triR (H : Hp) (t : Addr) : List Int := match H t with
  | some (.tup [_, .ref q, _]) => (match H q with
    | some (.tup xs) => xs.map vInt
    | _ => [])
  | _ => []
theorem vInt_map : ∀ r : List Int, (r.map V.int).map vInt = r
  | [] => rfl
  | x :: r => by rw [List.map_cons, List.map_cons, vInt_map r]; rfl
theorem TriAt.at_ {H : Hp} {t : Addr} {p : Int} (h : TriAt H t p) : triP H t = p ∧ ∃ q, H t = some (.tup [.int (triR H t).length, .ref q, .int (triP H t)]) ∧ H q = some (.tup ((triR H t).map V.int)) := by
  obtain ⟨q, r, a, b⟩ := h
  have e1 : triP H t = p := by unfold triP; rw [a]
  have e2 : triR H t = r := by unfold triR; rw [a]; show (match H q with | some (.tup xs) => xs.map vInt | _ => []) = r; rw [b]; exact vInt_map r
  rw [e1, e2]
  exact ⟨rfl, q, a, b⟩
def TriL (H : Hp) (ts : List Addr) (ps : List Int) : Prop := ts.length = ps.length ∧ ∀ (j : Nat) (t : Addr) (p : Int), ts[j]? = some t → ps[j]? = some p → TriAt H t p
theorem TriL.same {H H' : Hp} {ts : List Addr} {ps : List Int} (h : TriL H ts ps) (s : Same H H') : TriL H' ts ps := ⟨h.1, fun j t p a b => (h.2 j t p a b).same s⟩
theorem TriL.snoc {H : Hp} {ts : List Addr} {ps : List Int} {t : Addr} {p : Int} (h : TriL H ts ps) (x : TriAt H t p) : TriL H (ts ++ [t]) (ps ++ [p]) := by
  refine ⟨by rw [List.length_append, List.length_append, h.1]; rfl, fun j t' p' a b => ?_⟩
  by_cases hj : j < ts.length
  · rw [List.getElem?_append_left hj] at a
    rw [List.getElem?_append_left (by rw [← h.1]; exact hj)] at b
    exact h.2 j t' p' a b
  · have hj2 : j = ts.length := by
      have z := (List.getElem?_eq_some_iff.mp a).1
      rw [List.length_append] at z
      simp at z
      omega
    subst hj2
    rw [List.getElem?_append_right (Nat.le_refl _)] at a
    rw [h.1, List.getElem?_append_right (Nat.le_refl _)] at b
    simp at a b
    rw [← a, ← b]
    exact x
theorem TriL.map {H : Hp} {ts : List Addr} {ps : List Int} (h : TriL H ts ps) : ts.map (triP H) = ps := by
  apply List.ext_getElem?
  intro j
  rw [List.getElem?_map]
  cases a : ts[j]? with
  | none =>
    have z : ts.length ≤ j := by simpa using a
    rw [List.getElem?_eq_none (by rw [← h.1]; exact z)]
    rfl
  | some t =>
    have hj := (List.getElem?_eq_some_iff.mp a).1
    obtain ⟨p, b⟩ : ∃ p, ps[j]? = some p := ⟨ps[j]'(by rw [← h.1]; exact hj), List.getElem?_eq_getElem _⟩
    rw [b]
    exact congrArg some (h.2 j t p a b).at_.1
theorem TriL.all {H : Hp} {ts : List Addr} {ps : List Int} (h : TriL H ts ps) : ∀ t ∈ ts, TriAt H t (triP H t) := fun t ht => by
  obtain ⟨j, a⟩ := List.mem_iff_getElem?.mp ht
  have hj := (List.getElem?_eq_some_iff.mp a).1
  have b : ps[j]? = some (ps[j]'(by rw [← h.1]; exact hj)) := List.getElem?_eq_getElem _
  have z := h.2 j t _ a b
  rw [z.at_.1]
  exact z
def spEndsOf (C : Addr) : Sp := fun vs H Q _ => ∃ (m : Addr) (tb : List (List Int)) (S : Nat) (p0 : Pr) (th : Int), vs = [.ref m, .int p0.1, .int p0.2, .int th] ∧ MachAt C H m tb S ∧ InS S p0 ∧
  ∀ (H' : Hp) (l : Addr) (ts : List Addr) (W : List Pr), Same H H' → H' l = some (.lst (ts.map V.ref)) → (∀ t ∈ ts, TriAt H' t (triP H' t)) → (ts.map (triP H')).Perm (endsP W th) → Clo tb p0 W → Q (.ref l) H'
theorem endsP_more {W : List Pr} {x : Int} {i : Nat} {p : Pr} (h : W[i]? = some p) : endsP (W.take (i + 1)) x = endsP (W.take i) x ++ (if p.1 = x then [p.2] else []) := by
  unfold endsP
  rw [List.take_add_one, h, List.filter_append, List.map_append]
  congr 1
  by_cases c : p.1 = x
  · simp [c]
  · simp [c]
section
variable {P : Program} {w : World} {K : PySem.W.Frag} {mg : Str → Option Value} {base : Heap} {a : Ad} {d : Fd}
theorem ok_EndsOf (T : Txt P w K mg a d) : FnOk P w K mg base CX0 2 a.fEndsOf d.fEndsOf pEndsOf (spEndsOf a.cMachine) := by
  have G : FnOk P w K mg base CX0 1 a.fPairRows d.fPairRows pPairRows (spPairRows a.cMachine) := ok_PairRows T
  refine T.FEndsOf.ok scEndsOf (fun vs H Q E h => ?_) (fun cdv A outer s H vs Q E hr h => ?_)
  · obtain ⟨m, tb, S, p0, th, rfl, _⟩ := h
    rfl
  · obtain ⟨m, tb, S, p0, th, rfl, hM, hin, k⟩ := h
    have hT := hM.ok
    have h4 : (A.deeper (envOfC "ends_of" (defScope sEndsOf) s.heap.objs.size a.fEndsOf cdv)).units + 4 < cLine := by have := hr.units; omega
    refine ⟨_, pss_cons (ps_set (i := 4) scEndsOf.nd rfl (.inl rfl) (pe_call G hr (by rfl) T.gPairRows T.FPairRows.kp T.bPairRows .nil pass0 (pa_cons (pv 0) (pa_cons (pv 1) (pa_cons (pv 2) pa_nil)))))
      (pss_cons (ps_lock (ps_setLc (i := 5) (own := [("pair", 6), ("row", 7)]) (g := gTup K 2 (gCons (gName 6) (gCons (gName 7) gNil))) (tt := tTest (tOp rEq (tOp (rIxT K) (tVar 6) (tC (.int 0))) (tVar 3)))
          (te := tTup (tCons (tCB (rLenS K) (tCons (tVar 7) tNil)) (tCons (tVar 7) (tCons (tOp (rIxT K) (tVar 6) (tC (.int 1))) tNil)))) rfl scEndsOf.nd rfl rfl (sw_true rfl rfl rfl (by decide +kernel)) (pi_itemsT (pv 4))
          (blkOk_by (own := [("pair", 6), ("row", 7)]) (N := nEndsOf) (sc := defScope sEndsOf) (by decide +kernel))
          (fun _ _ _ _ _ => pg_tup rfl (pgs_cons (pg_name (i := 6) scEndsOf.nd rfl (.inl rfl)) (pgs_cons (pg_name (i := 7) scEndsOf.nd rfl (.inl rfl)) pgs_nil)))
          (fun _ _ _ _ _ => pts_one (pt_cmpR op_eq (pe_ix ix_tup (pv 6) pe_int (fun _ _ => rfl)) (pv 3) (nomark _)))
          (fun _ _ _ _ _ => pe_tup (pa_cons (pe_callB call_len_seq (by rfl) T.b_len boot_len (pa_cons (pv 7) pa_nil)) (pa_cons (pv 7) (pa_cons (pe_ix ix_tup (pv 6) pe_int (fun _ _ => rfl)) pa_nil))))))
      (pss_one (ps_ret (pe_callB (cr_sort3 h4) (by rfl) T.b_sorted boot_sorted (pa_cons (pv 5) pa_nil))))), ?_⟩
    refine ⟨_, rfl, _, rfl, _, rfl, m, tb, S, p0, rfl, hM, hin, fun H1 dd es s1 hd0 hd hrows hC => ?_⟩
    refine ⟨dd, _, hd, trivial, fun od => ?_⟩
    refine ⟨_, rfl, dd, od, _, rfl, upd_same, fun D hD => ?_⟩
    obtain ⟨nD, hD1⟩ := upd_none hD
    have hlk : ∀ H', Same (upd H1 dd (.frz od (.dT (kvsOf es)))) H' → H' dd = some (.frz od (.dT (kvsOf es))) := fun H' s => s _ _ upd_same
    have old : ∀ (q : Addr) (xs : List V), H1 q = some (.tup xs) → ∀ H', Same (upd H1 dd (.frz od (.dT (kvsOf es)))) H' → H' q = some (.tup xs) := fun q xs e H' s => s _ _ (by rw [upd_ne (ne_of e hd (by intro z; cases z))]; exact e)
    refine lc_it (walk_itemsT (kvs := kvsOf es)) (fun i H' => Same (upd H1 dd (.frz od (.dT (kvsOf es)))) H' ∧ ∃ ts : List Addr, H' D = some (.lst (ts.map V.ref)) ∧ TriL H' ts (endsP ((es.map (·.1)).take i) th))
      ⟨same_new hD, [], upd_same, rfl, fun j t p a => by simp at a⟩ (fun i H' _ h => hlk _ h.1) (fun i x H2 H3 hi h y => ?_) (fun H2 h => ?_)
    · obtain ⟨s2, ts, hDl, hts⟩ := h
      obtain ⟨T, ky, v, q, hkv, rfl, hq, hTn, rfl⟩ := y
      obtain ⟨e, he, hee⟩ : ∃ e, es[i]? = some e ∧ (ky, v) = (keyP e.1, V.ref e.2) := by
        unfold kvsOf at hkv
        rw [List.getElem?_map] at hkv
        cases z : es[i]? with
        | none => rw [z] at hkv; cases hkv
        | some e => rw [z] at hkv; exact ⟨e, rfl, (Option.some.inj hkv).symm⟩
      injection hee with hk1 hv1
      subst hk1 hv1
      obtain ⟨row, hrw, hrl⟩ := hrows e (List.mem_of_getElem? he)
      have hrw2 := old _ _ hrw H2 s2
      have s3 : Same H2 (upd H2 T (.tup [.ref q, .ref e.2])) := same_new hTn
      have hq3 : upd H2 T (.tup [.ref q, .ref e.2]) q = some (.tup (prV e.1)) := s3 _ _ hq
      have hrw3 := s3 _ _ hrw2
      have hmore := endsP_more (x := th) (at_fst he)
      refine ⟨T, _, rfl, SqT.of upd_same, rfl, _, _, rfl, _, _, rfl, rfl, rfl, ?_⟩
      refine ⟨_, rfl, q, _, _, _, rfl, rfl, SqT.of hq3, at_of (j := 0) (v := .int e.1.1) rfl rfl, _, rfl, rfl, _, rfl, ?_⟩
      by_cases c : e.1.1 = th
      · refine itdT (by rw [c]) ?_
        refine ⟨_, rfl, e.2, _, rfl, .inr (SqT.of hrw3), _, rfl, _, rfl, q, _, _, _, rfl, rfl, SqT.of hq3, at_of (j := 1) (v := .int e.1.2) rfl rfl, (by show 3 ≤ sizeLine; decide), fun R hR => ?_⟩
        rw [List.length_map]
        have s4 : Same (upd H2 T (.tup [.ref q, .ref e.2])) (upd (upd H2 T (.tup [.ref q, .ref e.2])) R (.tup [.int (row.length : Nat), .ref e.2, .int e.1.2])) := same_new hR
        have s24 := s3.trans s4
        have hR4 : upd (upd H2 T (.tup [.ref q, .ref e.2])) R (.tup [.int (row.length : Nat), .ref e.2, .int e.1.2]) R = some (.tup [.int (row.length : Nat), .ref e.2, .int e.1.2]) := upd_same
        have hrw4 := s4 _ _ hrw3
        generalize upd (upd H2 T (.tup [.ref q, .ref e.2])) R (.tup [.int (row.length : Nat), .ref e.2, .int e.1.2]) = H4 at s4 s24 hR4 hrw4
        have hDl4 := s24 _ _ hDl
        have hts4 := hts.same s24
        have few : ts.length ≤ 64 := by
          have z : ts.length ≤ es.length := by
            rw [hts.1]
            unfold endsP
            rw [List.length_map]
            refine Nat.le_trans (List.length_filter_le _ _) ?_
            rw [List.length_take, List.length_map]
            omega
          have z2 := few_pairs hT.s12 hC.nd fun p hp => ((hC.mem p).mp hp).inS hT hin
          rw [List.length_map] at z2
          omega
        refine ⟨_, hDl4, by rw [List.length_map]; exact small8 few, same_put (s2.trans s24) hD, ts ++ [R], by rw [upd_same, List.map_append]; rfl, ?_⟩
        rw [hmore, if_pos c]
        have keep : ∀ (b : Addr) (xs : List V), H4 b = some (.tup xs) → upd H4 D (.lst (ts.map V.ref ++ [.ref R])) b = some (.tup xs) := fun b xs hb => by
          rw [upd_ne (ne_of hb hDl4 (by intro z; cases z))]
          exact hb
        have z : TriL H4 (ts ++ [R]) (endsP ((es.map (·.1)).take i) th ++ [e.1.2]) := hts4.snoc ⟨e.2, row, hR4, hrw4⟩
        refine ⟨z.1, fun j t p a b => ?_⟩
        obtain ⟨q', r', x1, x2⟩ := z.2 j t p a b
        exact ⟨q', r', keep _ _ x1, keep _ _ x2⟩
      · refine itdF (fun z => c (by injection z)) ⟨s2.trans s3, ts, s3 _ _ hDl, ?_⟩
        rw [hmore, if_neg c, List.append_nil]
        exact hts.same s3
    · obtain ⟨s2, ts, hDl, hts⟩ := h
      have e1 : (es.map (·.1)).take (kvsOf es).length = es.map (·.1) := by
        unfold kvsOf
        rw [List.length_map, ← List.length_map (f := (·.1)), List.take_length]
      rw [e1] at hts
      refine ⟨hlk _ s2, ?_⟩
      have s3 : Same H (upd H2 dd (.dT (kvsOf es))) := fun b o e => by
        have n : b ≠ dd := ne_of_none e hd0
        rw [upd_ne n]
        refine s2 _ _ ?_
        rw [upd_ne n]
        exact s1 _ _ e
      have nDd : D ≠ dd := nD
      have keep : ∀ (b : Addr) (xs : List V), H2 b = some (.tup xs) → upd H2 dd (.dT (kvsOf es)) b = some (.tup xs) := fun b xs hb => by
        rw [upd_ne (ne_of hb (hlk _ s2) (by intro z; cases z))]
        exact hb
      have hts3 : TriL (upd H2 dd (.dT (kvsOf es))) ts (endsP (es.map (·.1)) th) := ⟨hts.1, fun j t p a b => by
        obtain ⟨q', r', x1, x2⟩ := hts.2 j t p a b
        exact ⟨q', r', keep _ _ x1, keep _ _ x2⟩⟩
      have hD3 : upd H2 dd (.dT (kvsOf es)) D = some (.lst (ts.map V.ref)) := by rw [upd_ne nDd]; exact hDl
      generalize upd H2 dd (.dT (kvsOf es)) = H3 at s3 hts3 hD3
      refine ⟨_, rfl, D, ts, triR H3, triP H3, rfl, SqL.of hD3, fun t ht => (hts3.all t ht).at_.2, fun ts' l hp hl => ?_⟩
      have s4 : Same H3 (upd H3 l (.lst (ts'.map V.ref))) := same_new hl
      have e4 : ∀ t ∈ ts, triP (upd H3 l (.lst (ts'.map V.ref))) t = triP H3 t := fun t ht => ((hts3.all t ht).same s4).at_.1
      refine k _ l ts' (es.map (·.1)) (s3.trans s4) upd_same (fun t ht => ?_) ?_ hC
      · have hm := hp.mem_iff.mp ht
        rw [e4 t hm]
        exact (hts3.all t hm).same s4
      · have e5 : ts'.map (triP (upd H3 l (.lst (ts'.map V.ref)))) = ts'.map (triP H3) := List.map_congr_left fun t ht => e4 t (hp.mem_iff.mp ht)
        rw [e5, ← hts3.map]
        exact hp.map _
end
end Hl
set_option Elab.async false
set_option maxRecDepth 100000
set_option maxHeartbeats 4000000
namespace Hl
open PySem PySem.Spec PyProof.Rows L2
theorem oneOf_one {l : List Int} (h : l.length = 1) : ∃ e, l = [e] ∧ oneOf l = some e := by
  match l, h with
  | [e], _ => exact ⟨e, rfl, rfl⟩
theorem oneOf_not {l : List Int} (h : l.length ≠ 1) : oneOf l = none := by
  match l, h with
  | [], _ => rfl
  | [_], h => exact absurd rfl h
  | _ :: _ :: _, _ => rfl
theorem JoinIs.inS {tb : List (List Int)} {S : Nat} {ar he th e : Int} (T : Tb tb S) (h : InS S (ar, he)) (j : JoinIs tb ar he th (some e)) : 0 ≤ e ∧ e < (S : Int) := by
  obtain ⟨W, c, h1⟩ := j
  have hm : e ∈ endsP W th := by
    match hw : endsP W th, h1 with
    | [x], h1 =>
      have : e = x := Option.some.inj h1
      rw [this]
      exact List.mem_singleton.mpr rfl
    | [], h1 => cases h1
    | _ :: _ :: _, h1 => cases h1
  obtain ⟨p, hp, rfl⟩ := List.mem_map.mp hm
  have hr := ((c.mem p).mp (List.mem_filter.mp hp).1).inS T h
  exact ⟨hr.2.2.1, hr.2.2.2⟩
def spJoin (C Ex : Addr) : Sp := fun vs H Q E => ∃ (m : Addr) (tb : List (List Int)) (S : Nat) (ar he th : Int), vs = [.ref m, .int ar, .int he, .int th] ∧ MachAt C H m tb S ∧ InS S (ar, he) ∧ 0 ≤ th ∧ th < (S : Int) ∧
  ∀ (H' : Hp) (o : Option Int), Same H H' → JoinIs tb ar he th o → (∀ e, o = some e → Q (.int e) H') ∧ (o = none → ∀ (d : Addr) (fs : List (Str × V)), H' d = none → E (.ref Ex) (some d) (upd H' d (.xd fs)))
section
variable {P : Program} {w : World} {K : PySem.W.Frag} {mg : Str → Option Value} {base : Heap} {a : Ad} {d : Fd}
theorem ok_Join (T : Txt P w K mg a d) : FnOk P w K mg base (L2.CX P w) 5 a.fJoin d.fJoin pJoin (spJoin a.cMachine a.xUntold) := by
  have GN : FnOk P w K mg base (L2.CX P w) 4 a.fNeedState d.fNeedState pNeedState (spNeedState a.cMachine a.xNoState) := ok_NeedState T
  have GE : FnOk P w K mg base CX0 2 a.fEndsOf d.fEndsOf pEndsOf (spEndsOf a.cMachine) := ok_EndsOf T
  refine T.FJoin.okX scJoin (fun vs H Q E h => ?_) (fun cdv A outer s H vs Q E hr h => ?_)
  · obtain ⟨m, tb, S, ar, he, th, rfl, _⟩ := h
    rfl
  · obtain ⟨m, tb, S, ar, he, th, rfl, hM, hin, h0, h1, k⟩ := h
    refine ⟨_, pss_cons (ps_expr (pe_call GN hr (by rfl) T.gNeedState T.FNeedState.kp T.bNeedState .nil passL (pa_cons (pv 0) (pa_cons (pv 1) pa_nil))))
      (pss_cons (ps_expr (pe_call GN hr (by rfl) T.gNeedState T.FNeedState.kp T.bNeedState .nil passL (pa_cons (pv 0) (pa_cons (pv 2) pa_nil))))
      (pss_cons (ps_expr (pe_call GN hr (by rfl) T.gNeedState T.FNeedState.kp T.bNeedState .nil passL (pa_cons (pv 0) (pa_cons (pv 3) pa_nil))))
      (pss_cons (ps_set (i := 4) scJoin.nd rfl (.inl rfl) (pe_call GE (hr.mono (by decide)) (by rfl) T.gEndsOf T.FEndsOf.kp T.bEndsOf .nil pass0 (pa_cons (pv 0) (pa_cons (pv 1) (pa_cons (pv 2) (pa_cons (pv 3) pa_nil))))))
      (pss_cons (ps_if (pt_cmpR op_ne (pe_callB call_len_seq (by rfl) T.b_len boot_len (pa_cons (pv 4) pa_nil)) pe_int (nomark _))
        (pss_one (raise_Untold (W := fun cls d _ H => E cls d H) T rfl hr (takes_of rfl rfl rfl rfl) (pa_cons (pv 1) (pa_cons (pv 2) (pa_cons (pv 3) pa_nil))))) pss_nil)
      (pss_one (ps_ret (pe_ix ix_tup (pe_ix ix_list (pv 4) pe_int (fun _ _ => rfl)) pe_int (fun _ _ => rfl)))))))), ?_⟩
    refine ⟨_, rfl, _, rfl, m, tb, S, ar, rfl, hM, fun _ _ => ?_, fun z => absurd ⟨hin.1, hin.2.1⟩ z⟩
    refine ⟨_, rfl, _, rfl, m, tb, S, he, rfl, hM, fun _ _ => ?_, fun z => absurd ⟨hin.2.2.1, hin.2.2.2⟩ z⟩
    refine ⟨_, rfl, _, rfl, m, tb, S, th, rfl, hM, fun _ _ => ?_, fun z => absurd ⟨h0, h1⟩ z⟩
    refine ⟨_, rfl, _, rfl, _, rfl, _, rfl, m, tb, S, (ar, he), th, rfl, hM, hin, fun H1 l ts W s1 hl hts hp hC => ?_⟩
    have hlen : ts.length = (endsP W th).length := by rw [← hp.length_eq, List.length_map]
    refine ⟨_, rfl, l, _, rfl, .inl (SqL.of hl), rfl, _, rfl, ?_⟩
    rw [List.length_map]
    by_cases c : ts.length = 1
    · have e1 : (!decide (V.int ((ts.length : Nat) : Int) = V.int 1)) = false := by rw [c]; rfl
      rw [e1]
      obtain ⟨e, h2, h3⟩ := oneOf_one (l := endsP W th) (by omega)
      have hj : JoinIs tb ar he th (some e) := ⟨W, hC, h3.symm⟩
      match ts, c, hts, hp with
      | [t], _, hts, hp =>
        have e2 : triP H1 t = e := by
          rw [h2] at hp
          have z := List.perm_singleton.mp hp
          simpa using z
        obtain ⟨q, r, x1, x2⟩ := hts t (List.mem_singleton.mpr rfl)
        refine iteF ⟨_, rfl, l, _, _, _, rfl, rfl, SqL.of hl, at_of (j := 0) (v := .ref t) rfl rfl, t, _, _, _, rfl, rfl, SqT.of x1, at_of (j := 2) (v := .int (triP H1 t)) rfl rfl, ?_⟩
        rw [e2]
        exact (k H1 _ s1 hj).1 e rfl
    · have e1 : (!decide (V.int ((ts.length : Nat) : Int) = V.int 1)) = true := by
        have : ¬ V.int ((ts.length : Nat) : Int) = V.int 1 := fun z => c (by injection z with z; omega)
        simp [this]
      rw [e1]
      have hj : JoinIs tb ar he th none := ⟨W, hC, (oneOf_not (by omega)).symm⟩
      exact iteT ⟨_, rfl, _, rfl, _, rfl, rfl, fun d hd => (k H1 _ s1 hj).2 rfl d _ hd⟩
end
end Hl
set_option Elab.async false
set_option maxRecDepth 100000
set_option maxHeartbeats 4000000
namespace Hl
open PySem PySem.Spec PyProof.Rows L2
/-! ### o.f as one of several targets -/
def gFld (K : PySem.W.Frag) (ta : TE) (f : Str) : TG := fun v σ H Q => ta σ H fun x H1 => ∃ a C dx fs, x = .ref a ∧ H1 a = some (.ins C dx fs) ∧ Cls K C ∧ NoAttr K C f ∧ fs.length < 1000 ∧ Q σ (upd H1 a (.ins C dx (putF f v fs)))
theorem pg_fld {X : Cx} {o : Expr} {ta : TE} {f : Str} {pos : Pos} (ha : PE X o ta) : PG X (.Attribute o f pos) (gFld X.K ta f) := by
  refine ⟨fun pins s σ H v u Q I r h => ?_⟩
  rw [arm_assign_Attribute]
  refine wpAny_bind (wpAny_holding (thn (ha.run pins s σ H _ I h) fun ov s1 ⟨x, H1, I1, r1, a, C, dx, fs, ex, ea, c, n, l, q1⟩ => ?_))
  subst ex
  obtain rfl : ov = Value.ref a := r1
  refine wpAny_bind (wpAny_standAt (wpAny_bind (wpAny_holding (setattr_ok I1 ea c n l r fun s3 I3 => ?_))))
  exact wpAny_release ⟨σ, _, I3, q1⟩
end Hl
set_option Elab.async false
set_option maxRecDepth 100000
set_option maxHeartbeats 4000000
namespace Hl
open PySem PySem.Spec PyProof.Rows L2
/-! ### store.py: the shape of a store -/
def stpV : Stp → List V
  | .doo h d => [.str "do", .int h, .int d]
  | .meet t => [.str "meet", .int t]
def oV : Option Int → V
  | none => .non
  | some i => .int i
def StpsAt (H : Hp) (as : List Addr) (l : List Stp) : Prop := as.length = l.length ∧ ∀ (j : Nat) (b : Addr) (x : Stp), as[j]? = some b → l[j]? = some x → H b = some (.tup (stpV x))
def StpT (H : Hp) (v : V) (l : List Stp) : Prop := ∃ (b : Addr) (as : List Addr), v = .ref b ∧ H b = some (.tup (as.map V.ref)) ∧ StpsAt H as l
def IntT (H : Hp) (v : V) (l : List Int) : Prop := ∃ b : Addr, v = .ref b ∧ H b = some (.tup (l.map V.int))
def CopT (H : Hp) (v : V) (l : List (Option Int)) : Prop := ∃ b : Addr, v = .ref b ∧ H b = some (.tup (l.map oV))
/-- backup and caught -/
def BkT (H : Hp) (v ca : V) : Option (List Int × List Int × List Stp) → Prop
  | none => v = .non ∧ ca = .non
  | some (c, t, g) => StpT H ca g ∧ ∃ (b : Addr) (x y : V), v = .ref b ∧ H b = some (.tup [x, y]) ∧ IntT H x c ∧ IntT H y t
/-- all tuples are as they were -/
def TupK (H H' : Hp) : Prop := ∀ b xs, H b = some (.tup xs) → H' b = some (.tup xs)
theorem TupK.of {H H' : Hp} (s : Same H H') : TupK H H' := fun b xs e => s b _ e
theorem But.tup {p : Addr} {H H' : Hp} {C dx : Addr} {fs : List (Str × V)} (h : But p H H') (hp : H p = some (.ins C dx fs)) : TupK H H' := fun b xs e => h b _ e (ne_of e hp (by intro z; cases z))
theorem StpsAt.keep {H H' : Hp} {as : List Addr} {l : List Stp} (h : StpsAt H as l) (k : TupK H H') : StpsAt H' as l := ⟨h.1, fun j b x e1 e2 => k _ _ (h.2 j b x e1 e2)⟩
theorem StpT.keep {H H' : Hp} {v : V} {l : List Stp} (h : StpT H v l) (k : TupK H H') : StpT H' v l := by
  obtain ⟨b, as, e, h1, h2⟩ := h
  exact ⟨b, as, e, k _ _ h1, h2.keep k⟩
theorem IntT.keep {H H' : Hp} {v : V} {l : List Int} (h : IntT H v l) (k : TupK H H') : IntT H' v l := by
  obtain ⟨b, e, h1⟩ := h
  exact ⟨b, e, k _ _ h1⟩
theorem CopT.keep {H H' : Hp} {v : V} {l : List (Option Int)} (h : CopT H v l) (k : TupK H H') : CopT H' v l := by
  obtain ⟨b, e, h1⟩ := h
  exact ⟨b, e, k _ _ h1⟩
theorem BkT.keep {H H' : Hp} {v ca : V} : ∀ {o : Option (List Int × List Int × List Stp)}, BkT H v ca o → TupK H H' → BkT H' v ca o
  | none, h, _ => h
  | some (c, t, g), h, k => by
    obtain ⟨h1, b, x, y, e, h2, h3, h4⟩ := h
    exact ⟨h1.keep k, b, x, y, e, k _ _ h2, h3.keep k, h4.keep k⟩
/-- what the fields hold is the net n -/
structure NetV (H : Hp) (n : Net) (st ar sp bk ca co ti go : V) : Prop where
  st : IntT H st n.st
  ar : IntT H ar n.ar
  sp : StpT H sp n.sp
  bk : BkT H bk ca n.bk
  co : CopT H co n.co
  ti : IntT H ti n.ti
  go : StpT H go n.go
theorem NetV.keep {H H' : Hp} {n : Net} {st ar sp bk ca co ti go : V} (h : NetV H n st ar sp bk ca co ti go) (k : TupK H H') : NetV H' n st ar sp bk ca co ti go :=
  ⟨h.st.keep k, h.ar.keep k, h.sp.keep k, h.bk.keep k, h.co.keep k, h.ti.keep k, h.go.keep k⟩
def storeF (m wb : Addr) (first st ar sp bk ca co ti go : V) : List (Str × V) := [("machine", .ref m), ("web", .ref wb), ("first", first), ("states", st), ("archives", ar), ("steps", sp), ("backup", bk), ("caught", ca), ("copies", co), ("tied", ti), ("going", go)]
/-- what a store stands on: its machine, its web -/
structure Und (a : Ad) (H : Hp) (s m wb : Addr) (tb : List (List Int)) (S : Nat) (ps : List Pr) (nh : Nat) : Prop where
  um : MachAt a.cMachine H m tb S
  uw : WebAt a.cWeb H wb ps nh
  nm : m ≠ s
  nw : wb ≠ s
theorem MachAt.but {C : Addr} {H H' : Hp} {m s : Addr} {tb : List (List Int)} {S : Nat} (h : MachAt C H m tb S) (b : But s H H') (k : TupK H H') (n : m ≠ s) : MachAt C H' m tb S := by
  obtain ⟨⟨dx, t, bs, h1, h2, h3⟩, h4⟩ := h
  exact ⟨⟨dx, t, bs, b _ _ h1 n, k _ _ h2, h3.1, fun j a r e1 e2 => k _ _ (h3.2 j a r e1 e2)⟩, h4⟩
theorem WebAt.but {C : Addr} {H H' : Hp} {m s : Addr} {ps : List Pr} {n : Nat} (h : WebAt C H m ps n) (b : But s H H') (k : TupK H H') (ne : m ≠ s) : WebAt C H' m ps n := by
  obtain ⟨⟨dx, t, bs, h1, h2, h3⟩, h4⟩ := h
  exact ⟨⟨dx, t, bs, b _ _ h1 ne, k _ _ h2, h3.1, fun j a r e1 e2 => k _ _ (h3.2 j a r e1 e2)⟩, h4⟩
theorem Und.but {a : Ad} {H H' : Hp} {s m wb : Addr} {tb : List (List Int)} {S : Nat} {ps : List Pr} {nh : Nat} (h : Und a H s m wb tb S ps nh) (b : But s H H') (k : TupK H H') : Und a H' s m wb tb S ps nh := ⟨h.um.but b k h.nm, h.uw.but b k h.nw, h.nm, h.nw⟩
/-- a Store of the net n stands at s -/
structure StoreAt (a : Ad) (H : Hp) (s m wb : Addr) (tb : List (List Int)) (S : Nat) (ps : List Pr) (nh N : Nat) (n : Net) : Prop where
  at_ : ∃ (dx : Addr) (first st ar sp bk ca co ti go : V), H s = some (.ins a.cStore dx (storeF m wb first st ar sp bk ca co ti go)) ∧ NetV H n st ar sp bk ca co ti go
  und : Und a H s m wb tb S ps nh
  gd : Gd S nh ps.length N n
theorem StoreAt.same {a : Ad} {H H' : Hp} {s m wb : Addr} {tb : List (List Int)} {S : Nat} {ps : List Pr} {nh N : Nat} {n : Net} (h : StoreAt a H s m wb tb S ps nh N n) (k : Same H H') : StoreAt a H' s m wb tb S ps nh N n := by
  obtain ⟨⟨dx, first, st, ar, sp, bk, ca, co, ti, go, h1, h2⟩, u, g⟩ := h
  exact ⟨⟨dx, first, st, ar, sp, bk, ca, co, ti, go, k _ _ h1, h2.keep (.of k)⟩, u.but (.of k) (.of k), g⟩
/-! ### with_item -/
def spWithItem : Sp := fun vs H Q _ => ∃ (r : Addr) (xs : List V) (j : Nat) (v : V), vs = [.ref r, .int j, v] ∧ H r = some (.tup xs) ∧ j < xs.length ∧ xs.length ≤ 1000 ∧ ∀ (p : Addr) (H' : Hp), Same H H' → H' p = some (.tup (xs.set j v)) → Q (.ref p) H'
theorem cut_upto {xs : List V} {j : Nat} (h : j ≤ xs.length) : cutV xs none (some (j : Int)) = xs.take j := by
  unfold cutV
  rw [HT.sIx_none, HT.sIx_nat, Nat.min_eq_left h]
  simp
theorem cut_from {xs : List V} {j : Nat} (h : j ≤ xs.length) : cutV xs (some (j : Int)) none = xs.drop j := by
  unfold cutV
  rw [HT.sIx_none, HT.sIx_nat, Nat.min_eq_left h]
  exact List.take_of_length_le (by rw [List.length_drop]; omega)
theorem set_cut {xs : List V} {j : Nat} {v : V} (h : j < xs.length) : (xs.take j ++ [v]) ++ xs.drop (j + 1) = xs.set j v := by
  rw [List.set_eq_take_append_cons_drop, if_pos h, List.append_assoc]
  rfl
section
variable {P : Program} {w : World} {K : PySem.W.Frag} {mg : Str → Option Value} {base : Heap} {a : Ad} {d : Fd}
theorem ok_WithItem (T : Txt P w K mg a d) : FnOk P w K mg base CX0 1 a.fWithItem d.fWithItem pWithItem spWithItem := by
  refine T.FWithItem.ok scWithItem (fun vs H Q E h => ?_) (fun cdv A outer s H vs Q E hr h => ?_)
  · obtain ⟨r, xs, j, v, rfl, _⟩ := h
    rfl
  · obtain ⟨r, xs, j, v, rfl, hx, hj, hz, k⟩ := h
    refine ⟨_, pss_one (ps_ret (pe_op op_catN (pe_op op_catN (pe_slice sl_tupN (pv 0) po_none (po_some (pv 1))) (pe_tup (pa_cons (pv 2) pa_nil))) (pe_slice sl_tupN (pv 0) (po_some (pe_op op_add (pv 1) pe_int)) po_none))), ?_⟩
    refine ⟨_, rfl, _, rfl, _, rfl, r, xs, rfl, hx, fun p1 H1 s1 h1 => ?_⟩
    rw [cut_upto (Nat.le_of_lt hj)] at h1
    refine ⟨_, rfl, (by show 1 ≤ sizeLine; decide), fun p2 hp2 => ?_⟩
    have s2 : Same H1 (upd H1 p2 (.tup [v])) := same_new hp2
    refine ⟨p1, p2, _, _, rfl, rfl, s2 _ _ h1, upd_same, ?_, fun p3 H3 s3 h3 => ?_⟩
    · rw [List.length_take, sizeLine_eq]
      show min j xs.length + 1 ≤ _
      omega
    have s13 := (s1.trans s2).trans s3
    refine ⟨_, rfl, _, rfl, _, _, rfl, rfl, _, rfl, r, xs, rfl, s13 _ _ hx, fun p4 H4 s4 h4 => ?_⟩
    rw [show ((j : Int) + 1) = ((j + 1 : Nat) : Int) by omega, cut_from hj] at h4
    refine ⟨p3, p4, _, _, rfl, rfl, s4 _ _ h3, h4, ?_, fun p5 H5 s5 h5 => ?_⟩
    · rw [List.length_append, List.length_take, List.length_drop, sizeLine_eq]
      show min j xs.length + 1 + _ ≤ _
      omega
    refine k p5 H5 ((s13.trans s4).trans s5) ?_
    rw [h5, set_cut hj]
end
end Hl
set_option Elab.async false
set_option linter.all false
set_option maxRecDepth 100000
set_option maxHeartbeats 4000000
namespace Hl
open PySem PySem.Spec PyProof.Rows L2
theorem len_putF (f : Str) (v : V) : ∀ fs : List (Str × V), (putF f v fs).length ≤ fs.length + 1
  | [] => Nat.le_refl _
  | (g, x) :: r => by
    unfold putF
    by_cases h : g = f
    · rw [if_pos h]; exact Nat.le_succ _
    · rw [if_neg h]
      exact Nat.succ_le_succ (len_putF f v r)
theorem look_ne {f g : Str} {v : V} {fs : List (Str × V)} (h : ¬ g = f) : (putF f v fs).lookup g = fs.lookup g := by rw [lookup_putF, if_neg h]
def spLeaveWalk (a : Ad) : Sp := fun vs H Q _ => ∃ (s dx wb : Addr) (fs : List (Str × V)) (x y : V) (ps : List Pr) (nh : Nat), vs = [.ref s] ∧ H s = some (.ins a.cStore dx fs) ∧ fs.length ≤ 900 ∧ fs.lookup ("web" : Str) = some (.ref wb) ∧ fs.lookup ("archives" : Str) = some x ∧ fs.lookup ("steps" : Str) = some y ∧
  WebAt a.cWeb H wb ps nh ∧ wb ≠ s ∧ ∀ (H' : Hp) (co : Addr), H' s = some (.ins a.cStore dx (putF "going" y (putF "tied" x (putF "copies" (.ref co) fs)))) → But s H H' → H' co = some (.tup (List.replicate nh .non)) → Q .non H'
section
variable {P : Program} {w : World} {K : PySem.W.Frag} {mg : Str → Option Value} {base : Heap} {a : Ad} {d : Fd}
theorem ok_LeaveWalk (T : Txt P w K mg a d) : FnOk P w K mg base CX0 1 a.fLeaveWalk d.fLeaveWalk pLeaveWalk (spLeaveWalk a) := by
  refine T.FLeaveWalk.ok scLeaveWalk (fun vs H Q E h => ?_) (fun cdv A outer s H vs Q E hr h => ?_)
  · obtain ⟨s, dx, wb, fs, x, y, ps, nh, rfl, _⟩ := h
    rfl
  · obtain ⟨s, dx, wb, fs, x, y, ps, nh, rfl, hs, hz, l1, l2, l3, hW, nw, k⟩ := h
    obtain ⟨⟨dw, t, ts, hw, ht, hR⟩, hWs⟩ := id hW
    have hn4 := hWs.n4
    refine ⟨_, pss_cons (ps_fld (pv 0) (pe_op op_repN (pe_tup (pa_cons pe_non pa_nil)) (pe_fld (pe_fld (pv 0) rfl) rfl)) rfl)
      (pss_cons (ps_fld (pv 0) (pe_fld (pv 0) rfl) rfl)
      (pss_one (ps_fld (pv 0) (pe_fld (pv 0) rfl) rfl))), ?_⟩
    refine ⟨(by show 1 ≤ sizeLine; decide), fun q hq => ?_⟩
    have s1 : Same H (upd H q (.tup [.non])) := same_new hq
    refine ⟨_, rfl, s, _, dx, _, _, rfl, s1 _ _ hs, T.clStore, T.nStore_web, l1, wb, _, dw, _, _, rfl, s1 _ _ hw, T.clWeb, T.nWeb_houses, rfl, ?_⟩
    refine ⟨q, nh, .non, rfl, rfl, upd_same, by omega, fun co H2 s2 hco => ?_⟩
    have s02 := s1.trans s2
    refine ⟨_, rfl, s, _, dx, _, rfl, s02 _ _ hs, T.clStore, T.nStore_copies, by omega, ?_⟩
    refine ⟨_, rfl, s, _, dx, _, _, rfl, upd_same, T.clStore, T.nStore_archives, (by rw [look_ne (by decide +kernel)]; exact l2), ?_⟩
    have z1 := len_putF "copies" (.ref co) fs
    refine ⟨_, rfl, s, _, dx, _, rfl, upd_same, T.clStore, T.nStore_tied, by omega, ?_⟩
    refine ⟨_, rfl, s, _, dx, _, _, rfl, upd_same, T.clStore, T.nStore_steps, (by rw [look_ne (by decide +kernel), look_ne (by decide +kernel)]; exact l3), ?_⟩
    have z2 := len_putF "tied" x (putF "copies" (.ref co) fs)
    refine ⟨_, rfl, s, _, dx, _, rfl, upd_same, T.clStore, T.nStore_going, by omega, ?_⟩
    have nc : co ≠ s := ne_of hco (s02 _ _ hs) (by intro z; cases z)
    exact k _ co upd_same (((But.of s02).put).put.put) (by rw [upd_ne nc, upd_ne nc, upd_ne nc]; exact hco)
end
/-- a walk is over: what the fields are then -/
theorem storeF_left {m wb : Addr} {first st ar sp bk ca co ti go : V} {c : Addr} : putF "going" sp (putF "tied" ar (putF "copies" (.ref c) (storeF m wb first st ar sp bk ca co ti go))) = storeF m wb first st ar sp bk ca (.ref c) ar sp := by rfl
theorem rep_oV (n : Nat) : List.replicate n V.non = (List.replicate n (none : Option Int)).map oV := by rw [List.map_replicate]; rfl
end Hl
set_option Elab.async false
set_option linter.all false
set_option maxRecDepth 100000
set_option maxHeartbeats 4000000
namespace Hl
open PySem PySem.Spec PyProof.Rows L2
def rIsN : R2 := fun x y H Q => y = .non ∧ Q (.bl (decide (x = .non))) H
def rNotN : R2 := fun x y H Q => y = .non ∧ Q (.bl (!decide (x = .non))) H
def spCount (a : Ad) : Sp := fun vs H Q _ => ∃ (s m wb sa ha : Addr) (tb : List (List Int)) (S : Nat) (ps : List Pr) (nh N : Nat) (n : Net) (x : Stp) (hl : List Int), vs = [.ref s, .ref sa, .ref ha] ∧ StoreAt a H s m wb tb S ps nh N n ∧ N ≤ 100 ∧ H sa = some (.tup (stpV x)) ∧ H ha = some (.tup (hl.map V.int)) ∧
  hl.length ≤ 2 ∧ (∀ h ∈ hl, 0 ≤ h ∧ h < (nh : Int)) ∧ ∀ H', StoreAt a H' s m wb tb S ps nh (N + 1) (n.counted x hl) → But s H H' → Q .non H'
theorem noCopy_at {co : List (Option Int)} {h : Int} (h0 : 0 ≤ h) (h1 : h < (co.length : Int)) : ∃ o, co[h.toNat]? = some o ∧ noCopy co h = o.isNone ∧ decide (oV o = V.non) = o.isNone := by
  obtain ⟨o, ho⟩ : ∃ o, co[h.toNat]? = some o := ⟨co[h.toNat]'(by omega), List.getElem?_eq_getElem _⟩
  refine ⟨o, ho, ?_, ?_⟩
  · unfold noCopy
    rw [List.getD_eq_getElem?_getD, ho]
    rfl
  · cases o with
    | none => rfl
    | some i => rfl
theorem StpT.snoc {H H' : Hp} {v : V} {l : List Stp} {sa p : Addr} {x : Stp} (k : TupK H H') (h : StpT H v l) (hs : H sa = some (.tup (stpV x))) (as : List Addr) (b : Addr) (hb : H b = some (.tup (as.map V.ref))) (hv : v = .ref b) (hp : H' p = some (.tup (as.map V.ref ++ [.ref sa]))) : StpT H' (.ref p) (l ++ [x]) := by
  obtain ⟨b', as', e, h1, h2⟩ := h
  rw [hv] at e
  injection e with e
  subst e
  rw [hb] at h1
  have h1 := Option.some.inj h1
  injection h1 with h1
  have ea : as' = as := by
    have z := congrArg (List.map fun v => match v with | V.ref q => q | _ => 0) h1
    simp only [List.map_map] at z
    rw [show ((fun v : V => match v with | V.ref q => q | _ => 0) ∘ V.ref) = id from rfl, List.map_id, List.map_id] at z
    exact z.symm
  subst ea
  refine ⟨p, as' ++ [sa], rfl, by rw [hp, List.map_append]; rfl, by rw [List.length_append, List.length_append, h2.1]; rfl, fun j b x' e1 e2 => ?_⟩
  by_cases hj : j < as'.length
  · rw [List.getElem?_append_left hj] at e1
    rw [List.getElem?_append_left (by rw [← h2.1]; exact hj)] at e2
    exact k _ _ (h2.2 j b x' e1 e2)
  · have hj2 : j = as'.length := by
      have z := (List.getElem?_eq_some_iff.mp e1).1
      rw [List.length_append] at z
      simp at z
      omega
    subst hj2
    rw [List.getElem?_append_right (Nat.le_refl _)] at e1
    rw [h2.1, List.getElem?_append_right (Nat.le_refl _)] at e2
    simp at e1 e2
    rw [← e1, ← e2]
    exact k _ _ hs
section
variable {P : Program} {w : World} {K : PySem.W.Frag} {mg : Str → Option Value} {base : Heap} {a : Ad} {d : Fd}
theorem ok_Count (T : Txt P w K mg a d) : FnOk P w K mg base CX0 1 a.fCount d.fCount pCount (spCount a) := by
  refine T.FCount.ok scCount (fun vs H Q E h => ?_) (fun cdv A outer s H vs Q E hr h => ?_)
  · obtain ⟨s, m, wb, sa, ha, tb, S, ps, nh, N, n, x, hl, rfl, _⟩ := h
    rfl
  · obtain ⟨s, m, wb, sa, ha, tb, S, ps, nh, N, n, x, hl, rfl, hS, hN, hsa, hha, hl2, hin, k⟩ := h
    obtain ⟨⟨dx, first, st, ar, sp, bk, ca, co, ti, go, hs, hV⟩, u, g⟩ := id hS
    obtain ⟨bsp, asp, rfl, hsp1, hsp2⟩ := id hV.sp
    obtain ⟨bgo, ago, rfl, hgo1, hgo2⟩ := id hV.go
    obtain ⟨bco, rfl, hco⟩ := id hV.co
    have lsp := g.sp
    have lgo := g.go
    have lsp2 : asp.length = n.sp.length := hsp2.1
    have lgo2 : ago.length = n.go.length := hgo2.1
    refine ⟨_, pss_cons (ps_fldaug (pv 0) (pe_tup (pa_cons (pv 1) pa_nil)) in_catN)
      (pss_one (ps_if (pt_val (pe_callB (cr_all rfl) (by rfl) T.b_all boot_all (pa_cons (pe_lc (own := [("house", 3)]) (g := gName 3) (tt := tYes) (te := tOp rIsN (tOp (rIxT K) (tFld K (tVar 0) "copies") (tVar 3)) (tC .non)) rfl scCount.nd (pi_tup (pv 2)) (blkOk_by (own := [("house", 3)]) (N := nCount) (sc := defScope sCount) (by decide +kernel))
          (fun _ _ _ _ _ => pg_name (i := 3) scCount.nd rfl (Or.inl rfl)) (fun _ _ _ _ _ => pts_nil)
          (fun _ _ _ _ _ => pe_cmpR op_isN (pe_ix ix_tup (pe_fld (pv 0) rfl) (pv 3) (fun _ _ => rfl)) pe_non (nomark _))) pa_nil)))
        (pss_one (ps_fldaug (pv 0) (pe_tup (pa_cons (pv 1) pa_nil)) in_catN)) pss_nil)), ?_⟩
    -- self.steps += (step,)
    refine ⟨_, rfl, s, a.cStore, dx, _, _, rfl, hs, T.clStore, T.nStore_steps, rfl, _, rfl, (by show 1 ≤ sizeLine; decide), fun q hq => ?_⟩
    have s1 : Same H (upd H q (.tup [.ref sa])) := same_new hq
    refine ⟨bsp, q, _, _, rfl, rfl, s1 _ _ hsp1, upd_same, ?_, fun p1 H2 s2 hp1 => ?_⟩
    · rw [List.length_map, sizeLine_eq]
      show asp.length + 1 ≤ _
      omega
    have s02 := s1.trans s2
    refine ⟨dx, _, s02 _ _ hs, (by show 11 < 1000; decide), ?_⟩
    have hV2 := hV.keep (.of s02)
    have np1 : p1 ≠ s := ne_of hp1 (s02 _ _ hs) (by intro z; cases z)
    have b3 : But s H (upd H2 s (.ins a.cStore dx (storeF m wb first st ar (.ref p1) bk ca (.ref bco) ti (.ref bgo)))) := (But.of s02).put
    have k3 : TupK H (upd H2 s (.ins a.cStore dx (storeF m wb first st ar (.ref p1) bk ca (.ref bco) ti (.ref bgo)))) := b3.tup hs
    have hs3 : upd H2 s (.ins a.cStore dx (storeF m wb first st ar (.ref p1) bk ca (.ref bco) ti (.ref bgo))) s = some (.ins a.cStore dx (storeF m wb first st ar (.ref p1) bk ca (.ref bco) ti (.ref bgo))) := upd_same
    have hp13 : upd H2 s (.ins a.cStore dx (storeF m wb first st ar (.ref p1) bk ca (.ref bco) ti (.ref bgo))) p1 = some (.tup (asp.map V.ref ++ [.ref sa])) := by rw [upd_ne np1]; exact hp1
    have hst3 : StpT (upd H2 s (.ins a.cStore dx (storeF m wb first st ar (.ref p1) bk ca (.ref bco) ti (.ref bgo)))) (.ref p1) (n.sp ++ [x]) := StpT.snoc k3 hV.sp hsa asp bsp hsp1 rfl hp13
    rw [show putF "steps" (V.ref p1) (storeF m wb first st ar (.ref bsp) bk ca (.ref bco) ti (.ref bgo)) = storeF m wb first st ar (.ref p1) bk ca (.ref bco) ti (.ref bgo) from rfl]
    generalize upd H2 s (.ins a.cStore dx (storeF m wb first st ar (.ref p1) bk ca (.ref bco) ti (.ref bgo))) = H3 at b3 k3 hs3 hst3
    have hha3 := k3 _ _ hha
    have hco3 := k3 _ _ hco
    refine ⟨_, rfl, ha, rfl, ⟨_, SqT.of hha3⟩, fun D hD => ?_⟩
    refine lc_fil (walk_tup (xs := hl.map V.int)) (fun _ => true) (fun i => .bl (noCopy n.co (hl.getD i 0))) hD (by rw [List.length_map]; exact small8 hl2) (fun H s => .inl (.inl (s _ _ hha3))) (fun i y H4 H5 kk k0 hi s4 yy hy _ => ?_) (fun H4 s4 e => ?_)
    · obtain ⟨rfl, hy2⟩ := yy
      obtain ⟨h, hh, rfl⟩ := map_at hy2
      have hm := hin h (List.mem_of_getElem? hh)
      obtain ⟨o, ho, e1, e2⟩ := noCopy_at (co := n.co) hm.1 (by rw [g.co]; exact hm.2)
      refine ⟨rfl, iteT (B := k0 H5) ?_⟩
      refine ⟨_, rfl, s, _, dx, _, _, rfl, s4 _ _ hs3, T.clStore, T.nStore_copies, rfl, _, rfl, bco, _, _, _, rfl, rfl, SqT.of (s4 _ _ hco3), at_of (j := h.toNat) (by omega) (at_map ho), rfl, ?_⟩
      have hy' := hy rfl _ (Same.refl _)
      rw [List.getD_eq_getElem?_getD, hh] at hy'
      rw [show (some h).getD 0 = h from rfl, e1, ← e2] at hy'
      exact hy'
    · rw [kept_all, List.length_map] at e
      refine ⟨D, (List.range hl.length).map fun i => noCopy n.co (hl.getD i 0), rfl, SqL.of (by rw [e, List.map_map]; rfl), _, rfl, ?_⟩
      have eb : ((List.range hl.length).map fun i => noCopy n.co (hl.getD i 0)).all id = hl.all (noCopy n.co) := by
        rw [List.all_map]
        have z : (List.range hl.length).map (fun i => hl.getD i 0) = hl := by
          apply List.ext_getElem
          · simp
          · intro i h1 h2
            simp [List.getD_eq_getElem?_getD, List.getElem?_eq_getElem h2]
        conv => rhs; rw [← z, List.all_map]
        rfl
      rw [eb]
      have k4 : TupK H H4 := fun b xs e => s4 _ _ (k3 _ _ e)
      have b4 : But s H H4 := fun b o e n => s4 _ _ (b3 b o e n)
      have hs4 := s4 _ _ hs3
      have hst4 : StpT H4 (.ref p1) (n.sp ++ [x]) := hst3.keep (.of s4)
      cases c : hl.all (noCopy n.co) with
      | false =>
        refine iteF (k H4 ⟨⟨dx, first, st, ar, .ref p1, bk, ca, .ref bco, ti, .ref bgo, hs4, ⟨hV.st.keep k4, hV.ar.keep k4, hst4, hV.bk.keep k4, hV.co.keep k4, hV.ti.keep k4, ?_⟩⟩, u.but b4 k4, g.counted x hl⟩ b4)
        show StpT H4 (.ref bgo) (if hl.all (noCopy n.co) = true then n.go ++ [x] else n.go)
        rw [c]
        exact hV.go.keep k4
      | true =>
        refine iteT ⟨_, rfl, s, a.cStore, dx, _, _, rfl, hs4, T.clStore, T.nStore_going, rfl, _, rfl, (by show 1 ≤ sizeLine; decide), fun q5 hq5 => ?_⟩
        have s5 : Same H4 (upd H4 q5 (.tup [.ref sa])) := same_new hq5
        refine ⟨bgo, q5, _, _, rfl, rfl, s5 _ _ (k4 _ _ hgo1), upd_same, ?_, fun p6 H6 s6 hp6 => ?_⟩
        · rw [List.length_map, sizeLine_eq]
          show ago.length + 1 ≤ _
          omega
        have s46 := s5.trans s6
        have hs6 := s46 _ _ hs4
        refine ⟨dx, _, hs6, (by show 11 < 1000; decide), ?_⟩
        have np6 : p6 ≠ s := ne_of hp6 hs6 (by intro z; cases z)
        have b6 : But s H (upd H6 s (.ins a.cStore dx (putF "going" (V.ref p6) (storeF m wb first st ar (.ref p1) bk ca (.ref bco) ti (.ref bgo))))) := But.put fun b o e n => s46 _ _ (b4 b o e n)
        have k6 := b6.tup hs
        have k46 : TupK H4 (upd H6 s (.ins a.cStore dx (putF "going" (V.ref p6) (storeF m wb first st ar (.ref p1) bk ca (.ref bco) ti (.ref bgo))))) := fun b xs e => by
          rw [upd_ne (ne_of e hs4 (by intro z; cases z))]
          exact s46 _ _ e
        refine k _ ⟨⟨dx, first, st, ar, .ref p1, bk, ca, .ref bco, ti, .ref p6, upd_same, ⟨hV.st.keep k6, hV.ar.keep k6, hst4.keep k46, hV.bk.keep k6, hV.co.keep k6, hV.ti.keep k6, ?_⟩⟩, u.but b6 k6, g.counted x hl⟩ b6
        show StpT _ (.ref p6) (if hl.all (noCopy n.co) = true then n.go ++ [x] else n.go)
        rw [c]
        exact StpT.snoc k6 hV.go hsa ago bgo hgo1 rfl (by rw [upd_ne np6]; exact hp6)
end
end Hl
set_option Elab.async false
set_option linter.all false
set_option maxRecDepth 100000
set_option maxHeartbeats 4000000
namespace Hl
open PySem PySem.Spec PyProof.Rows L2
/-- an error of the class at C is told of any heap that holds what stands here -/
def RW (H : Hp) (E : XK) (C : Addr) : Prop := ∀ (H' : Hp) (d : Addr), Same H H' → E (.ref C) (some d) H'
theorem RW.at_ {H : Hp} {E : XK} {C : Addr} (r : RW H E C) {H' : Hp} (s : Same H H') {d : Addr} {o : HO} (hd : H' d = none) : E (.ref C) (some d) (upd H' d o) := r _ d (same_put s (s.free hd))
def spDo (a : Ad) : Sp := fun vs H Q E => ∃ (s m wb : Addr) (tb : List (List Int)) (S : Nat) (ps : List Pr) (nh N : Nat) (n : Net) (h dd : Int), vs = [.ref s, .int h, .int dd] ∧ StoreAt a H s m wb tb S ps nh N n ∧ N ≤ 100 ∧
  (¬ (0 ≤ h ∧ h < (nh : Int)) → RW H E a.xNoHouse) ∧ (0 ≤ h → h < (nh : Int) → ¬ (0 ≤ dd ∧ dd < (tb.length : Int)) → RW H E a.xNoDeed) ∧
  (0 ≤ h → h < (nh : Int) → 0 ≤ dd → dd < (tb.length : Int) → ∀ H', StoreAt a H' s m wb tb S ps nh (N + 1) (n.doo tb h dd) → But s H H' → Q (.int (nextSt tb dd (n.st.getD h.toNat 0))) H')
theorem set_map {l : List Int} {i : Nat} {x : Int} : (l.map V.int).set i (.int x) = (l.set i x).map V.int := by rw [List.map_set]
section
variable {P : Program} {w : World} {K : PySem.W.Frag} {mg : Str → Option Value} {base : Heap} {a : Ad} {d : Fd}
theorem ok_Do (T : Txt P w K mg a d) : FnOk P w K mg base (L2.CX P w) 5 a.fDo d.fDo pDo (spDo a) := by
  have GH : FnOk P w K mg base (L2.CX P w) 4 a.fNeedHouse d.fNeedHouse pNeedHouse (spNeedHouse a.cWeb a.xNoHouse) := ok_NeedHouse T
  have GD : FnOk P w K mg base (L2.CX P w) 4 a.fNeedDeed d.fNeedDeed pNeedDeed (spNeedDeed a.cMachine a.xNoDeed) := ok_NeedDeed T
  have GW : FnOk P w K mg base CX0 1 a.fWithItem d.fWithItem pWithItem spWithItem := ok_WithItem T
  have GC : FnOk P w K mg base CX0 1 a.fCount d.fCount pCount (spCount a) := ok_Count T
  refine T.FDo.okX scDo (fun vs H Q E h => ?_) (fun cdv A outer s H vs Q E hr h => ?_)
  · obtain ⟨s, m, wb, tb, S, ps, nh, N, n, h, dd, rfl, _⟩ := h
    rfl
  · obtain ⟨s, m, wb, tb, S, ps, nh, N, n, h, dd, rfl, hS, hN, kH, kD, k⟩ := h
    obtain ⟨⟨dx, first, st, ar, sp, bk, ca, co, ti, go, hs, hV⟩, u, g⟩ := id hS
    obtain ⟨⟨dm, tm, bm, hm, htm, hRm⟩, hT⟩ := id u.um
    obtain ⟨bst, rfl, hst⟩ := id hV.st
    refine ⟨_, pss_cons (ps_set (i := 3) scDo.nd rfl (.inl rfl) (pe_ix ix_tup (pe_fld (pv 0) rfl) (pe_call (E := E) GH hr (by rfl) T.gNeedHouse T.FNeedHouse.kp T.bNeedHouse .nil (passes_call (takes_of rfl rfl rfl rfl) (fun _ _ _ _ h => h)) (pa_cons (pe_fld (pv 0) rfl) (pa_cons (pv 1) pa_nil))) (fun _ _ => rfl)))
      (pss_cons (ps_set (i := 3) scDo.nd rfl (.inl rfl) (pe_ix ix_tup (pe_ix ix_tup (pe_fld (pe_fld (pv 0) rfl) rfl) (pe_call (E := E) GD hr (by rfl) T.gNeedDeed T.FNeedDeed.kp T.bNeedDeed .nil (passes_call (takes_of rfl rfl rfl rfl) (fun _ _ _ _ h => h)) (pa_cons (pe_fld (pv 0) rfl) (pa_cons (pv 2) pa_nil))) (fun _ _ => rfl)) (pv 3) (fun _ _ => rfl)))
      (pss_cons (ps_fld (pv 0) (pe_call GW (hr.mono (by decide)) (by rfl) T.gWithItem T.FWithItem.kp T.bWithItem .nil pass0 (pa_cons (pe_fld (pv 0) rfl) (pa_cons (pv 1) (pa_cons (pv 3) pa_nil)))) rfl)
      (pss_cons (ps_expr (pe_meth (pv 0) T.clStore T.mCount GC (hr.mono (by decide)) T.bCount .nil pass0 (pa_cons (pe_tup (pa_cons pe_str (pa_cons (pv 1) (pa_cons (pv 2) pa_nil)))) (pa_cons (pe_tup (pa_cons (pv 1) pa_nil)) pa_nil))))
      (pss_one (ps_ret (pv 3)))))), ?_⟩
    refine ⟨_, rfl, s, _, dx, _, _, rfl, hs, T.clStore, T.nStore_states, rfl, ?_⟩
    refine ⟨_, rfl, s, _, dx, _, _, rfl, hs, T.clStore, T.nStore_web, rfl, _, rfl, wb, ps, nh, h, rfl, u.uw, fun h0 h1 => ?_, fun c q hq => (kH c).at_ (Same.refl _) hq⟩
    have hlt : h.toNat < n.st.length := by rw [g.st]; omega
    have hat : n.st[h.toNat]? = some (n.st.getD h.toNat 0) := by rw [List.getD_eq_getElem?_getD, List.getElem?_eq_getElem hlt]; rfl
    have hxR := g.stR _ (List.mem_of_getElem? hat)
    refine ⟨bst, _, _, _, rfl, rfl, SqT.of hst, at_of (j := h.toNat) (by omega) (at_map hat), ?_⟩
    refine ⟨_, rfl, s, _, dx, _, _, rfl, hs, T.clStore, T.nStore_machine, rfl, m, _, dm, _, _, rfl, hm, T.clMachine, T.nMachine_tables, rfl, ?_⟩
    refine ⟨_, rfl, s, _, dx, _, _, rfl, hs, T.clStore, T.nStore_machine, rfl, _, rfl, m, tb, S, dd, rfl, u.um, fun d0 d1 => ?_, fun c q hq => (kD h0 h1 c).at_ (Same.refl _) hq⟩
    obtain ⟨r, hr1, hrm, hr2, hnR⟩ := nextSt_in hT d0 d1 hxR
    obtain ⟨br, hbr⟩ := there (l := bm) (i := dd.toNat) (by rw [hRm.1]; omega)
    refine ⟨tm, _, _, _, rfl, rfl, SqT.of htm, at_of (j := dd.toNat) (by omega) (at_map hbr), ?_⟩
    refine ⟨_, rfl, br, _, _, _, rfl, rfl, SqT.of (hRm.2 _ _ _ hbr hr1), at_of (j := (n.st.getD h.toNat 0).toNat) (by have := hxR.1; omega) (at_map hr2), ?_⟩
    -- self.states = with_item(..)
    have hnh := u.uw.ok.n4
    refine ⟨_, rfl, s, _, dx, _, _, rfl, hs, T.clStore, T.nStore_states, rfl, _, rfl, _, rfl, bst, _, h.toNat, .int (nextSt tb dd (n.st.getD h.toNat 0)), (by rw [show ((h.toNat : Nat) : Int) = h by omega]; rfl), hst, by rw [List.length_map]; exact hlt, by rw [List.length_map, g.st]; omega, fun p1 H1 s1 hp1 => ?_⟩
    rw [set_map] at hp1
    refine ⟨_, rfl, s, _, dx, _, rfl, s1 _ _ hs, T.clStore, T.nStore_states, (by show 11 < 1000; decide), ?_⟩
    rw [show putF "states" (V.ref p1) (storeF m wb first (.ref bst) ar sp bk ca co ti go) = storeF m wb first (.ref p1) ar sp bk ca co ti go from rfl]
    have np1 : p1 ≠ s := ne_of hp1 (s1 _ _ hs) (by intro z; cases z)
    have b2 : But s H (upd H1 s (.ins a.cStore dx (storeF m wb first (.ref p1) ar sp bk ca co ti go))) := (But.of s1).put
    have k2 := b2.tup hs
    have hs2 : upd H1 s (.ins a.cStore dx (storeF m wb first (.ref p1) ar sp bk ca co ti go)) s = some (.ins a.cStore dx (storeF m wb first (.ref p1) ar sp bk ca co ti go)) := upd_same
    have hp2 : IntT (upd H1 s (.ins a.cStore dx (storeF m wb first (.ref p1) ar sp bk ca co ti go))) (.ref p1) (n.st.set h.toNat (nextSt tb dd (n.st.getD h.toNat 0))) := ⟨p1, rfl, by rw [upd_ne np1]; exact hp1⟩
    generalize upd H1 s (.ins a.cStore dx (storeF m wb first (.ref p1) ar sp bk ca co ti go)) = H2 at b2 k2 hs2 hp2
    refine ⟨_, rfl, s, dx, _, rfl, hs2, rfl, _, rfl, _, rfl, (by show 3 ≤ sizeLine; decide), fun q1 hq1 => ⟨_, rfl, (by show 1 ≤ sizeLine; decide), fun q2 hq2 => ?_⟩⟩
    have s3 : Same H2 (upd H2 q1 (.tup [.str "do", .int h, .int dd])) := same_new hq1
    have s4 := s3.trans (same_new (o := .tup [.int h]) hq2)
    have hq14 : upd (upd H2 q1 (.tup [.str "do", .int h, .int dd])) q2 (.tup [.int h]) q1 = some (.tup (stpV (.doo h dd))) := same_new hq2 _ _ upd_same
    have hq24 : upd (upd H2 q1 (.tup [.str "do", .int h, .int dd])) q2 (.tup [.int h]) q2 = some (.tup ([h].map V.int)) := upd_same
    have gd1 : Gd S nh ps.length N { n with st := n.st.set h.toNat (nextSt tb dd (n.st.getD h.toNat 0)) } := by
      refine ⟨by show (n.st.set _ _).length = nh; rw [List.length_set]; exact g.st, g.ar, g.co, g.ti, fun x hx => ?_, g.arR, g.coR, g.tiR, g.sp, g.go, g.bk⟩
      rcases mem_set_or (show x ∈ n.st.set h.toNat (nextSt tb dd (n.st.getD h.toNat 0)) from hx) with k | k
      · exact g.stR x k
      · rw [k]; exact hnR
    have S2 : StoreAt a H2 s m wb tb S ps nh N { n with st := n.st.set h.toNat (nextSt tb dd (n.st.getD h.toNat 0)) } :=
      ⟨⟨dx, first, .ref p1, ar, sp, bk, ca, co, ti, go, hs2, ⟨hp2, hV.ar.keep k2, hV.sp.keep k2, hV.bk.keep k2, hV.co.keep k2, hV.ti.keep k2, hV.go.keep k2⟩⟩, u.but b2 k2, gd1⟩
    refine ⟨s, m, wb, q1, q2, tb, S, ps, nh, N, _, .doo h dd, [h], rfl, S2.same s4, hN, hq14, hq24, (by show 1 ≤ 2; decide), fun x hx => by rw [List.mem_singleton.mp hx]; exact ⟨h0, h1⟩, fun H5 S5 b5 => ?_⟩
    refine ⟨_, rfl, k h0 h1 d0 d1 H5 S5 ?_⟩
    exact b2.trans ((But.of s4).trans b5)
end
end Hl
set_option Elab.async false
set_option linter.all false
set_option maxRecDepth 100000
set_option maxHeartbeats 4000000
namespace Hl
open PySem PySem.Spec PyProof.Rows L2
theorem inV_non : ∀ co : List (Option Int), inV .non (co.map oV) = !(co.all Option.isSome)
  | [] => rfl
  | o :: co => by
    have ih := inV_non co
    unfold inV at ih ⊢
    rw [List.map_cons, List.any_cons, ih, List.all_cons]
    cases o with
    | none => rfl
    | some i => rfl
theorem flat_oV : ∀ co : List (Option Int), (co.map oV).all flatV = true
  | [] => rfl
  | o :: co => by
    rw [List.map_cons, List.all_cons, flat_oV co]
    cases o <;> rfl
theorem vals_some : ∀ {co : List (Option Int)}, co.all Option.isSome = true → co.map oV = (valsOf co).map V.int
  | [], _ => rfl
  | o :: co, h => by
    rw [List.all_cons, Bool.and_eq_true] at h
    have ih := vals_some h.2
    unfold valsOf at ih ⊢
    rw [List.map_cons, List.map_cons, List.map_cons, ih]
    cases o with
    | none => cases h.1
    | some i => rfl
theorem fold_take {α β : Type} {f : β → α → β} {l : List α} {i : Nat} {x : α} {b : β} (h : l[i]? = some x) : (l.take (i + 1)).foldl f b = f ((l.take i).foldl f b) x := by
  rw [List.take_add_one, h, List.foldl_append]
  rfl
def spRead (a : Ad) : Sp := fun vs H Q E => ∃ (s m wb : Addr) (tb : List (List Int)) (S : Nat) (ps : List Pr) (nh N : Nat) (n : Net) (h : Int), vs = [.ref s, .int h] ∧ StoreAt a H s m wb tb S ps nh N n ∧
  (¬ (0 ≤ h ∧ h < (nh : Int)) → RW H E a.xNoHouse) ∧ (0 ≤ h → h < (nh : Int) → noCopy n.co h = false → RW H E a.xRefused) ∧
  (0 ≤ h → h < (nh : Int) → noCopy n.co h = true → ∀ H', StoreAt a H' s m wb tb S ps nh N (n.read ps h) → But s H H' → Q (.int (n.st.getD h.toNat 0)) H')
section
variable {P : Program} {w : World} {K : PySem.W.Frag} {mg : Str → Option Value} {base : Heap} {a : Ad} {d : Fd}
theorem ok_Read (T : Txt P w K mg a d) : FnOk P w K mg base (L2.CX P w) 5 a.fRead d.fRead pRead (spRead a) := by
  have GH : FnOk P w K mg base (L2.CX P w) 4 a.fNeedHouse d.fNeedHouse pNeedHouse (spNeedHouse a.cWeb a.xNoHouse) := ok_NeedHouse T
  have GT : FnOk P w K mg base CX0 1 a.fTiesAt d.fTiesAt pTiesAt (spTiesAt a.cWeb) := ok_TiesAt T
  have GO : FnOk P w K mg base CX0 1 a.fOtherEnd d.fOtherEnd pOtherEnd (spOtherEnd a.cWeb) := ok_OtherEnd T
  have GW : FnOk P w K mg base CX0 1 a.fWithItem d.fWithItem pWithItem spWithItem := ok_WithItem T
  have GL : FnOk P w K mg base CX0 1 a.fLeaveWalk d.fLeaveWalk pLeaveWalk (spLeaveWalk a) := ok_LeaveWalk T
  refine T.FRead.okX scRead (fun vs H Q E h => ?_) (fun cdv A outer s H vs Q E hr h => ?_)
  · obtain ⟨s, m, wb, tb, S, ps, nh, N, n, h, rfl, _⟩ := h
    rfl
  · obtain ⟨s, m, wb, tb, S, ps, nh, N, n, h, rfl, hS, kH, kR, k⟩ := h
    obtain ⟨⟨dx, first, st, ar, sp, bk, ca, co, ti, go, hs, hV⟩, u, g⟩ := id hS
    obtain ⟨bst, rfl, hst⟩ := id hV.st
    obtain ⟨bar, rfl, har⟩ := id hV.ar
    obtain ⟨bco, rfl, hco⟩ := id hV.co
    have hW := u.uw.ok
    refine ⟨_, pss_cons (ps_if (pt_cmpR op_notN (pe_ix ix_tup (pe_fld (pv 0) rfl) (pe_call (E := E) GH hr (by rfl) T.gNeedHouse T.FNeedHouse.kp T.bNeedHouse .nil (passes_call (takes_of rfl rfl rfl rfl) (fun _ _ _ _ h => h)) (pa_cons (pe_fld (pv 0) rfl) (pa_cons (pv 1) pa_nil))) (fun _ _ => rfl)) pe_non (nomark _))
        (pss_one (raise_Refused (W := fun cls d _ H => E cls d H) T rfl hr (takes_of rfl rfl rfl rfl) (pa_cons (pv 1) pa_nil))) pss_nil)
      (pss_cons (ps_for (passes_of rfl) rfl (pi_list (pe_call GT (hr.mono (by decide)) (by rfl) T.gTiesAt T.FTiesAt.kp T.bTiesAt .nil pass0 (pa_cons (pe_fld (pv 0) rfl) (pa_cons (pv 1) pa_nil)))) (pg_name (i := 2) scRead.nd rfl (.inl rfl))
        (pss_one (ps_if (pt_cmpR op_notN (pe_ix ix_tup (pe_fld (pv 0) rfl) (pe_call GO (hr.mono (by decide)) (by rfl) T.gOtherEnd T.FOtherEnd.kp T.bOtherEnd .nil pass0 (pa_cons (pe_fld (pv 0) rfl) (pa_cons (pv 2) (pa_cons (pv 1) pa_nil)))) (fun _ _ => rfl)) pe_non (nomark _))
          (pss_one (ps_fld (pv 0) (pe_call GW (hr.mono (by decide)) (by rfl) T.gWithItem T.FWithItem.kp T.bWithItem .nil pass0 (pa_cons (pe_fld (pv 0) rfl) (pa_cons (pv 2) (pa_cons (pe_ix ix_tup (pe_fld (pv 0) rfl) (pv 2) (fun _ _ => rfl)) pa_nil)))) rfl)) pss_nil)))
      (pss_cons (ps_fld (pv 0) (pe_call GW (hr.mono (by decide)) (by rfl) T.gWithItem T.FWithItem.kp T.bWithItem .nil pass0 (pa_cons (pe_fld (pv 0) rfl) (pa_cons (pv 1) (pa_cons (pe_ix ix_tup (pe_fld (pv 0) rfl) (pv 1) (fun _ _ => rfl)) pa_nil)))) rfl)
      (pss_cons (ps_if (pt_cmpR op_notIn_seq pe_non (pe_fld (pv 0) rfl) rfl)
        (pss_cons (ps_fld (pv 0) (pe_tup (pa_cons (pe_fld (pv 0) rfl) (pa_cons (pe_fld (pv 0) rfl) pa_nil))) rfl)
        (pss_cons (ps_fld (pv 0) (pe_fld (pv 0) rfl) rfl)
        (pss_one (ps_expr (pe_meth0 (pv 0) T.clStore T.mLeaveWalk GL (hr.mono (by decide)) T.bLeaveWalk .nil pass0))))) pss_nil)
      (pss_one (ps_ret (pe_ix ix_tup (pe_fld (pv 0) rfl) (pv 1) (fun _ _ => rfl))))))), ?_⟩
    refine ⟨_, rfl, s, _, dx, _, _, rfl, hs, T.clStore, T.nStore_copies, rfl, ?_⟩
    refine ⟨_, rfl, s, _, dx, _, _, rfl, hs, T.clStore, T.nStore_web, rfl, _, rfl, wb, ps, nh, h, rfl, u.uw, fun h0 h1 => ?_, fun c q hq => (kH c).at_ (Same.refl _) hq⟩
    obtain ⟨o, ho, e1, e2⟩ := noCopy_at (co := n.co) h0 (by rw [g.co]; exact h1)
    refine ⟨bco, _, _, _, rfl, rfl, SqT.of hco, at_of (j := h.toNat) (by omega) (at_map ho), rfl, _, rfl, ?_⟩
    rw [e2, ← e1]
    cases hc : noCopy n.co h with
    | false => exact iteT ⟨_, rfl, rfl, fun q hq => (kR h0 h1 hc).at_ (Same.refl _) hq⟩
    | true =>
      refine iteF ?_
      refine ⟨_, rfl, s, _, dx, _, _, rfl, hs, T.clStore, T.nStore_web, rfl, _, rfl, wb, ps, nh, h, rfl, u.uw, fun H1 l s1 hl => ?_⟩
      have hs1 := s1 _ _ hs
      have nl : l ≠ s := ne_of hl hs1 (by intro z; cases z)
      refine ⟨l, rfl, ⟨_, SqL.of hl⟩, ?_⟩
      have hlt : h.toNat < n.st.length := by rw [g.st]; omega
      have hat : n.st[h.toNat]? = some (n.st.getD h.toNat 0) := by rw [List.getD_eq_getElem?_getD, List.getElem?_eq_getElem hlt]; rfl
      have k01 : TupK H H1 := .of s1
      refine for_it (walk_list (xs := (tiesAt ps h).map fun i => V.int (i : Nat))) (fun i σ H' => ∃ (c2 : Option V) (tv : V), σ = [some (.ref s), some (.int h), c2] ∧ But s H1 H' ∧ H' s = some (.ins a.cStore dx (storeF m wb first (.ref bst) (.ref bar) sp bk ca (.ref bco) tv go)) ∧ IntT H' tv (((tiesAt ps h).take i).foldl (tiStep ps n.co n.ar h) n.ti))
        ⟨none, ti, rfl, fun b o e _ => e, hs1, hV.ti.keep k01⟩ (fun i σ H' _ hh => by obtain ⟨_, _, _, b, _, _⟩ := hh; exact SqL.of (b _ _ hl nl)) ?_ ?_
      · rintro i x σ H2o H2 hi ⟨c2, tv, rfl, b2, hs2, ht2⟩ ⟨rfl, hx⟩
        obtain ⟨t, ht, rfl⟩ := map_at hx
        have k12 : TupK H1 H2 := b2.tup hs1
        have k02 : TupK H H2 := fun b xs e => k12 _ _ (k01 _ _ e)
        have b02 : But s H H2 := (But.of s1).trans b2
        have u2 := u.but b02 k02
        have htm := List.mem_of_getElem? ht
        have htl : t < ps.length := by
          have z := (List.mem_filter.mp htm).1
          simpa using z
        obtain ⟨p, hp⟩ := there htl
        have hpm := List.mem_of_getElem? hp
        have hpD : ps.getD t (0, 0) = p := by rw [List.getD_eq_getElem?_getD, hp]; rfl
        have hoR : 0 ≤ otherEnd p h ∧ otherEnd p h < (nh : Int) := by
          unfold otherEnd
          by_cases c : p.1 = h
          · rw [if_pos c]; exact ⟨hW.b0 p hpm, hW.b1 p hpm⟩
          · rw [if_neg c]; exact ⟨hW.a0 p hpm, hW.a1 p hpm⟩
        obtain ⟨o2, ho2, f1, f2⟩ := noCopy_at (co := n.co) hoR.1 (by rw [g.co]; exact hoR.2)
        have hstep := fold_take (f := tiStep ps n.co n.ar h) (b := n.ti) ht
        refine ⟨_, rfl, s, _, dx, _, _, rfl, hs2, T.clStore, T.nStore_copies, rfl, ?_⟩
        refine ⟨_, rfl, s, _, dx, _, _, rfl, hs2, T.clStore, T.nStore_web, rfl, _, rfl, _, rfl, wb, ps, nh, t, p, h, rfl, u2.uw, hp, ?_⟩
        refine ⟨bco, _, _, _, rfl, rfl, SqT.of (k02 _ _ hco), at_of (j := (otherEnd p h).toNat) (by have := hoR.1; omega) (at_map ho2), rfl, _, rfl, ?_⟩
        rw [f2, ← f1]
        cases hc2 : noCopy n.co (otherEnd p h) with
        | true =>
          refine iteF ⟨_, tv, rfl, b2, hs2, ?_⟩
          rw [hstep]
          unfold tiStep
          rw [hpD, hc2, if_pos rfl]
          exact ht2
        | false =>
          obtain ⟨bt, rfl, hbt⟩ := ht2
          have hfl : (((tiesAt ps h).take i).foldl (tiStep ps n.co n.ar h) n.ti).length = ps.length := by
            refine fold_inv (fun (ti : List Int) => ti.length = ps.length) _ _ _ g.ti fun ti t' _ ih => ?_
            unfold tiStep
            by_cases c : noCopy n.co (otherEnd (ps.getD t' (0, 0)) h) = true
            · rw [if_pos c]; exact ih
            · rw [if_neg c, List.length_set]; exact ih
          have har2 : n.ar[t]? = some (n.ar.getD t 0) := by rw [List.getD_eq_getElem?_getD, List.getElem?_eq_getElem (by rw [g.ar]; exact htl)]; rfl
          have h5 := hW.len
          refine iteT ?_
          refine ⟨_, rfl, s, _, dx, _, _, rfl, hs2, T.clStore, T.nStore_tied, rfl, _, rfl, _, rfl, s, _, dx, _, _, rfl, hs2, T.clStore, T.nStore_archives, rfl, _, rfl, bar, _, _, _, rfl, rfl, SqT.of (k02 _ _ har), at_of (j := t) rfl (at_map har2), ?_⟩
          refine ⟨bt, _, t, .int (n.ar.getD t 0), rfl, hbt, by rw [List.length_map, hfl]; exact htl, by rw [List.length_map, hfl]; omega, fun p3 H3 s3 hp3 => ?_⟩
          rw [set_map] at hp3
          have hs3 := s3 _ _ hs2
          have np3 : p3 ≠ s := ne_of hp3 hs3 (by intro z; cases z)
          refine ⟨_, rfl, s, _, dx, _, rfl, hs3, T.clStore, T.nStore_tied, (by show 11 < 1000; decide), ?_⟩
          refine ⟨_, .ref p3, rfl, (b2.trans (But.of s3)).put, upd_same, p3, rfl, ?_⟩
          rw [upd_ne np3, hp3, hstep]
          unfold tiStep
          rw [hpD, hc2, if_neg (by simp)]
      · rintro σ H2 ⟨c2, tv, rfl, b2, hs2, ht2⟩
        rw [List.length_map, List.take_length] at ht2
        have k12 : TupK H1 H2 := b2.tup hs1
        have k02 : TupK H H2 := fun b xs e => k12 _ _ (k01 _ _ e)
        have b02 : But s H H2 := (But.of s1).trans b2
        have n4 := hW.n4
        refine ⟨_, rfl, s, _, dx, _, _, rfl, hs2, T.clStore, T.nStore_copies, rfl, _, rfl, _, rfl, s, _, dx, _, _, rfl, hs2, T.clStore, T.nStore_states, rfl, _, rfl, bst, _, _, _, rfl, rfl, SqT.of (k02 _ _ hst), at_of (j := h.toNat) (by omega) (at_map hat), ?_⟩
        refine ⟨bco, _, h.toNat, .int (n.st.getD h.toNat 0), (by rw [show ((h.toNat : Nat) : Int) = h by omega]; rfl), k02 _ _ hco, by rw [List.length_map, g.co, ← g.st]; exact hlt, by rw [List.length_map, g.co]; omega, fun p3 H3 s3 hp3 => ?_⟩
        have hp3' : H3 p3 = some (.tup ((n.read1 ps h).co.map oV)) := by
          rw [hp3]
          show _ = some (HO.tup ((n.co.set h.toNat (some (n.st.getD h.toNat 0))).map oV))
          rw [List.map_set]
          rfl
        have hs3 := s3 _ _ hs2
        have np3 : p3 ≠ s := ne_of hp3 hs3 (by intro z; cases z)
        refine ⟨_, rfl, s, _, dx, _, rfl, hs3, T.clStore, T.nStore_copies, (by show 11 < 1000; decide), ?_⟩
        rw [show putF "copies" (V.ref p3) (storeF m wb first (.ref bst) (.ref bar) sp bk ca (.ref bco) tv go) = storeF m wb first (.ref bst) (.ref bar) sp bk ca (.ref p3) tv go from rfl]
        have b4 : But s H (upd H3 s (.ins a.cStore dx (storeF m wb first (.ref bst) (.ref bar) sp bk ca (.ref p3) tv go))) := (b02.trans (But.of s3)).put
        have k4 := b4.tup hs
        have hs4 : upd H3 s (.ins a.cStore dx (storeF m wb first (.ref bst) (.ref bar) sp bk ca (.ref p3) tv go)) s = some (.ins a.cStore dx (storeF m wb first (.ref bst) (.ref bar) sp bk ca (.ref p3) tv go)) := upd_same
        have hp4 : upd H3 s (.ins a.cStore dx (storeF m wb first (.ref bst) (.ref bar) sp bk ca (.ref p3) tv go)) p3 = some (.tup ((n.read1 ps h).co.map oV)) := by rw [upd_ne np3]; exact hp3'
        have ht4 : IntT (upd H3 s (.ins a.cStore dx (storeF m wb first (.ref bst) (.ref bar) sp bk ca (.ref p3) tv go))) tv (n.read1 ps h).ti := by
          obtain ⟨bt, rfl, hbt⟩ := ht2
          have z := s3 _ _ hbt
          exact ⟨bt, rfl, by rw [upd_ne (ne_of z hs3 (by intro z; cases z))]; exact z⟩
        generalize upd H3 s (.ins a.cStore dx (storeF m wb first (.ref bst) (.ref bar) sp bk ca (.ref p3) tv go)) = H4 at b4 k4 hs4 hp4 ht4
        have g1 := g.read1 (h := h) (ps := ps) rfl h0 h1
        refine ⟨_, rfl, s, _, dx, _, _, rfl, hs4, T.clStore, T.nStore_copies, rfl, p3, _, rfl, .inr (SqT.of hp4), rfl, flat_oV _, _, rfl, ?_⟩
        rw [if_pos rfl, inV_non, Bool.not_not]
        cases hw : (n.read1 ps h).co.all Option.isSome with
        | false =>
          refine iteF ?_
          have er : n.read ps h = n.read1 ps h := by unfold Net.read; rw [hw, if_neg (by simp)]
          refine ⟨_, rfl, s, _, dx, _, _, rfl, hs4, T.clStore, T.nStore_states, rfl, _, rfl, bst, _, _, _, rfl, rfl, SqT.of (k4 _ _ hst), at_of (j := h.toNat) (by omega) (at_map hat), ?_⟩
          refine k h0 h1 hc H4 ?_ b4
          rw [er]
          exact ⟨⟨dx, first, .ref bst, .ref bar, sp, bk, ca, .ref p3, tv, go, hs4, ⟨⟨bst, rfl, k4 _ _ hst⟩, ⟨bar, rfl, k4 _ _ har⟩, hV.sp.keep k4, hV.bk.keep k4, ⟨p3, rfl, hp4⟩, ht4, hV.go.keep k4⟩⟩, u.but b4 k4, g1⟩
        | true =>
          refine iteT ?_
          have er : n.read ps h = (n.read1 ps h).whole := by unfold Net.read; rw [hw, if_pos rfl]
          -- self.backup = (self.copies, self.tied)
          refine ⟨_, rfl, s, _, dx, _, _, rfl, hs4, T.clStore, T.nStore_copies, rfl, _, rfl, s, _, dx, _, _, rfl, hs4, T.clStore, T.nStore_tied, rfl, (by show 2 ≤ sizeLine; decide), fun q hq => ?_⟩
          have s5 : Same H4 (upd H4 q (.tup [.ref p3, tv])) := same_new hq
          have hs5 := s5 _ _ hs4
          have nq : q ≠ s := (ne_of_none hs4 hq).symm
          refine ⟨_, rfl, s, _, dx, _, rfl, hs5, T.clStore, T.nStore_backup, (by show 11 < 1000; decide), ?_⟩
          rw [show putF "backup" (V.ref q) (storeF m wb first (.ref bst) (.ref bar) sp bk ca (.ref p3) tv go) = storeF m wb first (.ref bst) (.ref bar) sp (.ref q) ca (.ref p3) tv go from rfl]
          refine ⟨_, rfl, s, _, dx, _, _, rfl, upd_same, T.clStore, T.nStore_going, rfl, _, rfl, s, _, dx, _, rfl, upd_same, T.clStore, T.nStore_caught, (by show 11 < 1000; decide), ?_⟩
          rw [show putF "caught" go (storeF m wb first (.ref bst) (.ref bar) sp (.ref q) ca (.ref p3) tv go) = storeF m wb first (.ref bst) (.ref bar) sp (.ref q) go (.ref p3) tv go from rfl]
          have hq7 : upd (upd (upd H4 q (.tup [.ref p3, tv])) s (.ins a.cStore dx (storeF m wb first (.ref bst) (.ref bar) sp (.ref q) ca (.ref p3) tv go))) s (.ins a.cStore dx (storeF m wb first (.ref bst) (.ref bar) sp (.ref q) go (.ref p3) tv go)) q = some (.tup [.ref p3, tv]) := by rw [upd_ne nq, upd_ne nq, upd_same]
          have b7 : But s H4 (upd (upd (upd H4 q (.tup [.ref p3, tv])) s (.ins a.cStore dx (storeF m wb first (.ref bst) (.ref bar) sp (.ref q) ca (.ref p3) tv go))) s (.ins a.cStore dx (storeF m wb first (.ref bst) (.ref bar) sp (.ref q) go (.ref p3) tv go))) := ((But.of s5).put).put
          have hs7 : upd (upd (upd H4 q (.tup [.ref p3, tv])) s (.ins a.cStore dx (storeF m wb first (.ref bst) (.ref bar) sp (.ref q) ca (.ref p3) tv go))) s (.ins a.cStore dx (storeF m wb first (.ref bst) (.ref bar) sp (.ref q) go (.ref p3) tv go)) s = some (.ins a.cStore dx (storeF m wb first (.ref bst) (.ref bar) sp (.ref q) go (.ref p3) tv go)) := upd_same
          have k47 := b7.tup hs4
          have b07 := b4.trans b7
          have k07 := b07.tup hs
          generalize upd (upd (upd H4 q (.tup [.ref p3, tv])) s (.ins a.cStore dx (storeF m wb first (.ref bst) (.ref bar) sp (.ref q) ca (.ref p3) tv go))) s (.ins a.cStore dx (storeF m wb first (.ref bst) (.ref bar) sp (.ref q) go (.ref p3) tv go)) = H7 at hq7 b7 hs7 k47 b07 k07
          have u7 := u.but b07 k07
          refine ⟨_, rfl, s, dx, _, rfl, hs7, rfl, s, dx, wb, _, .ref bar, sp, ps, nh, rfl, hs7, (by show 11 ≤ 900; decide), rfl, rfl, rfl, u7.uw, u7.nw, fun H8 cn hs8 b8 hcn => ?_⟩
          rw [storeF_left] at hs8
          have k78 := b8.tup hs7
          have b08 := b07.trans b8
          have k08 := b08.tup hs
          refine ⟨_, rfl, s, _, dx, _, _, rfl, hs8, T.clStore, T.nStore_states, rfl, _, rfl, bst, _, _, _, rfl, rfl, SqT.of (k08 _ _ hst), at_of (j := h.toNat) (by omega) (at_map hat), ?_⟩
          refine k h0 h1 hc H8 ?_ b08
          rw [er]
          refine ⟨⟨dx, first, .ref bst, .ref bar, sp, .ref q, go, .ref cn, .ref bar, sp, hs8, ⟨⟨bst, rfl, k08 _ _ hst⟩, ⟨bar, rfl, k08 _ _ har⟩, hV.sp.keep k08, ?_, ⟨cn, rfl, ?_⟩, ⟨bar, rfl, k08 _ _ har⟩, hV.sp.keep k08⟩⟩, u.but b08 k08, g1.whole hw⟩
          · refine ⟨hV.go.keep k08, q, .ref p3, tv, rfl, k78 _ _ hq7, ⟨p3, rfl, ?_⟩, (ht4.keep k47).keep k78⟩
            rw [← vals_some hw]
            exact k78 _ _ (k47 _ _ hp4)
          · rw [hcn, rep_oV]
            show _ = some (HO.tup ((List.replicate n.st.length none).map oV))
            rw [g.st]
end
end Hl
set_option Elab.async false
set_option linter.all false
set_option maxRecDepth 100000
set_option maxHeartbeats 4000000
namespace Hl
open PySem PySem.Spec PyProof.Rows L2
theorem kept_two (c : Int → Bool) (x y : Int) : kept (fun i => c ([x, y].getD i 0)) (fun i => .int ([x, y].getD i 0)) 2 = ([x, y].filter c).map V.int := by
  show ((List.range 2).filter _).map _ = _
  rw [show List.range 2 = [0, 1] from rfl]
  simp only [List.filter_cons, List.filter_nil]
  show List.map _ (if c x = true then 0 :: (if c y = true then [1] else []) else (if c y = true then [1] else [])) = _
  cases c x <;> cases c y <;> rfl
def spMeet (a : Ad) : Sp := fun vs H Q E => ∃ (s m wb : Addr) (tb : List (List Int)) (S : Nat) (ps : List Pr) (nh N : Nat) (n : Net) (t : Int), vs = [.ref s, .int t] ∧ StoreAt a H s m wb tb S ps nh N n ∧ N ≤ 100 ∧
  (¬ (0 ≤ t ∧ t < (ps.length : Int)) → RW H E a.xNoTie) ∧ (∀ p, 0 ≤ t → ps[t.toNat]? = some p → ∀ o, JoinIs tb (n.ar.getD t.toNat 0) (n.st.getD p.1.toNat 0) (n.st.getD p.2.toNat 0) o →
    (o = none → RW H E a.xUntold) ∧ ∀ e, o = some e → ∀ H', StoreAt a H' s m wb tb S ps nh (N + 1) (n.met ps t p e) → But s H H' → Q (.int e) H')
theorem get_int {l : List Int} {i : Int} (h0 : 0 ≤ i) (h1 : i < (l.length : Int)) : l[i.toNat]? = some (l.getD i.toNat 0) := by
  have h : i.toNat < l.length := by omega
  rw [List.getD_eq_getElem?_getD, List.getElem?_eq_getElem h]
  rfl
theorem met0_st {n : Net} {ps : List Pr} {p : Pr} : (n.met0 ps p).st = n.st ∧ (n.met0 ps p).ar = n.ar := by
  have rd : ∀ h, (n.read ps h).st = n.st ∧ (n.read ps h).ar = n.ar := fun h => by
    unfold Net.read
    by_cases c : (n.read1 ps h).co.all Option.isSome = true
    · rw [if_pos c]; exact ⟨rfl, rfl⟩
    · rw [if_neg c]; exact ⟨rfl, rfl⟩
  unfold Net.met0
  split
  · exact rd _
  · exact ⟨rfl, rfl⟩
section
variable {P : Program} {w : World} {K : PySem.W.Frag} {mg : Str → Option Value} {base : Heap} {a : Ad} {d : Fd}
theorem ok_Meet (T : Txt P w K mg a d) : FnOk P w K mg base (L2.CX P w) 6 a.fMeet d.fMeet pMeet (spMeet a) := by
  have GN : FnOk P w K mg base (L2.CX P w) 4 a.fNeedTie d.fNeedTie pNeedTie (spNeedTie a.cWeb a.xNoTie) := ok_NeedTie T
  have GJ : FnOk P w K mg base (L2.CX P w) 5 a.fJoin d.fJoin pJoin (spJoin a.cMachine a.xUntold) := ok_Join T
  have GR : FnOk P w K mg base (L2.CX P w) 5 a.fRead d.fRead pRead (spRead a) := ok_Read T
  have GW : FnOk P w K mg base CX0 1 a.fWithItem d.fWithItem pWithItem spWithItem := ok_WithItem T
  have GC : FnOk P w K mg base CX0 1 a.fCount d.fCount pCount (spCount a) := ok_Count T
  refine T.FMeet.okX scMeet (fun vs H Q E h => ?_) (fun cdv A outer s H vs Q E hr h => ?_)
  · obtain ⟨s, m, wb, tb, S, ps, nh, N, n, t, rfl, _⟩ := h
    rfl
  · obtain ⟨s, m, wb, tb, S, ps, nh, N, n, t, rfl, hS, hN, kT, k⟩ := h
    obtain ⟨⟨dx, first, st, ar, sp, bk, ca, co, ti, go, hs, hV⟩, u, g⟩ := id hS
    obtain ⟨⟨dw, tw, ts, hw, htw, hRw⟩, hW⟩ := id u.uw
    have hT := u.um.ok
    obtain ⟨bst, rfl, hst⟩ := id hV.st
    obtain ⟨bar, rfl, har⟩ := id hV.ar
    obtain ⟨bco, rfl, hco⟩ := id hV.co
    refine ⟨_, pss_cons (ps_asg (pe_ix ix_tup (pe_fld (pe_fld (pv 0) rfl) rfl) (pe_call (E := E) GN (hr.mono (by decide)) (by rfl) T.gNeedTie T.FNeedTie.kp T.bNeedTie .nil (passes_call (takes_of rfl rfl rfl rfl) (fun _ _ _ _ h => h)) (pa_cons (pe_fld (pv 0) rfl) (pa_cons (pv 1) pa_nil))) (fun _ _ => rfl))
        (pg_tup rfl (pgs_cons (pg_name (i := 2) scMeet.nd rfl (.inl rfl)) (pgs_cons (pg_name (i := 3) scMeet.nd rfl (.inl rfl)) pgs_nil))))
      (pss_cons (ps_set (i := 4) scMeet.nd rfl (.inl rfl) (pe_call (E := E) GJ hr (by rfl) T.gJoin T.FJoin.kp T.bJoin .nil (passes_call (takes_of rfl rfl rfl rfl) (fun _ _ _ _ h => h)) (pa_cons (pe_fld (pv 0) rfl) (pa_cons (pe_ix ix_tup (pe_fld (pv 0) rfl) (pv 1) (fun _ _ => rfl)) (pa_cons (pe_ix ix_tup (pe_fld (pv 0) rfl) (pv 2) (fun _ _ => rfl)) (pa_cons (pe_ix ix_tup (pe_fld (pv 0) rfl) (pv 3) (fun _ _ => rfl)) pa_nil))))))
      (pss_cons (ps_setLc (i := 5) (own := [("house", 6)]) (g := gName 6) (tt := tTest (tOp rIsN (tOp (rIxT K) (tFld K (tVar 0) "copies") (tVar 6)) (tC .non))) (te := tVar 6) rfl scMeet.nd rfl rfl (sw_true rfl rfl rfl (by decide +kernel)) (pi_tup (pe_tup (pa_cons (pv 2) (pa_cons (pv 3) pa_nil))))
          (blkOk_by (own := [("house", 6)]) (N := nMeet) (sc := defScope sMeet) (by decide +kernel))
          (fun _ _ _ _ _ => pg_name (i := 6) scMeet.nd rfl (Or.inl rfl)) (fun _ _ _ _ _ => pts_one (pt_cmpR op_isN (pe_ix ix_tup (pe_fld (pv 0) rfl) (pv 6) (fun _ _ => rfl)) pe_non (nomark _))) (fun _ _ _ _ _ => pv 6))
      (pss_cons (ps_if (pt_cmpR op_eq (pe_callB call_len_seq (by rfl) T.b_len boot_len (pa_cons (pv 5) pa_nil)) pe_int (nomark _))
        (pss_one (ps_expr (pe_meth (pv 0) T.clStore T.mRead GR hr T.bRead .nil passL (pa_cons (pe_ix ix_list (pv 5) pe_int (fun _ _ => rfl)) pa_nil)))) pss_nil)
      (pss_cons (ps_fld (pv 0) (pe_call GW (hr.mono (by decide)) (by rfl) T.gWithItem T.FWithItem.kp T.bWithItem .nil pass0 (pa_cons (pe_call GW (hr.mono (by decide)) (by rfl) T.gWithItem T.FWithItem.kp T.bWithItem .nil pass0 (pa_cons (pe_fld (pv 0) rfl) (pa_cons (pv 2) (pa_cons (pv 4) pa_nil)))) (pa_cons (pv 3) (pa_cons (pv 4) pa_nil)))) rfl)
      (pss_cons (ps_fld (pv 0) (pe_call GW (hr.mono (by decide)) (by rfl) T.gWithItem T.FWithItem.kp T.bWithItem .nil pass0 (pa_cons (pe_fld (pv 0) rfl) (pa_cons (pv 1) (pa_cons (pv 4) pa_nil)))) rfl)
      (pss_cons (ps_expr (pe_meth (pv 0) T.clStore T.mCount GC (hr.mono (by decide)) T.bCount .nil pass0 (pa_cons (pe_tup (pa_cons pe_str (pa_cons (pv 1) pa_nil))) (pa_cons (pe_tup (pa_cons (pv 2) (pa_cons (pv 3) pa_nil))) pa_nil))))
      (pss_one (ps_ret (pv 4))))))))), ?_⟩
    refine ⟨_, rfl, s, _, dx, _, _, rfl, hs, T.clStore, T.nStore_web, rfl, wb, _, dw, _, _, rfl, hw, T.clWeb, T.nWeb_ties, rfl, ?_⟩
    refine ⟨_, rfl, s, _, dx, _, _, rfl, hs, T.clStore, T.nStore_web, rfl, _, rfl, wb, ps, nh, t, rfl, u.uw, fun t0 t1 => ?_, fun c q hq => (kT c).at_ (Same.refl _) hq⟩
    have htl : t.toNat < ps.length := by omega
    obtain ⟨p, hp⟩ := there htl
    obtain ⟨at_, hat⟩ := there (l := ts) (i := t.toNat) (by rw [hRw.1]; exact htl)
    have hpm := List.mem_of_getElem? hp
    have a0 := hW.a0 p hpm
    have a1 := hW.a1 p hpm
    have b0 := hW.b0 p hpm
    have b1 := hW.b1 p hpm
    have hne := hW.ne p hpm
    have n4 := hW.n4
    have hx := get_int (l := n.ar) t0 (by rw [g.ar]; exact t1)
    have hy := get_int (l := n.st) a0 (by rw [g.st]; exact a1)
    have hz := get_int (l := n.st) b0 (by rw [g.st]; exact b1)
    have rx := g.arR _ (List.mem_of_getElem? hx)
    have ry := g.stR _ (List.mem_of_getElem? hy)
    have rz := g.stR _ (List.mem_of_getElem? hz)
    refine ⟨tw, _, _, _, rfl, rfl, SqT.of htw, at_of (j := t.toNat) (by omega) (at_map hat), ?_⟩
    refine ⟨at_, _, rfl, SqT.of (hRw.2 _ _ _ hat hp), rfl, _, _, rfl, _, _, rfl, rfl, ?_⟩
    -- the join
    refine ⟨_, rfl, s, _, dx, _, _, rfl, hs, T.clStore, T.nStore_machine, rfl, ?_⟩
    refine ⟨_, rfl, s, _, dx, _, _, rfl, hs, T.clStore, T.nStore_archives, rfl, _, rfl, bar, _, _, _, rfl, rfl, SqT.of har, at_of (j := t.toNat) (by omega) (at_map hx), ?_⟩
    refine ⟨_, rfl, s, _, dx, _, _, rfl, hs, T.clStore, T.nStore_states, rfl, _, rfl, bst, _, _, _, rfl, rfl, SqT.of hst, at_of (j := p.1.toNat) (by omega) (at_map hy), ?_⟩
    refine ⟨_, rfl, s, _, dx, _, _, rfl, hs, T.clStore, T.nStore_states, rfl, _, rfl, bst, _, _, _, rfl, rfl, SqT.of hst, at_of (j := p.2.toNat) (by omega) (at_map hz), ?_⟩
    refine ⟨m, tb, S, _, _, _, rfl, u.um, ⟨rx.1, rx.2, ry.1, ry.2⟩, rz.1, rz.2, fun H1 o s1 hj => ⟨fun e he => ?_, fun hno d fs hd => ((k p t0 hp o hj).1 hno).at_ s1 hd⟩⟩
    have hs1 := s1 _ _ hs
    have heR := (by rw [he] at hj; exact hj.inS hT ⟨rx.1, rx.2, ry.1, ry.2⟩ : 0 ≤ e ∧ e < (S : Int))
    have k1 : TupK H H1 := .of s1
    -- unread
    refine ⟨_, rfl, _, rfl, (by show 2 ≤ sizeLine; decide), fun q hq => ⟨q, rfl, ⟨_, SqT.of upd_same⟩, fun D hD => ?_⟩⟩
    have s2 : Same H1 (upd H1 q (.tup [.int p.1, .int p.2])) := same_new hq
    have hq2 : upd H1 q (.tup [.int p.1, .int p.2]) q = some (.tup [.int p.1, .int p.2]) := upd_same
    generalize upd H1 q (.tup [.int p.1, .int p.2]) = H2 at s2 hq2 hD
    have s02 := s1.trans s2
    refine lc_fil (walk_tup (xs := [.int p.1, .int p.2])) (fun i => noCopy n.co ([p.1, p.2].getD i 0)) (fun i => .int ([p.1, p.2].getD i 0)) hD (by show 2 < sizeLine; decide) (fun H s => .inl (.inl (s _ _ hq2))) (fun i y H4 H5 kk k0 hi s4 yy hy1 hy2 => ?_) (fun H4 s4 e4 => ?_)
    · obtain ⟨rfl, hyx⟩ := yy
      obtain ⟨h, rfl, hh0, hh1, hhD⟩ : ∃ h : Int, V.int h = y ∧ 0 ≤ h ∧ h < (nh : Int) ∧ [p.1, p.2].getD i 0 = h := by
        match i, hyx with
        | 0, hyx => exact ⟨p.1, Option.some.inj hyx, a0, a1, rfl⟩
        | 1, hyx => exact ⟨p.2, Option.some.inj hyx, b0, b1, rfl⟩
        | i + 2, hyx => simp at hyx
      obtain ⟨o', ho', f1, f2⟩ := noCopy_at (co := n.co) hh0 (by rw [g.co]; exact hh1)
      refine ⟨rfl, _, rfl, s, _, dx, _, _, rfl, s4 _ _ (s02 _ _ hs), T.clStore, T.nStore_copies, rfl, _, rfl, bco, _, _, _, rfl, rfl, SqT.of (s4 _ _ (s02 _ _ hco)), at_of (j := h.toNat) (by omega) (at_map ho'), rfl, _, rfl, ?_⟩
      rw [hhD] at hy1 hy2
      rw [f2, ← f1]
      cases hc : noCopy n.co h with
      | true => exact iteT ⟨_, rfl, hy1 hc _ (Same.refl _)⟩
      | false => exact iteF (hy2 hc _ (Same.refl _))
    have e4' : H4 D = some (.lst ((n.unread p).map V.int)) := by
      rw [e4]
      show some (HO.lst (kept _ _ 2)) = _
      rw [kept_two]
      rfl
    have s04 := s02.trans s4
    have hS4 := hS.same s04
    -- behind the reading
    have rest : ∀ H5, StoreAt a H5 s m wb tb S ps nh N (n.met0 ps p) → But s H4 H5 → ∀ (x5 : Option V), (tSeq (sFld K (tVar 0) (tCall spWithItem [] E0 (tCons (tCall spWithItem [] E0 (tCons (tFld K (tVar 0) "states") (tCons (tVar 2) (tCons (tVar 4) tNil)))) (tCons (tVar 3) (tCons (tVar 4) tNil)))) "states")
        (tSeq (sFld K (tVar 0) (tCall spWithItem [] E0 (tCons (tFld K (tVar 0) "archives") (tCons (tVar 1) (tCons (tVar 4) tNil)))) "archives")
        (tSeq (tDrop (tMeth a.cStore "count" (spCount a) [] E0 (tVar 0) (tCons (tTup (tCons (tC (.str "meet")) (tCons (tVar 1) tNil))) (tCons (tTup (tCons (tVar 2) (tCons (tVar 3) tNil))) tNil)))) (tRet (tVar 4))))) { nx := fun _ H' => Q .non H', rt := Q }
        [some (.ref s), some (.int t), some (.int p.1), some (.int p.2), some (.int e), some (.ref D), x5] H5 := by
      intro H5 hS5 b5 x5
      obtain ⟨⟨dx5, first5, st5, ar5, sp5, bk5, ca5, co5, ti5, go5, hs5, hV5⟩, u5, g5⟩ := id hS5
      obtain ⟨bst5, rfl, hst5⟩ := id hV5.st
      obtain ⟨bar5, rfl, har5⟩ := id hV5.ar
      refine ⟨_, rfl, s, _, dx5, _, _, rfl, hs5, T.clStore, T.nStore_states, rfl, _, rfl, _, rfl, bst5, _, p.1.toNat, .int e, (by rw [show ((p.1.toNat : Nat) : Int) = p.1 by omega]; rfl), hst5, by rw [List.length_map, g5.st]; omega, by rw [List.length_map, g5.st]; omega, fun p6 H6 s6 hp6 => ?_⟩
      rw [set_map] at hp6
      refine ⟨_, rfl, _, rfl, p6, _, p.2.toNat, .int e, (by rw [show ((p.2.toNat : Nat) : Int) = p.2 by omega]; rfl), hp6, by rw [List.length_map, List.length_set, g5.st]; omega, by rw [List.length_map, List.length_set, g5.st]; omega, fun p7 H7 s7 hp7 => ?_⟩
      rw [set_map] at hp7
      have s57 := s6.trans s7
      have hs7 := s57 _ _ hs5
      have np7 : p7 ≠ s := ne_of hp7 hs7 (by intro z; cases z)
      refine ⟨_, rfl, s, _, dx5, _, rfl, hs7, T.clStore, T.nStore_states, (by show 11 < 1000; decide), ?_⟩
      rw [show putF "states" (V.ref p7) (storeF m wb first5 (.ref bst5) (.ref bar5) sp5 bk5 ca5 co5 ti5 go5) = storeF m wb first5 (.ref p7) (.ref bar5) sp5 bk5 ca5 co5 ti5 go5 from rfl]
      have b8 : But s H5 (upd H7 s (.ins a.cStore dx5 (storeF m wb first5 (.ref p7) (.ref bar5) sp5 bk5 ca5 co5 ti5 go5))) := (But.of s57).put
      have k8 := b8.tup hs5
      have hs8 : upd H7 s (.ins a.cStore dx5 (storeF m wb first5 (.ref p7) (.ref bar5) sp5 bk5 ca5 co5 ti5 go5)) s = some (.ins a.cStore dx5 (storeF m wb first5 (.ref p7) (.ref bar5) sp5 bk5 ca5 co5 ti5 go5)) := upd_same
      have hp8 : upd H7 s (.ins a.cStore dx5 (storeF m wb first5 (.ref p7) (.ref bar5) sp5 bk5 ca5 co5 ti5 go5)) p7 = some (.tup ((((n.met0 ps p).st.set p.1.toNat e).set p.2.toNat e).map V.int)) := by rw [upd_ne np7]; exact hp7
      generalize upd H7 s (.ins a.cStore dx5 (storeF m wb first5 (.ref p7) (.ref bar5) sp5 bk5 ca5 co5 ti5 go5)) = H8 at b8 k8 hs8 hp8
      refine ⟨_, rfl, s, _, dx5, _, _, rfl, hs8, T.clStore, T.nStore_archives, rfl, _, rfl, _, rfl, bar5, _, t.toNat, .int e, (by rw [show ((t.toNat : Nat) : Int) = t by omega]; rfl), k8 _ _ har5, by rw [List.length_map, g5.ar]; omega, by rw [List.length_map, g5.ar]; have := hW.len; omega, fun p9 H9 s9 hp9 => ?_⟩
      rw [set_map] at hp9
      have hs9 := s9 _ _ hs8
      have np9 : p9 ≠ s := ne_of hp9 hs9 (by intro z; cases z)
      refine ⟨_, rfl, s, _, dx5, _, rfl, hs9, T.clStore, T.nStore_archives, (by show 11 < 1000; decide), ?_⟩
      rw [show putF "archives" (V.ref p9) (storeF m wb first5 (.ref p7) (.ref bar5) sp5 bk5 ca5 co5 ti5 go5) = storeF m wb first5 (.ref p7) (.ref p9) sp5 bk5 ca5 co5 ti5 go5 from rfl]
      have b10 : But s H5 (upd H9 s (.ins a.cStore dx5 (storeF m wb first5 (.ref p7) (.ref p9) sp5 bk5 ca5 co5 ti5 go5))) := (b8.trans (But.of s9)).put
      have k10 := b10.tup hs5
      have k810 : TupK H8 (upd H9 s (.ins a.cStore dx5 (storeF m wb first5 (.ref p7) (.ref p9) sp5 bk5 ca5 co5 ti5 go5))) := But.tup ((But.of s9).put) hs8
      have hs10 : upd H9 s (.ins a.cStore dx5 (storeF m wb first5 (.ref p7) (.ref p9) sp5 bk5 ca5 co5 ti5 go5)) s = some (.ins a.cStore dx5 (storeF m wb first5 (.ref p7) (.ref p9) sp5 bk5 ca5 co5 ti5 go5)) := upd_same
      have hp10 : upd H9 s (.ins a.cStore dx5 (storeF m wb first5 (.ref p7) (.ref p9) sp5 bk5 ca5 co5 ti5 go5)) p9 = some (.tup (((n.met0 ps p).ar.set t.toNat e).map V.int)) := by rw [upd_ne np9]; exact hp9
      generalize upd H9 s (.ins a.cStore dx5 (storeF m wb first5 (.ref p7) (.ref p9) sp5 bk5 ca5 co5 ti5 go5)) = H10 at b10 k10 k810 hs10 hp10
      refine ⟨_, rfl, s, dx5, _, rfl, hs10, rfl, _, rfl, (by show 2 ≤ sizeLine; decide), fun q1 hq1 => ⟨_, rfl, _, rfl, (by show 2 ≤ sizeLine; decide), fun q2 hq2 => ?_⟩⟩
      have s11 : Same H10 (upd H10 q1 (.tup [.str "meet", .int t])) := same_new hq1
      have s12 := s11.trans (same_new (o := .tup [.int p.1, .int p.2]) hq2)
      have hq12 : upd (upd H10 q1 (.tup [.str "meet", .int t])) q2 (.tup [.int p.1, .int p.2]) q1 = some (.tup (stpV (.meet t))) := same_new hq2 _ _ upd_same
      have hq22 : upd (upd H10 q1 (.tup [.str "meet", .int t])) q2 (.tup [.int p.1, .int p.2]) q2 = some (.tup ([p.1, p.2].map V.int)) := upd_same
      have gd1 : Gd S nh ps.length N { n.met0 ps p with st := ((n.met0 ps p).st.set p.1.toNat e).set p.2.toNat e, ar := (n.met0 ps p).ar.set t.toNat e } := by
        have z := g5
        refine ⟨by show (((n.met0 ps p).st.set _ _).set _ _).length = nh; rw [List.length_set, List.length_set]; exact z.st, by show ((n.met0 ps p).ar.set _ _).length = _; rw [List.length_set]; exact z.ar, z.co, z.ti, fun x hx => ?_, fun x hx => ?_, z.coR, z.tiR, z.sp, z.go, z.bk⟩
        · rcases mem_set_or (show x ∈ ((n.met0 ps p).st.set p.1.toNat e).set p.2.toNat e from hx) with k | k
          · rcases mem_set_or k with k | k
            · exact z.stR x k
            · rw [k]; exact heR
          · rw [k]; exact heR
        · rcases mem_set_or (show x ∈ (n.met0 ps p).ar.set t.toNat e from hx) with k | k
          · exact z.arR x k
          · rw [k]; exact heR
      have S10 : StoreAt a H10 s m wb tb S ps nh N { n.met0 ps p with st := ((n.met0 ps p).st.set p.1.toNat e).set p.2.toNat e, ar := (n.met0 ps p).ar.set t.toNat e } :=
        ⟨⟨dx5, first5, .ref p7, .ref p9, sp5, bk5, ca5, co5, ti5, go5, hs10, ⟨⟨p7, rfl, k810 _ _ hp8⟩, ⟨p9, rfl, hp10⟩, hV5.sp.keep k10, hV5.bk.keep k10, hV5.co.keep k10, hV5.ti.keep k10, hV5.go.keep k10⟩⟩, u5.but b10 k10, gd1⟩
      refine ⟨s, m, wb, q1, q2, tb, S, ps, nh, N, _, .meet t, [p.1, p.2], rfl, S10.same s12, hN, hq12, hq22, (by show 2 ≤ 2; decide), fun x hx => ?_, fun H13 S13 b13 => ?_⟩
      · rcases List.mem_cons.mp hx with hx | hx
        · rw [hx]; exact ⟨a0, a1⟩
        · rw [List.mem_singleton.mp hx]; exact ⟨b0, b1⟩
      · exact ⟨_, rfl, ((k p t0 hp o hj).2 e he) H13 S13 ((But.of s04).trans (b5.trans (b10.trans ((But.of s12).trans b13))))⟩
    refine ⟨_, rfl, D, _, rfl, .inl (SqL.of e4'), rfl, _, rfl, ?_⟩
    rw [List.length_map]
    have memU : ∀ h ∈ n.unread p, noCopy n.co h = true ∧ 0 ≤ h ∧ h < (nh : Int) := fun h hh => by
      have z := List.mem_filter.mp hh
      refine ⟨z.2, ?_⟩
      have z1 := z.1
      rcases List.mem_cons.mp z1 with e | e
      · rw [e]; exact ⟨a0, a1⟩
      · rw [List.mem_singleton.mp e]; exact ⟨b0, b1⟩
    by_cases c1 : (n.unread p).length = 1
    · refine itdT (by rw [c1]; rfl) ?_
      obtain ⟨h, hu1, _⟩ := oneOf_one c1
      have hm0 : n.met0 ps p = n.read ps h := by unfold Net.met0; rw [hu1]
      obtain ⟨nc, nc0, nc1⟩ := memU h (by rw [hu1]; exact List.mem_singleton.mpr rfl)
      rw [hu1] at e4'
      refine ⟨_, rfl, s, dx, _, rfl, s04 _ _ hs, rfl, _, rfl, D, _, _, _, rfl, rfl, SqL.of e4', at_of (j := 0) (v := .int h) rfl rfl, ?_⟩
      refine ⟨s, m, wb, tb, S, ps, nh, N, n, h, rfl, hS4, fun z => absurd ⟨nc0, nc1⟩ z, fun _ _ z => ?_, fun _ _ _ H5 S5 b5 => ?_⟩
      · rw [nc] at z; cases z
      · rw [← hm0] at S5
        exact rest H5 S5 b5 _
    · refine itdF (fun z => c1 (by injection z with z; omega)) ?_
      have hm0 : n.met0 ps p = n := by
        unfold Net.met0
        match hu1 : n.unread p, c1 with
        | [], _ => rfl
        | [_], c1 => exact absurd rfl c1
        | _ :: _ :: _, _ => rfl
      refine rest H4 ?_ (fun b o e _ => e) _
      rw [hm0]
      exact hS4
end
end Hl
set_option Elab.async false
set_option linter.all false
set_option maxRecDepth 100000
set_option maxHeartbeats 4000000
namespace Hl
open PySem PySem.Spec PyProof.Rows L2
def spPutBack (a : Ad) : Sp := fun vs H Q _ => ∃ (s m wb : Addr) (tb : List (List Int)) (S : Nat) (ps : List Pr) (nh N : Nat) (n : Net) (c t : List Int) (g : List Stp), vs = [.ref s] ∧ StoreAt a H s m wb tb S ps nh N n ∧ n.bk = some (c, t, g) ∧
  ∀ H', StoreAt a H' s m wb tb S ps nh N (n.back c t g) → But s H H' → Q .non H'
/-- the net at the start -/
def Net.new (nh nt : Nat) (f : Int) : Net := ⟨List.replicate nh f, List.replicate nt f, List.replicate nh none, List.replicate nt f, [], [], none⟩
theorem Gd.new {S nh nt : Nat} {f : Int} (h0 : 0 ≤ f) (h1 : f < (S : Int)) : Gd S nh nt 0 (Net.new nh nt f) := by
  have r : ∀ k, ∀ x ∈ List.replicate k f, InR S x := fun k x hx => by rw [(List.mem_replicate.mp hx).2]; exact ⟨h0, h1⟩
  refine ⟨List.length_replicate, List.length_replicate, List.length_replicate, List.length_replicate, r _, r _, fun x hx => ?_, r _, Nat.le_refl _, Nat.le_refl _, fun c t g e => by cases e⟩
  have z := (List.mem_replicate.mp (show some x ∈ List.replicate nh (none : Option Int) from hx)).2
  cases z
def pf3 (m wb : Addr) (f : Int) : List (Str × V) := [("machine", .ref m), ("web", .ref wb), ("first", .int f)]
def pf4 (m wb : Addr) (f : Int) (p5 : Addr) : List (Str × V) := [("machine", .ref m), ("web", .ref wb), ("first", .int f), ("states", .ref p5)]
def pf5 (m wb : Addr) (f : Int) (p5 p8 : Addr) : List (Str × V) := [("machine", .ref m), ("web", .ref wb), ("first", .int f), ("states", .ref p5), ("archives", .ref p8)]
def pf8 (m wb : Addr) (f : Int) (p5 p8 q10 : Addr) : List (Str × V) := [("machine", .ref m), ("web", .ref wb), ("first", .int f), ("states", .ref p5), ("archives", .ref p8), ("steps", .ref q10), ("backup", .non), ("caught", .non)]
def spStoreI (a : Ad) : Sp := fun vs H Q E => ∃ (s dx m wb : Addr) (tb : List (List Int)) (S : Nat) (ps : List Pr) (nh : Nat) (f : Int), vs = [.ref s, .ref m, .ref wb, .int f] ∧ H s = some (.ins a.cStore dx []) ∧ Und a H s m wb tb S ps nh ∧
  (¬ (0 ≤ f ∧ f < (S : Int)) → ∀ (H' : Hp) (d : Addr), But s H H' → H d = none → H' d = some (.xd [("state", .int f)]) → E (.ref a.xNoState) (some d) H') ∧
  (0 ≤ f → f < (S : Int) → ∀ H', StoreAt a H' s m wb tb S ps nh 0 (Net.new nh ps.length f) → But s H H' → Q .non H')
section
variable {P : Program} {w : World} {K : PySem.W.Frag} {mg : Str → Option Value} {base : Heap} {a : Ad} {d : Fd}
theorem ok_PutBack (T : Txt P w K mg a d) : FnOk P w K mg base CX0 2 a.fPutBack d.fPutBack pPutBack (spPutBack a) := by
  have GL : FnOk P w K mg base CX0 1 a.fLeaveWalk d.fLeaveWalk pLeaveWalk (spLeaveWalk a) := ok_LeaveWalk T
  refine T.FPutBack.ok scPutBack (fun vs H Q E h => ?_) (fun cdv A outer s H vs Q E hr h => ?_)
  · obtain ⟨s, m, wb, tb, S, ps, nh, N, n, c, t, g, rfl, _⟩ := h
    rfl
  · obtain ⟨s, m, wb, tb, S, ps, nh, N, n, c, t, gg, rfl, hS, hb, k⟩ := h
    obtain ⟨⟨dx, first, st, ar, sp, bk, ca, co, ti, go, hs, hV⟩, u, g⟩ := id hS
    have hB := hV.bk
    rw [hb] at hB
    obtain ⟨hca, b, x, y, rfl, hbx, hx, hy⟩ := hB
    refine ⟨_, pss_cons (ps_if (pt_cmpR op_isN (pe_fld (pv 0) rfl) pe_non (nomark _)) pss_never pss_nil)
      (pss_cons (ps_asg (pe_fld (pv 0) rfl) (pg_tup rfl (pgs_cons (pg_fld (pv 0)) (pgs_cons (pg_fld (pv 0)) pgs_nil))))
      (pss_cons (ps_fld (pv 0) (pe_fld (pv 0) rfl) rfl)
      (pss_one (ps_expr (pe_meth0 (pv 0) T.clStore T.mLeaveWalk GL hr T.bLeaveWalk .nil pass0))))), ?_⟩
    refine ⟨_, rfl, s, _, dx, _, _, rfl, hs, T.clStore, T.nStore_backup, rfl, rfl, _, rfl, itdF (fun z => by cases z) ?_⟩
    refine ⟨_, rfl, s, _, dx, _, _, rfl, hs, T.clStore, T.nStore_backup, rfl, b, _, rfl, SqT.of hbx, rfl, ?_⟩
    refine ⟨_, _, rfl, _, rfl, s, _, dx, _, rfl, hs, T.clStore, T.nStore_states, (by show 11 < 1000; decide), ?_⟩
    rw [show putF "states" x (storeF m wb first st ar sp (.ref b) ca co ti go) = storeF m wb first x ar sp (.ref b) ca co ti go from rfl]
    refine ⟨_, _, rfl, _, rfl, s, _, dx, _, rfl, upd_same, T.clStore, T.nStore_archives, (by show 11 < 1000; decide), ?_⟩
    rw [show putF "archives" y (storeF m wb first x ar sp (.ref b) ca co ti go) = storeF m wb first x y sp (.ref b) ca co ti go from rfl]
    refine ⟨rfl, ?_⟩
    refine ⟨_, rfl, s, _, dx, _, _, rfl, upd_same, T.clStore, T.nStore_caught, rfl, _, rfl, s, _, dx, _, rfl, upd_same, T.clStore, T.nStore_steps, (by show 11 < 1000; decide), ?_⟩
    rw [show putF "steps" ca (storeF m wb first x y sp (.ref b) ca co ti go) = storeF m wb first x y ca (.ref b) ca co ti go from rfl]
    have b3 : But s H (upd (upd (upd H s (.ins a.cStore dx (storeF m wb first x ar sp (.ref b) ca co ti go))) s (.ins a.cStore dx (storeF m wb first x y sp (.ref b) ca co ti go))) s (.ins a.cStore dx (storeF m wb first x y ca (.ref b) ca co ti go))) := ((but_put).put).put
    have hs3 : upd (upd (upd H s (.ins a.cStore dx (storeF m wb first x ar sp (.ref b) ca co ti go))) s (.ins a.cStore dx (storeF m wb first x y sp (.ref b) ca co ti go))) s (.ins a.cStore dx (storeF m wb first x y ca (.ref b) ca co ti go)) s = some (.ins a.cStore dx (storeF m wb first x y ca (.ref b) ca co ti go)) := upd_same
    generalize upd (upd (upd H s (.ins a.cStore dx (storeF m wb first x ar sp (.ref b) ca co ti go))) s (.ins a.cStore dx (storeF m wb first x y sp (.ref b) ca co ti go))) s (.ins a.cStore dx (storeF m wb first x y ca (.ref b) ca co ti go)) = H3 at b3 hs3
    have k3 := b3.tup hs
    have u3 := u.but b3 k3
    refine ⟨_, rfl, s, dx, _, rfl, hs3, rfl, s, dx, wb, _, y, ca, ps, nh, rfl, hs3, (by show 11 ≤ 900; decide), rfl, rfl, rfl, u3.uw, u3.nw, fun H8 cn hs8 b8 hcn => ?_⟩
    rw [storeF_left] at hs8
    have b08 := b3.trans b8
    have k08 := b08.tup hs
    refine k H8 ⟨⟨dx, first, x, y, ca, .ref b, ca, .ref cn, y, ca, hs8, ⟨hx.keep k08, hy.keep k08, hca.keep k08, ?_, ⟨cn, rfl, ?_⟩, hy.keep k08, hca.keep k08⟩⟩, u.but b08 k08, g.back hb⟩ b08
    · show BkT H8 (.ref b) ca n.bk
      rw [hb]
      exact ⟨hca.keep k08, b, x, y, rfl, k08 _ _ hbx, hx.keep k08, hy.keep k08⟩
    · rw [hcn, rep_oV]
      show _ = some (HO.tup ((List.replicate c.length none).map oV))
      rw [(g.bk c t gg hb).1]
theorem ok_StoreI (T : Txt P w K mg a d) : FnOk P w K mg base (L2.CX P w) 5 a.fStoreI d.fStoreI pStoreI (spStoreI a) := by
  have GN : FnOk P w K mg base (L2.CX P w) 4 a.fNeedState d.fNeedState pNeedState (spNeedState a.cMachine a.xNoState) := ok_NeedState T
  have GL : FnOk P w K mg base CX0 1 a.fLeaveWalk d.fLeaveWalk pLeaveWalk (spLeaveWalk a) := ok_LeaveWalk T
  refine T.FStoreI.okX scStoreI (fun vs H Q E h => ?_) (fun cdv A outer s H vs Q E hr h => ?_)
  · obtain ⟨s, dx, m, wb, tb, S, ps, nh, f, rfl, _⟩ := h
    rfl
  · obtain ⟨s, dx, m, wb, tb, S, ps, nh, f, rfl, hs, u, kN, k⟩ := h
    obtain ⟨⟨dw, tw, ts, hw, htw, hRw⟩, hW⟩ := id u.uw
    have n4 := hW.n4
    have n5 := hW.len
    refine ⟨_, pss_cons (ps_fld (pv 0) (pv 1) rfl)
      (pss_cons (ps_fld (pv 0) (pv 2) rfl)
      (pss_cons (ps_fld (pv 0) (pe_call (E := E) GN hr (by rfl) T.gNeedState T.FNeedState.kp T.bNeedState .nil (passes_call (takes_of rfl rfl rfl rfl) (fun _ _ _ _ h => h)) (pa_cons (pv 1) (pa_cons (pv 3) pa_nil))) rfl)
      (pss_cons (ps_fld (pv 0) (pe_op op_repN (pe_tup (pa_cons (pv 3) pa_nil)) (pe_fld (pv 2) rfl)) rfl)
      (pss_cons (ps_fld (pv 0) (pe_op op_repN (pe_tup (pa_cons (pv 3) pa_nil)) (pe_callB call_len_seq (by rfl) T.b_len boot_len (pa_cons (pe_fld (pv 2) rfl) pa_nil))) rfl)
      (pss_cons (ps_fld (pv 0) (pe_tup pa_nil) rfl)
      (pss_cons (ps_fld (pv 0) pe_non rfl)
      (pss_cons (ps_fld (pv 0) pe_non rfl)
      (pss_one (ps_expr (pe_meth0 (pv 0) T.clStore T.mLeaveWalk GL (hr.mono (by decide)) T.bLeaveWalk .nil pass0)))))))))), ?_⟩
    refine ⟨_, rfl, _, rfl, s, _, dx, _, rfl, hs, T.clStore, T.nStore_machine, (by show 0 < 1000; decide), ?_⟩
    refine ⟨_, rfl, _, rfl, s, _, dx, _, rfl, upd_same, T.clStore, T.nStore_web, (by show 1 < 1000; decide), ?_⟩
    have b2 : But s H (upd (upd H s (.ins a.cStore dx (putF "machine" (.ref m) []))) s (.ins a.cStore dx (putF "web" (.ref wb) (putF "machine" (.ref m) [])))) := but_put.put
    have hs2 : upd (upd H s (.ins a.cStore dx (putF "machine" (.ref m) []))) s (.ins a.cStore dx (putF "web" (.ref wb) (putF "machine" (.ref m) []))) s = some (.ins a.cStore dx (putF "web" (.ref wb) (putF "machine" (.ref m) []))) := upd_same
    generalize upd (upd H s (.ins a.cStore dx (putF "machine" (.ref m) []))) s (.ins a.cStore dx (putF "web" (.ref wb) (putF "machine" (.ref m) []))) = H2 at b2 hs2
    have k2 := b2.tup hs
    have u2 := u.but b2 k2
    refine ⟨_, rfl, _, rfl, m, tb, S, f, rfl, u2.um, fun f0 f1 => ?_, fun c q hq => ?_⟩
    · -- first
      refine ⟨_, rfl, s, _, dx, _, rfl, hs2, T.clStore, T.nStore_first, (by show 2 < 1000; decide), ?_⟩
      rw [show putF "first" (V.int f) (putF "web" (.ref wb) (putF "machine" (.ref m) [])) = (pf3 m wb f) from rfl]
      have b3 : But s H (upd H2 s (.ins a.cStore dx (pf3 m wb f))) := b2.put
      have hs3 : upd H2 s (.ins a.cStore dx (pf3 m wb f)) s = some (.ins a.cStore dx (pf3 m wb f)) := upd_same
      generalize upd H2 s (.ins a.cStore dx (pf3 m wb f)) = H3 at b3 hs3
      have hw3 := b3 _ _ hw u.nw
      have htw3 := b3.tup hs _ _ htw
      -- states
      refine ⟨_, rfl, (by show 1 ≤ sizeLine; decide), fun q hq => ?_⟩
      have s4 : Same H3 (upd H3 q (.tup [.int f])) := same_new hq
      refine ⟨_, rfl, wb, _, dw, _, _, rfl, s4 _ _ hw3, T.clWeb, T.nWeb_houses, rfl, q, nh, .int f, rfl, rfl, upd_same, by omega, fun p5 H5 s5 hp5 => ?_⟩
      have s35 := s4.trans s5
      have hs5 := s35 _ _ hs3
      have np5 : p5 ≠ s := ne_of hp5 hs5 (by intro z; cases z)
      refine ⟨_, rfl, s, _, dx, _, rfl, hs5, T.clStore, T.nStore_states, (by show 3 < 1000; decide), ?_⟩
      rw [show putF "states" (V.ref p5) (pf3 m wb f) = (pf4 m wb f p5) from rfl]
      have b6 : But s H (upd H5 s (.ins a.cStore dx (pf4 m wb f p5))) := (b3.trans (But.of s35)).put
      have hs6 : upd H5 s (.ins a.cStore dx (pf4 m wb f p5)) s = some (.ins a.cStore dx (pf4 m wb f p5)) := upd_same
      have hp6 : upd H5 s (.ins a.cStore dx (pf4 m wb f p5)) p5 = some (.tup (List.replicate nh (.int f))) := by rw [upd_ne np5]; exact hp5
      generalize upd H5 s (.ins a.cStore dx (pf4 m wb f p5)) = H6 at b6 hs6 hp6
      have hw6 := b6 _ _ hw u.nw
      have htw6 := b6.tup hs _ _ htw
      -- archives
      refine ⟨_, rfl, (by show 1 ≤ sizeLine; decide), fun q7 hq7 => ?_⟩
      have s7 : Same H6 (upd H6 q7 (.tup [.int f])) := same_new hq7
      refine ⟨_, rfl, wb, _, dw, _, _, rfl, s7 _ _ hw6, T.clWeb, T.nWeb_ties, rfl, tw, _, rfl, .inr (SqT.of (s7 _ _ htw6)), ?_⟩
      rw [List.length_map, hRw.1]
      refine ⟨q7, ps.length, .int f, rfl, rfl, upd_same, by omega, fun p8 H8 s8 hp8 => ?_⟩
      have s68 := s7.trans s8
      have hs8 := s68 _ _ hs6
      have np8 : p8 ≠ s := ne_of hp8 hs8 (by intro z; cases z)
      refine ⟨_, rfl, s, _, dx, _, rfl, hs8, T.clStore, T.nStore_archives, (by show 4 < 1000; decide), ?_⟩
      rw [show putF "archives" (V.ref p8) (pf4 m wb f p5) = (pf5 m wb f p5 p8) from rfl]
      have b9 : But s H (upd H8 s (.ins a.cStore dx (pf5 m wb f p5 p8))) := (b6.trans (But.of s68)).put
      have hs9 : upd H8 s (.ins a.cStore dx (pf5 m wb f p5 p8)) s = some (.ins a.cStore dx (pf5 m wb f p5 p8)) := upd_same
      have hp98 : upd H8 s (.ins a.cStore dx (pf5 m wb f p5 p8)) p8 = some (.tup (List.replicate ps.length (.int f))) := by rw [upd_ne np8]; exact hp8
      have hp95 : upd H8 s (.ins a.cStore dx (pf5 m wb f p5 p8)) p5 = some (.tup (List.replicate nh (.int f))) := by rw [upd_ne np5]; exact s68 _ _ hp6
      generalize upd H8 s (.ins a.cStore dx (pf5 m wb f p5 p8)) = H9 at b9 hs9 hp98 hp95
      -- steps, backup, caught
      refine ⟨(by show 0 ≤ sizeLine; decide), fun q10 hq10 => ?_⟩
      have s10 : Same H9 (upd H9 q10 (.tup [])) := same_new hq10
      have nq10 : q10 ≠ s := (ne_of_none hs9 hq10).symm
      refine ⟨_, rfl, s, _, dx, _, rfl, s10 _ _ hs9, T.clStore, T.nStore_steps, (by show 5 < 1000; decide), ?_⟩
      refine ⟨_, rfl, s, _, dx, _, rfl, upd_same, T.clStore, T.nStore_backup, (by show 6 < 1000; decide), ?_⟩
      refine ⟨_, rfl, s, _, dx, _, rfl, upd_same, T.clStore, T.nStore_caught, (by show 7 < 1000; decide), ?_⟩
      rw [show putF "caught" V.non (putF "backup" V.non (putF "steps" (V.ref q10) (pf5 m wb f p5 p8))) = (pf8 m wb f p5 p8 q10) from rfl]
      have b13 := ((But.of (p := s) s10).put (u := .ins a.cStore dx (putF "steps" (V.ref q10) (pf5 m wb f p5 p8)))).put (u := .ins a.cStore dx (putF "backup" V.non (putF "steps" (V.ref q10) (pf5 m wb f p5 p8)))) |>.put (u := .ins a.cStore dx (pf8 m wb f p5 p8 q10))
      have hq13 : upd (upd (upd (upd H9 q10 (.tup [])) s (.ins a.cStore dx (putF "steps" (V.ref q10) (pf5 m wb f p5 p8)))) s (.ins a.cStore dx (putF "backup" V.non (putF "steps" (V.ref q10) (pf5 m wb f p5 p8))))) s (.ins a.cStore dx (pf8 m wb f p5 p8 q10)) q10 = some (.tup []) := by
        rw [upd_ne nq10, upd_ne nq10, upd_ne nq10, upd_same]
      have hs13 : upd (upd (upd (upd H9 q10 (.tup [])) s (.ins a.cStore dx (putF "steps" (V.ref q10) (pf5 m wb f p5 p8)))) s (.ins a.cStore dx (putF "backup" V.non (putF "steps" (V.ref q10) (pf5 m wb f p5 p8))))) s (.ins a.cStore dx (pf8 m wb f p5 p8 q10)) s = some (.ins a.cStore dx (pf8 m wb f p5 p8 q10)) := upd_same
      generalize upd (upd (upd (upd H9 q10 (.tup [])) s (.ins a.cStore dx (putF "steps" (V.ref q10) (pf5 m wb f p5 p8)))) s (.ins a.cStore dx (putF "backup" V.non (putF "steps" (V.ref q10) (pf5 m wb f p5 p8))))) s (.ins a.cStore dx (pf8 m wb f p5 p8 q10)) = H13 at b13 hq13 hs13
      have k913 := b13.tup hs9
      have b013 := b9.trans b13
      have u13 := u.but b013 (b013.tup hs)
      refine ⟨_, rfl, s, dx, _, rfl, hs13, rfl, s, dx, wb, _, .ref p8, .ref q10, ps, nh, rfl, hs13, (by show 8 ≤ 900; decide), rfl, rfl, rfl, u13.uw, u13.nw, fun H14 cn hs14 b14 hcn => ?_⟩
      have k14 := b14.tup hs13
      have b014 := b013.trans b14
      refine k f0 f1 H14 ⟨⟨dx, .int f, .ref p5, .ref p8, .ref q10, .non, .non, .ref cn, .ref p8, .ref q10, hs14, ⟨⟨p5, rfl, ?_⟩, ⟨p8, rfl, ?_⟩, ⟨q10, [], rfl, k14 _ _ hq13, rfl, fun j b x e => by simp at e⟩, ⟨rfl, rfl⟩, ⟨cn, rfl, ?_⟩, ⟨p8, rfl, ?_⟩, ⟨q10, [], rfl, k14 _ _ hq13, rfl, fun j b x e => by simp at e⟩⟩⟩, u.but b014 (b014.tup hs), Gd.new f0 f1⟩ b014
      · rw [k14 _ _ (k913 _ _ hp95)]
        show some (HO.tup _) = some (HO.tup ((List.replicate nh f).map V.int))
        rw [List.map_replicate]
      · rw [k14 _ _ (k913 _ _ hp98)]
        show some (HO.tup _) = some (HO.tup ((List.replicate ps.length f).map V.int))
        rw [List.map_replicate]
      · rw [hcn, rep_oV]
        rfl
      · rw [k14 _ _ (k913 _ _ hp98)]
        show some (HO.tup _) = some (HO.tup ((List.replicate ps.length f).map V.int))
        rw [List.map_replicate]
    · have hq0 : H q = none := by
        cases z : H q with
        | none => rfl
        | some o =>
          by_cases e : q = s
          · rw [e] at hq; rw [hs2] at hq; cases hq
          · rw [b2 _ _ z e] at hq; cases hq
      refine kN c _ q (fun b o e n => ?_) hq0 upd_same
      rw [upd_ne (fun z => by rw [z, hq0] at e; cases e)]
      exact b2 b o e n
end
end Hl
set_option Elab.async false
set_option linter.all false
set_option maxRecDepth 100000
set_option maxHeartbeats 4000000
namespace Hl
open PySem PySem.Spec PyProof.Rows L2
/-! ### texts.py -/
def tx (i : Int) : Str := toString i
def rowTx (l : List Int) : Str := if 0 < l.length then Txt.join " " (l.map tx) else "-"
def cTx : Option Int → Str
  | none => "?"
  | some i => tx i
def coTx (co : List (Option Int)) : Str := Txt.join " " (co.map cTx)
theorem tx_small : ∀ k : Nat, k < 100 → (tx (k : Int)).length ≤ 2 := by decide +kernel
theorem tx_len {S : Nat} {x : Int} (hS : S ≤ 8) (h : InR S x) : (tx x).length ≤ 2 := by
  have z := tx_small x.toNat (by have := h.2; omega)
  rw [show ((x.toNat : Nat) : Int) = x by have := h.1; omega] at z
  exact z
theorem log_small {x : Int} (h0 : 0 ≤ x) (h1 : x < 1000) : x.natAbs.log2 < 1920 := by
  refine Nat.lt_of_le_of_lt (Nat.log2_le_self _) ?_
  omega
theorem sum_le {ls : List Nat} {b : Nat} (h : ∀ x ∈ ls, x ≤ b) : ls.sum ≤ ls.length * b := by
  induction ls with
  | nil => simp
  | cons x r ih =>
    have h1 := h x List.mem_cons_self
    have h2 := ih fun y hy => h y (List.mem_cons_of_mem _ hy)
    rw [List.sum_cons, List.length_cons, Nat.succ_mul]
    omega
theorem join_fits {ys : List Str} {a : Str} (ha : a.length = 1) (hl : ys.length ≤ 20) (h : ∀ y ∈ ys, y.length ≤ 2) : (ys.map (·.length)).sum + ys.length * a.length ≤ 16777216 := by
  have z := sum_le (ls := ys.map (·.length)) (b := 2) fun x hx => by
    obtain ⟨y, hy, rfl⟩ := List.mem_map.mp hx
    exact h y hy
  rw [List.length_map] at z
  rw [ha]
  omega
def spNumbersText (K : PySem.W.Frag) : Sp := fun vs H Q _ => ∃ (p : Addr) (l : List Int), vs = [.ref p] ∧ H p = some (.tup (l.map V.int)) ∧ l.length ≤ 5 ∧ (∀ x ∈ l, InR 8 x) ∧ ∀ H', Same H H' → Q (.str (rowTx l)) H'
def spCopiesText : Sp := fun vs H Q _ => ∃ (p : Addr) (l : List (Option Int)), vs = [.ref p] ∧ H p = some (.tup (l.map oV)) ∧ l.length ≤ 5 ∧ (∀ x, some x ∈ l → InR 8 x) ∧ ∀ H', Same H H' → Q (.str (coTx l)) H'
def rStrI : List V → Hp → VK → Prop := fun xs H Q => ∃ i, xs = [.int i] ∧ i.natAbs.log2 < 1920 ∧ Q (.str (toString i)) H
theorem range_fn {α : Type} {l : List α} {f : α → V} {d : α} : (List.range l.length).map (fun i => f (l.getD i d)) = l.map f := by
  apply List.ext_getElem
  · simp
  · intro i h1 h2
    simp at h1
    simp [List.getD_eq_getElem?_getD, List.getElem?_eq_getElem h1]
section
variable {P : Program} {w : World} {K : PySem.W.Frag} {mg : Str → Option Value} {base : Heap} {a : Ad} {d : Fd}
theorem ok_NumbersText (T : Txt P w K mg a d) : FnOk P w K mg base CX0 1 a.fNumbersText d.fNumbersText pNumbersText (spNumbersText K) := by
  obtain ⟨tk, gN⟩ := T.gNONE
  refine T.FNumbersText.ok scNumbersText (fun vs H Q E h => ?_) (fun cdv A outer s H vs Q E hr h => ?_)
  · obtain ⟨p, l, rfl, _⟩ := h
    rfl
  · obtain ⟨p, l, rfl, hp, hl, hx, k⟩ := h
    refine ⟨_, pss_one (ps_ret (pe_ifExp (pt_cmpR op_gt (pe_callB call_len_seq (by rfl) T.b_len boot_len (pa_cons (pv 0) pa_nil)) pe_int (nomark _))
      (pe_join pe_str (pe_lc (own := [("number", 1)]) (g := gName 1) (tt := tYes) (te := tCB rStrI (tCons (tVar 1) tNil)) rfl scNumbersText.nd (pi_tup (pv 0)) (blkOk_by (own := [("number", 1)]) (N := nNumbersText) (sc := defScope sNumbersText) (by decide +kernel))
        (fun _ _ _ _ _ => pg_name (i := 1) scNumbersText.nd rfl (Or.inl rfl)) (fun _ _ _ _ _ => pts_nil)
        (fun _ _ _ _ _ => pe_callTy call_str_int (by rfl) T.b_str boot_str (pa_cons (pv 1) pa_nil))))
      (pe_glob (v := .str "-") rfl gN ⟨_, rfl⟩))), ?_⟩
    refine ⟨_, rfl, p, _, rfl, .inr (SqT.of hp), ?_⟩
    rw [List.length_map]
    refine ⟨_, _, rfl, rfl, _, rfl, ?_⟩
    by_cases c : 0 < l.length
    · refine itdT (by omega) ⟨⟨_, rfl⟩, _, rfl, p, rfl, ⟨_, SqT.of hp⟩, fun D hD => ?_⟩
      refine lc_fil (walk_tup (xs := l.map V.int)) (fun _ => true) (fun i => .str (tx (l.getD i 0))) hD (by rw [List.length_map]; exact small8 hl) (fun H s => .inl (.inl (s _ _ hp))) (fun i x H2 H3 kk k0 hi s2 y hy _ => ?_) (fun H2 s2 e => ?_)
      · obtain ⟨rfl, hyx⟩ := y
        obtain ⟨z, hz, rfl⟩ := map_at hyx
        have hm := hx z (List.mem_of_getElem? hz)
        refine ⟨rfl, iteT (B := k0 H3) ?_⟩
        refine ⟨_, rfl, z, rfl, log_small hm.1 (by have := hm.2; omega), ?_⟩
        have h3 := hy rfl _ (Same.refl _)
        rw [List.getD_eq_getElem?_getD, hz] at h3
        exact h3
      · rw [kept_all, List.length_map, range_fn (f := fun i => V.str (tx i))] at e
        refine ⟨" ", D, l.map tx, rfl, rfl, .inl (SqL.of (by rw [e, List.map_map]; rfl)), join_fits rfl (by rw [List.length_map]; omega) (fun y hy => ?_), ?_⟩
        · obtain ⟨z, hz, rfl⟩ := List.mem_map.mp hy
          exact tx_len (Nat.le_refl 8) (hx z hz)
        · have z := k H2 s2
          unfold rowTx at z
          rw [if_pos c] at z
          exact z
    · refine itdF (by omega) ?_
      have z := k H (Same.refl _)
      unfold rowTx at z
      rw [if_neg c] at z
      exact z
theorem ok_CopiesText (T : Txt P w K mg a d) : FnOk P w K mg base CX0 1 a.fCopiesText d.fCopiesText pCopiesText spCopiesText := by
  refine T.FCopiesText.ok scCopiesText (fun vs H Q E h => ?_) (fun cdv A outer s H vs Q E hr h => ?_)
  · obtain ⟨p, l, rfl, _⟩ := h
    rfl
  · obtain ⟨p, l, rfl, hp, hl, hx, k⟩ := h
    refine ⟨_, pss_one (ps_ret (pe_join pe_str (pe_lc (own := [("state", 1)]) (g := gName 1) (tt := tYes) (te := tIf (tTest (tOp rIsN (tVar 1) (tC .non))) (tC (.str "?")) (tCB rStrI (tCons (tVar 1) tNil))) rfl scCopiesText.nd (pi_tup (pv 0)) (blkOk_by (own := [("state", 1)]) (N := nCopiesText) (sc := defScope sCopiesText) (by decide +kernel))
        (fun _ _ _ _ _ => pg_name (i := 1) scCopiesText.nd rfl (Or.inl rfl)) (fun _ _ _ _ _ => pts_nil)
        (fun _ _ _ _ _ => pe_ifExp (pt_cmpR op_isN (pv 1) pe_non (nomark _)) pe_str (pe_callTy call_str_int (by rfl) T.b_str boot_str (pa_cons (pv 1) pa_nil)))))), ?_⟩
    refine ⟨⟨_, rfl⟩, _, rfl, p, rfl, ⟨_, SqT.of hp⟩, fun D hD => ?_⟩
    refine lc_fil (walk_tup (xs := l.map oV)) (fun _ => true) (fun i => .str (cTx (l.getD i none))) hD (by rw [List.length_map]; exact small8 hl) (fun H s => .inl (.inl (s _ _ hp))) (fun i x H2 H3 kk k0 hi s2 y hy _ => ?_) (fun H2 s2 e => ?_)
    · obtain ⟨rfl, hyx⟩ := y
      obtain ⟨z, hz, rfl⟩ := map_at hyx
      have h3 := hy rfl _ (Same.refl _)
      rw [List.getD_eq_getElem?_getD, hz] at h3
      refine ⟨rfl, iteT (B := k0 H3) ?_⟩
      cases z with
      | none => exact ⟨_, rfl, rfl, _, rfl, itdT rfl h3⟩
      | some z =>
        have hm := hx z (List.mem_of_getElem? hz)
        exact ⟨_, rfl, rfl, _, rfl, itdF (fun z => by cases z) ⟨_, rfl, z, rfl, log_small hm.1 (by have := hm.2; omega), h3⟩⟩
    · rw [kept_all, List.length_map, range_fn (f := fun o => V.str (cTx o))] at e
      refine ⟨" ", D, l.map cTx, rfl, rfl, .inl (SqL.of (by rw [e, List.map_map]; rfl)), join_fits rfl (by rw [List.length_map]; omega) (fun y hy => ?_), k H2 s2⟩
      obtain ⟨z, hz, rfl⟩ := List.mem_map.mp hy
      cases z with
      | none => exact (by decide +kernel : (cTx none).length ≤ 2)
      | some z => exact tx_len (Nat.le_refl 8) (hx z hz)
end
end Hl
set_option Elab.async false
set_option linter.all false
set_option maxRecDepth 100000
set_option maxHeartbeats 4000000
namespace Hl
open PySem PySem.Spec PyProof.Rows L2
/-! ### desk.py: a told number -/
def figs : Str := "0123456789"
def isFig (c : Nat) : Bool := decide (c ∈ figs.cps.toList)
def figOk (w : Str) : Bool := decide (1 ≤ w.length) && (decide (w.length ≤ 9) && w.cps.toList.all isFig)
def told (w : Str) : Option Int := if figOk w = true then (match PySem.intText? w with
  | some n => if tx n = w then some n else none
  | none => none) else none
/-- told_number is fit for the word -/
def wdB (w : Str) : Bool := decide (w.length ≤ 12) && (!figOk w || (match PySem.intText? w with
  | some n => decide (n.natAbs < 10000000000)
  | none => false))
example : (["0", "1", "5", "999999999", "00", "", "-1", "x", "1000000000", "+0"] : List Str).all wdB = true := by decide +kernel
example : told "5" = some 5 := by decide +kernel
example : told "00" = none := by decide +kernel
example : Txt.split "do  0 0" " " = (["do", "", "0", "0"] : List Str) := by decide +kernel
def spTold : Sp := fun vs H Q _ => ∃ w : Str, vs = [.str w] ∧ wdB w = true ∧ ∀ H', Same H H' → Q (oV (told w)) H'
theorem all_fn {l : List Nat} {f : Nat → Bool} : ((List.range l.length).map fun i => f (l.getD i 0)).all id = l.all f := by
  rw [List.all_map]
  have z : (List.range l.length).map (fun i => l.getD i 0) = l := by
    apply List.ext_getElem
    · simp
    · intro i h1 h2
      simp [List.getD_eq_getElem?_getD, List.getElem?_eq_getElem h2]
  conv => rhs; rw [← z, List.all_map]
  rfl
section
variable {P : Program} {w : World} {K : PySem.W.Frag} {mg : Str → Option Value} {base : Heap} {a : Ad} {d : Fd}
theorem ok_Told (T : Txt P w K mg a d) : FnOk P w K mg base CX0 1 a.fTold d.fTold pTold spTold := by
  obtain ⟨t1, g1⟩ := T.gMOST_FIGURES
  obtain ⟨t2, g2⟩ := T.gFIGURES
  refine T.FTold.ok scTold (fun vs H Q E h => ?_) (fun cdv A outer s H vs Q E hr h => ?_)
  · obtain ⟨w, rfl, _⟩ := h
    rfl
  · obtain ⟨w, rfl, hw, k⟩ := h
    unfold wdB at hw
    rw [Bool.and_eq_true, decide_eq_true_eq] at hw
    obtain ⟨h12, hw⟩ := hw
    have hz : w.length ≤ sizeLine := Nat.le_trans h12 (by decide)
    refine ⟨_, pss_cons (ps_if (PW.pt (pw_or (pt_not (pt_chain op_le op_le pe_int (pe_callB call_len_str (by rfl) T.b_len boot_len (pa_cons (pv 0) pa_nil)) (pe_glob (v := .int 9) rfl g1 ⟨_, rfl⟩)))
        (pw_or1 (pt_not (pt_val (pe_callB (cr_all rfl) (by rfl) T.b_all boot_all (pa_cons (pe_lc (own := [("sign", 1)]) (g := gName 1) (tt := tYes) rfl scTold.nd (pi_str (pv 0)) (blkOk_by (own := [("sign", 1)]) (N := nTold) (sc := defScope sTold) (by decide +kernel))
          (fun _ _ _ _ _ => pg_name (i := 1) scTold.nd rfl (Or.inl rfl)) (fun _ _ _ _ _ => pts_nil)
          (fun _ _ _ _ _ => pe_cmpR op_in_sign (pv 1) (pe_glob (v := .str figs) rfl g2 ⟨_, rfl⟩) rfl)) pa_nil)))))))
        (pss_one (ps_ret pe_non)) pss_nil)
      (pss_one (ps_ret (pe_ifExp (pt_cmpR op_eq (pe_callTy call_str_int (by rfl) T.b_str boot_str (pa_cons (pe_callTy call_int_str (by rfl) T.b_int boot_int (pa_cons (pv 0) pa_nil)) pa_nil)) (pv 0) (nomark _))
        (pe_callTy call_int_str (by rfl) T.b_int boot_int (pa_cons (pv 0) pa_nil)) pe_non))), ?_⟩
    have no : figOk w = false → Q (.non) H := fun z => by
      have q := k H (Same.refl _)
      unfold told at q
      rw [z, if_neg Bool.false_ne_true] at q
      exact q
    refine ⟨_, rfl, w, rfl, hz, _, _, rfl, rfl, _, rfl, ?_⟩
    by_cases c1 : 1 ≤ w.length
    · refine itdT (by omega) ⟨_, _, rfl, rfl, _, rfl, ?_⟩
      by_cases c2 : w.length ≤ 9
      · refine iteNS (by omega) ?_
        refine ⟨_, rfl, w, rfl, fun D hD => ?_⟩
        refine lc_fil (walk_str (z := w)) (fun _ => true) (fun i => .bl (isFig (w.cps.toList.getD i 0))) hD (by show w.length < sizeLine; exact small8 h12) (fun _ _ => True.intro) (fun i x H2 H3 kk k0 hi s2 y hy _ => ?_) (fun H2 s2 e => ?_)
        · obtain ⟨rfl, cc, hcc, rfl⟩ := y
          refine ⟨rfl, iteT (B := k0 H3) ?_⟩
          refine ⟨_, rfl, cc, figs, rfl, rfl, ?_⟩
          have h3 := hy rfl _ (Same.refl _)
          rw [List.getD_eq_getElem?_getD, Array.getElem?_toList, hcc] at h3
          exact h3
        · rw [kept_all] at e
          refine ⟨D, (List.range w.cps.toList.length).map fun i => isFig (w.cps.toList.getD i 0), rfl, SqL.of (by rw [e, List.map_map, Array.length_toList]; rfl), _, rfl, ?_⟩
          rw [all_fn]
          cases c3 : w.cps.toList.all isFig with
          | false =>
            refine iteT ?_
            have q := k H2 s2
            have z : figOk w = false := by unfold figOk; rw [c3, Bool.and_false, Bool.and_false]
            unfold told at q
            rw [z, if_neg Bool.false_ne_true] at q
            exact q
          | true =>
            refine iteF ?_
            have z : figOk w = true := by unfold figOk; rw [c3, decide_eq_true c1, decide_eq_true c2]; rfl
            rw [z, Bool.not_true, Bool.false_or] at hw
            have q := k H2 s2
            unfold told at q
            rw [z, if_pos rfl] at q
            cases hi : PySem.intText? w with
            | none => rw [hi] at hw; cases hw
            | some n =>
              rw [hi] at hw q
              have hn : n.natAbs < 10000000000 := of_decide_eq_true hw
              have hlog : n.natAbs.log2 < 1920 := by
                by_cases h0 : n.natAbs = 0
                · rw [h0]; decide
                · rw [Nat.log2_lt h0]
                  exact Nat.lt_of_lt_of_le hn (by decide +kernel)
              refine ⟨_, rfl, w, n, rfl, hi, by omega, n, rfl, hlog, _, rfl, rfl, _, rfl, ?_⟩
              by_cases c4 : tx n = w
              · refine itdT (by show V.str (tx n) = V.str w; rw [c4]) ⟨_, rfl, w, n, rfl, hi, by omega, ?_⟩
                rw [show (match some n with | some n => if tx n = w then some n else none | none => (none : Option Int)) = some n from if_pos c4] at q
                exact q
              · refine itdF (fun z => c4 (by injection z)) ?_
                rw [show (match some n with | some n => if tx n = w then some n else none | none => (none : Option Int)) = none from if_neg c4] at q
                exact q
      · exact itdN (by omega) (no (by unfold figOk; rw [decide_eq_false c2, Bool.false_and, Bool.and_false]))
    · exact itdF (by omega) ⟨_, rfl, iteT (no (by unfold figOk; rw [decide_eq_false c1]; rfl))⟩
end
end Hl
set_option Elab.async false
set_option linter.all false
set_option maxRecDepth 100000
set_option maxHeartbeats 4000000
namespace Hl
open PySem PySem.Spec PyProof.Rows L2
/-! ### desk.py: plain words -/
theorem len_join (y : Str) : ∀ parts : List Str, (Str.join y parts).length ≤ (parts.map (·.length)).sum + parts.length * y.length
  | [] => Nat.zero_le _
  | [x] => by
    show x.length ≤ _
    simp
  | x :: z :: r => by
    have ih := len_join y (z :: r)
    show (x ++ y ++ Str.join y (z :: r)).length ≤ _
    rw [Str.length_append, Str.length_append]
    simp only [List.map_cons, List.sum_cons, List.length_cons, Nat.succ_mul] at ih ⊢
    omega
theorem row_len {l : List Int} (hl : l.length ≤ 5) (h : ∀ x ∈ l, InR 8 x) : (rowTx l).length ≤ 20 := by
  unfold rowTx
  by_cases c : 0 < l.length
  · rw [if_pos c, TL.join_eq]
    have z := len_join " " (l.map tx)
    have z2 := sum_le (ls := (l.map tx).map (·.length)) (b := 2) fun x hx => by
      obtain ⟨y, hy, rfl⟩ := List.mem_map.mp hx
      obtain ⟨i, hi, rfl⟩ := List.mem_map.mp hy
      exact tx_len (Nat.le_refl 8) (h i hi)
    rw [List.length_map, List.length_map] at z2
    rw [List.length_map] at z
    have z3 : (" " : Str).length = 1 := rfl
    rw [z3] at z
    omega
  · rw [if_neg c]
    decide +kernel
/-- the text of what the net holds -/
def held (n : Net) (w : Str) : Str := if w = "states" then rowTx n.st else if w = "ties" then rowTx n.ar else if w = "copies" then coTx n.co else if w = "steps" then tx n.sp.length else match n.bk with
  | none => "none"
  | some (c, t, g) => if w = "caught" then tx g.length else rowTx c ++ ", " ++ rowTx t
def sixW : List Str := ["states", "ties", "copies", "steps", "caught", "backup"]
/-- a Desk over the store at s -/
def DeskAt (C : Addr) (H : Hp) (dk s : Addr) : Prop := ∃ dx, H dk = some (.ins C dx [("store", .ref s)])
def spSayPlain (a : Ad) : Sp := fun vs H Q _ => ∃ (dk s m wb : Addr) (tb : List (List Int)) (S : Nat) (ps : List Pr) (nh N : Nat) (n : Net) (w : Str), vs = [.ref dk, .str w] ∧ DeskAt a.cDesk H dk s ∧ StoreAt a H s m wb tb S ps nh N n ∧ N ≤ 100 ∧
  ((w ∈ sixW ∧ ∀ H', Same H H' → Q (.str (held n w)) H') ∨ (w = "back" ∧ (n.bk = none → Q (.str "none") H) ∧ (∀ c t g, n.bk = some (c, t, g) → ∀ H', StoreAt a H' s m wb tb S ps nh N (n.back c t g) → But s H H' → Q (.str "ok") H')))
section
variable {P : Program} {w : World} {K : PySem.W.Frag} {mg : Str → Option Value} {base : Heap} {a : Ad} {d : Fd}
theorem ok_SayPlain (T : Txt P w K mg a d) : FnOk P w K mg base CX0 3 a.fSayPlain d.fSayPlain pSayPlain (spSayPlain a) := by
  have GN : FnOk P w K mg base CX0 1 a.fNumbersText d.fNumbersText pNumbersText (spNumbersText K) := ok_NumbersText T
  have GC : FnOk P w K mg base CX0 1 a.fCopiesText d.fCopiesText pCopiesText spCopiesText := ok_CopiesText T
  have GB : FnOk P w K mg base CX0 2 a.fPutBack d.fPutBack pPutBack (spPutBack a) := ok_PutBack T
  refine T.FSayPlain.ok scSayPlain (fun vs H Q E h => ?_) (fun cdv A outer s H vs Q E hr h => ?_)
  · obtain ⟨dk, s, m, wb, tb, S, ps, nh, N, n, w, rfl, _⟩ := h
    rfl
  · obtain ⟨dk, s, m, wb, tb, S, ps, nh, N, n, w, rfl, hD, hS, hN, k⟩ := h
    obtain ⟨dd, hdk⟩ := hD
    obtain ⟨⟨dx, first, st, ar, sp, bk, ca, co, ti, go, hs, hV⟩, u, g⟩ := id hS
    obtain ⟨bst, rfl, hst⟩ := id hV.st
    obtain ⟨bar, rfl, har⟩ := id hV.ar
    obtain ⟨bco, rfl, hco⟩ := id hV.co
    obtain ⟨bsp, asp, rfl, hsp, hsp2⟩ := id hV.sp
    have hT := u.um.ok
    have hW := u.uw.ok
    have n4 := hW.n4
    have n5 := hW.len
    have r8 : ∀ x, InR S x → InR 8 x := fun x hx => ⟨hx.1, by have := hx.2; have := hT.s12; omega⟩
    have hr1 : Room 1 _ := hr.mono (by decide)
    refine ⟨_, pss_cons (ps_set (i := 2) scSayPlain.nd rfl (.inl rfl) (pe_fld (pv 0) rfl))
      (pss_cons (ps_if (pt_cmpR op_eq (pv 1) pe_str (nomark _)) (pss_one (ps_ret (pe_call GN hr1 (by rfl) T.gNumbersText T.FNumbersText.kp T.bNumbersText .nil pass0 (pa_cons (pe_fld (pv 2) rfl) pa_nil)))) pss_nil)
      (pss_cons (ps_if (pt_cmpR op_eq (pv 1) pe_str (nomark _)) (pss_one (ps_ret (pe_call GN hr1 (by rfl) T.gNumbersText T.FNumbersText.kp T.bNumbersText .nil pass0 (pa_cons (pe_fld (pv 2) rfl) pa_nil)))) pss_nil)
      (pss_cons (ps_if (pt_cmpR op_eq (pv 1) pe_str (nomark _)) (pss_one (ps_ret (pe_call GC hr1 (by rfl) T.gCopiesText T.FCopiesText.kp T.bCopiesText .nil pass0 (pa_cons (pe_fld (pv 2) rfl) pa_nil)))) pss_nil)
      (pss_cons (ps_if (pt_cmpR op_eq (pv 1) pe_str (nomark _)) (pss_one (ps_ret (pe_callTy call_str_int (by rfl) T.b_str boot_str (pa_cons (pe_callB call_len_seq (by rfl) T.b_len boot_len (pa_cons (pe_fld (pv 2) rfl) pa_nil)) pa_nil)))) pss_nil)
      (pss_cons (ps_if (pt_cmpR op_isN (pe_fld (pv 2) rfl) pe_non (nomark _)) (pss_one (ps_ret pe_str)) pss_nil)
      (pss_cons (ps_if (pt_cmpR op_eq (pv 1) pe_str (nomark _)) (pss_one (ps_ret (pe_callTy call_str_int (by rfl) T.b_str boot_str (pa_cons (pe_callB call_len_seq (by rfl) T.b_len boot_len (pa_cons (pe_fld (pv 2) rfl) pa_nil)) pa_nil)))) pss_nil)
      (pss_cons (ps_if (pt_cmpR op_eq (pv 1) pe_str (nomark _)) (pss_one (ps_ret (pe_op op_add_str (pe_op op_add_str (pe_call GN hr1 (by rfl) T.gNumbersText T.FNumbersText.kp T.bNumbersText .nil pass0 (pa_cons (pe_ix ix_tup (pe_fld (pv 2) rfl) pe_int (fun _ _ => rfl)) pa_nil)) pe_str)
          (pe_call GN hr1 (by rfl) T.gNumbersText T.FNumbersText.kp T.bNumbersText .nil pass0 (pa_cons (pe_ix ix_tup (pe_fld (pv 2) rfl) pe_int (fun _ _ => rfl)) pa_nil))))) pss_nil)
      (pss_cons (ps_expr (pe_meth0 (pv 2) T.clStore T.mPutBack GB hr T.bPutBack .nil pass0))
      (pss_one (ps_ret pe_str)))))))))), ?_⟩
    refine ⟨_, rfl, dk, _, dd, _, _, rfl, hdk, T.clDesk, T.nDesk_store, rfl, ?_⟩
    have six : w ∈ sixW → ∀ H', Same H H' → Q (.str (held n w)) H' := fun hw => by
      rcases k with k | k
      · exact k.2
      · rw [k.1] at hw
        exact absurd hw (by decide +kernel)
    refine ⟨_, rfl, rfl, _, rfl, ?_⟩
    by_cases c1 : w = "states"
    · have q := six (by rw [c1]; decide +kernel)
      unfold held at q
      rw [if_pos c1] at q
      exact itdT (by rw [c1]) ⟨_, rfl, s, _, dx, _, _, rfl, hs, T.clStore, T.nStore_states, rfl, bst, n.st, rfl, hst, by rw [g.st]; omega, fun x hx => r8 x (g.stR x hx), q⟩
    refine itdF (fun z => c1 (by injection z)) ?_
    refine ⟨_, rfl, rfl, _, rfl, ?_⟩
    by_cases c2 : w = "ties"
    · have q := six (by rw [c2]; decide +kernel)
      unfold held at q
      rw [if_neg c1, if_pos c2] at q
      exact itdT (by rw [c2]) ⟨_, rfl, s, _, dx, _, _, rfl, hs, T.clStore, T.nStore_archives, rfl, bar, n.ar, rfl, har, by rw [g.ar]; omega, fun x hx => r8 x (g.arR x hx), q⟩
    refine itdF (fun z => c2 (by injection z)) ?_
    refine ⟨_, rfl, rfl, _, rfl, ?_⟩
    by_cases c3 : w = "copies"
    · have q := six (by rw [c3]; decide +kernel)
      unfold held at q
      rw [if_neg c1, if_neg c2, if_pos c3] at q
      exact itdT (by rw [c3]) ⟨_, rfl, s, _, dx, _, _, rfl, hs, T.clStore, T.nStore_copies, rfl, bco, n.co, rfl, hco, by rw [g.co]; omega, fun x hx => r8 x (g.coR x hx), q⟩
    refine itdF (fun z => c3 (by injection z)) ?_
    refine ⟨_, rfl, rfl, _, rfl, ?_⟩
    by_cases c4 : w = "steps"
    · have q := six (by rw [c4]; decide +kernel) H (Same.refl _)
      unfold held at q
      rw [if_neg c1, if_neg c2, if_neg c3, if_pos c4] at q
      refine itdT (by rw [c4]) ⟨_, rfl, s, _, dx, _, _, rfl, hs, T.clStore, T.nStore_steps, rfl, bsp, _, rfl, .inr (SqT.of hsp), ?_⟩
      rw [List.length_map, hsp2.1]
      exact ⟨_, rfl, log_small (by omega) (by have := g.sp; omega), q⟩
    refine itdF (fun z => c4 (by injection z)) ?_
    refine ⟨_, rfl, s, _, dx, _, _, rfl, hs, T.clStore, T.nStore_backup, rfl, rfl, _, rfl, ?_⟩
    have hB := hV.bk
    cases hb : n.bk with
    | none =>
      rw [hb] at hB
      refine itdT hB.1 ?_
      rcases k with k | k
      · have q := k.2 H (Same.refl _)
        unfold held at q
        rw [if_neg c1, if_neg c2, if_neg c3, if_neg c4, hb] at q
        exact q
      · exact k.2.1 hb
    | some x =>
      obtain ⟨c, t, gg⟩ := x
      rw [hb] at hB
      obtain ⟨⟨bca, aca, rfl, hca, hca2⟩, bb, x, y, rfl, hbb, ⟨bx, rfl, hx⟩, ⟨by_, rfl, hy⟩⟩ := hB
      obtain ⟨e1, e2, e3, e4, e5⟩ := g.bk c t gg hb
      refine itdF (fun z => by cases z) ?_
      refine ⟨_, rfl, rfl, _, rfl, ?_⟩
      by_cases c5 : w = "caught"
      · have q := six (by rw [c5]; decide +kernel) H (Same.refl _)
        unfold held at q
        rw [if_neg c1, if_neg c2, if_neg c3, if_neg c4, hb] at q
        refine itdT (by rw [c5]) ⟨_, rfl, s, _, dx, _, _, rfl, hs, T.clStore, T.nStore_caught, rfl, bca, _, rfl, .inr (SqT.of hca), ?_⟩
        rw [List.length_map, hca2.1]
        refine ⟨_, rfl, log_small (by omega) (by omega), ?_⟩
        rw [show (match (some (c, t, gg) : Option (List Int × List Int × List Stp)) with | none => ("none" : Str) | some (c, t, g) => if w = "caught" then tx g.length else rowTx c ++ ", " ++ rowTx t) = tx gg.length from if_pos c5] at q
        exact q
      refine itdF (fun z => c5 (by injection z)) ?_
      refine ⟨_, rfl, rfl, _, rfl, ?_⟩
      by_cases c6 : w = "backup"
      · have q := six (by rw [c6]; decide +kernel)
        unfold held at q
        rw [if_neg c1, if_neg c2, if_neg c3, if_neg c4, hb] at q
        rw [show (match (some (c, t, gg) : Option (List Int × List Int × List Stp)) with | none => ("none" : Str) | some (c, t, g) => if w = "caught" then tx g.length else rowTx c ++ ", " ++ rowTx t) = rowTx c ++ ", " ++ rowTx t from if_neg c5] at q
        have l1 := row_len (l := c) (by omega) fun x hx => r8 x (e3 x hx)
        have l2 := row_len (l := t) (by omega) fun x hx => r8 x (e4 x hx)
        refine itdT (by rw [c6]) ⟨_, rfl, s, _, dx, _, _, rfl, hs, T.clStore, T.nStore_backup, rfl, bb, _, _, _, rfl, rfl, SqT.of hbb, at_of (j := 0) (v := .ref bx) rfl rfl, bx, c, rfl, hx, by omega, fun x hx => r8 x (e3 x hx), fun H1 s1 => ?_⟩
        refine ⟨_, _, rfl, rfl, ?_, _, rfl, s, _, dx, _, _, rfl, s1 _ _ hs, T.clStore, T.nStore_backup, rfl, bb, _, _, _, rfl, rfl, SqT.of (s1 _ _ hbb), at_of (j := 1) (v := .ref by_) rfl rfl, by_, t, rfl, s1 _ _ hy, by omega, fun x hx => r8 x (e4 x hx), fun H2 s2 => ?_⟩
        · rw [sizeLine_eq]
          show (rowTx c).length + 2 ≤ _
          omega
        · refine ⟨_, _, rfl, rfl, ?_, q H2 (s1.trans s2)⟩
          rw [Str.length_append, sizeLine_eq]
          show (rowTx c).length + 2 + _ ≤ _
          omega
      refine itdF (fun z => c6 (by injection z)) ?_
      rcases k with k | k
      · have hw := k.1
        unfold sixW at hw
        simp [c1, c2, c3, c4, c5, c6] at hw
      · exact ⟨_, rfl, s, dx, _, rfl, hs, rfl, s, m, wb, tb, S, ps, nh, N, n, c, t, gg, rfl, hS, hb, fun H1 S1 b1 => k.2.2 c t gg hb H1 S1 b1⟩
end
end Hl
set_option Elab.async false
set_option linter.all false
set_option maxRecDepth 100000
set_option maxHeartbeats 4000000
namespace Hl
open PySem PySem.Spec PyProof.Rows L2
/-! ### d.get(k, x), d a dict of the written part -/
def tKGet2 (K : PySem.W.Frag) (w : World) (td ty tx : TE) : TE := fun σ H Q => td σ H fun x H1 => ∃ p, x = .ref p ∧ (∃ es n, K.lookup p = some ⟨.type "dict", none, .dict es n, #[]⟩ ∧ PySem.W.KeysLit w.params es.toList ∧ (p == sysModules) = false) ∧
  ty σ H1 fun y H2 => tx σ H2 fun z H3 => ∃ (k : Str) (r : Option V) (rv : Option Value), y = .str k ∧ PySem.W.nsIn K p k = some rv ∧ RelO r rv ∧ Q (r.getD z) H3
theorem pe_kget2 {X : Cx} {o e f : Expr} {apos cpos : Pos} {td ty tx : TE} (ho : PE X o td) (he : PE X e ty) (hf : PE X f tx) (m : M2 X o "get" apos e f cpos) : PE X (.Call (.Attribute o "get" apos) [e, f] [] cpos) (tKGet2 X.K X.w td ty tx) := by
  refine ⟨fun pins s σ H Q I h => ?_⟩
  refine wpAny_Call_method m.base m.few m.line PySem.F.plainAttrs_dict PySem.F.slot_dict_get PySem.F.type_dict_get (thn (ho.run pins s σ H _ I h) fun u s1 ⟨x, H1, I1, rx, a, ex, d, q1⟩ => ?_)
  subst ex
  obtain rfl : u = Value.ref a := rx
  obtain ⟨es, n, hl, hk, hs⟩ := d
  have hm1 := PySem.W.mapOf_K (prog := X.prog) (w := X.w) I1.kIn hl hk
  refine ⟨hm1.typeIs, hm1.noDict, ?_⟩
  rw [m.trees]
  refine Calls.callWith_builtin rfl (Calls.evalArgs_plain (Calls.spliced_cons (thn (he.run pins s1 σ H1 _ I1 q1) fun iv s2 ⟨y, H2, I2, ry, q2⟩ =>
    Calls.spliced_cons (thn (hf.run pins s2 σ H2 _ I2 q2) fun fv s3 ⟨z, H3, I3, rz, k, r, rv, ey, hn, rr, q3⟩ => Calls.spliced_nil ?_))))
  subst ey
  obtain ⟨t, rfl⟩ := ry
  have hm := PySem.W.mapOf_K (prog := X.prog) (w := X.w) I3.kIn hl hk
  refine call_meetsIn PySem.F.slot_dict_get hm.typeIs PySem.F.entry_dict_get (PySem.F.args_dict_get_3 _ _ _) (meets_dict_get_default (strKind X.prog X.w) a (strKind_is X.prog X.w k t) hs fv) ⟨_, hm, ?_⟩
  rw [PySem.W.find_K hl hn]
  exact ⟨_, H3, I3.tok _, rr.getD rz, q3⟩
end Hl
set_option Elab.async false
set_option linter.all false
set_option maxRecDepth 100000
set_option maxHeartbeats 4000000
namespace Hl
open PySem PySem.Spec PyProof.Rows L2
/-! ### desk.py: commands -/
inductive Cmd where
  | doo (h d : Int)
  | meet (t : Int)
  | read (h : Int)
def Cmd.word : Cmd → Str
  | .doo _ _ => "do"
  | .meet _ => "meet"
  | .read _ => "read"
def Cmd.nums : Cmd → List Int
  | .doo h d => [h, d]
  | .meet t => [t]
  | .read h => [h]
def CmdW (a : Ad) (H : Hp) (s m wb : Addr) (tb : List (List Int)) (S : Nat) (ps : List Pr) (nh N : Nat) (n : Net) (Q : Int → Hp → Prop) (E : XK) : Cmd → Prop
  | .doo h dd => (¬ (0 ≤ h ∧ h < (nh : Int)) → RW H E a.xNoHouse) ∧ (0 ≤ h → h < (nh : Int) → ¬ (0 ≤ dd ∧ dd < (tb.length : Int)) → RW H E a.xNoDeed) ∧
      (0 ≤ h → h < (nh : Int) → 0 ≤ dd → dd < (tb.length : Int) → ∀ H', StoreAt a H' s m wb tb S ps nh (N + 1) (n.doo tb h dd) → But s H H' → Q (nextSt tb dd (n.st.getD h.toNat 0)) H')
  | .meet t => (¬ (0 ≤ t ∧ t < (ps.length : Int)) → RW H E a.xNoTie) ∧ (∀ p, 0 ≤ t → ps[t.toNat]? = some p → ∀ o, JoinIs tb (n.ar.getD t.toNat 0) (n.st.getD p.1.toNat 0) (n.st.getD p.2.toNat 0) o →
      (o = none → RW H E a.xUntold) ∧ ∀ e, o = some e → ∀ H', StoreAt a H' s m wb tb S ps nh (N + 1) (n.met ps t p e) → But s H H' → Q e H')
  | .read h => (¬ (0 ≤ h ∧ h < (nh : Int)) → RW H E a.xNoHouse) ∧ (0 ≤ h → h < (nh : Int) → noCopy n.co h = false → RW H E a.xRefused) ∧
      (0 ≤ h → h < (nh : Int) → noCopy n.co h = true → ∀ H', StoreAt a H' s m wb tb S ps nh N (n.read ps h) → But s H H' → Q (n.st.getD h.toNat 0) H')
def spSayTold (a : Ad) : Sp := fun vs H Q E => ∃ (dk s m wb nl : Addr) (tb : List (List Int)) (S : Nat) (ps : List Pr) (nh N : Nat) (n : Net) (c : Cmd), vs = [.ref dk, .str c.word, .ref nl] ∧ DeskAt a.cDesk H dk s ∧ StoreAt a H s m wb tb S ps nh N n ∧ N ≤ 100 ∧
  H nl = some (.lst (c.nums.map V.int)) ∧ CmdW a H s m wb tb S ps nh N n (fun i H' => Q (.str (tx i)) H') E c
section
variable {P : Program} {w : World} {K : PySem.W.Frag} {mg : Str → Option Value} {base : Heap} {a : Ad} {d : Fd}
theorem ok_SayTold (T : Txt P w K mg a d) : FnOk P w K mg base (L2.CX P w) 7 a.fSayTold d.fSayTold pSayTold (spSayTold a) := by
  have GD : FnOk P w K mg base (L2.CX P w) 5 a.fDo d.fDo pDo (spDo a) := ok_Do T
  have GM : FnOk P w K mg base (L2.CX P w) 6 a.fMeet d.fMeet pMeet (spMeet a) := ok_Meet T
  have GR : FnOk P w K mg base (L2.CX P w) 5 a.fRead d.fRead pRead (spRead a) := ok_Read T
  refine T.FSayTold.okX scSayTold (fun vs H Q E h => ?_) (fun cdv A outer s H vs Q E hr h => ?_)
  · obtain ⟨dk, s, m, wb, nl, tb, S, ps, nh, N, n, c, rfl, _⟩ := h
    rfl
  · obtain ⟨dk, s, m, wb, nl, tb, S, ps, nh, N, n, c, rfl, hD, hS, hN, hnl, k⟩ := h
    obtain ⟨dd, hdk⟩ := hD
    obtain ⟨⟨dx, first, st, ar, sp, bk, ca, co, ti, go, hs, hV⟩, u, g⟩ := id hS
    have hT := u.um.ok
    have hW := u.uw.ok
    have r8 : ∀ x, InR S x → InR 8 x := fun x hx => ⟨hx.1, by have := hx.2; have := hT.s12; omega⟩
    have small : ∀ x, InR S x → x.natAbs.log2 < 1920 := fun x hx => log_small (r8 x hx).1 (by have := (r8 x hx).2; omega)
    refine ⟨_, pss_cons (ps_if (pt_cmpR op_eq (pv 1) pe_str (nomark _)) (pss_one (ps_ret (pe_callTy call_str_int (by rfl) T.b_str boot_str (pa_cons (pe_meth (E := E) (pe_fld (pv 0) rfl) T.clStore T.mDo GD (hr.mono (by decide)) T.bDo .nil (passes_call (takes_of rfl rfl rfl rfl) (fun _ _ _ _ h => h)) (pa_cons (pe_ix ix_list (pv 2) pe_int (fun _ _ => rfl)) (pa_cons (pe_ix ix_list (pv 2) pe_int (fun _ _ => rfl)) pa_nil))) pa_nil)))) pss_nil)
      (pss_cons (ps_if (pt_cmpR op_eq (pv 1) pe_str (nomark _)) (pss_one (ps_ret (pe_callTy call_str_int (by rfl) T.b_str boot_str (pa_cons (pe_meth (E := E) (pe_fld (pv 0) rfl) T.clStore T.mMeet GM hr T.bMeet .nil (passes_call (takes_of rfl rfl rfl rfl) (fun _ _ _ _ h => h)) (pa_cons (pe_ix ix_list (pv 2) pe_int (fun _ _ => rfl)) pa_nil)) pa_nil)))) pss_nil)
      (pss_one (ps_ret (pe_callTy call_str_int (by rfl) T.b_str boot_str (pa_cons (pe_meth (E := E) (pe_fld (pv 0) rfl) T.clStore T.mRead GR (hr.mono (by decide)) T.bRead .nil (passes_call (takes_of rfl rfl rfl rfl) (fun _ _ _ _ h => h)) (pa_cons (pe_ix ix_list (pv 2) pe_int (fun _ _ => rfl)) pa_nil)) pa_nil))))), ?_⟩
    cases c with
    | doo h d0 =>
      obtain ⟨k1, k2, k3⟩ := k
      refine ⟨_, rfl, rfl, _, rfl, itdT rfl ?_⟩
      refine ⟨_, rfl, dk, _, dd, _, _, rfl, hdk, T.clDesk, T.nDesk_store, rfl, s, dx, _, rfl, hs, rfl, ?_⟩
      refine ⟨_, rfl, nl, _, _, _, rfl, rfl, SqL.of hnl, at_of (j := 0) (v := .int h) rfl rfl, _, rfl, nl, _, _, _, rfl, rfl, SqL.of hnl, at_of (j := 1) (v := .int d0) rfl rfl, ?_⟩
      refine ⟨s, m, wb, tb, S, ps, nh, N, n, h, d0, rfl, hS, hN, k1, k2, fun h0 h1 d1 d2 H' S' b' => ⟨_, rfl, ?_, k3 h0 h1 d1 d2 H' S' b'⟩⟩
      obtain ⟨_, _, _, _, q⟩ := nextSt_in hT d1 d2 (g.stR _ (getD_mem (i := h.toNat) (by rw [g.st]; omega)))
      exact small _ q
    | meet t =>
      obtain ⟨k1, k2⟩ := k
      refine ⟨_, rfl, rfl, _, rfl, itdF (by show ¬ V.str "meet" = V.str "do"; decide +kernel) ?_⟩
      refine ⟨_, rfl, rfl, _, rfl, itdT rfl ?_⟩
      refine ⟨_, rfl, dk, _, dd, _, _, rfl, hdk, T.clDesk, T.nDesk_store, rfl, s, dx, _, rfl, hs, rfl, ?_⟩
      refine ⟨_, rfl, nl, _, _, _, rfl, rfl, SqL.of hnl, at_of (j := 0) (v := .int t) rfl rfl, ?_⟩
      refine ⟨s, m, wb, tb, S, ps, nh, N, n, t, rfl, hS, hN, k1, fun p t0 hp o hj => ⟨(k2 p t0 hp o hj).1, fun e he H' S' b' => ⟨_, rfl, ?_, (k2 p t0 hp o hj).2 e he H' S' b'⟩⟩⟩
      have hpm := List.mem_of_getElem? hp
      have hx := g.arR _ (getD_mem (i := t.toNat) (by rw [g.ar]; exact (List.getElem?_eq_some_iff.mp hp).1))
      have hy := g.stR _ (getD_mem (i := p.1.toNat) (by rw [g.st]; have := hW.a0 p hpm; have := hW.a1 p hpm; omega))
      rw [he] at hj
      exact small _ (hj.inS hT ⟨hx.1, hx.2, hy.1, hy.2⟩)
    | read h =>
      obtain ⟨k1, k2, k3⟩ := k
      refine ⟨_, rfl, rfl, _, rfl, itdF (by show ¬ V.str "read" = V.str "do"; decide +kernel) ?_⟩
      refine ⟨_, rfl, rfl, _, rfl, itdF (by show ¬ V.str "read" = V.str "meet"; decide +kernel) ?_⟩
      refine ⟨_, rfl, dk, _, dd, _, _, rfl, hdk, T.clDesk, T.nDesk_store, rfl, s, dx, _, rfl, hs, rfl, ?_⟩
      refine ⟨_, rfl, nl, _, _, _, rfl, rfl, SqL.of hnl, at_of (j := 0) (v := .int h) rfl rfl, ?_⟩
      refine ⟨s, m, wb, tb, S, ps, nh, N, n, h, rfl, hS, k1, k2, fun h0 h1 c H' S' b' => ⟨_, rfl, small _ (g.stR _ (getD_mem (i := h.toNat) (by rw [g.st]; omega))), k3 h0 h1 c H' S' b'⟩⟩
end
end Hl
set_option Elab.async false
set_option linter.all false
set_option maxRecDepth 100000
set_option maxHeartbeats 4000000
namespace Hl
open PySem PySem.Spec PyProof.Rows L2
theorem RW.same {H H1 : Hp} {E : XK} {C : Addr} (r : RW H E C) (s : Same H H1) : RW H1 E C := fun H' d s' => r H' d (s.trans s')
theorem CmdW.same {a : Ad} {H H1 : Hp} {s m wb : Addr} {tb : List (List Int)} {S : Nat} {ps : List Pr} {nh N : Nat} {n : Net} {Q : Int → Hp → Prop} {E : XK} (h : Same H H1) : ∀ {c : Cmd}, CmdW a H s m wb tb S ps nh N n Q E c → CmdW a H1 s m wb tb S ps nh N n Q E c
  | .doo _ _, ⟨k1, k2, k3⟩ => ⟨fun z => (k1 z).same h, fun x y z => (k2 x y z).same h, fun x y z u H' S' b => k3 x y z u H' S' ((But.of h).trans b)⟩
  | .meet _, ⟨k1, k2⟩ => ⟨fun z => (k1 z).same h, fun p x y o j => ⟨fun z => ((k2 p x y o j).1 z).same h, fun e he H' S' b => (k2 p x y o j).2 e he H' S' ((But.of h).trans b)⟩⟩
  | .read _, ⟨k1, k2, k3⟩ => ⟨fun z => (k1 z).same h, fun x y z => (k2 x y z).same h, fun x y z H' S' b => k3 x y z H' S' ((But.of h).trans b)⟩
/-- the words of a line -/
def wordsOf : V → List Str
  | .str z => Txt.split z " "
  | _ => [""]
def hdW (ws : List Str) : Str := ws.headD ""
def isPlain (ws : List Str) : Bool := decide (ws.length = 1) && decide (hdW ws ∈ plainW)
def numOf (w : Str) : Int := if w = "do" then 2 else if w = "meet" then 1 else if w = "read" then 1 else 0
def numsOf (ws : List Str) : List (Option Int) := (ws.drop 1).map told
def badL (ws : List Str) : Bool := !((numsOf ws).all Option.isSome) || (!decide (numOf (hdW ws) = ((numsOf ws).length : Int)) || decide ((numsOf ws).length = 0))
def allW : List Str := (["do", "meet", "read"] : List Str) ++ oddW
/-- say is fit for the words -/
def okL (ws : List Str) : Bool := decide (1 ≤ ws.length) && (decide (ws.length ≤ 20) && ((isPlain ws || decide (hdW ws ∈ allW)) && (ws.drop 1).all wdB))
def ECatch (a : Ad) (Q : VK) : XK := fun cls _ H' => (cls = .ref a.xUntold ∧ Q (.str "untold") H') ∨ ((cls = .ref a.xRefused ∨ cls = .ref a.xNoHouse ∨ cls = .ref a.xNoDeed ∨ cls = .ref a.xNoTie) ∧ Q (.str "refused") H')
def spSay (a : Ad) (K : PySem.W.Frag) : Sp := fun vs H Q E => ∃ (dk s m wb : Addr) (tb : List (List Int)) (S : Nat) (ps : List Pr) (nh N : Nat) (n : Net) (v : V) (b : Bool), vs = [.ref dk, v] ∧ DeskAt a.cDesk H dk s ∧ StoreAt a H s m wb tb S ps nh N n ∧ N ≤ 100 ∧
  LineV K H v b ∧ (∀ z, v = .str z → z.length ≤ 100) ∧ okL (wordsOf v) = true ∧
  ((isPlain (wordsOf v) = true ∧ ((hdW (wordsOf v) ∈ sixW ∧ ∀ H', Same H H' → Q (.str (held n (hdW (wordsOf v)))) H') ∨
      (hdW (wordsOf v) = "back" ∧ (n.bk = none → ∀ H', Same H H' → Q (.str "none") H') ∧ (∀ c t g, n.bk = some (c, t, g) → ∀ H', StoreAt a H' s m wb tb S ps nh N (n.back c t g) → But s H H' → Q (.str "ok") H')))) ∨
   (isPlain (wordsOf v) = false ∧ badL (wordsOf v) = true ∧ ∀ (H' : Hp) (d : Addr), Same H H' → H d = none → H' d = some (.xd [("at", .int 0)]) → E (.ref a.xBadText) (some d) H') ∨
   (isPlain (wordsOf v) = false ∧ badL (wordsOf v) = false ∧ ∃ c : Cmd, hdW (wordsOf v) = c.word ∧ numsOf (wordsOf v) = c.nums.map some ∧ CmdW a H s m wb tb S ps nh N n (fun i H' => Q (.str (tx i)) H') (ECatch a Q) c))
theorem inV_plain (w : Str) : inV (.str w) (plainW.map V.str) = decide (w ∈ plainW) := by
  have key : ∀ l : List Str, inV (.str w) (l.map V.str) = decide (w ∈ l) := fun l => by
    induction l with
    | nil => rfl
    | cons x l ih =>
      unfold inV at ih ⊢
      rw [List.map_cons, List.any_cons, ih]
      show (x == w || decide (w ∈ l)) = decide (w ∈ x :: l)
      by_cases c : x = w
      · subst c; simp
      · have c2 : ¬ w = x := fun z => c z.symm
        simp [c, c2]
  exact key plainW
theorem num_at {P : Program} {w : World} {K : PySem.W.Frag} {mg : Str → Option Value} {a : Ad} {d : Fd} (T : Txt P w K mg a d) {x : Str} (h : x ∈ allW) : ∃ (r : Option V) (rv : Option Value), PySem.W.nsIn K a.aNumbers x = some rv ∧ RelO r rv ∧ r.getD (.int 0) = .int (numOf x) := by
  obtain ⟨⟨_, _, u1, _, _, e1, r1⟩, ⟨_, _, u2, _, _, e2, r2⟩, ⟨_, _, u3, _, _, e3, r3⟩⟩ := T.num
  by_cases c1 : x = "do"
  · subst c1
    exact ⟨some (.int 2), some u1, e1, r1, by decide +kernel⟩
  by_cases c2 : x = "meet"
  · subst c2
    exact ⟨some (.int 1), some u2, e2, r2, by decide +kernel⟩
  by_cases c3 : x = "read"
  · subst c3
    exact ⟨some (.int 1), some u3, e3, r3, by decide +kernel⟩
  have hm : x ∈ oddW := by
    unfold allW at h
    simp [c1, c2, c3] at h
    exact h
  exact ⟨none, none, T.numNo x hm, trivial, by unfold numOf; rw [if_neg c1, if_neg c2, if_neg c3]; rfl⟩
/-- words = line.split(' ') if is_text(line) else [''] -/
theorem words_of {K : PySem.W.Frag} {H : Hp} {dk : V} {v : V} {b : Bool} {x2 x3 x4 : Option V} {Q : VK} (hL : LineV K H v b) (hz : ∀ z, v = .str z → z.length ≤ 100)
    (k : ∀ (H1 : Hp) (wl : Addr), Same H H1 → H1 wl = some (.lst ((wordsOf v).map V.str)) → Q (.ref wl) H1) :
    tIf (tB (tCall (spIsText K) [] E0 (tCons (tVar 1) tNil))) (tM1 (fun x xs H Q => ∃ a b, x = .str a ∧ xs = [.str b] ∧ (b.length == 0) = false ∧ a.length + 2 ≤ sizeLine ∧ rNewStrs (Txt.split a b) H Q) (tVar 1) (tC (.str " "))) (tLst (tCons (tC (.str "")) tNil)) [some dk, some v, x2, x3, x4] H Q := by
  refine ⟨_, rfl, v, b, rfl, hL, b, rfl, ?_⟩
  cases hL with
  | str z =>
    refine iteT ⟨_, rfl, ⟨_, rfl⟩, z, " ", rfl, rfl, by decide +kernel, ?_, fun p hp => k _ p (same_new hp) upd_same⟩
    have := hz z rfl
    rw [sizeLine_eq]
    omega
  | non => exact iteF ⟨(by show 1 ≤ sizeLine; decide), fun p hp => k _ p (same_new hp) upd_same⟩
  | int i => exact iteF ⟨(by show 1 ≤ sizeLine; decide), fun p hp => k _ p (same_new hp) upd_same⟩
  | tup h => exact iteF ⟨(by show 1 ≤ sizeLine; decide), fun p hp => k _ p (same_new hp) upd_same⟩
theorem hd_at {ws : List Str} (h : 1 ≤ ws.length) : (ws.map V.str)[0]? = some (.str (hdW ws)) := by
  unfold hdW
  cases ws with
  | nil => simp at h
  | cons x r => rfl
/-- len(words) == 1 and words[0] in PLAIN -/
theorem plain_test {K : PySem.W.Frag} {H : Hp} {dk v : V} {wl aP : Addr} {ws : List Str} {x3 x4 : Option V} {Q : Bool → Hp → Prop} (hwl : H wl = some (.lst (ws.map V.str))) (h1 : 1 ≤ ws.length) (pl : ∀ H, SqT K H aP (plainW.map V.str)) (q : Q (isPlain ws) H) :
    tAnd (tTest (tOp rEq (tCB (rLenS K) (tCons (tVar 2) tNil)) (tC (.int 1)))) (tTest (tOp (rIn K false) (tOp (rIxL K) (tVar 2) (tC (.int 0))) (tC (.ref aP)))) [some dk, some v, some (.ref wl), x3, x4] H Q := by
  refine ⟨_, rfl, wl, _, rfl, .inl (SqL.of hwl), rfl, _, rfl, ?_⟩
  rw [List.length_map]
  by_cases c1 : ws.length = 1
  · refine itdT (by rw [c1]; rfl) ?_
    refine ⟨_, rfl, wl, _, _, _, rfl, rfl, SqL.of hwl, at_of (j := 0) rfl (hd_at h1), aP, _, rfl, .inr (pl _), rfl, by decide +kernel, _, rfl, ?_⟩
    rw [if_neg Bool.false_ne_true, inV_plain]
    unfold isPlain at q
    rw [decide_eq_true c1, Bool.true_and] at q
    exact q
  · refine itdF (fun z => c1 (by injection z with z; omega)) ?_
    unfold isPlain at q
    rw [decide_eq_false c1, Bool.false_and] at q
    exact q
section
variable {P : Program} {w : World} {K : PySem.W.Frag} {mg : Str → Option Value} {base : Heap} {a : Ad} {d : Fd}
theorem ok_Say (T : Txt P w K mg a d) : FnOk P w K mg base (L2.CX P w) 8 a.fSay d.fSay pSay (spSay a K) := by
  have GX : FnOk P w K mg base CX0 1 a.fIsText d.fIsText pIsText (spIsText K) := ok_IsText T
  have GP : FnOk P w K mg base CX0 3 a.fSayPlain d.fSayPlain pSayPlain (spSayPlain a) := ok_SayPlain T
  have GN : FnOk P w K mg base CX0 1 a.fTold d.fTold pTold spTold := ok_Told T
  have GS : FnOk P w K mg base (L2.CX P w) 7 a.fSayTold d.fSayTold pSayTold (spSayTold a) := ok_SayTold T
  refine T.FSay.okX scSay (fun vs H Q E h => ?_) (fun cdv A outer s H vs Q E hr h => ?_)
  · obtain ⟨dk, s, m, wb, tb, S, ps, nh, N, n, v, b, rfl, _⟩ := h
    rfl
  · obtain ⟨dk, s, m, wb, tb, S, ps, nh, N, n, v, b, rfl, hD, hS, hN, hL, hz, hok, k⟩ := h
    obtain ⟨dd, hdk⟩ := hD
    unfold okL at hok
    simp only [Bool.and_eq_true, decide_eq_true_eq, Bool.or_eq_true] at hok
    obtain ⟨ok1, ok2, ok3, ok4⟩ := hok
    refine ⟨_, pss_cons (ps_set (i := 2) scSay.nd rfl (.inl rfl) (pe_ifExp (pt_val (pe_call GX (hr.mono (by decide)) (by rfl) T.gIsText T.FIsText.kp T.bIsText .nil pass0 (pa_cons (pv 1) pa_nil))) (pe_split (pv 1) pe_str) (pe_lst (pa_cons pe_str pa_nil))))
      (pss_cons (ps_if (PW.pt (pw_and (pt_cmpR op_eq (pe_callB call_len_seq (by rfl) T.b_len boot_len (pa_cons (pv 2) pa_nil)) pe_int (nomark _)) (pw_and1 (pt_cmpR op_in_seq (pe_ix ix_list (pv 2) pe_int (fun _ _ => rfl)) (pe_glob (v := .ref a.aPlain) rfl T.gPLAIN rfl) rfl))))
        (pss_one (ps_ret (pe_meth (pv 0) T.clDesk T.mSayPlain GP (hr.mono (by decide)) T.bSayPlain .nil pass0 (pa_cons (pe_ix ix_list (pv 2) pe_int (fun _ _ => rfl)) pa_nil)))) pss_nil)
      (pss_cons (ps_setLc (i := 3) (own := [("word", 4)]) (g := gName 4) (tt := tYes) (te := tCall spTold [] E0 (tCons (tVar 4) tNil)) rfl scSay.nd rfl rfl (sw_true rfl rfl rfl (by decide +kernel)) (pi_list (pe_slice sl_list (pv 2) (po_some pe_int) po_none))
          (blkOk_by (own := [("word", 4)]) (N := nSay) (sc := defScope sSay) (by decide +kernel))
          (fun _ _ _ _ _ => pg_name (i := 4) scSay.nd rfl (Or.inl rfl)) (fun _ _ _ _ _ => pts_nil)
          (fun _ _ _ _ _ => pe_call GN (hr.mono (by decide)) (by rfl) T.gTold T.FTold.kp T.bTold .nil pass0 (pa_cons (pv 4) pa_nil)))
      (pss_cons (ps_if (PW.pt (pw_or (pt_cmpR op_in_seq pe_non (pv 3) rfl) (pw_or (pt_cmpR op_ne (pe_kget2 (pe_glob (v := .ref a.aNumbers) rfl T.gNUMBERS rfl) (pe_ix ix_list (pv 2) pe_int (fun _ _ => rfl)) pe_int ⟨rfl, rfl, rfl, rfl⟩) (pe_callB call_len_seq (by rfl) T.b_len boot_len (pa_cons (pv 3) pa_nil)) (nomark _))
          (pw_or1 (pt_cmpR op_eq (pe_callB call_len_seq (by rfl) T.b_len boot_len (pa_cons (pv 3) pa_nil)) pe_int (nomark _))))))
        (pss_one (raise_BadText (W := fun cls d _ H => E cls d H) T rfl hr (takes_of rfl rfl rfl rfl) (pa_cons pe_int pa_nil))) pss_nil)
      (pss_one (ps_try_two (c := .ref a.xUntold) (cy := .ref a.xNetError) (cz := .type "KeyError")
        (tb := fun W D σ H => ∃ Ech : XK, (∀ cls d σ' H', Ech cls d H' → W cls d σ' H') ∧ tRet (tMeth a.cDesk "say_told" (spSayTold a) [] Ech (tVar 0) (tCons (tOp (rIxL K) (tVar 2) (tC (.int 0))) (tCons (tVar 3) tNil))) D σ H)
        (t1 := fun _ _ _ => tRet (tC (.str "untold"))) (t2 := fun _ _ _ => tRet (tC (.str "refused"))) rfl rfl ⟨rfl, by decide, .inl T.gUntold⟩ ⟨rfl, by decide, .inl T.gNetError⟩ ⟨rfl, by decide, .inr ⟨T.b_KeyError, by decide +kernel, by decide⟩⟩
        (fun W pn xe tk _ => ⟨fun pins s' σ H' D I h' => by
          obtain ⟨Ech, hW, h2⟩ := h'
          exact (pss_one (ps_ret (pe_meth (E := Ech) (pv 0) T.clDesk T.mSayTold GS hr T.bSayTold .nil (passes_call tk hW) (pa_cons (pe_ix ix_list (pv 2) pe_int (fun _ _ => rfl)) (pa_cons (pv 3) pa_nil))))).run pins s' σ H' D I h2⟩)
        (fun a oe cls d pn _ _ => pss_one (ps_ret pe_str)) (fun a oe cls d pn _ _ => pss_one (ps_ret pe_str))))))), ?_⟩
    refine words_of hL hz fun H1 wl s1 hwl => ?_
    generalize wordsOf v = ws at *
    have hd0 : ws[0]? = some (hdW ws) := by
      unfold hdW
      cases ws with
      | nil => simp at ok1
      | cons x r => rfl
    have hdV : (ws.map V.str)[0]? = some (.str (hdW ws)) := at_map hd0
    have hlen : (ws.map V.str).length = ws.length := List.length_map ..
    have S1 := hS.same s1
    refine plain_test hwl ok1 T.plain ?_
    cases hp : isPlain ws with
    | true =>
      refine iteT ?_
      refine ⟨_, rfl, dk, dd, _, rfl, s1 _ _ hdk, rfl, _, rfl, wl, _, _, _, rfl, rfl, SqL.of hwl, at_of (j := 0) rfl hdV, ?_⟩
      refine ⟨dk, s, m, wb, tb, S, ps, nh, N, n, hdW ws, rfl, ⟨dd, s1 _ _ hdk⟩, S1, hN, ?_⟩
      rcases k with k | k | k
      · rcases k.2 with q | q
        · exact .inl ⟨q.1, fun H' s' => q.2 H' (s1.trans s')⟩
        · exact .inr ⟨q.1, fun z => q.2.1 z H1 s1, fun c t g e H' S' b' => q.2.2 c t g e H' S' ((But.of s1).trans b')⟩
      · rw [hp] at k; cases k.1
      · rw [hp] at k; cases k.1
    | false =>
      refine iteF ?_
      have hall : hdW ws ∈ allW := by
        rcases ok3 with z | z
        · rw [hp] at z; cases z
        · exact z
      -- numbers
      refine ⟨_, rfl, _, rfl, wl, _, rfl, SqL.of hwl, fun w2 hw2 => ?_⟩
      rw [show (1 : Int) = ((1 : Nat) : Int) from rfl, cut_from (by rw [hlen]; exact ok1)]
      rw [← List.map_drop]
      have s2 : Same H1 (upd H1 w2 (.lst ((ws.drop 1).map V.str))) := same_new hw2
      have hw22 : upd H1 w2 (.lst ((ws.drop 1).map V.str)) w2 = some (.lst ((ws.drop 1).map V.str)) := upd_same
      generalize upd H1 w2 (.lst ((ws.drop 1).map V.str)) = H2 at s2 hw22
      refine ⟨w2, rfl, ⟨_, SqL.of hw22⟩, fun D hD => ?_⟩
      have s02 := s1.trans s2
      refine lc_fil (walk_list (xs := (ws.drop 1).map V.str)) (fun _ => true) (fun i => oV (told ((ws.drop 1).getD i ""))) hD (by rw [List.length_map, List.length_drop]; exact small8 (m := 20) (by omega)) (fun H s => .inl (.inl (s _ _ hw22))) (fun i x H4 H5 kk k0 hi s4 y hy _ => ?_) (fun H3 s3 e => ?_)
      · obtain ⟨rfl, hyx⟩ := y
        obtain ⟨z, hz2, rfl⟩ := map_at hyx
        refine ⟨rfl, iteT (B := k0 H5) ?_⟩
        refine ⟨_, rfl, z, rfl, List.all_eq_true.mp ok4 z (List.mem_of_getElem? hz2), fun H6 s6 => ?_⟩
        have h3 := hy rfl _ s6
        rw [List.getD_eq_getElem?_getD, hz2] at h3
        exact h3
      rw [kept_all, List.length_map, range_fn (f := fun w => oV (told w))] at e
      have eD : H3 D = some (.lst ((numsOf ws).map oV)) := by
        rw [e]
        unfold numsOf
        rw [List.map_map]
        rfl
      have s03 := s02.trans s3
      have hwl3 := s3 _ _ (s2 _ _ hwl)
      have S3 := hS.same s03
      have hdk3 := s03 _ _ hdk
      -- the test
      obtain ⟨rr, rv, n1, n2, n3⟩ := num_at T hall
      obtain ⟨ke, kn, kl, kk2, ks⟩ := T.numK
      have raise_ : badL ws = true → ∀ q : Addr, H3 q = none → E (.ref a.xBadText) (some q) (upd H3 q (.xd [("at", .int 0)])) := fun hb q hq => by
        rcases k with k | k | k
        · rw [hp] at k; cases k.1
        · exact k.2.2 _ q (same_put s03 (s03.free hq)) (s03.free hq) upd_same
        · rw [hb] at k; cases k.2.1
      refine ⟨_, rfl, D, _, rfl, .inl (SqL.of eD), rfl, flat_oV _, _, rfl, ?_⟩
      rw [if_neg Bool.false_ne_true, inV_non]
      cases ha : (numsOf ws).all Option.isSome with
      | false => exact iteT ⟨rfl, fun q hq => raise_ (by unfold badL; rw [ha]; rfl) q hq⟩
      | true =>
        refine iteF ⟨a.aNumbers, rfl, ⟨ke, kn, kl, kk2, ks⟩, _, rfl, wl, _, _, _, rfl, rfl, SqL.of hwl3, at_of (j := 0) rfl hdV, hdW ws, rr, rv, rfl, n1, n2, ?_⟩
        rw [n3]
        refine ⟨_, rfl, D, _, rfl, .inl (SqL.of eD), rfl, _, rfl, ?_⟩
        rw [List.length_map]
        by_cases c1 : numOf (hdW ws) = ((numsOf ws).length : Int)
        · refine iteNS (by rw [c1]) ?_
          refine ⟨_, rfl, D, _, rfl, .inl (SqL.of eD), rfl, _, rfl, ?_⟩
          rw [List.length_map]
          by_cases c2 : (numsOf ws).length = 0
          · exact itdT (by rw [c2]; rfl) ⟨rfl, fun q hq => raise_ (by unfold badL; rw [decide_eq_true c2, Bool.or_true, Bool.or_true]) q hq⟩
          · refine itdF (fun z => c2 (by injection z with z; omega)) ?_
            have hbad : badL ws = false := by unfold badL; rw [ha, decide_eq_true c1, decide_eq_false c2]; rfl
            rcases k with k | k | k
            · rw [hp] at k; cases k.1
            · rw [hbad] at k; cases k.2.1
            obtain ⟨_, _, c, hc1, hc2, hc3⟩ := k
            refine ⟨ECatch a Q, fun cls d σ' H' he => ?_, ?_⟩
            · rcases he with ⟨rfl, q⟩ | ⟨hcl, q⟩
              · exact ⟨true, T.eUntold, fun _ _ _ => q, fun z => by cases z⟩
              · rcases hcl with rfl | rfl | rfl | rfl
                · exact ⟨false, T.eRefused, (fun z => by cases z), fun _ => ⟨T.yRefused, fun _ _ => q⟩⟩
                · exact ⟨false, T.eNoHouse, (fun z => by cases z), fun _ => ⟨T.yNoHouse, fun _ _ => q⟩⟩
                · exact ⟨false, T.eNoDeed, (fun z => by cases z), fun _ => ⟨T.yNoDeed, fun _ _ => q⟩⟩
                · exact ⟨false, T.eNoTie, (fun z => by cases z), fun _ => ⟨T.yNoTie, fun _ _ => q⟩⟩
            · refine ⟨_, rfl, dk, dd, _, rfl, hdk3, rfl, _, rfl, wl, _, _, _, rfl, rfl, SqL.of hwl3, at_of (j := 0) rfl hdV, _, rfl, ?_⟩
              refine ⟨dk, s, m, wb, D, tb, S, ps, nh, N, n, c, by rw [hc1]; rfl, ⟨dd, hdk3⟩, S3, hN, ?_, hc3.same s03⟩
              rw [eD, hc2, List.map_map]
              rfl
        · exact itdN (fun z => c1 (by injection z)) ⟨rfl, fun q hq => raise_ (by unfold badL; rw [decide_eq_false c1, ha]; rfl) q hq⟩
end
end Hl
set_option Elab.async false
set_option linter.all false
set_option maxRecDepth 100000
set_option maxHeartbeats 4000000
namespace Hl
open PySem PySem.Spec PyProof.Rows L2
def spDeskI (a : Ad) : Sp := fun vs H Q E => ∃ (dk dx m wb : Addr) (tb : List (List Int)) (S : Nat) (ps : List Pr) (nh : Nat) (f : Int), vs = [.ref dk, .ref m, .ref wb, .int f] ∧ H dk = some (.ins a.cDesk dx []) ∧ MachAt a.cMachine H m tb S ∧ WebAt a.cWeb H wb ps nh ∧ m ≠ dk ∧ wb ≠ dk ∧
  (¬ (0 ≤ f ∧ f < (S : Int)) → ∀ (H' : Hp) (d : Addr), But dk H H' → H d = none → H' d = some (.xd [("state", .int f)]) → E (.ref a.xNoState) (some d) H') ∧
  (0 ≤ f → f < (S : Int) → ∀ (H' : Hp) (s : Addr), DeskAt a.cDesk H' dk s → StoreAt a H' s m wb tb S ps nh 0 (Net.new nh ps.length f) → H s = none → But dk H H' → Q .non H')
section
variable {P : Program} {w : World} {K : PySem.W.Frag} {mg : Str → Option Value} {base : Heap} {a : Ad} {d : Fd}
theorem ok_DeskI (T : Txt P w K mg a d) : FnOk P w K mg base (L2.CX P w) 7 a.fDeskI d.fDeskI pDeskI (spDeskI a) := by
  have GS : FnOk P w K mg base (L2.CX P w) 5 a.fStoreI d.fStoreI pStoreI (spStoreI a) := ok_StoreI T
  refine T.FDeskI.okX scDeskI (fun vs H Q E h => ?_) (fun cdv A outer s H vs Q E hr h => ?_)
  · obtain ⟨dk, dx, m, wb, tb, S, ps, nh, f, rfl, _⟩ := h
    rfl
  · obtain ⟨dk, dx, m, wb, tb, S, ps, nh, f, rfl, hdk, hM, hW, nm, nw, kN, k⟩ := h
    refine ⟨_, pss_one (ps_fld (pv 0) (pe_make (E := E) T.MStore GS hr (by rfl) T.gStore T.bStoreI .nil (passes_call (takes_of rfl rfl rfl rfl) (fun _ _ _ _ h => h)) (pa_cons (pv 1) (pa_cons (pv 2) (pa_cons (pv 3) pa_nil)))) rfl), ?_⟩
    refine ⟨_, rfl, _, rfl, _, rfl, fun x dx' hx hdx' ne => ?_⟩
    have s1 : Same H (upd (upd H dx' (.own x)) x (.ins a.cStore dx' [])) := fun b o e => by rw [upd_ne (ne_of_none e hx), upd_ne (ne_of_none e hdx')]; exact e
    have hM' := hM
    have hW' := hW
    obtain ⟨⟨_, _, _, hm, _, _⟩, _⟩ := hM'
    obtain ⟨⟨_, _, _, hw, _, _⟩, _⟩ := hW'
    refine ⟨x, dx', m, wb, tb, S, ps, nh, f, rfl, upd_same, ⟨hM.same s1, hW.same s1, ne_of_none hm hx, ne_of_none hw hx⟩, fun c H' q b hq hq2 => ?_, fun f0 f1 H' S' b => ⟨rfl, ?_⟩⟩
    · refine kN c H' q (fun b' o e n => b _ _ (s1 _ _ e) (ne_of_none e hx)) (s1.free hq) hq2
    · have hdk' := b _ _ (s1 _ _ hdk) (ne_of_none hdk hx)
      have ndx : dk ≠ x := ne_of_none hdk hx
      refine ⟨_, rfl, dk, _, dx, _, rfl, hdk', T.clDesk, T.nDesk_store, (by show 0 < 1000; decide), ?_⟩
      have b2 : But dk H (upd H' dk (.ins a.cDesk dx (putF "store" (.ref x) []))) := But.put fun b' o e n => b _ _ (s1 _ _ e) (ne_of_none e hx)
      refine k f0 f1 _ x ⟨dx, upd_same⟩ ?_ hx b2
      obtain ⟨⟨dy, first, st, ar, sp, bk, ca, co, ti, go, h1, h2⟩, u, g⟩ := S'
      have kk : TupK H' (upd H' dk (.ins a.cDesk dx (putF "store" (.ref x) []))) := fun b' xs e => by rw [upd_ne (ne_of e hdk' (by intro z; cases z))]; exact e
      refine ⟨⟨dy, first, st, ar, sp, bk, ca, co, ti, go, by rw [upd_ne ndx.symm]; exact h1, h2.keep kk⟩, ⟨u.um.but (s := dk) but_put kk nm, u.uw.but (s := dk) but_put kk nw, u.nm, u.nw⟩, g⟩
end
end Hl
set_option Elab.async false
set_option linter.all false
set_option maxRecDepth 100000
set_option maxHeartbeats 4000000
namespace Hl
open PySem PySem.Spec PyProof.Rows L2
/-! ### the law's draws -/
def BxO (u : HO) : Prop := ∃ c0 c1 : Int, u = .lst [.int c0, .int c1] ∧ 0 ≤ c0 ∧ 0 ≤ c1 ∧ c1 < 4294967296
def BoxAt (H : Hp) (b : Addr) : Prop := ∃ u, H b = some u ∧ BxO u
def spLBox (K : PySem.W.Frag) : Sp := fun vs H Q _ => ∃ (sa : Addr) (ns : List Int) (k : Nat), vs = [.ref sa, .int k] ∧ SqL K H sa (ns.map V.int) ∧ k ≤ 100 ∧ ∀ (p : Addr) (u : HO), H p = none → BxO u → Q (.ref p) (upd H p u)
def spLTake : Sp := fun vs H Q _ => ∃ (b : Addr) (many : Nat), vs = [.ref b, .int many] ∧ BoxAt H b ∧ 1 ≤ many ∧ many ≤ 1000 ∧ ∀ (r : Nat) (u : HO), r < many → BxO u → Q (.int r) (upd H b u)
def spLPick (K : PySem.W.Frag) : Sp := fun vs H Q _ => ∃ (b l : Addr) (xs : List V), vs = [.ref b, .ref l] ∧ BoxAt H b ∧ H l = some (.lst xs) ∧ l ≠ b ∧ 1 ≤ xs.length ∧ xs.length ≤ 1000 ∧ ∀ (i : Nat) (x : V) (u : HO), xs[i]? = some x → BxO u → Q x (upd H b u)
section
variable {P : Program} {w : World} {K : PySem.W.Frag} {mg : Str → Option Value} {base : Heap} {a : Ad} {d : Fd}
theorem ok_LTake (T : Txt P w K mg a d) : FnOk P w K mg base CX0 1 a.fLTake d.fLTake pLTake spLTake := by
  refine T.FLTake.ok scLTake (fun vs H Q E h => ?_) (fun cdv A outer s H vs Q E hr h => ?_)
  · obtain ⟨b, many, rfl, _⟩ := h
    rfl
  · obtain ⟨b, many, rfl, ⟨u, hb, c0, c1, rfl, h0, h1, h2⟩, m1, m2, k⟩ := h
    refine ⟨_, pss_cons (ps_if (pt_cmpR op_gt (pe_ix ix_list (pv 0) pe_int (fun _ _ => rfl)) pe_int (nomark _))
        (pss_cons (ps_set (i := 2) scLTake.nd rfl (.inl rfl) (pe_op op_modN (pe_callTy call_int1 (by rfl) T.b_int boot_int (pa_cons (pe_ix ix_list (pv 0) pe_int (fun _ _ => rfl)) pa_nil)) (pv 1)))
        (pss_cons (ps_asg (pe_op op_fdivN (pe_ix ix_list (pv 0) pe_int (fun _ _ => rfl)) (pv 1)) (pg_sub (pv 0) pe_int set_list))
        (pss_one (ps_ret (pv 2))))) pss_nil)
      (pss_cons (ps_set (i := 3) scLTake.nd rfl (.inl rfl) (pe_op op_modN (pe_callTy call_int1 (by rfl) T.b_int boot_int (pa_cons (pe_op op_add (pe_op op_mul (pe_ix ix_list (pv 0) pe_int (fun _ _ => rfl)) pe_int) pe_int) pa_nil)) pe_int))
      (pss_cons (ps_asg (pe_op op_add (pe_op op_modN (pe_callTy call_int1 (by rfl) T.b_int boot_int (pa_cons (pe_op op_add (pe_op op_mul (pv 3) pe_int) pe_int) pa_nil)) pe_int) pe_int) (pg_sub (pv 0) pe_int set_list))
      (pss_one (ps_ret (pe_op op_modN (pe_callTy call_int1 (by rfl) T.b_int boot_int (pa_cons (pe_op op_fdivN (pe_op op_add (pe_op op_mul (pv 3) pe_int) (pe_ix ix_list (pv 0) pe_int (fun _ _ => rfl))) pe_int) pa_nil)) (pv 1)))))), ?_⟩
    have mp : (0 : Int) < (many : Int) := by omega
    refine ⟨_, rfl, b, _, _, _, rfl, rfl, SqL.of hb, at_of (j := 0) (v := .int c0) rfl rfl, _, _, rfl, rfl, _, rfl, ?_⟩
    by_cases c : 0 < c0
    · refine itdT c ?_
      refine ⟨_, rfl, b, _, _, _, rfl, rfl, SqL.of hb, at_of (j := 0) (v := .int c0) rfl rfl, .inl ⟨_, rfl, _, rfl, _, _, rfl, rfl, by omega, ?_⟩⟩
      refine ⟨_, rfl, b, _, _, _, rfl, rfl, SqL.of hb, at_of (j := 0) (v := .int c0) rfl rfl, _, rfl, _, _, rfl, rfl, ⟨by omega, by omega⟩, ?_⟩
      refine ⟨_, rfl, b, _, _, 0, rfl, rfl, hb, rfl, _, rfl, ?_⟩
      have q := k (c0.fmod many).toNat (.lst [.int (c0.fdiv many), .int c1]) (by have := Int.fmod_lt_of_pos c0 mp; have := Int.fmod_nonneg_of_pos c0 mp; omega) ⟨_, _, rfl, Int.fdiv_nonneg h0 (by omega), h1, h2⟩
      rw [show (((c0.fmod many).toNat : Nat) : Int) = c0.fmod many by have := Int.fmod_nonneg_of_pos c0 mp; omega] at q
      exact q
    · refine itdF c ?_
      have r0 := Int.fmod_nonneg_of_pos (c1 * 40014 + 53) (by decide : (0 : Int) < 2147483563)
      have r1 := Int.fmod_lt_of_pos (c1 * 40014 + 53) (by decide : (0 : Int) < 2147483563)
      have t0 := Int.fmod_nonneg_of_pos ((c1 * 40014 + 53).fmod 2147483563 * 40692 + 37) (by decide : (0 : Int) < 2147483579)
      have t1 := Int.fmod_lt_of_pos ((c1 * 40014 + 53).fmod 2147483563 * 40692 + 37) (by decide : (0 : Int) < 2147483579)
      refine ⟨_, rfl, b, _, _, _, rfl, rfl, SqL.of hb, at_of (j := 1) (v := .int c1) rfl rfl, _, _, rfl, rfl, .inl ⟨by omega, by omega⟩, _, _, rfl, rfl, .inl ⟨_, rfl, _, _, rfl, rfl, (by show (2147483563 : Int) ≠ 0; decide), ?_⟩⟩
      refine ⟨_, rfl, _, _, rfl, rfl, .inl ⟨by omega, by omega⟩, _, _, rfl, rfl, .inl ⟨_, rfl, _, _, rfl, rfl, (by show (2147483579 : Int) ≠ 0; decide), _, _, rfl, rfl, ?_⟩⟩
      refine ⟨_, rfl, b, _, _, 1, rfl, rfl, hb, rfl, ?_⟩
      have hb2 : upd H b (.lst [.int c0, .int (((c1 * 40014 + 53).fmod 2147483563 * 40692 + 37).fmod 2147483579 + 1)]) b = some (.lst [.int c0, .int (((c1 * 40014 + 53).fmod 2147483563 * 40692 + 37).fmod 2147483579 + 1)]) := upd_same
      refine ⟨_, rfl, _, _, rfl, rfl, .inl ⟨by omega, by omega⟩, _, rfl, b, [.int c0, .int (((c1 * 40014 + 53).fmod 2147483563 * 40692 + 37).fmod 2147483579 + 1)], _, _, rfl, rfl, SqL.of hb2, at_of (j := 1) (v := .int (((c1 * 40014 + 53).fmod 2147483563 * 40692 + 37).fmod 2147483579 + 1)) rfl rfl, _, _, rfl, rfl, _, _, rfl, rfl, ⟨(by show (8191 : Int) ≠ 0; decide), (by show (8191 : Int).natAbs < 1073741824; decide)⟩, .inl ⟨_, rfl, _, rfl, _, _, rfl, rfl, (by show (many : Int) ≠ 0; omega), ?_⟩⟩
      have q := k ((((c1 * 40014 + 53).fmod 2147483563 * 2147483629 + (((c1 * 40014 + 53).fmod 2147483563 * 40692 + 37).fmod 2147483579 + 1)).fdiv 8191).fmod many).toNat (.lst [.int c0, .int (((c1 * 40014 + 53).fmod 2147483563 * 40692 + 37).fmod 2147483579 + 1)])
        (by have := Int.fmod_lt_of_pos (((c1 * 40014 + 53).fmod 2147483563 * 2147483629 + (((c1 * 40014 + 53).fmod 2147483563 * 40692 + 37).fmod 2147483579 + 1)).fdiv 8191) mp; have := Int.fmod_nonneg_of_pos (((c1 * 40014 + 53).fmod 2147483563 * 2147483629 + (((c1 * 40014 + 53).fmod 2147483563 * 40692 + 37).fmod 2147483579 + 1)).fdiv 8191) mp; omega) ⟨_, _, rfl, h0, by omega, by omega⟩
      rw [Int.toNat_of_nonneg (Int.fmod_nonneg_of_pos _ mp)] at q
      exact q
end
end Hl
set_option Elab.async false
set_option linter.all false
set_option maxRecDepth 100000
set_option maxHeartbeats 4000000
namespace Hl
open PySem PySem.Spec PyProof.Rows L2
theorem abs_nn (i : Int) : 0 ≤ if i < 0 then -i else i := by
  by_cases c : i < 0
  · rw [if_pos c]; omega
  · rw [if_neg c]; omega
section
variable {P : Program} {w : World} {K : PySem.W.Frag} {mg : Str → Option Value} {base : Heap} {a : Ad} {d : Fd}
theorem ok_LPick (T : Txt P w K mg a d) : FnOk P w K mg base CX0 2 a.fLPick d.fLPick pLPick (spLPick K) := by
  have G : FnOk P w K mg base CX0 1 a.fLTake d.fLTake pLTake spLTake := ok_LTake T
  refine T.FLPick.ok scLPick (fun vs H Q E h => ?_) (fun cdv A outer s H vs Q E hr h => ?_)
  · obtain ⟨b, l, xs, rfl, _⟩ := h
    rfl
  · obtain ⟨b, l, xs, rfl, hb, hl, hlb, h1, h2, k⟩ := h
    refine ⟨_, pss_one (ps_ret (pe_ix ix_list (pv 1) (pe_call G hr (by rfl) T.gLTake T.FLTake.kp T.bLTake .nil pass0 (pa_cons (pv 0) (pa_cons (pe_callB call_len_seq (by rfl) T.b_len boot_len (pa_cons (pv 1) pa_nil)) pa_nil))) (fun _ _ => rfl))), ?_⟩
    refine ⟨_, rfl, _, rfl, _, rfl, l, _, rfl, .inl (SqL.of hl), b, xs.length, rfl, hb, h1, h2, fun r u hr1 hu => ?_⟩
    obtain ⟨x, hx⟩ := there hr1
    exact ⟨l, xs, _, _, rfl, rfl, SqL.of (by rw [upd_ne hlb]; exact hl), at_of (j := r) rfl hx, k r x u hx hu⟩
theorem ok_LBox (T : Txt P w K mg a d) : FnOk P w K mg base CX0 1 a.fLBox d.fLBox pLBox (spLBox K) := by
  refine T.FLBox.ok scLBox (fun vs H Q E h => ?_) (fun cdv A outer s H vs Q E hr h => ?_)
  · obtain ⟨sa, ns, k, rfl, _⟩ := h
    rfl
  · obtain ⟨sa, ns, k, rfl, hS, hk, kk⟩ := h
    refine ⟨_, pss_cons (ps_set (i := 2) scLBox.nd rfl (.inl rfl) (pe_op op_add (pe_op op_mul pe_int (pv 1)) pe_int))
      (pss_cons (ps_if (pt_cmpR op_lt (pv 1) (pe_callB call_len_seq (by rfl) T.b_len boot_len (pa_cons (pv 0) pa_nil)) (nomark _))
        (pss_one (ps_set (i := 2) scLBox.nd rfl (.inl rfl) (pe_callB call_abs (by rfl) T.b_abs boot_abs (pa_cons (pe_callTy call_int1 (by rfl) T.b_int boot_int (pa_cons (pe_ix ix_list (pv 0) (pv 1) (fun _ _ => rfl)) pa_nil)) pa_nil))))
        (pss_one (ps_if (pt_cmpR op_gt (pe_callB call_len_seq (by rfl) T.b_len boot_len (pa_cons (pv 0) pa_nil)) pe_int (nomark _))
          (pss_one (ps_set (i := 2) scLBox.nd rfl (.inl rfl) (pe_op op_add (pv 2) (pe_op op_mul (pe_op op_modN (pe_callTy call_int1 (by rfl) T.b_int boot_int (pa_cons (pe_callB call_abs (by rfl) T.b_abs boot_abs (pa_cons (pe_callTy call_int1 (by rfl) T.b_int boot_int (pa_cons (pe_ix ix_list (pv 0) (pe_op op_modN (pe_callTy call_int1 (by rfl) T.b_int boot_int (pa_cons (pv 1) pa_nil)) (pe_callB call_len_seq (by rfl) T.b_len boot_len (pa_cons (pv 0) pa_nil))) (fun _ _ => rfl)) pa_nil)) pa_nil)) pa_nil)) pe_int) pe_int)))) pss_nil)))
      (pss_cons (ps_set (i := 3) scLBox.nd rfl (.inl rfl) (pe_ifExp (pt_cmpR op_ge (pv 2) (pe_op op_pow pe_int pe_int) (nomark _)) (pv 2) pe_int))
      (pss_one (ps_ret (pe_lst (pa_cons (pv 3) (pa_cons (pe_op op_add (pe_op op_modN (pe_callTy call_int1 (by rfl) T.b_int boot_int (pa_cons (pe_op op_add (pe_op op_mul (pe_op op_modN (pe_callTy call_int1 (by rfl) T.b_int boot_int (pa_cons (pv 2) pa_nil)) pe_int) pe_int) (pe_op op_mul pe_int (pv 1))) pa_nil)) pe_int) pe_int) pa_nil))))))), ?_⟩
    -- what follows the cell
    have rest : ∀ (cell : Int) (g : Option V), 0 ≤ cell → (tSeq (tAsg (tIf (tTest (tOp (rI0 fun i j => V.bl (decide (j ≤ i))) (tVar 2) (tOp (rI CPow fun i j => .int (i ^ j.toNat)) (tC (.int 10)) (tC (.int 18))))) (tVar 2) (tC (.int 0))) (gName 3))
        (tRet (tLst (tCons (tVar 3) (tCons (tOp (rI0 fun i j => .int (i + j)) (tOp (rI (fun _ j => j ≠ 0) fun i j => .int (i.fmod j)) (tCB (fun xs H Q => (∃ i, xs = [V.int i] ∧ Q (.int i) H) ∨ ∃ k, xs = [.bl k] ∧ Q (.int (if k then 1 else 0)) H) (tCons (tOp (rI0 fun i j => .int (i + j)) (tOp (rI CMul fun i j => .int (i * j)) (tOp (rI (fun _ j => j ≠ 0) fun i j => .int (i.fmod j)) (tCB (fun xs H Q => (∃ i, xs = [V.int i] ∧ Q (.int i) H) ∨ ∃ k, xs = [.bl k] ∧ Q (.int (if k then 1 else 0)) H) (tCons (tVar 2) tNil)) (tC (.int 2147483579))) (tC (.int 48271))) (tOp (rI CMul fun i j => .int (i * j)) (tC (.int 277)) (tVar 1))) tNil)) (tC (.int 2147483579))) (tC (.int 1))) tNil))))) { nx := fun _ H' => Q .non H', rt := Q }
        [some (.ref sa), some (.int k), some (.int cell), g] H := by
      intro cell g h0
      refine ⟨_, rfl, _, _, rfl, rfl, ⟨by decide, by decide, by decide⟩, _, _, rfl, rfl, _, rfl, ?_⟩
      have m0 := Int.fmod_nonneg_of_pos cell (by decide : (0 : Int) < 2147483579)
      have m1 := Int.fmod_lt_of_pos cell (by decide : (0 : Int) < 2147483579)
      have fin : ∀ gv : Int, 0 ≤ gv → (tRet (tLst (tCons (tVar 3) (tCons (tOp (rI0 fun i j => .int (i + j)) (tOp (rI (fun _ j => j ≠ 0) fun i j => .int (i.fmod j)) (tCB (fun xs H Q => (∃ i, xs = [V.int i] ∧ Q (.int i) H) ∨ ∃ k, xs = [.bl k] ∧ Q (.int (if k then 1 else 0)) H) (tCons (tOp (rI0 fun i j => .int (i + j)) (tOp (rI CMul fun i j => .int (i * j)) (tOp (rI (fun _ j => j ≠ 0) fun i j => .int (i.fmod j)) (tCB (fun xs H Q => (∃ i, xs = [V.int i] ∧ Q (.int i) H) ∨ ∃ k, xs = [.bl k] ∧ Q (.int (if k then 1 else 0)) H) (tCons (tVar 2) tNil)) (tC (.int 2147483579))) (tC (.int 48271))) (tOp (rI CMul fun i j => .int (i * j)) (tC (.int 277)) (tVar 1))) tNil)) (tC (.int 2147483579))) (tC (.int 1))) tNil)))) { nx := fun _ H' => Q .non H', rt := Q }
          [some (.ref sa), some (.int k), some (.int cell), some (.int gv)] H := by
        intro gv hg
        refine ⟨_, rfl, _, rfl, .inl ⟨_, rfl, _, _, rfl, rfl, (by show (2147483579 : Int) ≠ 0; decide), _, _, rfl, rfl, .inl ⟨by omega, by omega⟩, _, rfl, _, _, rfl, rfl, .inl ⟨by decide, by decide⟩, _, _, rfl, rfl, .inl ⟨_, rfl, _, _, rfl, rfl, (by show (2147483579 : Int) ≠ 0; decide), _, _, rfl, rfl, (by show 2 ≤ sizeLine; decide), fun p hp => ?_⟩⟩⟩
        have n0 := Int.fmod_nonneg_of_pos (cell.fmod 2147483579 * 48271 + 277 * (k : Int)) (by decide : (0 : Int) < 2147483579)
        have n1 := Int.fmod_lt_of_pos (cell.fmod 2147483579 * 48271 + 277 * (k : Int)) (by decide : (0 : Int) < 2147483579)
        exact kk p _ hp ⟨_, _, rfl, hg, by omega, by omega⟩
      by_cases c : (10 : Int) ^ (18 : Int).toNat ≤ cell
      · exact itdT c ⟨_, rfl, fin cell h0⟩
      · exact itdF c (fin 0 (Int.le_refl 0))
    refine ⟨_, rfl, _, _, rfl, rfl, .inl ⟨by decide, by decide⟩, _, _, rfl, rfl, ?_⟩
    refine ⟨_, rfl, _, rfl, sa, _, rfl, .inl hS, _, _, rfl, rfl, _, rfl, ?_⟩
    rw [List.length_map]
    by_cases c : (k : Int) < (ns.length : Int)
    · refine itdT c ?_
      obtain ⟨z, hz⟩ := there (l := ns) (i := k) (by omega)
      refine ⟨_, rfl, _, rfl, sa, _, _, _, rfl, rfl, hS, at_of (j := k) rfl (at_map hz), .inl ⟨_, rfl, _, rfl, ?_⟩⟩
      exact rest _ _ (abs_nn z)
    · refine itdF c ?_
      refine ⟨_, rfl, sa, _, rfl, .inl hS, ?_⟩
      rw [List.length_map]
      refine ⟨_, _, rfl, rfl, _, rfl, ?_⟩
      by_cases c2 : (0 : Int) < (ns.length : Int)
      · refine itdT c2 ?_
        have i0 := Int.fmod_nonneg_of_pos (k : Int) c2
        have i1 := Int.fmod_lt_of_pos (k : Int) c2
        obtain ⟨z, hz⟩ := there (l := ns) (i := ((k : Int).fmod ns.length).toNat) (by omega)
        refine ⟨_, rfl, _, rfl, _, rfl, .inl ⟨_, rfl, _, rfl, sa, _, rfl, .inl hS, ?_⟩⟩
        rw [List.length_map]
        refine ⟨_, _, rfl, rfl, (by show (ns.length : Int) ≠ 0; omega), sa, _, _, _, rfl, rfl, hS, at_of (j := ((k : Int).fmod ns.length).toNat) (by omega) (at_map hz), .inl ⟨_, rfl, _, rfl, .inl ⟨_, rfl, ?_⟩⟩⟩
        have m0 := Int.fmod_nonneg_of_pos (if z < 0 then -z else z) (by decide : (0 : Int) < 2147483579)
        have m1 := Int.fmod_lt_of_pos (if z < 0 then -z else z) (by decide : (0 : Int) < 2147483579)
        refine ⟨_, _, rfl, rfl, (by show (2147483579 : Int) ≠ 0; decide), _, _, rfl, rfl, .inl ⟨by omega, by omega⟩, _, _, rfl, rfl, ?_⟩
        exact rest _ _ (by omega)
      · exact itdF c2 (rest _ _ (by omega))
end
end Hl
set_option Elab.async false
set_option linter.all false
set_option maxRecDepth 100000
set_option maxHeartbeats 4000000
namespace Hl
open PySem PySem.Spec PyProof.Rows L2
theorem BoxAt.ne {H : Hp} {b D : Addr} (h : BoxAt H b) (hD : H D = none) : D ≠ b := fun z => by
  obtain ⟨u, e, _⟩ := h
  rw [← z, hD] at e
  cases e
theorem BoxAt.put {H : Hp} {b D : Addr} {o : HO} (h : BoxAt H b) (n : D ≠ b) : BoxAt (upd H D o) b := by
  obtain ⟨u, e, q⟩ := h
  exact ⟨u, by rw [upd_ne n.symm]; exact e, q⟩
/-- a comprehension that draws: ints -/
theorem ints_lc {J : It} {n : Nat} {G : Hp → Prop} {Y : Nat → Hp → V → Hp → Prop} (w : Walk J n G Y) (R : Int → Prop) {b : Addr} {g : TG} {te : TE} {vs : List Nat} {σ : L2.St} {H1 : Hp} {D : Addr} {Qd : Hp → Prop} (hD : H1 D = none) (hB : BoxAt H1 b) (hn : n ≤ 1000)
    (hG : ∀ H, But b H1 H → BoxAt H b → G H)
    (hs : ∀ i x H H' (kk : V → Hp → Prop), i < n → BoxAt H b → But b H1 H → Y i H x H' → (∀ (z : Int) (H4 : Hp), R z → BoxAt H4 b → But b H H4 → kk (.int z) H4) → g x (wipe σ vs) H' fun σ2 H2 => wipe σ2 vs = wipe σ vs ∧ te σ2 H2 kk)
    (hd : ∀ H (ns : List Int), But b H1 H → BoxAt H b → H D = some (.lst (ns.map V.int)) → ns.length = n → (∀ z ∈ ns, R z) → Qd H) :
    ∃ W : Nat → Nat → Hp → Prop, (∃ m, W 0 m (upd H1 D (.lst []))) ∧ ∀ i m H, W i m H →
      (J.stop i H ∧ Qd H) ∨ (J.go i H ∧ ∃ Nx : Hp → Prop, (∀ H', Nx H' → ∃ m', m' < m ∧ W (i + 1) m' H') ∧ ∀ x H', J.yld i H x H' → g x (wipe σ vs) H' fun σ2 H2 => wipe σ2 vs = wipe σ vs ∧ tYes σ2 H2 fun b H3 =>
        if b = true then te σ2 H3 fun y H4 => ∃ acc, H4 D = some (.lst acc) ∧ acc.length < sizeLine ∧ Nx (upd H4 D (.lst (acc ++ [y]))) else Nx H3) := by
  have nD := hB.ne hD
  refine lc_it w (fun i H => But b H1 H ∧ BoxAt H b ∧ ∃ ns : List Int, H D = some (.lst (ns.map V.int)) ∧ ns.length = i ∧ ∀ z ∈ ns, R z)
    ⟨fun c o e _ => by rw [upd_ne (ne_of_none e hD)]; exact e, hB.put nD, [], upd_same, rfl, fun z hz => by simp at hz⟩ (fun i H _ h => hG H h.1 h.2.1) (fun i x H H' hi h y => ?_) (fun H h => ?_)
  · obtain ⟨b1, B1, ns, hDl, hl, hr⟩ := h
    refine hs i x H H' _ hi B1 b1 y fun z H4 hz B4 b4 => ?_
    have hD4 := b4 _ _ hDl nD
    refine ⟨_, hD4, by rw [List.length_map, hl]; exact small1000 (by omega), fun c o e nc => ?_, B4.put nD, ns ++ [z], by rw [upd_same, List.map_append]; rfl, by rw [List.length_append, hl]; rfl, fun y hy => ?_⟩
    · rw [upd_ne (ne_of_none e hD)]
      exact b4 _ _ (b1 _ _ e nc) nc
    · rcases List.mem_append.mp hy with hy | hy
      · exact hr y hy
      · rw [List.mem_singleton.mp hy]; exact hz
  · obtain ⟨b1, B1, ns, hDl, hl, hr⟩ := h
    exact hd H ns b1 B1 hDl hl hr
/-- a comprehension whose turns make rows -/
theorem rows_lc {J : It} {n : Nat} {G : Hp → Prop} {Y : Nat → Hp → V → Hp → Prop} (w : Walk J n G Y) (S : Nat) {b : Addr} {g : TG} {te : TE} {vs : List Nat} {σ : L2.St} {H1 : Hp} {D : Addr} {Qd : Hp → Prop} (hD : H1 D = none) (hB : BoxAt H1 b) (hn : n ≤ 1000)
    (hG : ∀ H, But b H1 H → BoxAt H b → G H)
    (hs : ∀ i x H H' (kk : V → Hp → Prop), i < n → BoxAt H b → But b H1 H → Y i H x H' → (∀ (q : Addr) (ns : List Int) (H4 : Hp), H q = none → H4 q = some (.lst (ns.map V.int)) → ns.length = S → (∀ z ∈ ns, InR S z) → BoxAt H4 b → But b H H4 → kk (.ref q) H4) → g x (wipe σ vs) H' fun σ2 H2 => wipe σ2 vs = wipe σ vs ∧ te σ2 H2 kk)
    (hd : ∀ H (as : List Addr) (tb : List (List Int)), But b H1 H → BoxAt H b → H D = some (.lst (as.map V.ref)) → as.length = n → RowsL H as tb → (∀ r ∈ tb, r.length = S ∧ ∀ z ∈ r, InR S z) → (∀ c ∈ as, H1 c = none ∧ c ≠ D) → Qd H) :
    ∃ W : Nat → Nat → Hp → Prop, (∃ m, W 0 m (upd H1 D (.lst []))) ∧ ∀ i m H, W i m H →
      (J.stop i H ∧ Qd H) ∨ (J.go i H ∧ ∃ Nx : Hp → Prop, (∀ H', Nx H' → ∃ m', m' < m ∧ W (i + 1) m' H') ∧ ∀ x H', J.yld i H x H' → g x (wipe σ vs) H' fun σ2 H2 => wipe σ2 vs = wipe σ vs ∧ tYes σ2 H2 fun b H3 =>
        if b = true then te σ2 H3 fun y H4 => ∃ acc, H4 D = some (.lst acc) ∧ acc.length < sizeLine ∧ Nx (upd H4 D (.lst (acc ++ [y]))) else Nx H3) := by
  have nD := hB.ne hD
  refine lc_it w (fun i H => But b H1 H ∧ BoxAt H b ∧ ∃ (as : List Addr) (tb : List (List Int)), H D = some (.lst (as.map V.ref)) ∧ as.length = i ∧ RowsL H as tb ∧ (∀ r ∈ tb, r.length = S ∧ ∀ z ∈ r, InR S z) ∧ (∀ c ∈ as, H1 c = none ∧ c ≠ D))
    ⟨fun c o e _ => by rw [upd_ne (ne_of_none e hD)]; exact e, hB.put nD, [], [], upd_same, rfl, ⟨rfl, fun j a r e => by simp at e⟩, fun z hz => by simp at hz, fun z hz => by simp at hz⟩ (fun i H _ h => hG H h.1 h.2.1) (fun i x H H' hi h y => ?_) (fun H h => ?_)
  · obtain ⟨b1, B1, as, tb, hDl, hl, hR, hr, hnew⟩ := h
    refine hs i x H H' _ hi B1 b1 y fun q ns H4 hq hq4 hns hz B4 b4 => ?_
    have hD4 := b4 _ _ hDl nD
    have nqD : q ≠ D := fun z => by rw [z, hDl] at hq; cases hq
    have hq1 : H1 q = none := by
      cases e : H1 q with
      | none => rfl
      | some o =>
        have nb : q ≠ b := B1.ne hq
        rw [b1 _ _ e nb] at hq
        cases hq
    refine ⟨_, hD4, by rw [List.length_map, hl]; exact small1000 (by omega), fun c o e nc => ?_, B4.put nD, as ++ [q], tb ++ [ns], by rw [upd_same, List.map_append]; rfl, by rw [List.length_append, hl]; rfl, ⟨by rw [List.length_append, List.length_append, hR.1]; rfl, fun j c r e1 e2 => ?_⟩, fun r hr' => ?_, fun c hc => ?_⟩
    · rw [upd_ne (ne_of_none e hD)]
      exact b4 _ _ (b1 _ _ e nc) nc
    · by_cases hj : j < as.length
      · rw [List.getElem?_append_left hj] at e1
        rw [List.getElem?_append_left (by rw [← hR.1]; exact hj)] at e2
        have z := hR.2 j c r e1 e2
        have hc := hnew c (List.mem_of_getElem? e1)
        have ncb : c ≠ b := hB.ne hc.1
        rw [upd_ne hc.2]
        exact b4 _ _ z ncb
      · have hj2 : j = as.length := by
          have z := (List.getElem?_eq_some_iff.mp e1).1
          rw [List.length_append] at z
          simp at z
          omega
        subst hj2
        rw [List.getElem?_append_right (Nat.le_refl _)] at e1
        rw [hR.1, List.getElem?_append_right (Nat.le_refl _)] at e2
        simp at e1 e2
        rw [← e1, ← e2, upd_ne nqD]
        exact hq4
    · rcases List.mem_append.mp hr' with h | h
      · exact hr r h
      · rw [List.mem_singleton.mp h]; exact ⟨hns, hz⟩
    · rcases List.mem_append.mp hc with h | h
      · exact hnew c h
      · rw [List.mem_singleton.mp h]; exact ⟨hq1, nqD⟩
  · obtain ⟨b1, B1, as, tb, hDl, hl, hR, hr, hnew⟩ := h
    exact hd H as tb b1 B1 hDl hl hR hr hnew
theorem bitor_in : ∀ s : Nat, s < 8 → ∀ b : Nat, 1 ≤ b → b ≤ 4 → 0 ≤ Builtin.bitOr (s : Int) (b : Int) ∧ Builtin.bitOr (s : Int) (b : Int) < 8 := by
  intro s hs b h1 h4
  have key : ∀ s ∈ List.range 8, ∀ b ∈ [1, 2, 3, 4], 0 ≤ Builtin.bitOr (s : Int) ((b : Nat) : Int) ∧ Builtin.bitOr (s : Int) ((b : Nat) : Int) < 8 := by decide +kernel
  refine key s (List.mem_range.mpr hs) b ?_
  have : b = 1 ∨ b = 2 ∨ b = 3 ∨ b = 4 := by omega
  simp [this]
end Hl
set_option Elab.async false
set_option linter.all false
set_option maxRecDepth 100000
set_option maxHeartbeats 8000000
namespace Hl
open PySem PySem.Spec PyProof.Rows L2
abbrev scT1 : Scope := { kind := .function, names := [(Str.ofString ".0", .local), (Str.ofString "_law_step", .cell), (Str.ofString "range", .globalImplicit), (Str.ofString "_law_states", .cell)], isGenerator := false, isCoroutine := false }
abbrev scT2 : Scope := { kind := .function, names := [(Str.ofString ".0", .local), (Str.ofString "_law_bit", .cell), (Str.ofString "range", .globalImplicit)], isGenerator := false, isCoroutine := false }
abbrev scT3 : Scope := { kind := .function, names := [(Str.ofString ".0", .local), (Str.ofString "_law_turn", .local), (Str.ofString "range", .globalImplicit), (Str.ofString "_law_box_here", .cell), (Str.ofString "_law_states", .cell)], isGenerator := false, isCoroutine := false }
abbrev scT5 : Scope := scT3
def spLTables : Sp := fun vs H Q _ => ∃ b : Addr, vs = [.ref b] ∧ BoxAt H b ∧ ∀ (H' : Hp) (l : Addr) (as : List Addr) (tb : List (List Int)) (S : Nat), But b H H' → BoxAt H' b → H' l = some (.lst (as.map V.ref)) → RowsL H' as tb → Tb tb S → tb.length ≤ 3 →
  H l = none → (∀ c ∈ as, H c = none ∧ c ≠ l) → Q (.ref l) H'
def rRange : TI → Prop := fun _ => True
theorem But.free {b D : Addr} {H H1 : Hp} (h : But b H H1) (B : BoxAt H1 b) (hD : H1 D = none) : H D = none := by
  have n := B.ne hD
  cases e : H D with
  | none => rfl
  | some o => rw [h _ _ e n] at hD; cases hD
theorem taken {H : Hp} {b : Addr} {u : HO} (hu : BxO u) : BoxAt (upd H b u) b := ⟨u, upd_same, hu⟩
theorem tb_of {tb : List (List Int)} {S n : Nat} (hl : tb.length = n) (h1 : 1 ≤ n) (h3 : n ≤ 3) (s1 : 1 ≤ S) (s8 : S ≤ 8) (hr : ∀ r ∈ tb, r.length = S ∧ ∀ z ∈ r, InR S z) : Tb tb S :=
  ⟨by omega, by omega, s1, s8, fun r hr' => (hr r hr').1, fun r hr' x hx => ((hr r hr').2 x hx).1, fun r hr' x hx => ((hr r hr').2 x hx).2⟩
section
variable {P : Program} {w : World} {K : PySem.W.Frag} {mg : Str → Option Value} {base : Heap} {a : Ad} {d : Fd}
theorem ok_LTables (T : Txt P w K mg a d) : FnOk P w K mg base CX0 3 a.fLTables d.fLTables pLTables spLTables := by
  have GT : FnOk P w K mg base CX0 1 a.fLTake d.fLTake pLTake spLTake := ok_LTake T
  have GP : FnOk P w K mg base CX0 2 a.fLPick d.fLPick pLPick (spLPick K) := ok_LPick T
  refine T.FLTables.ok scLTables (fun vs H Q E h => ?_) (fun cdv A outer s H vs Q E hr h => ?_)
  · obtain ⟨b, rfl, _⟩ := h
    rfl
  · obtain ⟨b, rfl, hb, k⟩ := h
    have hr1 : Room 1 _ := hr.mono (by decide)
    refine ⟨_, pss_cons (ps_set (i := 1) scLTables.nd rfl (.inl rfl) (pe_call GT hr1 (by rfl) T.gLTake T.FLTake.kp T.bLTake .nil pass0 (pa_cons (pv 0) (pa_cons pe_int pa_nil))))
      (pss_cons (ps_set (i := 2) scLTables.nd rfl (.inl rfl) (pe_op op_add pe_int (pe_call GT hr1 (by rfl) T.gLTake T.FLTake.kp T.bLTake .nil pass0 (pa_cons (pv 0) (pa_cons pe_int pa_nil)))))
      (pss_cons (ps_if (pt_cmpR op_lt (pv 1) pe_int (nomark _))
        (pss_cons (ps_set (i := 3) scLTables.nd rfl (.inr rfl) (pe_op op_add pe_int (pe_call GT hr1 (by rfl) T.gLTake T.FLTake.kp T.bLTake .nil pass0 (pa_cons (pv 0) (pa_cons pe_int pa_nil)))))
        (pss_cons (ps_setLc (i := 4) (own := [("_law_turn", 6)]) (g := gName 6) (tt := tYes) (te := tOp (rI0 fun i j => .int (i + j)) (tC (.int 1)) (tCall spLTake [] E0 (tCons (tVar 0) (tCons (tVar 3) tNil)))) rfl scLTables.nd rfl rfl (sw_true rfl rfl rfl (by decide +kernel)) (pi_range1 (by rfl) T.b_range (pa_cons (pv 2) pa_nil))
          (blkOk_by (own := [("_law_turn", 6)]) (N := nLTables) (sc := defScope sLTables) (by decide +kernel)) (fun _ _ _ _ _ => pg_name (i := 6) scLTables.nd rfl (Or.inl rfl)) (fun _ _ _ _ _ => pts_nil)
          (fun _ _ _ _ _ => pe_op op_add pe_int (pe_call GT hr1 (by rfl) T.gLTake T.FLTake.kp T.bLTake .nil pass0 (pa_cons (pv 0) (pa_cons (pv 3) pa_nil)))))
        (pss_one (ps_ret (pe_lc (own := [("_law_step", 8)]) (g := gName 8) (tt := tYes) (te := tLc (iRng1 (tCons (tVar 3) tNil)) (gName 7) tYes (tOp (rI (fun _ j => j ≠ 0) fun i j => .int (i.fmod j)) (tCB (fun xs H Q => (∃ i, xs = [V.int i] ∧ Q (.int i) H) ∨ ∃ k, xs = [.bl k] ∧ Q (.int (if k then 1 else 0)) H) (tCons (tOp (rI0 fun i j => .int (i + j)) (tVar 7) (tVar 8)) tNil)) (tVar 3)) [7]) rfl scLTables.nd (pi_list (pv 4))
          (blkOk_by (own := [("_law_step", 8)]) (N := nLTables) (sc := defScope sLTables) (by decide +kernel)) (fun _ _ _ _ _ => pg_name (i := 8) scLTables.nd rfl (by first | exact Or.inl rfl | exact Or.inr rfl)) (fun _ _ _ _ _ => pts_nil)
          (fun _ _ _ _ _ => pe_lc (own := [("_law_state", 7)]) (g := gName 7) (tt := tYes) rfl scLTables.nd (pi_range1 (by rfl) T.b_range (pa_cons (pv 3) pa_nil))
            (blkOk_by (own := [("_law_state", 7)]) (N := nLTables) (sc := scT1) (by decide +kernel)) (fun _ _ _ _ _ => pg_name (i := 7) scLTables.nd rfl (Or.inl rfl)) (fun _ _ _ _ _ => pts_nil)
            (fun _ _ _ _ _ => pe_op op_modN (pe_callTy call_int1 (by rfl) T.b_int boot_int (pa_cons (pe_op op_add (pv 7) (pv 8)) pa_nil)) (pv 3)))))))) pss_nil)
      (pss_cons (ps_if (pt_cmpR op_eq (pv 1) pe_int (nomark _))
        (pss_cons (ps_setLc (i := 5) (own := [("_law_turn", 6)]) (g := gName 6) (tt := tYes) (te := tCall (spLPick K) [] E0 (tCons (tVar 0) (tCons (tLst (tCons (tC (.int 1)) (tCons (tC (.int 2)) (tCons (tC (.int 3)) (tCons (tC (.int 4)) tNil))))) tNil))) rfl scLTables.nd rfl rfl (sw_true rfl rfl rfl (by decide +kernel)) (pi_range1 (by rfl) T.b_range (pa_cons (pv 2) pa_nil))
          (blkOk_by (own := [("_law_turn", 6)]) (N := nLTables) (sc := defScope sLTables) (by decide +kernel)) (fun _ _ _ _ _ => pg_name (i := 6) scLTables.nd rfl (Or.inl rfl)) (fun _ _ _ _ _ => pts_nil)
          (fun _ _ _ _ _ => pe_call GP (hr.mono (by decide)) (by rfl) T.gLPick T.FLPick.kp T.bLPick .nil pass0 (pa_cons (pv 0) (pa_cons (pe_lst (pa_cons pe_int (pa_cons pe_int (pa_cons pe_int (pa_cons pe_int pa_nil))))) pa_nil))))
        (pss_one (ps_ret (pe_lc (own := [("_law_bit", 9)]) (g := gName 9) (tt := tYes) (te := tLc (iRng1 (tCons (tC (.int 8)) tNil)) (gName 7) tYes (tOp (rI0 fun i j => .int (Builtin.bitOr i j)) (tVar 7) (tVar 9)) [7]) rfl scLTables.nd (pi_list (pv 5))
          (blkOk_by (own := [("_law_bit", 9)]) (N := nLTables) (sc := defScope sLTables) (by decide +kernel)) (fun _ _ _ _ _ => pg_name (i := 9) scLTables.nd rfl (by first | exact Or.inl rfl | exact Or.inr rfl)) (fun _ _ _ _ _ => pts_nil)
          (fun _ _ _ _ _ => pe_lc (own := [("_law_state", 7)]) (g := gName 7) (tt := tYes) rfl scLTables.nd (pi_range1 (by rfl) T.b_range (pa_cons pe_int pa_nil))
            (blkOk_by (own := [("_law_state", 7)]) (N := nLTables) (sc := scT2) (by decide +kernel)) (fun _ _ _ _ _ => pg_name (i := 7) scLTables.nd rfl (Or.inl rfl)) (fun _ _ _ _ _ => pts_nil)
            (fun _ _ _ _ _ => pe_op op_or (pv 7) (pv 9))))))) pss_nil)
      (pss_cons (ps_if (pt_cmpR op_eq (pv 1) pe_int (nomark _))
        (pss_cons (ps_set (i := 3) scLTables.nd rfl (.inr rfl) (pe_op op_add pe_int (pe_call GT hr1 (by rfl) T.gLTake T.FLTake.kp T.bLTake .nil pass0 (pa_cons (pv 0) (pa_cons pe_int pa_nil)))))
        (pss_one (ps_ret (pe_lc (own := [("_law_turn", 6)]) (g := gName 6) (tt := tYes) (te := tLc (iRng1 (tCons (tVar 3) tNil)) (gName 7) tYes (tCB (fun xs H Q => ∃ i j, xs = [V.int i, .int j] ∧ Q (.int (if j < i then j else i)) H) (tCons (tOp (rI0 fun i j => .int (i + j)) (tOp (rI0 fun i j => .int (i + j)) (tVar 7) (tC (.int 1))) (tCall spLTake [] E0 (tCons (tVar 0) (tCons (tC (.int 2)) tNil)))) (tCons (tOp (rI0 fun i j => .int (i - j)) (tVar 3) (tC (.int 1))) tNil))) [7]) rfl scLTables.nd (pi_range1 (by rfl) T.b_range (pa_cons (pv 2) pa_nil))
          (blkOk_by (own := [("_law_turn", 6)]) (N := nLTables) (sc := defScope sLTables) (by decide +kernel)) (fun _ _ _ _ _ => pg_name (i := 6) scLTables.nd rfl (by first | exact Or.inl rfl | exact Or.inr rfl)) (fun _ _ _ _ _ => pts_nil)
          (fun _ _ _ _ _ => pe_lc (own := [("_law_state", 7)]) (g := gName 7) (tt := tYes) rfl scLTables.nd (pi_range1 (by rfl) T.b_range (pa_cons (pv 3) pa_nil))
            (blkOk_by (own := [("_law_state", 7)]) (N := nLTables) (sc := scT3) (by decide +kernel)) (fun _ _ _ _ _ => pg_name (i := 7) scLTables.nd rfl (Or.inl rfl)) (fun _ _ _ _ _ => pts_nil)
            (fun _ _ _ _ _ => pe_callB (call_min2 rfl) (by rfl) T.b_min boot_min (pa_cons (pe_op op_add (pe_op op_add (pv 7) pe_int) (pe_call GT hr1 (by rfl) T.gLTake T.FLTake.kp T.bLTake .nil pass0 (pa_cons (pv 0) (pa_cons pe_int pa_nil)))) (pa_cons (pe_op op_sub (pv 3) pe_int) pa_nil)))))))) pss_nil)
      (pss_cons (ps_if (pt_cmpR op_eq (pv 1) pe_int (nomark _))
        (pss_one (ps_ret (pe_lst (pa_cons (pe_lst (pa_cons pe_int (pa_cons pe_int (pa_cons pe_int (pa_cons pe_int (pa_cons pe_int (pa_cons pe_int pa_nil))))))) (pa_cons (pe_lst (pa_cons pe_int (pa_cons pe_int (pa_cons pe_int (pa_cons pe_int (pa_cons pe_int (pa_cons pe_int pa_nil))))))) pa_nil))))) pss_nil)
      (pss_cons (ps_set (i := 3) scLTables.nd rfl (.inr rfl) (pe_op op_add pe_int (pe_call GT hr1 (by rfl) T.gLTake T.FLTake.kp T.bLTake .nil pass0 (pa_cons (pv 0) (pa_cons pe_int pa_nil)))))
      (pss_one (ps_ret (pe_lc (own := [("_law_turn", 6)]) (g := gName 6) (tt := tYes) (te := tLc (iRng1 (tCons (tVar 3) tNil)) (gName 7) tYes (tCall spLTake [] E0 (tCons (tVar 0) (tCons (tVar 3) tNil))) [7]) rfl scLTables.nd (pi_range1 (by rfl) T.b_range (pa_cons (pv 2) pa_nil))
          (blkOk_by (own := [("_law_turn", 6)]) (N := nLTables) (sc := defScope sLTables) (by decide +kernel)) (fun _ _ _ _ _ => pg_name (i := 6) scLTables.nd rfl (by first | exact Or.inl rfl | exact Or.inr rfl)) (fun _ _ _ _ _ => pts_nil)
          (fun _ _ _ _ _ => pe_lc (own := [("_law_state", 7)]) (g := gName 7) (tt := tYes) rfl scLTables.nd (pi_range1 (by rfl) T.b_range (pa_cons (pv 3) pa_nil))
            (blkOk_by (own := [("_law_state", 7)]) (N := nLTables) (sc := scT5) (by decide +kernel)) (fun _ _ _ _ _ => pg_name (i := 7) scLTables.nd rfl (Or.inl rfl)) (fun _ _ _ _ _ => pts_nil)
            (fun _ _ _ _ _ => pe_call GT hr1 (by rfl) T.gLTake T.FLTake.kp T.bLTake .nil pass0 (pa_cons (pv 0) (pa_cons (pv 3) pa_nil))))))))))))), ?_⟩
    refine ⟨_, rfl, b, 6, rfl, hb, by decide, by decide, fun sty u1 hsty hu1 => ?_⟩
    have b1 : But b H (upd H b u1) := but_put
    have B1 : BoxAt (upd H b u1) b := taken hu1
    generalize upd H b u1 = H1 at b1 B1
    refine ⟨_, rfl, b, 3, rfl, B1, by decide, by decide, fun r2 u2 hr2 hu2 => ?_⟩
    have b2 : But b H (upd H1 b u2) := b1.put
    have B2 : BoxAt (upd H1 b u2) b := taken hu2
    generalize upd H1 b u2 = H2 at b2 B2
    refine ⟨_, _, rfl, rfl, ?_⟩
    obtain ⟨many, hmany, hm1, hm3⟩ : ∃ many : Nat, (1 : Int) + (r2 : Int) = (many : Int) ∧ 1 ≤ many ∧ many ≤ 3 := ⟨1 + r2, by omega, by omega, by omega⟩
    -- how each style ends
    have fin : ∀ (H' : Hp) (l : Addr) (as : List Addr) (tb : List (List Int)) (S : Nat) (H3 : Hp), But b H H3 → BoxAt H3 b → H3 l = none → But b H3 H' → BoxAt H' b → H' l = some (.lst (as.map V.ref)) → as.length = many → RowsL H' as tb → (∀ r ∈ tb, r.length = S ∧ ∀ z ∈ r, InR S z) → 1 ≤ S → S ≤ 8 → (∀ c ∈ as, H3 c = none ∧ c ≠ l) → Q (.ref l) H' := by
      intro H' l as tb S H3 f1 f2 f3 f4 f5 f6 f7 f8 f9 f10 f11 f12
      exact k H' l as tb S (f1.trans f4) f5 f6 f8 (tb_of (by rw [← f8.1]; exact f7) hm1 hm3 f10 f11 f9) (by rw [← f8.1]; omega) (f1.free f2 f3) (fun c hc => ⟨f1.free f2 (f12 c hc).1, (f12 c hc).2⟩)
    refine ⟨_, rfl, _, _, rfl, rfl, _, rfl, ?_⟩
    by_cases c1 : (sty : Int) < 2
    · refine itdT c1 ?_
      refine ⟨_, rfl, b, 5, rfl, B2, by decide, by decide, fun r3 u3 hr3 hu3 => ?_⟩
      have b3 : But b H (upd H2 b u3) := b2.put
      have B3 : BoxAt (upd H2 b u3) b := taken hu3
      generalize upd H2 b u3 = H3 at b3 B3
      refine ⟨_, _, rfl, rfl, ?_⟩
      obtain ⟨S, hS, hS2, hS6⟩ : ∃ S : Nat, (2 : Int) + (r3 : Int) = (S : Int) ∧ 2 ≤ S ∧ S ≤ 6 := ⟨2 + r3, by omega, by omega, by omega⟩
      refine ⟨_, rfl, (1 : Int) + (r2 : Int), rfl, by omega, by omega, fun D hD => ?_⟩
      rw [hmany, Int.toNat_natCast]
      refine ints_lc walk_range (fun z => 1 ≤ z ∧ z ≤ (S : Int)) hD B3 (by omega) (fun _ _ _ => True.intro) (fun i x H4 H5 kk hi B4 b4 y hy => ?_) (fun H4 ns b4 B4 hDl hl hr4 => ?_)
      · obtain ⟨rfl, rfl⟩ := y
        refine ⟨rfl, _, rfl, _, rfl, b, S, ?_, B4, by omega, by omega, fun r5 u5 hr5 hu5 => ⟨_, _, rfl, rfl, hy _ _ ⟨by omega, by omega⟩ (taken hu5) but_put⟩⟩
        show [V.ref b, V.int ((2 : Int) + (r3 : Int))] ++ [] = [V.ref b, V.int (S : Int)]
        rw [hS]
        rfl
      · refine ⟨_, rfl, D, rfl, ⟨_, SqL.of hDl⟩, fun D2 hD2 => ?_⟩
        have nDb := B4.ne hD2
        have nD : D ≠ b := B3.ne hD
        refine rows_lc (walk_list (xs := ns.map V.int)) S hD2 B4 (by rw [List.length_map, hl]; omega) (fun H b5 _ => SqL.of (b5 _ _ hDl nD)) (fun i x H5 H6 kk hi B5 b5 y hy => ?_) (fun H5 as tb b5 B5 h1 h2 h3 h4 h5 => ?_)
        · obtain ⟨rfl, hx⟩ := y
          obtain ⟨z, hz, rfl⟩ := map_at hx
          refine ⟨rfl, _, rfl, (2 : Int) + (r3 : Int), rfl, by omega, by omega, fun D3 hD3 => ?_⟩
          rw [hS, Int.toNat_natCast]
          refine ints_lc walk_range (InR S) hD3 B5 (by omega) (fun _ _ _ => True.intro) (fun j x H7 H8 kk2 hj B7 b7 y hy2 => ?_) (fun H7 ns2 b7 B7 q1 q2 q3 => ?_)
          · obtain ⟨rfl, rfl⟩ := y
            refine ⟨rfl, _, rfl, _, rfl, _, _, rfl, rfl, .inl ⟨_, rfl, _, rfl, _, _, rfl, rfl, (by show (2 : Int) + (r3 : Int) ≠ 0; omega), ?_⟩⟩
            rw [hS]
            have e0 := Int.fmod_nonneg_of_pos (0 + (j : Int) + z) (show (0 : Int) < (S : Int) by omega)
            have e1 := Int.fmod_lt_of_pos (0 + (j : Int) + z) (show (0 : Int) < (S : Int) by omega)
            exact hy2 _ _ ⟨e0, e1⟩ B7 (fun c o e _ => e)
          · exact hy D3 ns2 H7 hD3 q1 q2 q3 B7 b7
        · exact fin H5 D2 as tb S H4 (b3.trans b4) B4 hD2 b5 B5 h1 (by rw [h2, List.length_map, hl]) h3 h4 (by omega) (by omega) h5
    refine itdF c1 ?_
    refine ⟨_, rfl, rfl, _, rfl, ?_⟩
    by_cases c2 : V.int (sty : Int) = V.int 2
    · refine itdT c2 ?_
      refine ⟨_, rfl, (1 : Int) + (r2 : Int), rfl, by omega, by omega, fun D hD => ?_⟩
      rw [hmany, Int.toNat_natCast]
      refine ints_lc walk_range (fun z => 1 ≤ z ∧ z ≤ 4) hD B2 (by omega) (fun _ _ _ => True.intro) (fun i x H4 H5 kk hi B4 b4 y hy => ?_) (fun H4 ns b4 B4 hDl hl hr4 => ?_)
      · obtain ⟨rfl, rfl⟩ := y
        refine ⟨rfl, _, rfl, (by show 4 ≤ sizeLine; decide), fun q hq => ?_⟩
        have nq := B4.ne hq
        refine ⟨b, q, [.int 1, .int 2, .int 3, .int 4], rfl, B4.put nq, upd_same, nq, by decide, by decide, fun i2 x2 u5 hx2 hu5 => ?_⟩
        obtain ⟨z, rfl, hz⟩ : ∃ z : Int, V.int z = x2 ∧ 1 ≤ z ∧ z ≤ 4 := by
          match i2, hx2 with
          | 0, h => exact ⟨1, Option.some.inj h, by decide⟩
          | 1, h => exact ⟨2, Option.some.inj h, by decide⟩
          | 2, h => exact ⟨3, Option.some.inj h, by decide⟩
          | 3, h => exact ⟨4, Option.some.inj h, by decide⟩
          | n + 4, h => simp at h
        exact hy _ _ hz (taken hu5) (But.put (But.of (same_new hq)))
      · refine ⟨_, rfl, D, rfl, ⟨_, SqL.of hDl⟩, fun D2 hD2 => ?_⟩
        have nD : D ≠ b := B2.ne hD
        refine rows_lc (walk_list (xs := ns.map V.int)) 8 hD2 B4 (by rw [List.length_map, hl]; omega) (fun H b5 _ => SqL.of (b5 _ _ hDl nD)) (fun i x H5 H6 kk hi B5 b5 y hy => ?_) (fun H5 as tb b5 B5 h1 h2 h3 h4 h5 => ?_)
        · obtain ⟨rfl, hx⟩ := y
          obtain ⟨z, hz, rfl⟩ := map_at hx
          have hzr := hr4 z (List.mem_of_getElem? hz)
          refine ⟨rfl, 8, rfl, by decide, by decide, fun D3 hD3 => ?_⟩
          refine ints_lc (walk_range (n := 8)) (InR 8) hD3 B5 (by decide) (fun _ _ _ => True.intro) (fun j x H7 H8 kk2 hj B7 b7 y hy2 => ?_) (fun H7 ns2 b7 B7 q1 q2 q3 => ?_)
          · obtain ⟨rfl, rfl⟩ := y
            refine ⟨rfl, _, rfl, _, rfl, _, _, rfl, rfl, ?_⟩
            obtain ⟨zn, rfl⟩ : ∃ zn : Nat, z = (zn : Int) := ⟨z.toNat, by omega⟩
            have e := bitor_in j hj zn (by omega) (by omega)
            rw [show (0 : Int) + (j : Int) = (j : Int) by omega]
            exact hy2 _ _ e B7 (fun c o e _ => e)
          · exact hy D3 ns2 H7 hD3 q1 q2 q3 B7 b7
        · exact fin H5 D2 as tb 8 H4 (b2.trans b4) B4 hD2 b5 B5 h1 (by rw [h2, List.length_map, hl]) h3 h4 (by omega) (by omega) h5
    refine itdF c2 ?_
    refine ⟨_, rfl, rfl, _, rfl, ?_⟩
    by_cases c3 : V.int (sty : Int) = V.int 3
    · refine itdT c3 ?_
      refine ⟨_, rfl, b, 4, rfl, B2, by decide, by decide, fun r3 u3 hr3 hu3 => ?_⟩
      have b3 : But b H (upd H2 b u3) := b2.put
      have B3 : BoxAt (upd H2 b u3) b := taken hu3
      generalize upd H2 b u3 = H3 at b3 B3
      refine ⟨_, _, rfl, rfl, ?_⟩
      obtain ⟨S, hS, hS2, hS6⟩ : ∃ S : Nat, (2 : Int) + (r3 : Int) = (S : Int) ∧ 2 ≤ S ∧ S ≤ 6 := ⟨2 + r3, by omega, by omega, by omega⟩
      refine ⟨_, rfl, (1 : Int) + (r2 : Int), rfl, by omega, by omega, fun D hD => ?_⟩
      rw [hmany, Int.toNat_natCast]
      refine rows_lc walk_range S hD B3 (by omega) (fun _ _ _ => True.intro) (fun i x H5 H6 kk hi B5 b5 y hy => ?_) (fun H5 as tb b5 B5 h1 h2 h3 h4 h5 => ?_)
      · obtain ⟨rfl, rfl⟩ := y
        refine ⟨rfl, _, rfl, (2 : Int) + (r3 : Int), rfl, by omega, by omega, fun D3 hD3 => ?_⟩
        rw [hS, Int.toNat_natCast]
        refine ints_lc walk_range (InR S) hD3 B5 (by omega) (fun _ _ _ => True.intro) (fun j x H7 H8 kk2 hj B7 b7 y hy2 => ?_) (fun H7 ns2 b7 B7 q1 q2 q3 => ?_)
        · obtain ⟨rfl, rfl⟩ := y
          refine ⟨rfl, _, rfl, _, _, rfl, rfl, _, rfl, b, 2, rfl, B7, by decide, by decide, fun r8 u8 hr8 hu8 => ⟨_, _, rfl, rfl, _, rfl, _, _, rfl, rfl, _, _, rfl, ?_⟩⟩
          refine hy2 _ _ ⟨?_, ?_⟩ (taken hu8) but_put
          · by_cases cc : (2 : Int) + (r3 : Int) - 1 < 0 + (j : Int) + 1 + (r8 : Int)
            · rw [if_pos cc]; omega
            · rw [if_neg cc]; omega
          · by_cases cc : (2 : Int) + (r3 : Int) - 1 < 0 + (j : Int) + 1 + (r8 : Int)
            · rw [if_pos cc]; omega
            · rw [if_neg cc]; omega
        · exact hy D3 ns2 H7 hD3 q1 q2 q3 B7 b7
      · exact fin H5 D as tb S H3 b3 B3 hD b5 B5 h1 h2 h3 h4 (by omega) (by omega) h5
    refine itdF c3 ?_
    refine ⟨_, rfl, rfl, _, rfl, ?_⟩
    by_cases c4 : V.int (sty : Int) = V.int 4
    · refine itdT c4 ?_
      refine ⟨(by show 6 ≤ sizeLine; decide), fun q1 hq1 => ⟨(by show 6 ≤ sizeLine; decide), fun q2 hq2 => ⟨(by show 2 ≤ sizeLine; decide), fun l hl => ?_⟩⟩⟩
      obtain ⟨m1, g1⟩ := upd_none hq2
      obtain ⟨m2, g2⟩ := upd_none hl
      obtain ⟨m3, g3⟩ := upd_none g2
      have e1 := B2.ne hq1
      have e2 := B2.ne g1
      have e3 := B2.ne g3
      refine k _ l [q1, q2] [[1, 2, 0, 4, 5, 3], [3, 5, 4, 0, 2, 1]] 6 (b2.trans (But.of (same_put (same_put (same_new hq1) g1) g3))) (((B2.put e1).put e2).put e3) upd_same ⟨rfl, fun j c r f1 f2 => ?_⟩ ⟨by decide, by decide, by decide, by decide, by decide, by decide, by decide⟩ (by decide) (b2.free B2 g3) (fun c hc => ?_)
      · match j, f1, f2 with
        | 0, f1, f2 =>
          rw [← Option.some.inj f1, ← Option.some.inj f2, upd_ne m3.symm, upd_ne m1.symm, upd_same]
          rfl
        | 1, f1, f2 =>
          rw [← Option.some.inj f1, ← Option.some.inj f2, upd_ne m2.symm, upd_same]
          rfl
        | j + 2, f1, f2 => simp at f1
      · rcases List.mem_cons.mp hc with h | h
        · rw [h]; exact ⟨b2.free B2 hq1, m3.symm⟩
        · rw [List.mem_singleton.mp h]; exact ⟨b2.free B2 g1, m2.symm⟩
    refine itdF c4 ?_
    refine ⟨_, rfl, b, 3, rfl, B2, by decide, by decide, fun r3 u3 hr3 hu3 => ?_⟩
    have b3 : But b H (upd H2 b u3) := b2.put
    have B3 : BoxAt (upd H2 b u3) b := taken hu3
    generalize upd H2 b u3 = H3 at b3 B3
    refine ⟨_, _, rfl, rfl, ?_⟩
    obtain ⟨S, hS, hS2, hS6⟩ : ∃ S : Nat, (2 : Int) + (r3 : Int) = (S : Int) ∧ 2 ≤ S ∧ S ≤ 6 := ⟨2 + r3, by omega, by omega, by omega⟩
    refine ⟨_, rfl, (1 : Int) + (r2 : Int), rfl, by omega, by omega, fun D hD => ?_⟩
    rw [hmany, Int.toNat_natCast]
    refine rows_lc walk_range S hD B3 (by omega) (fun _ _ _ => True.intro) (fun i x H5 H6 kk hi B5 b5 y hy => ?_) (fun H5 as tb b5 B5 h1 h2 h3 h4 h5 => ?_)
    · obtain ⟨rfl, rfl⟩ := y
      refine ⟨rfl, _, rfl, (2 : Int) + (r3 : Int), rfl, by omega, by omega, fun D3 hD3 => ?_⟩
      rw [hS, Int.toNat_natCast]
      refine ints_lc walk_range (InR S) hD3 B5 (by omega) (fun _ _ _ => True.intro) (fun j x H7 H8 kk2 hj B7 b7 y hy2 => ?_) (fun H7 ns2 b7 B7 q1 q2 q3 => ?_)
      · obtain ⟨rfl, rfl⟩ := y
        refine ⟨rfl, _, rfl, _, rfl, b, S, ?_, B7, by omega, by omega, fun r8 u8 hr8 hu8 => hy2 _ _ ⟨by omega, by omega⟩ (taken hu8) but_put⟩
        show [V.ref b, V.int ((2 : Int) + (r3 : Int))] ++ [] = [V.ref b, V.int (S : Int)]
        rw [hS]
        rfl
      · exact hy D3 ns2 H7 hD3 q1 q2 q3 B7 b7
    · exact fin H5 D as tb S H3 b3 B3 hD b5 B5 h1 h2 h3 h4 (by omega) (by omega) h5
end
end Hl
set_option Elab.async false
set_option linter.all false
set_option maxRecDepth 100000
set_option maxHeartbeats 4000000
namespace Hl
open PySem PySem.Spec PyProof.Rows L2
def prD (p : Pr) : PyData := .tuple [.int p.1, .int p.2]
theorem prs_lay : ∀ ps : List Pr, PyData.canLayAll0 (ps.map prD) = true
  | [] => rfl
  | p :: ps => by
    rw [List.map_cons]
    unfold PyData.canLayAll0
    rw [prs_lay ps]
    rfl
theorem prs_depth : ∀ ps : List Pr, PyData.depthAll (ps.map prD) ≤ 1
  | [] => Nat.zero_le _
  | p :: ps => by
    rw [List.map_cons]
    unfold PyData.depthAll
    exact Nat.max_le.mpr ⟨by show max 0 (max 0 0) + 1 ≤ 1; decide, prs_depth ps⟩
theorem prs_shaped (ps : List Pr) : SeqAt.shaped (.list (ps.map prD)) = true := by
  unfold SeqAt.shaped
  rw [Bool.and_eq_true, decide_eq_true_eq]
  refine ⟨?_, ?_⟩
  · show PyData.canLayAll0 (ps.map prD) = true
    exact prs_lay ps
  · show PyData.depthAll (ps.map prD) + 1 ≤ 64
    have := prs_depth ps
    omega
theorem ints_lay : ∀ ns : List Int, PyData.canLayAll0 (ns.map PyData.int) = true
  | [] => rfl
  | p :: ps => by
    rw [List.map_cons]
    unfold PyData.canLayAll0
    rw [ints_lay ps]
    rfl
theorem ints_depth : ∀ ns : List Int, PyData.depthAll (ns.map PyData.int) ≤ 0
  | [] => Nat.zero_le _
  | p :: ps => by
    rw [List.map_cons]
    unfold PyData.depthAll
    exact Nat.max_le.mpr ⟨Nat.le_refl _, ints_depth ps⟩
theorem ints_shaped (ns : List Int) : SeqAt.shaped (.list (ns.map PyData.int)) = true := by
  unfold SeqAt.shaped
  rw [Bool.and_eq_true, decide_eq_true_eq]
  refine ⟨?_, ?_⟩
  · show PyData.canLayAll0 (ns.map PyData.int) = true
    exact ints_lay ns
  · show PyData.depthAll (ns.map PyData.int) + 1 ≤ 64
    have := ints_depth ns
    omega
theorem eqv_nil : ∀ ds : List PyData, PyData.eqv (.list ds) (.list []) = ds.isEmpty
  | [] => rfl
  | _ :: _ => rfl
theorem dp_ints {K : PySem.W.Frag} {H : Hp} : ∀ ns : List Int, DpAll K H (ns.map V.int) (ns.map PyData.int)
  | [] => .nil
  | n :: ns => .cons (.int n) (dp_ints ns)
theorem dp_pairs {K : PySem.W.Frag} {H : Hp} : ∀ {ts : List Addr} {ps : List Pr}, TiesL H ts ps → DpAll K H (ts.map V.ref) (ps.map prD)
  | [], [], _ => .nil
  | [], _ :: _, h => by have := h.1; simp at this
  | _ :: _, [], h => by have := h.1; simp at this
  | t :: ts, p :: ps, h => by
    refine .cons (.tup (SqT.of (h.2 0 t p rfl rfl)) (.cons (.int p.1) (.cons (.int p.2) .nil))) (dp_pairs ⟨by have := h.1; simpa using this, fun j a r e1 e2 => h.2 (j + 1) a r e1 e2⟩)
end Hl
set_option Elab.async false
set_option linter.all false
set_option maxRecDepth 100000
set_option maxHeartbeats 8000000
namespace Hl
open PySem PySem.Spec PyProof.Rows L2
def spLTies : Sp := fun vs H Q _ => ∃ (b : Addr) (nh : Nat), vs = [.ref b, .int nh, .int 5] ∧ BoxAt H b ∧ 1 ≤ nh ∧ nh ≤ 4 ∧ ∀ (H' : Hp) (l : Addr) (ts : List Addr) (ps : List Pr), But b H H' → BoxAt H' b → H' l = some (.lst (ts.map V.ref)) → TiesL H' ts ps → Ws ps nh → H l = none → Q (.ref l) H'
def spLRowL (K : PySem.W.Frag) : Sp := fun vs H Q _ => ∃ (p : Addr) (l : List Int), vs = [.ref p] ∧ H p = some (.lst (l.map V.int)) ∧ l.length ≤ 5 ∧ (∀ x ∈ l, InR 8 x) ∧ ∀ H', Same H H' → Q (.str (rowTx l)) H'
def spLRowT (K : PySem.W.Frag) : Sp := fun vs H Q _ => ∃ (p : Addr) (l : List Int), vs = [.ref p] ∧ H p = some (.tup (l.map V.int)) ∧ l.length ≤ 5 ∧ (∀ x ∈ l, InR 8 x) ∧ ∀ H', Same H H' → Q (.str (rowTx l)) H'
theorem other_ok {nh one r : Nat} (h2 : 2 ≤ nh) (h4 : nh ≤ 4) (h1 : one < nh) (hr : r < nh - 1) : 0 ≤ ((one : Int) + 1 + (r : Int)).fmod (nh : Int) ∧ ((one : Int) + 1 + (r : Int)).fmod (nh : Int) < (nh : Int) ∧ ((one : Int) + 1 + (r : Int)).fmod (nh : Int) ≠ (one : Int) := by
  rw [Int.fmod_eq_emod_of_nonneg _ (by omega)]
  have : nh = 2 ∨ nh = 3 ∨ nh = 4 := by omega
  rcases this with e | e | e
  · subst e; omega
  · subst e; omega
  · subst e; omega
theorem TiesL.snoc {H : Hp} {ts : List Addr} {ps : List Pr} {t : Addr} {p : Pr} (h : TiesL H ts ps) (x : H t = some (.tup (prV p))) : TiesL H (ts ++ [t]) (ps ++ [p]) := by
  refine ⟨by rw [List.length_append, List.length_append, h.1]; rfl, fun j t' p' a b => ?_⟩
  by_cases hj : j < ts.length
  · rw [List.getElem?_append_left hj] at a
    rw [List.getElem?_append_left (by rw [← h.1]; exact hj)] at b
    exact h.2 j t' p' a b
  · have hj2 : j = ts.length := by
      have z := (List.getElem?_eq_some_iff.mp a).1
      rw [List.length_append] at z
      simp at z
      omega
    subst hj2
    rw [List.getElem?_append_right (Nat.le_refl _)] at a
    rw [h.1, List.getElem?_append_right (Nat.le_refl _)] at b
    simp at a b
    rw [← a, ← b]
    exact x
theorem BoxAt.tup {H : Hp} {b q : Addr} {xs : List V} (h : BoxAt H b) (e : H q = some (.tup xs)) : q ≠ b := fun z => by
  obtain ⟨u, e1, c0, c1, rfl, _⟩ := h
  rw [z, e1] at e
  cases e
section
variable {P : Program} {w : World} {K : PySem.W.Frag} {mg : Str → Option Value} {base : Heap} {a : Ad} {d : Fd}
theorem ok_LTies (T : Txt P w K mg a d) : FnOk P w K mg base CX0 2 a.fLTies d.fLTies pLTies spLTies := by
  have GT : FnOk P w K mg base CX0 1 a.fLTake d.fLTake pLTake spLTake := ok_LTake T
  refine T.FLTies.ok scLTies (fun vs H Q E h => ?_) (fun cdv A outer s H vs Q E hr h => ?_)
  · obtain ⟨b, nh, rfl, _⟩ := h
    rfl
  · obtain ⟨b, nh, rfl, hb, n1, n4, k⟩ := h
    refine ⟨_, pss_cons (ps_set (i := 3) scLTies.nd rfl (.inl rfl) (pe_lst pa_nil))
      (pss_cons (ps_for PassesOwn.never rfl (pi_range1 (by rfl) T.b_range (pa_cons (pe_ifExp (pt_cmpR op_gt (pv 1) pe_int (nomark _)) (pe_call GT hr (by rfl) T.gLTake T.FLTake.kp T.bLTake .nil pass0 (pa_cons (pv 0) (pa_cons (pe_op op_add (pv 2) pe_int) pa_nil))) pe_int) pa_nil)) (pg_name (i := 4) scLTies.nd rfl (.inl rfl))
        (pss_cons (ps_set (i := 5) scLTies.nd rfl (.inl rfl) (pe_call GT hr (by rfl) T.gLTake T.FLTake.kp T.bLTake .nil pass0 (pa_cons (pv 0) (pa_cons (pv 1) pa_nil))))
        (pss_cons (ps_set (i := 6) scLTies.nd rfl (.inl rfl) (pe_op op_modN (pe_callTy call_int1 (by rfl) T.b_int boot_int (pa_cons (pe_op op_add (pe_op op_add (pv 5) pe_int) (pe_call GT hr (by rfl) T.gLTake T.FLTake.kp T.bLTake .nil pass0 (pa_cons (pv 0) (pa_cons (pe_op op_sub (pv 1) pe_int) pa_nil)))) pa_nil)) (pv 1)))
        (pss_one (ps_expr (pe_bm PySem.F.plainAttrs_list PySem.F.slot_list_append PySem.F.type_list_append mt_append (pv 3) (pa_cons (pe_tup (pa_cons (pv 5) (pa_cons (pv 6) pa_nil))) pa_nil)))))))
      (pss_one (ps_ret (pv 3)))), ?_⟩
    refine ⟨(by show 0 ≤ sizeLine; decide), fun l hl => ?_⟩
    have nlb := hb.ne hl
    have B1 : BoxAt (upd H l (.lst [])) b := hb.put nlb
    have b1 : But b H (upd H l (.lst [])) := But.of (same_new hl)
    have hl1 : upd H l (.lst []) l = some (.lst (([] : List Addr).map V.ref)) := upd_same
    generalize upd H l (.lst []) = H1 at B1 b1 hl1
    -- the loop, from n turns
    have loop : ∀ (n : Nat) (H2 : Hp) (D : Ends), n ≤ 5 → (n = 0 ∨ 2 ≤ nh) → But b H H2 → BoxAt H2 b → H2 l = some (.lst (([] : List Addr).map V.ref)) → (∀ σ H', (∃ c4 c5 c6, σ = [some (.ref b), some (.int nh), some (.int 5), some (.ref l), c4, c5, c6]) → (∃ ts ps, But b H H' ∧ BoxAt H' b ∧ H' l = some (.lst (ts.map V.ref)) ∧ TiesL H' ts ps ∧ Ws ps nh) → D.nx σ H') →
        ∃ W : Nat → Nat → L2.St → Hp → Prop, (∃ m, W 0 m [some (.ref b), some (.int nh), some (.int 5), some (.ref l), none, none, none] H2) ∧ ∀ i m σ H, W i m σ H → ((Itr 0 n).stop i H ∧ D.nx σ H) ∨ ((Itr 0 n).go i H ∧ ∃ N : L2.St → Hp → Prop, (∀ σ' H', N σ' H' → ∃ m', m' < m ∧ W (i + 1) m' σ' H') ∧ ∀ x H', (Itr 0 n).yld i H x H' → gName 4 x σ H' fun σ2 H2 =>
          (tSeq (tAsg (tCall spLTake [] E0 (tCons (tVar 0) (tCons (tVar 1) tNil))) (gName 5)) (tSeq (tAsg (tOp (rI (fun _ j => j ≠ 0) fun i j => .int (i.fmod j)) (tCB (fun xs H Q => (∃ i, xs = [V.int i] ∧ Q (.int i) H) ∨ ∃ k, xs = [.bl k] ∧ Q (.int (if k then 1 else 0)) H) (tCons (tOp (rI0 fun i j => .int (i + j)) (tOp (rI0 fun i j => .int (i + j)) (tVar 5) (tC (.int 1))) (tCall spLTake [] E0 (tCons (tVar 0) (tCons (tOp (rI0 fun i j => .int (i - j)) (tVar 1) (tC (.int 1))) tNil)))) tNil)) (tVar 1)) (gName 6))
            (tDrop (tBM K "list" rAppend (tVar 3) (tCons (tTup (tCons (tVar 5) (tCons (tVar 6) tNil))) tNil))))) { D with nx := N, ct := N, bk := D.nx } σ2 H2) := by
      intro n H2 D hn hn2 b2 B2 hl2 hD
      refine for_it walk_range (fun i σ H' => ∃ c4 c5 c6, σ = [some (.ref b), some (.int nh), some (.int 5), some (.ref l), c4, c5, c6] ∧ ∃ (ts : List Addr) (ps : List Pr), But b H H' ∧ BoxAt H' b ∧ H' l = some (.lst (ts.map V.ref)) ∧ TiesL H' ts ps ∧ Ws ps nh ∧ ps.length = i) ⟨none, none, none, rfl, [], [], b2, B2, hl2, ⟨rfl, fun j a p e => by simp at e⟩, ⟨n1, n4, by decide, fun p h => by simp at h, fun p h => by simp at h, fun p h => by simp at h, fun p h => by simp at h, fun p h => by simp at h⟩, rfl⟩ (fun _ _ _ _ _ => True.intro) ?_ ?_
      · rintro i x σ H3o H3 hi ⟨c4, c5, c6, rfl, ts, ps, b3, B3, hl3, hR, hW, hlen⟩ ⟨rfl, rfl⟩
        have h2 : 2 ≤ nh := by rcases hn2 with z | z
                               · omega
                               · exact z
        refine ⟨_, rfl, _, rfl, b, nh, rfl, B3, n1, by omega, fun one u4 h1 hu4 => ?_⟩
        have b4 : But b H (upd H3 b u4) := b3.put
        have B4 : BoxAt (upd H3 b u4) b := taken hu4
        have k34 : But b H3 (upd H3 b u4) := but_put
        generalize upd H3 b u4 = H4 at b4 B4 k34
        refine ⟨_, rfl, _, _, rfl, rfl, _, rfl, _, rfl, _, _, rfl, rfl, b, nh - 1, ?_, B4, by omega, by omega, fun r u5 hr5 hu5 => ?_⟩
        · show [V.ref b, V.int ((nh : Int) - 1)] ++ [] = [V.ref b, V.int ((nh - 1 : Nat) : Int)]
          rw [show ((nh - 1 : Nat) : Int) = (nh : Int) - 1 by omega]
          rfl
        have b5 : But b H (upd H4 b u5) := b4.put
        have B5 : BoxAt (upd H4 b u5) b := taken hu5
        have k35 : But b H3 (upd H4 b u5) := k34.put
        generalize upd H4 b u5 = H5 at b5 B5 k35
        refine ⟨_, _, rfl, rfl, .inl ⟨_, rfl, _, rfl, _, _, rfl, rfl, (by show (nh : Int) ≠ 0; omega), ?_⟩⟩
        obtain ⟨o1, o2, o3⟩ := other_ok h2 n4 h1 hr5
        have hl5 := k35 _ _ hl3 nlb
        refine ⟨_, rfl, .inl ⟨rfl, _, SqL.of hl5⟩, _, rfl, _, rfl, (by show 2 ≤ sizeLine; decide), fun q hq => ?_⟩
        have nq : q ≠ l := fun z => by rw [z, hl5] at hq; cases hq
        have nqb := B5.ne hq
        have hl6 : upd H5 q (.tup [.int one, .int (((one : Int) + 1 + (r : Int)).fmod (nh : Int))]) l = some (.lst (ts.map V.ref)) := by rw [upd_ne nq.symm]; exact hl5
        refine ⟨l, _, _, rfl, rfl, hl6, by rw [List.length_map, hR.1]; exact small1000 (by omega), ?_⟩
        refine ⟨_, _, _, rfl, ts ++ [q], ps ++ [((one : Int), ((one : Int) + 1 + (r : Int)).fmod (nh : Int))], ?_, (B5.put nqb).put nlb, by rw [upd_same, List.map_append]; rfl, ?_, ?_, by rw [List.length_append, hlen]; rfl⟩
        · intro c o e nc
          rw [upd_ne (fun z => by rw [z, hl] at e; cases e), upd_ne (ne_of_none (b5 c o e nc) hq)]
          exact b5 c o e nc
        · have hR6 : TiesL (upd (upd H5 q (.tup [.int one, .int (((one : Int) + 1 + (r : Int)).fmod (nh : Int))])) l (.lst (ts.map V.ref ++ [.ref q]))) ts ps := ⟨hR.1, fun j c p e1 e2 => by
            have z := hR.2 j c p e1 e2
            have z5 := k35 _ _ z (B3.tup z)
            rw [upd_ne (ne_of z5 hl5 (by intro z; cases z)), upd_ne (ne_of_none z5 hq)]
            exact z5⟩
          exact hR6.snoc (by rw [upd_ne nq, upd_same]; rfl)
        · have hp : ∀ p ∈ ps ++ [((one : Int), ((one : Int) + 1 + (r : Int)).fmod (nh : Int))], p ∈ ps ∨ p = ((one : Int), ((one : Int) + 1 + (r : Int)).fmod (nh : Int)) := fun p hp => (List.mem_append.mp hp).imp id List.mem_singleton.mp
          refine ⟨n1, n4, by rw [List.length_append, hlen]; show i + 1 ≤ 5; omega, fun p h => ?_, fun p h => ?_, fun p h => ?_, fun p h => ?_, fun p h => ?_⟩
          · rcases hp p h with z | z
            · exact hW.a0 p z
            · rw [z]; show (0 : Int) ≤ (one : Int); omega
          · rcases hp p h with z | z
            · exact hW.a1 p z
            · rw [z]; show (one : Int) < (nh : Int); omega
          · rcases hp p h with z | z
            · exact hW.b0 p z
            · rw [z]; exact o1
          · rcases hp p h with z | z
            · exact hW.b1 p z
            · rw [z]; exact o2
          · rcases hp p h with z | z
            · exact hW.ne p z
            · rw [z]; exact fun e => o3 e.symm
      · rintro σ H3 ⟨c4, c5, c6, rfl, ts, ps, b3, B3, hl3, hR, hW, hlen⟩
        exact hD _ _ ⟨c4, c5, c6, rfl⟩ ⟨ts, ps, b3, B3, hl3, hR, hW⟩
    have fin : ∀ σ H', (∃ c4 c5 c6, σ = ([some (.ref b), some (.int nh), some (.int 5), some (.ref l), c4, c5, c6] : L2.St)) → (∃ ts ps, But b H H' ∧ BoxAt H' b ∧ H' l = some (.lst (ts.map V.ref)) ∧ TiesL H' ts ps ∧ Ws ps nh) → tRet (tVar 3) { nx := fun _ H' => Q .non H', rt := Q } σ H' := by
      rintro σ H' ⟨c4, c5, c6, rfl⟩ ⟨ts, ps, h1, h2, h3, h4, h5⟩
      exact ⟨_, rfl, k H' l ts ps h1 h2 h3 h4 h5 hl⟩
    refine ⟨_, rfl, _, _, rfl, rfl, _, rfl, ?_⟩
    by_cases c : (1 : Int) < (nh : Int)
    · refine itdT c ⟨_, rfl, _, rfl, _, _, rfl, rfl, b, 6, rfl, B1, by decide, by decide, fun r u2 hr2 hu2 => ?_⟩
      have b2 : But b H (upd H1 b u2) := b1.put
      have B2 : BoxAt (upd H1 b u2) b := taken hu2
      have hl2 : upd H1 b u2 l = some (.lst (([] : List Addr).map V.ref)) := by rw [upd_ne nlb]; exact hl1
      refine ⟨(r : Int), rfl, by omega, by omega, ?_⟩
      rw [Int.toNat_natCast]
      exact loop r _ _ (by omega) (.inr (by omega)) b2 B2 hl2 fin
    · refine itdF c ⟨(0 : Int), rfl, by decide, by decide, ?_⟩
      exact loop 0 _ _ (by decide) (.inl rfl) b1 B1 hl1 fin
theorem ok_LRowL (T : Txt P w K mg a d) : FnOk P w K mg base CX0 1 a.fLRow d.fLRow pLRow (spLRowL K) := by
  refine T.FLRow.ok scLRow (fun vs H Q E h => ?_) (fun cdv A outer s H vs Q E hr h => ?_)
  · obtain ⟨p, l, rfl, _⟩ := h
    rfl
  · obtain ⟨p, l, rfl, hp, hl, hx, k⟩ := h
    refine ⟨_, pss_one (ps_ret (pe_ifExp (pt_cmpR op_gt (pe_callB call_len_seq (by rfl) T.b_len boot_len (pa_cons (pv 0) pa_nil)) pe_int (nomark _))
      (pe_join pe_str (pe_lc (own := [("_law_number", 1)]) (g := gName 1) (tt := tYes) (te := tCB rStrI (tCons (tVar 1) tNil)) rfl scLRow.nd (pi_list (pv 0)) (blkOk_by (own := [("_law_number", 1)]) (N := nLRow) (sc := defScope sLRow) (by decide +kernel))
        (fun _ _ _ _ _ => pg_name (i := 1) scLRow.nd rfl (Or.inl rfl)) (fun _ _ _ _ _ => pts_nil)
        (fun _ _ _ _ _ => pe_callTy call_str_int (by rfl) T.b_str boot_str (pa_cons (pv 1) pa_nil))))
      pe_str)), ?_⟩
    refine ⟨_, rfl, p, _, rfl, .inl (SqL.of hp), ?_⟩
    rw [List.length_map]
    refine ⟨_, _, rfl, rfl, _, rfl, ?_⟩
    by_cases c : 0 < l.length
    · refine itdT (by omega) ⟨⟨_, rfl⟩, _, rfl, p, rfl, ⟨_, SqL.of hp⟩, fun D hD => ?_⟩
      refine lc_fil (walk_list (xs := l.map V.int)) (fun _ => true) (fun i => .str (tx (l.getD i 0))) hD (by rw [List.length_map]; exact small8 hl) (fun H s => .inl (.inl (s _ _ hp))) (fun i x H2 H3 kk k0 hi s2 y hy _ => ?_) (fun H2 s2 e => ?_)
      · obtain ⟨rfl, hyx⟩ := y
        obtain ⟨z, hz, rfl⟩ := map_at hyx
        have hm := hx z (List.mem_of_getElem? hz)
        refine ⟨rfl, iteT (B := k0 H3) ?_⟩
        refine ⟨_, rfl, z, rfl, log_small hm.1 (by have := hm.2; omega), ?_⟩
        have h3 := hy rfl _ (Same.refl _)
        rw [List.getD_eq_getElem?_getD, hz] at h3
        exact h3
      · rw [kept_all, List.length_map, range_fn (f := fun i => V.str (tx i))] at e
        refine ⟨" ", D, l.map tx, rfl, rfl, .inl (SqL.of (by rw [e, List.map_map]; rfl)), join_fits rfl (by rw [List.length_map]; omega) (fun y hy => ?_), ?_⟩
        · obtain ⟨z, hz, rfl⟩ := List.mem_map.mp hy
          exact tx_len (Nat.le_refl 8) (hx z hz)
        · have z := k H2 s2
          unfold rowTx at z
          rw [if_pos c] at z
          exact z
    · refine itdF (by omega) ?_
      have z := k H (Same.refl _)
      unfold rowTx at z
      rw [if_neg c] at z
      exact z
theorem ok_LRowT (T : Txt P w K mg a d) : FnOk P w K mg base CX0 1 a.fLRow d.fLRow pLRow (spLRowT K) := by
  refine T.FLRow.ok scLRow (fun vs H Q E h => ?_) (fun cdv A outer s H vs Q E hr h => ?_)
  · obtain ⟨p, l, rfl, _⟩ := h
    rfl
  · obtain ⟨p, l, rfl, hp, hl, hx, k⟩ := h
    refine ⟨_, pss_one (ps_ret (pe_ifExp (pt_cmpR op_gt (pe_callB call_len_seq (by rfl) T.b_len boot_len (pa_cons (pv 0) pa_nil)) pe_int (nomark _))
      (pe_join pe_str (pe_lc (own := [("_law_number", 1)]) (g := gName 1) (tt := tYes) (te := tCB rStrI (tCons (tVar 1) tNil)) rfl scLRow.nd (pi_tup (pv 0)) (blkOk_by (own := [("_law_number", 1)]) (N := nLRow) (sc := defScope sLRow) (by decide +kernel))
        (fun _ _ _ _ _ => pg_name (i := 1) scLRow.nd rfl (Or.inl rfl)) (fun _ _ _ _ _ => pts_nil)
        (fun _ _ _ _ _ => pe_callTy call_str_int (by rfl) T.b_str boot_str (pa_cons (pv 1) pa_nil))))
      pe_str)), ?_⟩
    refine ⟨_, rfl, p, _, rfl, .inr (SqT.of hp), ?_⟩
    rw [List.length_map]
    refine ⟨_, _, rfl, rfl, _, rfl, ?_⟩
    by_cases c : 0 < l.length
    · refine itdT (by omega) ⟨⟨_, rfl⟩, _, rfl, p, rfl, ⟨_, SqT.of hp⟩, fun D hD => ?_⟩
      refine lc_fil (walk_tup (xs := l.map V.int)) (fun _ => true) (fun i => .str (tx (l.getD i 0))) hD (by rw [List.length_map]; exact small8 hl) (fun H s => .inl (.inl (s _ _ hp))) (fun i x H2 H3 kk k0 hi s2 y hy _ => ?_) (fun H2 s2 e => ?_)
      · obtain ⟨rfl, hyx⟩ := y
        obtain ⟨z, hz, rfl⟩ := map_at hyx
        have hm := hx z (List.mem_of_getElem? hz)
        refine ⟨rfl, iteT (B := k0 H3) ?_⟩
        refine ⟨_, rfl, z, rfl, log_small hm.1 (by have := hm.2; omega), ?_⟩
        have h3 := hy rfl _ (Same.refl _)
        rw [List.getD_eq_getElem?_getD, hz] at h3
        exact h3
      · rw [kept_all, List.length_map, range_fn (f := fun i => V.str (tx i))] at e
        refine ⟨" ", D, l.map tx, rfl, rfl, .inl (SqL.of (by rw [e, List.map_map]; rfl)), join_fits rfl (by rw [List.length_map]; omega) (fun y hy => ?_), ?_⟩
        · obtain ⟨z, hz, rfl⟩ := List.mem_map.mp hy
          exact tx_len (Nat.le_refl 8) (hx z hz)
        · have z := k H2 s2
          unfold rowTx at z
          rw [if_pos c] at z
          exact z
    · refine itdF (by omega) ?_
      have z := k H (Same.refl _)
      unfold rowTx at z
      rw [if_neg c] at z
      exact z
end
end Hl
set_option Elab.async false
set_option linter.all false
set_option maxRecDepth 100000
set_option maxHeartbeats 8000000
namespace Hl
open PySem PySem.Spec PyProof.Rows L2
def kvB (M : List Pr) : List (List Key × V) := M.map fun p => (keyP p, V.bl true)
theorem kvB_none : ∀ {M : List Pr} {p : Pr}, valV (kvB M) (keyP p) = none ↔ p ∉ M
  | [], p => by simp [kvB, valV_nil]
  | e :: es, p => by
    have ih := kvB_none (M := es) (p := p)
    show valV ((keyP e, V.bl true) :: kvB es) (keyP p) = none ↔ _
    by_cases h : e = p
    · rw [valV_pos (p := (keyP e, V.bl true)) (by show keyP e = keyP p; rw [h])]
      simp [h]
    · rw [valV_neg (p := (keyP e, V.bl true)) (fun z => h (keyP_inj z)), ih]
      simp [Ne.symm h]
theorem kept_list {α : Type} (l : List α) (d : α) (c : α → Bool) (f : α → V) : kept (fun i => c (l.getD i d)) (fun i => f (l.getD i d)) l.length = (l.filter c).map f := by
  have z : (List.range l.length).map (fun i => l.getD i d) = l := by
    apply List.ext_getElem
    · simp
    · intro i h1 h2
      simp [List.getD_eq_getElem?_getD, List.getElem?_eq_getElem h2]
  conv => rhs; rw [← z, List.filter_map, List.map_map]
  rfl
structure JRI (H : Hp) (d l : Addr) (M Wt : List Pr) (ws : List Addr) : Prop where
  dict : H d = some (.dT (kvB M))
  lst : H l = some (.lst (ws.map V.ref))
  ties : TiesL H ws Wt
theorem JRI.same {H H' : Hp} {d l : Addr} {M Wt : List Pr} {ws : List Addr} (h : JRI H d l M Wt ws) (s : Same H H') : JRI H' d l M Wt ws := ⟨s _ _ h.dict, s _ _ h.lst, h.ties.same s⟩
theorem keys_ties {H : Hp} : ∀ {M : List Pr} {bs : List Addr}, IsKeys H (kvB M) bs → TiesL H bs M
  | [], _, h => by cases h; exact ⟨rfl, fun j a p e => by simp at e⟩
  | p :: M, _, h => by
    cases h with
    | cons x t =>
      have ih := keys_ties t
      refine ⟨by show _ + 1 = _ + 1; rw [ih.1], fun j a q e1 e2 => ?_⟩
      cases j with
      | zero =>
        have e1' := Option.some.inj e1
        have e2' := Option.some.inj e2
        rw [← e1', ← e2']
        exact x
      | succ j => exact ih.2 j a q e1 e2
def spLJoin : Sp := fun vs H Q _ => ∃ (ta : Addr) (as : List Addr) (tb : List (List Int)) (S : Nat) (ar he th : Int), vs = [.ref ta, .int ar, .int he, .int th] ∧ H ta = some (.lst (as.map V.ref)) ∧ RowsL H as tb ∧ Tb tb S ∧ InS S (ar, he) ∧
  ∀ (H' : Hp) (o : Option Int), Same H H' → JoinIs tb ar he th o → Q (oV o) H'
section
variable {P : Program} {w : World} {K : PySem.W.Frag} {mg : Str → Option Value} {base : Heap} {a : Ad} {d : Fd}
theorem ok_LJoin (T : Txt P w K mg a d) : FnOk P w K mg base CX0 1 a.fLJoin d.fLJoin pLJoin spLJoin := by
  refine T.FLJoin.ok scLJoin (fun vs H Q E h => ?_) (fun cdv A outer s H vs Q E hr h => ?_)
  · obtain ⟨ta, as, tb, S, ar, he, th, rfl, _⟩ := h
    rfl
  · obtain ⟨ta, as, tb, S, ar, he, th, rfl, hta, hR, hT, hin, k⟩ := h
    have hu := hu_of hr
    refine ⟨_, pss_cons (ps_par (i := 4) (j := 5) (by rfl) scLJoin.nd rfl rfl (by decide) rfl rfl (pa_cons (pe_dispT hu (pe_tup (pa_cons (pv 1) (pa_cons (pv 2) pa_nil))) pe_bl) (pa_cons (pe_lst (pa_cons (pe_tup (pa_cons (pv 1) (pa_cons (pv 2) pa_nil))) pa_nil)) pa_nil)) (by rfl))
      (pss_cons (ps_for PassesOwn.never rfl (pi_range1 (by rfl) T.b_range (pa_cons pe_int pa_nil)) (pg_name (i := 6) scLJoin.nd rfl (.inl rfl))
        (pss_cons (ps_if (pt_cmpR (op_eqD hr.units) (pv 5) (pe_lst pa_nil) (nomark _)) (pss_one ps_break) pss_nil)
        (pss_cons (ps_asg (pe_bm0 PySem.F.plainAttrs_list PySem.F.slot_list_pop PySem.F.type_list_pop mt_pop (pv 5)) (pg_tup rfl (pgs_cons (pg_name (i := 7) scLJoin.nd rfl (.inl rfl)) (pgs_cons (pg_name (i := 8) scLJoin.nd rfl (.inl rfl)) pgs_nil))))
        (pss_one (ps_for PassesOwn.never rfl (pi_list (pv 0)) (pg_name (i := 9) scLJoin.nd rfl (.inl rfl))
          (pss_cons (ps_set (i := 10) scLJoin.nd rfl (.inl rfl) (pe_tup (pa_cons (pe_ix ix_list (pv 9) (pv 7) (fun _ _ => rfl)) (pa_cons (pe_ix ix_list (pv 9) (pv 8) (fun _ _ => rfl)) pa_nil))))
          (pss_one (ps_if (pt_cmp (pc_dnotin hu (pv 10) (pv 4)))
            (pss_cons (ps_dput hu (pv 4) (pv 10) pe_bl rfl)
            (pss_one (ps_expr (pe_bm PySem.F.plainAttrs_list PySem.F.slot_list_append PySem.F.type_list_append mt_append (pv 5) (pa_cons (pv 10) pa_nil))))) pss_nil))))))))
      (pss_cons (ps_setLc (i := 11) (own := [("_law_one", 7), ("_law_other", 8)]) (g := gTup K 2 (gCons (gName 7) (gCons (gName 8) gNil))) (tt := tTest (tOp rEq (tVar 7) (tVar 3))) (te := tVar 8) rfl scLJoin.nd rfl rfl (sw_true rfl rfl rfl (by decide +kernel)) (pi_list (pe_callTy (call_list_dT rfl) (by rfl) T.b_list boot_list (pa_cons (pv 4) pa_nil)))
          (blkOk_by (own := [("_law_one", 7), ("_law_other", 8)]) (N := nLJoin) (sc := defScope sLJoin) (by decide +kernel))
          (fun _ _ _ _ _ => pg_tup rfl (pgs_cons (pg_name (i := 7) scLJoin.nd rfl (.inl rfl)) (pgs_cons (pg_name (i := 8) scLJoin.nd rfl (.inl rfl)) pgs_nil)))
          (fun _ _ _ _ _ => pts_one (pt_cmpR op_eq (pv 7) (pv 3) (nomark _))) (fun _ _ _ _ _ => pv 8))
      (pss_one (ps_ret (pe_ifExp (pt_cmpR op_eq (pe_callB call_len_seq (by rfl) T.b_len boot_len (pa_cons (pv 11) pa_nil)) pe_int (nomark _)) (pe_ix ix_list (pv 11) pe_int (fun _ _ => rfl)) pe_non))))), ?_⟩
    intro dd hdd
    refine ⟨_, rfl, _, rfl, (by show 2 ≤ sizeLine; decide), fun kt hkt => ?_⟩
    obtain ⟨n1, hkt0⟩ := upd_none hkt
    refine ⟨kt, keyP (ar, he), rfl, upd_same, by rw [upd_ne n1.symm, upd_same], ?_⟩
    refine ⟨_, rfl, _, rfl, (by show 2 ≤ sizeLine; decide), fun w0 hw0 => ⟨(by show 1 ≤ sizeLine; decide), fun l hl => ?_⟩⟩
    obtain ⟨n2, hw1⟩ := upd_none hw0
    obtain ⟨n3, hw2⟩ := upd_none hw1
    obtain ⟨_, hw00⟩ := upd_none hw2
    obtain ⟨n4, hl1⟩ := upd_none hl
    obtain ⟨n5, hl2⟩ := upd_none hl1
    obtain ⟨n6, hl3⟩ := upd_none hl2
    obtain ⟨_, hl00⟩ := upd_none hl3
    refine ⟨_, _, rfl, ?_⟩
    have s1 : Same H (upd (upd (upd (upd (upd H dd (HO.dT [])) kt (HO.tup [V.int ar, V.int he])) dd (HO.dT [(keyP (ar, he), V.bl true)])) w0 (HO.tup [V.int ar, V.int he])) l (HO.lst [V.ref w0])) :=
      same_put (same_put (same_put (same_put (same_new hdd) hkt0) hdd) hw00) hl00
    have J1 : JRI (upd (upd (upd (upd (upd H dd (HO.dT [])) kt (HO.tup [V.int ar, V.int he])) dd (HO.dT [(keyP (ar, he), V.bl true)])) w0 (HO.tup [V.int ar, V.int he])) l (HO.lst [V.ref w0])) dd l [(ar, he)] [(ar, he)] [w0] := by
      refine ⟨by rw [upd_ne n5.symm, upd_ne n2.symm, upd_same]; rfl, upd_same, rfl, fun j c p e1 e2 => ?_⟩
      match j, e1, e2 with
      | 0, e1, e2 =>
        rw [← Option.some.inj e1, ← Option.some.inj e2, upd_ne n4.symm, upd_same]
        rfl
      | j + 1, e1, e2 => simp at e1
    generalize (upd (upd (upd (upd (upd H dd (HO.dT [])) kt (HO.tup [V.int ar, V.int he])) dd (HO.dT [(keyP (ar, he), V.bl true)])) w0 (HO.tup [V.int ar, V.int he])) l (HO.lst [V.ref w0])) = H1 at s1 J1
    refine ⟨150, rfl, by decide, by decide, ?_⟩
    refine for_it (walk_range (n := 150)) (fun i σ H' => ∃ (M Wt : List Pr) (ws : List Addr) (c6 c7 c8 c9 c10 c11 : Option V), σ = [some (.ref ta), some (.int ar), some (.int he), some (.int th), some (.ref dd), some (.ref l), c6, c7, c8, c9, c10, c11] ∧ Same H H' ∧ JRI H' dd l M Wt ws ∧ Dfs tb (ar, he) M Wt ∧ M.length = Wt.length + i)
      ⟨_, _, _, none, none, none, none, none, none, rfl, s1, J1, Dfs.start, rfl⟩ (fun _ _ _ _ _ => True.intro) ?_ ?_
    · rintro i x σ H2o H2 hi ⟨M, Wt, ws, c6, c7, c8, c9, c10, c11, rfl, s2, J2, D2, hlen⟩ ⟨rfl, rfl⟩
      refine ⟨_, rfl, (by show 0 ≤ sizeLine; decide), fun q hq => ?_⟩
      have s3 : Same H2 (upd H2 q (.lst [])) := same_new hq
      have hq3 : upd H2 q (.lst []) q = some (.lst []) := upd_same
      have J3 := J2.same s3
      have s03 := s2.trans s3
      generalize upd H2 q (.lst []) = H3 at s3 hq3 J3 s03
      refine ⟨.list (Wt.map prD), .list [], .lst (SqL.of J3.lst) (dp_pairs J3.ties), .lst (SqL.of hq3) .nil, prs_shaped Wt, by decide +kernel, _, rfl, ?_⟩
      rw [eqv_nil]
      cases hW : Wt with
      | nil =>
        subst hW
        refine iteT ?_
        -- behind the loop
        have hC := D2.clo
        refine ⟨_, rfl, dd, kvB M, rfl, .inl J3.dict, fun p bs hp hk => ?_⟩
        have hks := keys_ties hk
        have s4 : Same H3 (upd H3 p (.lst (bs.map V.ref))) := same_new hp
        have hp4 : upd H3 p (.lst (bs.map V.ref)) p = some (.lst (bs.map V.ref)) := upd_same
        have hks4 := hks.same s4
        generalize upd H3 p (.lst (bs.map V.ref)) = H4 at s4 hp4 hks4
        refine ⟨p, rfl, ⟨_, SqL.of hp4⟩, fun Dl hDl => ?_⟩
        have few := D2.few hT hin
        refine lc_fil (walk_list (xs := bs.map V.ref)) (fun i => (M.getD i (0, 0)).1 == th) (fun i => .int (M.getD i (0, 0)).2) hDl (by rw [List.length_map, hks.1]; exact small8 few) (fun H s => .inl (.inl (s _ _ hp4))) (fun i x H5 H6 kk k0 hi s5 y hy1 hy2 => ?_) (fun H5 s5 e => ?_)
        · obtain ⟨rfl, hx⟩ := y
          obtain ⟨bq, hbq, rfl⟩ := map_at hx
          obtain ⟨pp, hpp⟩ : ∃ pp, M[i]? = some pp := there (by rw [List.length_map, hks.1] at hi; exact hi)
          have hpD : M.getD i (0, 0) = pp := by rw [List.getD_eq_getElem?_getD, hpp]; rfl
          rw [hpD] at hy1 hy2
          refine ⟨bq, _, rfl, SqT.of (s5 _ _ (hks4.2 i bq pp hbq hpp)), rfl, _, _, rfl, _, _, rfl, rfl, rfl, ?_⟩
          refine ⟨_, rfl, _, rfl, rfl, _, rfl, ?_⟩
          by_cases c : pp.1 = th
          · exact itdT (by rw [c]) ⟨_, rfl, hy1 (by simp [c]) _ (Same.refl _)⟩
          · exact itdF (fun z => c (by injection z)) (hy2 (by simp [c]) _ (Same.refl _))
        · rw [List.length_map, hks.1, kept_list M (0, 0) (fun p => p.1 == th) (fun p => V.int p.2)] at e
          have e' : H5 Dl = some (.lst ((endsP M th).map V.int)) := by
            rw [e]
            unfold endsP
            rw [List.map_map]
            rfl
          have s05 := (s03.trans s4).trans s5
          refine ⟨_, rfl, Dl, _, rfl, .inl (SqL.of e'), rfl, _, rfl, ?_⟩
          rw [List.length_map]
          by_cases c : (endsP M th).length = 1
          · obtain ⟨z, hz1, hz2⟩ := oneOf_one c
            refine itdT (by rw [c]; rfl) ?_
            rw [hz1] at e'
            refine ⟨_, rfl, Dl, _, _, _, rfl, rfl, SqL.of e', at_of (j := 0) (v := .int z) rfl rfl, ?_⟩
            exact k H5 (some z) s05 ⟨M, hC, by rw [hz2]⟩
          · refine itdF (fun z => c (by injection z with z; omega)) ?_
            exact k H5 none s05 ⟨M, hC, (oneOf_not c).symm⟩
      | cons p0 W0 =>
        refine iteF ?_
        have hne : Wt.length ≠ 0 := by rw [hW]; simp
        obtain ⟨p, hp⟩ := there (l := Wt) (i := Wt.length - 1) (by omega)
        obtain ⟨bq, hbq⟩ := there (l := ws) (i := ws.length - 1) (by have := J2.ties.1; omega)
        have hbq3 := J3.ties.2 (ws.length - 1) bq p hbq (by rw [J2.ties.1]; exact hp)
        have I0 := D2.pop hp
        refine ⟨_, rfl, .inl ⟨rfl, _, SqL.of J3.lst⟩, l, _, .ref bq, rfl, rfl, J3.lst, by rw [List.length_map]; exact at_map hbq, ?_⟩
        rw [← List.map_dropLast]
        have ndl : dd ≠ l := ne_of J3.dict J3.lst (by intro z; cases z)
        have s4 : Same H (upd H3 l (.lst (ws.dropLast.map V.ref))) := same_put s03 hl00
        have J4 : JRI (upd H3 l (.lst (ws.dropLast.map V.ref))) dd l M Wt.dropLast ws.dropLast := by
          refine ⟨by rw [upd_ne ndl]; exact J3.dict, upd_same, by rw [List.length_dropLast, List.length_dropLast, J3.ties.1], fun j c r e1 e2 => ?_⟩
          have hj1 : ws[j]? = some c := by
            rw [List.getElem?_dropLast] at e1
            split at e1
            · exact e1
            · cases e1
          have hj2 : Wt[j]? = some r := by
            rw [List.getElem?_dropLast] at e2
            split at e2
            · exact e2
            · cases e2
          have z := J3.ties.2 j c r hj1 hj2
          rw [upd_ne (ne_of z J3.lst (by intro z; cases z))]
          exact z
        have hbq4 : upd H3 l (.lst (ws.dropLast.map V.ref)) bq = some (.tup (prV p)) := by rw [upd_ne (ne_of hbq3 J3.lst (by intro z; cases z))]; exact hbq3
        generalize upd H3 l (.lst (ws.dropLast.map V.ref)) = H4 at s4 J4 hbq4
        refine ⟨bq, _, rfl, SqT.of hbq4, rfl, _, _, rfl, _, _, rfl, rfl, ?_⟩
        refine ⟨_, rfl, ta, rfl, ⟨_, SqL.of (s4 _ _ hta)⟩, ?_⟩
        have hlenR : as.length = tb.length := hR.1
        have hcnt : M.length = Wt.dropLast.length + (i + 1) := by rw [List.length_dropLast]; omega
        refine for_it (walk_list (xs := as.map V.ref)) (fun j σ H' => ∃ (M' Wt' : List Pr) (ws' : List Addr) (c9 c10 : Option V), σ = [some (.ref ta), some (.int ar), some (.int he), some (.int th), some (.ref dd), some (.ref l), some (.int (0 + (i : Int))), some (.int p.1), some (.int p.2), c9, c10, c11] ∧ Same H H' ∧ JRI H' dd l M' Wt' ws' ∧ DfsI tb (ar, he) M' Wt' p j ∧ M'.length = Wt'.length + (i + 1))
          ⟨_, _, _, _, _, rfl, s4, J4, I0, hcnt⟩ (fun j σ H' _ h => by obtain ⟨_, _, _, _, _, _, s5, _⟩ := h; exact SqL.of (s5 _ _ hta)) ?_ ?_
        · rintro j x σ H5o H5 hj ⟨M', Wt', ws', c9', c10', rfl, s5, J5, I5, hc5⟩ ⟨rfl, hx⟩
          obtain ⟨tq, htq, rfl⟩ := map_at hx
          obtain ⟨r, hr'⟩ : ∃ r, tb[j]? = some r := there (by rw [List.length_map] at hj; omega)
          have hrow := s5 _ _ (hR.2 j tq r htq hr')
          have hm := List.mem_of_getElem? hr'
          have hpin := (I5.re p I5.cur).inS hT hin
          obtain ⟨ga, _⟩ := getD_in (hT.len r hm) hpin.1 hpin.2.1
          obtain ⟨gb, _⟩ := getD_in (hT.len r hm) hpin.2.2.1 hpin.2.2.2
          have few := I5.few hT hin
          refine ⟨_, rfl, _, rfl, tq, _, _, _, rfl, rfl, SqL.of hrow, at_of (j := p.1.toNat) (by have := hpin.1; omega) (at_map ga), ?_⟩
          refine ⟨_, rfl, _, rfl, tq, _, _, _, rfl, rfl, SqL.of hrow, at_of (j := p.2.toNat) (by have := hpin.2.2.1; omega) (at_map gb), (by show 2 ≤ sizeLine; decide), fun af haf => ?_⟩
          have s6 : Same H5 (upd H5 af (.tup [.int (r.getD p.1.toNat 0), .int (r.getD p.2.toNat 0)])) := same_new haf
          have haf6 : upd H5 af (.tup [.int (r.getD p.1.toNat 0), .int (r.getD p.2.toNat 0)]) af = some (.tup (prV (nxt r p))) := upd_same
          have J6 := J5.same s6
          have s06 := s5.trans s6
          generalize upd H5 af (.tup [.int (r.getD p.1.toNat 0), .int (r.getD p.2.toNat 0)]) = H6 at s6 haf6 J6 s06
          refine ⟨_, rfl, _, rfl, dd, _, rfl, DGet.t (k := keyP (nxt r p)) J6.dict haf6, _, rfl, ?_⟩
          by_cases hmem : nxt r p ∈ M'
          · cases hv : valV (kvB M') (keyP (nxt r p)) with
            | none => exact absurd hmem (kvB_none.mp hv)
            | some v => exact iteF ⟨M', Wt', ws', _, _, rfl, s06, J6, I5.old hr' hmem, hc5⟩
          · have hv := kvB_none.mpr hmem
            rw [hv]
            refine iteT ⟨_, rfl, _, rfl, dd, _, rfl, DPut.t (k := keyP (nxt r p)) J6.dict haf6 (by unfold kvB; rw [List.length_map]; exact small8 few), ?_⟩
            rw [putK_new _ hv]
            have hl7 : upd H6 dd (.dT (kvB M' ++ [(keyP (nxt r p), .bl true)])) l = some (.lst (ws'.map V.ref)) := by rw [upd_ne ndl.symm]; exact J6.lst
            refine ⟨_, rfl, .inl ⟨rfl, _, SqL.of hl7⟩, _, rfl, l, _, _, rfl, rfl, hl7, by rw [List.length_map, J6.ties.1]; exact small8 (m := 64) (by omega), ?_⟩
            have keep : ∀ (b : Addr) (xs : List V), H6 b = some (.tup xs) → upd (upd H6 dd (.dT (kvB M' ++ [(keyP (nxt r p), .bl true)]))) l (.lst (ws'.map V.ref ++ [.ref af])) b = some (.tup xs) := fun b xs hb => by
              rw [upd_ne (ne_of hb J6.lst (by intro z; cases z)), upd_ne (ne_of hb J6.dict (by intro z; cases z))]
              exact hb
            refine ⟨M' ++ [nxt r p], Wt' ++ [nxt r p], ws' ++ [af], _, _, rfl, same_put (same_put s06 hdd) hl00, ⟨?_, ?_, ?_⟩, I5.more hr' hmem, ?_⟩
            · rw [upd_ne ndl, upd_same]
              unfold kvB
              rw [List.map_append]
              rfl
            · rw [upd_same, List.map_append]
              rfl
            · exact TiesL.snoc ⟨J6.ties.1, fun j c r e1 e2 => keep _ _ (J6.ties.2 j c r e1 e2)⟩ (keep _ _ haf6)
            · rw [List.length_append, List.length_append, hc5]
              simp
              omega
        · rintro σ H5 ⟨M', Wt', ws', c9', c10', rfl, s5, J5, I5, hc5⟩
          rw [List.length_map, hlenR] at I5
          exact ⟨M', Wt', ws', _, _, _, _, _, _, rfl, s5, J5, I5.fin, hc5⟩
    · rintro σ H2 ⟨M, Wt, ws, c6, c7, c8, c9, c10, c11, rfl, s2, J2, D2, hlen⟩
      have few := D2.few hT hin
      exact absurd hlen (by omega)
end
end Hl
set_option Elab.async false
set_option linter.all false
set_option maxRecDepth 100000
set_option maxHeartbeats 8000000
namespace Hl
open PySem PySem.Spec PyProof.Rows L2
/-! ### the law's own net: a dict of lists -/
abbrev sk (x : Str) : Key := Sum.inr x
def netK (st ar sp bk ca co ti go : V) : List (Key × V) := [(sk "states", st), (sk "archives", ar), (sk "steps", sp), (sk "backup", bk), (sk "caught", ca), (sk "copies", co), (sk "tied", ti), (sk "going", go)]
section
variable {st ar sp bk ca co ti go x : V}
theorem nk_st : valV (netK st ar sp bk ca co ti go) (sk "states") = some st := rfl
theorem nk_ar : valV (netK st ar sp bk ca co ti go) (sk "archives") = some ar := rfl
theorem nk_sp : valV (netK st ar sp bk ca co ti go) (sk "steps") = some sp := rfl
theorem nk_bk : valV (netK st ar sp bk ca co ti go) (sk "backup") = some bk := rfl
theorem nk_ca : valV (netK st ar sp bk ca co ti go) (sk "caught") = some ca := rfl
theorem nk_co : valV (netK st ar sp bk ca co ti go) (sk "copies") = some co := rfl
theorem nk_ti : valV (netK st ar sp bk ca co ti go) (sk "tied") = some ti := rfl
theorem nk_go : valV (netK st ar sp bk ca co ti go) (sk "going") = some go := rfl
theorem pk_st : putK (netK st ar sp bk ca co ti go) (sk "states") x = netK x ar sp bk ca co ti go := rfl
theorem pk_ar : putK (netK st ar sp bk ca co ti go) (sk "archives") x = netK st x sp bk ca co ti go := rfl
theorem pk_sp : putK (netK st ar sp bk ca co ti go) (sk "steps") x = netK st ar x bk ca co ti go := rfl
theorem pk_bk : putK (netK st ar sp bk ca co ti go) (sk "backup") x = netK st ar sp x ca co ti go := rfl
theorem pk_ca : putK (netK st ar sp bk ca co ti go) (sk "caught") x = netK st ar sp bk x co ti go := rfl
theorem pk_co : putK (netK st ar sp bk ca co ti go) (sk "copies") x = netK st ar sp bk ca x ti go := rfl
theorem pk_ti : putK (netK st ar sp bk ca co ti go) (sk "tied") x = netK st ar sp bk ca co x go := rfl
theorem pk_go : putK (netK st ar sp bk ca co ti go) (sk "going") x = netK st ar sp bk ca co ti x := rfl
end
structure Ft where
  d : Addr
  ls : Addr
  la : Addr
  lp : Addr
  lc : Addr
  lt : Addr
  lg : Addr
def Ft.list (f : Ft) : List Addr := [f.d, f.ls, f.la, f.lp, f.lc, f.lt, f.lg]
def StpL (H : Hp) (l : Addr) (s : List Stp) : Prop := ∃ as : List Addr, H l = some (.lst (as.map V.ref)) ∧ StpsAt H as s
/-- what the law keeps of the ties' archives -/
def TiRel (tv : List V) (n : Net) (ps : List Pr) : Prop := tv.length = ps.length ∧ ∀ (t : Nat) (p : Pr), ps[t]? = some p → noCopy n.co p.1 = false → noCopy n.co p.2 = false → tv[t]? = some (.int (n.ti.getD t 0))
/-- all but the footprint is as it was -/
def Fo (f : Ft) (H H' : Hp) : Prop := ∀ b o, H b = some o → b ∉ f.list → H' b = some o
/-- the new footprint is old or new -/
def FtN (f f' : Ft) (H : Hp) : Prop := ∀ b ∈ f'.list, b ∈ f.list ∨ H b = none
def spLEnded : Sp := fun vs H Q _ => ∃ (d ls la lp : Addr) (kvs : List (Key × V)) (xs ys zs : List V), vs = [.ref d] ∧ H d = some (.dK kvs) ∧ kvs.length ≤ 900 ∧ valV kvs (sk "states") = some (.ref ls) ∧ valV kvs (sk "archives") = some (.ref la) ∧ valV kvs (sk "steps") = some (.ref lp) ∧
  H ls = some (.lst xs) ∧ H la = some (.lst ys) ∧ H lp = some (.lst zs) ∧ xs.length ≤ 100 ∧ ys.length ≤ 100 ∧ zs.length ≤ 1000 ∧
  ∀ (H' : Hp) (c t g : Addr), H c = none → H t = none → H g = none → c ≠ t → c ≠ g → t ≠ g → H' d = some (.dK (putK (putK (putK kvs (sk "copies") (.ref c)) (sk "tied") (.ref t)) (sk "going") (.ref g))) →
    H' c = some (.lst (List.replicate xs.length .non)) → H' t = some (.lst (List.replicate ys.length .non)) → H' g = some (.lst zs) → But d H H' → Q .non H'
theorem val_ne {kvs : List (Key × V)} {x y : Str} {v : V} (h : ¬ x = y) : valV (putK kvs (sk y) v) (sk x) = valV kvs (sk x) := by
  rw [valV_put, if_neg (fun z => h (by injection z))]
section
variable {P : Program} {w : World} {K : PySem.W.Frag} {mg : Str → Option Value} {base : Heap} {a : Ad} {d : Fd}
theorem ok_LEnded (T : Txt P w K mg a d) : FnOk P w K mg base CX0 1 a.fLEnded d.fLEnded pLEnded spLEnded := by
  refine T.FLEnded.ok scLEnded (fun vs H Q E h => ?_) (fun cdv A outer s H vs Q E hr h => ?_)
  · obtain ⟨dd, ls, la, lp, kvs, xs, ys, zs, rfl, _⟩ := h
    rfl
  · obtain ⟨dd, ls, la, lp, kvs, xs, ys, zs, rfl, hd, hk, v1, v2, v3, h1, h2, h3, z1, z2, z3, k⟩ := h
    have hu := hu_of hr
    refine ⟨_, pss_cons (ps_dput hu (pv 0) pe_str (pe_op op_rep (pe_lst (pa_cons pe_non pa_nil)) (pe_callB call_len_seq (by rfl) T.b_len boot_len (pa_cons (pe_dget hu (pv 0) pe_str (fun _ _ => rfl)) pa_nil))) rfl)
      (pss_cons (ps_dput hu (pv 0) pe_str (pe_op op_rep (pe_lst (pa_cons pe_non pa_nil)) (pe_callB call_len_seq (by rfl) T.b_len boot_len (pa_cons (pe_dget hu (pv 0) pe_str (fun _ _ => rfl)) pa_nil))) rfl)
      (pss_one (ps_dput hu (pv 0) pe_str (pe_callTy call_list_of (by rfl) T.b_list boot_list (pa_cons (pe_dget hu (pv 0) pe_str (fun _ _ => rfl)) pa_nil)) rfl))), ?_⟩
    refine ⟨(by show 1 ≤ sizeLine; decide), fun q1 hq1 => ?_⟩
    have s1 : Same H (upd H q1 (.lst [.non])) := same_new hq1
    refine ⟨_, rfl, dd, _, rfl, (by rw [← v1]; exact DGet.k (k := sk "states") (s1 _ _ hd)), ls, _, rfl, .inl (SqL.of (s1 _ _ h1)), ?_⟩
    refine ⟨q1, _, _, rfl, rfl, upd_same, by omega, by omega, ?_, fun c hc => ?_⟩
    · rw [Int.toNat_natCast, sizeLine_eq]
      show 1 * xs.length ≤ _
      omega
    rw [Int.toNat_natCast, flat_one]
    have hc0 := s1.free hc
    have s2 : Same H (upd (upd H q1 (.lst [.non])) c (.lst (List.replicate xs.length .non))) := same_put s1 hc0
    have hc2 : upd (upd H q1 (.lst [.non])) c (.lst (List.replicate xs.length .non)) c = some (.lst (List.replicate xs.length .non)) := upd_same
    generalize upd (upd H q1 (.lst [.non])) c (.lst (List.replicate xs.length .non)) = H2 at s2 hc2
    refine ⟨_, rfl, dd, _, rfl, DPut.k (k := sk "copies") (s2 _ _ hd) (small1000 (by omega)), ?_⟩
    have ncd : c ≠ dd := ne_of hc2 (s2 _ _ hd) (by intro z; cases z)
    have b3 : But dd H (upd H2 dd (.dK (putK kvs (sk "copies") (.ref c)))) := (But.of s2).put
    have hd3 : upd H2 dd (.dK (putK kvs (sk "copies") (.ref c))) dd = some (.dK (putK kvs (sk "copies") (.ref c))) := upd_same
    have hc3 : upd H2 dd (.dK (putK kvs (sk "copies") (.ref c))) c = some (.lst (List.replicate xs.length .non)) := by rw [upd_ne ncd]; exact hc2
    generalize upd H2 dd (.dK (putK kvs (sk "copies") (.ref c))) = H3 at b3 hd3 hc3
    have nl : ∀ (q : Addr) (xs : List V), H q = some (.lst xs) → q ≠ dd := fun q xs e => ne_of e hd (by intro z; cases z)
    have l1 := length_putK kvs (sk "copies") (.ref c)
    -- tied
    refine ⟨(by show 1 ≤ sizeLine; decide), fun q4 hq4 => ?_⟩
    have s4 : Same H3 (upd H3 q4 (.lst [.non])) := same_new hq4
    refine ⟨_, rfl, dd, _, rfl, (by rw [← v2, ← val_ne (kvs := kvs) (y := "copies") (v := .ref c) (by decide +kernel)]; exact DGet.k (k := sk "archives") (s4 _ _ hd3)), la, _, rfl, .inl (SqL.of (s4 _ _ (b3 _ _ h2 (nl _ _ h2)))), ?_⟩
    refine ⟨q4, _, _, rfl, rfl, upd_same, by omega, by omega, ?_, fun t ht => ?_⟩
    · rw [Int.toNat_natCast, sizeLine_eq]
      show 1 * ys.length ≤ _
      omega
    rw [Int.toNat_natCast, flat_one]
    have ht3 := s4.free ht
    have ndt : t ≠ dd := fun z => by rw [z, hd3] at ht3; cases ht3
    have nct : c ≠ t := fun z => by rw [← z, hc3] at ht3; cases ht3
    have ht0 : H t = none := by
      cases e : H t with
      | none => rfl
      | some o => rw [b3 _ _ e ndt] at ht3; cases ht3
    have s5 : Same H3 (upd (upd H3 q4 (.lst [.non])) t (.lst (List.replicate ys.length .non))) := same_put s4 ht3
    have ht5 : upd (upd H3 q4 (.lst [.non])) t (.lst (List.replicate ys.length .non)) t = some (.lst (List.replicate ys.length .non)) := upd_same
    generalize upd (upd H3 q4 (.lst [.non])) t (.lst (List.replicate ys.length .non)) = H5 at s5 ht5
    refine ⟨_, rfl, dd, _, rfl, DPut.k (k := sk "tied") (s5 _ _ hd3) (small1000 (by omega)), ?_⟩
    have b6 : But dd H (upd H5 dd (.dK (putK (putK kvs (sk "copies") (.ref c)) (sk "tied") (.ref t)))) := (b3.trans (But.of s5)).put
    have hd6 : upd H5 dd (.dK (putK (putK kvs (sk "copies") (.ref c)) (sk "tied") (.ref t))) dd = some (.dK (putK (putK kvs (sk "copies") (.ref c)) (sk "tied") (.ref t))) := upd_same
    have hc6 : upd H5 dd (.dK (putK (putK kvs (sk "copies") (.ref c)) (sk "tied") (.ref t))) c = some (.lst (List.replicate xs.length .non)) := by rw [upd_ne ncd]; exact s5 _ _ hc3
    have ht6 : upd H5 dd (.dK (putK (putK kvs (sk "copies") (.ref c)) (sk "tied") (.ref t))) t = some (.lst (List.replicate ys.length .non)) := by rw [upd_ne ndt]; exact ht5
    generalize upd H5 dd (.dK (putK (putK kvs (sk "copies") (.ref c)) (sk "tied") (.ref t))) = H6 at b6 hd6 hc6 ht6
    have l2 := length_putK (putK kvs (sk "copies") (.ref c)) (sk "tied") (.ref t)
    -- going
    refine ⟨_, rfl, dd, _, rfl, (by rw [← v3, ← val_ne (kvs := kvs) (y := "copies") (v := .ref c) (by decide +kernel), ← val_ne (kvs := putK kvs (sk "copies") (.ref c)) (y := "tied") (v := .ref t) (by decide +kernel)]; exact DGet.k (k := sk "steps") hd6), lp, zs, rfl, .inl (SqL.of (b6 _ _ h3 (nl _ _ h3))), fun g hg => ?_⟩
    have ndg : g ≠ dd := fun z => by rw [z, hd6] at hg; cases hg
    have ncg : c ≠ g := fun z => by rw [← z, hc6] at hg; cases hg
    have ntg : t ≠ g := fun z => by rw [← z, ht6] at hg; cases hg
    have hg0 : H g = none := by
      cases e : H g with
      | none => rfl
      | some o => rw [b6 _ _ e ndg] at hg; cases hg
    have s7 : Same H6 (upd H6 g (.lst zs)) := same_new hg
    refine ⟨_, rfl, dd, _, rfl, DPut.k (k := sk "going") (s7 _ _ hd6) (small1000 (by omega)), ?_⟩
    refine k _ c t g hc0 ht0 hg0 nct ncg ntg upd_same ?_ ?_ ?_ ((b6.trans (But.of s7)).put)
    · rw [upd_ne ncd]; exact s7 _ _ hc6
    · rw [upd_ne ndt]; exact s7 _ _ ht6
    · rw [upd_ne ndg, upd_same]
end
end Hl
set_option Elab.async false
set_option linter.all false
set_option maxRecDepth 100000
set_option maxHeartbeats 8000000
namespace Hl
open PySem PySem.Spec PyProof.Rows L2
/-- the objects of the law's net -/
structure Raw (H : Hp) (f : Ft) (st ar : List V) (sa ga : List Addr) (bk ca : V) (co tv : List V) : Prop where
  d : H f.d = some (.dK (netK (.ref f.ls) (.ref f.la) (.ref f.lp) bk ca (.ref f.lc) (.ref f.lt) (.ref f.lg)))
  ls : H f.ls = some (.lst st)
  la : H f.la = some (.lst ar)
  lp : H f.lp = some (.lst (sa.map V.ref))
  lc : H f.lc = some (.lst co)
  lt : H f.lt = some (.lst tv)
  lg : H f.lg = some (.lst (ga.map V.ref))
  nd : f.list.Nodup
structure Nds (f : Ft) : Prop where
  a : f.d ≠ f.ls ∧ f.d ≠ f.la ∧ f.d ≠ f.lp ∧ f.d ≠ f.lc ∧ f.d ≠ f.lt ∧ f.d ≠ f.lg
  b : f.ls ≠ f.la ∧ f.ls ≠ f.lp ∧ f.ls ≠ f.lc ∧ f.ls ≠ f.lt ∧ f.ls ≠ f.lg
  c : f.la ≠ f.lp ∧ f.la ≠ f.lc ∧ f.la ≠ f.lt ∧ f.la ≠ f.lg
  e : f.lp ≠ f.lc ∧ f.lp ≠ f.lt ∧ f.lp ≠ f.lg
  g : f.lc ≠ f.lt ∧ f.lc ≠ f.lg ∧ f.lt ≠ f.lg
theorem nds {f : Ft} : f.list.Nodup ↔ Nds f := by
  unfold Ft.list
  constructor
  · intro h
    simp only [List.nodup_cons, List.mem_cons, not_or, List.not_mem_nil, not_false_eq_true, List.nodup_nil, and_true] at h
    obtain ⟨⟨a1, a2, a3, a4, a5, a6⟩, ⟨b1, b2, b3, b4, b5⟩, ⟨c1, c2, c3, c4⟩, ⟨d1, d2, d3⟩, ⟨e1, e2⟩, e3⟩ := h
    exact ⟨⟨a1, a2, a3, a4, a5, a6⟩, ⟨b1, b2, b3, b4, b5⟩, ⟨c1, c2, c3, c4⟩, ⟨d1, d2, d3⟩, ⟨e1, e2, e3⟩⟩
  · intro ⟨⟨a1, a2, a3, a4, a5, a6⟩, ⟨b1, b2, b3, b4, b5⟩, ⟨c1, c2, c3, c4⟩, ⟨d1, d2, d3⟩, ⟨e1, e2, e3⟩⟩
    simp only [List.nodup_cons, List.mem_cons, not_or, List.not_mem_nil, not_false_eq_true, List.nodup_nil, and_true]
    exact ⟨⟨a1, a2, a3, a4, a5, a6⟩, ⟨b1, b2, b3, b4, b5⟩, ⟨c1, c2, c3, c4⟩, ⟨d1, d2, d3⟩, ⟨e1, e2⟩, e3⟩
section
variable {H H' : Hp} {f : Ft} {st ar co tv xs : List V} {sa ga as : List Addr} {bk ca v : V}
theorem Raw.mem (h : Raw H f st ar sa ga bk ca co tv) {b : Addr} (hb : b ∈ f.list) : ∃ o, H b = some o ∧ ∀ xs, o ≠ .tup xs := by
  unfold Ft.list at hb
  simp only [List.mem_cons, List.not_mem_nil, or_false] at hb
  rcases hb with rfl | rfl | rfl | rfl | rfl | rfl | rfl
  · exact ⟨_, h.d, fun _ z => by cases z⟩
  · exact ⟨_, h.ls, fun _ z => by cases z⟩
  · exact ⟨_, h.la, fun _ z => by cases z⟩
  · exact ⟨_, h.lp, fun _ z => by cases z⟩
  · exact ⟨_, h.lc, fun _ z => by cases z⟩
  · exact ⟨_, h.lt, fun _ z => by cases z⟩
  · exact ⟨_, h.lg, fun _ z => by cases z⟩
theorem Raw.keep (h : Raw H f st ar sa ga bk ca co tv) (k : ∀ b ∈ f.list, ∀ o, H b = some o → H' b = some o) : Raw H' f st ar sa ga bk ca co tv := by
  refine ⟨k _ ?_ _ h.d, k _ ?_ _ h.ls, k _ ?_ _ h.la, k _ ?_ _ h.lp, k _ ?_ _ h.lc, k _ ?_ _ h.lt, k _ ?_ _ h.lg, h.nd⟩ <;> (unfold Ft.list; simp)
theorem Raw.same (h : Raw H f st ar sa ga bk ca co tv) (s : Same H H') : Raw H' f st ar sa ga bk ca co tv := h.keep fun b _ o e => s b o e
theorem Raw.set_st (h : Raw H f st ar sa ga bk ca co tv) : Raw (upd H f.ls (.lst xs)) f xs ar sa ga bk ca co tv := by
  have n := nds.mp h.nd
  exact ⟨by rw [upd_ne n.a.1]; exact h.d, upd_same, by rw [upd_ne n.b.1.symm]; exact h.la, by rw [upd_ne n.b.2.1.symm]; exact h.lp, by rw [upd_ne n.b.2.2.1.symm]; exact h.lc, by rw [upd_ne n.b.2.2.2.1.symm]; exact h.lt, by rw [upd_ne n.b.2.2.2.2.symm]; exact h.lg, h.nd⟩
theorem Raw.set_ar (h : Raw H f st ar sa ga bk ca co tv) : Raw (upd H f.la (.lst xs)) f st xs sa ga bk ca co tv := by
  have n := nds.mp h.nd
  exact ⟨by rw [upd_ne n.a.2.1]; exact h.d, by rw [upd_ne n.b.1]; exact h.ls, upd_same, by rw [upd_ne n.c.1.symm]; exact h.lp, by rw [upd_ne n.c.2.1.symm]; exact h.lc, by rw [upd_ne n.c.2.2.1.symm]; exact h.lt, by rw [upd_ne n.c.2.2.2.symm]; exact h.lg, h.nd⟩
theorem Raw.set_sp (h : Raw H f st ar sa ga bk ca co tv) : Raw (upd H f.lp (.lst (as.map V.ref))) f st ar as ga bk ca co tv := by
  have n := nds.mp h.nd
  exact ⟨by rw [upd_ne n.a.2.2.1]; exact h.d, by rw [upd_ne n.b.2.1]; exact h.ls, by rw [upd_ne n.c.1]; exact h.la, upd_same, by rw [upd_ne n.e.1.symm]; exact h.lc, by rw [upd_ne n.e.2.1.symm]; exact h.lt, by rw [upd_ne n.e.2.2.symm]; exact h.lg, h.nd⟩
theorem Raw.set_co (h : Raw H f st ar sa ga bk ca co tv) : Raw (upd H f.lc (.lst xs)) f st ar sa ga bk ca xs tv := by
  have n := nds.mp h.nd
  exact ⟨by rw [upd_ne n.a.2.2.2.1]; exact h.d, by rw [upd_ne n.b.2.2.1]; exact h.ls, by rw [upd_ne n.c.2.1]; exact h.la, by rw [upd_ne n.e.1]; exact h.lp, upd_same, by rw [upd_ne n.g.1.symm]; exact h.lt, by rw [upd_ne n.g.2.1.symm]; exact h.lg, h.nd⟩
theorem Raw.set_tv (h : Raw H f st ar sa ga bk ca co tv) : Raw (upd H f.lt (.lst xs)) f st ar sa ga bk ca co xs := by
  have n := nds.mp h.nd
  exact ⟨by rw [upd_ne n.a.2.2.2.2.1]; exact h.d, by rw [upd_ne n.b.2.2.2.1]; exact h.ls, by rw [upd_ne n.c.2.2.1]; exact h.la, by rw [upd_ne n.e.2.1]; exact h.lp, by rw [upd_ne n.g.1]; exact h.lc, upd_same, by rw [upd_ne n.g.2.2.symm]; exact h.lg, h.nd⟩
theorem Raw.set_go (h : Raw H f st ar sa ga bk ca co tv) : Raw (upd H f.lg (.lst (as.map V.ref))) f st ar sa as bk ca co tv := by
  have n := nds.mp h.nd
  exact ⟨by rw [upd_ne n.a.2.2.2.2.2]; exact h.d, by rw [upd_ne n.b.2.2.2.2]; exact h.ls, by rw [upd_ne n.c.2.2.2]; exact h.la, by rw [upd_ne n.e.2.2]; exact h.lp, by rw [upd_ne n.g.2.1]; exact h.lc, by rw [upd_ne n.g.2.2]; exact h.lt, upd_same, h.nd⟩
theorem Raw.set_d {bk' ca' : V} (h : Raw H f st ar sa ga bk ca co tv) : Raw (upd H f.d (.dK (netK (.ref f.ls) (.ref f.la) (.ref f.lp) bk' ca' (.ref f.lc) (.ref f.lt) (.ref f.lg)))) f st ar sa ga bk' ca' co tv := by
  have n := nds.mp h.nd
  exact ⟨upd_same, by rw [upd_ne n.a.1.symm]; exact h.ls, by rw [upd_ne n.a.2.1.symm]; exact h.la, by rw [upd_ne n.a.2.2.1.symm]; exact h.lp, by rw [upd_ne n.a.2.2.2.1.symm]; exact h.lc, by rw [upd_ne n.a.2.2.2.2.1.symm]; exact h.lt, by rw [upd_ne n.a.2.2.2.2.2.symm]; exact h.lg, h.nd⟩
theorem Fo.refl : Fo f H H := fun _ _ e _ => e
theorem Fo.trans {H1 H2 : Hp} (x : Fo f H H1) (y : Fo f H1 H2) : Fo f H H2 := fun b o e n => y _ _ (x _ _ e n) n
theorem Fo.of (s : Same H H') : Fo f H H' := fun b o e _ => s b o e
theorem Fo.put {p : Addr} {o : HO} (x : Fo f H H') (hp : p ∈ f.list) : Fo f H (upd H' p o) := fun b o e n => by
  rw [upd_ne (fun z => n (by rw [z]; exact hp))]
  exact x b o e n
theorem Fo.new {p : Addr} {o : HO} (x : Fo f H H') (hp : H' p = none) : Fo f H (upd H' p o) := x.trans (.of (same_new hp))
theorem Fo.tup (x : Fo f H H') (h : Raw H f st ar sa ga bk ca co tv) : TupK H H' := fun b xs e => x b _ e fun hb => by
  obtain ⟨o, ho, k⟩ := h.mem hb
  rw [e] at ho
  exact k xs (Option.some.inj ho).symm
theorem ft_d : f.d ∈ f.list := by unfold Ft.list; simp
theorem ft_s : f.ls ∈ f.list := by unfold Ft.list; simp
theorem ft_a : f.la ∈ f.list := by unfold Ft.list; simp
theorem ft_p : f.lp ∈ f.list := by unfold Ft.list; simp
theorem ft_c : f.lc ∈ f.list := by unfold Ft.list; simp
theorem ft_t : f.lt ∈ f.list := by unfold Ft.list; simp
theorem ft_g : f.lg ∈ f.list := by unfold Ft.list; simp
theorem Raw.ended (h : Raw H f st ar sa ga bk ca co tv) {c t g : Addr} (hc : H c = none) (ht : H t = none) (hg : H g = none) (ct : c ≠ t) (cg : c ≠ g) (tg : t ≠ g)
    (e1 : H' f.d = some (.dK (putK (putK (putK (netK (.ref f.ls) (.ref f.la) (.ref f.lp) bk ca (.ref f.lc) (.ref f.lt) (.ref f.lg)) (sk "copies") (.ref c)) (sk "tied") (.ref t)) (sk "going") (.ref g))))
    (e2 : H' c = some (.lst (List.replicate st.length .non))) (e3 : H' t = some (.lst (List.replicate ar.length .non))) (e4 : H' g = some (.lst (sa.map V.ref))) (b : But f.d H H') :
    Raw H' ⟨f.d, f.ls, f.la, f.lp, c, t, g⟩ st ar sa sa bk ca (List.replicate st.length .non) (List.replicate ar.length .non) ∧ Fo f H H' ∧ FtN f ⟨f.d, f.ls, f.la, f.lp, c, t, g⟩ H := by
  have n := nds.mp h.nd
  rw [pk_co, pk_ti, pk_go] at e1
  have ne : ∀ {q p : Addr} {o : HO}, H q = none → H p = some o → p ≠ q := fun a b z => by rw [z, a] at b; cases b
  refine ⟨⟨e1, b _ _ h.ls n.a.1.symm, b _ _ h.la n.a.2.1.symm, b _ _ h.lp n.a.2.2.1.symm, e2, e3, e4, nds.mpr ⟨⟨n.a.1, n.a.2.1, n.a.2.2.1, ne hc h.d, ne ht h.d, ne hg h.d⟩, ⟨n.b.1, n.b.2.1, ne hc h.ls, ne ht h.ls, ne hg h.ls⟩, ⟨n.c.1, ne hc h.la, ne ht h.la, ne hg h.la⟩, ⟨ne hc h.lp, ne ht h.lp, ne hg h.lp⟩, ct, cg, tg⟩⟩, fun p o e hp => b p o e fun z => hp (z ▸ ft_d), fun p hp => ?_⟩
  unfold Ft.list at hp
  simp only [List.mem_cons, List.not_mem_nil, or_false] at hp
  rcases hp with rfl | rfl | rfl | rfl | rfl | rfl | rfl
  · exact .inl ft_d
  · exact .inl ft_s
  · exact .inl ft_a
  · exact .inl ft_p
  · exact .inr hc
  · exact .inr ht
  · exact .inr hg
end
structure NetD (H : Hp) (f : Ft) (n : Net) (ps : List Pr) : Prop where
  at_ : ∃ (sa ga : List Addr) (bk ca : V) (tv : List V), Raw H f (n.st.map V.int) (n.ar.map V.int) sa ga bk ca (n.co.map oV) tv ∧ StpsAt H sa n.sp ∧ StpsAt H ga n.go ∧ BkT H bk ca n.bk ∧ TiRel tv n ps
theorem NetD.keep {H H' : Hp} {f : Ft} {n : Net} {ps : List Pr} (h : NetD H f n ps) (t : TupK H H') (k : ∀ b ∈ f.list, ∀ o, H b = some o → H' b = some o) : NetD H' f n ps := by
  obtain ⟨sa, ga, bk, ca, tv, r, x, y, z, ti⟩ := h
  exact ⟨sa, ga, bk, ca, tv, r.keep k, x.keep t, y.keep t, z.keep t, ti⟩
theorem NetD.same {H H' : Hp} {f : Ft} {n : Net} {ps : List Pr} (h : NetD H f n ps) (s : Same H H') : NetD H' f n ps := h.keep (.of s) fun b _ o e => s b o e
theorem NetD.but {H H' : Hp} {f : Ft} {n : Net} {ps : List Pr} {q : Addr} {o : HO} (h : NetD H f n ps) (b : But q H H') (hq : H q = some o) (ht : ∀ xs, o ≠ .tup xs) (nq : q ∉ f.list) : NetD H' f n ps :=
  h.keep (fun p xs e => b p _ e fun z => by rw [z, hq] at e; exact ht xs (Option.some.inj e)) fun p hp o e => b p o e fun z => nq (z ▸ hp)
theorem StpsAt.snoc {H : Hp} {as : List Addr} {l : List Stp} {q : Addr} {x : Stp} (h : StpsAt H as l) (hq : H q = some (.tup (stpV x))) : StpsAt H (as ++ [q]) (l ++ [x]) := by
  refine ⟨by rw [List.length_append, List.length_append, h.1]; rfl, fun j b x' e1 e2 => ?_⟩
  by_cases hj : j < as.length
  · rw [List.getElem?_append_left hj] at e1
    rw [List.getElem?_append_left (by rw [← h.1]; exact hj)] at e2
    exact h.2 j b x' e1 e2
  · have hj2 : j = as.length := by
      have z := (List.getElem?_eq_some_iff.mp e1).1
      rw [List.length_append] at z
      simp at z
      omega
    subst hj2
    rw [List.getElem?_append_right (Nat.le_refl _)] at e1
    rw [h.1, List.getElem?_append_right (Nat.le_refl _)] at e2
    simp at e1 e2
    rw [← e1, ← e2]
    exact hq
theorem map_ref_inj {as bs : List Addr} (h : as.map V.ref = bs.map V.ref) : as = bs := by
  have z := congrArg (List.map fun v => match v with | V.ref q => q | _ => 0) h
  simp only [List.map_map] at z
  rw [show ((fun v : V => match v with | V.ref q => q | _ => 0) ∘ V.ref) = id from rfl, List.map_id, List.map_id] at z
  exact z
/-! ### what a reading ties -/
theorem fold_ti (ps : List Pr) (co : List (Option Int)) (ar : List Int) (h : Int) : ∀ (l : List Nat) (ti : List Int), (∀ t ∈ l, t < ti.length) →
    (l.foldl (tiStep ps co ar h) ti).length = ti.length ∧ ∀ t, t < ti.length → (l.foldl (tiStep ps co ar h) ti).getD t 0 = if t ∈ l ∧ noCopy co (otherEnd (ps.getD t (0, 0)) h) = false then ar.getD t 0 else ti.getD t 0
  | [], ti, _ => ⟨rfl, fun t _ => by simp⟩
  | u :: l, ti, hl => by
    have hs : (tiStep ps co ar h ti u).length = ti.length := by
      unfold tiStep
      by_cases c : noCopy co (otherEnd (ps.getD u (0, 0)) h) = true
      · rw [if_pos c]
      · rw [if_neg c, List.length_set]
    obtain ⟨a, b⟩ := fold_ti ps co ar h l (tiStep ps co ar h ti u) (fun t ht => by rw [hs]; exact hl t (List.mem_cons_of_mem _ ht))
    refine ⟨by rw [List.foldl_cons, a, hs], fun t ht => ?_⟩
    rw [List.foldl_cons, b t (by rw [hs]; exact ht)]
    by_cases c : noCopy co (otherEnd (ps.getD t (0, 0)) h) = false
    · by_cases m : t ∈ l
      · rw [if_pos ⟨m, c⟩, if_pos ⟨List.mem_cons_of_mem _ m, c⟩]
      · rw [if_neg (fun z => m z.1)]
        unfold tiStep
        by_cases e : t = u
        · subst e
          have c3 : ¬ noCopy co (otherEnd (ps.getD t (0, 0)) h) = true := by rw [c]; simp
          have c4 : t ∈ t :: l ∧ noCopy co (otherEnd (ps.getD t (0, 0)) h) = false := ⟨List.mem_cons_self, c⟩
          rw [if_pos c4, if_neg c3, List.getD_eq_getElem?_getD, List.getElem?_set_self ht]
          rfl
        · have c5 : ¬ (t ∈ u :: l ∧ noCopy co (otherEnd (ps.getD t (0, 0)) h) = false) := fun z => by
            rcases List.mem_cons.mp z.1 with z | z
            · exact e z
            · exact m z
          rw [if_neg c5]
          by_cases c2 : noCopy co (otherEnd (ps.getD u (0, 0)) h) = true
          · rw [if_pos c2]
          · rw [if_neg c2, List.getD_eq_getElem?_getD, List.getElem?_set_ne (Ne.symm e), ← List.getD_eq_getElem?_getD]
    · rw [if_neg (fun z => c z.2), if_neg (fun z => c z.2)]
      unfold tiStep
      by_cases e : t = u
      · subst e
        rw [if_pos (by simpa using c)]
      · by_cases c2 : noCopy co (otherEnd (ps.getD u (0, 0)) h) = true
        · rw [if_pos c2]
        · rw [if_neg c2, List.getD_eq_getElem?_getD, List.getElem?_set_ne (Ne.symm e), ← List.getD_eq_getElem?_getD]
theorem noCopy_set_self {co : List (Option Int)} {h x : Int} (h0 : 0 ≤ h) (h1 : h < (co.length : Int)) : noCopy (co.set h.toNat (some x)) h = false := by
  unfold noCopy
  rw [List.getD_eq_getElem?_getD, List.getElem?_set_self (by omega)]
  rfl
theorem noCopy_set_ne {co : List (Option Int)} {h g x : Int} (h0 : 0 ≤ h) (g0 : 0 ≤ g) (n : g ≠ h) : noCopy (co.set h.toNat (some x)) g = noCopy co g := by
  unfold noCopy
  rw [List.getD_eq_getElem?_getD, List.getElem?_set_ne (by omega), ← List.getD_eq_getElem?_getD]
/-- the law's turn over the ties -/
def tvTake (ps : List Pr) (co : List (Option Int)) (ar : List Int) (h : Int) (t : Nat) : Bool := endOf ps h t && !(noCopy co (ps.getD t (0, 0)).1) && !(noCopy co (ps.getD t (0, 0)).2)
def tvStep (ps : List Pr) (co : List (Option Int)) (ar : List Int) (h : Int) (tv : List V) (t : Nat) : List V := if tvTake ps co ar h t = true then tv.set t (.int (ar.getD t 0)) else tv
theorem tv_loop (ps : List Pr) (co : List (Option Int)) (ar : List Int) (h : Int) (tv : List V) : ∀ n : Nat, ((List.range n).foldl (tvStep ps co ar h) tv).length = tv.length ∧ ∀ t, t < tv.length → ((List.range n).foldl (tvStep ps co ar h) tv)[t]? = if t < n ∧ tvTake ps co ar h t = true then some (.int (ar.getD t 0)) else tv[t]?
  | 0 => ⟨rfl, fun t _ => by simp⟩
  | n + 1 => by
    obtain ⟨a, b⟩ := tv_loop ps co ar h tv n
    rw [List.range_succ, List.foldl_append]
    show (tvStep ps co ar h _ n).length = _ ∧ ∀ t, _ → (tvStep ps co ar h _ n)[t]? = _
    unfold tvStep at a b ⊢
    by_cases c : tvTake ps co ar h n = true
    · rw [if_pos c]
      refine ⟨by rw [List.length_set]; exact a, fun t ht => ?_⟩
      by_cases e : t = n
      · subst e
        rw [List.getElem?_set_self (by rw [a]; exact ht), if_pos ⟨Nat.lt_succ_self _, c⟩]
      · rw [List.getElem?_set_ne (Ne.symm e), b t ht]
        by_cases d : t < n ∧ tvTake ps co ar h t = true
        · rw [if_pos d, if_pos ⟨Nat.lt_succ_of_lt d.1, d.2⟩]
        · rw [if_neg d, if_neg (fun z => d ⟨by omega, z.2⟩)]
    · rw [if_neg c]
      refine ⟨a, fun t ht => ?_⟩
      rw [b t ht]
      by_cases e : t = n
      · subst e
        rw [if_neg (fun z => c z.2), if_neg (fun z => c z.2)]
      · by_cases d : t < n ∧ tvTake ps co ar h t = true
        · rw [if_pos d, if_pos ⟨Nat.lt_succ_of_lt d.1, d.2⟩]
        · rw [if_neg d, if_neg (fun z => d ⟨by omega, z.2⟩)]
/-- the law's ties behind a reading are the store's -/
theorem ti_read {S nh N : Nat} {n : Net} {ps : List Pr} {h : Int} {tv : List V} (W : Ws ps nh) (g : Gd S nh ps.length N n) (h0 : 0 ≤ h) (h1 : h < (nh : Int)) (r : TiRel tv n ps) :
    TiRel ((List.range ps.length).foldl (tvStep ps (n.read1 ps h).co n.ar h) tv) (n.read1 ps h) ps := by
  obtain ⟨r1, r2⟩ := r
  obtain ⟨a, b⟩ := tv_loop ps (n.read1 ps h).co n.ar h tv ps.length
  refine ⟨by rw [a]; exact r1, fun t p hp c1 c2 => ?_⟩
  have hpm := List.mem_of_getElem? hp
  have htl := (List.getElem?_eq_some_iff.mp hp).1
  have hpD : ps.getD t (0, 0) = p := by rw [List.getD_eq_getElem?_getD, hp]; rfl
  obtain ⟨_, fb⟩ := fold_ti ps n.co n.ar h (tiesAt ps h) n.ti (fun t ht => by
    have z := (List.mem_filter.mp ht).1
    rw [g.ti]
    simpa using z)
  have hmem : t ∈ tiesAt ps h ↔ endOf ps h t = true := by
    unfold tiesAt
    rw [List.mem_filter]
    simp [htl]
  have he : endOf ps h t = (p.1 == h || p.2 == h) := by unfold endOf; rw [hp]
  rw [b t (by rw [r1]; exact htl), show (n.read1 ps h).ti = (tiesAt ps h).foldl (tiStep ps n.co n.ar h) n.ti from rfl, fb t (by rw [g.ti]; exact htl), hpD]
  have hlen : h < (n.co.length : Int) := by rw [g.co]; exact h1
  have co1 : (n.read1 ps h).co = n.co.set h.toNat (some (n.st.getD h.toNat 0)) := rfl
  by_cases c : endOf ps h t = true
  · have tk : tvTake ps (n.read1 ps h).co n.ar h t = true := by
      unfold tvTake
      rw [c, hpD, c1, c2]
      rfl
    rw [if_pos ⟨htl, tk⟩]
    have oc : noCopy n.co (otherEnd p h) = false := by
      unfold otherEnd
      by_cases e : p.1 = h
      · rw [if_pos e]
        rw [co1, noCopy_set_ne h0 (W.b0 p hpm) (fun z => W.ne p hpm (e.trans z.symm))] at c2
        exact c2
      · rw [if_neg e]
        rw [co1, noCopy_set_ne h0 (W.a0 p hpm) e] at c1
        exact c1
    rw [if_pos ⟨hmem.mpr c, oc⟩]
  · have tk : ¬ tvTake ps (n.read1 ps h).co n.ar h t = true := by
      unfold tvTake
      rw [Bool.not_eq_true] at c
      rw [c]
      simp
    rw [if_neg (fun z => tk z.2), if_neg (fun z => c (hmem.mp z.1))]
    rw [he, Bool.or_eq_true, not_or] at c
    have e1 : p.1 ≠ h := fun z => c.1 (by rw [z]; exact beq_self_eq_true h)
    have e2 : p.2 ≠ h := fun z => c.2 (by rw [z]; exact beq_self_eq_true h)
    rw [co1, noCopy_set_ne h0 (W.a0 p hpm) e1] at c1
    rw [co1, noCopy_set_ne h0 (W.b0 p hpm) e2] at c2
    exact r2 t p hp c1 c2
/-- where all is read, the law's ties are the store's -/
theorem ti_whole {S nh N : Nat} {n : Net} {ps : List Pr} {tv : List V} (W : Ws ps nh) (g : Gd S nh ps.length N n) (r : TiRel tv n ps) (h : n.co.all Option.isSome = true) : tv = n.ti.map V.int := by
  obtain ⟨r1, r2⟩ := r
  have some_ : ∀ x : Int, 0 ≤ x → x < (nh : Int) → noCopy n.co x = false := fun x h0 h1 => by
    obtain ⟨o, ho, e, _⟩ := noCopy_at (co := n.co) h0 (by rw [g.co]; exact h1)
    rw [e]
    have z := List.all_eq_true.mp h o (List.mem_of_getElem? ho)
    cases o with
    | none => cases z
    | some y => rfl
  apply List.ext_getElem?
  intro t
  by_cases ht : t < ps.length
  · obtain ⟨p, hp⟩ := there ht
    have hpm := List.mem_of_getElem? hp
    rw [r2 t p hp (some_ _ (W.a0 p hpm) (W.a1 p hpm)) (some_ _ (W.b0 p hpm) (W.b1 p hpm)), List.getElem?_map]
    rw [List.getD_eq_getElem?_getD, List.getElem?_eq_getElem (by rw [g.ti]; exact ht)]
    rfl
  · rw [List.getElem?_eq_none (by omega), List.getElem?_eq_none (by rw [List.length_map, g.ti]; omega)]
theorem ti_ended {n : Net} {ps : List Pr} {tv : List V} (h : tv.length = ps.length) : TiRel tv n.ended ps := ⟨h, fun t p hp c1 _ => by
  have z : noCopy n.ended.co p.1 = true := by
    unfold noCopy Net.ended
    show ((List.replicate n.st.length (none : Option Int)).getD p.1.toNat none).isNone = true
    rw [List.getD_eq_getElem?_getD, List.getElem?_replicate]
    by_cases c : p.1.toNat < n.st.length
    · rw [if_pos c]; rfl
    · rw [if_neg c]; rfl
  rw [z] at c1
  cases c1⟩
end Hl
set_option Elab.async false
set_option linter.all false
set_option maxRecDepth 100000
set_option maxHeartbeats 8000000
namespace Hl
open PySem PySem.Spec PyProof.Rows L2
section
variable {H H' : Hp} {f : Ft} {st ar co tv xs : List V} {sa ga as : List Addr} {bk ca v : V}
theorem Raw.g_st (h : Raw H f st ar sa ga bk ca co tv) : DGet H f.d (.str "states") (some (.ref f.ls)) := by
  have z := DGet.k (k := sk "states") h.d
  rw [nk_st] at z
  exact z
theorem Raw.g_ar (h : Raw H f st ar sa ga bk ca co tv) : DGet H f.d (.str "archives") (some (.ref f.la)) := by
  have z := DGet.k (k := sk "archives") h.d
  rw [nk_ar] at z
  exact z
theorem Raw.g_sp (h : Raw H f st ar sa ga bk ca co tv) : DGet H f.d (.str "steps") (some (.ref f.lp)) := by
  have z := DGet.k (k := sk "steps") h.d
  rw [nk_sp] at z
  exact z
theorem Raw.g_bk (h : Raw H f st ar sa ga bk ca co tv) : DGet H f.d (.str "backup") (some bk) := by
  have z := DGet.k (k := sk "backup") h.d
  rw [nk_bk] at z
  exact z
theorem Raw.g_ca (h : Raw H f st ar sa ga bk ca co tv) : DGet H f.d (.str "caught") (some ca) := by
  have z := DGet.k (k := sk "caught") h.d
  rw [nk_ca] at z
  exact z
theorem Raw.g_co (h : Raw H f st ar sa ga bk ca co tv) : DGet H f.d (.str "copies") (some (.ref f.lc)) := by
  have z := DGet.k (k := sk "copies") h.d
  rw [nk_co] at z
  exact z
theorem Raw.g_ti (h : Raw H f st ar sa ga bk ca co tv) : DGet H f.d (.str "tied") (some (.ref f.lt)) := by
  have z := DGet.k (k := sk "tied") h.d
  rw [nk_ti] at z
  exact z
theorem Raw.g_go (h : Raw H f st ar sa ga bk ca co tv) : DGet H f.d (.str "going") (some (.ref f.lg)) := by
  have z := DGet.k (k := sk "going") h.d
  rw [nk_go] at z
  exact z
end
def spLCounted : Sp := fun vs H Q _ => ∃ (f : Ft) (n : Net) (ps : List Pr) (q hq : Addr) (x : Stp) (hl : List Int) (S nh N : Nat), vs = [.ref f.d, .ref q, .ref hq] ∧ NetD H f n ps ∧ Gd S nh ps.length N n ∧ N ≤ 100 ∧
  H q = some (.tup (stpV x)) ∧ H hq = some (.tup (hl.map V.int)) ∧ hl.length ≤ 2 ∧ (∀ h ∈ hl, 0 ≤ h ∧ h < (nh : Int)) ∧ ∀ H', NetD H' f (n.counted x hl) ps → Fo f H H' → Q .non H'
theorem all_none {co : List (Option Int)} {hl : List Int} : (hl.filter fun h => !noCopy co h).isEmpty = hl.all (noCopy co) := by
  induction hl with
  | nil => rfl
  | cons h r ih =>
    rw [List.filter_cons, List.all_cons]
    cases c : noCopy co h with
    | true => rw [if_neg (by simp), ih]; rfl
    | false => rw [if_pos (by rfl)]; rfl
section
variable {P : Program} {w : World} {K : PySem.W.Frag} {mg : Str → Option Value} {base : Heap} {a : Ad} {d : Fd}
theorem ok_LCounted (T : Txt P w K mg a d) : FnOk P w K mg base CX0 1 a.fLCounted d.fLCounted pLCounted spLCounted := by
  refine T.FLCounted.ok scLCounted (fun vs H Q E h => ?_) (fun cdv A outer s H vs Q E hr h => ?_)
  · obtain ⟨f, n, ps, q, hq, x, hl, S, nh, N, rfl, _⟩ := h
    rfl
  · obtain ⟨f, n, ps, q, hq, x, hl, S, nh, N, rfl, ⟨sa, ga, bk, ca, tv, R, hsa, hga, hbk, hti⟩, g, hN, e1, e2, l2, hin, k⟩ := h
    have hu := hu_of hr
    have lsp := g.sp
    have lgo := g.go
    refine ⟨_, pss_cons (ps_expr (pe_bm PySem.F.plainAttrs_list PySem.F.slot_list_append PySem.F.type_list_append mt_append (pe_dget hu (pv 0) pe_str (fun _ _ => rfl)) (pa_cons (pv 1) pa_nil)))
      (pss_one (ps_if (pt_cmpR (op_eqD hr.units) (pe_lc (own := [("_law_house", 3)]) (g := gName 3) (tt := tTest (tOp rNotN (tOp (rIxL K) (tDGet (tVar 0) (tC (.str "copies"))) (tVar 3)) (tC .non))) (te := tVar 3) rfl scLCounted.nd (pi_tup (pv 2)) (blkOk_by (own := [("_law_house", 3)]) (N := nLCounted) (sc := defScope sLCounted) (by decide +kernel))
          (fun _ _ _ _ _ => pg_name (i := 3) scLCounted.nd rfl (Or.inl rfl)) (fun _ _ _ _ _ => pts_one (pt_cmpR op_notN (pe_ix ix_list (pe_dget hu (pv 0) pe_str (fun _ _ => rfl)) (pv 3) (fun _ _ => rfl)) pe_non (nomark _)))
          (fun _ _ _ _ _ => pv 3)) (pe_lst pa_nil) (nomark _))
        (pss_one (ps_expr (pe_bm PySem.F.plainAttrs_list PySem.F.slot_list_append PySem.F.type_list_append mt_append (pe_dget hu (pv 0) pe_str (fun _ _ => rfl)) (pa_cons (pv 1) pa_nil)))) pss_nil)), ?_⟩
    refine ⟨_, rfl, f.d, _, rfl, R.g_sp, .inl ⟨rfl, _, SqL.of R.lp⟩, _, rfl, f.lp, _, _, rfl, rfl, R.lp, by rw [List.length_map, hsa.1]; exact small8 (m := 1000) (by omega), ?_⟩
    have R1 : Raw (upd H f.lp (.lst ((sa ++ [q]).map V.ref))) f (n.st.map V.int) (n.ar.map V.int) (sa ++ [q]) ga bk ca (n.co.map oV) tv := R.set_sp
    have F1 : Fo f H (upd H f.lp (.lst ((sa ++ [q]).map V.ref))) := Fo.refl.put ft_p
    rw [show sa.map V.ref ++ [V.ref q] = (sa ++ [q]).map V.ref by rw [List.map_append]; rfl]
    generalize upd H f.lp (.lst ((sa ++ [q]).map V.ref)) = H1 at R1 F1
    have k1 := F1.tup R
    have hha := k1 _ _ e2
    refine ⟨_, rfl, hq, rfl, ⟨_, SqT.of hha⟩, fun D hD => ?_⟩
    refine lc_fil (walk_tup (xs := hl.map V.int)) (fun i => !noCopy n.co (hl.getD i 0)) (fun i => .int (hl.getD i 0)) hD (by rw [List.length_map]; exact small8 l2) (fun H s => .inl (.inl (s _ _ hha))) (fun i y H4 H5 kk k0 hi s4 yy hy hn => ?_) (fun H4 s4 e => ?_)
    · obtain ⟨rfl, hy2⟩ := yy
      obtain ⟨h, hh, rfl⟩ := map_at hy2
      have hm := hin h (List.mem_of_getElem? hh)
      obtain ⟨o, ho, f1, f2⟩ := noCopy_at (co := n.co) hm.1 (by rw [g.co]; exact hm.2)
      have hD2 : hl.getD i 0 = h := by rw [List.getD_eq_getElem?_getD, hh]; rfl
      rw [hD2, f1] at hy hn
      have R4 := R1.same s4
      refine ⟨rfl, _, rfl, f.d, _, rfl, R4.g_co, _, rfl, f.lc, _, _, _, rfl, rfl, SqL.of R4.lc, at_of (j := h.toNat) (by omega) (at_map ho), rfl, _, rfl, ?_⟩
      rw [f2]
      cases c : o.isNone with
      | true =>
        rw [c] at hn
        exact iteF (hn rfl _ (Same.refl _))
      | false =>
        rw [c] at hy
        exact iteT ⟨_, rfl, hy rfl _ (Same.refl _)⟩
    · have e4 : H4 D = some (.lst ((hl.filter fun h => !noCopy n.co h).map V.int)) := by
        rw [e, List.length_map, kept_list hl 0 (fun h => !noCopy n.co h) V.int]
      have R4 := R1.same s4
      refine ⟨(by show 0 ≤ sizeLine; decide), fun z hz => ?_⟩
      have s5 : Same H4 (upd H4 z (.lst [])) := same_new hz
      have R5 := R4.same s5
      have hz5 : upd H4 z (.lst []) z = some (.lst []) := upd_same
      have F5 : Fo f H (upd H4 z (.lst [])) := (F1.trans (.of s4)).trans (.of s5)
      have eD5 := s5 _ _ e4
      generalize upd H4 z (.lst []) = H5 at s5 R5 hz5 F5 eD5
      refine ⟨.list ((hl.filter fun h => !noCopy n.co h).map PyData.int), .list [], .lst (SqL.of eD5) (dp_ints _), .lst (SqL.of hz5) .nil, ints_shaped _, by decide +kernel, _, rfl, ?_⟩
      rw [eqv_nil, List.isEmpty_map, all_none]
      have k5 := F5.tup R
      have hsn := (hsa.keep k5).snoc (k5 _ _ e1)
      cases c : hl.all (noCopy n.co) with
      | false =>
        refine iteF (k _ ⟨sa ++ [q], ga, bk, ca, tv, R5, hsn, ?_, hbk.keep k5, hti⟩ F5)
        show StpsAt H5 ga (if hl.all (noCopy n.co) = true then n.go ++ [x] else n.go)
        rw [c]
        exact hga.keep k5
      | true =>
        refine iteT ⟨_, rfl, f.d, _, rfl, R5.g_go, .inl ⟨rfl, _, SqL.of R5.lg⟩, _, rfl, f.lg, _, _, rfl, rfl, R5.lg, by rw [List.length_map, hga.1]; exact small8 (m := 1000) (by omega), ?_⟩
        have R6 : Raw (upd H5 f.lg (.lst ((ga ++ [q]).map V.ref))) f (n.st.map V.int) (n.ar.map V.int) (sa ++ [q]) (ga ++ [q]) bk ca (n.co.map oV) tv := R5.set_go
        have F6 : Fo f H (upd H5 f.lg (.lst ((ga ++ [q]).map V.ref))) := F5.put ft_g
        rw [show ga.map V.ref ++ [V.ref q] = (ga ++ [q]).map V.ref by rw [List.map_append]; rfl]
        have k6 := F6.tup R
        refine k _ ⟨sa ++ [q], ga ++ [q], bk, ca, tv, R6, (hsa.keep k6).snoc (k6 _ _ e1), ?_, hbk.keep k6, hti⟩ F6
        show StpsAt _ (ga ++ [q]) (if hl.all (noCopy n.co) = true then n.go ++ [x] else n.go)
        rw [c]
        exact (hga.keep k6).snoc (k6 _ _ e1)
end
end Hl
set_option Elab.async false
set_option linter.all false
set_option maxRecDepth 100000
set_option maxHeartbeats 8000000
namespace Hl
open PySem PySem.Spec PyProof.Rows L2
def spLRead : Sp := fun vs H Q _ => ∃ (f : Ft) (n : Net) (ps : List Pr) (tl : Addr) (ts : List Addr) (h : Int) (S nh N : Nat), vs = [.ref f.d, .ref tl, .int h] ∧ NetD H f n ps ∧ Gd S nh ps.length N n ∧ N ≤ 100 ∧ Ws ps nh ∧
  H tl = some (.lst (ts.map V.ref)) ∧ TiesL H ts ps ∧ tl ∉ f.list ∧ 0 ≤ h ∧ h < (nh : Int) ∧ ∀ (H' : Hp) (f' : Ft), f'.d = f.d → NetD H' f' (n.read ps h) ps → Fo f H H' → FtN f f' H → Q .non H'
theorem FtN.refl {f : Ft} {H : Hp} : FtN f f H := fun _ hb => .inl hb
theorem FtN.trans {f f1 f2 : Ft} {H H1 : Hp} (x : FtN f f1 H) (y : FtN f1 f2 H1) (k : Fo f H H1) : FtN f f2 H := fun b hb => by
  rcases y b hb with z | z
  · exact x b z
  · by_cases m : b ∈ f.list
    · exact .inl m
    · refine .inr ?_
      cases e : H b with
      | none => rfl
      | some o => rw [k b o e m] at z; cases z
theorem Fo.next {f f1 : Ft} {H H1 H2 : Hp} (x : Fo f H H1) (y : Fo f1 H1 H2) (n : FtN f f1 H) : Fo f H H2 := fun b o e hb => y b o (x b o e hb) fun z => by
  rcases n b z with q | q
  · exact hb q
  · rw [q] at e; cases e
theorem TiesL.tup {H H' : Hp} {ts : List Addr} {ps : List Pr} (h : TiesL H ts ps) (k : TupK H H') : TiesL H' ts ps := ⟨h.1, fun j a p e1 e2 => k _ _ (h.2 j a p e1 e2)⟩
theorem ixN_z {n j : Nat} (hj : j < n) : ixN n (0 + (j : Int)) = some j := by
  unfold ixN
  rw [if_pos (by omega), if_pos (by omega)]
  simp
theorem ixN_nat' {n j : Nat} (hj : j < n) : ixN n (j : Int) = some j := by
  unfold ixN
  rw [if_pos (by omega), if_pos (by omega)]
  simp
section
variable {P : Program} {w : World} {K : PySem.W.Frag} {mg : Str → Option Value} {base : Heap} {a : Ad} {d : Fd}
theorem ok_LRead (T : Txt P w K mg a d) : FnOk P w K mg base CX0 2 a.fLRead d.fLRead pLRead spLRead := by
  have GE : FnOk P w K mg base CX0 1 a.fLEnded d.fLEnded pLEnded spLEnded := ok_LEnded T
  refine T.FLRead.ok scLRead (fun vs H Q E h => ?_) (fun cdv A outer s H vs Q E hr h => ?_)
  · obtain ⟨f, n, ps, tl, ts, h, S, nh, N, rfl, _⟩ := h
    rfl
  · obtain ⟨f, n, ps, tl, ts, h, S, nh, N, rfl, ⟨sa, ga, bk, ca, tv, R, hsa, hga, hbk, hti⟩, g, hN, W, htl, hT, ntl, h0, h1, k⟩ := h
    have hu := hu_of hr
    have lsp := g.sp
    have lgo := g.go
    refine ⟨_, pss_cons (ps_asg (pe_ix ix_list (pe_dget hu (pv 0) pe_str (fun _ _ => rfl)) (pv 2) (fun _ _ => rfl)) (pg_sub (pe_dget hu (pv 0) pe_str (fun _ _ => rfl)) (pv 2) set_list))
      (pss_cons (ps_for PassesOwn.never rfl (pi_range1 (by rfl) T.b_range (pa_cons (pe_callB call_len_seq (by rfl) T.b_len boot_len (pa_cons (pv 1) pa_nil)) pa_nil)) (pg_name (i := 3) scLRead.nd rfl (.inl rfl))
        (pss_one (ps_if (PW.pt (pw_and (pt_cmpR op_in_seq (pv 2) (pe_ix ix_list (pv 1) (pv 3) (fun _ _ => rfl)) rfl)
            (pw_and (pt_cmpR op_notN (pe_ix ix_list (pe_dget hu (pv 0) pe_str (fun _ _ => rfl)) (pe_ix ix_tup (pe_ix ix_list (pv 1) (pv 3) (fun _ _ => rfl)) pe_int (fun _ _ => rfl)) (fun _ _ => rfl)) pe_non (nomark _))
            (pw_and1 (pt_cmpR op_notN (pe_ix ix_list (pe_dget hu (pv 0) pe_str (fun _ _ => rfl)) (pe_ix ix_tup (pe_ix ix_list (pv 1) (pv 3) (fun _ _ => rfl)) pe_int (fun _ _ => rfl)) (fun _ _ => rfl)) pe_non (nomark _))))))
          (pss_one (ps_asg (pe_ix ix_list (pe_dget hu (pv 0) pe_str (fun _ _ => rfl)) (pv 3) (fun _ _ => rfl)) (pg_sub (pe_dget hu (pv 0) pe_str (fun _ _ => rfl)) (pv 3) set_list))) pss_nil)))
      (pss_one (ps_if (pt_cmpR op_notIn_seq pe_non (pe_dget hu (pv 0) pe_str (fun _ _ => rfl)) rfl)
        (pss_cons (ps_dput hu (pv 0) pe_str (pe_tup (pa_cons (pe_callTy (call_tupOf K rfl) (by rfl) T.b_tuple boot_tuple (pa_cons (pe_dget hu (pv 0) pe_str (fun _ _ => rfl)) pa_nil)) (pa_cons (pe_callTy (call_tupOf K rfl) (by rfl) T.b_tuple boot_tuple (pa_cons (pe_dget hu (pv 0) pe_str (fun _ _ => rfl)) pa_nil)) pa_nil))) rfl)
        (pss_cons (ps_dput hu (pv 0) pe_str (pe_callTy (call_tupOf K rfl) (by rfl) T.b_tuple boot_tuple (pa_cons (pe_dget hu (pv 0) pe_str (fun _ _ => rfl)) pa_nil)) rfl)
        (pss_one (ps_expr (pe_call GE hr (by rfl) T.gLEnded T.FLEnded.kp T.bLEnded .nil pass0 (pa_cons (pv 0) pa_nil)))))) pss_nil))), ?_⟩
    have hst := get_int (l := n.st) h0 (by rw [g.st]; exact h1)
    have hcl : h.toNat < n.co.length := by rw [g.co]; omega
    refine ⟨_, rfl, f.d, _, rfl, R.g_st, _, rfl, f.ls, _, _, _, rfl, rfl, SqL.of R.ls, at_of (j := h.toNat) (by omega) (at_map hst), ?_⟩
    refine ⟨_, rfl, f.d, _, rfl, R.g_co, _, rfl, f.lc, _, _, h.toNat, rfl, rfl, R.lc, by rw [List.length_map, show h = ((h.toNat : Nat) : Int) by omega]; exact Hl.ixN_nat' (by simpa using hcl), ?_⟩
    have R1 : Raw (upd H f.lc (.lst ((n.co.map oV).set h.toNat (.int (n.st.getD h.toNat 0))))) f (n.st.map V.int) (n.ar.map V.int) sa ga bk ca ((n.co.map oV).set h.toNat (.int (n.st.getD h.toNat 0))) tv := R.set_co
    have F1 : Fo f H (upd H f.lc (.lst ((n.co.map oV).set h.toNat (.int (n.st.getD h.toNat 0))))) := Fo.refl.put ft_c
    have eco : (n.co.map oV).set h.toNat (.int (n.st.getD h.toNat 0)) = (n.read1 ps h).co.map oV := by
      show _ = (n.co.set h.toNat (some (n.st.getD h.toNat 0))).map oV
      rw [List.map_set]
      rfl
    generalize upd H f.lc (.lst ((n.co.map oV).set h.toNat (.int (n.st.getD h.toNat 0)))) = H1 at R1 F1
    rw [eco] at R1
    have g1 := g.read1 (h := h) (ps := ps) rfl h0 h1
    have htl1 := F1 _ _ htl ntl
    have l5 := W.len
    have hlen : ts.length = ps.length := hT.1
    refine ⟨_, rfl, tl, _, rfl, .inl (SqL.of htl1), ((ts.length : Nat) : Int), by rw [List.length_map], by omega, by omega, ?_⟩
    rw [Int.toNat_natCast]
    refine for_it (walk_range (n := ts.length)) (fun i σ H' => ∃ c3, σ = [some (.ref f.d), some (.ref tl), some (.int h), c3] ∧ Raw H' f (n.st.map V.int) (n.ar.map V.int) sa ga bk ca ((n.read1 ps h).co.map oV) ((List.range i).foldl (tvStep ps (n.read1 ps h).co n.ar h) tv) ∧ Fo f H H')
      ⟨none, rfl, R1, F1⟩ (fun _ _ _ _ _ => True.intro) ?_ ?_
    · rintro i x σ H2o H2 hi ⟨c3, rfl, R2, F2⟩ ⟨rfl, rfl⟩
      obtain ⟨p, hp⟩ : ∃ p, ps[i]? = some p := there (by omega)
      obtain ⟨ta, hta⟩ : ∃ p, ts[i]? = some p := there hi
      have hpm := List.mem_of_getElem? hp
      have hpD : ps.getD i (0, 0) = p := by rw [List.getD_eq_getElem?_getD, hp]; rfl
      have k2 := F2.tup R
      have htl2 := F2 _ _ htl ntl
      have hrow := k2 _ _ (hT.2 i ta p hta hp)
      have he : inV (V.int h) (prV p) = endOf ps h i := by
        unfold endOf
        rw [hp]
        simp [inV, prV, eqV]
      have hl2 := (tv_loop ps (n.read1 ps h).co n.ar h tv i).1
      have estep : (List.range (i + 1)).foldl (tvStep ps (n.read1 ps h).co n.ar h) tv = tvStep ps (n.read1 ps h).co n.ar h ((List.range i).foldl (tvStep ps (n.read1 ps h).co n.ar h) tv) i := by
        rw [List.range_succ, List.foldl_append]
        rfl
      obtain ⟨o1, ho1, f1, q1⟩ := noCopy_at (co := (n.read1 ps h).co) (W.a0 p hpm) (by rw [g1.co]; exact W.a1 p hpm)
      obtain ⟨o2, ho2, f2, q2⟩ := noCopy_at (co := (n.read1 ps h).co) (W.b0 p hpm) (by rw [g1.co]; exact W.b1 p hpm)
      have h_a0 := W.a0 p hpm
      have h_b0 := W.b0 p hpm
      refine ⟨_, rfl, _, rfl, _, rfl, tl, _, _, _, rfl, rfl, SqL.of htl2, at_of (j := i) (by omega) (at_map hta), ta, _, rfl, .inr (SqT.of hrow), rfl, rfl, _, rfl, ?_⟩
      rw [if_neg Bool.false_ne_true, he]
      have no : tvTake ps (n.read1 ps h).co n.ar h i = false → Raw H2 f (n.st.map V.int) (n.ar.map V.int) sa ga bk ca ((n.read1 ps h).co.map oV) ((List.range (i + 1)).foldl (tvStep ps (n.read1 ps h).co n.ar h) tv) ∧ Fo f H H2 := fun c => by
        refine ⟨?_, F2⟩
        rw [estep]
        unfold tvStep
        rw [c, if_neg Bool.false_ne_true]
        exact R2
      unfold tvTake at no
      rw [hpD, f1, f2] at no
      cases c : endOf ps h i with
      | false =>
        rw [c] at no
        exact iteF (iteF ⟨_, rfl, no rfl⟩)
      | true =>
        rw [c] at no
        refine iteT ⟨_, rfl, f.d, _, rfl, R2.g_co, _, rfl, _, rfl, tl, _, _, _, rfl, rfl, SqL.of htl2, at_of (j := i) (by omega) (at_map hta), ta, _, _, _, rfl, rfl, SqT.of hrow, at_of (j := 0) (v := .int p.1) rfl rfl, f.lc, _, _, _, rfl, rfl, SqL.of R2.lc, at_of (j := p.1.toNat) (by omega) (at_map ho1), rfl, _, rfl, ?_⟩
        rw [q1]
        cases c1 : o1.isNone with
        | true =>
          rw [c1] at no
          exact iteF (iteF ⟨_, rfl, no rfl⟩)
        | false =>
          rw [c1] at no
          refine iteT ⟨_, rfl, f.d, _, rfl, R2.g_co, _, rfl, _, rfl, tl, _, _, _, rfl, rfl, SqL.of htl2, at_of (j := i) (by omega) (at_map hta), ta, _, _, _, rfl, rfl, SqT.of hrow, at_of (j := 1) (v := .int p.2) rfl rfl, f.lc, _, _, _, rfl, rfl, SqL.of R2.lc, at_of (j := p.2.toNat) (by omega) (at_map ho2), rfl, _, rfl, ?_⟩
          rw [q2]
          cases c2 : o2.isNone with
          | true =>
            rw [c2] at no
            exact iteF ⟨_, rfl, no rfl⟩
          | false =>
            have tk : tvTake ps (n.read1 ps h).co n.ar h i = true := by
              unfold tvTake
              rw [hpD, f1, f2, c, c1, c2]
              rfl
            have har2 : n.ar[i]? = some (n.ar.getD i 0) := by rw [List.getD_eq_getElem?_getD, List.getElem?_eq_getElem (by rw [g.ar]; omega)]; rfl
            refine iteT ⟨_, rfl, f.d, _, rfl, R2.g_ar, _, rfl, f.la, _, _, _, rfl, rfl, SqL.of R2.la, at_of (j := i) (by omega) (at_map har2), ?_⟩
            refine ⟨_, rfl, f.d, _, rfl, R2.g_ti, _, rfl, f.lt, _, _, i, rfl, rfl, R2.lt, ixN_z (by rw [hl2, hti.1]; omega), ?_⟩
            refine ⟨_, rfl, ?_, F2.put ft_t⟩
            rw [estep]
            unfold tvStep at R2 ⊢
            rw [tk, if_pos rfl]
            exact R2.set_tv
    · rintro σ H2 ⟨c3, rfl, R2, F2⟩
      rw [hlen] at R2
      have hti1 := ti_read W g h0 h1 hti
      have k2 := F2.tup R
      refine ⟨_, rfl, f.d, _, rfl, R2.g_co, f.lc, _, rfl, .inl (SqL.of R2.lc), rfl, flat_oV _, _, rfl, ?_⟩
      rw [if_pos rfl, inV_non, Bool.not_not]
      cases hw : (n.read1 ps h).co.all Option.isSome with
      | false =>
        refine iteF (k H2 f rfl ?_ F2 FtN.refl)
        have er : n.read ps h = n.read1 ps h := by unfold Net.read; rw [hw, if_neg (by simp)]
        rw [er]
        exact ⟨sa, ga, bk, ca, _, R2, hsa.keep k2, hga.keep k2, hbk.keep k2, hti1⟩
      | true =>
        have er : n.read ps h = (n.read1 ps h).whole := by unfold Net.read; rw [hw, if_pos rfl]
        rw [ti_whole W g1 hti1 hw] at R2
        rw [er] at k
        refine iteT ?_
        -- the backup
        refine ⟨_, rfl, f.d, _, rfl, R2.g_co, f.lc, _, rfl, .inl ⟨SqL.of R2.lc, fun x hx => ?_⟩⟩
        have s3 : Same H2 (upd H2 x (.tup ((n.read1 ps h).co.map oV))) := same_new hx
        have R3 := R2.same s3
        have hx3 : upd H2 x (.tup ((n.read1 ps h).co.map oV)) x = some (.tup ((n.read1 ps h).co.map oV)) := upd_same
        generalize upd H2 x (.tup ((n.read1 ps h).co.map oV)) = H3 at s3 R3 hx3
        refine ⟨_, rfl, f.d, _, rfl, R3.g_ti, f.lt, _, rfl, .inl ⟨SqL.of R3.lt, fun y hy => ?_⟩⟩
        have s4 : Same H3 (upd H3 y (.tup ((n.read1 ps h).ti.map V.int))) := same_new hy
        have R4 := R3.same s4
        have hx4 := s4 _ _ hx3
        have hy4 : upd H3 y (.tup ((n.read1 ps h).ti.map V.int)) y = some (.tup ((n.read1 ps h).ti.map V.int)) := upd_same
        have s24 := s3.trans s4
        generalize upd H3 y (.tup ((n.read1 ps h).ti.map V.int)) = H4 at s4 R4 hx4 hy4 s24
        refine ⟨(by show 2 ≤ sizeLine; decide), fun q hq => ?_⟩
        have s5 : Same H4 (upd H4 q (.tup [.ref x, .ref y])) := same_new hq
        have R5 := R4.same s5
        have hq5 : upd H4 q (.tup [.ref x, .ref y]) q = some (.tup [.ref x, .ref y]) := upd_same
        have hx5 := s5 _ _ hx4
        have hy5 := s5 _ _ hy4
        have F5 : Fo f H (upd H4 q (.tup [.ref x, .ref y])) := (F2.trans (.of s24)).trans (.of s5)
        generalize upd H4 q (.tup [.ref x, .ref y]) = H5 at s5 R5 hq5 hx5 hy5 F5
        refine ⟨_, rfl, f.d, _, rfl, DPut.k (k := sk "backup") R5.d (by show 8 < sizeLine; decide), ?_⟩
        rw [pk_bk]
        have R6 : Raw (upd H5 f.d (.dK (netK (.ref f.ls) (.ref f.la) (.ref f.lp) (.ref q) ca (.ref f.lc) (.ref f.lt) (.ref f.lg)))) f (n.st.map V.int) (n.ar.map V.int) sa ga (.ref q) ca ((n.read1 ps h).co.map oV) ((n.read1 ps h).ti.map V.int) := R5.set_d
        have F6 : Fo f H (upd H5 f.d (.dK (netK (.ref f.ls) (.ref f.la) (.ref f.lp) (.ref q) ca (.ref f.lc) (.ref f.lt) (.ref f.lg)))) := F5.put ft_d
        have k56 := (Fo.refl.put ft_d : Fo f H5 (upd H5 f.d (.dK (netK (.ref f.ls) (.ref f.la) (.ref f.lp) (.ref q) ca (.ref f.lc) (.ref f.lt) (.ref f.lg))))).tup R5
        generalize upd H5 f.d (.dK (netK (.ref f.ls) (.ref f.la) (.ref f.lp) (.ref q) ca (.ref f.lc) (.ref f.lt) (.ref f.lg))) = H6 at R6 F6 k56
        -- caught
        refine ⟨_, rfl, f.d, _, rfl, R6.g_go, f.lg, _, rfl, .inl ⟨SqL.of R6.lg, fun c hc => ?_⟩⟩
        have s7 : Same H6 (upd H6 c (.tup (ga.map V.ref))) := same_new hc
        have R7 := R6.same s7
        have hc7 : upd H6 c (.tup (ga.map V.ref)) c = some (.tup (ga.map V.ref)) := upd_same
        have F7 : Fo f H (upd H6 c (.tup (ga.map V.ref))) := F6.trans (.of s7)
        have k57 : TupK H5 (upd H6 c (.tup (ga.map V.ref))) := fun b xs e => s7 _ _ (k56 _ _ e)
        generalize upd H6 c (.tup (ga.map V.ref)) = H7 at s7 R7 hc7 F7 k57
        refine ⟨_, rfl, f.d, _, rfl, DPut.k (k := sk "caught") R7.d (by show 8 < sizeLine; decide), ?_⟩
        rw [pk_ca]
        have R8 : Raw (upd H7 f.d (.dK (netK (.ref f.ls) (.ref f.la) (.ref f.lp) (.ref q) (.ref c) (.ref f.lc) (.ref f.lt) (.ref f.lg)))) f (n.st.map V.int) (n.ar.map V.int) sa ga (.ref q) (.ref c) ((n.read1 ps h).co.map oV) ((n.read1 ps h).ti.map V.int) := R7.set_d
        have F8 : Fo f H (upd H7 f.d (.dK (netK (.ref f.ls) (.ref f.la) (.ref f.lp) (.ref q) (.ref c) (.ref f.lc) (.ref f.lt) (.ref f.lg)))) := F7.put ft_d
        have k78 := (Fo.refl.put ft_d : Fo f H7 (upd H7 f.d (.dK (netK (.ref f.ls) (.ref f.la) (.ref f.lp) (.ref q) (.ref c) (.ref f.lc) (.ref f.lt) (.ref f.lg))))).tup R7
        generalize upd H7 f.d (.dK (netK (.ref f.ls) (.ref f.la) (.ref f.lp) (.ref q) (.ref c) (.ref f.lc) (.ref f.lt) (.ref f.lg))) = H8 at R8 F8 k78
        -- the walk is over
        refine ⟨_, rfl, f.d, f.ls, f.la, f.lp, _, n.st.map V.int, n.ar.map V.int, sa.map V.ref, rfl, R8.d, (by show 8 ≤ 900; decide), nk_st, nk_ar, nk_sp, R8.ls, R8.la, R8.lp, by rw [List.length_map, g.st]; have := W.n4; omega, by rw [List.length_map, g.ar]; omega, by rw [List.length_map, hsa.1]; omega, fun H9 cc tt gg n1 n2 n3 d1 d2 d3 e1 e2 e3 e4 b9 => ?_⟩
        obtain ⟨R9, F89, N89⟩ := R8.ended n1 n2 n3 d1 d2 d3 e1 e2 e3 e4 b9
        have k89 := F89.tup R8
        have F9 := F8.trans F89
        have k9 := F9.tup R
        refine k H9 ⟨f.d, f.ls, f.la, f.lp, cc, tt, gg⟩ rfl ?_ F9 (FtN.refl.trans N89 F8)
        refine ⟨sa, sa, .ref q, .ref c, List.replicate (n.ar.map V.int).length .non, ?_, hsa.keep k9, hsa.keep k9, ?_, ti_ended (by rw [List.length_replicate, List.length_map, g.ar])⟩
        · rw [show ((n.read1 ps h).whole.co.map oV) = List.replicate (n.st.map V.int).length V.non by
            show (List.replicate n.st.length none).map oV = _
            rw [List.map_replicate, List.length_map]
            rfl]
          exact R9
        · refine ⟨⟨c, ga, rfl, k89 _ _ (k78 _ _ hc7), hga.keep k9⟩, q, .ref x, .ref y, rfl, k89 _ _ (k78 _ _ (k57 _ _ hq5)), ⟨x, rfl, ?_⟩, ⟨y, rfl, k89 _ _ (k78 _ _ (k57 _ _ hy5))⟩⟩
          rw [← vals_some hw]
          exact k89 _ _ (k78 _ _ (k57 _ _ hx5))
end
end Hl
set_option Elab.async false
set_option linter.all false
set_option maxRecDepth 100000
set_option maxHeartbeats 8000000
namespace Hl
open PySem PySem.Spec PyProof.Rows L2
def rReprI : List V → Hp → VK → Prop := fun xs H Q => ∃ i, xs = [V.int i] ∧ i.natAbs.log2 < 1920 ∧ Q (.str (toString i)) H
theorem call_reprI {X : Cx} : CallR X (.builtin "repr") rReprI := SkE.call_repr_int
def spLMet : Sp := fun vs H Q _ => ∃ (f : Ft) (n : Net) (ps : List Pr) (ta tl : Addr) (as ts : List Addr) (tb : List (List Int)) (t : Int) (p : Pr) (S nh N : Nat), vs = [.ref f.d, .ref ta, .ref tl, .int t] ∧ NetD H f n ps ∧ Gd S nh ps.length N n ∧ N ≤ 100 ∧ Ws ps nh ∧
  H ta = some (.lst (as.map V.ref)) ∧ RowsL H as tb ∧ Tb tb S ∧ H tl = some (.lst (ts.map V.ref)) ∧ TiesL H ts ps ∧ tl ∉ f.list ∧ 0 ≤ t ∧ ps[t.toNat]? = some p ∧
  ∀ o, JoinIs tb (n.ar.getD t.toNat 0) (n.st.getD p.1.toNat 0) (n.st.getD p.2.toNat 0) o → (o = none → ∀ (H' : Hp) (q : Addr) (xs : List V), Same H H' → H' q = some (.tup xs) → Q (.ref q) H') ∧
    ∀ e, o = some e → ∀ (H' : Hp) (f' : Ft), f'.d = f.d → NetD H' f' (n.met ps t p e) ps → Fo f H H' → FtN f f' H → Q (.str (tx e)) H'
section
variable {P : Program} {w : World} {K : PySem.W.Frag} {mg : Str → Option Value} {base : Heap} {a : Ad} {d : Fd}
theorem ok_LMet (T : Txt P w K mg a d) : FnOk P w K mg base CX0 3 a.fLMet d.fLMet pLMet spLMet := by
  have GJ : FnOk P w K mg base CX0 1 a.fLJoin d.fLJoin pLJoin spLJoin := ok_LJoin T
  have GR : FnOk P w K mg base CX0 2 a.fLRead d.fLRead pLRead spLRead := ok_LRead T
  have GC : FnOk P w K mg base CX0 1 a.fLCounted d.fLCounted pLCounted spLCounted := ok_LCounted T
  refine T.FLMet.ok scLMet (fun vs H Q E h => ?_) (fun cdv A outer s H vs Q E hr h => ?_)
  · obtain ⟨f, n, ps, ta, tl, as, ts, tb, t, p, S, nh, N, rfl, _⟩ := h
    rfl
  · obtain ⟨f, n, ps, ta, tl, as, ts, tb, t, p, S, nh, N, rfl, hN0, g, hN, hW, hta, hRt, hT, htl, hTs, ntl, t0, hp, k⟩ := h
    obtain ⟨sa, ga, bk, ca, tv, R, hsa, hga, hbk, hti⟩ := id hN0
    have hu := hu_of hr
    refine ⟨_, pss_cons (ps_asg (pe_ix ix_list (pv 2) (pv 3) (fun _ _ => rfl)) (pg_tup rfl (pgs_cons (pg_name (i := 4) scLMet.nd rfl (.inl rfl)) (pgs_cons (pg_name (i := 5) scLMet.nd rfl (.inl rfl)) pgs_nil))))
      (pss_cons (ps_set (i := 6) scLMet.nd rfl (.inl rfl) (pe_tup (pa_cons (pe_ix ix_list (pe_dget hu (pv 0) pe_str (fun _ _ => rfl)) (pv 3) (fun _ _ => rfl)) (pa_cons (pe_ix ix_list (pe_dget hu (pv 0) pe_str (fun _ _ => rfl)) (pv 4) (fun _ _ => rfl)) (pa_cons (pe_ix ix_list (pe_dget hu (pv 0) pe_str (fun _ _ => rfl)) (pv 5) (fun _ _ => rfl)) pa_nil)))))
      (pss_cons (ps_set (i := 7) scLMet.nd rfl (.inl rfl) (pe_call GJ (hr.mono (by decide)) (by rfl) T.gLJoin T.FLJoin.kp T.bLJoin .nil pass0 (pa_cons (pv 1) (pa_cons (pe_ix ix_tup (pv 6) pe_int (fun _ _ => rfl)) (pa_cons (pe_ix ix_tup (pv 6) pe_int (fun _ _ => rfl)) (pa_cons (pe_ix ix_tup (pv 6) pe_int (fun _ _ => rfl)) pa_nil))))))
      (pss_cons (ps_if (pt_cmpR op_isN (pv 7) pe_non (nomark _)) (pss_one (ps_ret (pe_tup (pa_cons pe_str (pa_cons (pe_ix ix_tup (pv 6) pe_int (fun _ _ => rfl)) (pa_cons (pe_ix ix_tup (pv 6) pe_int (fun _ _ => rfl)) (pa_cons (pe_ix ix_tup (pv 6) pe_int (fun _ _ => rfl)) pa_nil))))))) pss_nil)
      (pss_cons (ps_setLc (i := 8) (own := [("_law_house", 9)]) (g := gName 9) (tt := tTest (tOp rIsN (tOp (rIxL K) (tDGet (tVar 0) (tC (.str "copies"))) (tVar 9)) (tC .non))) (te := tVar 9) rfl scLMet.nd rfl rfl (sw_true rfl rfl rfl (by decide +kernel)) (pi_tup (pe_tup (pa_cons (pv 4) (pa_cons (pv 5) pa_nil))))
          (blkOk_by (own := [("_law_house", 9)]) (N := nLMet) (sc := defScope sLMet) (by decide +kernel))
          (fun _ _ _ _ _ => pg_name (i := 9) scLMet.nd rfl (Or.inl rfl)) (fun _ _ _ _ _ => pts_one (pt_cmpR op_isN (pe_ix ix_list (pe_dget hu (pv 0) pe_str (fun _ _ => rfl)) (pv 9) (fun _ _ => rfl)) pe_non (nomark _))) (fun _ _ _ _ _ => pv 9))
      (pss_cons (ps_if (pt_cmpR op_eq (pe_callB call_len_seq (by rfl) T.b_len boot_len (pa_cons (pv 8) pa_nil)) pe_int (nomark _))
        (pss_one (ps_expr (pe_call GR hr (by rfl) T.gLRead T.FLRead.kp T.bLRead .nil pass0 (pa_cons (pv 0) (pa_cons (pv 2) (pa_cons (pe_ix ix_list (pv 8) pe_int (fun _ _ => rfl)) pa_nil)))))) pss_nil)
      (pss_cons (ps_asg (pe_tup (pa_cons (pv 7) (pa_cons (pv 7) (pa_cons (pv 7) pa_nil)))) (pg_tup rfl (pgs_cons (pg_sub (pe_dget hu (pv 0) pe_str (fun _ _ => rfl)) (pv 4) set_list) (pgs_cons (pg_sub (pe_dget hu (pv 0) pe_str (fun _ _ => rfl)) (pv 5) set_list) (pgs_cons (pg_sub (pe_dget hu (pv 0) pe_str (fun _ _ => rfl)) (pv 3) set_list) pgs_nil)))))
      (pss_cons (ps_expr (pe_call GC (hr.mono (by decide)) (by rfl) T.gLCounted T.FLCounted.kp T.bLCounted .nil pass0 (pa_cons (pv 0) (pa_cons (pe_tup (pa_cons pe_str (pa_cons (pv 3) pa_nil))) (pa_cons (pe_tup (pa_cons (pv 4) (pa_cons (pv 5) pa_nil))) pa_nil)))))
      (pss_one (ps_ret (pe_callB call_reprI (by rfl) T.b_repr boot_repr (pa_cons (pv 7) pa_nil))))))))))), ?_⟩
    have htl0 := (List.getElem?_eq_some_iff.mp hp).1
    obtain ⟨at_, hat⟩ := there (l := ts) (i := t.toNat) (by rw [hTs.1]; exact htl0)
    have hpm := List.mem_of_getElem? hp
    have a0 := hW.a0 p hpm
    have a1 := hW.a1 p hpm
    have b0 := hW.b0 p hpm
    have b1 := hW.b1 p hpm
    have n4 := hW.n4
    have hx := get_int (l := n.ar) t0 (by rw [g.ar]; omega)
    have hy := get_int (l := n.st) a0 (by rw [g.st]; exact a1)
    have hz := get_int (l := n.st) b0 (by rw [g.st]; exact b1)
    have rx := g.arR _ (List.mem_of_getElem? hx)
    have ry := g.stR _ (List.mem_of_getElem? hy)
    have rz := g.stR _ (List.mem_of_getElem? hz)
    refine ⟨_, rfl, _, rfl, tl, _, _, _, rfl, rfl, SqL.of htl, at_of (j := t.toNat) (by omega) (at_map hat), ?_⟩
    refine ⟨at_, _, rfl, SqT.of (hTs.2 _ _ _ hat hp), rfl, _, _, rfl, _, _, rfl, rfl, ?_⟩
    refine ⟨_, rfl, f.d, _, rfl, R.g_ar, _, rfl, f.la, _, _, _, rfl, rfl, SqL.of R.la, at_of (j := t.toNat) (by omega) (at_map hx), ?_⟩
    refine ⟨_, rfl, f.d, _, rfl, R.g_st, _, rfl, f.ls, _, _, _, rfl, rfl, SqL.of R.ls, at_of (j := p.1.toNat) (by omega) (at_map hy), ?_⟩
    refine ⟨_, rfl, f.d, _, rfl, R.g_st, _, rfl, f.ls, _, _, _, rfl, rfl, SqL.of R.ls, at_of (j := p.2.toNat) (by omega) (at_map hz), ?_⟩
    refine ⟨(by show 3 ≤ sizeLine; decide), fun bq hbq => ?_⟩
    have s0 : Same H (upd H bq (.tup [.int (n.ar.getD t.toNat 0), .int (n.st.getD p.1.toNat 0), .int (n.st.getD p.2.toNat 0)])) := same_new hbq
    have hb0 : upd H bq (.tup [.int (n.ar.getD t.toNat 0), .int (n.st.getD p.1.toNat 0), .int (n.st.getD p.2.toNat 0)]) bq = some (.tup [.int (n.ar.getD t.toNat 0), .int (n.st.getD p.1.toNat 0), .int (n.st.getD p.2.toNat 0)]) := upd_same
    generalize upd H bq (.tup [.int (n.ar.getD t.toNat 0), .int (n.st.getD p.1.toNat 0), .int (n.st.getD p.2.toNat 0)]) = H0 at s0 hb0
    refine ⟨_, rfl, _, rfl, bq, _, _, _, rfl, rfl, SqT.of hb0, at_of (j := 0) (v := .int (n.ar.getD t.toNat 0)) rfl rfl, _, rfl, bq, _, _, _, rfl, rfl, SqT.of hb0, at_of (j := 1) (v := .int (n.st.getD p.1.toNat 0)) rfl rfl, _, rfl, bq, _, _, _, rfl, rfl, SqT.of hb0, at_of (j := 2) (v := .int (n.st.getD p.2.toNat 0)) rfl rfl, ?_⟩
    refine ⟨ta, as, tb, S, _, _, _, rfl, s0 _ _ hta, hRt.same s0, hT, ⟨rx.1, rx.2, ry.1, ry.2⟩, fun H1 o s1 hj => ?_⟩
    have s01 := s0.trans s1
    have hb1 := s1 _ _ hb0
    refine ⟨_, rfl, rfl, _, rfl, ?_⟩
    cases o with
    | none =>
      refine itdT rfl ?_
      refine ⟨_, rfl, bq, _, _, _, rfl, rfl, SqT.of hb1, at_of (j := 0) (v := .int (n.ar.getD t.toNat 0)) rfl rfl, _, rfl, bq, _, _, _, rfl, rfl, SqT.of hb1, at_of (j := 1) (v := .int (n.st.getD p.1.toNat 0)) rfl rfl, _, rfl, bq, _, _, _, rfl, rfl, SqT.of hb1, at_of (j := 2) (v := .int (n.st.getD p.2.toNat 0)) rfl rfl, (by show 4 ≤ sizeLine; decide), fun q hq => ?_⟩
      exact (k none hj).1 rfl _ q _ (s01.trans (same_new hq)) upd_same
    | some e =>
    refine itdF (by intro z; cases z) ?_
    have heR := hj.inS hT ⟨rx.1, rx.2, ry.1, ry.2⟩
    have R1 := R.same s01
    -- unread
    refine ⟨_, rfl, _, rfl, (by show 2 ≤ sizeLine; decide), fun q hq => ⟨q, rfl, ⟨_, SqT.of upd_same⟩, fun D hD => ?_⟩⟩
    have s2 : Same H1 (upd H1 q (.tup [.int p.1, .int p.2])) := same_new hq
    have hq2 : upd H1 q (.tup [.int p.1, .int p.2]) q = some (.tup [.int p.1, .int p.2]) := upd_same
    generalize upd H1 q (.tup [.int p.1, .int p.2]) = H2 at s2 hq2 hD
    have s02 := s01.trans s2
    have R2 := R1.same s2
    refine lc_fil (walk_tup (xs := [.int p.1, .int p.2])) (fun i => noCopy n.co ([p.1, p.2].getD i 0)) (fun i => .int ([p.1, p.2].getD i 0)) hD (by show 2 < sizeLine; decide) (fun H s => .inl (.inl (s _ _ hq2))) (fun i y H4 H5 kk k0 hi s4 yy hy1 hy2 => ?_) (fun H4 s4 e4 => ?_)
    · obtain ⟨rfl, hyx⟩ := yy
      obtain ⟨h, rfl, hh0, hh1, hhD⟩ : ∃ h : Int, V.int h = y ∧ 0 ≤ h ∧ h < (nh : Int) ∧ [p.1, p.2].getD i 0 = h := by
        match i, hyx with
        | 0, hyx => exact ⟨p.1, Option.some.inj hyx, a0, a1, rfl⟩
        | 1, hyx => exact ⟨p.2, Option.some.inj hyx, b0, b1, rfl⟩
        | i + 2, hyx => simp at hyx
      obtain ⟨o', ho', f1, f2⟩ := noCopy_at (co := n.co) hh0 (by rw [g.co]; exact hh1)
      have R4 := R2.same s4
      refine ⟨rfl, _, rfl, f.d, _, rfl, R4.g_co, _, rfl, f.lc, _, _, _, rfl, rfl, SqL.of R4.lc, at_of (j := h.toNat) (by omega) (at_map ho'), rfl, _, rfl, ?_⟩
      rw [hhD] at hy1 hy2
      rw [f2, ← f1]
      cases hc : noCopy n.co h with
      | true => exact iteT ⟨_, rfl, hy1 hc _ (Same.refl _)⟩
      | false => exact iteF (hy2 hc _ (Same.refl _))
    have e4' : H4 D = some (.lst ((n.unread p).map V.int)) := by
      rw [e4]
      show some (HO.lst (kept _ _ 2)) = _
      rw [kept_two]
      rfl
    have s04 := s02.trans s4
    have hN4 := hN0.same s04
    have F04 : Fo f H H4 := .of s04
    -- behind the reading
    have rest : ∀ (H5 : Hp) (f5 : Ft), f5.d = f.d → NetD H5 f5 (n.met0 ps p) ps → Fo f H H5 → FtN f f5 H → ∀ (x5 : Option V), (tSeq (tAsg (tTup (tCons (tVar 7) (tCons (tVar 7) (tCons (tVar 7) tNil)))) (gTup K 3 (gCons (gSub (tDGet (tVar 0) (tC (.str "states"))) (tVar 4) rSetL) (gCons (gSub (tDGet (tVar 0) (tC (.str "states"))) (tVar 5) rSetL) (gCons (gSub (tDGet (tVar 0) (tC (.str "archives"))) (tVar 3) rSetL) gNil)))))
        (tSeq (tDrop (tCall spLCounted [] E0 (tCons (tVar 0) (tCons (tTup (tCons (tC (.str "meet")) (tCons (tVar 3) tNil))) (tCons (tTup (tCons (tVar 4) (tCons (tVar 5) tNil))) tNil))))) (tRet (tCB rReprI (tCons (tVar 7) tNil))))) { nx := fun _ H' => Q .non H', rt := Q }
        [some (.ref f.d), some (.ref ta), some (.ref tl), some (.int t), some (.int p.1), some (.int p.2), some (.ref bq), some (.int e), some (.ref D), x5] H5 := by
      intro H5 f5 ed hN5 F5 N5 x5
      obtain ⟨sa5, ga5, bk5, ca5, tv5, R5, hsa5, hga5, hbk5, hti5⟩ := hN5
      rw [← ed]
      have g5 : Gd S nh ps.length N (n.met0 ps p) := g.met0 rfl a0 a1 b0 b1
      refine ⟨_, rfl, _, rfl, _, rfl, (by show 3 ≤ sizeLine; decide), fun q6 hq6 => ?_⟩
      have s6 : Same H5 (upd H5 q6 (.tup [.int e, .int e, .int e])) := same_new hq6
      have hq66 : upd H5 q6 (.tup [.int e, .int e, .int e]) q6 = some (.tup [.int e, .int e, .int e]) := upd_same
      generalize upd H5 q6 (.tup [.int e, .int e, .int e]) = H6 at s6 hq66
      have R6 := R5.same s6
      have F56 : Fo f5 H5 H6 := .of s6
      refine ⟨q6, _, rfl, SqT.of hq66, rfl, _, _, rfl, ?_⟩
      refine ⟨_, rfl, f5.d, _, rfl, R6.g_st, _, rfl, f5.ls, _, _, p.1.toNat, rfl, rfl, R6.ls, by rw [List.length_map, show p.1 = ((p.1.toNat : Nat) : Int) by omega]; exact ixN_nat' (by rw [g5.st]; omega), ?_⟩
      rw [set_map]
      have R7 : Raw (upd H6 f5.ls (.lst (((n.met0 ps p).st.set p.1.toNat e).map V.int))) f5 _ _ _ _ _ _ _ _ := R6.set_st
      have F57 : Fo f5 H5 (upd H6 f5.ls (.lst (((n.met0 ps p).st.set p.1.toNat e).map V.int))) := F56.put ft_s
      generalize upd H6 f5.ls (.lst (((n.met0 ps p).st.set p.1.toNat e).map V.int)) = H7 at R7 F57
      refine ⟨_, _, rfl, ?_⟩
      refine ⟨_, rfl, f5.d, _, rfl, R7.g_st, _, rfl, f5.ls, _, _, p.2.toNat, rfl, rfl, R7.ls, by rw [List.length_map, show p.2 = ((p.2.toNat : Nat) : Int) by omega]; exact ixN_nat' (by rw [List.length_set, g5.st]; omega), ?_⟩
      rw [set_map]
      have R8 : Raw (upd H7 f5.ls (.lst ((((n.met0 ps p).st.set p.1.toNat e).set p.2.toNat e).map V.int))) f5 _ _ _ _ _ _ _ _ := R7.set_st
      have F58 : Fo f5 H5 (upd H7 f5.ls (.lst ((((n.met0 ps p).st.set p.1.toNat e).set p.2.toNat e).map V.int))) := F57.put ft_s
      generalize upd H7 f5.ls (.lst ((((n.met0 ps p).st.set p.1.toNat e).set p.2.toNat e).map V.int)) = H8 at R8 F58
      refine ⟨_, _, rfl, ?_⟩
      refine ⟨_, rfl, f5.d, _, rfl, R8.g_ar, _, rfl, f5.la, _, _, t.toNat, rfl, rfl, R8.la, by rw [List.length_map, show t = ((t.toNat : Nat) : Int) by omega]; exact ixN_nat' (by rw [g5.ar]; omega), ?_⟩
      rw [set_map]
      have R9 : Raw (upd H8 f5.la (.lst (((n.met0 ps p).ar.set t.toNat e).map V.int))) f5 _ _ _ _ _ _ _ _ := R8.set_ar
      have F59 : Fo f5 H5 (upd H8 f5.la (.lst (((n.met0 ps p).ar.set t.toNat e).map V.int))) := F58.put ft_a
      generalize upd H8 f5.la (.lst (((n.met0 ps p).ar.set t.toNat e).map V.int)) = H9 at R9 F59
      have k9 := F59.tup R5
      refine ⟨rfl, ?_⟩
      have gd1 : Gd S nh ps.length N { n.met0 ps p with st := ((n.met0 ps p).st.set p.1.toNat e).set p.2.toNat e, ar := (n.met0 ps p).ar.set t.toNat e } := by
        have z := g5
        refine ⟨by show (((n.met0 ps p).st.set _ _).set _ _).length = nh; rw [List.length_set, List.length_set]; exact z.st, by show ((n.met0 ps p).ar.set _ _).length = _; rw [List.length_set]; exact z.ar, z.co, z.ti, fun x hx => ?_, fun x hx => ?_, z.coR, z.tiR, z.sp, z.go, z.bk⟩
        · rcases mem_set_or (show x ∈ ((n.met0 ps p).st.set p.1.toNat e).set p.2.toNat e from hx) with k | k
          · rcases mem_set_or k with k | k
            · exact z.stR x k
            · rw [k]; exact heR
          · rw [k]; exact heR
        · rcases mem_set_or (show x ∈ (n.met0 ps p).ar.set t.toNat e from hx) with k | k
          · exact z.arR x k
          · rw [k]; exact heR
      refine ⟨_, rfl, _, rfl, (by show 2 ≤ sizeLine; decide), fun q1 hq1 => ⟨_, rfl, _, rfl, (by show 2 ≤ sizeLine; decide), fun q2 hq2 => ?_⟩⟩
      have s11 : Same H9 (upd H9 q1 (.tup [.str "meet", .int t])) := same_new hq1
      have s12 := s11.trans (same_new (o := .tup [.int p.1, .int p.2]) hq2)
      have hq12 : upd (upd H9 q1 (.tup [.str "meet", .int t])) q2 (.tup [.int p.1, .int p.2]) q1 = some (.tup (stpV (.meet t))) := same_new hq2 _ _ upd_same
      have hq22 : upd (upd H9 q1 (.tup [.str "meet", .int t])) q2 (.tup [.int p.1, .int p.2]) q2 = some (.tup ([p.1, p.2].map V.int)) := upd_same
      have F512 : Fo f5 H5 (upd (upd H9 q1 (.tup [.str "meet", .int t])) q2 (.tup [.int p.1, .int p.2])) := F59.trans (.of s12)
      have k12 := F512.tup R5
      refine ⟨f5, { n.met0 ps p with st := ((n.met0 ps p).st.set p.1.toNat e).set p.2.toNat e, ar := (n.met0 ps p).ar.set t.toNat e }, ps, q1, q2, .meet t, [p.1, p.2], S, nh, N, rfl, ⟨sa5, ga5, bk5, ca5, tv5, R9.same s12, hsa5.keep k12, hga5.keep k12, hbk5.keep k12, hti5⟩, gd1, hN, hq12, hq22, (by show 2 ≤ 2; decide), fun x hx => ?_, fun H13 N13 F13 => ?_⟩
      · rcases List.mem_cons.mp hx with hx | hx
        · rw [hx]; exact ⟨a0, a1⟩
        · rw [List.mem_singleton.mp hx]; exact ⟨b0, b1⟩
      · refine ⟨_, rfl, e, rfl, log_small heR.1 (by have := heR.2; have := hT.s12; omega), ?_⟩
        exact (k (some e) hj).2 e rfl H13 f5 ed N13 (F5.next (F512.trans F13) N5) N5
    refine ⟨_, rfl, D, _, rfl, .inl (SqL.of e4'), rfl, _, rfl, ?_⟩
    rw [List.length_map]
    have memU : ∀ h ∈ n.unread p, noCopy n.co h = true ∧ 0 ≤ h ∧ h < (nh : Int) := fun h hh => by
      have z := List.mem_filter.mp hh
      refine ⟨z.2, ?_⟩
      have z1 := z.1
      rcases List.mem_cons.mp z1 with e | e
      · rw [e]; exact ⟨a0, a1⟩
      · rw [List.mem_singleton.mp e]; exact ⟨b0, b1⟩
    by_cases c1 : (n.unread p).length = 1
    · refine itdT (by rw [c1]; rfl) ?_
      obtain ⟨h, hu1, _⟩ := oneOf_one c1
      have hm0 : n.met0 ps p = n.read ps h := by unfold Net.met0; rw [hu1]
      obtain ⟨nc, nc0, nc1⟩ := memU h (by rw [hu1]; exact List.mem_singleton.mpr rfl)
      rw [hu1] at e4'
      refine ⟨_, rfl, _, rfl, _, rfl, D, _, _, _, rfl, rfl, SqL.of e4', at_of (j := 0) (v := .int h) rfl rfl, ?_⟩
      refine ⟨f, n, ps, tl, ts, h, S, nh, N, rfl, hN4, g, hN, hW, s04 _ _ htl, hTs.same s04, ntl, nc0, nc1, fun H5 f5 ed N5 F5 M5 => ?_⟩
      rw [← hm0] at N5
      exact rest H5 f5 ed N5 (F04.trans F5) (FtN.refl.trans M5 F04) _
    · refine itdF (fun z => c1 (by injection z with z; omega)) ?_
      have hm0 : n.met0 ps p = n := by
        unfold Net.met0
        match hu1 : n.unread p, c1 with
        | [], _ => rfl
        | [_], c1 => exact absurd rfl c1
        | _ :: _ :: _, _ => rfl
      refine rest H4 f rfl ?_ F04 FtN.refl _
      rw [hm0]
      exact hN4
end
end Hl
set_option Elab.async false
set_option linter.all false
set_option maxRecDepth 100000
set_option maxHeartbeats 8000000
namespace Hl
open PySem PySem.Spec PyProof.Rows L2
def spLHeld : Sp := fun vs H Q _ => ∃ (f : Ft) (n : Net) (ps : List Pr) (w : Str) (S nh N : Nat), vs = [.ref f.d, .str w] ∧ NetD H f n ps ∧ Gd S nh ps.length N n ∧ N ≤ 100 ∧ S ≤ 8 ∧ nh ≤ 4 ∧ ps.length ≤ 5 ∧ w ∈ sixW ∧ ∀ H', Same H H' → Q (.str (held n w)) H'
theorem held_some {n : Net} {w : Str} {c t : List Int} {g : List Stp} (c1 : ¬ w = "states") (c2 : ¬ w = "ties") (c3 : ¬ w = "copies") (c4 : ¬ w = "steps") (hb : n.bk = some (c, t, g)) : held n w = if w = "caught" then tx g.length else rowTx c ++ ", " ++ rowTx t := by
  unfold held
  rw [if_neg c1, if_neg c2, if_neg c3, if_neg c4, hb]
section
variable {P : Program} {w : World} {K : PySem.W.Frag} {mg : Str → Option Value} {base : Heap} {a : Ad} {d : Fd}
theorem ok_LHeld (T : Txt P w K mg a d) : FnOk P w K mg base CX0 2 a.fLHeld d.fLHeld pLHeld spLHeld := by
  have GL : FnOk P w K mg base CX0 1 a.fLRow d.fLRow pLRow (spLRowL K) := ok_LRowL T
  have GT : FnOk P w K mg base CX0 1 a.fLRow d.fLRow pLRow (spLRowT K) := ok_LRowT T
  refine T.FLHeld.ok scLHeld (fun vs H Q E h => ?_) (fun cdv A outer s H vs Q E hr h => ?_)
  · obtain ⟨f, n, ps, w, S, nh, N, rfl, _⟩ := h
    rfl
  · obtain ⟨f, n, ps, w, S, nh, N, rfl, ⟨sa, ga, bk, ca, tv, R, hsa, hga, hbk, hti⟩, g, hN, hS8, n4, n5, hw6, six⟩ := h
    have hu := hu_of hr
    have r8 : ∀ x, InR S x → InR 8 x := fun x hx => ⟨hx.1, by have := hx.2; omega⟩
    refine ⟨_, pss_cons (ps_if (pt_cmpR op_eq (pv 1) pe_str (nomark _)) (pss_one (ps_ret (pe_call GL hr (by rfl) T.gLRow T.FLRow.kp T.bLRow .nil pass0 (pa_cons (pe_dget hu (pv 0) pe_str (fun _ _ => rfl)) pa_nil)))) pss_nil)
      (pss_cons (ps_if (pt_cmpR op_eq (pv 1) pe_str (nomark _)) (pss_one (ps_ret (pe_call GL hr (by rfl) T.gLRow T.FLRow.kp T.bLRow .nil pass0 (pa_cons (pe_dget hu (pv 0) pe_str (fun _ _ => rfl)) pa_nil)))) pss_nil)
      (pss_cons (ps_if (pt_cmpR op_eq (pv 1) pe_str (nomark _)) (pss_one (ps_ret (pe_join pe_str (pe_lc (own := [("_law_copy", 2)]) (g := gName 2) (tt := tYes) (te := tIf (tTest (tOp rIsN (tVar 2) (tC .non))) (tC (.str "?")) (tCB rStrI (tCons (tVar 2) tNil))) rfl scLHeld.nd (pi_list (pe_dget hu (pv 0) pe_str (fun _ _ => rfl))) (blkOk_by (own := [("_law_copy", 2)]) (N := nLHeld) (sc := defScope sLHeld) (by decide +kernel))
        (fun _ _ _ _ _ => pg_name (i := 2) scLHeld.nd rfl (Or.inl rfl)) (fun _ _ _ _ _ => pts_nil)
        (fun _ _ _ _ _ => pe_ifExp (pt_cmpR op_isN (pv 2) pe_non (nomark _)) pe_str (pe_callTy call_str_int (by rfl) T.b_str boot_str (pa_cons (pv 2) pa_nil))))))) pss_nil)
      (pss_cons (ps_if (pt_cmpR op_eq (pv 1) pe_str (nomark _)) (pss_one (ps_ret (pe_callTy call_str_int (by rfl) T.b_str boot_str (pa_cons (pe_callB call_len_seq (by rfl) T.b_len boot_len (pa_cons (pe_dget hu (pv 0) pe_str (fun _ _ => rfl)) pa_nil)) pa_nil)))) pss_nil)
      (pss_cons (ps_if (pt_cmpR op_isN (pe_dget hu (pv 0) pe_str (fun _ _ => rfl)) pe_non (nomark _)) (pss_one (ps_ret pe_str)) pss_nil)
      (pss_one (ps_ret (pe_ifExp (pt_cmpR op_eq (pv 1) pe_str (nomark _)) (pe_callTy call_str_int (by rfl) T.b_str boot_str (pa_cons (pe_callB call_len_seq (by rfl) T.b_len boot_len (pa_cons (pe_dget hu (pv 0) pe_str (fun _ _ => rfl)) pa_nil)) pa_nil))
        (pe_op op_add_str (pe_op op_add_str (pe_call GT hr (by rfl) T.gLRow T.FLRow.kp T.bLRow .nil pass0 (pa_cons (pe_ix ix_tup (pe_dget hu (pv 0) pe_str (fun _ _ => rfl)) pe_int (fun _ _ => rfl)) pa_nil)) pe_str)
          (pe_call GT hr (by rfl) T.gLRow T.FLRow.kp T.bLRow .nil pass0 (pa_cons (pe_ix ix_tup (pe_dget hu (pv 0) pe_str (fun _ _ => rfl)) pe_int (fun _ _ => rfl)) pa_nil)))))))))), ?_⟩
    refine ⟨_, rfl, rfl, _, rfl, ?_⟩
    by_cases c1 : w = "states"
    · have q := six
      unfold held at q
      rw [if_pos c1] at q
      exact itdT (by rw [c1]) ⟨_, rfl, f.d, _, rfl, R.g_st, f.ls, n.st, rfl, R.ls, by rw [g.st]; omega, fun x hx => r8 x (g.stR x hx), q⟩
    refine itdF (fun z => c1 (by injection z)) ?_
    refine ⟨_, rfl, rfl, _, rfl, ?_⟩
    by_cases c2 : w = "ties"
    · have q := six
      unfold held at q
      rw [if_neg c1, if_pos c2] at q
      exact itdT (by rw [c2]) ⟨_, rfl, f.d, _, rfl, R.g_ar, f.la, n.ar, rfl, R.la, by rw [g.ar]; omega, fun x hx => r8 x (g.arR x hx), q⟩
    refine itdF (fun z => c2 (by injection z)) ?_
    refine ⟨_, rfl, rfl, _, rfl, ?_⟩
    by_cases c3 : w = "copies"
    · have q := six
      unfold held at q
      rw [if_neg c1, if_neg c2, if_pos c3] at q
      refine itdT (by rw [c3]) ⟨⟨_, rfl⟩, _, rfl, f.d, _, rfl, R.g_co, f.lc, rfl, ⟨_, SqL.of R.lc⟩, fun D hD => ?_⟩
      refine lc_fil (walk_list (xs := n.co.map oV)) (fun _ => true) (fun i => .str (cTx (n.co.getD i none))) hD (by rw [List.length_map, g.co]; exact small8 (m := 4) n4) (fun H s => .inl (.inl (s _ _ R.lc))) (fun i x H2 H3 kk k0 hi s2 y hy _ => ?_) (fun H2 s2 e => ?_)
      · obtain ⟨rfl, hyx⟩ := y
        obtain ⟨z, hz, rfl⟩ := map_at hyx
        have h3 := hy rfl _ (Same.refl _)
        rw [List.getD_eq_getElem?_getD, hz] at h3
        refine ⟨rfl, iteT (B := k0 H3) ?_⟩
        cases z with
        | none => exact ⟨_, rfl, rfl, _, rfl, itdT rfl h3⟩
        | some z =>
          have hm := r8 _ (g.coR z (List.mem_of_getElem? hz))
          exact ⟨_, rfl, rfl, _, rfl, itdF (fun z => by cases z) ⟨_, rfl, z, rfl, log_small hm.1 (by have := hm.2; omega), h3⟩⟩
      · rw [kept_all, List.length_map, range_fn (f := fun o => V.str (cTx o))] at e
        refine ⟨" ", D, n.co.map cTx, rfl, rfl, .inl (SqL.of (by rw [e, List.map_map]; rfl)), join_fits rfl (by rw [List.length_map, g.co]; omega) (fun y hy => ?_), q H2 s2⟩
        obtain ⟨z, hz, rfl⟩ := List.mem_map.mp hy
        cases z with
        | none => exact (by decide +kernel : (cTx none).length ≤ 2)
        | some z => exact tx_len (Nat.le_refl 8) (r8 _ (g.coR z hz))
    refine itdF (fun z => c3 (by injection z)) ?_
    refine ⟨_, rfl, rfl, _, rfl, ?_⟩
    by_cases c4 : w = "steps"
    · have q := six H (Same.refl _)
      unfold held at q
      rw [if_neg c1, if_neg c2, if_neg c3, if_pos c4] at q
      refine itdT (by rw [c4]) ⟨_, rfl, f.d, _, rfl, R.g_sp, f.lp, _, rfl, .inl (SqL.of R.lp), ?_⟩
      rw [List.length_map, hsa.1]
      exact ⟨_, rfl, log_small (by omega) (by have := g.sp; omega), q⟩
    refine itdF (fun z => c4 (by injection z)) ?_
    refine ⟨_, rfl, f.d, _, rfl, R.g_bk, rfl, _, rfl, ?_⟩
    cases hb : n.bk with
    | none =>
      rw [hb] at hbk
      refine itdT hbk.1 ?_
      have q := six H (Same.refl _)
      unfold held at q
      rw [if_neg c1, if_neg c2, if_neg c3, if_neg c4, hb] at q
      exact q
    | some x =>
      obtain ⟨c, t, gg⟩ := x
      rw [hb] at hbk
      obtain ⟨⟨bca, aca, rfl, hca, hca2⟩, bb, x, y, rfl, hbb, ⟨bx, rfl, hx⟩, ⟨by_, rfl, hy⟩⟩ := hbk
      obtain ⟨e1, e2, e3, e4, e5⟩ := g.bk c t gg hb
      refine itdF (fun z => by cases z) ?_
      refine ⟨_, rfl, rfl, _, rfl, ?_⟩
      by_cases c5 : w = "caught"
      · have q := six H (Same.refl _)
        rw [held_some c1 c2 c3 c4 hb, if_pos c5] at q
        refine itdT (by rw [c5]) ⟨_, rfl, f.d, _, rfl, R.g_ca, bca, _, rfl, .inr (SqT.of hca), ?_⟩
        rw [List.length_map, hca2.1]
        refine ⟨_, rfl, log_small (by omega) (by omega), ?_⟩
        exact q
      refine itdF (fun z => c5 (by injection z)) ?_
      have q := six
      rw [held_some c1 c2 c3 c4 hb, if_neg c5] at q
      have l1 := row_len (l := c) (by omega) fun x hx => r8 x (e3 x hx)
      have l2 := row_len (l := t) (by omega) fun x hx => r8 x (e4 x hx)
      refine ⟨_, rfl, f.d, _, rfl, R.g_bk, bb, _, _, _, rfl, rfl, SqT.of hbb, at_of (j := 0) (v := .ref bx) rfl rfl, bx, c, rfl, hx, by omega, fun x hx => r8 x (e3 x hx), fun H1 s1 => ?_⟩
      refine ⟨_, _, rfl, rfl, ?_, _, rfl, f.d, _, rfl, (R.same s1).g_bk, bb, _, _, _, rfl, rfl, SqT.of (s1 _ _ hbb), at_of (j := 1) (v := .ref by_) rfl rfl, by_, t, rfl, s1 _ _ hy, by omega, fun x hx => r8 x (e4 x hx), fun H2 s2 => ?_⟩
      · rw [sizeLine_eq]
        show (rowTx c).length + 2 ≤ _
        omega
      · refine ⟨_, _, rfl, rfl, ?_, q H2 (s1.trans s2)⟩
        rw [Str.length_append, sizeLine_eq]
        show (rowTx c).length + 2 + _ ≤ _
        omega
end
end Hl
set_option Elab.async false
set_option linter.all false
set_option maxRecDepth 100000
set_option maxHeartbeats 8000000
namespace Hl
open PySem PySem.Spec PyProof.Rows L2
/-! ### the lines that the law says -/
def lineB (z : Str) (c : Cmd) : Bool := okL (Txt.split z " ") && !isPlain (Txt.split z " ") && !badL (Txt.split z " ") && decide (hdW (Txt.split z " ") = c.word) && decide (numsOf (Txt.split z " ") = c.nums.map some) && decide (z.length ≤ 100)
structure LineC (z : Str) (c : Cmd) : Prop where
  ok : okL (Txt.split z " ") = true
  pl : isPlain (Txt.split z " ") = false
  bad : badL (Txt.split z " ") = false
  hd : hdW (Txt.split z " ") = c.word
  num : numsOf (Txt.split z " ") = c.nums.map some
  len : z.length ≤ 100
theorem lineC {z : Str} {c : Cmd} (h : lineB z c = true) : LineC z c := by
  unfold lineB at h
  simp only [Bool.and_eq_true, Bool.not_eq_true', decide_eq_true_eq] at h
  obtain ⟨⟨⟨⟨⟨a, b⟩, c⟩, d⟩, e⟩, f⟩ := h
  exact ⟨a, b, c, d, e, f⟩
theorem do_line0 : ∀ h : Nat, h < 5 → ∀ d : Nat, d < 4 → lineB (("do " ++ tx h) ++ " " ++ tx d) (.doo h d) = true := by decide +kernel
theorem meet_line0 : ∀ h : Nat, h < 6 → lineB ("meet " ++ tx h) (.meet h) = true := by decide +kernel
theorem read_line0 : ∀ h : Nat, h < 6 → lineB ("read " ++ tx h) (.read h) = true := by decide +kernel
theorem doH_line0 : ∀ h : Nat, h < 6 → lineB ("do " ++ tx h ++ " 0") (.doo h 0) = true := by decide +kernel
theorem doD_line0 : ∀ h : Nat, h < 6 → lineB ("do 0 " ++ tx h) (.doo 0 h) = true := by decide +kernel
theorem big_line : LineC "read 999999999" (.read 999999999) := lineC (by decide +kernel)
def oddB (z : V) : Bool := okL (wordsOf z) && !isPlain (wordsOf z) && badL (wordsOf z)
def oddT : List V := [.str "", .str " ", .str "do", .str "do 0", .str "do 0 00", .str "do 0 0 0", .str "do  0 0", .str "do 0 0 ", .str "do 0 -1", .str "meet", .str "meet 0 0", .str "meet x", .str "read", .str "read 1000000000"]
def oddT2 (q : Addr) : List V := [.str "read 0 0", .str "states 0", .str "State", .str "back 0", .str " back", .str "back ", .str "steps\n", .str "copies,", .non, .int 7, .ref q, .str "none", .str "read +0"]
theorem odd1 : oddT.all oddB = true := by decide +kernel
theorem odd2 : ∀ q : Addr, (oddT2 q).all oddB = true := fun q => by
  show ((oddT2 0).take 10 ++ [V.ref q] ++ (oddT2 0).drop 11).all oddB = true
  rw [List.all_append, List.all_append]
  have h1 : ((oddT2 0).take 10).all oddB = true := by decide +kernel
  have h2 : ((oddT2 0).drop 11).all oddB = true := by decide +kernel
  have h3 : ([V.ref q] : List V).all oddB = true := by
    rw [List.all_cons, show oddB (V.ref q) = oddB V.non from rfl]
    decide +kernel
  rw [h1, h2, h3]
  rfl
def lenB (z : V) : Bool := match z with
  | .str z => decide (z.length ≤ 100)
  | _ => true
theorem len1 : oddT.all lenB = true := by decide +kernel
theorem len2 : ∀ q : Addr, (oddT2 q).all lenB = true := fun q => by
  show ((oddT2 0).take 10 ++ [V.ref q] ++ (oddT2 0).drop 11).all lenB = true
  rw [List.all_append, List.all_append]
  have h1 : ((oddT2 0).take 10).all lenB = true := by decide +kernel
  have h2 : ((oddT2 0).drop 11).all lenB = true := by decide +kernel
  rw [h1, h2]
  rfl
theorem back_line : isPlain (Txt.split "back" " ") = true ∧ hdW (Txt.split "back" " ") = "back" ∧ okL (Txt.split "back" " ") = true := by decide +kernel
theorem six_line : ∀ w ∈ sixW, isPlain (Txt.split w " ") = true ∧ hdW (Txt.split w " ") = w ∧ okL (Txt.split w " ") = true ∧ w.length ≤ 100 := by decide +kernel
end Hl
set_option Elab.async false
set_option linter.all false
set_option maxRecDepth 100000
set_option maxHeartbeats 8000000
namespace Hl
open PySem PySem.Spec PyProof.Rows L2
/-! ### o.m(k = v, ..) -/
def tMethK (C : Addr) (m : Str) (l : Nat) (sp : Sp) (gV : List V → List V → List V) (E : XK) (ta : TE) (tk : TA) : TE := fun σ H Q => ta σ H fun x H1 => ∃ a dx fs, x = .ref a ∧ H1 a = some (.ins C dx fs) ∧ fs.lookup m = none ∧
  tk σ H1 fun zs H2 => zs.length = l ∧ sp (gV [x] zs) H2 Q E
section
variable {X : Cx} {CX : CXT} {k : Nat} {f C : Addr} {fd : FuncData} {ps ks : List Str} {sp : Sp} {E : XK} {m : Str} {pos apos : Pos} {o : Expr} {kws : List Keyword} {ta : TE} {tk : TA} {g : List Value → List Value → List Value} {gV : List V → List V → List V}
theorem pe_methK0 {pl : Sem Bool} (he : PE X o ta) (c : Cls X.K C) (hm : Meth X.K C m f) (F : FnOk X.prog X.w X.K X.mg X.base CX k f fd ps sp) (hr : Room k X.A) (hb : KBn X.K fd ps 1 ks g gV) (hx : Passes CX X E) (hkw : PK X kws tk)
    (hall : (backToKw pos (keywordEach kws X.env)).all (·.1.isSome) = true := by rfl) (hks : (backToKw pos (keywordEach kws X.env)).filterMap (·.1) = ks := by rfl)
    (hpl : ((backTo pos (starEach [] X.env)).any (·.1) || (backToKw pos (keywordEach kws X.env)).any (·.1.isNone)) = false := by rfl)
    (ht : eval (.Call (.Attribute o m apos) [] kws pos) X.env = (do
      let ov ← eval o X.env
      standAt apos.atName
      let (f, first) ← holding [ov] (getMethod ov m pl)
      callWith pos f first (backTo pos (starEach [] X.env)) (backToKw pos (keywordEach kws X.env))) := by rfl) :
    PE X (.Call (.Attribute o m apos) [] kws pos) (tMethK C m ks.length sp gV E ta tk) := by
  refine ⟨fun pins s σ H Q I h => ?_⟩
  refine PySem.W.methodCall_KW (pl := pl) (thn (he.run pins s σ H _ I h) fun u s1 ⟨x, H1, I1, rx, a, dx, fs, ex, ea, l, q⟩ => ?_) ht
  subst ex
  obtain rfl : u = Value.ref a := rx
  refine getmeth_ok I1 ea c hm l ?_
  refine PySem.W.callWith_KW0 (first := [.ref a]) (h₀ := X.base) I.ok.mod.kin hm.kp hall ?_ hpl
  refine thn (hkw.run pos pins s1 σ H1 _ I1 q) fun ws s2 ⟨zs, H2, I2, rz, l2, q2⟩ => ⟨I2.kIn, ?_⟩
  rw [hks]
  exact run_fnN (us := [.ref a]) (vs := [.ref a]) F hr hb hx I2 (.cons rfl .nil) rz rfl l2 q2
end
/-- a call with keywords of a def without defaults -/
theorem kbn_of {K : PySem.W.Frag} {x qual : Str} {st : Stmt} {f : Addr} {fd : FuncData} {ps ks : List Str} {n : Nat} {g : List Value → List Value → List Value} {gV : List V → List V → List V} (F : Fun K x qual st f fd)
    (h : ∀ (kV doc pm : Value) (an : Option Addr) (cdv ct : Value) (us ws : List Value), us.length = n → ws.length = ks.length → bindArgs (PySem.W.fnOf x qual (defArgs st) (defBody st) (defScope st) .none kV doc pm an cdv ct) ⟨us, ks.zip ws⟩ = pure (ps.zip (g us ws)))
    (hrel : ∀ {vs : List V} {us : List Value} {zs : List V} {ws : List Value}, Vals vs us → Vals zs ws → Vals (gV vs zs) (g us ws)) : KBn K fd ps n ks g gV := by
  obtain ⟨oc, od, kV, doc, pm, an, cdv, ct, osl, rfl, _, _⟩ := F.ex
  exact ⟨fun s us ws _ l1 l2 => .of_eq (h kV doc pm an cdv ct us ws l1 l2), hrel⟩
section
variable {P : Program} {w : World} {K : PySem.W.Frag} {mg : Str → Option Value} {a : Ad} {d : Fd}
theorem kw_say (T : Txt P w K mg a d) : KBn K d.fSay pSay 1 ["line"] (fun us ws => us ++ ws) (fun vs zs => vs ++ zs) := by
  refine kbn_of T.FSay (fun kV doc pm an cdv ct us ws l1 l2 => ?_) (fun r z => r.append z)
  match us, ws, l1, l2 with
  | [u], [v], _, _ => rfl
/-- the n-th of what is handed -/
def nthO {α : Type} (l : List α) (i : Nat) : List α := (l.drop i).take 1
theorem nth_vals : ∀ {vs : List V} {us : List Value} (i : Nat), Vals vs us → Vals (nthO vs i) (nthO us i)
  | [], _, i, h => by
    cases h
    unfold nthO
    rw [List.drop_nil, List.drop_nil]
    exact .nil
  | v :: vs, _, 0, h => by
    cases h with
    | cons x t => exact .cons x .nil
  | v :: vs, _, i + 1, h => by
    cases h with
    | cons x t => exact nth_vals i t
theorem kw_desk (T : Txt P w K mg a d) : KBn K d.fDeskI pDeskI 1 ["first", "web", "machine"] (fun us ws => us ++ (nthO ws 2 ++ (nthO ws 1 ++ nthO ws 0))) (fun vs zs => vs ++ (nthO zs 2 ++ (nthO zs 1 ++ nthO zs 0))) := by
  refine kbn_of T.FDeskI (fun kV doc pm an cdv ct us ws l1 l2 => ?_) (fun r z => r.append ((nth_vals 2 z).append ((nth_vals 1 z).append (nth_vals 0 z))))
  match us, ws, l1, l2 with
  | [u], [v1, v2, v3], _, _ => rfl
end
end Hl
set_option Elab.async false
set_option linter.all false
set_option maxRecDepth 100000
set_option maxHeartbeats 8000000
namespace Hl
open PySem PySem.Spec PyProof.Rows L2
/-! ### store and law side by side -/
def NoL : HO → Prop
  | .ins .. => True
  | .tup _ => True
  | _ => False
/-- all instances and tuples are as they were -/
def KNL (H H' : Hp) : Prop := ∀ b o, H b = some o → NoL o → H' b = some o
theorem KNL.tup {H H' : Hp} (k : KNL H H') : TupK H H' := fun b xs e => k b _ e trivial
theorem KNL.box {H H' : Hp} {b : Addr} (h : But b H H') (B : BoxAt H b) : KNL H H' := fun p o e n => h p o e fun z => by
  obtain ⟨u, e1, c0, c1, rfl, _⟩ := B
  rw [z, e1] at e
  rw [← Option.some.inj e] at n
  exact n
theorem Raw.nol {H : Hp} {f : Ft} {st ar co tv : List V} {sa ga : List Addr} {bk ca : V} (h : Raw H f st ar sa ga bk ca co tv) {b : Addr} (hb : b ∈ f.list) : ∃ o, H b = some o ∧ ¬ NoL o := by
  unfold Ft.list at hb
  simp only [List.mem_cons, List.not_mem_nil, or_false] at hb
  rcases hb with rfl | rfl | rfl | rfl | rfl | rfl | rfl
  · exact ⟨_, h.d, fun z => z⟩
  · exact ⟨_, h.ls, fun z => z⟩
  · exact ⟨_, h.la, fun z => z⟩
  · exact ⟨_, h.lp, fun z => z⟩
  · exact ⟨_, h.lc, fun z => z⟩
  · exact ⟨_, h.lt, fun z => z⟩
  · exact ⟨_, h.lg, fun z => z⟩
theorem NetD.nol {H : Hp} {f : Ft} {n : Net} {ps : List Pr} (h : NetD H f n ps) {b : Addr} (hb : b ∈ f.list) : ∃ o, H b = some o ∧ ¬ NoL o := by
  obtain ⟨_, _, _, _, _, R, _⟩ := h
  exact R.nol hb
theorem KNL.law {H H' : Hp} {f : Ft} {n : Net} {ps : List Pr} (h : NetD H f n ps) (k : Fo f H H') : KNL H H' := fun b o e no => k b o e fun hb => by
  obtain ⟨o', e', z⟩ := h.nol hb
  rw [e] at e'
  rw [← Option.some.inj e'] at z
  exact z no
theorem StoreAt.knl {a : Ad} {H H' : Hp} {s m wb : Addr} {tb : List (List Int)} {S : Nat} {ps : List Pr} {nh N : Nat} {n : Net} (h : StoreAt a H s m wb tb S ps nh N n) (k : KNL H H') : StoreAt a H' s m wb tb S ps nh N n := by
  obtain ⟨⟨dx, first, st, ar, sp, bk, ca, co, ti, go, h1, h2⟩, ⟨⟨⟨d1, t1, b1, m1, m2, m3⟩, m4⟩, ⟨⟨d2, t2, b2, w1, w2, w3⟩, w4⟩, nm, nw⟩, g⟩ := h
  exact ⟨⟨dx, first, st, ar, sp, bk, ca, co, ti, go, k _ _ h1 trivial, h2.keep k.tup⟩, ⟨⟨⟨d1, t1, b1, k _ _ m1 trivial, k _ _ m2 trivial, m3.1, fun j a r e1 e2 => k _ _ (m3.2 j a r e1 e2) trivial⟩, m4⟩, ⟨⟨d2, t2, b2, k _ _ w1 trivial, k _ _ w2 trivial, w3.1, fun j a r e1 e2 => k _ _ (w3.2 j a r e1 e2) trivial⟩, w4⟩, nm, nw⟩, g⟩
theorem StoreAt.mono {a : Ad} {H : Hp} {s m wb : Addr} {tb : List (List Int)} {S : Nat} {ps : List Pr} {nh N N' : Nat} {n : Net} (h : StoreAt a H s m wb tb S ps nh N n) (l : N ≤ N') : StoreAt a H s m wb tb S ps nh N' n := ⟨h.at_, h.und, h.gd.mono l⟩
theorem DeskAt.knl {C : Addr} {H H' : Hp} {dk s : Addr} (h : DeskAt C H dk s) (k : KNL H H') : DeskAt C H' dk s := by
  obtain ⟨dx, e⟩ := h
  exact ⟨dx, k _ _ e trivial⟩
structure Wd (a : Ad) (H : Hp) (dk s m wb : Addr) (f : Ft) (ta tl : Addr) (as ts : List Addr) (tb : List (List Int)) (S : Nat) (ps : List Pr) (nh N : Nat) (nS nL : Net) : Prop where
  desk : DeskAt a.cDesk H dk s
  store : StoreAt a H s m wb tb S ps nh N nS
  net : NetD H f nL ps
  tas : H ta = some (.lst (as.map V.ref))
  rows : RowsL H as tb
  tls : H tl = some (.lst (ts.map V.ref))
  ties : TiesL H ts ps
  nta : ta ∉ f.list
  ntl : tl ∉ f.list
  nas : ∀ q ∈ as, q ∉ f.list
structure Bx (H : Hp) (b : Addr) (f : Ft) (ta tl : Addr) (as : List Addr) : Prop where
  at_ : BoxAt H b
  nf : b ∉ f.list
  na : b ≠ ta
  nl : b ≠ tl
  ns : b ∉ as
section
variable {a : Ad} {H H' : Hp} {dk s m wb ta tl b : Addr} {f f' : Ft} {as ts : List Addr} {tb : List (List Int)} {S : Nat} {ps : List Pr} {nh N N' : Nat} {nS nL n' : Net}
theorem Wd.row_at (h : Wd a H dk s m wb f ta tl as ts tb S ps nh N nS nL) {q : Addr} (hq : q ∈ as) : ∃ r : List Int, H q = some (.lst (r.map V.int)) := by
  obtain ⟨j, hj, e⟩ := List.mem_iff_getElem.mp hq
  obtain ⟨r, hr⟩ := there (l := tb) (i := j) (by rw [← h.rows.1]; exact hj)
  exact ⟨r, h.rows.2 j q r (by rw [List.getElem?_eq_getElem hj, e]) hr⟩
theorem Wd.same (h : Wd a H dk s m wb f ta tl as ts tb S ps nh N nS nL) (k : Same H H') : Wd a H' dk s m wb f ta tl as ts tb S ps nh N nS nL := by
  obtain ⟨dx, e⟩ := h.desk
  exact ⟨⟨dx, k _ _ e⟩, h.store.same k, h.net.same k, k _ _ h.tas, h.rows.same k, k _ _ h.tls, h.ties.same k, h.nta, h.ntl, h.nas⟩
theorem Wd.mono (h : Wd a H dk s m wb f ta tl as ts tb S ps nh N nS nL) (l : N ≤ N') : Wd a H dk s m wb f ta tl as ts tb S ps nh N' nS nL := ⟨h.desk, h.store.mono l, h.net, h.tas, h.rows, h.tls, h.ties, h.nta, h.ntl, h.nas⟩
theorem Wd.box (h : Wd a H dk s m wb f ta tl as ts tb S ps nh N nS nL) (k : But b H H') (B : Bx H b f ta tl as) : Wd a H' dk s m wb f ta tl as ts tb S ps nh N nS nL := by
  have kn := KNL.box k B.at_
  exact ⟨h.desk.knl kn, h.store.knl kn, h.net.keep kn.tup (fun p hp o e => k p o e fun z => B.nf (z ▸ hp)), k _ _ h.tas (Ne.symm B.na), ⟨h.rows.1, fun j q r e1 e2 => k _ _ (h.rows.2 j q r e1 e2) fun z => B.ns (z ▸ List.mem_of_getElem? e1)⟩, k _ _ h.tls (Ne.symm B.nl), h.ties.tup kn.tup, h.nta, h.ntl, h.nas⟩
theorem ftn_no (h : FtN f f' H) {p : Addr} {o : HO} (e : H p = some o) (n : p ∉ f.list) : p ∉ f'.list := fun z => by
  rcases h p z with q | q
  · exact n q
  · rw [q] at e; cases e
theorem Wd.law (h : Wd a H dk s m wb f ta tl as ts tb S ps nh N nS nL) (x : NetD H' f' n' ps) (k : Fo f H H') (y : FtN f f' H) : Wd a H' dk s m wb f' ta tl as ts tb S ps nh N nS n' := by
  have kn := KNL.law h.net k
  exact ⟨h.desk.knl kn, h.store.knl kn, x, k _ _ h.tas h.nta, ⟨h.rows.1, fun j q r e1 e2 => k _ _ (h.rows.2 j q r e1 e2) (h.nas q (List.mem_of_getElem? e1))⟩, k _ _ h.tls h.ntl, h.ties.tup kn.tup, ftn_no y h.tas h.nta, ftn_no y h.tls h.ntl, fun q hq => by
    obtain ⟨r, e⟩ := h.row_at hq
    exact ftn_no y e (h.nas q hq)⟩
theorem Wd.st (h : Wd a H dk s m wb f ta tl as ts tb S ps nh N nS nL) (x : StoreAt a H' s m wb tb S ps nh N' n') (k : But s H H') : Wd a H' dk s m wb f ta tl as ts tb S ps nh N' n' nL := by
  obtain ⟨⟨dx, first, st, ar, sp, bk, ca, co, ti, go, hs, _⟩, _, _⟩ := id h.store
  obtain ⟨dd, hdk⟩ := id h.desk
  have nl : ∀ {q : Addr} {xs : List V}, H q = some (.lst xs) → q ≠ s := fun e => ne_of e hs (by intro z; cases z)
  have ns : s ∉ f.list := fun z => by
    obtain ⟨o, e, no⟩ := h.net.nol z
    rw [hs] at e
    rw [← Option.some.inj e] at no
    exact no trivial
  have ndk : dk ≠ s := fun z => by
    rw [z, hs] at hdk
    have e := Option.some.inj hdk
    injection e with _ _ e
    have l := congrArg List.length e
    simp [storeF] at l
  exact ⟨⟨dd, k _ _ hdk ndk⟩, x, h.net.but k hs (fun _ z => by cases z) ns, k _ _ h.tas (nl h.tas), ⟨h.rows.1, fun j q r e1 e2 => k _ _ (h.rows.2 j q r e1 e2) (nl (h.rows.2 j q r e1 e2))⟩, k _ _ h.tls (nl h.tls), h.ties.tup (k.tup hs), h.nta, h.ntl, h.nas⟩
theorem Bx.but {u : HO} (B : Bx H b f ta tl as) (hu : BxO u) : Bx (upd H b u) b f ta tl as := ⟨taken hu, B.nf, B.na, B.nl, B.ns⟩
theorem Bx.same (B : Bx H b f ta tl as) (k : Same H H') : Bx H' b f ta tl as := by
  obtain ⟨⟨u, e, hu⟩, n1, n2, n3, n4⟩ := B
  exact ⟨⟨u, k _ _ e, hu⟩, n1, n2, n3, n4⟩
theorem Bx.law (B : Bx H b f ta tl as) (k : Fo f H H') (y : FtN f f' H) : Bx H' b f' ta tl as := by
  obtain ⟨⟨u, e, hu⟩, n1, n2, n3, n4⟩ := B
  exact ⟨⟨u, k _ _ e n1, hu⟩, ftn_no y e n1, n2, n3, n4⟩
theorem Bx.st (B : Bx H b f ta tl as) (h : StoreAt a H s m wb tb S ps nh N nS) (k : But s H H') : Bx H' b f ta tl as := by
  obtain ⟨⟨dx, first, st, ar, sp, bk, ca, co, ti, go, hs, _⟩, _, _⟩ := id h
  obtain ⟨⟨u, e, hu⟩, n1, n2, n3, n4⟩ := B
  obtain ⟨c0, c1, rfl, _⟩ := id hu
  exact ⟨⟨_, k _ _ e (ne_of e hs (by intro z; cases z)), hu⟩, n1, n2, n3, n4⟩
/-- all but X is as it was -/
def Frm (X : List Addr) (H H' : Hp) : Prop := ∀ b o, H b = some o → b ∉ X → H' b = some o
theorem Frm.refl {X : List Addr} : Frm X H H := fun _ _ e _ => e
theorem Frm.of {X : List Addr} (k : Same H H') : Frm X H H' := fun b o e _ => k b o e
theorem Frm.but {X : List Addr} (k : But b H H') (h : b ∈ X) : Frm X H H' := fun p o e n => k p o e fun z => n (z ▸ h)
theorem Frm.law {X : List Addr} (k : Fo f H H') (h : ∀ p ∈ f.list, p ∈ X) : Frm X H H' := fun p o e n => k p o e fun z => n (h p z)
theorem Frm.trans {X : List Addr} {H1 : Hp} (x : Frm X H H1) (y : Frm X H1 H') : Frm X H H' := fun b o e n => y b o (x b o e n) n
/-! ### what say promises -/
variable {K : PySem.W.Frag} {Q : VK} {E : XK}
theorem say_cmd {z : Str} {c : Cmd} (h : Wd a H dk s m wb f ta tl as ts tb S ps nh N nS nL) (hN : N ≤ 100) (l : LineC z c) (q : CmdW a H s m wb tb S ps nh N nS (fun i H' => Q (.str (tx i)) H') (ECatch a Q) c) : spSay a K [.ref dk, .str z] H Q E :=
  ⟨dk, s, m, wb, tb, S, ps, nh, N, nS, .str z, true, rfl, h.desk, h.store, hN, .str z, fun y e => by injection e with e; rw [← e]; exact l.len, l.ok, .inr (.inr ⟨l.pl, l.bad, c, l.hd, l.num, q⟩)⟩
theorem say_six {z : Str} (h : Wd a H dk s m wb f ta tl as ts tb S ps nh N nS nL) (hN : N ≤ 100) (l : z ∈ sixW) (q : ∀ H', Same H H' → Q (.str (held nS z)) H') : spSay a K [.ref dk, .str z] H Q E := by
  obtain ⟨e1, e2, e3, e4⟩ := six_line z l
  refine ⟨dk, s, m, wb, tb, S, ps, nh, N, nS, .str z, true, rfl, h.desk, h.store, hN, .str z, fun y e => by injection e with e; rw [← e]; exact e4, e3, .inl ⟨e1, .inl ?_⟩⟩
  show hdW (Txt.split z " ") ∈ sixW ∧ ∀ H', Same H H' → Q (.str (held nS (hdW (Txt.split z " ")))) H'
  rw [e2]
  exact ⟨l, q⟩
theorem say_back (h : Wd a H dk s m wb f ta tl as ts tb S ps nh N nS nL) (hN : N ≤ 100) (q1 : nS.bk = none → ∀ H', Same H H' → Q (.str "none") H') (q2 : ∀ c t g, nS.bk = some (c, t, g) → ∀ H', StoreAt a H' s m wb tb S ps nh N (nS.back c t g) → But s H H' → Q (.str "ok") H') : spSay a K [.ref dk, .str "back"] H Q E :=
  ⟨dk, s, m, wb, tb, S, ps, nh, N, nS, .str "back", true, rfl, h.desk, h.store, hN, .str "back", fun y e => by injection e with e; rw [← e]; decide +kernel, back_line.2.2, .inl ⟨back_line.1, .inr ⟨back_line.2.1, q1, q2⟩⟩⟩
theorem say_odd {v : V} {bb : Bool} (h : Wd a H dk s m wb f ta tl as ts tb S ps nh N nS nL) (hN : N ≤ 100) (hl : LineV K H v bb) (l : oddB v = true) (le : lenB v = true) (q : ∀ (H' : Hp) (d : Addr), Same H H' → H d = none → H' d = some (.xd [("at", .int 0)]) → E (.ref a.xBadText) (some d) H') : spSay a K [.ref dk, v] H Q E := by
  unfold oddB at l
  simp only [Bool.and_eq_true, Bool.not_eq_true'] at l
  obtain ⟨⟨l1, l2⟩, l3⟩ := l
  refine ⟨dk, s, m, wb, tb, S, ps, nh, N, nS, v, bb, rfl, h.desk, h.store, hN, hl, fun y e => ?_, l1, .inr (.inl ⟨l2, l3, q⟩)⟩
  rw [e] at le
  exact of_decide_eq_true le
end
end Hl
set_option Elab.async false
set_option maxRecDepth 100000
set_option maxHeartbeats 2000000
namespace Hl
/-! ### the steps' numbers are small -/
def stpOk : Stp → Prop
  | .doo h d => (0 ≤ h ∧ h < 10) ∧ 0 ≤ d ∧ d < 10
  | .meet t => 0 ≤ t ∧ t < 10
structure SpOk (n : Net) : Prop where
  sp : ∀ x ∈ n.sp, stpOk x
  go : ∀ x ∈ n.go, stpOk x
  bk : ∀ c t g, n.bk = some (c, t, g) → ∀ x ∈ g, stpOk x
theorem SpOk.ended {n : Net} (h : SpOk n) : SpOk n.ended := ⟨h.sp, h.sp, h.bk⟩
theorem SpOk.counted {n : Net} (h : SpOk n) {x : Stp} {hs : List Int} (hx : stpOk x) : SpOk (n.counted x hs) := by
  have sn : ∀ l : List Stp, (∀ y ∈ l, stpOk y) → ∀ y ∈ l ++ [x], stpOk y := fun l hl y hy => by
    rcases List.mem_append.mp hy with z | z
    · exact hl y z
    · rw [List.mem_singleton.mp z]; exact hx
  refine ⟨sn _ h.sp, ?_, h.bk⟩
  show ∀ y ∈ (if hs.all (noCopy n.co) = true then n.go ++ [x] else n.go), stpOk y
  by_cases c : hs.all (noCopy n.co) = true
  · rw [if_pos c]; exact sn _ h.go
  · rw [if_neg c]; exact h.go
theorem SpOk.doo {n : Net} (h : SpOk n) {tb : List (List Int)} {x d : Int} (hx : stpOk (.doo x d)) : SpOk (n.doo tb x d) :=
  SpOk.counted (n := { n with st := n.st.set x.toNat (nextSt tb d (n.st.getD x.toNat 0)) }) ⟨h.sp, h.go, h.bk⟩ hx
theorem SpOk.read {n : Net} (h : SpOk n) {ps : List Pr} {x : Int} : SpOk (n.read ps x) := by
  have h1 : SpOk (n.read1 ps x) := ⟨h.sp, h.go, h.bk⟩
  unfold Net.read
  by_cases c : (n.read1 ps x).co.all Option.isSome = true
  · rw [if_pos c]
    refine SpOk.ended (n := { n.read1 ps x with bk := some (valsOf (n.read1 ps x).co, (n.read1 ps x).ti, (n.read1 ps x).go) }) ⟨h1.sp, h1.go, fun c t g e => ?_⟩
    injection e with e
    injection e with _ e
    injection e with _ e
    rw [← e]
    exact h1.go
  · rw [if_neg c]; exact h1
theorem SpOk.met {n : Net} (h : SpOk n) {ps : List Pr} {t e : Int} {p : Pr} (hx : stpOk (.meet t)) : SpOk (n.met ps t p e) := by
  have h0 : SpOk (n.met0 ps p) := by
    unfold Net.met0
    match n.unread p with
    | [] => exact h
    | [x] => exact h.read
    | _ :: _ :: _ => exact h
  exact SpOk.counted (n := { n.met0 ps p with st := ((n.met0 ps p).st.set p.1.toNat e).set p.2.toNat e, ar := (n.met0 ps p).ar.set t.toNat e }) ⟨h0.sp, h0.go, h0.bk⟩ hx
theorem SpOk.back {n : Net} (h : SpOk n) {c t : List Int} {g : List Stp} (e : n.bk = some (c, t, g)) : SpOk (n.back c t g) :=
  SpOk.ended (n := { n with st := c, ar := t, sp := g }) ⟨h.bk c t g e, h.go, h.bk⟩
end Hl
set_option Elab.async false
set_option linter.all false
set_option maxRecDepth 100000
set_option maxHeartbeats 8000000
namespace Hl
open PySem PySem.Spec PyProof.Rows L2
def spLMoved (a : Ad) : Sp := fun vs H Q _ => ∃ (dk s m wb b ta tl : Addr) (f : Ft) (as ts : List Addr) (tb : List (List Int)) (S : Nat) (ps : List Pr) (nh N : Nat) (n : Net), vs = [.ref b, .ref dk, .ref f.d, .ref ta, .ref tl] ∧ Wd a H dk s m wb f ta tl as ts tb S ps nh N n n ∧ Bx H b f ta tl as ∧ N + 1 ≤ 100 ∧ tb.length ≤ 3 ∧
  ∀ (H' : Hp) (f' : Ft) (n' : Net), f'.d = f.d → Wd a H' dk s m wb f' ta tl as ts tb S ps nh (N + 1) n' n' → Bx H' b f' ta tl as → FtN f f' H → Frm (b :: s :: f.list) H H' → (SpOk n → SpOk n') → Q (.bl true) H'
theorem deq {x : V} {Q : VK} {H : Hp} (q : Q (.bl true) H) : Q (.bl (decide (x = x))) H := by
  rw [decide_eq_true rfl]
  exact q
theorem tx_ne {S : Nat} {x : Int} (hS : S ≤ 8) (h : InR S x) : tx x ≠ "refused" := fun z => by
  have l := tx_len hS h
  rw [z] at l
  exact absurd l (by decide +kernel)
theorem and_one {t u : TT} {σ : L2.St} {H : Hp} {Q : Bool → Hp → Prop} {c c2 : Bool} (h1 : ∀ Q' : Bool → Hp → Prop, Q' c H → t σ H Q') (h2 : ∀ Q' : Bool → Hp → Prop, (∀ H2, Same H H2 → Q' c2 H2) → u σ H Q') (q : ∀ H2, Same H H2 → Q (c && c2) H2) : tAnd t u σ H Q := by
  unfold tAnd
  refine h1 _ ?_
  cases c with
  | false => exact iteF (q H (Same.refl _))
  | true => exact iteT (h2 _ fun H2 s => q H2 s)
theorem itdNF {c A B : Prop} [Decidable c] (hc : c) (h : B) : if (!decide c) = true then A else B := by
  rw [decide_eq_true hc]
  exact iteF h
theorem ftn_back {a : Ad} {H H3 : Hp} {b s m wb : Addr} {f f' : Ft} {tb : List (List Int)} {S : Nat} {ps : List Pr} {nh N : Nat} {n : Net} (F : Frm (b :: s :: f.list) H H3) (B : BoxAt H3 b) (St : StoreAt a H3 s m wb tb S ps nh N n) (M : FtN f f' H3) : FtN f f' H := fun q hq => by
  rcases M q hq with z | z
  · exact .inl z
  by_cases c : q ∈ f.list
  · exact .inl c
  refine .inr ?_
  cases e : H q with
  | none => rfl
  | some o =>
    have nb : q ≠ b := fun y => by
      obtain ⟨u, e1, _⟩ := B
      rw [y, e1] at z; cases z
    have ns : q ≠ s := fun y => by
      obtain ⟨⟨_, _, _, _, _, _, _, _, _, _, e1, _⟩, _, _⟩ := St
      rw [y, e1] at z; cases z
    rw [F q o e (by simp [nb, ns, c])] at z
    cases z
section
variable {P : Program} {w : World} {K : PySem.W.Frag} {mg : Str → Option Value} {base : Heap} {a : Ad} {d : Fd}
theorem ok_LMoved (T : Txt P w K mg a d) : FnOk P w K mg base CX0 9 a.fLMoved d.fLMoved pLMoved (spLMoved a) := by
  have GT : FnOk P w K mg base CX0 1 a.fLTake d.fLTake pLTake spLTake := ok_LTake T
  have GS : FnOk P w K mg base (L2.CX P w) 8 a.fSay d.fSay pSay (spSay a K) := ok_Say T
  have GC : FnOk P w K mg base CX0 1 a.fLCounted d.fLCounted pLCounted spLCounted := ok_LCounted T
  have GM : FnOk P w K mg base CX0 3 a.fLMet d.fLMet pLMet spLMet := ok_LMet T
  have GR : FnOk P w K mg base CX0 2 a.fLRead d.fLRead pLRead spLRead := ok_LRead T
  have GE : FnOk P w K mg base CX0 1 a.fLEnded d.fLEnded pLEnded spLEnded := ok_LEnded T
  refine T.FLMoved.ok scLMoved (fun vs H Q E h => ?_) (fun cdv A outer s H vs Q E hr h => ?_)
  · obtain ⟨dk, s, m, wb, b, ta, tl, f, as, ts, tb, S, ps, nh, N, n, rfl, _⟩ := h
    rfl
  · obtain ⟨dk, s, m, wb, b, ta, tl, f, as, ts, tb, S, ps, nh, N, n, rfl, hW, hB, hN, l3, k⟩ := h
    have hu := hu_of hr
    have hr1 : Room 1 _ := hr.mono (by decide)
    have hr2 : Room 2 _ := hr.mono (by decide)
    have hr3 : Room 3 _ := hr.mono (by decide)
    have hr8 : Room 8 _ := hr.mono (by decide)
    have g := hW.store.gd
    have hT := hW.store.und.um.ok
    have hWs := hW.store.und.uw.ok
    have n1 := hWs.n1
    have n4 := hWs.n4
    have n5 := hWs.len
    have t1 := hT.l1
    have r8 : ∀ x, InR S x → InR 8 x := fun x hx => ⟨hx.1, by have := hx.2; have := hT.s12; omega⟩
    have lg8 : ∀ x, InR S x → x.natAbs.log2 < 1920 := fun x hx => log_small hx.1 (by have := (r8 x hx).2; omega)
    refine ⟨_, pss_cons (ps_par (i := 5) (j := 6) (by rfl) scLMoved.nd rfl rfl (by decide) rfl rfl (pa_cons (pe_call GT hr1 (by rfl) T.gLTake T.FLTake.kp T.bLTake .nil pass0 (pa_cons (pv 0) (pa_cons pe_int pa_nil))) (pa_cons (pe_callB call_len_seq (by rfl) T.b_len boot_len (pa_cons (pe_dget hu (pv 2) pe_str (fun _ _ => rfl)) pa_nil)) pa_nil)) (by rfl))
      (pss_cons (ps_if (pt_cmpR op_lt (pv 5) pe_int (nomark _))
        (pss_cons (ps_par (i := 7) (j := 8) (by rfl) scLMoved.nd rfl rfl (by decide) rfl rfl (pa_cons (pe_call GT hr1 (by rfl) T.gLTake T.FLTake.kp T.bLTake .nil pass0 (pa_cons (pv 0) (pa_cons (pv 6) pa_nil))) (pa_cons (pe_call GT hr1 (by rfl) T.gLTake T.FLTake.kp T.bLTake .nil pass0 (pa_cons (pv 0) (pa_cons (pe_callB call_len_seq (by rfl) T.b_len boot_len (pa_cons (pv 3) pa_nil)) pa_nil))) pa_nil)) (by rfl))
        (pss_cons (ps_asg (pe_ix ix_list (pe_ix ix_list (pv 3) (pv 8) (fun _ _ => rfl)) (pe_ix ix_list (pe_dget hu (pv 2) pe_str (fun _ _ => rfl)) (pv 7) (fun _ _ => rfl)) (fun _ _ => rfl)) (pg_sub (pe_dget hu (pv 2) pe_str (fun _ _ => rfl)) (pv 7) set_list))
        (pss_cons (ps_expr (pe_call GC hr1 (by rfl) T.gLCounted T.FLCounted.kp T.bLCounted .nil pass0 (pa_cons (pv 2) (pa_cons (pe_tup (pa_cons pe_str (pa_cons (pv 7) (pa_cons (pv 8) pa_nil)))) (pa_cons (pe_tup (pa_cons (pv 7) pa_nil)) pa_nil)))))
        (pss_one (ps_ret (pe_cmpR op_eq (pe_meth (pv 1) T.clDesk T.mSay GS hr8 T.bSay .nil passL (pa_cons (pe_op op_add_str (pe_op op_add_str (pe_op op_add_str pe_str (pe_callTy call_str_int (by rfl) T.b_str boot_str (pa_cons (pv 7) pa_nil))) pe_str) (pe_callTy call_str_int (by rfl) T.b_str boot_str (pa_cons (pv 8) pa_nil))) pa_nil))
          (pe_callTy call_str_int (by rfl) T.b_str boot_str (pa_cons (pe_ix ix_list (pe_dget hu (pv 2) pe_str (fun _ _ => rfl)) (pv 7) (fun _ _ => rfl)) pa_nil)) (nomark _))))))) pss_nil)
      (pss_cons (ps_if (PW.pt (pw_and (pt_cmpR op_lt (pv 5) pe_int (nomark _)) (pw_and1 (pt_cmpR (op_neD hr.units) (pv 4) (pe_lst pa_nil) (nomark _)))))
        (pss_cons (ps_set (i := 9) scLMoved.nd rfl (.inl rfl) (pe_call GT hr1 (by rfl) T.gLTake T.FLTake.kp T.bLTake .nil pass0 (pa_cons (pv 0) (pa_cons (pe_callB call_len_seq (by rfl) T.b_len boot_len (pa_cons (pv 4) pa_nil)) pa_nil))))
        (pss_cons (ps_set (i := 10) scLMoved.nd rfl (.inl rfl) (pe_call GM hr3 (by rfl) T.gLMet T.FLMet.kp T.bLMet .nil pass0 (pa_cons (pv 2) (pa_cons (pv 3) (pa_cons (pv 4) (pa_cons (pv 9) pa_nil))))))
        (pss_one (ps_ret (pe_cmpR op_eq (pe_meth (pv 1) T.clDesk T.mSay GS hr8 T.bSay .nil passL (pa_cons (pe_op op_add_str pe_str (pe_callTy call_str_int (by rfl) T.b_str boot_str (pa_cons (pv 9) pa_nil))) pa_nil))
          (pe_ifExp (pt_val (pe_callB call_isi (by rfl) T.b_isinstance boot_isinstance (pa_cons (pv 10) (pa_cons (pe_bltn (v := .ty "tuple") (by rfl) T.b_tuple boot_tuple rfl) pa_nil)))) pe_str (pv 10)) (nomark _)))))) pss_nil)
      (pss_cons (ps_if (pt_cmpR op_lt (pv 5) pe_int (nomark _))
        (pss_cons (ps_set (i := 7) scLMoved.nd rfl (.inl rfl) (pe_call GT hr1 (by rfl) T.gLTake T.FLTake.kp T.bLTake .nil pass0 (pa_cons (pv 0) (pa_cons (pv 6) pa_nil))))
        (pss_cons (ps_set (i := 10) scLMoved.nd rfl (.inl rfl) (pe_ifExp (pt_cmpR op_notN (pe_ix ix_list (pe_dget hu (pv 2) pe_str (fun _ _ => rfl)) (pv 7) (fun _ _ => rfl)) pe_non (nomark _)) pe_str (pe_callTy call_str_int (by rfl) T.b_str boot_str (pa_cons (pe_ix ix_list (pe_dget hu (pv 2) pe_str (fun _ _ => rfl)) (pv 7) (fun _ _ => rfl)) pa_nil))))
        (pss_cons (ps_if (pt_cmpR op_ne (pv 10) pe_str (nomark _)) (pss_one (ps_expr (pe_call GR hr2 (by rfl) T.gLRead T.FLRead.kp T.bLRead .nil pass0 (pa_cons (pv 2) (pa_cons (pv 4) (pa_cons (pv 7) pa_nil)))))) pss_nil)
        (pss_one (ps_ret (pe_cmpR op_eq (pe_methK0 (pv 1) T.clDesk T.mSay GS hr8 (kw_say T) passL (pk_cons (pe_op op_add_str pe_str (pe_callTy call_str_int (by rfl) T.b_str boot_str (pa_cons (pv 7) pa_nil))) pk_nil)) (pv 10) (nomark _))))))) pss_nil)
      (pss_cons (ps_set (i := 10) scLMoved.nd rfl (.inl rfl) (pe_ifExp (pt_cmpR op_isN (pe_dget hu (pv 2) pe_str (fun _ _ => rfl)) pe_non (nomark _)) pe_str pe_str))
      (pss_cons (ps_if (pt_cmpR op_eq (pv 10) pe_str (nomark _))
        (pss_cons (ps_asg (pe_tup (pa_cons (pe_callTy call_list_of (by rfl) T.b_list boot_list (pa_cons (pe_ix ix_tup (pe_dget hu (pv 2) pe_str (fun _ _ => rfl)) pe_int (fun _ _ => rfl)) pa_nil)) (pa_cons (pe_callTy call_list_of (by rfl) T.b_list boot_list (pa_cons (pe_ix ix_tup (pe_dget hu (pv 2) pe_str (fun _ _ => rfl)) pe_int (fun _ _ => rfl)) pa_nil)) (pa_cons (pe_callTy call_list_of (by rfl) T.b_list boot_list (pa_cons (pe_dget hu (pv 2) pe_str (fun _ _ => rfl)) pa_nil)) pa_nil))))
            (pg_tup rfl (pgs_cons (pg_sub (pv 2) pe_str (set_dict hu)) (pgs_cons (pg_sub (pv 2) pe_str (set_dict hu)) (pgs_cons (pg_sub (pv 2) pe_str (set_dict hu)) pgs_nil)))))
        (pss_one (ps_expr (pe_call GE hr1 (by rfl) T.gLEnded T.FLEnded.kp T.bLEnded .nil pass0 (pa_cons (pv 2) pa_nil))))) pss_nil)
      (pss_one (ps_ret (pe_cmpR op_eq (pe_meth (pv 1) T.clDesk T.mSay GS hr8 T.bSay .nil passL (pa_cons pe_str pa_nil)) (pv 10) (nomark _))))))))), ?_⟩
    refine ⟨_, rfl, b, 10, rfl, hB.at_, by decide, by decide, fun way u0 hw hu0 => ?_⟩
    have W0 := hW.box (but_put : But b H (upd H b u0)) hB
    have B0 := hB.but hu0
    have F0 : Frm (b :: s :: f.list) H (upd H b u0) := Frm.but (b := b) but_put (by simp)
    have M0 : FtN f f H := FtN.refl
    generalize upd H b u0 = H0 at W0 B0 F0
    obtain ⟨sa, ga, bk, ca, tv, R, hsa, hga, hbk, hti⟩ := id W0.net
    obtain ⟨dd, hdk⟩ := id W0.desk
    refine ⟨_, rfl, f.d, _, rfl, R.g_st, f.ls, _, rfl, .inl (SqL.of R.ls), ?_⟩
    rw [List.length_map, g.st]
    refine ⟨_, _, rfl, ?_⟩
    refine ⟨_, rfl, _, _, rfl, rfl, _, rfl, ?_⟩
    by_cases c1 : ((way : Nat) : Int) < 3
    · -- do
      refine itdT c1 ?_
      refine ⟨_, rfl, _, rfl, b, nh, rfl, B0.at_, n1, by omega, fun h u1 hh hu1 => ?_⟩
      have W1 := W0.box (but_put : But b H0 (upd H0 b u1)) B0
      have B1 := B0.but hu1
      have F1 : Frm (b :: s :: f.list) H (upd H0 b u1) := F0.trans (Frm.but (b := b) but_put (by simp))
      generalize upd H0 b u1 = H1 at W1 B1 F1
      refine ⟨_, rfl, _, rfl, ta, _, rfl, .inl (SqL.of W1.tas), b, tb.length, ?_, B1.at_, t1, by omega, fun dl u2 hdl hu2 => ?_⟩
      · rw [List.length_map, W1.rows.1]
        rfl
      have W2 := W1.box (but_put : But b H1 (upd H1 b u2)) B1
      have B2 := B1.but hu2
      have F2 : Frm (b :: s :: f.list) H (upd H1 b u2) := F1.trans (Frm.but (b := b) but_put (by simp))
      generalize upd H1 b u2 = H2 at W2 B2 F2
      refine ⟨_, _, rfl, ?_⟩
      obtain ⟨sa2, ga2, bk2, ca2, tv2, R2, hsa2, hga2, hbk2, hti2⟩ := id W2.net
      have hst := get_int (l := n.st) (i := ((h : Nat) : Int)) (by omega) (by rw [g.st]; omega)
      obtain ⟨r, hrow, hrm, hnx, hnR⟩ := nextSt_in hT (d := ((dl : Nat) : Int)) (by omega) (by omega) (g.stR _ (List.mem_of_getElem? hst))
      obtain ⟨ra, hra⟩ := there (l := as) (i := ((dl : Nat) : Int).toNat) (by rw [W2.rows.1]; exact (List.getElem?_eq_some_iff.mp hrow).1)
      have hra2 := W2.rows.2 _ _ _ hra hrow
      have hx0 := g.stR _ (List.mem_of_getElem? hst)
      have hx1 := hx0.1
      refine ⟨_, rfl, _, rfl, ta, _, _, _, rfl, rfl, SqL.of W2.tas, at_of (j := ((dl : Nat) : Int).toNat) (by omega) (at_map hra), ?_⟩
      refine ⟨_, rfl, f.d, _, rfl, R2.g_st, _, rfl, f.ls, _, _, _, rfl, rfl, SqL.of R2.ls, at_of (j := ((h : Nat) : Int).toNat) (by omega) (at_map hst), ?_⟩
      refine ⟨ra, _, _, _, rfl, rfl, SqL.of hra2, at_of (j := (n.st.getD ((h : Nat) : Int).toNat 0).toNat) (by omega) (at_map hnx), ?_⟩
      refine ⟨_, rfl, f.d, _, rfl, R2.g_st, _, rfl, f.ls, _, _, h, rfl, rfl, R2.ls, by rw [List.length_map]; exact ixN_nat' (by rw [g.st]; exact hh), ?_⟩
      rw [set_map]
      have N3 : NetD (upd H2 f.ls (.lst ((n.st.set h (nextSt tb dl (n.st.getD ((h : Nat) : Int).toNat 0))).map V.int))) f { n with st := n.st.set h (nextSt tb dl (n.st.getD ((h : Nat) : Int).toNat 0)) } ps := by
        have k3 : TupK H2 (upd H2 f.ls (.lst ((n.st.set h (nextSt tb dl (n.st.getD ((h : Nat) : Int).toNat 0))).map V.int))) := (Fo.refl.put ft_s : Fo f H2 _).tup R2
        exact ⟨sa2, ga2, bk2, ca2, tv2, R2.set_st, hsa2.keep k3, hga2.keep k3, hbk2.keep k3, hti2⟩
      have Fo3 : Fo f H2 (upd H2 f.ls (.lst ((n.st.set h (nextSt tb dl (n.st.getD ((h : Nat) : Int).toNat 0))).map V.int))) := Fo.refl.put ft_s
      generalize upd H2 f.ls (.lst ((n.st.set h (nextSt tb dl (n.st.getD ((h : Nat) : Int).toNat 0))).map V.int)) = H3 at N3 Fo3
      have W3 := W2.law N3 Fo3 FtN.refl
      have B3 := B2.law Fo3 FtN.refl
      have F3 : Frm (b :: s :: f.list) H H3 := F2.trans (Frm.law Fo3 fun p hp => List.mem_cons_of_mem _ (List.mem_cons_of_mem _ hp))
      refine ⟨_, rfl, _, rfl, _, rfl, (by show 3 ≤ sizeLine; decide), fun q1 hq1 => ⟨_, rfl, (by show 1 ≤ sizeLine; decide), fun q2 hq2 => ?_⟩⟩
      have s4 : Same H3 (upd (upd H3 q1 (.tup [.str "do", .int (h : Nat), .int (dl : Nat)])) q2 (.tup [.int (h : Nat)])) := (same_new hq1).trans (same_new hq2)
      have hq14 : upd (upd H3 q1 (.tup [.str "do", .int (h : Nat), .int (dl : Nat)])) q2 (.tup [.int (h : Nat)]) q1 = some (.tup (stpV (.doo h dl))) := same_new hq2 _ _ upd_same
      have hq24 : upd (upd H3 q1 (.tup [.str "do", .int (h : Nat), .int (dl : Nat)])) q2 (.tup [.int (h : Nat)]) q2 = some (.tup ([((h : Nat) : Int)].map V.int)) := upd_same
      generalize upd (upd H3 q1 (.tup [.str "do", .int (h : Nat), .int (dl : Nat)])) q2 (.tup [.int (h : Nat)]) = H4 at s4 hq14 hq24
      have W4 := W3.same s4
      have B4 := B3.same s4
      have F4 := F3.trans (Frm.of s4)
      have gd4 : Gd S nh ps.length N { n with st := n.st.set h (nextSt tb dl (n.st.getD ((h : Nat) : Int).toNat 0)) } := by
        refine ⟨by show (n.st.set _ _).length = nh; rw [List.length_set]; exact g.st, g.ar, g.co, g.ti, fun x hx => ?_, g.arR, g.coR, g.tiR, g.sp, g.go, g.bk⟩
        rcases mem_set_or (show x ∈ n.st.set h (nextSt tb dl (n.st.getD ((h : Nat) : Int).toNat 0)) from hx) with k | k
        · exact g.stR x k
        · rw [k]; exact hnR
      refine ⟨f, _, ps, q1, q2, .doo h dl, [((h : Nat) : Int)], S, nh, N, rfl, W4.net, gd4, by omega, hq14, hq24, (by show 1 ≤ 2; decide), fun x hx => by rw [List.mem_singleton.mp hx]; omega, fun H5 N5 Fo5 => ?_⟩
      have W5 := W4.law N5 Fo5 FtN.refl
      have B5 := B4.law Fo5 FtN.refl
      have F5 : Frm (b :: s :: f.list) H H5 := F4.trans (Frm.law Fo5 fun p hp => List.mem_cons_of_mem _ (List.mem_cons_of_mem _ hp))
      obtain ⟨dd5, hdk5⟩ := id W5.desk
      have lh : (tx ((h : Nat) : Int)).length ≤ 2 := tx_small h (by omega)
      have ldl : (tx ((dl : Nat) : Int)).length ≤ 2 := tx_small dl (by omega)
      refine ⟨_, rfl, dk, dd5, _, rfl, hdk5, rfl, ?_⟩
      refine ⟨_, rfl, _, rfl, log_small (by omega) (by omega), _, _, rfl, rfl, ?_, _, _, rfl, rfl, ?_, _, rfl, _, rfl, log_small (by omega) (by omega), _, _, rfl, rfl, ?_, ?_⟩
      · rw [sizeLine_eq]
        show 3 + (tx ((h : Nat) : Int)).length ≤ _
        omega
      · rw [Str.length_append, sizeLine_eq]
        show 3 + (tx ((h : Nat) : Int)).length + 1 ≤ _
        omega
      · rw [Str.length_append, Str.length_append, sizeLine_eq]
        show 3 + (tx ((h : Nat) : Int)).length + 1 + (tx ((dl : Nat) : Int)).length ≤ _
        omega
      have e0 : (V.str (Str.ofString "do " ++ Str.ofString (toString ((h : Nat) : Int)) ++ Str.ofString " " ++ Str.ofString (toString ((dl : Nat) : Int)))) = V.str (("do " ++ tx ((h : Nat) : Int)) ++ " " ++ tx ((dl : Nat) : Int)) := rfl
      rw [e0]
      dsimp only [tNil]
      refine say_cmd W5 (by omega) (lineC (do_line0 h (by omega) dl (by omega))) ⟨fun z => absurd ⟨by omega, by omega⟩ z, fun _ _ z => absurd ⟨by omega, by omega⟩ z, fun _ _ _ _ H6 S6 b6 => ?_⟩
      have W6 := W5.st S6 b6
      have B6 := B5.st W5.store b6
      have F6 : Frm (b :: s :: f.list) H H6 := F5.trans (Frm.but b6 (by simp))
      obtain ⟨sa6, ga6, bk6, ca6, tv6, R6, hsa6, hga6, hbk6, hti6⟩ := id W6.net
      have h6 : (n.st.set h (nextSt tb dl (n.st.getD ((h : Nat) : Int).toNat 0)))[h]? = some (nextSt tb dl (n.st.getD ((h : Nat) : Int).toNat 0)) := by
        rw [List.getElem?_set_self (by rw [g.st]; exact hh)]
      refine ⟨_, rfl, f.d, _, rfl, R6.g_st, _, rfl, f.ls, _, _, _, rfl, rfl, SqL.of R6.ls, at_of (j := h) rfl (at_map h6), _, rfl, lg8 _ hnR, rfl, ?_⟩
      exact deq (k H6 f _ rfl W6 B6 FtN.refl F6 fun z => z.doo ⟨⟨by omega, by omega⟩, by omega, by omega⟩)
    refine itdF c1 ?_
    dsimp only [tNext]
    refine and_one (t := tTest (tOp (rI0 fun i j => V.bl (decide (i < j))) (tVar 5) (tC (V.int 6)))) (u := tTest (tOp (rNeD K) (tVar 4) (tLst tNil))) (c := decide (((way : Nat) : Int) < 6)) (c2 := !(ps.map prD).isEmpty) (fun Q' q => ⟨_, rfl, _, _, rfl, rfl, _, rfl, q⟩) (fun Q' q => ?_) (fun H1 s1 => ?_)
    · refine ⟨_, rfl, (by show 0 ≤ sizeLine; decide), fun z hz => ?_⟩
      have s1 : Same H0 (upd H0 z (.lst [])) := same_new hz
      refine ⟨.list (ps.map prD), .list [], .lst (SqL.of (s1 _ _ W0.tls)) (dp_pairs (W0.ties.same s1)), .lst (SqL.of upd_same) .nil, prs_shaped ps, by decide +kernel, _, rfl, ?_⟩
      rw [eqv_nil]
      exact q _ s1
    have W1 := W0.same s1
    have B1 := B0.same s1
    have F1 := F0.trans (Frm.of (X := b :: s :: f.list) s1)
    clear hdk
    obtain ⟨dd, hdk⟩ := id W1.desk
    clear R hsa hga hbk hti
    obtain ⟨sa, ga, bk, ca, tv, R, hsa, hga, hbk, hti⟩ := id W1.net
    cases cc : (decide (((way : Nat) : Int) < 6) && !(ps.map prD).isEmpty) with
    | true =>
      -- meet
      refine iteT ?_
      have pl : 1 ≤ ps.length := by
        rw [Bool.and_eq_true] at cc
        have z := cc.2
        cases ps with
        | nil => cases z
        | cons _ _ => show 1 ≤ _ + 1; omega
      refine ⟨_, rfl, _, rfl, tl, _, rfl, .inl (SqL.of W1.tls), b, ps.length, ?_, B1.at_, pl, by omega, fun t u2 ht hu2 => ?_⟩
      · rw [List.length_map, W1.ties.1]
        rfl
      have W2 := W1.box (but_put : But b H1 (upd H1 b u2)) B1
      have B2 := B1.but hu2
      have F2 : Frm (b :: s :: f.list) H (upd H1 b u2) := F1.trans (Frm.but (b := b) but_put (by simp))
      generalize upd H1 b u2 = H2 at W2 B2 F2
      obtain ⟨p, hp⟩ := there ht
      have lt2 : (tx ((t : Nat) : Int)).length ≤ 2 := tx_small t (by omega)
      have hpm := List.mem_of_getElem? hp
      refine ⟨_, rfl, _, rfl, _, rfl, _, rfl, f, n, ps, ta, tl, as, ts, tb, ((t : Nat) : Int), p, S, nh, N, rfl, W2.net, g, by omega, hWs, W2.tas, W2.rows, hT, W2.tls, W2.ties, W2.ntl, by omega, hp, fun o hj => ⟨fun ho H4 q xs s4 hq => ?_, fun e he H4 f4 fd N4 Fo4 M4 => ?_⟩⟩
      · have W4 := W2.same s4
        have B4 := B2.same s4
        have F4 := F2.trans (Frm.of (X := b :: s :: f.list) s4)
        obtain ⟨dd4, hdk4⟩ := id W4.desk
        refine ⟨_, rfl, dk, dd4, _, rfl, hdk4, rfl, _, rfl, _, rfl, log_small (by omega) (by omega), _, _, rfl, rfl, ?_, ?_⟩
        · rw [sizeLine_eq]
          show 5 + (tx ((t : Nat) : Int)).length ≤ _
          omega
        have e0 : (V.str (Str.ofString "meet " ++ Str.ofString (toString ((t : Nat) : Int)))) = V.str ("meet " ++ tx ((t : Nat) : Int)) := rfl
        rw [e0]
        dsimp only [tNil]
        refine say_cmd W4 (by omega) (lineC (meet_line0 t (by omega))) ⟨fun z => absurd ⟨by omega, by omega⟩ z, fun p' _ hp' o' hj' => ⟨fun _ H5 d5 s5 => .inl ⟨rfl, ?_⟩, fun e he => ?_⟩⟩
        · refine ⟨_, rfl, _, _, _, _, true, rfl, .ty _, .base (.tup (s5 _ _ hq)), kit_ty (by decide +kernel), true, rfl, iteT ⟨rfl, ?_⟩⟩
          exact deq (k H5 f n rfl ((W4.same s5).mono (Nat.le_succ N)) (B4.same s5) FtN.refl (F4.trans (Frm.of s5)) id)
        · have ep : p' = p := by
            rw [show (((t : Nat) : Int)).toNat = t from rfl, hp] at hp'
            exact (Option.some.inj hp').symm
          subst ep
          have z := hj.uniq hj'
          rw [ho, he] at z
          cases z
      · have W4 := W2.law N4 Fo4 M4
        have B4 := B2.law Fo4 M4
        have F4 : Frm (b :: s :: f.list) H H4 := F2.trans (Frm.law Fo4 fun p hp => List.mem_cons_of_mem _ (List.mem_cons_of_mem _ hp))
        have M4' := ftn_back F2 B2.at_ W2.store M4
        obtain ⟨dd4, hdk4⟩ := id W4.desk
        refine ⟨_, rfl, dk, dd4, _, rfl, hdk4, rfl, _, rfl, _, rfl, log_small (by omega) (by omega), _, _, rfl, rfl, ?_, ?_⟩
        · rw [sizeLine_eq]
          show 5 + (tx ((t : Nat) : Int)).length ≤ _
          omega
        have e0 : (V.str (Str.ofString "meet " ++ Str.ofString (toString ((t : Nat) : Int)))) = V.str ("meet " ++ tx ((t : Nat) : Int)) := rfl
        rw [e0]
        dsimp only [tNil]
        refine say_cmd W4 (by omega) (lineC (meet_line0 t (by omega))) ⟨fun z => absurd ⟨by omega, by omega⟩ z, fun p' _ hp' o' hj' => ?_⟩
        have ep : p' = p := by
          rw [show (((t : Nat) : Int)).toNat = t from rfl, hp] at hp'
          exact (Option.some.inj hp').symm
        subst ep
        have ez := hj.uniq hj'
        rw [he] at ez
        refine ⟨fun z => absurd (ez.trans z) (by simp), fun e' he' H5 S5 b5 => ?_⟩
        rw [he'] at ez
        cases ez
        have W5 := W4.st S5 b5
        have B5 := B4.st W4.store b5
        have F5 : Frm (b :: s :: f.list) H H5 := F4.trans (Frm.but b5 (by simp))
        refine ⟨_, rfl, _, _, _, _, false, rfl, .ty _, .base (.str _), kit_ty (by decide +kernel), false, rfl, iteF ⟨_, rfl, rfl, ?_⟩⟩
        exact deq (k H5 f4 _ fd W5 B5 M4' F5 fun z => z.met ⟨by omega, by omega⟩)
    | false =>
    refine iteF ?_
    refine ⟨_, rfl, _, _, rfl, rfl, _, rfl, ?_⟩
    by_cases c3 : ((way : Nat) : Int) < 9
    · -- read
      refine itdT c3 ?_
      refine ⟨_, rfl, _, rfl, b, nh, rfl, B1.at_, n1, by omega, fun h u2 hh hu2 => ?_⟩
      have W2 := W1.box (but_put : But b H1 (upd H1 b u2)) B1
      have B2 := B1.but hu2
      have F2 : Frm (b :: s :: f.list) H (upd H1 b u2) := F1.trans (Frm.but (b := b) but_put (by simp))
      generalize upd H1 b u2 = H2 at W2 B2 F2
      obtain ⟨sa2, ga2, bk2, ca2, tv2, R2, hsa2, hga2, hbk2, hti2⟩ := id W2.net
      obtain ⟨o, ho, f1, f2⟩ := noCopy_at (co := n.co) (h := ((h : Nat) : Int)) (by omega) (by rw [g.co]; omega)
      have hst := get_int (l := n.st) (i := ((h : Nat) : Int)) (by omega) (by rw [g.st]; omega)
      have hx0 := g.stR _ (List.mem_of_getElem? hst)
      have lh : (tx ((h : Nat) : Int)).length ≤ 2 := tx_small h (by omega)
      refine ⟨_, rfl, f.d, _, rfl, R2.g_co, _, rfl, f.lc, _, _, _, rfl, rfl, SqL.of R2.lc, at_of (j := ((h : Nat) : Int).toNat) (by omega) (at_map ho), rfl, _, rfl, ?_⟩
      rw [f2, ← f1]
      have e0 : (V.str (Str.ofString "read " ++ Str.ofString (toString ((h : Nat) : Int)))) = V.str ("read " ++ tx ((h : Nat) : Int)) := rfl
      have lr : (Str.ofString "read ").length + (Str.ofString (toString ((h : Nat) : Int))).length ≤ sizeLine := by
        rw [sizeLine_eq]
        show 5 + (tx ((h : Nat) : Int)).length ≤ _
        omega
      cases hc : noCopy n.co ((h : Nat) : Int) with
      | false =>
        refine iteT ?_
        refine ⟨_, rfl, rfl, _, rfl, itdNF rfl ?_⟩
        obtain ⟨dd2, hdk2⟩ := id W2.desk
        refine ⟨_, rfl, dk, dd2, _, rfl, hdk2, rfl, _, rfl, _, rfl, log_small (by omega) (by omega), _, _, rfl, rfl, lr, rfl, ?_⟩
        rw [e0]
        refine say_cmd W2 (by omega) (lineC (read_line0 h (by omega))) ⟨fun z => absurd ⟨by omega, by omega⟩ z, fun _ _ _ H5 d5 s5 => .inr ⟨.inl rfl, ?_⟩, fun _ _ z => by rw [hc] at z; cases z⟩
        exact ⟨_, rfl, rfl, deq (k H5 f n rfl ((W2.same s5).mono (Nat.le_succ N)) (B2.same s5) FtN.refl (F2.trans (Frm.of s5)) id)⟩
      | true =>
        refine iteF ?_
        refine ⟨_, rfl, f.d, _, rfl, R2.g_st, _, rfl, f.ls, _, _, _, rfl, rfl, SqL.of R2.ls, at_of (j := ((h : Nat) : Int).toNat) (by omega) (at_map hst), _, rfl, lg8 _ hx0, ?_⟩
        refine ⟨_, rfl, rfl, _, rfl, itdN (fun z => tx_ne (Nat.le_refl 8) (r8 _ hx0) (by injection z)) ?_⟩
        refine ⟨_, rfl, _, rfl, _, rfl, f, n, ps, tl, ts, ((h : Nat) : Int), S, nh, N, rfl, W2.net, g, by omega, hWs, W2.tls, W2.ties, W2.ntl, by omega, by omega, fun H4 f4 fd N4 Fo4 M4 => ?_⟩
        have W4 := W2.law N4 Fo4 M4
        have B4 := B2.law Fo4 M4
        have F4 : Frm (b :: s :: f.list) H H4 := F2.trans (Frm.law Fo4 fun p hp => List.mem_cons_of_mem _ (List.mem_cons_of_mem _ hp))
        have M4' := ftn_back F2 B2.at_ W2.store M4
        obtain ⟨dd4, hdk4⟩ := id W4.desk
        refine ⟨_, rfl, dk, dd4, _, rfl, hdk4, rfl, _, rfl, _, rfl, log_small (by omega) (by omega), _, _, rfl, rfl, lr, rfl, ?_⟩
        rw [e0]
        refine say_cmd W4 (by omega) (lineC (read_line0 h (by omega))) ⟨fun z => absurd ⟨by omega, by omega⟩ z, fun _ _ z => absurd (hc.symm.trans z) (by simp), fun _ _ _ H5 S5 b5 => ?_⟩
        have W5 := W4.st S5 b5
        have B5 := B4.st W4.store b5
        have F5 : Frm (b :: s :: f.list) H H5 := F4.trans (Frm.but b5 (by simp))
        exact ⟨_, rfl, rfl, deq (k H5 f4 _ fd (W5.mono (Nat.le_succ N)) B5 M4' F5 fun z => z.read)⟩
    refine itdF c3 ?_
    -- back
    refine ⟨_, rfl, f.d, _, rfl, R.g_bk, rfl, _, rfl, ?_⟩
    cases hb : n.bk with
    | none =>
      rw [hb] at hbk
      refine itdT hbk.1 ?_
      refine ⟨_, rfl, rfl, _, rfl, itdF (by show ¬ V.str "none" = V.str "ok"; decide +kernel) ?_⟩
      refine ⟨_, rfl, dk, dd, _, rfl, hdk, rfl, ?_⟩
      dsimp only [tCons, tC, tNil]
      refine say_back W1 (by omega) (fun _ H5 s5 => ?_) (fun c t g' z => by rw [hb] at z; cases z)
      exact ⟨_, rfl, rfl, deq (k H5 f n rfl ((W1.same s5).mono (Nat.le_succ N)) (B1.same s5) FtN.refl (F1.trans (Frm.of s5)) id)⟩
    | some x =>
      obtain ⟨c, t, gg⟩ := x
      rw [hb] at hbk
      obtain ⟨⟨bca, aca, rfl, hca, hca2⟩, bb, x, y, rfl, hbb, ⟨bx, rfl, hx⟩, ⟨by_, rfl, hy⟩⟩ := hbk
      obtain ⟨e1, e2, e3, e4, e5⟩ := g.bk c t gg hb
      refine itdF (fun z => by cases z) ?_
      refine ⟨_, rfl, rfl, _, rfl, itdT rfl ?_⟩
      refine ⟨_, rfl, f.d, _, rfl, R.g_bk, bb, _, _, _, rfl, rfl, SqT.of hbb, at_of (j := 0) (v := .ref bx) rfl rfl, bx, _, rfl, .inr (SqT.of hx), fun l1 hl1 => ?_⟩
      have s2 : Same H1 (upd H1 l1 (.lst (c.map V.int))) := same_new hl1
      have q2 : upd H1 l1 (.lst (c.map V.int)) l1 = some (.lst (c.map V.int)) := upd_same
      have hl10 := hl1
      generalize upd H1 l1 (.lst (c.map V.int)) = H2 at s2 q2
      refine ⟨_, rfl, f.d, _, rfl, (R.same s2).g_bk, bb, _, _, _, rfl, rfl, SqT.of (s2 _ _ hbb), at_of (j := 1) (v := .ref by_) rfl rfl, by_, _, rfl, .inr (SqT.of (s2 _ _ hy)), fun l2 hl2 => ?_⟩
      have hl20 := s2.free hl2
      have n12 : l1 ≠ l2 := fun z => by rw [← z, q2] at hl2; cases hl2
      have s3 : Same H2 (upd H2 l2 (.lst (t.map V.int))) := same_new hl2
      have q3 : upd H2 l2 (.lst (t.map V.int)) l2 = some (.lst (t.map V.int)) := upd_same
      have q2' := s3 _ _ q2
      generalize upd H2 l2 (.lst (t.map V.int)) = H3 at s3 q3 q2'
      have s13 := s2.trans s3
      refine ⟨_, rfl, f.d, _, rfl, (R.same s13).g_ca, bca, _, rfl, .inr (SqT.of (s13 _ _ hca)), fun l3 hl3 => ?_⟩
      have hl30 := s13.free hl3
      have n13 : l1 ≠ l3 := fun z => by rw [← z, q2'] at hl3; cases hl3
      have n23 : l2 ≠ l3 := fun z => by rw [← z, q3] at hl3; cases hl3
      have s4 : Same H3 (upd H3 l3 (.lst (aca.map V.ref))) := same_new hl3
      have q4 : upd H3 l3 (.lst (aca.map V.ref)) l3 = some (.lst (aca.map V.ref)) := upd_same
      have q2'' := s4 _ _ q2'
      have q3' := s4 _ _ q3
      generalize upd H3 l3 (.lst (aca.map V.ref)) = H4 at s4 q4 q2'' q3'
      refine ⟨(by show 3 ≤ sizeLine; decide), fun q hq => ?_⟩
      have s5 : Same H4 (upd H4 q (.tup [.ref l1, .ref l2, .ref l3])) := same_new hq
      have q5 : upd H4 q (.tup [.ref l1, .ref l2, .ref l3]) q = some (.tup [.ref l1, .ref l2, .ref l3]) := upd_same
      have h1 := s5 _ _ q2''
      have h2 := s5 _ _ q3'
      have h3 := s5 _ _ q4
      have s15 := (s13.trans s4).trans s5
      generalize upd H4 q (.tup [.ref l1, .ref l2, .ref l3]) = H5 at s5 q5 h1 h2 h3 s15
      have R5 := R.same s15
      have nd := nds.mp R.nd
      have nq : q ≠ f.d := ne_of q5 R5.d (by intro z; cases z)
      have fr : ∀ {p l : Addr} {o : HO}, H1 p = some o → H1 l = none → p ≠ l := fun a b z => by rw [z, b] at a; cases a
      refine ⟨q, _, rfl, SqT.of q5, rfl, _, _, rfl, ?_⟩
      refine ⟨_, rfl, f.d, _, rfl, DPut.k (k := sk "states") R5.d (by show 8 < sizeLine; decide), _, _, rfl, ?_⟩
      rw [pk_st]
      refine ⟨_, rfl, f.d, _, rfl, DPut.k (k := sk "archives") upd_same (by show 8 < sizeLine; decide), _, _, rfl, ?_⟩
      rw [pk_ar]
      refine ⟨_, rfl, f.d, _, rfl, DPut.k (k := sk "steps") upd_same (by show 8 < sizeLine; decide), rfl, ?_⟩
      rw [pk_sp]
      have R8 : Raw (upd (upd (upd H5 f.d (.dK (netK (.ref l1) (.ref f.la) (.ref f.lp) (.ref bb) (.ref bca) (.ref f.lc) (.ref f.lt) (.ref f.lg)))) f.d (.dK (netK (.ref l1) (.ref l2) (.ref f.lp) (.ref bb) (.ref bca) (.ref f.lc) (.ref f.lt) (.ref f.lg)))) f.d (.dK (netK (.ref l1) (.ref l2) (.ref l3) (.ref bb) (.ref bca) (.ref f.lc) (.ref f.lt) (.ref f.lg))))
          ⟨f.d, l1, l2, l3, f.lc, f.lt, f.lg⟩ (c.map V.int) (t.map V.int) aca ga (.ref bb) (.ref bca) (n.co.map oV) tv := by
        refine ⟨upd_same, ?_, ?_, ?_, ?_, ?_, ?_, nds.mpr ⟨⟨fr R.d hl10, fr R.d hl20, fr R.d hl30, nd.a.2.2.2.1, nd.a.2.2.2.2.1, nd.a.2.2.2.2.2⟩, ⟨n12, n13, (fr R.lc hl10).symm, (fr R.lt hl10).symm, (fr R.lg hl10).symm⟩, ⟨n23, (fr R.lc hl20).symm, (fr R.lt hl20).symm, (fr R.lg hl20).symm⟩, ⟨(fr R.lc hl30).symm, (fr R.lt hl30).symm, (fr R.lg hl30).symm⟩, nd.g⟩⟩
        · show upd _ _ _ l1 = _
          rw [upd_ne (fr R.d hl10).symm, upd_ne (fr R.d hl10).symm, upd_ne (fr R.d hl10).symm]; exact h1
        · show upd _ _ _ l2 = _
          rw [upd_ne (fr R.d hl20).symm, upd_ne (fr R.d hl20).symm, upd_ne (fr R.d hl20).symm]; exact h2
        · show upd _ _ _ l3 = _
          rw [upd_ne (fr R.d hl30).symm, upd_ne (fr R.d hl30).symm, upd_ne (fr R.d hl30).symm]; exact h3
        · show upd _ _ _ f.lc = _
          rw [upd_ne nd.a.2.2.2.1.symm, upd_ne nd.a.2.2.2.1.symm, upd_ne nd.a.2.2.2.1.symm]; exact R5.lc
        · show upd _ _ _ f.lt = _
          rw [upd_ne nd.a.2.2.2.2.1.symm, upd_ne nd.a.2.2.2.2.1.symm, upd_ne nd.a.2.2.2.2.1.symm]; exact R5.lt
        · show upd _ _ _ f.lg = _
          rw [upd_ne nd.a.2.2.2.2.2.symm, upd_ne nd.a.2.2.2.2.2.symm, upd_ne nd.a.2.2.2.2.2.symm]; exact R5.lg
      have Fo8 : Fo f H1 (upd (upd (upd H5 f.d (.dK (netK (.ref l1) (.ref f.la) (.ref f.lp) (.ref bb) (.ref bca) (.ref f.lc) (.ref f.lt) (.ref f.lg)))) f.d (.dK (netK (.ref l1) (.ref l2) (.ref f.lp) (.ref bb) (.ref bca) (.ref f.lc) (.ref f.lt) (.ref f.lg)))) f.d (.dK (netK (.ref l1) (.ref l2) (.ref l3) (.ref bb) (.ref bca) (.ref f.lc) (.ref f.lt) (.ref f.lg)))) := (((Fo.of s15).put ft_d).put ft_d).put ft_d
      generalize (upd (upd (upd H5 f.d (.dK (netK (.ref l1) (.ref f.la) (.ref f.lp) (.ref bb) (.ref bca) (.ref f.lc) (.ref f.lt) (.ref f.lg)))) f.d (.dK (netK (.ref l1) (.ref l2) (.ref f.lp) (.ref bb) (.ref bca) (.ref f.lc) (.ref f.lt) (.ref f.lg)))) f.d (.dK (netK (.ref l1) (.ref l2) (.ref l3) (.ref bb) (.ref bca) (.ref f.lc) (.ref f.lt) (.ref f.lg)))) = H8 at R8 Fo8
      have M8 : FtN f ⟨f.d, l1, l2, l3, f.lc, f.lt, f.lg⟩ H1 := fun p hp => by
        unfold Ft.list at hp
        simp only [List.mem_cons, List.not_mem_nil, or_false] at hp
        rcases hp with rfl | rfl | rfl | rfl | rfl | rfl | rfl
        · exact .inl ft_d
        · exact .inr hl10
        · exact .inr hl20
        · exact .inr hl30
        · exact .inl ft_c
        · exact .inl ft_t
        · exact .inl ft_g
      have k8 := Fo8.tup R
      refine ⟨_, rfl, f.d, l1, l2, l3, _, c.map V.int, t.map V.int, aca.map V.ref, rfl, R8.d, (by show 8 ≤ 900; decide), nk_st, nk_ar, nk_sp, R8.ls, R8.la, R8.lp, by rw [List.length_map]; omega, by rw [List.length_map]; omega, by rw [List.length_map, hca2.1]; omega, fun H9 cc tt g9 m1 m2 m3 d1 d2 d3 x1 x2 x3 x4 b9 => ?_⟩
      obtain ⟨R9, F89, N89⟩ := R8.ended m1 m2 m3 d1 d2 d3 x1 x2 x3 x4 b9
      have Fo9 : Fo f H1 H9 := Fo8.next F89 M8
      have M9 : FtN f ⟨f.d, l1, l2, l3, cc, tt, g9⟩ H1 := M8.trans N89 Fo8
      have k9 := Fo9.tup R
      have N9 : NetD H9 ⟨f.d, l1, l2, l3, cc, tt, g9⟩ (n.back c t gg) ps := by
        refine ⟨aca, aca, .ref bb, .ref bca, List.replicate (t.map V.int).length .non, ?_, hca2.keep k9, hca2.keep k9, ?_, ti_ended (by rw [List.length_replicate, List.length_map, e2])⟩
        · rw [show ((n.back c t gg).co.map oV) = List.replicate (c.map V.int).length V.non by
            show (List.replicate c.length none).map oV = _
            rw [List.map_replicate, List.length_map]
            rfl]
          exact R9
        · show BkT H9 (.ref bb) (.ref bca) n.bk
          rw [hb]
          exact ⟨⟨bca, aca, rfl, k9 _ _ hca, hca2.keep k9⟩, bb, .ref bx, .ref by_, rfl, k9 _ _ hbb, ⟨bx, rfl, k9 _ _ hx⟩, ⟨by_, rfl, k9 _ _ hy⟩⟩
      have W9 := W1.law N9 Fo9 M9
      have B9 := B1.law Fo9 M9
      have F9 : Frm (b :: s :: f.list) H H9 := F1.trans (Frm.law Fo9 fun p hp => List.mem_cons_of_mem _ (List.mem_cons_of_mem _ hp))
      have M9' := ftn_back F1 B1.at_ W1.store M9
      obtain ⟨dd9, hdk9⟩ := id W9.desk
      refine ⟨_, rfl, dk, dd9, _, rfl, hdk9, rfl, ?_⟩
      dsimp only [tCons, tC, tNil]
      refine say_back W9 (by omega) (fun z => by rw [hb] at z; cases z) (fun c' t' g' hb' H10 S10 b10 => ?_)
      rw [hb] at hb'
      cases hb'
      have W10 := W9.st S10 b10
      have B10 := B9.st W9.store b10
      have F10 : Frm (b :: s :: f.list) H H10 := F9.trans (Frm.but b10 (by simp))
      exact ⟨_, rfl, rfl, deq (k H10 ⟨f.d, l1, l2, l3, cc, tt, g9⟩ _ rfl (W10.mono (Nat.le_succ N)) B10 M9' F10 fun z => z.back hb)⟩
end
end Hl
set_option Elab.async false
set_option linter.all false
set_option maxRecDepth 100000
set_option maxHeartbeats 8000000
namespace Hl
open PySem PySem.Spec PyProof.Rows L2
/-- a suite read with the number of the names known -/
theorem pss_len {X : Cx} {b : List Stmt} {t : TS} (h : PSs X b t) : PSs X b (fun D σ H => σ.length = X.N.length → t D σ H) := ⟨fun pins s σ H D I hh => h.run pins s σ H D I (hh I.len)⟩
/-- what _law_fault makes of what it is handed -/
def TFault (CS : Addr) : (XK → Hp → VK → Prop) → Hp → VK → Prop := fun tl H Q =>
  tl (fun cls d H' => cls = .ref CS ∧ ∃ (dd : Addr) (v : V), d = some dd ∧ H' dd = some (.xd [("at", v)]) ∧ Q v H') H fun _ H' => Q .non H'
theorem fault_gives {X : Cx} {g CS : Addr} {cdg : Value} {q : Str} (hme : X.mg "BadText" = some (.ref CS)) (ex : PySem.W.exmOne X.K (.ref CS) (.ref CS) = some true) (xf : XfC X.K CS) (hno : PySem.W.findIn X.K (.ref CS) "at" = some none) :
    LamX.GivesTo X nLFault "_law_fault" (defScope sLFault) g cdg (defBody sLFault) "_law_ask" q (TFault CS) := by
  intro f c' s H Q tl act hc h
  have hgl : Gl (cxOf C8.CX0 X.prog X.w X.K X.mg X.base nLFault "_law_fault" (defScope sLFault) g cdg X.A X.stack s H C8.E0).nox "BadText" := (show (defScope sLFault).names.lookup ("BadText" : PySem.Str) = some NameKind.globalImplicit by decide +kernel)
  refine ⟨_, pss_cons (ps_try_as (X := (cxOf C8.CX0 X.prog X.w X.K X.mg X.base nLFault "_law_fault" (defScope sLFault) g cdg X.A X.stack s H C8.E0).nox) (c := .ref CS) (i := 1)
      (tb := fun W D σ H => ∃ Ech : XK, (∀ cls d σ' H', Ech cls d H' → W cls d σ' H') ∧ σ[0]? = some (some (.ref f)) ∧ H c' = some (LamX.CodeO c' q) ∧ tl Ech H fun _ H' => D.nx σ H')
      (ts := fun a cls d D σ H => σ.length = nLFault.length → tRet (tXf a cls d CS "at" (tVar 1)) D σ H) (Wout := fun _ _ _ _ => False)
      rfl rfl scLFault.nd rfl rfl ⟨hgl, by decide, .inl hme⟩ LamX.takes0 (fun W pn xe tk _ => ?_) (fun a oe cls d pn hz hf => pss_len (pss_one (ps_ret (pe_xf xf hno hz hf (pv 1)))))) (pss_one (ps_ret pe_non)), ?_⟩
  · refine ⟨fun pins s' σ H' D I h' => ?_⟩
    obtain ⟨Ech, hW, h1, h2, h3⟩ := h'
    exact (pss_one (ps_expr (act W pn xe Ech _ _ tk hW))).run pins s' σ H' D I ⟨h1, h2, h3⟩
  · refine ⟨fun cls d H' => cls = .ref CS ∧ ∃ (dd : Addr) (v : V), d = some dd ∧ H' dd = some (.xd [("at", v)]) ∧ Q v H', fun cls d σ' H' hh => ?_, rfl, hc, h⟩
    obtain ⟨rfl, dd, v, rfl, e1, q⟩ := hh
    refine ⟨true, ex, fun _ a ha => fun hl => ?_, fun z => by cases z⟩
    rw [List.length_set] at hl
    refine ⟨.ref a, ?_, rfl, rfl, dd, _, v, rfl, e1, rfl, q⟩
    rw [List.getElem?_set_self (by rw [hl]; decide)]
end Hl
set_option Elab.async false
set_option linter.all false
set_option maxRecDepth 100000
set_option maxHeartbeats 8000000
namespace Hl
open PySem PySem.Spec PyProof.Rows L2
/-! ### tables of code objects -/
def IsT : HO → Prop
  | .tbl _ => True
  | .ext _ => True
  | _ => False
def KT (H H' : Hp) : Prop := ∀ b o, H b = some o → IsT o → H' b = some o
theorem isT_code {c : Addr} {q : Str} : IsT (LamX.CodeO c q) := by
  unfold LamX.CodeO
  trivial
theorem tabs_keep {T : List (Addr × Str)} {H H' : Hp} (t : LamX.Tabs T H) (k : KT H H') : LamX.Tabs T H' := fun p hp => by
  obtain ⟨ps, h1, h2, h3⟩ := t p hp
  refine ⟨ps, k _ _ h1 trivial, h2, fun pos cv hc => ?_⟩
  obtain ⟨c, e1, e2⟩ := h3 pos cv hc
  exact ⟨c, e1, k _ _ e2 isT_code⟩
/-- all but X and the tables is as it was -/
def FrT (X : List Addr) (H H' : Hp) : Prop := ∀ b o, H b = some o → b ∉ X → (∀ ps, o ≠ .tbl ps) → H' b = some o
theorem FrT.refl {X : List Addr} {H : Hp} : FrT X H H := fun _ _ e _ _ => e
theorem FrT.of {X : List Addr} {H H' : Hp} (k : Frm X H H') : FrT X H H' := fun b o e n _ => k b o e n
theorem FrT.ext {X : List Addr} {H H' : Hp} (k : LamX.ExtN H H') : FrT X H H' := fun b o e _ n => k b o e n
theorem FrT.trans {X : List Addr} {H H1 H2 : Hp} (x : FrT X H H1) (y : FrT X H1 H2) : FrT X H H2 := fun b o e n t => y b o (x b o e n t) n t
theorem Frm.mono {X Y : List Addr} {H H' : Hp} (k : Frm X H H') (h : ∀ b ∈ X, b ∈ Y) : Frm Y H H' := fun b o e n => k b o e fun z => n (h b z)
theorem KT.of {H H' : Hp} (s : Same H H') : KT H H' := fun b o e _ => s b o e
section
variable {a : Ad} {H H' : Hp} {dk s m wb ta tl b : Addr} {f f' : Ft} {as ts : List Addr} {tb : List (List Int)} {S : Nat} {ps : List Pr} {nh N N' : Nat} {nS nL n' : Net}
/-- all but X: the tables are kept where X has none -/
theorem KT.frm {X : List Addr} (k : Frm X H H') (h : ∀ p ∈ X, ∀ o, H p = some o → ¬ IsT o) : KT H H' := fun p o e t => k p o e fun hp => h p hp o e t
theorem Wd.noT (W : Wd a H dk s m wb f ta tl as ts tb S ps nh N nS nL) (B : BoxAt H b) : ∀ p ∈ b :: s :: f.list, ∀ o, H p = some o → ¬ IsT o := fun p hp o e t => by
  rcases List.mem_cons.mp hp with rfl | hp
  · obtain ⟨u, e1, c0, c1, rfl, _⟩ := B
    rw [e1] at e
    rw [← Option.some.inj e] at t
    exact t
  rcases List.mem_cons.mp hp with rfl | hp
  · obtain ⟨⟨dx, first, st, ar, sp, bk, ca, co, ti, go, hs, _⟩, _, _⟩ := W.store
    rw [hs] at e
    rw [← Option.some.inj e] at t
    exact t
  · obtain ⟨_, _, _, _, _, R, _⟩ := W.net
    unfold Ft.list at hp
    simp only [List.mem_cons, List.not_mem_nil, or_false] at hp
    rcases hp with rfl | rfl | rfl | rfl | rfl | rfl | rfl
    · rw [R.d] at e; rw [← Option.some.inj e] at t; exact t
    · rw [R.ls] at e; rw [← Option.some.inj e] at t; exact t
    · rw [R.la] at e; rw [← Option.some.inj e] at t; exact t
    · rw [R.lp] at e; rw [← Option.some.inj e] at t; exact t
    · rw [R.lc] at e; rw [← Option.some.inj e] at t; exact t
    · rw [R.lt] at e; rw [← Option.some.inj e] at t; exact t
    · rw [R.lg] at e; rw [← Option.some.inj e] at t; exact t
theorem Wd.ext (h : Wd a H dk s m wb f ta tl as ts tb S ps nh N nS nL) (k : LamX.ExtN H H') : Wd a H' dk s m wb f ta tl as ts tb S ps nh N nS nL := by
  have kn : KNL H H' := fun b o e n => k b o e fun ps z => by rw [z] at n; exact n
  refine ⟨h.desk.knl kn, h.store.knl kn, ?_, k _ _ h.tas (fun ps z => by cases z), ⟨h.rows.1, fun j q r e1 e2 => k _ _ (h.rows.2 j q r e1 e2) (fun ps z => by cases z)⟩, k _ _ h.tls (fun ps z => by cases z), h.ties.tup kn.tup, h.nta, h.ntl, h.nas⟩
  obtain ⟨sa, ga, bk, ca, tv, R, x, y, z, ti⟩ := h.net
  exact ⟨sa, ga, bk, ca, tv, ⟨k _ _ R.d (fun ps z => by cases z), k _ _ R.ls (fun ps z => by cases z), k _ _ R.la (fun ps z => by cases z), k _ _ R.lp (fun ps z => by cases z), k _ _ R.lc (fun ps z => by cases z), k _ _ R.lt (fun ps z => by cases z), k _ _ R.lg (fun ps z => by cases z), R.nd⟩, x.keep kn.tup, y.keep kn.tup, z.keep kn.tup, ti⟩
theorem Bx.ext (B : Bx H b f ta tl as) (k : LamX.ExtN H H') : Bx H' b f ta tl as := by
  obtain ⟨⟨u, e, hu⟩, n1, n2, n3, n4⟩ := B
  obtain ⟨c0, c1, rfl, _⟩ := id hu
  exact ⟨⟨_, k _ _ e (fun ps z => by cases z), hu⟩, n1, n2, n3, n4⟩
end
/-! ### repr of a text -/
def rReprS : List V → Hp → VK → Prop := fun xs H Q => ∃ x, xs = [V.str x] ∧ (reprText x).length ≤ sizeLine ∧ Q (.str (reprText x)) H
theorem call_reprS {X : Cx} : CallR X (.builtin "repr") rReprS := by
  intro pins s σ H xs us Q I r h
  obtain ⟨x, rfl, hz, q⟩ := h
  obtain ⟨u, rfl, t, rfl⟩ := vals1 r
  exact PySem.P.repr_of_str ⟨.str _, H, I.tok _, ⟨_, rfl⟩, q⟩ hz
def okS (x : Str) : Bool := x.cps.toList.all fun c => decide (c < 16 ^ 8)
theorem okS_append {x y : Str} (h : okS x = true) (g : okS y = true) : okS (x ++ y) = true := by
  unfold okS at *
  rw [show (x ++ y).cps.toList = x.cps.toList ++ y.cps.toList from Array.toList_append, List.all_append, h, g]
  rfl
theorem okS_join {y : Str} (hy : okS y = true) : ∀ parts : List Str, (∀ p ∈ parts, okS p = true) → okS (Str.join y parts) = true
  | [], _ => rfl
  | [x], h => h x (List.mem_singleton.mpr rfl)
  | x :: z :: r, h => by
    show okS (x ++ y ++ Str.join y (z :: r)) = true
    exact okS_append (okS_append (h x List.mem_cons_self) hy) (okS_join hy (z :: r) fun p hp => h p (List.mem_cons_of_mem _ hp))
theorem okS_tx0 : ∀ k : Nat, k < 120 → okS (tx (k : Int)) = true := by decide +kernel
theorem okS_tx {x : Int} (h0 : 0 ≤ x) (h1 : x < 120) : okS (tx x) = true := by
  have z := okS_tx0 x.toNat (by omega)
  rw [show ((x.toNat : Nat) : Int) = x by omega] at z
  exact z
theorem okS_row {l : List Int} (h : ∀ x ∈ l, InR 8 x) : okS (rowTx l) = true := by
  unfold rowTx
  by_cases c : 0 < l.length
  · rw [if_pos c, TL.join_eq]
    refine okS_join (by decide +kernel) _ fun p hp => ?_
    obtain ⟨x, hx, rfl⟩ := List.mem_map.mp hp
    exact okS_tx (h x hx).1 (by have := (h x hx).2; omega)
  · rw [if_neg c]
    decide +kernel
theorem okS_co {l : List (Option Int)} (h : ∀ x, some x ∈ l → InR 8 x) : okS (coTx l) = true := by
  unfold coTx
  rw [TL.join_eq]
  refine okS_join (by decide +kernel) _ fun p hp => ?_
  obtain ⟨x, hx, rfl⟩ := List.mem_map.mp hp
  cases x with
  | none => exact (by decide +kernel : okS (cTx none) = true)
  | some i => exact okS_tx (h i hx).1 (by have := (h i hx).2; omega)
theorem co_len {l : List (Option Int)} (hl : l.length ≤ 5) (h : ∀ x, some x ∈ l → InR 8 x) : (coTx l).length ≤ 20 := by
  unfold coTx
  rw [TL.join_eq]
  have z := len_join " " (l.map cTx)
  have z2 := sum_le (ls := (l.map cTx).map (·.length)) (b := 2) fun x hx => by
    obtain ⟨y, hy, rfl⟩ := List.mem_map.mp hx
    obtain ⟨i, hi, rfl⟩ := List.mem_map.mp hy
    cases i with
    | none => exact (by decide +kernel : (cTx none).length ≤ 2)
    | some i => exact tx_len (Nat.le_refl 8) (h i hi)
  rw [List.length_map, List.length_map] at z2
  rw [List.length_map] at z
  have z3 : (" " : Str).length = 1 := rfl
  rw [z3] at z
  omega
theorem tx_len120 : ∀ k : Nat, k < 120 → (tx (k : Int)).length ≤ 3 := by decide +kernel
/-- the text of what a net holds is short and plain -/
theorem held_ok {S nh nt N : Nat} {n : Net} {w : Str} (g : Gd S nh nt N n) (hS : S ≤ 8) (n4 : nh ≤ 4) (n5 : nt ≤ 5) (hN : N ≤ 100) : okS (held n w) = true ∧ (held n w).length ≤ 50 := by
  have r8 : ∀ x, InR S x → InR 8 x := fun x hx => ⟨hx.1, by have := hx.2; omega⟩
  by_cases c1 : w = "states"
  · unfold held
    rw [if_pos c1]
    have z := row_len (l := n.st) (by rw [g.st]; omega) fun x hx => r8 x (g.stR x hx)
    exact ⟨okS_row fun x hx => r8 x (g.stR x hx), by omega⟩
  by_cases c2 : w = "ties"
  · unfold held
    rw [if_neg c1, if_pos c2]
    have z := row_len (l := n.ar) (by rw [g.ar]; omega) fun x hx => r8 x (g.arR x hx)
    exact ⟨okS_row fun x hx => r8 x (g.arR x hx), by omega⟩
  by_cases c3 : w = "copies"
  · unfold held
    rw [if_neg c1, if_neg c2, if_pos c3]
    have z := co_len (l := n.co) (by rw [g.co]; omega) fun x hx => r8 x (g.coR x hx)
    exact ⟨okS_co fun x hx => r8 x (g.coR x hx), by omega⟩
  by_cases c4 : w = "steps"
  · unfold held
    rw [if_neg c1, if_neg c2, if_neg c3, if_pos c4]
    have l := g.sp
    have z := tx_len120 n.sp.length (by omega)
    exact ⟨okS_tx (by omega) (by omega), by omega⟩
  cases hb : n.bk with
  | none =>
    unfold held
    rw [if_neg c1, if_neg c2, if_neg c3, if_neg c4, hb]
    show okS "none" = true ∧ ("none" : Str).length ≤ 50
    decide +kernel
  | some x =>
    obtain ⟨c, t, gg⟩ := x
    obtain ⟨e1, e2, e3, e4, e5⟩ := g.bk c t gg hb
    rw [held_some c1 c2 c3 c4 hb]
    by_cases c5 : w = "caught"
    · rw [if_pos c5]
      have z := tx_len120 gg.length (by omega)
      exact ⟨okS_tx (by omega) (by omega), by omega⟩
    · rw [if_neg c5]
      have l1 := row_len (l := c) (by omega) fun x hx => r8 x (e3 x hx)
      have l2 := row_len (l := t) (by omega) fun x hx => r8 x (e4 x hx)
      refine ⟨okS_append (okS_append (okS_row fun x hx => r8 x (e3 x hx)) (by decide +kernel)) (okS_row fun x hx => r8 x (e4 x hx)), ?_⟩
      rw [Str.length_append, Str.length_append]
      show (rowTx c).length + 2 + (rowTx t).length ≤ 50
      omega
theorem repr_fits {x : Str} (h : okS x = true) (l : x.length ≤ 1000) : (reprText x).length ≤ sizeLine := by
  have z := StrLaws.reprText_len x fun c hc => by
    unfold okS at h
    exact of_decide_eq_true (List.all_eq_true.mp h c hc)
  rw [sizeLine_eq]
  omega
end Hl
set_option Elab.async false
set_option linter.all false
set_option maxRecDepth 100000
set_option maxHeartbeats 2000000
namespace Hl
open PySem PySem.Spec PyProof.Rows L2
/-- a def whose code object is known -/
structure FunC (K : PySem.W.Frag) (x qual : Str) (st : Stmt) (f : Addr) (fd : FuncData) (c : Addr) : Prop where
  ex : ∃ (oc : Value) (od : Option Addr) (kV doc pm : Value) (an : Option Addr) (ct : Value) (osl : Array (Option Value)),
    fd = PySem.W.fnOf x qual (defArgs st) (defBody st) (defScope st) .none kV doc pm an (.ref c) ct ∧ K.lookup f = some ⟨oc, od, .func fd, osl⟩ ∧ PySem.W.codeIn K (.ref c) qual = true
theorem FunC.ok {P : Program} {w : World} {K : PySem.W.Frag} {mg : Str → Option Value} {base : Heap} {x qual : Str} {st : Stmt} {f c : Addr} {fd : FuncData} {N ps : List Str} {k : Nat} {sp : Sp} (F : FunC K x qual st f fd c) (S : FnScope N ps (defScope st)) (len : ∀ vs H Q E, sp vs H Q E → vs.length = ps.length)
    (hbody : ∀ (A : Around) (outer : List Env) (s : Shared) (H : Hp) (vs : List V) (Q : VK) (E : XK), Room k (A.deeper (envOfC qual (defScope st) s.heap.objs.size f (.ref c))) → sp vs H Q E →
      ∃ t, PSs (cxOf CX0 P w K mg base N qual (defScope st) f (.ref c) A outer s H E).nox (defBody st) t ∧ t { nx := fun _ H' => Q .non H', rt := Q } (L2.start N vs) H) : FnOk P w K mg base CX0 (k + 1) f fd ps sp := by
  obtain ⟨oc, od, kV, doc, pm, an, ct, osl, rfl, lk, hcd⟩ := F.ex
  refine fn_of lk hcd S len fun A outer s H vs Q E hr hsp => ?_
  obtain ⟨t, h, q⟩ := hbody A outer s H vs Q E hr hsp
  exact ⟨t, h.nox, q⟩
/-! ### refused lines -/
def Refd (nh nt nd : Nat) : Cmd → Prop
  | .doo h d => ¬ (0 ≤ h ∧ h < (nh : Int)) ∨ (0 ≤ h ∧ h < (nh : Int) ∧ ¬ (0 ≤ d ∧ d < (nd : Int)))
  | .meet t => ¬ (0 ≤ t ∧ t < (nt : Int))
  | .read h => ¬ (0 ≤ h ∧ h < (nh : Int))
def refs (nh nt nd : Nat) : List Str := [("do " ++ tx (nh : Int)) ++ " 0", "do 0 " ++ tx (nd : Int), "meet " ++ tx (nt : Int), "read " ++ tx (nh : Int), "read 999999999"]
theorem refs_ok {nh nt nd : Nat} (h1 : 1 ≤ nh) (h4 : nh ≤ 4) (h5 : nt ≤ 5) (h3 : nd ≤ 3) : ∀ z ∈ refs nh nt nd, ∃ c, LineC z c ∧ Refd nh nt nd c := fun z hz => by
  unfold refs at hz
  simp only [List.mem_cons, List.not_mem_nil, or_false] at hz
  rcases hz with rfl | rfl | rfl | rfl | rfl
  · exact ⟨_, lineC (doH_line0 nh (by omega)), .inl (by omega)⟩
  · exact ⟨_, lineC (doD_line0 nd (by omega)), .inr ⟨by omega, by omega, by omega⟩⟩
  · exact ⟨_, lineC (meet_line0 nt (by omega)), (by show ¬ _; omega)⟩
  · exact ⟨_, lineC (read_line0 nh (by omega)), (by show ¬ _; omega)⟩
  · exact ⟨_, big_line, (by show ¬ (0 ≤ (999999999 : Int) ∧ (999999999 : Int) < _); omega)⟩
section
variable {a : Ad} {H H' : Hp} {dk s m wb ta tl b : Addr} {f f' : Ft} {as ts : List Addr} {tb : List (List Int)} {S : Nat} {ps : List Pr} {nh N N' : Nat} {nS nL n' : Net} {K : PySem.W.Frag} {Q : VK} {E : XK}
theorem say_ref {z : Str} {c : Cmd} (h : Wd a H dk s m wb f ta tl as ts tb S ps nh N nS nL) (hN : N ≤ 100) (l : LineC z c) (r : Refd nh ps.length tb.length c) (q : ∀ H', Same H H' → Q (.str "refused") H') : spSay a K [.ref dk, .str z] H Q E := by
  have no : ∀ C, (C = a.xRefused ∨ C = a.xNoHouse ∨ C = a.xNoDeed ∨ C = a.xNoTie) → RW H (ECatch a Q) C := fun C hC H' d s' => .inr ⟨by rcases hC with e | e | e | e <;> simp [e], q H' s'⟩
  refine say_cmd h hN l ?_
  cases c with
  | doo x y =>
    refine ⟨fun _ => no _ (by simp), fun _ _ _ => no _ (by simp), fun a1 a2 a3 a4 => ?_⟩
    rcases r with r | ⟨_, _, r⟩
    · exact absurd ⟨a1, a2⟩ r
    · exact absurd ⟨a3, a4⟩ r
  | meet t => exact ⟨fun _ => no _ (by simp), fun p t0 hp => absurd ⟨t0, by have := (List.getElem?_eq_some_iff.mp hp).1; omega⟩ r⟩
  | read x => exact ⟨fun _ => no _ (by simp), fun a1 a2 _ => absurd ⟨a1, a2⟩ r, fun a1 a2 _ => absurd ⟨a1, a2⟩ r⟩
end
theorem KT.box {H : Hp} {b : Addr} {u : HO} (B : BoxAt H b) : KT H (upd H b u) := fun c o e t => by
  obtain ⟨u', e1, c0, c1, rfl, _⟩ := B
  rw [upd_ne (ne_of e e1 (by intro z; rw [z] at t; exact t))]
  exact e
theorem FrT.box {H H1 : Hp} {b : Addr} {u : HO} (F : FrT [b] H H1) : FrT [b] H (upd H1 b u) := F.trans (.of (Frm.but (b := b) but_put (List.mem_singleton.mpr rfl)))
def lnB (q : Addr) : V → Bool
  | .str _ => true
  | .non => true
  | .int _ => true
  | .ref r => decide (r = q)
  | _ => false
theorem odd_line {K : PySem.W.Frag} {H : Hp} {q : Addr} {xs : List V} {v : V} (hq : H q = some (.tup xs)) (h : v ∈ oddT ++ oddT2 q) : (∃ bb, LineV K H v bb) ∧ oddB v = true ∧ lenB v = true := by
  have l1 : (oddT ++ oddT2 q).all (lnB q) = true := by simp [oddT, oddT2, lnB]
  have l2 : (oddT ++ oddT2 q).all oddB = true := by rw [List.all_append, odd1, odd2]; rfl
  have l3 : (oddT ++ oddT2 q).all lenB = true := by rw [List.all_append, len1, len2]; rfl
  refine ⟨?_, List.all_eq_true.mp l2 v h, List.all_eq_true.mp l3 v h⟩
  have z := List.all_eq_true.mp l1 v h
  match v, z with
  | .str y, _ => exact ⟨_, .str y⟩
  | .non, _ => exact ⟨_, .non⟩
  | .int i, _ => exact ⟨_, .int i⟩
  | .ref r, z =>
    have e : r = q := of_decide_eq_true z
    rw [e]
    exact ⟨_, .tup hq⟩
/-- the names of the lambda's code object's table -/
def lamT (P : Addr) : List (Addr × Str) := [(P, (("_law_lines_right" : Str) ++ ".<locals>.") ++ "<lambda>")]
theorem pe_fault {X : Cx} {g c PT CS : Addr} {k : Nat} {dV kV doc pm cdv ct oc : Value} {an od : Option Addr} {osl : Array (Option Value)} {params : Arguments} {body : Expr} {scope : Scope} {t : XK → TE} {p lpos pos : Pos} (hg : Gl X "_law_fault") (hm : X.mg "_law_fault" = some (.ref g)) (hk : PySem.W.keepIn X.K (.ref g) = true)
    (lk : X.K.lookup g = some ⟨oc, od, .func (PySem.W.fnOf "_law_fault" "_law_fault" (defArgs sLFault) (defBody sLFault) (defScope sLFault) dV kV doc pm an cdv ct), osl⟩) (hcg : PySem.W.codeIn X.K cdv "_law_fault" = true) (hb : L2.Binds X.K (PySem.W.fnOf "_law_fault" "_law_fault" (defArgs sLFault) (defBody sLFault) (defScope sLFault) dV kV doc pm an cdv ct) pLFault [])
    (hme : X.mg "BadText" = some (.ref CS)) (ex : PySem.W.exmOne X.K (.ref CS) (.ref CS) = some true) (xf : XfC X.K CS) (hno : PySem.W.findIn X.K (.ref CS) "at" = some none)
    (TB : LamX.TabB X.base X.mg c PT) (hcode : X.env.code = .ref c) (hq : X.env.qual = ("_law_lines_right" : Str) ++ ".<locals>.") (hr : Room (k + 2) X.A) (hsc : X.env.scope = defScope sLLines) (hL : LamX.lamSB (defScope sLLines) scope = true) (hdef : defaultsOf params X.env = ([], []))
    (hbind : ∀ (q : Str) (cl : List (Str × Addr)) (pm cv ctv : Value), bindArgs (PySem.W.kla_fn "<lambda>" q params body scope cl pm cv ctv) ⟨[], []⟩ = pure [])
    (hbody : ∀ (A : Around) (outer : List Env) (s : Shared) (H : Hp) (E : XK) (f c' : Addr), Room k (A.deeper (LamX.lamEnv X scope s.heap.objs.size f c')) → PE (LamX.lamCx X A outer s H E scope f c') body (t E)) :
    PE X (.Call (.Name "_law_fault" p) [.Lambda params body scope lpos] [] pos) (LamX.tLam (lamT PT) (TFault CS) t) := by
  have hmT : (PT, X.env.qual ++ "<lambda>") ∈ lamT PT := by
    rw [hq]
    exact List.mem_singleton.mpr rfl
  have hqT : ∀ p ∈ lamT PT, p.1 = PT → p.2 = X.env.qual ++ "<lambda>" := fun p hp _ => by
    rw [hq, List.mem_singleton.mp hp]
  exact LamX.pe_lamcall (Ng := nLFault) hg hm hk lk hcg hb scLFault rfl (.inl (by decide +kernel)) (fault_gives hme ex xf hno) TB hcode hmT hqT hr (by rw [hsc]; exact LamX.lamS_by hL) hdef hbind hbody
def spLLines (a : Ad) (PT : Addr) : Sp := fun vs H Q _ => ∃ (dk s m wb b ta tl : Addr) (f : Ft) (as ts : List Addr) (tb : List (List Int)) (S : Nat) (ps : List Pr) (nh N : Nat) (n : Net), vs = [.ref b, .ref dk, .int nh, .int ps.length, .int tb.length] ∧ Wd a H dk s m wb f ta tl as ts tb S ps nh N n n ∧ Bx H b f ta tl as ∧ N ≤ 100 ∧ tb.length ≤ 3 ∧ LamX.Tabs (lamT PT) H ∧
  ∀ H' : Hp, Wd a H' dk s m wb f ta tl as ts tb S ps nh N n n → Bx H' b f ta tl as → LamX.Tabs (lamT PT) H' → FrT [b] H H' → Q (.bl true) H'
section
variable {P : Program} {w : World} {K : PySem.W.Frag} {mg : Str → Option Value} {base : Heap} {a : Ad} {d : Fd} {cL PT : Addr}
theorem ok_LLines (T : Txt P w K mg a d) (FC : FunC K "_law_lines_right" "_law_lines_right" sLLines a.fLLines d.fLLines cL) (TB : LamX.TabB base mg cL PT) : FnOk P w K mg base CX0 12 a.fLLines d.fLLines pLLines (spLLines a PT) := by
  have GP : FnOk P w K mg base CX0 2 a.fLPick d.fLPick pLPick (spLPick K) := ok_LPick T
  have GS : FnOk P w K mg base (L2.CX P w) 8 a.fSay d.fSay pSay (spSay a K) := ok_Say T
  obtain ⟨oc, od, kV, doc, pm, an, cdv, ct, osl, hfd, lk, hcd⟩ := T.FLFault.ex
  have bF := T.bLFault
  rw [hfd] at lk bF
  refine FC.ok scLLines (fun vs H Q E h => ?_) (fun A outer s H vs Q E hr h => ?_)
  · obtain ⟨dk, s, m, wb, b, ta, tl, f, as, ts, tb, S, ps, nh, N, n, rfl, _⟩ := h
    rfl
  · obtain ⟨dk, s, m, wb, b, ta, tl, f, as, ts, tb, S, ps, nh, N, n, rfl, hW, hB, hN, l3, hTb, k⟩ := h
    have hr8 : Room 8 _ := hr.mono (by decide)
    have hT := hW.store.und.um.ok
    have hWs := hW.store.und.uw.ok
    have n1 := hWs.n1
    have n4 := hWs.n4
    have n5 := hWs.len
    refine ⟨_, pss_cons (ps_set (i := 5) scLLines.nd rfl (.inl rfl) (pe_lst (pa_cons (pe_op op_add_str (pe_op op_add_str pe_str (pe_callTy call_str_int (by rfl) T.b_str boot_str (pa_cons (pv 2) pa_nil))) pe_str) (pa_cons (pe_op op_add_str pe_str (pe_callTy call_str_int (by rfl) T.b_str boot_str (pa_cons (pv 4) pa_nil))) (pa_cons (pe_op op_add_str pe_str (pe_callTy call_str_int (by rfl) T.b_str boot_str (pa_cons (pv 3) pa_nil))) (pa_cons (pe_op op_add_str pe_str (pe_callTy call_str_int (by rfl) T.b_str boot_str (pa_cons (pv 2) pa_nil))) (pa_cons pe_str pa_nil)))))))
      (pss_cons (ps_for PassesOwn.never rfl (pi_list (pv 5)) (pg_name (i := 6) scLLines.nd rfl (.inl rfl))
        (pss_one (ps_if (pt_cmpR op_ne (pe_callB call_reprS (by rfl) T.b_repr boot_repr (pa_cons (pe_meth (pv 1) T.clDesk T.mSay GS hr8 T.bSay .nil passL (pa_cons (pv 6) pa_nil)) pa_nil)) (pe_callB call_reprS (by rfl) T.b_repr boot_repr (pa_cons pe_str pa_nil)) (nomark _)) (pss_one (ps_ret pe_bl)) pss_nil)))
      (pss_cons (ps_set (i := 7) scLLines.nd rfl (.inl rfl) (pe_lst (pa_cons pe_str (pa_cons pe_str (pa_cons pe_str (pa_cons pe_str (pa_cons pe_str (pa_cons pe_str (pa_cons pe_str (pa_cons pe_str (pa_cons pe_str (pa_cons pe_str (pa_cons pe_str (pa_cons pe_str (pa_cons pe_str (pa_cons pe_str pa_nil))))))))))))))))
      (pss_cons (ps_set (i := 7) scLLines.nd rfl (.inl rfl) (pe_op op_cat (pv 7) (pe_lst (pa_cons pe_str (pa_cons pe_str (pa_cons pe_str (pa_cons pe_str (pa_cons pe_str (pa_cons pe_str (pa_cons pe_str (pa_cons pe_str (pa_cons pe_non (pa_cons pe_int (pa_cons (pe_tup (pa_cons pe_str pa_nil)) (pa_cons pe_str (pa_cons pe_str pa_nil))))))))))))))))
      (pss_cons (ps_for PassesOwn.never rfl (pi_range1 (by rfl) T.b_range (pa_cons pe_int pa_nil)) (pg_name (i := 8) scLLines.nd rfl (.inl rfl))
        (pss_cons (ps_set (i := 9) scLLines.nd rfl (.inr rfl) (pe_call GP (hr.mono (by decide)) (by rfl) T.gLPick T.FLPick.kp T.bLPick .nil pass0 (pa_cons (pv 0) (pa_cons (pv 7) pa_nil))))
        (pss_one (ps_if (pt_cmpR op_ne (pe_fault (k := 8) (t := fun E => tMeth a.cDesk "say" (spSay a K) [] E (tVar 1) (tCons (tVar 9) tNil)) (by rfl) T.gLFault T.FLFault.kp lk hcd bF T.gBadText T.sBadText T.fBadText (T.XBadText.no "at" (by simp)) TB (by rfl) (by rfl) (hr.mono (by decide)) (by rfl) (by decide +kernel) (by rfl) (fun _ _ _ _ _ => rfl)
              (fun A outer s H E f c' hr2 => pe_meth (E := E) (pv 1) T.clDesk T.mSay GS hr2 T.bSay .nil (passes_call (takes_of rfl rfl rfl rfl) (fun _ _ _ _ h => h)) (pa_cons (pv 9) pa_nil))) pe_int (nomark _)) (pss_one (ps_ret pe_bl)) pss_nil))))
      (pss_one (ps_ret pe_bl)))))), ?_⟩
    have lh : (tx ((nh : Nat) : Int)).length ≤ 2 := tx_small nh (by omega)
    have lt : (tx ((ps.length : Nat) : Int)).length ≤ 2 := tx_small ps.length (by omega)
    have ld : (tx ((tb.length : Nat) : Int)).length ≤ 2 := tx_small tb.length (by omega)
    refine ⟨_, rfl, _, rfl, log_small (by omega) (by omega), _, _, rfl, rfl, ?_, _, _, rfl, rfl, ?_, _, rfl, _, rfl, log_small (by omega) (by omega), _, _, rfl, rfl, ?_, _, rfl, _, rfl, log_small (by omega) (by omega), _, _, rfl, rfl, ?_, _, rfl, _, rfl, log_small (by omega) (by omega), _, _, rfl, rfl, ?_, (by show 5 ≤ sizeLine; decide), fun l5 hl5 => ?_⟩
    · rw [sizeLine_eq]
      show 3 + (tx ((nh : Nat) : Int)).length ≤ _
      omega
    · rw [Str.length_append, sizeLine_eq]
      show 3 + (tx ((nh : Nat) : Int)).length + 2 ≤ _
      omega
    · rw [sizeLine_eq]
      show 5 + (tx ((tb.length : Nat) : Int)).length ≤ _
      omega
    · rw [sizeLine_eq]
      show 5 + (tx ((ps.length : Nat) : Int)).length ≤ _
      omega
    · rw [sizeLine_eq]
      show 5 + (tx ((nh : Nat) : Int)).length ≤ _
      omega
    have s1 : Same H (upd H l5 (.lst [.str ((Str.ofString "do " ++ Str.ofString (toString ((nh : Nat) : Int))) ++ Str.ofString " 0"), .str (Str.ofString "do 0 " ++ Str.ofString (toString ((tb.length : Nat) : Int))), .str (Str.ofString "meet " ++ Str.ofString (toString ((ps.length : Nat) : Int))), .str (Str.ofString "read " ++ Str.ofString (toString ((nh : Nat) : Int))), .str (Str.ofString "read 999999999")])) := same_new hl5
    have q1 : upd H l5 (.lst [.str ((Str.ofString "do " ++ Str.ofString (toString ((nh : Nat) : Int))) ++ Str.ofString " 0"), .str (Str.ofString "do 0 " ++ Str.ofString (toString ((tb.length : Nat) : Int))), .str (Str.ofString "meet " ++ Str.ofString (toString ((ps.length : Nat) : Int))), .str (Str.ofString "read " ++ Str.ofString (toString ((nh : Nat) : Int))), .str (Str.ofString "read 999999999")]) l5 = some (.lst ((refs nh ps.length tb.length).map V.str)) := upd_same
    generalize upd H l5 (.lst [.str ((Str.ofString "do " ++ Str.ofString (toString ((nh : Nat) : Int))) ++ Str.ofString " 0"), .str (Str.ofString "do 0 " ++ Str.ofString (toString ((tb.length : Nat) : Int))), .str (Str.ofString "meet " ++ Str.ofString (toString ((ps.length : Nat) : Int))), .str (Str.ofString "read " ++ Str.ofString (toString ((nh : Nat) : Int))), .str (Str.ofString "read 999999999")]) = H1 at s1 q1
    have W1 := hW.same s1
    refine ⟨_, rfl, l5, rfl, ⟨_, SqL.of q1⟩, ?_⟩
    refine for_it (walk_list (xs := (refs nh ps.length tb.length).map V.str)) (fun i σ H' => ∃ c6, σ = [some (.ref b), some (.ref dk), some (.int (nh : Nat)), some (.int (ps.length : Nat)), some (.int (tb.length : Nat)), some (.ref l5), c6, none, none, none] ∧ Same H1 H')
      ⟨none, rfl, Same.refl _⟩ (fun i σ H' _ hh => by obtain ⟨_, _, s⟩ := hh; exact SqL.of (s _ _ q1)) ?_ ?_
    · rintro i x σ H2o H2 hi ⟨c6, rfl, s2⟩ ⟨rfl, hx⟩
      obtain ⟨z, hz, rfl⟩ := map_at hx
      obtain ⟨c, lc, rc⟩ := refs_ok n1 n4 n5 l3 z (List.mem_of_getElem? hz)
      have W2 := W1.same s2
      obtain ⟨dd2, hdk2⟩ := id W2.desk
      refine ⟨_, rfl, dk, dd2, _, rfl, hdk2, rfl, _, rfl, ?_⟩
      dsimp only [tNil]
      refine say_ref W2 hN lc rc fun H3 s3 => ?_
      exact ⟨_, rfl, repr_fits (by decide +kernel) (by decide +kernel), _, rfl, repr_fits (by decide +kernel) (by decide +kernel), rfl, _, rfl, itdNF rfl ⟨_, rfl, s2.trans s3⟩⟩
    rintro σ H2 ⟨c6, rfl, s2⟩
    have W2 := W1.same s2
    have s02 := s1.trans s2
    refine ⟨(by show 14 ≤ sizeLine; decide), fun l7 hl7 => ⟨_, rfl, (by show 1 ≤ sizeLine; decide), fun q hq => ⟨(by show 13 ≤ sizeLine; decide), fun l8 hl8 => ?_⟩⟩⟩
    have t1 : Same H2 (upd H2 l7 (.lst oddT)) := same_new hl7
    have t2 : Same (upd H2 l7 (.lst oddT)) (upd (upd H2 l7 (.lst oddT)) q (.tup [.str "back"])) := same_new hq
    have t3 : Same (upd (upd H2 l7 (.lst oddT)) q (.tup [.str "back"])) (upd (upd (upd H2 l7 (.lst oddT)) q (.tup [.str "back"])) l8 (.lst (oddT2 q))) := same_new hl8
    refine ⟨l7, l8, oddT, oddT2 q, rfl, rfl, t3 _ _ (t2 _ _ upd_same), upd_same, (by show 14 + 13 ≤ sizeLine; decide), fun p hp => ?_⟩
    have t4 : Same (upd (upd (upd H2 l7 (.lst oddT)) q (.tup [.str "back"])) l8 (.lst (oddT2 q))) (upd (upd (upd (upd H2 l7 (.lst oddT)) q (.tup [.str "back"])) l8 (.lst (oddT2 q))) p (.lst (oddT ++ oddT2 q))) := same_new hp
    have t14 := ((t1.trans t2).trans t3).trans t4
    have hq4 : (upd (upd (upd (upd H2 l7 (.lst oddT)) q (.tup [.str "back"])) l8 (.lst (oddT2 q))) p (.lst (oddT ++ oddT2 q))) q = some (.tup [.str "back"]) := t4 _ _ (t3 _ _ upd_same)
    have hp4 : (upd (upd (upd (upd H2 l7 (.lst oddT)) q (.tup [.str "back"])) l8 (.lst (oddT2 q))) p (.lst (oddT ++ oddT2 q))) p = some (.lst (oddT ++ oddT2 q)) := upd_same
    have npb : p ≠ b := ((hB.same s02).same ((t1.trans t2).trans t3)).at_.ne hp
    have s04 := s02.trans t14
    refine ⟨6, rfl, by decide, by decide, ?_⟩
    refine for_it (walk_range (n := 6)) (fun i σ H' => ∃ c8 c9, σ = [some (.ref b), some (.ref dk), some (.int (nh : Nat)), some (.int (ps.length : Nat)), some (.int (tb.length : Nat)), some (.ref l5), c6, some (.ref p), c8, c9] ∧
        Wd a H' dk s m wb f ta tl as ts tb S ps nh N n n ∧ Bx H' b f ta tl as ∧ LamX.Tabs (lamT PT) H' ∧ FrT [b] H H' ∧ H' p = some (.lst (oddT ++ oddT2 q)) ∧ H' q = some (.tup [.str "back"]))
      ⟨none, none, rfl, hW.same s04, hB.same s04, tabs_keep hTb (KT.of s04), .of (.of s04), hp4, hq4⟩ (fun _ _ _ _ _ => True.intro) ?_ ?_
    · rintro i x σ H5o H5 hi ⟨c8, c9, rfl, W5, B5, T5, F5, hp5, hq5⟩ ⟨rfl, rfl⟩
      refine ⟨_, rfl, _, rfl, b, p, _, rfl, B5.at_, hp5, npb, (by show 1 ≤ 27; decide), (by show 27 ≤ 1000; decide), fun j v u hv hu => ?_⟩
      have nqb : q ≠ b := B5.at_.tup hq5
      have W6 := W5.box (but_put : But b H5 (upd H5 b u)) B5
      have B6 := B5.but hu
      have T6 : LamX.Tabs (lamT PT) (upd H5 b u) := tabs_keep T5 (KT.box B5.at_)
      have F6 : FrT [b] H (upd H5 b u) := F5.box
      have hp6 : upd H5 b u p = some (.lst (oddT ++ oddT2 q)) := by rw [upd_ne npb]; exact hp5
      have hq6 : upd H5 b u q = some (.tup [.str "back"]) := by rw [upd_ne nqb]; exact hq5
      generalize upd H5 b u = H6 at W6 B6 T6 F6 hp6 hq6
      refine ⟨T6, fun H7 e7 T7 => ?_⟩
      have W7 := W6.ext e7
      have B7 := B6.ext e7
      have F7 := F6.trans (FrT.ext (X := [b]) e7)
      have hp7 := e7 _ _ hp6 (fun ps z => by cases z)
      have hq7 := e7 _ _ hq6 (fun ps z => by cases z)
      obtain ⟨dd7, hdk7⟩ := id W7.desk
      obtain ⟨⟨bb, hl⟩, o1, o2⟩ := odd_line (K := K) hq7 (List.mem_of_getElem? hv)
      refine ⟨_, rfl, dk, dd7, _, rfl, hdk7, rfl, _, rfl, ?_⟩
      dsimp only [tNil]
      refine say_odd W7 hN hl o1 o2 fun H8 d8 s8 hd8 hx8 => ⟨rfl, d8, _, rfl, hx8, ?_⟩
      exact ⟨rfl, _, rfl, itdNF rfl ⟨_, _, rfl, W7.same s8, B7.same s8, tabs_keep T7 (KT.of s8), F7.trans (.of (.of s8)), s8 _ _ hp7, s8 _ _ hq7⟩⟩
    · rintro σ H5 ⟨c8, c9, rfl, W5, B5, T5, F5, hp5, hq5⟩
      exact k H5 W5 B5 T5 F5
end
end Hl
set_option Elab.async false
set_option linter.all false
set_option maxRecDepth 100000
set_option maxHeartbeats 2000000
namespace Hl
open PySem PySem.Spec PyProof.Rows L2
/-- repr of a tuple that can be shown, where no repr is under way -/
def rReprD (K : PySem.W.Frag) : List V → Hp → VK → Prop := fun xs H Q => ∃ (p : Addr) (d : PyData), xs = [V.ref p] ∧ Dp K H (.ref p) d ∧ d.showable = true ∧ d.hasDict = false ∧ d.depth ≤ 8 ∧ d.shown.length ≤ sizeLine ∧ Q (.str d.shown) H
theorem call_reprD {X : Cx} (hg : X.A.guards = some []) (hu : X.A.units + 64 < cLine) : CallR X (.builtin "repr") (rReprD X.K) := by
  intro pins s σ H xs us Q I r h
  obtain ⟨p, d, rfl, hd, hs, hn, hdp, hz, q⟩ := h
  obtain rfl := Vals.ref1 r
  obtain ⟨as, rd⟩ := Dp.reads I d _ (.ref p) hd rfl
  exact repr_of_reads' rd hs (fun z => by rw [hn] at z; cases z) hg (by omega) (fun _ _ e => e) (fun h' u tk hk => ⟨.str _, H, I.kept hk, ⟨_, rfl⟩, q⟩) hz
end Hl
set_option Elab.async false
set_option linter.all false
set_option maxRecDepth 100000
set_option maxHeartbeats 2000000
namespace Hl
open PySem PySem.Spec PyProof.Rows L2
/-! ### repr of the steps -/
def stpD : Stp → PyData
  | .doo h d => .tuple [.str "do", .int h, .int d]
  | .meet t => .tuple [.str "meet", .int t]
theorem dp_steps {K : PySem.W.Frag} {H : Hp} : ∀ {as : List Addr} {l : List Stp}, StpsAt H as l → DpAll K H (as.map V.ref) (l.map stpD)
  | [], [], _ => .nil
  | [], _ :: _, h => by have := h.1; simp at this
  | _ :: _, [], h => by have := h.1; simp at this
  | a :: as, x :: l, h => by
    have e := h.2 0 a x rfl rfl
    have t := dp_steps (K := K) (as := as) (l := l) ⟨by have := h.1; simpa using this, fun j b y e1 e2 => h.2 (j + 1) b y e1 e2⟩
    cases x with
    | doo p d => exact .cons (.tup (SqT.of e) (.cons (.str _) (.cons (.int p) (.cons (.int d) .nil)))) t
    | meet p => exact .cons (.tup (SqT.of e) (.cons (.str _) (.cons (.int p) .nil))) t
theorem stp_len : (∀ h : Nat, h < 10 → ∀ d : Nat, d < 10 → (stpD (.doo h d)).shown.length ≤ 30 ∧ (stpD (.doo h d)).showable = true) ∧ ∀ t : Nat, t < 10 → (stpD (.meet t)).shown.length ≤ 30 ∧ (stpD (.meet t)).showable = true := by decide +kernel
theorem stp_ok {x : Stp} (h : stpOk x) : (stpD x).shown.length ≤ 30 ∧ (stpD x).showable = true := by
  cases x with
  | doo p d =>
    obtain ⟨⟨a, b⟩, c, e⟩ := h
    have z := stp_len.1 p.toNat (by omega) d.toNat (by omega)
    rw [show ((p.toNat : Nat) : Int) = p by omega, show ((d.toNat : Nat) : Int) = d by omega] at z
    exact z
  | meet t =>
    obtain ⟨a, b⟩ := h
    have z := stp_len.2 t.toNat (by omega)
    rw [show ((t.toNat : Nat) : Int) = t by omega] at z
    exact z
theorem stps_facts : ∀ {l : List Stp}, (∀ x ∈ l, stpOk x) → PyData.showableAll (l.map stpD) = true ∧ PyData.hasDictAll (l.map stpD) = false ∧ PyData.depthAll (l.map stpD) ≤ 2 ∧ piled (PyData.shownAll (l.map stpD)) ≤ 32 * l.length
  | [], _ => ⟨rfl, rfl, Nat.zero_le _, Nat.le_refl _⟩
  | x :: l, h => by
    obtain ⟨i1, i2, i3, i4⟩ := stps_facts (l := l) fun y hy => h y (List.mem_cons_of_mem _ hy)
    obtain ⟨j1, j2⟩ := stp_ok (h x List.mem_cons_self)
    have d1 : (stpD x).hasDict = false ∧ (stpD x).depth ≤ 2 := by
      cases x with
      | doo p d => exact ⟨rfl, by show (PyData.tuple [.str "do", .int p, .int d]).depth ≤ 2; simp [PyData.depth, PyData.depthAll]⟩
      | meet p => exact ⟨rfl, by show (PyData.tuple [.str "meet", .int p]).depth ≤ 2; simp [PyData.depth, PyData.depthAll]⟩
    refine ⟨?_, ?_, ?_, ?_⟩
    · show ((stpD x).showable && PyData.showableAll (l.map stpD)) = true
      rw [j2, i1]; rfl
    · show ((stpD x).hasDict || PyData.hasDictAll (l.map stpD)) = false
      rw [d1.1, i2]; rfl
    · have dd := d1.2
      simp only [List.map_cons, PyData.depthAll]
      omega
    · show piled ((stpD x).shown :: PyData.shownAll (l.map stpD)) ≤ _
      rw [piled_cons, List.length_cons]
      omega
end Hl
set_option Elab.async false
set_option linter.all false
set_option maxRecDepth 100000
set_option maxHeartbeats 2000000
namespace Hl
open PySem PySem.Spec PyProof.Rows L2
theorem steps_repr {l : List Stp} (h : ∀ x ∈ l, stpOk x) (hl : l.length ≤ 100) : (PyData.tuple (l.map stpD)).showable = true ∧ (PyData.tuple (l.map stpD)).hasDict = false ∧ (PyData.tuple (l.map stpD)).depth ≤ 8 ∧ (PyData.tuple (l.map stpD)).shown.length ≤ sizeLine := by
  obtain ⟨a, b, c, e⟩ := stps_facts h
  refine ⟨a, b, ?_, ?_⟩
  · have z : (PyData.tuple (l.map stpD)).depth = PyData.depthAll (l.map stpD) + 1 := by simp [PyData.depth]
    omega
  · show (tupleText (PyData.shownAll (l.map stpD))).length ≤ _
    unfold tupleText
    rw [Str.length_append, Str.length_append, sizeLine_eq]
    have z1 : (Str.join ", " (PyData.shownAll (l.map stpD))).length ≤ 3200 := by
      by_cases c : PyData.shownAll (l.map stpD) = []
      · rw [c]; exact Nat.zero_le _
      · have z := join_length_add _ c
        omega
    have z2 : (Str.ofString (if (PyData.shownAll (l.map stpD)).length == 1 then ",)" else ")")).length ≤ 2 := by
      by_cases c : ((PyData.shownAll (l.map stpD)).length == 1) = true
      · rw [if_pos c]; decide +kernel
      · rw [if_neg c]; decide +kernel
    have z3 : ("(" : Str).length = 1 := rfl
    rw [z3]
    omega
/-- the script's list: tracked at sa as o, or written -/
def ScI (K : PySem.W.Frag) (sa : Addr) (xs : List V) (X : List Addr) (H : Hp) : Prop := (∀ H', SqL K H' sa xs) ∨ ∃ o, (o = .lst xs ∨ ∃ ob, o = .frz ob (.lst xs)) ∧ H sa = some o ∧ sa ∉ X
theorem ScI.of {K : PySem.W.Frag} {sa : Addr} {xs : List V} {H : Hp} (h : SqL K H sa xs) : ScI K sa xs [] H := by
  rcases h with (h | ⟨o, h⟩) | h
  · exact .inr ⟨_, .inl rfl, h, by simp⟩
  · exact .inr ⟨_, .inr ⟨o, rfl⟩, h, by simp⟩
  · exact .inl fun _ => .inr h
theorem ScI.sq {K : PySem.W.Frag} {sa : Addr} {xs : List V} {X : List Addr} {H : Hp} (h : ScI K sa xs X H) : SqL K H sa xs := by
  rcases h with h | ⟨o, rfl | ⟨ob, rfl⟩, h, _⟩
  · exact h H
  · exact .inl (.inl h)
  · exact .inl (.inr ⟨ob, h⟩)
theorem ScI.frt {K : PySem.W.Frag} {sa : Addr} {xs : List V} {X Y : List Addr} {H H' : Hp} (h : ScI K sa xs X H) (k : FrT X H H') (y : ∀ p ∈ Y, p ∈ X ∨ H p = none) : ScI K sa xs Y H' := by
  rcases h with h | ⟨o, ho, e, n⟩
  · exact .inl h
  · refine .inr ⟨o, ho, k _ _ e n (fun ps z => by rcases ho with rfl | ⟨ob, rfl⟩ <;> cases z), fun hy => ?_⟩
    rcases y sa hy with z | z
    · exact n z
    · rw [e] at z; cases z
/-- new addresses may be forbidden, too -/
theorem ScI.more {K : PySem.W.Frag} {sa : Addr} {xs : List V} {X Y : List Addr} {H : Hp} (h : ScI K sa xs X H) (y : ∀ p ∈ Y, p ∈ X ∨ H p = none) : ScI K sa xs Y H := h.frt FrT.refl y
theorem KT.but {H H' : Hp} {b : Addr} (B : BoxAt H b) (k : But b H H') : KT H H' := fun c o e t => by
  obtain ⟨u', e1, c0, c1, rfl, _⟩ := B
  exact k c o e (ne_of e e1 (by intro z; rw [z] at t; exact t))
theorem KT.butI {H H' : Hp} {b C dx : Addr} {fs : List (Str × V)} (B : H b = some (.ins C dx fs)) (k : But b H H') : KT H H' := fun c o e t => k c o e (ne_of e B (by intro z; rw [z] at t; exact t))
theorem BoxAt.lstne {H : Hp} {b q : Addr} {o : HO} (B : BoxAt H b) (e : H q = none) : q ≠ b := B.ne e
theorem made_own {H : Hp} {x dx C : Addr} (hx : H x = none) (hdx : H dx = none) : Same H (upd (upd H dx (.own x)) x (.ins C dx [])) := fun q o e => by
  rw [upd_ne (ne_of_none e hx), upd_ne (ne_of_none e hdx)]
  exact e
theorem made_same {H H' : Hp} {x dx C : Addr} (hx : H x = none) (hdx : H dx = none) (b : But x (upd (upd H dx (.own x)) x (.ins C dx [])) H') : Same H H' := fun q o e => b _ _ (made_own hx hdx q o e) (ne_of_none e hx)
theorem new_box {a : Ad} {H : Hp} {dk s m wb ta tl b : Addr} {f : Ft} {as ts : List Addr} {tb : List (List Int)} {S : Nat} {ps : List Pr} {nh N : Nat} {nS nL : Net} {u : HO} (W : Wd a H dk s m wb f ta tl as ts tb S ps nh N nS nL) (hb : H b = none) (hu : BxO u) : Bx (upd H b u) b f ta tl as := by
  have no : ∀ {q : Addr} {o : HO}, H q = some o → b ≠ q := fun e z => by rw [← z, hb] at e; cases e
  refine ⟨⟨u, upd_same, hu⟩, fun z => ?_, no W.tas, no W.tls, fun z => ?_⟩
  · obtain ⟨o, e, _⟩ := W.net.nol z
    exact no e rfl
  · obtain ⟨r, e⟩ := W.row_at z
    exact no e rfl
theorem six_mem {j : Nat} {v : V} (h : ([.str "states", .str "ties", .str "copies", .str "steps", .str "caught", .str "backup"] : List V)[j]? = some v) : ∃ z : Str, z ∈ sixW ∧ v = .str z := by
  have e := List.mem_of_getElem? h
  simp only [List.mem_cons, List.not_mem_nil, or_false] at e
  rcases e with rfl | rfl | rfl | rfl | rfl | rfl
  · exact ⟨"states", by decide +kernel, rfl⟩
  · exact ⟨"ties", by decide +kernel, rfl⟩
  · exact ⟨"copies", by decide +kernel, rfl⟩
  · exact ⟨"steps", by decide +kernel, rfl⟩
  · exact ⟨"caught", by decide +kernel, rfl⟩
  · exact ⟨"backup", by decide +kernel, rfl⟩
end Hl
set_option Elab.async false
set_option linter.all false
set_option maxRecDepth 100000
set_option maxHeartbeats 2000000
namespace Hl
open PySem PySem.Spec PyProof.Rows L2
/-! ### C(e, ..) whose __init__ may raise, within a try: what is wanted of the exception may speak of the slots -/
def tMkAt (C : Addr) (sp : Sp) (E : L2.St → XK) (t : TA) : TE := fun σ H Q => t σ H fun vs H1 => ∀ y dy, H1 y = none → H1 dy = none → dy ≠ y → sp (.ref y :: vs) (upd (upd H1 dy (.own y)) y (.ins C dy [])) (fun v H2 => v = .non ∧ Q (.ref y) H2) (E σ)
section
variable {X : Cx} {CX : CXT} {k : Nat} {f C : Addr} {fd : FuncData} {ps : List Str} {sp : Sp} {E : L2.St → XK} {x : Str} {p pos : Pos} {e : Expr} {es : List Expr} {t : TA}
theorem made_at {pins : List (Addr × Obj)} {σ : L2.St} {H1 : Hp} {s1 : Shared} {Q : VK} {us : List Value} {vs : List V} (M : Mk X.K C f) (F : FnOk X.prog X.w X.K X.mg X.base CX k f fd ps sp) (room : Room (k + 1) X.A) (bi : Binds X.K fd ps []) (out : PassesAt CX X σ (E σ)) (J : Inv X pins σ H1 s1) (rv : Vals vs us)
    (want : ∀ y dy, H1 y = none → H1 dy = none → dy ≠ y → sp (.ref y :: vs) (upd (upd H1 dy (.own y)) y (.ins C dy [])) (fun v H2 => v = .non ∧ Q (.ref y) H2) (E σ)) : wpAny (model X.prog X.w) X.A (call (.ref C) us) (EP X pins σ Q) X.xe s1 := by
  have n0 := J.hok.fresh (Nat.le_refl s1.heap.objs.size)
  have n1 := J.hok.fresh (Nat.le_succ s1.heap.objs.size)
  have J2 := Inv.made (C := C) J
  have w1 := want _ _ n1 n0 (Nat.ne_of_lt (Nat.lt_succ_self _))
  have rv2 : Vals (V.ref (s1.heap.objs.size + 1) :: vs) (Value.ref (s1.heap.objs.size + 1) :: us) := .cons rfl rv
  have many : (Value.ref (s1.heap.objs.size + 1) :: us).length = ps.length := rv2.length.symm.trans (F.len _ _ _ _ w1)
  have bound := bi _ _ J2.kIn (by rw [List.append_nil]; exact many)
  rw [List.append_nil] at bound
  have env := J2.env0.make C us []
  refine wpAny_call (make_map J.kIn M.makes M.init (beq_iff_eq.mp M.fn) (codeAny_mono (F.run _ _ _ _ _ _ _ _ _ (room.make C us []) env bound rv2 w1) fun res s2 got => ?_))
  match res, got with
  | .error err, got => exact out pins _ _ err s2 J2 got
  | .ok (.ret u), got =>
    obtain ⟨v, H2, J3, rvu, is, q⟩ := J2.after got
    obtain rfl := is
    exact ⟨rvu, ⟨V.ref (s1.heap.objs.size + 1), H2, J3, rfl, q⟩⟩
  | .ok .next, got => exact got.elim
  | .ok .brk, got => exact got.elim
  | .ok .cont, got => exact got.elim
theorem pe_mkAt (M : Mk X.K C f) (F : FnOk X.prog X.w X.K X.mg X.base CX k f fd ps sp) (room : Room (k + 1) X.A) (hg : Gl X x) (hm : X.mg x = some (.ref C)) (bi : Binds X.K fd ps []) (out : ∀ σ, PassesAt CX X σ (E σ)) (ha : PA X (e :: es) t)
    (hdb : (x == ("__debug__" : Str)) = false := by decide) (he : starEach (e :: es) X.env = (false, eval e X.env) :: starEach es X.env := by rfl) (hpl : (backTo pos (starEach es X.env)).any (·.1) = false := by rfl) : PE X (.Call (.Name x p) (e :: es) [] pos) (tMkAt C sp E t) := ⟨fun pins s σ H Q J want => by
  exact wpAny_Call_Name_kw (ld_glob J hg hm (PySem.W.callWith_K (h₀ := X.base) J.ok.mod.kin M.kp (thn (ha.run pos pins s σ H _ J want) fun us s1 hh => ⟨(let ⟨_, _, J1, _⟩ := hh; J1.kIn), (let ⟨_, _, J1, rv, q⟩ := hh; made_at M F room bi (out σ) J1 rv q)⟩) he hpl) hdb)⟩
end
end Hl
set_option Elab.async false
set_option linter.all false
set_option maxRecDepth 100000
set_option maxHeartbeats 2000000
namespace Hl
open PySem PySem.Spec PyProof.Rows L2
theorem FrT.mono {X Y : List Addr} {H H' : Hp} (k : FrT X H H') (h : ∀ b ∈ X, b ∈ Y) : FrT Y H H' := fun b o e n t => k b o e (fun z => n (h b z)) t
section
variable {P : Program} {w : World} {K : PySem.W.Frag} {mg : Str → Option Value} {base : Heap} {a : Ad} {d : Fd} {cL PT : Addr}
theorem law_runs (T : Txt P w K mg a d) (FC : FunC K "_law_lines_right" "_law_lines_right" sLLines a.fLLines d.fLLines cL) (TB : LamX.TabB base mg cL PT) {cdv : Value} {A : Around} {outer : List Env} {s : Shared} {H : Hp} {E : XK} {Q : VK} {sa : Addr} {ns : List Int} (hg : A.guards = some []) (hr : Room 13 (A.deeper (envOfC "law" (defScope sLaw) s.heap.objs.size a.fLaw cdv)))
    (hTb : LamX.Tabs (lamT PT) H) (hsa : SqL K H sa (ns.map V.int)) (hns : ns.length ≤ 63) (k : ∀ H', Q (.bl true) H') :
    ∃ t, PSs (cxOf CX0 P w K mg base nLaw "law" (defScope sLaw) a.fLaw cdv A outer s H E).nox (defBody sLaw) t ∧ t { nx := fun _ H' => Q .non H', rt := Q } (L2.start nLaw [.ref sa]) H := by
  have hu := hu_of hr
  have GB : FnOk P w K mg base CX0 1 a.fLBox d.fLBox pLBox (spLBox K) := ok_LBox T
  have GT : FnOk P w K mg base CX0 1 a.fLTake d.fLTake pLTake spLTake := ok_LTake T
  have GP : FnOk P w K mg base CX0 2 a.fLPick d.fLPick pLPick (spLPick K) := ok_LPick T
  have GTb : FnOk P w K mg base CX0 3 a.fLTables d.fLTables pLTables spLTables := ok_LTables T
  have GTi : FnOk P w K mg base CX0 2 a.fLTies d.fLTies pLTies spLTies := ok_LTies T
  have GE : FnOk P w K mg base CX0 1 a.fLEnded d.fLEnded pLEnded spLEnded := ok_LEnded T
  have GM : FnOk P w K mg base CX0 9 a.fLMoved d.fLMoved pLMoved (spLMoved a) := ok_LMoved T
  have GH : FnOk P w K mg base CX0 2 a.fLHeld d.fLHeld pLHeld spLHeld := ok_LHeld T
  have GS : FnOk P w K mg base (L2.CX P w) 8 a.fSay d.fSay pSay (spSay a K) := ok_Say T
  have GL : FnOk P w K mg base CX0 12 a.fLLines d.fLLines pLLines (spLLines a PT) := ok_LLines T FC TB
  have GD : FnOk P w K mg base (L2.CX P w) 7 a.fDeskI d.fDeskI pDeskI (spDeskI a) := ok_DeskI T
  have GMa : FnOk P w K mg base CX0 6 a.fMachI d.fMachI pMachI (spMachI a.cMachine) := ok_MachI T
  have GWe : FnOk P w K mg base CX0 6 a.fWebI d.fWebI pWebI (spWebI a.cWeb) := ok_WebI T
  have hr1 : Room 1 _ := hr.mono (by decide)
  have hr2 : Room 2 _ := hr.mono (by decide)
  have hr3 : Room 3 _ := hr.mono (by decide)
  have hr8 : Room 8 _ := hr.mono (by decide)
  have hr9 : Room 9 _ := hr.mono (by decide)
  have hr7 : Room 7 _ := hr.mono (by decide)
  have hr12 : Room 12 _ := hr.mono (by decide)
  refine ⟨_, pss_cons (ps_set (i := 1) scLaw.nd rfl (.inl rfl) (pe_call GB hr1 (by rfl) T.gLBox T.FLBox.kp T.bLBox .nil pass0 (pa_cons (pv 0) (pa_cons pe_int pa_nil))))
    (pss_cons (ps_set (i := 2) scLaw.nd rfl (.inl rfl) (pe_call GTb hr3 (by rfl) T.gLTables T.FLTables.kp T.bLTables .nil pass0 (pa_cons (pv 1) pa_nil)))
    (pss_cons (ps_set (i := 3) scLaw.nd rfl (.inl rfl) (pe_op op_add pe_int (pe_call GT hr1 (by rfl) T.gLTake T.FLTake.kp T.bLTake .nil pass0 (pa_cons (pv 1) (pa_cons pe_int pa_nil)))))
    (pss_cons (ps_par (i := 4) (j := 5) (by rfl) scLaw.nd rfl rfl (by decide) rfl rfl (pa_cons (pe_call GTi hr2 (by rfl) T.gLTies T.FLTies.kp T.bLTies .nil pass0 (pa_cons (pv 1) (pa_cons (pv 3) (pa_cons pe_int pa_nil)))) (pa_cons (pe_call GT hr1 (by rfl) T.gLTake T.FLTake.kp T.bLTake .nil pass0 (pa_cons (pv 1) (pa_cons (pe_callB call_len_seq (by rfl) T.b_len boot_len (pa_cons (pe_ix ix_list (pv 2) pe_int (fun _ _ => rfl)) pa_nil)) pa_nil))) pa_nil)) (by rfl))
    (pss_cons (ps_set (i := 6) scLaw.nd rfl (.inl rfl) (pe_makeK0 T.MDesk GD hr8 (by rfl) T.gDesk (kw_desk T) passL (pk_cons (pv 5) (pk_cons (pe_make T.MWeb GWe hr7 (by rfl) T.gWeb T.bWebI .nil pass0 (pa_cons (pv 3) (pa_cons (pv 4) pa_nil))) (pk_cons (pe_make T.MMachine GMa hr7 (by rfl) T.gMachine T.bMachI .nil pass0 (pa_cons (pv 2) pa_nil)) pk_nil)))))
    (pss_cons (ps_set (i := 7) scLaw.nd rfl (.inl rfl) (pe_disp (pps_cons pe_str (pe_op op_rep (pe_lst (pa_cons (pv 5) pa_nil)) (pv 3)) (pps_cons pe_str (pe_op op_rep (pe_lst (pa_cons (pv 5) pa_nil)) (pe_callB call_len_seq (by rfl) T.b_len boot_len (pa_cons (pv 4) pa_nil))) (pps_cons pe_str (pe_lst pa_nil) (pps_cons pe_str pe_non (pps_cons pe_str pe_non pps_nil))))) rfl rfl (by simp) (by decide)))
    (pss_cons (ps_expr (pe_call GE hr1 (by rfl) T.gLEnded T.FLEnded.kp T.bLEnded .nil pass0 (pa_cons (pv 7) pa_nil)))
    (pss_cons (ps_for PassesOwn.never rfl (pi_range2 (by rfl) T.b_range (pa_cons pe_int (pa_cons (pe_callB (call_max2 rfl) (by rfl) T.b_max boot_max (pa_cons pe_int (pa_cons (pe_callB (call_min2 rfl) (by rfl) T.b_min boot_min (pa_cons (pe_callB call_len_seq (by rfl) T.b_len boot_len (pa_cons (pv 0) pa_nil)) (pa_cons pe_int pa_nil))) pa_nil))) pa_nil))) (pg_name (i := 8) scLaw.nd rfl (.inl rfl))
      (pss_cons (ps_set (i := 1) scLaw.nd rfl (.inl rfl) (pe_call GB hr1 (by rfl) T.gLBox T.FLBox.kp T.bLBox .nil pass0 (pa_cons (pv 0) (pa_cons (pv 8) pa_nil))))
      (pss_cons (ps_if (pt_not (pt_val (pe_call GM hr9 (by rfl) T.gLMoved T.FLMoved.kp T.bLMoved .nil pass0 (pa_cons (pv 1) (pa_cons (pv 6) (pa_cons (pv 7) (pa_cons (pv 2) (pa_cons (pv 4) pa_nil)))))))) (pss_one (ps_ret pe_bl)) pss_nil)
      (pss_cons (ps_set (i := 9) scLaw.nd rfl (.inl rfl) (pe_call GP hr2 (by rfl) T.gLPick T.FLPick.kp T.bLPick .nil pass0 (pa_cons (pv 1) (pa_cons (pe_lst (pa_cons pe_str (pa_cons pe_str (pa_cons pe_str (pa_cons pe_str (pa_cons pe_str (pa_cons pe_str pa_nil))))))) pa_nil))))
      (pss_cons (ps_if (pt_cmpR op_ne (pe_callB call_reprS (by rfl) T.b_repr boot_repr (pa_cons (pe_meth (pv 6) T.clDesk T.mSay GS hr8 T.bSay .nil passL (pa_cons (pv 9) pa_nil)) pa_nil)) (pe_callB call_reprS (by rfl) T.b_repr boot_repr (pa_cons (pe_call GH hr2 (by rfl) T.gLHeld T.FLHeld.kp T.bLHeld .nil pass0 (pa_cons (pv 7) (pa_cons (pv 9) pa_nil))) pa_nil)) (nomark _)) (pss_one (ps_ret pe_bl)) pss_nil)
      (pss_one (ps_if (PW.pt (pw_and (pt_cmpR op_eq (pe_call GT hr1 (by rfl) T.gLTake T.FLTake.kp T.bLTake .nil pass0 (pa_cons (pv 1) (pa_cons pe_int pa_nil))) pe_int (nomark _)) (pw_and1 (pt_not (pt_val (pe_call GL hr12 (by rfl) T.gLLines T.FLLines.kp T.bLLines .nil pass0 (pa_cons (pv 1) (pa_cons (pv 6) (pa_cons (pv 3) (pa_cons (pe_callB call_len_seq (by rfl) T.b_len boot_len (pa_cons (pv 4) pa_nil)) (pa_cons (pe_callB call_len_seq (by rfl) T.b_len boot_len (pa_cons (pv 2) pa_nil)) pa_nil))))))))))) (pss_one (ps_ret pe_bl)) pss_nil)))))))
    (pss_cons (ps_if (pt_not (pt_val (pe_call GL hr12 (by rfl) T.gLLines T.FLLines.kp T.bLLines .nil pass0 (pa_cons (pv 1) (pa_cons (pv 6) (pa_cons (pv 3) (pa_cons (pe_callB call_len_seq (by rfl) T.b_len boot_len (pa_cons (pv 4) pa_nil)) (pa_cons (pe_callB call_len_seq (by rfl) T.b_len boot_len (pa_cons (pv 2) pa_nil)) pa_nil)))))))) (pss_one (ps_ret pe_bl)) pss_nil)
    (pss_cons (ps_for PassesOwn.never rfl (pi_tup (pe_tup (pa_cons pe_str (pa_cons pe_str (pa_cons pe_str (pa_cons pe_str (pa_cons pe_str (pa_cons pe_str pa_nil)))))))) (pg_name (i := 9) scLaw.nd rfl (.inl rfl)) (pss_one (ps_if (pt_cmpR op_ne (pe_callB call_reprS (by rfl) T.b_repr boot_repr (pa_cons (pe_meth (pv 6) T.clDesk T.mSay GS hr8 T.bSay .nil passL (pa_cons (pv 9) pa_nil)) pa_nil)) (pe_callB call_reprS (by rfl) T.b_repr boot_repr (pa_cons (pe_call GH hr2 (by rfl) T.gLHeld T.FLHeld.kp T.bLHeld .nil pass0 (pa_cons (pv 7) (pa_cons (pv 9) pa_nil))) pa_nil)) (nomark _)) (pss_one (ps_ret pe_bl)) pss_nil)))
    (pss_cons (ps_try_as (c := .ref a.xNoState) (i := 10)
        (tb := fun W => tDrop (tMkAt a.cDesk (spDeskI a) (WE W) (tCons (tMake a.cMachine (spMachI a.cMachine) [] E0 (tCons (tVar 2) tNil)) (tCons (tMake a.cWeb (spWebI a.cWeb) [] E0 (tCons (tVar 3) (tCons (tVar 4) tNil))) (tCons (tCB (rLenS K) (tCons (tOp (rIxL K) (tVar 2) (tC (.int 0))) tNil)) tNil)))))
        (ts := fun ax cls dx D σ H => σ.length = nLaw.length → tRet (tAndV (tOp rEq (tXf ax cls dx a.xNoState "state" (tVar 10)) (tCB (rLenS K) (tCons (tOp (rIxL K) (tVar 2) (tC (.int 0))) tNil))) (tOp rEq (tCB (rReprD K) (tCons (tFld K (tFld K (tVar 6) "store") "steps") tNil)) (tCB (rReprD K) (tCons (tCB (rTupOf K) (tCons (tDGet (tVar 7) (tC (.str "steps"))) tNil)) tNil)))) D σ H)
        (Wout := fun _ _ _ _ => False) rfl rfl scLaw.nd rfl rfl ⟨rfl, by decide, .inl T.gNoState⟩ LamX.takes0
        (fun W pn xe tk _ => pss_one (ps_expr (pe_mkAt (E := WE W) T.MDesk GD hr8 (by rfl) T.gDesk T.bDeskI (fun σ => passAt tk σ) (pa_cons (pe_make T.MMachine GMa hr7 (by rfl) T.gMachine T.bMachI .nil pass0 (pa_cons (pv 2) pa_nil)) (pa_cons (pe_make T.MWeb GWe hr7 (by rfl) T.gWeb T.bWebI .nil pass0 (pa_cons (pv 3) (pa_cons (pv 4) pa_nil))) (pa_cons (pe_callB call_len_seq (by rfl) T.b_len boot_len (pa_cons (pe_ix ix_list (pv 2) pe_int (fun _ _ => rfl)) pa_nil)) pa_nil))))))
        (fun ax oe cls dx pn hz hf => pss_len (pss_one (ps_ret (pe_and (pe_cmpR op_eq (pe_xf T.fNoState (T.XNoState.no "state" (by simp)) hz hf (pv 10)) (pe_callB call_len_seq (by rfl) T.b_len boot_len (pa_cons (pe_ix ix_list (pv 2) pe_int (fun _ _ => rfl)) pa_nil)) (nomark _))
          (pe_one (pe_cmpR op_eq (pe_callB (call_reprD hg hr.units) (by rfl) T.b_repr boot_repr (pa_cons (pe_fld (pe_fld (pv 6) rfl) rfl) pa_nil)) (pe_callB (call_reprD hg hr.units) (by rfl) T.b_repr boot_repr (pa_cons (pe_callTy (call_tupOf K rfl) (by rfl) T.b_tuple boot_tuple (pa_cons (pe_dget hu (pv 7) pe_str (fun _ _ => rfl)) pa_nil)) pa_nil)) (nomark _)))))))) (pss_one (ps_ret pe_bl)))))))))))), ?_⟩
  have hu1 := hu
  -- the box
  refine ⟨_, rfl, sa, ns, 0, rfl, hsa, by decide, fun b u0 hb0 hu0 => ?_⟩
  have s1 : Same H (upd H b u0) := same_new hb0
  have B1 : BoxAt (upd H b u0) b := ⟨u0, upd_same, hu0⟩
  have T1 : LamX.Tabs (lamT PT) (upd H b u0) := tabs_keep hTb (KT.of s1)
  have S1 : ScI K sa (ns.map V.int) [b] (upd H b u0) := ((ScI.of hsa).more (Y := [b]) (fun p hp => .inr (by rw [List.mem_singleton.mp hp]; exact hb0))).frt (FrT.of (Frm.of s1)) (fun p hp => .inl hp)
  generalize upd H b u0 = H1 at s1 B1 T1 S1
  -- the tables
  refine ⟨_, rfl, b, rfl, B1, fun H2 ta as tb S b2 B2 hta hR hT l3 hnta hnas => ?_⟩
  have T2 : LamX.Tabs (lamT PT) H2 := tabs_keep T1 (KT.but B1 b2)
  have S2 : ScI K sa (ns.map V.int) [b] H2 := S1.frt (FrT.of (Frm.but b2 (List.mem_singleton.mpr rfl))) (fun p hp => .inl hp)
  have nta : ta ≠ b := B1.ne hnta
  have nas : ∀ c ∈ as, c ≠ b := fun c hc => B1.ne (hnas c hc).1
  -- houses
  refine ⟨_, rfl, b, 4, rfl, B2, by decide, by decide, fun r u3 hr3 hu3 => ?_⟩
  have b3 : But b H2 (upd H2 b u3) := but_put
  have B3 : BoxAt (upd H2 b u3) b := taken hu3
  have T3 : LamX.Tabs (lamT PT) (upd H2 b u3) := tabs_keep T2 (KT.but B2 b3)
  have S3 : ScI K sa (ns.map V.int) [b] (upd H2 b u3) := S2.frt (FrT.of (Frm.but b3 (List.mem_singleton.mpr rfl))) (fun p hp => .inl hp)
  have hta3 := b3 _ _ hta nta
  have hR3 : RowsL (upd H2 b u3) as tb := ⟨hR.1, fun j q x e1 e2 => b3 _ _ (hR.2 j q x e1 e2) (nas q (List.mem_of_getElem? e1))⟩
  generalize upd H2 b u3 = H3 at b3 B3 T3 S3 hta3 hR3
  refine ⟨_, _, rfl, rfl, ?_⟩
  obtain ⟨nh, hnh⟩ : ∃ nh : Nat, nh = 1 + r := ⟨_, rfl⟩
  rw [show (fun i j : Int => V.int (i + j)) 1 (r : Int) = V.int ((nh : Nat) : Int) from congrArg V.int (show (1 : Int) + (r : Int) = ((nh : Nat) : Int) by omega)]
  -- the ties
  refine ⟨_, rfl, _, rfl, b, nh, rfl, B3, by omega, by omega, fun H4 tl ts ps b4 B4 htl hTs hWs hntl => ?_⟩
  have T4 : LamX.Tabs (lamT PT) H4 := tabs_keep T3 (KT.but B3 b4)
  have S4 : ScI K sa (ns.map V.int) [b] H4 := S3.frt (FrT.of (Frm.but b4 (List.mem_singleton.mpr rfl))) (fun p hp => .inl hp)
  have hta4 := b4 _ _ hta3 nta
  have hR4 : RowsL H4 as tb := ⟨hR3.1, fun j q x e1 e2 => b4 _ _ (hR3.2 j q x e1 e2) (nas q (List.mem_of_getElem? e1))⟩
  have ntl : tl ≠ b := B3.ne hntl
  have t1 := hT.l1
  obtain ⟨r0, hr0⟩ := there (l := tb) (i := 0) t1
  obtain ⟨ra, hra⟩ := there (l := as) (i := 0) (by rw [hR4.1]; exact t1)
  have hrow := hR4.2 0 ra r0 hra hr0
  have hrl : r0.length = S := hT.len r0 (List.mem_of_getElem? hr0)
  refine ⟨_, rfl, _, rfl, ta, _, _, _, rfl, rfl, SqL.of hta4, at_of (j := 0) rfl (at_map hra), ra, _, rfl, .inl (SqL.of hrow), b, S, ?_, B4, hT.s1, by have := hT.s12; omega, fun fi u5 hfi hu5 => ?_⟩
  · rw [List.length_map, hrl]
    rfl
  have b5 : But b H4 (upd H4 b u5) := but_put
  have B5 : BoxAt (upd H4 b u5) b := taken hu5
  have T5 : LamX.Tabs (lamT PT) (upd H4 b u5) := tabs_keep T4 (KT.but B4 b5)
  have S5 : ScI K sa (ns.map V.int) [b] (upd H4 b u5) := S4.frt (FrT.of (Frm.but b5 (List.mem_singleton.mpr rfl))) (fun p hp => .inl hp)
  have hta5 := b5 _ _ hta4 nta
  have htl5 := b5 _ _ htl ntl
  have hR5 : RowsL (upd H4 b u5) as tb := ⟨hR4.1, fun j q x e1 e2 => b5 _ _ (hR4.2 j q x e1 e2) (nas q (List.mem_of_getElem? e1))⟩
  have hTs5 : TiesL (upd H4 b u5) ts ps := hTs.tup fun q xs e => b5 _ _ e (B4.tup e)
  generalize upd H4 b u5 = H5 at b5 B5 T5 S5 hta5 htl5 hR5 hTs5
  refine ⟨_, _, rfl, ?_⟩
  -- the desk
  refine ⟨_, rfl, _, rfl, _, rfl, fun wb wx hwb hwx nwx => ?_⟩
  have sw := made_own (C := a.cWeb) hwb hwx
  refine ⟨wb, wx, tl, ts, ps, nh, rfl, upd_same, sw _ _ htl5, hTs5.same sw, hWs, fun H6 hWeb b6 => ⟨rfl, ?_⟩⟩
  have s56 := made_same hwb hwx b6
  refine ⟨_, rfl, fun m mx hm hmx nmx => ?_⟩
  have sm := made_own (C := a.cMachine) hm hmx
  refine ⟨m, mx, ta, as, tb, S, rfl, upd_same, sm _ _ (s56 _ _ hta5), (hR5.same s56).same sm, hT, fun H7 hMach b7 => ⟨rfl, ?_⟩⟩
  have s67 := made_same hm hmx b7
  refine ⟨rfl, rfl, fun dk dx hdk hdx ndx => ?_⟩
  have sd := made_own (C := a.cDesk) hdk hdx
  have hWeb7 := (hWeb.same s67).same sd
  have hMach7 := hMach.same sd
  have ndm : m ≠ dk := fun z => by
    obtain ⟨⟨_, _, _, e, _, _⟩, _⟩ := hMach
    rw [z, hdk] at e; cases e
  have ndw : wb ≠ dk := fun z => by
    obtain ⟨⟨_, _, _, e, _, _⟩, _⟩ := hWeb.same s67
    rw [z, hdk] at e; cases e
  refine ⟨dk, dx, m, wb, tb, S, ps, nh, fi, rfl, upd_same, hMach7, hWeb7, ndm, ndw, fun c => absurd ⟨by omega, by omega⟩ c, fun f0 f1 H8 st hDk hSt hst b8 => ⟨rfl, ?_⟩⟩
  have s78 := made_same hdk hdx b8
  have s58 := (s56.trans s67).trans s78
  have B8 : BoxAt H8 b := by
    obtain ⟨u, e, hu⟩ := B5
    exact ⟨u, s58 _ _ e, hu⟩
  have T8 : LamX.Tabs (lamT PT) H8 := tabs_keep T5 (KT.of s58)
  have S8 : ScI K sa (ns.map V.int) [b, st] H8 := (S5.more (Y := [b, st]) (fun p hp => by
    rcases List.mem_cons.mp hp with rfl | hp
    · exact .inl (by simp)
    · rw [List.mem_singleton.mp hp]
      refine .inr ?_
      cases e : H5 st with
      | none => rfl
      | some o => rw [sd _ _ (s67 _ _ (s56 _ _ e))] at hst; cases hst)).frt (FrT.of (Frm.of s58)) (fun p hp => .inl hp)
  have hta8 := s58 _ _ hta5
  have htl8 := s58 _ _ htl5
  have hR8 := hR5.same s58
  have hTs8 := hTs5.same s58
  -- the law's net
  have small : ∀ k : Nat, k ≤ 100 → 1 * k ≤ sizeLine := fun k hk => by rw [sizeLine_eq]; omega
  refine fun nd hnd => ?_
  have sn : Same H8 (upd H8 nd (.dK [])) := same_new hnd
  have en : upd H8 nd (.dK []) nd = some (.dK []) := upd_same
  generalize upd H8 nd (.dK []) = G1 at sn en
  refine ⟨_, rfl, (by show 1 ≤ sizeLine; decide), fun q1 hq1 => ?_⟩
  have s1' : Same G1 (upd G1 q1 (.lst [.int fi])) := same_new hq1
  have eq1 : upd G1 q1 (.lst [.int fi]) q1 = some (.lst [.int fi]) := upd_same
  generalize upd G1 q1 (.lst [.int fi]) = G2 at s1' eq1
  refine ⟨_, rfl, ?_⟩
  refine ⟨q1, _, _, rfl, rfl, eq1, by omega, by omega, ?_, fun ls hls => ?_⟩
  · rw [Int.toNat_natCast]
    exact small nh (by omega)
  rw [Int.toNat_natCast, flat_one]
  have s2' : Same G2 (upd G2 ls (.lst (List.replicate nh (.int fi)))) := same_new hls
  have els : upd G2 ls (.lst (List.replicate nh (.int fi))) ls = some (.lst (List.replicate nh (.int fi))) := upd_same
  generalize upd G2 ls (.lst (List.replicate nh (.int fi))) = G3 at s2' els
  refine ⟨_, rfl, (by show 1 ≤ sizeLine; decide), fun q2 hq2 => ?_⟩
  have s3' : Same G3 (upd G3 q2 (.lst [.int fi])) := same_new hq2
  have eq2 : upd G3 q2 (.lst [.int fi]) q2 = some (.lst [.int fi]) := upd_same
  generalize upd G3 q2 (.lst [.int fi]) = G4 at s3' eq2
  have z84 := ((sn.trans s1').trans s2').trans s3'
  refine ⟨_, rfl, tl, _, rfl, .inl (SqL.of (z84 _ _ htl8)), ?_⟩
  have lts : (ts.map V.ref).length = ps.length := by rw [List.length_map]; exact hTs8.1
  rw [lts]
  refine ⟨q2, _, _, rfl, rfl, eq2, by omega, by have := hWs.len; omega, ?_, fun la hla => ?_⟩
  · rw [Int.toNat_natCast]
    exact small ps.length (by have := hWs.len; omega)
  rw [Int.toNat_natCast, flat_one]
  have s4' : Same G4 (upd G4 la (.lst (List.replicate ps.length (.int fi)))) := same_new hla
  have ela : upd G4 la (.lst (List.replicate ps.length (.int fi))) la = some (.lst (List.replicate ps.length (.int fi))) := upd_same
  generalize upd G4 la (.lst (List.replicate ps.length (.int fi))) = G5 at s4' ela
  refine ⟨(by show 0 ≤ sizeLine; decide), fun lp hlp => ?_⟩
  have s5' : Same G5 (upd G5 lp (.lst [])) := same_new hlp
  have elp : upd G5 lp (.lst []) lp = some (.lst []) := upd_same
  generalize upd G5 lp (.lst []) = G6 at s5' elp
  have z15 := (((s1'.trans s2').trans s3').trans s4').trans s5'
  refine ⟨z15 _ _ en, [(sk "states", .ref ls), (sk "archives", .ref la), (sk "steps", .ref lp), (sk "backup", .non), (sk "caught", .non)], rfl, (by show 5 ≤ 15; decide), ?_⟩
  rw [show mergeK [] [(sk "states", V.ref ls), (sk "archives", V.ref la), (sk "steps", V.ref lp), (sk "backup", V.non), (sk "caught", V.non)] = [(sk "states", V.ref ls), (sk "archives", V.ref la), (sk "steps", V.ref lp), (sk "backup", V.non), (sk "caught", V.non)] from rfl]
  have z6 := z15 _ _ en
  have els6 := ((s3'.trans s4').trans s5') _ _ els
  have ela6 := s5' _ _ ela
  have b7 : But nd G6 (upd G6 nd (.dK [(sk "states", V.ref ls), (sk "archives", V.ref la), (sk "steps", V.ref lp), (sk "backup", V.non), (sk "caught", V.non)])) := but_put
  have end7 : upd G6 nd (.dK [(sk "states", V.ref ls), (sk "archives", V.ref la), (sk "steps", V.ref lp), (sk "backup", V.non), (sk "caught", V.non)]) nd = some (.dK [(sk "states", V.ref ls), (sk "archives", V.ref la), (sk "steps", V.ref lp), (sk "backup", V.non), (sk "caught", V.non)]) := upd_same
  generalize upd G6 nd (.dK [(sk "states", V.ref ls), (sk "archives", V.ref la), (sk "steps", V.ref lp), (sk "backup", V.non), (sk "caught", V.non)]) = G7 at b7 end7
  have lne : ∀ {q : Addr} {xs : List V}, G6 q = some (.lst xs) → q ≠ nd := fun e => ne_of e z6 (by intro z; cases z)
  have els7 := b7 _ _ els6 (lne els6)
  have ela7 := b7 _ _ ela6 (lne ela6)
  have elp7 := b7 _ _ elp (lne elp)
  refine ⟨_, rfl, nd, ls, la, lp, _, _, _, _, rfl, end7, (by show 5 ≤ 900; decide), rfl, rfl, rfl, els7, ela7, elp7, (by rw [List.length_replicate]; omega), (by rw [List.length_replicate]; have := hWs.len; omega), (by decide), fun H9 lc lt lg hlc hlt hlg nct ncg ntg hnd9 hlc9 hlt9 hlg9 b9 => ?_⟩
  rw [List.length_replicate] at hlc9 hlt9
  have z86 := (z84.trans s4').trans s5'
  have fr7 : ∀ {p : Addr}, G7 p = none → G6 p = none := fun {p} e => by
    cases q : G6 p with
    | none => rfl
    | some o =>
      rw [b7 _ _ q (fun z => by rw [z, end7] at e; cases e)] at e
      cases e
  have s89 : Same H8 H9 := fun p o e => b9 _ _ (b7 _ _ (z86 _ _ e) (ne_of_none e hnd)) (ne_of_none e hnd)
  obtain ⟨f, hf⟩ : ∃ f : Ft, f = ⟨nd, ls, la, lp, lc, lt, lg⟩ := ⟨_, rfl⟩
  have nof : ∀ p ∈ f.list, H8 p = none := fun p hp => by
    rw [hf] at hp
    unfold Ft.list at hp
    simp only [List.mem_cons, List.not_mem_nil, or_false] at hp
    rcases hp with rfl | rfl | rfl | rfl | rfl | rfl | rfl
    · exact hnd
    · exact (sn.trans s1').free hls
    · exact z84.free hla
    · exact (z84.trans s4').free hlp
    · exact z86.free (fr7 hlc)
    · exact z86.free (fr7 hlt)
    · exact z86.free (fr7 hlg)
  have offf : ∀ {p : Addr} {o : HO}, H8 p = some o → p ∉ f.list := fun {p o} e hp => by
    rw [nof p hp] at e
    cases e
  have N9 : NetD H9 f (Net.new nh ps.length (fi : Nat)) ps := by
    rw [hf]
    refine ⟨[], [], .non, .non, List.replicate ps.length .non, ⟨hnd9, ?_, ?_, ?_, ?_, hlt9, hlg9, nds.mpr ⟨⟨(lne els6).symm, (lne ela6).symm, (lne elp).symm, ne_of_none end7 hlc, ne_of_none end7 hlt, ne_of_none end7 hlg⟩, ⟨ne_of_none (s3' _ _ els) hla, ne_of_none ((s3'.trans s4') _ _ els) hlp, ne_of_none els7 hlc, ne_of_none els7 hlt, ne_of_none els7 hlg⟩, ⟨ne_of_none ela hlp, ne_of_none ela7 hlc, ne_of_none ela7 hlt, ne_of_none ela7 hlg⟩, ⟨ne_of_none elp7 hlc, ne_of_none elp7 hlt, ne_of_none elp7 hlg⟩, nct, ncg, ntg⟩⟩, ⟨rfl, fun j b' x e _ => by simp at e⟩, ⟨rfl, fun j b' x e _ => by simp at e⟩, ⟨rfl, rfl⟩, List.length_replicate, fun t p e c1 _ => ?_⟩
    · show H9 ls = some (.lst ((List.replicate nh ((fi : Nat) : Int)).map V.int))
      rw [List.map_replicate]
      exact b9 _ _ els7 (lne els6)
    · show H9 la = some (.lst ((List.replicate ps.length ((fi : Nat) : Int)).map V.int))
      rw [List.map_replicate]
      exact b9 _ _ ela7 (lne ela6)
    · exact b9 _ _ elp7 (lne elp)
    · show H9 lc = some (.lst ((List.replicate nh (none : Option Int)).map oV))
      rw [List.map_replicate]
      exact hlc9
    · have z : noCopy (List.replicate nh (none : Option Int)) p.1 = true := by
        unfold noCopy
        rw [List.getD_eq_getElem?_getD, List.getElem?_replicate]
        by_cases c : p.1.toNat < nh
        · rw [if_pos c]; rfl
        · rw [if_neg c]; rfl
      have c2 : noCopy (List.replicate nh (none : Option Int)) p.1 = false := c1
      rw [z] at c2
      cases c2
  have hfd : f.d = nd := by rw [hf]
  have W9 : Wd a H9 dk st m wb f ta tl as ts tb S ps nh 0 (Net.new nh ps.length (fi : Nat)) (Net.new nh ps.length (fi : Nat)) := by
    obtain ⟨dy, edk⟩ := id hDk
    refine ⟨⟨dy, s89 _ _ edk⟩, hSt.same s89, N9, s89 _ _ hta8, hR8.same s89, s89 _ _ htl8, hTs8.same s89, offf hta8, offf htl8, fun q hq => ?_⟩
    obtain ⟨j, hj, e⟩ := List.mem_iff_getElem.mp hq
    obtain ⟨r', hr'⟩ := there (l := tb) (i := j) (by rw [← hR8.1]; exact hj)
    exact offf (hR8.2 j q r' (by rw [List.getElem?_eq_getElem hj, e]) hr')
  have B9 : Bx H9 b f ta tl as := by
    obtain ⟨u, e, hu⟩ := id B8
    exact ⟨⟨u, s89 _ _ e, hu⟩, offf e, nta.symm, ntl.symm, fun z => nas b z rfl⟩
  have T9 : LamX.Tabs (lamT PT) H9 := tabs_keep T8 (KT.of s89)
  have S9 : ScI K sa (ns.map V.int) (b :: st :: f.list) H9 := S8.frt (FrT.of (Frm.of s89)) fun p hp => by
    rcases List.mem_cons.mp hp with rfl | hp
    · exact .inl (by simp)
    rcases List.mem_cons.mp hp with rfl | hp
    · exact .inl (by simp)
    · exact .inr (nof p hp)
  have P9 : SpOk (Net.new nh ps.length (fi : Nat)) := ⟨fun x hx => (by cases hx), fun x hx => (by cases hx), fun c t g e => (by cases e)⟩
  refine ⟨_, rfl, sa, _, rfl, .inl S9.sq, _, _, rfl, _, _, rfl, ?_⟩
  obtain ⟨hi, hhi, hi1, hi40⟩ : ∃ hi : Int, (if (if (40 : Int) < (((ns.map V.int).length : Nat) : Int) then (40 : Int) else (((ns.map V.int).length : Nat) : Int)) > 24 then (if (40 : Int) < (((ns.map V.int).length : Nat) : Int) then (40 : Int) else (((ns.map V.int).length : Nat) : Int)) else 24) = hi ∧ 1 ≤ hi ∧ hi ≤ 40 := ⟨_, rfl, by split <;> (try split) <;> omega, by split <;> (try split) <;> omega⟩
  rw [hhi]
  refine ⟨1, hi, rfl, ⟨by decide, by decide, by omega, by omega⟩, ?_⟩
  obtain ⟨tn, htn, htn40⟩ : ∃ tn : Nat, (hi - 1).toNat = tn ∧ tn ≤ 39 := ⟨_, rfl, by omega⟩
  rw [htn]
  refine for_it (walk_range (lo := 1) (n := tn)) (fun i σ H' => ∃ c8 c9 b' f' n', σ = [some (.ref sa), some (.ref b'), some (.ref ta), some (.int (nh : Nat)), some (.ref tl), some (.int (fi : Nat)), some (.ref dk), some (.ref nd), c8, c9, none] ∧ f'.d = nd ∧
      Wd a H' dk st m wb f' ta tl as ts tb S ps nh i n' n' ∧ SpOk n' ∧ LamX.Tabs (lamT PT) H' ∧ ScI K sa (ns.map V.int) (b' :: st :: f'.list) H' ∧ Bx H' b' f' ta tl as)
    ⟨none, none, b, f, _, rfl, hfd, W9, P9, T9, S9, B9⟩ (fun _ _ _ _ _ => True.intro) ?_ ?_
  · rintro i x σ Ho H' hi' ⟨c8, c9, b', f', n', rfl, fd', W, P1, T1, S1, B1⟩ ⟨rfl, rfl⟩
    refine ⟨_, rfl, _, rfl, sa, ns, 1 + i, ?_, S1.sq, by omega, fun b2 u2 hb2 hu2 => ?_⟩
    · rw [Int.natCast_add]
      rfl
    have W2 := W.same (same_new hb2 : Same H' (upd H' b2 u2))
    have B2 := new_box W hb2 hu2
    have T2 : LamX.Tabs (lamT PT) (upd H' b2 u2) := tabs_keep T1 (KT.of (same_new hb2))
    have S2 : ScI K sa (ns.map V.int) (b2 :: st :: f'.list) (upd H' b2 u2) := S1.frt (FrT.of (Frm.of (same_new hb2))) fun p hp => by
      rcases List.mem_cons.mp hp with rfl | hp
      · exact .inr hb2
      · exact .inl (List.mem_cons_of_mem _ hp)
    generalize upd H' b2 u2 = K2 at W2 B2 T2 S2
    refine ⟨_, rfl, _, rfl, _, rfl, _, rfl, _, rfl, dk, st, m, wb, b2, ta, tl, f', as, ts, tb, S, ps, nh, i, n', (by rw [fd']; rfl), W2, B2, by omega, l3, fun K3 f3 n3 fd3 W3 B3 M3 F3 P3 => ?_⟩
    have P3' := P3 P1
    have T3 : LamX.Tabs (lamT PT) K3 := tabs_keep T2 (KT.frm F3 (W2.noT B2.at_))
    have S3 : ScI K sa (ns.map V.int) (b2 :: st :: f3.list) K3 := S2.frt (FrT.of F3) fun p hp => by
      rcases List.mem_cons.mp hp with rfl | hp
      · exact .inl (by simp)
      rcases List.mem_cons.mp hp with rfl | hp
      · exact .inl (by simp)
      rcases M3 p hp with z | z
      · exact .inl (by simp [z])
      · exact .inr z
    have fd3' : f3.d = nd := fd3.trans fd'
    refine ⟨true, rfl, iteF ?_⟩
    refine ⟨_, rfl, (by show 6 ≤ sizeLine; decide), fun l6 hl6 => ?_⟩
    have s4 : Same K3 (upd K3 l6 (.lst [.str "states", .str "ties", .str "copies", .str "steps", .str "caught", .str "backup"])) := same_new hl6
    have e6 : upd K3 l6 (.lst [.str "states", .str "ties", .str "copies", .str "steps", .str "caught", .str "backup"]) l6 = some (.lst [.str "states", .str "ties", .str "copies", .str "steps", .str "caught", .str "backup"]) := upd_same
    have n6b : l6 ≠ b2 := B3.at_.ne hl6
    refine ⟨b2, l6, _, rfl, (B3.same s4).at_, e6, n6b, (by show 1 ≤ 6; decide), (by show 6 ≤ 1000; decide), fun j v u5 hv hu5 => ?_⟩
    generalize upd K3 l6 (.lst [.str "states", .str "ties", .str "copies", .str "steps", .str "caught", .str "backup"]) = K4 at s4 e6
    obtain ⟨z, hz, rfl⟩ := six_mem hv
    have W4 := W3.same s4
    have B4 := B3.same s4
    have W5 := W4.box (but_put : But b2 K4 (upd K4 b2 u5)) B4
    have B5 := B4.but hu5
    have T5 : LamX.Tabs (lamT PT) (upd K4 b2 u5) := tabs_keep (tabs_keep T3 (KT.of s4)) (KT.box B4.at_)
    have S5 : ScI K sa (ns.map V.int) (b2 :: st :: f3.list) (upd K4 b2 u5) := (S3.frt (FrT.of (Frm.of s4)) (fun p hp => .inl hp)).frt (FrT.of (Frm.but (b := b2) but_put (by simp))) (fun p hp => .inl hp)
    generalize upd K4 b2 u5 = K5 at W5 B5 T5 S5
    have hT5 := W5.store.und.um.ok
    have hWs5 := W5.store.und.uw.ok
    have hk := held_ok (w := z) W5.store.gd (by have := hT5.s12; omega) hWs5.n4 hWs5.len (by omega)
    obtain ⟨dd5, hdk5⟩ := id W5.desk
    refine ⟨_, rfl, dk, dd5, _, rfl, hdk5, rfl, _, rfl, ?_⟩
    dsimp only [tNil]
    refine say_six W5 (by omega) hz fun K6 s6 => ?_
    have W6 := W5.same s6
    refine ⟨_, rfl, repr_fits hk.1 (by have := hk.2; omega), _, rfl, _, rfl, f3, n3, ps, z, S, nh, i + 1, (by rw [fd3']; rfl), W6.net, W6.store.gd, by omega, (by have := hT5.s12; omega), hWs5.n4, hWs5.len, hz, fun K7 s7 => ?_⟩
    refine ⟨_, rfl, repr_fits hk.1 (by have := hk.2; omega), rfl, _, rfl, itdNF rfl ?_⟩
    have W7 := W6.same s7
    have B7 := (B5.same s6).same s7
    have T7 : LamX.Tabs (lamT PT) K7 := tabs_keep T5 (KT.of (s6.trans s7))
    have S7 := S5.frt (Y := b2 :: st :: f3.list) (FrT.of (Frm.of (s6.trans s7))) (fun p hp => .inl hp)
    have ltl : (ts.map V.ref).length = ps.length := by rw [List.length_map]; exact W7.ties.1
    have lta : (as.map V.ref).length = tb.length := by rw [List.length_map]; exact W7.rows.1
    refine ⟨_, rfl, b2, 6, rfl, B7.at_, by decide, by decide, fun r8 u8 hr8 hu8 => ?_⟩
    have W8 := W7.box (but_put : But b2 K7 (upd K7 b2 u8)) B7
    have B8' := B7.but hu8
    have T8' : LamX.Tabs (lamT PT) (upd K7 b2 u8) := tabs_keep T7 (KT.box B7.at_)
    have S8' : ScI K sa (ns.map V.int) (b2 :: st :: f3.list) (upd K7 b2 u8) := S7.frt (FrT.of (Frm.but (b := b2) but_put (by simp))) (fun p hp => .inl hp)
    generalize upd K7 b2 u8 = K8 at W8 B8' T8' S8'
    refine ⟨rfl, _, rfl, ?_⟩
    by_cases c8' : V.int ((r8 : Nat) : Int) = V.int 0
    · refine itdT c8' ?_
      refine ⟨_, rfl, _, rfl, _, rfl, _, rfl, tl, _, rfl, .inl (SqL.of W8.tls), _, rfl, ta, _, rfl, .inl (SqL.of W8.tas), dk, st, m, wb, b2, ta, tl, f3, as, ts, tb, S, ps, nh, i + 1, n3, (by rw [ltl, lta]; rfl), W8, B8', by omega, l3, T8', fun K9 W9' B9' T9' F9' => ?_⟩
      refine ⟨true, rfl, iteF ?_⟩
      exact ⟨_, _, b2, f3, n3, rfl, fd3', W9', P3', T9', S8'.frt (F9'.mono (by simp)) (fun p hp => .inl hp), B9'⟩
    · refine itdF c8' ?_
      exact iteF ⟨_, _, b2, f3, n3, rfl, fd3', W8, P3', T8', S8', B8'⟩
  rintro σ H' ⟨c8, c9, b', f', n', rfl, fd', W, P1, T1, S1, B1⟩
  have hT1 := W.store.und.um.ok
  have hWs1 := W.store.und.uw.ok
  have ltl : (ts.map V.ref).length = ps.length := by rw [List.length_map]; exact W.ties.1
  have lta : (as.map V.ref).length = tb.length := by rw [List.length_map]; exact W.rows.1
  refine ⟨_, rfl, _, rfl, _, rfl, _, rfl, tl, _, rfl, .inl (SqL.of W.tls), _, rfl, ta, _, rfl, .inl (SqL.of W.tas), dk, st, m, wb, b', ta, tl, f', as, ts, tb, S, ps, nh, tn, n', (by rw [ltl, lta]; rfl), W, B1, by omega, l3, T1, fun K1 W1 B1' T1' F1' => ?_⟩
  refine ⟨true, rfl, iteF ?_⟩
  refine ⟨(by show 6 ≤ sizeLine; decide), fun q6 hq6 => ?_⟩
  have s2 : Same K1 (upd K1 q6 (.tup [.str "states", .str "ties", .str "copies", .str "steps", .str "caught", .str "backup"])) := same_new hq6
  have e6 : upd K1 q6 (.tup [.str "states", .str "ties", .str "copies", .str "steps", .str "caught", .str "backup"]) q6 = some (.tup [.str "states", .str "ties", .str "copies", .str "steps", .str "caught", .str "backup"]) := upd_same
  generalize upd K1 q6 (.tup [.str "states", .str "ties", .str "copies", .str "steps", .str "caught", .str "backup"]) = K2 at s2 e6
  have W2 := W1.same s2
  refine ⟨q6, rfl, ⟨_, SqT.of e6⟩, ?_⟩
  refine for_it (walk_tup (xs := [.str "states", .str "ties", .str "copies", .str "steps", .str "caught", .str "backup"])) (fun i σ H' => ∃ c9', σ = [some (.ref sa), some (.ref b'), some (.ref ta), some (.int (nh : Nat)), some (.ref tl), some (.int (fi : Nat)), some (.ref dk), some (.ref nd), c8, c9', none] ∧ Same K2 H')
    ⟨c9, rfl, Same.refl _⟩ (fun i σ H' _ hh => by obtain ⟨_, _, s'⟩ := hh; exact SqT.of (s' _ _ e6)) ?_ ?_
  · rintro i x σ Ho H3 hi' ⟨c9', rfl, s3⟩ ⟨rfl, hx⟩
    obtain ⟨z, hz, rfl⟩ := six_mem hx
    have W3 := W2.same s3
    have hk := held_ok (w := z) W3.store.gd (by have := hT1.s12; omega) hWs1.n4 hWs1.len (by omega)
    obtain ⟨dd5, hdk5⟩ := id W3.desk
    refine ⟨_, rfl, dk, dd5, _, rfl, hdk5, rfl, _, rfl, ?_⟩
    dsimp only [tNil]
    refine say_six W3 (by omega) hz fun K6 s6 => ?_
    have W6 := W3.same s6
    refine ⟨_, rfl, repr_fits hk.1 (by have := hk.2; omega), _, rfl, _, rfl, f', n', ps, z, S, nh, tn, (by rw [fd']; rfl), W6.net, W6.store.gd, by omega, (by have := hT1.s12; omega), hWs1.n4, hWs1.len, hz, fun K7 s7 => ?_⟩
    exact ⟨_, rfl, repr_fits hk.1 (by have := hk.2; omega), rfl, _, rfl, itdNF rfl ⟨_, rfl, (s3.trans s6).trans s7⟩⟩
  rintro σ H' ⟨c9', rfl, s3⟩
  have W3 := W2.same s3
  -- a desk that is refused
  refine ⟨_, rfl, fun m2 mx2 hm2 hmx2 nmx2 => ?_⟩
  have sm2 := made_own (C := a.cMachine) hm2 hmx2
  refine ⟨m2, mx2, ta, as, tb, S, rfl, upd_same, sm2 _ _ W3.tas, W3.rows.same sm2, hT1, fun K4 hMach2 b4' => ⟨rfl, ?_⟩⟩
  have s4' := made_same hm2 hmx2 b4'
  have W4 := W3.same s4'
  refine ⟨_, rfl, _, rfl, fun wb2 wx2 hwb2 hwx2 nwx2 => ?_⟩
  have sw2 := made_own (C := a.cWeb) hwb2 hwx2
  refine ⟨wb2, wx2, tl, ts, ps, nh, rfl, upd_same, sw2 _ _ W4.tls, W4.ties.same sw2, hWs1, fun K5 hWeb2 b5' => ⟨rfl, ?_⟩⟩
  have s5' := made_same hwb2 hwx2 b5'
  have W5 := W4.same s5'
  have hrow5 := W5.rows.2 0 ra r0 hra hr0
  refine ⟨_, rfl, ta, _, _, _, rfl, rfl, SqL.of W5.tas, at_of (j := 0) rfl (at_map hra), ra, _, rfl, .inl (SqL.of hrow5), ?_⟩
  refine fun dk2 dx2 hdk2 hdx2 ndx2 => ?_
  have sd2 := made_own (C := a.cDesk) hdk2 hdx2
  have hM2 := (hMach2.same s5').same sd2
  have hW2' := hWeb2.same sd2
  have ndm2 : m2 ≠ dk2 := fun z => by
    obtain ⟨⟨_, _, _, e, _, _⟩, _⟩ := hMach2.same s5'
    rw [z, hdk2] at e; cases e
  have ndw2 : wb2 ≠ dk2 := fun z => by
    obtain ⟨⟨_, _, _, e, _, _⟩, _⟩ := hWeb2
    rw [z, hdk2] at e; cases e
  have lr0 : (r0.map V.int).length = S := by rw [List.length_map]; exact hrl
  refine ⟨dk2, dx2, m2, wb2, tb, S, ps, nh, _, rfl, upd_same, hM2, hW2', ndm2, ndw2, fun _ K6 d6 b6' hd6 e6' => ?_, fun _ f1 => absurd f1 (by rw [lr0]; omega)⟩
  have s6' := made_same hdk2 hdx2 b6'
  have W6 := W5.same s6'
  refine ⟨true, T.sNoState, fun _ ax ha => fun hl => ?_, fun z => by cases z⟩
  have hrow6 := W6.rows.2 0 ra r0 hra hr0
  refine ⟨.ref ax, rfl, rfl, rfl, d6, _, _, rfl, e6', rfl, ?_⟩
  refine ⟨_, rfl, ta, _, _, _, rfl, rfl, SqL.of W6.tas, at_of (j := 0) rfl (at_map hra), ra, _, rfl, .inl (SqL.of hrow6), ?_⟩
  refine ⟨rfl, _, rfl, itdT rfl ?_⟩
  -- the steps
  obtain ⟨dd6, hdk6⟩ := id W6.desk
  obtain ⟨dxs, first, vst, var, vsp, vbk, vca, vco, vti, vgo, hs6, hV6⟩ := W6.store.at_
  obtain ⟨bsp, asp, rfl, hsp, hsp2⟩ := id hV6.sp
  obtain ⟨sa6, ga6, bk6, ca6, tv6, R6, hsa6, hga6, hbk6, hti6⟩ := id W6.net
  have lsp := W6.store.gd.sp
  obtain ⟨g1, g2, g3, g4⟩ := steps_repr P1.sp (by omega)
  refine ⟨_, rfl, dk, _, dd6, _, _, rfl, hdk6, T.clDesk, T.nDesk_store, rfl, st, a.cStore, dxs, _, _, rfl, hs6, T.clStore, T.nStore_steps, rfl, bsp, _, rfl, .tup (SqT.of hsp) (dp_steps hsp2), g1, g2, g3, g4, ?_⟩
  have gsp : DGet K6 nd (.str "steps") (some (.ref f'.lp)) := by
    rw [← fd']
    exact R6.g_sp
  refine ⟨_, rfl, nd, _, rfl, gsp, f'.lp, _, rfl, .inl ⟨SqL.of R6.lp, fun tu htu => ?_⟩⟩
  have s7' : Same K6 (upd K6 tu (.tup (sa6.map V.ref))) := same_new htu
  refine ⟨tu, _, rfl, .tup (SqT.of upd_same) (dp_steps (hsa6.keep (.of s7'))), g1, g2, g3, g4, ?_⟩
  exact ⟨rfl, deq (k _)⟩
end
end Hl
set_option Elab.async false
set_option linter.all false
set_option maxRecDepth 100000
set_option maxHeartbeats 2000000
namespace Hl
open PySem PySem.Spec PyProof.Rows L2
/-! ### the law is entered, with one table, by the caller itself -/
/-- what is tracked when the law is entered: the one table; the script, if it is no written object -/
def enH (K : PySem.W.Frag) (PT sa : Addr) (vs : List Value) (ns : List Int) : Hp := fun b =>
  if b = PT then some (.tbl #[]) else if b = sa then (if (K.lookup sa).isSome = true then none else some (.frz ⟨.type "list", none, .seq vs.toArray 0, #[]⟩ (.lst (ns.map V.int)))) else none
section
variable {P : Program} {w : World} {K : PySem.W.Frag} {mg mb : Str → Option Value} {cL PT sa : Addr} {s1 : Shared} {vs : List Value} {ns : List Int}
theorem enH_table : enH K PT sa vs ns PT = some (.tbl #[]) := if_pos rfl
theorem enH_far {b : Addr} (h1 : b ≠ PT) (h2 : b ≠ sa) : enH K PT sa vs ns b = none := by
  unfold enH
  rw [if_neg h1, if_neg h2]
/-- what the machine has laid, ahead of the call -/
structure Laid (K : PySem.W.Frag) (mg mb : Str → Option Value) (cL PT sa : Addr) (s1 : Shared) (vs : List Value) (ns : List Int) : Prop where
  kin : K.In s1.heap
  glob : s1.heap.Ns mainGlobals mg
  blt : s1.heap.Ns builtinsNs mb
  bltB : ∀ x : Str, x ≠ "__name__" → mb x = bootBuiltins x
  lim : s1.heap.NoLimit
  gens : s1.gens = #[]
  tab : s1.heap.get? PT = some { cls := .none, data := .fields #[] }
  tabK : K.lookup PT = none
  code : PySem.W.CodeHd s1.heap cL PT
  bmod : ∃ (bm : Addr) (ob : Obj), mg "__builtins__" = some (.ref bm) ∧ bm ≠ builtinsNs ∧ s1.heap.get? bm = some ob ∧ ob.cls = .type "module" ∧ ob.dict = some builtinsNs ∧ ob.data = .plain
  list : s1.heap.get? sa = some { cls := .type "list", data := .seq vs.toArray }
  intv : IntsAre vs ns
  len : ns.length ≤ sizeLine
/-- an object that is neither a list nor fields without content is not tracked -/
theorem Laid.off (L : Laid K mg mb cL PT sa s1 vs ns) {b : Addr} {o : Obj} (e : s1.heap.get? b = some o) (h1 : ∀ xs n, o.data ≠ .seq xs n) (h2 : o.data ≠ .fields #[]) : enH K PT sa vs ns b = none := by
  refine enH_far (fun z => ?_) fun z => ?_
  · have t := L.tab
    rw [← z, e] at t
    exact h2 (by rw [Option.some.inj t])
  · have t := L.list
    rw [← z, e] at t
    exact h1 vs.toArray 0 (by rw [Option.some.inj t])
theorem Laid.offK (L : Laid K mg mb cL PT sa s1 vs ns) {b : Addr} {o : Obj} (e : K.lookup b = some o) : enH K PT sa vs ns b = none := by
  have n1 : b ≠ PT := fun z => by
    rw [z, L.tabK] at e
    cases e
  by_cases n2 : b = sa
  · unfold enH
    rw [if_neg n1, if_pos n2, ← n2, e]
    rfl
  · exact enH_far n1 n2
theorem Laid.kNs (L : Laid K mg mb cL PT sa s1 vs ns) {b : Addr} {m : Str → Option Value} (h : s1.heap.Ns b m) : (hidT s1.heap (enH K PT sa vs ns)).Ns b m := by
  obtain ⟨o, es, ep, e, dd, r⟩ := h
  refine ⟨o, es, ep, hidT_get e (L.off e (fun xs n z => ?_) fun z => ?_), dd, r⟩ <;> (rw [dd] at z; cases z)
theorem Laid.script (L : Laid K mg mb cL PT sa s1 vs ns) : SqL K (enH K PT sa vs ns) sa (ns.map V.int) := by
  have rv := vals_ints L.intv
  have nT : sa ≠ PT := fun z => by
    have t := L.tab
    rw [← z, L.list] at t
    have t2 : Data.seq vs.toArray 0 = Data.fields #[] := congrArg Obj.data (Option.some.inj t)
    cases t2
  cases e : K.lookup sa with
  | none =>
    refine .inl (.inr ⟨⟨.type "list", none, .seq vs.toArray 0, #[]⟩, ?_⟩)
    unfold enH
    rw [if_neg nT, if_pos rfl, e]
    rfl
  | some o =>
    have e2 := L.kin sa o e
    rw [L.list] at e2
    obtain rfl := Option.some.inj e2
    exact .inr ⟨_, vs.toArray, 0, e, rfl, rfl, rfl, by rw [List.size_toArray, L.intv.length]; exact L.len, by simpa using rv⟩
theorem Laid.hok (L : Laid K mg mb cL PT sa s1 vs ns) : HOk P w (enH K PT sa vs ns) s1.heap := fun b o e => by
  by_cases n1 : b = PT
  · subst n1
    rw [enH_table] at e
    obtain rfl := Option.some.inj e
    exact L.tab
  by_cases n2 : b = sa
  · subst n2
    unfold enH at e
    rw [if_neg n1, if_pos rfl] at e
    by_cases c : (K.lookup b).isSome = true
    · rw [if_pos c] at e
      cases e
    · rw [if_neg c] at e
      obtain rfl := Option.some.inj e
      exact ⟨L.list, by rw [List.length_map]; exact L.len, vs, 0, vals_ints L.intv, L.list⟩
  rw [enH_far n1 n2] at e
  cases e
theorem Laid.enter (L : Laid K mg mb cL PT sa s1 vs ns) : ∃ base : Heap, Env0 P w K mg base callerA [] s1 (enH K PT sa vs ns) ∧ LamX.TabB base mg cL PT := by
  refine ⟨hidT s1.heap (enH K PT sa vs ns), ⟨rfl, ⟨fun b o e => hidT_get (L.kin b o e) (L.offK e), L.kNs L.glob, ⟨mb, L.kNs L.blt, L.bltB⟩, ?_⟩, fun b o e => of_hidT e, Nat.le_of_eq (hidT_size _ _), trivial, fun b hb => ?_, L.hok, .of_eq L.gens⟩, ?_, ?_, fun z => ?_⟩
  · obtain ⟨mc, x, y⟩ := L.lim
    exact ⟨mc, L.kNs x, y⟩
  · exact absurd (show b ∈ ([] : List Addr) from hb) (by simp)
  · obtain ⟨o, us, file, tf, flags, tg, inF, text, tt, e1, r1, r2, r3, r⟩ := L.code
    refine ⟨o, us, file, tf, flags, tg, inF, text, tt, hidT_get e1 (L.off e1 (fun xs n z => ?_) fun z => ?_), r1, r2, r3, r⟩
    · rw [r2] at z
      cases z
    · rw [r2] at z
      injection z with z
      rw [z] at r3
      simp at r3
  · obtain ⟨bm, ob, x1, x2, x3, x4, x5, x6⟩ := L.bmod
    refine ⟨bm, ob, x1, x2, fun z => ?_, fun z => ?_, hidT_get x3 (L.off x3 (fun xs n z => ?_) fun z => ?_), x4, x5, x6⟩
    · obtain ⟨o, es, ep, y1, y2, _⟩ := L.glob
      rw [z, y1] at x3
      obtain rfl := Option.some.inj x3
      rw [y2] at x6
      cases x6
    · have t := L.tab
      rw [← z, x3] at t
      obtain rfl := Option.some.inj t
      cases x6
    · rw [x6] at z
      cases z
    · rw [x6] at z
      cases z
  · obtain ⟨o, es, ep, y1, y2, _⟩ := L.glob
    have t := L.tab
    rw [← z, y1] at t
    obtain rfl := Option.some.inj t
    cases y2
/-- what stood ahead of the call stands behind it, but for the table, which may have grown -/
theorem Laid.leave (L : Laid K mg mb cL PT sa s1 vs ns) {r : Result} {s' : Shared} (h : CR CX0 [] P w (enH K PT sa vs ns) s1 (fun v _ => v = .bl true) (fun _ _ _ => False) r s') :
    r = .ok (.ret (.bool true)) ∧ OldK s1.heap s'.heap ∧ s'.os = s1.os ∧ AllBare s'.gens := by
  match r, h with
  | .error _, h => exact False.elim h
  | .ok .next, h => exact False.elim h
  | .ok .brk, h => exact False.elim h
  | .ok .cont, h => exact False.elim h
  | .ok (.ret u), h =>
    obtain ⟨v, H', os, bare, un, hok', rv, q⟩ := h
    obtain rfl : v = .bl true := q
    obtain rfl : u = Value.bool true := rv
    obtain ⟨more, ht⟩ := un.tbls PT #[] enH_table
    have ht' : s'.heap.get? PT = some { cls := .none, data := .fields (#[] ++ more) } := hok' PT _ ht
    have keep : ∀ b o, b ≠ PT → s1.heap.get? b = some o → s'.heap.get? b = some o := fun b o n e => by
      cases z : enH K PT sa vs ns b with
      | none => exact un.keep b o e z (fun y => absurd (show b ∈ ([] : List Addr) from y) (by simp)) (by simp)
      | some ho =>
        have eb : b = sa := by
          by_cases n2 : b = sa
          · exact n2
          · rw [enH_far n n2] at z
            cases z
        subst eb
        have z2 := z
        unfold enH at z2
        rw [if_neg n, if_pos rfl] at z2
        by_cases c : (K.lookup b).isSome = true
        · rw [if_pos c] at z2
          cases z2
        · rw [if_neg c] at z2
          obtain rfl := Option.some.inj z2
          have y := (hok' b _ (un.frzs b _ _ z)).1
          rw [L.list] at e
          obtain rfl := Option.some.inj e
          exact y
    refine ⟨rfl, ⟨fun b o e => ?_, fun b o e => ?_⟩, os, bare⟩
    · by_cases n : b = PT
      · subst n
        rw [L.tab] at e
        obtain rfl := Option.some.inj e
        exact .inr (.inl ⟨(L.code.tab L.tab).isCodeTable, rfl, #[], more, rfl, ht'⟩)
      · exact .inl (keep b o n e)
    · by_cases n : b = PT
      · subst n
        exact ⟨_, ht'⟩
      · exact ⟨o, keep b o n e⟩
end
end Hl
set_option Elab.async false
set_option linter.all false
set_option maxRecDepth 100000
set_option maxHeartbeats 4000000
namespace Hl
open PySem PySem.Spec PyProof.Rows L2
/-! ### from what was looked at to what the walk asks -/
theorem fun_of {K : PySem.W.Frag} {x qual : Str} {st : Stmt} {f : Addr} {fd : FuncData} (F : FunD K x qual (defArgs st) (defBody st) (defScope st) [] [] f fd) : Fun K x qual st f fd := by
  obtain ⟨⟨oc, od, dV, kV, doc, pm, an, cdv, ct, osl, e, lk, hcd, hD, _⟩, kp⟩ := F
  rcases hD with ⟨_, rfl⟩ | ⟨n, _⟩
  · exact ⟨⟨oc, od, kV, doc, pm, an, cdv, ct, osl, e, lk, hcd⟩, kp⟩
  · exact absurd rfl n
theorem funC_of {K : PySem.W.Frag} {x qual : Str} {st : Stmt} {p : He.Defn} {fd : FuncData} (F : FunD K x qual (defArgs st) (defBody st) (defScope st) [] [] (He.fAd K p) fd) : FunC K x qual st (He.fAd K p) fd (He.codeOf K p) := by
  obtain ⟨⟨oc, od, dV, kV, doc, pm, an, cdv, ct, osl, e, lk, hcd, hD, _⟩, kp⟩ := F
  rcases hD with ⟨_, rfl⟩ | ⟨n, _⟩
  · obtain ⟨c, rfl⟩ := He.codeIn_ref hcd
    rw [He.codeOf_eq lk (show fd.code = .ref c by rw [e])]
    exact ⟨oc, od, kV, doc, pm, an, ct, osl, e, lk, hcd⟩
  · exact absurd rfl n
/-- the i-th of the facts -/
def adOf (K : PySem.W.Frag) : Ad where
  fIsInteger := He.fAd K ("is_integer", none)
  fIsNumber := He.fAd K ("is_number", none)
  fIsBelow := He.fAd K ("is_below", none)
  fIsWithin := He.fAd K ("is_within", none)
  fIsSequence := He.fAd K ("is_sequence", none)
  fIsText := He.fAd K ("is_text", none)
  fIsTable := He.fAd K ("is_table", none)
  fCheckTables := He.fAd K ("check_tables", none)
  fMachI := He.fAd K ("Machine", some "__init__")
  fNeedState := He.fAd K ("need_state", none)
  fNeedDeed := He.fAd K ("need_deed", none)
  fPairRows := He.fAd K ("pair_rows", none)
  fEndsOf := He.fAd K ("ends_of", none)
  fJoin := He.fAd K ("join", none)
  fIsPair := He.fAd K ("is_pair", none)
  fCheckTies := He.fAd K ("check_ties", none)
  fWebI := He.fAd K ("Web", some "__init__")
  fNeedHouse := He.fAd K ("need_house", none)
  fNeedTie := He.fAd K ("need_tie", none)
  fOtherEnd := He.fAd K ("other_end", none)
  fTiesAt := He.fAd K ("ties_at", none)
  fWithItem := He.fAd K ("with_item", none)
  fStoreI := He.fAd K ("Store", some "__init__")
  fLeaveWalk := He.fAd K ("Store", some "leave_walk")
  fCount := He.fAd K ("Store", some "count")
  fDo := He.fAd K ("Store", some "do")
  fMeet := He.fAd K ("Store", some "meet")
  fRead := He.fAd K ("Store", some "read")
  fPutBack := He.fAd K ("Store", some "put_back")
  fNumbersText := He.fAd K ("numbers_text", none)
  fTold := He.fAd K ("told_number", none)
  fCopiesText := He.fAd K ("copies_text", none)
  fDeskI := He.fAd K ("Desk", some "__init__")
  fSayPlain := He.fAd K ("Desk", some "say_plain")
  fSayTold := He.fAd K ("Desk", some "say_told")
  fSay := He.fAd K ("Desk", some "say")
  fLBox := He.fAd K ("_law_box", none)
  fLTake := He.fAd K ("_law_take", none)
  fLPick := He.fAd K ("_law_pick", none)
  fLTables := He.fAd K ("_law_tables", none)
  fLTies := He.fAd K ("_law_ties", none)
  fLRow := He.fAd K ("_law_row", none)
  fLJoin := He.fAd K ("_law_join", none)
  fLEnded := He.fAd K ("_law_ended", none)
  fLRead := He.fAd K ("_law_read", none)
  fLCounted := He.fAd K ("_law_counted", none)
  fLMet := He.fAd K ("_law_met", none)
  fLHeld := He.fAd K ("_law_held", none)
  fLFault := He.fAd K ("_law_fault", none)
  fLMoved := He.fAd K ("_law_moved", none)
  fLLines := He.fAd K ("_law_lines_right", none)
  fLaw := He.fAd K ("law", none)
  cMachine := He.ga K "Machine"
  cWeb := He.ga K "Web"
  cStore := He.ga K "Store"
  cDesk := He.ga K "Desk"
  xNetError := He.ga K "NetError"
  xBadMachine := He.ga K "BadMachine"
  xBadWeb := He.ga K "BadWeb"
  xBadText := He.ga K "BadText"
  xRefused := He.ga K "Refused"
  xUntold := He.ga K "Untold"
  xNoState := He.ga K "NoState"
  xNoDeed := He.ga K "NoDeed"
  xNoHouse := He.ga K "NoHouse"
  xNoTie := He.ga K "NoTie"
  iBadText := hxBadText.I K
  ccBadText := xfC K hxBadText
  cdBadText := He.codeOf K hxBadText.at_
  iRefused := hxRefused.I K
  ccRefused := xfC K hxRefused
  cdRefused := He.codeOf K hxRefused.at_
  iUntold := hxUntold.I K
  ccUntold := xfC K hxUntold
  cdUntold := He.codeOf K hxUntold.at_
  iNoState := hxNoState.I K
  ccNoState := xfC K hxNoState
  cdNoState := He.codeOf K hxNoState.at_
  iNoDeed := hxNoDeed.I K
  ccNoDeed := xfC K hxNoDeed
  cdNoDeed := He.codeOf K hxNoDeed.at_
  iNoHouse := hxNoHouse.I K
  ccNoHouse := xfC K hxNoHouse
  cdNoHouse := He.codeOf K hxNoHouse.at_
  iNoTie := hxNoTie.I K
  ccNoTie := xfC K hxNoTie
  cdNoTie := He.codeOf K hxNoTie.at_
  aPlain := He.ga K "PLAIN"
  aNumbers := He.ga K "NUMBERS"
theorem hdAt0 {f : He.Fa} (h : f ∈ hdFa0) : f ∈ hdFa := by
  unfold hdFa
  simp only [List.mem_append]
  exact (.inl h)
theorem hdAt1 {f : He.Fa} (h : f ∈ hdFa1) : f ∈ hdFa := by
  unfold hdFa
  simp only [List.mem_append]
  exact (.inr (.inl h))
theorem hdAt2 {f : He.Fa} (h : f ∈ hdFa2) : f ∈ hdFa := by
  unfold hdFa
  simp only [List.mem_append]
  exact (.inr (.inr h))
section
variable {P : Program} {w : World} {K : PySem.W.Frag} {mg : Str → Option Value} {h : Heap}
theorem SaysH.fa (c : SaysH hdD w h K) {f : He.Fa} (hf : f ∈ hdFa) : f.ok K = true := c.t.d.facts hf
theorem SaysH.df (c : SaysH hdD w h K) (i : Nat) {d : He.DefD} (hf : hdFn[i]? = some d) : ∃ fd, FunD K d.name d.qual d.params d.body d.scope (d.dvs K) (d.kws K) (He.fAd K d.at_) fd := c.t.d.def_ i hf
/-- the facts of the odd kinds -/
structure ExF (K : PySem.W.Frag) : Prop where
  oBadText : hxBadText.ok1 hdFile K = true ∧ hxBadText.ok2 hdFile K = true
  oRefused : hxRefused.ok1 hdFile K = true ∧ hxRefused.ok2 hdFile K = true
  oUntold : hxUntold.ok1 hdFile K = true ∧ hxUntold.ok2 hdFile K = true
  oNoState : hxNoState.ok1 hdFile K = true ∧ hxNoState.ok2 hdFile K = true
  oNoDeed : hxNoDeed.ok1 hdFile K = true ∧ hxNoDeed.ok2 hdFile K = true
  oNoHouse : hxNoHouse.ok1 hdFile K = true ∧ hxNoHouse.ok2 hdFile K = true
  oNoTie : hxNoTie.ok1 hdFile K = true ∧ hxNoTie.ok2 hdFile K = true
  opq : PySem.W.nsIn K cStatics "thirdparty.any" = some none
  plain : He.tupB K "PLAIN" hdPlain = true
  vals : He.valsB K (He.ga K "NUMBERS") hdNum = true
  odd : ∀ x ∈ oddW, PySem.W.nsIn K (He.ga K "NUMBERS") x = some none
  fBadText : xfB K (He.ga K "BadText") = true
  fNoState : xfB K (He.ga K "NoState") = true
  yRefused : PySem.W.exmAny K (.ref (He.ga K "Refused")) [.ref (He.ga K "NetError"), .type "KeyError"] = some true
  yNoHouse : PySem.W.exmAny K (.ref (He.ga K "NoHouse")) [.ref (He.ga K "NetError"), .type "KeyError"] = some true
  yNoDeed : PySem.W.exmAny K (.ref (He.ga K "NoDeed")) [.ref (He.ga K "NetError"), .type "KeyError"] = some true
  yNoTie : PySem.W.exmAny K (.ref (He.ga K "NoTie")) [.ref (He.ga K "NetError"), .type "KeyError"] = some true
theorem exF_of (e : hdEx K = true) : ExF K := by
  obtain ⟨e1, e⟩ := He.ba e
  obtain ⟨e2, e⟩ := He.ba e
  obtain ⟨e3, e⟩ := He.ba e
  obtain ⟨e4, e⟩ := He.ba e
  obtain ⟨e5, e⟩ := He.ba e
  obtain ⟨e6, e⟩ := He.ba e
  obtain ⟨e7, e⟩ := He.ba e
  obtain ⟨e, y4⟩ := He.ba e
  obtain ⟨e, y3⟩ := He.ba e
  obtain ⟨y1, y2⟩ := He.ba e
  have o : ∀ d ∈ hdXs, d.ok1 hdFile K = true ∧ d.ok2 hdFile K = true := fun d hd => He.ba (List.all_eq_true.mp e1 d hd)
  exact ⟨o _ (List.mem_of_getElem? (i := 0) (a := hxBadText) rfl), o _ (List.mem_of_getElem? (i := 1) (a := hxRefused) rfl), o _ (List.mem_of_getElem? (i := 2) (a := hxUntold) rfl), o _ (List.mem_of_getElem? (i := 3) (a := hxNoState) rfl), o _ (List.mem_of_getElem? (i := 4) (a := hxNoDeed) rfl), o _ (List.mem_of_getElem? (i := 5) (a := hxNoHouse) rfl), o _ (List.mem_of_getElem? (i := 6) (a := hxNoTie) rfl), He.eqO_ok e2, e3, e4, fun x hx => He.eqO_ok (List.all_eq_true.mp e5 x hx), e6, e7, of_decide_eq_true y1, of_decide_eq_true y2, of_decide_eq_true y3, of_decide_eq_true y4⟩
theorem txt_of (hP : P.main.file = hdFile) (hsup : (P.main.scope.names.lookup ("super" : Str)).isSome = false) (X : K.In h) (G : h.Ns mainGlobals mg) (c : SaysH hdD w h K) : ∃ d : Fd, Txt P w K mg (adOf K) d ∧ FunC K "_law_lines_right" "_law_lines_right" sLLines (adOf K).fLLines d.fLLines (He.codeOf K ("_law_lines_right", none)) := by
  have E := exF_of c.more
  obtain ⟨fdIsInteger, FIsInteger⟩ := c.df 0 (d := hdIsInteger) rfl
  obtain ⟨fdIsNumber, FIsNumber⟩ := c.df 1 (d := hdIsNumber) rfl
  obtain ⟨fdIsBelow, FIsBelow⟩ := c.df 2 (d := hdIsBelow) rfl
  obtain ⟨fdIsWithin, FIsWithin⟩ := c.df 3 (d := hdIsWithin) rfl
  obtain ⟨fdIsSequence, FIsSequence⟩ := c.df 4 (d := hdIsSequence) rfl
  obtain ⟨fdIsText, FIsText⟩ := c.df 5 (d := hdIsText) rfl
  obtain ⟨fdIsTable, FIsTable⟩ := c.df 6 (d := hdIsTable) rfl
  obtain ⟨fdCheckTables, FCheckTables⟩ := c.df 7 (d := hdCheckTables) rfl
  obtain ⟨fdMachI, FMachI⟩ := c.df 8 (d := hdMachI) rfl
  obtain ⟨fdNeedState, FNeedState⟩ := c.df 9 (d := hdNeedState) rfl
  obtain ⟨fdNeedDeed, FNeedDeed⟩ := c.df 10 (d := hdNeedDeed) rfl
  obtain ⟨fdPairRows, FPairRows⟩ := c.df 11 (d := hdPairRows) rfl
  obtain ⟨fdEndsOf, FEndsOf⟩ := c.df 12 (d := hdEndsOf) rfl
  obtain ⟨fdJoin, FJoin⟩ := c.df 13 (d := hdJoin) rfl
  obtain ⟨fdIsPair, FIsPair⟩ := c.df 14 (d := hdIsPair) rfl
  obtain ⟨fdCheckTies, FCheckTies⟩ := c.df 15 (d := hdCheckTies) rfl
  obtain ⟨fdWebI, FWebI⟩ := c.df 16 (d := hdWebI) rfl
  obtain ⟨fdNeedHouse, FNeedHouse⟩ := c.df 17 (d := hdNeedHouse) rfl
  obtain ⟨fdNeedTie, FNeedTie⟩ := c.df 18 (d := hdNeedTie) rfl
  obtain ⟨fdOtherEnd, FOtherEnd⟩ := c.df 19 (d := hdOtherEnd) rfl
  obtain ⟨fdTiesAt, FTiesAt⟩ := c.df 20 (d := hdTiesAt) rfl
  obtain ⟨fdWithItem, FWithItem⟩ := c.df 21 (d := hdWithItem) rfl
  obtain ⟨fdStoreI, FStoreI⟩ := c.df 22 (d := hdStoreI) rfl
  obtain ⟨fdLeaveWalk, FLeaveWalk⟩ := c.df 23 (d := hdLeaveWalk) rfl
  obtain ⟨fdCount, FCount⟩ := c.df 24 (d := hdCount) rfl
  obtain ⟨fdDo, FDo⟩ := c.df 25 (d := hdDo) rfl
  obtain ⟨fdMeet, FMeet⟩ := c.df 26 (d := hdMeet) rfl
  obtain ⟨fdRead, FRead⟩ := c.df 27 (d := hdRead) rfl
  obtain ⟨fdPutBack, FPutBack⟩ := c.df 28 (d := hdPutBack) rfl
  obtain ⟨fdNumbersText, FNumbersText⟩ := c.df 29 (d := hdNumbersText) rfl
  obtain ⟨fdTold, FTold⟩ := c.df 30 (d := hdTold) rfl
  obtain ⟨fdCopiesText, FCopiesText⟩ := c.df 31 (d := hdCopiesText) rfl
  obtain ⟨fdDeskI, FDeskI⟩ := c.df 32 (d := hdDeskI) rfl
  obtain ⟨fdSayPlain, FSayPlain⟩ := c.df 33 (d := hdSayPlain) rfl
  obtain ⟨fdSayTold, FSayTold⟩ := c.df 34 (d := hdSayTold) rfl
  obtain ⟨fdSay, FSay⟩ := c.df 35 (d := hdSay) rfl
  obtain ⟨fdLBox, FLBox⟩ := c.df 36 (d := hdLBox) rfl
  obtain ⟨fdLTake, FLTake⟩ := c.df 37 (d := hdLTake) rfl
  obtain ⟨fdLPick, FLPick⟩ := c.df 38 (d := hdLPick) rfl
  obtain ⟨fdLTables, FLTables⟩ := c.df 39 (d := hdLTables) rfl
  obtain ⟨fdLTies, FLTies⟩ := c.df 40 (d := hdLTies) rfl
  obtain ⟨fdLRow, FLRow⟩ := c.df 41 (d := hdLRow) rfl
  obtain ⟨fdLJoin, FLJoin⟩ := c.df 42 (d := hdLJoin) rfl
  obtain ⟨fdLEnded, FLEnded⟩ := c.df 43 (d := hdLEnded) rfl
  obtain ⟨fdLRead, FLRead⟩ := c.df 44 (d := hdLRead) rfl
  obtain ⟨fdLCounted, FLCounted⟩ := c.df 45 (d := hdLCounted) rfl
  obtain ⟨fdLMet, FLMet⟩ := c.df 46 (d := hdLMet) rfl
  obtain ⟨fdLHeld, FLHeld⟩ := c.df 47 (d := hdLHeld) rfl
  obtain ⟨fdLFault, FLFault⟩ := c.df 48 (d := hdLFault) rfl
  obtain ⟨fdLMoved, FLMoved⟩ := c.df 49 (d := hdLMoved) rfl
  obtain ⟨fdLLines, FLLines⟩ := c.df 50 (d := hdLLines) rfl
  obtain ⟨fdLaw, FLaw⟩ := c.df 51 (d := hdLaw) rfl
  obtain ⟨es, nn, kd⟩ := c.t.tab 0 (t := ((fun K => He.ga K "NUMBERS"), ["do", "meet", "read"])) rfl
  obtain ⟨lk, kl, ks⟩ := kd
  obtain ⟨udo, nudo, rudo⟩ := He.valsB_ok E.vals (q := ("do", .int 2)) (List.mem_of_getElem? (i := 0) rfl)
  obtain ⟨umeet, numeet, rumeet⟩ := He.valsB_ok E.vals (q := ("meet", .int 1)) (List.mem_of_getElem? (i := 1) rfl)
  obtain ⟨uread, nuread, ruread⟩ := He.valsB_ok E.vals (q := ("read", .int 1)) (List.mem_of_getElem? (i := 2) rfl)
  refine ⟨{ fIsInteger := fdIsInteger, fIsNumber := fdIsNumber, fIsBelow := fdIsBelow, fIsWithin := fdIsWithin, fIsSequence := fdIsSequence, fIsText := fdIsText, fIsTable := fdIsTable, fCheckTables := fdCheckTables, fMachI := fdMachI, fNeedState := fdNeedState, fNeedDeed := fdNeedDeed, fPairRows := fdPairRows, fEndsOf := fdEndsOf, fJoin := fdJoin, fIsPair := fdIsPair, fCheckTies := fdCheckTies, fWebI := fdWebI, fNeedHouse := fdNeedHouse, fNeedTie := fdNeedTie, fOtherEnd := fdOtherEnd, fTiesAt := fdTiesAt, fWithItem := fdWithItem, fStoreI := fdStoreI, fLeaveWalk := fdLeaveWalk, fCount := fdCount, fDo := fdDo, fMeet := fdMeet, fRead := fdRead, fPutBack := fdPutBack, fNumbersText := fdNumbersText, fTold := fdTold, fCopiesText := fdCopiesText, fDeskI := fdDeskI, fSayPlain := fdSayPlain, fSayTold := fdSayTold, fSay := fdSay, fLBox := fdLBox, fLTake := fdLTake, fLPick := fdLPick, fLTables := fdLTables, fLTies := fdLTies, fLRow := fdLRow, fLJoin := fdLJoin, fLEnded := fdLEnded, fLRead := fdLRead, fLCounted := fdLCounted, fLMet := fdLMet, fLHeld := fdLHeld, fLFault := fdLFault, fLMoved := fdLMoved, fLLines := fdLLines, fLaw := fdLaw }, ?_, funC_of (p := ("_law_lines_right", none)) FLLines⟩
  exact {
    FIsInteger := fun_of FIsInteger,
    bIsInteger := FIsInteger.bindsN fun _ _ _ _ _ _ us hl => match us, hl with | [_], _ => rfl,
    gIsInteger := He.glo_ok X G (c.fa (hdAt0 (List.mem_of_getElem? (i := 0) (a := He.Fa.glo "is_integer") rfl))),
    FIsNumber := fun_of FIsNumber,
    bIsNumber := FIsNumber.bindsN fun _ _ _ _ _ _ us hl => match us, hl with | [_], _ => rfl,
    gIsNumber := He.glo_ok X G (c.fa (hdAt0 (List.mem_of_getElem? (i := 1) (a := He.Fa.glo "is_number") rfl))),
    FIsBelow := fun_of FIsBelow,
    bIsBelow := FIsBelow.bindsN fun _ _ _ _ _ _ us hl => match us, hl with | [_, _], _ => rfl,
    gIsBelow := He.glo_ok X G (c.fa (hdAt0 (List.mem_of_getElem? (i := 2) (a := He.Fa.glo "is_below") rfl))),
    FIsWithin := fun_of FIsWithin,
    bIsWithin := FIsWithin.bindsN fun _ _ _ _ _ _ us hl => match us, hl with | [_, _, _], _ => rfl,
    gIsWithin := He.glo_ok X G (c.fa (hdAt0 (List.mem_of_getElem? (i := 3) (a := He.Fa.glo "is_within") rfl))),
    FIsSequence := fun_of FIsSequence,
    bIsSequence := FIsSequence.bindsN fun _ _ _ _ _ _ us hl => match us, hl with | [_], _ => rfl,
    gIsSequence := He.glo_ok X G (c.fa (hdAt0 (List.mem_of_getElem? (i := 4) (a := He.Fa.glo "is_sequence") rfl))),
    FIsText := fun_of FIsText,
    bIsText := FIsText.bindsN fun _ _ _ _ _ _ us hl => match us, hl with | [_], _ => rfl,
    gIsText := He.glo_ok X G (c.fa (hdAt0 (List.mem_of_getElem? (i := 5) (a := He.Fa.glo "is_text") rfl))),
    FIsTable := fun_of FIsTable,
    bIsTable := FIsTable.bindsN fun _ _ _ _ _ _ us hl => match us, hl with | [_, _], _ => rfl,
    gIsTable := He.glo_ok X G (c.fa (hdAt0 (List.mem_of_getElem? (i := 6) (a := He.Fa.glo "is_table") rfl))),
    FCheckTables := fun_of FCheckTables,
    bCheckTables := FCheckTables.bindsN fun _ _ _ _ _ _ us hl => match us, hl with | [_], _ => rfl,
    gCheckTables := He.glo_ok X G (c.fa (hdAt0 (List.mem_of_getElem? (i := 7) (a := He.Fa.glo "check_tables") rfl))),
    FMachI := fun_of FMachI,
    bMachI := FMachI.bindsN fun _ _ _ _ _ _ us hl => match us, hl with | [_, _], _ => rfl,
    MMachine := He.mkr_ok (c.fa (hdAt0 (List.mem_of_getElem? (i := 8) (a := He.Fa.mkr "Machine") rfl))),
    FNeedState := fun_of FNeedState,
    bNeedState := FNeedState.bindsN fun _ _ _ _ _ _ us hl => match us, hl with | [_, _], _ => rfl,
    gNeedState := He.glo_ok X G (c.fa (hdAt0 (List.mem_of_getElem? (i := 9) (a := He.Fa.glo "need_state") rfl))),
    FNeedDeed := fun_of FNeedDeed,
    bNeedDeed := FNeedDeed.bindsN fun _ _ _ _ _ _ us hl => match us, hl with | [_, _], _ => rfl,
    gNeedDeed := He.glo_ok X G (c.fa (hdAt0 (List.mem_of_getElem? (i := 10) (a := He.Fa.glo "need_deed") rfl))),
    FPairRows := fun_of FPairRows,
    bPairRows := FPairRows.bindsN fun _ _ _ _ _ _ us hl => match us, hl with | [_, _, _], _ => rfl,
    gPairRows := He.glo_ok X G (c.fa (hdAt0 (List.mem_of_getElem? (i := 11) (a := He.Fa.glo "pair_rows") rfl))),
    FEndsOf := fun_of FEndsOf,
    bEndsOf := FEndsOf.bindsN fun _ _ _ _ _ _ us hl => match us, hl with | [_, _, _, _], _ => rfl,
    gEndsOf := He.glo_ok X G (c.fa (hdAt0 (List.mem_of_getElem? (i := 12) (a := He.Fa.glo "ends_of") rfl))),
    FJoin := fun_of FJoin,
    bJoin := FJoin.bindsN fun _ _ _ _ _ _ us hl => match us, hl with | [_, _, _, _], _ => rfl,
    gJoin := He.glo_ok X G (c.fa (hdAt0 (List.mem_of_getElem? (i := 13) (a := He.Fa.glo "join") rfl))),
    FIsPair := fun_of FIsPair,
    bIsPair := FIsPair.bindsN fun _ _ _ _ _ _ us hl => match us, hl with | [_, _], _ => rfl,
    gIsPair := He.glo_ok X G (c.fa (hdAt0 (List.mem_of_getElem? (i := 14) (a := He.Fa.glo "is_pair") rfl))),
    FCheckTies := fun_of FCheckTies,
    bCheckTies := FCheckTies.bindsN fun _ _ _ _ _ _ us hl => match us, hl with | [_, _], _ => rfl,
    gCheckTies := He.glo_ok X G (c.fa (hdAt0 (List.mem_of_getElem? (i := 15) (a := He.Fa.glo "check_ties") rfl))),
    FWebI := fun_of FWebI,
    bWebI := FWebI.bindsN fun _ _ _ _ _ _ us hl => match us, hl with | [_, _, _], _ => rfl,
    MWeb := He.mkr_ok (c.fa (hdAt0 (List.mem_of_getElem? (i := 16) (a := He.Fa.mkr "Web") rfl))),
    FNeedHouse := fun_of FNeedHouse,
    bNeedHouse := FNeedHouse.bindsN fun _ _ _ _ _ _ us hl => match us, hl with | [_, _], _ => rfl,
    gNeedHouse := He.glo_ok X G (c.fa (hdAt0 (List.mem_of_getElem? (i := 17) (a := He.Fa.glo "need_house") rfl))),
    FNeedTie := fun_of FNeedTie,
    bNeedTie := FNeedTie.bindsN fun _ _ _ _ _ _ us hl => match us, hl with | [_, _], _ => rfl,
    gNeedTie := He.glo_ok X G (c.fa (hdAt0 (List.mem_of_getElem? (i := 18) (a := He.Fa.glo "need_tie") rfl))),
    FOtherEnd := fun_of FOtherEnd,
    bOtherEnd := FOtherEnd.bindsN fun _ _ _ _ _ _ us hl => match us, hl with | [_, _, _], _ => rfl,
    gOtherEnd := He.glo_ok X G (c.fa (hdAt0 (List.mem_of_getElem? (i := 19) (a := He.Fa.glo "other_end") rfl))),
    FTiesAt := fun_of FTiesAt,
    bTiesAt := FTiesAt.bindsN fun _ _ _ _ _ _ us hl => match us, hl with | [_, _], _ => rfl,
    gTiesAt := He.glo_ok X G (c.fa (hdAt0 (List.mem_of_getElem? (i := 20) (a := He.Fa.glo "ties_at") rfl))),
    FWithItem := fun_of FWithItem,
    bWithItem := FWithItem.bindsN fun _ _ _ _ _ _ us hl => match us, hl with | [_, _, _], _ => rfl,
    gWithItem := He.glo_ok X G (c.fa (hdAt0 (List.mem_of_getElem? (i := 21) (a := He.Fa.glo "with_item") rfl))),
    FStoreI := fun_of FStoreI,
    bStoreI := FStoreI.bindsN fun _ _ _ _ _ _ us hl => match us, hl with | [_, _, _, _], _ => rfl,
    MStore := He.mkr_ok (c.fa (hdAt0 (List.mem_of_getElem? (i := 22) (a := He.Fa.mkr "Store") rfl))),
    FLeaveWalk := fun_of FLeaveWalk,
    bLeaveWalk := FLeaveWalk.bindsN fun _ _ _ _ _ _ us hl => match us, hl with | [_], _ => rfl,
    mLeaveWalk := He.meth_ok (c.fa (hdAt0 (List.mem_of_getElem? (i := 23) (a := He.Fa.meth "Store" "leave_walk") rfl))),
    FCount := fun_of FCount,
    bCount := FCount.bindsN fun _ _ _ _ _ _ us hl => match us, hl with | [_, _, _], _ => rfl,
    mCount := He.meth_ok (c.fa (hdAt0 (List.mem_of_getElem? (i := 24) (a := He.Fa.meth "Store" "count") rfl))),
    FDo := fun_of FDo,
    bDo := FDo.bindsN fun _ _ _ _ _ _ us hl => match us, hl with | [_, _, _], _ => rfl,
    mDo := He.meth_ok (c.fa (hdAt0 (List.mem_of_getElem? (i := 25) (a := He.Fa.meth "Store" "do") rfl))),
    FMeet := fun_of FMeet,
    bMeet := FMeet.bindsN fun _ _ _ _ _ _ us hl => match us, hl with | [_, _], _ => rfl,
    mMeet := He.meth_ok (c.fa (hdAt0 (List.mem_of_getElem? (i := 26) (a := He.Fa.meth "Store" "meet") rfl))),
    FRead := fun_of FRead,
    bRead := FRead.bindsN fun _ _ _ _ _ _ us hl => match us, hl with | [_, _], _ => rfl,
    mRead := He.meth_ok (c.fa (hdAt0 (List.mem_of_getElem? (i := 27) (a := He.Fa.meth "Store" "read") rfl))),
    FPutBack := fun_of FPutBack,
    bPutBack := FPutBack.bindsN fun _ _ _ _ _ _ us hl => match us, hl with | [_], _ => rfl,
    mPutBack := He.meth_ok (c.fa (hdAt0 (List.mem_of_getElem? (i := 28) (a := He.Fa.meth "Store" "put_back") rfl))),
    FNumbersText := fun_of FNumbersText,
    bNumbersText := FNumbersText.bindsN fun _ _ _ _ _ _ us hl => match us, hl with | [_], _ => rfl,
    gNumbersText := He.glo_ok X G (c.fa (hdAt0 (List.mem_of_getElem? (i := 29) (a := He.Fa.glo "numbers_text") rfl))),
    FTold := fun_of FTold,
    bTold := FTold.bindsN fun _ _ _ _ _ _ us hl => match us, hl with | [_], _ => rfl,
    gTold := He.glo_ok X G (c.fa (hdAt0 (List.mem_of_getElem? (i := 30) (a := He.Fa.glo "told_number") rfl))),
    FCopiesText := fun_of FCopiesText,
    bCopiesText := FCopiesText.bindsN fun _ _ _ _ _ _ us hl => match us, hl with | [_], _ => rfl,
    gCopiesText := He.glo_ok X G (c.fa (hdAt0 (List.mem_of_getElem? (i := 31) (a := He.Fa.glo "copies_text") rfl))),
    FDeskI := fun_of FDeskI,
    bDeskI := FDeskI.bindsN fun _ _ _ _ _ _ us hl => match us, hl with | [_, _, _, _], _ => rfl,
    MDesk := He.mkr_ok (c.fa (hdAt0 (List.mem_of_getElem? (i := 32) (a := He.Fa.mkr "Desk") rfl))),
    FSayPlain := fun_of FSayPlain,
    bSayPlain := FSayPlain.bindsN fun _ _ _ _ _ _ us hl => match us, hl with | [_, _], _ => rfl,
    mSayPlain := He.meth_ok (c.fa (hdAt0 (List.mem_of_getElem? (i := 33) (a := He.Fa.meth "Desk" "say_plain") rfl))),
    FSayTold := fun_of FSayTold,
    bSayTold := FSayTold.bindsN fun _ _ _ _ _ _ us hl => match us, hl with | [_, _, _], _ => rfl,
    mSayTold := He.meth_ok (c.fa (hdAt0 (List.mem_of_getElem? (i := 34) (a := He.Fa.meth "Desk" "say_told") rfl))),
    FSay := fun_of FSay,
    bSay := FSay.bindsN fun _ _ _ _ _ _ us hl => match us, hl with | [_, _], _ => rfl,
    mSay := He.meth_ok (c.fa (hdAt0 (List.mem_of_getElem? (i := 35) (a := He.Fa.meth "Desk" "say") rfl))),
    FLBox := fun_of FLBox,
    bLBox := FLBox.bindsN fun _ _ _ _ _ _ us hl => match us, hl with | [_, _], _ => rfl,
    gLBox := He.glo_ok X G (c.fa (hdAt0 (List.mem_of_getElem? (i := 36) (a := He.Fa.glo "_law_box") rfl))),
    FLTake := fun_of FLTake,
    bLTake := FLTake.bindsN fun _ _ _ _ _ _ us hl => match us, hl with | [_, _], _ => rfl,
    gLTake := He.glo_ok X G (c.fa (hdAt0 (List.mem_of_getElem? (i := 37) (a := He.Fa.glo "_law_take") rfl))),
    FLPick := fun_of FLPick,
    bLPick := FLPick.bindsN fun _ _ _ _ _ _ us hl => match us, hl with | [_, _], _ => rfl,
    gLPick := He.glo_ok X G (c.fa (hdAt0 (List.mem_of_getElem? (i := 38) (a := He.Fa.glo "_law_pick") rfl))),
    FLTables := fun_of FLTables,
    bLTables := FLTables.bindsN fun _ _ _ _ _ _ us hl => match us, hl with | [_], _ => rfl,
    gLTables := He.glo_ok X G (c.fa (hdAt0 (List.mem_of_getElem? (i := 39) (a := He.Fa.glo "_law_tables") rfl))),
    FLTies := fun_of FLTies,
    bLTies := FLTies.bindsN fun _ _ _ _ _ _ us hl => match us, hl with | [_, _, _], _ => rfl,
    gLTies := He.glo_ok X G (c.fa (hdAt1 (List.mem_of_getElem? (i := 0) (a := He.Fa.glo "_law_ties") rfl))),
    FLRow := fun_of FLRow,
    bLRow := FLRow.bindsN fun _ _ _ _ _ _ us hl => match us, hl with | [_], _ => rfl,
    gLRow := He.glo_ok X G (c.fa (hdAt1 (List.mem_of_getElem? (i := 1) (a := He.Fa.glo "_law_row") rfl))),
    FLJoin := fun_of FLJoin,
    bLJoin := FLJoin.bindsN fun _ _ _ _ _ _ us hl => match us, hl with | [_, _, _, _], _ => rfl,
    gLJoin := He.glo_ok X G (c.fa (hdAt1 (List.mem_of_getElem? (i := 2) (a := He.Fa.glo "_law_join") rfl))),
    FLEnded := fun_of FLEnded,
    bLEnded := FLEnded.bindsN fun _ _ _ _ _ _ us hl => match us, hl with | [_], _ => rfl,
    gLEnded := He.glo_ok X G (c.fa (hdAt1 (List.mem_of_getElem? (i := 3) (a := He.Fa.glo "_law_ended") rfl))),
    FLRead := fun_of FLRead,
    bLRead := FLRead.bindsN fun _ _ _ _ _ _ us hl => match us, hl with | [_, _, _], _ => rfl,
    gLRead := He.glo_ok X G (c.fa (hdAt1 (List.mem_of_getElem? (i := 4) (a := He.Fa.glo "_law_read") rfl))),
    FLCounted := fun_of FLCounted,
    bLCounted := FLCounted.bindsN fun _ _ _ _ _ _ us hl => match us, hl with | [_, _, _], _ => rfl,
    gLCounted := He.glo_ok X G (c.fa (hdAt1 (List.mem_of_getElem? (i := 5) (a := He.Fa.glo "_law_counted") rfl))),
    FLMet := fun_of FLMet,
    bLMet := FLMet.bindsN fun _ _ _ _ _ _ us hl => match us, hl with | [_, _, _, _], _ => rfl,
    gLMet := He.glo_ok X G (c.fa (hdAt1 (List.mem_of_getElem? (i := 6) (a := He.Fa.glo "_law_met") rfl))),
    FLHeld := fun_of FLHeld,
    bLHeld := FLHeld.bindsN fun _ _ _ _ _ _ us hl => match us, hl with | [_, _], _ => rfl,
    gLHeld := He.glo_ok X G (c.fa (hdAt1 (List.mem_of_getElem? (i := 7) (a := He.Fa.glo "_law_held") rfl))),
    FLFault := fun_of FLFault,
    bLFault := FLFault.bindsN fun _ _ _ _ _ _ us hl => match us, hl with | [_], _ => rfl,
    gLFault := He.glo_ok X G (c.fa (hdAt1 (List.mem_of_getElem? (i := 8) (a := He.Fa.glo "_law_fault") rfl))),
    FLMoved := fun_of FLMoved,
    bLMoved := FLMoved.bindsN fun _ _ _ _ _ _ us hl => match us, hl with | [_, _, _, _, _], _ => rfl,
    gLMoved := He.glo_ok X G (c.fa (hdAt1 (List.mem_of_getElem? (i := 9) (a := He.Fa.glo "_law_moved") rfl))),
    FLLines := fun_of FLLines,
    bLLines := FLLines.bindsN fun _ _ _ _ _ _ us hl => match us, hl with | [_, _, _, _, _], _ => rfl,
    gLLines := He.glo_ok X G (c.fa (hdAt1 (List.mem_of_getElem? (i := 10) (a := He.Fa.glo "_law_lines_right") rfl))),
    FLaw := fun_of FLaw,
    bLaw := FLaw.bindsN fun _ _ _ _ _ _ us hl => match us, hl with | [_], _ => rfl,
    gLaw := He.glo_ok X G (c.fa (hdAt1 (List.mem_of_getElem? (i := 11) (a := He.Fa.glo "law") rfl))),
    clMachine := He.cls_ok (c.fa (hdAt1 (List.mem_of_getElem? (i := 12) (a := He.Fa.cls "Machine") rfl))),
    gMachine := He.glo_ok X G (c.fa (hdAt1 (List.mem_of_getElem? (i := 13) (a := He.Fa.glo "Machine") rfl))),
    nMachine_tables := He.noat_ok (c.fa (hdAt1 (List.mem_of_getElem? (i := 14) (a := He.Fa.noat "Machine" "tables") rfl))),
    nMachine_deeds := He.noat_ok (c.fa (hdAt1 (List.mem_of_getElem? (i := 15) (a := He.Fa.noat "Machine" "deeds") rfl))),
    nMachine_states := He.noat_ok (c.fa (hdAt1 (List.mem_of_getElem? (i := 16) (a := He.Fa.noat "Machine" "states") rfl))),
    clWeb := He.cls_ok (c.fa (hdAt1 (List.mem_of_getElem? (i := 17) (a := He.Fa.cls "Web") rfl))),
    gWeb := He.glo_ok X G (c.fa (hdAt1 (List.mem_of_getElem? (i := 18) (a := He.Fa.glo "Web") rfl))),
    nWeb_ties := He.noat_ok (c.fa (hdAt1 (List.mem_of_getElem? (i := 19) (a := He.Fa.noat "Web" "ties") rfl))),
    nWeb_houses := He.noat_ok (c.fa (hdAt1 (List.mem_of_getElem? (i := 20) (a := He.Fa.noat "Web" "houses") rfl))),
    clStore := He.cls_ok (c.fa (hdAt1 (List.mem_of_getElem? (i := 21) (a := He.Fa.cls "Store") rfl))),
    gStore := He.glo_ok X G (c.fa (hdAt1 (List.mem_of_getElem? (i := 22) (a := He.Fa.glo "Store") rfl))),
    nStore_machine := He.noat_ok (c.fa (hdAt1 (List.mem_of_getElem? (i := 23) (a := He.Fa.noat "Store" "machine") rfl))),
    nStore_web := He.noat_ok (c.fa (hdAt1 (List.mem_of_getElem? (i := 24) (a := He.Fa.noat "Store" "web") rfl))),
    nStore_first := He.noat_ok (c.fa (hdAt1 (List.mem_of_getElem? (i := 25) (a := He.Fa.noat "Store" "first") rfl))),
    nStore_states := He.noat_ok (c.fa (hdAt1 (List.mem_of_getElem? (i := 26) (a := He.Fa.noat "Store" "states") rfl))),
    nStore_archives := He.noat_ok (c.fa (hdAt1 (List.mem_of_getElem? (i := 27) (a := He.Fa.noat "Store" "archives") rfl))),
    nStore_steps := He.noat_ok (c.fa (hdAt1 (List.mem_of_getElem? (i := 28) (a := He.Fa.noat "Store" "steps") rfl))),
    nStore_backup := He.noat_ok (c.fa (hdAt1 (List.mem_of_getElem? (i := 29) (a := He.Fa.noat "Store" "backup") rfl))),
    nStore_caught := He.noat_ok (c.fa (hdAt1 (List.mem_of_getElem? (i := 30) (a := He.Fa.noat "Store" "caught") rfl))),
    nStore_copies := He.noat_ok (c.fa (hdAt1 (List.mem_of_getElem? (i := 31) (a := He.Fa.noat "Store" "copies") rfl))),
    nStore_tied := He.noat_ok (c.fa (hdAt1 (List.mem_of_getElem? (i := 32) (a := He.Fa.noat "Store" "tied") rfl))),
    nStore_going := He.noat_ok (c.fa (hdAt1 (List.mem_of_getElem? (i := 33) (a := He.Fa.noat "Store" "going") rfl))),
    clDesk := He.cls_ok (c.fa (hdAt1 (List.mem_of_getElem? (i := 34) (a := He.Fa.cls "Desk") rfl))),
    gDesk := He.glo_ok X G (c.fa (hdAt1 (List.mem_of_getElem? (i := 35) (a := He.Fa.glo "Desk") rfl))),
    nDesk_store := He.noat_ok (c.fa (hdAt1 (List.mem_of_getElem? (i := 36) (a := He.Fa.noat "Desk" "store") rfl))),
    b_isinstance := He.free_ok X G (c.fa (hdAt1 (List.mem_of_getElem? (i := 37) (a := He.Fa.free "isinstance") rfl))),
    b_int := He.free_ok X G (c.fa (hdAt1 (List.mem_of_getElem? (i := 38) (a := He.Fa.free "int") rfl))),
    b_bool := He.free_ok X G (c.fa (hdAt1 (List.mem_of_getElem? (i := 39) (a := He.Fa.free "bool") rfl))),
    b_list := He.free_ok X G (c.fa (hdAt2 (List.mem_of_getElem? (i := 0) (a := He.Fa.free "list") rfl))),
    b_tuple := He.free_ok X G (c.fa (hdAt2 (List.mem_of_getElem? (i := 1) (a := He.Fa.free "tuple") rfl))),
    b_str := He.free_ok X G (c.fa (hdAt2 (List.mem_of_getElem? (i := 2) (a := He.Fa.free "str") rfl))),
    b_len := He.free_ok X G (c.fa (hdAt2 (List.mem_of_getElem? (i := 3) (a := He.Fa.free "len") rfl))),
    b_all := He.free_ok X G (c.fa (hdAt2 (List.mem_of_getElem? (i := 4) (a := He.Fa.free "all") rfl))),
    b_enumerate := He.free_ok X G (c.fa (hdAt2 (List.mem_of_getElem? (i := 5) (a := He.Fa.free "enumerate") rfl))),
    b_sorted := He.free_ok X G (c.fa (hdAt2 (List.mem_of_getElem? (i := 6) (a := He.Fa.free "sorted") rfl))),
    b_range := He.free_ok X G (c.fa (hdAt2 (List.mem_of_getElem? (i := 7) (a := He.Fa.free "range") rfl))),
    b_abs := He.free_ok X G (c.fa (hdAt2 (List.mem_of_getElem? (i := 8) (a := He.Fa.free "abs") rfl))),
    b_min := He.free_ok X G (c.fa (hdAt2 (List.mem_of_getElem? (i := 9) (a := He.Fa.free "min") rfl))),
    b_max := He.free_ok X G (c.fa (hdAt2 (List.mem_of_getElem? (i := 10) (a := He.Fa.free "max") rfl))),
    b_repr := He.free_ok X G (c.fa (hdAt2 (List.mem_of_getElem? (i := 11) (a := He.Fa.free "repr") rfl))),
    b_KeyError := He.free_ok X G (c.fa (hdAt2 (List.mem_of_getElem? (i := 12) (a := He.Fa.free "KeyError") rfl))),
    gMOST_DEEDS := He.int_ok X G (c.fa (hdAt2 (List.mem_of_getElem? (i := 14) (a := He.Fa.int "MOST_DEEDS" 8) rfl))),
    gMOST_STATES := He.int_ok X G (c.fa (hdAt2 (List.mem_of_getElem? (i := 15) (a := He.Fa.int "MOST_STATES" 12) rfl))),
    gMOST_HOUSES := He.int_ok X G (c.fa (hdAt2 (List.mem_of_getElem? (i := 16) (a := He.Fa.int "MOST_HOUSES" 12) rfl))),
    gMOST_TIES := He.int_ok X G (c.fa (hdAt2 (List.mem_of_getElem? (i := 17) (a := He.Fa.int "MOST_TIES" 20) rfl))),
    gMOST_FIGURES := He.int_ok X G (c.fa (hdAt2 (List.mem_of_getElem? (i := 18) (a := He.Fa.int "MOST_FIGURES" 9) rfl))),
    gNONE := He.str_ok X G (c.fa (hdAt2 (List.mem_of_getElem? (i := 19) (a := He.Fa.str "NONE" "-") rfl))),
    gFIGURES := He.str_ok X G (c.fa (hdAt2 (List.mem_of_getElem? (i := 20) (a := He.Fa.str "FIGURES" "0123456789") rfl))),
    gPLAIN := He.glo_ok X G (c.fa (hdAt2 (List.mem_of_getElem? (i := 21) (a := He.Fa.glo "PLAIN") rfl))),
    gNUMBERS := He.glo_ok X G (c.fa (hdAt2 (List.mem_of_getElem? (i := 22) (a := He.Fa.glo "NUMBERS") rfl))),
    plain := fun H => He.tupB_ok E.plain H,
    numK := ⟨es, nn, lk, kl, ks⟩,
    num := ⟨⟨es, nn, udo, lk, kl, nudo, rudo⟩, ⟨es, nn, umeet, lk, kl, numeet, rumeet⟩, ⟨es, nn, uread, lk, kl, nuread, ruread⟩⟩,
    numNo := E.odd,
    gNetError := He.glo_ok X G (c.fa (hdAt2 (List.mem_of_getElem? (i := 23) (a := He.Fa.glo "NetError") rfl))),
    gBadMachine := He.glo_ok X G (c.fa (hdAt2 (List.mem_of_getElem? (i := 24) (a := He.Fa.glo "BadMachine") rfl))),
    gBadWeb := He.glo_ok X G (c.fa (hdAt2 (List.mem_of_getElem? (i := 25) (a := He.Fa.glo "BadWeb") rfl))),
    gBadText := He.glo_ok X G (c.fa (hdAt2 (List.mem_of_getElem? (i := 26) (a := He.Fa.glo "BadText") rfl))),
    gRefused := He.glo_ok X G (c.fa (hdAt2 (List.mem_of_getElem? (i := 27) (a := He.Fa.glo "Refused") rfl))),
    gUntold := He.glo_ok X G (c.fa (hdAt2 (List.mem_of_getElem? (i := 28) (a := He.Fa.glo "Untold") rfl))),
    gNoState := He.glo_ok X G (c.fa (hdAt2 (List.mem_of_getElem? (i := 29) (a := He.Fa.glo "NoState") rfl))),
    gNoDeed := He.glo_ok X G (c.fa (hdAt2 (List.mem_of_getElem? (i := 30) (a := He.Fa.glo "NoDeed") rfl))),
    gNoHouse := He.glo_ok X G (c.fa (hdAt2 (List.mem_of_getElem? (i := 31) (a := He.Fa.glo "NoHouse") rfl))),
    gNoTie := He.glo_ok X G (c.fa (hdAt2 (List.mem_of_getElem? (i := 32) (a := He.Fa.glo "NoTie") rfl))),
    XBadText := XD.txt (d := hxBadText) (c.xs hxBadText (List.mem_of_getElem? (i := 0) rfl)) (hP ▸ E.oBadText.1) (hP ▸ E.oBadText.2) E.opq (He.free_ok X G (c.fa (hdAt2 (List.mem_of_getElem? (i := 13) (a := He.Fa.free "super") rfl)))) hsup,
    XRefused := XD.txt (d := hxRefused) (c.xs hxRefused (List.mem_of_getElem? (i := 1) rfl)) (hP ▸ E.oRefused.1) (hP ▸ E.oRefused.2) E.opq (He.free_ok X G (c.fa (hdAt2 (List.mem_of_getElem? (i := 13) (a := He.Fa.free "super") rfl)))) hsup,
    XUntold := XD.txt (d := hxUntold) (c.xs hxUntold (List.mem_of_getElem? (i := 2) rfl)) (hP ▸ E.oUntold.1) (hP ▸ E.oUntold.2) E.opq (He.free_ok X G (c.fa (hdAt2 (List.mem_of_getElem? (i := 13) (a := He.Fa.free "super") rfl)))) hsup,
    XNoState := XD.txt (d := hxNoState) (c.xs hxNoState (List.mem_of_getElem? (i := 3) rfl)) (hP ▸ E.oNoState.1) (hP ▸ E.oNoState.2) E.opq (He.free_ok X G (c.fa (hdAt2 (List.mem_of_getElem? (i := 13) (a := He.Fa.free "super") rfl)))) hsup,
    XNoDeed := XD.txt (d := hxNoDeed) (c.xs hxNoDeed (List.mem_of_getElem? (i := 4) rfl)) (hP ▸ E.oNoDeed.1) (hP ▸ E.oNoDeed.2) E.opq (He.free_ok X G (c.fa (hdAt2 (List.mem_of_getElem? (i := 13) (a := He.Fa.free "super") rfl)))) hsup,
    XNoHouse := XD.txt (d := hxNoHouse) (c.xs hxNoHouse (List.mem_of_getElem? (i := 5) rfl)) (hP ▸ E.oNoHouse.1) (hP ▸ E.oNoHouse.2) E.opq (He.free_ok X G (c.fa (hdAt2 (List.mem_of_getElem? (i := 13) (a := He.Fa.free "super") rfl)))) hsup,
    XNoTie := XD.txt (d := hxNoTie) (c.xs hxNoTie (List.mem_of_getElem? (i := 6) rfl)) (hP ▸ E.oNoTie.1) (hP ▸ E.oNoTie.2) E.opq (He.free_ok X G (c.fa (hdAt2 (List.mem_of_getElem? (i := 13) (a := He.Fa.free "super") rfl)))) hsup,
    eUntold := He.exm_ok (c.fa (hdAt2 (List.mem_of_getElem? (i := 33) (a := He.Fa.exm "Untold" "Untold" true) rfl))),
    eRefused := He.exm_ok (c.fa (hdAt2 (List.mem_of_getElem? (i := 34) (a := He.Fa.exm "Refused" "Untold" false) rfl))),
    yRefused := E.yRefused,
    eNoHouse := He.exm_ok (c.fa (hdAt2 (List.mem_of_getElem? (i := 35) (a := He.Fa.exm "NoHouse" "Untold" false) rfl))),
    yNoHouse := E.yNoHouse,
    eNoDeed := He.exm_ok (c.fa (hdAt2 (List.mem_of_getElem? (i := 36) (a := He.Fa.exm "NoDeed" "Untold" false) rfl))),
    yNoDeed := E.yNoDeed,
    eNoTie := He.exm_ok (c.fa (hdAt2 (List.mem_of_getElem? (i := 37) (a := He.Fa.exm "NoTie" "Untold" false) rfl))),
    yNoTie := E.yNoTie,
    sBadText := He.exm_ok (c.fa (hdAt2 (List.mem_of_getElem? (i := 38) (a := He.Fa.exm "BadText" "BadText" true) rfl))),
    fBadText := xfB_ok E.fBadText,
    sNoState := He.exm_ok (c.fa (hdAt2 (List.mem_of_getElem? (i := 39) (a := He.Fa.exm "NoState" "NoState" true) rfl))),
    fNoState := xfB_ok E.fNoState
  }
end
end Hl
set_option Elab.async false
set_option linter.all false
set_option maxRecDepth 100000
set_option maxHeartbeats 4000000
namespace Hl
open PySem PySem.Spec PyProof.Rows L2
abbrev lawL : PySem.W.OpenLaw := PySem.Challenge.rw_houseslessties_k51_whole_a_desk_of_one_n
abbrev lawD := HandSHeadRun.topDef HlRun.R.prog 71
theorem room_law : Room 14 callerA := ⟨rfl, by decide, by decide⟩
theorem hd_file : lawL.prog.main.file = hdFile := rfl
theorem hd_super : (lawL.prog.main.scope.names.lookup ("super" : Str)).isSome = false := by decide +kernel
theorem lawD_name : lawD.name = ("law" : Str) := by kernel_rfl
theorem law_walks : PySem.W.WalkO HlRun.qv HlRun.names (PySem.W.XL HlRun.qv []) hkH.says lawL.row.toRowW lawD [] (fun f vs => PySem.call f vs) := by
  refine Att.attach_callB (n := 63) rfl (by kernel_rfl) fun w s₀ s₁ mg mb fa o pm cd doc a vs ns G Y ho hd hcd hmg hobj hints hlen hbits hg => ?_
  obtain ⟨K, KX, c⟩ := Y
  obtain ⟨d, T, FC⟩ := txt_of (P := lawL.prog) (w := w) hd_file hd_super KX G.T.g c
  rw [lawD_name] at hmg
  have efa := hmg.symm.trans T.gLaw
  injection efa with efa
  injection efa with efa
  subst efa
  have mem : (("_law_lines_right", none) : He.Defn) ∈ hdD.tf := List.mem_cons_self
  have L : Laid K mg mb (He.codeOf K ("_law_lines_right", none)) (He.tabOf K (He.codeOf K ("_law_lines_right", none))) a s₁ vs ns :=
    ⟨KX, G.T.g, G.T.b, G.T.builtins, G.T.nolimit, hg, c.empty _ mem, c.out _ mem, PySem.W.codeHd_of_K KX (c.hd _ mem), G.T.bmain, hobj, hints, Nat.le_trans hlen (by decide)⟩
  obtain ⟨base, e0, TB⟩ := L.enter (P := lawL.prog) (w := w)
  obtain ⟨oc, od, kV, doc', pm', an, cdv, ct, osl, hfd, lk, hc2⟩ := T.FLaw.ex
  have hb := T.bLaw s₁ [.ref a] KX rfl
  rw [hfd] at lk hb
  refine codeAny_mono (LamX.run_ofS (k := 13) (Q := fun v _ => v = .bl true) (E := fun _ _ _ => False) (CX := CX0) (N := nLaw) (ps := pLaw) (us := [.ref a]) (vs := [.ref a]) lk hc2 scLaw room_law e0 hb (.cons rfl .nil) rfl fun hr' => ?_) fun r s' h => L.leave h
  obtain ⟨t, ht, hq⟩ := law_runs (Q := fun v _ => v = .bl true) (E := fun _ _ _ => False) (H := enH K (He.tabOf K (He.codeOf K ("_law_lines_right", none))) a vs ns) (outer := []) (s := s₁) (A := callerA) T FC TB rfl hr' (fun p hp => by
    rw [List.mem_singleton.mp hp]
    exact LamX.TabS.nil enH_table) L.script hlen (fun _ => rfl)
  exact ⟨t, ht.nox, hq⟩
end Hl
open PySem PySem.W PySem.Calls PyProof.Rows
theorem PySem.Challenge.cw_houseslessties_k51_whole_a_desk_of_one_n_holds : PySem.Challenge.rw_houseslessties_k51_whole_a_desk_of_one_n.Holds := by
  w_on; o_law
  refine HandSHeadRun.head_any (r := HlRun.R) (q := HlRun.qv) (H := Hl.hkH) (ob := Hl.obHd) (M := 6000) (loose := HlRun.names) (d := Hl.lawD) (kwd := []) Hl.obHd_eq
    (by kernel_rfl) (fun s => by kernel_rfl) Hl.headAll (by kernel_rfl) (by kernel_rfl) (by kernel_rfl) (by rfl) (by first | assumption | decide +kernel) (by decide +kernel) ⟨rfl, rfl, rfl, rfl, rfl, by decide +kernel⟩ ?hw ?hc
  case hw => w_witness2
  case hc => exact Hl.law_walks
