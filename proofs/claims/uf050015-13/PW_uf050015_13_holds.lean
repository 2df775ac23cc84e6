import PyProof.Rows.All
import PyProof.Raises
import PyProof.RulesTry
import PyProof.AssignAttr
import PyProof.Rows.Frame
import PyProof.TupleIter
import PyProof.SliceList
import PyProof.ForAny
import PyProof.Cells
import PyProof.CompFree
import PyProof.EnumFor
import PyProof.EnumStmt
import PyProof.EnumMake
import PyProof.P3Eq
import PyProof.NeData
import PyProof.ExcBaseAll.ValueError
import PyProof.ExcAttrAll.ValueError
import PyProof.StationsW
import PyProof.FitsBits
import PyProof.WalksMore
import PyProof.RangeFor
import PyProof.IsiTuple
import PyProof.IsInstanceT
import PyProof.IsiHeapPairs
import PyProof.IsiNone
import PyProof.IsiPairs
import PyProof.ListCopy
import PyProof.ListIndexNeg
import PyProof.ListMulRoad
import PyProof.ListTruth
import PyProof.WalkInts
import PyProof.RulesAs
import PyProof.P3In
import PyProof.Rows.Globals
import PyProof.Rows.Tup
import PyProof.Rows.IntRules
import PyProof.Rows.Own
import PyProof.Rows.Exc
import PyProof.Rows.OwnQ
import PyProof.Rows.Chain
import PyProof.Rows.Nodes
import PyProof.Rows.RuleU_int
import PyProof.Rows.RuleB_mul
import PyProof.Rows.RuleB_pow
import PyProof.Rows.RuleB_floordiv
import PyProof.Rows.RuleB_mod
import PyProof.StrBlock2
import PyProof.Rows.StrTemp
import PyProof.Rows.RuleB_small
import PyProof.Rows.RuleC_int
import PyProof.Rows.RuleIs
import PyProof.Rows.SumGenD
import PyProof.Rows.SeqMore
import PyProof.SumWalkG
import PyProof.Rows.CallKwBuiltin
import OpenK.KCall
import OpenK.KMake
import OpenK.KCls
import Open.FastLooks
import OpenK.KWalk
import Open.Pieces
import OpenK.KQuick
import OpenK.KLine
import KE.KItem
import KE.KMinKey
import KE.KRevIter
import KE.KSortTup
import PySem.Challenge.RW_uf050015_13
set_option Elab.async false
set_option maxRecDepth 100000
set_option linter.all false
section
set_option maxHeartbeats 8000000
namespace Mine.Hd
open PySem PySem.W PyProof.Rows PySem.Calls
noncomputable abbrev kh(y:Params)(a:Str)(n:Nat)(v:Value):DictEntry:=⟨PyData.keyHash y a,.str a n,v⟩
noncomputable abbrev nd(a:Obj)(b c:BT):BT:=.node a b c
noncomputable abbrev nz:BT:=.nil
noncomputable abbrev nl(a:Obj):BT:=.node a nz nz
noncomputable abbrev q(a b c:Nat):Pos:=⟨a,b,a,c⟩
noncomputable abbrev nm(x:Str)(a b c:Nat):Expr:=.Name x (q a b c)
noncomputable abbrev ci(x:Int)(a b c:Nat):Expr:=.Constant (.int x) 0 (q a b c)
noncomputable abbrev T0:Value:=.type SL.s5856160107412720595x4
noncomputable abbrev T1:Value:=.type SL.s7174869446012820540x8
noncomputable abbrev T2:Value:=.type SL.s2766695959194262286x5
noncomputable abbrev T3:Value:=.type SL.s14018661285674007319x4
noncomputable abbrev T4:Value:=.type SL.s6070975301684473832x10
noncomputable abbrev T5:Value:=.type SL.s17162191345867700912x4
noncomputable abbrev T6:Value:=.type SL.s2742458400755230247x6
noncomputable abbrev T7:Value:=.type SL.s5946037652744460706x9
noncomputable abbrev T8:Value:=.type SL.s4278001404047624695x13
noncomputable abbrev T9:Value:=.builtin SL.s4209523147560561109x18
noncomputable abbrev T10:Value:=.builtin SL.s7097527257260152453x26
noncomputable abbrev T11:Value:=.type SL.s658472552662922059x5
noncomputable abbrev T12:Value:=.type SL.s11030030927630378310x26
noncomputable abbrev T13:Value:=.type SL.s4290257624100764138x5
noncomputable abbrev T14:Value:=.builtin SL.s4860613602091757760x24
noncomputable abbrev T15:Value:=.type SL.s14755015743595814543x17
noncomputable abbrev l0:Str:=⟨⟨[95,95,110,97,109,101,95,95]⟩⟩
noncomputable abbrev l1:Str:=⟨⟨[100,101,97,100,108,105,110,101,114,117,110,46,101,114,114,111,114,115]⟩⟩
noncomputable abbrev l2:Str:=⟨⟨[82,117,110,69,114,114,111,114]⟩⟩
noncomputable abbrev l3:Str:=⟨⟨[86,97,108,117,101,69,114,114,111,114]⟩⟩
noncomputable abbrev l4:Str:=⟨⟨[66,97,100,74,111,98]⟩⟩
noncomputable abbrev l5:Str:=⟨⟨[84,111,111,77,97,110,121]⟩⟩
noncomputable abbrev l6:Str:=⟨⟨[79,117,116,79,102,80,108,97,99,101]⟩⟩
noncomputable abbrev l7:Str:=⟨⟨[78,111,82,111,119]⟩⟩
noncomputable abbrev l8:Str:=⟨⟨[100,101,97,100,108,105,110,101,114,117,110,46,106,111,98,115]⟩⟩
noncomputable abbrev l9:Str:=⟨⟨[76,73,77,73,84]⟩⟩
noncomputable abbrev l10:Str:=⟨⟨[119,104,111,108,101]⟩⟩
noncomputable abbrev l11:Str:=⟨⟨[116,104,105,110,103]⟩⟩
noncomputable abbrev l12:Str:=⟨⟨[105,115,105,110,115,116,97,110,99,101]⟩⟩
noncomputable abbrev l13:Str:=⟨⟨[105,110,116]⟩⟩
noncomputable abbrev l14:Str:=⟨⟨[98,111,111,108]⟩⟩
noncomputable abbrev l15:Str:=⟨⟨[115,111,117,110,100]⟩⟩
noncomputable abbrev l16:Str:=⟨⟨[106,111,98]⟩⟩
noncomputable abbrev l17:Str:=⟨⟨[116,117,112,108,101]⟩⟩
noncomputable abbrev l18:Str:=⟨⟨[108,101,110]⟩⟩
noncomputable abbrev l19:Str:=⟨⟨[112,97,114,116]⟩⟩
noncomputable abbrev l20:Str:=⟨⟨[99,104,101,99,107]⟩⟩
noncomputable abbrev l21:Str:=⟨⟨[106,111,98,115]⟩⟩
noncomputable abbrev l22:Str:=⟨⟨[109,111,114,101,32,116,104,97,110,32,115,105,120,116,121,32,106,111,98,115]⟩⟩
noncomputable abbrev l23:Str:=⟨⟨[110,111,32,106,111,98]⟩⟩
noncomputable abbrev l24:Str:=⟨⟨[100,101,97,100,108,105,110,101,114,117,110,46,114,117,110,110,105,110,103]⟩⟩
noncomputable abbrev l25:Str:=⟨⟨[102,105,114,115,116,95,100,117,101]⟩⟩
noncomputable abbrev l26:Str:=⟨⟨[108,101,102,116]⟩⟩
noncomputable abbrev l27:Str:=⟨⟨[116,105,109,101]⟩⟩
noncomputable abbrev l28:Str:=⟨⟨[98,101,115,116]⟩⟩
noncomputable abbrev l29:Str:=⟨⟨[112,108,97,99,101]⟩⟩
noncomputable abbrev l30:Str:=⟨⟨[114,97,110,103,101]⟩⟩
noncomputable abbrev l31:Str:=⟨⟨[110,101,120,116,95,99,111,109,101]⟩⟩
noncomputable abbrev l32:Str:=⟨⟨[99,111,109,101,115]⟩⟩
noncomputable abbrev l33:Str:=⟨⟨[46,48]⟩⟩
noncomputable abbrev l34:Str:=⟨⟨[109,105,110]⟩⟩
noncomputable abbrev l35:Str:=⟨⟨[99,111,109,101]⟩⟩
noncomputable abbrev l36:Str:=⟨⟨[100,101,102,97,117,108,116]⟩⟩
noncomputable abbrev l37:Str:=⟨⟨[102,97,115,116]⟩⟩
noncomputable abbrev l38:Str:=⟨⟨[112,117,116]⟩⟩
noncomputable abbrev l39:Str:=⟨⟨[112,105,101,99,101,115]⟩⟩
noncomputable abbrev l40:Str:=⟨⟨[98,101,103,105,110]⟩⟩
noncomputable abbrev l41:Str:=⟨⟨[101,110,100]⟩⟩
noncomputable abbrev l42:Str:=⟨⟨[114,117,110]⟩⟩
noncomputable abbrev l43:Str:=⟨⟨[115,117,109]⟩⟩
noncomputable abbrev l44:Str:=⟨⟨[115,116,111,112]⟩⟩
noncomputable abbrev l45:Str:=⟨⟨[100,101,97,100,108,105,110,101,114,117,110,46,108,111,111,107,105,110,103]⟩⟩
noncomputable abbrev l46:Str:=⟨⟨[101,110,100,115]⟩⟩
noncomputable abbrev l47:Str:=⟨⟨[102,111,117,110,100]⟩⟩
noncomputable abbrev l48:Str:=⟨⟨[112,105,101,99,101]⟩⟩
noncomputable abbrev l49:Str:=⟨⟨[108,97,116,101]⟩⟩
noncomputable abbrev l50:Str:=⟨⟨[100,111,110,101]⟩⟩
noncomputable abbrev l51:Str:=⟨⟨[114,111,119,115]⟩⟩
noncomputable abbrev l52:Str:=⟨⟨[114,111,119]⟩⟩
noncomputable abbrev l53:Str:=⟨⟨[115,111,114,116,101,100]⟩⟩
noncomputable abbrev l54:Str:=⟨⟨[100,101,97,100,108,105,110,101,114,117,110,46,97,110,115,119,101,114,105,110,103]⟩⟩
noncomputable abbrev l55:Str:=⟨⟨[98,117,115,121,95,115,105,110,99,101]⟩⟩
noncomputable abbrev l56:Str:=⟨⟨[114,101,118,101,114,115,101,100]⟩⟩
noncomputable abbrev l57:Str:=⟨⟨[97,110,115,119,101,114]⟩⟩
noncomputable abbrev l58:Str:=⟨⟨[112,108,97,99,101,115]⟩⟩
noncomputable abbrev l59:Str:=⟨⟨[112,108,97,110]⟩⟩
noncomputable abbrev l60:Str:=⟨⟨[100,101,97,100,108,105,110,101,114,117,110,46,98,111,111,107]⟩⟩
noncomputable abbrev l61:Str:=⟨⟨[66,111,111,107]⟩⟩
noncomputable abbrev l62:Str:=⟨⟨[95,95,105,110,105,116,95,95]⟩⟩
noncomputable abbrev l63:Str:=⟨⟨[115,101,108,102]⟩⟩
noncomputable abbrev l64:Str:=⟨⟨[104,101,108,100]⟩⟩
noncomputable abbrev l65:Str:=⟨⟨[116,97,107,101]⟩⟩
noncomputable abbrev l66:Str:=⟨⟨[115,105,120,116,121,32,106,111,98,115,32,97,114,101,32,104,101,108,100]⟩⟩
noncomputable abbrev l67:Str:=⟨⟨[109,111,114,101]⟩⟩
noncomputable abbrev l68:Str:=⟨⟨[100,114,111,112]⟩⟩
noncomputable abbrev l69:Str:=⟨⟨[110,111,32,106,111,98,32,115,116,97,110,100,115,32,116,104,101,114,101]⟩⟩
noncomputable abbrev l70:Str:=⟨⟨[108,105,115,116,101,100]⟩⟩
noncomputable abbrev l71:Str:=⟨⟨[108,105,115,116]⟩⟩
noncomputable abbrev l72:Str:=⟨⟨[108,97,119,95,117,102,48,53,48,48,49,53,95,49,51]⟩⟩
noncomputable abbrev l73:Str:=⟨⟨[95,108,97,119,95,119,104,111,108,101]⟩⟩
noncomputable abbrev l74:Str:=⟨⟨[95,108,97,119,95,102,111,117,110,100]⟩⟩
noncomputable abbrev l75:Str:=⟨⟨[95,108,97,119,95,99,101,108,108,95,97,116]⟩⟩
noncomputable abbrev l76:Str:=⟨⟨[95,108,97,119,95,115,99,114,105,112,116]⟩⟩
noncomputable abbrev l77:Str:=⟨⟨[95,108,97,119,95,107]⟩⟩
noncomputable abbrev l78:Str:=⟨⟨[95,108,97,119,95,108,111,97,100]⟩⟩
noncomputable abbrev l79:Str:=⟨⟨[95,108,97,119,95,106,111,98,115]⟩⟩
noncomputable abbrev l80:Str:=⟨⟨[95,108,97,119,95,98,101,103,105,110]⟩⟩
noncomputable abbrev l81:Str:=⟨⟨[95,108,97,119,95,101,110,100]⟩⟩
noncomputable abbrev l82:Str:=⟨⟨[95,108,97,119,95,106,111,98]⟩⟩
noncomputable abbrev l83:Str:=⟨⟨[95,108,97,119,95,116,114,105,112,108,101]⟩⟩
noncomputable abbrev l84:Str:=⟨⟨[95,108,97,119,95,112,105,101,99,101]⟩⟩
noncomputable abbrev l85:Str:=⟨⟨[95,108,97,119,95,109,101,101,116,115]⟩⟩
noncomputable abbrev l86:Str:=⟨⟨[95,108,97,119,95,112,105,101,99,101,115]⟩⟩
noncomputable abbrev l87:Str:=⟨⟨[95,108,97,119,95,108,101,102,116]⟩⟩
noncomputable abbrev l88:Str:=⟨⟨[95,108,97,119,95,110,111,119]⟩⟩
noncomputable abbrev l89:Str:=⟨⟨[95,108,97,119,95,99,114,111,119,100,101,100]⟩⟩
noncomputable abbrev l90:Str:=⟨⟨[95,108,97,119,95,112,108,97,99,101]⟩⟩
noncomputable abbrev l91:Str:=⟨⟨[95,108,97,119,95,114,105,103,104,116]⟩⟩
noncomputable abbrev l92:Str:=⟨⟨[115,116,114]⟩⟩
noncomputable abbrev l93:Str:=⟨⟨[95,108,97,119,95,100,101,101,100]⟩⟩
noncomputable abbrev l94:Str:=⟨⟨[95,108,97,119,95,98,111,111,107]⟩⟩
noncomputable abbrev l95:Str:=⟨⟨[95,108,97,119,95,104,101,108,100]⟩⟩
noncomputable abbrev l96:Str:=⟨⟨[95,108,97,119,95,99,101,108,108]⟩⟩
noncomputable abbrev l97:Str:=⟨⟨[95,108,97,119,95,119,105,100,101]⟩⟩
noncomputable abbrev l98:Str:=⟨⟨[101]⟩⟩
noncomputable abbrev l99:Str:=⟨⟨[95,108,97,119,95,99,111,109,101]⟩⟩
noncomputable abbrev l100:Str:=⟨⟨[95,108,97,119,95,116,97,107,101,110]⟩⟩
noncomputable abbrev l101:Str:=⟨⟨[95,108,97,119,95,102,117,108,108]⟩⟩
noncomputable abbrev l102:Str:=⟨⟨[]⟩⟩
noncomputable abbrev l103:Str:=⟨⟨[109,97,110,121,32]⟩⟩
noncomputable abbrev l104:Str:=⟨⟨[109,97,110,121,32,109,97,110,121,32,106,111,98]⟩⟩
noncomputable abbrev l105:Str:=⟨⟨[95,108,97,119,95,109,97,110,121]⟩⟩
noncomputable abbrev l106:Str:=⟨⟨[95,108,97,119,95,99,111,117,110,116]⟩⟩
noncomputable abbrev l107:Str:=⟨⟨[95,108,97,119,95,109,105,120]⟩⟩
noncomputable abbrev l108:Str:=⟨⟨[95,108,97,119,95,97,102,116,101,114]⟩⟩
noncomputable abbrev l109:Str:=⟨⟨[108,97,119]⟩⟩
noncomputable abbrev l110:Str:=⟨⟨[95,108,97,119,95,98,111,111,107,115]⟩⟩
noncomputable abbrev l111:Str:=⟨⟨[95,108,97,119,95,107,101,112,116]⟩⟩
noncomputable abbrev l112:Str:=⟨⟨[95,108,97,119,95,119,104,105,99,104]⟩⟩
noncomputable abbrev l113:Str:=⟨⟨[95,108,97,119,95,116,111,108,100]⟩⟩
noncomputable abbrev l114:Str:=⟨⟨[97,112,112,101,110,100]⟩⟩
noncomputable abbrev l115:Str:=⟨⟨[95,108,97,119,95,108,105,115,116,101,100]⟩⟩
noncomputable abbrev l116:Str:=⟨⟨[95,108,97,119,95,111,110,101,115]⟩⟩
noncomputable abbrev l117:Str:=⟨⟨[47,99,108,97,105,109,47,99,117,116,46,112,121]⟩⟩
theorem el0:Str.ofString "__name__"=l0:=by kernel_rfl
theorem el1:Str.ofString "deadlinerun.errors"=l1:=by kernel_rfl
noncomputable abbrev F53:=(Str.ofString "RunError")
theorem el2:(@Eq Str F53 l2):=by kernel_rfl
theorem el3:Str.ofString "ValueError"=l3:=by kernel_rfl
theorem el4:Str.ofString "BadJob"=l4:=by kernel_rfl
noncomputable abbrev F56:=(Str.ofString "TooMany")
theorem el5:(@Eq Str F56 l5):=by kernel_rfl
noncomputable abbrev F48:=(Str.ofString "OutOfPlace")
theorem el6:(@Eq Str F48 l6):=by kernel_rfl
theorem el7:Str.ofString "NoRow"=l7:=by kernel_rfl
theorem el8:Str.ofString "deadlinerun.jobs"=l8:=by kernel_rfl
theorem el9:Str.ofString "LIMIT"=l9:=by kernel_rfl
theorem el10:Str.ofString "whole"=l10:=by kernel_rfl
theorem el11:Str.ofString "thing"=l11:=by kernel_rfl
theorem el12:Str.ofString "isinstance"=l12:=by kernel_rfl
theorem el13:Str.ofString "int"=l13:=by kernel_rfl
theorem el14:Str.ofString "bool"=l14:=by kernel_rfl
theorem el15:Str.ofString "sound"=l15:=by kernel_rfl
theorem el16:Str.ofString "job"=l16:=by kernel_rfl
theorem el17:Str.ofString "tuple"=l17:=by kernel_rfl
theorem el18:Str.ofString "len"=l18:=by kernel_rfl
theorem el19:Str.ofString "part"=l19:=by kernel_rfl
theorem el20:Str.ofString "check"=l20:=by kernel_rfl
theorem el21:Str.ofString "jobs"=l21:=by kernel_rfl
theorem el22:Str.ofString "more than sixty jobs"=l22:=by kernel_rfl
theorem el23:Str.ofString "no job"=l23:=by kernel_rfl
theorem el24:Str.ofString "deadlinerun.running"=l24:=by kernel_rfl
theorem el25:Str.ofString "first_due"=l25:=by kernel_rfl
theorem el26:Str.ofString "left"=l26:=by kernel_rfl
theorem el27:Str.ofString "time"=l27:=by kernel_rfl
theorem el28:Str.ofString "best"=l28:=by kernel_rfl
theorem el29:Str.ofString "place"=l29:=by kernel_rfl
theorem el30:Str.ofString "range"=l30:=by kernel_rfl
theorem el31:Str.ofString "next_come"=l31:=by kernel_rfl
theorem el32:Str.ofString "comes"=l32:=by kernel_rfl
theorem el33:Str.ofString ".0"=l33:=by kernel_rfl
theorem el34:Str.ofString "min"=l34:=by kernel_rfl
theorem el35:Str.ofString "come"=l35:=by kernel_rfl
theorem el36:Str.ofString "default"=l36:=by kernel_rfl
theorem el37:Str.ofString "fast"=l37:=by kernel_rfl
theorem el38:Str.ofString "put"=l38:=by kernel_rfl
theorem el39:Str.ofString "pieces"=l39:=by kernel_rfl
theorem el40:Str.ofString "begin"=l40:=by kernel_rfl
theorem el41:Str.ofString "end"=l41:=by kernel_rfl
theorem el42:Str.ofString "run"=l42:=by kernel_rfl
theorem el43:Str.ofString "sum"=l43:=by kernel_rfl
theorem el44:Str.ofString "stop"=l44:=by kernel_rfl
theorem el45:Str.ofString "deadlinerun.looking"=l45:=by kernel_rfl
theorem el46:Str.ofString "ends"=l46:=by kernel_rfl
theorem el47:Str.ofString "found"=l47:=by kernel_rfl
theorem el48:Str.ofString "piece"=l48:=by kernel_rfl
theorem el49:Str.ofString "late"=l49:=by kernel_rfl
theorem el50:Str.ofString "done"=l50:=by kernel_rfl
theorem el51:Str.ofString "rows"=l51:=by kernel_rfl
theorem el52:Str.ofString "row"=l52:=by kernel_rfl
theorem el53:Str.ofString "sorted"=l53:=by kernel_rfl
theorem el54:Str.ofString "deadlinerun.answering"=l54:=by kernel_rfl
theorem el55:Str.ofString "busy_since"=l55:=by kernel_rfl
theorem el56:Str.ofString "reversed"=l56:=by kernel_rfl
theorem el57:Str.ofString "answer"=l57:=by kernel_rfl
theorem el58:Str.ofString "places"=l58:=by kernel_rfl
theorem el59:Str.ofString "plan"=l59:=by kernel_rfl
theorem el60:Str.ofString "deadlinerun.book"=l60:=by kernel_rfl
theorem el61:Str.ofString "Book"=l61:=by kernel_rfl
theorem el62:Str.ofString "__init__"=l62:=by kernel_rfl
theorem el63:Str.ofString "self"=l63:=by kernel_rfl
theorem el64:Str.ofString "held"=l64:=by kernel_rfl
theorem el65:Str.ofString "take"=l65:=by kernel_rfl
theorem el66:Str.ofString "sixty jobs are held"=l66:=by kernel_rfl
theorem el67:Str.ofString "more"=l67:=by kernel_rfl
theorem el68:Str.ofString "drop"=l68:=by kernel_rfl
theorem el69:Str.ofString "no job stands there"=l69:=by kernel_rfl
theorem el70:Str.ofString "listed"=l70:=by kernel_rfl
theorem el71:Str.ofString "list"=l71:=by kernel_rfl
theorem el72:Str.ofString "law_uf050015_13"=l72:=by kernel_rfl
theorem el73:Str.ofString "_law_whole"=l73:=by kernel_rfl
theorem el74:Str.ofString "_law_found"=l74:=by kernel_rfl
theorem el75:Str.ofString "_law_cell_at"=l75:=by kernel_rfl
theorem el76:Str.ofString "_law_script"=l76:=by kernel_rfl
theorem el77:Str.ofString "_law_k"=l77:=by kernel_rfl
theorem el78:Str.ofString "_law_load"=l78:=by kernel_rfl
theorem el79:Str.ofString "_law_jobs"=l79:=by kernel_rfl
theorem el80:Str.ofString "_law_begin"=l80:=by kernel_rfl
theorem el81:Str.ofString "_law_end"=l81:=by kernel_rfl
theorem el82:Str.ofString "_law_job"=l82:=by kernel_rfl
theorem el83:Str.ofString "_law_triple"=l83:=by kernel_rfl
theorem el84:Str.ofString "_law_piece"=l84:=by kernel_rfl
theorem el85:Str.ofString "_law_meets"=l85:=by kernel_rfl
theorem el86:Str.ofString "_law_pieces"=l86:=by kernel_rfl
theorem el87:Str.ofString "_law_left"=l87:=by kernel_rfl
theorem el88:Str.ofString "_law_now"=l88:=by kernel_rfl
theorem el89:Str.ofString "_law_crowded"=l89:=by kernel_rfl
theorem el90:Str.ofString "_law_place"=l90:=by kernel_rfl
theorem el91:Str.ofString "_law_right"=l91:=by kernel_rfl
theorem el92:Str.ofString "str"=l92:=by kernel_rfl
theorem el93:Str.ofString "_law_deed"=l93:=by kernel_rfl
theorem el94:Str.ofString "_law_book"=l94:=by kernel_rfl
theorem el95:Str.ofString "_law_held"=l95:=by kernel_rfl
theorem el96:Str.ofString "_law_cell"=l96:=by kernel_rfl
theorem el97:Str.ofString "_law_wide"=l97:=by kernel_rfl
theorem el98:Str.ofString "e"=l98:=by kernel_rfl
theorem el99:Str.ofString "_law_come"=l99:=by kernel_rfl
theorem el100:Str.ofString "_law_taken"=l100:=by kernel_rfl
theorem el101:Str.ofString "_law_full"=l101:=by kernel_rfl
theorem el102:Str.ofString ""=l102:=by kernel_rfl
theorem el103:Str.ofString "many "=l103:=by kernel_rfl
theorem el104:Str.ofString "many many job"=l104:=by kernel_rfl
theorem el105:Str.ofString "_law_many"=l105:=by kernel_rfl
theorem el106:Str.ofString "_law_count"=l106:=by kernel_rfl
theorem el107:Str.ofString "_law_mix"=l107:=by kernel_rfl
theorem el108:Str.ofString "_law_after"=l108:=by kernel_rfl
theorem el109:Str.ofString "law"=l109:=by kernel_rfl
theorem el110:Str.ofString "_law_books"=l110:=by kernel_rfl
theorem el111:Str.ofString "_law_kept"=l111:=by kernel_rfl
theorem el112:Str.ofString "_law_which"=l112:=by kernel_rfl
theorem el113:Str.ofString "_law_told"=l113:=by kernel_rfl
theorem el114:Str.ofString "append"=l114:=by kernel_rfl
theorem el115:Str.ofString "_law_listed"=l115:=by kernel_rfl
theorem el116:Str.ofString "_law_ones"=l116:=by kernel_rfl
theorem el117:Str.ofString "/claim/cut.py"=l117:=by kernel_rfl
noncomputable abbrev S0(y0 y1:Str):Stmt:=(.Assign [nm y0 1 0 8] (.Constant (.str y1) 0 (q 1 11 31)) (q 1 0 31))
noncomputable abbrev S1(y0 y1:Str):Stmt:=(.ClassDef y0 [nm y1 2 15 25] [] [.Pass (q 3 4 8)] [] [] ⟨.class,[],false,false,[]⟩ none y0 [] ⟨2,0,3,8⟩)
noncomputable abbrev S2(y0 y1:Str):Stmt:=(.ClassDef y1 [nm y0 4 13 21] [] [.Pass (q 5 4 8)] [] [] ⟨.class,[],false,false,[]⟩ none y1 [] ⟨4,0,5,8⟩)
noncomputable abbrev S3(y0 y1:Str):Stmt:=(.ClassDef y1 [nm y0 6 14 22] [] [.Pass (q 7 4 8)] [] [] ⟨.class,[],false,false,[]⟩ none y1 [] ⟨6,0,7,8⟩)
noncomputable abbrev S4(y0 y1:Str):Stmt:=(.ClassDef y1 [nm y0 8 17 25] [] [.Pass (q 9 4 8)] [] [] ⟨.class,[],false,false,[]⟩ none y1 [] ⟨8,0,9,8⟩)
noncomputable abbrev S5(y0 y1:Str):Stmt:=(.ClassDef y1 [nm y0 10 12 20] [] [.Pass (q 11 4 8)] [] [] ⟨.class,[],false,false,[]⟩ none y1 [] ⟨10,0,11,8⟩)
noncomputable abbrev S6(y0 y1:Str):Stmt:=(.Assign [nm y0 12 0 8] (.Constant (.str y1) 0 (q 12 11 29)) (q 12 0 29))
noncomputable abbrev S7(y0:Str):Stmt:=(.Assign [nm y0 13 0 5] (ci 60 13 8 10) (q 13 0 10))
noncomputable abbrev A8(y0:Str):Arguments:=⟨[],[⟨y0,none,q 14 10 15⟩],none,[],[],none,[]⟩
noncomputable abbrev B9(y0 y1 y2 y3:Str):(List Stmt):=[.Return (some (.BoolOp .And [.Call (nm y1 15 11 21) [nm y0 15 22 27,nm y2 15 29 32] [] (q 15 11 33),.UnaryOp .Not (.Call (nm y1 15 43 53) [nm y0 15 54 59,nm y3 15 61 65] [] (q 15 43 66)) (q 15 39 66)] (q 15 11 67))) (q 15 4 67)]
noncomputable abbrev C10(y0 y1 y2 y3:Str):Scope:=⟨.function,[(y0,.local),(y1,.globalImplicit),(y2,.globalImplicit),(y3,.globalImplicit)],false,false,[]⟩
noncomputable abbrev S11(y0 y1 y2 y3 y4:Str):Stmt:=(.FunctionDef y0 (A8 y1) (B9 y1 y2 y3 y4) [] none [] (C10 y1 y2 y3 y4) none y0 ⟨14,0,15,67⟩)
noncomputable abbrev A12(y0:Str):Arguments:=⟨[],[⟨y0,none,q 16 10 13⟩],none,[],[],none,[]⟩
noncomputable abbrev B13(y0 y1 y2 y3 y4 y5:Str):(List Stmt):=[.If (.BoolOp .Or [.UnaryOp .Not (.Call (nm y1 17 11 21) [nm y2 17 22 25,nm y3 17 27 32] [] (q 17 11 33)) (q 17 7 33),.Compare (.Call (nm y4 17 37 40) [nm y2 17 41 44] [] (q 17 37 45)) [.NotEq] [ci 3 17 49 50] (q 17 37 50)] (q 17 7 50)) [.Return (some (.Constant (.bool false) 0 (q 18 15 20))) (q 18 8 20)] [] ⟨17,4,18,20⟩,.For (nm y5 19 8 12) (nm y2 19 16 19) [.If (.BoolOp .Or [.UnaryOp .Not (.Call (nm y0 20 15 20) [nm y5 20 21 25] [] (q 20 15 26)) (q 20 11 26),.Compare (nm y5 20 30 34) [.Lt] [ci 0 20 37 38] (q 20 30 38),.Compare (nm y5 20 42 46) [.GtE] [.BinOp (ci 10 20 50 52) .Pow (ci 60 20 56 58) (q 20 50 58)] (q 20 42 58)] (q 20 11 58)) [.Return (some (.Constant (.bool false) 0 (q 21 19 24))) (q 21 12 24)] [] ⟨20,8,21,24⟩] [] ⟨19,4,21,24⟩,.Return (some (.BoolOp .And [.Compare (.Subscript (nm y2 22 11 14) (ci 1 22 15 16) (q 22 11 17)) [.GtE] [ci 1 22 21 22] (q 22 11 22),.Compare (.Subscript (nm y2 22 27 30) (ci 2 22 31 32) (q 22 27 33)) [.Gt] [.Subscript (nm y2 22 36 39) (ci 0 22 40 41) (q 22 36 42)] (q 22 27 42)] (q 22 11 42))) (q 22 4 42)]
noncomputable abbrev C14(y0 y1 y2 y3 y4 y5:Str):Scope:=⟨.function,[(y2,.local),(y5,.local),(y1,.globalImplicit),(y3,.globalImplicit),(y4,.globalImplicit),(y0,.globalImplicit)],false,false,[]⟩
noncomputable abbrev S15(y0 y1 y2 y3 y4 y5 y6:Str):Stmt:=(.FunctionDef y2 (A12 y3) (B13 y0 y1 y3 y4 y5 y6) [] none [] (C14 y0 y1 y3 y4 y5 y6) none y2 ⟨16,0,22,42⟩)
noncomputable abbrev A16(y0:Str):Arguments:=⟨[],[⟨y0,none,q 23 10 14⟩],none,[],[],none,[]⟩
noncomputable abbrev B17(y0 y1 y2 y3 y4 y5 y6 y7 y8:Str):(List Stmt):=[.If (.Compare (.Call (nm y5 24 7 10) [nm y6 24 11 15] [] (q 24 7 16)) [.Gt] [nm y2 24 19 24] (q 24 7 24)) [.Raise (some (.Call (nm y1 25 14 21) [.Constant (.str y7) 0 (q 25 22 44)] [] (q 25 14 45))) none (q 25 8 45)] [] ⟨24,4,25,45⟩,.For (nm y4 26 8 11) (nm y6 26 15 19) [.If (.UnaryOp .Not (.Call (nm y3 27 15 20) [nm y4 27 21 24] [] (q 27 15 25)) (q 27 11 25)) [.Raise (some (.Call (nm y0 28 18 24) [.Constant (.str y8) 0 (q 28 25 33)] [] (q 28 18 34))) none (q 28 12 34)] [] ⟨27,8,28,34⟩] [] ⟨26,4,28,34⟩]
noncomputable abbrev C18(y0 y1 y2 y3 y4 y5 y6:Str):Scope:=⟨.function,[(y6,.local),(y4,.local),(y5,.globalImplicit),(y2,.globalImplicit),(y1,.globalImplicit),(y3,.globalImplicit),(y0,.globalImplicit)],false,false,[]⟩
noncomputable abbrev S19(y0 y1 y2 y3 y4 y5 y6 y7 y8 y9:Str):Stmt:=(.FunctionDef y6 (A16 y7) (B17 y0 y1 y2 y3 y4 y5 y7 y8 y9) [] none [] (C18 y0 y1 y2 y3 y4 y5 y7) none y6 ⟨23,0,28,34⟩)
noncomputable abbrev S20(y0 y1:Str):Stmt:=(.Assign [nm y0 29 0 8] (.Constant (.str y1) 0 (q 29 11 32)) (q 29 0 32))
noncomputable abbrev A21(y0 y1 y2:Str):Arguments:=⟨[],[⟨y0,none,q 30 14 18⟩,⟨y1,none,q 30 20 24⟩,⟨y2,none,q 30 26 30⟩],none,[],[],none,[]⟩
noncomputable abbrev B22(y0 y1 y2 y3 y4 y5 y6:Str):(List Stmt):=[.Assign [nm y4 31 4 8] (.Constant .none 0 (q 31 11 15)) (q 31 4 15),.For (nm y5 32 8 13) (.Call (nm y6 32 17 22) [.Call (nm y0 32 23 26) [nm y1 32 27 31] [] (q 32 23 32)] [] (q 32 17 33)) [.If (.BoolOp .And [.Compare (.Subscript (nm y2 33 11 15) (nm y5 33 16 21) (q 33 11 22)) [.Gt] [ci 0 33 25 26] (q 33 11 26),.Compare (.Subscript (.Subscript (nm y1 33 31 35) (nm y5 33 36 41) (q 33 31 42)) (ci 0 33 43 44) (q 33 31 45)) [.LtE] [nm y3 33 49 53] (q 33 31 53)] (q 33 11 53)) [.If (.BoolOp .Or [.Compare (nm y4 34 15 19) [.Is] [.Constant .none 0 (q 34 23 27)] (q 34 15 27),.Compare (.Subscript (.Subscript (nm y1 34 31 35) (nm y5 34 36 41) (q 34 31 42)) (ci 2 34 43 44) (q 34 31 45)) [.Lt] [.Subscript (.Subscript (nm y1 34 48 52) (nm y4 34 53 57) (q 34 48 58)) (ci 2 34 59 60) (q 34 48 61)] (q 34 31 61)] (q 34 15 61)) [.Assign [nm y4 35 16 20] (nm y5 35 23 28) (q 35 16 28)] [] ⟨34,12,35,28⟩] [] ⟨33,8,35,28⟩] [] ⟨32,4,35,28⟩,.Return (some (nm y4 36 11 15)) (q 36 4 15)]
noncomputable abbrev C23(y0 y1 y2 y3 y4 y5 y6:Str):Scope:=⟨.function,[(y1,.local),(y2,.local),(y3,.local),(y4,.local),(y5,.local),(y6,.globalImplicit),(y0,.globalImplicit)],false,false,[]⟩
noncomputable abbrev S24(y0 y1 y2 y3 y4 y5 y6 y7:Str):Stmt:=(.FunctionDef y2 (A21 y1 y3 y4) (B22 y0 y1 y3 y4 y5 y6 y7) [] none [] (C23 y0 y1 y3 y4 y5 y6 y7) none y2 ⟨30,0,36,15⟩)
noncomputable abbrev A25(y0 y1 y2:Str):Arguments:=⟨[],[⟨y0,none,q 37 14 18⟩,⟨y1,none,q 37 20 24⟩,⟨y2,none,q 37 26 30⟩],none,[],[],none,[]⟩
noncomputable abbrev B26(y0 y1 y2 y3 y4 y5 y6 y7 y8 y9 y10:Str):(List Stmt):=[.Assign [nm y6 38 4 9] (.ListComp (.Subscript (.Subscript (nm y1 38 13 17) (nm y4 38 18 23) (q 38 13 24)) (ci 0 38 25 26) (q 38 13 27)) [⟨nm y4 38 32 37,.Call (nm y5 38 41 46) [.Call (nm y0 38 47 50) [nm y1 38 51 55] [] (q 38 47 56)] [] (q 38 41 57),[.Compare (.Subscript (nm y2 38 61 65) (nm y4 38 66 71) (q 38 61 72)) [.Gt] [ci 0 38 75 76] (q 38 61 76)],0⟩] ⟨.function,[(y7,.local),(y4,.local),(y1,.free),(y2,.free)],false,false,[]⟩ (q 38 12 77)) (q 38 4 77),.Return (some (.Call (nm y8 39 11 14) [.ListComp (nm y9 39 16 20) [⟨nm y9 39 25 29,nm y6 39 33 38,[.Compare (nm y9 39 42 46) [.Gt] [nm y3 39 49 53] (q 39 42 53)],0⟩] ⟨.function,[(y7,.local),(y9,.local),(y3,.free)],false,false,[]⟩ (q 39 15 54)] [⟨some y10,.Constant .none 0 (q 39 64 68),q 39 56 68⟩] (q 39 11 69))) (q 39 4 69)]
noncomputable abbrev C27(y0 y1 y2 y3 y4 y5 y6 y7 y8 y9:Str):Scope:=⟨.function,[(y1,.cell),(y2,.cell),(y3,.cell),(y6,.local),(y5,.globalImplicit),(y0,.globalImplicit),(y7,.globalImplicit)],false,false,[(y9,(.str y1)),(y9,(.str y2)),(y9,(.str y3)),(y9,(.str y4)),(y9,(.str y6)),(y9,(.str y8))]⟩
noncomputable abbrev S28(y0 y1 y2 y3 y4 y5 y6 y7 y8 y9 y10 y11 y12:Str):Stmt:=(.FunctionDef y6 (A25 y1 y2 y3) (B26 y0 y1 y2 y3 y4 y5 y7 y8 y9 y10 y11) [] none [] (C27 y0 y1 y2 y3 y4 y5 y7 y9 y10 y12) none y6 ⟨37,0,39,69⟩)
noncomputable abbrev A29(y0 y1 y2 y3:Str):Arguments:=⟨[],[⟨y1,none,q 40 8 14⟩,⟨y0,none,q 40 16 21⟩,⟨y2,none,q 40 23 28⟩,⟨y3,none,q 40 30 33⟩],none,[],[],none,[]⟩
noncomputable abbrev B30(y0 y1 y2 y3:Str):(List Stmt):=[.If (.BoolOp .And [.Compare (nm y1 41 7 13) [.NotEq] [.List [] (q 41 17 19)] (q 41 7 19),.Compare (.Subscript (.Subscript (nm y1 41 24 30) (.UnaryOp .USub (ci 1 41 32 33) (q 41 31 33)) (q 41 24 34)) (ci 0 41 35 36) (q 41 24 37)) [.Eq] [nm y0 41 41 46] (q 41 24 46),.Compare (.Subscript (.Subscript (nm y1 41 52 58) (.UnaryOp .USub (ci 1 41 60 61) (q 41 59 61)) (q 41 52 62)) (ci 2 41 63 64) (q 41 52 65)) [.Eq] [nm y2 41 69 74] (q 41 52 74)] (q 41 7 75)) [.Return (some (.BinOp (.Subscript (nm y1 42 15 21) (.Slice none (some (.UnaryOp .USub (ci 1 42 24 25) (q 42 23 25))) none (q 42 22 25)) (q 42 15 26)) .Add (.List [.Tuple [nm y0 42 31 36,.Subscript (.Subscript (nm y1 42 38 44) (.UnaryOp .USub (ci 1 42 46 47) (q 42 45 47)) (q 42 38 48)) (ci 1 42 49 50) (q 42 38 51),nm y3 42 53 56] 0 (q 42 30 57)] (q 42 29 58)) (q 42 15 58))) (q 42 8 58)] [] ⟨41,4,42,58⟩,.Return (some (.BinOp (nm y1 43 11 17) .Add (.List [.Tuple [nm y0 43 22 27,nm y2 43 29 34,nm y3 43 36 39] 0 (q 43 21 40)] (q 43 20 41)) (q 43 11 41))) (q 43 4 41)]
noncomputable abbrev C31(y0 y1 y2 y3:Str):Scope:=⟨.function,[(y1,.local),(y0,.local),(y2,.local),(y3,.local)],false,false,[]⟩
noncomputable abbrev S32(y0 y1 y2 y3 y4:Str):Stmt:=(.FunctionDef y1 (A29 y0 y2 y3 y4) (B30 y0 y2 y3 y4) [] none [] (C31 y0 y2 y3 y4) none y1 ⟨40,0,43,41⟩)
noncomputable abbrev A33(y0:Str):Arguments:=⟨[],[⟨y0,none,q 44 8 12⟩],none,[],[],none,[]⟩
noncomputable abbrev B34(y0 y1 y2 y3 y4 y5 y6 y7 y8 y9 y10 y11 y12 y13:Str):(List Stmt):=[.Expr (.Call (nm y1 45 4 9) [nm y2 45 10 14] [] (q 45 4 15)) (q 45 4 15),.Assign [nm y4 46 4 8] (.ListComp (.Subscript (nm y0 46 12 15) (ci 1 46 16 17) (q 46 12 18)) [⟨nm y0 46 23 26,nm y2 46 30 34,[],0⟩] ⟨.function,[(y8,.local),(y0,.local)],false,false,[]⟩ (q 46 11 35)) (q 46 4 35),.Assign [nm y10 47 4 10] (.List [] (q 47 13 15)) (q 47 4 15),.Assign [nm y5 48 4 8] (ci 0 48 11 12) (q 48 4 12),.While (.Compare (.Call (nm y12 49 10 13) [nm y4 49 14 18] [] (q 49 10 19)) [.Gt] [ci 0 49 22 23] (q 49 10 23)) [.Assign [nm y6 50 8 13] (.Call (nm y3 50 16 25) [nm y2 50 26 30,nm y4 50 32 36,nm y5 50 38 42] [] (q 50 16 43)) (q 50 8 43),.Assign [nm y13 51 8 12] (.Call (nm y7 51 15 24) [nm y2 51 25 29,nm y4 51 31 35,nm y5 51 37 41] [] (q 51 15 42)) (q 51 8 42),.If (.Compare (nm y6 52 11 16) [.Is] [.Constant .none 0 (q 52 20 24)] (q 52 11 24)) [.Assign [nm y5 53 12 16] (nm y13 53 19 23) (q 53 12 23)] [.Assign [nm y11 55 12 15] (.BinOp (nm y5 55 18 22) .Add (.Subscript (nm y4 55 25 29) (nm y6 55 30 35) (q 55 25 36)) (q 55 18 36)) (q 55 12 36),.If (.BoolOp .And [.Compare (nm y13 56 15 19) [.IsNot] [.Constant .none 0 (q 56 27 31)] (q 56 15 31),.Compare (nm y13 56 36 40) [.Lt] [nm y11 56 43 46] (q 56 36 46)] (q 56 15 46)) [.Assign [nm y11 57 16 19] (nm y13 57 22 26) (q 57 16 26)] [] ⟨56,12,57,26⟩,.Assign [nm y10 58 12 18] (.Call (nm y9 58 21 24) [nm y10 58 25 31,nm y6 58 33 38,nm y5 58 40 44,nm y11 58 46 49] [] (q 58 21 50)) (q 58 12 50),.Assign [.Subscript (nm y4 59 12 16) (nm y6 59 17 22) (q 59 12 23)] (.BinOp (.Subscript (nm y4 59 26 30) (nm y6 59 31 36) (q 59 26 37)) .Sub (.BinOp (nm y11 59 41 44) .Sub (nm y5 59 47 51) (q 59 41 51)) (q 59 26 52)) (q 59 12 52),.Assign [nm y5 60 12 16] (nm y11 60 19 22) (q 60 12 22)] ⟨52,8,60,22⟩] [] ⟨49,4,60,22⟩,.Return (some (nm y10 61 11 17)) (q 61 4 17)]
noncomputable abbrev C35(y0 y1 y2 y3 y4 y5 y6 y7 y8 y9 y10 y11 y12 y13:Str):Scope:=⟨.function,[(y2,.local),(y4,.local),(y10,.local),(y5,.local),(y6,.local),(y13,.local),(y11,.local),(y1,.globalImplicit),(y12,.globalImplicit),(y3,.globalImplicit),(y7,.globalImplicit),(y9,.globalImplicit)],false,false,[(y8,(.str y2)),(y8,(.str y0)),(y8,(.str y4)),(y8,(.str y10)),(y8,(.str y5)),(y8,(.str y6)),(y8,(.str y13)),(y8,(.str y11))]⟩
noncomputable abbrev S36(y0 y1 y2 y3 y4 y5 y6 y7 y8 y9 y10 y11 y12 y13 y14 y15:Str):Stmt:=(.FunctionDef y13 (A33 y2) (B34 y0 y1 y2 y3 y4 y5 y6 y7 y8 y10 y11 y12 y14 y15) [] none [] (C35 y0 y1 y2 y3 y4 y5 y6 y7 y9 y10 y11 y12 y14 y15) none y13 ⟨44,0,61,17⟩)
noncomputable abbrev S37(y0 y1:Str):Stmt:=(.Assign [nm y0 62 0 8] (.Constant (.str y1) 0 (q 62 11 32)) (q 62 0 32))
noncomputable abbrev A38(y0:Str):Arguments:=⟨[],[⟨y0,none,q 63 9 13⟩],none,[],[],none,[]⟩
noncomputable abbrev B39(y0 y1 y2 y3 y4 y5:Str):(List Stmt):=[.Assign [nm y4 64 4 9] (.ListComp (ci 0 64 13 14) [⟨nm y0 64 19 22,nm y1 64 26 30,[],0⟩] ⟨.function,[(y2,.local),(y0,.local)],false,false,[]⟩ (q 64 12 31)) (q 64 4 31),.For (nm y5 65 8 13) (.Call (nm y3 65 17 20) [nm y1 65 21 25] [] (q 65 17 26)) [.Assign [.Subscript (nm y4 66 8 13) (.Subscript (nm y5 66 14 19) (ci 0 66 20 21) (q 66 14 22)) (q 66 8 23)] (.Subscript (nm y5 66 26 31) (ci 2 66 32 33) (q 66 26 34)) (q 66 8 34)] [] ⟨65,4,66,34⟩,.Return (some (nm y4 67 11 16)) (q 67 4 16)]
noncomputable abbrev C40(y0 y1 y2 y3 y4 y5:Str):Scope:=⟨.function,[(y1,.local),(y4,.local),(y5,.local),(y3,.globalImplicit)],false,false,[(y2,(.str y1)),(y2,(.str y0)),(y2,(.str y4)),(y2,(.str y5))]⟩
noncomputable abbrev S41(y0 y1 y2 y3 y4 y5 y6 y7:Str):Stmt:=(.FunctionDef y5 (A38 y1) (B39 y0 y1 y2 y4 y6 y7) [] none [] (C40 y0 y1 y3 y4 y6 y7) none y5 ⟨63,0,67,16⟩)
noncomputable abbrev A42(y0:Str):Arguments:=⟨[],[⟨y0,none,q 68 9 13⟩],none,[],[],none,[]⟩
noncomputable abbrev B43(y0 y1 y2 y3 y4 y5 y6 y7 y8 y9:Str):(List Stmt):=[.Assign [nm y6 69 4 8] (.Call (nm y5 69 11 15) [nm y1 69 16 20] [] (q 69 11 21)) (q 69 4 21),.Assign [nm y7 70 4 8] (.ListComp (.Tuple [.Subscript (.Subscript (nm y1 70 13 17) (nm y2 70 18 23) (q 70 13 24)) (ci 2 70 25 26) (q 70 13 27),nm y2 70 29 34] 0 (q 70 12 35)) [⟨nm y2 70 40 45,.Call (nm y3 70 49 54) [.Call (nm y0 70 55 58) [nm y1 70 59 63] [] (q 70 55 64)] [] (q 70 49 65),[.Compare (.Subscript (nm y6 70 69 73) (nm y2 70 74 79) (q 70 69 80)) [.Gt] [.Subscript (.Subscript (nm y1 70 83 87) (nm y2 70 88 93) (q 70 83 94)) (ci 2 70 95 96) (q 70 83 97)] (q 70 69 97)],0⟩] ⟨.function,[(y4,.local),(y2,.local),(y6,.free),(y1,.free)],false,false,[]⟩ (q 70 11 98)) (q 70 4 98),.Return (some (.ListComp (.Subscript (nm y8 71 12 15) (ci 1 71 16 17) (q 71 12 18)) [⟨nm y8 71 23 26,.Call (nm y9 71 30 36) [nm y7 71 37 41] [] (q 71 30 42),[],0⟩] ⟨.function,[(y4,.local),(y8,.local)],false,false,[]⟩ (q 71 11 43))) (q 71 4 43)]
noncomputable abbrev C44(y0 y1 y2 y3 y4 y5 y6 y7 y8 y9:Str):Scope:=⟨.function,[(y1,.cell),(y6,.cell),(y7,.local),(y5,.globalImplicit),(y3,.globalImplicit),(y0,.globalImplicit),(y9,.globalImplicit)],false,false,[(y4,(.str y1)),(y4,(.str y6)),(y4,(.str y2)),(y4,(.str y7)),(y4,(.str y8))]⟩
noncomputable abbrev S45(y0 y1 y2 y3 y4 y5 y6 y7 y8 y9 y10 y11:Str):Stmt:=(.FunctionDef y7 (A42 y1) (B43 y0 y1 y2 y3 y4 y6 y8 y9 y10 y11) [] none [] (C44 y0 y1 y2 y3 y5 y6 y8 y9 y10 y11) none y7 ⟨68,0,71,43⟩)
noncomputable abbrev S46(y0 y1:Str):Stmt:=(.Assign [nm y0 72 0 8] (.Constant (.str y1) 0 (q 72 11 34)) (q 72 0 34))
noncomputable abbrev A47(y0 y1 y2:Str):Arguments:=⟨[],[⟨y0,none,q 73 15 19⟩,⟨y1,none,q 73 21 27⟩,⟨y2,none,q 73 29 32⟩],none,[],[],none,[]⟩
noncomputable abbrev B48(y0 y1 y2 y3 y4 y5 y6:Str):(List Stmt):=[.Assign [nm y3 74 4 9] (nm y4 74 12 15) (q 74 4 15),.For (nm y5 75 8 13) (.Call (nm y6 75 17 25) [nm y2 75 26 32] [] (q 75 17 33)) [.If (.Compare (.Subscript (nm y5 76 11 16) (ci 1 76 17 18) (q 76 11 19)) [.Lt] [nm y4 76 22 25] (q 76 11 25)) [.If (.BoolOp .Or [.Compare (.Call (nm y1 77 15 18) [.Subscript (nm y5 77 19 24) (ci 2 77 25 26) (q 77 19 27),nm y4 77 29 32] [] (q 77 15 33)) [.Lt] [nm y3 77 36 41] (q 77 15 41),.Compare (.Subscript (.Subscript (nm y0 77 45 49) (.Subscript (nm y5 77 50 55) (ci 0 77 56 57) (q 77 50 58)) (q 77 45 59)) (ci 2 77 60 61) (q 77 45 62)) [.Gt] [nm y4 77 65 68] (q 77 45 68)] (q 77 15 68)) [.Return (some (nm y3 78 23 28)) (q 78 16 28)] [] ⟨77,12,78,28⟩,.Assign [nm y3 79 12 17] (.Subscript (nm y5 79 20 25) (ci 1 79 26 27) (q 79 20 28)) (q 79 12 28)] [] ⟨76,8,79,28⟩] [] ⟨75,4,79,28⟩,.Return (some (nm y3 80 11 16)) (q 80 4 16)]
noncomputable abbrev C49(y0 y1 y2 y3 y4 y5 y6:Str):Scope:=⟨.function,[(y0,.local),(y2,.local),(y4,.local),(y3,.local),(y5,.local),(y6,.globalImplicit),(y1,.globalImplicit)],false,false,[]⟩
noncomputable abbrev S50(y0 y1 y2 y3 y4 y5 y6 y7:Str):Stmt:=(.FunctionDef y6 (A47 y0 y2 y4) (B48 y0 y1 y2 y3 y4 y5 y7) [] none [] (C49 y0 y1 y2 y3 y4 y5 y7) none y6 ⟨73,0,80,16⟩)
noncomputable abbrev A51(y0:Str):Arguments:=⟨[],[⟨y0,none,q 81 11 15⟩],none,[],[],none,[]⟩
noncomputable abbrev B52(y0 y1 y2 y3 y4 y5 y6 y7 y8:Str):(List Stmt):=[.Assign [nm y2 82 4 10] (.Call (nm y4 82 13 16) [nm y0 82 17 21] [] (q 82 13 22)) (q 82 4 22),.Assign [nm y7 83 4 10] (.Call (nm y5 83 13 17) [nm y0 83 18 22] [] (q 83 13 23)) (q 83 4 23),.If (.Compare (nm y7 84 7 13) [.Eq] [.List [] (q 84 17 19)] (q 84 7 19)) [.Return (some (.Tuple [.Constant (.str y8) 0 (q 85 16 22),nm y2 85 24 30] 0 (q 85 15 31))) (q 85 8 31)] [] ⟨84,4,85,31⟩,.Assign [nm y1 86 4 9] (.Subscript (nm y7 86 12 18) (ci 0 86 19 20) (q 86 12 21)) (q 86 4 21),.Assign [nm y3 87 4 7] (.Subscript (.Subscript (nm y0 87 10 14) (nm y1 87 15 20) (q 87 10 21)) (ci 2 87 22 23) (q 87 10 24)) (q 87 4 24),.Return (some (.Tuple [.Constant (.str y5) 0 (q 88 12 18),nm y1 88 20 25,.Call (nm y6 88 27 37) [nm y0 88 38 42,nm y2 88 44 50,nm y3 88 52 55] [] (q 88 27 56),nm y3 88 58 61] 0 (q 88 11 62))) (q 88 4 62)]
noncomputable abbrev C53(y0 y1 y2 y3 y4 y5 y6 y7:Str):Scope:=⟨.function,[(y0,.local),(y2,.local),(y7,.local),(y1,.local),(y3,.local),(y4,.globalImplicit),(y5,.globalImplicit),(y6,.globalImplicit)],false,false,[]⟩
noncomputable abbrev S54(y0 y1 y2 y3 y4 y5 y6 y7 y8 y9:Str):Stmt:=(.FunctionDef y7 (A51 y0) (B52 y0 y1 y2 y3 y4 y5 y6 y8 y9) [] none [] (C53 y0 y1 y2 y3 y4 y5 y6 y8) none y7 ⟨81,0,88,62⟩)
noncomputable abbrev S55(y0 y1:Str):Stmt:=(.Assign [nm y0 89 0 8] (.Constant (.str y1) 0 (q 89 11 29)) (q 89 0 29))
noncomputable abbrev A56(y0:Str):Arguments:=⟨[],[⟨y0,none,q 92 17 21⟩],none,[],[],none,[]⟩
noncomputable abbrev B57(y0 y1:Str):(List Stmt):=[.Assign [.Attribute (nm y0 93 8 12) y1 (q 93 8 17)] (.List [] (q 93 20 22)) (q 93 8 22)]
noncomputable abbrev C58(y0:Str):Scope:=⟨.function,[(y0,.local)],false,false,[]⟩
noncomputable abbrev A59(y0 y1:Str):Arguments:=⟨[],[⟨y1,none,q 95 13 17⟩,⟨y0,none,q 95 19 22⟩],none,[],[],none,[]⟩
noncomputable abbrev B60(y0 y1 y2 y3 y4 y5 y6 y7 y8 y9 y10 y11 y12 y13:Str):(List Stmt):=[.If (.UnaryOp .Not (.Call (nm y3 96 15 20) [nm y4 96 21 24] [] (q 96 15 25)) (q 96 11 25)) [.Raise (some (.Call (nm y0 97 18 24) [.Constant (.str y6) 0 (q 97 25 33)] [] (q 97 18 34))) none (q 97 12 34)] [] ⟨96,8,97,34⟩,.If (.Compare (.Call (nm y5 98 11 14) [.Attribute (nm y10 98 15 19) y11 (q 98 15 24)] [] (q 98 11 25)) [.GtE] [nm y2 98 29 34] (q 98 11 34)) [.Raise (some (.Call (nm y1 99 18 25) [.Constant (.str y12) 0 (q 99 26 47)] [] (q 99 18 48))) none (q 99 12 48)] [] ⟨98,8,99,48⟩,.Assign [nm y13 100 8 12] (.BinOp (.Attribute (nm y10 100 15 19) y11 (q 100 15 24)) .Add (.List [nm y4 100 28 31] (q 100 27 32)) (q 100 15 32)) (q 100 8 32),.Assign [nm y7 101 8 13] (.Call (nm y8 101 16 22) [nm y13 101 23 27] [] (q 101 16 28)) (q 101 8 28),.If (.Compare (.Subscript (nm y7 102 11 16) (ci 0 102 17 18) (q 102 11 19)) [.Eq] [.Constant (.str y9) 0 (q 102 23 29)] (q 102 11 29)) [.Assign [.Attribute (nm y10 103 12 16) y11 (q 103 12 21)] (nm y13 103 24 28) (q 103 12 28),.Return (some (.Constant .none 0 (q 104 19 23))) (q 104 12 23)] [] ⟨102,8,104,23⟩,.Return (some (.Tuple [.Subscript (nm y7 105 16 21) (ci 1 105 22 23) (q 105 16 24),.Subscript (nm y7 105 26 31) (ci 2 105 32 33) (q 105 26 34),.Subscript (nm y7 105 36 41) (ci 3 105 42 43) (q 105 36 44)] 0 (q 105 15 45))) (q 105 8 45)]
noncomputable abbrev C61(y0 y1 y2 y3 y4 y5 y6 y7 y8 y9:Str):Scope:=⟨.function,[(y8,.local),(y4,.local),(y9,.local),(y6,.local),(y3,.globalImplicit),(y0,.globalImplicit),(y5,.globalImplicit),(y2,.globalImplicit),(y1,.globalImplicit),(y7,.globalImplicit)],false,false,[]⟩
noncomputable abbrev A62(y0 y1:Str):Arguments:=⟨[],[⟨y1,none,q 107 13 17⟩,⟨y0,none,q 107 19 24⟩],none,[],[],none,[]⟩
noncomputable abbrev B63(y0 y1 y2 y3 y4 y5 y6:Str):(List Stmt):=[.If (.BoolOp .Or [.Compare (nm y3 108 11 16) [.Lt] [ci 0 108 19 20] (q 108 11 20),.Compare (nm y3 108 24 29) [.GtE] [.Call (nm y2 108 33 36) [.Attribute (nm y4 108 37 41) y5 (q 108 37 46)] [] (q 108 33 47)] (q 108 24 47)] (q 108 11 47)) [.Raise (some (.Call (nm y0 109 18 28) [.Constant (.str y6) 0 (q 109 29 50)] [] (q 109 18 51))) none (q 109 12 51)] [] ⟨108,8,109,51⟩,.Assign [nm y1 110 8 11] (.Subscript (.Attribute (nm y4 110 14 18) y5 (q 110 14 23)) (nm y3 110 24 29) (q 110 14 30)) (q 110 8 30),.Assign [.Attribute (nm y4 111 8 12) y5 (q 111 8 17)] (.BinOp (.Subscript (.Attribute (nm y4 111 20 24) y5 (q 111 20 29)) (.Slice none (some (nm y3 111 31 36)) none (q 111 30 36)) (q 111 20 37)) .Add (.Subscript (.Attribute (nm y4 111 40 44) y5 (q 111 40 49)) (.Slice (some (.BinOp (nm y3 111 50 55) .Add (ci 1 111 58 59) (q 111 50 59))) none none (q 111 50 60)) (q 111 40 61)) (q 111 20 61)) (q 111 8 61),.Return (some (nm y1 112 15 18)) (q 112 8 18)]
noncomputable abbrev C64(y0 y1 y2 y3 y4:Str):Scope:=⟨.function,[(y4,.local),(y3,.local),(y1,.local),(y2,.globalImplicit),(y0,.globalImplicit)],false,false,[]⟩
noncomputable abbrev A65(y0:Str):Arguments:=⟨[],[⟨y0,none,q 114 15 19⟩],none,[],[],none,[]⟩
noncomputable abbrev B66(y0 y1 y2:Str):(List Stmt):=[.Return (some (.Call (nm y2 115 15 19) [.Attribute (nm y0 115 20 24) y1 (q 115 20 29)] [] (q 115 15 30))) (q 115 8 30)]
noncomputable abbrev C67(y0 y1:Str):Scope:=⟨.function,[(y0,.local),(y1,.globalImplicit)],false,false,[]⟩
noncomputable abbrev A68(y0:Str):Arguments:=⟨[],[⟨y0,none,q 117 13 17⟩],none,[],[],none,[]⟩
noncomputable abbrev B69(y0 y1 y2:Str):(List Stmt):=[.Return (some (.Call (nm y0 118 15 18) [.Attribute (nm y1 118 19 23) y2 (q 118 19 28)] [] (q 118 15 29))) (q 118 8 29)]
noncomputable abbrev C70(y0 y1:Str):Scope:=⟨.function,[(y1,.local),(y0,.globalImplicit)],false,false,[]⟩
noncomputable abbrev S71(y0 y1 y2 y3 y4 y5 y6 y7 y8 y9 y10 y11 y12 y13 y14 y15 y16 y17 y18 y19 y20 y21 y22 y23:Str):Stmt:=(.ClassDef y13 [] [] [.FunctionDef y14 (A56 y15) (B57 y15 y16) [] none [] (C58 y15) none y14 ⟨92,4,93,22⟩,.FunctionDef y17 (A59 y5 y15) (B60 y0 y1 y3 y4 y5 y6 y7 y10 y11 y12 y15 y16 y18 y19) [] none [] (C61 y0 y1 y3 y4 y5 y6 y10 y11 y15 y19) none y17 ⟨95,4,105,45⟩,.FunctionDef y20 (A62 y8 y15) (B63 y2 y5 y6 y8 y15 y16 y21) [] none [] (C64 y2 y5 y6 y8 y15) none y20 ⟨107,4,112,18⟩,.FunctionDef y22 (A65 y15) (B66 y15 y16 y23) [] none [] (C67 y15 y23) none y22 ⟨114,4,115,30⟩,.FunctionDef y12 (A68 y15) (B69 y9 y15 y16) [] none [] (C70 y9 y15) none y12 ⟨117,4,118,29⟩] [] [] ⟨.class,[(y14,.local),(y17,.local),(y20,.local),(y22,.local),(y12,.local)],false,false,[]⟩ none y13 [y16] ⟨90,0,118,29⟩)
noncomputable abbrev S72(y0 y1:Str):Stmt:=(.Assign [nm y0 119 0 8] (.Constant (.str y1) 0 (q 119 11 28)) (q 119 0 28))
noncomputable abbrev A73(y0:Str):Arguments:=⟨[],[⟨y0,none,q 120 15 25⟩],none,[],[],none,[]⟩
noncomputable abbrev B74(y0 y1 y2 y3:Str):(List Stmt):=[.Return (some (.BoolOp .And [.Call (nm y0 121 11 21) [nm y3 121 22 32,nm y1 121 34 37] [] (q 121 11 38),.UnaryOp .Not (.Call (nm y0 121 48 58) [nm y3 121 59 69,nm y2 121 71 75] [] (q 121 48 76)) (q 121 44 76)] (q 121 11 77))) (q 121 4 77)]
noncomputable abbrev C75(y0 y1 y2 y3:Str):Scope:=⟨.function,[(y3,.local),(y0,.globalImplicit),(y1,.globalImplicit),(y2,.globalImplicit)],false,false,[]⟩
noncomputable abbrev S76(y0 y1 y2 y3 y4:Str):Stmt:=(.FunctionDef y3 (A73 y4) (B74 y0 y1 y2 y4) [] none [] (C75 y0 y1 y2 y4) none y3 ⟨120,0,121,77⟩)
noncomputable abbrev A77(y0 y1:Str):Arguments:=⟨[],[⟨y0,none,q 122 17 28⟩,⟨y1,none,q 122 30 36⟩],none,[],[],none,[]⟩
noncomputable abbrev B78(y0 y1 y2:Str):(List Stmt):=[.If (.Compare (nm y2 123 7 13) [.Lt] [.Call (nm y0 123 16 19) [nm y1 123 20 31] [] (q 123 16 32)] (q 123 7 32)) [.Return (some (.Subscript (nm y1 124 15 26) (nm y2 124 27 33) (q 124 15 34))) (q 124 8 34)] [] ⟨123,4,124,34⟩,.Return (some (ci 0 125 11 12)) (q 125 4 12)]
noncomputable abbrev C79(y0 y1 y2:Str):Scope:=⟨.function,[(y1,.local),(y2,.local),(y0,.globalImplicit)],false,false,[]⟩
noncomputable abbrev S80(y0 y1 y2 y3:Str):Stmt:=(.FunctionDef y1 (A77 y2 y3) (B78 y0 y2 y3) [] none [] (C79 y0 y2 y3) none y1 ⟨122,0,125,12⟩)
noncomputable abbrev A81(y0 y1 y2:Str):Arguments:=⟨[],[⟨y0,none,q 126 14 23⟩,⟨y1,none,q 126 25 35⟩,⟨y2,none,q 126 37 45⟩],none,[],[],none,[]⟩
noncomputable abbrev B82(y0 y1 y2 y3 y4 y5:Str):(List Stmt):=[.Return (some (.Call (nm y1 127 11 14) [.ListComp (.Subscript (nm y5 127 16 24) (ci 1 127 25 26) (q 127 16 27)) [⟨nm y5 127 32 40,nm y2 127 44 53,[.BoolOp .And [.Compare (.Subscript (nm y5 127 57 65) (ci 0 127 66 67) (q 127 57 68)) [.GtE] [nm y3 127 72 82] (q 127 57 82),.Compare (.Subscript (nm y5 127 87 95) (ci 2 127 96 97) (q 127 87 98)) [.LtE] [nm y4 127 102 110] (q 127 87 110)] (q 127 57 110)],0⟩] ⟨.function,[(y0,.local),(y5,.local),(y3,.free),(y4,.free)],false,false,[]⟩ (q 127 15 111)] [] (q 127 11 112))) (q 127 4 112)]
noncomputable abbrev C83(y0 y1 y2 y3 y4 y5:Str):Scope:=⟨.function,[(y2,.local),(y3,.cell),(y4,.cell),(y1,.globalImplicit)],false,false,[(y0,(.str y2)),(y0,(.str y3)),(y0,(.str y4)),(y0,(.str y5))]⟩
noncomputable abbrev S84(y0 y1 y2 y3 y4 y5 y6 y7:Str):Stmt:=(.FunctionDef y3 (A81 y4 y5 y6) (B82 y0 y2 y4 y5 y6 y7) [] none [] (C83 y1 y2 y4 y5 y6 y7) none y3 ⟨126,0,127,112⟩)
noncomputable abbrev A85(y0:Str):Arguments:=⟨[],[⟨y0,none,q 128 16 26⟩],none,[],[],none,[]⟩
noncomputable abbrev B86(y0 y1 y2 y3 y4:Str):(List Stmt):=[.If (.BoolOp .Or [.UnaryOp .Not (.Call (nm y0 129 11 21) [nm y4 129 22 32,nm y1 129 34 39] [] (q 129 11 40)) (q 129 7 40),.Compare (.Call (nm y2 129 44 47) [nm y4 129 48 58] [] (q 129 44 59)) [.NotEq] [ci 3 129 63 64] (q 129 44 64)] (q 129 7 64)) [.Return (some (.Constant (.bool false) 0 (q 130 15 20))) (q 130 8 20)] [] ⟨129,4,130,20⟩,.Return (some (.BoolOp .And [.Call (nm y3 131 11 21) [.Subscript (nm y4 131 22 32) (ci 0 131 33 34) (q 131 22 35)] [] (q 131 11 36),.Call (nm y3 131 41 51) [.Subscript (nm y4 131 52 62) (ci 1 131 63 64) (q 131 52 65)] [] (q 131 41 66),.Call (nm y3 131 71 81) [.Subscript (nm y4 131 82 92) (ci 2 131 93 94) (q 131 82 95)] [] (q 131 71 96)] (q 131 11 96))) (q 131 4 96)]
noncomputable abbrev C87(y0 y1 y2 y3 y4:Str):Scope:=⟨.function,[(y4,.local),(y0,.globalImplicit),(y1,.globalImplicit),(y2,.globalImplicit),(y3,.globalImplicit)],false,false,[]⟩
noncomputable abbrev S88(y0 y1 y2 y3 y4 y5:Str):Stmt:=(.FunctionDef y4 (A85 y5) (B86 y0 y1 y2 y3 y5) [] none [] (C87 y0 y1 y2 y3 y5) none y4 ⟨128,0,131,96⟩)
noncomputable abbrev A89(y0 y1:Str):Arguments:=⟨[],[⟨y0,none,q 132 15 24⟩,⟨y1,none,q 132 26 37⟩],none,[],[],none,[]⟩
noncomputable abbrev B90(y0 y1 y2 y3 y4 y5 y6 y7 y8 y9 y10:Str):(List Stmt):=[.Assign [nm y9 133 4 13] (.ListComp (.Subscript (nm y5 133 17 25) (ci 1 133 26 27) (q 133 17 28)) [⟨nm y5 133 33 41,nm y4 133 45 54,[],0⟩] ⟨.function,[(y2,.local),(y5,.local)],false,false,[]⟩ (q 133 16 55)) (q 133 4 55),.Assign [nm y10 134 4 12] (ci 0 134 15 16) (q 134 4 16),.If (.UnaryOp .Not (.Call (nm y0 135 11 21) [nm y8 135 22 33,nm y3 135 35 39] [] (q 135 11 40)) (q 135 7 40)) [.Return (some (.Constant (.bool false) 0 (q 136 15 20))) (q 136 8 20)] [] ⟨135,4,136,20⟩,.For (nm y7 137 8 18) (nm y8 137 22 33) [.If (.BoolOp .Or [.UnaryOp .Not (.Call (nm y6 138 15 26) [nm y7 138 27 37] [] (q 138 15 38)) (q 138 11 38),.UnaryOp .Not (.Compare (ci 0 138 46 47) [.LtE,.Lt] [.Subscript (nm y7 138 51 61) (ci 0 138 62 63) (q 138 51 64),.Call (nm y1 138 67 70) [nm y4 138 71 80] [] (q 138 67 81)] (q 138 46 81)) (q 138 42 81),.UnaryOp .Not (.Compare (nm y10 138 90 98) [.LtE,.Lt] [.Subscript (nm y7 138 102 112) (ci 1 138 113 114) (q 138 102 115),.Subscript (nm y7 138 118 128) (ci 2 138 129 130) (q 138 118 131)] (q 138 90 131)) (q 138 86 131)] (q 138 11 132)) [.Return (some (.Constant (.bool false) 0 (q 139 19 24))) (q 139 12 24)] [] ⟨138,8,139,24⟩,.If (.BoolOp .Or [.Compare (.Subscript (nm y7 140 11 21) (ci 1 140 22 23) (q 140 11 24)) [.Lt] [.Subscript (.Subscript (nm y4 140 27 36) (.Subscript (nm y7 140 37 47) (ci 0 140 48 49) (q 140 37 50)) (q 140 27 51)) (ci 0 140 52 53) (q 140 27 54)] (q 140 11 54),.Compare (.Subscript (nm y7 140 58 68) (ci 2 140 69 70) (q 140 58 71)) [.Gt] [.Subscript (.Subscript (nm y4 140 74 83) (.Subscript (nm y7 140 84 94) (ci 0 140 95 96) (q 140 84 97)) (q 140 74 98)) (ci 2 140 99 100) (q 140 74 101)] (q 140 58 101)] (q 140 11 101)) [.Return (some (.Constant (.bool false) 0 (q 141 19 24))) (q 141 12 24)] [] ⟨140,8,141,24⟩,.Assign [.Subscript (nm y9 142 8 17) (.Subscript (nm y7 142 18 28) (ci 0 142 29 30) (q 142 18 31)) (q 142 8 32)] (.BinOp (.Subscript (nm y9 142 35 44) (.Subscript (nm y7 142 45 55) (ci 0 142 56 57) (q 142 45 58)) (q 142 35 59)) .Sub (.BinOp (.Subscript (nm y7 142 63 73) (ci 2 142 74 75) (q 142 63 76)) .Sub (.Subscript (nm y7 142 79 89) (ci 1 142 90 91) (q 142 79 92)) (q 142 63 92)) (q 142 35 93)) (q 142 8 93),.Assign [nm y10 143 8 16] (.Subscript (nm y7 143 19 29) (ci 2 143 30 31) (q 143 19 32)) (q 143 8 32)] [] ⟨137,4,143,32⟩,.Return (some (.Compare (nm y9 144 11 20) [.Eq] [.BinOp (.List [ci 0 144 25 26] (q 144 24 27)) .Mult (.Call (nm y1 144 30 33) [nm y4 144 34 43] [] (q 144 30 44)) (q 144 24 44)] (q 144 11 44))) (q 144 4 44)]
noncomputable abbrev C91(y0 y1 y2 y3 y4 y5 y6 y7 y8 y9 y10:Str):Scope:=⟨.function,[(y4,.local),(y8,.local),(y9,.local),(y10,.local),(y7,.local),(y0,.globalImplicit),(y3,.globalImplicit),(y6,.globalImplicit),(y1,.globalImplicit)],false,false,[(y2,(.str y4)),(y2,(.str y8)),(y2,(.str y5)),(y2,(.str y9)),(y2,(.str y10)),(y2,(.str y7))]⟩
noncomputable abbrev S92(y0 y1 y2 y3 y4 y5 y6 y7 y8 y9 y10 y11 y12:Str):Stmt:=(.FunctionDef y9 (A89 y5 y10) (B90 y0 y1 y2 y4 y5 y6 y7 y8 y10 y11 y12) [] none [] (C91 y0 y1 y3 y4 y5 y6 y7 y8 y10 y11 y12) none y9 ⟨132,0,144,44⟩)
noncomputable abbrev A93(y0 y1 y2 y3:Str):Arguments:=⟨[],[⟨y0,none,q 145 17 26⟩,⟨y3,none,q 145 28 38⟩,⟨y1,none,q 145 40 50⟩,⟨y2,none,q 145 52 60⟩],none,[],[],none,[]⟩
noncomputable abbrev B94(y0 y1 y2 y3 y4 y5 y6:Str):(List Stmt):=[.If (.BoolOp .Or [.UnaryOp .Not (.Call (nm y1 146 11 21) [nm y6 146 22 32] [] (q 146 11 33)) (q 146 7 33),.UnaryOp .Not (.Call (nm y1 146 41 51) [nm y4 146 52 62] [] (q 146 41 63)) (q 146 37 63),.UnaryOp .Not (.Call (nm y1 146 72 82) [nm y5 146 83 91] [] (q 146 72 92)) (q 146 68 92)] (q 146 7 93)) [.Return (some (.Constant (.bool false) 0 (q 147 15 20))) (q 147 8 20)] [] ⟨146,4,147,20⟩,.If (.BoolOp .Or [.UnaryOp .Not (.Compare (ci 0 148 11 12) [.LtE,.Lt] [nm y6 148 16 26,.Call (nm y0 148 29 32) [nm y3 148 33 42] [] (q 148 29 43)] (q 148 11 43)) (q 148 7 43),.UnaryOp .Not (.Compare (ci 0 148 51 52) [.LtE,.LtE] [nm y4 148 56 66,.Subscript (.Subscript (nm y3 148 70 79) (nm y6 148 80 90) (q 148 70 91)) (ci 0 148 92 93) (q 148 70 94)] (q 148 51 94)) (q 148 47 94),.Compare (nm y5 148 98 106) [.NotEq] [.Subscript (.Subscript (nm y3 148 110 119) (nm y6 148 120 130) (q 148 110 131)) (ci 2 148 132 133) (q 148 110 134)] (q 148 98 134)] (q 148 7 134)) [.Return (some (.Constant (.bool false) 0 (q 149 15 20))) (q 149 8 20)] [] ⟨148,4,149,20⟩,.Return (some (.Compare (.Call (nm y2 150 11 20) [nm y3 150 21 30,nm y4 150 32 42,nm y5 150 44 52] [] (q 150 11 53)) [.Gt] [.BinOp (nm y5 150 56 64) .Sub (nm y4 150 67 77) (q 150 56 77)] (q 150 11 77))) (q 150 4 77)]
noncomputable abbrev C95(y0 y1 y2 y3 y4 y5 y6:Str):Scope:=⟨.function,[(y3,.local),(y6,.local),(y4,.local),(y5,.local),(y1,.globalImplicit),(y0,.globalImplicit),(y2,.globalImplicit)],false,false,[]⟩
noncomputable abbrev S96(y0 y1 y2 y3 y4 y5 y6 y7:Str):Stmt:=(.FunctionDef y6 (A93 y3 y4 y5 y7) (B94 y0 y1 y2 y3 y4 y5 y7) [] none [] (C95 y0 y1 y2 y3 y4 y5 y7) none y6 ⟨145,0,150,77⟩)
noncomputable abbrev A97(y0 y1:Str):Arguments:=⟨[],[⟨y1,none,q 151 15 24⟩,⟨y0,none,q 151 26 36⟩],none,[],[],none,[]⟩
noncomputable abbrev B98(y0 y1 y2 y3 y4 y5 y6 y7 y8 y9:Str):(List Stmt):=[.If (.BoolOp .Or [.UnaryOp .Not (.Call (nm y0 152 11 21) [nm y5 152 22 32,nm y1 152 34 39] [] (q 152 11 40)) (q 152 7 40),.Compare (.Call (nm y2 152 44 47) [nm y5 152 48 58] [] (q 152 44 59)) [.Lt] [ci 2 152 62 63] (q 152 44 63),.UnaryOp .Not (.Call (nm y0 152 72 82) [.Subscript (nm y5 152 83 93) (ci 0 152 94 95) (q 152 83 96),nm y9 152 98 101] [] (q 152 72 102)) (q 152 68 102)] (q 152 7 103)) [.Return (some (.Constant (.bool false) 0 (q 153 15 20))) (q 153 8 20)] [] ⟨152,4,153,20⟩,.If (.BoolOp .And [.Compare (.Subscript (nm y5 154 7 17) (ci 0 154 18 19) (q 154 7 20)) [.Eq] [.Constant (.str y4) 0 (q 154 24 30)] (q 154 7 30),.Compare (.Call (nm y2 154 35 38) [nm y5 154 39 49] [] (q 154 35 50)) [.Eq] [ci 2 154 54 55] (q 154 35 55)] (q 154 7 55)) [.Return (some (.Call (nm y7 155 15 25) [nm y6 155 26 35,.Subscript (nm y5 155 37 47) (ci 1 155 48 49) (q 155 37 50)] [] (q 155 15 51))) (q 155 8 51)] [] ⟨154,4,155,51⟩,.Return (some (.BoolOp .And [.Compare (.Subscript (nm y5 156 11 21) (ci 0 156 22 23) (q 156 11 24)) [.Eq] [.Constant (.str y3) 0 (q 156 28 34)] (q 156 11 34),.Compare (.Call (nm y2 156 39 42) [nm y5 156 43 53] [] (q 156 39 54)) [.Eq] [ci 4 156 58 59] (q 156 39 59),.Call (nm y8 156 64 76) [nm y6 156 77 86,.Subscript (nm y5 156 88 98) (ci 1 156 99 100) (q 156 88 101),.Subscript (nm y5 156 103 113) (ci 2 156 114 115) (q 156 103 116),.Subscript (nm y5 156 118 128) (ci 3 156 129 130) (q 156 118 131)] [] (q 156 64 132)] (q 156 11 132))) (q 156 4 132)]
noncomputable abbrev C99(y0 y1 y2 y3 y4 y5 y6 y7:Str):Scope:=⟨.function,[(y4,.local),(y3,.local),(y0,.globalImplicit),(y1,.globalImplicit),(y2,.globalImplicit),(y7,.globalImplicit),(y5,.globalImplicit),(y6,.globalImplicit)],false,false,[]⟩
noncomputable abbrev S100(y0 y1 y2 y3 y4 y5 y6 y7 y8 y9 y10:Str):Stmt:=(.FunctionDef y9 (A97 y5 y6) (B98 y0 y1 y2 y3 y4 y5 y6 y7 y8 y10) [] none [] (C99 y0 y1 y2 y5 y6 y7 y8 y10) none y9 ⟨151,0,156,132⟩)
noncomputable abbrev A101(y0 y1 y2 y3:Str):Arguments:=⟨[],[⟨y0,none,q 157 14 23⟩,⟨y1,none,q 157 25 34⟩,⟨y2,none,q 157 36 45⟩,⟨y3,none,q 157 47 56⟩],none,[],[],none,[]⟩
noncomputable abbrev B102(y0 y1 y2 y3 y4 y5 y6 y7 y8 y9 y10 y11 y12 y13 y14 y15 y16 y17:Str):(List Stmt):=[.If (.Compare (.BinOp (nm y13 158 7 16) .Mod (ci 9 158 19 20) (q 158 7 20)) [.Eq] [ci 7 158 24 25] (q 158 7 25)) [.Try [.Expr (.Call (.Attribute (nm y11 160 12 21) y7 (q 160 12 26)) [.Subscript (.List [.Tuple [ci 0 160 29 30,ci 0 160 32 33,ci 4 160 35 36] 0 (q 160 28 37),.Tuple [ci 3 160 40 41,ci 1 160 43 44,ci 3 160 46 47] 0 (q 160 39 48),.Tuple [ci 2 160 51 52,ci 1 160 54 55] 0 (q 160 50 56),.Tuple [.Constant (.bool true) 0 (q 160 59 63),ci 1 160 65 66,ci 5 160 68 69] 0 (q 160 58 70),.List [ci 0 160 73 74,ci 1 160 76 77,ci 40 160 79 81] (q 160 72 82),.Constant .none 0 (q 160 84 88)] (q 160 27 89)) (.BinOp (.BinOp (nm y13 160 90 99) .FloorDiv (ci 9 160 103 104) (q 160 90 104)) .Mod (ci 6 160 107 108) (q 160 90 108)) (q 160 27 109)] [] (q 160 12 110)) (q 160 12 110)] [.ExceptHandler (some (nm y1 161 15 21)) none [.Return (some (nm y12 162 19 28)) (q 162 12 28)] ⟨161,8,162,28⟩] [] [] ⟨159,8,162,28⟩,.Return (some (.Constant .none 0 (q 163 15 19))) (q 163 8 19)] [] ⟨158,4,163,19⟩,.If (.Compare (.BinOp (nm y13 164 7 16) .Mod (ci 9 164 19 20) (q 164 7 20)) [.Gt] [ci 5 164 23 24] (q 164 7 24)) [.Assign [nm y10 165 8 18] (.BinOp (.BinOp (.BinOp (.BinOp (nm y13 165 21 30) .FloorDiv (ci 9 165 34 35) (q 165 21 35)) .Mod (.BinOp (.BinOp (ci 2 165 39 40) .Mult (.Call (nm y6 165 43 46) [nm y12 165 47 56] [] (q 165 43 57)) (q 165 39 57)) .Add (ci 5 165 60 61) (q 165 39 61)) (q 165 21 62)) .Sub (.Call (nm y6 165 65 68) [nm y12 165 69 78] [] (q 165 65 79)) (q 165 21 79)) .Sub (ci 2 165 82 83) (q 165 21 83)) (q 165 8 83),.If (.Compare (.BinOp (.BinOp (nm y13 166 11 20) .FloorDiv (ci 9 166 24 25) (q 166 11 25)) .Mod (ci 11 166 28 30) (q 166 11 30)) [.Eq] [ci 3 166 34 35] (q 166 11 35)) [.Assign [nm y10 167 12 22] (.BinOp (nm y10 167 25 35) .Mult (.BinOp (ci 10 167 38 40) .Pow (ci 30 167 44 46) (q 167 38 46)) (q 167 25 46)) (q 167 12 46)] [] ⟨166,8,167,46⟩,.Try [.Assign [nm y9 169 12 20] (.Call (.Attribute (nm y11 169 23 32) y8 (q 169 23 37)) [nm y10 169 38 48] [] (q 169 23 49)) (q 169 12 49)] [.ExceptHandler (some (nm y0 170 15 23)) (some y15) [.If (.BoolOp .Or [.UnaryOp .Not (.Call (nm y5 171 19 29) [nm y15 171 30 31,nm y3 171 33 43] [] (q 171 19 44)) (q 171 15 44),.Call (nm y5 171 48 58) [nm y15 171 59 60,.Tuple [nm y1 171 63 69,nm y4 171 71 76,nm y2 171 78 85] 0 (q 171 62 86)] [] (q 171 48 87)] (q 171 15 87)) [.Return (some (.Constant .none 0 (q 172 23 27))) (q 172 16 27)] [] ⟨171,12,172,27⟩,.Return (some (.IfExp (.Compare (ci 0 173 27 28) [.LtE,.Lt] [nm y10 173 32 42,.Call (nm y6 173 45 48) [nm y12 173 49 58] [] (q 173 45 59)] (q 173 27 59)) (.Constant .none 0 (q 173 19 23)) (nm y12 173 65 74) (q 173 19 74))) (q 173 12 74)] ⟨170,8,173,74⟩] [] [] ⟨168,8,173,74⟩,.If (.BoolOp .Or [.UnaryOp .Not (.Compare (ci 0 174 15 16) [.LtE,.Lt] [nm y10 174 20 30,.Call (nm y6 174 33 36) [nm y12 174 37 46] [] (q 174 33 47)] (q 174 15 47)) (q 174 11 47),.Compare (nm y9 174 51 59) [.NotEq] [.Subscript (nm y12 174 63 72) (nm y10 174 73 83) (q 174 63 84)] (q 174 51 84)] (q 174 11 84)) [.Return (some (.Constant .none 0 (q 175 19 23))) (q 175 12 23)] [] ⟨174,8,175,23⟩,.Return (some (.BinOp (.Subscript (nm y12 176 15 24) (.Slice none (some (nm y10 176 26 36)) none (q 176 25 36)) (q 176 15 37)) .Add (.Subscript (nm y12 176 40 49) (.Slice (some (.BinOp (nm y10 176 50 60) .Add (ci 1 176 63 64) (q 176 50 64))) none none (q 176 50 65)) (q 176 40 66)) (q 176 15 66))) (q 176 8 66)] [] ⟨164,4,176,66⟩,.Assign [nm y16 177 4 13] (.BinOp (.BinOp (.BinOp (nm y13 177 16 25) .FloorDiv (ci 9 177 29 30) (q 177 16 30)) .Mod (ci 30 177 33 35) (q 177 16 35)) .Mult (nm y14 177 38 47) (q 177 16 47)) (q 177 4 47),.Return (some (.Call (nm y17 178 11 21) [nm y11 178 22 31,nm y12 178 33 42,.Tuple [nm y16 178 45 54,.BinOp (.BinOp (ci 1 178 57 58) .Add (.BinOp (.BinOp (nm y13 178 61 70) .FloorDiv (ci 270 178 74 77) (q 178 61 77)) .Mod (ci 5 178 80 81) (q 178 61 81)) (q 178 57 81)) .Mult (nm y14 178 85 94) (q 178 56 94),.BinOp (nm y16 178 96 105) .Add (.BinOp (.BinOp (ci 1 178 109 110) .Add (.BinOp (.BinOp (nm y13 178 113 122) .FloorDiv (ci 1350 178 126 130) (q 178 113 130)) .Mod (ci 24 178 133 135) (q 178 113 135)) (q 178 109 135)) .Mult (nm y14 178 139 148) (q 178 108 148)) (q 178 96 148)] 0 (q 178 44 149)] [] (q 178 11 150))) (q 178 4 150)]
noncomputable abbrev C103(y0 y1 y2 y3 y4 y5 y6 y7 y8 y9 y10 y11 y12 y13 y14 y15:Str):Scope:=⟨.function,[(y9,.local),(y10,.local),(y11,.local),(y12,.local),(y8,.local),(y7,.local),(y13,.local),(y14,.local),(y1,.globalImplicit),(y6,.globalImplicit),(y0,.globalImplicit),(y5,.globalImplicit),(y3,.globalImplicit),(y4,.globalImplicit),(y2,.globalImplicit),(y15,.globalImplicit)],false,false,[]⟩
noncomputable abbrev S104(y0 y1 y2 y3 y4 y5 y6 y7 y8 y9 y10 y11 y12 y13 y14 y15 y16 y17 y18:Str):Stmt:=(.FunctionDef y11 (A101 y12 y13 y14 y15) (B102 y0 y1 y2 y3 y4 y5 y6 y7 y8 y9 y10 y12 y13 y14 y15 y16 y17 y18) [] none [] (C103 y0 y1 y2 y3 y4 y5 y6 y9 y10 y12 y13 y14 y15 y16 y17 y18) none y11 ⟨157,0,178,150⟩)
noncomputable abbrev A105(y0 y1 y2:Str):Arguments:=⟨[],[⟨y1,none,q 179 15 24⟩,⟨y2,none,q 179 26 35⟩,⟨y0,none,q 179 37 45⟩],none,[],[],none,[]⟩
noncomputable abbrev B106(y0 y1 y2 y3 y4 y5 y6 y7 y8 y9 y10:Str):(List Stmt):=[.Assign [nm y6 180 4 14] (.Call (.Attribute (nm y9 180 17 26) y5 (q 180 17 31)) [nm y7 180 32 40] [] (q 180 17 41)) (q 180 4 41),.If (.Compare (nm y6 181 7 17) [.Is] [.Constant .none 0 (q 181 21 25)] (q 181 7 25)) [.Return (some (.BinOp (nm y10 182 15 24) .Add (.List [nm y7 182 28 36] (q 182 27 37)) (q 182 15 37))) (q 182 8 37)] [] ⟨181,4,182,37⟩,.If (.BoolOp .Or [.UnaryOp .Not (.Call (nm y0 183 11 21) [nm y6 183 22 32,nm y1 183 34 39] [] (q 183 11 40)) (q 183 7 40),.Compare (.Call (nm y2 183 44 47) [nm y6 183 48 58] [] (q 183 44 59)) [.NotEq] [ci 3 183 63 64] (q 183 44 64)] (q 183 7 64)) [.Return (some (.Constant .none 0 (q 184 15 19))) (q 184 8 19)] [] ⟨183,4,184,19⟩,.If (.Compare (.Call (nm y4 185 7 13) [.BinOp (nm y10 185 14 23) .Add (.List [nm y7 185 27 35] (q 185 26 36)) (q 185 14 36)] [] (q 185 7 37)) [.NotEq] [.Tuple [.Constant (.str y3) 0 (q 185 42 48),.Subscript (nm y6 185 50 60) (ci 0 185 61 62) (q 185 50 63),.Subscript (nm y6 185 65 75) (ci 1 185 76 77) (q 185 65 78),.Subscript (nm y6 185 80 90) (ci 2 185 91 92) (q 185 80 93)] 0 (q 185 41 94)] (q 185 7 94)) [.Return (some (.Constant .none 0 (q 186 15 19))) (q 186 8 19)] [] ⟨185,4,186,19⟩,.Return (some (.IfExp (.Call (nm y8 187 24 36) [.BinOp (nm y10 187 37 46) .Add (.List [nm y7 187 50 58] (q 187 49 59)) (q 187 37 59),.Subscript (nm y6 187 61 71) (ci 0 187 72 73) (q 187 61 74),.Subscript (nm y6 187 76 86) (ci 1 187 87 88) (q 187 76 89),.Subscript (nm y6 187 91 101) (ci 2 187 102 103) (q 187 91 104)] [] (q 187 24 105)) (nm y10 187 11 20) (.Constant .none 0 (q 187 111 115)) (q 187 11 115))) (q 187 4 115)]
noncomputable abbrev C107(y0 y1 y2 y3 y4 y5 y6 y7 y8:Str):Scope:=⟨.function,[(y7,.local),(y8,.local),(y5,.local),(y4,.local),(y0,.globalImplicit),(y1,.globalImplicit),(y2,.globalImplicit),(y3,.globalImplicit),(y6,.globalImplicit)],false,false,[]⟩
noncomputable abbrev S108(y0 y1 y2 y3 y4 y5 y6 y7 y8 y9 y10 y11:Str):Stmt:=(.FunctionDef y11 (A105 y7 y9 y10) (B106 y0 y1 y2 y3 y4 y5 y6 y7 y8 y9 y10) [] none [] (C107 y0 y1 y2 y4 y6 y7 y8 y9 y10) none y11 ⟨179,0,187,115⟩)
noncomputable abbrev A109(y0 y1:Str):Arguments:=⟨[],[⟨y1,none,q 188 14 23⟩,⟨y0,none,q 188 25 35⟩],none,[],[],none,[]⟩
noncomputable abbrev B110(y0 y1 y2 y3 y4 y5 y6 y7 y8 y9 y10 y11 y12 y13 y14 y15 y16 y17 y18 y19 y20:Str):(List Stmt):=[.For (nm y12 189 8 14) (.Call (nm y4 189 18 23) [ci 60 189 24 26] [] (q 189 18 27)) [.If (.Compare (.Call (.Attribute (nm y16 190 11 20) y8 (q 190 11 25)) [.Tuple [nm y12 190 27 33,ci 1 190 35 36,ci 61 190 38 40] 0 (q 190 26 41)] [] (q 190 11 42)) [.IsNot] [.Constant .none 0 (q 190 50 54)] (q 190 11 54)) [.Return (some (.Constant (.bool false) 0 (q 191 19 24))) (q 191 12 24)] [] ⟨190,8,191,24⟩] [] ⟨189,4,191,24⟩,.Assign [nm y11 192 4 14] (.Constant (.str y18) 0 (q 192 17 19)) (q 192 4 19),.For (nm y14 193 8 16) (.List [.Tuple [ci 0 193 22 23,ci 1 193 25 26,ci 900 193 28 31] 0 (q 193 21 32),.Tuple [ci 0 193 35 36,ci 3 193 38 39,ci 61 193 41 43] 0 (q 193 34 44),.Tuple [ci 0 193 47 48,ci 1 193 50 51,ci 0 193 53 54] 0 (q 193 46 55)] (q 193 20 56)) [.Try [.Expr (.Call (.Attribute (nm y16 195 12 21) y8 (q 195 12 26)) [nm y14 195 27 35] [] (q 195 12 36)) (q 195 12 36)] [.ExceptHandler (some (nm y1 196 15 22)) none [.Assign [nm y11 197 12 22] (.BinOp (nm y11 197 25 35) .Add (.Constant (.str y19) 0 (q 197 38 45)) (q 197 25 45)) (q 197 12 45)] ⟨196,8,197,45⟩,.ExceptHandler (some (nm y0 198 15 21)) none [.Assign [nm y11 199 12 22] (.BinOp (nm y11 199 25 35) .Add (.Constant (.str y2) 0 (q 199 38 43)) (q 199 25 43)) (q 199 12 43)] ⟨198,8,199,43⟩] [] [] ⟨194,8,199,43⟩] [] ⟨193,4,199,43⟩,.Assign [nm y13 200 4 13] (.ListComp (.Tuple [nm y12 200 18 24,ci 1 200 26 27,ci 61 200 29 31] 0 (q 200 17 32)) [⟨nm y12 200 37 43,.Call (nm y4 200 47 52) [ci 60 200 53 55] [] (q 200 47 56),[],0⟩] ⟨.function,[(y5,.local),(y12,.local)],false,false,[]⟩ (q 200 16 57)) (q 200 4 57),.If (.BoolOp .Or [.Compare (nm y11 201 7 17) [.NotEq] [.Constant (.str y20) 0 (q 201 21 36)] (q 201 7 36),.Compare (.Call (.Attribute (nm y16 201 40 49) y10 (q 201 40 56)) [] [] (q 201 40 58)) [.NotEq] [nm y13 201 62 71] (q 201 40 71),.Compare (.Call (.Attribute (nm y16 201 75 84) y9 (q 201 75 89)) [nm y15 201 90 100] [] (q 201 75 101)) [.NotEq] [.Subscript (nm y13 201 105 114) (nm y15 201 115 125) (q 201 105 126)] (q 201 75 126)] (q 201 7 126)) [.Return (some (.Constant (.bool false) 0 (q 202 15 20))) (q 202 8 20)] [] ⟨201,4,202,20⟩,.Assign [nm y13 203 4 13] (.BinOp (.Subscript (nm y13 203 16 25) (.Slice none (some (nm y15 203 27 37)) none (q 203 26 37)) (q 203 16 38)) .Add (.Subscript (nm y13 203 41 50) (.Slice (some (.BinOp (nm y15 203 51 61) .Add (ci 1 203 64 65) (q 203 51 65))) none none (q 203 51 66)) (q 203 41 67)) (q 203 16 67)) (q 203 4 67),.If (.BoolOp .Or [.Compare (.Call (nm y17 204 7 17) [nm y16 204 18 27,nm y13 204 29 38,.Tuple [ci 0 204 41 42,ci 3 204 44 45,ci 61 204 47 49] 0 (q 204 40 50)] [] (q 204 7 51)) [.NotEq] [nm y13 204 55 64] (q 204 7 64),.Compare (.Call (.Attribute (nm y16 204 68 77) y8 (q 204 68 82)) [.Tuple [ci 0 204 84 85,ci 1 204 87 88,ci 900 204 90 93] 0 (q 204 83 94)] [] (q 204 68 95)) [.IsNot] [.Constant .none 0 (q 204 103 107)] (q 204 68 107)] (q 204 7 107)) [.Return (some (.Constant (.bool false) 0 (q 205 15 20))) (q 205 8 20)] [] ⟨204,4,205,20⟩,.Try [.Expr (.Call (.Attribute (nm y16 207 8 17) y8 (q 207 8 22)) [.Tuple [ci 0 207 24 25,ci 1 207 27 28,ci 900 207 30 33] 0 (q 207 23 34)] [] (q 207 8 35)) (q 207 8 35)] [.ExceptHandler (some (nm y1 208 11 18)) none [.Assign [nm y13 209 8 17] (.BinOp (nm y13 209 20 29) .Add (.List [.Tuple [ci 0 209 34 35,ci 1 209 37 38,ci 900 209 40 43] 0 (q 209 33 44)] (q 209 32 45)) (q 209 20 45)) (q 209 8 45)] ⟨208,4,209,45⟩] [] [] ⟨206,4,209,45⟩,.If (.BoolOp .Or [.Compare (.Call (nm y3 210 7 10) [nm y13 210 11 20] [] (q 210 7 21)) [.Lt] [ci 60 210 24 26] (q 210 7 26),.Compare (.Call (.Attribute (nm y16 210 30 39) y10 (q 210 30 46)) [] [] (q 210 30 48)) [.NotEq] [nm y13 210 52 61] (q 210 30 61),.Compare (.Call (.Attribute (nm y16 210 65 74) y7 (q 210 65 79)) [] [] (q 210 65 81)) [.NotEq] [.Call (nm y6 210 85 88) [nm y13 210 89 98] [] (q 210 85 99)] (q 210 65 99)] (q 210 7 99)) [.Return (some (.Constant (.bool false) 0 (q 211 15 20))) (q 211 8 20)] [] ⟨210,4,211,20⟩,.Expr (.Call (.Attribute (nm y16 212 4 13) y9 (q 212 4 18)) [ci 0 212 19 20] [] (q 212 4 21)) (q 212 4 21),.Expr (.Call (.Attribute (nm y16 213 4 13) y9 (q 213 4 18)) [ci 0 213 19 20] [] (q 213 4 21)) (q 213 4 21),.Return (some (.BoolOp .And [.Compare (.Call (.Attribute (nm y16 214 11 20) y8 (q 214 11 25)) [.Tuple [ci 0 214 27 28,ci 3 214 30 31,ci 61 214 33 35] 0 (q 214 26 36)] [] (q 214 11 37)) [.Is] [.Constant .none 0 (q 214 41 45)] (q 214 11 45),.Compare (.Call (.Attribute (nm y16 214 50 59) y10 (q 214 50 66)) [] [] (q 214 50 68)) [.Eq] [.BinOp (.Subscript (nm y13 214 72 81) (.Slice (some (ci 2 214 82 83)) none none (q 214 82 84)) (q 214 72 85)) .Add (.List [.Tuple [ci 0 214 90 91,ci 3 214 93 94,ci 61 214 96 98] 0 (q 214 89 99)] (q 214 88 100)) (q 214 72 100)] (q 214 50 100)] (q 214 11 100))) (q 214 4 100)]
noncomputable abbrev C111(y0 y1 y2 y3 y4 y5 y6 y7 y8 y9 y10 y11 y12:Str):Scope:=⟨.function,[(y11,.local),(y10,.local),(y7,.local),(y6,.local),(y9,.local),(y8,.local),(y3,.globalImplicit),(y1,.globalImplicit),(y0,.globalImplicit),(y12,.globalImplicit),(y2,.globalImplicit),(y5,.globalImplicit)],false,false,[(y4,(.str y11)),(y4,(.str y10)),(y4,(.str y7)),(y4,(.str y6)),(y4,(.str y9)),(y4,(.str y8))]⟩
noncomputable abbrev S112(y0 y1 y2 y3 y4 y5 y6 y7 y8 y9 y10 y11 y12 y13 y14 y15 y16 y17 y18 y19 y20 y21 y22:Str):Stmt:=(.FunctionDef y19 (A109 y16 y17) (B110 y0 y1 y2 y3 y4 y5 y7 y8 y9 y10 y11 y12 y13 y14 y15 y16 y17 y18 y20 y21 y22) [] none [] (C111 y0 y1 y3 y4 y6 y7 y12 y13 y14 y15 y16 y17 y18) none y19 ⟨188,0,214,100⟩)
noncomputable abbrev A113(y0 y1 y2:Str):Arguments:=⟨[],[⟨y0,none,q 215 14 23⟩,⟨y1,none,q 215 25 34⟩,⟨y2,none,q 215 36 46⟩],none,[],[],none,[]⟩
noncomputable abbrev B114(y0 y1 y2 y3 y4 y5 y6 y7 y8 y9 y10 y11 y12 y13 y14 y15 y16:Str):(List Stmt):=[.Assign [nm y10 216 4 13] (.List [] (q 216 16 18)) (q 216 4 18),.For (nm y5 217 8 14) (.Call (nm y1 217 18 23) [nm y14 217 24 34] [] (q 217 18 35)) [.Assign [nm y15 218 8 16] (.BinOp (.BinOp (.BinOp (.BinOp (nm y11 218 20 29) .Add (.BinOp (ci 7 218 32 33) .Mult (nm y5 218 36 42) (q 218 32 42)) (q 218 20 42)) .Add (ci 1 218 45 46) (q 218 20 46)) .Mult (ci 48271 218 50 55) (q 218 19 55)) .Mod (ci 2147483647 218 58 68) (q 218 19 68)) (q 218 8 68),.Assign [nm y12 219 8 17] (.BinOp (nm y15 219 20 28) .Mod (ci 40 219 31 33) (q 219 20 33)) (q 219 8 33),.Assign [nm y6 220 8 16] (.Tuple [nm y12 220 20 29,.BinOp (ci 1 220 31 32) .Add (.BinOp (.BinOp (nm y15 220 35 43) .FloorDiv (ci 40 220 47 49) (q 220 35 49)) .Mod (ci 9 220 52 53) (q 220 35 53)) (q 220 31 53),.BinOp (.BinOp (nm y12 220 55 64) .Add (ci 9 220 67 68) (q 220 55 68)) .Add (.BinOp (.BinOp (nm y15 220 71 79) .FloorDiv (ci 360 220 83 86) (q 220 71 86)) .Mod (ci 14 220 89 91) (q 220 71 91)) (q 220 55 91)] 0 (q 220 19 92)) (q 220 8 92),.Assign [nm y16 221 8 18] (.Call (nm y13 221 21 31) [nm y9 221 32 41,nm y10 221 43 52,nm y6 221 54 62] [] (q 221 21 63)) (q 221 8 63),.If (.Compare (nm y16 222 11 21) [.Eq] [nm y10 222 25 34] (q 222 11 34)) [.Assign [nm y8 223 12 22] (.BinOp (.BinOp (nm y15 223 25 33) .FloorDiv (ci 5040 223 37 41) (q 223 25 41)) .Mod (.Call (nm y0 223 44 47) [nm y10 223 48 57] [] (q 223 44 58)) (q 223 25 58)) (q 223 12 58),.If (.Compare (.Call (.Attribute (nm y9 224 15 24) y3 (q 224 15 29)) [nm y8 224 30 40] [] (q 224 15 41)) [.NotEq] [.Subscript (nm y10 224 45 54) (nm y8 224 55 65) (q 224 45 66)] (q 224 15 66)) [.Return (some (.Constant (.bool false) 0 (q 225 23 28))) (q 225 16 28)] [] ⟨224,12,225,28⟩,.Assign [nm y16 226 12 22] (.Call (nm y13 226 25 35) [nm y9 226 36 45,.BinOp (.Subscript (nm y10 226 47 56) (.Slice none (some (nm y8 226 58 68)) none (q 226 57 68)) (q 226 47 69)) .Add (.Subscript (nm y10 226 72 81) (.Slice (some (.BinOp (nm y8 226 82 92) .Add (ci 1 226 95 96) (q 226 82 96))) none none (q 226 82 97)) (q 226 72 98)) (q 226 47 98),nm y6 226 100 108] [] (q 226 25 109)) (q 226 12 109)] [] ⟨222,8,226,109⟩,.If (.BoolOp .Or [.Compare (nm y16 227 11 21) [.Is] [.Constant .none 0 (q 227 25 29)] (q 227 11 29),.Compare (.Call (.Attribute (nm y9 227 33 42) y4 (q 227 33 49)) [] [] (q 227 33 51)) [.NotEq] [nm y16 227 55 65] (q 227 33 65)] (q 227 11 65)) [.Return (some (.Constant (.bool false) 0 (q 228 19 24))) (q 228 12 24)] [] ⟨227,8,228,24⟩,.Assign [nm y10 229 8 17] (nm y16 229 20 30) (q 229 8 30),.If (.BoolOp .And [.Compare (.BinOp (nm y5 230 11 17) .Mod (ci 4 230 20 21) (q 230 11 21)) [.Eq] [ci 3 230 25 26] (q 230 11 26),nm y10 230 31 40] (q 230 11 40)) [.Assign [nm y8 231 12 22] (.BinOp (.BinOp (nm y15 231 25 33) .FloorDiv (ci 5040 231 37 41) (q 231 25 41)) .Mod (.Call (nm y0 231 44 47) [nm y10 231 48 57] [] (q 231 44 58)) (q 231 25 58)) (q 231 12 58),.If (.Compare (.Call (.Attribute (nm y9 232 15 24) y3 (q 232 15 29)) [nm y8 232 30 40] [] (q 232 15 41)) [.NotEq] [.Subscript (nm y10 232 45 54) (nm y8 232 55 65) (q 232 45 66)] (q 232 15 66)) [.Return (some (.Constant (.bool false) 0 (q 233 23 28))) (q 233 16 28)] [] ⟨232,12,233,28⟩,.Assign [nm y10 234 12 21] (.BinOp (.Subscript (nm y10 234 24 33) (.Slice none (some (nm y8 234 35 45)) none (q 234 34 45)) (q 234 24 46)) .Add (.Subscript (nm y10 234 49 58) (.Slice (some (.BinOp (nm y8 234 59 69) .Add (ci 1 234 72 73) (q 234 59 73))) none none (q 234 59 74)) (q 234 49 75)) (q 234 24 75)) (q 234 12 75)] [] ⟨230,8,234,75⟩] [] ⟨217,4,234,75⟩,.Return (some (.BoolOp .And [.Compare (.Call (.Attribute (nm y9 235 11 20) y4 (q 235 11 27)) [] [] (q 235 11 29)) [.Eq] [nm y10 235 33 42] (q 235 11 42),.Call (nm y7 235 47 57) [nm y10 235 58 67,.Call (.Attribute (nm y9 235 69 78) y2 (q 235 69 83)) [] [] (q 235 69 85)] [] (q 235 47 86)] (q 235 11 86))) (q 235 4 86)]
noncomputable abbrev C115(y0 y1 y2 y3 y4 y5 y6 y7 y8 y9 y10 y11 y12 y13:Str):Scope:=⟨.function,[(y6,.local),(y8,.local),(y11,.local),(y7,.local),(y2,.local),(y12,.local),(y9,.local),(y3,.local),(y13,.local),(y5,.local),(y1,.globalImplicit),(y10,.globalImplicit),(y0,.globalImplicit),(y4,.globalImplicit)],false,false,[]⟩
noncomputable abbrev S116(y0 y1 y2 y3 y4 y5 y6 y7 y8 y9 y10 y11 y12 y13 y14 y15 y16 y17:Str):Stmt:=(.FunctionDef y14 (A113 y9 y11 y15) (B114 y0 y1 y2 y3 y4 y5 y6 y7 y8 y9 y10 y11 y12 y13 y15 y16 y17) [] none [] (C115 y0 y1 y5 y6 y7 y8 y9 y10 y11 y12 y13 y15 y16 y17) none y14 ⟨215,0,235,86⟩)
noncomputable abbrev A117(y0:Str):Arguments:=⟨[],[⟨y0,none,q 236 8 19⟩],none,[],[],none,[]⟩
noncomputable abbrev B118(y0 y1 y2 y3 y4 y5 y6 y7 y8 y9 y10 y11 y12 y13 y14 y15 y16 y17 y18 y19 y20 y21 y22 y23 y24:Str):(List Stmt):=[.If (.Compare (.BinOp (.Call (nm y7 237 7 19) [nm y8 237 20 31,ci 0 237 33 34] [] (q 237 7 35)) .Mod (ci 64 237 38 40) (q 237 7 40)) [.Eq] [ci 25 237 44 46] (q 237 7 46)) [.Return (some (.Call (nm y16 238 15 24) [.Call (nm y4 238 25 29) [] [] (q 238 25 31),.Call (nm y7 238 33 45) [nm y8 238 46 57,ci 1 238 59 60] [] (q 238 33 61),.BinOp (ci 16 238 63 65) .Add (.BinOp (.BinOp (.Call (nm y7 238 68 80) [nm y8 238 81 92,ci 0 238 94 95] [] (q 238 68 96)) .FloorDiv (ci 64 238 100 102) (q 238 68 102)) .Mod (ci 10 238 105 107) (q 238 68 107)) (q 238 63 107)] [] (q 238 15 108))) (q 238 8 108)] [] ⟨237,4,238,108⟩,.Assign [nm y18 239 4 14] (.List [.Call (nm y4 239 18 22) [] [] (q 239 18 24),.Call (nm y4 239 26 30) [] [] (q 239 26 32)] (q 239 17 33)) (q 239 4 33),.Assign [nm y12 240 4 13] (.List [.List [] (q 240 17 19),.List [] (q 240 21 23)] (q 240 16 24)) (q 240 4 24),.Assign [nm y14 241 4 13] (ci 1 241 16 17) (q 241 4 17),.If (.Compare (.BinOp (.Call (nm y7 242 7 19) [nm y8 242 20 31,ci 0 242 33 34] [] (q 242 7 35)) .Mod (ci 4 242 38 39) (q 242 7 39)) [.Eq] [ci 3 242 43 44] (q 242 7 44)) [.Assign [nm y14 243 8 17] (.BinOp (ci 2 243 20 21) .Add (.BinOp (.BinOp (.Call (nm y7 243 24 36) [nm y8 243 37 48,ci 0 243 50 51] [] (q 243 24 52)) .FloorDiv (ci 4 243 56 57) (q 243 24 57)) .Mod (.BinOp (ci 10 243 60 62) .Pow (ci 56 243 66 68) (q 243 60 68)) (q 243 24 68)) (q 243 20 68)) (q 243 8 68)] [] ⟨242,4,243,68⟩,.If (.Compare (.BinOp (.Call (nm y7 244 7 19) [nm y8 244 20 31,ci 0 244 33 34] [] (q 244 7 35)) .Mod (ci 64 244 38 40) (q 244 7 40)) [.Eq] [ci 9 244 44 45] (q 244 7 45)) [.Return (some (.Call (nm y15 245 15 24) [.Subscript (nm y18 245 25 35) (ci 0 245 36 37) (q 245 25 38),.BinOp (.Call (nm y7 245 40 52) [nm y8 245 53 64,ci 1 245 66 67] [] (q 245 40 68)) .Mod (ci 60 245 71 73) (q 245 40 73)] [] (q 245 15 74))) (q 245 8 74)] [] ⟨244,4,245,74⟩,.Assign [nm y19 246 4 13] (.List [] (q 246 16 18)) (q 246 4 18),.For (nm y13 247 8 17) (.Subscript (nm y8 247 21 32) (.Slice (some (ci 1 247 33 34)) (some (ci 17 247 35 37)) none (q 247 33 37)) (q 247 21 38)) [.Assign [nm y20 248 8 18] (.BinOp (nm y13 248 21 30) .Mod (ci 2 248 33 34) (q 248 21 34)) (q 248 8 34),.Assign [nm y21 249 8 17] (.Tuple [.Call (.Attribute (.Subscript (nm y18 249 21 31) (nm y20 249 32 42) (q 249 21 43)) y5 (q 249 21 50)) [] [] (q 249 21 52),.Call (.Attribute (.Subscript (nm y18 249 54 64) (nm y20 249 65 75) (q 249 54 76)) y3 (q 249 54 81)) [] [] (q 249 54 83)] 0 (q 249 20 84)) (q 249 8 84),.Expr (.Call (.Attribute (nm y19 250 8 17) y22 (q 250 8 24)) [.Tuple [nm y21 250 26 35,.Tuple [.Call (nm y6 250 38 42) [.Subscript (nm y21 250 43 52) (ci 0 250 53 54) (q 250 43 55)] [] (q 250 38 56),.Call (nm y6 250 58 62) [.Subscript (nm y21 250 63 72) (ci 1 250 73 74) (q 250 63 75)] [] (q 250 58 76)] 0 (q 250 37 77)] 0 (q 250 25 78)] [] (q 250 8 79)) (q 250 8 79),.Assign [nm y17 251 8 18] (.Call (nm y11 251 21 30) [.Subscript (nm y18 251 31 41) (nm y20 251 42 52) (q 251 31 53),.Call (nm y6 251 55 59) [.Subscript (nm y12 251 60 69) (nm y20 251 70 80) (q 251 60 81)] [] (q 251 55 82),.BinOp (nm y13 251 84 93) .FloorDiv (ci 2 251 97 98) (q 251 84 98),nm y14 251 100 109] [] (q 251 21 110)) (q 251 8 110),.If (.BoolOp .Or [.Compare (nm y17 252 11 21) [.Is] [.Constant .none 0 (q 252 25 29)] (q 252 11 29),.UnaryOp .Not (.Call (nm y10 252 37 47) [nm y17 252 48 58,.Call (.Attribute (.Subscript (nm y18 252 60 70) (nm y20 252 71 81) (q 252 60 82)) y3 (q 252 60 87)) [] [] (q 252 60 89)] [] (q 252 37 90)) (q 252 33 90)] (q 252 11 90)) [.Return (some (.Constant (.bool false) 0 (q 253 19 24))) (q 253 12 24)] [] ⟨252,8,253,24⟩,.Expr (.Call (.Attribute (.Call (.Attribute (.Subscript (nm y18 254 8 18) (nm y20 254 19 29) (q 254 8 30)) y3 (q 254 8 35)) [] [] (q 254 8 37)) y22 (q 254 8 44)) [.Tuple [ci 0 254 46 47,ci 0 254 49 50,ci 0 254 52 53] 0 (q 254 45 54)] [] (q 254 8 55)) (q 254 8 55),.If (.Compare (.Call (.Attribute (.Subscript (nm y18 255 11 21) (nm y20 255 22 32) (q 255 11 33)) y3 (q 255 11 38)) [] [] (q 255 11 40)) [.NotEq] [.Call (nm y2 255 44 47) [.Call (nm y6 255 48 52) [nm y17 255 53 63] [] (q 255 48 64)] [] (q 255 44 65)] (q 255 11 65)) [.Return (some (.Constant (.bool false) 0 (q 256 19 24))) (q 256 12 24)] [] ⟨255,8,256,24⟩,.Assign [.Subscript (nm y12 257 8 17) (nm y20 257 18 28) (q 257 8 29)] (nm y17 257 32 42) (q 257 8 42),.For (nm y9 258 12 18) (.Call (nm y1 258 22 27) [ci 2 258 28 29] [] (q 258 22 30)) [.Assign [nm y23 259 12 23] (.Call (.Attribute (.Subscript (nm y18 259 26 36) (nm y9 259 37 43) (q 259 26 44)) y5 (q 259 26 51)) [] [] (q 259 26 53)) (q 259 12 53),.If (.BoolOp .Or [.UnaryOp .Not (.Call (nm y0 260 19 29) [nm y23 260 30 41,nm y6 260 43 47] [] (q 260 19 48)) (q 260 15 48),.Compare (nm y23 260 52 63) [.NotEq] [.Subscript (nm y12 260 67 76) (nm y9 260 77 83) (q 260 67 84)] (q 260 52 84)] (q 260 15 84)) [.Return (some (.Constant (.bool false) 0 (q 261 23 28))) (q 261 16 28)] [] ⟨260,12,261,28⟩,.Expr (.Call (.Attribute (nm y23 262 12 23) y22 (q 262 12 30)) [.Tuple [ci 0 262 32 33,ci 1 262 35 36,ci 2 262 38 39] 0 (q 262 31 40)] [] (q 262 12 41)) (q 262 12 41)] [] ⟨258,8,262,41⟩] [] ⟨247,4,262,41⟩,.For (.Tuple [nm y21 263 8 17,nm y24 263 19 28] 0 (q 263 8 28)) (nm y19 263 32 41) [.If (.Compare (nm y21 264 11 20) [.NotEq] [nm y24 264 24 33] (q 264 11 33)) [.Return (some (.Constant (.bool false) 0 (q 265 19 24))) (q 265 12 24)] [] ⟨264,8,265,24⟩] [] ⟨263,4,265,24⟩,.Return (some (.Compare (.Call (.Attribute (.Subscript (nm y18 266 11 21) (ci 0 266 22 23) (q 266 11 24)) y5 (q 266 11 31)) [] [] (q 266 11 33)) [.Eq] [.Subscript (nm y12 266 37 46) (ci 0 266 47 48) (q 266 37 49)] (q 266 11 49))) (q 266 4 49)]
noncomputable abbrev C119(y0 y1 y2 y3 y4 y5 y6 y7 y8 y9 y10 y11 y12 y13 y14 y15 y16 y17 y18 y19 y20 y21:Str):Scope:=⟨.function,[(y6,.local),(y16,.local),(y10,.local),(y12,.local),(y17,.local),(y11,.local),(y18,.local),(y19,.local),(y15,.local),(y7,.local),(y20,.local),(y21,.local),(y5,.globalImplicit),(y14,.globalImplicit),(y3,.globalImplicit),(y13,.globalImplicit),(y4,.globalImplicit),(y9,.globalImplicit),(y8,.globalImplicit),(y2,.globalImplicit),(y1,.globalImplicit),(y0,.globalImplicit)],false,false,[]⟩
noncomputable abbrev S120(y0 y1 y2 y3 y4 y5 y6 y7 y8 y9 y10 y11 y12 y13 y14 y15 y16 y17 y18 y19 y20 y21 y22 y23 y24 y25:Str):Stmt:=(.FunctionDef y18 (A117 y8) (B118 y0 y1 y2 y3 y4 y5 y6 y7 y8 y9 y10 y11 y12 y13 y14 y15 y16 y17 y19 y20 y21 y22 y23 y24 y25) [] none [] (C119 y0 y1 y2 y4 y6 y7 y8 y9 y10 y11 y12 y13 y14 y15 y16 y17 y19 y20 y21 y22 y24 y25) none y18 ⟨236,0,266,49⟩)
noncomputable abbrev F10:=([@OfNat.ofNat UInt8 76 (@UInt8.instOfNat 76),@OfNat.ofNat UInt8 67 (@UInt8.instOfNat 67),@OfNat.ofNat UInt8 95 (@UInt8.instOfNat 95),@OfNat.ofNat UInt8 65 (@UInt8.instOfNat 65),@OfNat.ofNat UInt8 76 (@UInt8.instOfNat 76),@OfNat.ofNat UInt8 76 (@UInt8.instOfNat 76)],[@OfNat.ofNat UInt8 67 (@UInt8.instOfNat 67),@OfNat.ofNat UInt8 46 (@UInt8.instOfNat 46),@OfNat.ofNat UInt8 85 (@UInt8.instOfNat 85),@OfNat.ofNat UInt8 84 (@UInt8.instOfNat 84),@OfNat.ofNat UInt8 70 (@UInt8.instOfNat 70),@OfNat.ofNat UInt8 45 (@UInt8.instOfNat 45),@OfNat.ofNat UInt8 56 (@UInt8.instOfNat 56)])
noncomputable abbrev PP(y0 y1 y2 y3 y4 y5 y6 y7 y8 y9 y10 y11 y12 y13 y14 y15 y16 y17 y18 y19 y20 y21 y22 y23 y24 y25 y26 y27 y28 y29 y30 y31 y32 y33 y34 y35 y36 y37 y38 y39 y40 y41 y42 y43 y44 y45 y46 y47 y48 y49 y50 y51 y52 y53 y54 y55 y56 y57 y58 y59 y60 y61 y62 y63 y64 y65 y66 y67 y68 y69 y70 y71 y72 y73 y74 y75 y76 y77 y78 y79 y80 y81 y82 y83 y84 y85 y86 y87 y88 y89 y90 y91 y92 y93 y94 y95 y96 y97 y98 y99 y100 y101 y102 y103 y104 y105 y106 y107 y108 y109 y110 y111 y112 y113 y114 y115 y116 y117:Str):Program:=⟨⟨[S0 y0 y1,S1 y2 y3,S2 y2 y4,S3 y2 y5,S4 y2 y6,S5 y2 y7,S6 y0 y8,S7 y9,S11 y10 y11 y12 y13 y14,S15 y10 y12 y15 y16 y17 y18 y19,S19 y4 y5 y9 y15 y16 y18 y20 y21 y22 y23,S20 y0 y24,S24 y18 y21 y25 y26 y27 y28 y29 y30,S28 y18 y21 y26 y27 y29 y30 y31 y32 y33 y34 y35 y36 y37,S32 y29 y38 y39 y40 y41,S36 y16 y20 y21 y25 y26 y27 y29 y31 y33 y37 y38 y39 y41 y42 y43 y44,S37 y0 y45,S41 y16 y21 y33 y37 y42 y46 y47 y48,S45 y18 y21 y29 y30 y33 y37 y46 y49 y50 y51 y52 y53,S46 y0 y54,S50 y21 y34 y39 y40 y41 y48 y55 y56,S54 y21 y29 y39 y41 y42 y49 y55 y57 y58 y59,S55 y0 y60,S71 y4 y5 y6 y9 y15 y16 y18 y23 y29 y42 y47 y57 y59 y61 y62 y63 y64 y65 y66 y67 y68 y69 y70 y71,S72 y0 y72,S76 y12 y13 y14 y73 y74,S80 y18 y75 y76 y77,S84 y33 y37 y43 y78 y79 y80 y81 y82,S88 y12 y17 y18 y73 y83 y84,S92 y12 y18 y33 y37 y71 y79 y82 y83 y84 y85 y86 y87 y88,S96 y18 y73 y78 y79 y80 y81 y89 y90,S100 y12 y17 y18 y49 y59 y74 y79 y85 y89 y91 y92,S104 y2 y4 y5 y6 y7 y12 y18 y65 y68 y82 y90 y93 y94 y95 y96 y97 y98 y99 y100,S108 y12 y17 y18 y49 y57 y65 y74 y82 y89 y94 y95 y100,S112 y4 y5 y16 y18 y30 y33 y37 y42 y59 y65 y68 y70 y74 y77 y79 y82 y90 y94 y100 y101 y102 y103 y104,S116 y18 y30 y59 y68 y70 y77 y82 y85 y90 y94 y95 y96 y99 y100 y105 y106 y107 y108,S120 y12 y30 y42 y59 y61 y70 y71 y75 y76 y77 y85 y93 y95 y96 y97 y101 y105 y108 y109 y110 y111 y112 y113 y114 y115 y116],⟨.module,[(y0,.local),(y2,.local),(y3,.globalImplicit),(y4,.local),(y5,.local),(y6,.local),(y7,.local),(y9,.local),(y10,.local),(y15,.local),(y20,.local),(y25,.local),(y31,.local),(y38,.local),(y42,.local),(y46,.local),(y49,.local),(y55,.local),(y57,.local),(y61,.local),(y73,.local),(y75,.local),(y78,.local),(y83,.local),(y85,.local),(y89,.local),(y91,.local),(y93,.local),(y100,.local),(y101,.local),(y105,.local),(y109,.local)],false,false,[]⟩,false,y117,[]⟩,[],[],[],[],⟨[],[],some [F10],none,none,[],[]⟩⟩
noncomputable abbrev PQ(y0 y1 y2 y3 y4 y5 y6 y7 y8 y9 y10 y11 y12 y13 y14 y15 y16 y17 y18 y19 y20 y21 y22 y23 y24 y25 y26 y27 y28 y29 y30 y31 y32 y33 y34 y35 y36 y37 y38 y39 y40 y41 y42 y43 y44 y45 y46 y47 y48 y49 y50 y51 y52 y53 y54 y55 y56 y57 y58 y59 y60 y61 y62 y63 y64 y65 y66 y67 y68 y69 y70 y71 y72 y73 y74 y75 y76 y77 y78 y79 y80 y81 y82 y83 y84 y85 y86 y87 y88 y89 y90 y91 y92 y93 y94 y95 y96 y97 y98 y99 y100 y101 y102 y103 y104 y105 y106 y107 y108 y109 y110:Str):Program:=⟨⟨[S1 y1 y2,S2 y1 y3,S3 y1 y4,S4 y1 y5,S5 y1 y6,S7 y7,S11 y8 y9 y10 y11 y12,S15 y8 y10 y13 y14 y15 y16 y17,S19 y3 y4 y7 y13 y14 y16 y18 y19 y20 y21,S24 y16 y19 y22 y23 y24 y25 y26 y27,S28 y16 y19 y23 y24 y26 y27 y28 y29 y30 y31 y32 y33 y34,S32 y26 y35 y36 y37 y38,S36 y14 y18 y19 y22 y23 y24 y26 y28 y30 y34 y35 y36 y38 y39 y40 y41,S41 y14 y19 y30 y34 y39 y42 y43 y44,S45 y16 y19 y26 y27 y30 y34 y42 y45 y46 y47 y48 y49,S50 y19 y31 y36 y37 y38 y44 y50 y51,S54 y19 y26 y36 y38 y39 y45 y50 y52 y53 y54,S71 y3 y4 y5 y7 y13 y14 y16 y21 y26 y39 y43 y52 y54 y55 y56 y57 y58 y59 y60 y61 y62 y63 y64 y65,S76 y10 y11 y12 y66 y67,S80 y16 y68 y69 y70,S84 y30 y34 y40 y71 y72 y73 y74 y75,S88 y10 y15 y16 y66 y76 y77,S92 y10 y16 y30 y34 y65 y72 y75 y76 y77 y78 y79 y80 y81,S96 y16 y66 y71 y72 y73 y74 y82 y83,S100 y10 y15 y16 y45 y54 y67 y72 y78 y82 y84 y85,S104 y1 y3 y4 y5 y6 y10 y16 y59 y62 y75 y83 y86 y87 y88 y89 y90 y91 y92 y93,S108 y10 y15 y16 y45 y52 y59 y67 y75 y82 y87 y88 y93,S112 y3 y4 y14 y16 y27 y30 y34 y39 y54 y59 y62 y64 y67 y70 y72 y75 y83 y87 y93 y94 y95 y96 y97,S116 y16 y27 y54 y62 y64 y70 y75 y78 y83 y87 y88 y89 y92 y93 y98 y99 y100 y101,S120 y10 y27 y39 y54 y55 y64 y65 y68 y69 y70 y78 y86 y88 y89 y90 y94 y98 y101 y102 y103 y104 y105 y106 y107 y108 y109],⟨.module,[(y0,.local),(y1,.local),(y2,.globalImplicit),(y3,.local),(y4,.local),(y5,.local),(y6,.local),(y7,.local),(y8,.local),(y13,.local),(y18,.local),(y22,.local),(y28,.local),(y35,.local),(y39,.local),(y42,.local),(y45,.local),(y50,.local),(y52,.local),(y55,.local),(y66,.local),(y68,.local),(y71,.local),(y76,.local),(y78,.local),(y82,.local),(y84,.local),(y86,.local),(y93,.local),(y94,.local),(y98,.local),(y102,.local)],false,false,[]⟩,false,y110,[]⟩,[],[],[],[],⟨[],[],some [F10],none,none,[],[]⟩⟩
noncomputable abbrev PR(y0 y1 y2:Str)(y3:Program):OpenLaw:=⟨y3,y2,[y0,y1],12,some 63,none,false⟩
noncomputable abbrev PPl:Program:=(PP l0 l1 l2 l3 l4 l5 l6 l7 l8 l9 l10 l11 l12 l13 l14 l15 l16 l17 l18 l19 l20 l21 l22 l23 l24 l25 l26 l27 l28 l29 l30 l31 l32 l33 l34 l35 l36 l37 l38 l39 l40 l41 l42 l43 l44 l45 l46 l47 l48 l49 l50 l51 l52 l53 l54 l55 l56 l57 l58 l59 l60 l61 l62 l63 l64 l65 l66 l67 l68 l69 l70 l71 l72 l73 l74 l75 l76 l77 l78 l79 l80 l81 l82 l83 l84 l85 l86 l87 l88 l89 l90 l91 l92 l93 l94 l95 l96 l97 l98 l99 l100 l101 l102 l103 l104 l105 l106 l107 l108 l109 l110 l111 l112 l113 l114 l115 l116 l117)
noncomputable abbrev PQl:Program:=(PQ l0 l2 l3 l4 l5 l6 l7 l9 l10 l11 l12 l13 l14 l15 l16 l17 l18 l19 l20 l21 l22 l23 l25 l26 l27 l28 l29 l30 l31 l32 l33 l34 l35 l36 l37 l38 l39 l40 l41 l42 l43 l44 l46 l47 l48 l49 l50 l51 l52 l53 l55 l56 l57 l58 l59 l61 l62 l63 l64 l65 l66 l67 l68 l69 l70 l71 l73 l74 l75 l76 l77 l78 l79 l80 l81 l82 l83 l84 l85 l86 l87 l88 l89 l90 l91 l92 l93 l94 l95 l96 l97 l98 l99 l100 l101 l102 l103 l104 l105 l106 l107 l108 l109 l110 l111 l112 l113 l114 l115 l116 l117)
noncomputable abbrev PQa:Program:=(PQ (Str.ofString "__name__") F53 (Str.ofString "ValueError") (Str.ofString "BadJob") F56 F48 (Str.ofString "NoRow") (Str.ofString "LIMIT") (Str.ofString "whole") (Str.ofString "thing") (Str.ofString "isinstance") (Str.ofString "int") (Str.ofString "bool") (Str.ofString "sound") (Str.ofString "job") (Str.ofString "tuple") (Str.ofString "len") (Str.ofString "part") (Str.ofString "check") (Str.ofString "jobs") (Str.ofString "more than sixty jobs") (Str.ofString "no job") (Str.ofString "first_due") (Str.ofString "left") (Str.ofString "time") (Str.ofString "best") (Str.ofString "place") (Str.ofString "range") (Str.ofString "next_come") (Str.ofString "comes") (Str.ofString ".0") (Str.ofString "min") (Str.ofString "come") (Str.ofString "default") (Str.ofString "fast") (Str.ofString "put") (Str.ofString "pieces") (Str.ofString "begin") (Str.ofString "end") (Str.ofString "run") (Str.ofString "sum") (Str.ofString "stop") (Str.ofString "ends") (Str.ofString "found") (Str.ofString "piece") (Str.ofString "late") (Str.ofString "done") (Str.ofString "rows") (Str.ofString "row") (Str.ofString "sorted") (Str.ofString "busy_since") (Str.ofString "reversed") (Str.ofString "answer") (Str.ofString "places") (Str.ofString "plan") (Str.ofString "Book") (Str.ofString "__init__") (Str.ofString "self") (Str.ofString "held") (Str.ofString "take") (Str.ofString "sixty jobs are held") (Str.ofString "more") (Str.ofString "drop") (Str.ofString "no job stands there") (Str.ofString "listed") (Str.ofString "list") (Str.ofString "_law_whole") (Str.ofString "_law_found") (Str.ofString "_law_cell_at") (Str.ofString "_law_script") (Str.ofString "_law_k") (Str.ofString "_law_load") (Str.ofString "_law_jobs") (Str.ofString "_law_begin") (Str.ofString "_law_end") (Str.ofString "_law_job") (Str.ofString "_law_triple") (Str.ofString "_law_piece") (Str.ofString "_law_meets") (Str.ofString "_law_pieces") (Str.ofString "_law_left") (Str.ofString "_law_now") (Str.ofString "_law_crowded") (Str.ofString "_law_place") (Str.ofString "_law_right") (Str.ofString "str") (Str.ofString "_law_deed") (Str.ofString "_law_book") (Str.ofString "_law_held") (Str.ofString "_law_cell") (Str.ofString "_law_wide") (Str.ofString "e") (Str.ofString "_law_come") (Str.ofString "_law_taken") (Str.ofString "_law_full") (Str.ofString "") (Str.ofString "many ") (Str.ofString "many many job") (Str.ofString "_law_many") (Str.ofString "_law_count") (Str.ofString "_law_mix") (Str.ofString "_law_after") (Str.ofString "law") (Str.ofString "_law_books") (Str.ofString "_law_kept") (Str.ofString "_law_which") (Str.ofString "_law_told") (Str.ofString "append") (Str.ofString "_law_listed") (Str.ofString "_law_ones") (Str.ofString "/claim/cut.py"))
noncomputable abbrev PRl:OpenLaw:=(PR l61 l70 l109 PPl)
theorem pE1:(@Eq Program Challenge.pw_uf050015_13 (PP (Str.ofString "__name__") (Str.ofString "deadlinerun.errors") F53 (Str.ofString "ValueError") (Str.ofString "BadJob") F56 F48 (Str.ofString "NoRow") (Str.ofString "deadlinerun.jobs") (Str.ofString "LIMIT") (Str.ofString "whole") (Str.ofString "thing") (Str.ofString "isinstance") (Str.ofString "int") (Str.ofString "bool") (Str.ofString "sound") (Str.ofString "job") (Str.ofString "tuple") (Str.ofString "len") (Str.ofString "part") (Str.ofString "check") (Str.ofString "jobs") (Str.ofString "more than sixty jobs") (Str.ofString "no job") (Str.ofString "deadlinerun.running") (Str.ofString "first_due") (Str.ofString "left") (Str.ofString "time") (Str.ofString "best") (Str.ofString "place") (Str.ofString "range") (Str.ofString "next_come") (Str.ofString "comes") (Str.ofString ".0") (Str.ofString "min") (Str.ofString "come") (Str.ofString "default") (Str.ofString "fast") (Str.ofString "put") (Str.ofString "pieces") (Str.ofString "begin") (Str.ofString "end") (Str.ofString "run") (Str.ofString "sum") (Str.ofString "stop") (Str.ofString "deadlinerun.looking") (Str.ofString "ends") (Str.ofString "found") (Str.ofString "piece") (Str.ofString "late") (Str.ofString "done") (Str.ofString "rows") (Str.ofString "row") (Str.ofString "sorted") (Str.ofString "deadlinerun.answering") (Str.ofString "busy_since") (Str.ofString "reversed") (Str.ofString "answer") (Str.ofString "places") (Str.ofString "plan") (Str.ofString "deadlinerun.book") (Str.ofString "Book") (Str.ofString "__init__") (Str.ofString "self") (Str.ofString "held") (Str.ofString "take") (Str.ofString "sixty jobs are held") (Str.ofString "more") (Str.ofString "drop") (Str.ofString "no job stands there") (Str.ofString "listed") (Str.ofString "list") (Str.ofString "law_uf050015_13") (Str.ofString "_law_whole") (Str.ofString "_law_found") (Str.ofString "_law_cell_at") (Str.ofString "_law_script") (Str.ofString "_law_k") (Str.ofString "_law_load") (Str.ofString "_law_jobs") (Str.ofString "_law_begin") (Str.ofString "_law_end") (Str.ofString "_law_job") (Str.ofString "_law_triple") (Str.ofString "_law_piece") (Str.ofString "_law_meets") (Str.ofString "_law_pieces") (Str.ofString "_law_left") (Str.ofString "_law_now") (Str.ofString "_law_crowded") (Str.ofString "_law_place") (Str.ofString "_law_right") (Str.ofString "str") (Str.ofString "_law_deed") (Str.ofString "_law_book") (Str.ofString "_law_held") (Str.ofString "_law_cell") (Str.ofString "_law_wide") (Str.ofString "e") (Str.ofString "_law_come") (Str.ofString "_law_taken") (Str.ofString "_law_full") (Str.ofString "") (Str.ofString "many ") (Str.ofString "many many job") (Str.ofString "_law_many") (Str.ofString "_law_count") (Str.ofString "_law_mix") (Str.ofString "_law_after") (Str.ofString "law") (Str.ofString "_law_books") (Str.ofString "_law_kept") (Str.ofString "_law_which") (Str.ofString "_law_told") (Str.ofString "append") (Str.ofString "_law_listed") (Str.ofString "_law_ones") (Str.ofString "/claim/cut.py"))):=by kernel_rfl
theorem pEq:(@Eq Program Challenge.pw_uf050015_13 PPl):=pE1.trans (congr (congr (congr (congr (congr (congr (congr (congr (congr (congr (congr (congr (congr (congr (congr (congr (congr (congr (congr (congr (congr (congr (congr (congr (congr (congr (congr (congr (congr (congr (congr (congr (congr (congr (congr (congr (congr (congr (congr (congr (congr (congr (congr (congr (congr (congr (congr (congr (congr (congr (congr (congr (congr (congr (congr (congr (congr (congr (congr (congr (congr (congr (congr (congr (congr (congr (congr (congr (congr (congr (congr (congr (congr (congr (congr (congr (congr (congr (congr (congr (congr (congr (congr (congr (congr (congr (congr (congr (congr (congr (congr (congr (congr (congr (congr (congr (congr (congr (congr (congr (congr (congr (congr (congr (congr (congr (congr (congr (congr (congr (congr (congr (congr (congr (congr (congr (congr (congr rfl el0) el1) el2) el3) el4) el5) el6) el7) el8) el9) el10) el11) el12) el13) el14) el15) el16) el17) el18) el19) el20) el21) el22) el23) el24) el25) el26) el27) el28) el29) el30) el31) el32) el33) el34) el35) el36) el37) el38) el39) el40) el41) el42) el43) el44) el45) el46) el47) el48) el49) el50) el51) el52) el53) el54) el55) el56) el57) el58) el59) el60) el61) el62) el63) el64) el65) el66) el67) el68) el69) el70) el71) el72) el73) el74) el75) el76) el77) el78) el79) el80) el81) el82) el83) el84) el85) el86) el87) el88) el89) el90) el91) el92) el93) el94) el95) el96) el97) el98) el99) el100) el101) el102) el103) el104) el105) el106) el107) el108) el109) el110) el111) el112) el113) el114) el115) el116) el117)
theorem qEq:(@Eq Program PQa PQl):=(congr (congr (congr (congr (congr (congr (congr (congr (congr (congr (congr (congr (congr (congr (congr (congr (congr (congr (congr (congr (congr (congr (congr (congr (congr (congr (congr (congr (congr (congr (congr (congr (congr (congr (congr (congr (congr (congr (congr (congr (congr (congr (congr (congr (congr (congr (congr (congr (congr (congr (congr (congr (congr (congr (congr (congr (congr (congr (congr (congr (congr (congr (congr (congr (congr (congr (congr (congr (congr (congr (congr (congr (congr (congr (congr (congr (congr (congr (congr (congr (congr (congr (congr (congr (congr (congr (congr (congr (congr (congr (congr (congr (congr (congr (congr (congr (congr (congr (congr (congr (congr (congr (congr (congr (congr (congr (congr (congr (congr (congr (congr rfl el0) el2) el3) el4) el5) el6) el7) el9) el10) el11) el12) el13) el14) el15) el16) el17) el18) el19) el20) el21) el22) el23) el25) el26) el27) el28) el29) el30) el31) el32) el33) el34) el35) el36) el37) el38) el39) el40) el41) el42) el43) el44) el46) el47) el48) el49) el50) el51) el52) el53) el55) el56) el57) el58) el59) el61) el62) el63) el64) el65) el66) el67) el68) el69) el70) el71) el73) el74) el75) el76) el77) el78) el79) el80) el81) el82) el83) el84) el85) el86) el87) el88) el89) el90) el91) el92) el93) el94) el95) el96) el97) el98) el99) el100) el101) el102) el103) el104) el105) el106) el107) el108) el109) el110) el111) el112) el113) el114) el115) el116) el117)
theorem rE1:(@Eq OpenLaw Challenge.rw_uf050015_13 (PR (Str.ofString "Book") (Str.ofString "listed") (Str.ofString "law") Challenge.pw_uf050015_13)):=by kernel_rfl
theorem rEq:(@Eq OpenLaw Challenge.rw_uf050015_13 PRl):=rE1.trans (congr (congr (congr (congr rfl el61) el70) el109) pEq)
theorem eLaw:(@Eq Str (Str.ofString "law") l109):=el109
noncomputable abbrev dL:DefRec:=⟨l109,A117 l76,B118 l12 l30 l42 l59 l61 l70 l71 l75 l76 l77 l85 l93 l95 l96 l97 l101 l105 l108 l110 l111 l112 l113 l114 l115 l116,C119 l12 l30 l42 l61 l71 l75 l76 l77 l85 l93 l95 l96 l97 l101 l105 l108 l110 l111 l112 l113 l115 l116,⟨236,0,266,49⟩⟩
noncomputable abbrev bE:(List Stmt):=[S0 l0 l1,S1 l2 l3,S2 l2 l4,S3 l2 l5,S4 l2 l6,S5 l2 l7,S6 l0 l8,S7 l9,S11 l10 l11 l12 l13 l14,S15 l10 l12 l15 l16 l17 l18 l19,S19 l4 l5 l9 l15 l16 l18 l20 l21 l22 l23,S20 l0 l24,S24 l18 l21 l25 l26 l27 l28 l29 l30,S28 l18 l21 l26 l27 l29 l30 l31 l32 l33 l34 l35 l36 l37,S32 l29 l38 l39 l40 l41,S36 l16 l20 l21 l25 l26 l27 l29 l31 l33 l37 l38 l39 l41 l42 l43 l44,S37 l0 l45,S41 l16 l21 l33 l37 l42 l46 l47 l48,S45 l18 l21 l29 l30 l33 l37 l46 l49 l50 l51 l52 l53,S46 l0 l54,S50 l21 l34 l39 l40 l41 l48 l55 l56,S54 l21 l29 l39 l41 l42 l49 l55 l57 l58 l59,S55 l0 l60,S71 l4 l5 l6 l9 l15 l16 l18 l23 l29 l42 l47 l57 l59 l61 l62 l63 l64 l65 l66 l67 l68 l69 l70 l71,S72 l0 l72,S76 l12 l13 l14 l73 l74,S80 l18 l75 l76 l77,S84 l33 l37 l43 l78 l79 l80 l81 l82,S88 l12 l17 l18 l73 l83 l84,S92 l12 l18 l33 l37 l71 l79 l82 l83 l84 l85 l86 l87 l88,S96 l18 l73 l78 l79 l80 l81 l89 l90,S100 l12 l17 l18 l49 l59 l74 l79 l85 l89 l91 l92,S104 l2 l4 l5 l6 l7 l12 l18 l65 l68 l82 l90 l93 l94 l95 l96 l97 l98 l99 l100,S108 l12 l17 l18 l49 l57 l65 l74 l82 l89 l94 l95 l100,S112 l4 l5 l16 l18 l30 l33 l37 l42 l59 l65 l68 l70 l74 l77 l79 l82 l90 l94 l100 l101 l102 l103 l104,S116 l18 l30 l59 l68 l70 l77 l82 l85 l90 l94 l95 l96 l99 l100 l105 l106 l107 l108,S120 l12 l30 l42 l59 l61 l70 l71 l75 l76 l77 l85 l93 l95 l96 l97 l101 l105 l108 l109 l110 l111 l112 l113 l114 l115 l116]
noncomputable abbrev env:Env:=(Env.mk (Module.scope (Program.main PPl)) mainNs mainNs (@List.nil (Prod Str Addr)) Str.empty (@Option.none Addr) (Value.ref 13) (@Option.some Addr (@OfNat.ofNat Addr 14 (instOfNatNat 14))) (@OfNat.ofNat Addr 0 (instOfNatNat 0)))
noncomputable abbrev cE:Code:=(.body bE env)
noncomputable abbrev o121(y0:Params):Obj:=⟨T2,none,.seq #[] 0,#[]⟩
noncomputable abbrev o122(y0:Params):Obj:=⟨.none,none,.fields #[],#[]⟩
noncomputable abbrev l118:Str:=⟨⟨[60,109,111,100,117,108,101,62]⟩⟩
noncomputable abbrev o123(y0:Params):Obj:=⟨T0,none,.fields #[.str l118 182,.str l118 183,.str l117 184,.int 1 0,.int 0 0,.int 0 0,.int 0 0,.int 0 0,.ref 11,.bool false,.int 181 0,.ref 12,.none,.none,.none,.none,.int 185 0,.int 1 0,.str l117 186],#[]⟩
noncomputable abbrev l119:Str:=⟨⟨[95,95,109,97,105,110,95,95]⟩⟩
noncomputable abbrev o124(y0:Params):Obj:=⟨T11,none,.plain,#[some (.ref 13),some (.ref 3),some (.ref 3),none,some (.str l119 164),none,some (.ref 0)]⟩
noncomputable abbrev hp125(y0:Params):Heap:=⟨@Array.mk Obj [boot_o_0 y0,boot_o_1 y0,boot_o_2 y0,boot_o_3 y0,boot_o_4 y0,boot_o_5 y0,boot_o_6 y0,boot_o_7 y0,boot_o_8 y0,boot_o_9 y0,boot_o_10 y0,o121 y0,o122 y0,o123 y0,o124 y0],⟨[],[],[],0,[],[],false,#[],[],0,false,false,false,0,[2000,10,10],false,0,true,[],[],0,false⟩⟩
noncomputable abbrev u126(y0:Params)(y1:OsState):Shared:=(Shared.mk (hp125 y0) ⟨[]⟩ ⟨0,0,0,0⟩ 187 y1)
noncomputable abbrev F4:=(@Option.some Value (Value.ref 6))
noncomputable abbrev F27(w:World):=(boot_heap (World.params w))
noncomputable abbrev F71(w:World)(os:OsState):=(Shared.mk (F27 w) ⟨[]⟩ boot_drawn boot_toks os)
noncomputable abbrev F99(w:World)(os:OsState):=(u126 (World.params w) os)
noncomputable abbrev F108:=(Option (Prod Shared Thread))
theorem rPret(w:World)(os:OsState):(@Eq F108 (Fast.tw15667345088766844465 Fast.tw14364793385576792824 PPl w 11 F4 12 (F71 w os) (topStub PPl)) (@Option.some (Prod Shared Thread) ((F99 w os),(Thread.mk (Fast.tw11892475500146522536 Fast.tw14364793385576792824 cE) cE (Pos.mk 0 0 0 0) [topFrame (Pos.mk 0 0 0 0)])))):=by kernel_rfl
noncomputable abbrev F34:=(∀(y1:String),(Option Builtin))
noncomputable abbrev F97:=(∀(y0:String),(Option Builtin))
noncomputable abbrev F105:=(Thread.mk (denote treeTable cE) cE (Pos.mk 0 0 0 0) [topFrame (Pos.mk 0 0 0 0)])
theorem rPre(w:World)(os:OsState):(@Eq F108 (topGo treeTable PPl w 11 F4 12 (F71 w os) (topStub PPl)) (@Option.some (Prod Shared Thread) ((F99 w os),F105))):=Eq.mpr ((congr (congr (@congrArg _ _ _ _ (fun(y0:(∀(y0:F97),(∀(y1:Program),(∀(y2:World),(∀(y3:Nat),(∀(y4:(Option Value)),(∀(y5:Nat),(∀(y6:Shared),(∀(y7:Thread),F108)))))))))=>(fun(y1:F34)=>(fun(y2:(∀(y2:(∀(y2:String),(Option Builtin))),(∀(y3:Code),(Sem Fin))))=>(@Eq F108 (y0 y1 PPl w 11 F4 12 (F71 w os) (topStub PPl)) (@Option.some (Prod Shared Thread) ((F99 w os),(Thread.mk (y2 y1 cE) cE (Pos.mk 0 0 0 0) [topFrame (Pos.mk 0 0 0 0)]))))))) Fast.te15667345088766844465) Fast.te14364793385576792824) Fast.te11892475500146522536) :) (rPret w os)
noncomputable abbrev t127(y0:Params):BT:=(nd (boot_o_0 y0) (nd (boot_o_1 y0) (nd (boot_o_3 y0) (nl (boot_o_7 y0)) (nl (o121 y0))) (nd (boot_o_5 y0) (nl (boot_o_9 y0)) (nl (o123 y0)))) (nd (boot_o_2 y0) (nd (boot_o_4 y0) (nl (boot_o_8 y0)) (nl (o122 y0))) (nd (boot_o_6 y0) (nl (boot_o_10 y0)) (nl (o124 y0)))))
noncomputable abbrev F1:=(Life.mk (@List.nil Nat) (@List.nil Nat) (@List.nil Nat) 0 (@List.nil (Prod Nat Nat)) (@List.nil Nat) Bool.false (@List.toArray Nat (@List.nil Nat)) (@List.nil Nat) 0 Bool.false Bool.false Bool.false (@OfNat.ofNat Int 0 (@instOfNat 0)) [@OfNat.ofNat Int 2000 (@instOfNat 2000),@OfNat.ofNat Int 10 (@instOfNat 10),@OfNat.ofNat Int 10 (@instOfNat 10)] Bool.false 0 Bool.true (@List.nil Nat) (@List.nil Nat) 0 Bool.false)
noncomputable abbrev u128(y0:Params)(y1:OsState):SharedT:=(SharedT.mk (t127 y0) 15 F1 ⟨[]⟩ ⟨0,0,0,0⟩ 187 y1)
noncomputable abbrev F47:=(Prod Flow (Prod Shared (Prod Code Pos)))
noncomputable abbrev F70(w:World)(os:OsState):=(@Option.some F47 (Flow.next,((SharedT.abs (u128 (World.params w) os)),(cE,(Pos.mk 0 0 0 0)))))
noncomputable abbrev F81:=(blockOf bE env cE (Pos.mk 0 0 0 0) [topFrame (Pos.mk 0 0 0 0)])
theorem rBlockt(w:World)(os:OsState):(@Eq (Option F47) (Fast.tw14374325043358763698 Fast.tw14364793385576792824 PPl w 11 F4 1 1 (F99 w os) F81) (F70 w os)):=by kernel_rfl
theorem rBlock(w:World)(os:OsState):(@Eq (Option F47) (segRun treeTable PPl w 11 F4 1 1 (F99 w os) F81) (F70 w os)):=Eq.mpr ((congr (@congrArg _ _ _ _ (fun(y0:(∀(y0:F97),(∀(y1:Program),(∀(y2:World),(∀(y3:Nat),(∀(y4:(Option Value)),(∀(y5:Nat),(∀(y6:Nat),(∀(y7:Shared),(∀(y8:Thread),(Option F47)))))))))))=>(fun(y1:F34)=>(@Eq (Option F47) (y0 y1 PPl w 11 F4 1 1 (F99 w os) F81) (F70 w os)))) Fast.te14374325043358763698) Fast.te14364793385576792824) :) (rBlockt w os)
noncomputable abbrev g0:(List Stmt):=[S0 l0 l1,S1 l2 l3]
noncomputable abbrev l120:Str:=⟨⟨[95,95,100,111,99,95,95]⟩⟩
noncomputable abbrev l121:Str:=⟨⟨[95,95,112,97,99,107,97,103,101,95,95]⟩⟩
noncomputable abbrev l122:Str:=⟨⟨[95,95,108,111,97,100,101,114,95,95]⟩⟩
noncomputable abbrev l123:Str:=⟨⟨[95,95,115,112,101,99,95,95]⟩⟩
noncomputable abbrev l124:Str:=⟨⟨[95,95,97,110,110,111,116,97,116,105,111,110,115,95,95]⟩⟩
noncomputable abbrev l125:Str:=⟨⟨[95,95,98,117,105,108,116,105,110,115,95,95]⟩⟩
noncomputable abbrev l126:Str:=⟨⟨[95,95,102,105,108,101,95,95]⟩⟩
noncomputable abbrev l127:Str:=⟨⟨[95,95,99,97,99,104,101,100,95,95]⟩⟩
noncomputable abbrev o129(y0:Params):Obj:=⟨T3,none,.dict #[kh y0 l0 165 (.str l1 187),kh y0 l120 166 .none,kh y0 l121 167 .none,kh y0 l122 168 T10,kh y0 l123 169 .none,kh y0 l124 170 (.ref 6),kh y0 l125 171 (.ref 4),kh y0 l126 173 (.str l117 172),kh y0 l127 174 .none,kh y0 l2 206 (.ref 24)] 10,#[]⟩
noncomputable abbrev o130(y0:Params):Obj:=⟨.none,none,.fields #[.int 2 0,.int 0 0,.ref 20],#[]⟩
noncomputable abbrev o131(y0:Params):Obj:=⟨T2,none,.seq #[T4] 0,#[]⟩
noncomputable abbrev o132(y0:Params):Obj:=⟨T12,none,.fields #[.builtin SL.s10062305145149207511x16,T5],#[]⟩
noncomputable abbrev l128:Str:=⟨⟨[95,95,109,111,100,117,108,101,95,95]⟩⟩
noncomputable abbrev l129:Str:=⟨⟨[95,95,113,117,97,108,110,97,109,101,95,95]⟩⟩
noncomputable abbrev l130:Str:=⟨⟨[95,95,102,105,114,115,116,108,105,110,101,110,111,95,95]⟩⟩
noncomputable abbrev l131:Str:=⟨⟨[95,95,115,116,97,116,105,99,95,97,116,116,114,105,98,117,116,101,115,95,95]⟩⟩
noncomputable abbrev o133(y0:Params):Obj:=⟨T3,none,.dict #[kh y0 l128 196 (.str l1 187),kh y0 l129 198 (.str l2 197),kh y0 l130 200 (.int 2 199),kh y0 l131 201 (.ref 22)] 4,#[]⟩
noncomputable abbrev o136(y0:Params):Obj:=⟨T0,none,.fields #[.str l2 191,.str l2 192,.str l117 193,.int 2 0,.int 0 0,.int 0 0,.int 0 0,.int 0 0,.ref 18,.bool false,.int 181 0,.ref 19,.none,.none,.none,.none,.int 194 0,.int 2 0,.str l117 195],#[]⟩
noncomputable abbrev o137(y0:Params):Obj:=⟨T11,none,.plain,#[some (.ref 20),some (.ref 3),some (.ref 17),none,some (.str l1 187),none,some (.ref 0)]⟩
noncomputable abbrev l132:Str:=⟨⟨[95,95,119,101,97,107,114,101,102,95,95]⟩⟩
noncomputable abbrev o139(y0:Params):Obj:=⟨T3,none,.dict #[kh y0 l128 196 (.str l1 187),kh y0 l130 200 (.int 2 199),kh y0 l131 201 (.ref 22),kh y0 l132 203 (.ref 25),kh y0 l120 204 .none] 3,#[]⟩
noncomputable abbrev o140(y0:Params):Obj:=⟨T5,none,.cls ⟨l2,[T4],[.ref 24,T4,T7,T8,T6],23,l2,true,[],[],false,none,false⟩,#[some (.ref 15),none,some (.str l2 189),some (.str l2 197),some T9,some (.bool true)]⟩
noncomputable abbrev o141(y0:Params):Obj:=⟨T15,none,.fields #[.str l132 202,.ref 24,.builtin SL.s10220274742760427390x26,.none],#[]⟩
noncomputable abbrev o142(y0:Params):Obj:=⟨T13,none,.fields #[.ref 24,.ref 24,.ref 24],#[]⟩
noncomputable abbrev o143(y0:Params):Obj:=⟨T12,none,.fields #[T14,.ref 24],#[]⟩
noncomputable abbrev t144(y0:Params):BT:=(nd (boot_o_7 y0) (nl (o131 y0)) (nl (o139 y0)))
noncomputable abbrev t145(y0:Params):BT:=(nd (o121 y0) (nl (o122 y0)) (nl (o143 y0)))
noncomputable abbrev t146(y0:Params):BT:=(nd (boot_o_9 y0) (nl (o133 y0)) (nl (o141 y0)))
noncomputable abbrev t147(y0:Params):BT:=(nd (boot_o_8 y0) (nl (o132 y0)) (nl (o140 y0)))
noncomputable abbrev t148(y0:Params):BT:=(nd (boot_o_10 y0) (nl (o121 y0)) (nl (o142 y0)))
noncomputable abbrev t149(y0:Params):BT:=(nd (boot_o_0 y0) (nd (boot_o_1 y0) (nd (o129 y0) (t144 y0) (t145 y0)) (nd (boot_o_5 y0) (t146 y0) (nd (o123 y0) (nl (o137 y0)) nz))) (nd (boot_o_2 y0) (nd (boot_o_4 y0) (t147 y0) (nd (o130 y0) (nl (o136 y0)) nz)) (nd (boot_o_6 y0) (t148 y0) (nd (o124 y0) (nl (o121 y0)) nz))))
noncomputable abbrev u150(y0:Params)(y1:OsState):SharedT:=(SharedT.mk (t149 y0) 28 F1 ⟨[]⟩ ⟨0,0,0,0⟩ 207 y1)
noncomputable abbrev F2:=(Prod Flow (Prod SharedT (Prod Code Pos)))
noncomputable abbrev F59:=(piecesOf g0 env cE (Pos.mk 0 0 0 0) [topFrame (Pos.mk 0 0 0 0)])
noncomputable abbrev F86(w:World)(os:OsState):=(u150 (World.params w) os)
noncomputable abbrev F101(w:World)(os:OsState):=(@Option.some F2 (Flow.next,((F86 w os),(cE,(Pos.mk 2 0 3 8)))))
theorem r0t(w:World)(os:OsState):(@Eq (Option F2) (Fast.tw10110043849684766642 Fast.tw14364793385576792824 PPl w 11 F4 1 196 (u128 (World.params w) os) F59) (F101 w os)):=by kernel_rfl
noncomputable abbrev F8:=(∀(y0:F97),(∀(y1:Program),(∀(y2:World),(∀(y3:Nat),(∀(y4:(Option Value)),(∀(y5:Nat),(∀(y6:Nat),(∀(y7:SharedT),(∀(y8:Thread),(Option F2))))))))))
theorem r0(w:World)(os:OsState):(@Eq (Option F2) (segRunT treeTable PPl w 11 F4 1 196 (u128 (World.params w) os) F59) (F101 w os)):=Eq.mpr ((congr (@congrArg _ _ _ _ (fun(y0:F8)=>(fun(y1:F34)=>(@Eq (Option F2) (y0 y1 PPl w 11 F4 1 196 (u128 (World.params w) os) F59) (F101 w os)))) Fast.te10110043849684766642) Fast.te14364793385576792824) :) (r0t w os)
noncomputable abbrev g1:(List Stmt):=[S2 l2 l4]
noncomputable abbrev o151(y0:Params):Obj:=⟨T3,none,.dict #[kh y0 l0 165 (.str l1 187),kh y0 l120 166 .none,kh y0 l121 167 .none,kh y0 l122 168 T10,kh y0 l123 169 .none,kh y0 l124 170 (.ref 6),kh y0 l125 171 (.ref 4),kh y0 l126 173 (.str l117 172),kh y0 l127 174 .none,kh y0 l2 206 (.ref 24),kh y0 l4 222 (.ref 37)] 11,#[]⟩
noncomputable abbrev o152(y0:Params):Obj:=⟨.none,none,.fields #[.int 2 0,.int 0 0,.ref 20,.int 4 0,.int 0 0,.ref 33],#[]⟩
noncomputable abbrev o153(y0:Params):Obj:=⟨T5,none,.cls ⟨l2,[T4],[.ref 24,T4,T7,T8,T6],23,l2,true,[],[.ref 37],false,none,false⟩,#[some (.ref 15),none,some (.str l2 189),some (.str l2 197),some T9,some (.bool true)]⟩
noncomputable abbrev o154(y0:Params):Obj:=⟨T2,none,.seq #[.ref 24] 0,#[]⟩
noncomputable abbrev o156(y0:Params):Obj:=⟨T3,none,.dict #[kh y0 l128 214 (.str l1 187),kh y0 l129 216 (.str l4 215),kh y0 l130 218 (.int 4 217),kh y0 l131 219 (.ref 35)] 4,#[]⟩
noncomputable abbrev o159(y0:Params):Obj:=⟨T0,none,.fields #[.str l4 209,.str l4 210,.str l117 211,.int 4 0,.int 0 0,.int 0 0,.int 0 0,.int 0 0,.ref 31,.bool false,.int 181 0,.ref 32,.none,.none,.none,.none,.int 212 0,.int 4 0,.str l117 213],#[]⟩
noncomputable abbrev o160(y0:Params):Obj:=⟨T11,none,.plain,#[some (.ref 33),some (.ref 3),some (.ref 30),none,some (.str l1 187),none,some (.ref 0)]⟩
noncomputable abbrev o162(y0:Params):Obj:=⟨T3,none,.dict #[kh y0 l128 214 (.str l1 187),kh y0 l130 218 (.int 4 217),kh y0 l131 219 (.ref 35),kh y0 l120 220 .none] 2,#[]⟩
noncomputable abbrev o163(y0:Params):Obj:=⟨T5,none,.cls ⟨l4,[.ref 24],[.ref 37,.ref 24,T4,T7,T8,T6],36,l4,true,[],[],false,none,false⟩,#[some (.ref 28),none,some (.str l4 207),some (.str l4 215),some T9,some (.bool true)]⟩
noncomputable abbrev o164(y0:Params):Obj:=⟨T13,none,.fields #[.ref 37,.ref 37,.ref 37],#[]⟩
noncomputable abbrev o165(y0:Params):Obj:=⟨T12,none,.fields #[T14,.ref 37],#[]⟩
noncomputable abbrev t166(y0:Params):BT:=(nd (boot_o_7 y0) (nd (o131 y0) (nl (o121 y0)) nz) (nd (o139 y0) (nl (o165 y0)) nz))
noncomputable abbrev t167(y0:Params):BT:=(nd (o121 y0) (nd (o122 y0) (nl (o121 y0)) nz) (nl (o143 y0)))
noncomputable abbrev t168(y0:Params):BT:=(nd (boot_o_9 y0) (nd (o133 y0) (nl (o159 y0)) nz) (nl (o141 y0)))
noncomputable abbrev t169(y0:Params):BT:=(nd (o123 y0) (nd (o137 y0) (nl (o163 y0)) nz) (nl (o132 y0)))
noncomputable abbrev t170(y0:Params):BT:=(nd (boot_o_8 y0) (nd (o132 y0) (nl (o122 y0)) nz) (nl (o153 y0)))
noncomputable abbrev t171(y0:Params):BT:=(nd (o152 y0) (nd (o136 y0) (nl (o162 y0)) nz) (nl (o154 y0)))
noncomputable abbrev t172(y0:Params):BT:=(nd (boot_o_10 y0) (nd (o121 y0) (nl (o160 y0)) nz) (nl (o142 y0)))
noncomputable abbrev t173(y0:Params):BT:=(nd (o124 y0) (nd (o121 y0) (nl (o164 y0)) nz) (nl (o156 y0)))
noncomputable abbrev t174(y0:Params):BT:=(nd (boot_o_0 y0) (nd (boot_o_1 y0) (nd (o151 y0) (t166 y0) (t167 y0)) (nd (boot_o_5 y0) (t168 y0) (t169 y0))) (nd (boot_o_2 y0) (nd (boot_o_4 y0) (t170 y0) (t171 y0)) (nd (boot_o_6 y0) (t172 y0) (t173 y0))))
noncomputable abbrev u175(y0:Params)(y1:OsState):SharedT:=(SharedT.mk (t174 y0) 40 F1 ⟨[]⟩ ⟨0,0,0,0⟩ 223 y1)
noncomputable abbrev F60:=(piecesOf g1 env cE (Pos.mk 2 0 3 8) [topFrame (Pos.mk 0 0 0 0)])
noncomputable abbrev F87(w:World)(os:OsState):=(u175 (World.params w) os)
noncomputable abbrev F102(w:World)(os:OsState):=(@Option.some F2 (Flow.next,((F87 w os),(cE,(Pos.mk 4 0 5 8)))))
theorem r1t(w:World)(os:OsState):(@Eq (Option F2) (Fast.tw10110043849684766642 Fast.tw14364793385576792824 PPl w 11 F4 1 214 (F86 w os) F60) (F102 w os)):=by kernel_rfl
theorem r1(w:World)(os:OsState):(@Eq (Option F2) (segRunT treeTable PPl w 11 F4 1 214 (F86 w os) F60) (F102 w os)):=Eq.mpr ((congr (@congrArg _ _ _ _ (fun(y0:F8)=>(fun(y1:F34)=>(@Eq (Option F2) (y0 y1 PPl w 11 F4 1 214 (F86 w os) F60) (F102 w os)))) Fast.te10110043849684766642) Fast.te14364793385576792824) :) (r1t w os)
noncomputable abbrev g2:(List Stmt):=[S3 l2 l5]
noncomputable abbrev o176(y0:Params):Obj:=⟨T3,none,.dict #[kh y0 l0 165 (.str l1 187),kh y0 l120 166 .none,kh y0 l121 167 .none,kh y0 l122 168 T10,kh y0 l123 169 .none,kh y0 l124 170 (.ref 6),kh y0 l125 171 (.ref 4),kh y0 l126 173 (.str l117 172),kh y0 l127 174 .none,kh y0 l2 206 (.ref 24),kh y0 l4 222 (.ref 37),kh y0 l5 238 (.ref 49)] 12,#[]⟩
noncomputable abbrev o177(y0:Params):Obj:=⟨.none,none,.fields #[.int 2 0,.int 0 0,.ref 20,.int 4 0,.int 0 0,.ref 33,.int 6 0,.int 0 0,.ref 45],#[]⟩
noncomputable abbrev o178(y0:Params):Obj:=⟨T5,none,.cls ⟨l2,[T4],[.ref 24,T4,T7,T8,T6],23,l2,true,[],[.ref 37,.ref 49],false,none,false⟩,#[some (.ref 15),none,some (.str l2 189),some (.str l2 197),some T9,some (.bool true)]⟩
noncomputable abbrev o181(y0:Params):Obj:=⟨T3,none,.dict #[kh y0 l128 230 (.str l1 187),kh y0 l129 232 (.str l5 231),kh y0 l130 234 (.int 6 233),kh y0 l131 235 (.ref 47)] 4,#[]⟩
noncomputable abbrev o184(y0:Params):Obj:=⟨T0,none,.fields #[.str l5 225,.str l5 226,.str l117 227,.int 6 0,.int 0 0,.int 0 0,.int 0 0,.int 0 0,.ref 43,.bool false,.int 181 0,.ref 44,.none,.none,.none,.none,.int 228 0,.int 6 0,.str l117 229],#[]⟩
noncomputable abbrev o185(y0:Params):Obj:=⟨T11,none,.plain,#[some (.ref 45),some (.ref 3),some (.ref 42),none,some (.str l1 187),none,some (.ref 0)]⟩
noncomputable abbrev o187(y0:Params):Obj:=⟨T3,none,.dict #[kh y0 l128 230 (.str l1 187),kh y0 l130 234 (.int 6 233),kh y0 l131 235 (.ref 47),kh y0 l120 236 .none] 2,#[]⟩
noncomputable abbrev o188(y0:Params):Obj:=⟨T5,none,.cls ⟨l5,[.ref 24],[.ref 49,.ref 24,T4,T7,T8,T6],48,l5,true,[],[],false,none,false⟩,#[some (.ref 40),none,some (.str l5 223),some (.str l5 231),some T9,some (.bool true)]⟩
noncomputable abbrev o189(y0:Params):Obj:=⟨T13,none,.fields #[.ref 49,.ref 49,.ref 49],#[]⟩
noncomputable abbrev o190(y0:Params):Obj:=⟨T12,none,.fields #[T14,.ref 49],#[]⟩
noncomputable abbrev t191(y0:Params):BT:=(nd (boot_o_7 y0) (nd (o131 y0) (nl (o121 y0)) (nl (o121 y0))) (nd (o139 y0) (nl (o165 y0)) nz))
noncomputable abbrev t192(y0:Params):BT:=(nd (o121 y0) (nd (o122 y0) (nl (o121 y0)) (nl (o190 y0))) (nd (o143 y0) (nl (o121 y0)) nz))
noncomputable abbrev t193(y0:Params):BT:=(nd (boot_o_9 y0) (nd (o133 y0) (nl (o159 y0)) (nl (o188 y0))) (nd (o141 y0) (nl (o132 y0)) nz))
noncomputable abbrev t194(y0:Params):BT:=(nd (o123 y0) (nd (o137 y0) (nl (o163 y0)) nz) (nd (o132 y0) (nl (o184 y0)) nz))
noncomputable abbrev t195(y0:Params):BT:=(nd (boot_o_8 y0) (nd (o132 y0) (nl (o122 y0)) (nl (o187 y0))) (nd (o178 y0) (nl (o154 y0)) nz))
noncomputable abbrev t196(y0:Params):BT:=(nd (o177 y0) (nd (o136 y0) (nl (o162 y0)) nz) (nd (o154 y0) (nl (o122 y0)) nz))
noncomputable abbrev t197(y0:Params):BT:=(nd (boot_o_10 y0) (nd (o121 y0) (nl (o160 y0)) (nl (o189 y0))) (nd (o142 y0) (nl (o181 y0)) nz))
noncomputable abbrev t198(y0:Params):BT:=(nd (o124 y0) (nd (o121 y0) (nl (o164 y0)) nz) (nd (o156 y0) (nl (o185 y0)) nz))
noncomputable abbrev t199(y0:Params):BT:=(nd (boot_o_0 y0) (nd (boot_o_1 y0) (nd (o176 y0) (t191 y0) (t192 y0)) (nd (boot_o_5 y0) (t193 y0) (t194 y0))) (nd (boot_o_2 y0) (nd (boot_o_4 y0) (t195 y0) (t196 y0)) (nd (boot_o_6 y0) (t197 y0) (t198 y0))))
noncomputable abbrev u200(y0:Params)(y1:OsState):SharedT:=(SharedT.mk (t199 y0) 52 F1 ⟨[]⟩ ⟨0,0,0,0⟩ 239 y1)
noncomputable abbrev F61:=(piecesOf g2 env cE (Pos.mk 4 0 5 8) [topFrame (Pos.mk 0 0 0 0)])
noncomputable abbrev F88(w:World)(os:OsState):=(u200 (World.params w) os)
noncomputable abbrev F103(w:World)(os:OsState):=(@Option.some F2 (Flow.next,((F88 w os),(cE,(Pos.mk 6 0 7 8)))))
theorem r2t(w:World)(os:OsState):(@Eq (Option F2) (Fast.tw10110043849684766642 Fast.tw14364793385576792824 PPl w 11 F4 1 214 (F87 w os) F61) (F103 w os)):=by kernel_rfl
theorem r2(w:World)(os:OsState):(@Eq (Option F2) (segRunT treeTable PPl w 11 F4 1 214 (F87 w os) F61) (F103 w os)):=Eq.mpr ((congr (@congrArg _ _ _ _ (fun(y0:F8)=>(fun(y1:F34)=>(@Eq (Option F2) (y0 y1 PPl w 11 F4 1 214 (F87 w os) F61) (F103 w os)))) Fast.te10110043849684766642) Fast.te14364793385576792824) :) (r2t w os)
noncomputable abbrev g3:(List Stmt):=[S4 l2 l6]
noncomputable abbrev o201(y0:Params):Obj:=⟨T3,none,.dict #[kh y0 l0 165 (.str l1 187),kh y0 l120 166 .none,kh y0 l121 167 .none,kh y0 l122 168 T10,kh y0 l123 169 .none,kh y0 l124 170 (.ref 6),kh y0 l125 171 (.ref 4),kh y0 l126 173 (.str l117 172),kh y0 l127 174 .none,kh y0 l2 206 (.ref 24),kh y0 l4 222 (.ref 37),kh y0 l5 238 (.ref 49),kh y0 l6 254 (.ref 61)] 13,#[]⟩
noncomputable abbrev o202(y0:Params):Obj:=⟨.none,none,.fields #[.int 2 0,.int 0 0,.ref 20,.int 4 0,.int 0 0,.ref 33,.int 6 0,.int 0 0,.ref 45,.int 8 0,.int 0 0,.ref 57],#[]⟩
noncomputable abbrev o203(y0:Params):Obj:=⟨T5,none,.cls ⟨l2,[T4],[.ref 24,T4,T7,T8,T6],23,l2,true,[],[.ref 37,.ref 49,.ref 61],false,none,false⟩,#[some (.ref 15),none,some (.str l2 189),some (.str l2 197),some T9,some (.bool true)]⟩
noncomputable abbrev o206(y0:Params):Obj:=⟨T3,none,.dict #[kh y0 l128 246 (.str l1 187),kh y0 l129 248 (.str l6 247),kh y0 l130 250 (.int 8 249),kh y0 l131 251 (.ref 59)] 4,#[]⟩
noncomputable abbrev o209(y0:Params):Obj:=⟨T0,none,.fields #[.str l6 241,.str l6 242,.str l117 243,.int 8 0,.int 0 0,.int 0 0,.int 0 0,.int 0 0,.ref 55,.bool false,.int 181 0,.ref 56,.none,.none,.none,.none,.int 244 0,.int 8 0,.str l117 245],#[]⟩
noncomputable abbrev o210(y0:Params):Obj:=⟨T11,none,.plain,#[some (.ref 57),some (.ref 3),some (.ref 54),none,some (.str l1 187),none,some (.ref 0)]⟩
noncomputable abbrev o212(y0:Params):Obj:=⟨T3,none,.dict #[kh y0 l128 246 (.str l1 187),kh y0 l130 250 (.int 8 249),kh y0 l131 251 (.ref 59),kh y0 l120 252 .none] 2,#[]⟩
noncomputable abbrev o213(y0:Params):Obj:=⟨T5,none,.cls ⟨l6,[.ref 24],[.ref 61,.ref 24,T4,T7,T8,T6],60,l6,true,[],[],false,none,false⟩,#[some (.ref 52),none,some (.str l6 239),some (.str l6 247),some T9,some (.bool true)]⟩
noncomputable abbrev o214(y0:Params):Obj:=⟨T13,none,.fields #[.ref 61,.ref 61,.ref 61],#[]⟩
noncomputable abbrev o215(y0:Params):Obj:=⟨T12,none,.fields #[T14,.ref 61],#[]⟩
noncomputable abbrev t216(y0:Params):BT:=(nd (boot_o_7 y0) (nd (o131 y0) (nd (o121 y0) (nl (o215 y0)) nz) (nl (o121 y0))) (nd (o139 y0) (nl (o165 y0)) (nl (o121 y0))))
noncomputable abbrev t217(y0:Params):BT:=(nd (o121 y0) (nd (o122 y0) (nl (o121 y0)) (nl (o190 y0))) (nd (o143 y0) (nl (o121 y0)) (nl (o121 y0))))
noncomputable abbrev t218(y0:Params):BT:=(nd (boot_o_9 y0) (nd (o133 y0) (nl (o159 y0)) (nl (o188 y0))) (nd (o141 y0) (nl (o132 y0)) (nl (o209 y0))))
noncomputable abbrev t219(y0:Params):BT:=(nd (o123 y0) (nd (o137 y0) (nl (o163 y0)) (nl (o132 y0))) (nd (o132 y0) (nl (o184 y0)) (nl (o213 y0))))
noncomputable abbrev t220(y0:Params):BT:=(nd (boot_o_8 y0) (nd (o132 y0) (nl (o122 y0)) (nl (o187 y0))) (nd (o203 y0) (nl (o154 y0)) (nl (o122 y0))))
noncomputable abbrev t221(y0:Params):BT:=(nd (o202 y0) (nd (o136 y0) (nl (o162 y0)) (nl (o154 y0))) (nd (o154 y0) (nl (o122 y0)) (nl (o212 y0))))
noncomputable abbrev t222(y0:Params):BT:=(nd (boot_o_10 y0) (nd (o121 y0) (nl (o160 y0)) (nl (o189 y0))) (nd (o142 y0) (nl (o181 y0)) (nl (o210 y0))))
noncomputable abbrev t223(y0:Params):BT:=(nd (o124 y0) (nd (o121 y0) (nl (o164 y0)) (nl (o206 y0))) (nd (o156 y0) (nl (o185 y0)) (nl (o214 y0))))
noncomputable abbrev t224(y0:Params):BT:=(nd (boot_o_0 y0) (nd (boot_o_1 y0) (nd (o201 y0) (t216 y0) (t217 y0)) (nd (boot_o_5 y0) (t218 y0) (t219 y0))) (nd (boot_o_2 y0) (nd (boot_o_4 y0) (t220 y0) (t221 y0)) (nd (boot_o_6 y0) (t222 y0) (t223 y0))))
noncomputable abbrev u225(y0:Params)(y1:OsState):SharedT:=(SharedT.mk (t224 y0) 64 F1 ⟨[]⟩ ⟨0,0,0,0⟩ 255 y1)
noncomputable abbrev F62:=(piecesOf g3 env cE (Pos.mk 6 0 7 8) [topFrame (Pos.mk 0 0 0 0)])
noncomputable abbrev F89(w:World)(os:OsState):=(u225 (World.params w) os)
noncomputable abbrev F104(w:World)(os:OsState):=(@Option.some F2 (Flow.next,((F89 w os),(cE,(Pos.mk 8 0 9 8)))))
theorem r3t(w:World)(os:OsState):(@Eq (Option F2) (Fast.tw10110043849684766642 Fast.tw14364793385576792824 PPl w 11 F4 1 214 (F88 w os) F62) (F104 w os)):=by kernel_rfl
theorem r3(w:World)(os:OsState):(@Eq (Option F2) (segRunT treeTable PPl w 11 F4 1 214 (F88 w os) F62) (F104 w os)):=Eq.mpr ((congr (@congrArg _ _ _ _ (fun(y0:F8)=>(fun(y1:F34)=>(@Eq (Option F2) (y0 y1 PPl w 11 F4 1 214 (F88 w os) F62) (F104 w os)))) Fast.te10110043849684766642) Fast.te14364793385576792824) :) (r3t w os)
noncomputable abbrev g4:(List Stmt):=[S5 l2 l7,S6 l0 l8,S7 l9,S11 l10 l11 l12 l13 l14,S15 l10 l12 l15 l16 l17 l18 l19,S19 l4 l5 l9 l15 l16 l18 l20 l21 l22 l23,S20 l0 l24,S24 l18 l21 l25 l26 l27 l28 l29 l30,S28 l18 l21 l26 l27 l29 l30 l31 l32 l33 l34 l35 l36 l37]
noncomputable abbrev o226(y0:Params):Obj:=⟨T3,none,.dict #[kh y0 l0 165 (.str l24 298),kh y0 l120 166 .none,kh y0 l121 167 .none,kh y0 l122 168 T10,kh y0 l123 169 .none,kh y0 l124 170 (.ref 6),kh y0 l125 171 (.ref 4),kh y0 l126 173 (.str l117 172),kh y0 l127 174 .none,kh y0 l2 206 (.ref 24),kh y0 l4 222 (.ref 37),kh y0 l5 238 (.ref 49),kh y0 l6 254 (.ref 61),kh y0 l7 270 (.ref 73),kh y0 l9 274 (.int 60 273),kh y0 l10 281 (.ref 82),kh y0 l15 289 (.ref 89),kh y0 l20 297 (.ref 96),kh y0 l25 310 (.ref 103),kh y0 l31 316 (.ref 108)] 20,#[]⟩
noncomputable abbrev o227(y0:Params):Obj:=⟨.none,none,.fields #[.int 2 0,.int 0 0,.ref 20,.int 4 0,.int 0 0,.ref 33,.int 6 0,.int 0 0,.ref 45,.int 8 0,.int 0 0,.ref 57,.int 10 0,.int 0 0,.ref 69,.int 14 0,.int 0 0,.ref 81,.int 16 0,.int 0 0,.ref 88,.int 23 0,.int 0 0,.ref 95,.int 30 0,.int 0 0,.ref 102,.int 37 0,.int 0 0,.ref 107],#[]⟩
noncomputable abbrev o228(y0:Params):Obj:=⟨T5,none,.cls ⟨l2,[T4],[.ref 24,T4,T7,T8,T6],23,l2,true,[],[.ref 37,.ref 49,.ref 61,.ref 73],false,none,false⟩,#[some (.ref 15),none,some (.str l2 189),some (.str l2 197),some T9,some (.bool true)]⟩
noncomputable abbrev o231(y0:Params):Obj:=⟨T3,none,.dict #[kh y0 l128 262 (.str l1 187),kh y0 l129 264 (.str l7 263),kh y0 l130 266 (.int 10 265),kh y0 l131 267 (.ref 71)] 4,#[]⟩
noncomputable abbrev o234(y0:Params):Obj:=⟨T0,none,.fields #[.str l7 257,.str l7 258,.str l117 259,.int 10 0,.int 0 0,.int 0 0,.int 0 0,.int 0 0,.ref 67,.bool false,.int 181 0,.ref 68,.none,.none,.none,.none,.int 260 0,.int 10 0,.str l117 261],#[]⟩
noncomputable abbrev o235(y0:Params):Obj:=⟨T11,none,.plain,#[some (.ref 69),some (.ref 3),some (.ref 66),none,some (.str l1 187),none,some (.ref 0)]⟩
noncomputable abbrev o237(y0:Params):Obj:=⟨T3,none,.dict #[kh y0 l128 262 (.str l1 187),kh y0 l130 266 (.int 10 265),kh y0 l131 267 (.ref 71),kh y0 l120 268 .none] 2,#[]⟩
noncomputable abbrev o238(y0:Params):Obj:=⟨T5,none,.cls ⟨l7,[.ref 24],[.ref 73,.ref 24,T4,T7,T8,T6],72,l7,true,[],[],false,none,false⟩,#[some (.ref 64),none,some (.str l7 255),some (.str l7 263),some T9,some (.bool true)]⟩
noncomputable abbrev o239(y0:Params):Obj:=⟨T13,none,.fields #[.ref 73,.ref 73,.ref 73],#[]⟩
noncomputable abbrev o240(y0:Params):Obj:=⟨T12,none,.fields #[T14,.ref 73],#[]⟩
noncomputable abbrev o243(y0:Params):Obj:=⟨T2,none,.seq #[.str l11 278] 0,#[]⟩
noncomputable abbrev o245(y0:Params):Obj:=⟨.none,none,.func ⟨l10,l10,A8 l11,.stmts (B9 l11 l12 l13 l14),C10 l11 l12 l13 l14,0,[],.none,.none,.none,.none,none,.none,.none,0⟩,#[]⟩
noncomputable abbrev o246(y0:Params):Obj:=⟨T0,none,.fields #[.str l10 275,.str l10 276,.str l117 277,.int 14 0,.int 1 0,.int 0 0,.int 0 0,.int 3 0,.ref 76,.bool true,.int 181 0,.ref 77,.none,.ref 78,.ref 79,.ref 80,.int 279 0,.int 14 0,.str l117 280],#[]⟩
noncomputable abbrev o247(y0:Params):Obj:=⟨T1,none,.func ⟨l10,l10,A8 l11,.stmts (B9 l11 l12 l13 l14),C10 l11 l12 l13 l14,3,[],.none,.none,.none,.str l8 271,none,.ref 81,.none,0⟩,#[]⟩
noncomputable abbrev o250(y0:Params):Obj:=⟨T2,none,.seq #[.str l16 285,.str l19 286] 0,#[]⟩
noncomputable abbrev o252(y0:Params):Obj:=⟨.none,none,.func ⟨l15,l15,A12 l16,.stmts (B13 l10 l12 l16 l17 l18 l19),C14 l10 l12 l16 l17 l18 l19,0,[],.none,.none,.none,.none,none,.none,.none,0⟩,#[]⟩
noncomputable abbrev o253(y0:Params):Obj:=⟨T0,none,.fields #[.str l15 282,.str l15 283,.str l117 284,.int 16 0,.int 1 0,.int 0 0,.int 0 0,.int 3 0,.ref 83,.bool true,.int 181 0,.ref 84,.none,.ref 85,.ref 86,.ref 87,.int 287 0,.int 16 0,.str l117 288],#[]⟩
noncomputable abbrev o254(y0:Params):Obj:=⟨T1,none,.func ⟨l15,l15,A12 l16,.stmts (B13 l10 l12 l16 l17 l18 l19),C14 l10 l12 l16 l17 l18 l19,3,[],.none,.none,.none,.str l8 271,none,.ref 88,.none,0⟩,#[]⟩
noncomputable abbrev o257(y0:Params):Obj:=⟨T2,none,.seq #[.str l21 293,.str l16 294] 0,#[]⟩
noncomputable abbrev o259(y0:Params):Obj:=⟨.none,none,.func ⟨l20,l20,A16 l21,.stmts (B17 l4 l5 l9 l15 l16 l18 l21 l22 l23),C18 l4 l5 l9 l15 l16 l18 l21,0,[],.none,.none,.none,.none,none,.none,.none,0⟩,#[]⟩
noncomputable abbrev o260(y0:Params):Obj:=⟨T0,none,.fields #[.str l20 290,.str l20 291,.str l117 292,.int 23 0,.int 1 0,.int 0 0,.int 0 0,.int 3 0,.ref 90,.bool true,.int 181 0,.ref 91,.none,.ref 92,.ref 93,.ref 94,.int 295 0,.int 23 0,.str l117 296],#[]⟩
noncomputable abbrev o261(y0:Params):Obj:=⟨T1,none,.func ⟨l20,l20,A16 l21,.stmts (B17 l4 l5 l9 l15 l16 l18 l21 l22 l23),C18 l4 l5 l9 l15 l16 l18 l21,3,[],.none,.none,.none,.str l8 271,none,.ref 95,.none,0⟩,#[]⟩
noncomputable abbrev o264(y0:Params):Obj:=⟨T2,none,.seq #[.str l21 303,.str l26 304,.str l27 305,.str l28 306,.str l29 307] 0,#[]⟩
noncomputable abbrev o266(y0:Params):Obj:=⟨.none,none,.func ⟨l25,l25,A21 l21 l26 l27,.stmts (B22 l18 l21 l26 l27 l28 l29 l30),C23 l18 l21 l26 l27 l28 l29 l30,0,[],.none,.none,.none,.none,none,.none,.none,0⟩,#[]⟩
noncomputable abbrev o267(y0:Params):Obj:=⟨T0,none,.fields #[.str l25 300,.str l25 301,.str l117 302,.int 30 0,.int 3 0,.int 0 0,.int 0 0,.int 3 0,.ref 97,.bool true,.int 181 0,.ref 98,.none,.ref 99,.ref 100,.ref 101,.int 308 0,.int 30 0,.str l117 309],#[]⟩
noncomputable abbrev o268(y0:Params):Obj:=⟨T1,none,.func ⟨l25,l25,A21 l21 l26 l27,.stmts (B22 l18 l21 l26 l27 l28 l29 l30),C23 l18 l21 l26 l27 l28 l29 l30,3,[],.none,.none,.none,.str l24 298,none,.ref 102,.none,0⟩,#[]⟩
noncomputable abbrev o271(y0:Params):Obj:=⟨.none,none,.func ⟨l31,l31,A25 l21 l26 l27,.stmts (B26 l18 l21 l26 l27 l29 l30 l32 l33 l34 l35 l36),C27 l18 l21 l26 l27 l29 l30 l32 l34 l35 l37,0,[],.none,.none,.none,.none,none,.none,.none,0⟩,#[]⟩
noncomputable abbrev o272(y0:Params):Obj:=⟨T0,none,.fields #[.str l31 311,.str l31 312,.str l117 313,.int 37 0,.int 3 0,.int 0 0,.int 0 0,.int 3 0,.ref 104,.bool true,.int 181 0,.ref 105,.none,.none,.none,.ref 106,.int 314 0,.int 37 0,.str l117 315],#[]⟩
noncomputable abbrev o273(y0:Params):Obj:=⟨T1,none,.func ⟨l31,l31,A25 l21 l26 l27,.stmts (B26 l18 l21 l26 l27 l29 l30 l32 l33 l34 l35 l36),C27 l18 l21 l26 l27 l29 l30 l32 l34 l35 l37,3,[],.none,.none,.none,.str l24 298,none,.ref 107,.none,0⟩,#[]⟩
noncomputable abbrev t274(y0:Params):BT:=(nd (boot_o_7 y0) (nd (o131 y0) (nd (o121 y0) (nl (o215 y0)) (nl (o260 y0))) (nd (o121 y0) (nl (o121 y0)) nz)) (nd (o139 y0) (nd (o165 y0) (nl (o121 y0)) (nl (o268 y0))) (nd (o121 y0) (nl (o252 y0)) nz)))
noncomputable abbrev t275(y0:Params):BT:=(nd (o121 y0) (nd (o122 y0) (nd (o121 y0) (nl (o121 y0)) (nl (o264 y0))) (nd (o190 y0) (nl (o121 y0)) nz)) (nd (o143 y0) (nd (o121 y0) (nl (o240 y0)) (nl (o272 y0))) (nd (o121 y0) (nl (o122 y0)) nz)))
noncomputable abbrev t276(y0:Params):BT:=(nd (boot_o_9 y0) (nd (o133 y0) (nd (o159 y0) (nl (o132 y0)) (nl (o121 y0))) (nd (o188 y0) (nl (o246 y0)) nz)) (nd (o141 y0) (nd (o132 y0) (nl (o238 y0)) (nl (o122 y0))) (nd (o209 y0) (nl (o254 y0)) nz)))
noncomputable abbrev t277(y0:Params):BT:=(nd (o123 y0) (nd (o137 y0) (nd (o163 y0) (nl (o234 y0)) (nl (o266 y0))) (nd (o132 y0) (nl (o250 y0)) nz)) (nd (o132 y0) (nd (o184 y0) (nl (o122 y0)) nz) (nd (o213 y0) (nl (o121 y0)) nz)))
noncomputable abbrev t278(y0:Params):BT:=(nd (boot_o_8 y0) (nd (o132 y0) (nd (o122 y0) (nl (o154 y0)) (nl (o261 y0))) (nd (o187 y0) (nl (o245 y0)) nz)) (nd (o228 y0) (nd (o154 y0) (nl (o237 y0)) (nl (o121 y0))) (nd (o122 y0) (nl (o253 y0)) nz)))
noncomputable abbrev t279(y0:Params):BT:=(nd (o227 y0) (nd (o136 y0) (nd (o162 y0) (nl (o122 y0)) (nl (o121 y0))) (nd (o154 y0) (nl (o122 y0)) nz)) (nd (o154 y0) (nd (o122 y0) (nl (o121 y0)) (nl (o273 y0))) (nd (o212 y0) (nl (o257 y0)) nz)))
noncomputable abbrev t280(y0:Params):BT:=(nd (boot_o_10 y0) (nd (o121 y0) (nd (o160 y0) (nl (o231 y0)) (nl (o122 y0))) (nd (o189 y0) (nl (o247 y0)) nz)) (nd (o142 y0) (nd (o181 y0) (nl (o239 y0)) (nl (o271 y0))) (nd (o210 y0) (nl (o121 y0)) nz)))
noncomputable abbrev t281(y0:Params):BT:=(nd (o124 y0) (nd (o121 y0) (nd (o164 y0) (nl (o235 y0)) (nl (o267 y0))) (nd (o206 y0) (nl (o121 y0)) nz)) (nd (o156 y0) (nd (o185 y0) (nl (o243 y0)) nz) (nd (o214 y0) (nl (o259 y0)) nz)))
noncomputable abbrev t282(y0:Params):BT:=(nd (boot_o_0 y0) (nd (boot_o_1 y0) (nd (o226 y0) (t274 y0) (t275 y0)) (nd (boot_o_5 y0) (t276 y0) (t277 y0))) (nd (boot_o_2 y0) (nd (boot_o_4 y0) (t278 y0) (t279 y0)) (nd (boot_o_6 y0) (t280 y0) (t281 y0))))
noncomputable abbrev u283(y0:Params)(y1:OsState):SharedT:=(SharedT.mk (t282 y0) 109 F1 ⟨[]⟩ ⟨0,0,0,0⟩ 317 y1)
noncomputable abbrev F63:=(piecesOf g4 env cE (Pos.mk 8 0 9 8) [topFrame (Pos.mk 0 0 0 0)])
noncomputable abbrev F106(w:World)(os:OsState):=(u283 (World.params w) os)
noncomputable abbrev F84(w:World)(os:OsState):=(@Option.some F2 (Flow.next,((F106 w os),(cE,(Pos.mk 37 0 39 69)))))
theorem r4t(w:World)(os:OsState):(@Eq (Option F2) (Fast.tw10110043849684766642 Fast.tw14364793385576792824 PPl w 11 F4 1 389 (F89 w os) F63) (F84 w os)):=by kernel_rfl
theorem r4(w:World)(os:OsState):(@Eq (Option F2) (segRunT treeTable PPl w 11 F4 1 389 (F89 w os) F63) (F84 w os)):=Eq.mpr ((congr (@congrArg _ _ _ _ (fun(y0:F8)=>(fun(y1:F34)=>(@Eq (Option F2) (y0 y1 PPl w 11 F4 1 389 (F89 w os) F63) (F84 w os)))) Fast.te10110043849684766642) Fast.te14364793385576792824) :) (r4t w os)
noncomputable abbrev g5:(List Stmt):=[S32 l29 l38 l39 l40 l41,S36 l16 l20 l21 l25 l26 l27 l29 l31 l33 l37 l38 l39 l41 l42 l43 l44,S37 l0 l45,S41 l16 l21 l33 l37 l42 l46 l47 l48,S45 l18 l21 l29 l30 l33 l37 l46 l49 l50 l51 l52 l53,S46 l0 l54,S50 l21 l34 l39 l40 l41 l48 l55 l56,S54 l21 l29 l39 l41 l42 l49 l55 l57 l58 l59,S55 l0 l60]
noncomputable abbrev o284(y0:Params):Obj:=⟨T3,none,.dict #[kh y0 l0 165 (.str l60 371),kh y0 l120 166 .none,kh y0 l121 167 .none,kh y0 l122 168 T10,kh y0 l123 169 .none,kh y0 l124 170 (.ref 6),kh y0 l125 171 (.ref 4),kh y0 l126 173 (.str l117 172),kh y0 l127 174 .none,kh y0 l2 206 (.ref 24),kh y0 l4 222 (.ref 37),kh y0 l5 238 (.ref 49),kh y0 l6 254 (.ref 61),kh y0 l7 270 (.ref 73),kh y0 l9 274 (.int 60 273),kh y0 l10 281 (.ref 82),kh y0 l15 289 (.ref 89),kh y0 l20 297 (.ref 96),kh y0 l25 310 (.ref 103),kh y0 l31 316 (.ref 108),kh y0 l38 326 (.ref 115),kh y0 l42 332 (.ref 120),kh y0 l46 340 (.ref 125),kh y0 l49 346 (.ref 130),kh y0 l55 359 (.ref 137),kh y0 l57 370 (.ref 144)] 26,#[]⟩
noncomputable abbrev o285(y0:Params):Obj:=⟨.none,none,.fields #[.int 2 0,.int 0 0,.ref 20,.int 4 0,.int 0 0,.ref 33,.int 6 0,.int 0 0,.ref 45,.int 8 0,.int 0 0,.ref 57,.int 10 0,.int 0 0,.ref 69,.int 14 0,.int 0 0,.ref 81,.int 16 0,.int 0 0,.ref 88,.int 23 0,.int 0 0,.ref 95,.int 30 0,.int 0 0,.ref 102,.int 37 0,.int 0 0,.ref 107,.int 40 0,.int 0 0,.ref 114,.int 44 0,.int 0 0,.ref 119,.int 63 0,.int 0 0,.ref 124,.int 68 0,.int 0 0,.ref 129,.int 73 0,.int 0 0,.ref 136,.int 81 0,.int 0 0,.ref 143],#[]⟩
noncomputable abbrev o288(y0:Params):Obj:=⟨T2,none,.seq #[.str l39 320,.str l29 321,.str l40 322,.str l41 323] 0,#[]⟩
noncomputable abbrev o290(y0:Params):Obj:=⟨.none,none,.func ⟨l38,l38,A29 l29 l39 l40 l41,.stmts (B30 l29 l39 l40 l41),C31 l29 l39 l40 l41,0,[],.none,.none,.none,.none,none,.none,.none,0⟩,#[]⟩
noncomputable abbrev o291(y0:Params):Obj:=⟨T0,none,.fields #[.str l38 317,.str l38 318,.str l117 319,.int 40 0,.int 4 0,.int 0 0,.int 0 0,.int 3 0,.ref 109,.bool true,.int 181 0,.ref 110,.none,.ref 111,.ref 112,.ref 113,.int 324 0,.int 40 0,.str l117 325],#[]⟩
noncomputable abbrev o292(y0:Params):Obj:=⟨T1,none,.func ⟨l38,l38,A29 l29 l39 l40 l41,.stmts (B30 l29 l39 l40 l41),C31 l29 l39 l40 l41,3,[],.none,.none,.none,.str l24 298,none,.ref 114,.none,0⟩,#[]⟩
noncomputable abbrev o295(y0:Params):Obj:=⟨.none,none,.func ⟨l42,l42,A33 l21,.stmts (B34 l16 l20 l21 l25 l26 l27 l29 l31 l33 l38 l39 l41 l43 l44),C35 l16 l20 l21 l25 l26 l27 l29 l31 l37 l38 l39 l41 l43 l44,0,[],.none,.none,.none,.none,none,.none,.none,0⟩,#[]⟩
noncomputable abbrev o296(y0:Params):Obj:=⟨T0,none,.fields #[.str l42 327,.str l42 328,.str l117 329,.int 44 0,.int 1 0,.int 0 0,.int 0 0,.int 3 0,.ref 116,.bool true,.int 181 0,.ref 117,.none,.none,.none,.ref 118,.int 330 0,.int 44 0,.str l117 331],#[]⟩
noncomputable abbrev o297(y0:Params):Obj:=⟨T1,none,.func ⟨l42,l42,A33 l21,.stmts (B34 l16 l20 l21 l25 l26 l27 l29 l31 l33 l38 l39 l41 l43 l44),C35 l16 l20 l21 l25 l26 l27 l29 l31 l37 l38 l39 l41 l43 l44,3,[],.none,.none,.none,.str l24 298,none,.ref 119,.none,0⟩,#[]⟩
noncomputable abbrev o300(y0:Params):Obj:=⟨.none,none,.func ⟨l46,l46,A38 l21,.stmts (B39 l16 l21 l33 l42 l47 l48),C40 l16 l21 l37 l42 l47 l48,0,[],.none,.none,.none,.none,none,.none,.none,0⟩,#[]⟩
noncomputable abbrev o301(y0:Params):Obj:=⟨T0,none,.fields #[.str l46 335,.str l46 336,.str l117 337,.int 63 0,.int 1 0,.int 0 0,.int 0 0,.int 3 0,.ref 121,.bool true,.int 181 0,.ref 122,.none,.none,.none,.ref 123,.int 338 0,.int 63 0,.str l117 339],#[]⟩
noncomputable abbrev o302(y0:Params):Obj:=⟨T1,none,.func ⟨l46,l46,A38 l21,.stmts (B39 l16 l21 l33 l42 l47 l48),C40 l16 l21 l37 l42 l47 l48,3,[],.none,.none,.none,.str l45 333,none,.ref 124,.none,0⟩,#[]⟩
noncomputable abbrev o305(y0:Params):Obj:=⟨.none,none,.func ⟨l49,l49,A42 l21,.stmts (B43 l18 l21 l29 l30 l33 l46 l50 l51 l52 l53),C44 l18 l21 l29 l30 l37 l46 l50 l51 l52 l53,0,[],.none,.none,.none,.none,none,.none,.none,0⟩,#[]⟩
noncomputable abbrev o306(y0:Params):Obj:=⟨T0,none,.fields #[.str l49 341,.str l49 342,.str l117 343,.int 68 0,.int 1 0,.int 0 0,.int 0 0,.int 3 0,.ref 126,.bool true,.int 181 0,.ref 127,.none,.none,.none,.ref 128,.int 344 0,.int 68 0,.str l117 345],#[]⟩
noncomputable abbrev o307(y0:Params):Obj:=⟨T1,none,.func ⟨l49,l49,A42 l21,.stmts (B43 l18 l21 l29 l30 l33 l46 l50 l51 l52 l53),C44 l18 l21 l29 l30 l37 l46 l50 l51 l52 l53,3,[],.none,.none,.none,.str l45 333,none,.ref 129,.none,0⟩,#[]⟩
noncomputable abbrev o310(y0:Params):Obj:=⟨T2,none,.seq #[.str l21 352,.str l39 353,.str l41 354,.str l40 355,.str l48 356] 0,#[]⟩
noncomputable abbrev o312(y0:Params):Obj:=⟨.none,none,.func ⟨l55,l55,A47 l21 l39 l41,.stmts (B48 l21 l34 l39 l40 l41 l48 l56),C49 l21 l34 l39 l40 l41 l48 l56,0,[],.none,.none,.none,.none,none,.none,.none,0⟩,#[]⟩
noncomputable abbrev o313(y0:Params):Obj:=⟨T0,none,.fields #[.str l55 349,.str l55 350,.str l117 351,.int 73 0,.int 3 0,.int 0 0,.int 0 0,.int 3 0,.ref 131,.bool true,.int 181 0,.ref 132,.none,.ref 133,.ref 134,.ref 135,.int 357 0,.int 73 0,.str l117 358],#[]⟩
noncomputable abbrev o314(y0:Params):Obj:=⟨T1,none,.func ⟨l55,l55,A47 l21 l39 l41,.stmts (B48 l21 l34 l39 l40 l41 l48 l56),C49 l21 l34 l39 l40 l41 l48 l56,3,[],.none,.none,.none,.str l54 347,none,.ref 136,.none,0⟩,#[]⟩
noncomputable abbrev o317(y0:Params):Obj:=⟨T2,none,.seq #[.str l21 363,.str l39 364,.str l58 365,.str l29 366,.str l41 367] 0,#[]⟩
noncomputable abbrev o319(y0:Params):Obj:=⟨.none,none,.func ⟨l57,l57,A51 l21,.stmts (B52 l21 l29 l39 l41 l42 l49 l55 l58 l59),C53 l21 l29 l39 l41 l42 l49 l55 l58,0,[],.none,.none,.none,.none,none,.none,.none,0⟩,#[]⟩
noncomputable abbrev o320(y0:Params):Obj:=⟨T0,none,.fields #[.str l57 360,.str l57 361,.str l117 362,.int 81 0,.int 1 0,.int 0 0,.int 0 0,.int 3 0,.ref 138,.bool true,.int 181 0,.ref 139,.none,.ref 140,.ref 141,.ref 142,.int 368 0,.int 81 0,.str l117 369],#[]⟩
noncomputable abbrev o321(y0:Params):Obj:=⟨T1,none,.func ⟨l57,l57,A51 l21,.stmts (B52 l21 l29 l39 l41 l42 l49 l55 l58 l59),C53 l21 l29 l39 l41 l42 l49 l55 l58,3,[],.none,.none,.none,.str l54 347,none,.ref 143,.none,0⟩,#[]⟩
noncomputable abbrev t322(y0:Params):BT:=(nd (boot_o_7 y0) (nd (o131 y0) (nd (o121 y0) (nd (o215 y0) (nl (o122 y0)) nz) (nl (o260 y0))) (nd (o121 y0) (nd (o121 y0) (nl (o320 y0)) nz) (nl (o288 y0)))) (nd (o139 y0) (nd (o165 y0) (nd (o121 y0) (nl (o312 y0)) nz) (nl (o268 y0))) (nd (o121 y0) (nl (o252 y0)) (nl (o296 y0)))))
noncomputable abbrev t323(y0:Params):BT:=(nd (o121 y0) (nd (o122 y0) (nd (o121 y0) (nd (o121 y0) (nl (o121 y0)) nz) (nl (o264 y0))) (nd (o190 y0) (nl (o121 y0)) (nl (o292 y0)))) (nd (o143 y0) (nd (o121 y0) (nd (o240 y0) (nl (o122 y0)) nz) (nl (o272 y0))) (nd (o121 y0) (nl (o122 y0)) (nl (o300 y0)))))
noncomputable abbrev t324(y0:Params):BT:=(nd (boot_o_9 y0) (nd (o133 y0) (nd (o159 y0) (nd (o132 y0) (nl (o306 y0)) nz) (nl (o121 y0))) (nd (o188 y0) (nl (o246 y0)) (nl (o290 y0)))) (nd (o141 y0) (nd (o132 y0) (nd (o238 y0) (nl (o314 y0)) nz) (nl (o122 y0))) (nd (o209 y0) (nl (o254 y0)) (nl (o121 y0)))))
noncomputable abbrev t325(y0:Params):BT:=(nd (o123 y0) (nd (o137 y0) (nd (o163 y0) (nd (o234 y0) (nl (o310 y0)) nz) (nl (o266 y0))) (nd (o132 y0) (nl (o250 y0)) (nl (o122 y0)))) (nd (o132 y0) (nd (o184 y0) (nd (o122 y0) (nl (o121 y0)) nz) (nl (o121 y0))) (nd (o213 y0) (nl (o121 y0)) (nl (o302 y0)))))
noncomputable abbrev t326(y0:Params):BT:=(nd (boot_o_8 y0) (nd (o132 y0) (nd (o122 y0) (nd (o154 y0) (nl (o305 y0)) nz) (nl (o261 y0))) (nd (o187 y0) (nd (o245 y0) (nl (o321 y0)) nz) (nl (o121 y0)))) (nd (o228 y0) (nd (o154 y0) (nd (o237 y0) (nl (o313 y0)) nz) (nl (o121 y0))) (nd (o122 y0) (nl (o253 y0)) (nl (o297 y0)))))
noncomputable abbrev t327(y0:Params):BT:=(nd (o285 y0) (nd (o136 y0) (nd (o162 y0) (nd (o122 y0) (nl (o122 y0)) nz) (nl (o121 y0))) (nd (o154 y0) (nl (o122 y0)) (nl (o121 y0)))) (nd (o154 y0) (nd (o122 y0) (nd (o121 y0) (nl (o317 y0)) nz) (nl (o273 y0))) (nd (o212 y0) (nl (o257 y0)) (nl (o301 y0)))))
noncomputable abbrev t328(y0:Params):BT:=(nd (boot_o_10 y0) (nd (o121 y0) (nd (o160 y0) (nd (o231 y0) (nl (o307 y0)) nz) (nl (o122 y0))) (nd (o189 y0) (nl (o247 y0)) (nl (o291 y0)))) (nd (o142 y0) (nd (o181 y0) (nd (o239 y0) (nl (o121 y0)) nz) (nl (o271 y0))) (nd (o210 y0) (nl (o121 y0)) (nl (o122 y0)))))
noncomputable abbrev t329(y0:Params):BT:=(nd (o124 y0) (nd (o121 y0) (nd (o164 y0) (nd (o235 y0) (nl (o121 y0)) nz) (nl (o267 y0))) (nd (o206 y0) (nl (o121 y0)) (nl (o295 y0)))) (nd (o156 y0) (nd (o185 y0) (nd (o243 y0) (nl (o319 y0)) nz) (nl (o122 y0))) (nd (o214 y0) (nl (o259 y0)) (nl (o121 y0)))))
noncomputable abbrev t330(y0:Params):BT:=(nd (boot_o_0 y0) (nd (boot_o_1 y0) (nd (o284 y0) (t322 y0) (t323 y0)) (nd (boot_o_5 y0) (t324 y0) (t325 y0))) (nd (boot_o_2 y0) (nd (boot_o_4 y0) (t326 y0) (t327 y0)) (nd (boot_o_6 y0) (t328 y0) (t329 y0))))
noncomputable abbrev u331(y0:Params)(y1:OsState):SharedT:=(SharedT.mk (t330 y0) 145 F1 ⟨[]⟩ ⟨0,0,0,0⟩ 373 y1)
noncomputable abbrev F54:=(piecesOf g5 env cE (Pos.mk 37 0 39 69) [topFrame (Pos.mk 0 0 0 0)])
noncomputable abbrev F90(w:World)(os:OsState):=(u331 (World.params w) os)
noncomputable abbrev F100(w:World)(os:OsState):=(@Option.some F2 (Flow.next,((F90 w os),(cE,(Pos.mk 89 0 89 8)))))
theorem r5t(w:World)(os:OsState):(@Eq (Option F2) (Fast.tw10110043849684766642 Fast.tw14364793385576792824 PPl w 11 F4 1 204 (F106 w os) F54) (F100 w os)):=by kernel_rfl
theorem r5(w:World)(os:OsState):(@Eq (Option F2) (segRunT treeTable PPl w 11 F4 1 204 (F106 w os) F54) (F100 w os)):=Eq.mpr ((congr (@congrArg _ _ _ _ (fun(y0:F8)=>(fun(y1:F34)=>(@Eq (Option F2) (y0 y1 PPl w 11 F4 1 204 (F106 w os) F54) (F100 w os)))) Fast.te10110043849684766642) Fast.te14364793385576792824) :) (r5t w os)
noncomputable abbrev g6:(List Stmt):=[S71 l4 l5 l6 l9 l15 l16 l18 l23 l29 l42 l47 l57 l59 l61 l62 l63 l64 l65 l66 l67 l68 l69 l70 l71,S72 l0 l72,S76 l12 l13 l14 l73 l74]
noncomputable abbrev o332(y0:Params):Obj:=⟨T3,none,.dict #[kh y0 l0 165 (.str l72 434),kh y0 l120 166 .none,kh y0 l121 167 .none,kh y0 l122 168 T10,kh y0 l123 169 .none,kh y0 l124 170 (.ref 6),kh y0 l125 171 (.ref 4),kh y0 l126 173 (.str l117 172),kh y0 l127 174 .none,kh y0 l2 206 (.ref 24),kh y0 l4 222 (.ref 37),kh y0 l5 238 (.ref 49),kh y0 l6 254 (.ref 61),kh y0 l7 270 (.ref 73),kh y0 l9 274 (.int 60 273),kh y0 l10 281 (.ref 82),kh y0 l15 289 (.ref 89),kh y0 l20 297 (.ref 96),kh y0 l25 310 (.ref 103),kh y0 l31 316 (.ref 108),kh y0 l38 326 (.ref 115),kh y0 l42 332 (.ref 120),kh y0 l46 340 (.ref 125),kh y0 l49 346 (.ref 130),kh y0 l55 359 (.ref 137),kh y0 l57 370 (.ref 144),kh y0 l61 433 (.ref 189),kh y0 l73 442 (.ref 200)] 28,#[]⟩
noncomputable abbrev o333(y0:Params):Obj:=⟨.none,none,.fields #[.int 2 0,.int 0 0,.ref 20,.int 4 0,.int 0 0,.ref 33,.int 6 0,.int 0 0,.ref 45,.int 8 0,.int 0 0,.ref 57,.int 10 0,.int 0 0,.ref 69,.int 14 0,.int 0 0,.ref 81,.int 16 0,.int 0 0,.ref 88,.int 23 0,.int 0 0,.ref 95,.int 30 0,.int 0 0,.ref 102,.int 37 0,.int 0 0,.ref 107,.int 40 0,.int 0 0,.ref 114,.int 44 0,.int 0 0,.ref 119,.int 63 0,.int 0 0,.ref 124,.int 68 0,.int 0 0,.ref 129,.int 73 0,.int 0 0,.ref 136,.int 81 0,.int 0 0,.ref 143,.int 90 0,.int 0 0,.ref 150,.int 120 0,.int 0 0,.ref 199],#[]⟩
noncomputable abbrev o336(y0:Params):Obj:=⟨T3,none,.dict #[kh y0 l128 380 (.str l60 371),kh y0 l129 382 (.str l61 381),kh y0 l130 384 (.int 90 383),kh y0 l62 391 (.ref 158),kh y0 l65 401 (.ref 165),kh y0 l68 410 (.ref 172),kh y0 l70 417 (.ref 179),kh y0 l59 424 (.ref 186),kh y0 l131 426 (.ref 187)] 9,#[]⟩
noncomputable abbrev o338(y0:Params):Obj:=⟨.none,none,.fields #[.int 92 0,.int 4 0,.ref 157,.int 95 0,.int 4 0,.ref 164,.int 107 0,.int 4 0,.ref 171,.int 114 0,.int 4 0,.ref 178,.int 117 0,.int 4 0,.ref 185],#[]⟩
noncomputable abbrev o339(y0:Params):Obj:=⟨T0,none,.fields #[.str l61 375,.str l61 376,.str l117 377,.int 90 0,.int 0 0,.int 0 0,.int 0 0,.int 0 0,.ref 148,.bool false,.int 181 0,.ref 149,.none,.none,.none,.none,.int 378 0,.int 90 0,.str l117 379],#[]⟩
noncomputable abbrev o340(y0:Params):Obj:=⟨T11,none,.plain,#[some (.ref 150),some (.ref 3),some (.ref 147),none,some (.str l60 371),none,some (.ref 0)]⟩
noncomputable abbrev o343(y0:Params):Obj:=⟨T2,none,.seq #[.str l63 388] 0,#[]⟩
noncomputable abbrev l133:Str:=⟨⟨[66,111,111,107,46,95,95,105,110,105,116,95,95]⟩⟩
noncomputable abbrev o345(y0:Params):Obj:=⟨.none,none,.func ⟨l62,l133,A56 l63,.stmts (B57 l63 l64),C58 l63,0,[],.none,.none,.none,.none,none,.none,.none,0⟩,#[]⟩
noncomputable abbrev o346(y0:Params):Obj:=⟨T0,none,.fields #[.str l62 385,.str l133 386,.str l117 387,.int 92 0,.int 1 0,.int 0 0,.int 0 0,.int 3 0,.ref 152,.bool true,.int 181 0,.ref 153,.none,.ref 154,.ref 155,.ref 156,.int 389 0,.int 92 0,.str l117 390],#[]⟩
noncomputable abbrev o347(y0:Params):Obj:=⟨T1,none,.func ⟨l62,l133,A56 l63,.stmts (B57 l63 l64),C58 l63,3,[],.none,.none,.none,.str l60 371,none,.ref 157,.none,0⟩,#[]⟩
noncomputable abbrev o350(y0:Params):Obj:=⟨T2,none,.seq #[.str l63 395,.str l16 396,.str l67 397,.str l47 398] 0,#[]⟩
noncomputable abbrev l134:Str:=⟨⟨[66,111,111,107,46,116,97,107,101]⟩⟩
noncomputable abbrev o352(y0:Params):Obj:=⟨.none,none,.func ⟨l65,l134,A59 l16 l63,.stmts (B60 l4 l5 l9 l15 l16 l18 l23 l47 l57 l59 l63 l64 l66 l67),C61 l4 l5 l9 l15 l16 l18 l47 l57 l63 l67,0,[],.none,.none,.none,.none,none,.none,.none,0⟩,#[]⟩
noncomputable abbrev o353(y0:Params):Obj:=⟨T0,none,.fields #[.str l65 392,.str l134 393,.str l117 394,.int 95 0,.int 2 0,.int 0 0,.int 0 0,.int 3 0,.ref 159,.bool true,.int 181 0,.ref 160,.none,.ref 161,.ref 162,.ref 163,.int 399 0,.int 95 0,.str l117 400],#[]⟩
noncomputable abbrev o354(y0:Params):Obj:=⟨T1,none,.func ⟨l65,l134,A59 l16 l63,.stmts (B60 l4 l5 l9 l15 l16 l18 l23 l47 l57 l59 l63 l64 l66 l67),C61 l4 l5 l9 l15 l16 l18 l47 l57 l63 l67,3,[],.none,.none,.none,.str l60 371,none,.ref 164,.none,0⟩,#[]⟩
noncomputable abbrev o357(y0:Params):Obj:=⟨T2,none,.seq #[.str l63 405,.str l29 406,.str l16 407] 0,#[]⟩
noncomputable abbrev l135:Str:=⟨⟨[66,111,111,107,46,100,114,111,112]⟩⟩
noncomputable abbrev o359(y0:Params):Obj:=⟨.none,none,.func ⟨l68,l135,A62 l29 l63,.stmts (B63 l6 l16 l18 l29 l63 l64 l69),C64 l6 l16 l18 l29 l63,0,[],.none,.none,.none,.none,none,.none,.none,0⟩,#[]⟩
noncomputable abbrev o360(y0:Params):Obj:=⟨T0,none,.fields #[.str l68 402,.str l135 403,.str l117 404,.int 107 0,.int 2 0,.int 0 0,.int 0 0,.int 3 0,.ref 166,.bool true,.int 181 0,.ref 167,.none,.ref 168,.ref 169,.ref 170,.int 408 0,.int 107 0,.str l117 409],#[]⟩
noncomputable abbrev o361(y0:Params):Obj:=⟨T1,none,.func ⟨l68,l135,A62 l29 l63,.stmts (B63 l6 l16 l18 l29 l63 l64 l69),C64 l6 l16 l18 l29 l63,3,[],.none,.none,.none,.str l60 371,none,.ref 171,.none,0⟩,#[]⟩
noncomputable abbrev o364(y0:Params):Obj:=⟨T2,none,.seq #[.str l63 414] 0,#[]⟩
noncomputable abbrev l136:Str:=⟨⟨[66,111,111,107,46,108,105,115,116,101,100]⟩⟩
noncomputable abbrev o366(y0:Params):Obj:=⟨.none,none,.func ⟨l70,l136,A65 l63,.stmts (B66 l63 l64 l71),C67 l63 l71,0,[],.none,.none,.none,.none,none,.none,.none,0⟩,#[]⟩
noncomputable abbrev o367(y0:Params):Obj:=⟨T0,none,.fields #[.str l70 411,.str l136 412,.str l117 413,.int 114 0,.int 1 0,.int 0 0,.int 0 0,.int 3 0,.ref 173,.bool true,.int 181 0,.ref 174,.none,.ref 175,.ref 176,.ref 177,.int 415 0,.int 114 0,.str l117 416],#[]⟩
noncomputable abbrev o368(y0:Params):Obj:=⟨T1,none,.func ⟨l70,l136,A65 l63,.stmts (B66 l63 l64 l71),C67 l63 l71,3,[],.none,.none,.none,.str l60 371,none,.ref 178,.none,0⟩,#[]⟩
noncomputable abbrev o371(y0:Params):Obj:=⟨T2,none,.seq #[.str l63 421] 0,#[]⟩
noncomputable abbrev l137:Str:=⟨⟨[66,111,111,107,46,112,108,97,110]⟩⟩
noncomputable abbrev o373(y0:Params):Obj:=⟨.none,none,.func ⟨l59,l137,A68 l63,.stmts (B69 l42 l63 l64),C70 l42 l63,0,[],.none,.none,.none,.none,none,.none,.none,0⟩,#[]⟩
noncomputable abbrev o374(y0:Params):Obj:=⟨T0,none,.fields #[.str l59 418,.str l137 419,.str l117 420,.int 117 0,.int 1 0,.int 0 0,.int 0 0,.int 3 0,.ref 180,.bool true,.int 181 0,.ref 181,.none,.ref 182,.ref 183,.ref 184,.int 422 0,.int 117 0,.str l117 423],#[]⟩
noncomputable abbrev o375(y0:Params):Obj:=⟨T1,none,.func ⟨l59,l137,A68 l63,.stmts (B69 l42 l63 l64),C70 l42 l63,3,[],.none,.none,.none,.str l60 371,none,.ref 185,.none,0⟩,#[]⟩
noncomputable abbrev o376(y0:Params):Obj:=⟨T2,none,.seq #[.str l64 425] 0,#[]⟩
noncomputable abbrev l138:Str:=⟨⟨[95,95,100,105,99,116,95,95]⟩⟩
noncomputable abbrev o377(y0:Params):Obj:=⟨T3,none,.dict #[kh y0 l128 380 (.str l60 371),kh y0 l130 384 (.int 90 383),kh y0 l62 391 (.ref 158),kh y0 l65 401 (.ref 165),kh y0 l68 410 (.ref 172),kh y0 l70 417 (.ref 179),kh y0 l59 424 (.ref 186),kh y0 l131 426 (.ref 187),kh y0 l138 428 (.ref 190),kh y0 l132 430 (.ref 191),kh y0 l120 431 .none] 4,#[]⟩
noncomputable abbrev o378(y0:Params):Obj:=⟨T5,none,.cls ⟨l61,[T6],[.ref 189,T6],188,l61,true,[],[],false,none,false⟩,#[none,none,some (.str l61 373),some (.str l61 381),some (.builtin SL.s11443829558043349243x14),some (.bool true)]⟩
noncomputable abbrev o379(y0:Params):Obj:=⟨T15,none,.fields #[.str l138 427,.ref 189,.builtin SL.s6511155373996960695x17,.builtin SL.s12411053484034534018x21],#[]⟩
noncomputable abbrev o380(y0:Params):Obj:=⟨T15,none,.fields #[.str l132 429,.ref 189,.builtin SL.s10220274742760427390x26,.none],#[]⟩
noncomputable abbrev o381(y0:Params):Obj:=⟨T13,none,.fields #[.ref 189,.ref 189,.ref 189],#[]⟩
noncomputable abbrev o382(y0:Params):Obj:=⟨T12,none,.fields #[T14,.ref 189],#[]⟩
noncomputable abbrev o385(y0:Params):Obj:=⟨T2,none,.seq #[.str l74 439] 0,#[]⟩
noncomputable abbrev o387(y0:Params):Obj:=⟨.none,none,.func ⟨l73,l73,A73 l74,.stmts (B74 l12 l13 l14 l74),C75 l12 l13 l14 l74,0,[],.none,.none,.none,.none,none,.none,.none,0⟩,#[]⟩
noncomputable abbrev o388(y0:Params):Obj:=⟨T0,none,.fields #[.str l73 436,.str l73 437,.str l117 438,.int 120 0,.int 1 0,.int 0 0,.int 0 0,.int 3 0,.ref 194,.bool true,.int 181 0,.ref 195,.none,.ref 196,.ref 197,.ref 198,.int 440 0,.int 120 0,.str l117 441],#[]⟩
noncomputable abbrev o389(y0:Params):Obj:=⟨T1,none,.func ⟨l73,l73,A73 l74,.stmts (B74 l12 l13 l14 l74),C75 l12 l13 l14 l74,3,[],.none,.none,.none,.str l72 434,none,.ref 199,.none,0⟩,#[]⟩
noncomputable abbrev t390(y0:Params):BT:=(nd (o215 y0) (nl (o122 y0)) (nl (o380 y0)))
noncomputable abbrev t391(y0:Params):BT:=(nd (o121 y0) (nl (o312 y0)) (nl (o388 y0)))
noncomputable abbrev t392(y0:Params):BT:=(nd (boot_o_7 y0) (nd (o131 y0) (nd (o121 y0) (t390 y0) (nd (o260 y0) (nl (o121 y0)) nz)) (nd (o121 y0) (nd (o121 y0) (nl (o320 y0)) nz) (nd (o288 y0) (nl (o364 y0)) nz))) (nd (o139 y0) (nd (o165 y0) (t391 y0) (nd (o268 y0) (nl (o122 y0)) nz)) (nd (o121 y0) (nd (o252 y0) (nl (o340 y0)) nz) (nd (o296 y0) (nl (o121 y0)) nz))))
noncomputable abbrev t393(y0:Params):BT:=(nd (o121 y0) (nl (o121 y0)) (nl (o122 y0)))
noncomputable abbrev t394(y0:Params):BT:=(nd (o121 y0) (nd (o122 y0) (nd (o121 y0) (t393 y0) (nd (o264 y0) (nl (o352 y0)) nz)) (nd (o190 y0) (nd (o121 y0) (nl (o336 y0)) nz) (nd (o292 y0) (nl (o368 y0)) nz))) (nd (o143 y0) (nd (o121 y0) (nd (o240 y0) (nl (o122 y0)) nz) (nd (o272 y0) (nl (o360 y0)) nz)) (nd (o121 y0) (nd (o122 y0) (nl (o121 y0)) nz) (nd (o300 y0) (nl (o376 y0)) nz))))
noncomputable abbrev t395(y0:Params):BT:=(nd (o132 y0) (nl (o306 y0)) (nl (o382 y0)))
noncomputable abbrev t396(y0:Params):BT:=(nd (boot_o_9 y0) (nd (o133 y0) (nd (o159 y0) (t395 y0) (nd (o121 y0) (nl (o350 y0)) nz)) (nd (o188 y0) (nd (o246 y0) (nl (o121 y0)) nz) (nd (o290 y0) (nl (o366 y0)) nz))) (nd (o141 y0) (nd (o132 y0) (nd (o238 y0) (nl (o314 y0)) nz) (nd (o122 y0) (nl (o121 y0)) nz)) (nd (o209 y0) (nd (o254 y0) (nl (o122 y0)) nz) (nd (o121 y0) (nl (o374 y0)) nz))))
noncomputable abbrev t397(y0:Params):BT:=(nd (o234 y0) (nl (o310 y0)) (nl (o121 y0)))
noncomputable abbrev t398(y0:Params):BT:=(nd (o123 y0) (nd (o137 y0) (nd (o163 y0) (t397 y0) (nd (o266 y0) (nl (o354 y0)) nz)) (nd (o132 y0) (nd (o250 y0) (nl (o338 y0)) nz) (nd (o122 y0) (nl (o122 y0)) nz))) (nd (o132 y0) (nd (o184 y0) (nd (o122 y0) (nl (o121 y0)) nz) (nd (o121 y0) (nl (o121 y0)) nz)) (nd (o213 y0) (nd (o121 y0) (nl (o346 y0)) nz) (nd (o302 y0) (nl (o378 y0)) nz))))
noncomputable abbrev t399(y0:Params):BT:=(nd (o154 y0) (nl (o305 y0)) (nl (o381 y0)))
noncomputable abbrev t400(y0:Params):BT:=(nd (o237 y0) (nl (o313 y0)) (nl (o389 y0)))
noncomputable abbrev t401(y0:Params):BT:=(nd (boot_o_8 y0) (nd (o132 y0) (nd (o122 y0) (t399 y0) (nd (o261 y0) (nl (o122 y0)) nz)) (nd (o187 y0) (nd (o245 y0) (nl (o321 y0)) nz) (nd (o121 y0) (nl (o121 y0)) nz))) (nd (o228 y0) (nd (o154 y0) (t400 y0) (nd (o121 y0) (nl (o357 y0)) nz)) (nd (o122 y0) (nd (o253 y0) (nl (o121 y0)) nz) (nd (o297 y0) (nl (o373 y0)) nz))))
noncomputable abbrev t402(y0:Params):BT:=(nd (o122 y0) (nl (o122 y0)) (nl (o385 y0)))
noncomputable abbrev t403(y0:Params):BT:=(nd (o333 y0) (nd (o136 y0) (nd (o162 y0) (t402 y0) (nd (o121 y0) (nl (o353 y0)) nz)) (nd (o154 y0) (nd (o122 y0) (nl (o121 y0)) nz) (nd (o121 y0) (nl (o121 y0)) nz))) (nd (o154 y0) (nd (o122 y0) (nd (o121 y0) (nl (o317 y0)) nz) (nd (o273 y0) (nl (o361 y0)) nz)) (nd (o212 y0) (nd (o257 y0) (nl (o345 y0)) nz) (nd (o301 y0) (nl (o377 y0)) nz))))
noncomputable abbrev t404(y0:Params):BT:=(nd (o231 y0) (nl (o307 y0)) (nl (o121 y0)))
noncomputable abbrev t405(y0:Params):BT:=(nd (boot_o_10 y0) (nd (o121 y0) (nd (o160 y0) (t404 y0) (nd (o122 y0) (nl (o121 y0)) nz)) (nd (o189 y0) (nd (o247 y0) (nl (o132 y0)) nz) (nd (o291 y0) (nl (o367 y0)) nz))) (nd (o142 y0) (nd (o181 y0) (nd (o239 y0) (nl (o121 y0)) nz) (nd (o271 y0) (nl (o359 y0)) nz)) (nd (o210 y0) (nd (o121 y0) (nl (o343 y0)) nz) (nd (o122 y0) (nl (o375 y0)) nz))))
noncomputable abbrev t406(y0:Params):BT:=(nd (o235 y0) (nl (o121 y0)) (nl (o387 y0)))
noncomputable abbrev t407(y0:Params):BT:=(nd (o124 y0) (nd (o121 y0) (nd (o164 y0) (t406 y0) (nd (o267 y0) (nl (o121 y0)) nz)) (nd (o206 y0) (nd (o121 y0) (nl (o339 y0)) nz) (nd (o295 y0) (nl (o371 y0)) nz))) (nd (o156 y0) (nd (o185 y0) (nd (o243 y0) (nl (o319 y0)) nz) (nd (o122 y0) (nl (o122 y0)) nz)) (nd (o214 y0) (nd (o259 y0) (nl (o347 y0)) nz) (nd (o121 y0) (nl (o379 y0)) nz))))
noncomputable abbrev t408(y0:Params):BT:=(nd (boot_o_0 y0) (nd (boot_o_1 y0) (nd (o332 y0) (t392 y0) (t394 y0)) (nd (boot_o_5 y0) (t396 y0) (t398 y0))) (nd (boot_o_2 y0) (nd (boot_o_4 y0) (t401 y0) (t403 y0)) (nd (boot_o_6 y0) (t405 y0) (t407 y0))))
noncomputable abbrev u409(y0:Params)(y1:OsState):SharedT:=(SharedT.mk (t408 y0) 201 F1 ⟨[]⟩ ⟨0,0,0,0⟩ 443 y1)
noncomputable abbrev F55:=(piecesOf g6 env cE (Pos.mk 89 0 89 8) [topFrame (Pos.mk 0 0 0 0)])
noncomputable abbrev F107(w:World)(os:OsState):=(u409 (World.params w) os)
noncomputable abbrev F82(w:World)(os:OsState):=(@Option.some F2 (Flow.next,((F107 w os),(cE,(Pos.mk 120 0 121 77)))))
theorem r6t(w:World)(os:OsState):(@Eq (Option F2) (Fast.tw10110043849684766642 Fast.tw14364793385576792824 PPl w 11 F4 1 389 (F90 w os) F55) (F82 w os)):=by kernel_rfl
theorem r6(w:World)(os:OsState):(@Eq (Option F2) (segRunT treeTable PPl w 11 F4 1 389 (F90 w os) F55) (F82 w os)):=Eq.mpr ((congr (@congrArg _ _ _ _ (fun(y0:F8)=>(fun(y1:F34)=>(@Eq (Option F2) (y0 y1 PPl w 11 F4 1 389 (F90 w os) F55) (F82 w os)))) Fast.te10110043849684766642) Fast.te14364793385576792824) :) (r6t w os)
noncomputable abbrev g7:(List Stmt):=[S80 l18 l75 l76 l77,S84 l33 l37 l43 l78 l79 l80 l81 l82,S88 l12 l17 l18 l73 l83 l84,S92 l12 l18 l33 l37 l71 l79 l82 l83 l84 l85 l86 l87 l88,S96 l18 l73 l78 l79 l80 l81 l89 l90,S100 l12 l17 l18 l49 l59 l74 l79 l85 l89 l91 l92,S104 l2 l4 l5 l6 l7 l12 l18 l65 l68 l82 l90 l93 l94 l95 l96 l97 l98 l99 l100,S108 l12 l17 l18 l49 l57 l65 l74 l82 l89 l94 l95 l100,S112 l4 l5 l16 l18 l30 l33 l37 l42 l59 l65 l68 l70 l74 l77 l79 l82 l90 l94 l100 l101 l102 l103 l104,S116 l18 l30 l59 l68 l70 l77 l82 l85 l90 l94 l95 l96 l99 l100 l105 l106 l107 l108,S120 l12 l30 l42 l59 l61 l70 l71 l75 l76 l77 l85 l93 l95 l96 l97 l101 l105 l108 l109 l110 l111 l112 l113 l114 l115 l116]
noncomputable abbrev o410(y0:Params):Obj:=⟨T3,none,.dict #[kh y0 l0 165 (.str l72 434),kh y0 l120 166 .none,kh y0 l121 167 .none,kh y0 l122 168 T10,kh y0 l123 169 .none,kh y0 l124 170 (.ref 6),kh y0 l125 171 (.ref 4),kh y0 l126 173 (.str l117 172),kh y0 l127 174 .none,kh y0 l2 206 (.ref 24),kh y0 l4 222 (.ref 37),kh y0 l5 238 (.ref 49),kh y0 l6 254 (.ref 61),kh y0 l7 270 (.ref 73),kh y0 l9 274 (.int 60 273),kh y0 l10 281 (.ref 82),kh y0 l15 289 (.ref 89),kh y0 l20 297 (.ref 96),kh y0 l25 310 (.ref 103),kh y0 l31 316 (.ref 108),kh y0 l38 326 (.ref 115),kh y0 l42 332 (.ref 120),kh y0 l46 340 (.ref 125),kh y0 l49 346 (.ref 130),kh y0 l55 359 (.ref 137),kh y0 l57 370 (.ref 144),kh y0 l61 433 (.ref 189),kh y0 l73 442 (.ref 200),kh y0 l75 450 (.ref 207),kh y0 l78 456 (.ref 212),kh y0 l83 463 (.ref 219),kh y0 l85 469 (.ref 224),kh y0 l89 479 (.ref 231),kh y0 l91 487 (.ref 238),kh y0 l93 501 (.ref 245),kh y0 l100 511 (.ref 252),kh y0 l101 517 (.ref 257),kh y0 l105 533 (.ref 264),kh y0 l109 551 (.ref 271)] 39,#[]⟩
noncomputable abbrev o411(y0:Params):Obj:=⟨.none,none,.fields #[.int 2 0,.int 0 0,.ref 20,.int 4 0,.int 0 0,.ref 33,.int 6 0,.int 0 0,.ref 45,.int 8 0,.int 0 0,.ref 57,.int 10 0,.int 0 0,.ref 69,.int 14 0,.int 0 0,.ref 81,.int 16 0,.int 0 0,.ref 88,.int 23 0,.int 0 0,.ref 95,.int 30 0,.int 0 0,.ref 102,.int 37 0,.int 0 0,.ref 107,.int 40 0,.int 0 0,.ref 114,.int 44 0,.int 0 0,.ref 119,.int 63 0,.int 0 0,.ref 124,.int 68 0,.int 0 0,.ref 129,.int 73 0,.int 0 0,.ref 136,.int 81 0,.int 0 0,.ref 143,.int 90 0,.int 0 0,.ref 150,.int 120 0,.int 0 0,.ref 199,.int 122 0,.int 0 0,.ref 206,.int 126 0,.int 0 0,.ref 211,.int 128 0,.int 0 0,.ref 218,.int 132 0,.int 0 0,.ref 223,.int 145 0,.int 0 0,.ref 230,.int 151 0,.int 0 0,.ref 237,.int 157 0,.int 0 0,.ref 244,.int 179 0,.int 0 0,.ref 251,.int 188 0,.int 0 0,.ref 256,.int 215 0,.int 0 0,.ref 263,.int 236 0,.int 0 0,.ref 270],#[]⟩
noncomputable abbrev o414(y0:Params):Obj:=⟨T2,none,.seq #[.str l76 446,.str l77 447] 0,#[]⟩
noncomputable abbrev o416(y0:Params):Obj:=⟨.none,none,.func ⟨l75,l75,A77 l76 l77,.stmts (B78 l18 l76 l77),C79 l18 l76 l77,0,[],.none,.none,.none,.none,none,.none,.none,0⟩,#[]⟩
noncomputable abbrev o417(y0:Params):Obj:=⟨T0,none,.fields #[.str l75 443,.str l75 444,.str l117 445,.int 122 0,.int 2 0,.int 0 0,.int 0 0,.int 3 0,.ref 201,.bool true,.int 181 0,.ref 202,.none,.ref 203,.ref 204,.ref 205,.int 448 0,.int 122 0,.str l117 449],#[]⟩
noncomputable abbrev o418(y0:Params):Obj:=⟨T1,none,.func ⟨l75,l75,A77 l76 l77,.stmts (B78 l18 l76 l77),C79 l18 l76 l77,3,[],.none,.none,.none,.str l72 434,none,.ref 206,.none,0⟩,#[]⟩
noncomputable abbrev o421(y0:Params):Obj:=⟨.none,none,.func ⟨l78,l78,A81 l79 l80 l81,.stmts (B82 l33 l43 l79 l80 l81 l82),C83 l37 l43 l79 l80 l81 l82,0,[],.none,.none,.none,.none,none,.none,.none,0⟩,#[]⟩
noncomputable abbrev o422(y0:Params):Obj:=⟨T0,none,.fields #[.str l78 451,.str l78 452,.str l117 453,.int 126 0,.int 3 0,.int 0 0,.int 0 0,.int 3 0,.ref 208,.bool true,.int 181 0,.ref 209,.none,.none,.none,.ref 210,.int 454 0,.int 126 0,.str l117 455],#[]⟩
noncomputable abbrev o423(y0:Params):Obj:=⟨T1,none,.func ⟨l78,l78,A81 l79 l80 l81,.stmts (B82 l33 l43 l79 l80 l81 l82),C83 l37 l43 l79 l80 l81 l82,3,[],.none,.none,.none,.str l72 434,none,.ref 211,.none,0⟩,#[]⟩
noncomputable abbrev o426(y0:Params):Obj:=⟨T2,none,.seq #[.str l84 460] 0,#[]⟩
noncomputable abbrev o428(y0:Params):Obj:=⟨.none,none,.func ⟨l83,l83,A85 l84,.stmts (B86 l12 l17 l18 l73 l84),C87 l12 l17 l18 l73 l84,0,[],.none,.none,.none,.none,none,.none,.none,0⟩,#[]⟩
noncomputable abbrev o429(y0:Params):Obj:=⟨T0,none,.fields #[.str l83 457,.str l83 458,.str l117 459,.int 128 0,.int 1 0,.int 0 0,.int 0 0,.int 3 0,.ref 213,.bool true,.int 181 0,.ref 214,.none,.ref 215,.ref 216,.ref 217,.int 461 0,.int 128 0,.str l117 462],#[]⟩
noncomputable abbrev o430(y0:Params):Obj:=⟨T1,none,.func ⟨l83,l83,A85 l84,.stmts (B86 l12 l17 l18 l73 l84),C87 l12 l17 l18 l73 l84,3,[],.none,.none,.none,.str l72 434,none,.ref 218,.none,0⟩,#[]⟩
noncomputable abbrev o433(y0:Params):Obj:=⟨.none,none,.func ⟨l85,l85,A89 l79 l86,.stmts (B90 l12 l18 l33 l71 l79 l82 l83 l84 l86 l87 l88),C91 l12 l18 l37 l71 l79 l82 l83 l84 l86 l87 l88,0,[],.none,.none,.none,.none,none,.none,.none,0⟩,#[]⟩
noncomputable abbrev o434(y0:Params):Obj:=⟨T0,none,.fields #[.str l85 464,.str l85 465,.str l117 466,.int 132 0,.int 2 0,.int 0 0,.int 0 0,.int 3 0,.ref 220,.bool true,.int 181 0,.ref 221,.none,.none,.none,.ref 222,.int 467 0,.int 132 0,.str l117 468],#[]⟩
noncomputable abbrev o435(y0:Params):Obj:=⟨T1,none,.func ⟨l85,l85,A89 l79 l86,.stmts (B90 l12 l18 l33 l71 l79 l82 l83 l84 l86 l87 l88),C91 l12 l18 l37 l71 l79 l82 l83 l84 l86 l87 l88,3,[],.none,.none,.none,.str l72 434,none,.ref 223,.none,0⟩,#[]⟩
noncomputable abbrev o438(y0:Params):Obj:=⟨T2,none,.seq #[.str l79 473,.str l90 474,.str l80 475,.str l81 476] 0,#[]⟩
noncomputable abbrev o440(y0:Params):Obj:=⟨.none,none,.func ⟨l89,l89,A93 l79 l80 l81 l90,.stmts (B94 l18 l73 l78 l79 l80 l81 l90),C95 l18 l73 l78 l79 l80 l81 l90,0,[],.none,.none,.none,.none,none,.none,.none,0⟩,#[]⟩
noncomputable abbrev o441(y0:Params):Obj:=⟨T0,none,.fields #[.str l89 470,.str l89 471,.str l117 472,.int 145 0,.int 4 0,.int 0 0,.int 0 0,.int 3 0,.ref 225,.bool true,.int 181 0,.ref 226,.none,.ref 227,.ref 228,.ref 229,.int 477 0,.int 145 0,.str l117 478],#[]⟩
noncomputable abbrev o442(y0:Params):Obj:=⟨T1,none,.func ⟨l89,l89,A93 l79 l80 l81 l90,.stmts (B94 l18 l73 l78 l79 l80 l81 l90),C95 l18 l73 l78 l79 l80 l81 l90,3,[],.none,.none,.none,.str l72 434,none,.ref 230,.none,0⟩,#[]⟩
noncomputable abbrev o445(y0:Params):Obj:=⟨T2,none,.seq #[.str l79 483,.str l74 484] 0,#[]⟩
noncomputable abbrev o447(y0:Params):Obj:=⟨.none,none,.func ⟨l91,l91,A97 l74 l79,.stmts (B98 l12 l17 l18 l49 l59 l74 l79 l85 l89 l92),C99 l12 l17 l18 l74 l79 l85 l89 l92,0,[],.none,.none,.none,.none,none,.none,.none,0⟩,#[]⟩
noncomputable abbrev o448(y0:Params):Obj:=⟨T0,none,.fields #[.str l91 480,.str l91 481,.str l117 482,.int 151 0,.int 2 0,.int 0 0,.int 0 0,.int 3 0,.ref 232,.bool true,.int 181 0,.ref 233,.none,.ref 234,.ref 235,.ref 236,.int 485 0,.int 151 0,.str l117 486],#[]⟩
noncomputable abbrev o449(y0:Params):Obj:=⟨T1,none,.func ⟨l91,l91,A97 l74 l79,.stmts (B98 l12 l17 l18 l49 l59 l74 l79 l85 l89 l92),C99 l12 l17 l18 l74 l79 l85 l89 l92,3,[],.none,.none,.none,.str l72 434,none,.ref 237,.none,0⟩,#[]⟩
noncomputable abbrev o452(y0:Params):Obj:=⟨T2,none,.seq #[.str l94 491,.str l95 492,.str l96 493,.str l97 494,.str l90 495,.str l82 496,.str l98 497,.str l99 498] 0,#[]⟩
noncomputable abbrev o454(y0:Params):Obj:=⟨.none,none,.func ⟨l93,l93,A101 l94 l95 l96 l97,.stmts (B102 l2 l4 l5 l6 l7 l12 l18 l65 l68 l82 l90 l94 l95 l96 l97 l98 l99 l100),C103 l2 l4 l5 l6 l7 l12 l18 l82 l90 l94 l95 l96 l97 l98 l99 l100,0,[],.none,.none,.none,.none,none,.none,.none,0⟩,#[]⟩
noncomputable abbrev o455(y0:Params):Obj:=⟨T0,none,.fields #[.str l93 488,.str l93 489,.str l117 490,.int 157 0,.int 4 0,.int 0 0,.int 0 0,.int 3 0,.ref 239,.bool true,.int 181 0,.ref 240,.none,.ref 241,.ref 242,.ref 243,.int 499 0,.int 157 0,.str l117 500],#[]⟩
noncomputable abbrev o456(y0:Params):Obj:=⟨T1,none,.func ⟨l93,l93,A101 l94 l95 l96 l97,.stmts (B102 l2 l4 l5 l6 l7 l12 l18 l65 l68 l82 l90 l94 l95 l96 l97 l98 l99 l100),C103 l2 l4 l5 l6 l7 l12 l18 l82 l90 l94 l95 l96 l97 l98 l99 l100,3,[],.none,.none,.none,.str l72 434,none,.ref 244,.none,0⟩,#[]⟩
noncomputable abbrev o459(y0:Params):Obj:=⟨T2,none,.seq #[.str l94 505,.str l95 506,.str l82 507,.str l74 508] 0,#[]⟩
noncomputable abbrev o461(y0:Params):Obj:=⟨.none,none,.func ⟨l100,l100,A105 l82 l94 l95,.stmts (B106 l12 l17 l18 l49 l57 l65 l74 l82 l89 l94 l95),C107 l12 l17 l18 l57 l74 l82 l89 l94 l95,0,[],.none,.none,.none,.none,none,.none,.none,0⟩,#[]⟩
noncomputable abbrev o462(y0:Params):Obj:=⟨T0,none,.fields #[.str l100 502,.str l100 503,.str l117 504,.int 179 0,.int 3 0,.int 0 0,.int 0 0,.int 3 0,.ref 246,.bool true,.int 181 0,.ref 247,.none,.ref 248,.ref 249,.ref 250,.int 509 0,.int 179 0,.str l117 510],#[]⟩
noncomputable abbrev o463(y0:Params):Obj:=⟨T1,none,.func ⟨l100,l100,A105 l82 l94 l95,.stmts (B106 l12 l17 l18 l49 l57 l65 l74 l82 l89 l94 l95),C107 l12 l17 l18 l57 l74 l82 l89 l94 l95,3,[],.none,.none,.none,.str l72 434,none,.ref 251,.none,0⟩,#[]⟩
noncomputable abbrev F98:=(B110 l4 l5 l16 l18 l30 l33 l42 l59 l65 l68 l70 l74 l77 l79 l82 l90 l94 l100 l102 l103 l104)
noncomputable abbrev o466(y0:Params):Obj:=⟨.none,none,.func ⟨l101,l101,A109 l90 l94,.stmts F98,C111 l4 l5 l18 l30 l37 l42 l74 l77 l79 l82 l90 l94 l100,0,[],.none,.none,.none,.none,none,.none,.none,0⟩,#[]⟩
noncomputable abbrev o467(y0:Params):Obj:=⟨T0,none,.fields #[.str l101 512,.str l101 513,.str l117 514,.int 188 0,.int 2 0,.int 0 0,.int 0 0,.int 3 0,.ref 253,.bool true,.int 181 0,.ref 254,.none,.none,.none,.ref 255,.int 515 0,.int 188 0,.str l117 516],#[]⟩
noncomputable abbrev o468(y0:Params):Obj:=⟨T1,none,.func ⟨l101,l101,A109 l90 l94,.stmts F98,C111 l4 l5 l18 l30 l37 l42 l74 l77 l79 l82 l90 l94 l100,3,[],.none,.none,.none,.str l72 434,none,.ref 256,.none,0⟩,#[]⟩
noncomputable abbrev o471(y0:Params):Obj:=⟨T2,none,.seq #[.str l94 521,.str l96 522,.str l106 523,.str l95 524,.str l77 525,.str l107 526,.str l99 527,.str l82 528,.str l108 529,.str l90 530] 0,#[]⟩
noncomputable abbrev F109:=(B114 l18 l30 l59 l68 l70 l77 l82 l85 l90 l94 l95 l96 l99 l100 l106 l107 l108)
noncomputable abbrev o473(y0:Params):Obj:=⟨.none,none,.func ⟨l105,l105,A113 l94 l96 l106,.stmts F109,C115 l18 l30 l77 l82 l85 l90 l94 l95 l96 l99 l100 l106 l107 l108,0,[],.none,.none,.none,.none,none,.none,.none,0⟩,#[]⟩
noncomputable abbrev o474(y0:Params):Obj:=⟨T0,none,.fields #[.str l105 518,.str l105 519,.str l117 520,.int 215 0,.int 3 0,.int 0 0,.int 0 0,.int 3 0,.ref 258,.bool true,.int 181 0,.ref 259,.none,.ref 260,.ref 261,.ref 262,.int 531 0,.int 215 0,.str l117 532],#[]⟩
noncomputable abbrev o475(y0:Params):Obj:=⟨T1,none,.func ⟨l105,l105,A113 l94 l96 l106,.stmts F109,C115 l18 l30 l77 l82 l85 l90 l94 l95 l96 l99 l100 l106 l107 l108,3,[],.none,.none,.none,.str l72 434,none,.ref 263,.none,0⟩,#[]⟩
noncomputable abbrev o478(y0:Params):Obj:=⟨T2,none,.seq #[.str l76 537,.str l110 538,.str l95 539,.str l97 540,.str l111 541,.str l96 542,.str l112 543,.str l113 544,.str l108 545,.str l77 546,.str l115 547,.str l116 548] 0,#[]⟩
noncomputable abbrev F91:=(B118 l12 l30 l42 l59 l61 l70 l71 l75 l76 l77 l85 l93 l95 l96 l97 l101 l105 l108 l110 l111 l112 l113 l114 l115 l116)
noncomputable abbrev o480(y0:Params):Obj:=⟨.none,none,.func ⟨l109,l109,A117 l76,.stmts F91,C119 l12 l30 l42 l61 l71 l75 l76 l77 l85 l93 l95 l96 l97 l101 l105 l108 l110 l111 l112 l113 l115 l116,0,[],.none,.none,.none,.none,none,.none,.none,0⟩,#[]⟩
noncomputable abbrev o481(y0:Params):Obj:=⟨T0,none,.fields #[.str l109 534,.str l109 535,.str l117 536,.int 236 0,.int 1 0,.int 0 0,.int 0 0,.int 3 0,.ref 265,.bool true,.int 181 0,.ref 266,.none,.ref 267,.ref 268,.ref 269,.int 549 0,.int 236 0,.str l117 550],#[]⟩
noncomputable abbrev o482(y0:Params):Obj:=⟨T1,none,.func ⟨l109,l109,A117 l76,.stmts F91,C119 l12 l30 l42 l61 l71 l75 l76 l77 l85 l93 l95 l96 l97 l101 l105 l108 l110 l111 l112 l113 l115 l116,3,[],.none,.none,.none,.str l72 434,none,.ref 270,.none,0⟩,#[]⟩
noncomputable abbrev t483(y0:Params):BT:=(nd (o215 y0) (nd (o122 y0) (nl (o466 y0)) nz) (nl (o380 y0)))
noncomputable abbrev t484(y0:Params):BT:=(nd (o260 y0) (nl (o121 y0)) (nl (o434 y0)))
noncomputable abbrev t485(y0:Params):BT:=(nd (o121 y0) (nd (o320 y0) (nl (o482 y0)) nz) (nl (o418 y0)))
noncomputable abbrev t486(y0:Params):BT:=(nd (o288 y0) (nl (o364 y0)) (nl (o121 y0)))
noncomputable abbrev t487(y0:Params):BT:=(nd (o121 y0) (nd (o312 y0) (nl (o474 y0)) nz) (nl (o388 y0)))
noncomputable abbrev t488(y0:Params):BT:=(nd (o268 y0) (nl (o122 y0)) (nl (o442 y0)))
noncomputable abbrev t489(y0:Params):BT:=(nd (o252 y0) (nl (o340 y0)) (nl (o426 y0)))
noncomputable abbrev t490(y0:Params):BT:=(nd (o296 y0) (nl (o121 y0)) (nl (o122 y0)))
noncomputable abbrev t491(y0:Params):BT:=(nd (boot_o_7 y0) (nd (o131 y0) (nd (o121 y0) (t483 y0) (t484 y0)) (nd (o121 y0) (t485 y0) (t486 y0))) (nd (o139 y0) (nd (o165 y0) (t487 y0) (t488 y0)) (nd (o121 y0) (t489 y0) (t490 y0))))
noncomputable abbrev t492(y0:Params):BT:=(nd (o121 y0) (nd (o121 y0) (nl (o122 y0)) nz) (nl (o122 y0)))
noncomputable abbrev t493(y0:Params):BT:=(nd (o264 y0) (nl (o352 y0)) (nl (o438 y0)))
noncomputable abbrev t494(y0:Params):BT:=(nd (o121 y0) (nl (o336 y0)) (nl (o422 y0)))
noncomputable abbrev t495(y0:Params):BT:=(nd (o292 y0) (nl (o368 y0)) (nl (o454 y0)))
noncomputable abbrev t496(y0:Params):BT:=(nd (o240 y0) (nd (o122 y0) (nl (o478 y0)) nz) (nl (o414 y0)))
noncomputable abbrev t497(y0:Params):BT:=(nd (o272 y0) (nl (o360 y0)) (nl (o121 y0)))
noncomputable abbrev t498(y0:Params):BT:=(nd (o122 y0) (nl (o121 y0)) (nl (o430 y0)))
noncomputable abbrev t499(y0:Params):BT:=(nd (o300 y0) (nl (o376 y0)) (nl (o462 y0)))
noncomputable abbrev t500(y0:Params):BT:=(nd (o121 y0) (nd (o122 y0) (nd (o121 y0) (t492 y0) (t493 y0)) (nd (o190 y0) (t494 y0) (t495 y0))) (nd (o143 y0) (nd (o121 y0) (t496 y0) (t497 y0)) (nd (o121 y0) (t498 y0) (t499 y0))))
noncomputable abbrev t501(y0:Params):BT:=(nd (o132 y0) (nd (o306 y0) (nl (o468 y0)) nz) (nl (o382 y0)))
noncomputable abbrev t502(y0:Params):BT:=(nd (o121 y0) (nl (o350 y0)) (nl (o121 y0)))
noncomputable abbrev t503(y0:Params):BT:=(nd (o246 y0) (nl (o121 y0)) (nl (o122 y0)))
noncomputable abbrev t504(y0:Params):BT:=(nd (o290 y0) (nl (o366 y0)) (nl (o452 y0)))
noncomputable abbrev t505(y0:Params):BT:=(nd (o238 y0) (nd (o314 y0) (nl (o121 y0)) nz) (nl (o121 y0)))
noncomputable abbrev t506(y0:Params):BT:=(nd (o122 y0) (nl (o121 y0)) (nl (o122 y0)))
noncomputable abbrev t507(y0:Params):BT:=(nd (o254 y0) (nl (o122 y0)) (nl (o428 y0)))
noncomputable abbrev t508(y0:Params):BT:=(nd (o121 y0) (nl (o374 y0)) (nl (o121 y0)))
noncomputable abbrev t509(y0:Params):BT:=(nd (boot_o_9 y0) (nd (o133 y0) (nd (o159 y0) (t501 y0) (t502 y0)) (nd (o188 y0) (t503 y0) (t504 y0))) (nd (o141 y0) (nd (o132 y0) (t505 y0) (t506 y0)) (nd (o209 y0) (t507 y0) (t508 y0))))
noncomputable abbrev t510(y0:Params):BT:=(nd (o234 y0) (nd (o310 y0) (nl (o121 y0)) nz) (nl (o121 y0)))
noncomputable abbrev t511(y0:Params):BT:=(nd (o266 y0) (nl (o354 y0)) (nl (o440 y0)))
noncomputable abbrev t512(y0:Params):BT:=(nd (o250 y0) (nl (o338 y0)) (nl (o121 y0)))
noncomputable abbrev t513(y0:Params):BT:=(nd (o122 y0) (nl (o122 y0)) (nl (o456 y0)))
noncomputable abbrev t514(y0:Params):BT:=(nd (o122 y0) (nd (o121 y0) (nl (o480 y0)) nz) (nl (o416 y0)))
noncomputable abbrev t515(y0:Params):BT:=(nd (o121 y0) (nl (o121 y0)) (nl (o448 y0)))
noncomputable abbrev t516(y0:Params):BT:=(nd (o121 y0) (nl (o346 y0)) (nl (o122 y0)))
noncomputable abbrev t517(y0:Params):BT:=(nd (o302 y0) (nl (o378 y0)) (nl (o121 y0)))
noncomputable abbrev t518(y0:Params):BT:=(nd (o123 y0) (nd (o137 y0) (nd (o163 y0) (t510 y0) (t511 y0)) (nd (o132 y0) (t512 y0) (t513 y0))) (nd (o132 y0) (nd (o184 y0) (t514 y0) (t515 y0)) (nd (o213 y0) (t516 y0) (t517 y0))))
noncomputable abbrev t519(y0:Params):BT:=(nd (o154 y0) (nd (o305 y0) (nl (o467 y0)) nz) (nl (o381 y0)))
noncomputable abbrev t520(y0:Params):BT:=(nd (o261 y0) (nl (o122 y0)) (nl (o435 y0)))
noncomputable abbrev t521(y0:Params):BT:=(nd (o245 y0) (nl (o321 y0)) (nl (o121 y0)))
noncomputable abbrev t522(y0:Params):BT:=(nd (o121 y0) (nl (o121 y0)) (nl (o122 y0)))
noncomputable abbrev t523(y0:Params):BT:=(nd (o237 y0) (nd (o313 y0) (nl (o475 y0)) nz) (nl (o389 y0)))
noncomputable abbrev t524(y0:Params):BT:=(nd (o121 y0) (nl (o357 y0)) (nl (o121 y0)))
noncomputable abbrev t525(y0:Params):BT:=(nd (o253 y0) (nl (o121 y0)) (nl (o121 y0)))
noncomputable abbrev t526(y0:Params):BT:=(nd (o297 y0) (nl (o373 y0)) (nl (o459 y0)))
noncomputable abbrev t527(y0:Params):BT:=(nd (boot_o_8 y0) (nd (o132 y0) (nd (o122 y0) (t519 y0) (t520 y0)) (nd (o187 y0) (t521 y0) (t522 y0))) (nd (o228 y0) (nd (o154 y0) (t523 y0) (t524 y0)) (nd (o122 y0) (t525 y0) (t526 y0))))
noncomputable abbrev t528(y0:Params):BT:=(nd (o122 y0) (nd (o122 y0) (nl (o471 y0)) nz) (nl (o385 y0)))
noncomputable abbrev t529(y0:Params):BT:=(nd (o121 y0) (nl (o353 y0)) (nl (o121 y0)))
noncomputable abbrev t530(y0:Params):BT:=(nd (o122 y0) (nl (o121 y0)) (nl (o423 y0)))
noncomputable abbrev t531(y0:Params):BT:=(nd (o121 y0) (nl (o121 y0)) (nl (o455 y0)))
noncomputable abbrev t532(y0:Params):BT:=(nd (o121 y0) (nd (o317 y0) (nl (o121 y0)) nz) (nl (o121 y0)))
noncomputable abbrev t533(y0:Params):BT:=(nd (o273 y0) (nl (o361 y0)) (nl (o447 y0)))
noncomputable abbrev t534(y0:Params):BT:=(nd (o257 y0) (nl (o345 y0)) (nl (o121 y0)))
noncomputable abbrev t535(y0:Params):BT:=(nd (o301 y0) (nl (o377 y0)) (nl (o463 y0)))
noncomputable abbrev t536(y0:Params):BT:=(nd (o411 y0) (nd (o136 y0) (nd (o162 y0) (t528 y0) (t529 y0)) (nd (o154 y0) (t530 y0) (t531 y0))) (nd (o154 y0) (nd (o122 y0) (t532 y0) (t533 y0)) (nd (o212 y0) (t534 y0) (t535 y0))))
noncomputable abbrev t537(y0:Params):BT:=(nd (o231 y0) (nd (o307 y0) (nl (o121 y0)) nz) (nl (o121 y0)))
noncomputable abbrev t538(y0:Params):BT:=(nd (o122 y0) (nl (o121 y0)) (nl (o122 y0)))
noncomputable abbrev t539(y0:Params):BT:=(nd (o247 y0) (nl (o132 y0)) (nl (o421 y0)))
noncomputable abbrev t540(y0:Params):BT:=(nd (o291 y0) (nl (o367 y0)) (nl (o121 y0)))
noncomputable abbrev t541(y0:Params):BT:=(nd (o239 y0) (nd (o121 y0) (nl (o122 y0)) nz) (nl (o122 y0)))
noncomputable abbrev t542(y0:Params):BT:=(nd (o271 y0) (nl (o359 y0)) (nl (o445 y0)))
noncomputable abbrev t543(y0:Params):BT:=(nd (o121 y0) (nl (o343 y0)) (nl (o429 y0)))
noncomputable abbrev t544(y0:Params):BT:=(nd (o122 y0) (nl (o375 y0)) (nl (o461 y0)))
noncomputable abbrev t545(y0:Params):BT:=(nd (boot_o_10 y0) (nd (o121 y0) (nd (o160 y0) (t537 y0) (t538 y0)) (nd (o189 y0) (t539 y0) (t540 y0))) (nd (o142 y0) (nd (o181 y0) (t541 y0) (t542 y0)) (nd (o210 y0) (t543 y0) (t544 y0))))
noncomputable abbrev t546(y0:Params):BT:=(nd (o235 y0) (nd (o121 y0) (nl (o473 y0)) nz) (nl (o387 y0)))
noncomputable abbrev t547(y0:Params):BT:=(nd (o267 y0) (nl (o121 y0)) (nl (o441 y0)))
noncomputable abbrev t548(y0:Params):BT:=(nd (o121 y0) (nl (o339 y0)) (nl (o122 y0)))
noncomputable abbrev t549(y0:Params):BT:=(nd (o295 y0) (nl (o371 y0)) (nl (o121 y0)))
noncomputable abbrev t550(y0:Params):BT:=(nd (o243 y0) (nd (o319 y0) (nl (o481 y0)) nz) (nl (o417 y0)))
noncomputable abbrev t551(y0:Params):BT:=(nd (o122 y0) (nl (o122 y0)) (nl (o449 y0)))
noncomputable abbrev t552(y0:Params):BT:=(nd (o259 y0) (nl (o347 y0)) (nl (o433 y0)))
noncomputable abbrev t553(y0:Params):BT:=(nd (o121 y0) (nl (o379 y0)) (nl (o122 y0)))
noncomputable abbrev t554(y0:Params):BT:=(nd (o124 y0) (nd (o121 y0) (nd (o164 y0) (t546 y0) (t547 y0)) (nd (o206 y0) (t548 y0) (t549 y0))) (nd (o156 y0) (nd (o185 y0) (t550 y0) (t551 y0)) (nd (o214 y0) (t552 y0) (t553 y0))))
noncomputable abbrev t555(y0:Params):BT:=(nd (boot_o_0 y0) (nd (boot_o_1 y0) (nd (o410 y0) (t491 y0) (t500 y0)) (nd (boot_o_5 y0) (t509 y0) (t518 y0))) (nd (boot_o_2 y0) (nd (boot_o_4 y0) (t527 y0) (t536 y0)) (nd (boot_o_6 y0) (t545 y0) (t554 y0))))
noncomputable abbrev u556(y0:Params)(y1:OsState):SharedT:=(SharedT.mk (t555 y0) 272 F1 ⟨[]⟩ ⟨0,0,0,0⟩ 552 y1)
noncomputable abbrev F51:=(piecesOf g7 env cE (Pos.mk 120 0 121 77) [topFrame (Pos.mk 0 0 0 0)])
noncomputable abbrev F83(w:World)(os:OsState):=(@Option.some F2 (Flow.next,((u556 (World.params w) os),(cE,(Pos.mk 236 0 266 49)))))
theorem r7t(w:World)(os:OsState):(@Eq (Option F2) (Fast.tw10110043849684766642 Fast.tw14364793385576792824 PPl w 11 F4 1 346 (F107 w os) F51) (F83 w os)):=by kernel_rfl
theorem r7(w:World)(os:OsState):(@Eq (Option F2) (segRunT treeTable PPl w 11 F4 1 346 (F107 w os) F51) (F83 w os)):=Eq.mpr ((congr (@congrArg _ _ _ _ (fun(y0:F8)=>(fun(y1:F34)=>(@Eq (Option F2) (y0 y1 PPl w 11 F4 1 346 (F107 w os) F51) (F83 w os)))) Fast.te10110043849684766642) Fast.te14364793385576792824) :) (r7t w os)
noncomputable abbrev hp557(y0:Params):Heap:=⟨@Array.mk Obj [boot_o_0 y0,boot_o_1 y0,boot_o_2 y0,o410 y0,boot_o_4 y0,boot_o_5 y0,boot_o_6 y0,boot_o_7 y0,boot_o_8 y0,boot_o_9 y0,boot_o_10 y0,o121 y0,o411 y0,o123 y0,o124 y0,o131 y0,o132 y0,o133 y0,o121 y0,o122 y0,o136 y0,o137 y0,o121 y0,o139 y0,o228 y0,o141 y0,o142 y0,o143 y0,o154 y0,o132 y0,o156 y0,o121 y0,o122 y0,o159 y0,o160 y0,o121 y0,o162 y0,o163 y0,o164 y0,o165 y0,o154 y0,o132 y0,o181 y0,o121 y0,o122 y0,o184 y0,o185 y0,o121 y0,o187 y0,o188 y0,o189 y0,o190 y0,o154 y0,o132 y0,o206 y0,o121 y0,o122 y0,o209 y0,o210 y0,o121 y0,o212 y0,o213 y0,o214 y0,o215 y0,o154 y0,o132 y0,o231 y0,o121 y0,o122 y0,o234 y0,o235 y0,o121 y0,o237 y0,o238 y0,o239 y0,o240 y0,o121 y0,o122 y0,o243 y0,o121 y0,o245 y0,o246 y0,o247 y0,o121 y0,o122 y0,o250 y0,o121 y0,o252 y0,o253 y0,o254 y0,o121 y0,o122 y0,o257 y0,o121 y0,o259 y0,o260 y0,o261 y0,o121 y0,o122 y0,o264 y0,o121 y0,o266 y0,o267 y0,o268 y0,o121 y0,o122 y0,o271 y0,o272 y0,o273 y0,o121 y0,o122 y0,o288 y0,o121 y0,o290 y0,o291 y0,o292 y0,o121 y0,o122 y0,o295 y0,o296 y0,o297 y0,o121 y0,o122 y0,o300 y0,o301 y0,o302 y0,o121 y0,o122 y0,o305 y0,o306 y0,o307 y0,o121 y0,o122 y0,o310 y0,o121 y0,o312 y0,o313 y0,o314 y0,o121 y0,o122 y0,o317 y0,o121 y0,o319 y0,o320 y0,o321 y0,o121 y0,o132 y0,o336 y0,o121 y0,o338 y0,o339 y0,o340 y0,o121 y0,o122 y0,o343 y0,o121 y0,o345 y0,o346 y0,o347 y0,o121 y0,o122 y0,o350 y0,o121 y0,o352 y0,o353 y0,o354 y0,o121 y0,o122 y0,o357 y0,o121 y0,o359 y0,o360 y0,o361 y0,o121 y0,o122 y0,o364 y0,o121 y0,o366 y0,o367 y0,o368 y0,o121 y0,o122 y0,o371 y0,o121 y0,o373 y0,o374 y0,o375 y0,o376 y0,o377 y0,o378 y0,o379 y0,o380 y0,o381 y0,o382 y0,o121 y0,o122 y0,o385 y0,o121 y0,o387 y0,o388 y0,o389 y0,o121 y0,o122 y0,o414 y0,o121 y0,o416 y0,o417 y0,o418 y0,o121 y0,o122 y0,o421 y0,o422 y0,o423 y0,o121 y0,o122 y0,o426 y0,o121 y0,o428 y0,o429 y0,o430 y0,o121 y0,o122 y0,o433 y0,o434 y0,o435 y0,o121 y0,o122 y0,o438 y0,o121 y0,o440 y0,o441 y0,o442 y0,o121 y0,o122 y0,o445 y0,o121 y0,o447 y0,o448 y0,o449 y0,o121 y0,o122 y0,o452 y0,o121 y0,o454 y0,o455 y0,o456 y0,o121 y0,o122 y0,o459 y0,o121 y0,o461 y0,o462 y0,o463 y0,o121 y0,o122 y0,o466 y0,o467 y0,o468 y0,o121 y0,o122 y0,o471 y0,o121 y0,o473 y0,o474 y0,o475 y0,o121 y0,o122 y0,o478 y0,o121 y0,o480 y0,o481 y0,o482 y0],⟨[],[],[],0,[],[],false,#[],[],0,false,false,false,0,[2000,10,10],false,0,true,[],[],0,false⟩⟩
noncomputable abbrev u558(y0:Params)(y1:OsState):Shared:=(Shared.mk (hp557 y0) ⟨[]⟩ ⟨0,0,0,0⟩ 552 y1)
noncomputable abbrev F65(w:World)(os:OsState):=(u558 (World.params w) os)
noncomputable abbrev F67:=(Thread.mk (doneF Flow.next) cE (Pos.mk 236 0 266 49) [topFrame (Pos.mk 0 0 0 0)])
theorem rFint(w:World)(os:OsState):(@Eq (Option Shared) (Fast.tw14082659384304107361 Fast.tw14364793385576792824 PPl w 11 F4 2 (SharedT.abs (u556 (World.params w) os)) F67) (@Option.some Shared (F65 w os))):=by kernel_rfl
theorem rFin(w:World)(os:OsState):(@Eq (Option Shared) (topRun treeTable PPl w 11 F4 2 (SharedT.abs (u556 (World.params w) os)) F67) (@Option.some Shared (F65 w os))):=Eq.mpr ((congr (@congrArg _ _ _ _ (fun(y0:(∀(y0:F97),(∀(y1:Program),(∀(y2:World),(∀(y3:Nat),(∀(y4:(Option Value)),(∀(y5:Nat),(∀(y6:Shared),(∀(y7:Thread),(Option Shared))))))))))=>(fun(y1:F34)=>(@Eq (Option Shared) (y0 y1 PPl w 11 F4 2 (SharedT.abs (u556 (World.params w) os)) F67) (@Option.some Shared (F65 w os))))) Fast.te14082659384304107361) Fast.te14364793385576792824) :) (rFint w os)
noncomputable abbrev F11:=(@instHAppendOfAppend (List Stmt) (@List.instAppend Stmt))
noncomputable abbrev F66:=(@HAppend.hAppend.{0,0,0} (List Stmt) (List Stmt) (List Stmt) F11 g7 (@List.nil Stmt))
noncomputable abbrev F5:=(@HAppend.hAppend.{0,0,0} (List Stmt) (List Stmt) (List Stmt) F11 g5 (@HAppend.hAppend.{0,0,0} (List Stmt) (List Stmt) (List Stmt) F11 g6 F66))
noncomputable abbrev F31:=(Nat.add 204 (Nat.add 389 (Nat.add 346 2)))
noncomputable abbrev F94:=(Nat.add 214 (Nat.add 389 F31))
noncomputable abbrev F7:=(Nat.add 214 (Nat.add 214 F94))
noncomputable abbrev F30:=(Nat.add 12 (Nat.add 1 (Nat.add 196 F7)))
noncomputable abbrev F39:=(@HAppend.hAppend.{0,0,0} (List Stmt) (List Stmt) (List Stmt) F11 g3 (@HAppend.hAppend.{0,0,0} (List Stmt) (List Stmt) (List Stmt) F11 g4 F5))
theorem rRun(w:World)(os:OsState):(@Eq (Option Shared) (topRun treeTable PPl w 11 F4 F30 (F71 w os) (topStub PPl)) (@Option.some Shared (F65 w os))):=(@go_top treeTable PPl w 11 F4 12 (Nat.add 1 (Nat.add 196 F7)) (F71 w os) (F99 w os) (F65 w os) (topStub PPl) F105 (rPre w os) (@piece_block treeTable PPl w 11 F4 env (Pos.mk 0 0 0 0) 1 (Nat.add 196 F7) (F99 w os) (SharedT.abs (u128 (World.params w) os)) (F65 w os) bE cE (Pos.mk 0 0 0 0) (Pos.mk 0 0 0 0) (rBlock w os) (@piece_app treeTable PPl w 11 F4 env (Pos.mk 0 0 0 0) 196 F7 (SharedT.abs (u128 (World.params w) os)) (SharedT.abs (F86 w os)) (F65 w os) g0 (@HAppend.hAppend.{0,0,0} (List Stmt) (List Stmt) (List Stmt) F11 g1 (@HAppend.hAppend.{0,0,0} (List Stmt) (List Stmt) (List Stmt) F11 g2 F39)) cE (Pos.mk 0 0 0 0) (Pos.mk 2 0 3 8) (@segRun_of treeTable PPl w 11 F4 1 196 (u128 (World.params w) os) (F86 w os) F59 Flow.next cE (Pos.mk 2 0 3 8) (r0 w os)) (@piece_app treeTable PPl w 11 F4 env (Pos.mk 0 0 0 0) 214 (Nat.add 214 F94) (SharedT.abs (F86 w os)) (SharedT.abs (F87 w os)) (F65 w os) g1 (@HAppend.hAppend.{0,0,0} (List Stmt) (List Stmt) (List Stmt) F11 g2 F39) cE (Pos.mk 2 0 3 8) (Pos.mk 4 0 5 8) (@segRun_of treeTable PPl w 11 F4 1 214 (F86 w os) (F87 w os) F60 Flow.next cE (Pos.mk 4 0 5 8) (r1 w os)) (@piece_app treeTable PPl w 11 F4 env (Pos.mk 0 0 0 0) 214 F94 (SharedT.abs (F87 w os)) (SharedT.abs (F88 w os)) (F65 w os) g2 F39 cE (Pos.mk 4 0 5 8) (Pos.mk 6 0 7 8) (@segRun_of treeTable PPl w 11 F4 1 214 (F87 w os) (F88 w os) F61 Flow.next cE (Pos.mk 6 0 7 8) (r2 w os)) (@piece_app treeTable PPl w 11 F4 env (Pos.mk 0 0 0 0) 214 (Nat.add 389 F31) (SharedT.abs (F88 w os)) (SharedT.abs (F89 w os)) (F65 w os) g3 (@HAppend.hAppend.{0,0,0} (List Stmt) (List Stmt) (List Stmt) F11 g4 F5) cE (Pos.mk 6 0 7 8) (Pos.mk 8 0 9 8) (@segRun_of treeTable PPl w 11 F4 1 214 (F88 w os) (F89 w os) F62 Flow.next cE (Pos.mk 8 0 9 8) (r3 w os)) (@piece_app treeTable PPl w 11 F4 env (Pos.mk 0 0 0 0) 389 F31 (SharedT.abs (F89 w os)) (SharedT.abs (F106 w os)) (F65 w os) g4 F5 cE (Pos.mk 8 0 9 8) (Pos.mk 37 0 39 69) (@segRun_of treeTable PPl w 11 F4 1 389 (F89 w os) (F106 w os) F63 Flow.next cE (Pos.mk 37 0 39 69) (r4 w os)) (@piece_app treeTable PPl w 11 F4 env (Pos.mk 0 0 0 0) 204 (Nat.add 389 (Nat.add 346 2)) (SharedT.abs (F106 w os)) (SharedT.abs (F90 w os)) (F65 w os) g5 (@HAppend.hAppend.{0,0,0} (List Stmt) (List Stmt) (List Stmt) F11 g6 F66) cE (Pos.mk 37 0 39 69) (Pos.mk 89 0 89 8) (@segRun_of treeTable PPl w 11 F4 1 204 (F106 w os) (F90 w os) F54 Flow.next cE (Pos.mk 89 0 89 8) (r5 w os)) (@piece_app treeTable PPl w 11 F4 env (Pos.mk 0 0 0 0) 389 (Nat.add 346 2) (SharedT.abs (F90 w os)) (SharedT.abs (F107 w os)) (F65 w os) g6 F66 cE (Pos.mk 89 0 89 8) (Pos.mk 120 0 121 77) (@segRun_of treeTable PPl w 11 F4 1 389 (F90 w os) (F107 w os) F55 Flow.next cE (Pos.mk 120 0 121 77) (r6 w os)) (@piece_app treeTable PPl w 11 F4 env (Pos.mk 0 0 0 0) 346 2 (SharedT.abs (F107 w os)) (SharedT.abs (u556 (World.params w) os)) (F65 w os) g7 (@List.nil Stmt) cE (Pos.mk 120 0 121 77) (Pos.mk 236 0 266 49) (@segRun_of treeTable PPl w 11 F4 1 346 (F107 w os) (u556 (World.params w) os) F51 Flow.next cE (Pos.mk 236 0 266 49) (r7 w os)) (rFin w os)))))))))))
theorem rOpen:(@Eq Program (opening PPl) (plainProg (Scope.names (Module.scope (Program.main PPl))))):=by kernel_rfl
theorem rFence(s:Shared):(@Eq (Option Shared) (fenceModules? PPl s) (@Option.some Shared s)):=by kernel_rfl
noncomputable abbrev YT:Type:=(Prod (Option Value) (Prod (Option Obj) (Prod (Option Obj) (Prod (Option Obj) (Prod (Option Obj) (Prod (Option Obj) (Prod (Option Obj) (Prod (Option Obj) (Prod (Option Obj) (Prod (Option Obj) (Prod (Option Obj) (Prod (Option Obj) (Prod (Option Obj) (Prod (Option Obj) (Prod (Option Obj) (Prod (Option Obj) (Prod (Option Obj) (Prod (Option Obj) (Prod (Option Value) (Prod (Option Value) (Prod (Option Value) (Prod (Option Value) (Prod (Option Value) (Prod Bool (Prod (Option Value) (Prod (Option Value) (Prod (Option Value) (Prod Bool (Prod (Option Value) (Prod (Option Value) (Prod (Option Value) (Prod Bool (Prod (Option Value) (Prod (Option Value) (Prod (Option Value) (Prod Bool (Prod (Option Value) (Prod (Option Value) (Option Value)))))))))))))))))))))))))))))))))))))))
noncomputable abbrev F45:=(Str.ofString "__getattribute__")
noncomputable abbrev F52:=(Str.ofString "__getattr__")
noncomputable abbrev F64:=(Str.ofString "__class__")
noncomputable abbrev Yf(y0:Shared):YT:=((globalOf (Shared.heap y0) (Str.ofString "Book")),((Heap.get? (Shared.heap y0) 189),((Heap.get? (Shared.heap y0) 188),((Heap.get? (Shared.heap y0) 158),((Heap.get? (Shared.heap y0) 157),((Heap.get? (Shared.heap y0) 165),((Heap.get? (Shared.heap y0) 164),((Heap.get? (Shared.heap y0) 172),((Heap.get? (Shared.heap y0) 171),((Heap.get? (Shared.heap y0) 179),((Heap.get? (Shared.heap y0) 178),((Heap.get? (Shared.heap y0) 186),((Heap.get? (Shared.heap y0) 185),((Heap.get? (Shared.heap y0) 24),((Heap.get? (Shared.heap y0) 37),((Heap.get? (Shared.heap y0) 49),((Heap.get? (Shared.heap y0) 61),((Heap.get? (Shared.heap y0) 73),((globalOf (Shared.heap y0) F53),((globalOf (Shared.heap y0) (Str.ofString "BadJob")),((globalOf (Shared.heap y0) F56),((globalOf (Shared.heap y0) F48),((globalOf (Shared.heap y0) (Str.ofString "NoRow")),((Heap.isNs (Shared.heap y0) 23),((Heap.nsMap (Shared.heap y0) 23 F64),((Heap.nsMap (Shared.heap y0) 23 F45),((Heap.nsMap (Shared.heap y0) 23 F52),((Heap.isNs (Shared.heap y0) 36),((Heap.nsMap (Shared.heap y0) 36 F64),((Heap.nsMap (Shared.heap y0) 36 F45),((Heap.nsMap (Shared.heap y0) 36 F52),((Heap.isNs (Shared.heap y0) 48),((Heap.nsMap (Shared.heap y0) 48 F64),((Heap.nsMap (Shared.heap y0) 48 F45),((Heap.nsMap (Shared.heap y0) 48 F52),((Heap.isNs (Shared.heap y0) 60),((Heap.nsMap (Shared.heap y0) 60 F64),((Heap.nsMap (Shared.heap y0) 60 F45),(Heap.nsMap (Shared.heap y0) 60 F52)))))))))))))))))))))))))))))))))))))))
noncomputable abbrev F72:=(Value.builtin "ValueError.__new__")
noncomputable abbrev F14:=(@Option.some Obj (Obj.mk (Value.type "type") (@Option.none Nat) (Data.cls (ClassData.mk F53 [Value.type "ValueError"] [Value.ref 24,Value.type "ValueError",Value.type "Exception",Value.type "BaseException",Value.type "object"] 23 F53 Bool.true (@List.nil Str) [Value.ref 37,Value.ref 49,Value.ref 61,Value.ref 73] Bool.false (@Option.none Bool) Bool.false)) (@List.toArray (Option Value) [@Option.some Value (Value.ref 15),@Option.none Value,@Option.some Value (Value.str F53 189),@Option.some Value (Value.str F53 197),@Option.some Value F72,@Option.some Value (Value.bool Bool.true)])))
noncomputable abbrev F15:=(@Option.some Obj (Obj.mk (Value.type "type") (@Option.none Nat) (Data.cls (ClassData.mk F48 [Value.ref 24] [Value.ref 61,Value.ref 24,Value.type "ValueError",Value.type "Exception",Value.type "BaseException",Value.type "object"] 60 F48 Bool.true (@List.nil Str) (@List.nil Value) Bool.false (@Option.none Bool) Bool.false)) (@List.toArray (Option Value) [@Option.some Value (Value.ref 52),@Option.none Value,@Option.some Value (Value.str F48 239),@Option.some Value (Value.str F48 247),@Option.some Value F72,@Option.some Value (Value.bool Bool.true)])))
noncomputable abbrev F16:=(@Option.some Obj (Obj.mk (Value.type "type") (@Option.none Nat) (Data.cls (ClassData.mk F56 [Value.ref 24] [Value.ref 49,Value.ref 24,Value.type "ValueError",Value.type "Exception",Value.type "BaseException",Value.type "object"] 48 F56 Bool.true (@List.nil Str) (@List.nil Value) Bool.false (@Option.none Bool) Bool.false)) (@List.toArray (Option Value) [@Option.some Value (Value.ref 40),@Option.none Value,@Option.some Value (Value.str F56 223),@Option.some Value (Value.str F56 231),@Option.some Value F72,@Option.some Value (Value.bool Bool.true)])))
noncomputable abbrev F17:=(@Option.some Obj (Obj.mk (Value.type "type") (@Option.none Nat) (Data.cls (ClassData.mk (Str.ofString "BadJob") [Value.ref 24] [Value.ref 37,Value.ref 24,Value.type "ValueError",Value.type "Exception",Value.type "BaseException",Value.type "object"] 36 (Str.ofString "BadJob") Bool.true (@List.nil Str) (@List.nil Value) Bool.false (@Option.none Bool) Bool.false)) (@List.toArray (Option Value) [@Option.some Value (Value.ref 28),@Option.none Value,@Option.some Value (Value.str (Str.ofString "BadJob") 207),@Option.some Value (Value.str (Str.ofString "BadJob") 215),@Option.some Value F72,@Option.some Value (Value.bool Bool.true)])))
noncomputable abbrev F18:=(@Option.some Obj (Obj.mk (Value.type "type") (@Option.none Nat) (Data.cls (ClassData.mk (Str.ofString "NoRow") [Value.ref 24] [Value.ref 73,Value.ref 24,Value.type "ValueError",Value.type "Exception",Value.type "BaseException",Value.type "object"] 72 (Str.ofString "NoRow") Bool.true (@List.nil Str) (@List.nil Value) Bool.false (@Option.none Bool) Bool.false)) (@List.toArray (Option Value) [@Option.some Value (Value.ref 64),@Option.none Value,@Option.some Value (Value.str (Str.ofString "NoRow") 255),@Option.some Value (Value.str (Str.ofString "NoRow") 263),@Option.some Value F72,@Option.some Value (Value.bool Bool.true)])))
noncomputable abbrev F75:=(@Option.some Value (Value.ref 189))
noncomputable abbrev F76:=(@Option.some Value (Value.ref 24))
noncomputable abbrev F77:=(@Option.some Value (Value.ref 37))
noncomputable abbrev F78:=(@Option.some Value (Value.ref 49))
noncomputable abbrev F79:=(@Option.some Value (Value.ref 61))
noncomputable abbrev F80:=(@Option.some Value (Value.ref 73))
noncomputable abbrev Ya(y0:World):YT:=(F75,((Heap.get? (hp557 (World.params y0)) 189),((Heap.get? (hp557 (World.params y0)) 188),((Heap.get? (hp557 (World.params y0)) 158),((Heap.get? (hp557 (World.params y0)) 157),((Heap.get? (hp557 (World.params y0)) 165),((Heap.get? (hp557 (World.params y0)) 164),((Heap.get? (hp557 (World.params y0)) 172),((Heap.get? (hp557 (World.params y0)) 171),((Heap.get? (hp557 (World.params y0)) 179),((Heap.get? (hp557 (World.params y0)) 178),((Heap.get? (hp557 (World.params y0)) 186),((Heap.get? (hp557 (World.params y0)) 185),(F14,(F17,(F16,(F15,(F18,(F76,(F77,(F78,(F79,(F80,(Bool.true,((@Option.none Value),((@Option.none Value),((@Option.none Value),(Bool.true,((@Option.none Value),((@Option.none Value),((@Option.none Value),(Bool.true,((@Option.none Value),((@Option.none Value),((@Option.none Value),(Bool.true,((@Option.none Value),((@Option.none Value),(@Option.none Value)))))))))))))))))))))))))))))))))))))))
noncomputable abbrev F44(w:World):=(Bool.and (Heap.isNs (F27 w) mainGlobals) (@BEq.beq Nat (@instBEqOfDecidableEq Nat instDecidableEqNat) (@Array.size GenState ⟨[]⟩) 0))
noncomputable abbrev F57:=(Str.mk ⟨[95,95,97,110,110,111,116,97,116,105,111,110,115,95,95]⟩)
theorem rSizet(w:World):(@Eq (Prod Bool (Prod Nat (Option Value))) ((F44 w),((@Array.size Obj (Heap.objs (F27 w))),(Fast.tw8920871248978507458 (F27 w) mainGlobals F57))) (Bool.true,(11,F4))):=by kernel_rfl
noncomputable abbrev F19:=(∀(y0:Heap),(∀(y1:Addr),(∀(y2:Str),(Option Value))))
theorem rSize(w:World):(@Eq (Prod Bool (Prod Nat (Option Value))) ((F44 w),((@Array.size Obj (Heap.objs (F27 w))),(Heap.nsMap (F27 w) mainGlobals (Str.ofString "__annotations__")))) (Bool.true,(11,F4))):=Eq.mpr ((congr (@congrArg _ _ _ _ (fun(y0:F19)=>(fun(y1:Str)=>(@Eq (Prod Bool (Prod Nat (Option Value))) ((F44 w),((@Array.size Obj (Heap.objs (F27 w))),(y0 (F27 w) mainGlobals y1))) (Bool.true,(11,F4))))) Fast.te8920871248978507458) (@id (@Eq Str (Str.ofString "__annotations__") F57) (Fast.ofString_ofList [Char.ofNat 95,Char.ofNat 95,Char.ofNat 97,Char.ofNat 110,Char.ofNat 110,Char.ofNat 111,Char.ofNat 116,Char.ofNat 97,Char.ofNat 116,Char.ofNat 105,Char.ofNat 111,Char.ofNat 110,Char.ofNat 115,Char.ofNat 95,Char.ofNat 95]))) :) (rSizet w)
noncomputable abbrev F29(w:World):=(hp557 (World.params w))
noncomputable abbrev F0(w:World)(os:OsState):=(Shared.mk (F29 w) ⟨[]⟩ ⟨0,0,0,0⟩ 552 os)
noncomputable abbrev F41:=(Module.body (Program.main PPl))
theorem k0t(w:World)(os:OsState):(@Eq Bool (Bool.and (Bool.and (Bool.and (staticsOk (Fast.tw5923862056798008813 F41) (F27 w) (F29 w)) (namesBound PPl (F29 w))) (gensDone (F0 w os))) (laidKept (F27 w) (F29 w))) Bool.true):=by kernel_rfl
noncomputable abbrev F85(w:World)(os:OsState):=(Bool.and (Bool.and (Bool.and (staticsOk (importedModules F41) (F27 w) (F29 w)) (namesBound PPl (F29 w))) (gensDone (F0 w os))) (laidKept (F27 w) (F29 w)))
theorem k0(w:World)(os:OsState):(@Eq Bool (F85 w os) Bool.true):=Eq.mpr ((@congrArg _ _ _ _ (fun(y0:(∀(y0:(List Stmt)),(List Str)))=>(@Eq Bool (Bool.and (Bool.and (Bool.and (staticsOk (y0 F41) (F27 w) (F29 w)) (namesBound PPl (F29 w))) (gensDone (F0 w os))) (laidKept (F27 w) (F29 w))) Bool.true)) Fast.te5923862056798008813) :) (k0t w os)
noncomputable abbrev F43(w:World)(os:OsState):=(Shared.mk (Shared.heap (F0 w os)) (@List.toArray GenState (@List.nil GenState)) (Shared.drawn (F0 w os)) (Shared.toks (F0 w os)) (Shared.os (F0 w os)))
noncomputable abbrev F95:=(fun(y2:DefRec)=>(DefRec.name y2))
theorem k1t(w:World)(os:OsState):(@Eq Seen (Fast.tw5160383126252970620 (@R.mapR DefRec Str F95 (Fast.tw3399658132070893891 PQl)) (Fast.tw5991557255702980513 PQl) (@List.nil Str) (F43 w os)) (expectedOf PQl)):=by kernel_rfl
theorem k1(w:World)(os:OsState):(@Eq Seen (seen (@List.map DefRec Str F95 (recsOf PQl)) (ownsOf PQl) (@List.nil Str) (F43 w os)) (expectedOf PQl)):=Eq.mpr ((congr (congr (congr (@congrArg _ _ _ _ (fun(y0:(∀(y0:(List Str)),(∀(y1:(List OwnSpec)),(∀(y2:(List Str)),(∀(y3:Shared),Seen)))))=>(fun(y1:(∀(y1:Type),(∀(y2:Type),(∀(y3:(∀(y3:y1),y2)),(∀(y4:(List y1)),(List y2))))))=>(fun(y2:(∀(y2:Program),(List DefRec)))=>(fun(y3:(∀(y3:Program),(List OwnSpec)))=>(@Eq Seen (y0 (y1 DefRec Str (fun(y4:DefRec)=>(DefRec.name y4)) (y2 PQl)) (y3 PQl) (@List.nil Str) (F43 w os)) (expectedOf PQl)))))) Fast.te5160383126252970620) @R.mapR_eq.{0,0}) Fast.te3399658132070893891) Fast.te5991557255702980513) :) (k1t w os)
theorem k2(w:World)(os:OsState):(@Eq (Prod (Option Str) (List (Prod Str Value))) (Heap.bltView (Shared.heap (F0 w os))) bltViewBooted):=by kernel_rfl
noncomputable abbrev F26(w:World)(os:OsState):=(@ite Bool (@Eq Bool Bool.true Bool.true) (instDecidableEqBool Bool.true Bool.true) (@BEq.beq Nat (@instBEqOfDecidableEq Nat instDecidableEqNat) (@Array.size GenState (Shared.gens (F0 w os))) 0) (Bool.not (leftWithCleanup (Shared.gens (F0 w os)))))
noncomputable abbrev F73:=(Fast.tw821141287760084731 PQl (@List.nil Str))
noncomputable abbrev F110:=(@List.nil (Prod Str WData))
theorem k3t(w:World)(os:OsState):(@Eq Bool (Bool.and (Bool.and (Bool.and (Bool.and (Bool.and (Bool.and (Fast.tw10880121769531294198 (Shared.heap (F0 w os)) F73 (@R.mapR DefRec Str F95 (Fast.tw3399658132070893891 PQl)) (@R.mapR (Prod Str PyData) Str (fun(y2:(Prod Str PyData))=>(@Prod.fst Str PyData y2)) (Fast.tw7409074990110511671 PQl)) (@R.mapR ClsRec Str (fun(y2:ClsRec)=>(ClsRec.name y2)) (Fast.tw13664370479719496447 PQl F73))) (Fast.tw14722251495701143533 (Shared.heap (F0 w os)) (Fast.tw5923862056798008813 F41))) (Heap.isNs (Shared.heap (F0 w os)) mainGlobals)) (Heap.isNs (Shared.heap (F0 w os)) builtinsNs)) (Fast.tw10994771534591457954 PQl (Shared.heap (F0 w os)))) ((fun(y2:Shared)=>(Bool.and (xlAt PQl F110 y2) (recOk (RowW.records (OpenRow.toRowW (Fast.tw2368527892694137696 PRl))) y2))) (F0 w os))) (F26 w os)) Bool.true):=by kernel_rfl
noncomputable abbrev F42:=(fun(y2:Shared)=>(Bool.and (xlAt PQl F110 y2) (recOk (RowW.records (OpenRow.toRowW (OpenLaw.row PRl))) y2)))
noncomputable abbrev F111:=(looseW PQl (@List.nil Str))
theorem k3(w:World)(os:OsState):(@Eq Bool (Bool.and (Bool.and (Bool.and (Bool.and (Bool.and (Bool.and (Heap.keysOk (Shared.heap (F0 w os)) F111 (@List.map DefRec Str F95 (recsOf PQl)) (@List.map (Prod Str PyData) Str (fun(y2:(Prod Str PyData))=>(@Prod.fst Str PyData y2)) (litsOf PQl)) (@List.map ClsRec Str (fun(y2:ClsRec)=>(ClsRec.name y2)) (clssOf PQl F111))) (Heap.accountedOkI (Shared.heap (F0 w os)) (importedModules F41))) (Heap.isNs (Shared.heap (F0 w os)) mainGlobals)) (Heap.isNs (Shared.heap (F0 w os)) builtinsNs)) (tablesOk PQl (Shared.heap (F0 w os)))) (F42 (F0 w os))) (F26 w os)) Bool.true):=Eq.mpr ((congr (congr (congr (congr (congr (congr (congr (congr (congr (@congrArg _ _ _ _ (fun(y0:(∀(y0:Heap),(∀(y1:(List Str)),(∀(y2:(List Str)),(∀(y3:(List Str)),(∀(y4:(List Str)),Bool))))))=>(fun(y1:(∀(y1:Program),(∀(y2:(List Str)),(List Str))))=>(fun(y2:(∀(y2:Type),(∀(y3:Type),(∀(y4:(∀(y4:y2),y3)),(∀(y5:(List y2)),(List y3))))))=>(fun(y3:(∀(y3:Program),(List DefRec)))=>(fun(y4:(∀(y4:Program),(List (Prod Str PyData))))=>(fun(y5:(∀(y5:Program),(∀(y6:(List Str)),(List ClsRec))))=>(fun(y6:(∀(y6:Heap),(∀(y7:(List Str)),Bool)))=>(fun(y7:(∀(y7:(List Stmt)),(List Str)))=>(fun(y8:(∀(y8:Program),(∀(y9:Heap),Bool)))=>(fun(y9:(∀(y9:OpenLaw),OpenRow))=>(@Eq Bool (Bool.and (Bool.and (Bool.and (Bool.and (Bool.and (Bool.and (y0 (Shared.heap (F0 w os)) (y1 PQl (@List.nil Str)) (y2 DefRec Str (fun(y10:DefRec)=>(DefRec.name y10)) (y3 PQl)) (y2 (Prod Str PyData) Str (fun(y10:(Prod Str PyData))=>(@Prod.fst Str PyData y10)) (y4 PQl)) (y2 ClsRec Str (fun(y10:ClsRec)=>(ClsRec.name y10)) (y5 PQl (y1 PQl (@List.nil Str))))) (y6 (Shared.heap (F0 w os)) (y7 F41))) (Heap.isNs (Shared.heap (F0 w os)) mainGlobals)) (Heap.isNs (Shared.heap (F0 w os)) builtinsNs)) (y8 PQl (Shared.heap (F0 w os)))) ((fun(y10:Shared)=>(Bool.and (xlAt PQl F110 y10) (recOk (RowW.records (OpenRow.toRowW (y9 PRl))) y10))) (F0 w os))) (F26 w os)) Bool.true))))))))))) Fast.te10880121769531294198) Fast.te821141287760084731) @R.mapR_eq.{0,0}) Fast.te3399658132070893891) Fast.te7409074990110511671) Fast.te13664370479719496447) Fast.te14722251495701143533) Fast.te5923862056798008813) Fast.te10994771534591457954) Fast.te2368527892694137696) :) (k3t w os)
theorem k4t(w:World)(os:OsState):(@Eq Bool (Fast.tw479339242167458305 PQl (F0 w os)) Bool.true):=by kernel_rfl
theorem k4(w:World)(os:OsState):(@Eq Bool (tabsOk PQl (F0 w os)) Bool.true):=Eq.mpr ((@congrArg _ _ _ _ (fun(y0:(∀(y0:Program),(∀(y1:Shared),Bool)))=>(@Eq Bool (y0 PQl (F0 w os)) Bool.true)) Fast.te479339242167458305) :) (k4t w os)
noncomputable abbrev F23:=(Prod (List (Option FnShape)) Bool)
theorem k5t(w:World)(os:OsState):(@Eq F23 (Fast.tw16090120013241838585 PQl (Fast.tw3247288618530077131 PQl) (F0 w os)) (pinGoodD (Fast.tw3247288618530077131 PQl))):=by kernel_rfl
theorem k5(w:World)(os:OsState):(@Eq F23 (pinSeenD PQl (drecsOf PQl) (F0 w os)) (pinGoodD (drecsOf PQl))):=Eq.mpr ((congr (@congrArg _ _ _ _ (fun(y0:(∀(y0:Program),(∀(y1:(List (Prod DefRec (List PyData)))),(∀(y2:Shared),F23))))=>(fun(y1:(∀(y1:Program),(List (Prod DefRec (List PyData)))))=>(@Eq F23 (y0 PQl (y1 PQl) (F0 w os)) (pinGoodD (y1 PQl))))) Fast.te16090120013241838585) Fast.te3247288618530077131) :) (k5t w os)
noncomputable abbrev F96:=(List (Option PlainShape))
theorem k6t(w:World)(os:OsState):(@Eq F96 (Fast.tw2386780881361962483 PQl F73 (F0 w os)) (plainGoodE PQl F73)):=by kernel_rfl
theorem k6(w:World)(os:OsState):(@Eq F96 (plainSeenE PQl F111 (F0 w os)) (plainGoodE PQl F111)):=Eq.mpr ((congr (@congrArg _ _ _ _ (fun(y0:(∀(y0:Program),(∀(y1:(List Str)),(∀(y2:Shared),F96))))=>(fun(y1:(∀(y1:Program),(∀(y2:(List Str)),(List Str))))=>(@Eq F96 (y0 PQl (y1 PQl (@List.nil Str)) (F0 w os)) (plainGoodE PQl (y1 PQl (@List.nil Str)))))) Fast.te2386780881361962483) Fast.te821141287760084731) :) (k6t w os)
noncomputable abbrev F33:=(Option (Prod PlainShape Bool))
theorem k7t(w:World)(os:OsState):(@Eq (List F33) (Fast.tw11698064438423848299 PQl (@List.nil Str) (F0 w os)) (plainGoodD PQl (@List.nil Str))):=by kernel_rfl
theorem k7(w:World)(os:OsState):(@Eq (List F33) (plainSeenD PQl (@List.nil Str) (F0 w os)) (plainGoodD PQl (@List.nil Str))):=Eq.mpr ((@congrArg _ _ _ _ (fun(y0:(∀(y0:Program),(∀(y1:(List Str)),(∀(y2:Shared),(List F33)))))=>(@Eq (List F33) (y0 PQl (@List.nil Str) (F0 w os)) (plainGoodD PQl (@List.nil Str)))) Fast.te11698064438423848299) :) (k7t w os)
theorem k8t(w:World)(os:OsState):(@Eq F23 (Fast.tw7317090234206586261 PQl (F0 w os)) (wideGood PQl)):=by kernel_rfl
theorem k8(w:World)(os:OsState):(@Eq F23 (wideSeen PQl (F0 w os)) (wideGood PQl)):=Eq.mpr ((@congrArg _ _ _ _ (fun(y0:(∀(y0:Program),(∀(y1:Shared),F23)))=>(@Eq F23 (y0 PQl (F0 w os)) (wideGood PQl))) Fast.te7317090234206586261) :) (k8t w os)
noncomputable abbrev F92:=(List (Prod (Option F23) F33))
theorem k9t(w:World)(os:OsState):(@Eq F92 (Fast.tw7369524293546568484 PQl (@List.nil Str) (F0 w os)) (clsGoodW PQl (@List.nil Str))):=by kernel_rfl
theorem k9(w:World)(os:OsState):(@Eq F92 (clsSeenW PQl (@List.nil Str) (F0 w os)) (clsGoodW PQl (@List.nil Str))):=Eq.mpr ((@congrArg _ _ _ _ (fun(y0:(∀(y0:Program),(∀(y1:(List Str)),(∀(y2:Shared),F92))))=>(@Eq F92 (y0 PQl (@List.nil Str) (F0 w os)) (clsGoodW PQl (@List.nil Str)))) Fast.te7369524293546568484) :) (k9t w os)
theorem k10t(w:World)(os:OsState):(@Eq (Option Value) (globalOf (Shared.heap (F0 w os)) (Str.mk ⟨[66,111,111,107]⟩)) F75):=by kernel_rfl
theorem k10(w:World)(os:OsState):(@Eq (Option Value) (globalOf (Shared.heap (F0 w os)) (Str.ofString "Book")) F75):=Eq.mpr ((@congrArg _ _ _ _ (fun(y0:Str)=>(@Eq (Option Value) (globalOf (Shared.heap (F0 w os)) y0) F75)) (@id (@Eq Str (Str.ofString "Book") (Str.mk ⟨[66,111,111,107]⟩)) (Fast.ofString_ofList [Char.ofNat 66,Char.ofNat 111,Char.ofNat 111,Char.ofNat 107]))) :) (k10t w os)
theorem k11(w:World)(os:OsState):(@Eq (Option Obj) (Heap.get? (Shared.heap (F0 w os)) 189) (Heap.get? (F29 w) 189)):=rfl
theorem k12(w:World)(os:OsState):(@Eq (Option Obj) (Heap.get? (Shared.heap (F0 w os)) 188) (Heap.get? (F29 w) 188)):=rfl
theorem k13(w:World)(os:OsState):(@Eq (Option Obj) (Heap.get? (Shared.heap (F0 w os)) 158) (Heap.get? (F29 w) 158)):=rfl
theorem k14(w:World)(os:OsState):(@Eq (Option Obj) (Heap.get? (Shared.heap (F0 w os)) 157) (Heap.get? (F29 w) 157)):=rfl
theorem k15(w:World)(os:OsState):(@Eq (Option Obj) (Heap.get? (Shared.heap (F0 w os)) 165) (Heap.get? (F29 w) 165)):=rfl
theorem k16(w:World)(os:OsState):(@Eq (Option Obj) (Heap.get? (Shared.heap (F0 w os)) 164) (Heap.get? (F29 w) 164)):=rfl
theorem k17(w:World)(os:OsState):(@Eq (Option Obj) (Heap.get? (Shared.heap (F0 w os)) 172) (Heap.get? (F29 w) 172)):=rfl
theorem k18(w:World)(os:OsState):(@Eq (Option Obj) (Heap.get? (Shared.heap (F0 w os)) 171) (Heap.get? (F29 w) 171)):=rfl
theorem k19(w:World)(os:OsState):(@Eq (Option Obj) (Heap.get? (Shared.heap (F0 w os)) 179) (Heap.get? (F29 w) 179)):=rfl
theorem k20(w:World)(os:OsState):(@Eq (Option Obj) (Heap.get? (Shared.heap (F0 w os)) 178) (Heap.get? (F29 w) 178)):=rfl
theorem k21(w:World)(os:OsState):(@Eq (Option Obj) (Heap.get? (Shared.heap (F0 w os)) 186) (Heap.get? (F29 w) 186)):=rfl
theorem k22(w:World)(os:OsState):(@Eq (Option Obj) (Heap.get? (Shared.heap (F0 w os)) 185) (Heap.get? (F29 w) 185)):=rfl
noncomputable abbrev F20:=(Str.mk ⟨[82,117,110,69,114,114,111,114]⟩)
noncomputable abbrev F68:=(Value.builtin SL.s4209523147560561109x18)
noncomputable abbrev F69:=(Value.type SL.s17162191345867700912x4)
theorem k23t(w:World)(os:OsState):(@Eq (Option Obj) (Heap.get? (Shared.heap (F0 w os)) 24) (@Option.some Obj (Obj.mk F69 (@Option.none Nat) (Data.cls (ClassData.mk F20 [Value.type SL.s6070975301684473832x10] [Value.ref 24,Value.type SL.s6070975301684473832x10,Value.type SL.s5946037652744460706x9,Value.type SL.s4278001404047624695x13,Value.type SL.s2742458400755230247x6] 23 F20 Bool.true (@List.nil Str) [Value.ref 37,Value.ref 49,Value.ref 61,Value.ref 73] Bool.false (@Option.none Bool) Bool.false)) (@List.toArray (Option Value) [@Option.some Value (Value.ref 15),@Option.none Value,@Option.some Value (Value.str F20 189),@Option.some Value (Value.str F20 197),@Option.some Value F68,@Option.some Value (Value.bool Bool.true)])))):=by kernel_rfl
noncomputable abbrev F40:=(@id (@Eq Str F53 F20) (Fast.ofString_ofList [Char.ofNat 82,Char.ofNat 117,Char.ofNat 110,Char.ofNat 69,Char.ofNat 114,Char.ofNat 114,Char.ofNat 111,Char.ofNat 114]))
theorem k23(w:World)(os:OsState):(@Eq (Option Obj) (Heap.get? (Shared.heap (F0 w os)) 24) F14):=Eq.mpr ((congr (congr (congr (congr (congr (congr (@congrArg _ _ _ _ (fun(y0:String)=>(fun(y1:Str)=>(fun(y2:String)=>(fun(y3:String)=>(fun(y4:String)=>(fun(y5:String)=>(fun(y6:String)=>(@Eq (Option Obj) (Heap.get? (Shared.heap (F0 w os)) 24) (@Option.some Obj (Obj.mk (Value.type y0) (@Option.none Nat) (Data.cls (ClassData.mk y1 [Value.type y2] [Value.ref 24,Value.type y2,Value.type y3,Value.type y4,Value.type y5] 23 y1 Bool.true (@List.nil Str) [Value.ref 37,Value.ref 49,Value.ref 61,Value.ref 73] Bool.false (@Option.none Bool) Bool.false)) (@List.toArray (Option Value) [@Option.some Value (Value.ref 15),@Option.none Value,@Option.some Value (Value.str y1 189),@Option.some Value (Value.str y1 197),@Option.some Value (Value.builtin y6),@Option.some Value (Value.bool Bool.true)]))))))))))) SL.e17162191345867700912x4) F40) SL.e6070975301684473832x10) SL.e5946037652744460706x9) SL.e4278001404047624695x13) SL.e2742458400755230247x6) SL.e4209523147560561109x18) :) (k23t w os)
noncomputable abbrev F24:=(Str.mk ⟨[66,97,100,74,111,98]⟩)
theorem k24t(w:World)(os:OsState):(@Eq (Option Obj) (Heap.get? (Shared.heap (F0 w os)) 37) (@Option.some Obj (Obj.mk F69 (@Option.none Nat) (Data.cls (ClassData.mk F24 [Value.ref 24] [Value.ref 37,Value.ref 24,Value.type SL.s6070975301684473832x10,Value.type SL.s5946037652744460706x9,Value.type SL.s4278001404047624695x13,Value.type SL.s2742458400755230247x6] 36 F24 Bool.true (@List.nil Str) (@List.nil Value) Bool.false (@Option.none Bool) Bool.false)) (@List.toArray (Option Value) [@Option.some Value (Value.ref 28),@Option.none Value,@Option.some Value (Value.str F24 207),@Option.some Value (Value.str F24 215),@Option.some Value F68,@Option.some Value (Value.bool Bool.true)])))):=by kernel_rfl
noncomputable abbrev F49:=(@id (@Eq Str (Str.ofString "BadJob") F24) (Fast.ofString_ofList [Char.ofNat 66,Char.ofNat 97,Char.ofNat 100,Char.ofNat 74,Char.ofNat 111,Char.ofNat 98]))
theorem k24(w:World)(os:OsState):(@Eq (Option Obj) (Heap.get? (Shared.heap (F0 w os)) 37) F17):=Eq.mpr ((congr (congr (congr (congr (congr (congr (@congrArg _ _ _ _ (fun(y0:String)=>(fun(y1:Str)=>(fun(y2:String)=>(fun(y3:String)=>(fun(y4:String)=>(fun(y5:String)=>(fun(y6:String)=>(@Eq (Option Obj) (Heap.get? (Shared.heap (F0 w os)) 37) (@Option.some Obj (Obj.mk (Value.type y0) (@Option.none Nat) (Data.cls (ClassData.mk y1 [Value.ref 24] [Value.ref 37,Value.ref 24,Value.type y2,Value.type y3,Value.type y4,Value.type y5] 36 y1 Bool.true (@List.nil Str) (@List.nil Value) Bool.false (@Option.none Bool) Bool.false)) (@List.toArray (Option Value) [@Option.some Value (Value.ref 28),@Option.none Value,@Option.some Value (Value.str y1 207),@Option.some Value (Value.str y1 215),@Option.some Value (Value.builtin y6),@Option.some Value (Value.bool Bool.true)]))))))))))) SL.e17162191345867700912x4) F49) SL.e6070975301684473832x10) SL.e5946037652744460706x9) SL.e4278001404047624695x13) SL.e2742458400755230247x6) SL.e4209523147560561109x18) :) (k24t w os)
noncomputable abbrev F21:=(Str.mk ⟨[84,111,111,77,97,110,121]⟩)
theorem k25t(w:World)(os:OsState):(@Eq (Option Obj) (Heap.get? (Shared.heap (F0 w os)) 49) (@Option.some Obj (Obj.mk F69 (@Option.none Nat) (Data.cls (ClassData.mk F21 [Value.ref 24] [Value.ref 49,Value.ref 24,Value.type SL.s6070975301684473832x10,Value.type SL.s5946037652744460706x9,Value.type SL.s4278001404047624695x13,Value.type SL.s2742458400755230247x6] 48 F21 Bool.true (@List.nil Str) (@List.nil Value) Bool.false (@Option.none Bool) Bool.false)) (@List.toArray (Option Value) [@Option.some Value (Value.ref 40),@Option.none Value,@Option.some Value (Value.str F21 223),@Option.some Value (Value.str F21 231),@Option.some Value F68,@Option.some Value (Value.bool Bool.true)])))):=by kernel_rfl
noncomputable abbrev F46:=(@id (@Eq Str F56 F21) (Fast.ofString_ofList [Char.ofNat 84,Char.ofNat 111,Char.ofNat 111,Char.ofNat 77,Char.ofNat 97,Char.ofNat 110,Char.ofNat 121]))
theorem k25(w:World)(os:OsState):(@Eq (Option Obj) (Heap.get? (Shared.heap (F0 w os)) 49) F16):=Eq.mpr ((congr (congr (congr (congr (congr (congr (@congrArg _ _ _ _ (fun(y0:String)=>(fun(y1:Str)=>(fun(y2:String)=>(fun(y3:String)=>(fun(y4:String)=>(fun(y5:String)=>(fun(y6:String)=>(@Eq (Option Obj) (Heap.get? (Shared.heap (F0 w os)) 49) (@Option.some Obj (Obj.mk (Value.type y0) (@Option.none Nat) (Data.cls (ClassData.mk y1 [Value.ref 24] [Value.ref 49,Value.ref 24,Value.type y2,Value.type y3,Value.type y4,Value.type y5] 48 y1 Bool.true (@List.nil Str) (@List.nil Value) Bool.false (@Option.none Bool) Bool.false)) (@List.toArray (Option Value) [@Option.some Value (Value.ref 40),@Option.none Value,@Option.some Value (Value.str y1 223),@Option.some Value (Value.str y1 231),@Option.some Value (Value.builtin y6),@Option.some Value (Value.bool Bool.true)]))))))))))) SL.e17162191345867700912x4) F46) SL.e6070975301684473832x10) SL.e5946037652744460706x9) SL.e4278001404047624695x13) SL.e2742458400755230247x6) SL.e4209523147560561109x18) :) (k25t w os)
noncomputable abbrev F13:=(Str.mk ⟨[79,117,116,79,102,80,108,97,99,101]⟩)
theorem k26t(w:World)(os:OsState):(@Eq (Option Obj) (Heap.get? (Shared.heap (F0 w os)) 61) (@Option.some Obj (Obj.mk F69 (@Option.none Nat) (Data.cls (ClassData.mk F13 [Value.ref 24] [Value.ref 61,Value.ref 24,Value.type SL.s6070975301684473832x10,Value.type SL.s5946037652744460706x9,Value.type SL.s4278001404047624695x13,Value.type SL.s2742458400755230247x6] 60 F13 Bool.true (@List.nil Str) (@List.nil Value) Bool.false (@Option.none Bool) Bool.false)) (@List.toArray (Option Value) [@Option.some Value (Value.ref 52),@Option.none Value,@Option.some Value (Value.str F13 239),@Option.some Value (Value.str F13 247),@Option.some Value F68,@Option.some Value (Value.bool Bool.true)])))):=by kernel_rfl
noncomputable abbrev F32:=(@id (@Eq Str F48 F13) (Fast.ofString_ofList [Char.ofNat 79,Char.ofNat 117,Char.ofNat 116,Char.ofNat 79,Char.ofNat 102,Char.ofNat 80,Char.ofNat 108,Char.ofNat 97,Char.ofNat 99,Char.ofNat 101]))
theorem k26(w:World)(os:OsState):(@Eq (Option Obj) (Heap.get? (Shared.heap (F0 w os)) 61) F15):=Eq.mpr ((congr (congr (congr (congr (congr (congr (@congrArg _ _ _ _ (fun(y0:String)=>(fun(y1:Str)=>(fun(y2:String)=>(fun(y3:String)=>(fun(y4:String)=>(fun(y5:String)=>(fun(y6:String)=>(@Eq (Option Obj) (Heap.get? (Shared.heap (F0 w os)) 61) (@Option.some Obj (Obj.mk (Value.type y0) (@Option.none Nat) (Data.cls (ClassData.mk y1 [Value.ref 24] [Value.ref 61,Value.ref 24,Value.type y2,Value.type y3,Value.type y4,Value.type y5] 60 y1 Bool.true (@List.nil Str) (@List.nil Value) Bool.false (@Option.none Bool) Bool.false)) (@List.toArray (Option Value) [@Option.some Value (Value.ref 52),@Option.none Value,@Option.some Value (Value.str y1 239),@Option.some Value (Value.str y1 247),@Option.some Value (Value.builtin y6),@Option.some Value (Value.bool Bool.true)]))))))))))) SL.e17162191345867700912x4) F32) SL.e6070975301684473832x10) SL.e5946037652744460706x9) SL.e4278001404047624695x13) SL.e2742458400755230247x6) SL.e4209523147560561109x18) :) (k26t w os)
noncomputable abbrev F28:=(Str.mk ⟨[78,111,82,111,119]⟩)
theorem k27t(w:World)(os:OsState):(@Eq (Option Obj) (Heap.get? (Shared.heap (F0 w os)) 73) (@Option.some Obj (Obj.mk F69 (@Option.none Nat) (Data.cls (ClassData.mk F28 [Value.ref 24] [Value.ref 73,Value.ref 24,Value.type SL.s6070975301684473832x10,Value.type SL.s5946037652744460706x9,Value.type SL.s4278001404047624695x13,Value.type SL.s2742458400755230247x6] 72 F28 Bool.true (@List.nil Str) (@List.nil Value) Bool.false (@Option.none Bool) Bool.false)) (@List.toArray (Option Value) [@Option.some Value (Value.ref 64),@Option.none Value,@Option.some Value (Value.str F28 255),@Option.some Value (Value.str F28 263),@Option.some Value F68,@Option.some Value (Value.bool Bool.true)])))):=by kernel_rfl
noncomputable abbrev F58:=(@id (@Eq Str (Str.ofString "NoRow") F28) (Fast.ofString_ofList [Char.ofNat 78,Char.ofNat 111,Char.ofNat 82,Char.ofNat 111,Char.ofNat 119]))
theorem k27(w:World)(os:OsState):(@Eq (Option Obj) (Heap.get? (Shared.heap (F0 w os)) 73) F18):=Eq.mpr ((congr (congr (congr (congr (congr (congr (@congrArg _ _ _ _ (fun(y0:String)=>(fun(y1:Str)=>(fun(y2:String)=>(fun(y3:String)=>(fun(y4:String)=>(fun(y5:String)=>(fun(y6:String)=>(@Eq (Option Obj) (Heap.get? (Shared.heap (F0 w os)) 73) (@Option.some Obj (Obj.mk (Value.type y0) (@Option.none Nat) (Data.cls (ClassData.mk y1 [Value.ref 24] [Value.ref 73,Value.ref 24,Value.type y2,Value.type y3,Value.type y4,Value.type y5] 72 y1 Bool.true (@List.nil Str) (@List.nil Value) Bool.false (@Option.none Bool) Bool.false)) (@List.toArray (Option Value) [@Option.some Value (Value.ref 64),@Option.none Value,@Option.some Value (Value.str y1 255),@Option.some Value (Value.str y1 263),@Option.some Value (Value.builtin y6),@Option.some Value (Value.bool Bool.true)]))))))))))) SL.e17162191345867700912x4) F58) SL.e6070975301684473832x10) SL.e5946037652744460706x9) SL.e4278001404047624695x13) SL.e2742458400755230247x6) SL.e4209523147560561109x18) :) (k27t w os)
theorem k28t(w:World)(os:OsState):(@Eq (Option Value) (globalOf (Shared.heap (F0 w os)) F20) F76):=by kernel_rfl
theorem k28(w:World)(os:OsState):(@Eq (Option Value) (globalOf (Shared.heap (F0 w os)) F53) F76):=Eq.mpr ((@congrArg _ _ _ _ (fun(y0:Str)=>(@Eq (Option Value) (globalOf (Shared.heap (F0 w os)) y0) F76)) F40) :) (k28t w os)
theorem k29t(w:World)(os:OsState):(@Eq (Option Value) (globalOf (Shared.heap (F0 w os)) F24) F77):=by kernel_rfl
theorem k29(w:World)(os:OsState):(@Eq (Option Value) (globalOf (Shared.heap (F0 w os)) (Str.ofString "BadJob")) F77):=Eq.mpr ((@congrArg _ _ _ _ (fun(y0:Str)=>(@Eq (Option Value) (globalOf (Shared.heap (F0 w os)) y0) F77)) F49) :) (k29t w os)
theorem k30t(w:World)(os:OsState):(@Eq (Option Value) (globalOf (Shared.heap (F0 w os)) F21) F78):=by kernel_rfl
theorem k30(w:World)(os:OsState):(@Eq (Option Value) (globalOf (Shared.heap (F0 w os)) F56) F78):=Eq.mpr ((@congrArg _ _ _ _ (fun(y0:Str)=>(@Eq (Option Value) (globalOf (Shared.heap (F0 w os)) y0) F78)) F46) :) (k30t w os)
theorem k31t(w:World)(os:OsState):(@Eq (Option Value) (globalOf (Shared.heap (F0 w os)) F13) F79):=by kernel_rfl
theorem k31(w:World)(os:OsState):(@Eq (Option Value) (globalOf (Shared.heap (F0 w os)) F48) F79):=Eq.mpr ((@congrArg _ _ _ _ (fun(y0:Str)=>(@Eq (Option Value) (globalOf (Shared.heap (F0 w os)) y0) F79)) F32) :) (k31t w os)
theorem k32t(w:World)(os:OsState):(@Eq (Option Value) (globalOf (Shared.heap (F0 w os)) F28) F80):=by kernel_rfl
theorem k32(w:World)(os:OsState):(@Eq (Option Value) (globalOf (Shared.heap (F0 w os)) (Str.ofString "NoRow")) F80):=Eq.mpr ((@congrArg _ _ _ _ (fun(y0:Str)=>(@Eq (Option Value) (globalOf (Shared.heap (F0 w os)) y0) F80)) F58) :) (k32t w os)
theorem k33(w:World)(os:OsState):(@Eq Bool (Heap.isNs (Shared.heap (F0 w os)) 23) Bool.true):=by kernel_rfl
noncomputable abbrev F25:=(Str.mk ⟨[95,95,99,108,97,115,115,95,95]⟩)
theorem k34t(w:World)(os:OsState):(@Eq (Option Value) (Fast.tw8920871248978507458 (Shared.heap (F0 w os)) 23 F25) (@Option.none Value)):=by kernel_rfl
noncomputable abbrev F9:=(@id (@Eq Str F64 F25) (Fast.ofString_ofList [Char.ofNat 95,Char.ofNat 95,Char.ofNat 99,Char.ofNat 108,Char.ofNat 97,Char.ofNat 115,Char.ofNat 115,Char.ofNat 95,Char.ofNat 95]))
noncomputable abbrev F35(w:World)(os:OsState):=(@congrArg _ _ _ _ (fun(y0:F19)=>(fun(y1:Str)=>(@Eq (Option Value) (y0 (Shared.heap (F0 w os)) 23 y1) (@Option.none Value)))) Fast.te8920871248978507458)
theorem k34(w:World)(os:OsState):(@Eq (Option Value) (Heap.nsMap (Shared.heap (F0 w os)) 23 F64) (@Option.none Value)):=Eq.mpr ((congr (F35 w os) F9) :) (k34t w os)
noncomputable abbrev F12:=(Str.mk ⟨[95,95,103,101,116,97,116,116,114,105,98,117,116,101,95,95]⟩)
theorem k35t(w:World)(os:OsState):(@Eq (Option Value) (Fast.tw8920871248978507458 (Shared.heap (F0 w os)) 23 F12) (@Option.none Value)):=by kernel_rfl
noncomputable abbrev F3:=(@id (@Eq Str F45 F12) (Fast.ofString_ofList [Char.ofNat 95,Char.ofNat 95,Char.ofNat 103,Char.ofNat 101,Char.ofNat 116,Char.ofNat 97,Char.ofNat 116,Char.ofNat 116,Char.ofNat 114,Char.ofNat 105,Char.ofNat 98,Char.ofNat 117,Char.ofNat 116,Char.ofNat 101,Char.ofNat 95,Char.ofNat 95]))
theorem k35(w:World)(os:OsState):(@Eq (Option Value) (Heap.nsMap (Shared.heap (F0 w os)) 23 F45) (@Option.none Value)):=Eq.mpr ((congr (F35 w os) F3) :) (k35t w os)
noncomputable abbrev F22:=(Str.mk ⟨[95,95,103,101,116,97,116,116,114,95,95]⟩)
theorem k36t(w:World)(os:OsState):(@Eq (Option Value) (Fast.tw8920871248978507458 (Shared.heap (F0 w os)) 23 F22) (@Option.none Value)):=by kernel_rfl
noncomputable abbrev F6:=(@id (@Eq Str F52 F22) (Fast.ofString_ofList [Char.ofNat 95,Char.ofNat 95,Char.ofNat 103,Char.ofNat 101,Char.ofNat 116,Char.ofNat 97,Char.ofNat 116,Char.ofNat 116,Char.ofNat 114,Char.ofNat 95,Char.ofNat 95]))
theorem k36(w:World)(os:OsState):(@Eq (Option Value) (Heap.nsMap (Shared.heap (F0 w os)) 23 F52) (@Option.none Value)):=Eq.mpr ((congr (F35 w os) F6) :) (k36t w os)
theorem k37(w:World)(os:OsState):(@Eq Bool (Heap.isNs (Shared.heap (F0 w os)) 36) Bool.true):=by kernel_rfl
theorem k38t(w:World)(os:OsState):(@Eq (Option Value) (Fast.tw8920871248978507458 (Shared.heap (F0 w os)) 36 F25) (@Option.none Value)):=by kernel_rfl
noncomputable abbrev F36(w:World)(os:OsState):=(@congrArg _ _ _ _ (fun(y0:F19)=>(fun(y1:Str)=>(@Eq (Option Value) (y0 (Shared.heap (F0 w os)) 36 y1) (@Option.none Value)))) Fast.te8920871248978507458)
theorem k38(w:World)(os:OsState):(@Eq (Option Value) (Heap.nsMap (Shared.heap (F0 w os)) 36 F64) (@Option.none Value)):=Eq.mpr ((congr (F36 w os) F9) :) (k38t w os)
theorem k39t(w:World)(os:OsState):(@Eq (Option Value) (Fast.tw8920871248978507458 (Shared.heap (F0 w os)) 36 F12) (@Option.none Value)):=by kernel_rfl
theorem k39(w:World)(os:OsState):(@Eq (Option Value) (Heap.nsMap (Shared.heap (F0 w os)) 36 F45) (@Option.none Value)):=Eq.mpr ((congr (F36 w os) F3) :) (k39t w os)
theorem k40t(w:World)(os:OsState):(@Eq (Option Value) (Fast.tw8920871248978507458 (Shared.heap (F0 w os)) 36 F22) (@Option.none Value)):=by kernel_rfl
theorem k40(w:World)(os:OsState):(@Eq (Option Value) (Heap.nsMap (Shared.heap (F0 w os)) 36 F52) (@Option.none Value)):=Eq.mpr ((congr (F36 w os) F6) :) (k40t w os)
theorem k41(w:World)(os:OsState):(@Eq Bool (Heap.isNs (Shared.heap (F0 w os)) 48) Bool.true):=by kernel_rfl
theorem k42t(w:World)(os:OsState):(@Eq (Option Value) (Fast.tw8920871248978507458 (Shared.heap (F0 w os)) 48 F25) (@Option.none Value)):=by kernel_rfl
noncomputable abbrev F37(w:World)(os:OsState):=(@congrArg _ _ _ _ (fun(y0:F19)=>(fun(y1:Str)=>(@Eq (Option Value) (y0 (Shared.heap (F0 w os)) 48 y1) (@Option.none Value)))) Fast.te8920871248978507458)
theorem k42(w:World)(os:OsState):(@Eq (Option Value) (Heap.nsMap (Shared.heap (F0 w os)) 48 F64) (@Option.none Value)):=Eq.mpr ((congr (F37 w os) F9) :) (k42t w os)
theorem k43t(w:World)(os:OsState):(@Eq (Option Value) (Fast.tw8920871248978507458 (Shared.heap (F0 w os)) 48 F12) (@Option.none Value)):=by kernel_rfl
theorem k43(w:World)(os:OsState):(@Eq (Option Value) (Heap.nsMap (Shared.heap (F0 w os)) 48 F45) (@Option.none Value)):=Eq.mpr ((congr (F37 w os) F3) :) (k43t w os)
theorem k44t(w:World)(os:OsState):(@Eq (Option Value) (Fast.tw8920871248978507458 (Shared.heap (F0 w os)) 48 F22) (@Option.none Value)):=by kernel_rfl
theorem k44(w:World)(os:OsState):(@Eq (Option Value) (Heap.nsMap (Shared.heap (F0 w os)) 48 F52) (@Option.none Value)):=Eq.mpr ((congr (F37 w os) F6) :) (k44t w os)
theorem k45(w:World)(os:OsState):(@Eq Bool (Heap.isNs (Shared.heap (F0 w os)) 60) Bool.true):=by kernel_rfl
theorem k46t(w:World)(os:OsState):(@Eq (Option Value) (Fast.tw8920871248978507458 (Shared.heap (F0 w os)) 60 F25) (@Option.none Value)):=by kernel_rfl
noncomputable abbrev F38(w:World)(os:OsState):=(@congrArg _ _ _ _ (fun(y0:F19)=>(fun(y1:Str)=>(@Eq (Option Value) (y0 (Shared.heap (F0 w os)) 60 y1) (@Option.none Value)))) Fast.te8920871248978507458)
theorem k46(w:World)(os:OsState):(@Eq (Option Value) (Heap.nsMap (Shared.heap (F0 w os)) 60 F64) (@Option.none Value)):=Eq.mpr ((congr (F38 w os) F9) :) (k46t w os)
theorem k47t(w:World)(os:OsState):(@Eq (Option Value) (Fast.tw8920871248978507458 (Shared.heap (F0 w os)) 60 F12) (@Option.none Value)):=by kernel_rfl
theorem k47(w:World)(os:OsState):(@Eq (Option Value) (Heap.nsMap (Shared.heap (F0 w os)) 60 F45) (@Option.none Value)):=Eq.mpr ((congr (F38 w os) F3) :) (k47t w os)
theorem k48t(w:World)(os:OsState):(@Eq (Option Value) (Fast.tw8920871248978507458 (Shared.heap (F0 w os)) 60 F22) (@Option.none Value)):=by kernel_rfl
theorem k48(w:World)(os:OsState):(@Eq (Option Value) (Heap.nsMap (Shared.heap (F0 w os)) 60 F52) (@Option.none Value)):=Eq.mpr ((congr (F38 w os) F6) :) (k48t w os)
noncomputable abbrev F50:=(Prod Bool (Prod (Prod Seen (Prod (Prod (Option Str) (List (Prod Str Value))) (Prod Bool (Prod Bool (Prod F23 (Prod F96 (Prod (List F33) (Prod F23 F92)))))))) YT))
theorem rLooks0(w:World)(os:OsState):(@Eq F50 ((F85 w os),((openSeen PQl (@List.nil Str) (importedModules F41) F42 Bool.true (F0 w os)),(Yf (F0 w os)))) (Bool.true,((openGood PQl (@List.nil Str)),(Ya w)))):=(looks_pair (k0 w os) (looks_pair (looks_pair (k1 w os) (looks_pair (k2 w os) (looks_pair (k3 w os) (looks_pair (k4 w os) (looks_pair (k5 w os) (looks_pair (k6 w os) (looks_pair (k7 w os) (looks_pair (k8 w os) (k9 w os))))))))) (looks_pair (k10 w os) (looks_pair (k11 w os) (looks_pair (k12 w os) (looks_pair (k13 w os) (looks_pair (k14 w os) (looks_pair (k15 w os) (looks_pair (k16 w os) (looks_pair (k17 w os) (looks_pair (k18 w os) (looks_pair (k19 w os) (looks_pair (k20 w os) (looks_pair (k21 w os) (looks_pair (k22 w os) (looks_pair (k23 w os) (looks_pair (k24 w os) (looks_pair (k25 w os) (looks_pair (k26 w os) (looks_pair (k27 w os) (looks_pair (k28 w os) (looks_pair (k29 w os) (looks_pair (k30 w os) (looks_pair (k31 w os) (looks_pair (k32 w os) (looks_pair (k33 w os) (looks_pair (k34 w os) (looks_pair (k35 w os) (looks_pair (k36 w os) (looks_pair (k37 w os) (looks_pair (k38 w os) (looks_pair (k39 w os) (looks_pair (k40 w os) (looks_pair (k41 w os) (looks_pair (k42 w os) (looks_pair (k43 w os) (looks_pair (k44 w os) (looks_pair (k45 w os) (looks_pair (k46 w os) (looks_pair (k47 w os) (k48 w os)))))))))))))))))))))))))))))))))))))))))
theorem rLooks:(∀(y0:World),(@Eq (∀(y1:OsState),F50) (fun(y1:OsState)=>((Bool.and (Bool.and (Bool.and (staticsOk (importedModules F41) (boot_heap (World.params y0)) (hp557 (World.params y0))) (namesBound PPl (hp557 (World.params y0)))) (gensDone (Shared.mk (hp557 (World.params y0)) ⟨[]⟩ ⟨0,0,0,0⟩ 552 y1))) (laidKept (boot_heap (World.params y0)) (hp557 (World.params y0)))),((openSeen PQl (@List.nil Str) (importedModules F41) F42 Bool.true (Shared.mk (hp557 (World.params y0)) ⟨[]⟩ ⟨0,0,0,0⟩ 552 y1)),(Yf (Shared.mk (hp557 (World.params y0)) ⟨[]⟩ ⟨0,0,0,0⟩ 552 y1))))) (fun(y1:OsState)=>(Bool.true,((openGood PQl (@List.nil Str)),(Ya y0)))))):=fun w=>funext fun os=>rLooks0 w os
noncomputable abbrev F74:=(fun(y0:Shared)=>(Bool.and (xlAt PQl F110 y0) (recOk (RowW.records (OpenRow.toRowW (OpenLaw.row PRl))) y0)))
noncomputable abbrev F93:=(Nat.ble 600 4442)
noncomputable abbrev F112:=(Nat.ble F30 4442)
theorem left:(@LeftO PPl PQl (@List.nil Str) F74 YT Yf Ya 4442 Bool.true):=(@LeftO.of_pieces PPl PQl (@List.nil Str) F74 YT Yf Ya 4442 Bool.true boot_heap hp557 ⟨[]⟩ ⟨[]⟩ boot_drawn ⟨0,0,0,0⟩ boot_toks 552 11 F4 F30 (@boot_open PPl 4442 rOpen (@of_decide_eq_true (@Eq Bool F93 Bool.true) (instDecidableEqBool F93 Bool.true) (@id (@Eq Bool (@Decidable.decide (@Eq Bool F93 Bool.true) (instDecidableEqBool F93 Bool.true)) Bool.true) (@Eq.refl Bool Bool.true))) rFence) rSize rRun (@of_decide_eq_true (@Eq Bool F112 Bool.true) (instDecidableEqBool F112 Bool.true) (@id (@Eq Bool (@Decidable.decide (@Eq Bool F112 Bool.true) (instDecidableEqBool F112 Bool.true)) Bool.true) (@Eq.refl Bool Bool.true))) rLooks)
end Mine.Hd
end
section
namespace Mine
open PySem PyProof.Rows
theorem ao{α β:Type}{o:Option α}{f:α->Option β}{r:β}{P:Prop}(h:o.bind f=some r)(k:∀a,o=some a->f a=some r->P):P:=
 let ⟨a,h1,h2⟩:=Option.bind_eq_some_iff.mp h;k a h1 h2
set_option genSizeOf false
theorem cN{P:Prop}(h:∀Q:Prop,(P->Q)->Q):P:=h P id
inductive D where
 | none
 | bool (b:Bool)
 | int (i:Int)
 | str (x:Str)
 | tup (l:List D)
 | list (l:List D)
 | own (l:List D)
 | ref (a:Addr)
noncomputable abbrev aJ(vs:List Value)(n:Nat):Obj:={ cls:=.type "list",data:=.seq vs.toArray n }
noncomputable abbrev a8(vs:List Value)(n:Nat):Obj:={ cls:=.type "tuple",data:=.seq vs.toArray n }
mutual
inductive Rp (h:Heap) (N:Addr->Prop):Value->D->Prop
 | none:Rp h N .none .none
 | bool (b:Bool):Rp h N (.bool b) (.bool b)
 | int (i:Int) (t:Tok):Rp h N (.int i t) (.int i)
 | str (x:Str) (t:Tok):Rp h N (.str x t) (.str x)
 | tup {a:Addr} {vs:List Value} {n:Nat} {ds:List D}:h.get? a=some (a8 vs n)->Rps h N vs ds->Rp h N (.ref a) (.tup ds)
 | list {a:Addr} {vs:List Value} {n:Nat} {ds:List D}:h.get? a=some (aJ vs n)->¬N a->Rps h N vs ds->Rp h N (.ref a) (.list ds)
 | ref (a:Addr):Rp h N (.ref a) (.ref a)
inductive Rps (h:Heap) (N:Addr->Prop):List Value->List D->Prop
 | nil:Rps h N [] []
 | cons {v:Value} {vs:List Value} {d:D} {ds:List D}:Rp h N v d->Rps h N vs ds->Rps h N (v :: vs) (d :: ds)
end
inductive Rt (h:Heap) (N:Addr->Prop):Value->D->Prop
 | clean {v:Value} {d:D}:Rp h N v d->Rt h N v d
 | own {a:Addr} {vs:List Value} {n:Nat} {ds:List D}:h.get? a=some (aJ vs n)->Rps h N vs ds->Rt h N (.ref a) (.own ds)
theorem Rp.change{h h':Heap}{N N':Addr->Prop}(kt:∀b vs n,h.get? b=some (a8 vs n)->h'.get? b=some (a8 vs n))
  (kl:∀b vs n,h.get? b=some (aJ vs n)->¬N b->h'.get? b=some (aJ vs n)∧¬N' b) {v:Value} {d:D} (x:Rp h N v d):Rp h' N' v d:=
 Rp.rec (motive_1:=fun v d _=>Rp h' N' v d) (motive_2:=fun v d _=>Rps h' N' v d) .none .bool .int .str (fun hm _ ih=>.tup (kt _ _ _ hm) ih) (fun hm hn _ ih=>.list (kl _ _ _ hm hn).1 (kl _ _ _ hm hn).2 ih) .ref .nil (fun _ _ a b=>.cons a b) x
theorem Rps.change{h h':Heap}{N N':Addr->Prop}(kt:∀b vs n,h.get? b=some (a8 vs n)->h'.get? b=some (a8 vs n))
  (kl:∀b vs n,h.get? b=some (aJ vs n)->¬N b->h'.get? b=some (aJ vs n)∧¬N' b) {v:List Value} {d:List D} (x:Rps h N v d):Rps h' N' v d:=
 Rps.rec (motive_1:=fun v d _=>Rp h' N' v d) (motive_2:=fun v d _=>Rps h' N' v d) .none .bool .int .str (fun hm _ ih=>.tup (kt _ _ _ hm) ih) (fun hm hn _ ih=>.list (kl _ _ _ hm hn).1 (kl _ _ _ hm hn).2 ih) .ref .nil (fun _ _ a b=>.cons a b) x
theorem mR{h:Heap}{N:Addr->Prop}{P:List Value->List D->Prop}(h0:P [] [])(h1:∀ {v vs d ds},Rp h N v d->Rps h N vs ds->P vs ds->P (v :: vs) (d :: ds)){vs:List Value}{ds:List D}(r:Rps h N vs ds):P vs ds:=
 Rps.rec (motive_1:=fun _ _ _=>True) (motive_2:=fun v d _=>P v d) trivial (fun _=>trivial) (fun _ _=>trivial) (fun _ _=>trivial) (fun _ _ _=>trivial) (fun _ _ _ _=>trivial) (fun _=>trivial) h0 (fun x r _ ih=>h1 x r ih) r
theorem Rp.weak{h:Heap}{N N':Addr->Prop}(k:∀a,N' a->N a){v d}(x:Rp h N v d):Rp h N' v d:=x.change (fun _ _ _ e=>e) fun _ _ _ e hn=>⟨e,fun q=>hn (k _ q)⟩
theorem Rps.weak{h:Heap}{N N':Addr->Prop}(k:∀a,N' a->N a){v d}(x:Rps h N v d):Rps h N' v d:=x.change (fun _ _ _ e=>e) fun _ _ _ e hn=>⟨e,fun q=>hn (k _ q)⟩
theorem Rp.keep{h h':Heap}{N:Addr->Prop}{v d}(x:Rp h N v d)(k:∀b o,h.get? b=some o->h'.get? b=some o):Rp h' N v d:=
 x.change (fun b _ _ ho=>k b _ ho) fun b _ _ ho hn=>⟨k b _ ho,hn⟩
theorem Rps.keep{h h':Heap}{N:Addr->Prop}{v d}(x:Rps h N v d)(k:∀b o,h.get? b=some o->h'.get? b=some o):Rps h' N v d:=
 x.change (fun b _ _ ho=>k b _ ho) fun b _ _ ho hn=>⟨k b _ ho,hn⟩
theorem Rt.keep{h h':Heap}{N:Addr->Prop}{v d}(x:Rt h N v d)(k:∀b o,h.get? b=some o->h'.get? b=some o):Rt h' N v d:=by
 cases x with
 | clean x=>exact .clean (x.keep k)
 | own hl r=>exact .own (k _ _ hl) (r.keep k)
theorem Rps.length{h:Heap}{N:Addr->Prop}{vs:List Value}{ds:List D}(r:Rps h N vs ds):vs.length=ds.length:=
 mR (P:=fun v d=>v.length=d.length) rfl (fun _ _ ih=>congrArg (· + 1) ih) r
theorem Rps.append{h:Heap}{N:Addr->Prop}{vs ws:List Value}{ds es:List D}(r:Rps h N vs ds)(k:Rps h N ws es):Rps h N (vs++ws) (ds++es):=
 mR (P:=fun v d=>Rps h N (v++ws) (d++es)) k (fun x _ ih=>.cons x ih) r
theorem Rps.get{h:Heap}{N:Addr->Prop}{vs:List Value}{ds:List D}{k:Nat}{d:D}(r:Rps h N vs ds):ds[k]? = some d->∃v,vs[k]? = some v∧Rp h N v d:=
 mR (P:=fun v s=>∀k,s[k]? = some d->∃x,v[k]? = some x∧Rp h N x d) (fun k e=>by simp at e) (fun x _ ih k e=>by
  cases k with
  | zero=>cases e;exact⟨_,rfl,x⟩
  | succ k=>exact ih k e) r k
theorem Rps.get'{h:Heap}{N:Addr->Prop}{vs:List Value}{ds:List D}{k:Nat}{v:Value}(r:Rps h N vs ds):vs[k]? = some v->∃d,ds[k]? = some d∧Rp h N v d:=
 mR (P:=fun s d=>∀k,s[k]? = some v->∃x,d[k]? = some x∧Rp h N v x) (fun k e=>by simp at e) (fun x _ ih k e=>by
  cases k with
  | zero=>cases e;exact⟨_,rfl,x⟩
  | succ k=>exact ih k e) r k
theorem Rps.take{h:Heap}{N:Addr->Prop}:∀ {vs ds} (n:Nat),Rps h N vs ds->Rps h N (vs.take n) (ds.take n)
 | _,_,0,_=>by simp;exact .nil
 | _,_,n+1,.nil=>by simp;exact .nil
 | _,_,n+1,.cons x r=>by simp only[List.take_succ_cons];exact .cons x (Rps.take n r)
theorem Rps.drop{h:Heap}{N:Addr->Prop}:∀ {vs ds} (n:Nat),Rps h N vs ds->Rps h N (vs.drop n) (ds.drop n)
 | _,_,0,r=>by simpa using r
 | _,_,n+1,.nil=>by simp;exact .nil
 | _,_,n+1,.cons x r=>by simp only[List.drop_succ_cons];exact Rps.drop n r
theorem Rps.set{h:Heap}{N:Addr->Prop}:∀ {vs ds} (n:Nat) {v d},Rps h N vs ds->Rp h N v d->Rps h N (vs.set n v) (ds.set n d)
 | _,_,0,_,_,.nil,_=>by simp;exact .nil
 | _,_,n+1,_,_,.nil,_=>by simp;exact .nil
 | _,_,0,_,_,.cons x r,k=>by simp;exact .cons k r
 | _,_,n+1,_,_,.cons x r,k=>by simp;exact .cons x (Rps.set n r k)
theorem Rps.one{h:Heap}{N:Addr->Prop}{v d}(x:Rp h N v d):Rps h N [v] [d]:=.cons x .nil
noncomputable def D.items? : D->Option (List D)
 | .list l=>some l
 | .own l=>some l
 | _=>Option.none
theorem Rt.items{h:Heap}{N:Addr->Prop}{v:Value}{d:D}{l:List D}(x:Rt h N v d)(e:d.items? = some l):∃a vs n,v=.ref a∧h.get? a=some (aJ vs n)∧Rps h N vs l:=by
 cases x with
 | clean x=>cases x <;> simp[D.items?] at e;subst e;rename_i h1 h2 h3;exact⟨_,_,_,rfl,h1,h3⟩
 | own h1 h2=>simp[D.items?] at e;subst e;exact⟨_,_,_,rfl,h1,h2⟩
noncomputable def D.clean:D->Bool
 | .own _=>false
 | _=>true
theorem Rt.rp{h:Heap}{N:Addr->Prop}{v:Value}{d:D}(x:Rt h N v d)(e:d.clean=true):Rp h N v d:=by
 cases x with
 | clean x=>exact x
 | own _ _=>cases e
inductive Rts (h:Heap) (N:Addr->Prop):List Value->List D->Prop
 | nil:Rts h N [] []
 | cons {v:Value} {vs:List Value} {d:D} {ds:List D}:Rt h N v d->Rts h N vs ds->Rts h N (v :: vs) (d :: ds)
theorem Rts.rps{h:Heap}{N:Addr->Prop}{vs ds}(x:Rts h N vs ds)(e:ds.all D.clean=true):Rps h N vs ds:=by
 induction x with
 | nil=>exact .nil
 | cons x _ ih=>simp only[List.all_cons,Bool.and_eq_true] at e;exact .cons (x.rp e.1) (ih e.2)
noncomputable def D.frz:D->D
 | .own l=>.list l
 | d=>d
theorem Rt.frz{h:Heap}{N:Addr->Prop}{v d}(x:Rt h N v d):Rp h (fun _=>False) v d.frz:=by
 cases x with
 | clean x=>cases x <;> first | exact .none | exact .bool _ | exact .int _ _ | exact .str _ _ | exact .ref _ | (rename_i a b;exact .tup a (b.weak fun _ q=>q.elim)) | (rename_i a b c;exact .list a (fun q=>q) (c.weak fun _ q=>q.elim))
 | own h1 h2=>exact .list h1 (fun q=>q) (h2.weak fun _ q=>q.elim)
theorem Rts.frz{h:Heap}{N:Addr->Prop}{vs ds}(x:Rts h N vs ds):Rps h (fun _=>False) vs (ds.map D.frz):=by
 induction x with
 | nil=>exact .nil
 | cons x _ ih=>exact .cons x.frz ih
theorem D.frz_clean{d:D}(h:d.clean=true):d.frz=d:=by cases d <;> first | rfl | cases h
theorem lm:∀ {ds:List D},ds.all D.clean=true->ds.map D.frz=ds
 | [],_=>rfl
 | d :: ds,h=>by simp only[List.all_cons,Bool.and_eq_true] at h;simp[D.frz_clean h.1,lm h.2]
mutual
noncomputable def D.flat:D->Bool
 | .tup l=>D.flats l
 | .list _=>false
 | .own _=>false
 | _=>true
noncomputable def D.flats:List D->Bool
 | []=>true
 | d :: l=>d.flat&&D.flats l
end
theorem Rp.flat{h:Heap}{N N':Addr->Prop}{v:Value}{d:D}(x:Rp h N v d):d.flat=true->Rp h N' v d:=
 Rp.rec (motive_1:=fun v d _=>d.flat=true->Rp h N' v d) (motive_2:=fun v d _=>D.flats d=true->Rps h N' v d) (fun _=>.none) (fun b _=>.bool b) (fun i t _=>.int i t) (fun x t _=>.str x t) (fun hm _ ih e=>.tup hm (ih (by simpa [D.flat] using e))) (fun hm hn _ _ e=>by simp[D.flat] at e) (fun a _=>.ref a) (fun _=>.nil) (fun _ _ a b e=>by simp only[D.flats,Bool.and_eq_true] at e;exact .cons (a e.1) (b e.2)) x
theorem Rps.flat{h:Heap}{N N':Addr->Prop}{v:List Value}{d:List D}(x:Rps h N v d):D.flats d=true->Rps h N' v d:=
 Rps.rec (motive_1:=fun v d _=>d.flat=true->Rp h N' v d) (motive_2:=fun v d _=>D.flats d=true->Rps h N' v d) (fun _=>.none) (fun b _=>.bool b) (fun i t _=>.int i t) (fun x t _=>.str x t) (fun hm _ ih e=>.tup hm (ih (by simpa [D.flat] using e))) (fun hm hn _ _ e=>by simp[D.flat] at e) (fun a _=>.ref a) (fun _=>.nil) (fun _ _ a b e=>by simp only[D.flats,Bool.and_eq_true] at e;exact .cons (a e.1) (b e.2)) x
noncomputable def Hk(h h':Heap):Prop:=∀b o,h.get? b=some o->h'.get? b=some o
noncomputable def Kp(s s':Shared):Prop:=∃h' tk,s'={ s with heap:=h',toks:=tk }∧∀b o,s.heap.get? b=some o->h'.get? b=some o
structure ap where
 prog:Program
 w:World
 base:Heap
 mg:Str->Option Value
 mb:Str->Option Value
 g:base.Ns mainGlobals mg
 b:base.Ns builtinsNs mb
 nolimit:base.NoLimit
noncomputable def AOk(A:Around)(k:Nat):Prop:=(0 < k->A.handled=none)∧A.depth+k < 1000∧A.units+64*(k+4) < 9900
theorem AOk.mono{A:Around}{k j:Nat}(h:AOk A k)(hj:j≤k):AOk A j:=⟨fun q=>h.1 (by omega),by have:=h.2.1;omega,by have:=h.2.2;omega⟩
theorem AOk.deeper{A:Around}{k:Nat}{env:Env}(h:AOk A (k+1)):AOk (A.deeper env) k:=
 ⟨fun q=>h.1 (by omega),by have:=h.2.1;simp only[Around.deeper];omega,by have:=h.2.2;simp only[Around.deeper_units];omega⟩
theorem AOk.no{A:Around}{k:Nat}[NeZero k](h:AOk A k):A.handled=none:=h.1 (Nat.pos_of_neZero k)
structure EOk (sc:Scope) (env:Env):Prop where
 scope:env.scope=sc
 kind:sc.kind=.function
 globals:env.globals=mainGlobals
 builtins:env.builtins=builtinsNs
theorem EOk.kindOf{sc:Scope}{env:Env}(h:EOk sc env)(x:Str):env.kindOf x=sc.names.lookup x:=by unfold Env.kindOf;rw[h.scope]
theorem EOk.kind'{sc:Scope}{env:Env}(h:EOk sc env):env.scope.kind=.function:=by rw[h.scope];exact h.kind
noncomputable abbrev aa:=Str->Option D
noncomputable def lq:Option NameKind->Bool
 | some .local=>true
 | some .cell=>true
 | some .free=>true
 | _=>false
noncomputable def VarIs(env:Env)(h:Heap)(m:Str->Option Value)(x:Str)(v:Value):Prop:=
 match env.kindOf x with
 | some .local=>m x=some v
 | some .cell=>∃c,env.cells.lookup x=some c∧h.IsCell c (some v)
 | some .free=>∃c,env.cells.lookup x=some c∧h.IsCell c (some v)
 | _=>False
noncomputable def Nu(N:Addr->Prop)(α:Str->Option Addr):Addr->Prop:=fun a=>N a∨∃x,α x=some a
inductive Slot (h:Heap) (N:Addr->Prop) (α:Str->Option Addr) (x:Str):Value->D->Prop
 | clean {v:Value} {d:D}:Rp h (Nu N α) v d->Slot h N α x v d
 | own {a:Addr} {vs:List Value} {n:Nat} {ds:List D}:α x=some a->h.get? a=some (aJ vs n)->Rps h (Nu N α) vs ds->Slot h N α x (.ref a) (.own ds)
theorem Slot.keep{h h':Heap}{N α x v d}(s:Slot h N α x v d)(k:∀b o,h.get? b=some o->h'.get? b=some o):Slot h' N α x v d:=by
 cases s with
 | clean r=>exact .clean (r.keep k)
 | own e hl r=>exact .own e (k _ _ hl) (r.keep k)
theorem Slot.rt{h:Heap}{N α x v d}(s:Slot h N α x v d):Rt h (Nu N α) v d:=by
 cases s with
 | clean r=>exact .clean r
 | own _ hl r=>exact .own hl r
theorem VarIs.keep{env:Env}{h h':Heap}{m x v}(s:VarIs env h m x v)(k:∀b o,h.get? b=some o->h'.get? b=some o):VarIs env h' m x v:=by
 unfold VarIs at *
 split at s
 .exact s
 .obtain⟨c,h1,h2⟩:=s;exact⟨c,h1,h2.keeps k⟩
 .obtain⟨c,h1,h2⟩:=s;exact⟨c,h1,h2.keeps k⟩
 .exact s
noncomputable def Lo(N:Addr->Prop)(h:Heap):Prop:=∀a,N a->∃o,h.get? a=some o
theorem Lo.keep{N:Addr->Prop}{h h':Heap}(x:Lo N h)(k:∀b o,h.get? b=some o->h'.get? b=some o):Lo N h':=fun a ha=>let ⟨o,ho⟩:=x a ha;⟨o,k a o ho⟩
theorem Lo.fresh{N:Addr->Prop}{h:Heap}{a:Addr}(x:Lo N h)(hn:h.get? a=none):¬N a:=fun ha=>by obtain⟨o,ho⟩:=x a ha;rw[hn] at ho;cases ho
theorem b4(h:Heap):h.get? h.objs.size=none:=by
 cases e:h.get? h.objs.size with
 | none=>rfl
 | some o=>exact absurd (Heap.lt_size e) (Nat.lt_irrefl _)
noncomputable def ic:Str:=Str.ofString ".0"
noncomputable def ag(b:Addr):Str:=⟨#[1114112+b]⟩
noncomputable def aU(x:Str):Bool:=match x.cps.toList with
 | [c]=>decide (1114112≤c)
 | _=>false
theorem dH{b:Addr}:aU (ag b)=true:=by simp[aU,ag]
theorem gU{s:String}:aU (Str.ofString s)=false:=by
 unfold aU
 have e:(Str.ofString s).cps.toList=s.toList.map Char.toNat:=by rw[Str.ofString_eq_toList]
 rw[e]
 match s.toList with
 | []=>rfl
 | [c]=>
  have h:=c.valid
  have:c.toNat < 1114112:=by
   show c.val.toNat < _
   rcases h with h | h <;> omega
  simp only[List.map_cons,List.map_nil,decide_eq_false_iff_not]
  omega
 | _ :: _ :: _=>rfl
theorem iQ{b c:Addr}(h:ag b=ag c):b=c:=by
 have:[1114112+b]=[1114112+c]:=congrArg (fun x:Str=>x.cps.toList) h
 exact Nat.add_left_cancel (List.cons.inj this).1
noncomputable abbrev mS(C dx:Addr):Obj:={ cls:=.ref C,dict:=some dx,data:=.plain }
noncomputable abbrev gV(hs:Int)(tk:Tok)(v:Value)(n:Nat):Obj:={ cls:=.type "dict",data:=.dict [⟨hs,.str (Str.ofString "held") tk,v⟩].toArray n }
structure BookAt (G:ap) (h:Heap) (N:Addr->Prop) (b:Addr) (d:D):Prop where
 ex:∃C dx hs tk n v,b=dx+1∧G.mg (Str.ofString "Book")=some (.ref C)∧G.base.get? dx=none∧h.get? b=some (mS C dx)∧h.get? dx=some (gV hs tk v n)∧Rp h N v d
theorem BookAt.change{G:ap}{h h':Heap}{N N':Addr->Prop}{b:Addr}{d:D}(x:BookAt G h N b d)(kt:∀b vs n,h.get? b=some (a8 vs n)->h'.get? b=some (a8 vs n))
  (kl:∀b vs n,h.get? b=some (aJ vs n)->¬N b->h'.get? b=some (aJ vs n)∧¬N' b) (kb:∀o,h.get? b=some o->o.data=.plain->h'.get? b=some o) (kd:∀dx o,b=dx+1->h.get? dx=some o->(∃es n,o.data=.dict es n)->h'.get? dx=some o):BookAt G h' N' b d:=by
 obtain⟨C,dx,hs,tk,n,v,e,hm,hb,h1,h2,r⟩:=x.ex
 exact⟨C,dx,hs,tk,n,v,e,hm,hb,kb _ h1 rfl,kd dx _ e h2 ⟨_,_,rfl⟩,r.change kt kl⟩
theorem BookAt.keep{G:ap}{h h':Heap}{N:Addr->Prop}{b:Addr}{d:D}(x:BookAt G h N b d)(k:∀b o,h.get? b=some o->h'.get? b=some o):BookAt G h' N b d:=
 x.change (fun b _ _ e=>k b _ e) (fun b _ _ e hn=>⟨k b _ e,hn⟩) (fun _ e _=>k _ _ e) fun _ _ _ e _=>k _ _ e
theorem BookAt.weak{G:ap}{h:Heap}{N N':Addr->Prop}{b:Addr}{d:D}(x:BookAt G h N b d)(k:∀a,N' a->N a):BookAt G h N' b d:=
 x.change (fun _ _ _ e=>e) (fun _ _ _ e hn=>⟨e,fun q=>hn (k _ q)⟩) (fun _ e _=>e) fun _ _ _ e _=>e
structure In (G:ap) (env:Env) (N:Addr->Prop) (α:Str->Option Addr) (h:Heap) (ρ:aa):Prop where
 low:Lo (Nu N α) h
 cells:∀x,(env.kindOf x=some .cell∨env.kindOf x=some .free)->(env.cells.lookup x).isSome=true
 ns:∃m,h.Ns env.locals m∧∀x d,ρ x=some d->lq (env.kindOf x)=true->x≠ic->aU x=false->∃v,VarIs env h m x v∧Slot h N α x v d
 bk:∀b d,ρ (ag b)=some d->BookAt G h (Nu N α) b d
theorem In.keep{G env N α h h' ρ}(i:In G env N α h ρ)(k:∀b o,h.get? b=some o->h'.get? b=some o):In G env N α h' ρ:=by
 obtain⟨m,hm,hv⟩:=i.ns
 refine⟨i.low.keep k,i.cells,⟨m,hm.keeps k,fun x d e hx hz hy=>?_⟩,fun b d e=>(i.bk b d e).keep k⟩
 obtain⟨v,h1,h2⟩:=hv x d e hx hz hy
 exact⟨v,h1.keep k,h2.keep k⟩
theorem Kp.refl(s:Shared):Kp s s:=⟨s.heap,s.toks,rfl,fun _ _ e=>e⟩
theorem Kp.toks(s:Shared)(n:Nat):Kp s { s with toks:=n }:=⟨s.heap,n,rfl,fun _ _ e=>e⟩
theorem Kp.trans{s s1 s2:Shared}(x:Kp s s1)(y:Kp s1 s2):Kp s s2:=by
 obtain⟨h1,t₁,rfl,k₁⟩:=x
 obtain⟨h2,t2,rfl,k₂⟩:=y
 exact⟨h2,t2,rfl,fun b o e=>k₂ b o (k₁ b o e)⟩
theorem Kp.heap{s s':Shared}(x:Kp s s'):∀b o,s.heap.get? b=some o->s'.heap.get? b=some o:=by
 obtain⟨h1,t₁,rfl,k₁⟩:=x;exact k₁
theorem Kp.push(s:Shared)(o:Obj):Kp s { s with heap:=s.heap.push o }:=⟨_,s.toks,rfl,fun _ _ e=>Heap.get?_push_of_some _ e⟩
noncomputable def Po(s:Shared)(N:Addr->Prop)(d:D):Value->Shared->Prop:=fun v s'=>Kp s s'∧Rt s'.heap N v d
noncomputable def aQ:Value->Shared->Prop:=fun _ _=>False
noncomputable def SE(G:ap)(k:Nat)(sc:Scope)(e:Expr)(m:aa->Option D):Prop:=
 ∀A env N α s ρ d,AOk A k->EOk sc env->Hk G.base s.heap->In G env N α s.heap ρ->m ρ=some d->
  wpAny (model G.prog G.w) A (eval e env) (Po s (Nu N α) d) aQ s
noncomputable def ST(G:ap)(k:Nat)(sc:Scope)(e:Expr)(m:aa->Option Bool):Prop:=
 ∀A env N α s ρ b,AOk A k->EOk sc env->Hk G.base s.heap->In G env N α s.heap ρ->m ρ=some b->
  wpAny (model G.prog G.w) A (isTrue e env (eval e env)) (fun b' s'=>b'=b∧Kp s s') aQ s
section
variable {G:ap} {k:Nat} {sc:Scope}
theorem aZ{s s':Shared}(h:Hk G.base s.heap)(x:Kp s s'):Hk G.base s'.heap:=fun b o e=>x.heap b o (h b o e)
theorem SE.weak{e m m'}(h:SE G k sc e m)(hm:∀ ρ d,m' ρ=some d->m ρ=some d):SE G k sc e m':=
 fun A env N α s ρ d hA hE hb hi hd=>h A env N α s ρ d hA hE hb hi (hm _ _ hd)
theorem SE.name{x:Str}{pos:Pos}(hk:lq (sc.names.lookup x)=true)(hd:(x==("__debug__":Str))=false)(hn:(x==("__classdict__":Str))=false)(hz:(x==ic)=false)(hy:aU x=false):
  SE G k sc (.Name x pos) (fun ρ=>ρ x):=by
 intro A env N α s ρ d hA hE hb hi hρ
 obtain⟨m,hm,hv⟩:=hi.ns
 obtain⟨v,h1,h2⟩:=hv x d hρ (by rw[hE.kindOf];exact hk) (beq_eq_false_iff_ne.mp hz) hy
 have fin:Po s (Nu N α) d v s:=⟨Kp.refl s,h2.rt⟩
 unfold VarIs at h1
 split at h1
 .rename_i q;exact wpAny_Name (wpAny_loadName_local hE.kind' q hm h1 fin) hd
 .rename_i q;obtain⟨c,e1,e2⟩:=h1;exact wpAny_Name (wpAny_loadName_cell hE.kind' q e1 e2 fin) hd
 .rename_i q;obtain⟨c,e1,e2⟩:=h1;exact wpAny_Name (wpAny_loadName_free hE.kind' q e1 e2 fin hn) hd
 .exact h1.elim
theorem SE.cInt{i:Int}{kd:Nat}{pos:Pos}:SE G k sc (.Constant (.int i) kd pos) (fun _=>some (.int i)):=by
 intro A env N α s ρ d hA hE hb hi hρ
 cases hρ
 exact wpAny_Constant_int ⟨Kp.toks s _,.clean (.int _ _)⟩
theorem SE.cStr{x:Str}{kd:Nat}{pos:Pos}:SE G k sc (.Constant (.str x) kd pos) (fun _=>some (.str x)):=by
 intro A env N α s ρ d hA hE hb hi hρ
 cases hρ
 exact Calls.Constant_str ⟨Kp.toks s _,.clean (.str _ _)⟩
theorem SE.cBool{c:Bool}{kd:Nat}{pos:Pos}:SE G k sc (.Constant (.bool c) kd pos) (fun _=>some (.bool c)):=by
 intro A env N α s ρ d hA hE hb hi hρ
 cases hρ
 exact Constant_bool ⟨Kp.refl s,.clean (.bool _)⟩
theorem SE.cNone{kd:Nat}{pos:Pos}:SE G k sc (.Constant .none kd pos) (fun _=>some .none):=by
 intro A env N α s ρ d hA hE hb hi hρ
 cases hρ
 exact Constant_none ⟨Kp.refl s,.clean .none⟩
theorem SE.glob{x:Str}{pos:Pos}{i:Int}{t:Tok}(hk:sc.names.lookup x=some .globalImplicit)(hd:(x==("__debug__":Str))=false)(hg:G.mg x=some (.int i t)):
  SE G k sc (.Name x pos) (fun _=>some (.int i)):=by
 intro A env N α s ρ d hA hE hb hi hρ
 cases hρ
 refine Calls.Name_function_global hE.kind' (by rw[hE.kindOf];exact hk) (Calls.loadGlobal_global (mg:=G.mg) ?_ hg ⟨Kp.refl s,.clean (.int _ _)⟩) hd
 rw[hE.globals];exact G.g.keeps hb
theorem two{A:Around}{env:Env}{N:Addr->Prop}{α:Str->Option Addr}{s:Shared}{ρ:aa}{l r:Expr}{ml mr:aa->Option D}{f:Value->Value->Sem Value}{a b d:D}
  (hl:SE G k sc l ml) (hr:SE G k sc r mr) (hA:AOk A k) (hE:EOk sc env) (hb:Hk G.base s.heap) (hi:In G env N α s.heap ρ) (ea:ml ρ=some a) (eb:mr ρ=some b)
  (h:∀va vb s2,Kp s s2->Lo (Nu N α) s2.heap->Rt s2.heap (Nu N α) va a->Rt s2.heap (Nu N α) vb b->wpAny (model G.prog G.w) A (f va vb) (Po s2 (Nu N α) d) aQ s2):
  wpAny (model G.prog G.w) A (eval l env) (fun va s1=>wpAny (model G.prog G.w) A (eval r env) (fun vb s2=>wpAny (model G.prog G.w) A (f va vb) (Po s (Nu N α) d) aQ s2) aQ s1) aQ s:=by
 refine wpAny_mono (hl A env N α s ρ a hA hE hb hi ea) (fun va s1 h1=>?_) fun _ _ x=>x
 refine wpAny_mono (hr A env N α s1 ρ b hA hE (aZ hb h1.1) (hi.keep h1.1.heap) eb) (fun vb s2 h2=>?_) fun _ _ x=>x
 refine wpAny_mono (h va vb s2 (h1.1.trans h2.1) (hi.low.keep (h1.1.trans h2.1).heap) (h1.2.keep h2.1.heap) h2.2) (fun v s3 h3=>⟨h1.1.trans (h2.1.trans h3.1),h3.2⟩) fun _ _ x=>x
noncomputable def gW(G:ap)(k:Nat)(op:Operator)(a b d:D):Prop:=
 ∀A N s va vb,AOk A k->Hk G.base s.heap->Lo N s.heap->Rt s.heap N va a->Rt s.heap N vb b->wpAny (model G.prog G.w) A (binaryOp op va vb) (Po s N d) aQ s
theorem SE.bin{l r:Expr}{op:Operator}{pos:Pos}{ml mr:aa->Option D}{f:D->D->Option D}(hf:∀a b d,f a b=some d->gW G k op a b d)(hl:SE G k sc l ml)(hr:SE G k sc r mr):
  SE G k sc (.BinOp l op r pos) (fun ρ=>(ml ρ).bind fun a=>(mr ρ).bind fun b=>f a b):=by
 intro A env N α s ρ d hA hE hb hi hρ
 refine ao hρ fun a ea hρ=>?_
 refine ao hρ fun b eb hρ=>?_
 exact wpAny_BinOp (two hl hr hA hE hb hi ea eb fun va vb s2 k₂ lo ra rb=>hf a b d hρ A _ s2 va vb hA (aZ hb k₂) lo ra rb)
noncomputable def dI(G:ap)(k:Nat)(op:CmpOp)(a b:D)(c:Bool):Prop:=
 ∀A N s va vb,AOk A k->Hk G.base s.heap->Lo N s.heap->Rt s.heap N va a->Rt s.heap N vb b->wpAny (model G.prog G.w) A (compareOp op va vb) (fun v s'=>v=.bool c∧Kp s s') aQ s
theorem SE.cmp{l r:Expr}{op:CmpOp}{pos:Pos}{ml mr:aa->Option D}{f:D->D->Option Bool}(hf:∀a b c,f a b=some c->dI G k op a b c)(hl:SE G k sc l ml)(hr:SE G k sc r mr)
  (hm:behindInMarks op r=false):
  SE G k sc (.Compare l [op] [r] pos) (fun ρ=>(ml ρ).bind fun a=>(mr ρ).bind fun b=>(f a b).map .bool):=by
 intro A env N α s ρ d hA hE hb hi hρ
 refine ao hρ fun a ea hρ=>?_
 refine ao hρ fun b eb hρ=>?_
 obtain⟨c,ec,rfl⟩:=Option.map_eq_some_iff.mp hρ
 refine wpAny_Compare1 (two hl hr hA hE hb hi ea eb fun va vb s2 k₂ lo ra rb=>?_) hm
 refine wpAny_mono (hf a b c ec A _ s2 va vb hA (aZ hb k₂) lo ra rb) (fun v s3 h3=>?_) fun _ _ x=>x
 obtain⟨rfl,h3⟩:=h3
 exact⟨h3,.clean (.bool c)⟩
theorem ST.cmp{l r:Expr}{op:CmpOp}{pos:Pos}{ml mr:aa->Option D}{f:D->D->Option Bool}(hf:∀a b c,f a b=some c->dI G k op a b c)(hl:SE G k sc l ml)(hr:SE G k sc r mr)
  (hm:behindInMarks op r=false):
  ST G k sc (.Compare l [op] [r] pos) (fun ρ=>(ml ρ).bind fun a=>(mr ρ).bind fun b=>f a b):=by
 intro A env N α s ρ c hA hE hb hi hρ
 refine ao hρ fun a ea hρ=>?_
 refine ao hρ fun b eb ec=>?_
 refine wpAny_isTrue_Compare1 ?_ hm
 refine wpAny_mono (hl A env N α s ρ a hA hE hb hi ea) (fun va s1 h1=>?_) fun _ _ x=>x
 refine wpAny_mono (hr A env N α s1 ρ b hA hE (aZ hb h1.1) (hi.keep h1.1.heap) eb) (fun vb s2 h2=>?_) fun _ _ x=>x
 refine wpAny_mono (hf a b c ec A _ s2 va vb hA (aZ hb (h1.1.trans h2.1)) (hi.low.keep (h1.1.trans h2.1).heap) (h1.2.keep h2.1.heap) h2.2) (fun v s3 h3=>?_) fun _ _ x=>x
 obtain⟨rfl,h3⟩:=h3
 exact wpAny_truthy_bool ⟨rfl,h1.1.trans (h2.1.trans h3)⟩
theorem ST.not{e:Expr}{pos:Pos}{m:aa->Option Bool}(h:ST G k sc e m):ST G k sc (.UnaryOp .Not e pos) (fun ρ=>(m ρ).map (!·)):=by
 intro A env N α s ρ c hA hE hb hi hρ
 obtain⟨b,eb,rfl⟩:=Option.map_eq_some_iff.mp hρ
 refine isTrue_not (wpAny_mono (h A env N α s ρ b hA hE hb hi eb) (fun v s' h'=>?_) fun _ _ x=>x)
 obtain⟨rfl,h'⟩:=h'
 exact⟨rfl,h'⟩
theorem ST.and_nil{pos:Pos}:ST G k sc (.BoolOp .And [] pos) (fun _=>some true):=by
 intro A env N α s ρ c hA hE hb hi hρ
 cases hρ
 exact isTrue_and_nil ⟨rfl,Kp.refl s⟩
theorem ST.or_nil{pos:Pos}:ST G k sc (.BoolOp .Or [] pos) (fun _=>some false):=by
 intro A env N α s ρ c hA hE hb hi hρ
 cases hρ
 exact isTrue_or_nil ⟨rfl,Kp.refl s⟩
theorem ST.and{e:Expr}{rest:List Expr}{pos:Pos}{m n:aa->Option Bool}(h:ST G k sc e m)(hr:ST G k sc (.BoolOp .And rest pos) n):
  ST G k sc (.BoolOp .And (e :: rest) pos) (fun ρ=>(m ρ).bind fun b=>if b then n ρ else some false):=by
 intro A env N α s ρ c hA hE hb hi hρ
 refine ao hρ fun b eb hρ=>?_
 refine isTrue_and (wpAny_mono (h A env N α s ρ b hA hE hb hi eb) (fun v s' h'=>?_) fun _ _ x=>x)
 obtain⟨rfl,h'⟩:=h'
 cases v with
 | false=>cases hρ;exact⟨rfl,h'⟩
 | true=>
  simp only[if_true] at hρ ⊢
  exact wpAny_mono (hr A env N α s' ρ c hA hE (aZ hb h') (hi.keep h'.heap) hρ) (fun v s'' h''=>⟨h''.1,h'.trans h''.2⟩) fun _ _ x=>x
theorem ST.or{e:Expr}{rest:List Expr}{pos:Pos}{m n:aa->Option Bool}(h:ST G k sc e m)(hr:ST G k sc (.BoolOp .Or rest pos) n):
  ST G k sc (.BoolOp .Or (e :: rest) pos) (fun ρ=>(m ρ).bind fun b=>if b then some true else n ρ):=by
 intro A env N α s ρ c hA hE hb hi hρ
 refine ao hρ fun b eb hρ=>?_
 refine isTrue_or (wpAny_mono (h A env N α s ρ b hA hE hb hi eb) (fun v s' h'=>?_) fun _ _ x=>x)
 obtain⟨rfl,h'⟩:=h'
 cases v with
 | true=>cases hρ;exact⟨rfl,h'⟩
 | false=>
  simp only[Bool.false_eq_true,if_false] at hρ ⊢
  exact wpAny_mono (hr A env N α s' ρ c hA hE (aZ hb h') (hi.keep h'.heap) hρ) (fun v s'' h''=>⟨h''.1,h'.trans h''.2⟩) fun _ _ x=>x
noncomputable def D.truth? : D->Option Bool
 | .none=>some false
 | .bool b=>some b
 | .list l=>if l.length < 9223372036854775808 then some (!l.isEmpty) else Option.none
 | .own l=>if l.length < 9223372036854775808 then some (!l.isEmpty) else Option.none
 | _=>Option.none
end
section
variable {G:ap} {k:Nat} {sc:Scope}
noncomputable def SEs(G:ap)(k:Nat)(sc:Scope)(es:List Expr)(ms:aa->Option (List D)):Prop:=
 ∀A env N α s ρ ds pos,AOk A k->EOk sc env->Hk G.base s.heap->In G env N α s.heap ρ->ms ρ=some ds->
  wpAny (model G.prog G.w) A (spliced (backTo pos (starEach es env))) (fun vs s'=>Kp s s'∧vs.length=es.length∧Rts s'.heap (Nu N α) vs ds) aQ s
noncomputable def a9(e:Expr):Prop:=∀rest env,starEach (e :: rest) env=(false,eval e env) :: starEach rest env
theorem SEs.nil:SEs G k sc [] (fun _=>some []):=by
 intro A env N α s ρ ds pos hA hE hb hi hρ
 cases hρ
 exact args_nil ⟨Kp.refl s,rfl,.nil⟩
theorem SEs.cons{e:Expr}{rest:List Expr}{m:aa->Option D}{ms:aa->Option (List D)}(hs:a9 e)(h:SE G k sc e m)(hr:SEs G k sc rest ms):
  SEs G k sc (e :: rest) (fun ρ=>(m ρ).bind fun d=>(ms ρ).bind fun ds=>some (d :: ds)):=by
 intro A env N α s ρ ds pos hA hE hb hi hρ
 refine ao hρ fun d ed hρ=>?_
 refine ao hρ fun ds' eds hρ=>?_
 cases hρ
 refine args_cons (wpAny_mono (h A env N α s ρ d hA hE hb hi ed) (fun v s1 h1=>?_) fun _ _ x=>x) (hs rest env)
 refine wpAny_mono (hr A env N α s1 ρ ds' pos hA hE (aZ hb h1.1) (hi.keep h1.1.heap) eds) (fun vs s2 h2=>?_) fun _ _ x=>x
 exact⟨h1.1.trans h2.1,by simp[h2.2.1],.cons (h1.2.keep h2.1.heap) h2.2.2⟩
theorem xZ{A:Around}{vs:List Value}{ds:List D}{N:Addr->Prop}{s:Shared}(r:Rps s.heap N vs ds)(hz:vs.length≤sizeLine):
  wpAny (model G.prog G.w) A (newTuple vs) (Po s N (.tup ds)) aQ s:=
 wpAny_newObj_type ⟨Kp.push s _,.clean (.tup (n:=0) (Heap.get?_push_size _ rfl) (r.keep fun _ _ e=>Heap.get?_push_of_some _ e))⟩ (by show vs.toArray.size≤sizeLine;simpa using hz)
theorem SE.tuple{es:List Expr}{kd:Nat}{pos:Pos}{ms:aa->Option (List D)}(h:SEs G k sc es ms)(hz:es.length≤1000):
  SE G k sc (.Tuple es kd pos) (fun ρ=>(ms ρ).bind fun ds=>if ds.all D.clean then some (.tup ds) else none):=by
 intro A env N α s ρ d hA hE hb hi hρ
 refine ao hρ fun ds eds hρ=>?_
 split at hρ
 .cases hρ
  rename_i hc
  refine Tuple_ (wpAny_mono (h A env N α s ρ ds pos hA hE hb hi eds) (fun vs s1 h1=>?_) fun _ _ x=>x)
  refine wpAny_mono (xZ (h1.2.2.rps hc) (by rw[sizeLine_eq,h1.2.1];omega)) (fun v s2 h2=>⟨h1.1.trans h2.1,h2.2⟩) fun _ _ x=>x
 .cases hρ
noncomputable def ch(N:Addr->Prop)(a:Addr):Addr->Prop:=fun b=>N b∨b=a
theorem Rps.off{h h':Heap}{N:Addr->Prop}{a:Addr}{vs ds}(r:Rps h N vs ds)(hn:h.get? a=none)(k:∀b o,h.get? b=some o->h'.get? b=some o):Rps h' (ch N a) vs ds:=
 r.change (fun b _ _ e=>k b _ e) fun b _ _ e hb=>⟨k b _ e,fun q=>q.elim hb fun q=>by rw[q,hn] at e;cases e⟩
noncomputable def SF(G:ap)(k:Nat)(sc:Scope)(e:Expr)(m:aa->Option (List D)):Prop:=
 ∀A env N α s ρ ds,AOk A k->EOk sc env->Hk G.base s.heap->In G env N α s.heap ρ->m ρ=some ds->
  wpAny (model G.prog G.w) A (eval e env) (fun v s'=>Kp s s'∧∃a vs n,v=.ref a∧s.heap.get? a=none∧s'.heap.get? a=some (aJ vs n)∧Rps s'.heap (ch (Nu N α) a) vs ds) aQ s
theorem SF.se{e:Expr}{m:aa->Option (List D)}(h:SF G k sc e m):SE G k sc e (fun ρ=>(m ρ).map .list):=by
 intro A env N α s ρ d hA hE hb hi hρ
 obtain⟨ds,eds,rfl⟩:=Option.map_eq_some_iff.mp hρ
 refine wpAny_mono (h A env N α s ρ ds hA hE hb hi eds) (fun v s' h'=>?_) fun _ _ x=>x
 obtain⟨hk,a,vs,n,rfl,hn,ha,r⟩:=h'
 exact⟨hk,.clean (.list ha (hi.low.fresh hn) (r.weak fun _ q=>.inl q))⟩
theorem Kp.gone{s s':Shared}(x:Kp s s'){a:Addr}(h:s'.heap.get? a=none):s.heap.get? a=none:=by
 cases e:s.heap.get? a with
 | none=>rfl
 | some o=>rw[x.heap a o e] at h;cases h
theorem SF.list{es:List Expr}{pos:Pos}{ms:aa->Option (List D)}(h:SEs G k sc es ms)(hz:es.length≤1000):
  SF G k sc (.List es pos) (fun ρ=>(ms ρ).bind fun ds=>if ds.all D.clean then some ds else none):=by
 intro A env N α s ρ d hA hE hb hi hρ
 refine ao hρ fun ds eds hρ=>?_
 split at hρ
 .cases hρ
  rename_i hc
  refine List_ (wpAny_mono (h A env N α s ρ _ pos hA hE hb hi eds) (fun vs s1 h1=>?_) fun _ _ x=>x)
  refine wpAny_newObj_type ⟨h1.1.trans (Kp.push s1 _),_,vs,0,rfl,h1.1.gone (b4 _),Heap.get?_push_size _ rfl,(h1.2.2.rps hc).off (b4 _) fun _ _ e=>Heap.get?_push_of_some _ e⟩ ?_
  show vs.toArray.size≤sizeLine
  rw[sizeLine_eq,List.size_toArray,h1.2.1];omega
 .cases hρ
noncomputable def FnOk(G:ap)(k:Nat)(f:Addr)(Φ:List D->Option D):Prop:=
 (∃o fd,G.base.get? f=some o∧o.data=.func fd)∧
 ∀A N s vals ds r,AOk A k->Hk G.base s.heap->Lo N s.heap->Rps s.heap N vals ds->Φ ds=some r->
  wpAny (model G.prog G.w) A (call (.ref f) vals) (fun v s'=>Kp s s'∧Rp s'.heap N v r) aQ s
noncomputable def iU(Φ:List D->Option D)(ds:List D):Option D:=
 (Φ (ds.map D.frz)).bind fun r=>if ds.all D.clean||r.flat then some r else none
theorem FnOk.call{j:Nat}{f:Addr}{Φ:List D->Option D}(h:FnOk G j f Φ){A:Around}{N:Addr->Prop}{s:Shared}{vals:List Value}{ds:List D}{r:D}(hA:AOk A j)(hb:Hk G.base s.heap)(lo:Lo N s.heap)
  (ra:Rts s.heap N vals ds) (e:iU Φ ds=some r):wpAny (model G.prog G.w) A (call (.ref f) vals) (Po s N r) aQ s:=by
 refine ao e fun r' er e=>?_
 split at e
 .cases e
  rename_i hc
  cases hcl:ds.all D.clean with
  | true=>
   rw[lm hcl] at er
   exact wpAny_mono (h.2 A N s vals ds r hA hb lo (ra.rps hcl) er) (fun v s' h'=>⟨h'.1,.clean h'.2⟩) fun _ _ x=>x
  | false=>
   rw[hcl,Bool.false_or] at hc
   exact wpAny_mono (h.2 A (fun _=>False) s vals (ds.map D.frz) r hA hb (fun _ q=>q.elim) ra.frz er) (fun v s' h'=>⟨h'.1,.clean (h'.2.flat hc)⟩) fun _ _ x=>x
 .cases e
theorem SE.call{j:Nat}{x:Str}{f:Addr}{e:Expr}{rest:List Expr}{p pos:Pos}{Φ:List D->Option D}{ms:aa->Option (List D)}(hf:FnOk G j f Φ)(hj:j≤k)
  (hx:sc.names.lookup x=some .globalImplicit) (hd:(x==("__debug__":Str))=false) (hg:G.mg x=some (.ref f)) (hs:a9 e) (h:SEs G k sc (e :: rest) ms):
  SE G k sc (.Call (.Name x p) (e :: rest) [] pos) (fun ρ=>(ms ρ).bind fun ds=>iU Φ ds):=by
 intro A env N α s ρ d hA hE hb hi hρ
 refine ao hρ fun ds eds hρ=>?_
 obtain⟨o,fd,ho,hdat⟩:=hf.1
 refine Call_ (Calls.Name_function_global hE.kind' (by rw[hE.kindOf];exact hx) (Calls.loadGlobal_global (mg:=G.mg) (by rw[hE.globals];exact G.g.keeps hb) hg ?_) hd)
 refine callWith_def hdat (wpAny_mono (h A env N α s ρ ds pos hA hE hb hi eds) (fun vs s1 h1=>⟨aZ hb h1.1 _ _ ho,?_⟩) fun _ _ x=>x) (hs rest env)
 exact wpAny_mono (hf.call (hA.mono hj) (aZ hb h1.1) (hi.low.keep h1.1.heap) h1.2.2 hρ) (fun v s2 h2=>⟨h1.1.trans h2.1,h2.2⟩) fun _ _ x=>x
noncomputable def jI(G:ap)(k:Nat)(c:Value)(Φ:List D->Option D):Prop:=
 ∀A N s vals ds r,AOk A k->Hk G.base s.heap->Lo N s.heap->Rts s.heap N vals ds->Φ ds=some r->
  wpAny (model G.prog G.w) A (call c vals) (Po s N r) aQ s
theorem SE.builtin{x:Str}{id:String}{e:Expr}{rest:List Expr}{p pos:Pos}{Φ:List D->Option D}{ms:aa->Option (List D)}(hf:jI G k (.builtin id) Φ)
  (hx:sc.names.lookup x=some .globalImplicit) (hd:(x==("__debug__":Str))=false) (hg:G.mg x=none) (hm:G.mb x=some (.builtin id)) (hs:a9 e) (hp:∀env,(backTo pos (starEach rest env)).any (·.1)=false) (h:SEs G k sc (e :: rest) ms):
  SE G k sc (.Call (.Name x p) (e :: rest) [] pos) (fun ρ=>(ms ρ).bind fun ds=>Φ ds):=by
 intro A env N α s ρ d hA hE hb hi hρ
 refine ao hρ fun ds eds hρ=>?_
 refine Call_ (Calls.Name_function_global hE.kind' (by rw[hE.kindOf];exact hx) (Calls.loadGlobal_builtin (mg:=G.mg) (mb:=G.mb) (by rw[hE.globals];exact G.g.keeps hb) hg (by rw[hE.builtins];exact G.b.keeps hb) hm ?_) hd)
 refine callWith_builtin1 (wpAny_mono (h A env N α s ρ ds pos hA hE hb hi eds) (fun vs s1 h1=>?_) fun _ _ x=>x) (hs rest env) (hp env)
 exact wpAny_mono (hf A _ s1 vs ds d hA (aZ hb h1.1) (hi.low.keep h1.1.heap) h1.2.2 hρ) (fun v s2 h2=>⟨h1.1.trans h2.1,h2.2⟩) fun _ _ x=>x
end
inductive Out where
 | next (ρ:aa)
 | ret (d:D)
 | brk (ρ:aa)
 | cont (ρ:aa)
 | retF (l:List D)
noncomputable def ah(ρ:aa)(x:Str)(d:D):aa:=fun y=>if y=x then some d else ρ y
noncomputable def valOf(env:Env)(m cm:Str->Option Value)(x:Str):Option Value:=
 match env.kindOf x with
 | some .local=>m x
 | some .cell=>cm x
 | _=>none
noncomputable def drop(α:Str->Option Addr)(x:Str):Str->Option Addr:=fun y=>if y=x then none else α y
noncomputable def fx(α:Str->Option Addr)(x:Str)(a:Addr):Str->Option Addr:=fun y=>if y=x then some a else α y
structure Act (G:ap) (s₀:Shared) (env:Env) (N:Addr->Prop) (α:Str->Option Addr) (s:Shared) (ρ:aa):Prop where
 ex:∃m cm,InCallC s₀ env.locals m env.cells cm s∧∀x d,ρ x=some d->aU x=false->∃v,valOf env m cm x=some v∧Slot s.heap N α x v d
 lowN:Lo N s₀.heap
 fresh:∀x a,α x=some a->s₀.heap.get? a=none∧∃vs n,s.heap.get? a=some (aJ vs n)
 inj:∀x y a,α x=some a->α y=some a->x=y
 cells:∀x,(env.kindOf x=some .cell∨env.kindOf x=some .free)->(env.cells.lookup x).isSome=true
 bk:∀b d,ρ (ag b)=some d->BookAt G s.heap (Nu N α) b d∧b≠env.locals+1
 nb:∀x,aU x=true->env.kindOf x=none
noncomputable def cW(env:Env)(α:Str->Option Addr)(b:Addr):Prop:=b≠env.locals∧(∀x c,env.cells.lookup x=some c->b≠c)∧∀x,α x≠some b
noncomputable def Fm(env:Env)(α:Str->Option Addr)(s:Shared)(α':Str->Option Addr)(s':Shared):Prop:=
 ∀b o,s.heap.get? b=some o->cW env α b->s'.heap.get? b=some o∧cW env α' b
theorem Fm.refl(env:Env)(α:Str->Option Addr)(s:Shared):Fm env α s α s:=fun _ _ e f=>⟨e,f⟩
theorem Fm.trans{env:Env}{α α1 α2:Str->Option Addr}{s s1 s2:Shared}(x:Fm env α s α1 s1)(y:Fm env α1 s1 α2 s2):Fm env α s α2 s2:=fun b o e f=>let ⟨e1,f1⟩:=x b o e f;y b o e1 f1
theorem Fm.kp{env:Env}{α:Str->Option Addr}{s s':Shared}(k:Kp s s'):Fm env α s α s':=fun b o e f=>⟨k.heap b o e,f⟩
section
variable {G:ap} {s₀:Shared} {env:Env} {N:Addr->Prop} {α:Str->Option Addr} {s s':Shared} {ρ:aa}
theorem Act.kp(a:Act G s₀ env N α s ρ):Kp s₀ s:=by
 obtain⟨m,cm,i,_⟩:=a.ex
 exact i.done
theorem Act.in(a:Act G s₀ env N α s ρ):In G env N α s.heap ρ:=by
 obtain⟨m,cm,i,hv⟩:=a.ex
 refine⟨fun b hb=>?_,a.cells,⟨m,i.toInCall.ns,fun x d e hx _ hy=>?_⟩,fun b d e=>(a.bk b d e).1⟩
 .rcases hb with hb | ⟨x,hb⟩
  .obtain⟨o,ho⟩:=a.lowN b hb;exact⟨o,i.toInCall.keep b o ho⟩
  .obtain⟨_,vs,n,h⟩:=a.fresh x b hb;exact⟨_,h⟩
 .obtain⟨v,h1,h2⟩:=hv x d e hy
  refine⟨v,?_,h2⟩
  unfold valOf at h1
  unfold VarIs
  split at h1
  .rename_i q;rw[q];exact h1
  .rename_i q;rw[q]
   obtain⟨c,hc⟩:=Option.isSome_iff_exists.mp (a.cells x (.inl q))
   exact⟨c,hc,h1 ▸ i.cell x c hc⟩
  .cases h1
theorem sL{L:Addr}{m cm:Str->Option Value}{cs:List (Str × Addr)}(i:InCallC s₀ L m cs cm s)(k:Kp s s'):InCallC s₀ L m cs cm s':=by
 have hk:=k.heap
 obtain⟨h',tk,rfl,_⟩:=k
 obtain⟨h1,t₁,e1⟩:=i.toInCall.same
 exact⟨⟨⟨h',tk,by rw[e1]⟩,i.toInCall.ns.keeps hk,fun b o e=>hk b o (i.toInCall.keep b o e),i.toInCall.fresh⟩,fun n c hc=>(i.cell n c hc).keeps hk,i.apart,i.above⟩
theorem Act.keep(a:Act G s₀ env N α s ρ)(k:Kp s s'):Act G s₀ env N α s' ρ:=by
 obtain⟨m,cm,i,hv⟩:=a.ex
 have hk:=k.heap
 refine⟨⟨m,cm,sL i k,fun x d e hy=>?_⟩,a.lowN,fun x b e=>?_,a.inj,a.cells,fun b d e=>⟨(a.bk b d e).1.keep hk,(a.bk b d e).2⟩,a.nb⟩
 .obtain⟨v,h1,h2⟩:=hv x d e hy;exact⟨v,h1,h2.keep hk⟩
 .obtain⟨h1,vs,n,h2⟩:=a.fresh x b e;exact⟨h1,vs,n,hk _ _ h2⟩
theorem Slot.but{h h':Heap}{x:Str}{v:Value}{d:D}{L:Addr}(s:Slot h N α x v d)(hs:∀b,b≠L->h'.get? b=h.get? b)(hL:∀vs n,h.get? L≠some (aJ vs n))(hT:∀vs n,h.get? L≠some (a8 vs n)):Slot h' N α x v d:=by
 have kt:∀b vs n,h.get? b=some (a8 vs n)->h'.get? b=some (a8 vs n):=fun b vs n e=>(hs b fun q=>hT vs n (q ▸ e)).trans e
 have kl:∀b vs n,h.get? b=some (aJ vs n)->h'.get? b=some (aJ vs n):=fun b vs n e=>(hs b fun q=>hL vs n (q ▸ e)).trans e
 cases s with
 | clean r=>exact .clean (r.change kt fun b vs n e hn=>⟨kl b vs n e,hn⟩)
 | own e hl r=>exact .own e (kl _ _ _ hl) (r.change kt fun b vs n e hn=>⟨kl b vs n e,hn⟩)
theorem Slot.drop{h:Heap}{x y:Str}{v:Value}{d:D}(s:Slot h N α y v d)(hne:y≠x):Slot h N (drop α x) y v d:=by
 have k:∀b,Nu N (Mine.drop α x) b->Nu N α b:=fun b q=>by
  rcases q with q | ⟨z,q⟩
  .exact .inl q
  .unfold Mine.drop at q
   split at q
   .cases q
   .exact .inr ⟨z,q⟩
 cases s with
 | clean r=>exact .clean (r.weak k)
 | own e hl r=>exact .own (by unfold Mine.drop;rw[if_neg hne];exact e) hl (r.weak k)
theorem fy{h:Heap}{L:Addr}{m:Str->Option Value}(hn:h.Ns L m)(vs:List Value)(n:Nat):h.get? L≠some (aJ vs n)∧h.get? L≠some (a8 vs n):=by
 obtain⟨o,es,ep,ho,hd,_⟩:=hn
 constructor <;> (intro q;rw[ho] at q;cases q;cases hd)
theorem jJ{h:Heap}{c:Addr}{v:Option Value}(hn:h.IsCell c v)(vs:List Value)(n:Nat):h.get? c≠some (aJ vs n)∧h.get? c≠some (a8 vs n):=by
 obtain⟨o,ho,hd⟩:=hn
 constructor <;> (intro q;rw[ho] at q;cases q;cases hd)
theorem lr{h h':Heap}{N:Addr->Prop}{v:Value}{d:D}{L:Addr}(r:Rp h N v d)(hs:∀b,b≠L->h'.get? b=h.get? b)(hL:∀vs n,h.get? L≠some (aJ vs n)∧h.get? L≠some (a8 vs n)):Rp h' N v d:=
 r.change (fun b vs n e=>(hs b fun q=>(hL vs n).2 (q ▸ e)).trans e) fun b vs n e hn=>⟨(hs b fun q=>(hL vs n).1 (q ▸ e)).trans e,hn⟩
theorem Act.storeBy{M:Model}{A:Around}{E:Value->Shared->Prop}{s1:Shared}{α':Str->Option Addr}{x:Str}{v:Value}{d:D}{Q:Unit->Shared->Prop}(a:Act G s₀ env N α s ρ)(k₁:Kp s s1)(hk:env.scope.kind=.function)
  (hx:env.kindOf x=some .local∨env.kindOf x=some .cell)
  (hr:Slot s1.heap N α' x v d) (ho:∀y w e,y≠x->Slot s.heap N α y w e->Slot s1.heap N α' y w e)
  (hf:∀y b,α' y=some b->s₀.heap.get? b=none∧∃vs n,s1.heap.get? b=some (aJ vs n)) (hj:∀y z b,α' y=some b->α' z=some b->y=z)
  (hfr:∀b o,s.heap.get? b=some o->(∀y,α y≠some b)->∀y,α' y≠some b)
  (hbk:∀b d,BookAt G s.heap (Nu N α) b d->BookAt G s1.heap (Nu N α') b d)
  (h:∀s',Act G s₀ env N α' s' (ah ρ x d)->Fm env α s α' s'->(∀b o,s1.heap.get? b=some o->b≠env.locals->(∀x c,env.cells.lookup x=some c->b≠c)->s'.heap.get? b=some o)->Q () s'):wpAny M A (storeName env x v) Q E s1:=by
 obtain⟨m,cm,i,hv⟩:=a.ex
 replace i:=sL i k₁
 have hxk:aU x=false:=by
  cases q:aU x with
  | false=>rfl
  | true=>rw[a.nb x q] at hx;rcases hx with hx | hx <;> cases hx
 have hne:∀b,ah ρ x d (ag b)=ρ (ag b):=fun b=>by
  unfold ah
  rw[if_neg fun q=>by rw[← q,dH] at hxk;cases hxk]
 rcases hx with hx | hx
 .refine wpAny_storeName_local hx i.toInCall.ns (fun h' hn' hs'=>h _ ?_ (fun b o e f=>⟨(hs'.2 b f.1).trans (k₁.heap b o e),f.1,f.2.1,hfr b o e f.2.2⟩) fun b o e f1 f2=>(hs'.2 b f1).trans e) (by rw[hk];rfl)
  have hL:=fy i.toInCall.ns
  refine⟨⟨_,cm,⟨⟨?_,hn',fun b o e=>?_,i.toInCall.fresh⟩,fun k c hc=>?_,i.apart,i.above⟩,fun y e hy hyk=>?_⟩,a.lowN,fun y b e=>?_,hj,a.cells,fun b e hb=>?_,a.nb⟩
  .obtain⟨h₁,tk,rfl⟩:=i.toInCall.same;exact⟨h',_,rfl⟩
  .exact hs'.extBut b o (Nat.ne_of_lt (Nat.lt_of_lt_of_le (Heap.lt_size e) i.toInCall.fresh)) (i.toInCall.keep b o e)
  .exact(i.cell k c hc).sameBut hs' (Nat.ne_of_gt (i.above k c (mem_of_lookup hc)))
  .unfold ah at hy
   by_cases q:y=x
   .subst q
    rw[if_pos rfl] at hy;cases hy
    exact⟨v,by simp only[valOf,hx,if_true],hr.but hs'.2 (fun vs n=>(hL vs n).1) fun vs n=>(hL vs n).2⟩
   .rw[if_neg q] at hy
    obtain⟨w,h1,h2⟩:=hv y e hy hyk
    refine⟨w,?_,(ho y w e q h2).but hs'.2 (fun vs n=>(hL vs n).1) fun vs n=>(hL vs n).2⟩
    rw[← h1];unfold valOf;split <;> first | rfl | (simp only[if_neg q])
  .obtain⟨h1,vs,n,h2⟩:=hf y b e
   exact⟨h1,vs,n,(hs'.2 b fun q=>(hL vs n).1 (q ▸ h2)).trans h2⟩
  .rw[hne] at hb
   obtain⟨B,hl⟩:=a.bk b e hb
   refine⟨(hbk b e B).change (fun c us j e=>(hs'.2 c fun q=>(hL us j).2 (q ▸ e)).trans e) (fun c us j e hn=>⟨(hs'.2 c fun q=>(hL us j).1 (q ▸ e)).trans e,hn⟩) (fun o e hp=>(hs'.2 b fun q=>?_).trans e) (fun dx o q e _=>(hs'.2 dx fun q'=>hl (by rw[q,q'])).trans e),hl⟩
   obtain⟨ol,es,ep,hol,hdl,_⟩:=i.toInCall.ns
   rw[q,hol] at e;cases e;rw[hdl] at hp;cases hp
 .obtain⟨c,hc⟩:=Option.isSome_iff_exists.mp (a.cells x (.inl hx))
  refine wpAny_storeName_cell hk hx hc (i.cell x c hc) fun h' hc' hs'=>h _ ?_ (fun b o e f=>⟨(hs'.2 b (f.2.1 x c hc)).trans (k₁.heap b o e),f.1,f.2.1,hfr b o e f.2.2⟩) fun b o e f1 f2=>(hs'.2 b (f2 x c hc)).trans e
  have hLc:=i.above x c (mem_of_lookup hc)
  have hL:=jJ (i.cell x c hc)
  refine⟨⟨m,(fun y=>if y=x then some v else cm y),⟨⟨?_,i.toInCall.ns.sameBut hs' (Nat.ne_of_lt hLc),fun b o e=>?_,i.toInCall.fresh⟩,fun k c' hk'=>?_,i.apart,i.above⟩,fun y e hy hyk=>?_⟩,a.lowN,fun y b e=>?_,hj,a.cells,fun b e hb=>?_,a.nb⟩
  .obtain⟨h₁,tk,rfl⟩:=i.toInCall.same;exact⟨h',_,rfl⟩
  .exact hs'.extBut b o (Nat.ne_of_lt (Nat.lt_trans (Nat.lt_of_lt_of_le (Heap.lt_size e) i.toInCall.fresh) hLc)) (i.toInCall.keep b o e)
  .by_cases hkn:k=x
   .subst hkn
    rw[hc] at hk';cases hk'
    simpa using hc'
   .rw[if_neg hkn]
    exact(i.cell k c' hk').sameBut hs' fun e=>hkn (name_of_addr i.apart (mem_of_lookup hk') (e ▸ mem_of_lookup hc))
  .unfold ah at hy
   by_cases q:y=x
   .subst q
    rw[if_pos rfl] at hy;cases hy
    exact⟨v,by simp only[valOf,hx,if_true],hr.but hs'.2 (fun vs n=>(hL vs n).1) fun vs n=>(hL vs n).2⟩
   .rw[if_neg q] at hy
    obtain⟨w,h1,h2⟩:=hv y e hy hyk
    refine⟨w,?_,(ho y w e q h2).but hs'.2 (fun vs n=>(hL vs n).1) fun vs n=>(hL vs n).2⟩
    rw[← h1];unfold valOf;split <;> first | rfl | (simp only[if_neg q])
  .obtain⟨h1,vs,n,h2⟩:=hf y b e
   exact⟨h1,vs,n,(hs'.2 b fun q=>(hL vs n).1 (q ▸ h2)).trans h2⟩
  .rw[hne] at hb
   obtain⟨B,hl⟩:=a.bk b e hb
   obtain⟨ol,hol,hdl⟩:=i.cell x c hc
   refine⟨(hbk b e B).change (fun c' us j e=>(hs'.2 c' fun q=>(hL us j).2 (q ▸ e)).trans e) (fun c' us j e hn=>⟨(hs'.2 c' fun q=>(hL us j).1 (q ▸ e)).trans e,hn⟩) (fun o e hp=>(hs'.2 b fun q=>?_).trans e) (fun dx o _ e hp=>(hs'.2 dx fun q=>?_).trans e),hl⟩
   .rw[q,hol] at e;cases e;rw[hdl] at hp;cases hp
   .obtain⟨es,n,hp⟩:=hp
    rw[q,hol] at e;cases e;rw[hdl] at hp;cases hp
theorem fA{α:Str->Option Addr}{x y:Str}{b:Addr}(h:drop α x y=some b):α y=some b:=by
 unfold drop at h;split at h
 .cases h
 .exact h
theorem Act.store{M:Model}{A:Around}{E:Value->Shared->Prop}{x:Str}{v:Value}{d:D}{Q:Unit->Shared->Prop}(a:Act G s₀ env N α s ρ)(hk:env.scope.kind=.function)
  (hx:env.kindOf x=some .local∨env.kindOf x=some .cell) (r:Rp s.heap (Nu N α) v d)
  (h:∀s',Act G s₀ env N (drop α x) s' (ah ρ x d)->Fm env α s (drop α x) s'->Q () s'):wpAny M A (storeName env x v) Q E s:=
 a.storeBy (Kp.refl s) hk hx (.clean (r.weak fun _ q=>q.imp id fun⟨z,e⟩=>⟨z,fA e⟩)) (fun _ _ _ q s=>s.drop q) (fun y b e=>a.fresh y b (fA e)) (fun y z b e1 e2=>a.inj y z b (fA e1) (fA e2)) (fun _ _ _ hb y q=>hb y (fA q)) (fun b d B=>B.weak fun _ q=>q.imp id fun⟨z,e⟩=>⟨z,fA e⟩) fun s' a f _=>h s' a f
theorem Act.storeOwn{M:Model}{A:Around}{E:Value->Shared->Prop}{s1:Shared}{x:Str}{b:Addr}{vs:List Value}{n:Nat}{ds:List D}{Q:Unit->Shared->Prop}(a:Act G s₀ env N α s ρ)(hk:env.scope.kind=.function)
  (hx:env.kindOf x=some .local∨env.kindOf x=some .cell) (k:Kp s s1) (hn:s.heap.get? b=none) (hb:s1.heap.get? b=some (aJ vs n)) (r:Rps s1.heap (ch (Nu N α) b) vs ds)
  (h:∀s',Act G s₀ env N (fx α x b) s' (ah ρ x (.own ds))->Fm env α s (fx α x b) s'->(∀b o,s1.heap.get? b=some o->b≠env.locals->(∀x c,env.cells.lookup x=some c->b≠c)->s'.heap.get? b=some o)->Q () s'):wpAny M A (storeName env x (.ref b)) Q E s1:=by
 have hput:∀c,Nu N (fx α x b) c->ch (Nu N α) b c:=fun c q=>by
  rcases q with q | ⟨z,q⟩
  .exact .inl (.inl q)
  .unfold fx at q
   split at q
   .cases q;exact .inr rfl
   .exact .inl (.inr ⟨z,q⟩)
 have old:∀y c,α y=some c->c≠b:=fun y c e q=>by
  obtain⟨_,vs,n,h2⟩:=a.fresh y c e
  rw[q,hn] at h2;cases h2
 have hvs:∀y w e,Slot s.heap N α y w e->y≠x->Slot s1.heap N (fx α x b) y w e:=fun y w e sl q=>by
  have kt:∀c us j,s.heap.get? c=some (a8 us j)->s1.heap.get? c=some (a8 us j):=fun c us j e=>k.heap c _ e
  have kl:∀c us j,s.heap.get? c=some (aJ us j)->¬Nu N α c->s1.heap.get? c=some (aJ us j)∧¬Nu N (fx α x b) c:=fun c us j e hc=>
   ⟨k.heap c _ e,fun hq=>(hput c hq).elim hc fun q=>by rw[q,hn] at e;cases e⟩
  cases sl with
  | clean r=>exact .clean (r.change kt kl)
  | own e' hl r=>exact .own (by unfold fx;rw[if_neg q];exact e') (k.heap _ _ hl) (r.change kt kl)
 refine a.storeBy k hk hx (.own (by unfold fx;rw[if_pos rfl]) hb (r.weak hput)) (fun y w e q sl=>hvs y w e sl q) (fun y c e=>?_) (fun y z c e1 e2=>?_) (fun c o e hc y q=>?_) (fun _ _ B=>B.change (fun c us j e=>k.heap c _ e) (fun c us j e hc=>⟨k.heap c _ e,fun hq=>(hput c hq).elim hc fun q=>by rw[q,hn] at e;cases e⟩) (fun o e _=>k.heap _ _ e) fun _ _ _ e _=>k.heap _ _ e) h
 .unfold fx at e
  split at e
  .cases e;exact⟨a.kp.gone hn,_,_,hb⟩
  .obtain⟨h1,us,j,h2⟩:=a.fresh y c e;exact⟨h1,us,j,k.heap _ _ h2⟩
 .unfold fx at e1 e2
  split at e1 <;> split at e2
  .rename_i q1 q2;rw[q1,q2]
  .cases e1;exact absurd rfl (old z _ e2)
  .cases e2;exact absurd rfl (old y _ e1)
  .exact a.inj y z c e1 e2
 .unfold fx at q
  split at q
  .cases q;rw[hn] at e;cases e
  .exact hc y q
end
noncomputable def OutIs(G:ap)(s₀:Shared)(env:Env)(N:Addr->Prop)(α:Str->Option Addr)(s:Shared)(fl:Flow)(s':Shared):Out->Prop
 | .next ρ=>fl=.next∧∃ α',Act G s₀ env N α' s' ρ∧Fm env α s α' s'
 | .brk ρ=>fl=.brk∧∃ α',Act G s₀ env N α' s' ρ∧Fm env α s α' s'
 | .cont ρ=>fl=.cont∧∃ α',Act G s₀ env N α' s' ρ∧Fm env α s α' s'
 | .ret d=>∃v,fl=.ret v∧Kp s₀ s'∧Rp s'.heap N v d
 | .retF l=>∃a vs n,fl=.ret (.ref a)∧Kp s₀ s'∧s₀.heap.get? a=none∧s'.heap.get? a=some (aJ vs n)∧Rps s'.heap (ch N a) vs l
noncomputable def S1(G:ap)(k:Nat)(sc:Scope)(st:Stmt)(m:aa->Option Out):Prop:=
 ∀A env N α s₀ s ρ o,AOk A k->EOk sc env->Hk G.base s₀.heap->Act G s₀ env N α s ρ->m ρ=some o->
  wpAny (model G.prog G.w) A (exec st env) (fun fl s'=>OutIs G s₀ env N α s fl s' o) aQ s
noncomputable def SS(G:ap)(k:Nat)(sc:Scope)(sts:List Stmt)(m:aa->Option Out):Prop:=
 ∀A env N α s₀ s ρ o,AOk A k->EOk sc env->Hk G.base s₀.heap->Act G s₀ env N α s ρ->m ρ=some o->
  wpAny (model G.prog G.w) A (execs sts env) (fun fl s'=>OutIs G s₀ env N α s fl s' o) aQ s
noncomputable def am(m ms:aa->Option Out):aa->Option Out:=fun ρ=>(m ρ).bind fun o=>match o with | .next ρ'=>ms ρ' | o=>some o
theorem OutIs.trans{G:ap}{s₀:Shared}{env:Env}{N:Addr->Prop}{α α1:Str->Option Addr}{s s1 s':Shared}{fl:Flow}{o:Out}(h:OutIs G s₀ env N α1 s1 fl s' o)(f:Fm env α s α1 s1):OutIs G s₀ env N α s fl s' o:=by
 cases o with
 | ret d=>exact h
 | next ρ=>obtain⟨e,α',a,g⟩:=h;exact⟨e,α',a,f.trans g⟩
 | brk ρ=>obtain⟨e,α',a,g⟩:=h;exact⟨e,α',a,f.trans g⟩
 | cont ρ=>obtain⟨e,α',a,g⟩:=h;exact⟨e,α',a,f.trans g⟩
 | retF l=>exact h
section
variable {G:ap} {k:Nat} {sc:Scope}
theorem Act.hk{s₀:Shared}{env:Env}{N α s ρ}(a:Act G s₀ env N α s ρ)(h:Hk G.base s₀.heap):Hk G.base s.heap:=fun b o e=>a.kp.heap b o (h b o e)
theorem SS.nil:SS G k sc [] (fun ρ=>some (.next ρ)):=by
 intro A env N α s₀ s ρ o hA hE hb ha hρ
 cases hρ
 exact wpAny_execs_nil ⟨rfl,α,ha,Fm.refl _ _ _⟩
theorem SS.cons{st:Stmt}{rest:List Stmt}{m ms:aa->Option Out}(h:S1 G k sc st m)(hr:SS G k sc rest ms):SS G k sc (st :: rest) (am m ms):=by
 intro A env N α s₀ s ρ o hA hE hb ha hρ
 refine ao hρ fun o1 e1 hρ=>?_
 refine wpAny_execs_cons (wpAny_mono (h A env N α s₀ s ρ o1 hA hE hb ha e1) (fun fl s' h'=>?_) fun _ _ x=>x)
 cases o1 with
 | next ρ'=>
  obtain⟨rfl,α',a',f'⟩:=h'
  exact wpAny_mono (hr A env N α' s₀ s' ρ' o hA hE hb a' hρ) (fun _ _ q=>q.trans f') fun _ _ x=>x
 | ret d=>cases hρ;obtain⟨v,rfl,h'⟩:=h';exact⟨v,rfl,h'⟩
 | brk ρ'=>cases hρ;obtain⟨rfl,h'⟩:=h';exact⟨rfl,h'⟩
 | cont ρ'=>cases hρ;obtain⟨rfl,h'⟩:=h';exact⟨rfl,h'⟩
 | retF l=>cases hρ;obtain⟨a,vs,n,rfl,h'⟩:=h';exact⟨a,vs,n,rfl,h'⟩
noncomputable def okStore(sc:Scope)(x:Str):Bool:=match sc.names.lookup x with | some .local=>true | some .cell=>true | _=>false
theorem okStore.ok{env:Env}{x:Str}(hE:EOk sc env)(h:okStore sc x=true):env.kindOf x=some .local∨env.kindOf x=some .cell:=by
 rw[hE.kindOf]
 unfold okStore at h
 split at h
 .rename_i q;exact .inl q
 .rename_i q;exact .inr q
 .cases h
noncomputable def iV(e:Expr):Prop:=∀x p n env,swapsWith e (some (.Name x p)) n env=pure false
theorem S1.assign{x:Str}{p pos:Pos}{e:Expr}{m:aa->Option D}(hx:okStore sc x=true)(hs:iV e)(h:SE G k sc e m):
  S1 G k sc (.Assign [.Name x p] e pos) (fun ρ=>(m ρ).bind fun d=>if d.clean then some (.next (ah ρ x d)) else none):=by
 intro A env N α s₀ s ρ o hA hE hb ha hρ
 refine ao hρ fun d ed hρ=>?_
 split at hρ
 .cases hρ
  rename_i hc
  refine wpAny_Assign_Name (wpAny_mono (h A env N α s ρ d hA hE (ha.hk hb) ha.in ed) (fun v s1 h1=>?_) fun _ _ x=>x) (hs x p pos.line env)
  exact(ha.keep h1.1).store hE.kind' (okStore.ok hE hx) (h1.2.rp hc) fun s' a' f'=>⟨rfl,_,a',(Fm.kp h1.1).trans f'⟩
 .cases hρ
theorem S1.assignOwn{x:Str}{p pos:Pos}{e:Expr}{m:aa->Option (List D)}(hx:okStore sc x=true)(hs:iV e)(h:SF G k sc e m):
  S1 G k sc (.Assign [.Name x p] e pos) (fun ρ=>(m ρ).bind fun ds=>some (.next (ah ρ x (.own ds)))):=by
 intro A env N α s₀ s ρ o hA hE hb ha hρ
 refine ao hρ fun ds ed hρ=>?_
 cases hρ
 refine wpAny_Assign_Name (wpAny_mono (h A env N α s ρ ds hA hE (ha.hk hb) ha.in ed) (fun v s1 h1=>?_) fun _ _ x=>x) (hs x p pos.line env)
 obtain⟨hk,b,vs,n,rfl,hn,hb',r⟩:=h1
 exact ha.storeOwn hE.kind' (okStore.ok hE hx) hk hn hb' r fun s' a' f' _=>⟨rfl,_,a',f'⟩
theorem S1.ret{pos:Pos}{e:Expr}{m:aa->Option D}(h:SE G k sc e m):
  S1 G k sc (.Return (some e) pos) (fun ρ=>(m ρ).bind fun d=>if d.clean then some (.ret d) else none):=by
 intro A env N α s₀ s ρ o hA hE hb ha hρ
 refine ao hρ fun d ed hρ=>?_
 split at hρ
 .cases hρ
  rename_i hc
  refine wpAny_Return_some (wpAny_mono (h A env N α s ρ d hA hE (ha.hk hb) ha.in ed) (fun v s1 h1=>?_) fun _ _ x=>x)
  exact⟨v,rfl,ha.kp.trans h1.1,(h1.2.rp hc).weak fun _ q=>.inl q⟩
 .cases hρ
theorem S1.retName{x:Str}{p pos:Pos}(hd:(x==("__debug__":Str))=false)(hy:aU x=false):
  S1 G k sc (.Return (some (.Name x p)) pos) (fun ρ=>(ρ x).map fun d=>.ret d.frz):=by
 intro A env N α s₀ s ρ o hA hE hb ha hρ
 obtain⟨d,ed,rfl⟩:=Option.map_eq_some_iff.mp hρ
 obtain⟨m,cm,i,hv⟩:=ha.ex
 obtain⟨v,h1,h2⟩:=hv x d ed hy
 have fin:OutIs G s₀ env N α s (.ret v) s (.ret d.frz):=by
  refine⟨v,rfl,ha.kp,?_⟩
  cases h2 with
  | clean r=>
   have:d.frz=d:=by cases r <;> rfl
   rw[this];exact r.weak fun _ q=>.inl q
  | own e hl r=>
   refine .list hl (fun q=>?_) (r.weak fun _ q=>.inl q)
   obtain⟨o,ho⟩:=ha.lowN _ q
   rw[(ha.fresh _ _ e).1] at ho;cases ho
 refine wpAny_Return_some ?_
 unfold valOf at h1
 split at h1
 .rename_i q;exact wpAny_Name (wpAny_loadName_local hE.kind' q i.toInCall.ns h1 fin) hd
 .rename_i q
  obtain⟨c,hc⟩:=Option.isSome_iff_exists.mp (ha.cells x (.inl q))
  exact wpAny_Name (wpAny_loadName_cell hE.kind' q hc (h1 ▸ i.cell x c hc) fin) hd
 .cases h1
theorem S1.ite{test:Expr}{body orelse:List Stmt}{pos:Pos}{c:aa->Option Bool}{mb mo:aa->Option Out}(ht:ST G k sc test c)(h1:SS G k sc body mb)(h2:SS G k sc orelse mo):
  S1 G k sc (.If test body orelse pos) (fun ρ=>(c ρ).bind fun b=>if b then mb ρ else mo ρ):=by
 intro A env N α s₀ s ρ o hA hE hb ha hρ
 refine ao hρ fun b eb hρ=>?_
 refine wpAny_If (wpAny_mono (ht A env N α s ρ b hA hE (ha.hk hb) ha.in eb) (fun b' s1 h₁=>?_) fun _ _ x=>x)
 obtain⟨rfl,hk⟩:=h₁
 cases b' with
 | true=>exact wpAny_mono (h1 A env N α s₀ s1 ρ o hA hE hb (ha.keep hk) hρ) (fun _ _ q=>q.trans (Fm.kp hk)) fun _ _ x=>x
 | false=>exact wpAny_mono (h2 A env N α s₀ s1 ρ o hA hE hb (ha.keep hk) hρ) (fun _ _ q=>q.trans (Fm.kp hk)) fun _ _ x=>x
noncomputable def D.isNone:D->Bool
 | .none=>true
 | _=>false
theorem Rt.isNone{h:Heap}{N v d}(r:Rt h N v d)(e:d.isNone=true):v=.none:=by
 cases d with
 | none=>
  cases r with
  | clean r=>cases r;rfl
 | _=>cases e
theorem S1.expr{e:Expr}{pos:Pos}{m:aa->Option D}(hs:∀env,swapsWith e none pos.line env=pure false)(hn:∀env:Env,EOk sc env->interactive env=false)(h:SE G k sc e m):
  S1 G k sc (.Expr e pos) (fun ρ=>(m ρ).bind fun d=>if d.isNone then some (.next ρ) else none):=by
 intro A env N α s₀ s ρ o hA hE hb ha hρ
 refine ao hρ fun d ed hρ=>?_
 split at hρ
 .cases hρ
  rename_i hc
  refine wpAny_Expr (wpAny_mono (h A env N α s ρ d hA hE (ha.hk hb) ha.in ed) (fun v s1 h1=>?_) fun _ _ x=>x) (hn env hE) (hs env)
  have:=h1.2.isNone hc
  subst this
  exact⟨rfl,α,ha.keep h1.1,Fm.kp h1.1⟩
 .cases hρ
theorem lu(env:Env)(hE:EOk sc env):interactive env=false:=by
 unfold interactive
 rw[hE.scope,hE.kind];rfl
noncomputable def bK(names:List Str)(ds:List D):aa:=fun x=>(names.zip ds).lookup x
noncomputable def sM(o:Out):Option D:=match o with
 | .ret d=>some d
 | .next _=>some .none
 | _=>none
noncomputable def cG(names:List Str)(m:aa->Option Out):List D->Option D:=fun ds=>if ds.length=names.length then(m (bK names ds)).bind sM else none
theorem sN{kd:Str->Option NameKind}{x:Str}:∀(binds:List (Str × Value)) (m:Str->Option Value),x ∉ binds.map (·.1)->bindL kd binds m x=m x
 | [],_,_=>rfl
 | (n,v) :: r,m,h=>by
  simp only[List.map_cons,List.mem_cons,not_or] at h
  unfold bindL
  rw[sN r _ h.2]
  split
  .simp only[if_neg h.1]
  .rfl
theorem sQ{kd:Str->Option NameKind}{x:Str}:∀(binds:List (Str × Value)) (m:Str->Option Value),x ∉ binds.map (·.1)->bindC kd binds m x=m x
 | [],_,_=>rfl
 | (n,v) :: r,m,h=>by
  simp only[List.map_cons,List.mem_cons,not_or] at h
  unfold bindC
  rw[sQ r _ h.2]
  split
  .rfl
  .simp only[if_neg h.1]
theorem pp{kd:Str->Option NameKind}{x:Str}{v:Value}(hk:kd x=some .local):∀(binds:List (Str × Value)) (m:Str->Option Value),(binds.map (·.1)).Nodup->binds.lookup x=some v->bindL kd binds m x=some v
 | [],_,_,h=>by cases h
 | (n,w) :: r,m,hn,h=>by
  simp only[List.map_cons,List.nodup_cons] at hn
  unfold bindL
  rw[List.lookup_cons] at h
  by_cases q:x=n
  .subst q
   simp only[beq_self_eq_true] at h
   cases h
   rw[sN r _ hn.1,if_pos hk]
   simp
  .have:(x==n)=false:=beq_eq_false_iff_ne.mpr q
   rw[this] at h
   exact pp hk r _ hn.2 h
theorem pq{kd:Str->Option NameKind}{x:Str}{v:Value}(hk:kd x=some .cell):∀(binds:List (Str × Value)) (m:Str->Option Value),(binds.map (·.1)).Nodup->binds.lookup x=some v->bindC kd binds m x=some v
 | [],_,_,h=>by cases h
 | (n,w) :: r,m,hn,h=>by
  simp only[List.map_cons,List.nodup_cons] at hn
  unfold bindC
  rw[List.lookup_cons] at h
  by_cases q:x=n
  .subst q
   simp only[beq_self_eq_true] at h
   cases h
   rw[sQ r _ hn.1,if_neg (by rw[hk];decide)]
   simp
  .have:(x==n)=false:=beq_eq_false_iff_ne.mpr q
   rw[this] at h
   exact pq hk r _ hn.2 h
theorem lv{h:Heap}{N:Addr->Prop}{x:Str}{d:D}:∀ {names:List Str} {vals:List Value} {ds:List D},Rps h N vals ds->(names.zip ds).lookup x=some d->∃v,(names.zip vals).lookup x=some v∧Rp h N v d
 | [],_,_,_,e=>by simp at e
 | n :: names,_,_,.nil,e=>by simp at e
 | n :: names,_,_,.cons (v:=v) r rs,e=>by
  simp only[List.zip_cons_cons,List.lookup_cons] at e ⊢
  split at e
  .cases e;exact⟨v,by simp,r⟩
  .exact lv rs e
theorem fX{x:Str}:∀(names:List (Str × NameKind)) (n:Nat) (acc:List (Str × Addr)),names.lookup x=some .cell∨(acc.lookup x).isSome=true->((cellsFrom n names acc).lookup x).isSome=true
 | [],_,_,h=>h.elim (fun e=>by cases e) id
 | (y,kd) :: r,n,acc,h=>by
  unfold cellsFrom
  by_cases hk:(kd==.cell)=true
  .rw[if_pos hk]
   refine fX r (n+1) ((y,n) :: acc) ?_
   by_cases hy:(x==y)=true
   .exact .inr (by rw[List.lookup_cons,hy];rfl)
   .refine h.imp (fun e=>?_) fun e=>?_
    .rw[List.lookup_cons] at e;simpa only[hy] using e
    .rw[List.lookup_cons];simpa only[hy] using e
  .rw[if_neg hk]
   refine fX r n acc ?_
   by_cases hy:(x==y)=true
   .refine .inr (h.elim (fun e=>?_) id)
    rw[List.lookup_cons,hy] at e
    exact absurd (by rw[Option.some.inj e];rfl) hk
   .refine h.imp (fun e=>?_) id
    rw[List.lookup_cons] at e;simpa only[hy] using e
theorem FnOk.of{f:Addr}{o:Obj}{fd:FuncData}{names:List Str}{body:List Stmt}{m:aa->Option Out}(ho:G.base.get? f=some o)(hd:o.data=.func fd)(hbody:fd.body=.stmts body)(hclo:fd.closure=[])
  (hgl:fd.globals=mainGlobals) (hbi:fd.builtins=builtinsNs) (hcd:G.base.CodeRec fd.code fd.qualname)
  (hbind:∀vals:List Value,vals.length=names.length->bindArgs fd ⟨vals,[]⟩=pure (names.zip vals)) (hnd:names.Nodup) (hkind:∀x∈names,okStore fd.scope x=true) (hfree:fd.scope.names.all (fun p=>p.2 != .free && !aU p.1)=true)
  (hco:fd.scope.isCoroutine=false) (hgen:fd.scope.isGenerator=false) (hk:fd.scope.kind=.function) (h:SS G k fd.scope body m):FnOk G (k+1) f (cG names m):=by
 refine⟨⟨o,fd,ho,hd⟩,fun A N s vals ds r hA hb lo ra e=>?_⟩
 unfold cG at e
 split at e
 .rename_i hlen
  refine ao e fun oo e1 e2=>?_
  have hvl:vals.length=names.length:=ra.length.trans hlen
  refine wpAny_call (codeAny_call_cells (Nat.lt_of_le_of_lt (Nat.le_add_right _ _) hA.2.1) (hb _ _ ho) hd (G.nolimit.keeps hb) (hcd.keeps hb) hbody (hbind vals hvl) hclo (fun x hx=>?_) (fun s1 X=>?_) hco hgen hk)
  .have hm:x.1∈names:=(List.of_mem_zip hx).1
   have:=hkind _ hm
   unfold okStore at this
   split at this
   .rename_i q;exact .inl q
   .rename_i q;exact .inr ⟨q,fX _ _ _ (.inl q)⟩
   .cases this
  .have hE:EOk fd.scope (callEnvC fd s.heap.objs.size f):=⟨rfl,hk,hgl,hbi⟩
   have hkp:∀b o,s.heap.get? b=some o->s1.heap.get? b=some o:=X.toInCall.keep
   have hnames:((names.zip vals).map (·.1)).Nodup:=by
    rw[List.map_fst_zip (by omega)];exact hnd
   have nb:∀x,aU x=true->fd.scope.names.lookup x=none:=fun x hx=>by
    cases q:fd.scope.names.lookup x with
    | none=>rfl
    | some kd=>
     have:=List.all_eq_true.mp hfree _ (mem_of_lookup q)
     simp[hx] at this
   have a:Act G s (callEnvC fd s.heap.objs.size f) N (fun _=>none) s1 (bK names ds):=by
    refine⟨⟨_,_,X,fun x d hx _=>?_⟩,lo,fun x a q=>(by cases q),fun x y a q=>(by cases q),fun x hx=>?_,fun b d e=>?_,fun x hx=>(hE.kindOf x).trans (nb x hx)⟩
    .obtain⟨v,h1,h2⟩:=lv ra hx
     refine⟨v,?_,.clean ((h2.keep hkp).weak fun b q=>q.elim id fun⟨_,q⟩=>by cases q)⟩
     have hm:x∈names:=(List.of_mem_zip (mem_of_lookup h1)).1
     have hkx:=okStore.ok hE (hkind x hm)
     unfold valOf
     rcases hkx with q | q
     .rw[q];exact pp q _ _ hnames h1
     .rw[q];exact pq q _ _ hnames h1
    .rcases hx with hx | hx
     .exact fX _ _ _ (.inl hx)
     .have:=List.all_eq_true.mp hfree _ (mem_of_lookup hx)
      simp at this
    .obtain⟨v,h1,h2⟩:=lv ra e
     have hm:ag b∈names:=(List.of_mem_zip (mem_of_lookup h1)).1
     have hkx:=okStore.ok hE (hkind _ hm)
     rw[hE.kindOf,nb _ dH] at hkx
     rcases hkx with q | q <;> cases q
   refine wpAny_mono (h _ _ N _ s s1 _ oo hA.deeper hE hb a e1) (fun fl s' h'=>?_) fun _ _ x=>x.elim
   cases oo with
   | ret d=>cases e2;obtain⟨v,rfl,h1,h2⟩:=h';exact⟨h1,h2⟩
   | next ρ=>cases e2;obtain⟨rfl,α',a',_⟩:=h';exact⟨a'.kp,.none⟩
   | brk ρ=>cases e2
   | cont ρ=>cases e2
   | retF l=>cases e2
 .cases e
end
inductive Tg where
 | one (x:Str)
 | many (xs:List Str)
noncomputable def ie:List Expr->Option (List Str)
 | []=>some []
 | .Name x _ :: r=>(ie r).map (x :: ·)
 | _=>none
noncomputable def bV:Expr->Option Tg
 | .Name x _=>some (.one x)
 | .Tuple es _ _=>(ie es).map .many
 | _=>none
noncomputable def Tg.names:Tg->List Str
 | .one x=>[x]
 | .many xs=>xs
noncomputable def ig(ρ:aa):List Str->List D->aa
 | x :: xs,d :: ds=>ig (ah ρ x d) xs ds
 | _,_=>ρ
noncomputable def cO:Tg->D->aa->Option aa
 | .one x,d,ρ=>some (ah ρ x d)
 | .many xs,.tup ds,ρ=>if xs.length=ds.length then some (ig ρ xs ds) else none
 | _,_,_=>none
section
variable {prog:Program} {w:World} {A:Around} {E:Value->Shared->Prop} {env:Env} {ι:Type}
structure Storer (prog:Program) (w:World) (A:Around) (E:Value->Shared->Prop) (env:Env) (ok:Str->Prop) {ι:Type} (St:ι->aa->Shared->Prop) (V:ι->Shared->Value->D->Prop):Prop where
 store:∀i x v d ρ s (Q:Unit->Shared->Prop),ok x->St i ρ s->V i s v d->(∀i' s',St i' (ah ρ x d) s'->(∀v d,V i s v d->V i' s' v d)->Q () s')->wpAny (model prog w) A (storeName env x v) Q E s
 keep:∀i ρ s s',St i ρ s->Kp s s'->St i ρ s'∧∀v d,V i s v d->V i s' v d
theorem sS{env:Env}:∀ {es:List Expr} {xs:List Str},ie es=some xs->(assignEach es env).length=xs.length∧(assignEach es env).findIdx? (·.1)=none
 | [],xs,h=>by cases h;exact⟨rfl,rfl⟩
 | e :: r,xs,h=>by
  cases e with
  | Name x p=>
   simp only[ie] at h
   obtain⟨ys,hy,rfl⟩:=Option.map_eq_some_iff.mp h
   have ih:=sS (env:=env) hy
   constructor
   .show(assignEach r env).length+1=_
    rw[ih.1];rfl
   .show List.findIdx? (·.1) ((false,assign (.Name x p) env) :: assignEach r env)=none
    rw[List.findIdx?_cons]
    simp only[ih.2];rfl
  | _=>simp[ie] at h
theorem Storer.inOrder{ok:Str->Prop}{St:ι->aa->Shared->Prop}{V:ι->Shared->Value->D->Prop}(S:Storer prog w A E env ok St V):∀ {es:List Expr} {xs:List Str} {vs:List Value} {ds:List D} {i:ι} {ρ:aa} {s:Shared} {Q:Unit->Shared->Prop},
  ie es=some xs->(∀x∈xs,ok x)->xs.length=ds.length->vs.length=ds.length->(∀(j:Nat) v d,vs[j]? = some v->ds[j]? = some d->V i s v d)->St i ρ s->(∀i' s',St i' (ig ρ xs ds) s'->Q () s')->
  wpAny (model prog w) A (assignInOrder ((assignEach es env).map (·.2)) vs) Q E s
 | [],xs,vs,ds,i,ρ,s,Q,h,_,hl,hv,_,hs,hQ=>by
  cases h
  cases ds with
  | nil=>cases vs with
   | nil=>exact wpAny_pure (hQ i s hs)
   | cons _ _=>simp at hv
  | cons _ _=>simp at hl
 | e :: r,xs,vs,ds,i,ρ,s,Q,h,ho,hl,hv,hV,hs,hQ=>by
  cases e with
  | Name x p=>
   simp only[ie] at h
   obtain⟨ys,hy,rfl⟩:=Option.map_eq_some_iff.mp h
   cases ds with
   | nil=>simp at hl
   | cons d ds=>cases vs with
    | nil=>simp at hv
    | cons v vs=>
     show wpAny _ A (do holding vs (assign (.Name x p) env v);assignInOrder ((assignEach r env).map (·.2)) vs) Q E s
     refine wpAny_bind (wpAny_holding (wpAny_assign_Name ?_))
     refine S.store i x v d ρ s _ (ho x (.head _)) hs (hV 0 v d rfl rfl) fun i' s' hs' hk=>?_
     refine S.inOrder hy (fun y hy=>ho y (.tail _ hy)) (by simpa using hl) (by simpa using hv) (fun j v' d' e1 e2=>hk _ _ (hV (j+1) v' d' (by simpa using e1) (by simpa using e2))) hs' hQ
  | _=>simp[ie] at h
theorem Storer.assign{ok:Str->Prop}{St:ι->aa->Shared->Prop}{V:ι->Shared->Value->D->Prop}(S:Storer prog w A E env ok St V){target:Expr}{t:Tg}{i:ι}{ρ ρ':aa}{s:Shared}{v:Value}{d:D}{Q:Unit->Shared->Prop}(hh:A.handled=none)
  (ht:bV target=some t) (ho:∀x∈t.names,ok x) (hs:St i ρ s) (hv:V i s v d) (hb:cO t d ρ=some ρ')
  (hopen:∀ds,d=.tup ds->∃a vs n,v=.ref a∧s.heap.get? a=some (a8 vs n)∧vs.length=ds.length∧∀(j:Nat) v d,vs[j]? = some v->ds[j]? = some d->V i s v d)
  (hQ:∀i' s',St i' ρ' s'->Q () s'):wpAny (model prog w) A (PySem.assign target env v) Q E s:=by
 cases target with
 | Name x p=>
  cases ht
  cases hb
  exact wpAny_assign_Name (S.store i x v d ρ s _ (ho x (.head _)) hs hv fun i' s' hs' _=>hQ i' s' hs')
 | Tuple es k p=>
  obtain⟨xs,hx,rfl⟩:=Option.map_eq_some_iff.mp ht
  cases d with
  | tup ds=>
   simp only[cO] at hb
   split at hb
   .cases hb
    rename_i hlen
    obtain⟨a,vs,n,rfl,ha,hvl,hvv⟩:=hopen ds rfl
    have hne:=sS (env:=env) hx
    refine wpAny_assign_Tuple hh ⟨_,ha,rfl,n,rfl⟩ (by rw[hne.1];simp[hlen,hvl]) hne.2 fun h' he=>?_
    have kp:Kp s { s with heap:=h' }:=⟨h',s.toks,rfl,fun b o e=>he b o (Nat.ne_of_lt (Heap.lt_size e)) e⟩
    obtain⟨hs',hk⟩:=S.keep i ρ s _ hs kp
    exact S.inOrder hx ho hlen hvl (fun j v d e1 e2=>hk _ _ (hvv j v d e1 e2)) hs' hQ
   .cases hb
  | _=>simp[cO] at hb
 | _=>simp[bV] at ht
end
theorem Rp.open{h:Heap}{N:Addr->Prop}{v:Value}{d:D}{ds:List D}(r:Rp h N v d)(e:d=.tup ds):∃a vs n,v=.ref a∧h.get? a=some (a8 vs n)∧vs.length=ds.length∧∀(j:Nat) v d,vs[j]? = some v->ds[j]? = some d->Rp h N v d:=by
 subst e
 cases r with
 | tup ha rs=>
  refine⟨_,_,_,rfl,ha,rs.length,fun j v d e1 e2=>?_⟩
  obtain⟨d',e3,r'⟩:=rs.get' e1
  rw[e2] at e3;cases e3;exact r'
theorem iW{vs us:List Value}{n j:Nat}(h:some (aJ vs n)=some (a8 us j)):False:=by
 have:=congrArg (fun o:Option Obj=>o.map Obj.cls) h
 simp at this
theorem Rp.fm{G:ap}{s₀:Shared}{env:Env}{N:Addr->Prop}{α α':Str->Option Addr}{s s':Shared}{ρ:aa}{v:Value}{d:D}(a:Act G s₀ env N α s ρ)(f:Fm env α s α' s')(r:Rp s.heap (Nu N α) v d):Rp s'.heap (Nu N α') v d:=by
 obtain⟨m,cm,i,_⟩:=a.ex
 have nL:∀b us j,(s.heap.get? b=some (aJ us j)∨s.heap.get? b=some (a8 us j))->b≠env.locals∧∀x c,env.cells.lookup x=some c->b≠c:=fun b us j e=>by
  refine⟨fun q=>?_,fun x c hc q=>?_⟩
  .have:=fy i.toInCall.ns us j
   rw[q] at e;exact e.elim this.1 this.2
  .have:=jJ (i.cell x c hc) us j
   rw[q] at e;exact e.elim this.1 this.2
 refine r.change (fun b us j e=>(f b _ e ⟨(nL b us j (.inr e)).1,(nL b us j (.inr e)).2,fun x q=>?_⟩).1) fun b us j e hn=>?_
 .obtain⟨_,ws,k,h2⟩:=a.fresh x b q
  rw[h2] at e;exact iW e
 .obtain⟨e',fr⟩:=f b _ e ⟨(nL b us j (.inl e)).1,(nL b us j (.inl e)).2,fun x q=>hn (.inr ⟨x,q⟩)⟩
  exact⟨e',fun q=>q.elim (fun q=>hn (.inl q)) fun⟨x,q⟩=>fr.2.2 x q⟩
theorem Rps.fm{G:ap}{s₀:Shared}{env:Env}{N:Addr->Prop}{α α':Str->Option Addr}{s s':Shared}{ρ:aa}(a:Act G s₀ env N α s ρ)(f:Fm env α s α' s'):∀ {vs ds},Rps s.heap (Nu N α) vs ds->Rps s'.heap (Nu N α') vs ds
 | _,_,.nil=>.nil
 | _,_,.cons x r=>.cons (x.fm a f) (Rps.fm a f r)
theorem x0{G:ap}{prog:Program}{w:World}{A:Around}{E:Value->Shared->Prop}{env:Env}{s₀:Shared}{N:Addr->Prop}(α0:Str->Option Addr)(s1:Shared)(hk:env.scope.kind=.function):
  Storer prog w A E env (fun x=>env.kindOf x=some .local∨env.kindOf x=some .cell) (fun(α:Str->Option Addr) ρ s=>Act G s₀ env N α s ρ∧Fm env α0 s1 α s) (fun α s v d=>Rp s.heap (Nu N α) v d) where
 store:=fun α x v d ρ s Q hx ha hv hQ=>ha.1.store hk hx hv fun s' a' f'=>hQ _ s' ⟨a',ha.2.trans f'⟩ fun v d r=>r.fm ha.1 f'
 keep:=fun α ρ s s' ha k=>⟨⟨ha.1.keep k,ha.2.trans (Fm.kp k)⟩,fun v d r=>r.keep k.heap⟩
theorem Act.assign{G:ap}{prog:Program}{w:World}{A:Around}{E:Value->Shared->Prop}{env:Env}{s₀ s:Shared}{N:Addr->Prop}{α:Str->Option Addr}{ρ ρ':aa}{target:Expr}{t:Tg}{v:Value}{d:D}{Q:Unit->Shared->Prop}(a:Act G s₀ env N α s ρ)(hk:env.scope.kind=.function)(hh:A.handled=none)
  (ht:bV target=some t) (ho:∀x∈t.names,env.kindOf x=some .local∨env.kindOf x=some .cell) (r:Rp s.heap (Nu N α) v d) (hb:cO t d ρ=some ρ') (hQ:∀ α' s',Act G s₀ env N α' s' ρ'->Fm env α s α' s'->Q () s'):
  wpAny (model prog w) A (PySem.assign target env v) Q E s:=
 (x0 (G:=G) (s₀:=s₀) (N:=N) α s hk).assign hh ht ho ⟨a,Fm.refl _ _ _⟩ r hb (fun ds e=>r.open e) fun i' s' h=>hQ i' s' h.1 h.2
structure Wk (G:ap) (A:Around) (target:Expr) (I:Addr) (fp wr:List Addr) (vs:List Value) (ds0 ds:List D) (St:Nat->Heap->Prop):Prop where
 sub:∀b∈wr,b∈fp
 frame:∀i h h',St i h->(∀b∈fp,∀o,h.get? b=some o->h'.get? b=some o)->St i h'
 kind:∀i h,St i h->∀b∈wr,∀us j,h.get? b≠some (aJ us j)∧h.get? b≠some (a8 us j)
 kd:∀i h,St i h->∀b∈fp,∀o,h.get? b=some o->o.data≠.plain∧∀es n,o.data≠.dict es n
 exist:∀i h,St i h->∀b∈wr,∃o,h.get? b=some o
 item:∀i (s:Shared) (d:D) (N:Addr->Prop) (Q:Value->Shared->Prop) (R:Option Value->Shared->Prop) (E:Value->Shared->Prop),ds[i]? = some d->St i s.heap->Rps s.heap N vs ds0->Lo N s.heap->
  (∀v s1,wpAny (model G.prog G.w) A (letOwnedTupleGo target (.ref I) v) (fun _ s2=>Q v s2) E s1->R (some v) s1)->
  (∀v h' tk,St (i+1) h'->(∀b o,b ∉ wr->s.heap.get? b=some o->h'.get? b=some o)->Rp h' N v d->Q v { s with heap:=h',toks:=tk })->
  wpAny (model G.prog G.w) A (pyNext (.ref I)) R E s
 done:∀(s:Shared) (Q:Option Value->Shared->Prop) (E:Value->Shared->Prop),St ds.length s.heap->
  (∀h' tk,(∀b o,b ∉ wr->s.heap.get? b=some o->h'.get? b=some o)->Q none { s with heap:=h',toks:=tk })->wpAny (model G.prog G.w) A (pyNext (.ref I)) Q E s
 self:∀i (s:Shared) (Q:Value->Shared->Prop) (E:Value->Shared->Prop),St i s.heap->Q (.ref I) s->wpAny (model G.prog G.w) A (pyIter (.ref I)) Q E s
theorem Wk.off{G:ap}{A:Around}{target:Expr}{I:Addr}{fp wr:List Addr}{vs:List Value}{ds0 ds:List D}{St:Nat->Heap->Prop}(W:Wk G A target I fp wr vs ds0 ds St){i:Nat}{s₀ s:Shared}{env:Env}{N:Addr->Prop}{α:Str->Option Addr}{ρ:aa}(st:St i s.heap)(a:Act G s₀ env N α s ρ):
  ∀b d,ρ (ag b)=some d->b ∉ wr∧∀dx,b=dx+1->dx ∉ wr:=fun b d e=>by
 obtain⟨C,dx,hs,tk,n,v,eb,hm,hb,h1,h2,r⟩:=(a.bk b d e).1.ex
 refine⟨fun q=>(W.kd i _ st b (W.sub b q) _ h1).1 rfl,fun dx' e' q=>?_⟩
 have:dx'=dx:=Nat.add_right_cancel (e'.symm.trans eb)
 subst this
 exact(W.kd i _ st _ (W.sub _ q) _ h2).2 _ _ rfl
inductive pr (G:ap) (A:Around) (target:Expr) (fz:Bool) (N:Addr->Prop) (s:Shared) (ds:List D) (it:Value) (s2:Shared):Prop
 | mk (k:Kp s s2) (hz:ds.length≤sizeLine) (I:Addr) (fp wr:List Addr) (vs:List Value) (ds0:List D) (St:Nat->Heap->Prop) (e:it=.ref I) (W:Wk G A target I fp wr vs ds0 ds St) (st0:St 0 s2.heap) (rv:Rps s2.heap N vs ds0)
   (hwr:∀b∈wr,s.heap.get? b=none) (hfpo:∀b∈fp,∃o,s2.heap.get? b=some o) (hfp:∀b∈fp,s.heap.get? b=none∨(∃us j,s.heap.get? b=some (aJ us j)∧(fz=true->¬N b))∨∃us j,s.heap.get? b=some (a8 us j)):pr G A target fz N s ds it s2
noncomputable def SI(G:ap)(k:Nat)(sc:Scope)(fz:Bool)(target e:Expr)(m:aa->Option (List D)):Prop:=
 ∀A env N α s ρ ds,AOk A k->EOk sc env->Hk G.base s.heap->In G env N α s.heap ρ->m ρ=some ds->
  wpAny (model G.prog G.w) A (eval e env) (fun x s1=>wpAny (model G.prog G.w) A (pyIter x) (pr G A target fz (Nu N α) s ds) aQ s1) aQ s
noncomputable def bY(t:Tg)(mb:aa->Option Out):List D->aa->Option Out
 | [],ρ=>some (.next ρ)
 | d :: ds,ρ=>(cO t d ρ).bind fun ρ1=>(mb ρ1).bind fun o=>match o with
  | .next ρ'=>bY t mb ds ρ'
  | .cont ρ'=>bY t mb ds ρ'
  | .brk ρ'=>some (.next ρ')
  | .ret d=>some (.ret d)
  | .retF l=>some (.retF l)
theorem Act.swap{G:ap}{s₀:Shared}{env:Env}{N:Addr->Prop}{α:Str->Option Addr}{s:Shared}{ρ:aa}{h':Heap}{tk:Nat}{wr:List Addr}(a:Act G s₀ env N α s ρ)(k:∀b o,b ∉ wr->s.heap.get? b=some o->h'.get? b=some o)
  (hf:∀b∈wr,cW env α b) (h0:∀b∈wr,s₀.heap.get? b=none) (hs:∀b∈wr,∀us j,s.heap.get? b≠some (aJ us j)∧s.heap.get? b≠some (a8 us j)) (hw:∀b d,ρ (ag b)=some d->b ∉ wr∧∀dx,b=dx+1->dx ∉ wr):Act G s₀ env N α { s with heap:=h',toks:=tk } ρ:=by
 obtain⟨m,cm,i,hv⟩:=a.ex
 have kt:∀b us j,s.heap.get? b=some (a8 us j)->h'.get? b=some (a8 us j):=fun b us j e=>k b _ (fun q=>(hs b q us j).2 e) e
 have kl:∀b us j,s.heap.get? b=some (aJ us j)->h'.get? b=some (aJ us j):=fun b us j e=>k b _ (fun q=>(hs b q us j).1 e) e
 have hL:env.locals ∉ wr:=fun q=>(hf _ q).1 rfl
 obtain⟨h₁,t₁,e1⟩:=i.toInCall.same
 refine⟨⟨m,cm,⟨⟨⟨h',tk,by rw[e1]⟩,i.toInCall.ns.at' fun o e=>k _ o hL e,fun b o e=>k b o (fun q=>by rw[h0 b q] at e;cases e) (i.toInCall.keep b o e),i.toInCall.fresh⟩,fun n c hc=>?_,i.apart,i.above⟩,fun x d e hy=>?_⟩,a.lowN,fun x b e=>?_,a.inj,a.cells,fun b d e=>⟨(a.bk b d e).1.change kt (fun c us j e hn=>⟨kl c us j e,hn⟩) (fun o e' hp=>k b o (hw b d e).1 e') (fun dx o q e' hp=>k dx o ((hw b d e).2 dx q) e'),(a.bk b d e).2⟩,a.nb⟩
 .obtain⟨o,ho,hd⟩:=i.cell n c hc
  exact⟨o,k c o (fun q=>(hf _ q).2.1 n c hc rfl) ho,hd⟩
 .obtain⟨v,h1,h2⟩:=hv x d e hy
  refine⟨v,h1,?_⟩
  cases h2 with
  | clean r=>exact .clean (r.change kt fun b us j e hn=>⟨kl b us j e,hn⟩)
  | own e' hl r=>exact .own e' (kl _ _ _ hl) (r.change kt fun b us j e hn=>⟨kl b us j e,hn⟩)
 .obtain⟨h1,vs,n,h2⟩:=a.fresh x b e
  exact⟨h1,vs,n,kl _ _ _ h2⟩
section
variable {G:ap} {k:Nat} {sc:Scope}
theorem pu{s₀:Shared}{env:Env}{N:Addr->Prop}{α:Str->Option Addr}{s:Shared}{ρ:aa}{b:Addr}(a:Act G s₀ env N α s ρ)
  (h:s.heap.get? b=none∨(∃us j,s.heap.get? b=some (aJ us j)∧(true=true->¬Nu N α b))∨∃us j,s.heap.get? b=some (a8 us j)):cW env α b:=by
 obtain⟨m,cm,i,_⟩:=a.ex
 rcases h with h | ⟨us,j,h,hn⟩ | ⟨us,j,h⟩
 .refine⟨fun q=>?_,fun x c hc q=>?_,fun x q=>?_⟩
  .obtain⟨o,_,_,ho,_⟩:=i.toInCall.ns;rw[q] at h;rw[h] at ho;cases ho
  .obtain⟨o,ho,_⟩:=i.cell x c hc;rw[q] at h;rw[h] at ho;cases ho
  .obtain⟨_,vs,n,h2⟩:=a.fresh x b q;rw[h] at h2;cases h2
 .refine⟨fun q=>?_,fun x c hc q=>?_,fun x q=>hn rfl (.inr ⟨x,q⟩)⟩
  .have:=fy i.toInCall.ns us j;rw[q] at h;exact this.1 h
  .have:=jJ (i.cell x c hc) us j;rw[q] at h;exact this.1 h
 .refine⟨fun q=>?_,fun x c hc q=>?_,fun x q=>?_⟩
  .have:=fy i.toInCall.ns us j;rw[q] at h;exact this.2 h
  .have:=jJ (i.cell x c hc) us j;rw[q] at h;exact this.2 h
  .obtain⟨_,vs,n,h2⟩:=a.fresh x b q;rw[h] at h2;exact iW h2.symm
inductive sU (G:ap) (s₀:Shared) (env:Env) (N:Addr->Prop) (α:Str->Option Addr) (s2:Shared) (t:Tg) (mb:aa->Option Out) (ds ds0:List D) (vs:List Value) (fp wr:List Addr) (St:Nat->Heap->Prop) (o:Out) (n:Nat) (s':Shared):Prop
 | mk (i:Nat) (ρ':aa) (α':Str->Option Addr) (hin:i≤ds.length) (en:n=ds.length - i) (a':Act G s₀ env N α' s' ρ') (st':St i s'.heap) (rv':Rps s'.heap (Nu N α') vs ds0) (ff':∀b∈fp,cW env α' b∧∃o,s'.heap.get? b=some o)
   (fm':∀b o,b ∉ wr->s2.heap.get? b=some o->cW env α b->s'.heap.get? b=some o∧cW env α' b) (hm':bY t mb (ds.drop i) ρ'=some o):sU G s₀ env N α s2 t mb ds ds0 vs fp wr St o n s'
noncomputable def x3(o:Out)(ρ:aa):aa:=match o with | .next q=>q | .cont q=>q | .brk q=>q | .ret _=>ρ | .retF _=>ρ
theorem S1.for[NeZero k]{target iter:Expr}{t:Tg}{body:List Stmt}{pos:Pos}{mi:aa->Option (List D)}{mb:aa->Option Out}(ht:bV target=some t)(ho:∀x∈t.names,okStore sc x=true)(hfs:∀env x,foldedSetIterable iter env x=pure x)
  (hi:SI G k sc true target iter mi) (hb':SS G k sc body mb):S1 G k sc (.For target iter body [] pos) (fun ρ=>(mi ρ).bind fun ds=>bY t mb ds ρ):=by
 intro A env N α s₀ s ρ o hA hE hb ha hρ
 refine ao hρ fun ds eds hρ=>?_
 refine wpAny_For (wpAny_mono (hi A env N α s ρ ds hA hE (ha.hk hb) ha.in eds) (fun x s1 h1=>wpAny_mono h1 (fun it s2 h2=>?_) fun _ _ x=>x) fun _ _ x=>x) (hfs env)
 obtain⟨k₂,_,I,fp,wr,vs,ds0,St,rfl,W,st0,rv,hwr,hfpo,hfp⟩:=h2
 have ok:∀x∈t.names,env.kindOf x=some .local∨env.kindOf x=some .cell:=fun x hx=>okStore.ok hE (ho x hx)
 have fr0:∀b∈fp,cW env α b:=fun b hb=>pu ha (hfp b hb)
 have h0:∀b∈wr,s₀.heap.get? b=none:=fun b hb=>ha.kp.gone (hwr b hb)
 refine codeAny_forLoop_any (sU G s₀ env N α s2 t mb ds ds0 vs fp wr St o) (fun n s' hI=>?_) ds.length
   ⟨0,ρ,α,Nat.zero_le _,rfl,ha.keep k₂,st0,rv,fun b hb=>⟨fr0 b hb,hfpo b hb⟩,fun b o _ e f=>⟨e,f⟩,by simpa using hρ⟩
 obtain⟨i,ρ',α',hin,rfl,a',st',rv',ff',fm',hm'⟩:=hI
 by_cases hlt:i < ds.length
 .have hdi:ds[i]? = some ds[i]:=by simp[hlt]
  rw[List.drop_eq_getElem_cons hlt] at hm'
  simp only[bY] at hm'
  refine ao hm' fun ρ1 e1 hm'=>?_
  refine ao hm' fun o1 e2 hm'=>?_
  refine W.item i s' ds[i] (Nu N α') _ _ _ hdi st' rv' a'.in.low (fun v s1 h=>h) fun v h1 tk st1 hk1 rp=>?_
  .have a1:Act G s₀ env N α' { s' with heap:=h1,toks:=tk } ρ':=a'.swap hk1 (fun b hb=>(ff' b (W.sub b hb)).1) h0 (W.kind i _ st') (W.off st' a')
   refine a1.assign hE.kind' hA.no ht ok rp e1 fun α2 s5 a2 f2=>?_
   refine wpAny_mono (hb' A env N α2 s₀ s5 ρ1 o1 hA hE hb a2 e2) (fun fl s6 h₆=>?_) fun _ _ x=>x.elim
   have step:∀ α3 s₇,Fm env α2 s5 α3 s₇->Act G s₀ env N α3 s₇ (x3 o1 ρ1)->St (i+1) s₇.heap∧Rps s₇.heap (Nu N α3) vs ds0∧(∀b∈fp,cW env α3 b∧∃o,s₇.heap.get? b=some o)∧
     (∀b o,b ∉ wr->s2.heap.get? b=some o->cW env α b->s₇.heap.get? b=some o∧cW env α3 b):=fun α3 s₇ f3 a3=>by
    have f23:=f2.trans f3
    have hex:∀b∈fp,∃o,h1.get? b=some o:=fun b hb=>by
     by_cases q:b∈wr
     .exact W.exist _ _ st1 b q
     .obtain⟨o,ho⟩:=(ff' b hb).2;exact⟨o,hk1 b o q ho⟩
    refine⟨W.frame _ _ _ st1 fun b hb o e=>(f23 b o e (ff' b hb).1).1,?_,fun b hb=>?_,fun b o hb e f=>?_⟩
    .exact Rps.fm a1 f23 (rv'.change (fun b us j e=>hk1 b _ (fun q=>(W.kind i _ st' b q us j).2 e) e) fun b us j e hn=>⟨hk1 b _ (fun q=>(W.kind i _ st' b q us j).1 e) e,hn⟩)
    .obtain⟨o,ho⟩:=hex b hb
     obtain⟨e',f'⟩:=f23 b o ho (ff' b hb).1
     exact⟨f',o,e'⟩
    .obtain⟨e',f'⟩:=fm' b o hb e f
     exact f23 b o (hk1 b o hb e') f'
   cases o1 with
   | next q=>
    obtain⟨rfl,α3,a3,f3⟩:=h₆
    obtain⟨g1,g2,g3,g4⟩:=step α3 s6 f3 a3
    exact⟨_,(by omega:ds.length - (i+1) < ds.length - i),i+1,q,α3,hlt,rfl,a3,g1,g2,g3,g4,hm'⟩
   | cont q=>
    obtain⟨rfl,α3,a3,f3⟩:=h₆
    obtain⟨g1,g2,g3,g4⟩:=step α3 s6 f3 a3
    exact⟨_,(by omega:ds.length - (i+1) < ds.length - i),i+1,q,α3,hlt,rfl,a3,g1,g2,g3,g4,hm'⟩
   | brk q=>
    obtain⟨rfl,α3,a3,f3⟩:=h₆
    obtain⟨g1,g2,g3,g4⟩:=step α3 s6 f3 a3
    cases hm'
    exact⟨rfl,α3,a3,fun b o e f=>g4 b o (fun q=>by rw[hwr b q] at e;cases e) (k₂.heap b o e) f⟩
   | ret d=>cases hm';obtain⟨v',rfl,h6⟩:=h₆;exact⟨v',rfl,h6⟩
   | retF d=>cases hm';obtain⟨v',vs',n',rfl,h6⟩:=h₆;exact⟨v',vs',n',rfl,h6⟩
 .have hi':i=ds.length:=by omega
  subst hi'
  rw[List.drop_length] at hm'
  cases hm'
  refine W.done s' _ _ st' fun h1 tk hk1=>?_
  have a1:Act G s₀ env N α' { s' with heap:=h1,toks:=tk } ρ':=a'.swap hk1 (fun b hb=>(ff' b (W.sub b hb)).1) h0 (W.kind _ _ st') (W.off st' a')
  refine wpAny_execs_nil ⟨rfl,α',a1,fun b o e f=>?_⟩
  have hbw:b ∉ wr:=fun q=>by rw[hwr b q] at e;cases e
  obtain⟨e',f'⟩:=fm' b o hbw (k₂.heap b o e) f
  exact⟨hk1 b o hbw e',f'⟩
end
noncomputable def eE(c:aa->Option Bool)(mb:aa->Option Out):Nat->aa->Option Out
 | 0,_=>none
 | n+1,ρ=>(c ρ).bind fun b=>if b then(mb ρ).bind fun o=>match o with
   | .next ρ'=>eE c mb n ρ'
   | .cont ρ'=>eE c mb n ρ'
   | .brk ρ'=>some (.next ρ')
   | .ret d=>some (.ret d)
   | .retF l=>some (.retF l)
  else some (.next ρ)
section
variable {G:ap} {k:Nat} {sc:Scope}
theorem S1.while{test:Expr}{body:List Stmt}{pos:Pos}{c:aa->Option Bool}{mb:aa->Option Out}(n:Nat)(ht:ST G k sc test c)(hb':SS G k sc body mb):
  S1 G k sc (.While test body [] pos) (eE c mb n):=by
 intro A env N α s₀ s ρ o hA hE hb ha hρ
 refine wpAny_While ?_
 refine codeAny_whileLoop (fun n s'=>∃ ρ' α',Act G s₀ env N α' s' ρ'∧Fm env α s α' s'∧eE c mb n ρ'=some o) (fun n s' hI=>?_) n ⟨ρ,α,ha,Fm.refl _ _ _,hρ⟩
 obtain⟨ρ',α',a',f',hm'⟩:=hI
 cases n with
 | zero=>cases hm'
 | succ n=>
  simp only[eE] at hm'
  refine ao hm' fun b eb hm'=>?_
  refine wpAny_mono (ht A env N α' s' ρ' b hA hE (a'.hk hb) a'.in eb) (fun b' s1 h1=>?_) fun _ _ x=>x.elim
  obtain⟨rfl,k₁⟩:=h1
  cases b' with
  | false=>
   cases hm'
   exact wpAny_execs_nil ⟨rfl,α',a'.keep k₁,f'.trans (Fm.kp k₁)⟩
  | true=>
   simp only[if_true] at hm' ⊢
   refine ao hm' fun o1 e1 hm'=>?_
   refine wpAny_mono (hb' A env N α' s₀ s1 ρ' o1 hA hE hb (a'.keep k₁) e1) (fun fl s2 h2=>?_) fun _ _ x=>x.elim
   cases o1 with
   | next q=>obtain⟨rfl,α2,a2,f2⟩:=h2;exact⟨n,Nat.lt_succ_self _,q,α2,a2,(f'.trans (Fm.kp k₁)).trans f2,hm'⟩
   | cont q=>obtain⟨rfl,α2,a2,f2⟩:=h2;exact⟨n,Nat.lt_succ_self _,q,α2,a2,(f'.trans (Fm.kp k₁)).trans f2,hm'⟩
   | brk q=>cases hm';obtain⟨rfl,α2,a2,f2⟩:=h2;exact⟨rfl,α2,a2,(f'.trans (Fm.kp k₁)).trans f2⟩
   | ret d=>cases hm';obtain⟨v,rfl,h2⟩:=h2;exact⟨v,rfl,h2⟩
   | retF d=>cases hm';obtain⟨v,vs',n',rfl,h2⟩:=h2;exact⟨v,vs',n',rfl,h2⟩
theorem x4{h:Heap}{b:Addr}{o:Obj}{xs:Array Value}(ho:h.get? b=some o)(hd:o.data=.fields xs)(us:List Value)(j:Nat):h.get? b≠some (aJ us j)∧h.get? b≠some (a8 us j):=by
 constructor <;> (intro q;rw[ho] at q;have:=Option.some.inj q;subst this;cases hd)
theorem mT{A:Around}{target:Expr}{t:Tg}{I:Addr}{v:Value}{s:Shared}{o:Obj}{cls:String}{vs:Array Value}{E:Value->Shared->Prop}{Q:Unit->Shared->Prop}(ht:bV target=some t)(ho:s.heap.get? I=some o)(hc:o.cls=.type cls)(hd:o.data=.fields vs)
  (hn:(["enumerate","zip","dict_itemiterator","dict_reverseitemiterator","odict_iterator","itertools.zip_longest","itertools.pairwise"].contains cls)=false) (h:Q () s):wpAny (model G.prog G.w) A (letOwnedTupleGo target (.ref I) v) Q E s:=by
 cases target with
 | Name x p=>exact wpAny_pure h
 | Tuple es kd p=>
  unfold letOwnedTupleGo
  cases v with
  | ref a=>
   refine wpAny_bind (wpAny_load ho ?_)
   rw[hc,hd]
   simp only[hn,Bool.false_and]
   exact wpAny_pure h
  | _=>exact wpAny_pure h
 | _=>simp[bV] at ht
theorem Wk.list{A:Around}{target:Expr}{t:Tg}(hh:A.handled=none)(ht:bV target=some t)(I ax:Addr)(hne:ax≠I)(vs:List Value)(ds:List D)(hl:vs.length=ds.length):
  Wk G A target I [I,ax] [I] vs ds ds (fun i h=>h.IsListIter I ax i∧∃n,h.get? ax=some (aJ vs n)) where
 sub:=fun b hb=>by simp at hb;simp[hb]
 frame:=fun _ _ _ st hk=>⟨st.1.at fun o e=>hk I (by simp) o e,let ⟨n,q⟩:=st.2;⟨n,hk ax (by simp) _ q⟩⟩
 kind:=fun i h st b hb us j=>by
  simp at hb;subst hb
  obtain⟨o,ho,hc,hd⟩:=st.1
  constructor <;> (intro q;rw[ho] at q;cases q;cases hd)
 kd:=fun i h st b hb o e=>by
  simp at hb
  rcases hb with rfl | rfl
  .obtain⟨o',ho,hc,hd⟩:=st.1
   rw[ho] at e;cases e;rw[hd]
   exact⟨fun q=>(by cases q),fun _ _ q=>(by cases q)⟩
  .obtain⟨n,q⟩:=st.2
   rw[q] at e;cases e
   exact⟨fun q=>(by cases q),fun _ _ q=>(by cases q)⟩
 exist:=fun i h st b hb=>by simp at hb;subst hb;obtain⟨o,ho,_⟩:=st.1;exact⟨o,ho⟩
 item:=fun i s d N Q R E hi st rv lo hR hQ=>by
  obtain⟨n,hax⟩:=st.2
  obtain⟨v,hv,rp⟩:=rv.get hi
  refine wpAny_pyNext_list_item st.1 ⟨_,hax,rfl,n,rfl⟩ (x:=v) (by simpa using hv) fun h' hit' hs'=>?_
  refine hR v _ ?_
  have keep:∀b o,b ∉ [I]->s.heap.get? b=some o->h'.get? b=some o:=fun b o hb e=>hs'.extBut b o (fun q=>hb (by simp[q])) e
  obtain⟨o,ho,hc,hd⟩:=id hit'
  refine mT ht ho hc hd (by decide) (hQ v h' s.toks ⟨hit',n,keep ax _ (by simp[hne]) hax⟩ keep ?_)
  obtain⟨o1,ho1,hc1,hd1⟩:=st.1
  have nI:∀us j,s.heap.get? I≠some (aJ us j)∧s.heap.get? I≠some (a8 us j):=fun us j=>by constructor <;> (intro q;rw[ho1] at q;cases q;cases hd1)
  exact lr rp (fun b hb=>hs'.2 b hb) nI
 done:=fun s Q E st hQ=>by
  obtain⟨n,hax⟩:=st.2
  exact wpAny_pyNext_list_end hh st.1 ⟨_,hax,rfl,n,rfl⟩ (by simp[hl]) fun h' he'=>hQ h' s.toks fun b o hb e=>he' b o (fun h=>hb (by simp[h])) e
 self:=fun _ _ _ _ st hQ=>wpAny_pyIter_listiter st.1 hQ
theorem Wk.tuple{A:Around}{target:Expr}{t:Tg}(hh:A.handled=none)(ht:bV target=some t)(I ax:Addr)(hne:ax≠I)(vs:List Value)(ds:List D)(hl:vs.length=ds.length):
  Wk G A target I [I,ax] [I] vs ds ds (fun i h=>h.IsTupleIter I ax i∧∃n,h.get? ax=some (a8 vs n)) where
 sub:=fun b hb=>by simp at hb;simp[hb]
 frame:=fun _ _ _ st hk=>⟨st.1.at fun o e=>hk I (by simp) o e,let ⟨n,q⟩:=st.2;⟨n,hk ax (by simp) _ q⟩⟩
 kind:=fun i h st b hb us j=>by
  simp at hb;subst hb
  obtain⟨o,ho,hc,hd⟩:=st.1
  constructor <;> (intro q;rw[ho] at q;cases q;cases hd)
 kd:=fun i h st b hb o e=>by
  simp at hb
  rcases hb with rfl | rfl
  .obtain⟨o',ho,hc,hd⟩:=st.1
   rw[ho] at e;cases e;rw[hd]
   exact⟨fun q=>(by cases q),fun _ _ q=>(by cases q)⟩
  .obtain⟨n,q⟩:=st.2
   rw[q] at e;cases e
   exact⟨fun q=>(by cases q),fun _ _ q=>(by cases q)⟩
 exist:=fun i h st b hb=>by simp at hb;subst hb;obtain⟨o,ho,_⟩:=st.1;exact⟨o,ho⟩
 item:=fun i s d N Q R E hi st rv lo hR hQ=>by
  obtain⟨n,hax⟩:=st.2
  obtain⟨v,hv,rp⟩:=rv.get hi
  refine wpAny_pyNext_tuple_item st.1 ⟨_,hax,rfl,n,rfl⟩ (x:=v) (by simpa using hv) fun h' hit' hs'=>?_
  refine hR v _ ?_
  have keep:∀b o,b ∉ [I]->s.heap.get? b=some o->h'.get? b=some o:=fun b o hb e=>hs'.extBut b o (fun q=>hb (by simp[q])) e
  obtain⟨o,ho,hc,hd⟩:=id hit'
  refine mT ht ho hc hd (by decide) (hQ v h' s.toks ⟨hit',n,keep ax _ (by simp[hne]) hax⟩ keep ?_)
  obtain⟨o1,ho1,hc1,hd1⟩:=st.1
  have nI:∀us j,s.heap.get? I≠some (aJ us j)∧s.heap.get? I≠some (a8 us j):=fun us j=>by constructor <;> (intro q;rw[ho1] at q;cases q;cases hd1)
  exact lr rp (fun b hb=>hs'.2 b hb) nI
 done:=fun s Q E st hQ=>by
  obtain⟨n,hax⟩:=st.2
  exact wpAny_pyNext_tuple_end hh st.1 ⟨_,hax,rfl,n,rfl⟩ (by simp[hl]) fun h' he'=>hQ h' s.toks fun b o hb e=>he' b o (fun h=>hb (by simp[h])) e
 self:=fun _ _ _ _ st hQ=>wpAny_pyIter_tupleiter st.1 hQ
noncomputable def ca(a:Int)(n:Nat):List D:=(List.range n).map fun(i:Nat)=>D.int (a+(i:Int))
theorem Wk.range{A:Around}{target:Expr}{t:Tg}(hh:A.handled=none)(ht:bV target=some t)(I:Addr)(a:Int)(n:Nat):
  Wk G A target I [I] [I] [] [] (ca a n) (fun i h=>IsRangeIter h I (a+(i:Nat)*1) ((n:Int) - (i:Nat)) 1) where
 sub:=fun _ hb=>hb
 frame:=fun _ _ _ st hk=>hk I (by simp) _ st
 kind:=fun i h st b hb us j=>by
  simp at hb;subst hb
  exact x4 st rfl us j
 kd:=fun i h st b hb o e=>by
  simp at hb;subst hb
  have st':h.get? b=_:=st
  rw[st'] at e;cases e
  exact⟨fun q=>(by cases q),fun _ _ q=>(by cases q)⟩
 exist:=fun i h st b hb=>by simp at hb;subst hb;exact⟨_,st⟩
 item:=fun i s d N Q R E hi st rv lo hR hQ=>by
  have hlt:i < n:=by
   have:=(List.getElem?_eq_some_iff.mp hi).1
   simpa [ca] using this
  have hd:d=.int (a+(i:Int)):=by
   simp[ca,hlt] at hi;exact hi.symm
  subst hd
  refine wpAny_pyNext_range_item st (by omega) fun h' hit' hs'=>?_
  refine hR _ _ ?_
  have keep:∀b o,b ∉ [I]->s.heap.get? b=some o->h'.get? b=some o:=fun b o hb e=>hs'.extBut b o (fun q=>hb (by simp[q])) e
  have e1:a+((i+1:Nat):Int)*1=a+(i:Int)*1+1:=by push_cast;omega
  have e2:(n:Int) - ((i+1:Nat):Int)=(n:Int) - (i:Int) - 1:=by push_cast;omega
  refine mT ht hit' rfl rfl (by decide) (hQ _ h' _ (by rw[e1,e2];exact hit') keep ?_)
  rw[Int.mul_one];exact .int _ _
 done:=fun s Q E st hQ=>by
  have:(ca a n).length=n:=by simp[ca]
  rw[this] at st
  exact wpAny_pyNext_range_end hh st (by omega) fun h' he'=>hQ h' s.toks fun b o hb e=>he' b o (fun h=>hb (by simp[h])) e
 self:=fun _ _ _ _ st hQ=>wpAny_pyIter_rangeiter st hQ
noncomputable def fB(fz:Bool):D->Option (List D)
 | .list l=>some l
 | .own l=>if fz then none else some l
 | _=>none
theorem SI.list[NeZero k]{fz:Bool}{target e:Expr}{t:Tg}{m:aa->Option D}(ht:bV target=some t)(h:SE G k sc e m):SI G k sc fz target e (fun ρ=>(m ρ).bind fun d=>(fB fz d).bind fun l=>if l.length≤16777216 then some l else none):=by
 intro A env N α s ρ ds hA hE hb hi hρ
 refine ao hρ fun d ed hρ=>?_
 refine ao hρ fun l el hρ=>?_
 split at hρ
 .cases hρ
  rename_i hz
  refine wpAny_mono (h A env N α s ρ d hA hE hb hi ed) (fun v s1 h1=>?_) fun _ _ x=>x
  obtain⟨k₁,rt⟩:=h1
  have it:d.items? = some ds:=by cases d <;> simp[fB] at el <;> simp[D.items?,el]
  obtain⟨a,vs,n,rfl,ha,rs⟩:=rt.items it
  refine wpAny_pyIter_list ⟨_,ha,rfl,n,rfl⟩ ?_
  have hne:a≠s1.heap.objs.size:=Nat.ne_of_lt (Heap.lt_size ha)
  have kp:∀b o,s1.heap.get? b=some o->(s1.heap.push { cls:=.type "list_iterator",data:=.fields #[.ref a,.int 0 0] }).get? b=some o:=fun b o e=>Heap.get?_push_of_some _ e
  refine⟨k₁.trans (Kp.push s1 _),by rw[sizeLine_eq];exact hz,_,_,_,_,_,_,rfl,Wk.list hA.no ht s1.heap.objs.size a hne vs ds rs.length,⟨⟨_,Heap.get?_push_size _ rfl,rfl,rfl⟩,n,kp _ _ ha⟩,rs.keep kp,fun b hb=>?_,fun b hb=>?_,fun b hb=>?_⟩
  .simp at hb;subst hb;exact k₁.gone (b4 _)
  .simp at hb
   rcases hb with rfl | rfl
   .exact⟨_,Heap.get?_push_size _ rfl⟩
   .exact⟨_,kp _ _ ha⟩
  .simp at hb
   rcases hb with rfl | rfl
   .exact .inl (k₁.gone (b4 _))
   .cases hs:s.heap.get? b with
    | none=>exact .inl rfl
    | some o=>
     have:=k₁.heap _ _ hs
     rw[ha] at this
     cases this
     refine .inr (.inl ⟨vs,n,rfl,fun q=>?_⟩)
     cases rt with
     | clean r=>cases r with
      | list _ hn _=>exact hn
      | tup _ _=>simp[fB] at el
      | ref _=>simp[fB] at el
     | own _ _=>simp[fB,q] at el
 .cases hρ
theorem SI.tup[NeZero k]{fz:Bool}{target e:Expr}{t:Tg}{m:aa->Option D}(ht:bV target=some t)(h:SE G k sc e m):SI G k sc fz target e (fun ρ=>(m ρ).bind fun d=>match d with | .tup l=>if l.length≤16777216 then some l else none | _=>none):=by
 intro A env N α s ρ ds hA hE hb hi hρ
 refine ao hρ fun d ed hρ=>?_
 split at hρ
 .split at hρ
  .cases hρ
   rename_i hz
   refine wpAny_mono (h A env N α s ρ _ hA hE hb hi ed) (fun v s1 h1=>?_) fun _ _ x=>x
   obtain⟨k₁,rt⟩:=h1
   cases rt with
   | clean r=>
    cases r with
    | tup ha rs=>
     rename_i a vs n
     refine wpAny_pyIter_tuple ⟨_,ha,rfl,n,rfl⟩ ?_
     have hne:a≠s1.heap.objs.size:=Nat.ne_of_lt (Heap.lt_size ha)
     have kp:∀b o,s1.heap.get? b=some o->(s1.heap.push { cls:=.type "tuple_iterator",data:=.fields #[.ref a,.int 0 0] }).get? b=some o:=fun b o e=>Heap.get?_push_of_some _ e
     refine⟨k₁.trans (Kp.push s1 _),by rw[sizeLine_eq];exact hz,_,_,_,_,_,_,rfl,Wk.tuple hA.no ht s1.heap.objs.size a hne vs _ rs.length,⟨⟨_,Heap.get?_push_size _ rfl,rfl,rfl⟩,n,kp _ _ ha⟩,rs.keep kp,fun b hb=>?_,fun b hb=>?_,fun b hb=>?_⟩
     .simp at hb;subst hb;exact k₁.gone (b4 _)
     .simp at hb
      rcases hb with rfl | rfl
      .exact⟨_,Heap.get?_push_size _ rfl⟩
      .exact⟨_,kp _ _ ha⟩
     .simp at hb
      rcases hb with rfl | rfl
      .exact .inl (k₁.gone (b4 _))
      .cases hs:s.heap.get? b with
       | none=>exact .inl rfl
       | some o=>
        have:=k₁.heap _ _ hs
        rw[ha] at this
        cases this
        exact .inr (.inr ⟨vs,n,rfl⟩)
  .cases hρ
 .cases hρ
end
theorem x5{cs cl:List (Str × Addr)}{x:Str}(h:∀p∈cl,cs.lookup p.1=some p.2)(hx:∃c,(x,c)∈cl):cl.lookup x=cs.lookup x:=by
 induction cl with
 | nil=>obtain⟨c,hc⟩:=hx;cases hc
 | cons p r ih=>
  obtain⟨y,c⟩:=p
  rw[List.lookup_cons]
  by_cases q:x=y
  .subst q;simp only[beq_self_eq_true];exact(h (x,c) (.head _)).symm
  .have:(x==y)=false:=beq_eq_false_iff_ne.mpr q
   rw[this]
   refine ih (fun p hp=>h p (.tail _ hp)) ?_
   obtain⟨c',hc'⟩:=hx
   rcases List.mem_cons.mp hc' with e | e
   .cases e;exact absurd rfl q
   .exact⟨c',e⟩
theorem pv{env:Env}(f:Str × NameKind->List (Str × Addr)->Sem (ForInStep (List (Str × Addr))))
  (hf:∀name kind cs,f (name,kind) cs=if kind==.free then(do let a ← cellOf env name;pure (.yield ((name,a) :: cs))) else pure (.yield cs)):
  ∀(names:List (Str × NameKind)) (acc:List (Str × Addr)),(∀p∈names,p.2=.free->(env.cells.lookup p.1).isSome=true)->(∀p∈acc,env.cells.lookup p.1=some p.2)->
   ∃cl,forIn names acc f=pure cl∧(∀p∈cl,env.cells.lookup p.1=some p.2)∧(∀p∈names,p.2=.free->∃c,(p.1,c)∈cl)∧∀p∈acc,p∈cl
 | [],acc,_,ha=>⟨acc,by rw[List.forIn_nil],ha,fun _ h=>(nomatch h),fun _ h=>h⟩
 | (name,kind) :: r,acc,hc,ha=>by
  by_cases hk:kind=.free
  .subst hk
   obtain⟨c,hcl⟩:=Option.isSome_iff_exists.mp (hc (name,.free) (.head _) rfl)
   obtain⟨cl,e,h1,h2,h3⟩:=pv f hf r ((name,c) :: acc) (fun p hp=>hc p (.tail _ hp)) (fun p hp=>by
    rcases List.mem_cons.mp hp with q | q
    .rw[q];exact hcl
    .exact ha p q)
   refine⟨cl,?_,h1,fun p hp q=>?_,fun p hp=>h3 p (.tail _ hp)⟩
   .rw[List.forIn_cons,hf]
    simp only[beq_self_eq_true,if_true]
    have:cellOf env name=pure c:=by unfold cellOf;rw[hcl]
    rw[this]
    exact e
   .rcases List.mem_cons.mp hp with q' | q'
    .subst q';exact⟨c,h3 _ (.head _)⟩
    .exact h2 p q' q
  .obtain⟨cl,e,h1,h2,h3⟩:=pv f hf r acc (fun p hp=>hc p (.tail _ hp)) ha
   refine⟨cl,?_,h1,fun p hp q=>?_,h3⟩
   .rw[List.forIn_cons,hf]
    have:(kind==NameKind.free)=false:=by simpa using hk
    simp only[this,Bool.false_eq_true,if_false]
    exact e
   .rcases List.mem_cons.mp hp with q' | q'
    .subst q';exact absurd q hk
    .exact h2 p q' q
theorem x6{scope:Scope}{env:Env}(h:∀p∈scope.names,p.2=.free->(env.cells.lookup p.1).isSome=true):
  ∃cl,closureFor scope env=pure cl∧∀x,scope.names.lookup x=some .free->cl.lookup x=env.cells.lookup x:=by
 obtain⟨cl,e,h1,h2,_⟩:=pv (env:=env) (fun x cs=>if x.2==.free then(do let a ← cellOf env x.1;pure (.yield ((x.1,a) :: cs))) else pure (.yield cs)) (fun _ _ _=>rfl) scope.names [] h (fun _ h=>(nomatch h))
 refine⟨cl,?_,fun x hx=>x5 h1 (h2 (x,.free) (mem_of_lookup hx) rfl)⟩
 unfold closureFor
 have:(forIn scope.names [] fun(x:Str × NameKind) (cs:List (Str × Addr))=>(match x with | (name,kind)=>if (kind==NameKind.free)=true then(do let a ← cellOf env name;pure (ForInStep.yield ((name,a) :: cs))) else pure (ForInStep.yield cs):Sem (ForInStep (List (Str × Addr)))))=pure cl:=e
 first
  | (rw[this];rfl)
  | (simp only[this];rfl)
  | exact(by simpa using congrArg (fun t=>t >>= fun cs=>(pure cs:Sem (List (Str × Addr)))) this)
noncomputable def dZ(scope sc:Scope):Scope:=
 { scope with names:=scope.names.map fun(n,k)=>if (k==.free&&sc.kind==.function&&sc.names.lookup n==some .cell) then(n,.cell) else(n,k) }
theorem sV{scope sc:Scope}{env:Env}(hE:EOk sc env):relabel scope env=dZ scope sc:=by
 unfold relabel dZ
 simp only[hE.scope,hE.kindOf]
theorem sY{sc:Scope}{x:Str}:∀(names:List (Str × NameKind)),(names.map fun(n,k)=>if (k==NameKind.free&&sc.kind==.function&&sc.names.lookup n==some .cell) then(n,NameKind.cell) else(n,k)).lookup x=
  (names.lookup x).map fun k=>if (k==NameKind.free&&sc.kind==.function&&sc.names.lookup x==some .cell) then NameKind.cell else k
 | []=>rfl
 | (n,k) :: r=>by
  have ih:=sY (sc:=sc) (x:=x) r
  rw[List.map_cons,List.lookup_cons]
  by_cases q:x=n
  .subst q
   by_cases hc:(k==NameKind.free&&sc.kind==.function&&sc.names.lookup x==some .cell)=true
   .simp only[hc,if_true,List.lookup_cons,beq_self_eq_true,Option.map_some]
   .simp only[hc,Bool.false_eq_true,if_false,List.lookup_cons,beq_self_eq_true,Option.map_some]
  .have:(x==n)=false:=beq_eq_false_iff_ne.mpr q
   by_cases hc:(k==NameKind.free&&sc.kind==.function&&sc.names.lookup n==some .cell)=true
   .simp only[hc,if_true,List.lookup_cons,this];exact ih
   .simp only[hc,Bool.false_eq_true,if_false,List.lookup_cons,this];exact ih
structure mU (sc scope:Scope) (t:Tg):Prop where
 kind:scope.kind=.function
 cell:∀p∈scope.names,p.2≠.cell
 names:∀p∈scope.names,p.2=.local->scope.names.lookup p.1=some .local
 free:∀p∈scope.names,p.2=.free->sc.names.lookup p.1=some .cell∨sc.names.lookup p.1=some .free
 tg:∀x∈t.names,scope.names.lookup x=some .local
 all:∀x,scope.names.lookup x=some .local->x∈t.names∨x=ic
 nb:∀x∈t.names,aU x=false
noncomputable def iX(sc scope:Scope)(t:Tg):Bool:=
 scope.kind==.function&&scope.names.all (fun p=>p.2 != .cell&&(p.2 != .local||(scope.names.lookup p.1==some .local&&(t.names.contains p.1||p.1==ic)))&&(p.2 != .free||sc.names.lookup p.1==some .cell||sc.names.lookup p.1==some .free))&&t.names.all (fun x=>scope.names.lookup x==some .local)&&t.names.all (fun x=>!aU x)
theorem sZ{sc scope:Scope}{t:Tg}(h:iX sc scope t=true):mU sc scope t:=by
 simp only[iX,Bool.and_eq_true,beq_iff_eq,List.all_eq_true,bne_iff_ne,ne_eq,Bool.or_eq_true,List.contains_iff_mem] at h
 obtain⟨⟨⟨h1,h2⟩,h3⟩,h4⟩:=h
 refine⟨h1,fun p hp=>(h2 p hp).1.1,fun p hp q=>?_,fun p hp q=>?_,h3,fun x hx=>?_,fun x hx=>by simpa using h4 x hx⟩
 .rcases(h2 p hp).1.2 with r | r
  .exact absurd q r
  .exact r.1
 .rcases(h2 p hp).2 with (r | r) | r
  .exact absurd q r
  .exact .inl r
  .exact .inr r
 .rcases(h2 _ (mem_of_lookup hx)).1.2 with r | r
  .exact absurd rfl r
  .exact r.2
theorem In.comp{G:ap}{sc scope:Scope}{t:Tg}{env:Env}{N:Addr->Prop}{α:Str->Option Addr}{h:Heap}{ρ ρ':aa}{cl:List (Str × Addr)}{C:Addr}{m:Str->Option Value}(hE:EOk sc env)(hS:mU sc scope t)(i:In G env N α h ρ)(hcl:∀x,scope.names.lookup x=some .free->cl.lookup x=env.cells.lookup x)
  (hn:h.Ns C m) (hv:∀x d,ρ' x=some d->scope.names.lookup x=some .local->x≠ic->∃v,m x=some v∧Rp h (Nu N α) v d) (ho:∀x,scope.names.lookup x≠some .local->ρ' x=ρ x):In G (compEnvC scope cl C env) N α h ρ':=by
 have hk:∀x,(compEnvC scope cl C env).kindOf x=(scope.names.lookup x).map fun k=>if (k==NameKind.free&&sc.kind==.function&&sc.names.lookup x==some .cell) then NameKind.cell else k:=fun x=>by
  show(relabel scope env).names.lookup x=_
  rw[sV hE];exact sY _
 have hfree:∀x,lq ((compEnvC scope cl C env).kindOf x)=true->scope.names.lookup x=some .local∨scope.names.lookup x=some .free:=fun x hx=>by
  rw[hk] at hx
  cases e:scope.names.lookup x with
  | none=>rw[e] at hx;cases hx
  | some kd=>
   rw[e] at hx
   cases kd with
   | «local»=>exact .inl rfl
   | free=>exact .inr rfl
   | cell=>exact absurd rfl (hS.cell _ (mem_of_lookup e))
   | _=>cases hx
 have hf2:∀x,scope.names.lookup x=some .free->env.kindOf x=some .cell∨env.kindOf x=some .free:=fun x hx=>by rw[hE.kindOf];exact hS.free _ (mem_of_lookup hx) rfl
 obtain⟨mo,hmo,hvo⟩:=i.ns
 have hbk:∀b,scope.names.lookup (ag b)≠some .local:=fun b q=>by
  rcases hS.all _ q with r | r
  .have:=hS.nb _ r;rw[dH] at this;cases this
  .have:aU ic=true:=r ▸ dH
   revert this;decide +kernel
 refine⟨i.low,fun x hx=>?_,⟨m,hn,fun x d e hx hz hy=>?_⟩,fun b d e=>i.bk b d ((ho _ (hbk b)).symm.trans e)⟩
 .have hx':lq ((compEnvC scope cl C env).kindOf x)=true:=by rcases hx with q | q <;> (rw[q];rfl)
  rcases hfree x hx' with q | q
  .rw[hk,q] at hx
   rcases hx with hx | hx <;> simp at hx
  .show(cl.lookup x).isSome=true
   rw[hcl x q];exact i.cells x (hf2 x q)
 .rcases hfree x hx with q | q
  .obtain⟨v,h1,h2⟩:=hv x d e q hz
   refine⟨v,?_,.clean h2⟩
   unfold VarIs
   rw[hk,q]
   exact h1
  .have e':ρ x=some d:=by rw[← ho x (by rw[q];decide)];exact e
   obtain⟨v,h1,h2⟩:=hvo x d e' (by rcases hf2 x q with r | r <;> (rw[r];rfl)) hz hy
   refine⟨v,?_,h2⟩
   have h1':∃c,env.cells.lookup x=some c∧h.IsCell c (some v):=by
    unfold VarIs at h1
    rcases hf2 x q with r | r <;> (rw[r] at h1;exact h1)
   obtain⟨c,hc,hcv⟩:=h1'
   have hc':(compEnvC scope cl C env).cells.lookup x=some c:=by show cl.lookup x=some c;rw[hcl x q];exact hc
   unfold VarIs
   rw[hk,q]
   simp only[Option.map_some]
   by_cases hcc:(NameKind.free==NameKind.free&&sc.kind==.function&&sc.names.lookup x==some .cell)=true
   .rw[if_pos hcc];exact⟨c,hc',hcv⟩
   .rw[if_neg hcc];exact⟨c,hc',hcv⟩
theorem s7:∀ {xs:List Str} {ds:List D} {ρ ρ0:aa},(∀x,x ∉ xs->ρ x=ρ0 x)->xs.length=ds.length->ig ρ xs ds=ig ρ0 xs ds
 | [],[],ρ,ρ0,h,_=>funext fun x=>h x (by simp)
 | [],_ :: _,_,_,_,hl=>by simp at hl
 | _ :: _,[],_,_,_,hl=>by simp at hl
 | x :: xs,d :: ds,ρ,ρ0,h,hl=>by
  simp only[ig]
  refine s7 (fun y hy=>?_) (by simpa using hl)
  unfold ah
  by_cases q:y=x
  .simp[q]
  .simp only[if_neg q];exact h y (by simp[q,hy])
theorem x7{t:Tg}{d:D}{ρ ρ0 ρ':aa}(h:∀x,x ∉ t.names->ρ x=ρ0 x)(e:cO t d ρ=some ρ'):cO t d ρ0=some ρ':=by
 cases t with
 | one x=>
  simp only[cO] at e ⊢
  cases e
  congr 1
  funext y
  unfold ah
  by_cases q:y=x
  .simp[q]
  .simp only[if_neg q];exact(h y (by simp[Tg.names,q])).symm
 | many xs=>
  cases d with
  | tup ds=>
   simp only[cO] at e ⊢
   split at e
   .rename_i hl
    cases e
    rw[if_pos hl];exact congrArg some (s7 (xs:=xs) (fun x hx=>(h x hx).symm) hl)
   .cases e
  | _=>simp[cO] at e
theorem In.grow{G:ap}{env:Env}{N:Addr->Prop}{α:Str->Option Addr}{h h':Heap}{ρ:aa}{a:Addr}(i:In G env N α h ρ)(hn:h.get? a=none)(k:∀b o,h.get? b=some o->h'.get? b=some o)(he:∃o,h'.get? a=some o):In G env (ch N a) α h' ρ:=by
 obtain⟨m,hm,hv⟩:=i.ns
 have kl:∀b vs n,h.get? b=some (aJ vs n)->¬Nu N α b->h'.get? b=some (aJ vs n)∧¬Nu (ch N a) α b:=fun b vs n e hb=>⟨k b _ e,fun q=>by
  rcases q with (q | q) | q
  .exact hb (.inl q)
  .rw[q,hn] at e;cases e
  .exact hb (.inr q)⟩
 refine⟨fun b hb=>?_,i.cells,⟨m,hm.keeps k,fun x d e hx hz hy=>?_⟩,fun b d e=>(i.bk b d e).change (fun c _ _ e=>k c _ e) kl (fun _ e _=>k _ _ e) fun _ _ _ e _=>k _ _ e⟩
 .rcases hb with (q | q) | q
  .obtain⟨o,ho⟩:=i.low b (.inl q);exact⟨o,k b o ho⟩
  .rw[q];exact he
  .obtain⟨o,ho⟩:=i.low b (.inr q);exact⟨o,k b o ho⟩
 .obtain⟨v,h1,h2⟩:=hv x d e hx hz hy
  refine⟨v,h1.keep k,?_⟩
  cases h2 with
  | clean r=>exact .clean (r.change (fun b _ _ e=>k b _ e) kl)
  | own e' hl r=>exact .own e' (k _ _ hl) (r.change (fun b _ _ e=>k b _ e) kl)
noncomputable def cX(t:Tg)(mc:aa->Option Bool)(me:aa->Option D):List D->aa->Option (List D)
 | [],_=>some []
 | d :: ds,ρ=>(cO t d ρ).bind fun ρ1=>(mc ρ1).bind fun b=>
   if b then(me ρ1).bind fun y=>if y.clean then(cX t mc me ds ρ).map (y :: ·) else none else cX t mc me ds ρ
section
variable {G:ap} {k:Nat} {sc:Scope}
theorem x8{A:Around}{elt target iter:Expr}{ifs:List Expr}{scope:Scope}{pos:Pos}{it acc:Value}{env:Env}{R:Result->Shared->Prop}{s:Shared}(I:Nat->Shared->Prop)
  (turn:∀n s,I n s->wpAny (model G.prog G.w) A (pyNext it) (fun r s1=>match r with
   | none=>R (.ok .next) s1
   | some v=>wpAny (model G.prog G.w) A (letOwnedTupleGo target it v) (fun _ s1'=>wpAny (model G.prog G.w) A (assign target env v) (fun _ s2=>
     wpAny (model G.prog G.w) A (forIn ifs true fun c r=>if r=true then do let ok ← isTrue c env (eval c env);pure (ForInStep.yield ok) else pure (ForInStep.yield r)) (fun ok s3=>
      if ok=true then wpAny (model G.prog G.w) A (eval elt env) (fun x s4=>
       wpAny (model G.prog G.w) A (call (.builtin "list.append") [acc,x]) (fun _ s5=>∃m,m < n∧I m s5) aQ s4) aQ s3
      else ∃m,m < n∧I m s3) aQ s2) aQ s1') aQ s1) aQ s)
  (n:Nat) (h:I n s):codeAny (model G.prog G.w) A (.compLoop (.ListComp elt [⟨target,iter,ifs,0⟩] scope pos) 0 it acc env) R s:=by
 refine codeAny_loop rfl I (fun n s hI=>?_) n h
 show wpAny _ A ((compTurn (.ListComp elt [⟨target,iter,ifs,0⟩] scope pos) 0 it acc env).onRaise (fun x=>do noteFrame x env;theTreesLotGoes x)) _ _ s
 refine wpAny_noted ?_
 rw[compTurn_list]
 refine wpAny_bind (wpAny_standAt (wpAny_bind (wpAny_mono (turn n s hI) (fun r s1 h1=>?_) fun _ _ h'=>h'.elim)))
 cases r with
 | none=>exact wpAny_pure h1
 | some v=>
  refine wpAny_bind (wpAny_mono h1 (fun _ s1' h1'=>?_) fun _ _ h'=>h'.elim)
  refine wpAny_bind (wpAny_mono h1' (fun _ s2 h2=>wpAny_bind (wpAny_mono h2 (fun ok s3 h3=>?_) fun _ _ h'=>h'.elim)) fun _ _ h'=>h'.elim)
  cases ok with
  | false=>exact wpAny_pure ⟨rfl,h3⟩
  | true=>
   exact wpAny_bind (wpAny_bind (wpAny_mono h3 (fun x s4 h4=>wpAny_bind (wpAny_mono h4 (fun _ s5 h5=>wpAny_pure (wpAny_pure ⟨rfl,h5⟩)) fun _ _ h'=>h'.elim)) fun _ _ h'=>h'.elim))
theorem x9{A:Around}{E:Value->Shared->Prop}{env:Env}{scope:Scope}{t:Tg}{cl:List (Str × Addr)}{C:Addr}{ρ:aa}{N':Addr->Prop}(hE:EOk sc env)(hS:mU sc scope t)(sx:Shared):
  Storer G.prog G.w A E (compEnvC scope cl C env) (fun x=>scope.names.lookup x=some .local) (fun(m:Str->Option Value) ρ' s=>s.heap.Ns C m∧(∀x d,ρ' x=some d->scope.names.lookup x=some .local->x≠ic->∃v,m x=some v∧Rp s.heap N' v d)∧
   (∀x,scope.names.lookup x≠some .local->ρ' x=ρ x)∧∃h tk,s={ sx with heap:=h,toks:=tk }∧∀b o,b≠C->sx.heap.get? b=some o->h.get? b=some o) (fun _ s v d=>Rp s.heap N' v d) where
 store:=fun m x v d ρ' s Q hx hs hv hQ=>by
  obtain⟨hn,h1,h2,h,tk,rfl,hk⟩:=hs
  refine wpAny_storeName_local (lookup_relabel_local hx) hn (fun h' hn' hs'=>?_) (by simp[compEnvC,relabel,hS.kind])
  have hL:=fy hn
  have up:∀v d,Rp h N' v d->Rp h' N' v d:=fun v d r=>lr r hs'.2 hL
  refine hQ _ _ ⟨hn',fun y e hy hl hz=>?_,fun y hy=>?_,h',_,rfl,fun b o hb e=>(hs'.2 b hb).trans (hk b o hb e)⟩ up
  .unfold ah at hy
   by_cases q:y=x
   .subst q;rw[if_pos rfl] at hy;cases hy;exact⟨v,by simp,up _ _ hv⟩
   .rw[if_neg q] at hy
    obtain⟨w,e1,e2⟩:=h1 y e hy hl hz
    exact⟨w,by simp only[if_neg q];exact e1,up _ _ e2⟩
  .unfold ah
   have:y≠x:=fun q=>hy (q ▸ hx)
   rw[if_neg this];exact h2 y hy
 keep:=fun m ρ' s s' hs k=>by
  obtain⟨hn,h1,h2,h,tk,rfl,hk⟩:=hs
  have hh:=k.heap
  obtain⟨h',tk',rfl,_⟩:=k
  exact⟨⟨hn.keeps hh,fun x d e hl hz=>let ⟨v,e1,e2⟩:=h1 x d e hl hz;⟨v,e1,e2.keep hh⟩,h2,h',tk',rfl,fun b o hb e=>hh b o (hk b o hb e)⟩,fun v d r=>r.keep hh⟩
noncomputable def IfsOk(G:ap)(k:Nat)(sc:Scope)(ifs:List Expr)(mc:aa->Option Bool):Prop:=(ifs=[]∧mc=fun _=>some true)∨∃c,ifs=[c]∧ST G k sc c mc
theorem IfsOk.nil:IfsOk G k sc [] (fun _=>some true):=.inl ⟨rfl,rfl⟩
theorem IfsOk.one{c:Expr}{mc:aa->Option Bool}(h:ST G k sc c mc):IfsOk G k sc [c] mc:=.inr ⟨c,rfl,h⟩
inductive s8 (t:Tg) (mc:aa->Option Bool) (me:aa->Option D) (ds ys:List D) (ρ:aa) (N:Addr->Prop) (St:Nat->Heap->Prop) (s2:Shared) (wr:List Addr) (Cc Dd:Addr) (n:Nat) (s':Shared):Prop
 | mk (i:Nat) (h':Heap) (tk:Nat) (us:List Value) (j:Nat) (m':Str->Option Value) (done rest:List D) (es:s'={ s2 with heap:=h',toks:=tk }) (hle:i≤ds.length) (en:n=ds.length - i) (st:St i h') (hn':h'.Ns Cc m') (hD':h'.get? Dd=some (aJ us j)) (rD:Rps h' N us done) (hul:us.length≤i)
   (keep:∀b o,b ∉ wr->b≠Cc->b≠Dd->s2.heap.get? b=some o->h'.get? b=some o) (hm:cX t mc me (ds.drop i) ρ=some rest) (hys:ys=done++rest):s8 t mc me ds ys ρ N St s2 wr Cc Dd n s'
theorem s9[NeZero k]{fz:Bool}{elt target iter:Expr}{ifs:List Expr}{scope:Scope}{pos p:Pos}{t:Tg}{mi:aa->Option (List D)}{mc:aa->Option Bool}{me:aa->Option D}(ht:bV target=some t)(hS:mU sc scope t)(hfs:∀env x,foldedSetIterable iter env x=pure x)
  (hi:SI G k sc fz target iter mi) (hc:IfsOk G k (dZ scope sc) ifs mc) (he:SE G k (dZ scope sc) elt me) {A:Around} {env:Env} {N:Addr->Prop} {α:Str->Option Addr} {s:Shared} {ρ:aa} {ds ys:List D} {use:Option (Value->Sem Unit)} {Q:Value->Shared->Prop}
  (hA:AOk A k) (hE:EOk sc env) (hb:Hk G.base s.heap) (hin:In G env N α s.heap ρ) (eds:mi ρ=some ds) (eys:cX t mc me ds ρ=some ys)
  (fin:∀D C s' us n m,Kp s s'->s.heap.get? D=none->s.heap.get? C=none->D≠C->s'.heap.get? D=some (aJ us n)->Rps s'.heap (ch (Nu N α) D) us ys->s'.heap.Ns C m->compPost (model G.prog G.w) A aQ use Q (.ref D) C (.ok .next) s'):
  wpAny (model G.prog G.w) A (comprehension (.ListComp elt [⟨target,iter,ifs,0⟩] scope pos) scope env p (newList []) false (eval iter env) use) Q aQ s:=by
 obtain⟨cl,hcl,hclx⟩:=x6 (scope:=scope) (env:=env) fun q hq hf=>hin.cells q.1 (by rw[hE.kindOf];exact hS.free q hq hf)
 refine wpAny_comprehension_free (g:=⟨target,iter,ifs,0⟩) (gs:=[]) rfl (hfs env) hcl hS.kind hS.names ?_
 refine wpAny_mono (hi A env N α s ρ ds hA hE hb hin eds) (fun x s1 h1=>wpAny_mono h1 (fun it s2 h2=>?_) fun _ _ x=>x) fun _ _ x=>x
 obtain⟨k₂,hz,I,fp,wr,vs,ds0,St,rfl,W,st0,rv,hwr,hfpo,hfp⟩:=h2
 refine wpAny_newObj_type (wpAny_newFunctionEnv hS.cell (by intro y hy;simp at hy) (fun h1 hns1 hsb1=>?_) hS.kind)
 dsimp only at hns1 hsb1 ⊢
 generalize hH2:s2.heap.push { cls:=.type "list",dict:=none,data:=.seq ([]:List Value).toArray }=H2 at hns1 hsb1 ⊢
 have hC:H2.objs.size=s2.heap.objs.size+1:=by rw[← hH2,Heap.size_push]
 have hDC:s2.heap.objs.size≠H2.objs.size:=by rw[hC];exact Nat.ne_of_lt (Nat.lt_succ_self _)
 have below:∀b,b < s2.heap.objs.size->b≠H2.objs.size∧b≠s2.heap.objs.size:=fun b hb=>⟨by rw[hC];exact Nat.ne_of_lt (Nat.lt_succ_of_lt hb),Nat.ne_of_lt hb⟩
 have old:∀b o,s2.heap.get? b=some o->h1.get? b=some o:=fun b o e=>hsb1.extBut b o (below b (Heap.lt_size e)).1 (Heap.get?_push_of_some _ (hH2 ▸ Heap.get?_push_of_some _ e))
 have hacc:h1.get? s2.heap.objs.size=some (aJ [] 0):=hsb1.extBut _ _ hDC (Heap.get?_push_of_some _ (hH2 ▸ Heap.get?_push_size _ rfl))
 have gC:s2.heap.get? H2.objs.size=none:=by
  cases e:s2.heap.get? H2.objs.size with
  | none=>rfl
  | some o=>exact absurd (Nat.lt_trans (hC ▸ Nat.lt_succ_self _) (Heap.lt_size e)) (Nat.lt_irrefl _)
 have gD:=b4 s2.heap
 generalize hDd:s2.heap.objs.size=Dd at *
 generalize hCc:H2.objs.size=Cc at *
 have hfD:Dd ∉ fp:=fun q=>by obtain⟨o,ho⟩:=hfpo _ q;rw[gD] at ho;cases ho
 have hfC:Cc ∉ fp:=fun q=>by obtain⟨o,ho⟩:=hfpo _ q;rw[gC] at ho;cases ho
 have loop:∀s3:Shared,s3={ s2 with heap:=h1,toks:=s2.toks+([]:List (Str × Value)).length }->
   codeAny (model G.prog G.w) A (.compLoop (.ListComp elt [⟨target,iter,ifs,0⟩] scope pos) 0 (.ref I) (.ref Dd) (compEnvC scope cl Cc env)) (compPost (model G.prog G.w) A aQ use Q (.ref Dd) Cc) s3:=by
  rintro s3 rfl
  refine x8 (s8 t mc me ds ys ρ (Nu (ch N Dd) α) St s2 wr Cc Dd) (fun n s' hI=>?_) ds.length
    ⟨0,h1,_,[],0,_,[],ys,rfl,Nat.zero_le _,rfl,W.frame _ _ _ st0 fun b _ o e=>old b o e,hns1,hacc,.nil,Nat.le_refl _,fun b o _ _ _ e=>old b o e,by simpa using eys,by simp⟩
  obtain⟨i,h',tk,us,j,m',done,rest,rfl,hle,rfl,st,hn',hD',rD,hul,keep,hm,hys⟩:=hI
  have hwD:Dd ∉ wr:=fun q=>hfD (W.sub _ q)
  have hwC:Cc ∉ wr:=fun q=>hfC (W.sub _ q)
  have outer:∀h'',(∀b o,b ∉ wr->b≠Cc->b≠Dd->h'.get? b=some o->h''.get? b=some o)->(∃o,h''.get? Dd=some o)->In G env (ch N Dd) α h'' ρ:=fun h'' kk hDe=>by
   have hin2:=hin.keep (h':=s2.heap) k₂.heap
   obtain⟨m,hm,hv⟩:=hin.ns
   have kk':∀b o,s.heap.get? b=some o->h''.get? b=some o:=fun b o e=>
    have e2:=k₂.heap b o e
    have hb:=below b (Heap.lt_size e2 |> fun q=>by rw[← hDd];exact q)
    kk b o (fun q=>by rw[hwr b q] at e;cases e) hb.1 hb.2 (keep b o (fun q=>by rw[hwr b q] at e;cases e) hb.1 hb.2 e2)
   exact hin.grow (k₂.gone gD) kk' hDe
  by_cases hlt:i < ds.length
  .have hdi:ds[i]? = some ds[i]:=by simp[hlt]
   rw[List.drop_eq_getElem_cons hlt] at hm
   simp only[cX] at hm
   refine ao hm fun ρ1 e1 hm=>?_
   refine ao hm fun bb e2 hm=>?_
   have rv':Rps h' (Nu (ch N Dd) α) vs ds0:=rv.change
    (fun b us j e=>keep b _ (fun q=>(W.kind 0 _ st0 b q us j).2 e) (below b (hDd ▸ Heap.lt_size e)).1 (below b (hDd ▸ Heap.lt_size e)).2 e)
    fun b us j e hnb=>⟨keep b _ (fun q=>(W.kind 0 _ st0 b q us j).1 e) (below b (hDd ▸ Heap.lt_size e)).1 (below b (hDd ▸ Heap.lt_size e)).2 e,fun q=>by
     rcases q with (q | q) | q
     .exact hnb (.inl q)
     .exact(below b (hDd ▸ Heap.lt_size e)).2 q
     .exact hnb (.inr q)⟩
   have lo':Lo (Nu (ch N Dd) α) h':=(outer h' (fun b o _ _ _ e=>e) ⟨_,hD'⟩).low
   refine W.item i _ ds[i] (Nu (ch N Dd) α) _ _ _ hdi st rv' lo' (fun v s1 h=>h) fun v h2 tk2 st2 hk₂ rp=>?_
   have hS0:=x9 (G:=G) (A:=A) (E:=aQ) (cl:=cl) (C:=Cc) (ρ:=ρ) (N':=Nu (ch N Dd) α) hE hS { s2 with heap:=h2,toks:=tk2 }
   have hn2:h2.Ns Cc m':=hn'.at' fun o e=>hk₂ _ o hwC e
   have hD2:h2.get? Dd=some (aJ us j):=hk₂ _ _ hwD hD'
   refine hS0.assign (ρ:=fun x=>if x∈t.names then none else ρ x) hA.no ht hS.tg ⟨hn2,fun x d e hl hz=>?_,fun x hx=>?_,h2,tk2,rfl,fun b o _ e=>e⟩ rp (x7 (fun x hx=>?_) e1) (fun ds e=>rp.open e) fun m3 s3 hs3=>?_
   .rcases hS.all x hl with q | q
    .simp[q] at e
    .exact absurd q hz
   .have:x ∉ t.names:=fun q=>hx (hS.tg x q)
    simp[this]
   .simp[hx]
   obtain⟨hn3,hv3,ho3,h3,tk3,rfl,hk3⟩:=hs3
   have hD3:h3.get? Dd=some (aJ us j):=hk3 _ _ hDC hD2
   have keep3:∀b o,b ∉ wr->b≠Cc->b≠Dd->h'.get? b=some o->h3.get? b=some o:=fun b o q1 q2 q3 e=>hk3 b o q2 (hk₂ b o q1 e)
   have st3:St (i+1) h3:=W.frame _ _ _ st2 fun b hb o e=>hk3 b o (fun q=>hfC (q ▸ hb)) e
   have rD3:Rps h3 (Nu (ch N Dd) α) us done:=rD.change
    (fun b us' j' e=>keep3 b _ (fun q=>(W.kind i _ st b q us' j').2 e) (fun q=>(fy hn' us' j').2 (q ▸ e)) (fun q=>by rw[q,hD'] at e;exact iW e) e)
    fun b us' j' e hnb=>⟨keep3 b _ (fun q=>(W.kind i _ st b q us' j').1 e) (fun q=>(fy hn' us' j').1 (q ▸ e)) (fun q=>hnb (.inl (.inr q))) e,hnb⟩
   have hin3:In G (compEnvC scope cl Cc env) (ch N Dd) α h3 ρ1:=(outer h3 keep3 ⟨_,hD3⟩).comp hE hS hclx hn3 hv3 ho3
   have hE':EOk (dZ scope sc) (compEnvC scope cl Cc env):=⟨sV hE,hS.kind,hE.globals,hE.builtins⟩
   have hb3:Hk G.base h3:=fun b o e=>by
    have e0:=hb b o e
    have e2:=k₂.heap b o e0
    have hbb:=below b (hDd ▸ Heap.lt_size e2)
    have hw:b ∉ wr:=fun q=>by rw[hwr b q] at e0;cases e0
    exact keep3 b o hw hbb.1 hbb.2 (keep b o hw hbb.1 hbb.2 e2)
   have tests:wpAny (model G.prog G.w) A (forIn ifs true fun c r=>if r=true then do let ok ← isTrue c (compEnvC scope cl Cc env) (eval c (compEnvC scope cl Cc env));pure (ForInStep.yield ok) else pure (ForInStep.yield r))
     (fun ok s'=>ok=bb∧Kp { s2 with heap:=h3,toks:=tk3 } s') aQ { s2 with heap:=h3,toks:=tk3 }:=by
    rcases hc with ⟨rfl,rfl⟩ | ⟨c,rfl,hc⟩
    .cases e2;exact wpAny_tests_nil ⟨rfl,Kp.refl _⟩
    .exact wpAny_tests_one (hc A _ _ α _ ρ1 bb hA hE' hb3 hin3 e2)
   refine wpAny_mono tests (fun ok s4 h4=>?_) fun _ _ x=>x
   obtain⟨rfl,k₄⟩:=h4
   have hk4:=k₄.heap
   obtain⟨h4,tk4,rfl,_⟩:=k₄
   have keep4:∀b o,b ∉ wr->b≠Cc->b≠Dd->s2.heap.get? b=some o->h4.get? b=some o:=fun b o q1 q2 q3 e=>hk4 b o (keep3 b o q1 q2 q3 (keep b o q1 q2 q3 e))
   cases ok with
   | false=>
    simp only[Bool.false_eq_true,if_false] at hm ⊢
    exact⟨_,(by omega:ds.length - (i+1) < ds.length - i),i+1,h4,tk4,us,j,m3,done,rest,rfl,hlt,rfl,W.frame _ _ _ st3 fun b _ o e=>hk4 b o e,hn3.keeps hk4,hk4 _ _ hD3,rD3.keep hk4,Nat.le_succ_of_le hul,keep4,hm,hys⟩
   | true=>
    simp only[if_true] at hm ⊢
    refine ao hm fun y e3 hm=>?_
    split at hm
    .rename_i hcy
     obtain⟨rest',e4,rfl⟩:=Option.map_eq_some_iff.mp hm
     refine wpAny_mono (he A _ _ α _ ρ1 y hA hE' (fun b o e=>hk4 b o (hb3 b o e)) (hin3.keep hk4) e3) (fun v₅ s5 h5=>?_) fun _ _ x=>x
     obtain⟨k₅,rt5⟩:=h5
     have hk5:=k₅.heap
     obtain⟨h5,tk5,rfl,_⟩:=k₅
     refine wpAny_list_append_plain (items:=us.toArray) ⟨j,hk5 _ _ (hk4 _ _ hD3)⟩ (fun h6 hl6 hs6=>?_) (by simp;rw[sizeLine_eq] at hz ⊢;omega)
     obtain⟨j₆,e6⟩:=hl6
     have e6':h6.get? Dd=some (aJ (us++[v₅]) j₆):=by rw[e6];simp
     have up:∀ {v d},Rp h5 (Nu (ch N Dd) α) v d->Rp h6 (Nu (ch N Dd) α) v d:=fun {v d} r=>r.change
      (fun b us' j' e=>(hs6.2 b fun q=>by rw[q,hk5 _ _ (hk4 _ _ hD3)] at e;exact iW e).trans e) fun b us' j' e hnb=>⟨(hs6.2 b fun q=>hnb (.inl (.inr q))).trans e,hnb⟩
     have ups:∀ {vs ds},Rps h5 (Nu (ch N Dd) α) vs ds->Rps h6 (Nu (ch N Dd) α) vs ds:=fun {vs ds} r=>r.change
      (fun b us' j' e=>(hs6.2 b fun q=>by rw[q,hk5 _ _ (hk4 _ _ hD3)] at e;exact iW e).trans e) fun b us' j' e hnb=>⟨(hs6.2 b fun q=>hnb (.inl (.inr q))).trans e,hnb⟩
     refine⟨_,(by omega:ds.length - (i+1) < ds.length - i),i+1,h6,tk5,us++[v₅],j₆,m3,done++[y],rest',rfl,hlt,rfl,W.frame _ _ _ st3 fun b hb' o e=>(hs6.2 b fun q=>hfD (q ▸ hb')).trans (hk5 b o (hk4 b o e)),((hn3.keeps hk4).keeps hk5).sameBut hs6 (Ne.symm hDC),e6',
      (ups ((rD3.keep hk4).keep hk5)).append (.one (up (rt5.rp hcy))),by simp;omega,fun b o q1 q2 q3 e=>(hs6.2 b q3).trans (hk5 b o (keep4 b o q1 q2 q3 e)),e4,by rw[hys];simp⟩
    .cases hm
  .have hi':i=ds.length:=by omega
   subst hi'
   rw[List.drop_length] at hm
   cases hm
   refine W.done _ _ _ st fun h2 tk2 hk₂=>?_
   refine fin Dd Cc _ us j m' ?_ (k₂.gone gD) (k₂.gone gC) hDC (hk₂ _ _ hwD hD') ?_ (hn'.at' fun o e=>hk₂ _ o hwC e)
   .have hk2:=k₂.heap
    obtain⟨hh,tt,e,_⟩:=k₂
    refine⟨h2,tk2,by rw[e],fun b o e=>?_⟩
    have e2:=hk2 b o e
    have hbb:=below b (hDd ▸ Heap.lt_size e2)
    have hw:b ∉ wr:=fun q=>by rw[hwr b q] at e;cases e
    exact hk₂ b o hw (keep b o hw hbb.1 hbb.2 e2)
   .rw[hys,List.append_nil]
    refine rD.change (fun b us' j' e=>hk₂ b _ (fun q=>(W.kind _ _ st b q us' j').2 e) e) fun b us' j' e hnb=>⟨hk₂ b _ (fun q=>(W.kind _ _ st b q us' j').1 e) e,fun q=>?_⟩
    rcases q with q | q
    .rcases q with q | q
     .exact hnb (.inl (.inl q))
     .exact hnb (.inr q)
    .exact hnb (.inl (.inr q))
 exact codeAny_compStart_list (loop _ rfl) (W.self 0 _ _ _ (W.frame _ _ _ st0 fun b _ o e=>old b o e) (loop _ rfl))
end
section
variable {G:ap} {k:Nat} {sc:Scope}
noncomputable def dJ(t:Tg)(mi:aa->Option (List D))(mc:aa->Option Bool)(me:aa->Option D):aa->Option (List D):=fun ρ=>(mi ρ).bind fun ds=>cX t mc me ds ρ
theorem SF.comp[NeZero k]{elt target iter:Expr}{ifs:List Expr}{scope:Scope}{pos:Pos}{t:Tg}{mi:aa->Option (List D)}{mc:aa->Option Bool}{me:aa->Option D}(ht:bV target=some t)(hS:iX sc scope t=true)(hfs:∀env x,foldedSetIterable iter env x=pure x)
  (hi:SI G k sc false target iter mi) (hc:IfsOk G k (dZ scope sc) ifs mc) (he:SE G k (dZ scope sc) elt me):SF G k sc (.ListComp elt [⟨target,iter,ifs,0⟩] scope pos) (dJ t mi mc me):=by
 intro A env N α s ρ ys hA hE hb hin hρ
 refine ao hρ fun ds eds eys=>?_
 rw[eval_ListComp]
 refine s9 ht (sZ hS) hfs hi hc he hA hE hb hin eds eys fun D C s' us n m k' hD hC hDC hl r hn=>?_
 refine⟨m,hn,fun h' hs'=>?_⟩
 have hCn:=fy hn
 have hk':=k'.heap
 obtain⟨h1,t₁,rfl,_⟩:=k'
 refine⟨⟨h',t₁,rfl,fun b o e=>(hs'.2 b fun q=>by rw[q,hC] at e;cases e).trans (hk' b o e)⟩,D,us,n,rfl,hD,(hs'.2 D hDC).trans hl,?_⟩
 exact r.change (fun b us' j e=>(hs'.2 b fun q=>(hCn us' j).2 (q ▸ e)).trans e) fun b us' j e hnb=>⟨(hs'.2 b fun q=>(hCn us' j).1 (q ▸ e)).trans e,hnb⟩
theorem td[NeZero k]{elt target iter:Expr}{ifs:List Expr}{scope:Scope}{pos p spos:Pos}{x:Str}{t:Tg}{mi:aa->Option (List D)}{mc:aa->Option Bool}{me:aa->Option D}(own:Bool)(hx:okStore sc x=true)(ht:bV target=some t)(hS:iX sc scope t=true)(hfs:∀env x,foldedSetIterable iter env x=pure x)
  (hi:SI G k sc false target iter mi) (hc:IfsOk G k (dZ scope sc) ifs mc) (he:SE G k (dZ scope sc) elt me):
  S1 G k sc (.Assign [.Name x p] (.ListComp elt [⟨target,iter,ifs,0⟩] scope pos) spos) (fun ρ=>(dJ t mi mc me ρ).bind fun ys=>some (.next (ah ρ x (if own then .own ys else .list ys)))):=by
 intro A env N α s₀ s ρ o hA hE hb ha hρ
 refine ao hρ fun ys ey hρ=>?_
 cases hρ
 obtain⟨b,hsw⟩:∃b,swapsWith (.ListComp elt [⟨target,iter,ifs,0⟩] scope pos) (some (.Name x p)) spos.line env=pure b:=⟨_,rfl⟩
 cases b with
 | false=>
  refine wpAny_Assign_Name (wpAny_mono (SF.comp ht hS hfs hi hc he A env N α s ρ ys hA hE (ha.hk hb) ha.in ey) (fun v s1 h₁=>?_) fun _ _ x=>x) hsw
  obtain⟨hk,b,vs,n,rfl,hn,hb',r⟩:=h₁
  cases own with
  | true=>exact ha.storeOwn hE.kind' (okStore.ok hE hx) hk hn hb' r fun s' a' f' _=>⟨rfl,_,a',f'⟩
  | false=>exact(ha.keep hk).store hE.kind' (okStore.ok hE hx) (.list hb' (ha.in.low.fresh hn) (r.weak fun _ q=>.inl q)) fun s' a' f'=>⟨rfl,_,a',(Fm.kp hk).trans f'⟩
 | true=>
  refine ao ey fun ds eds eys=>?_
  rw[exec_Assign_Name_used _ _ _ _ hsw]
  refine wpAny_bind (wpAny_standAt (wpAny_bind ?_))
  show wpAny _ A (do let _ ← comprehension (.ListComp elt [⟨target,iter,ifs,0⟩] scope pos) scope env _ (newList []) false (eval iter env) (some (PySem.assign (.Name x p) env))) _ _ s
  refine wpAny_bind (wpAny_mono (s9 (use:=some (PySem.assign (.Name x p) env)) (Q:=fun _ s'=>OutIs G s₀ env N α s .next s' (.next (ah ρ x (if own then .own ys else .list ys)))) ht (sZ hS) hfs hi hc he hA hE (ha.hk hb) ha.in eds eys
   fun D C s' us n m k' hD hC hDC hl r hn=>?_) (fun _ s' hq=>wpAny_pure (wpAny_pure hq)) fun _ _ e=>e)
  show wpAny _ A (PySem.assign (.Name x p) env (.ref D)) _ _ _
  refine wpAny_assign_Name ?_
  have frC:cW env α C:=pu ha (.inl hC)
  obtain⟨oC,es,ep,hoC,rC⟩:=id hn
  have last:∀ α' s'',Act G s₀ env N α' s'' (ah ρ x (if own then .own ys else .list ys))->Fm env α s α' s''->s''.heap.get? C=some oC->cW env α' C->∃m,s''.heap.Ns C m∧∀h',Heap.SameBut C s''.heap h'->OutIs G s₀ env N α s .next { s'' with heap:=h' } (.next (ah ρ x (if own then .own ys else .list ys))):=fun α' s'' a' f' e' fC=>by
   have hn'':s''.heap.Ns C m:=⟨oC,es,ep,e',rC⟩
   refine⟨m,hn'',fun h' hs'=>⟨rfl,α',?_,fun b o e fb=>?_⟩⟩
   .refine a'.swap (h':=h') (tk:=s''.toks) (wr:=[C]) (fun b o hb e=>(hs'.2 b (by simpa using hb)).trans e) (fun b hb=>by simp at hb;subst hb;exact fC) (fun b hb=>by simp at hb;subst hb;exact ha.kp.gone hC) (fun b hb us' j=>by simp at hb;subst hb;exact fy hn'' us' j) (fun b d e=>?_)
    .have hxk:aU x=false:=by
      cases q:aU x with
      | false=>rfl
      | true=>have:=okStore.ok hE hx;rw[ha.nb x q] at this;rcases this with z | z <;> cases z
     have e':ρ (ag b)=some d:=by
      unfold ah at e
      rwa [if_neg fun q=>by rw[← q,dH] at hxk;cases hxk] at e
     obtain⟨C',dx,hs,tk,n,v,eb,_,_,h1,h2,_⟩:=(ha.bk b d e').1.ex
     simp only[List.mem_singleton]
     refine⟨fun q=>?_,fun dx' q' q=>?_⟩
     .rw[q,hC] at h1;cases h1
     .have:dx'=dx:=Nat.add_right_cancel (q'.symm.trans eb)
      rw[← this,q,hC] at h2;cases h2
   .obtain⟨e1,f1⟩:=f' b o e fb
    exact⟨(hs'.2 b fun q=>by rw[q,hC] at e;cases e).trans e1,f1⟩
  cases own with
  | true=>exact ha.storeOwn hE.kind' (okStore.ok hE hx) k' hD hl r fun s'' a' f' g'=>last _ s'' a' f' (g' C oC hoC frC.1 frC.2.1) ⟨frC.1,frC.2.1,fun y q=>by
    unfold fx at q
    split at q
    .cases q;exact hDC rfl
    .exact frC.2.2 y q⟩
  | false=>exact(ha.keep k').store hE.kind' (okStore.ok hE hx) (.list hl (ha.in.low.fresh hD) (r.weak fun _ q=>.inl q)) fun s'' a' f'=>last _ s'' a' ((Fm.kp k').trans f') (f' C oC hoC frC).1 (f' C oC hoC frC).2
end
noncomputable def cP:D->D->Option D
 | .int a,.int b=>some (.int (a+b))
 | _,_=>none
noncomputable def fD:D->D->Option D
 | .int a,.int b=>some (.int (a - b))
 | _,_=>none
noncomputable def dK:D->D->Option D
 | .int a,.int b=>if a.natAbs < 18446744073709551616∨b.natAbs < 18446744073709551616 then some (.int (a*b)) else none
 | _,_=>none
noncomputable def cY:D->D->Option D
 | .int a,.int b=>if 0 < b∧b < 1073741824 then some (.int (a.fdiv b)) else none
 | _,_=>none
noncomputable def bp:D->D->Option D
 | .int a,.int b=>if b≠0 then some (.int (a.fmod b)) else none
 | _,_=>none
noncomputable def fY:D->D->Option D
 | .int a,.int b=>if 0≤b∧b≤1000∧a.natAbs < 1000 then some (.int (a ^ b.toNat)) else none
 | _,_=>none
section
variable {G:ap} {k:Nat} {sc:Scope}
theorem bG{h:Heap}{N v}{a:Int}(r:Rt h N v (.int a)):∃t,v=.int a t:=by
 cases r with
 | clean r=>cases r;exact⟨_,rfl⟩
theorem jK{s:Shared}{N:Addr->Prop}{i:Int}:Po s N (.int i) (.int i s.toks) { s with toks:=s.toks+1 }:=⟨Kp.toks s _,.clean (.int _ _)⟩
theorem du(a b d:D)(h:cP a b=some d):gW G k .Add a b d:=by
 intro A N s va vb hA hb lo ra rb
 unfold cP at h
 split at h
 .cases h;obtain⟨t,rfl⟩:=bG ra;obtain⟨u,rfl⟩:=bG rb;exact add_int jK
 .cases h
theorem iY(a b d:D)(h:fD a b=some d):gW G k .Sub a b d:=by
 intro A N s va vb hA hb lo ra rb
 unfold fD at h
 split at h
 .cases h;obtain⟨t,rfl⟩:=bG ra;obtain⟨u,rfl⟩:=bG rb;exact sub_int jK
 .cases h
theorem te{a:Int}(h:a.natAbs < 18446744073709551616):Builtin.Int.intBits a≤64:=intBits_le_64 (by omega) (by omega)
theorem iZ(a b d:D)(h:dK a b=some d):gW G k .Mult a b d:=by
 intro A N s va vb hA hb lo ra rb
 unfold dK at h
 split at h
 .split at h
  .rename_i hc
   cases h;obtain⟨t,rfl⟩:=bG ra;obtain⟨u,rfl⟩:=bG rb
   exact mul_int jK (hc.elim (fun q=>.of_left (te q)) fun q=>.of_right (te q))
  .cases h
 .cases h
theorem eF(a b d:D)(h:cY a b=some d):gW G k .FloorDiv a b d:=by
 intro A N s va vb hA hb lo ra rb
 unfold cY at h
 split at h
 .split at h
  .rename_i hc
   cases h;obtain⟨t,rfl⟩:=bG ra;obtain⟨u,rfl⟩:=bG rb
   exact floordiv_int (by omega) jK (.inl (PyProof.noPylong_small (by omega)))
  .cases h
 .cases h
theorem cj(a b d:D)(h:bp a b=some d):gW G k .Mod a b d:=by
 intro A N s va vb hA hb lo ra rb
 unfold bp at h
 split at h
 .split at h
  .rename_i hc
   cases h;obtain⟨t,rfl⟩:=bG ra;obtain⟨u,rfl⟩:=bG rb
   exact mod_int' hc jK
  .cases h
 .cases h
theorem pw(a b d:D)(h:fY a b=some d):gW G k .Pow a b d:=by
 intro A N s va vb hA hb lo ra rb
 unfold fY at h
 split at h
 .split at h
  .rename_i hc
   cases h;obtain⟨t,rfl⟩:=bG ra;obtain⟨u,rfl⟩:=bG rb
   exact pow_int_small hc.1 (by omega) (by omega) jK
  .cases h
 .cases h
theorem SE.neg{e:Expr}{pos:Pos}{m:aa->Option D}(h:SE G k sc e m):SE G k sc (.UnaryOp .USub e pos) (fun ρ=>(m ρ).bind fun d=>match d with | .int i=>some (.int (-i)) | _=>none):=by
 intro A env N α s ρ d hA hE hb hi hρ
 refine ao hρ fun a ea hρ=>?_
 split at hρ
 .cases hρ
  refine UnaryOp_ (wpAny_mono (h A env N α s ρ _ hA hE hb hi ea) (fun v s1 h1=>?_) fun _ _ x=>x)
  obtain⟨t,rfl⟩:=bG h1.2
  exact neg_int ⟨h1.1.trans (Kp.toks s1 _),.clean (.int _ _)⟩
 .cases hρ
noncomputable def cw:D->D->Option Bool
 | .int a,.int b=>some (decide (a < b))
 | _,_=>none
noncomputable def cy:D->D->Option Bool
 | .int a,.int b=>some (decide (b < a))
 | _,_=>none
noncomputable def dv:D->D->Option Bool
 | .int a,.int b=>some (decide (a≤b))
 | _,_=>none
noncomputable def eT:D->D->Option Bool
 | .int a,.int b=>some (decide (b≤a))
 | _,_=>none
theorem d0(a b:D)(c:Bool)(h:cw a b=some c):dI G k .Lt a b c:=by
 intro A N s va vb hA hb lo ra rb
 unfold cw at h
 split at h
 .cases h;obtain⟨t,rfl⟩:=bG ra;obtain⟨u,rfl⟩:=bG rb;exact lt_int ⟨rfl,Kp.refl s⟩
 .cases h
theorem fZ(a b:D)(c:Bool)(h:cy a b=some c):dI G k .Gt a b c:=by
 intro A N s va vb hA hb lo ra rb
 unfold cy at h
 split at h
 .cases h;obtain⟨t,rfl⟩:=bG ra;obtain⟨u,rfl⟩:=bG rb;exact gt_int ⟨rfl,Kp.refl s⟩
 .cases h
theorem gX(a b:D)(c:Bool)(h:dv a b=some c):dI G k .LtE a b c:=by
 intro A N s va vb hA hb lo ra rb
 unfold dv at h
 split at h
 .cases h;obtain⟨t,rfl⟩:=bG ra;obtain⟨u,rfl⟩:=bG rb;exact le_int ⟨rfl,Kp.refl s⟩
 .cases h
theorem i0(a b:D)(c:Bool)(h:eT a b=some c):dI G k .GtE a b c:=by
 intro A N s va vb hA hb lo ra rb
 unfold eT at h
 split at h
 .cases h;obtain⟨t,rfl⟩:=bG ra;obtain⟨u,rfl⟩:=bG rb;exact ge_int ⟨rfl,Kp.refl s⟩
 .cases h
noncomputable def cZ : D->Option (List D)
 | .list l=>some l
 | .own l=>some l
 | .tup l=>some l
 | _=>none
noncomputable def bf(o i:D):Option D:=match i with
 | .int i=>(cZ o).bind fun l=>if -9223372036854775808≤i∧i < 9223372036854775808 then(if i < 0 then(if i+l.length < 0 then none else l[(i+l.length).toNat]?) else l[i.toNat]?) else none
 | _=>none
theorem ya{A:Around}{N:Addr->Prop}{s:Shared}{vo vi:Value}{o i d:D}(ro:Rt s.heap N vo o)(ri:Rt s.heap N vi i)(e:bf o i=some d):
  ∃T id,s.TypeIs vo T∧typeLookup (.type T) "__getitem__"=pure (some (.builtin id))∧wpAny (model G.prog G.w) A (getItem vo vi) (Po s N d) aQ s:=by
 unfold bf at e
 split at e
 .rename_i i
  obtain⟨t,rfl⟩:=bG ri
  refine ao e fun l el e=>?_
  split at e
  .rename_i hb
   have list:∀ {a:Addr} {vs:List Value} {n:Nat},s.heap.get? a=some (aJ vs n)->Rps s.heap N vs l->∃T id,s.TypeIs (.ref a) T∧typeLookup (.type T) "__getitem__"=pure (some (.builtin id))∧wpAny (model G.prog G.w) A (getItem (.ref a) (.int i t)) (Po s N d) aQ s:=fun {a vs n} ha rs=>by
    have hl:s.heap.IsList a vs.toArray:=⟨_,ha,rfl,n,rfl⟩
    refine⟨"list",_,hl.typeIs,slot_list_getitem.lookup,?_⟩
    have hlen:=rs.length
    split at e
    .rename_i hneg
     split at e
     .cases e
     .rename_i hge
      obtain⟨v,hv,rp⟩:=rs.get e
      exact wpAny_getItem_list_neg hl hneg (by simp;omega) hb.1 (by simp[hlen];exact hv) ⟨Kp.refl s,.clean rp⟩
    .rename_i hpos
     obtain⟨v,hv,rp⟩:=rs.get e
     exact wpAny_getItem_list hl (by omega) hb.2 (by simpa using hv) ⟨Kp.refl s,.clean rp⟩
   cases ro with
   | own ha rs=>simp[cZ] at el;subst el;exact list ha rs
   | clean r=>
    cases r with
    | list ha _ rs=>simp[cZ] at el;subst el;exact list ha rs
    | @tup a vs n _ ha rs=>
     simp[cZ] at el;subst el
     have ht:PyProof.Rows.IsTup s.heap a vs.toArray:=⟨_,ha,rfl,n,rfl⟩
     refine⟨"tuple",_,ht.typeIs,slot_tuple_getitem.lookup,?_⟩
     have hlen:=rs.length
     split at e
     .rename_i hneg
      split at e
      .cases e
      .rename_i hge
       obtain⟨v,hv,rp⟩:=rs.get e
       have hlt:=(List.getElem?_eq_some_iff.mp hv).1
       refine getItem_tuple ht hb.1 hb.2 (j:=(i+(vs.length:Int)).toNat) ?_ (by simp[hlen];exact hv) ⟨Kp.refl s,.clean rp⟩
       unfold seqIndex?
       simp only[if_pos hneg,List.size_toArray]
       rw[if_pos]
       simp;omega
     .rename_i hpos
      obtain⟨v,hv,rp⟩:=rs.get e
      have hlt:=(List.getElem?_eq_some_iff.mp hv).1
      refine getItem_tuple ht hb.1 hb.2 (j:=i.toNat) ?_ (by simpa using hv) ⟨Kp.refl s,.clean rp⟩
      unfold seqIndex?
      simp only[if_neg hpos,List.size_toArray]
      rw[if_pos]
      simp;omega
    | none=>cases el
    | ref _=>cases el
    | bool _=>cases el
    | int _ _=>cases el
    | str _ _=>cases el
  .cases e
 .cases e
theorem SE.sub{value idx:Expr}{pos:Pos}{mv mi:aa->Option D}(hs:∀o i,subscripted idx false o i=operate [o,i] (getItem o i))(hv:SE G k sc value mv)(hi:SE G k sc idx mi):
  SE G k sc (.Subscript value idx pos) (fun ρ=>(mv ρ).bind fun o=>(mi ρ).bind fun i=>bf o i):=by
 intro A env N α s ρ d hA hE hb hin hρ
 refine ao hρ fun o eo hρ=>?_
 refine ao hρ fun i ei hρ=>?_
 refine Subscript_ (two hv hi hA hE hb hin eo ei fun va vb s2 k₂ lo ra rb=>?_)
 obtain⟨T,id,hT,hl,hg⟩:=ya (G:=G) (A:=A) ra rb hρ
 exact tail_any hT hl hg (hs va vb)
noncomputable def dM(i:Int)(n:Nat):Nat:=if i < 0 then(i+n).toNat else min i.toNat n
noncomputable def b7(l:List D)(lo hi:Option Int):List D:=let a:=(lo.map (dM · l.length)).getD 0;let b:=(hi.map (dM · l.length)).getD l.length;(l.drop a).take (b - a)
noncomputable def co(m:aa->Option D):aa->Option (Option Int):=fun ρ=>(m ρ).bind fun d=>match d with | .int i=>some (some i) | _=>none
noncomputable def SB(G:ap)(k:Nat)(sc:Scope)(e:Option Expr)(m:aa->Option (Option Int)):Prop:=(e=none∧m=fun _=>some none)∨∃e' m',e=some e'∧SE G k sc e' m'∧m=co m'
theorem SB.no:SB G k sc none (fun _=>some none):=.inl ⟨rfl,rfl⟩
theorem SB.at{e:Expr}{m:aa->Option D}(h:SE G k sc e m):SB G k sc (some e) (co m):=.inr ⟨e,m,rfl,h,rfl⟩
theorem SB.ok{e:Option Expr}{m:aa->Option (Option Int)}(h:SB G k sc e m){A:Around}{env:Env}{N:Addr->Prop}{α:Str->Option Addr}{s:Shared}{ρ:aa}{b:Option Int}(hA:AOk A k)(hE:EOk sc env)(hb:Hk G.base s.heap)(hi:In G env N α s.heap ρ)(eb:m ρ=some b):
  wpAny (model G.prog G.w) A (valueOrNone (evalOpt e env)) (fun v s'=>Kp s s'∧IsPart v b) aQ s:=by
 rcases h with ⟨rfl,rfl⟩ | ⟨e',m',rfl,h,rfl⟩
 .cases eb;exact wpAny_pure ⟨Kp.refl s,.none⟩
 .obtain⟨d,ed,eb⟩:=Option.bind_eq_some_iff.mp eb
  split at eb
  .cases eb
   refine wpAny_mono (h A env N α s ρ _ hA hE hb hi ed) (fun v s1 h1=>?_) fun _ _ x=>x
   obtain⟨t,rfl⟩:=bG h1.2
   exact⟨h1.1,.int _ _⟩
  .cases eb
theorem yb(i:Int)(n:Nat):max 0 (min (if i < 0 then i+n else i) (n:Int))=((dM i n:Nat):Int):=by
 unfold dM
 split
 .rw[Int.min_eq_left (by omega),Int.ofNat_toNat,Int.max_comm]
 .rw[Int.max_eq_right (by omega)]
  by_cases q:i≤n
  .rw[Int.min_eq_left q,Nat.min_eq_left (by omega),Int.toNat_of_nonneg (by omega)]
  .rw[Int.min_eq_right (by omega),Nat.min_eq_right (by omega)]
theorem yc(lo hi:Option Int)(n:Nat):sliceBounds lo hi none n=((((lo.map (dM · n)).getD 0:Nat):Int),(((hi.map (dM · n)).getD n:Nat):Int),1):=by
 have c:=fun i=>yb i n
 unfold sliceBounds
 cases lo <;> cases hi <;> simp[c]
theorem yd(vs:List Value)(lo hi:Option Int):slicePick vs.toArray lo hi none=((vs.drop ((lo.map (dM · vs.length)).getD 0)).take ((hi.map (dM · vs.length)).getD vs.length - (lo.map (dM · vs.length)).getD 0)).toArray:=by
 unfold slicePick
 rw[List.size_toArray,yc]
 simp only[sliceRange_one,pick_run]
theorem SF.slice{value:Expr}{lower upper:Option Expr}{p pos:Pos}{mv:aa->Option D}{ml mu:aa->Option (Option Int)}(hv:SE G k sc value mv)(hl:SB G k sc lower ml)(hu:SB G k sc upper mu):
  SF G k sc (.Subscript value (.Slice lower upper none p) pos) (fun ρ=>(mv ρ).bind fun o=>(ml ρ).bind fun lo=>(mu ρ).bind fun hi=>(D.items? o).bind fun l=>if l.length≤16777216 then some (b7 l lo hi) else none):=by
 intro A env N α s ρ ds hA hE hb hin hρ
 refine ao hρ fun o eo hρ=>?_
 refine ao hρ fun lo el hρ=>?_
 refine ao hρ fun hi eh hρ=>?_
 refine ao hρ fun l ei hρ=>?_
 split at hρ
 .rename_i hz
  cases hρ
  refine Subscript_ (wpAny_mono (hv A env N α s ρ o hA hE hb hin eo) (fun vo s1 h1=>?_) fun _ _ x=>x)
  obtain⟨k₁,r₁⟩:=h1
  show wpAny _ A (do let l ← valueOrNone (evalOpt lower env);let u ← holding [l] (valueOrNone (evalOpt upper env));let st ← holding [l,u] (valueOrNone (evalOpt none env));newFields "slice" [l,u,st]) _ _ s1
  refine wpAny_bind (wpAny_mono (hl.ok hA hE (aZ hb k₁) (hin.keep k₁.heap) el) (fun vl s2 h2=>?_) fun _ _ x=>x)
  obtain⟨k₂,p2⟩:=h2
  refine wpAny_bind (wpAny_holding (wpAny_mono (hu.ok hA hE (aZ hb (k₁.trans k₂)) (hin.keep (k₁.trans k₂).heap) eh) (fun vu s3 h3=>?_) fun _ _ x=>x))
  obtain⟨k₃,p3⟩:=h3
  refine wpAny_bind (wpAny_holding (wpAny_pure ?_))
  have kk:Kp s s3:=k₁.trans (k₂.trans k₃)
  obtain⟨a,vs,n,rfl,ha,rs⟩:=(r₁.keep (k₂.trans k₃).heap).items ei
  refine wpAny_newObj_type ?_
  have kp:∀b ob,s3.heap.get? b=some ob->(s3.heap.push { cls:=.type "slice",dict:=none,data:=.fields [vl,vu,Value.none].toArray }).get? b=some ob:=fun b ob e=>Heap.get?_push_of_some _ e
  have hL:(s3.heap.push { cls:=.type "slice",dict:=none,data:=.fields [vl,vu,Value.none].toArray }).IsList a vs.toArray:=⟨_,kp _ _ ha,rfl,n,rfl⟩
  refine tail_any (ops:=[.ref s3.heap.objs.size,.ref a]) ⟨_,kp _ _ ha,rfl⟩ slot_list_getitem.lookup ?_ rfl
  refine wpAny_getItem_list_slice hL ⟨_,Heap.get?_push_size _ rfl,rfl,rfl⟩ p2 p3 .none (by decide) ?_ (by simp;rw[rs.length,sizeLine_eq];exact hz)
  refine⟨(kk.trans (Kp.push s3 _)).trans (Kp.push { s3 with heap:=s3.heap.push { cls:=.type "slice",dict:=none,data:=.fields [vl,vu,Value.none].toArray } } _),_,_,0,rfl,(kk.trans (Kp.push s3 _)).gone (b4 _),by rw[yd];exact Heap.get?_push_size _ rfl,?_⟩
  have r2:Rps s3.heap (Nu N α) ((vs.drop ((lo.map (dM · vs.length)).getD 0)).take ((hi.map (dM · vs.length)).getD vs.length - (lo.map (dM · vs.length)).getD 0)) (b7 l lo hi):=by
   rw[rs.length];exact(rs.drop _).take _
  exact(r2.keep kp).off (b4 _) fun _ _ e=>Heap.get?_push_of_some _ e
 .cases hρ
theorem SF.cat{l r:Expr}{pos:Pos}{ml mr:aa->Option D}(hl:SE G k sc l ml)(hr:SE G k sc r mr):
  SF G k sc (.BinOp l .Add r pos) (fun ρ=>(ml ρ).bind fun a=>(mr ρ).bind fun b=>(D.items? a).bind fun x=>(D.items? b).bind fun y=>if x.length+y.length≤16777216 then some (x++y) else none):=by
 intro A env N α s ρ ds hA hE hb hin hρ
 refine ao hρ fun a ea hρ=>?_
 refine ao hρ fun b eb hρ=>?_
 refine ao hρ fun x ex hρ=>?_
 refine ao hρ fun y ey hρ=>?_
 split at hρ
 .rename_i hz
  cases hρ
  refine wpAny_BinOp (wpAny_mono (hl A env N α s ρ a hA hE hb hin ea) (fun va s1 h1=>?_) fun _ _ x=>x)
  refine wpAny_mono (hr A env N α s1 ρ b hA hE (aZ hb h1.1) (hin.keep h1.1.heap) eb) (fun vb s2 h2=>?_) fun _ _ x=>x
  have kk:=h1.1.trans h2.1
  obtain⟨p,vs,n,rfl,hp,rp⟩:=(h1.2.keep h2.1.heap).items ex
  obtain⟨q,ws,j,rfl,hq,rq⟩:=h2.2.items ey
  have e:vs.toArray++ws.toArray=(vs++ws).toArray:=by simp
  refine concat_meets ⟨_,hp,rfl⟩ ⟨_,hq,rfl⟩ noFill_list_add seq_list_add PySem.F.slot_list_add PySem.F.entry_list_add (PySem.F.args_list_add_2 _ _) (AutoSeq1.list___add___list_list_0 p vs.toArray n q ws.toArray j (by simp;rw[rp.length,rq.length,sizeLine_eq];exact hz)) ⟨hp,hq,?_⟩
  rw[e]
  refine⟨kk.trans (Kp.push s2 _),_,_,0,rfl,kk.gone (b4 _),Heap.get?_push_size _ rfl,(rp.append rq).off (b4 _) fun _ _ e=>Heap.get?_push_of_some _ e⟩
 .cases hρ
end
section
variable {G:ap} {s₀:Shared} {env:Env} {N:Addr->Prop} {α:Str->Option Addr} {s:Shared} {ρ:aa}
theorem Act.mutate{x:Str}{a:Addr}{us:List Value}{j:Nat}{ds ds':List D}{h':Heap}{tk:Nat}(ha:Act G s₀ env N α s ρ)(hx:ρ x=some (.own ds))(hy:aU x=false)(hα:α x=some a)(hs:Heap.SameBut a s.heap h')(he:h'.get? a=some (aJ us j))(r:Rps s.heap (Nu N α) us ds'):
  Act G s₀ env N α { s with heap:=h',toks:=tk } (ah ρ x (.own ds'))∧Fm env α s α { s with heap:=h',toks:=tk }:=by
 obtain⟨m,cm,i,hv⟩:=ha.ex
 obtain⟨hf,ws,w,hw⟩:=ha.fresh x a hα
 have kt:∀b vs n,s.heap.get? b=some (a8 vs n)->h'.get? b=some (a8 vs n):=fun b vs n e=>(hs.2 b fun q=>by rw[q,hw] at e;exact iW e).trans e
 have kl:∀b vs n,s.heap.get? b=some (aJ vs n)->¬Nu N α b->h'.get? b=some (aJ vs n)∧¬Nu N α b:=fun b vs n e hn=>⟨(hs.2 b fun q=>hn (.inr ⟨x,q ▸ hα⟩)).trans e,hn⟩
 have hL:env.locals≠a:=fun q=>(fy i.toInCall.ns ws w).1 (q ▸ hw)
 refine⟨⟨⟨m,cm,⟨⟨?_,i.toInCall.ns.sameBut hs hL,fun b o e=>(hs.2 b fun q=>by rw[q,hf] at e;cases e).trans (i.toInCall.keep b o e),i.toInCall.fresh⟩,fun n c hc=>?_,i.apart,i.above⟩,fun y d hy hyk=>?_⟩,ha.lowN,fun y b e=>?_,ha.inj,ha.cells,fun b d e=>?_,ha.nb⟩,fun b o e f=>⟨(hs.2 b fun q=>f.2.2 x (q ▸ hα)).trans e,f⟩⟩
 .obtain⟨h₁,t₁,rfl⟩:=i.toInCall.same;exact⟨h',tk,rfl⟩
 .exact(i.cell n c hc).sameBut hs fun q=>(jJ (i.cell n c hc) ws w).1 (q ▸ hw)
 .unfold ah at hy
  by_cases q:y=x
  .subst q
   rw[if_pos rfl] at hy;cases hy
   obtain⟨v,h1,h2⟩:=hv y _ hx hyk
   cases h2 with
   | clean r=>cases r
   | own e _ _=>
    rw[hα] at e;cases e
    exact⟨_,h1,.own hα he (r.change kt kl)⟩
  .rw[if_neg q] at hy
   obtain⟨v,h1,h2⟩:=hv y d hy hyk
   refine⟨v,h1,?_⟩
   cases h2 with
   | clean r=>exact .clean (r.change kt kl)
   | own e hl r=>exact .own e ((hs.2 _ fun q'=>q (ha.inj y x a (q' ▸ e) hα)).trans hl) (r.change kt kl)
 .obtain⟨h1,us',j',h2⟩:=ha.fresh y b e
  refine⟨h1,?_⟩
  by_cases q:b=a
  .rw[q];exact⟨us,j,he⟩
  .exact⟨us',j',(hs.2 b q).trans h2⟩
 .have e':ρ (ag b)=some d:=by
   unfold ah at e
   rwa [if_neg fun q=>by rw[← q,dH] at hy;cases hy] at e
  obtain⟨B,hl⟩:=ha.bk b d e'
  refine⟨B.change kt kl (fun o e hp=>(hs.2 b fun q=>?_).trans e) (fun dx o _ e hp=>(hs.2 dx fun q=>?_).trans e),hl⟩
  .rw[q,hw] at e;cases e;cases hp
  .obtain⟨es,n,hp⟩:=hp
   rw[q,hw] at e;cases e;cases hp
theorem Act.ownName{M:Model}{A:Around}{E:Value->Shared->Prop}{sc:Scope}{x:Str}{p:Pos}{ds:List D}{Q:Value->Shared->Prop}(ha:Act G s₀ env N α s ρ)(hE:EOk sc env)(hd:(x==("__debug__":Str))=false)(hy:aU x=false)(hx:ρ x=some (.own ds))
  (h:∀a vs n,α x=some a->s.heap.get? a=some (aJ vs n)->Rps s.heap (Nu N α) vs ds->Q (.ref a) s):wpAny M A (eval (.Name x p) env) Q E s:=by
 obtain⟨m,cm,i,hv⟩:=ha.ex
 obtain⟨v,h1,h2⟩:=hv x _ hx hy
 cases h2 with
 | clean r=>cases r
 | own e hl r=>
  have fin:=h _ _ _ e hl r
  unfold valOf at h1
  split at h1
  .rename_i q;exact wpAny_Name (wpAny_loadName_local hE.kind' q i.toInCall.ns h1 fin) hd
  .rename_i q
   obtain⟨c,hc⟩:=Option.isSome_iff_exists.mp (ha.cells x (.inl q))
   exact wpAny_Name (wpAny_loadName_cell hE.kind' q hc (h1 ▸ i.cell x c hc) fin) hd
  .cases h1
end
noncomputable def jL(o:Expr)(name:Str)(apos:Pos)(args:List Expr)(pos:Pos):Prop:=
 ∀env,∃pl:Sem Bool,eval (.Call (.Attribute o name apos) args [] pos) env=(do
   let ov ← eval o env
   standAt apos.atName
   let (f,first) ← holding [ov] (getMethod ov name pl)
   callWith pos f first (backTo pos (starEach args env)) [])
section
variable {G:ap} {k:Nat} {sc:Scope}
theorem S1.append{x:Str}{p apos pos pos':Pos}{e:Expr}{m:aa->Option D}(hf:jL (.Name x p) (Str.ofString "append") apos [e] pos)(hd:(x==("__debug__":Str))=false)(hy:aU x=false)(hs:a9 e)
  (hsw:∀env,swapsWith (.Call (.Attribute (.Name x p) (Str.ofString "append") apos) [e] [] pos) none pos'.line env=pure false) (h:SE G k sc e m):
  S1 G k sc (.Expr (.Call (.Attribute (.Name x p) (Str.ofString "append") apos) [e] [] pos) pos') (fun ρ=>(m ρ).bind fun d=>match ρ x with
   | some (.own l)=>if d.clean=true∧l.length < 16777216 then some (.next (ah ρ x (.own (l++[d])))) else none
   | _=>none):=by
 intro A env N α s₀ s ρ o hA hE hb ha hρ
 refine ao hρ fun d ed hρ=>?_
 split at hρ
 .rename_i l hx
  split at hρ
  .cases hρ
   rename_i hc
   obtain⟨pl,he⟩:=hf env
   refine wpAny_Expr_any (MethodCall_ (pl:=pl) (ha.ownName hE hd hy hx fun a vs n hα hl r=>?_) he) (lu env hE) (hsw env)
   refine getMethod_builtin (T:="list") ⟨_,hl,rfl⟩ PySem.F.plainAttrs_list slot_list_append rfl (fun b q=>by cases q;exact⟨_,hl,rfl⟩) ?_
   refine callWith_method1 (args_cons (wpAny_mono (h A env N α s ρ d hA hE (ha.hk hb) ha.in ed) (fun v s1 h1=>args_nil ?_) fun _ _ x=>x) (hs [] env)) (hs [] env) rfl
   obtain⟨k₁,rt⟩:=h1
   refine wpAny_list_append_plain (items:=vs.toArray) ⟨n,k₁.heap _ _ hl⟩ (fun h' hl' hs'=>?_) (by simp;rw[r.length,sizeLine_eq];omega)
   obtain⟨j,e'⟩:=hl'
   have r':Rps s1.heap (Nu N α) (vs++[v]) (l++[d]):=(r.keep k₁.heap).append (.one (rt.rp hc.1))
   obtain⟨a',f'⟩:=(ha.keep k₁).mutate (tk:=s1.toks) hx hy hα hs' (us:=vs++[v]) (j:=j) (by rw[e'];simp) r'
   exact⟨rfl,α,a',(Fm.kp k₁).trans f'⟩
  .cases hρ
 .cases hρ
theorem S1.setItem{x:Str}{p p2 pos:Pos}{i e:Expr}{mi me:aa->Option D}(hd:(x==("__debug__":Str))=false)(hy:aU x=false)(hsw:∀env,swapsWith e (some (.Subscript (.Name x p) i p2)) pos.line env=pure false)(hi:SE G k sc i mi)(he:SE G k sc e me):
  S1 G k sc (.Assign [.Subscript (.Name x p) i p2] e pos) (fun ρ=>(me ρ).bind fun d=>(mi ρ).bind fun j=>match ρ x,j with
   | some (.own l),.int j=>if d.clean=true∧0≤j∧j < l.length∧j < 9223372036854775808 then some (.next (ah ρ x (.own (l.set j.toNat d)))) else none
   | _,_=>none):=by
 intro A env N α s₀ s ρ o hA hE hb ha hρ
 refine ao hρ fun d ed hρ=>?_
 refine ao hρ fun j ej hρ=>?_
 split at hρ
 .rename_i l j hx
  split at hρ
  .rename_i hc
   cases hρ
   refine wpAny_Assign_Subscript (wpAny_mono (he A env N α s ρ d hA hE (ha.hk hb) ha.in ed) (fun v s1 h1=>?_) fun _ _ x=>x) (hsw env)
   obtain⟨k₁,rt⟩:=h1
   refine(ha.keep k₁).ownName hE hd hy hx fun a vs n hα hl r=>?_
   refine wpAny_mono (hi A env N α s1 ρ _ hA hE ((ha.keep k₁).hk hb) (ha.keep k₁).in ej) (fun vi s2 h2=>?_) fun _ _ x=>x
   obtain⟨k₂,rt2⟩:=h2
   obtain⟨t,rfl⟩:=bG rt2
   refine PySem.W.ki_setAt (n:=n) (items:=vs.toArray) (k₂.heap _ _ hl) hc.2.1 hc.2.2.2 (by simp;rw[r.length];exact hc.2.2.1) ?_
   have r':Rps s2.heap (Nu N α) (vs.set j.toNat v) (l.set j.toNat d):=(r.keep k₂.heap).set _ ((rt.rp hc.1).keep k₂.heap)
   have e1:Obj.mapSeq (·.setIfInBounds j.toNat v) (aJ vs n)=aJ (vs.set j.toNat v) n:=by
    simp[Obj.mapSeq]
   obtain⟨a',f'⟩:=(ha.keep (k₁.trans k₂)).mutate (tk:=s2.toks) hx hy hα (Heap.SameBut.update s2.heap a (Obj.mapSeq (·.setIfInBounds j.toNat v))) (us:=vs.set j.toNat v) (j:=n) (by rw[Heap.get?_update_self _ (k₂.heap _ _ hl) (by rw[e1];rfl),e1]) r'
   exact⟨rfl,α,a',(Fm.kp (k₁.trans k₂)).trans f'⟩
  .cases hρ
 .cases hρ
end
end Mine
end
section
namespace Mine
open PySem PyProof.Rows PySem.W
theorem ye{R:WRecords}(xs:List WData):WShape.hasItems R xs .int=true->∃ns:List Int,xs=ns.map .int:=by
 induction xs with
 | nil=>exact fun _=>⟨[],rfl⟩
 | cons x xs ih=>
  intro h
  have h':(WShape.has R x .int&&WShape.hasItems R xs .int)=true:=h
  rw[Bool.and_eq_true] at h'
  obtain⟨ns,rfl⟩:=ih h'.2
  obtain⟨i,rfl⟩:=hasW_int h'.1
  exact⟨i :: ns,rfl⟩
theorem yf{P:Params}{h:Heap}{N:Addr->Prop}(ns:List Int):∀ {vs:List Value},WellAll P h vs (ns.map .int)->Rps h N vs (ns.map D.int):=by
 induction ns with
 | nil=>intro vs w;cases w;exact .nil
 | cons n ns ih=>
  intro vs w
  cases w with
  | cons a r=>
   cases a with
   | int _ t=>exact .cons (.int _ t) (ih r)
end Mine
end
section
namespace Mine
open PySem PyProof.Rows
mutual
noncomputable def D.py:D->PyData
 | .none=>.none
 | .bool b=>.bool b
 | .int i=>.int i
 | .str x=>.str x
 | .tup l=>.tuple (D.pys l)
 | .list l=>.list (D.pys l)
 | .own l=>.list (D.pys l)
 | .ref _=>.none
noncomputable def D.pys:List D->List PyData
 | []=>[]
 | d :: l=>d.py :: D.pys l
end
noncomputable def D.ok:Nat->D->Bool
 | _,.none=>true
 | _,.bool _=>true
 | _,.int _=>true
 | _,.str x=>PyData.strOk x
 | n+1,.tup l=>l.all (D.ok n)
 | n+1,.list l=>l.all (D.ok n)
 | n+1,.own l=>l.all (D.ok n)
 | _,_=>false
theorem tf{h:Heap}{a:Addr}{vs:List Value}{m:Nat}{ds:List D}(ha:h.get? a=some (a8 vs m))(ih:∀n,(∀x∈ds,D.ok n x=true)->∃as,ReadsAll h vs (D.pys ds) as)(n:Nat)(e:(D.tup ds).ok n=true):∃as,Reads h (.ref a) (D.tup ds).py as:=by
 cases n with
 | zero=>simp[D.ok] at e
 | succ n=>obtain⟨as,q⟩:=ih n (by simpa [D.ok] using e);exact⟨_,.tuple ha rfl rfl (by simpa using q)⟩
theorem th{h:Heap}{a:Addr}{vs:List Value}{m:Nat}{ds:List D}(ha:h.get? a=some (aJ vs m))(ih:∀n,(∀x∈ds,D.ok n x=true)->∃as,ReadsAll h vs (D.pys ds) as)(n:Nat)(e:(D.list ds).ok n=true):∃as,Reads h (.ref a) (D.list ds).py as:=by
 cases n with
 | zero=>simp[D.ok] at e
 | succ n=>obtain⟨as,q⟩:=ih n (by simpa [D.ok] using e);exact⟨_,.list ha rfl rfl (by simpa using q)⟩
theorem ti{a:Addr}{P:Prop}(n:Nat)(e:(D.ref a).ok n=true):P:=by cases n <;> simp[D.ok] at e
theorem Rp.reads{h:Heap}{N:Addr->Prop}{v:Value}{d:D}(n:Nat)(r:Rp h N v d)(e:d.ok n=true):∃as,Reads h v d.py as:=
 Rp.rec (motive_1:=fun v d _=>∀n,d.ok n=true->∃as,Reads h v d.py as) (motive_2:=fun v d _=>∀n,(∀x∈d,D.ok n x=true)->∃as,ReadsAll h v (D.pys d) as) (fun _ _=>⟨_,.none⟩) (fun b _ _=>⟨_,.bool b⟩) (fun i t _ _=>⟨_,.int i t⟩) (fun x t _ _=>⟨_,.str x t⟩) (fun ha _ ih=>tf ha ih) (fun ha _ _ ih=>th ha ih) (fun _ n e=>ti n e) (fun _ _=>⟨_,.nil⟩) (fun _ _ a b n e=>let ⟨_,p⟩:=a n (e _ (.head _));let ⟨_,q⟩:=b n fun d hd=>e d (.tail _ hd);⟨_,.cons p q⟩) r n e
theorem Rps.reads{h:Heap}{N:Addr->Prop}{v:List Value}{d:List D}(n:Nat)(r:Rps h N v d)(e:∀x∈d,D.ok n x=true):∃as,ReadsAll h v (D.pys d) as:=
 Rps.rec (motive_1:=fun v d _=>∀n,d.ok n=true->∃as,Reads h v d.py as) (motive_2:=fun v d _=>∀n,(∀x∈d,D.ok n x=true)->∃as,ReadsAll h v (D.pys d) as) (fun _ _=>⟨_,.none⟩) (fun b _ _=>⟨_,.bool b⟩) (fun i t _ _=>⟨_,.int i t⟩) (fun x t _ _=>⟨_,.str x t⟩) (fun ha _ ih=>tf ha ih) (fun ha _ _ ih=>th ha ih) (fun _ n e=>ti n e) (fun _ _=>⟨_,.nil⟩) (fun _ _ a b n e=>let ⟨_,p⟩:=a n (e _ (.head _));let ⟨_,q⟩:=b n fun d hd=>e d (.tail _ hd);⟨_,.cons p q⟩) r n e
theorem Rt.reads{h:Heap}{N:Addr->Prop}{v d}(n:Nat)(r:Rt h N v d)(e:d.ok n=true):∃as,Reads h v d.py as:=by
 cases r with
 | clean r=>exact r.reads n e
 | own ha r=>
  cases n with
  | zero=>simp[D.ok] at e
  | succ n=>obtain⟨as,q⟩:=r.reads n (by simpa [D.ok] using e);exact⟨_,.list ha rfl rfl (by simpa using q)⟩
theorem D.ok_lay:∀(n:Nat) (d:D),d.ok n=true->d.py.canLay0=true∧d.py.depth≤n:=by
 have all:∀(n:Nat),(∀d:D,d.ok n=true->d.py.canLay0=true∧d.py.depth≤n)->∀l:List D,(∀d∈l,D.ok n d=true)->PyData.canLayAll0 (D.pys l)=true∧PyData.depthAll (D.pys l)≤n:=by
  intro n ih l
  induction l with
  | nil=>intro _;simp[D.pys,PyData.canLayAll0,PyData.depthAll]
  | cons d l hi=>
   intro h
   have h1:=ih d (h d (.head _))
   have h2:=hi fun e he=>h e (.tail _ he)
   simp only[D.pys,PyData.canLayAll0,PyData.depthAll,h1.1,h2.1,Bool.and_self,true_and]
   have a1:=h1.2
   have a2:=h2.2
   omega
 intro n
 induction n with
 | zero=>intro d h;cases d <;> simp_all [D.ok,D.py,PyData.canLay0,PyData.depth]
 | succ n ih=>
  intro d h
  cases d with
  | none=>simp[D.py,PyData.canLay0,PyData.depth]
  | ref a=>simp[D.ok] at h
  | bool b=>simp[D.py,PyData.canLay0,PyData.depth]
  | int i=>simp[D.py,PyData.canLay0,PyData.depth]
  | str x=>simp[D.ok] at h;simp[D.py,PyData.canLay0,PyData.depth,h]
  | tup l=>
   have q:=all n ih l (by simpa [D.ok] using h)
   have q2:=q.2
   simp only[D.py,PyData.canLay0,PyData.depth,q.1,true_and];omega
  | list l=>
   have q:=all n ih l (by simpa [D.ok] using h)
   have q2:=q.2
   simp only[D.py,PyData.canLay0,PyData.depth,q.1,true_and];omega
  | own l=>
   have q:=all n ih l (by simpa [D.ok] using h)
   have q2:=q.2
   simp only[D.py,PyData.canLay0,PyData.depth,q.1,true_and];omega
noncomputable def bj(a b:D):Option Bool:=if a.ok 8&&b.ok 8 then some (PyData.eqv a.py b.py) else none
noncomputable def bc(a b:D):Option Bool:=if a.ok 8&&b.ok 8 then some (!PyData.eqv a.py b.py) else none
section
variable {G:ap} {k:Nat} {sc:Scope}
theorem AOk.room{A:Around}(h:AOk A k){n:Nat}(hn:n≤200):A.units+n < cLine:=by
 have:=h.2.2;show _ < 9900;omega
theorem ee(a b:D)(c:Bool)(h:bj a b=some c):dI G k .Eq a b c:=by
 intro A N s va vb hA hb lo ra rb
 unfold bj at h
 split at h
 .rename_i hc
  cases h
  simp only[Bool.and_eq_true] at hc
  obtain⟨as,qa⟩:=ra.reads 8 hc.1
  obtain⟨bs,qb⟩:=rb.reads 8 hc.2
  have la:=D.ok_lay 8 a hc.1
  have lb:=D.ok_lay 8 b hc.2
  exact SeqAt.compareEq_reads qa qb la.1 lb.1 (hA.room (by have:=la.2;omega)) ⟨rfl,Kp.refl s⟩
 .cases h
theorem c7(a b:D)(c:Bool)(h:bc a b=some c):dI G k .NotEq a b c:=by
 intro A N s va vb hA hb lo ra rb
 unfold bc at h
 split at h
 .rename_i hc
  cases h
  simp only[Bool.and_eq_true] at hc
  obtain⟨as,qa⟩:=ra.reads 8 hc.1
  obtain⟨bs,qb⟩:=rb.reads 8 hc.2
  have la:=D.ok_lay 8 a hc.1
  have lb:=D.ok_lay 8 b hc.2
  exact SeqAt.compareNe_reads qa qb la.1 lb.1 (hA.room (by have:=la.2;omega)) ⟨rfl,Kp.refl s⟩
 .cases h
noncomputable def lw(T:String):D->Bool
 | .none=>false
 | .bool _=>T=="bool"||T=="int"
 | .int _=>T=="int"
 | .str _=>T=="str"
 | .tup _=>T=="tuple"
 | .list _=>T=="list"
 | .own _=>T=="list"
 | .ref _=>false
noncomputable def D.isRef:D->Bool
 | .ref _=>true
 | _=>false
theorem yg{A:Around}{N:Addr->Prop}{s:Shared}{v:Value}{d:D}{T:String}(hT:T="int"∨T="bool"∨T="tuple"∨T="list"∨T="str")(r:Rt s.heap N v d)(hr:d.isRef=false):
  wpAny (model G.prog G.w) A (call (.builtin "isinstance") [v,.type T]) (fun x s'=>x=.bool (lw T d)∧Kp s s') aQ s:=by
 have ok:∀b,(fun x s'=>x=Value.bool b∧Kp s s') (Value.bool b) s:=fun b=>⟨rfl,Kp.refl s⟩
 have tk:∀b,(fun x s'=>x=Value.bool b∧Kp s s') (Value.bool b) { s with toks:=s.toks+1 }:=fun b=>⟨rfl,Kp.toks s _⟩
 cases r with
 | own ha _=>
  rcases hT with rfl | rfl | rfl | rfl | rfl
  .exact IsiPair.list_int ha rfl (tk _)
  .exact IsiPair.list_bool ha rfl (tk _)
  .exact IsiPair.list_tuple ha rfl (tk _)
  .exact IsiPair.list_list ha rfl (ok _)
  .exact IsiPair.list_str ha rfl (tk _)
 | clean r=>
  cases r with
  | ref a=>cases hr
  | none=>
   rcases hT with rfl | rfl | rfl | rfl | rfl
   .exact IsiPair.NoneType_int (tk _)
   .exact IsiPair.NoneType_bool (tk _)
   .exact IsiPair.NoneType_tuple (tk _)
   .exact IsiPair.NoneType_list (tk _)
   .exact IsiPair.NoneType_str (tk _)
  | bool b=>
   rcases hT with rfl | rfl | rfl | rfl | rfl
   .exact IsiPair.bool_int (ok _)
   .exact IsiPair.bool_bool (ok _)
   .exact IsiPair.bool_tuple (tk _)
   .exact IsiPair.bool_list (tk _)
   .exact IsiPair.bool_str (tk _)
  | int i t=>
   rcases hT with rfl | rfl | rfl | rfl | rfl
   .exact IsiPair.int_int (ok _)
   .exact IsiPair.int_bool (tk _)
   .exact IsiPair.int_tuple (tk _)
   .exact IsiPair.int_list (tk _)
   .exact IsiPair.int_str (tk _)
  | str x t=>
   rcases hT with rfl | rfl | rfl | rfl | rfl
   .exact IsiPair.str_int (tk _)
   .exact IsiPair.str_bool (tk _)
   .exact IsiPair.str_tuple (tk _)
   .exact IsiPair.str_list (tk _)
   .exact IsiPair.str_str (ok _)
  | tup ha _=>
   rcases hT with rfl | rfl | rfl | rfl | rfl
   .exact IsiPair.tuple_int ha rfl (tk _)
   .exact IsiPair.tuple_bool ha rfl (tk _)
   .exact IsiPair.tuple_tuple ha rfl (ok _)
   .exact IsiPair.tuple_list ha rfl (tk _)
   .exact IsiPair.tuple_str ha rfl (tk _)
  | list ha _ _=>
   rcases hT with rfl | rfl | rfl | rfl | rfl
   .exact IsiPair.list_int ha rfl (tk _)
   .exact IsiPair.list_bool ha rfl (tk _)
   .exact IsiPair.list_tuple ha rfl (tk _)
   .exact IsiPair.list_list ha rfl (ok _)
   .exact IsiPair.list_str ha rfl (tk _)
structure BName (G:ap) (sc:Scope) (x:Str) (v:Value):Prop where
 kind:sc.names.lookup x=some .globalImplicit
 dbg:(x==("__debug__":Str))=false
 no:G.mg x=none
 is:G.mb x=some v
theorem BName.eval{x:Str}{v:Value}(b:BName G sc x v){A:Around}{env:Env}{s:Shared}{p:Pos}{Q:Value->Shared->Prop}{E:Value->Shared->Prop}(hE:EOk sc env)(hb:Hk G.base s.heap)(h:Q v s):wpAny (model G.prog G.w) A (PySem.eval (.Name x p) env) Q E s:=
 Calls.Name_function_global hE.kind' (by rw[hE.kindOf];exact b.kind) (Calls.loadGlobal_builtin (mg:=G.mg) (mb:=G.mb) (by rw[hE.globals];exact G.g.keeps hb) b.no (by rw[hE.builtins];exact G.b.keeps hb) b.is h) b.dbg
theorem SE.isinst{x y:Str}{T:String}{e:Expr}{p q pos:Pos}{m:aa->Option D}(hT:T="int"∨T="bool"∨T="tuple"∨T="list"∨T="str")(bx:BName G sc x (.builtin "isinstance"))(bt:BName G sc y (.type T))(hs:a9 e)(h:SE G k sc e m):
  SE G k sc (.Call (.Name x p) [e,.Name y q] [] pos) (fun ρ=>(m ρ).bind fun d=>if d.isRef then none else some (.bool (lw T d))):=by
 intro A env N α s ρ d hA hE hb hi hρ
 refine ao hρ fun d' ed hρ=>?_
 split at hρ
 .cases hρ
 rename_i hr
 cases hρ
 refine Call_ (bx.eval hE hb (callWith_builtin1 (args_cons (wpAny_mono (h A env N α s ρ d' hA hE hb hi ed) (fun v s1 h1=>?_) fun _ _ x=>x) (hs _ env)) (hs _ env) rfl))
 refine args_cons (bt.eval hE (aZ hb h1.1) (args_nil ?_)) rfl
 refine wpAny_mono (yg hT h1.2 (by simpa using hr)) (fun v' s2 h2=>?_) fun _ _ x=>x
 obtain⟨rfl,k₂⟩:=h2
 exact⟨h1.1.trans k₂,.clean (.bool _)⟩
end
noncomputable def bg:List D->Option D
 | [d]=>(cZ d).bind fun l=>if l.length < 9223372036854775808 then some (.int l.length) else none
 | _=>none
noncomputable def dw : List D->Option (List Int)
 | []=>some []
 | .int i :: l=>(dw l).map (i :: ·)
 | _=>none
noncomputable def gY:List D->Option D
 | [d]=>(D.items? d).bind fun l=>(dw l).map fun ns=>.int ns.sum
 | _=>none
noncomputable def HK:List D->Option D
 | [.int a,.int b]=>some (.int (if b > a then b else a))
 | _=>none
noncomputable def mV:List D->Option D
 | [.int a,.int b]=>some (.int (if b < a then b else a))
 | _=>none
theorem Rps.ints{h:Heap}{N:Addr->Prop}:∀ {vs ds} {ns:List Int},Rps h N vs ds->dw ds=some ns->IntsAre vs ns
 | _,_,_,.nil,e=>by cases e;exact .nil
 | _,_,_,.cons (d:=d) x r,e=>by
  cases d with
  | int i=>
   simp only[dw] at e
   obtain⟨ms,e1,rfl⟩:=Option.map_eq_some_iff.mp e
   cases x
   exact .cons _ _ (Rps.ints r e1)
  | _=>simp[dw] at e
theorem mW:∀ {vs:List Value} {ns:List Int},IntsAre vs ns->∀(i:Nat) v,vs[i]? = some v->∃t,v=.int (ns.getD i 0) t
 | _,_,.nil,i,v,h=>by simp at h
 | _,_,.cons n t r,0,v,h=>by simp at h;subst h;exact⟨t,rfl⟩
 | _,_,.cons n t r,i+1,v,h=>by
  obtain⟨t',e⟩:=mW r i v (by simpa using h)
  exact⟨t',by simpa using e⟩
section
variable {G:ap} {k:Nat} {sc:Scope}
theorem cz:jI G k (.builtin "len") bg:=by
 intro A N s vals ds r hA hb lo ra e
 unfold bg at e
 split at e
 .rename_i d
  refine ao e fun l el e=>?_
  split at e
  .rename_i hz
   cases e
   cases ra with
   | cons rd rn=>
    cases rn
    have fin:∀n:Nat,n=l.length->Po s N (.int l.length) (.int n (s.toks+1)) { s with toks:=s.toks+1+1 }:=fun n e=>by subst e;exact⟨Kp.toks s _,.clean (.int _ _)⟩
    have list:∀ {a:Addr} {vs:List Value} {n:Nat},s.heap.get? a=some (aJ vs n)->Rps s.heap N vs l->wpAny (model G.prog G.w) A (call (.builtin "len") [.ref a]) (Po s N (.int l.length)) aQ s:=fun {a vs n} ha rs=>
     Calls.call_len_list ⟨_,ha,rfl,n,rfl⟩ (by rw[List.size_toArray,rs.length];omega) (fin _ (by rw[List.size_toArray,rs.length]))
    cases rd with
    | own ha rs=>simp[cZ] at el;subst el;exact list ha rs
    | clean r=>
     cases r with
     | list ha _ rs=>simp[cZ] at el;subst el;exact list ha rs
     | @tup a vs n _ ha rs=>
      simp[cZ] at el;subst el
      exact len_tuple ⟨_,ha,rfl,n,rfl⟩ (by rw[List.size_toArray,rs.length];omega) (fin _ (by rw[List.size_toArray,rs.length]))
     | none=>cases el
     | ref _=>cases el
     | bool _=>cases el
     | int _ _=>cases el
     | str _ _=>cases el
  .cases e
 .cases e
theorem tj[NeZero k]:jI G k (.builtin "sum") gY:=by
 intro A N s vals ds r hA hb lo ra e
 unfold gY at e
 split at e
 .rename_i d
  refine ao e fun l el e=>?_
  obtain⟨ns,en,rfl⟩:=Option.map_eq_some_iff.mp e
  cases ra with
  | cons rd rn=>
   cases rn
   obtain⟨a,vs,n,rfl,ha,rs⟩:=rd.items el
   have hi:=rs.ints en
   refine call_sum_walkG (wpAny_pyIter_list ⟨_,ha,rfl,n,rfl⟩ ?_)
   have hne:a≠s.heap.objs.size:=Nat.ne_of_lt (Heap.lt_size ha)
   refine⟨_,_,_,_,_,_,(fun i=>ns.getD i 0),rfl,Walks.list (A:=A.in1) hA.no s.heap.objs.size a hne vs.toArray,⟨⟨_,Heap.get?_push_size _ rfl,rfl,rfl⟩,⟨_,Heap.get?_push_of_some _ ha,rfl,n,rfl⟩⟩,fun b hb=>?_,fun i v hv=>?_,fun h' tk t' hk=>?_⟩
   .simp at hb
    have:=Heap.size_push s.heap { cls:=.type "list_iterator",data:=.fields #[.ref a,.int 0 0] }
    rcases hb with rfl | rfl
    .rw[this];exact Nat.lt_succ_self _
    .rw[this];exact Nat.lt_succ_of_lt (Heap.lt_size ha)
   .exact mW hi i v (by simpa using hv)
   .refine⟨⟨h',tk,rfl,fun b o e=>hk b o (fun q=>?_) (Heap.get?_push_of_some _ e)⟩,?_⟩
    .simp at q;subst q;rw[b4] at e;cases e
    .rw[preSum_getD,List.size_toArray,hi.length,List.take_length];exact .clean (.int _ _)
 .cases e
theorem yh[NeZero k]:jI G k (.builtin "min") mV:=by
 intro A N s vals ds r hA hb lo ra e
 unfold mV at e
 split at e
 .cases e
  cases ra with
  | cons r1 ra=>cases ra with
   | cons r2 ra=>
    cases ra
    obtain⟨t,rfl⟩:=bG r1
    obtain⟨u,rfl⟩:=bG r2
    refine min_two_ints hA.no fun h' tk hk=>⟨⟨h',tk,rfl,hk⟩,?_⟩
    split <;> exact .clean (.int _ _)
 .cases e
theorem SE.bcall{x:Str}{id:String}{e:Expr}{rest:List Expr}{p pos:Pos}{Φ:List D->Option D}{ms:aa->Option (List D)}(hf:jI G k (.builtin id) Φ)(b:BName G sc x (.builtin id))(hs:a9 e)(hp:∀env,(backTo pos (starEach rest env)).any (·.1)=false)(h:SEs G k sc (e :: rest) ms):
  SE G k sc (.Call (.Name x p) (e :: rest) [] pos) (fun ρ=>(ms ρ).bind fun ds=>Φ ds):=SE.builtin hf b.kind b.dbg b.no b.is hs hp h
theorem SF.listOf{x:Str}{e:Expr}{p pos:Pos}{m:aa->Option D}(b:BName G sc x (.type "list"))(hs:a9 e)(h:SE G k sc e m):
  SF G k sc (.Call (.Name x p) [e] [] pos) (fun ρ=>(m ρ).bind fun d=>(cZ d).bind fun l=>if l.length≤16777216 then some l else none):=by
 intro A env N α s ρ ds hA hE hb hin hρ
 refine ao hρ fun d ed hρ=>?_
 refine ao hρ fun l el hρ=>?_
 split at hρ
 .rename_i hz
  have hρ:=Option.some.inj hρ
  subst hρ
  refine Call_ (b.eval hE hb (callWith_type1 (args_cons (wpAny_mono (h A env N α s ρ d hA hE hb hin ed) (fun v s1 h1=>args_nil ?_) fun _ _ x=>x) (hs _ env)) (hs _ env) rfl))
  obtain⟨k₁,r⟩:=h1
  have list:∀ {a:Addr} {vs:List Value} {n:Nat} {T:String},T="list"∨T="tuple"->s1.heap.get? a=some { cls:=.type T,data:=.seq vs.toArray n }->Rps s1.heap (Nu N α) vs l->wpAny (model G.prog G.w) A (call (.type "list") [.ref a]) (fun v s'=>Kp s s'∧∃a vs n,v=.ref a∧s.heap.get? a=none∧s'.heap.get? a=some (aJ vs n)∧Rps s'.heap (ch (Nu N α) a) vs l) aQ s1:=fun {a vs n T} hT ha rs=>by
   refine call_list_seq a hT ha rfl rfl (fun h' c hk hD=>?_) (by simp;rw[rs.length,sizeLine_eq];exact hz)
   exact⟨k₁.trans ⟨h',s1.toks,rfl,hk⟩,_,vs,c,rfl,k₁.gone (b4 _),hD,rs.off (b4 _) hk⟩
  cases r with
  | own ha rs=>simp[cZ] at el;subst el;exact list (.inl rfl) ha rs
  | clean r=>
   cases r with
   | list ha _ rs=>simp[cZ] at el;subst el;exact list (.inl rfl) ha rs
   | tup ha rs=>simp[cZ] at el;subst el;exact list (.inr rfl) ha rs
   | none=>cases el
   | ref _=>cases el
   | bool _=>cases el
   | int _ _=>cases el
   | str _ _=>cases el
 .cases hρ
theorem yi[NeZero k]{fz:Bool}{target:Expr}{t:Tg}{A:Around}{N:Addr->Prop}{s S:Shared}{r:Addr}{n:Int}{t0 u v:Tok}(ht:bV target=some t)(hA:AOk A k)(kS:Kp s S)(hR:IsRange S.heap r 0 n 1 t0 u v)(hz:n≤16777216∧-16777216≤n):
  wpAny (model G.prog G.w) A (pyIter (.ref r)) (pr G A target fz N s (ca 0 n.toNat)) aQ S:=by
 refine wpAny_pyIter_range hR (small_one (by omega) (by omega) (by omega) (by omega)) ?_
 have hsz:Builtin.Range.rangeSize 0 n 1=(n.toNat:Int):=by rw[rangeSize_one];split <;> omega
 have hI:(S.heap.push { cls:=.type "range_iterator",data:=.fields #[rawInt 0,rawInt (Builtin.Range.rangeSize 0 n 1),rawInt 1] }).get? S.heap.objs.size=some { cls:=.type "range_iterator",data:=.fields #[rawInt 0,rawInt (Builtin.Range.rangeSize 0 n 1),rawInt 1] }:=Heap.get?_push_size _ rfl
 have hg:s.heap.get? S.heap.objs.size=none:=kS.gone (b4 _)
 refine⟨kS.trans (Kp.push S _),by rw[sizeLine_eq];simp[ca];omega,S.heap.objs.size,[S.heap.objs.size],[S.heap.objs.size],[],[],_,rfl,Wk.range hA.no ht S.heap.objs.size 0 n.toNat,?_,.nil,fun b hb=>?_,fun b hb=>?_,fun b hb=>?_⟩
 .show Heap.get? _ _=_
  rw[hsz] at hI
  rw[hsz,hI]
  simp
 .rw[List.mem_singleton.mp hb];exact hg
 .rw[List.mem_singleton.mp hb];exact⟨_,hI⟩
 .rw[List.mem_singleton.mp hb];exact .inl hg
theorem SI.range[NeZero k]{fz:Bool}{target e:Expr}{t:Tg}{x:Str}{p pos:Pos}{m:aa->Option D}(ht:bV target=some t)(b:BName G sc x (.type "range"))(hs:a9 e)(h:SE G k sc e m):
  SI G k sc fz target (.Call (.Name x p) [e] [] pos) (fun ρ=>(m ρ).bind fun d=>match d with | .int n=>if n≤16777216∧-16777216≤n then some (ca 0 n.toNat) else none | _=>none):=by
 intro A env N α s ρ ds hA hE hb hin hρ
 refine ao hρ fun d ed hρ=>?_
 split at hρ
 .rename_i n
  split at hρ
  .rename_i hz
   cases hρ
   refine Call_ (b.eval hE hb (callWith_type1 (args_cons (wpAny_mono (h A env N α s ρ _ hA hE hb hin ed) (fun v s1 h1=>args_nil ?_) fun _ _ x=>x) (hs _ env)) (hs _ env) rfl))
   obtain⟨k₁,r⟩:=h1
   obtain⟨u,rfl⟩:=bG r
   refine call_range_1 ?_
   exact yi ht hA (k₁.trans ⟨_,s1.toks+1+1,rfl,fun b o e=>Heap.get?_push_of_some _ e⟩) (IsRange.new _ _ _ _ _ _ _) hz
  .cases hρ
 .cases hρ
noncomputable def fE(a b:D):Option Bool:=match b with
 | .none=>some a.isNone
 | _=>none
noncomputable def i3(a b:D):Option Bool:=match b with
 | .none=>some (!a.isNone)
 | _=>none
theorem tq{h:Heap}{N v d}(r:Rt h N v d):(v==Value.none)=d.isNone:=by
 cases r with
 | clean r=>cases r <;> rfl
 | own _ _=>rfl
theorem jM(a b:D)(c:Bool)(h:fE a b=some c):dI G k .Is a b c:=by
 intro A N s va vb hA hb lo ra rb
 unfold fE at h
 split at h
 .cases h
  have:vb=.none:=rb.isNone rfl
  subst this
  exact is_none_gen ⟨by rw[tq ra],Kp.refl s⟩
 .cases h
theorem px(a b:D)(c:Bool)(h:i3 a b=some c):dI G k .IsNot a b c:=by
 intro A N s va vb hA hb lo ra rb
 unfold i3 at h
 split at h
 .cases h
  have:vb=.none:=rb.isNone rfl
  subst this
  exact isnot_none_gen ⟨by rw[tq ra],Kp.refl s⟩
 .cases h
theorem mY{A:Around}{N:Addr->Prop}{s:Shared}{v:Value}{d:D}{b:Bool}(r:Rt s.heap N v d)(e:d.truth? = some b):wpAny (model G.prog G.w) A (truthy v) (fun b' s'=>b'=b∧Kp s s') aQ s:=by
 cases d with
 | none=>
  cases e
  have:v=.none:=r.isNone rfl
  subst this
  exact truthy_none ⟨rfl,Kp.refl s⟩
 | bool c=>
  cases e
  cases r with
  | clean r=>cases r;exact wpAny_truthy_bool ⟨rfl,Kp.refl s⟩
 | list l=>
  simp only[D.truth?] at e
  split at e
  .rename_i hz
   cases e
   cases r with
   | clean r=>
    cases r with
    | @list a vs n _ ha hn rs=>
     refine wpAny_truthy_list ⟨_,ha,rfl,n,rfl⟩ (by rw[List.size_toArray,rs.length];omega) ⟨?_,Kp.toks s _⟩
     cases rs <;> rfl
  .cases e
 | own l=>
  simp only[D.truth?] at e
  split at e
  .rename_i hz
   cases e
   cases r with
   | clean r=>cases r
   | @own a vs n _ ha rs=>
    refine wpAny_truthy_list ⟨_,ha,rfl,n,rfl⟩ (by rw[List.size_toArray,rs.length];omega) ⟨?_,Kp.toks s _⟩
    cases rs <;> rfl
  .cases e
 | _=>cases e
noncomputable def mZ(e:Expr):Prop:=∀env whole,isTrue e env whole=(do let v ← whole;standAt e.pos;holding [v] (truthy v))
theorem ST.plain{e:Expr}{m:aa->Option D}(hp:mZ e)(h:SE G k sc e m):ST G k sc e (fun ρ=>(m ρ).bind D.truth?):=by
 intro A env N α s ρ b hA hE hb hi hρ
 refine ao hρ fun d ed hρ=>?_
 refine isTrue_plain (wpAny_mono (h A env N α s ρ d hA hE hb hi ed) (fun v s1 h1=>?_) fun _ _ x=>x) (hp env _)
 exact wpAny_mono (mY h1.2 hρ) (fun b' s2 h2=>⟨h2.1,h1.1.trans h2.2⟩) fun _ _ x=>x
theorem SE.ifexp{test body orelse:Expr}{pos:Pos}{c:aa->Option Bool}{ma mb:aa->Option D}(ht:ST G k sc test c)(h1:SE G k sc body ma)(h2:SE G k sc orelse mb):
  SE G k sc (.IfExp test body orelse pos) (fun ρ=>(c ρ).bind fun b=>if b then ma ρ else mb ρ):=by
 intro A env N α s ρ d hA hE hb hi hρ
 refine ao hρ fun b eb hρ=>?_
 refine IfExp_ (wpAny_mono (ht A env N α s ρ b hA hE hb hi eb) (fun b' s1 h₁=>?_) fun _ _ x=>x)
 obtain⟨rfl,k₁⟩:=h₁
 cases b' with
 | true=>exact wpAny_mono (h1 A env N α s1 ρ d hA hE (aZ hb k₁) (hi.keep k₁.heap) hρ) (fun v s2 h₂=>⟨k₁.trans h₂.1,h₂.2⟩) fun _ _ x=>x
 | false=>exact wpAny_mono (h2 A env N α s1 ρ d hA hE (aZ hb k₁) (hi.keep k₁.heap) hρ) (fun v s2 h₂=>⟨k₁.trans h₂.1,h₂.2⟩) fun _ _ x=>x
theorem SE.and1{e:Expr}{pos:Pos}{op:BoolOp}{m:aa->Option D}(h:SE G k sc e m):SE G k sc (.BoolOp op [e] pos) m:=
 fun A env N α s ρ d hA hE hb hi hρ=>BoolOp_one (h A env N α s ρ d hA hE hb hi hρ)
theorem SE.and{e e2:Expr}{rest:List Expr}{pos:Pos}{m n:aa->Option D}(h:SE G k sc e m)(hr:SE G k sc (.BoolOp .And (e2 :: rest) pos) n):
  SE G k sc (.BoolOp .And (e :: e2 :: rest) pos) (fun ρ=>(m ρ).bind fun d=>(D.truth? d).bind fun b=>if b then n ρ else some d):=by
 intro A env N α s ρ d hA hE hb hi hρ
 refine ao hρ fun d' ed hρ=>?_
 refine ao hρ fun b eb hρ=>?_
 refine BoolOp_and (wpAny_mono (h A env N α s ρ d' hA hE hb hi ed) (fun v s1 h1=>?_) fun _ _ x=>x)
 refine wpAny_mono (mY h1.2 eb) (fun b' s2 h2=>?_) fun _ _ x=>x
 obtain⟨rfl,k₂⟩:=h2
 have kk:=h1.1.trans k₂
 cases b' with
 | true=>exact wpAny_mono (hr A env N α s2 ρ d hA hE (aZ hb kk) (hi.keep kk.heap) hρ) (fun v s3 h3=>⟨kk.trans h3.1,h3.2⟩) fun _ _ x=>x
 | false=>cases hρ;exact⟨kk,h1.2.keep k₂.heap⟩
theorem SE.not{e:Expr}{pos:Pos}{m:aa->Option D}(h:SE G k sc e m):SE G k sc (.UnaryOp .Not e pos) (fun ρ=>(m ρ).bind fun d=>(D.truth? d).map fun b=>.bool (!b)):=by
 intro A env N α s ρ d hA hE hb hi hρ
 refine ao hρ fun d' ed hρ=>?_
 obtain⟨b,eb,rfl⟩:=Option.map_eq_some_iff.mp hρ
 refine UnaryOp_ (wpAny_mono (h A env N α s ρ d' hA hE hb hi ed) (fun v s1 h1=>?_) fun _ _ x=>x)
 refine not_of (wpAny_mono (mY h1.2 eb) (fun b' s2 h2=>?_) fun _ _ x=>x)
 obtain⟨rfl,k₂⟩:=h2
 exact⟨h1.1.trans k₂,.clean (.bool _)⟩
end
section
variable {G:ap} {k:Nat} {sc:Scope}
noncomputable def eU(f g:D->D->Option Bool)(a b c:aa->Option D):aa->Option Bool:=fun ρ=>(a ρ).bind fun x=>(b ρ).bind fun y=>(f x y).bind fun t=>if t then(c ρ).bind fun z=>g y z else some false
theorem jN{l r₁ r₂:Expr}{o1 o2:CmpOp}{pos:Pos}{ma mb mc:aa->Option D}{f g:D->D->Option Bool}(hf:∀a b c,f a b=some c->dI G k o1 a b c)(hg:∀a b c,g a b=some c->dI G k o2 a b c)(hm:lastMarks [o1,o2] [r₁,r₂]=false)
  (ha:SE G k sc l ma) (hb':SE G k sc r₁ mb) (hc:SE G k sc r₂ mc):ST G k sc (.Compare l [o1,o2] [r₁,r₂] pos) (eU f g ma mb mc):=by
 intro A env N α s ρ d hA hE hb hi hρ
 refine ao hρ fun x ex hρ=>?_
 refine ao hρ fun y ey hρ=>?_
 refine ao hρ fun t et hρ=>?_
 refine isTrue_chain (wpAny_mono (ha A env N α s ρ x hA hE hb hi ex) (fun va s1 h1=>?_) fun _ _ x=>x) hm
 refine test_link (wpAny_mono (hb' A env N α s1 ρ y hA hE (aZ hb h1.1) (hi.keep h1.1.heap) ey) (fun vb s2 h2=>?_) fun _ _ x=>x)
 have k₂:=h1.1.trans h2.1
 refine wpAny_mono (hf x y t et A _ s2 va vb hA (aZ hb k₂) (hi.low.keep k₂.heap) (h1.2.keep h2.1.heap) h2.2) (fun v s3 h3=>?_) fun _ _ x=>x
 obtain⟨rfl,k₃⟩:=h3
 have kk:=k₂.trans k₃
 refine wpAny_truthy_bool ?_
 cases t with
 | false=>cases hρ;exact⟨rfl,kk⟩
 | true=>
  simp only[if_true] at hρ ⊢
  refine ao hρ fun z ez ec=>?_
  refine test_last (wpAny_mono (hc A env N α s3 ρ z hA hE (aZ hb kk) (hi.keep kk.heap) ez) (fun vc s4 h4=>?_) fun _ _ x=>x)
  have k₄:=kk.trans h4.1
  refine wpAny_mono (hg y z d ec A _ s4 vb vc hA (aZ hb k₄) (hi.low.keep k₄.heap) ((h2.2.keep k₃.heap).keep h4.1.heap) h4.2) (fun v s5 h5=>?_) fun _ _ x=>x
  obtain⟨rfl,k₅⟩:=h5
  exact wpAny_truthy_bool ⟨rfl,k₄.trans k₅⟩
theorem yj(h:Heap):h.get? (h.objs.size+1)=none:=by
 cases q:h.get? (h.objs.size+1) with
 | none=>rfl
 | some o=>exact absurd (Heap.lt_size q) (Nat.not_lt.mpr (Nat.le_succ _))
end
noncomputable def jO:List Int->Option Int
 | []=>none
 | n :: ns=>some (ns.foldl (fun a b=>if b < a then b else a) n)
theorem yk{f:Int->Int->Int}{n:Int}{ns:List Int}{k:Nat}(h:k < ns.length):(ns.take (k+1)).foldl f n=f ((ns.take k).foldl f n) (ns.getD k 0):=by
 rw[List.take_add_one,List.getElem?_eq_getElem h,List.foldl_append,List.getD_eq_getElem?_getD,List.getElem?_eq_getElem h];rfl
theorem ts:∀(n:Int) (ns:List Int) (k:Nat),k≤ns.length->(n :: ns).getD (argBest (fun i j=>decide ((n :: ns).getD i 0 < (n :: ns).getD j 0)) k) 0=(ns.take k).foldl (fun a b=>if b < a then b else a) n
 | n,ns,0,_=>by simp[argBest]
 | n,ns,k+1,h=>by
  have ih:=ts n ns k (by omega)
  rw[yk (by omega),← ih]
  simp only[argBest]
  by_cases q:(n :: ns).getD (k+1) 0 < (n :: ns).getD (argBest (fun i j=>decide ((n :: ns).getD i 0 < (n :: ns).getD j 0)) k) 0
  .rw[if_pos (by simpa using q)]
   have q':ns.getD k 0 < (n :: ns).getD (argBest (fun i j=>decide ((n :: ns).getD i 0 < (n :: ns).getD j 0)) k) 0:=by simpa using q
   rw[if_pos q'];simp
  .rw[if_neg (by simpa using q)]
   have q':¬ns.getD k 0 < (n :: ns).getD (argBest (fun i j=>decide ((n :: ns).getD i 0 < (n :: ns).getD j 0)) k) 0:=by simpa using q
   rw[if_neg q']
section
variable {G:ap} {k:Nat} {sc:Scope}
theorem yl{A:Around}{N:Addr->Prop}{s:Shared}{a:Addr}{vs:List Value}{n:Nat}(hh:A.handled=none)(ha:s.heap.get? a=some (aJ vs n)):
  Walks G.prog G.w A s.heap.objs.size [s.heap.objs.size,a] [s.heap.objs.size] vs.toArray.size (fun i v=>vs.toArray[i]? = some v) (fun i h=>h.IsListIter s.heap.objs.size a i∧h.IsList a vs.toArray)∧
  (let h':=s.heap.push { cls:=.type "list_iterator",data:=.fields #[.ref a,.int 0 0] }
   h'.IsListIter s.heap.objs.size a 0∧h'.IsList a vs.toArray∧∀b∈[s.heap.objs.size,a],b < h'.objs.size):=by
 have hne:a≠s.heap.objs.size:=Nat.ne_of_lt (Heap.lt_size ha)
 refine⟨Walks.list hh s.heap.objs.size a hne vs.toArray,⟨_,Heap.get?_push_size _ rfl,rfl,rfl⟩,⟨_,Heap.get?_push_of_some _ ha,rfl,n,rfl⟩,fun b hb=>?_⟩
 simp at hb
 rw[Heap.size_push]
 rcases hb with rfl | rfl
 .exact Nat.lt_succ_self _
 .exact Nat.lt_succ_of_lt (Heap.lt_size ha)
theorem ym{kw:List (Str × Value)}{A:Around}{R:Result->Shared->Prop}{I:Addr}{fp wr:List Addr}{n:Nat}{P:Nat->Value->Prop}{St:Nat->Heap->Prop}(W:Walks G.prog G.w A.in1 I fp wr n P St)(bt:Nat->Nat->Bool)(hcmp:CmpOf G.prog G.w A.in1 .Lt P bt)(S:Addr)(hSf:S ∉ fp):
  ∀(m j:Nat) (s:Shared) (vb:Value) (c:Nat),m=n - 1 - j->j < n->St (j+1) s.heap->P (argBest bt j) vb->s.heap.get? S=some { cls:=.type "list",dict:=none,data:=.seq #[vb,vb] c,slots:=#[] }->
   (∀v h' tk,P (argBest bt (n - 1)) v->(∀b o,b ∉ wr->b≠S->s.heap.get? b=some o->h'.get? b=some o)->R (.ok (.ret v)) { s with heap:=h',toks:=tk })->
   codeAny (model G.prog G.w) A (.builtin "min.loop" ⟨[.ref I,.none,.ref S],kw⟩) R s:=by
 have hSw:S ∉ wr:=fun h=>hSf (W.sub _ h)
 have hname:(toString "min"++toString ".loop":String)="min.loop":=by decide
 intro m
 induction m with
 | zero=>
  intro j s vb c hk hj hst hPb hS hR
  have hin:j+1=n:=by omega
  have hjn:j=n - 1:=by omega
  refine codeAny_builtin PySem.F.entry_min_loop ?_
  rw[Around.under_plainId PySem.F.plain_min_loop _]
  show wpAny _ A.in1 (seqItems? (.ref S) >>= _) _ _ s
  refine wpAny_bind (wpAny_seqItems hS rfl ?_)
  show wpAny _ A.in1 (tryCatch (pyNext (.ref I)) _ >>= _) _ _ s
  refine wpAny_bind (wpAny_tryCatch (W.done s _ _ (hin ▸ hst) fun h' tk hk'=>?_))
  have hS':=hk' S _ hSw hS
  show wpAny _ A.in1 (updateSeq S (fun _=>#[]) >>= _) _ _ _
  refine wpAny_bind ?_
  refine wpAny_updateSeq hS' rfl (wpAny_bind (wpAny_letGo (wpAny_pure ?_)))
  exact hR vb _ tk (hjn ▸ hPb) fun b o hbw hbS e=>(Heap.get?_update_other _ _ (Ne.symm hbS)).trans (hk' b o hbw e)
 | succ m ih=>
  intro j s vb c hk hj hst hPb hS hR
  have hlt:j+1 < n:=by omega
  refine codeAny_builtin PySem.F.entry_min_loop ?_
  rw[Around.under_plainId PySem.F.plain_min_loop _]
  show wpAny _ A.in1 (seqItems? (.ref S) >>= _) _ _ s
  refine wpAny_bind (wpAny_seqItems hS rfl ?_)
  show wpAny _ A.in1 (tryCatch (pyNext (.ref I)) _ >>= _) _ _ s
  refine wpAny_bind (wpAny_tryCatch (W.item (j+1) s _ _ hlt hst fun v h' tk hP hst' hk'=>?_))
  have hS':=hk' S _ hSw hS
  show wpAny _ A.in1 (tryCatch (holding [v,v] (richCompare .Lt v vb >>= _)) _ >>= _) _ _ _
  refine wpAny_bind (wpAny_tryCatch (wpAny_holding (wpAny_bind (hcmp (j+1) (argBest bt j) v vb _ _ _ hP hPb ?_))))
  refine wpAny_bind (wpAny_holding (wpAny_truthy_bool ?_))
  refine wpAny_bind (wpAny_letGo (wpAny_pure ?_))
  cases hb:bt (j+1) (argBest bt j) with
  | true=>
   simp only[if_true]
   refine wpAny_bind ?_
   refine wpAny_updateSeq hS' rfl (wpAny_bind (wpAny_letGo ?_))
   rw[hname]
   refine wpAny_pure ⟨plainId_quiet PySem.F.plain_min_loop _,ih (j+1) _ v _ (by omega) hlt (W.frame _ _ _ hst' fun b hbf o e=>?_) (by simp only[argBest,hb,if_true];exact hP) (Heap.get?_update_self _ hS' rfl) fun v' h'' tk'' hP' hk''=>?_⟩
   .exact(Heap.get?_update_other _ _ (fun h:S=b=>hSf (by rw[h];exact hbf))).trans e
   .exact hR v' h'' tk'' hP' fun b o hbw hbS e=>hk'' b o hbw hbS ((Heap.get?_update_other _ _ (Ne.symm hbS)).trans (hk' b o hbw e))
  | false=>
   simp only[Bool.false_eq_true,if_false]
   refine wpAny_bind (wpAny_letGo ?_)
   rw[hname]
   refine wpAny_pure ⟨plainId_quiet PySem.F.plain_min_loop _,ih (j+1) _ vb c (by omega) hlt hst' (by simp only[argBest,hb,Bool.false_eq_true,if_false];exact hPb) hS' fun v' h'' tk'' hP' hk''=>?_⟩
   exact hR v' h'' tk'' hP' fun b o hbw hbS e=>hk'' b o hbw hbS (hk' b o hbw e)
theorem yn(a v:Value):argsOk "min" ⟨[a],[(Str.ofString "default",v)]⟩:=by unfold argsOk;kernel_rfl
noncomputable def ii(ns:List Int):D:=match jO ns with | some b=>.int b | none=>.none
theorem yo[NeZero k]{A:Around}{N:Addr->Prop}{s:Shared}{a:Addr}{vs:List Value}{n:Nat}{ns:List Int}(hA:AOk A k)(ha:s.heap.get? a=some (aJ vs n))(hi:IntsAre vs ns):
  wpAny (model G.prog G.w) A (call (.builtin "min") [.ref a] [(Str.ofString "default",.none)]) (Po s N (ii ns)) aQ s:=by
 have hname:(toString "min"++toString ".loop":String)="min.loop":=by decide
 refine kmk_tree PySem.F.kind_min PySem.F.plain_min PySem.F.entry_min (yn _ _) ?_
 show wpAny _ A.in1 (Builtin.Builtins.bindParams "min" ["key","default"] 0 ⟨[],[(Str.ofString "default",.none)]⟩ >>= _) _ _ s
 refine wpAny_bind (wpAny_of_eq (show Builtin.Builtins.bindParams "min" ["key","default"] 0 ⟨[],[(Str.ofString "default",.none)]⟩=pure [none,some .none] from rfl) ?_)
 refine wpAny_bind (wpAny_pure ?_)
 refine wpAny_bind (wpAny_pyIter_list ⟨_,ha,rfl,n,rfl⟩ ?_)
 refine wpAny_bind (wpAny_newList ?_ (Nat.zero_le _))
 rw[hname]
 obtain⟨W,h1,h2,h3⟩:=yl (G:=G) (A:=A.in1) (N:=N) hA.no ha
 refine wpAny_pure ⟨plainId_quiet PySem.F.plain_min_loop _,?_⟩
 have hSf:(s.heap.push { cls:=.type "list_iterator",data:=.fields #[.ref a,.int 0 0] }).objs.size ∉ [s.heap.objs.size,a]:=fun q=>Nat.lt_irrefl _ (h3 _ q)
 have hSw:(s.heap.push { cls:=.type "list_iterator",data:=.fields #[.ref a,.int 0 0] }).objs.size ∉ [s.heap.objs.size]:=fun h=>hSf (W.sub _ h)
 generalize hH:s.heap.push { cls:=.type "list_iterator",data:=.fields #[.ref a,.int 0 0] }=H at *
 have gS:(H.push (seqObj "list" #[] 0)).get? H.objs.size=some (seqObj "list" #[] 0):=Heap.get?_push_size _ rfl
 have old:∀b o,H.get? b=some o->(H.push (seqObj "list" #[] 0)).get? b=some o:=fun b o e=>Heap.get?_push_of_some _ e
 have fin:∀h' tk,(∀b o,b ∉ [s.heap.objs.size]->b≠H.objs.size->(H.push (seqObj "list" #[] 0)).get? b=some o->h'.get? b=some o)->Kp s { s with heap:=h',toks:=tk }:=fun h' tk hk=>
  ⟨h',tk,rfl,fun b o e=>by
   have e2:H.get? b=some o:=by rw[← hH];exact Heap.get?_push_of_some _ e
   exact hk b o (fun q=>by simp at q;subst q;rw[b4] at e;cases e) (Nat.ne_of_lt (Heap.lt_size e2)) (old b o e2)⟩
 refine codeAny_builtin PySem.F.entry_min_loop ?_
 rw[Around.under_plainId PySem.F.plain_min_loop _]
 show wpAny _ A.in1 (seqItems? (.ref _) >>= _) _ _ _
 refine wpAny_bind (wpAny_seqItems gS rfl ?_)
 show wpAny _ A.in1 (tryCatch (pyNext (.ref s.heap.objs.size)) _ >>= _) _ _ _
 have hst:(fun i h=>Heap.IsListIter h s.heap.objs.size a i∧h.IsList a vs.toArray) 0 (H.push (seqObj "list" #[] 0)):=⟨h1.at fun o e=>old _ o e,h2.at fun o e=>old _ o e⟩
 cases ns with
 | nil=>
  cases hi
  refine wpAny_bind (wpAny_tryCatch (W.done _ _ _ hst fun h' tk hk'=>?_))
  refine wpAny_bind (wpAny_rule (wpAny_pure ?_))
  exact⟨fin h' tk fun b o q1 q2 e=>hk' b o q1 e,.clean .none⟩
 | cons x xs=>
  have hlen:vs.length=xs.length+1:=by rw[hi.length];rfl
  have hn0:0 < vs.toArray.size:=by simp[hlen]
  refine wpAny_bind (wpAny_tryCatch (W.item 0 _ _ _ hn0 hst fun v h' tk hP hst' hk'=>?_))
  have gS':=hk' _ _ hSw gS
  show wpAny _ A.in1 (updateSeq _ (fun _=>#[v,v]) >>= _) _ _ _
  refine wpAny_bind ?_
  refine wpAny_updateSeq gS' rfl ?_
  rw[hname]
  refine wpAny_pure ⟨plainId_quiet PySem.F.plain_min_loop _,ym (kw:=[(Str.ofString "default",.none)]) W (fun i j=>decide ((x :: xs).getD i 0 < (x :: xs).getD j 0)) (CmpOf.ints_lt (fun i=>(x :: xs).getD i 0) (fun i v hv=>mW hi i v (by simpa using hv))) _ hSf _ 0 _ v _ rfl hn0 (W.frame _ _ _ hst' fun b hbf o e=>?_) hP (Heap.get?_update_self _ gS' rfl) fun v' h'' tk'' hP' hk''=>?_⟩
  .exact(Heap.get?_update_other _ _ (fun h=>hSf (by rw[h];exact hbf))).trans e
  .have hP2:vs.toArray[argBest _ _]? = some v':=hP'
   rw[List.getElem?_toArray] at hP2
   obtain⟨t,rfl⟩:=mW hi _ v' hP2
   refine⟨fin h'' tk'' fun b o q1 q2 e=>hk'' b o q1 q2 ((Heap.get?_update_other _ _ (Ne.symm q2)).trans (hk' b o q1 e)),?_⟩
   have e:ii (x :: xs)=.int ((x :: xs).getD (argBest (fun i j=>decide ((x :: xs).getD i 0 < (x :: xs).getD j 0)) (vs.toArray.size - 1)) 0):=by
    rw[List.size_toArray,hlen,Nat.add_sub_cancel,ts x xs xs.length (Nat.le_refl _),List.take_length];rfl
   rw[e]
   exact .clean (.int _ _)
noncomputable def lx(m:aa->Option D):aa->Option D:=fun ρ=>(m ρ).bind fun d=>(D.items? d).bind fun l=>(dw l).map ii
theorem SE.minN[NeZero k]{x:Str}{e:Expr}{p pos cp kp:Pos}{kd:Nat}{m:aa->Option D}(b:BName G sc x (.builtin "min"))(hs:a9 e)(h:SE G k sc e m):
  SE G k sc (.Call (.Name x p) [e] [⟨some (Str.ofString "default"),.Constant .none kd cp,kp⟩] pos) (lx m):=by
 intro A env N α s ρ d hA hE hb hin hρ
 refine ao hρ fun d' ed hρ=>?_
 refine ao hρ fun l el hρ=>?_
 obtain⟨ns,en,rfl⟩:=Option.map_eq_some_iff.mp hρ
 show wpAny _ A (do
  let f ← eval (.Name x p) env
  callWith pos f [] (backTo pos (starEach [e] env)) (backToKw pos (keywordEach [⟨some (Str.ofString "default"),.Constant .none kd cp,kp⟩] env))) _ _ s
 refine wpAny_bind (b.eval hE hb ?_)
 refine callWith_kw (args_cons (wpAny_mono (h A env N α s ρ d' hA hE hb hin ed) (fun v s1 h1=>args_nil ?_) fun _ _ x=>x) (hs _ env)) (by rw[hs];rfl) (by rw[hs];rfl)
 refine kws_cons (Constant_none (kws_nil ?_))
 obtain⟨a,vs,n,rfl,ha,rs⟩:=h1.2.items el
 exact wpAny_mono (yo hA ha (rs.ints en)) (fun v s2 h2=>⟨h1.1.trans h2.1,h2.2⟩) fun _ _ x=>x
end
theorem tu:∀(xs:List (List Value)) (acc:List Value),List.foldl (fun(x1 x2:Array Value)=>x1++x2) acc.toArray (xs.map List.toArray)=(acc++xs.flatten).toArray
 | [],acc=>by simp
 | x :: xs,acc=>by
  simp only[List.map_cons,List.foldl_cons]
  rw[show acc.toArray++x.toArray=(acc++x).toArray by simp,tu xs (acc++x)]
  simp
theorem yp(vs:List Value)(n:Nat):List.foldl (fun(x1 x2:Array Value)=>x1++x2) #[] (List.replicate (if vs.toArray.isEmpty=true then 0 else n) vs.toArray)=((List.replicate n vs).flatten).toArray:=by
 have h:=tu (List.replicate (if vs.toArray.isEmpty=true then 0 else n) vs) []
 rw[List.map_replicate] at h
 refine h.trans ?_
 cases vs with
 | nil=>simp
 | cons v vs=>simp
theorem Rps.rep{h:Heap}{N:Addr->Prop}{vs:List Value}{ds:List D}(r:Rps h N vs ds):∀n:Nat,Rps h N (List.replicate n vs).flatten (List.replicate n ds).flatten
 | 0=>.nil
 | n+1=>by
  rw[List.replicate_succ,List.replicate_succ,List.flatten_cons,List.flatten_cons]
  exact r.append (Rps.rep r n)
section
variable {G:ap} {k:Nat} {sc:Scope}
noncomputable def m0(l:List D):D->Option (List D)
 | .int n=>if l.length≤1000∧0≤n∧n≤1000 then some (List.replicate n.toNat l).flatten else none
 | _=>none
noncomputable def jP(ml mn:aa->Option D):aa->Option (List D):=fun ρ=>(ml ρ).bind fun a=>(mn ρ).bind fun b=>(D.items? a).bind fun l=>m0 l b
theorem SF.rep{l r:Expr}{pos:Pos}{ml mr:aa->Option D}(hl:SE G k sc l ml)(hr:SE G k sc r mr):SF G k sc (.BinOp l .Mult r pos) (jP ml mr):=by
 intro A env N α s ρ ds hA hE hb hin hρ
 refine ao hρ fun a ea hρ=>?_
 refine ao hρ fun b eb hρ=>?_
 refine ao hρ fun x ex hρ=>?_
 cases b with
 | int n=>
  simp only[m0] at hρ
  split at hρ
  .rename_i hz
   cases hρ
   refine wpAny_BinOp (wpAny_mono (hl A env N α s ρ a hA hE hb hin ea) (fun va s1 h1=>?_) fun _ _ x=>x)
   refine wpAny_mono (hr A env N α s1 ρ _ hA hE (aZ hb h1.1) (hin.keep h1.1.heap) eb) (fun vb s2 h2=>?_) fun _ _ x=>x
   have kk:=h1.1.trans h2.1
   obtain⟨p,vs,c,rfl,hp,rp⟩:=(h1.2.keep h2.1.heap).items ex
   obtain⟨u,rfl⟩:=bG h2.2
   have hb2:vs.length*n.toNat≤1000*1000:=Nat.mul_le_mul (by rw[rp.length];exact hz.1) (by omega)
   refine wpAny_binaryOp_repeat_ref (T:="list") (U:="int") (by decide) ⟨_,hp,rfl⟩ (fun s'=>typeIs_int s' n u) noFill_list_mul F.fills_int_mul F.slot_int_rmul repeat_list F.slot_int_index.lookup
    (call_meets F.slot_int_rmul (typeIs_int s2 n u) F.entry_int_rmul (F.args_int_rmul_2 _ _) (int___rmul___int_list n u p vs.toArray c) ⟨hp,rfl,⟨_,hp,rfl⟩,?_⟩)
   refine call_meets F.slot_list_mul ⟨_,hp,rfl⟩ F.entry_list_mul (F.args_list_mul_2 _ _) (AutoListH.list___mul___list_int_3 p vs.toArray c n u ?_ ?_ ?_) ⟨hp,?_⟩
   .simp[Builtin.List.listFitsIndex];omega
   .rw[List.size_toArray];omega
   .simp[Builtin.List.listTooLong,sizeLine_eq];omega
   .rw[yp]
    exact⟨kk.trans (Kp.push s2 _),_,_,0,rfl,kk.gone (b4 _),Heap.get?_push_size _ rfl,(rp.rep n.toNat).off (b4 _) fun _ _ e=>Heap.get?_push_of_some _ e⟩
  .cases hρ
 | _=>cases hρ
end
end Mine
end
section
namespace Mine
open PySem PyProof.Rows PySem.Calls
noncomputable def eV(x:String):aa->Option D:=fun ρ=>ρ (Str.ofString x)
noncomputable def eI(i:Int):aa->Option D:=fun _=>some (.int i)
noncomputable def eS(x:String):aa->Option D:=fun _=>some (.str (Str.ofString x))
noncomputable def eB(b:Bool):aa->Option D:=fun _=>some (.bool b)
noncomputable def eN:aa->Option D:=fun _=>some .none
noncomputable def aE(f:D->D->Option D)(a b:aa->Option D):aa->Option D:=fun ρ=>(a ρ).bind fun x=>(b ρ).bind fun y=>f x y
noncomputable def gy(f:D->D->Option Bool)(a b:aa->Option D):aa->Option D:=fun ρ=>(a ρ).bind fun x=>(b ρ).bind fun y=>(f x y).map .bool
noncomputable def aK(f:D->D->Option Bool)(a b:aa->Option D):aa->Option Bool:=fun ρ=>(a ρ).bind fun x=>(b ρ).bind fun y=>f x y
noncomputable def b8(m:aa->Option Bool):aa->Option Bool:=fun ρ=>(m ρ).map (!·)
noncomputable def c8:aa->Option Bool:=fun _=>some true
noncomputable def cA:aa->Option Bool:=fun _=>some false
noncomputable def dh(m n:aa->Option Bool):aa->Option Bool:=fun ρ=>(m ρ).bind fun b=>if b then n ρ else some false
noncomputable def aV(m n:aa->Option Bool):aa->Option Bool:=fun ρ=>(m ρ).bind fun b=>if b then some true else n ρ
noncomputable def cQ(m:aa->Option D):aa->Option Bool:=fun ρ=>(m ρ).bind D.truth?
noncomputable def f8(m n:aa->Option D):aa->Option D:=fun ρ=>(m ρ).bind fun d=>(D.truth? d).bind fun b=>if b then n ρ else some d
noncomputable def ly(m:aa->Option D):aa->Option D:=fun ρ=>(m ρ).bind fun d=>(D.truth? d).map fun b=>.bool (!b)
noncomputable def gZ(c:aa->Option Bool)(a b:aa->Option D):aa->Option D:=fun ρ=>(c ρ).bind fun t=>if t then a ρ else b ρ
noncomputable def yq:D->Option D
 | .int i=>some (.int (-i))
 | _=>none
noncomputable def i4(m:aa->Option D):aa->Option D:=fun ρ=>(m ρ).bind yq
noncomputable def aq(a b:aa->Option D):aa->Option D:=fun ρ=>(a ρ).bind fun o=>(b ρ).bind fun i=>bf o i
noncomputable def ak:aa->Option (List D):=fun _=>some []
noncomputable def ae(m:aa->Option D)(ms:aa->Option (List D)):aa->Option (List D):=fun ρ=>(m ρ).bind fun d=>(ms ρ).bind fun ds=>some (d :: ds)
noncomputable def aS(ms:aa->Option (List D)):aa->Option D:=fun ρ=>(ms ρ).bind fun ds=>if ds.all D.clean then some (.tup ds) else none
noncomputable def aT(Φ:List D->Option D)(ms:aa->Option (List D)):aa->Option D:=fun ρ=>(ms ρ).bind fun ds=>iU Φ ds
noncomputable def bu(Φ:List D->Option D)(ms:aa->Option (List D)):aa->Option D:=fun ρ=>(ms ρ).bind fun ds=>Φ ds
noncomputable def cH(T:String)(m:aa->Option D):aa->Option D:=fun ρ=>(m ρ).bind fun d=>if d.isRef then none else some (.bool (lw T d))
noncomputable def eL(l:aa->Option (List D)):aa->Option D:=fun ρ=>(l ρ).map .list
noncomputable def bB(ms:aa->Option (List D)):aa->Option (List D):=fun ρ=>(ms ρ).bind fun ds=>if ds.all D.clean then some ds else none
noncomputable def di(mv:aa->Option D)(ml mu:aa->Option (Option Int)):aa->Option (List D):=
 fun ρ=>(mv ρ).bind fun o=>(ml ρ).bind fun lo=>(mu ρ).bind fun hi=>(D.items? o).bind fun l=>if l.length≤16777216 then some (b7 l lo hi) else none
noncomputable def dN:aa->Option (Option Int):=fun _=>some none
noncomputable def dy(ml mr:aa->Option D):aa->Option (List D):=fun ρ=>(ml ρ).bind fun a=>(mr ρ).bind fun b=>(D.items? a).bind fun x=>(D.items? b).bind fun y=>if x.length+y.length≤16777216 then some (x++y) else none
noncomputable def ij(m:aa->Option D):aa->Option (List D):=fun ρ=>(m ρ).bind fun d=>(cZ d).bind fun l=>if l.length≤16777216 then some l else none
noncomputable def ik(fz:Bool):D->Option (List D)
 | .list l=>some l
 | .own l=>if fz then none else some l
 | .tup l=>some l
 | _=>none
noncomputable def dO(fz:Bool)(m:aa->Option D):aa->Option (List D):=fun ρ=>(m ρ).bind fun d=>(ik fz d).bind fun l=>if l.length≤16777216 then some l else none
noncomputable def dP(m:aa->Option D):aa->Option (List D):=fun ρ=>(m ρ).bind fun d=>match d with | .int n=>if n≤16777216∧-16777216≤n then some (ca 0 n.toNat) else none | _=>none
noncomputable def aL:aa->Option Out:=fun ρ=>some (.next ρ)
noncomputable def m7:aa->Option Out:=fun _=>none
noncomputable def aR(x:String)(m:aa->Option D):aa->Option Out:=fun ρ=>(m ρ).bind fun d=>if d.clean then some (.next (ah ρ (Str.ofString x) d)) else none
noncomputable def dz(x:String)(l:aa->Option (List D)):aa->Option Out:=fun ρ=>(l ρ).bind fun ds=>some (.next (ah ρ (Str.ofString x) (.own ds)))
noncomputable def f9(x:String)(l:aa->Option (List D)):aa->Option Out:=fun ρ=>(l ρ).bind fun ds=>some (.next (ah ρ (Str.ofString x) (.list ds)))
noncomputable def bM(m:aa->Option D):aa->Option Out:=fun ρ=>(m ρ).bind fun d=>if d.clean then some (.ret d) else none
noncomputable def lz(x:String):aa->Option Out:=fun ρ=>(ρ (Str.ofString x)).map fun d=>.ret d.frz
noncomputable def b5(c:aa->Option Bool)(a b:aa->Option Out):aa->Option Out:=fun ρ=>(c ρ).bind fun t=>if t then a ρ else b ρ
noncomputable def lA(m:aa->Option D):aa->Option Out:=fun ρ=>(m ρ).bind fun d=>if d.isNone then some (.next ρ) else none
noncomputable def gc(t:Tg)(mi:aa->Option (List D))(mb:aa->Option Out):aa->Option Out:=fun ρ=>(mi ρ).bind fun ds=>bY t mb ds ρ
noncomputable def i5(x:String)(m:aa->Option D):aa->Option Out:=fun ρ=>(m ρ).bind fun d=>match ρ (Str.ofString x) with
   | some (.own l)=>if d.clean=true∧l.length < 16777216 then some (.next (ah ρ (Str.ofString x) (.own (l++[d])))) else none
   | _=>none
noncomputable def fF(x:String)(mi me:aa->Option D):aa->Option Out:=fun ρ=>(me ρ).bind fun d=>(mi ρ).bind fun j=>match ρ (Str.ofString x),j with
   | some (.own l),.int j=>if d.clean=true∧0≤j∧j < l.length∧j < 9223372036854775808 then some (.next (ah ρ (Str.ofString x) (.own (l.set j.toNat d)))) else none
   | _,_=>none
noncomputable def ay(xs:List String):List Str:=xs.map Str.ofString
noncomputable def t1(x:String):Tg:=.one (Str.ofString x)
noncomputable def tN(xs:List String):Tg:=.many (ay xs)
noncomputable def m8(sc:Scope)(x:String):Bool:=lq (sc.names.lookup (Str.ofString x)) && !(Str.ofString x==("__debug__":Str)) && !(Str.ofString x==("__classdict__":Str)) && !(Str.ofString x==ic)
noncomputable def okGlob(sc:Scope)(x:String):Bool:=(match sc.names.lookup (Str.ofString x) with | some .globalImplicit=>true | _=>false) && !(Str.ofString x==("__debug__":Str))
theorem okGlob.ok{sc:Scope}{x:String}(h:okGlob sc x=true):sc.names.lookup (Str.ofString x)=some .globalImplicit∧(Str.ofString x==("__debug__":Str))=false:=by
 simp only[okGlob,Bool.and_eq_true,Bool.not_eq_true'] at h
 refine⟨?_,h.2⟩
 have h1:=h.1
 split at h1
 .assumption
 .cases h1
theorem cq{sc:Scope}{x:String}(h:okGlob sc x=true):sc.names.lookup (Str.ofString x)=some .globalImplicit:=(okGlob.ok h).1
theorem cr{sc:Scope}{x:String}(h:okGlob sc x=true):(Str.ofString x==("__debug__":Str))=false:=(okGlob.ok h).2
noncomputable def notDbg(x:String):Bool:=!(Str.ofString x==("__debug__":Str))
theorem notDbg.ok{x:String}(h:notDbg x=true):(Str.ofString x==("__debug__":Str))=false:=by simpa [notDbg] using h
section
variable {G:ap} {k:Nat} {sc:Scope}
theorem rV{x:String}{pos:Pos}(h:m8 sc x=true:=by decide +kernel):SE G k sc (.Name (Str.ofString x) pos) (eV x):=by
 simp only[m8,Bool.and_eq_true,Bool.not_eq_true'] at h
 exact SE.name h.1.1.1 h.1.1.2 h.1.2 h.2 gU
theorem rI{i:Int}{kd:Nat}{pos:Pos}:SE G k sc (.Constant (.int i) kd pos) (eI i):=SE.cInt
theorem rS{x:String}{kd:Nat}{pos:Pos}:SE G k sc (.Constant (.str (Str.ofString x)) kd pos) (eS x):=SE.cStr
theorem rB{b:Bool}{kd:Nat}{pos:Pos}:SE G k sc (.Constant (.bool b) kd pos) (eB b):=SE.cBool
theorem rN{kd:Nat}{pos:Pos}:SE G k sc (.Constant .none kd pos) eN:=SE.cNone
theorem pz{x:String}{pos:Pos}{i:Int}(h:okGlob sc x=true)(hg:∃t,G.mg (Str.ofString x)=some (.int i t)):SE G k sc (.Name (Str.ofString x) pos) (eI i):=by
 obtain⟨t,hg⟩:=hg
 exact SE.glob (cq h) (cr h) hg
theorem aI{l r:Expr}{op:Operator}{pos:Pos}{ml mr:aa->Option D}{f:D->D->Option D}(hf:∀a b d,f a b=some d->gW G k op a b d)(hl:SE G k sc l ml)(hr:SE G k sc r mr):SE G k sc (.BinOp l op r pos) (aE f ml mr):=SE.bin hf hl hr
theorem i6{l r:Expr}{op:CmpOp}{pos:Pos}{ml mr:aa->Option D}{f:D->D->Option Bool}(hf:∀a b c,f a b=some c->dI G k op a b c)(hm:behindInMarks op r=false)(hl:SE G k sc l ml)(hr:SE G k sc r mr):SE G k sc (.Compare l [op] [r] pos) (gy f ml mr):=SE.cmp hf hl hr hm
theorem aO{l r:Expr}{op:CmpOp}{pos:Pos}{ml mr:aa->Option D}{f:D->D->Option Bool}(hf:∀a b c,f a b=some c->dI G k op a b c)(hm:behindInMarks op r=false)(hl:SE G k sc l ml)(hr:SE G k sc r mr):ST G k sc (.Compare l [op] [r] pos) (aK f ml mr):=ST.cmp hf hl hr hm
theorem cR{e:Expr}{pos:Pos}{m:aa->Option Bool}(h:ST G k sc e m):ST G k sc (.UnaryOp .Not e pos) (b8 m):=ST.not h
theorem lB{pos:Pos}:ST G k sc (.BoolOp .And [] pos) c8:=ST.and_nil
theorem dA{pos:Pos}:ST G k sc (.BoolOp .Or [] pos) cA:=ST.or_nil
theorem gd{e:Expr}{rest:List Expr}{pos:Pos}{m n:aa->Option Bool}(h:ST G k sc e m)(hr:ST G k sc (.BoolOp .And rest pos) n):ST G k sc (.BoolOp .And (e :: rest) pos) (dh m n):=ST.and h hr
theorem bd{e:Expr}{rest:List Expr}{pos:Pos}{m n:aa->Option Bool}(h:ST G k sc e m)(hr:ST G k sc (.BoolOp .Or rest pos) n):ST G k sc (.BoolOp .Or (e :: rest) pos) (aV m n):=ST.or h hr
theorem dB{e:Expr}{m:aa->Option D}(hp:mZ e)(h:SE G k sc e m):ST G k sc e (cQ m):=ST.plain hp h
theorem jQ{e:Expr}{pos:Pos}{op:BoolOp}{m:aa->Option D}(h:SE G k sc e m):SE G k sc (.BoolOp op [e] pos) m:=SE.and1 h
theorem jR{e e2:Expr}{rest:List Expr}{pos:Pos}{m n:aa->Option D}(h:SE G k sc e m)(hr:SE G k sc (.BoolOp .And (e2 :: rest) pos) n):SE G k sc (.BoolOp .And (e :: e2 :: rest) pos) (f8 m n):=SE.and h hr
theorem tv{e:Expr}{pos:Pos}{m:aa->Option D}(h:SE G k sc e m):SE G k sc (.UnaryOp .Not e pos) (ly m):=SE.not h
theorem tw{test body orelse:Expr}{pos:Pos}{c:aa->Option Bool}{ma mb:aa->Option D}(ht:ST G k sc test c)(h1:SE G k sc body ma)(h2:SE G k sc orelse mb):SE G k sc (.IfExp test body orelse pos) (gZ c ma mb):=SE.ifexp ht h1 h2
theorem m9{e:Expr}{pos:Pos}{m:aa->Option D}(h:SE G k sc e m):SE G k sc (.UnaryOp .USub e pos) (i4 m):=by
 refine SE.weak (SE.neg h) fun ρ d e=>?_
 refine ao e fun x e1 e2=>?_
 rw[e1]
 cases x <;> first | exact e2 | cases e2
theorem aA{value idx:Expr}{pos:Pos}{mv mi:aa->Option D}(hv:SE G k sc value mv)(hi:SE G k sc idx mi)(hs:∀o i,subscripted idx false o i=operate [o,i] (getItem o i):=by exact fun _ _=>rfl):SE G k sc (.Subscript value idx pos) (aq mv mi):=SE.sub hs hv hi
theorem aw:SEs G k sc [] ak:=SEs.nil
theorem ai{e:Expr}{rest:List Expr}{m:aa->Option D}{ms:aa->Option (List D)}(h:SE G k sc e m)(hr:SEs G k sc rest ms)(hs:a9 e:=by exact fun _ _=>rfl):SEs G k sc (e :: rest) (ae m ms):=SEs.cons hs h hr
theorem b6{es:List Expr}{kd:Nat}{pos:Pos}{ms:aa->Option (List D)}(h:SEs G k sc es ms)(hz:es.length≤1000:=by decide +kernel):SE G k sc (.Tuple es kd pos) (aS ms):=SE.tuple h hz
theorem bo{j:Nat}{x:String}{f:Addr}{e:Expr}{rest:List Expr}{p pos:Pos}{Φ:List D->Option D}{ms:aa->Option (List D)}(hf:FnOk G j f Φ)(hg:G.mg (Str.ofString x)=some (.ref f))(hj:j≤k)(hx:okGlob sc x=true)(hs:a9 e)(h:SEs G k sc (e :: rest) ms):
  SE G k sc (.Call (.Name (Str.ofString x) p) (e :: rest) [] pos) (aT Φ ms):=SE.call hf hj (cq hx) (cr hx) hg hs h
theorem b9{x:String}{id:String}{e:Expr}{rest:List Expr}{p pos:Pos}{Φ:List D->Option D}{ms:aa->Option (List D)}(hf:jI G k (.builtin id) Φ)(hn:G.mg (Str.ofString x)=none∧G.mb (Str.ofString x)=some (.builtin id))(hx:okGlob sc x=true)(hs:a9 e)(hp:∀env,(backTo pos (starEach rest env)).any (·.1)=false)(h:SEs G k sc (e :: rest) ms):
  SE G k sc (.Call (.Name (Str.ofString x) p) (e :: rest) [] pos) (bu Φ ms):=SE.bcall hf ⟨cq hx,cr hx,hn.1,hn.2⟩ hs hp h
theorem g8{T:String}{e:Expr}{p q pos:Pos}{m:aa->Option D}(hT:T="int"∨T="bool"∨T="tuple"∨T="list"∨T="str")(hn:G.mg (Str.ofString "isinstance")=none∧G.mb (Str.ofString "isinstance")=some (.builtin "isinstance"))(ht:G.mg (Str.ofString T)=none∧G.mb (Str.ofString T)=some (.type T))
  (hx:okGlob sc "isinstance"=true) (hy:okGlob sc T=true) (hs:a9 e) (h:SE G k sc e m):
  SE G k sc (.Call (.Name (Str.ofString "isinstance") p) [e,.Name (Str.ofString T) q] [] pos) (cH T m):=SE.isinst hT ⟨cq hx,cr hx,hn.1,hn.2⟩ ⟨cq hy,cr hy,ht.1,ht.2⟩ hs h
theorem rL{e:Expr}{m:aa->Option (List D)}(h:SF G k sc e m):SE G k sc e (eL m):=SF.se h
theorem dj{es:List Expr}{pos:Pos}{ms:aa->Option (List D)}(h:SEs G k sc es ms)(hz:es.length≤1000:=by decide +kernel):SF G k sc (.List es pos) (bB ms):=SF.list h hz
theorem eW{value:Expr}{lower upper:Option Expr}{p pos:Pos}{mv:aa->Option D}{ml mu:aa->Option (Option Int)}(hv:SE G k sc value mv)(hl:SB G k sc lower ml)(hu:SB G k sc upper mu):SF G k sc (.Subscript value (.Slice lower upper none p) pos) (di mv ml mu):=SF.slice hv hl hu
theorem fG:SB G k sc none dN:=SB.no
theorem eG{e:Expr}{m:aa->Option D}(h:SE G k sc e m):SB G k sc (some e) (co m):=SB.at h
theorem eX{l r:Expr}{pos:Pos}{ml mr:aa->Option D}(hl:SE G k sc l ml)(hr:SE G k sc r mr):SF G k sc (.BinOp l .Add r pos) (dy ml mr):=SF.cat hl hr
theorem lC{e:Expr}{p pos:Pos}{m:aa->Option D}(hn:G.mg (Str.ofString "list")=none∧G.mb (Str.ofString "list")=some (.type "list"))(hx:okGlob sc "list"=true)(hs:a9 e)(h:SE G k sc e m):SF G k sc (.Call (.Name (Str.ofString "list") p) [e] [] pos) (ij m):=SF.listOf ⟨cq hx,cr hx,hn.1,hn.2⟩ hs h
theorem eY[NeZero k]{fz:Bool}{target e:Expr}{t:Tg}{m:aa->Option D}(ht:bV target=some t)(h:SE G k sc e m):SI G k sc fz target e (dO fz m):=by
 intro A env N α s ρ ds hA hE hb hi hρ
 refine ao hρ fun d ed h2=>?_
 cases d with
 | tup l=>exact SI.tup ht h A env N α s ρ ds hA hE hb hi (by simp only[ed];exact h2)
 | list l=>exact SI.list ht h A env N α s ρ ds hA hE hb hi (by simp only[ed];exact h2)
 | own l=>exact SI.list ht h A env N α s ρ ds hA hE hb hi (by simp only[ed];exact h2)
 | _=>simp[ik] at h2
theorem i7[NeZero k]{fz:Bool}{target e:Expr}{t:Tg}{p pos:Pos}{m:aa->Option D}(hn:G.mg (Str.ofString "range")=none∧G.mb (Str.ofString "range")=some (.type "range"))(hx:okGlob sc "range"=true)(hs:a9 e)(ht:bV target=some t)(h:SE G k sc e m):
  SI G k sc fz target (.Call (.Name (Str.ofString "range") p) [e] [] pos) (dP m):=SI.range ht ⟨cq hx,cr hx,hn.1,hn.2⟩ hs h
theorem yr[NeZero k]{e:Expr}{p pos cp kp:Pos}{kd:Nat}{m:aa->Option D}(hn:G.mg (Str.ofString "min")=none∧G.mb (Str.ofString "min")=some (.builtin "min"))(hx:okGlob sc "min"=true)(hs:a9 e)(h:SE G k sc e m):
  SE G k sc (.Call (.Name (Str.ofString "min") p) [e] [⟨some (Str.ofString "default"),.Constant .none kd cp,kp⟩] pos) (lx m):=SE.minN ⟨cq hx,cr hx,hn.1,hn.2⟩ hs h
theorem yt{l r:Expr}{pos:Pos}{ml mr:aa->Option D}(hl:SE G k sc l ml)(hr:SE G k sc r mr):SF G k sc (.BinOp l .Mult r pos) (jP ml mr):=SF.rep hl hr
theorem pA[NeZero k]{elt target iter:Expr}{ifs:List Expr}{scope:Scope}{pos:Pos}{t:Tg}{mi:aa->Option (List D)}{mc:aa->Option Bool}{me:aa->Option D}(ht:bV target=some t)(hS:iX sc scope t=true)(hfs:∀env x,foldedSetIterable iter env x=pure x)
  (hi:SI G k sc false target iter mi) (hc:IfsOk G k (dZ scope sc) ifs mc) (he:SE G k (dZ scope sc) elt me):SF G k sc (.ListComp elt [⟨target,iter,ifs,0⟩] scope pos) (dJ t mi mc me):=SF.comp ht hS hfs hi hc he
theorem lD:IfsOk G k sc [] c8:=IfsOk.nil
theorem na{c:Expr}{mc:aa->Option Bool}(h:ST G k sc c mc):IfsOk G k sc [c] mc:=IfsOk.one h
theorem pB{st:Stmt}:S1 G k sc st m7:=by intro A env N α s₀ s ρ o _ _ _ _ h;cases h
theorem aM:SS G k sc [] aL:=SS.nil
theorem aD{st:Stmt}{rest:List Stmt}{m ms:aa->Option Out}(h:S1 G k sc st m)(hr:SS G k sc rest ms):SS G k sc (st :: rest) (am m ms):=SS.cons h hr
theorem a7{x:String}{p pos:Pos}{e:Expr}{m:aa->Option D}(h:SE G k sc e m)(hx:okStore sc (Str.ofString x)=true:=by decide +kernel)(hs:iV e:=by exact fun _ _ _ _=>rfl):S1 G k sc (.Assign [.Name (Str.ofString x) p] e pos) (aR x m):=S1.assign hx hs h
theorem lE{x:String}{p pos:Pos}{e:Expr}{m:aa->Option (List D)}(hx:okStore sc (Str.ofString x)=true)(hs:iV e)(h:SF G k sc e m):S1 G k sc (.Assign [.Name (Str.ofString x) p] e pos) (dz x m):=S1.assignOwn hx hs h
theorem pC[NeZero k]{elt target iter:Expr}{ifs:List Expr}{scope:Scope}{pos p spos:Pos}{x:String}{t:Tg}{mi:aa->Option (List D)}{mc:aa->Option Bool}{me:aa->Option D}(hx:okStore sc (Str.ofString x)=true)(ht:bV target=some t)(hS:iX sc scope t=true)(hfs:∀env x,foldedSetIterable iter env x=pure x)
  (hi:SI G k sc false target iter mi) (hc:IfsOk G k (dZ scope sc) ifs mc) (he:SE G k (dZ scope sc) elt me):
  S1 G k sc (.Assign [.Name (Str.ofString x) p] (.ListComp elt [⟨target,iter,ifs,0⟩] scope pos) spos) (dz x (dJ t mi mc me)):=td true hx ht hS hfs hi hc he
theorem pD[NeZero k]{elt target iter:Expr}{ifs:List Expr}{scope:Scope}{pos p spos:Pos}{x:String}{t:Tg}{mi:aa->Option (List D)}{mc:aa->Option Bool}{me:aa->Option D}(hx:okStore sc (Str.ofString x)=true)(ht:bV target=some t)(hS:iX sc scope t=true)(hfs:∀env x,foldedSetIterable iter env x=pure x)
  (hi:SI G k sc false target iter mi) (hc:IfsOk G k (dZ scope sc) ifs mc) (he:SE G k (dZ scope sc) elt me):
  S1 G k sc (.Assign [.Name (Str.ofString x) p] (.ListComp elt [⟨target,iter,ifs,0⟩] scope pos) spos) (f9 x (dJ t mi mc me)):=td false hx ht hS hfs hi hc he
theorem cc{pos:Pos}{e:Expr}{m:aa->Option D}(h:SE G k sc e m):S1 G k sc (.Return (some e) pos) (bM m):=S1.ret h
theorem yu{x:String}{p pos:Pos}(hd:notDbg x=true):S1 G k sc (.Return (some (.Name (Str.ofString x) p)) pos) (lz x):=S1.retName (notDbg.ok hd) gU
theorem cS{test:Expr}{body orelse:List Stmt}{pos:Pos}{c:aa->Option Bool}{mb mo:aa->Option Out}(ht:ST G k sc test c)(h1:SS G k sc body mb)(h2:SS G k sc orelse mo):S1 G k sc (.If test body orelse pos) (b5 c mb mo):=S1.ite ht h1 h2
theorem yv{e:Expr}{pos:Pos}{m:aa->Option D}(hs:∀env,swapsWith e none pos.line env=pure false)(h:SE G k sc e m):S1 G k sc (.Expr e pos) (lA m):=S1.expr hs lu h
theorem jS[NeZero k]{target iter:Expr}{t:Tg}{body:List Stmt}{pos:Pos}{mi:aa->Option (List D)}{mb:aa->Option Out}(ht:bV target=some t)(ho:(t.names.all fun x=>okStore sc x)=true)(hfs:∀env x,foldedSetIterable iter env x=pure x)
  (hi:SI G k sc true target iter mi) (hb':SS G k sc body mb):S1 G k sc (.For target iter body [] pos) (gc t mi mb):=S1.for ht (fun x hx=>List.all_eq_true.mp ho x hx) hfs hi hb'
theorem yw{test:Expr}{body:List Stmt}{pos:Pos}{c:aa->Option Bool}{mb:aa->Option Out}(n:Nat)(ht:ST G k sc test c)(hb':SS G k sc body mb):S1 G k sc (.While test body [] pos) (eE c mb n):=S1.while n ht hb'
theorem tx{x:String}{p apos pos pos':Pos}{e:Expr}{m:aa->Option D}(hf:jL (.Name (Str.ofString x) p) (Str.ofString "append") apos [e] pos)(hd:notDbg x=true)(hs:a9 e)
  (hsw:∀env,swapsWith (.Call (.Attribute (.Name (Str.ofString x) p) (Str.ofString "append") apos) [e] [] pos) none pos'.line env=pure false) (h:SE G k sc e m):
  S1 G k sc (.Expr (.Call (.Attribute (.Name (Str.ofString x) p) (Str.ofString "append") apos) [e] [] pos) pos') (i5 x m):=S1.append hf (notDbg.ok hd) gU hs hsw h
theorem nf{x:String}{p p2 pos:Pos}{i e:Expr}{mi me:aa->Option D}(hd:notDbg x=true)(hsw:∀env,swapsWith e (some (.Subscript (.Name (Str.ofString x) p) i p2)) pos.line env=pure false)(hi:SE G k sc i mi)(he:SE G k sc e me):
  S1 G k sc (.Assign [.Subscript (.Name (Str.ofString x) p) i p2] e pos) (fF x mi me):=S1.setItem (notDbg.ok hd) gU hsw hi he
end
theorem eH{α:Type}:∀ {l:List α},l.length=1->∃a,l=[a]
 | [a],_=>⟨a,rfl⟩
theorem il{α:Type}{l:List α}(h:l.length=2):∃a b,l=[a,b]:=by
 cases l with
 | nil=>cases h
 | cons a l=>obtain⟨b,rfl⟩:=eH (Nat.succ.inj h);exact⟨a,b,rfl⟩
theorem i8{α:Type}{l:List α}(h:l.length=3):∃a b c,l=[a,b,c]:=by
 cases l with
 | nil=>cases h
 | cons a l=>obtain⟨b,c,rfl⟩:=il (Nat.succ.inj h);exact⟨a,b,c,rfl⟩
theorem pE{α:Type}{l:List α}(h:l.length=4):∃a b c d,l=[a,b,c,d]:=by
 cases l with
 | nil=>cases h
 | cons a l=>obtain⟨b,c,d,rfl⟩:=i8 (Nat.succ.inj h);exact⟨a,b,c,d,rfl⟩
noncomputable def fH(sc:Scope)(names:List Str):Bool:=names.all (okStore sc)&&sc.names.all (fun p=>p.2 != .free && !aU p.1) && !sc.isCoroutine && !sc.isGenerator&&(match sc.kind with | .function=>true | _=>false)
noncomputable def dQ(G:ap)(k:Nat)(name:String)(Φ:List D->Option D):Prop:=∃a,G.mg (Str.ofString name)=some (.ref a)∧FnOk G k a Φ
theorem eg{q:Program}{loose:List Str}{mean:ExcName->Option Value}{mg mb:Str->Option Value}{h:Heap}(T:Top q loose mean mg mb h){prog:Program}{w:World}{k:Nat}{name:String}{names:List String}(i:Nat){d:DefRec}(hi:(recsOf q)[i]? = some d){m:aa->Option Out}(hnm:d.name=Str.ofString name)
  (hbind:∀(pm code doc:Value) (vals:List Value),vals.length=(ay names).length->bindArgs (docDef d.name d.params d.body d.scope pm code doc) ⟨vals,[]⟩=pure ((ay names).zip vals))
  (hnd:(ay names).Nodup) (hsc:fH d.scope (ay names)=true)
  (hs:SS ⟨prog,w,h,mg,mb,T.g,T.b,T.nolimit⟩ k d.scope d.body m):dQ ⟨prog,w,h,mg,mb,T.g,T.b,T.nolimit⟩ (k+1) name (cG (ay names) m):=by
 obtain⟨a,o,pm,code,doc,h1,h2,h3,h4⟩:=T.fn d (List.mem_of_getElem? hi)
 simp only[fH,Bool.and_eq_true,Bool.not_eq_true'] at hsc
 refine⟨a,hnm ▸ h1,FnOk.of (fd:=docDef d.name d.params d.body d.scope pm code doc) h2 h3 rfl rfl rfl rfl h4 (hbind pm code doc) hnd (fun x hx=>List.all_eq_true.mp hsc.1.1.1.1 x hx) hsc.1.1.1.2 hsc.1.1.2 hsc.1.2 ?_ hs⟩
 have:=hsc.2
 show d.scope.kind=.function
 split at this
 .assumption
 .cases this
noncomputable def ty(q:Program)(loose:List Str)(x:String):Bool:=!startupNames.contains (Str.ofString x) && !loose.contains (Str.ofString x) && !((recsOf q).map (·.name)).contains (Str.ofString x) && !((litsOf q).map (·.1)).contains (Str.ofString x) && !((clssOf q loose).map (·.name)).contains (Str.ofString x) && !(Str.ofString x==("__name__":Str))
theorem ge{q:Program}{loose:List Str}{mean:ExcName->Option Value}{mg mb:Str->Option Value}{h:Heap}(T:Top q loose mean mg mb h){x:String}{v:Value}(hf:ty q loose x=true)(hv:bootBuiltins (Str.ofString x)=some v):mg (Str.ofString x)=none∧mb (Str.ofString x)=some v:=by
 simp only[ty,Bool.and_eq_true,Bool.not_eq_true',List.contains_eq_mem,decide_eq_false_iff_not,beq_eq_false_iff_ne] at hf
 obtain⟨⟨⟨⟨⟨h1,h2⟩,h3⟩,h4⟩,h5⟩,h6⟩:=hf
 exact⟨T.free _ h1 h2 h3 h4 h5,(T.builtins _ h6).trans hv⟩
theorem yx{q:Program}{loose:List Str}{mean:ExcName->Option Value}{mg mb:Str->Option Value}{h:Heap}(T:Top q loose mean mg mb h){x:String}{i:Int}(hv:PyProof.Rows.valOf q (Str.ofString x)=some (.int i)):∃t,mg (Str.ofString x)=some (.int i t):=by
 obtain⟨v,h1,h2⟩:=T.const _ _ hv
 obtain⟨t,rfl,_⟩:=reads_int_inv (h2 h)
 exact⟨t,h1⟩
end Mine
end
section
namespace Mine
open PySem PyProof.Rows
section
variable {G:ap} {k:Nat} {sc:Scope}
theorem Wk.rev{A:Around}{target:Expr}{t:Tg}(hh:A.handled=none)(ht:bV target=some t)(I ax:Addr)(hne:ax≠I)(vs:List Value)(ds:List D)(hl:vs.length=ds.length):
  Wk G A target I [I,ax] [I] vs ds ds.reverse (fun i h=>h.IsRevIter I ax ((vs.length:Int) - 1 - (i:Int))∧∃n,h.get? ax=some (aJ vs n)) where
 sub:=fun b hb=>by simp at hb;simp[hb]
 frame:=fun _ _ _ st hk=>⟨st.1.at fun o e=>hk I (by simp) o e,let ⟨n,q⟩:=st.2;⟨n,hk ax (by simp) _ q⟩⟩
 kind:=fun i h st b hb us j=>by
  simp at hb;subst hb
  obtain⟨o,ho,hc,hd⟩:=st.1
  constructor <;> (intro q;rw[ho] at q;cases q;cases hd)
 kd:=fun i h st b hb o e=>by
  simp at hb
  rcases hb with rfl | rfl
  .obtain⟨o',ho,hc,hd⟩:=st.1
   rw[ho] at e;cases e;rw[hd]
   exact⟨fun q=>(by cases q),fun _ _ q=>(by cases q)⟩
  .obtain⟨n,q⟩:=st.2
   rw[q] at e;cases e
   exact⟨fun q=>(by cases q),fun _ _ q=>(by cases q)⟩
 exist:=fun i h st b hb=>by simp at hb;subst hb;obtain⟨o,ho,_⟩:=st.1;exact⟨o,ho⟩
 item:=fun i s d N Q R E hi st rv lo hR hQ=>by
  obtain⟨n,hax⟩:=st.2
  have hlt:i < ds.length:=by have:=(List.getElem?_eq_some_iff.mp hi).1;simpa using this
  rw[List.getElem?_reverse hlt] at hi
  obtain⟨v,hv,rp⟩:=rv.get hi
  have e1:(vs.length:Int) - 1 - (i:Int)=((ds.length - 1 - i:Nat):Int):=by omega
  have hit:=st.1
  rw[e1] at hit
  refine wpAny_pyNext_rev_item hit ⟨_,hax,rfl,n,rfl⟩ (x:=v) (by simpa using hv) fun h' hit' hs'=>?_
  have e2:((ds.length - 1 - i:Nat):Int) - 1=(vs.length:Int) - 1 - ((i+1:Nat):Int):=by omega
  rw[e2] at hit'
  refine hR v _ ?_
  have keep:∀b o,b ∉ [I]->s.heap.get? b=some o->h'.get? b=some o:=fun b o hb e=>hs'.extBut b o (fun q=>hb (by simp[q])) e
  obtain⟨o,ho,hc,hd⟩:=id hit'
  refine mT ht ho hc hd (by decide) (hQ v h' s.toks ⟨hit',n,keep ax _ (by simp[hne]) hax⟩ keep ?_)
  obtain⟨o1,ho1,hc1,hd1⟩:=st.1
  have nI:∀us j,s.heap.get? I≠some (aJ us j)∧s.heap.get? I≠some (a8 us j):=fun us j=>by constructor <;> (intro q;rw[ho1] at q;cases q;cases hd1)
  exact lr rp (fun b hb=>hs'.2 b hb) nI
 done:=fun s Q E st hQ=>by
  have hit:=st.1
  rw[List.length_reverse,show(vs.length:Int) - 1 - (ds.length:Int)=-1 by omega] at hit
  exact wpAny_pyNext_rev_end hh hit fun h' he'=>hQ h' s.toks fun b o hb e=>he' b o (fun h=>hb (by simp[h])) e
 self:=fun _ _ _ _ st hQ=>wpAny_pyIter_revIter st.1 hQ
noncomputable def lF(m:aa->Option D):aa->Option (List D):=fun ρ=>(m ρ).bind fun d=>(fB true d).bind fun l=>if l.length≤16777216 then some l.reverse else none
theorem SI.rev[NeZero k]{fz:Bool}{e target:Expr}{t:Tg}{x:Str}{p pos:Pos}{m:aa->Option D}(ht:bV target=some t)(b:BName G sc x (.type "reversed"))(hs:a9 e)(h:SE G k sc e m):
  SI G k sc fz target (.Call (.Name x p) [e] [] pos) (lF m):=by
 intro A env N α s ρ ds hA hE hb hin hρ
 refine ao hρ fun d ed hρ=>?_
 refine ao hρ fun l el hρ=>?_
 split at hρ
 .rename_i hz
  cases hρ
  refine Call_ (b.eval hE hb (callWith_type1 (args_cons (wpAny_mono (h A env N α s ρ d hA hE hb hin ed) (fun v s1 h1=>args_nil ?_) fun _ _ x=>x) (hs _ env)) (hs _ env) rfl))
  obtain⟨k₁,rt⟩:=h1
  have it:d.items? = some l:=by cases d <;> simp[fB] at el <;> simp[D.items?,el]
  obtain⟨a,vs,n,rfl,ha,rs⟩:=rt.items it
  have hne:a≠s1.heap.objs.size:=Nat.ne_of_lt (Heap.lt_size ha)
  refine call_reversed_list (items:=vs.toArray) ⟨_,ha,rfl,n,rfl⟩ ?_
  have kp:∀b o,s1.heap.get? b=some o->(s1.heap.push (revObj a ((vs.toArray.size:Int) - 1))).get? b=some o:=fun b o e=>Heap.get?_push_of_some _ e
  have hI:(s1.heap.push (revObj a ((vs.toArray.size:Int) - 1))).IsRevIter s1.heap.objs.size a ((vs.length:Int) - 1 - ((0:Nat):Int)):=by
   rw[show(vs.length:Int) - 1 - ((0:Nat):Int)=(vs.toArray.size:Int) - 1 by simp]
   exact⟨_,Heap.get?_push_size _ rfl,rfl,rfl⟩
  refine wpAny_pyIter_revIter hI ⟨k₁.trans (Kp.push s1 _),by rw[sizeLine_eq,List.length_reverse];exact hz,_,_,_,_,_,_,rfl,Wk.rev hA.no ht s1.heap.objs.size a hne vs l rs.length,⟨hI,n,kp _ _ ha⟩,rs.keep kp,fun b hb=>?_,fun b hb=>?_,fun b hb=>?_⟩
  .simp at hb;subst hb;exact k₁.gone (b4 _)
  .simp at hb
   rcases hb with rfl | rfl
   .exact⟨_,Heap.get?_push_size _ rfl⟩
   .exact⟨_,kp _ _ ha⟩
  .simp at hb
   rcases hb with rfl | rfl
   .exact .inl (k₁.gone (b4 _))
   .cases hs:s.heap.get? b with
    | none=>exact .inl rfl
    | some o=>
     have:=k₁.heap _ _ hs
     rw[ha] at this
     cases this
     refine .inr (.inl ⟨vs,n,rfl,fun q=>?_⟩)
     cases rt with
     | clean r=>cases r with
      | list _ hn _=>exact hn
      | tup _ _=>simp[fB] at el
      | ref _=>simp[fB] at el
     | own _ _=>simp[fB] at el
 .cases hρ
theorem yy[NeZero k]{fz:Bool}{target e:Expr}{t:Tg}{p pos:Pos}{m:aa->Option D}(hn:G.mg (Str.ofString "reversed")=none∧G.mb (Str.ofString "reversed")=some (.type "reversed"))(hx:okGlob sc "reversed"=true)(hs:a9 e)(ht:bV target=some t)(h:SE G k sc e m):
  SI G k sc fz target (.Call (.Name (Str.ofString "reversed") p) [e] [] pos) (lF m):=SI.rev ht ⟨cq hx,cr hx,hn.1,hn.2⟩ hs h
end
noncomputable abbrev dl:List Value:=[.type "ValueError",.type "Exception",.type "BaseException",.type "object"]
structure XCls (G:ap) (c:String) (C:Addr) (mro:List Value):Prop where
 bound:G.mg (Str.ofString c)=some (.ref C)
 obj:∃N nm q bs hdct sn sub ab col dd k0 k1 k2 k3 k5 mN,G.base.get? C=some (excClassObj nm q C N bs mro hdct sn sub ab col dd k0 k1 k2 k3 k5 "ValueError.__new__")∧G.base.Ns N mN∧mN "__init__"=none∧OwnTail G.base dl mro
theorem XCls.base{G:ap}{c:String}{C:Addr}{mro:List Value}(x:XCls G c C mro):mro.contains (.type "BaseException")=true:=by
 refine cN fun Qh zh=>?_
 obtain⟨_,_,_,_,_,_,_,_,_,_,_,_,_,_,_,_,_,_,_,T⟩:=x.obj
 refine zh ?_
 exact T.hasType PySem.F.excBase_ValueError.hasBase
structure Fly (G:ap) (B:Heap) (l:List Env) (c:String) (s:Shared) (e:Value) (s':Shared):Prop where
 ex:∃ea C a0,e=.ref ea∧G.mg (Str.ofString c)=some (.ref C)∧Heap.FlyingW B l ea (.ref C) a0 s'.heap
 up:s.heap.UpToSlots s'.heap
 st:∃h' tk,s'={ s with heap:=h',toks:=tk }
structure yz (G:ap) (B:Heap) (l:List Env) (c:String) (s:Shared) (e:Value) (s':Shared):Prop where
 ex:∃ea C t,e=.ref ea∧G.mg (Str.ofString c)=some (.ref C)∧B.get? ea=none∧s'.heap.get? ea=some { cls:=.ref C,data:=.fields #[.ref t,.none,.none,.none,.bool false,.none] }
 stays:B.StaysIn s'.heap
 fr:s'.heap.FunFrames B l
 up:s.heap.UpToSlots s'.heap
 st:∃h' tk,s'={ s with heap:=h',toks:=tk }
structure yA (G:ap) (B:Heap) (l:List Env) (c:String) (s:Shared) (e:Value) (s':Shared):Prop where
 ex:∃ea C a0 L,e=.ref ea∧G.mg (Str.ofString c)=some (.ref C)∧(∀env l',l=env :: l'->env.frame=some L)∧Heap.HeldW B l ea (.ref C) a0 L s'.heap
 up:s.heap.UpToSlots s'.heap
 st:∃h' tk,s'={ s with heap:=h',toks:=tk }
noncomputable def Exn(G:ap)(B:Heap)(l:List Env)(c:String)(s:Shared)(e:Value)(s':Shared):Prop:=Fly G B l c s e s'∨yz G B l c s e s'∨yA G B l c s e s'
theorem pF{s s1 s2:Shared}(x:∃h' tk,s1={ s with heap:=h',toks:=tk })(y:∃h' tk,s2={ s1 with heap:=h',toks:=tk }):∃h' tk,s2={ s with heap:=h',toks:=tk }:=by
 obtain⟨_,_,rfl⟩:=x
 obtain⟨h,t,rfl⟩:=y
 exact⟨h,t,rfl⟩
theorem Kp.st{s s':Shared}(x:Kp s s'):∃h' tk,s'={ s with heap:=h',toks:=tk }:=by
 obtain⟨h,t,rfl,_⟩:=x;exact⟨h,t,rfl⟩
theorem Kp.up{s s':Shared}(x:Kp s s'):s.heap.UpToSlots s'.heap:=.of_keeps x.heap
theorem Fly.after{G:ap}{B:Heap}{l:List Env}{c:String}{s s1 s':Shared}{e:Value}(x:Fly G B l c s1 e s')(k:s.heap.UpToSlots s1.heap)(t:∃h' tk,s1={ s with heap:=h',toks:=tk }):Fly G B l c s e s':=⟨x.ex,k.trans x.up,pF t x.st⟩
theorem Exn.leave{G:ap}{B:Heap}{env:Env}{l:List Env}{c:String}{s s':Shared}{e:Value}{M:Model}{A:Around}{L:Addr}{E:Value->Shared->Prop}{Q:Unit->Shared->Prop}(hA:A.frames=some (env :: l))(hf:env.frame=some L)(x:Exn G B (env :: l) c s e s')
  (k:∀s'',Fly G B l c s e s''->Q () s''):wpAny M A (leaving env e) Q E s':=by
 rcases x with x | x | x
 .refine cN fun Qh zh=>?_
  obtain⟨ea,C,a0,rfl,hm,hfl⟩:=x.ex
  refine zh ?_
  refine wpAny_leaves_onW hA hf hfl fun h' y u=>k _ ⟨⟨ea,C,a0,rfl,hm,y⟩,x.up.trans u,?_⟩
  obtain⟨h,t,rfl⟩:=x.st
  exact⟨h',t,rfl⟩
 .refine cN fun Qh zh=>?_
  obtain⟨ea,C,t,rfl,hm,hn,he⟩:=x.ex
  refine zh ?_
  refine wpAny_leaving_firstW hA x.fr hf he x.stays hn rfl rfl rfl fun h' y=>?_
  refine cN fun Qh zh=>?_
  obtain⟨y1,⟨_,_,y2⟩,y3,y4⟩:=y
  refine zh ?_
  refine k _ ⟨⟨ea,C,_,rfl,hm,y1,hn,y2,y3⟩,x.up.trans y4,?_⟩
  obtain⟨h,t,rfl⟩:=x.st
  exact⟨h',t,rfl⟩
 .refine cN fun Qh zh=>?_
  obtain⟨ea,C,a0,L',rfl,hm,hL,hh⟩:=x.ex
  refine zh ?_
  have e:some L'=some L:=(hL _ _ rfl).symm.trans hf
  cases e
  unfold leaving
  refine wpAny_bind (wpAny_noteFrame_againW hf hh.2.2.2 ?_)
  refine wpAny_landsW hh fun h' hfl u=>?_
  refine cN fun Qh zh=>?_
  obtain⟨k1,k2,⟨_,_,k3⟩,k4⟩:=hfl
  refine zh ?_
  refine k _ ⟨⟨ea,C,a0,rfl,hm,k1,k2,k3,k4⟩,x.up.trans u,?_⟩
  obtain⟨h,t,rfl⟩:=x.st
  exact⟨h',t,rfl⟩
noncomputable def XE(G:ap)(k:Nat)(sc:Scope)(e:Expr)(μ:aa->Option String):Prop:=
 ∀A env N α s ρ c l B,AOk A k->EOk sc env->Hk G.base s.heap->In G env N α s.heap ρ->A.frames=some (env :: l)->B.StaysIn s.heap->s.heap.FunFrames B (env :: l)->μ ρ=some c->
  wpAny (model G.prog G.w) A (eval e env) (fun _ _=>False) (Fly G B (env :: l) c s) s
structure Fc (A:Around) (env:Env) (l:List Env) (B:Heap) (s₀:Shared):Prop where
 fr:A.frames=some (env :: l)
 own:env.frame=some env.locals
 stays:B.StaysIn s₀.heap
 ff:s₀.heap.FunFrames B l
 new:B.get? env.locals=none
noncomputable def X1(G:ap)(k:Nat)(sc:Scope)(st:Stmt)(μ:aa->Option String):Prop:=
 ∀A env N α s₀ s ρ c l B,AOk A k->EOk sc env->Hk G.base s₀.heap->Act G s₀ env N α s ρ->Fc A env l B s₀->μ ρ=some c->
  wpAny (model G.prog G.w) A (exec st env) (fun _ _=>False) (Exn G B (env :: l) c s₀) s
noncomputable def XS(G:ap)(k:Nat)(sc:Scope)(sts:List Stmt)(μ:aa->Option String):Prop:=
 ∀A env N α s₀ s ρ c l B,AOk A k->EOk sc env->Hk G.base s₀.heap->Act G s₀ env N α s ρ->Fc A env l B s₀->μ ρ=some c->
  wpAny (model G.prog G.w) A (execs sts env) (fun _ _=>False) (Exn G B (env :: l) c s₀) s
theorem ng{h h' B:Heap}{l:List Env}(x:h.FunFrames B l)(k:∀b o,h.get? b=some o->h'.get? b=some o):h'.FunFrames B l:=x.of_keeps fun b o e _=>⟨o,k b o e,rfl⟩
theorem Fc.here{A:Around}{env:Env}{l:List Env}{B:Heap}{sc:Scope}{s₀ s:Shared}{N α ρ}(f:Fc A env l B s₀)(hE:EOk sc env)(a:Act G s₀ env N α s ρ):B.StaysIn s.heap∧s.heap.FunFrames B (env :: l):=by
 refine⟨fun b o e=>a.kp.heap b o (f.stays b o e),by rw[hE.kind'];decide,?_,ng f.ff a.kp.heap⟩
 obtain⟨m,cm,i,_⟩:=a.ex
 refine cN fun Qh zh=>?_
 obtain⟨o,es,ep,ho,hd,_⟩:=i.toInCall.ns
 refine zh ?_
 exact⟨_,o,f.own,f.new,ho,fun vs q=>by rw[hd] at q;cases q⟩
section
variable {G:ap} {k:Nat} {sc:Scope}
noncomputable def i9(μ:aa->Option String)(m:aa->Option Out)(ν:aa->Option String):aa->Option String:=fun ρ=>match μ ρ with
 | some c=>some c
 | none=>match m ρ with
  | some (.next ρ')=>ν ρ'
  | _=>none
theorem XS.cons{st:Stmt}{rest:List Stmt}{μ ν:aa->Option String}{m:aa->Option Out}(hx:X1 G k sc st μ)(hm:S1 G k sc st m)(hr:XS G k sc rest ν):XS G k sc (st :: rest) (i9 μ m ν):=by
 intro A env N α s₀ s ρ c l B hA hE hb ha hF hρ
 unfold i9 at hρ
 cases hμ:μ ρ with
 | some c'=>
  rw[hμ] at hρ
  obtain rfl:c'=c:=Option.some.inj hρ
  exact wpAny_execs_cons (wpAny_mono (hx A env N α s₀ s ρ c' l B hA hE hb ha hF hμ) (fun _ _ q=>q.elim) fun _ _ y=>y)
 | none=>
  rw[hμ] at hρ
  simp only at hρ
  cases hmm:m ρ with
  | none=>rw[hmm] at hρ;cases hρ
  | some o=>
   rw[hmm] at hρ
   cases o with
   | ret d=>cases hρ
   | brk d=>cases hρ
   | cont d=>cases hρ
   | retF d=>cases hρ
   | next ρ'=>
    refine wpAny_execs_cons (wpAny_mono (hm A env N α s₀ s ρ _ hA hE hb ha hmm) (fun fl s1 h1=>?_) fun _ _ x=>x.elim)
    obtain⟨rfl,α',a',f'⟩:=h1
    exact hr A env N α' s₀ s1 ρ' c l B hA hE hb a' hF hρ
noncomputable def im(c:aa->Option Bool)(μ ν:aa->Option String):aa->Option String:=fun ρ=>(c ρ).bind fun b=>if b then μ ρ else ν ρ
theorem X1.ite{test:Expr}{body orelse:List Stmt}{pos:Pos}{c:aa->Option Bool}{μ ν:aa->Option String}(ht:ST G k sc test c)(h1:XS G k sc body μ)(h2:XS G k sc orelse ν):X1 G k sc (.If test body orelse pos) (im c μ ν):=by
 intro A env N α s₀ s ρ x l B hA hE hb ha hF hρ
 refine ao hρ fun b eb hρ=>?_
 refine wpAny_If (wpAny_mono (ht A env N α s ρ b hA hE (ha.hk hb) ha.in eb) (fun b' s1 h₁=>?_) fun _ _ x=>x.elim)
 obtain⟨rfl,hk⟩:=h₁
 have a':=ha.keep hk
 cases b' with
 | true=>exact h1 A env N α s₀ s1 ρ x l B hA hE hb a' hF hρ
 | false=>exact h2 A env N α s₀ s1 ρ x l B hA hE hb a' hF hρ
theorem X1.raise[NeZero k]{c:String}{C:Addr}{mro:List Value}{e0:Expr}{np cpos pos:Pos}{d:D}(hC:XCls G c C mro)(hx:sc.names.lookup (Str.ofString c)=some .globalImplicit)(hd:(Str.ofString c==("__debug__":Str))=false)(hs:a9 e0)(he:SE G k sc e0 (fun _=>some d)):
  X1 G k sc (.Raise (some (.Call (.Name (Str.ofString c) np) [e0] [] cpos)) none pos) (fun _=>some c):=by
 intro A env N α s₀ s ρ x l B hA hE hb ha hF hρ
 obtain rfl:c=x:=Option.some.inj hρ
 obtain⟨h1,h2⟩:=hF.here hE ha
 have hk:Hk G.base s.heap:=ha.hk hb
 refine cN fun Qh zh=>?_
 obtain⟨N',nm,q,bs,hdct,sn,sub,ab,col,dd,k0,k1,k2,k3,k5,mN,hC',hN,hni,T⟩:=hC.obj
 refine zh ?_
 refine wpAny_Raise_call_subT (C:=C) (nm:=nm) (q:=q) (N:=N') (bs:=bs) (bm:=mro) (hdct:=hdct) (sn:=sn) (sub:=sub) (ab:=ab) (col:=col) (dd:=dd) (k0:=k0) (k1:=k1) (k2:=k2) (k3:=k3) (k5:=k5) (mN:=mN)
  PySem.F.excBase_ValueError hC.base hA.no (by rw[hs [] env];rfl) hni ?_
 refine Calls.Name_function_global hE.kind' (by rw[hE.kindOf];exact hx) (Calls.loadGlobal_global (mg:=G.mg) (by rw[hE.globals];exact G.g.keeps hk) hC.bound ⟨rfl,?_⟩) hd
 rw[hs [] env]
 refine Calls.evalArgs_plain (Calls.spliced_cons (wpAny_mono (he A env N α s ρ d hA hE hk ha.in rfl) (fun v s1 h₁=>?_) fun _ _ x=>x.elim))
 refine spliced_none ⟨rfl,by rw[sizeLine_eq];simp,aZ hk h₁.1 _ _ hC',hN.keeps (aZ hk h₁.1),T.keeps (aZ hk h₁.1),fun h' e hm=>.inr (.inl ?_)⟩
 obtain⟨t,ht,_,_⟩:=hm.there
 have up:s₀.heap.UpToSlots h':=(ha.kp.up.trans h₁.1.up).trans (.of_keeps hm.keeps)
 refine⟨⟨e,C,t,rfl,hC.bound,?_,ht⟩,fun b o e'=>hm.keeps b o (h₁.1.heap b o (h1 b o e')),ng (ng h2 h₁.1.heap) hm.keeps,up,?_⟩
 .cases hq:B.get? e with
  | none=>rfl
  | some o=>have:=h₁.1.heap e o (h1 e o hq);rw[hm.new] at this;cases this
 .obtain⟨h₂,t2,e2⟩:=pF ha.kp.st h₁.1.st
  exact⟨h',t2,by rw[e2]⟩
theorem pG{f:Addr}{fd:FuncData}{names:List Str}{N:Addr->Prop}{s s1:Shared}{vals:List Value}{ds:List D}(hE:EOk fd.scope (callEnvC fd s.heap.objs.size f))(hnd:names.Nodup)(hkind:∀x∈names,okStore fd.scope x=true)(hfree:fd.scope.names.all (fun p=>p.2 != .free && !aU p.1)=true)
  (lo:Lo N s.heap) (ra:Rps s.heap N vals ds) (hlen:ds.length=names.length) (X:InCallC s (callEnvC fd s.heap.objs.size f).locals (bindL (callEnvC fd s.heap.objs.size f).kindOf (names.zip vals) fun _=>none) (callEnvC fd s.heap.objs.size f).cells (bindC (callEnvC fd s.heap.objs.size f).kindOf (names.zip vals) fun _=>none) s1):
  Act G s (callEnvC fd s.heap.objs.size f) N (fun _=>none) s1 (bK names ds):=by
 have hvl:vals.length=names.length:=ra.length.trans hlen
 have hkp:∀b o,s.heap.get? b=some o->s1.heap.get? b=some o:=X.toInCall.keep
 have hnames:((names.zip vals).map (·.1)).Nodup:=by
  rw[List.map_fst_zip (by omega)];exact hnd
 have nb:∀x,aU x=true->fd.scope.names.lookup x=none:=fun x hx=>by
  cases q:fd.scope.names.lookup x with
  | none=>rfl
  | some kd=>
   have:=List.all_eq_true.mp hfree _ (mem_of_lookup q)
   simp[hx] at this
 refine⟨⟨_,_,X,fun x d hx _=>?_⟩,lo,fun x a q=>(by cases q),fun x y a q=>(by cases q),fun x hx=>?_,fun b d e=>?_,fun x hx=>(hE.kindOf x).trans (nb x hx)⟩
 .obtain⟨v,h1,h2⟩:=lv ra hx
  refine⟨v,?_,.clean ((h2.keep hkp).weak fun b q=>q.elim id fun⟨_,q⟩=>by cases q)⟩
  have hm:x∈names:=(List.of_mem_zip (mem_of_lookup h1)).1
  have hkx:=okStore.ok hE (hkind x hm)
  unfold valOf
  rcases hkx with q | q
  .rw[q];exact pp q _ _ hnames h1
  .rw[q];exact pq q _ _ hnames h1
 .rcases hx with hx | hx
  .exact fX _ _ _ (.inl hx)
  .have:=List.all_eq_true.mp hfree _ (mem_of_lookup hx)
   simp at this
 .obtain⟨v,h1,h2⟩:=lv ra e
  have hm:ag b∈names:=(List.of_mem_zip (mem_of_lookup h1)).1
  have hkx:=okStore.ok hE (hkind _ hm)
  rw[hE.kindOf,nb _ dH] at hkx
  rcases hkx with q | q <;> cases q
end
section
variable {M:Model} {A:Around} {E:Value->Shared->Prop}
variable {nm q:Str} {C N:Addr} {bs bm:List Value} {hdct:Bool} {sn:List Str} {sub:List Value} {ab:Bool} {col:Option Bool} {dd:Option Addr} {k0 k1 k2 k3 k5:Option Value} {newId:String}
variable {nm' q':Str} {C' N':Addr} {bs' bm':List Value} {hdct':Bool} {sn':List Str} {sub':List Value} {ab':Bool} {col':Option Bool} {dd':Option Addr} {k0' k1' k2' k3' k5':Option Value} {newId':String}
theorem yB{h:Heap}{g:Array GenState}{d:Drawn}{t:Nat}{os:OsState}{e:Addr}{oe:Obj}{Q:Bool->Shared->Prop}
  (hC:h.get? C=some (excClassObj nm q C N bs bm hdct sn sub ab col dd k0 k1 k2 k3 k5 newId)) (he:h.get? e=some oe) (hcls:oe.cls=.ref C)
  (hC':h.get? C'=some (excClassObj nm' q' C' N' bs' bm' hdct' sn' sub' ab' col' dd' k0' k1' k2' k3' k5' newId')) (hbase:bm'.contains (.type "BaseException")=true)
  (hq:Q ((Value.ref C :: bm).contains (.ref C')) ⟨h,g,d,t,os⟩):wpAny M A (excMatches (.ref e) (.ref C')) Q E ⟨h,g,d,t,os⟩:=by
 have hcB:(Value.ref C' :: bm').contains (.type "BaseException")=true:=by rw[List.contains_cons,hbase,Bool.or_true]
 have f:=tc_notTuple
 unfold excMatches
 repeat (first | (with_reducible refine wpAny_loadPart_at he ?_;rw[hcls]) | with_reducible refine wpAny_loadPart_at hC' ?_ | (with_reducible refine wpAny_isSubtype_exc hC' ?_;rw[hcB]) | with_reducible refine wpAny_isSubtype_exc hC ?_ | wp_step)
 cases hb:(Value.ref C :: bm).contains (.ref C') <;> (rw[hb] at hq;wp_walk;exact hq)
theorem pH{G:ap}{c n:String}{C C':Addr}{mro m':List Value}{M:Model}{A:Around}{E:Value->Shared->Prop}{h:Heap}{g:Array GenState}{d:Drawn}{t:Nat}{os:OsState}{e:Addr}{oe:Obj}{Q:Bool->Shared->Prop}(hC:XCls G c C mro)(hC':XCls G n C' m')(hb:Hk G.base h)(he:h.get? e=some oe)(hcls:oe.cls=.ref C)
  (hq:Q ((Value.ref C :: mro).contains (.ref C')) ⟨h,g,d,t,os⟩):wpAny M A (excMatches (.ref e) (.ref C')) Q E ⟨h,g,d,t,os⟩:=by
 refine cN fun Qh zh=>?_
 obtain⟨_,_,_,_,_,_,_,_,_,_,_,_,_,_,_,_,o1,_⟩:=hC.obj
 obtain⟨_,_,_,_,_,_,_,_,_,_,_,_,_,_,_,_,o2,_⟩:=hC'.obj
 exact zh (yB (hb _ _ o1) he hcls (hb _ _ o2) hC'.base hq)
end
theorem tz{M:Model}{A:Around}{E:Value->Shared->Prop}{s:Shared}{base:Heap}{l:List Env}{e:Addr}{cls a0:Value}{Q:Unit->Shared->Prop}(hh:Heap.FlyingW base l e cls a0 s.heap)
  (hQ:∀h',Heap.FlyingW base l e cls a0 h'->s.heap.UpToSlots h'->Q () { s with heap:=h' }):wpAny M A (setFlight (.ref e) none) Q E s:=by
 obtain⟨f1,f2,f3,f4⟩:=hh
 exact wpAny_setFlight_noneW f1 f3 f4.at fun h' k1 k2 k3 k4=>hQ h' ⟨k1,f2,k2,k3⟩ fun b o hb hn=>⟨o.slots,k4 b o hb hn⟩
section
variable {G:ap} {k:Nat} {sc:Scope}
end
end Mine
end
section
namespace Mine
open PySem PyProof.Rows PySem.Calls
noncomputable def lG:aa->Option String:=fun _=>none
noncomputable def lH(c:String):aa->Option String:=fun _=>some c
section
variable {G:ap} {k:Nat} {sc:Scope}
theorem pI{sts:List Stmt}:XS G k sc sts lG:=by intro A env N α s₀ s ρ c l B hA hE hb ha hF hρ;cases hρ
theorem XS.last{st:Stmt}{rest:List Stmt}{μ:aa->Option String}(hx:X1 G k sc st μ):XS G k sc (st :: rest) μ:=by
 intro A env N α s₀ s ρ c l B hA hE hb ha hF hρ
 exact wpAny_execs_cons (wpAny_mono (hx A env N α s₀ s ρ c l B hA hE hb ha hF hρ) (fun _ _ q=>q.elim) fun _ _ y=>y)
noncomputable def yC(o:Obj):List Value:=match o.data with | .cls c=>c.mro | _=>[]
theorem XCls.at{c:String}{C:Addr}{o:Obj}{m:List Value}(O:OwnCls (Str.ofString c) C dl "ValueError.__new__" G.mg G.base)(ho:G.base.get? C=some o)(hm:yC o=.ref C :: m):XCls G c C m:=by
 refine⟨O.bound,?_⟩
 obtain⟨bm,N,nm,q,bs,hdct,sn,sub,ab,col,dd,k0,k1,k2,k3,k5,mN,h1,h2,h3,h4⟩:=O.obj
 rw[h1] at ho
 cases ho
 have e:bm=m:=(List.cons.inj hm).2
 subst e
 exact⟨N,nm,q,bs,hdct,sn,sub,ab,col,dd,k0,k1,k2,k3,k5,mN,h1,h2,h3,h4⟩
theorem pJ[NeZero k]{c:String}{C:Addr}{mro:List Value}{y:String}{kd:Nat}{np cpos pos p2:Pos}(hC:XCls G c C mro)(hx:okGlob sc c=true):
  X1 G k sc (.Raise (some (.Call (.Name (Str.ofString c) np) [.Constant (.str (Str.ofString y)) kd p2] [] cpos)) none pos) (lH c):=X1.raise hC (cq hx) (cr hx) (fun _ _=>rfl) SE.cStr
end
section
variable {q:Program} {loose:List Str} {mean:ExcName->Option Value} {mg mb:Str->Option Value} {h:Heap} (T:Top q loose mean mg mb h) {prog:Program} {w:World} {k:Nat} {name:String} {names:List String} (i:Nat) {d:DefRec} (hi:(recsOf q)[i]? = some d) (hnm:d.name=Str.ofString name)
  (hbind:∀(pm code doc:Value) (vals:List Value),vals.length=(ay names).length->bindArgs (docDef d.name d.params d.body d.scope pm code doc) ⟨vals,[]⟩=pure ((ay names).zip vals))
  (hnd:(ay names).Nodup) (hsc:fH d.scope (ay names)=true)
include hi hnm hbind hnd hsc
end
end Mine
end
section
namespace Mine
open PySem PyProof.Rows
inductive gz (h:Heap) (ns:List Str) (bmB:List Value):List Value->Prop
 | base:gz h ns bmB bmB
 | own {A:Addr} {c0:Value} {dd:Option Addr} {cd:ClassData} {sl:Array (Option Value)} {mA:Str->Option Value} {tl:List Value}:
   h.get? A=some { cls:=c0,dict:=dd,data:=.cls cd,slots:=sl }->h.Ns cd.ns mA->(∀n∈ns,mA n=none)->gz h ns bmB tl->gz h ns bmB (.ref A :: tl)
noncomputable abbrev eJ:List Str:=["__class__","__getattribute__","__getattr__"]
theorem yD:typeLookup (.type "ValueError") "__class__"=pure (some (.builtin "object.__class__")):=by rw[typeLookup_type,builtinLookup_eq_fast];kernel_rfl
theorem yE:typeLookup (.type "ValueError") "__getattribute__"=pure (some (.builtin "BaseException.__getattribute__")):=by rw[typeLookup_type,builtinLookup_eq_fast];kernel_rfl
theorem yF:typeLookup (.type "ValueError") "__getattr__"=pure none:=by rw[typeLookup_type,builtinLookup_eq_fast];kernel_rfl
theorem yG:mroOf (.type "ValueError")=pure dl:=PySem.F.attrBase_ValueError.mro
section
variable {M:Model} {A:Around} {E:Value->Shared->Prop} {h:Heap} {g:Array GenState} {d:Drawn} {t:Nat} {os:OsState}
variable {nm q:Str} {C N:Addr} {bs bm:List Value} {hdct:Bool} {sn:List Str} {sub:List Value} {ab:Bool} {col:Option Bool} {dd:Option Addr} {k0 k1 k2 k3 k5:Option Value} {newId:String}
theorem yH{ns:List Str}{tl:List Value}{n:Str}{y:Option Value}{Q:Option Value->Shared->Prop}(hn:n∈ns)(T:gz h ns dl tl)(hrest:lookupAlong dl n=pure y)(hq:Q y ⟨h,g,d,t,os⟩):wpAny M A (lookupAlong tl n) Q E ⟨h,g,d,t,os⟩:=by
 induction T with
 | base=>rw[hrest];exact wpAny_pure hq
 | own hA hN hni _ ih=>
  rw[lookupAlong_cons]
  refine wpAny_bind (wpAny_classOwn_cls hA hN ?_)
  rw[hni n hn]
  exact ih
theorem pK{ns:List Str}{mN:Str->Option Value}{n:Str}{y:Option Value}{Q:Option Value->Shared->Prop}(hn:n∈ns)(hC:h.get? C=some (excClassObj nm q C N bs bm hdct sn sub ab col dd k0 k1 k2 k3 k5 newId))(hN:h.Ns N mN)(hmN:∀n∈ns,mN n=none)(T:gz h ns dl bm)
  (hB:typeLookup (.type "ValueError") n=pure y) (hq:Q y ⟨h,g,d,t,os⟩):wpAny M A (typeLookup (.ref C) n) Q E ⟨h,g,d,t,os⟩:=by
 have hrest:lookupAlong dl n=pure y:=by rw[typeLookup_eq,yG] at hB;exact hB
 rw[typeLookup_eq]
 refine wpAny_bind (wpAny_mroOf_exc hC ?_)
 rw[lookupAlong_cons]
 refine wpAny_bind (wpAny_classOwn_exc hC hN ?_)
 rw[hmN n hn]
 exact yH hn T hrest hq
end
section
variable {prog:Program} {w:World} {A:Around} {E:Value->Shared->Prop} {h:Heap} {g:Array GenState} {d:Drawn} {t:Nat} {os:OsState} {a:Addr} {o:Obj} {mN:Str->Option Value}
variable {nm q:Str} {C N:Addr} {bs bm:List Value} {hdct:Bool} {sn:List Str} {sub:List Value} {ab:Bool} {col:Option Bool} {dd:Option Addr} {k0 k1 k2 k3 k5:Option Value} {newId:String}
theorem yI{R:Result->Shared->Prop}(hC:h.get? C=some (excClassObj nm q C N bs bm hdct sn sub ab col dd k0 k1 k2 k3 k5 newId))(hob:bm.contains (.type "object")=true)(hx:h.get? a=some o)(hc:o.cls=.ref C)(hq:R (.ok (.ret (.ref C))) ⟨h,g,d,t,os⟩):
  codeAny (model prog w) A (.call (.builtin "getset_descriptor.__get__") ⟨[.builtin "object.__class__",.ref a,.ref C],[]⟩) R ⟨h,g,d,t,os⟩:=by
 have hT5:(⟨h,g,d,t,os⟩:Shared).TypeIs (.builtin "object.__class__") "getset_descriptor":=F.typeOf_object_class
 have hcB:(Value.ref C :: bm).contains (.type (".".intercalate ("object.__class__".cutAt '.').dropLast))=true:=by
  rw[F.owner_object_class,List.contains_cons,hob,Bool.or_true]
 refine codeAny_call_builtin F.slot_gs_get.plain F.entry_gs_get (F.slot_gs_get.check _ _ _ _ _ _ _ _ hT5 (F.args_gs_get _ _ _) ?_)
 repeat (any_goals (first | assumption | (with_reducible refine wpAny_loadPart_at hx ?_;rw[hc]) | (with_reducible refine wpAny_isSubtype_exc hC ?_;rw[hcB]) | wp_step))
 refine⟨Code.quiet_builtin _ (by decide +kernel),codeAny_builtin F.entry_object_class ?_⟩
 repeat (any_goals (first | assumption | (with_reducible refine wpAny_loadPart_at hx ?_;rw[hc]) | wp_step))
theorem yJ{tk:Tok}{Q:Fin->Shared->Prop}(hC:h.get? C=some (excClassObj nm q C N bs bm hdct sn sub ab col dd k0 k1 k2 k3 k5 newId))(hN:h.Ns N mN)(hmN:∀n∈eJ,mN n=none)(T:gz h eJ dl bm)(hob:bm.contains (.type "object")=true)
  (hx:h.get? a=some o) (hc:o.cls=.ref C) (hq:Q (.done (.ret (.ref C))) ⟨h,g,d,t,os⟩):wpAny (model prog w) A (Builtin.«object.__getattribute__» ⟨[.ref a,.str "__class__" tk],[]⟩) Q E ⟨h,g,d,t,os⟩:=by
 have hT5:(⟨h,g,d,t,os⟩:Shared).TypeIs (.builtin "object.__class__") "getset_descriptor":=F.typeOf_object_class
 have f5:=F.typeOf_object_class
 have f6:=F.slot_gs_get.lookup
 have f7:=F.slot_gs_set.lookup
 have hmA:("__class__":Str)∈eJ:=.head _
 repeat (any_goals (first | assumption | (with_reducible refine wpAny_loadPart_at hx ?_;rw[hc]) | with_reducible refine pK hmA hC hN hmN T yD ?_ | wp_step))
 refine yI hC hob hx hc ?_
 repeat (any_goals (first | assumption | wp_step))
theorem yK{M:Model}{nameV:Value}{Q:Unit->Shared->Prop}(hC:h.get? C=some (excClassObj nm q C N bs bm hdct sn sub ab col dd k0 k1 k2 k3 k5 newId))(hbe:bm.contains (.type "BaseException")=true)
  (hx:h.get? a=some o) (hc:o.cls=.ref C) (hq:Q () ⟨h,g,d,t,os⟩):wpAny M A (checkBuiltinCall "BaseException.__getattribute__" ⟨[.ref a,nameV],[]⟩) Q E ⟨h,g,d,t,os⟩:=by
 have hk:builtinKind "BaseException.__getattribute__"=some .slot:=by decide +kernel
 have hsplit:splitId "BaseException.__getattribute__"=some ("BaseException","__getattribute__"):=by decide +kernel
 have hcB:(Value.ref C :: bm).contains (.type "BaseException")=true:=by rw[List.contains_cons,hbe,Bool.or_true]
 have ha:=F.args_bexc_ga (.ref a) nameV
 simp only[checkBuiltinCall,hk,hsplit]
 refine wpAny_bind ?_
 .unfold isInstance
  repeat (first | (with_reducible refine wpAny_loadPart_at hx ?_;rw[hc]) | (with_reducible refine wpAny_isSubtype_exc hC ?_;rw[hcB]) | wp_step)
  exact hq
theorem yL{tk:Tok}{fill expr:Bool}{Q:Value->Shared->Prop}(hC:h.get? C=some (excClassObj nm q C N bs bm hdct sn sub ab col dd k0 k1 k2 k3 k5 newId))(hN:h.Ns N mN)(hmN:∀n∈eJ,mN n=none)(T:gz h eJ dl bm)(hob:bm.contains (.type "object")=true)(hbe:bm.contains (.type "BaseException")=true)
  (hx:h.get? a=some o) (hc:o.cls=.ref C) (hq:Q (.ref C) ⟨h,g,d,t,os⟩):wpAny (model prog w) A (getAttrBy (.ref a) (.str "__class__" tk) fill expr) Q E ⟨h,g,d,t,os⟩:=by
 have f3:=PySem.F.attrBase_ValueError.ga.bind (.ref a)
 have hx0:(expr&&onTheHeap (Value.builtin "BaseException.__getattribute__"))=false:=by cases expr <;> rfl
 have hx2:(Value.builtin "BaseException.__getattribute__"==Value.builtin "object.__getattribute__")=false:=by decide +kernel
 have hx1:(onTheHeap (Value.ref C)&&Value.builtin "BaseException.__getattribute__"==Value.builtin "object.__getattribute__")=false:=by rw[hx2];rfl
 have hm1:("__getattribute__":Str)∈eJ:=.tail _ (.head _)
 have hm2:("__getattr__":Str)∈eJ:=.tail _ (.tail _ (.head _))
 repeat (any_goals (first | assumption | (with_reducible refine wpAny_loadPart_at hx ?_;rw[hc]) | with_reducible refine pK hm1 hC hN hmN T yE ?_ | with_reducible refine pK hm2 hC hN hmN T yF ?_ | wp_step))
 refine codeAny_call_builtin PySem.F.attrBase_ValueError.ga.plain F.entry_bexc_ga (yK hC hbe hx hc (yJ hC hN hmN T hob hx hc ?_))
 repeat (any_goals (first | assumption | wp_step))
theorem yM{Q:Option Value->Shared->Prop}(hC:h.get? C=some (excClassObj nm q C N bs bm hdct sn sub ab col dd k0 k1 k2 k3 k5 newId))(hN:h.Ns N mN)(hmN:∀n∈eJ,mN n=none)(T:gz h eJ dl bm)(hob:bm.contains (.type "object")=true)(hbe:bm.contains (.type "BaseException")=true)
  (hx:h.get? a=some o) (hc:o.cls=.ref C) (hq:Q (some (.ref C)) ⟨h,g,d,t+1,os⟩):wpAny (model prog w) A (getAttr? (.ref a) "__class__") Q E ⟨h,g,d,t,os⟩:=by
 unfold getAttr? getAttrBy?
 repeat (any_goals (first | assumption | with_reducible apply yL hC hN hmN T hob hbe hx hc | wp_step))
end
section
variable {prog:Program} {w:World} {A:Around} {E:Value->Shared->Prop} {h:Heap} {g:Array GenState} {d:Drawn} {t:Nat} {os:OsState} {a:Addr} {o:Obj} {mN:Str->Option Value}
variable {nm q:Str} {C N:Addr} {bs bm:List Value} {hdct:Bool} {sn:List Str} {sub:List Value} {ab:Bool} {col:Option Bool} {dd:Option Addr} {k0 k1 k2 k3 k5:Option Value} {newId:String}
variable {nm' q':Str} {C' N':Addr} {bs' bm':List Value} {hdct':Bool} {sn':List Str} {sub':List Value} {ab':Bool} {col':Option Bool} {dd':Option Addr} {k0' k1' k2' k3' k5':Option Value} {newId':String}
theorem tA{dep:Int}{tk:Tok}{Q:Fin->Shared->Prop}(hC:h.get? C=some (excClassObj nm q C N bs bm hdct sn sub ab col dd k0 k1 k2 k3 k5 newId))(hC':h.get? C'=some (excClassObj nm' q' C' N' bs' bm' hdct' sn' sub' ab' col' dd' k0' k1' k2' k3' k5' newId'))
  (hx:h.get? a=some o) (hc:o.cls=.ref C) (hb:(Value.ref C :: bm).contains (.ref C')=true) (hq:Q (.done (.ret (.bool true))) ⟨h,g,d,t,os⟩):wpAny (model prog w) A (Builtin.«isinstance.nested» ⟨[.ref a,.ref C',.int dep tk],[]⟩) Q E ⟨h,g,d,t,os⟩:=by
 by_cases he:(Value.ref C==Value.ref C')=true
 .repeat (any_goals (first | assumption | (with_reducible refine wpAny_loadPart_at hx ?_;rw[hc]) | wp_step))
 .have he':(Value.ref C==Value.ref C')=false:=by simpa using he
  repeat (any_goals (first | assumption | (with_reducible refine wpAny_loadPart_at hx ?_;rw[hc]) | with_reducible refine wpAny_loadPart_at hC' ?_ | (with_reducible refine wpAny_isSubtype_exc hC ?_;rw[hb]) | wp_step))
theorem tB{dep:Int}{tk:Tok}{Q:Fin->Shared->Prop}(hC:h.get? C=some (excClassObj nm q C N bs bm hdct sn sub ab col dd k0 k1 k2 k3 k5 newId))(hC':h.get? C'=some (excClassObj nm' q' C' N' bs' bm' hdct' sn' sub' ab' col' dd' k0' k1' k2' k3' k5' newId'))
  (hN:h.Ns N mN) (hmN:∀n∈eJ,mN n=none) (T:gz h eJ dl bm) (hob:bm.contains (.type "object")=true) (hbe:bm.contains (.type "BaseException")=true)
  (hx:h.get? a=some o) (hc:o.cls=.ref C) (hb:(Value.ref C :: bm).contains (.ref C')=false) (hq:Q (.done (.ret (.bool false))) ⟨h,g,d,t+1,os⟩):wpAny (model prog w) A (Builtin.«isinstance.nested» ⟨[.ref a,.ref C',.int dep tk],[]⟩) Q E ⟨h,g,d,t,os⟩:=by
 have he':(Value.ref C==Value.ref C')=false:=by
  rw[List.contains_cons,Bool.or_eq_false_iff] at hb
  have:=hb.1
  rw[beq_eq_false_iff_ne] at this ⊢
  exact fun e=>this e.symm
 repeat (any_goals (first | assumption | (with_reducible refine wpAny_loadPart_at hx ?_;rw[hc]) | with_reducible refine wpAny_loadPart_at hC' ?_ | with_reducible refine wpAny_loadPart_at hC ?_ | (with_reducible refine wpAny_isSubtype_exc hC ?_;rw[hb]) | with_reducible apply yM hC hN hmN T hob hbe hx hc | wp_step))
end
structure ExAt (h:Heap) (a C:Addr) (bm:List Value):Prop where
 inst:∃o,h.get? a=some o∧o.cls=.ref C
 cls:∃N nm q bs hdct sn sub ab col dd k0 k1 k2 k3 k5 newId mN,h.get? C=some (excClassObj nm q C N bs bm hdct sn sub ab col dd k0 k1 k2 k3 k5 newId)∧h.Ns N mN∧∀n∈eJ,mN n=none
 tail:gz h eJ dl bm
 ob:bm.contains (.type "object")=true
 be:bm.contains (.type "BaseException")=true
noncomputable def eZ(h:Heap)(C:Addr):Prop:=∃N nm q bs bm hdct sn sub ab col dd k0 k1 k2 k3 k5 newId,h.get? C=some (excClassObj nm q C N bs bm hdct sn sub ab col dd k0 k1 k2 k3 k5 newId)
section
variable {prog:Program} {w:World} {A:Around} {E:Value->Shared->Prop} {s:Shared} {a C C':Addr} {bm:List Value} {Q:Value->Shared->Prop}
theorem yN(X:ExAt s.heap a C bm)(Y:eZ s.heap C')(hq:∀tk,Q (.bool ((Value.ref C :: bm).contains (.ref C'))) { s with toks:=tk }):wpAny (model prog w) A (call (.builtin "isinstance") [.ref a,.ref C']) Q E s:=by
 refine call_isinstance (S:=fun _ R s=>ExAt s.heap a C bm∧eZ s.heap C'∧∀tk,R (.ok (.ret (.bool ((Value.ref C :: bm).contains (.ref C'))))) { s with toks:=tk }) (fun prog w A R s X=>?_) ⟨X,Y,hq⟩
 obtain⟨X,Y,hr⟩:=X
 obtain⟨o,hx,hc⟩:=X.inst
 refine cN fun Qh zh=>?_
 obtain⟨N,nm,q,bs,hdct,sn,sub,ab,col,dd,k0,k1,k2,k3,k5,newId,mN,hC,hN,hmN⟩:=X.cls
 refine zh ?_
 refine cN fun Qh zh=>?_
 obtain⟨N',nm',q',bs',bm',hdct',sn',sub',ab',col',dd',k0',k1',k2',k3',k5',newId',hC'⟩:=Y
 refine zh ?_
 refine cN fun Qh zh=>?_
 obtain⟨hp,g,d,t,os⟩:=s
 refine zh ?_
 refine isinstance_outer ?_
 cases hb:(Value.ref C :: bm).contains (.ref C') with
 | true=>rw[hb] at hr;exact tA hC hC' hx hc hb (hr t)
 | false=>rw[hb] at hr;exact tB hC hC' hN hmN X.tail X.ob X.be hx hc hb (hr (t+1))
end
noncomputable def XQ(G:ap)(C:Addr)(mro:List Value):Prop:=∀h a,Hk G.base h->(∃o,h.get? a=some o∧o.cls=.ref C)->ExAt h a C mro
noncomputable def TE(G:ap)(sc:Scope)(v:Str)(C:Addr)(mro:List Value)(e:Expr)(b:Bool):Prop:=
 ∀A env s a m,EOk sc env->Hk G.base s.heap->s.heap.Ns env.locals m->m v=some (.ref a)->ExAt s.heap a C mro->
  wpAny (model G.prog G.w) A (isTrue e env (eval e env)) (fun b' s'=>b'=b∧∃tk,s'={ s with toks:=tk }) aQ s
section
variable {G:ap} {sc:Scope} {v:Str} {C:Addr} {mro:List Value}
theorem TE.isi{n:String}{C':Addr}{m':List Value}{p q r pos:Pos}(hl:sc.names.lookup v=some .local)(hd:(v==("__debug__":Str))=false)(bx:BName G sc (Str.ofString "isinstance") (.builtin "isinstance"))(hC':XCls G n C' m')
  (hx:sc.names.lookup (Str.ofString n)=some .globalImplicit) (hdn:(Str.ofString n==("__debug__":Str))=false) (hp:mZ (.Call (.Name (Str.ofString "isinstance") p) [.Name v q,.Name (Str.ofString n) r] [] pos)):
  TE G sc v C mro (.Call (.Name (Str.ofString "isinstance") p) [.Name v q,.Name (Str.ofString n) r] [] pos) ((Value.ref C :: mro).contains (.ref C')):=by
 intro A env s a m hE hb hn hv hX
 refine isTrue_plain (Call_ (bx.eval hE hb (callWith_builtin1 (args_cons (wpAny_Name (wpAny_loadName_local hE.kind' (by rw[hE.kindOf];exact hl) hn hv ?_) hd) rfl) rfl rfl))) (hp env _)
 refine args_cons (Calls.Name_function_global hE.kind' (by rw[hE.kindOf];exact hx) (Calls.loadGlobal_global (mg:=G.mg) (by rw[hE.globals];exact G.g.keeps hb) hC'.bound (args_nil ?_)) hdn) rfl
 obtain⟨N2,nm',q',bs',hdct',sn',sub',ab',col',dd',k0',k1',k2',k3',k5',mN',o2,_,_,_⟩:=hC'.obj
 refine yN hX ⟨_,_,_,_,_,_,_,_,_,_,_,_,_,_,_,_,_,hb _ _ o2⟩ fun tk=>?_
 exact wpAny_truthy_bool ⟨rfl,tk,rfl⟩
end
section
variable {G:ap} {k:Nat} {sc:Scope}
theorem yO{B h:Heap}{l:List Env}{env:Env}{e:Addr}{cls a0:Value}{m:Str->Option Value}(x:Heap.FlyingW B l e cls a0 h)(hn:h.Ns env.locals m):e≠env.locals:=by
 intro q
 subst q
 obtain⟨_,_,_,oe,vs,_,_,_,he,hc,hdat,_⟩:=x
 obtain⟨o,es,ep,ho,hd,_⟩:=hn
 rw[he] at ho
 cases ho
 rw[hd] at hdat
 cases hdat
end
end Mine
end
section
namespace Mine
open PySem PyProof.Rows PySem.W PySem.Calls
section
variable {prog:Program} {w:World} {A:Around} {E:Value->Shared->Prop}
theorem yP{P:Shared->Prop}(hP:∀s tk,P s->P { s with toks:=tk }){a C tp:Addr}{o:Obj}{cs:List Value}{vs:List Bool}{tk:Tok}{s:Shared}{Q:Fin->Shared->Prop}
  (hne:(Value.ref C==Value.ref tp)=false) (hx:s.heap.get? a=some o) (hc:o.cls=.ref C) (htp:s.heap.get? tp=some { cls:=.type "tuple",data:=.seq cs.toArray }) (ha:AnswersAll P (.ref a) cs vs) (hs:P s)
  (hq:∀tk',Q (.done (.ret (.bool (vs.any id)))) { s with toks:=tk' }):wpAny (model prog w) A (Builtin.«isinstance.nested» ⟨[.ref a,.ref tp,.int 0 tk],[]⟩) Q E s:=by
 refine cN fun Qh zh=>?_
 obtain⟨h,g,d,t,os⟩:=s
 refine zh ?_
 have hT2:(⟨h,g,d,t,os⟩:Shared).TypeIs (.ref tp) "tuple":=⟨_,htp,rfl⟩
 have f1:=F.isi_sub_tuple
 repeat (any_goals (first | assumption | (with_reducible refine wpAny_loadPart_at hx ?_;rw[hc]) | wp_step))
 refine wpAny_arrayLoop ?_
 simp only[Option.getD_some,List.toList_toArray]
 refine isinstance_items (dep:=0) hP cs vs _ _ ha hs fun tk'=>?_
 cases hv:vs.any id with
 | true=>
  simp only[if_true]
  repeat (any_goals (first | assumption | wp_step))
  exact hv ▸ hq tk'
 | false=>
  simp only[Bool.false_eq_true,if_false]
  repeat (any_goals (first | assumption | wp_step))
  exact hv ▸ hq tk'
end
noncomputable def TE3(G:ap)(sc:Scope)(v:Str)(C:Addr)(e:Expr)(b:Bool):Prop:=
 ∀A env s a m,EOk sc env->Hk G.base s.heap->s.heap.Ns env.locals m->m v=some (.ref a)->(∃o,s.heap.get? a=some o∧o.cls=.ref C)->
  wpAny (model G.prog G.w) A (isTrue e env (eval e env)) (fun b' s'=>b'=b∧Kp s s') aQ s
section
variable {G:ap} {sc:Scope} {v:Str} {C:Addr} {mro:List Value}
theorem TE3.of{e:Expr}{b:Bool}(hQ:XQ G C mro)(h:TE G sc v C mro e b):TE3 G sc v C e b:=by
 intro A env s a m hE hb hn hv hx
 refine wpAny_mono (h A env s a m hE hb hn hv (hQ _ _ hb hx)) (fun b' s' h'=>?_) fun _ _ x=>x
 obtain⟨rfl,tk,rfl⟩:=h'
 exact⟨rfl,Kp.toks s tk⟩
theorem TE3.not{e:Expr}{pos:Pos}{b:Bool}(h:TE3 G sc v C e b):TE3 G sc v C (.UnaryOp .Not e pos) (!b):=by
 intro A env s a m hE hb hn hv hx
 refine isTrue_not (wpAny_mono (h A env s a m hE hb hn hv hx) (fun b' s' h'=>?_) fun _ _ x=>x)
 obtain⟨rfl,h'⟩:=h'
 exact⟨rfl,h'⟩
theorem pL{a C C':Addr}{bm:List Value}{P:Shared->Prop}(hP:∀s,P s->ExAt s.heap a C bm∧eZ s.heap C'):Answers P (.ref a) (.ref C') ((Value.ref C :: bm).contains (.ref C')):=by
 intro dep tk prog w A R s X
 obtain⟨ps,hr⟩:=X
 obtain⟨X,Y⟩:=hP s ps
 obtain⟨o,hx,hc⟩:=X.inst
 refine cN fun Qh zh=>?_
 obtain⟨N,nm,q,bs,hdct,sn,sub,ab,col,dd,k0,k1,k2,k3,k5,newId,mN,hC,hN,hmN⟩:=X.cls
 refine zh ?_
 refine cN fun Qh zh=>?_
 obtain⟨N',nm',q',bs',bm',hdct',sn',sub',ab',col',dd',k0',k1',k2',k3',k5',newId',hC'⟩:=Y
 refine zh ?_
 refine cN fun Qh zh=>?_
 obtain⟨hp,g,d,t,os⟩:=s
 refine zh ?_
 cases hb:(Value.ref C :: bm).contains (.ref C') with
 | true=>rw[hb] at hr;exact tA hC hC' hx hc hb (hr t)
 | false=>rw[hb] at hr;exact tB hC hC' hN hmN X.tail X.ob X.be hx hc hb (hr (t+1))
end
section
variable {G:ap} {sc:Scope} {v:Str} {C:Addr} {mro:List Value}
theorem TE3.or_nil{pos:Pos}:TE3 G sc v C (.BoolOp .Or [] pos) false:=fun A env s a m hE hb hn hv hx=>isTrue_or_nil ⟨rfl,Kp.refl s⟩
theorem TE3.or{e:Expr}{rest:List Expr}{pos:Pos}{b c:Bool}(h:TE3 G sc v C e b)(hr:TE3 G sc v C (.BoolOp .Or rest pos) c):TE3 G sc v C (.BoolOp .Or (e :: rest) pos) (b||c):=by
 intro A env s a m hE hb hn hv hx
 refine isTrue_or (wpAny_mono (h A env s a m hE hb hn hv hx) (fun b' s' h'=>?_) fun _ _ x=>x)
 obtain⟨rfl,k⟩:=h'
 cases b' with
 | true=>exact⟨rfl,k⟩
 | false=>
  obtain⟨o,ho,hc⟩:=hx
  exact wpAny_mono (hr A env s' a m hE (aZ hb k) (hn.keeps k.heap) hv ⟨o,k.heap _ _ ho,hc⟩) (fun v s'' h''=>by obtain⟨rfl,k'⟩:=h'';exact⟨rfl,k.trans k'⟩) fun _ _ x=>x
theorem XCls.clsAt{c:String}{m:List Value}{h:Heap}(x:XCls G c C m)(hb:Hk G.base h):eZ h C:=by
 obtain⟨_,_,_,_,_,_,_,_,_,_,_,_,_,_,_,_,o1,_⟩:=x.obj
 exact⟨_,_,_,_,_,_,_,_,_,_,_,_,_,_,_,_,_,hb _ _ o1⟩
theorem ExAt.neq{h:Heap}{a tp:Addr}{l:List Value}(ex:ExAt h a C mro)(t:h.get? tp=some { cls:=.type "tuple",data:=.seq l.toArray }):(Value.ref C==Value.ref tp)=false:=by
 obtain⟨N,nm,q,bs,hdct,sn,sub,ab,col,dd,k0,k1,k2,k3,k5,newId,mN,hC,hN,hmN⟩:=ex.cls
 refine beq_eq_false_iff_ne.mpr fun e=>?_
 cases e
 rw[t] at hC
 have:=congrArg (fun o:Option Obj=>o.map Obj.cls) hC
 simp[excClassObj] at this
theorem TE3.isi3{n1 n2 n3:String}{C1 C2 C3:Addr}{m1 m2 m3:List Value}{p q r1 r2 r3 tp pos:Pos}{kd:Nat}(hQ:XQ G C mro)(hl:sc.names.lookup v=some .local)(hd:(v==("__debug__":Str))=false)(bx:BName G sc (Str.ofString "isinstance") (.builtin "isinstance"))(h1:XCls G n1 C1 m1)(h2:XCls G n2 C2 m2)(h3:XCls G n3 C3 m3)
  (g1:okGlob sc n1=true) (g2:okGlob sc n2=true) (g3:okGlob sc n3=true) (hp:mZ (.Call (.Name (Str.ofString "isinstance") p) [.Name v q,.Tuple [.Name (Str.ofString n1) r1,.Name (Str.ofString n2) r2,.Name (Str.ofString n3) r3] kd tp] [] pos)):
  TE3 G sc v C (.Call (.Name (Str.ofString "isinstance") p) [.Name v q,.Tuple [.Name (Str.ofString n1) r1,.Name (Str.ofString n2) r2,.Name (Str.ofString n3) r3] kd tp] [] pos) ((Value.ref C :: mro).contains (.ref C1)||(Value.ref C :: mro).contains (.ref C2)||(Value.ref C :: mro).contains (.ref C3)):=by
 intro A env s a m hE hb hn hv hX
 refine isTrue_plain (Call_ (bx.eval hE hb (callWith_builtin1 (args_cons (wpAny_Name (wpAny_loadName_local hE.kind' (by rw[hE.kindOf];exact hl) hn hv ?_) hd) rfl) rfl rfl))) (hp env _)
 refine args_cons (Tuple_ (args_cons (Calls.Name_function_global hE.kind' (by rw[hE.kindOf];exact cq g1) (Calls.loadGlobal_global (mg:=G.mg) (by rw[hE.globals];exact G.g.keeps hb) h1.bound ?_) (cr g1)) rfl)) rfl
 refine args_cons (Calls.Name_function_global hE.kind' (by rw[hE.kindOf];exact cq g2) (Calls.loadGlobal_global (mg:=G.mg) (by rw[hE.globals];exact G.g.keeps hb) h2.bound ?_) (cr g2)) rfl
 refine args_cons (Calls.Name_function_global hE.kind' (by rw[hE.kindOf];exact cq g3) (Calls.loadGlobal_global (mg:=G.mg) (by rw[hE.globals];exact G.g.keeps hb) h3.bound (args_nil ?_)) (cr g3)) rfl
 refine wpAny_newObj_type (args_nil ?_) (by show _≤sizeLine;rw[sizeLine_eq];simp)
 have kp:Kp s { s with heap:=s.heap.push { cls:=.type "tuple",dict:=none,data:=.seq [Value.ref C1,Value.ref C2,Value.ref C3].toArray } }:=Kp.push s _
 have hb':=aZ hb kp
 obtain⟨o,ho,hc⟩:=hX
 have ex:ExAt (s.heap.push { cls:=.type "tuple",dict:=none,data:=.seq [Value.ref C1,Value.ref C2,Value.ref C3].toArray }) a C mro:=hQ _ _ hb' ⟨o,kp.heap _ _ ho,hc⟩
 have c1:eZ (s.heap.push { cls:=.type "tuple",dict:=none,data:=.seq [Value.ref C1,Value.ref C2,Value.ref C3].toArray }) C1:=h1.clsAt hb'
 have c2:eZ (s.heap.push { cls:=.type "tuple",dict:=none,data:=.seq [Value.ref C1,Value.ref C2,Value.ref C3].toArray }) C2:=h2.clsAt hb'
 have c3:eZ (s.heap.push { cls:=.type "tuple",dict:=none,data:=.seq [Value.ref C1,Value.ref C2,Value.ref C3].toArray }) C3:=h3.clsAt hb'
 have tpAt:(s.heap.push { cls:=.type "tuple",dict:=none,data:=.seq [Value.ref C1,Value.ref C2,Value.ref C3].toArray }).get? s.heap.objs.size=some { cls:=.type "tuple",data:=.seq [Value.ref C1,Value.ref C2,Value.ref C3].toArray }:=Heap.get?_push_size _ rfl
 have hne:(Value.ref C==Value.ref s.heap.objs.size)=false:=ex.neq tpAt
 generalize s.heap.push { cls:=.type "tuple",dict:=none,data:=.seq [Value.ref C1,Value.ref C2,Value.ref C3].toArray }=h₂ at *
 generalize s.heap.objs.size=tpa at *
 refine call_isinstance (S:=fun _ R s'=>(ExAt s'.heap a C mro∧eZ s'.heap C1∧eZ s'.heap C2∧eZ s'.heap C3)∧s'.heap.get? tpa=some { cls:=.type "tuple",data:=.seq [Value.ref C1,Value.ref C2,Value.ref C3].toArray }∧∀tk,R (.ok (.ret (.bool ([(Value.ref C :: mro).contains (.ref C1),(Value.ref C :: mro).contains (.ref C2),(Value.ref C :: mro).contains (.ref C3)].any id)))) { s' with toks:=tk }) (fun prog w A R s' X=>?_) ⟨⟨ex,c1,c2,c3⟩,tpAt,fun tk=>wpAny_truthy_bool ⟨by simp[Bool.or_assoc],kp.trans (Kp.toks _ tk)⟩⟩
 obtain⟨P,htp,hr⟩:=X
 obtain⟨o,hx,hc⟩:=P.1.inst
 exact isinstance_outer (yP (vs:=[(Value.ref C :: mro).contains (.ref C1),(Value.ref C :: mro).contains (.ref C2),(Value.ref C :: mro).contains (.ref C3)]) (P:=fun s'=>ExAt s'.heap a C mro∧eZ s'.heap C1∧eZ s'.heap C2∧eZ s'.heap C3) (fun _ _ h=>h) hne hx hc htp ⟨pL fun s h=>⟨h.1,h.2.1⟩,pL fun s h=>⟨h.1,h.2.2.1⟩,pL fun s h=>⟨h.1,h.2.2.2⟩,trivial⟩ P hr)
end
end Mine
end
section
namespace Mine
open PySem PyProof.Rows PySem.W
noncomputable def lI(h:Heap)(n:Nat):Heap:=⟨h.objs.extract 0 n,h.life⟩
theorem tC{h:Heap}{n a:Nat}:(lI h n).get? a=if a < n then h.get? a else none:=by
 unfold lI Heap.get?
 simp only[Array.getElem?_extract,Nat.sub_zero,Nat.zero_add]
 by_cases q:a < n
 .by_cases q':a < h.objs.size
  .rw[if_pos (by omega),if_pos q]
  .rw[if_neg (by omega),if_pos q,Array.getElem?_eq_none (by omega)]
 .rw[if_neg (by omega),if_neg q]
theorem yQ{h:Heap}{n:Nat}:(lI h n).objs.size≤n:=by unfold lI;simp;omega
noncomputable def reb(h0 h':Heap):Heap:=hideAll (lI h' h0.objs.size) ((List.range h0.objs.size).filter fun a=>(h0.get? a).isNone)
theorem tD{h0 h':Heap}{a:Addr}{o:Obj}(e:(reb h0 h').get? a=some o):h'.get? a=some o∧∃o',h0.get? a=some o':=by
 have e':=of_hideAll _ e
 rw[tC] at e'
 split at e'
 .rename_i hl
  refine⟨e',?_⟩
  cases q:h0.get? a with
  | some o'=>exact⟨o',rfl⟩
  | none=>
   have:a∈(List.range h0.objs.size).filter fun a=>(h0.get? a).isNone:=by simp[hl,q]
   unfold reb at e
   rw[hideAll_none _ this] at e;cases e
 .cases e'
theorem nh{h0 h':Heap}{a:Addr}{o o':Obj}(e:h0.get? a=some o)(e':h'.get? a=some o'):(reb h0 h').get? a=some o':=by
 unfold reb
 refine hideAll_get _ (by rw[tC,if_pos (Heap.lt_size e)];exact e') ?_
 simp[e]
theorem tE{h0 h':Heap}{a:Addr}(e:h0.get? a=none):(reb h0 h').get? a=none:=by
 cases q:(reb h0 h').get? a with
 | none=>rfl
 | some o=>obtain⟨_,o',e'⟩:=tD q;rw[e] at e';cases e'
theorem yR{h0 h':Heap}:(reb h0 h').objs.size≤h0.objs.size:=by unfold reb;rw[hideAll_size];exact yQ
noncomputable def Dk(ρ:aa)(c:Addr):Prop:=∃d,ρ (ag (c+1))=some d
structure Kd (l:List Env) (D:Addr->Prop) (s s':Shared):Prop where
 st:∃h' tk,s'={ s with heap:=h',toks:=tk }
 keep:∀c o,s.heap.get? c=some o->(∀e∈l,c≠e.locals)->¬D c->s'.heap.get? c=some o
 ex:∀c o,s.heap.get? c=some o->∃o',s'.heap.get? c=some o'
 ns:∀e∈l,∀m,s.heap.Ns e.locals m->s'.heap.Ns e.locals m
theorem Kp.kd{l:List Env}{D:Addr->Prop}{s s':Shared}(k:Kp s s'):Kd l D s s':=⟨k.st,fun c o e _ _=>k.heap c o e,fun c o e=>⟨o,k.heap c o e⟩,fun _ _ _ h=>h.keeps k.heap⟩
theorem Kd.trans{l:List Env}{D:Addr->Prop}{s s1 s2:Shared}(x:Kd l D s s1)(y:Kd l D s1 s2):Kd l D s s2:=
 ⟨pF x.st y.st,fun c o e h1 h2=>y.keep c o (x.keep c o e h1 h2) h1 h2,fun c o e=>let ⟨_,e1⟩:=x.ex c o e;y.ex c _ e1,fun e he m h=>y.ns e he m (x.ns e he m h)⟩
theorem Kd.more{l:List Env}{D D':Addr->Prop}{s s':Shared}(x:Kd l D s s')(h:∀c,D c->D' c):Kd l D' s s':=⟨x.st,fun c o e h1 h2=>x.keep c o e h1 fun q=>h2 (h c q),x.ex,x.ns⟩
structure Kr (l:List Env) (D:Addr->Prop) (s s':Shared):Prop extends Kd l D s s' where
 gone:∀c,s.heap.get? c=none->s'.heap.get? c=none
theorem Kr.trans{l:List Env}{D:Addr->Prop}{s s1 s2:Shared}(x:Kr l D s s1)(y:Kr l D s1 s2):Kr l D s s2:=⟨x.toKd.trans y.toKd,fun c h=>y.gone c (x.gone c h)⟩
theorem Kr.more{l:List Env}{D D':Addr->Prop}{s s':Shared}(x:Kr l D s s')(h:∀c,D c->D' c):Kr l D' s s':=⟨x.toKd.more h,x.gone⟩
theorem Kr.refl(l:List Env)(D:Addr->Prop)(s:Shared):Kr l D s s:=⟨(Kp.refl s).kd,fun _ h=>h⟩
structure OutF (G:ap) (h:Heap) (e:Env):Prop where
 kind:e.scope.kind=.function
 frame:e.frame=some e.locals
 new:G.base.get? e.locals=none
 ns:∃m,h.Ns e.locals m
theorem OutF.kd{G:ap}{l:List Env}{D:Addr->Prop}{s s':Shared}{e:Env}(x:OutF G s.heap e)(k:Kd l D s s')(he:e∈l):OutF G s'.heap e:=⟨x.kind,x.frame,x.new,let ⟨m,h⟩:=x.ns;⟨m,k.ns e he m h⟩⟩
structure Fd (G:ap) (A:Around) (env:Env) (l:List Env) (h:Heap):Prop where
 fr:A.frames=some (env :: l)
 own:env.frame=some env.locals
 new:G.base.get? env.locals=none
 out:∀e∈l,OutF G h e
 ne:∀e∈l,e.locals≠env.locals
theorem Fd.kd{G:ap}{A:Around}{env:Env}{l:List Env}{D:Addr->Prop}{s s':Shared}(x:Fd G A env l s.heap)(k:Kd l D s s'):Fd G A env l s'.heap:=⟨x.fr,x.own,x.new,fun e he=>(x.out e he).kd k he,x.ne⟩
noncomputable def Apt(l:List Env)(ρ:aa):Prop:=∀e∈l,∀d,ρ (ag (e.locals+1))≠some d
inductive Ob where
 | next (ρ:aa)
 | ret (d:D) (ρ:aa)
structure Sb (ρ ρ':aa):Prop where
 names:∀x,aU x=false->ρ' x=ρ x
 dom:∀b,(∃d,ρ' (ag b)=some d)↔∃d,ρ (ag b)=some d
theorem Sb.refl(ρ:aa):Sb ρ ρ:=⟨fun _ _=>rfl,fun _=>Iff.rfl⟩
theorem Sb.trans{ρ ρ1 ρ2:aa}(x:Sb ρ ρ1)(y:Sb ρ1 ρ2):Sb ρ ρ2:=⟨fun n h=>(y.names n h).trans (x.names n h),fun b=>(y.dom b).trans (x.dom b)⟩
noncomputable def Sd(ρ ρ':aa):Prop:=∀b,(∃d,ρ' (ag b)=some d)↔∃d,ρ (ag b)=some d
theorem Sd.dk{ρ ρ':aa}(x:Sd ρ ρ')(c:Addr):Dk ρ' c->Dk ρ c:=(x (c+1)).mp
theorem Act.reb{G:ap}{s₀ s s':Shared}{env:Env}{N:Addr->Prop}{α:Str->Option Addr}{ρ ρ':aa}{l:List Env}(a:Act G s₀ env N α s ρ)(k:Kd (env :: l) (Dk ρ) s s')(out:∀e∈l,∃m,s.heap.Ns e.locals m)
  (hρ:∀x,aU x=false->ρ' x=ρ x) (hd:Sd ρ ρ') (hbk:∀b d,ρ' (ag b)=some d->BookAt G s'.heap (Nu N α) b d):
  Act G { s₀ with heap:=Mine.reb s₀.heap s'.heap } env N α s' ρ':=by
 obtain⟨m,cm,i,hv⟩:=a.ex
 have nd:∀c o,s.heap.get? c=some o->(∀es n,o.data≠.dict es n)->s'.heap.get? c=some o:=fun c o e hn=>by
  refine k.keep c o e (fun e' he q=>?_) fun⟨d,q⟩=>?_
  .obtain⟨m',ol,es,ep,hol,hdl,_⟩:∃m,s.heap.Ns e'.locals m:=by
    rcases List.mem_cons.mp he with rfl | he
    .exact⟨_,i.toInCall.ns⟩
    .exact out e' he
   rw[← q,e] at hol;cases hol;exact hn _ _ hdl
  .obtain⟨C,dx,hs,tk,n,v,eb,_,_,_,h2,_⟩:=(a.bk _ d q).1.ex
   have:c=dx:=Nat.add_right_cancel eb
   rw[this,h2] at e;cases e;exact hn _ _ rfl
 have kt:∀b us j,s.heap.get? b=some (a8 us j)->s'.heap.get? b=some (a8 us j):=fun b us j e=>nd b _ e fun _ _ q=>by cases q
 have kl:∀b us j,s.heap.get? b=some (aJ us j)->s'.heap.get? b=some (aJ us j):=fun b us j e=>nd b _ e fun _ _ q=>by cases q
 have gone:∀c o,s₀.heap.get? c=some o->∃o',s'.heap.get? c=some o':=fun c o e=>k.ex c o (i.toInCall.keep c o e)
 obtain⟨h₁,t₁,e1⟩:=i.toInCall.same
 obtain⟨h₂,t2,e2⟩:=k.st
 refine⟨⟨m,cm,⟨⟨⟨h₂,t2,by rw[e2,e1]⟩,k.ns env (.head _) m i.toInCall.ns,fun b o e=>(tD e).1,Nat.le_trans yR i.toInCall.fresh⟩,fun n c hc=>?_,i.apart,i.above⟩,fun x d e hy=>?_⟩,fun b hb=>?_,fun x b e=>?_,a.inj,a.cells,fun b d e=>⟨hbk b d e,?_⟩,a.nb⟩
 .obtain⟨o,ho,hd'⟩:=i.cell n c hc
  exact⟨o,nd c o ho fun es n q=>(by rw[hd'] at q;cases q),hd'⟩
 .obtain⟨v,h1,h2⟩:=hv x d (hρ x hy ▸ e) hy
  refine⟨v,h1,?_⟩
  cases h2 with
  | clean r=>exact .clean (r.change kt fun b us j e hn=>⟨kl b us j e,hn⟩)
  | own e' hl r=>exact .own e' (kl _ _ _ hl) (r.change kt fun b us j e hn=>⟨kl b us j e,hn⟩)
 .obtain⟨o,ho⟩:=a.lowN b hb
  obtain⟨o',ho'⟩:=gone b o ho
  exact⟨o',nh ho ho'⟩
 .obtain⟨h1,vs,n,h2⟩:=a.fresh x b e
  exact⟨tE h1,vs,n,kl _ _ _ h2⟩
 .obtain⟨d',e'⟩:=(hd b).mp ⟨d,e⟩
  exact(a.bk b d' e').2
end Mine
end
section
namespace Mine
open PySem PyProof.Rows PySem.W PySem.Calls
structure PoB (G:ap) (env:Env) (N:Addr->Prop) (α:Str->Option Addr) (l:List Env) (s₀ s:Shared) (ρ ρ':aa) (s':Shared):Prop where
 act:∃s1,Act G s1 env N α s' ρ'∧Hk G.base s1.heap∧Kr l (Dk ρ) s₀ s1
 kd:Kd (env :: l) (Dk ρ) s s'
 sb:Sb ρ ρ'
section
variable {G:ap} {A:Around} {env:Env} {N:Addr->Prop} {α:Str->Option Addr} {l:List Env} {s₀ s s':Shared} {ρ ρ':aa}
theorem Act.off(a:Act G s₀ env N α s ρ){c:Addr}{o:Obj}(e:s₀.heap.get? c=some o):c≠env.locals:=fun q=>by
 obtain⟨m,cm,i,_⟩:=a.ex
 have h1:=Heap.lt_size e
 have h2:=i.toInCall.fresh
 rw[q] at h1
 exact absurd h1 (Nat.not_lt.mpr h2)
theorem Act.outs(a:Act G s₀ env N α s ρ)(f:Fd G A env l s₀.heap):∀e∈l,∃m,s.heap.Ns e.locals m:=fun e he=>by
 obtain⟨m,h⟩:=(f.out e he).ns
 exact⟨m,h.keeps a.kp.heap⟩
theorem Act.base_off(a:Act G s₀ env N α s ρ){c:Addr}{o:Obj}(e:G.base.get? c=some o):¬Dk ρ c:=fun⟨d,q⟩=>by
 obtain⟨C,dx,hs,tk,n,v,eb,_,hn,_⟩:=(a.bk _ d q).1.ex
 have:c=dx:=Nat.add_right_cancel eb
 rw[← this,e] at hn;cases hn
theorem PoB.of(a:Act G s₀ env N α s ρ)(hb:Hk G.base s₀.heap)(f:Fd G A env l s₀.heap)(k:Kd (env :: l) (Dk ρ) s s')(sb:Sb ρ ρ')(hbk:∀b d,ρ' (ag b)=some d->BookAt G s'.heap (Nu N α) b d):PoB G env N α l s₀ s ρ ρ' s':=by
 have keep:∀c o,s₀.heap.get? c=some o->(∀e∈l,c≠e.locals)->¬Dk ρ c->(Mine.reb s₀.heap s'.heap).get? c=some o:=fun c o e h1 h2=>
  nh e (k.keep c o (a.kp.heap c o e) (fun e' he=>by
   rcases List.mem_cons.mp he with rfl | he
   .exact a.off e
   .exact h1 e' he) h2)
 refine⟨⟨{ s₀ with heap:=Mine.reb s₀.heap s'.heap },a.reb k (a.outs f) sb.names sb.dom hbk,fun c o e=>keep c o (hb c o e) (fun e' he q=>?_) (a.base_off e),⟨⟨⟨_,s₀.toks,rfl⟩,keep,fun c o e=>?_,fun e he m h=>?_⟩,fun c h=>tE h⟩⟩,k,sb⟩
 .rw[q,(f.out e' he).new] at e;cases e
 .obtain⟨o',e'⟩:=k.ex c o (a.kp.heap c o e)
  exact⟨o',nh e e'⟩
 .have h':=k.ns e (.tail _ he) m (h.keeps a.kp.heap)
  obtain⟨o,es,ep,ho,_⟩:=id h
  exact h'.at' fun o' e'=>nh ho e'
theorem PoB.pure(a:Act G s₀ env N α s ρ)(hb:Hk G.base s₀.heap)(k:Kp s s'):PoB G env N α l s₀ s ρ ρ s':=⟨⟨s₀,a.keep k,hb,Kr.refl _ _ _⟩,k.kd,Sb.refl ρ⟩
theorem PoB.kp{s'':Shared}(x:PoB G env N α l s₀ s ρ ρ' s')(k:Kp s' s''):PoB G env N α l s₀ s ρ ρ' s'':=by
 obtain⟨⟨s1,a,hb,kd⟩,k1,sb⟩:=x
 exact⟨⟨s1,a.keep k,hb,kd⟩,k1.trans k.kd,sb⟩
end
noncomputable def SEb(G:ap)(k:Nat)(sc:Scope)(e:Expr)(m:aa->Option (D × aa)):Prop:=
 ∀A env N α s₀ s ρ d ρ' l,AOk A k->EOk sc env->Hk G.base s₀.heap->Act G s₀ env N α s ρ->Fd G A env l s₀.heap->Apt l ρ->m ρ=some (d,ρ')->
  wpAny (model G.prog G.w) A (eval e env) (fun v s'=>PoB G env N α l s₀ s ρ ρ' s'∧Rt s'.heap (Nu N α) v d) aQ s
noncomputable def STb(G:ap)(k:Nat)(sc:Scope)(e:Expr)(m:aa->Option (Bool × aa)):Prop:=
 ∀A env N α s₀ s ρ b ρ' l,AOk A k->EOk sc env->Hk G.base s₀.heap->Act G s₀ env N α s ρ->Fd G A env l s₀.heap->Apt l ρ->m ρ=some (b,ρ')->
  wpAny (model G.prog G.w) A (isTrue e env (eval e env)) (fun v s'=>v=b∧PoB G env N α l s₀ s ρ ρ' s') aQ s
noncomputable def FnB(G:ap)(k:Nat)(f:Addr)(Φ:aa->List D->Option (D × aa)):Prop:=
 (∃o fd,G.base.get? f=some o∧o.data=.func fd)∧
 ∀A N s vals ds ρ r ρ' l,AOk A k->Hk G.base s.heap->Lo N s.heap->Rps s.heap N vals ds->A.frames=some l->(∀e∈l,OutF G s.heap e)->(∀b d,ρ (ag b)=some d->BookAt G s.heap N b d)->Apt l ρ->Φ ρ ds=some (r,ρ')->
  wpAny (model G.prog G.w) A (call (.ref f) vals) (fun v s'=>Sd ρ ρ'∧Kd l (Dk ρ) s s'∧Rp s'.heap N v r∧∀b d,ρ' (ag b)=some d->BookAt G s'.heap N b d) aQ s
noncomputable def cI(ρ ρ':aa):aa:=fun x=>if aU x then ρ' x else ρ x
theorem tF{ρ ρ':aa}{b:Addr}:cI ρ ρ' (ag b)=ρ' (ag b):=by unfold cI;rw[if_pos dH]
theorem yS{ρ ρ':aa}(h:Sd ρ ρ'):Sb ρ (cI ρ ρ'):=⟨fun x hx=>by unfold cI;rw[hx];rfl,fun b=>by rw[tF];exact h b⟩
noncomputable def bQ(m:aa->Option D):aa->Option (D × aa):=fun ρ=>(m ρ).map fun d=>(d,ρ)
noncomputable def bL(m:aa->Option Bool):aa->Option (Bool × aa):=fun ρ=>(m ρ).map fun d=>(d,ρ)
noncomputable def cf(Φ:aa->List D->Option (D × aa))(ms:aa->Option (List D)):aa->Option (D × aa):=fun ρ=>(ms ρ).bind fun ds=>if ds.all D.clean then(Φ ρ ds).map fun p=>(p.1,cI ρ p.2) else none
section
variable {G:ap} {k:Nat} {sc:Scope}
theorem SEb.of{e:Expr}{m:aa->Option D}(h:SE G k sc e m):SEb G k sc e (bQ m):=by
 intro A env N α s₀ s ρ d ρ' l hA hE hb ha hF hP hρ
 obtain⟨d',ed,e⟩:=Option.map_eq_some_iff.mp hρ
 cases e
 exact wpAny_mono (h A env N α s ρ d hA hE (ha.hk hb) ha.in ed) (fun v s' h'=>⟨PoB.pure ha hb h'.1,h'.2⟩) fun _ _ x=>x
theorem STb.of{e:Expr}{m:aa->Option Bool}(h:ST G k sc e m):STb G k sc e (bL m):=by
 intro A env N α s₀ s ρ d ρ' l hA hE hb ha hF hP hρ
 obtain⟨d',ed,e⟩:=Option.map_eq_some_iff.mp hρ
 cases e
 exact wpAny_mono (h A env N α s ρ d hA hE (ha.hk hb) ha.in ed) (fun v s' h'=>⟨h'.1,PoB.pure ha hb h'.2⟩) fun _ _ x=>x
theorem FnB.call{j:Nat}{f:Addr}{Φ:aa->List D->Option (D × aa)}(hf:FnB G j f Φ)(hj:j≤k){A:Around}{env:Env}{N:Addr->Prop}{α:Str->Option Addr}{s₀ s s1:Shared}{ρ ρ2:aa}{l:List Env}{vs:List Value}{ds:List D}{r:D}
  (hA:AOk A k) (hE:EOk sc env) (hb:Hk G.base s₀.heap) (ha:Act G s₀ env N α s ρ) (hF:Fd G A env l s₀.heap) (hP:Apt l ρ) (k₁:Kp s s1) (rs:Rps s1.heap (Nu N α) vs ds) (e:Φ ρ ds=some (r,ρ2)):
  wpAny (model G.prog G.w) A (call (.ref f) vs) (fun v s'=>PoB G env N α l s₀ s ρ (cI ρ ρ2) s'∧Rt s'.heap (Nu N α) v r) aQ s1:=by
 have a1:=ha.keep k₁
 obtain⟨m,cm,i,_⟩:=a1.ex
 refine wpAny_mono (hf.2 A (Nu N α) s1 vs ds ρ r ρ2 (env :: l) (hA.mono hj) (a1.hk hb) a1.in.low rs hF.fr (fun e' he=>?_) (fun b d q=>(a1.bk b d q).1) (fun e' he d q=>?_) e) (fun v s' h'=>?_) fun _ _ x=>x
 .rcases List.mem_cons.mp he with rfl | he
  .exact⟨hE.kind',hF.own,hF.new,⟨m,i.toInCall.ns⟩⟩
  .have o:=hF.out e' he
   exact⟨o.kind,o.frame,o.new,a1.outs hF e' he⟩
 .rcases List.mem_cons.mp he with rfl | he
  .exact(a1.bk _ d q).2 rfl
  .exact hP e' he d q
 .obtain⟨sd,kd,rp,bk⟩:=h'
  have p:=PoB.of a1 hb hF kd (yS sd) fun b d q=>bk b d (by rw[tF] at q;exact q)
  exact⟨⟨p.act,k₁.kd.trans p.kd,p.sb⟩,.clean rp⟩
theorem SEb.call{j:Nat}{x:Str}{f:Addr}{e:Expr}{rest:List Expr}{p pos:Pos}{Φ:aa->List D->Option (D × aa)}{ms:aa->Option (List D)}(hf:FnB G j f Φ)(hj:j≤k)
  (hx:sc.names.lookup x=some .globalImplicit) (hd:(x==("__debug__":Str))=false) (hg:G.mg x=some (.ref f)) (hs:a9 e) (h:SEs G k sc (e :: rest) ms):
  SEb G k sc (.Call (.Name x p) (e :: rest) [] pos) (cf Φ ms):=by
 intro A env N α s₀ s ρ d ρ' l hA hE hb ha hF hP hρ
 refine ao hρ fun ds eds hρ=>?_
 split at hρ
 case isFalse=>cases hρ
 rename_i hcl
 obtain⟨⟨r,ρ2⟩,er,q⟩:=Option.map_eq_some_iff.mp hρ
 cases q
 obtain⟨o,fd,ho,hdat⟩:=hf.1
 have hbs:=ha.hk hb
 refine Call_ (Calls.Name_function_global hE.kind' (by rw[hE.kindOf];exact hx) (Calls.loadGlobal_global (mg:=G.mg) (by rw[hE.globals];exact G.g.keeps hbs) hg ?_) hd)
 refine callWith_def hdat (wpAny_mono (h A env N α s ρ ds pos hA hE hbs ha.in eds) (fun vs s1 h1=>⟨aZ hbs h1.1 _ _ ho,?_⟩) fun _ _ x=>x) (hs rest env)
 exact hf.call hj hA hE hb ha hF hP h1.1 (h1.2.2.rps hcl) er
end
noncomputable def gf(f:D->D->Option Bool)(ml:aa->Option (D × aa))(mr:aa->Option D):aa->Option (Bool × aa):=fun ρ=>(ml ρ).bind fun p=>(mr p.2).bind fun b=>(f p.1 b).map fun c=>(c,p.2)
noncomputable def ip(m n:aa->Option (Bool × aa)):aa->Option (Bool × aa):=fun ρ=>(m ρ).bind fun p=>if p.1 then some (true,p.2) else n p.2
noncomputable def ni(m:aa->Option (Bool × aa)):aa->Option (D × aa):=fun ρ=>(m ρ).map fun p=>(.bool p.1,p.2)
noncomputable def nj(m:aa->Option (D × aa))(n:aa->Option D):aa->Option (D × aa):=fun ρ=>(m ρ).bind fun p=>(D.truth? p.1).bind fun b=>if b then(n p.2).map fun d=>(d,p.2) else some p
section
variable {G:ap} {k:Nat} {sc:Scope}
section
variable {A:Around} {env:Env} {N:Addr->Prop} {α:Str->Option Addr} {l:List Env} {s₀ s s':Shared} {ρ ρ':aa}
theorem Apt.sd(h:Apt l ρ)(x:Sd ρ ρ'):Apt l ρ':=fun e he d q=>let ⟨d',q'⟩:=(x _).mp ⟨d,q⟩;h e he d' q'
theorem PoB.go(x:PoB G env N α l s₀ s ρ ρ' s')(f:Fd G A env l s₀.heap)(hP:Apt l ρ):∃s1,Act G s1 env N α s' ρ'∧Hk G.base s1.heap∧Fd G A env l s1.heap∧Apt l ρ'∧(∀ {s'' ρ''},PoB G env N α l s1 s' ρ' ρ'' s''->PoB G env N α l s₀ s ρ ρ'' s''):=by
 obtain⟨⟨s1,a,hb,kd⟩,k1,sb⟩:=x
 refine⟨s1,a,hb,f.kd kd.toKd,hP.sd sb.dom,fun {s'' ρ''} y=>?_⟩
 obtain⟨⟨s2,a2,hb2,kd2⟩,k2,sb2⟩:=y
 exact⟨⟨s2,a2,hb2,kd.trans (kd2.more fun c q=>Sd.dk sb.dom c q)⟩,k1.trans (k2.more fun c q=>Sd.dk sb.dom c q),sb.trans sb2⟩
end
theorem STb.cmp{l r:Expr}{op:CmpOp}{pos:Pos}{ml:aa->Option (D × aa)}{mr:aa->Option D}{f:D->D->Option Bool}(hf:∀a b c,f a b=some c->dI G k op a b c)(hl:SEb G k sc l ml)(hr:SE G k sc r mr)(hm:behindInMarks op r=false):
  STb G k sc (.Compare l [op] [r] pos) (gf f ml mr):=by
 intro A env N α s₀ s ρ c ρ' ls hA hE hb ha hF hP hρ
 refine ao hρ fun⟨a,ρ1⟩ ea hρ=>?_
 refine ao hρ fun b eb ec=>?_
 obtain⟨c',ec',q⟩:=Option.map_eq_some_iff.mp ec
 cases q
 refine wpAny_isTrue_Compare1 ?_ hm
 refine wpAny_mono (hl A env N α s₀ s ρ a ρ1 ls hA hE hb ha hF hP ea) (fun va s1 h1=>?_) fun _ _ x=>x
 obtain⟨p,r₁⟩:=h1
 obtain⟨s1',a1,hb1,_⟩:=p.act
 refine wpAny_mono (hr A env N α s1 ρ1 b hA hE (a1.hk hb1) a1.in eb) (fun vb s2 h2=>?_) fun _ _ x=>x
 have a2:=a1.keep h2.1
 refine wpAny_mono (hf a b c ec' A _ s2 va vb hA (a2.hk hb1) a2.in.low (r₁.keep h2.1.heap) h2.2) (fun v s3 h3=>?_) fun _ _ x=>x
 obtain⟨rfl,h3⟩:=h3
 exact wpAny_truthy_bool ⟨rfl,p.kp (h2.1.trans h3)⟩
theorem SEb.cmp{l r:Expr}{op:CmpOp}{pos:Pos}{ml:aa->Option (D × aa)}{mr:aa->Option D}{f:D->D->Option Bool}(hf:∀a b c,f a b=some c->dI G k op a b c)(hl:SEb G k sc l ml)(hr:SE G k sc r mr)(hm:behindInMarks op r=false):
  SEb G k sc (.Compare l [op] [r] pos) (ni (gf f ml mr)):=by
 intro A env N α s₀ s ρ d ρ' ls hA hE hb ha hF hP hρ
 obtain⟨⟨c,ρ2⟩,hc,q⟩:=Option.map_eq_some_iff.mp hρ
 cases q
 refine ao hc fun⟨a,ρ1⟩ ea hρ=>?_
 refine ao hρ fun b eb ec=>?_
 obtain⟨c',ec',q⟩:=Option.map_eq_some_iff.mp ec
 cases q
 refine wpAny_Compare1 ?_ hm
 refine wpAny_mono (hl A env N α s₀ s ρ a ρ1 ls hA hE hb ha hF hP ea) (fun va s1 h1=>?_) fun _ _ x=>x
 obtain⟨p,r₁⟩:=h1
 obtain⟨s1',a1,hb1,_⟩:=p.act
 refine wpAny_mono (hr A env N α s1 ρ1 b hA hE (a1.hk hb1) a1.in eb) (fun vb s2 h2=>?_) fun _ _ x=>x
 have a2:=a1.keep h2.1
 refine wpAny_mono (hf a b c ec' A _ s2 va vb hA (a2.hk hb1) a2.in.low (r₁.keep h2.1.heap) h2.2) (fun v s3 h3=>?_) fun _ _ x=>x
 obtain⟨rfl,h3⟩:=h3
 exact⟨p.kp (h2.1.trans h3),.clean (.bool _)⟩
theorem STb.or_nil{pos:Pos}:STb G k sc (.BoolOp .Or [] pos) (bL cA):=STb.of ST.or_nil
theorem STb.or{e:Expr}{rest:List Expr}{pos:Pos}{m n:aa->Option (Bool × aa)}(h:STb G k sc e m)(hr:STb G k sc (.BoolOp .Or rest pos) n):STb G k sc (.BoolOp .Or (e :: rest) pos) (ip m n):=by
 intro A env N α s₀ s ρ c ρ' ls hA hE hb ha hF hP hρ
 refine ao hρ fun⟨b,ρ1⟩ eb hρ=>?_
 refine isTrue_or (wpAny_mono (h A env N α s₀ s ρ b ρ1 ls hA hE hb ha hF hP eb) (fun v s' h'=>?_) fun _ _ x=>x)
 obtain⟨rfl,p⟩:=h'
 cases v with
 | true=>cases hρ;exact⟨rfl,p⟩
 | false=>
  simp only[Bool.false_eq_true,if_false] at hρ ⊢
  obtain⟨s1,a1,hb1,hF1,hP1,tr⟩:=p.go hF hP
  exact wpAny_mono (hr A env N α s1 s' ρ1 c ρ' ls hA hE hb1 a1 hF1 hP1 hρ) (fun v s'' h''=>⟨h''.1,tr h''.2⟩) fun _ _ x=>x
noncomputable def FmB(env:Env)(α:Str->Option Addr)(s:Shared)(α':Str->Option Addr)(s':Shared):Prop:=
 ∀b o,s.heap.get? b=some o->(∀es n,o.data≠.dict es n)->cW env α b->s'.heap.get? b=some o∧cW env α' b
theorem FmB.trans{env:Env}{α α1 α2:Str->Option Addr}{s s1 s2:Shared}(x:FmB env α s α1 s1)(y:FmB env α1 s1 α2 s2):FmB env α s α2 s2:=fun b o e h f=>let ⟨e1,f1⟩:=x b o e h f;y b o e1 h f1
theorem Fm.b{env:Env}{α α':Str->Option Addr}{s s':Shared}(x:Fm env α s α' s'):FmB env α s α' s':=fun b o e _ f=>x b o e f
theorem PoB.fm{env:Env}{N:Addr->Prop}{α:Str->Option Addr}{l:List Env}{s₀ s s':Shared}{ρ ρ':aa}{A:Around}(x:PoB G env N α l s₀ s ρ ρ' s')(a:Act G s₀ env N α s ρ)(f:Fd G A env l s₀.heap):FmB env α s α s':=fun b o e hn fr=>by
 refine⟨x.kd.keep b o e (fun e' he q=>?_) fun⟨d,q⟩=>?_,fr⟩
 .rcases List.mem_cons.mp he with rfl | he
  .exact fr.1 q
  .obtain⟨m,ol,es,ep,hol,hdl,_⟩:=a.outs f e' he
   rw[← q,e] at hol;cases hol;exact hn _ _ hdl
 .obtain⟨C,dx,hs,tk,n,v,eb,_,_,_,h2,_⟩:=(a.bk _ d q).1.ex
  have:b=dx:=Nat.add_right_cancel eb
  rw[this,h2] at e;cases e;exact hn _ _ rfl
noncomputable def OutB(G:ap)(env:Env)(N:Addr->Prop)(α:Str->Option Addr)(l:List Env)(s₀:Shared)(ρ:aa)(s:Shared)(fl:Flow)(s':Shared):Ob->Prop
 | .next ρ'=>fl=.next∧Sd ρ ρ'∧∃s1 α',Act G s1 env N α' s' ρ'∧Hk G.base s1.heap∧Kr l (Dk ρ) s₀ s1∧FmB env α s α' s'
 | .ret d ρ'=>∃v,fl=.ret v∧Sd ρ ρ'∧Kd l (Dk ρ) s₀ s'∧(∃m,s'.heap.Ns env.locals m)∧Rp s'.heap N v d∧∀b d,ρ' (ag b)=some d->BookAt G s'.heap N b d
noncomputable def B1(G:ap)(k:Nat)(sc:Scope)(st:Stmt)(m:aa->Option Ob):Prop:=
 ∀A env N α s₀ s ρ o l,AOk A k->EOk sc env->Hk G.base s₀.heap->Act G s₀ env N α s ρ->Fd G A env l s₀.heap->Apt l ρ->m ρ=some o->
  wpAny (model G.prog G.w) A (exec st env) (fun fl s'=>OutB G env N α l s₀ ρ s fl s' o) aQ s
noncomputable def BS(G:ap)(k:Nat)(sc:Scope)(sts:List Stmt)(m:aa->Option Ob):Prop:=
 ∀A env N α s₀ s ρ o l,AOk A k->EOk sc env->Hk G.base s₀.heap->Act G s₀ env N α s ρ->Fd G A env l s₀.heap->Apt l ρ->m ρ=some o->
  wpAny (model G.prog G.w) A (execs sts env) (fun fl s'=>OutB G env N α l s₀ ρ s fl s' o) aQ s
noncomputable def aj(m ms:aa->Option Ob):aa->Option Ob:=fun ρ=>(m ρ).bind fun o=>match o with | .next ρ'=>ms ρ' | o=>some o
noncomputable def aG:aa->Option Ob:=fun ρ=>some (.next ρ)
noncomputable def aX(m:aa->Option Out):aa->Option Ob:=fun ρ=>(m ρ).bind fun o=>match o with | .next ρ'=>some (.next ρ') | _=>none
noncomputable def NB(m:aa->Option Out):Prop:=∀ ρ ρ',m ρ=some (.next ρ')->∀b,ρ' (ag b)=ρ (ag b)
theorem upd_bk{ρ:aa}{x:String}{d:D}{b:Addr}:ah ρ (Str.ofString x) d (ag b)=ρ (ag b):=by
 unfold ah
 rw[if_neg fun q=>by have:=gU (s:=x);rw[← q,dH] at this;cases this]
theorem B1.of{st:Stmt}{m:aa->Option Out}(h:S1 G k sc st m)(hn:NB m):B1 G k sc st (aX m):=by
 intro A env N α s₀ s ρ o l hA hE hb ha hF hP hρ
 refine ao hρ fun o1 e1 hρ=>?_
 cases o1 with
 | next ρ'=>
  cases hρ
  refine wpAny_mono (h A env N α s₀ s ρ _ hA hE hb ha e1) (fun fl s' h'=>?_) fun _ _ x=>x
  obtain⟨rfl,α',a',f'⟩:=h'
  exact⟨rfl,fun b=>by rw[hn ρ ρ' e1 b],s₀,α',a',hb,Kr.refl _ _ _,f'.b⟩
 | ret d=>cases hρ
 | brk d=>cases hρ
 | cont d=>cases hρ
 | retF d=>cases hρ
theorem OutB.trans{env:Env}{N:Addr->Prop}{α α1:Str->Option Addr}{l:List Env}{s₀ s0' s s1 s':Shared}{ρ ρ1:aa}{fl:Flow}{o:Ob}(h:OutB G env N α1 l s0' ρ1 s1 fl s' o)(sd:Sd ρ ρ1)(kd:Kr l (Dk ρ) s₀ s0')(f:FmB env α s α1 s1):OutB G env N α l s₀ ρ s fl s' o:=by
 cases o with
 | next ρ'=>obtain⟨e,sd',s2,α',a,hb,kd',g⟩:=h;exact⟨e,fun b=>(sd' b).trans (sd b),s2,α',a,hb,kd.trans (kd'.more fun c q=>Sd.dk sd c q),f.trans g⟩
 | ret d ρ'=>obtain⟨v,e,sd',kd',r⟩:=h;exact⟨v,e,fun b=>(sd' b).trans (sd b),kd.toKd.trans (kd'.more fun c q=>Sd.dk sd c q),r⟩
theorem BS.nil:BS G k sc [] aG:=by
 intro A env N α s₀ s ρ o l hA hE hb ha hF hP hρ
 cases hρ
 exact wpAny_execs_nil ⟨rfl,fun _=>Iff.rfl,s₀,α,ha,hb,Kr.refl _ _ _,(Fm.refl _ _ _).b⟩
theorem BS.cons{st:Stmt}{rest:List Stmt}{m ms:aa->Option Ob}(h:B1 G k sc st m)(hr:BS G k sc rest ms):BS G k sc (st :: rest) (aj m ms):=by
 intro A env N α s₀ s ρ o l hA hE hb ha hF hP hρ
 refine ao hρ fun o1 e1 hρ=>?_
 refine wpAny_execs_cons (wpAny_mono (h A env N α s₀ s ρ o1 l hA hE hb ha hF hP e1) (fun fl s' h'=>?_) fun _ _ x=>x)
 cases o1 with
 | next ρ'=>
  obtain⟨rfl,sd,s1,α',a',hb',kd,f'⟩:=h'
  exact wpAny_mono (hr A env N α' s1 s' ρ' o l hA hE hb' a' (hF.kd kd.toKd) (hP.sd sd) hρ) (fun _ _ q=>q.trans sd kd f') fun _ _ x=>x
 | ret d ρ'=>cases hρ;obtain⟨v,rfl,h'⟩:=h';exact⟨v,rfl,h'⟩
noncomputable def iq(x:String)(m:aa->Option (D × aa)):aa->Option Ob:=fun ρ=>(m ρ).bind fun p=>if p.1.clean then some (.next (ah p.2 (Str.ofString x) p.1)) else none
theorem B1.assign{x:String}{p pos:Pos}{e:Expr}{m:aa->Option (D × aa)}(hx:okStore sc (Str.ofString x)=true)(hs:iV e)(h:SEb G k sc e m):B1 G k sc (.Assign [.Name (Str.ofString x) p] e pos) (iq x m):=by
 intro A env N α s₀ s ρ o l hA hE hb ha hF hP hρ
 refine ao hρ fun⟨d,ρ1⟩ ed hρ=>?_
 split at hρ
 .cases hρ
  rename_i hc
  refine wpAny_Assign_Name (wpAny_mono (h A env N α s₀ s ρ d ρ1 l hA hE hb ha hF hP ed) (fun v s1 h1=>?_) fun _ _ x=>x) (hs _ p pos.line env)
  obtain⟨po,rt⟩:=h1
  have fm:=po.fm ha hF
  obtain⟨⟨s2,a,hb',kd⟩,k1,sb⟩:=po
  exact a.store hE.kind' (okStore.ok hE hx) (rt.rp hc) fun s' a' f'=>⟨rfl,fun b=>by rw[upd_bk];exact sb.dom b,s2,_,a',hb',kd,fm.trans f'.b⟩
 .cases hρ
noncomputable def gA(m:aa->Option (D × aa)):aa->Option Ob:=fun ρ=>(m ρ).map fun p=>.next p.2
theorem B1.expr{e:Expr}{pos:Pos}{m:aa->Option (D × aa)}(hs:∀env,swapsWith e none pos.line env=pure false)(h:SEb G k sc e m):B1 G k sc (.Expr e pos) (gA m):=by
 intro A env N α s₀ s ρ o l hA hE hb ha hF hP hρ
 obtain⟨⟨d,ρ1⟩,ed,q⟩:=Option.map_eq_some_iff.mp hρ
 cases q
 refine wpAny_Expr_any (wpAny_mono (h A env N α s₀ s ρ d ρ1 l hA hE hb ha hF hP ed) (fun v s1 h1=>?_) fun _ _ x=>x) (lu env hE) (hs env)
 obtain⟨po,rt⟩:=h1
 have fm:=po.fm ha hF
 obtain⟨⟨s2,a,hb',kd⟩,k1,sb⟩:=po
 exact⟨rfl,sb.dom,s2,α,a,hb',kd,fm⟩
noncomputable def bn(m:aa->Option (D × aa)):aa->Option Ob:=fun ρ=>(m ρ).bind fun p=>if p.1.clean then some (.ret p.1 p.2) else none
theorem B1.ret{e:Expr}{pos:Pos}{m:aa->Option (D × aa)}(h:SEb G k sc e m):B1 G k sc (.Return (some e) pos) (bn m):=by
 intro A env N α s₀ s ρ o l hA hE hb ha hF hP hρ
 refine ao hρ fun⟨d,ρ1⟩ ed hρ=>?_
 split at hρ
 .cases hρ
  rename_i hc
  refine wpAny_Return_some (wpAny_mono (h A env N α s₀ s ρ d ρ1 l hA hE hb ha hF hP ed) (fun v s1 h1=>?_) fun _ _ x=>x)
  obtain⟨⟨⟨s2,a,hb',kd⟩,k1,sb⟩,rt⟩:=h1
  obtain⟨m',cm,i,_⟩:=a.ex
  exact⟨v,rfl,sb.dom,kd.toKd.trans a.kp.kd,⟨m',i.toInCall.ns⟩,(rt.rp hc).weak fun _ q=>.inl q,fun b d q=>(a.bk b d q).1.weak fun _ q=>.inl q⟩
 .cases hρ
noncomputable def bC(c:aa->Option (Bool × aa))(a b:aa->Option Ob):aa->Option Ob:=fun ρ=>(c ρ).bind fun p=>if p.1 then a p.2 else b p.2
theorem B1.ite{test:Expr}{body orelse:List Stmt}{pos:Pos}{c:aa->Option (Bool × aa)}{mb mo:aa->Option Ob}(ht:STb G k sc test c)(h1:BS G k sc body mb)(h2:BS G k sc orelse mo):B1 G k sc (.If test body orelse pos) (bC c mb mo):=by
 intro A env N α s₀ s ρ o l hA hE hb ha hF hP hρ
 refine ao hρ fun⟨b,ρ1⟩ eb hρ=>?_
 refine wpAny_If (wpAny_mono (ht A env N α s₀ s ρ b ρ1 l hA hE hb ha hF hP eb) (fun b' s1 h₁=>?_) fun _ _ x=>x)
 obtain⟨rfl,po⟩:=h₁
 have fm:=po.fm ha hF
 obtain⟨⟨s2,a,hb',kd⟩,k1,sb⟩:=po
 cases b' with
 | true=>exact wpAny_mono (h1 A env N α s2 s1 ρ1 o l hA hE hb' a (hF.kd kd.toKd) (hP.sd sb.dom) hρ) (fun _ _ q=>q.trans sb.dom kd fm) fun _ _ x=>x
 | false=>exact wpAny_mono (h2 A env N α s2 s1 ρ1 o l hA hE hb' a (hF.kd kd.toKd) (hP.sd sb.dom) hρ) (fun _ _ q=>q.trans sb.dom kd fm) fun _ _ x=>x
theorem SEb.and2{e e2:Expr}{rest:List Expr}{pos:Pos}{m:aa->Option (D × aa)}{n:aa->Option D}(h:SEb G k sc e m)(hr:SE G k sc (.BoolOp .And (e2 :: rest) pos) n):SEb G k sc (.BoolOp .And (e :: e2 :: rest) pos) (nj m n):=by
 intro A env N α s₀ s ρ d ρ' l hA hE hb ha hF hP hρ
 refine ao hρ fun⟨d',ρ1⟩ ed hρ=>?_
 refine ao hρ fun b eb hρ=>?_
 refine BoolOp_and (wpAny_mono (h A env N α s₀ s ρ d' ρ1 l hA hE hb ha hF hP ed) (fun v s1 h1=>?_) fun _ _ x=>x)
 obtain⟨po,rt⟩:=h1
 refine wpAny_mono (mY rt eb) (fun b' s2 h2=>?_) fun _ _ x=>x
 obtain⟨rfl,k₂⟩:=h2
 cases b' with
 | true=>
  obtain⟨d2,e2,q⟩:=Option.map_eq_some_iff.mp hρ
  cases q
  obtain⟨s3,a,hb',_⟩:=(po.kp k₂).act
  exact wpAny_mono (hr A env N α s2 ρ1 d hA hE (a.hk hb') a.in e2) (fun v s3 h3=>⟨(po.kp k₂).kp h3.1,h3.2⟩) fun _ _ x=>x
 | false=>cases hρ;exact⟨po.kp k₂,rt.keep k₂.heap⟩
end
noncomputable def dm(ρ:aa)(names:List Str)(ds:List D):aa:=fun x=>if aU x then ρ x else bK names ds x
theorem entB_key{ρ:aa}{names:List Str}{ds:List D}{b:Addr}:dm ρ names ds (ag b)=ρ (ag b):=by unfold dm;rw[if_pos dH]
noncomputable def fJ(names:List Str)(m:aa->Option Ob):aa->List D->Option (D × aa):=fun ρ ds=>if ds.length=names.length then(m (dm ρ names ds)).map fun o=>match o with | .ret d ρ'=>(d,ρ') | .next ρ'=>(.none,ρ') else none
section
variable {G:ap} {k:Nat} {sc:Scope}
theorem nk{f:Addr}{fd:FuncData}{names:List Str}{N:Addr->Prop}{s s1:Shared}{vals:List Value}{ds:List D}{ρ:aa}(hE:EOk fd.scope (callEnvC fd s.heap.objs.size f))(hnd:names.Nodup)(hkind:∀x∈names,okStore fd.scope x=true)(hfree:fd.scope.names.all (fun p=>p.2 != .free && !aU p.1)=true)
  (lo:Lo N s.heap) (ra:Rps s.heap N vals ds) (hlen:ds.length=names.length) (hbk:∀b d,ρ (ag b)=some d->BookAt G s.heap N b d) (X:InCallC s (callEnvC fd s.heap.objs.size f).locals (bindL (callEnvC fd s.heap.objs.size f).kindOf (names.zip vals) fun _=>none) (callEnvC fd s.heap.objs.size f).cells (bindC (callEnvC fd s.heap.objs.size f).kindOf (names.zip vals) fun _=>none) s1):
  Act G s (callEnvC fd s.heap.objs.size f) N (fun _=>none) s1 (dm ρ names ds):=by
 have a:=pG (G:=G) hE hnd hkind hfree lo ra hlen X
 obtain⟨m,cm,i,hv⟩:=a.ex
 refine⟨⟨m,cm,i,fun x d e hy=>hv x d ?_ hy⟩,a.lowN,a.fresh,a.inj,a.cells,fun b d e=>?_,a.nb⟩
 .unfold dm at e;rw[hy] at e;exact e
 .rw[entB_key] at e
  have B:=hbk b d e
  refine⟨(B.keep X.toInCall.keep).weak fun c q=>q.elim id fun⟨_,q⟩=>(by cases q),fun q=>?_⟩
  obtain⟨C,dx,hs,tk,n,v,eb,_,_,_,h2,_⟩:=B.ex
  have h3:=Heap.lt_size h2
  have:dx=s.heap.objs.size:=Nat.add_right_cancel (eb.symm.trans q)
  rw[this] at h3
  exact Nat.lt_irrefl _ h3
theorem FnB.of{f:Addr}{o:Obj}{fd:FuncData}{names:List Str}{body:List Stmt}{m:aa->Option Ob}(ho:G.base.get? f=some o)(hd:o.data=.func fd)(hbody:fd.body=.stmts body)(hclo:fd.closure=[])
  (hgl:fd.globals=mainGlobals) (hbi:fd.builtins=builtinsNs) (hcd:G.base.CodeRec fd.code fd.qualname)
  (hbind:∀vals:List Value,vals.length=names.length->bindArgs fd ⟨vals,[]⟩=pure (names.zip vals)) (hnd:names.Nodup) (hkind:∀x∈names,okStore fd.scope x=true) (hfree:fd.scope.names.all (fun p=>p.2 != .free && !aU p.1)=true)
  (hco:fd.scope.isCoroutine=false) (hgen:fd.scope.isGenerator=false) (hk:fd.scope.kind=.function) (h:BS G k fd.scope body m):FnB G (k+1) f (fJ names m):=by
 refine⟨⟨o,fd,ho,hd⟩,fun A N s vals ds ρ r ρ' l hA hb lo ra hfr hout hbk hP e=>?_⟩
 unfold fJ at e
 split at e
 .rename_i hlen
  obtain⟨oo,e1,e2⟩:=Option.map_eq_some_iff.mp e
  have hvl:vals.length=names.length:=ra.length.trans hlen
  refine wpAny_call (codeAny_call_cells (Nat.lt_of_le_of_lt (Nat.le_add_right _ _) hA.2.1) (hb _ _ ho) hd (G.nolimit.keeps hb) (hcd.keeps hb) hbody (hbind vals hvl) hclo (fun x hx=>?_) (fun s1 X=>?_) hco hgen hk)
  .have hm:x.1∈names:=(List.of_mem_zip hx).1
   have:=hkind _ hm
   unfold okStore at this
   split at this
   .rename_i q;exact .inl q
   .rename_i q;exact .inr ⟨q,fX _ _ _ (.inl q)⟩
   .cases this
  .have hE:EOk fd.scope (callEnvC fd s.heap.objs.size f):=⟨rfl,hk,hgl,hbi⟩
   have a:=nk (ρ:=ρ) hE hnd hkind hfree lo ra hlen hbk X
   have gs:s.heap.get? s.heap.objs.size=none:=b4 _
   have hF:Fd G (A.deeper (callEnvC fd s.heap.objs.size f)) (callEnvC fd s.heap.objs.size f) l s.heap:=by
    refine⟨by show A.frames.map _=_;rw[hfr];rfl,rfl,?_,hout,fun e he q=>?_⟩
    .cases hq:G.base.get? (callEnvC fd s.heap.objs.size f).locals with
     | none=>rfl
     | some ob=>have:=hb _ _ hq;rw[show s.heap.get? (callEnvC fd s.heap.objs.size f).locals=none from gs] at this;cases this
    .obtain⟨mm,ol,_,_,hol,_⟩:=(hout e he).ns
     rw[q,show s.heap.get? (callEnvC fd s.heap.objs.size f).locals=none from gs] at hol;cases hol
   have sdk:∀ {ρx:aa},Sd (dm ρ names ds) ρx->Sd ρ ρx:=fun {ρx} q b=>by have:=q b;rw[entB_key] at this;exact this
   have dke:∀c,Dk (dm ρ names ds) c->Dk ρ c:=fun c ⟨d,q⟩=>⟨d,by rw[entB_key] at q;exact q⟩
   refine wpAny_mono (h _ _ N _ s s1 _ oo l hA.deeper hE hb a hF (fun e he d q=>hP e he d (by rw[entB_key] at q;exact q)) e1) (fun fl s' h'=>?_) fun _ _ x=>x.elim
   cases oo with
   | ret d ρx=>
    cases e2
    obtain⟨v,rfl,sd,kd,_,rp,bk⟩:=h'
    exact⟨sdk sd,kd.more dke,rp,bk⟩
   | next ρx=>
    cases e2
    obtain⟨rfl,sd,s2,α',a',_,kd,_⟩:=h'
    exact⟨sdk sd,(kd.toKd.trans a'.kp.kd).more dke,.none,fun b d q=>(a'.bk b d q).1.weak fun _ z=>.inl z⟩
 .cases e
noncomputable def ek(t:Tg)(mb:aa->Option Ob):List D->aa->Option Ob
 | [],ρ=>some (.next ρ)
 | d :: ds,ρ=>(cO t d ρ).bind fun ρ1=>(mb ρ1).bind fun o=>match o with
  | .next ρ'=>ek t mb ds ρ'
  | .ret d ρ'=>some (.ret d ρ')
noncomputable def eK(t:Tg)(mi:aa->Option (List D))(mb:aa->Option Ob):aa->Option Ob:=fun ρ=>(mi ρ).bind fun ds=>ek t mb ds ρ
theorem yT:∀ {xs:List Str} {ds:List D} {ρ:aa} {b:Addr},(∀x∈xs,aU x=false)->ig ρ xs ds (ag b)=ρ (ag b):=by
 intro xs
 induction xs with
 | nil=>intro ds ρ b _;cases ds <;> rfl
 | cons x xs ih=>
  intro ds ρ b h
  cases ds with
  | nil=>rfl
  | cons d ds=>
   show ig (ah ρ x d) xs ds (ag b)=_
   rw[ih fun y hy=>h y (.tail _ hy)]
   unfold ah
   rw[if_neg fun q=>by have:=h x (.head _);rw[← q,dH] at this;cases this]
end
theorem yU{t:Tg}{d:D}{ρ ρ':aa}(h:cO t d ρ=some ρ')(hn:∀x∈t.names,aU x=false)(b:Addr):ρ' (ag b)=ρ (ag b):=by
 cases t with
 | one x=>
  cases h
  unfold ah
  rw[if_neg fun q=>by have:=hn x (.head _);rw[← q,dH] at this;cases this]
 | many xs=>
  cases d <;> simp only[cO] at h <;> try cases h
  split at h
  .cases h;exact yT hn
  .cases h
theorem Rp.fmB{G:ap}{s₀:Shared}{env:Env}{N:Addr->Prop}{α α':Str->Option Addr}{s s':Shared}{ρ:aa}{v:Value}{d:D}(a:Act G s₀ env N α s ρ)(f:FmB env α s α' s')(r:Rp s.heap (Nu N α) v d):Rp s'.heap (Nu N α') v d:=by
 obtain⟨m,cm,i,_⟩:=a.ex
 have nL:∀b us j,(s.heap.get? b=some (aJ us j)∨s.heap.get? b=some (a8 us j))->b≠env.locals∧∀x c,env.cells.lookup x=some c->b≠c:=fun b us j e=>by
  refine⟨fun q=>?_,fun x c hc q=>?_⟩
  .have:=fy i.toInCall.ns us j
   rw[q] at e;exact e.elim this.1 this.2
  .have:=jJ (i.cell x c hc) us j
   rw[q] at e;exact e.elim this.1 this.2
 refine r.change (fun b us j e=>(f b _ e (fun _ _ q=>by cases q) ⟨(nL b us j (.inr e)).1,(nL b us j (.inr e)).2,fun x q=>?_⟩).1) fun b us j e hn=>?_
 .obtain⟨_,ws,k,h2⟩:=a.fresh x b q
  rw[h2] at e;exact iW e
 .obtain⟨e',fr⟩:=f b _ e (fun _ _ q=>by cases q) ⟨(nL b us j (.inl e)).1,(nL b us j (.inl e)).2,fun x q=>hn (.inr ⟨x,q⟩)⟩
  exact⟨e',fun q=>q.elim (fun q=>hn (.inl q)) fun⟨x,q⟩=>fr.2.2 x q⟩
theorem Rps.fmB{G:ap}{s₀:Shared}{env:Env}{N:Addr->Prop}{α α':Str->Option Addr}{s s':Shared}{ρ:aa}(a:Act G s₀ env N α s ρ)(f:FmB env α s α' s'):∀ {vs ds},Rps s.heap (Nu N α) vs ds->Rps s'.heap (Nu N α') vs ds
 | _,_,.nil=>.nil
 | _,_,.cons x r=>.cons (x.fmB a f) (Rps.fmB a f r)
inductive tG (G:ap) (s₀:Shared) (env:Env) (N:Addr->Prop) (α:Str->Option Addr) (l:List Env) (ρ:aa) (s2:Shared) (t:Tg) (mb:aa->Option Ob) (ds ds0:List D) (vs:List Value) (fp wr:List Addr) (St:Nat->Heap->Prop) (o:Ob) (n:Nat) (s':Shared):Prop
 | mk (i:Nat) (ρ':aa) (α':Str->Option Addr) (s1:Shared) (hin:i≤ds.length) (en:n=ds.length - i) (a':Act G s1 env N α' s' ρ') (hb':Hk G.base s1.heap) (kr:Kr l (Dk ρ) s₀ s1) (sd:Sd ρ ρ') (st':St i s'.heap) (rv':Rps s'.heap (Nu N α') vs ds0) (ff':∀b∈fp,cW env α' b∧∃o,s'.heap.get? b=some o)
   (fm':∀b o,b ∉ wr->s2.heap.get? b=some o->(∀es n,o.data≠.dict es n)->cW env α b->s'.heap.get? b=some o∧cW env α' b) (hm':ek t mb (ds.drop i) ρ'=some o):tG G s₀ env N α l ρ s2 t mb ds ds0 vs fp wr St o n s'
section
variable {G:ap} {k:Nat} {sc:Scope}
theorem B1.for[NeZero k]{target iter:Expr}{t:Tg}{body:List Stmt}{pos:Pos}{mi:aa->Option (List D)}{mb:aa->Option Ob}(ht:bV target=some t)(ho:∀x∈t.names,okStore sc x=true)(hfs:∀env x,foldedSetIterable iter env x=pure x)
  (hi:SI G k sc true target iter mi) (hbd:BS G k sc body mb):B1 G k sc (.For target iter body [] pos) (eK t mi mb):=by
 intro A env N α s₀ s ρ o l hA hE hb ha hF hP hρ
 refine ao hρ fun ds eds hρ=>?_
 refine wpAny_For (wpAny_mono (hi A env N α s ρ ds hA hE (ha.hk hb) ha.in eds) (fun x s1 h₁=>wpAny_mono h₁ (fun it s2 h2=>?_) fun _ _ x=>x) fun _ _ x=>x) (hfs env)
 obtain⟨k₂,_,I,fp,wr,vs,ds0,St,rfl,W,st0,rv,hwr,hfpo,hfp⟩:=h2
 have ok:∀x∈t.names,env.kindOf x=some .local∨env.kindOf x=some .cell:=fun x hx=>okStore.ok hE (ho x hx)
 have nbt:∀x∈t.names,aU x=false:=fun x hx=>by
  cases q:aU x with
  | false=>rfl
  | true=>have:=ok x hx;rw[ha.nb x q] at this;rcases this with z | z <;> cases z
 have fr0:∀b∈fp,cW env α b:=fun b hb=>pu ha (hfp b hb)
 have h0:∀b∈wr,s₀.heap.get? b=none:=fun b hb=>ha.kp.gone (hwr b hb)
 refine codeAny_forLoop_any (tG G s₀ env N α l ρ s2 t mb ds ds0 vs fp wr St o) (fun n s' hI=>?_) ds.length
   ⟨0,ρ,α,s₀,Nat.zero_le _,rfl,ha.keep k₂,hb,Kr.refl _ _ _,fun _=>Iff.rfl,st0,rv,fun b hb=>⟨fr0 b hb,hfpo b hb⟩,fun b o _ e _ f=>⟨e,f⟩,by simpa using hρ⟩
 obtain⟨i,ρ',α',s1,hin,rfl,a',hb',kr,sd,st',rv',ff',fm',hm'⟩:=hI
 have h1:∀b∈wr,s1.heap.get? b=none:=fun b hb=>kr.gone b (h0 b hb)
 by_cases hlt:i < ds.length
 .have hdi:ds[i]? = some ds[i]:=by simp[hlt]
  rw[List.drop_eq_getElem_cons hlt] at hm'
  simp only[ek] at hm'
  refine ao hm' fun ρ1 e1 hm'=>?_
  refine ao hm' fun o1 e2 hm'=>?_
  refine W.item i s' ds[i] (Nu N α') _ _ _ hdi st' rv' a'.in.low (fun v s1 h=>h) fun v h₁ tk st1 hk1 rp=>?_
  .have a1:Act G s1 env N α' { s' with heap:=h₁,toks:=tk } ρ':=a'.swap hk1 (fun b hb=>(ff' b (W.sub b hb)).1) h1 (W.kind i _ st') (W.off st' a')
   refine a1.assign hE.kind' hA.no ht ok rp e1 fun α2 s5 a2 f2=>?_
   have sd1:Sd ρ ρ1:=fun b=>by rw[yU e1 nbt b];exact sd b
   refine wpAny_mono (hbd A env N α2 s1 s5 ρ1 o1 l hA hE hb' a2 (hF.kd kr.toKd) (hP.sd sd1) e2) (fun fl s6 h6=>?_) fun _ _ x=>x.elim
   cases o1 with
   | next q=>
    obtain⟨rfl,sd2,s₈,α3,a3,hb3,kr3,f3⟩:=h6
    have f23:FmB env α' { s' with heap:=h₁,toks:=tk } α3 s6:=f2.b.trans f3
    have hex:∀b∈fp,∃o,h₁.get? b=some o:=fun b hb=>by
     by_cases q:b∈wr
     .exact W.exist _ _ st1 b q
     .obtain⟨o,ho⟩:=(ff' b hb).2;exact⟨o,hk1 b o q ho⟩
    refine⟨_,(by omega:ds.length - (i+1) < ds.length - i),i+1,q,α3,s₈,hlt,rfl,a3,hb3,kr.trans (kr3.more fun c z=>Sd.dk sd1 c z),fun b=>(sd2 b).trans (sd1 b),W.frame _ _ _ st1 fun b hb o e=>(f23 b o e (W.kd _ _ st1 b hb o e).2 (ff' b hb).1).1,?_,fun b hb=>?_,fun b o hb e hn f=>?_,hm'⟩
    .exact Rps.fmB a1 f23 (rv'.change (fun b us j e=>hk1 b _ (fun q=>(W.kind i _ st' b q us j).2 e) e) fun b us j e hn=>⟨hk1 b _ (fun q=>(W.kind i _ st' b q us j).1 e) e,hn⟩)
    .obtain⟨o,ho⟩:=hex b hb
     obtain⟨e',f'⟩:=f23 b o ho (W.kd _ _ st1 b hb o ho).2 (ff' b hb).1
     exact⟨f',o,e'⟩
    .obtain⟨e',f'⟩:=fm' b o hb e hn f
     exact f23 b o (hk1 b o hb e') hn f'
   | ret d ρx=>
    cases hm'
    obtain⟨v',rfl,sd2,kd,r⟩:=h6
    exact⟨v',rfl,fun b=>(sd2 b).trans (sd1 b),kr.toKd.trans (kd.more fun c z=>Sd.dk sd1 c z),r⟩
 .have hi':i=ds.length:=by omega
  subst hi'
  rw[List.drop_length] at hm'
  cases hm'
  refine W.done s' _ _ st' fun h₁ tk hk1=>?_
  have a1:Act G s1 env N α' { s' with heap:=h₁,toks:=tk } ρ':=a'.swap hk1 (fun b hb=>(ff' b (W.sub b hb)).1) h1 (W.kind _ _ st') (W.off st' a')
  refine wpAny_execs_nil ⟨rfl,sd,s1,α',a1,hb',kr,fun b o e hn f=>?_⟩
  have hbw:b ∉ wr:=fun q=>by rw[hwr b q] at e;cases e
  obtain⟨e',f'⟩:=fm' b o hbw (k₂.heap b o e) hn f
  exact⟨hk1 b o hbw e',f'⟩
end
noncomputable def FnF(G:ap)(k:Nat)(f:Addr)(Φ:List D->Option (List D)):Prop:=
 (∃o fd,G.base.get? f=some o∧o.data=.func fd)∧
 ∀A N s vals ds r,AOk A k->Hk G.base s.heap->Lo N s.heap->Rps s.heap N vals ds->Φ ds=some r->
  wpAny (model G.prog G.w) A (call (.ref f) vals) (fun v s'=>Kp s s'∧∃a vs n,v=.ref a∧s.heap.get? a=none∧s'.heap.get? a=some (aJ vs n)∧Rps s'.heap (ch N a) vs r) aQ s
noncomputable def ja(names:List Str)(m:aa->Option Out):List D->Option (List D):=fun ds=>if ds.length=names.length then(m (bK names ds)).bind fun o=>match o with | .retF l=>some l | _=>none else none
noncomputable def jb(m:aa->Option (List D)):aa->Option Out:=fun ρ=>(m ρ).map .retF
noncomputable def nr(x:String):aa->Option Out:=fun ρ=>(ρ (Str.ofString x)).bind fun d=>match d with | .own l=>some (.retF l) | _=>none
section
variable {G:ap} {k:Nat} {sc:Scope}
theorem FnF.ok{f:Addr}{Φ:List D->Option (List D)}(h:FnF G k f Φ):FnOk G k f (fun ds=>(Φ ds).map .list):=by
 refine⟨h.1,fun A N s vals ds r hA hb lo ra e=>?_⟩
 obtain⟨l,el,rfl⟩:=Option.map_eq_some_iff.mp e
 refine wpAny_mono (h.2 A N s vals ds l hA hb lo ra el) (fun v s' h'=>?_) fun _ _ x=>x
 obtain⟨kp,a,vs,n,rfl,hn,ha,r⟩:=h'
 exact⟨kp,.list ha (lo.fresh hn) (r.weak fun _ q=>.inl q)⟩
theorem S1.retF{pos:Pos}{e:Expr}{m:aa->Option (List D)}(h:SF G k sc e m):S1 G k sc (.Return (some e) pos) (jb m):=by
 intro A env N α s₀ s ρ o hA hE hb ha hρ
 obtain⟨l,el,rfl⟩:=Option.map_eq_some_iff.mp hρ
 refine wpAny_Return_some (wpAny_mono (h A env N α s ρ l hA hE (ha.hk hb) ha.in el) (fun v s1 h1=>?_) fun _ _ x=>x)
 obtain⟨kp,a,vs,n,rfl,hn,hl,r⟩:=h1
 exact⟨a,vs,n,rfl,ha.kp.trans kp,ha.kp.gone hn,hl,r.weak fun _ q=>q.elim (fun q=>.inl (.inl q)) .inr⟩
theorem S1.retO{x:String}{p pos:Pos}(hd:notDbg x=true):S1 G k sc (.Return (some (.Name (Str.ofString x) p)) pos) (nr x):=by
 intro A env N α s₀ s ρ o hA hE hb ha hρ
 refine ao hρ fun d ed hρ=>?_
 split at hρ
 .cases hρ
  rename_i l
  refine wpAny_Return_some (ha.ownName hE (notDbg.ok hd) gU ed fun a vs n hα hl r=>?_)
  refine⟨a,vs,n,rfl,ha.kp,(ha.fresh _ a hα).1,hl,r.weak fun b q=>q.elim .inl fun q=>.inr ⟨_,q ▸ hα⟩⟩
 .cases hρ
theorem FnF.of{f:Addr}{o:Obj}{fd:FuncData}{names:List Str}{body:List Stmt}{m:aa->Option Out}(ho:G.base.get? f=some o)(hd:o.data=.func fd)(hbody:fd.body=.stmts body)(hclo:fd.closure=[])
  (hgl:fd.globals=mainGlobals) (hbi:fd.builtins=builtinsNs) (hcd:G.base.CodeRec fd.code fd.qualname)
  (hbind:∀vals:List Value,vals.length=names.length->bindArgs fd ⟨vals,[]⟩=pure (names.zip vals)) (hnd:names.Nodup) (hkind:∀x∈names,okStore fd.scope x=true) (hfree:fd.scope.names.all (fun p=>p.2 != .free && !aU p.1)=true)
  (hco:fd.scope.isCoroutine=false) (hgen:fd.scope.isGenerator=false) (hk:fd.scope.kind=.function) (h:SS G k fd.scope body m):FnF G (k+1) f (ja names m):=by
 refine⟨⟨o,fd,ho,hd⟩,fun A N s vals ds r hA hb lo ra e=>?_⟩
 unfold ja at e
 split at e
 .rename_i hlen
  refine ao e fun oo e1 e2=>?_
  have hvl:vals.length=names.length:=ra.length.trans hlen
  refine wpAny_call (codeAny_call_cells (Nat.lt_of_le_of_lt (Nat.le_add_right _ _) hA.2.1) (hb _ _ ho) hd (G.nolimit.keeps hb) (hcd.keeps hb) hbody (hbind vals hvl) hclo (fun x hx=>?_) (fun s1 X=>?_) hco hgen hk)
  .have hm:x.1∈names:=(List.of_mem_zip hx).1
   have:=hkind _ hm
   unfold okStore at this
   split at this
   .rename_i q;exact .inl q
   .rename_i q;exact .inr ⟨q,fX _ _ _ (.inl q)⟩
   .cases this
  .have hE:EOk fd.scope (callEnvC fd s.heap.objs.size f):=⟨rfl,hk,hgl,hbi⟩
   have a:=pG (G:=G) hE hnd hkind hfree lo ra hlen X
   refine wpAny_mono (h _ _ N _ s s1 _ oo hA.deeper hE hb a e1) (fun fl s' h'=>?_) fun _ _ x=>x.elim
   cases oo with
   | retF l=>cases e2;obtain⟨a,vs,n,rfl,h1,h2⟩:=h';exact⟨h1,a,vs,n,rfl,h2⟩
   | ret d=>cases e2
   | next ρ=>cases e2
   | brk ρ=>cases e2
   | cont ρ=>cases e2
 .cases e
noncomputable def ir(Φ:List D->Option (List D))(ms:aa->Option (List D)):aa->Option (List D):=fun ρ=>(ms ρ).bind fun ds=>(Φ (ds.map D.frz)).bind fun l=>if ds.all D.clean||D.flats l then some l else none
theorem SF.call{j:Nat}{x:Str}{f:Addr}{e:Expr}{rest:List Expr}{p pos:Pos}{Φ:List D->Option (List D)}{ms:aa->Option (List D)}(hf:FnF G j f Φ)(hj:j≤k)
  (hx:sc.names.lookup x=some .globalImplicit) (hd:(x==("__debug__":Str))=false) (hg:G.mg x=some (.ref f)) (hs:a9 e) (h:SEs G k sc (e :: rest) ms):
  SF G k sc (.Call (.Name x p) (e :: rest) [] pos) (ir Φ ms):=by
 intro A env N α s ρ l hA hE hb hi hρ
 refine ao hρ fun ds eds hρ=>?_
 refine ao hρ fun l' el hρ=>?_
 split at hρ
 case isFalse=>cases hρ
 rename_i hc
 cases hρ
 obtain⟨o,fd,ho,hdat⟩:=hf.1
 refine Call_ (Calls.Name_function_global hE.kind' (by rw[hE.kindOf];exact hx) (Calls.loadGlobal_global (mg:=G.mg) (by rw[hE.globals];exact G.g.keeps hb) hg ?_) hd)
 refine callWith_def hdat (wpAny_mono (h A env N α s ρ ds pos hA hE hb hi eds) (fun vs s1 h1=>⟨aZ hb h1.1 _ _ ho,?_⟩) fun _ _ x=>x) (hs rest env)
 cases hcl:ds.all D.clean with
 | true=>
  rw[lm hcl] at el
  refine wpAny_mono (hf.2 A (Nu N α) s1 vs ds l (hA.mono hj) (aZ hb h1.1) (hi.low.keep h1.1.heap) (h1.2.2.rps hcl) el) (fun v s' h'=>?_) fun _ _ x=>x
  obtain⟨kp,a,us,n,rfl,hn,r⟩:=h'
  exact⟨h1.1.trans kp,a,us,n,rfl,h1.1.gone hn,r⟩
 | false=>
  rw[hcl,Bool.false_or] at hc
  refine wpAny_mono (hf.2 A (fun _=>False) s1 vs (ds.map D.frz) l (hA.mono hj) (aZ hb h1.1) (fun _ q=>q.elim) h1.2.2.frz el) (fun v s' h'=>?_) fun _ _ x=>x
  obtain⟨kp,a,us,n,rfl,hn,hl,r⟩:=h'
  exact⟨h1.1.trans kp,a,us,n,rfl,h1.1.gone hn,hl,r.flat hc⟩
end
structure BkC (G:ap) (K:Frag) (C:Addr):Prop where
 in_:K.In G.base
 glob:G.mg (Str.ofString "Book")=some (.ref C)
 ga:findIn K (.ref C) "__getattribute__"=some (some (.builtin "object.__getattribute__"))
 gn:findIn K (.ref C) "__getattr__"=some none
 cd:(clsIn K C).any (·.hasDict)=true
 held:findIn K (.ref C) (Str.ofString "held")=some none
 sa:findIn K (.ref C) "__setattr__"=some (some (.builtin "object.__setattr__"))
 over:plainOver K C=true
theorem tH{hs:Int}{tk:Tok}{v:Value}{n:Nat}:lookIn (Str.ofString "held") (gV hs tk v n)=some (some v):=by
 simp[lookIn,Value.isStr]
theorem yV{x:Str}{hs:Int}{tk:Tok}{v:Value}{n:Nat}(h:x≠Str.ofString "held"):lookIn x (gV hs tk v n)=some none:=by
 simp[lookIn,Value.isStr,DictEntry.refKey,Ne.symm h]
theorem Rp.handed{h:Heap}{N:Addr->Prop}{v:Value}{d:D}(r:Rp h N v d):handedIn v=true:=by cases r <;> rfl
section
variable {G:ap} {K:Frag} {C:Addr} {h:Heap} {N:Addr->Prop} {b:Addr} {d:D}
theorem BookAt.inst(B:BookAt G h N b d)(X:BkC G K C):∃dx hs tk n v,b=dx+1∧G.base.get? dx=none∧InstAt h b (mS C dx) C (some (gV hs tk v n))∧h.get? dx=some (gV hs tk v n)∧Rp h N v d:=by
 refine cN fun Qh zh=>?_
 obtain⟨C',dx,hs,tk,n,v,eb,hm,hb,h1,h2,r⟩:=B.ex
 refine zh ?_
 have e:some (Value.ref C)=some (Value.ref C'):=X.glob.symm.trans hm
 cases e
 exact⟨dx,hs,tk,n,v,eb,hb,⟨h1,rfl,rfl,h2⟩,h2,r⟩
theorem BkC.find(X:BkC G K C){hs:Int}{tk:Tok}{v:Value}{n:Nat}:findObj K C (some (gV hs tk v n)) (Str.ofString "held")=some (.value v):=by
 obtain⟨cd,hc,hd⟩:=any_some X.cd
 unfold findObj
 rw[hc,Option.bind_some,X.held,Option.bind_some]
 show((PySem.W.ownOf cd (some (gV hs tk v n)) (Str.ofString "held")).bind _)=_
 unfold PySem.W.ownOf
 rw[hd,if_pos rfl]
 show((lookIn (Str.ofString "held") (gV hs tk v n)).bind _)=_
 rw[tH]
 rfl
end
noncomputable def e7(mo:aa->Option D):aa->Option D:=fun ρ=>(mo ρ).bind fun d=>match d with | .ref b=>ρ (ag b) | _=>none
section
variable {G:ap} {k:Nat} {sc:Scope} {K:Frag} {C:Addr}
theorem SE.held(X:BkC G K C){x:Str}{p pos:Pos}{mo:aa->Option D}(ho:SE G k sc (.Name x p) mo):SE G k sc (.Attribute (.Name x p) (Str.ofString "held") pos) (e7 mo):=by
 intro A env N α s ρ d hA hE hb hi hρ
 refine ao hρ fun o eo hρ=>?_
 split at hρ
 .rename_i b
  refine Attribute_name (wpAny_mono (ho A env N α s ρ _ hA hE hb hi eo) (fun v s1 h1=>?_) fun _ _ x=>x)
  obtain⟨k₁,r₁⟩:=h1
  have hv:v=.ref b:=by
   cases r₁ with
   | clean r=>cases r;rfl
  subst hv
  have B:=(hi.keep k₁.heap).bk b d hρ
  refine cN fun Qh zh=>?_
  obtain⟨dx,hs,tk,n,v,eb,_,I,_,r⟩:=B.inst X
  refine zh ?_
  exact get_value (X.in_.keeps (aZ hb k₁)) I X.ga X.find r.handed ⟨k₁.trans (Kp.toks s1 _),.clean r⟩
 .cases hρ
structure iu (K:Frag) (C:Addr) (name:Str) (f:Addr):Prop where
 find:findIn K (.ref C) name=some (some (.ref f))
 fn:typeIn K (.ref f)=some (.type "function")
 ne:name≠Str.ofString "held"
theorem BookAt.meth{prog:Program}{w:World}{A:Around}{E:Value->Shared->Prop}{s:Shared}{N:Addr->Prop}{b f:Addr}{d:D}{name:Str}{pl:Sem Bool}{Q:Value × List Value->Shared->Prop}(X:BkC G K C)(M:iu K C name f)(hb:Hk G.base s.heap)(B:BookAt G s.heap N b d)(h:Q (.ref f,[.ref b]) s):
  wpAny (model prog w) A (getMethod (.ref b) name pl) Q E s:=by
 refine cN fun Qh zh=>?_
 obtain⟨dx,hs,tk,n,v,eb,_,I,_,r⟩:=B.inst X
 refine zh ?_
 exact method_fn (X.in_.keeps hb) I X.ga X.gn M.find M.fn (by show(lookIn name _).map _=_;rw[yV M.ne];rfl) h
theorem pM{M:Model}{q:Addr}(h:Heap)(X:∃o fd,h.get? q=some o∧o.data=.func fd):∃k,(k=Keeper.frame∨k=Keeper.machine∨k=Keeper.boundFrame)∧Looks M h (keeperOf (.ref q)) k:=by
 refine cN fun Qh zh=>?_
 obtain⟨⟨oc,od,dd,sl⟩,fd,e,hd⟩:=X
 refine zh ?_
 cases hd
 exact⟨.frame,.inl rfl,(Looks.ld (part:=none) e).andThen .now⟩
end
noncomputable def FnR(G:ap)(k:Nat)(f:Addr)(Φ:aa->List D->Option (List D)):Prop:=
 (∃o fd,G.base.get? f=some o∧o.data=.func fd)∧
 ∀A N s vals ds ρ r,AOk A k->Hk G.base s.heap->Lo N s.heap->Rps s.heap N vals ds->(∀b d,ρ (ag b)=some d->BookAt G s.heap N b d)->Φ ρ ds=some r->
  wpAny (model G.prog G.w) A (call (.ref f) vals) (fun v s'=>Kp s s'∧∃a vs n,v=.ref a∧s.heap.get? a=none∧s'.heap.get? a=some (aJ vs n)∧Rps s'.heap (ch N a) vs r) aQ s
noncomputable def XFnB(G:ap)(k:Nat)(f:Addr)(Ψ:aa->List D->Option String):Prop:=
 (∃o fd,G.base.get? f=some o∧o.data=.func fd)∧
 ∀A N s vals ds ρ c l B,AOk A k->Hk G.base s.heap->Lo N s.heap->Rps s.heap N vals ds->(∀b d,ρ (ag b)=some d->BookAt G s.heap N b d)->A.frames=some l->B.StaysIn s.heap->s.heap.FunFrames B l->Ψ ρ ds=some c->
  wpAny (model G.prog G.w) A (call (.ref f) vals) (fun _ _=>False) (Fly G B l c s) s
noncomputable def jc(names:List Str)(m:aa->Option Out):aa->List D->Option (List D):=fun ρ ds=>if ds.length=names.length then(m (dm ρ names ds)).bind fun o=>match o with | .retF l=>some l | _=>none else none
noncomputable def je(names:List Str)(μ:aa->Option String):aa->List D->Option String:=fun ρ ds=>if ds.length=names.length then μ (dm ρ names ds) else none
section
variable {G:ap} {k:Nat} {sc:Scope} {K:Frag} {C:Addr}
section
variable {f:Addr} {o:Obj} {fd:FuncData} {names:List Str} {body:List Stmt} (ho:G.base.get? f=some o) (hd:o.data=.func fd) (hbody:fd.body=.stmts body) (hclo:fd.closure=[])
  (hgl:fd.globals=mainGlobals) (hbi:fd.builtins=builtinsNs) (hcd:G.base.CodeRec fd.code fd.qualname)
  (hbind:∀vals:List Value,vals.length=names.length->bindArgs fd ⟨vals,[]⟩=pure (names.zip vals)) (hnd:names.Nodup) (hkind:∀x∈names,okStore fd.scope x=true) (hfree:fd.scope.names.all (fun p=>p.2 != .free && !aU p.1)=true)
  (hco:fd.scope.isCoroutine=false) (hgen:fd.scope.isGenerator=false) (hk:fd.scope.kind=.function)
include ho hd hbody hclo hgl hbi hcd hbind hnd hkind hfree hco hgen hk
theorem FnR.of{m:aa->Option Out}(h:SS G k fd.scope body m):FnR G (k+1) f (jc names m):=by
 refine⟨⟨o,fd,ho,hd⟩,fun A N s vals ds ρ r hA hb lo ra hbk e=>?_⟩
 unfold jc at e
 split at e
 .rename_i hlen
  refine ao e fun oo e1 e2=>?_
  have hvl:vals.length=names.length:=ra.length.trans hlen
  refine wpAny_call (codeAny_call_cells (Nat.lt_of_le_of_lt (Nat.le_add_right _ _) hA.2.1) (hb _ _ ho) hd (G.nolimit.keeps hb) (hcd.keeps hb) hbody (hbind vals hvl) hclo (fun x hx=>?_) (fun s1 X=>?_) hco hgen hk)
  .have hm:x.1∈names:=(List.of_mem_zip hx).1
   have:=hkind _ hm
   unfold okStore at this
   split at this
   .rename_i q;exact .inl q
   .rename_i q;exact .inr ⟨q,fX _ _ _ (.inl q)⟩
   .cases this
  .have hE:EOk fd.scope (callEnvC fd s.heap.objs.size f):=⟨rfl,hk,hgl,hbi⟩
   have a:=nk (ρ:=ρ) hE hnd hkind hfree lo ra hlen hbk X
   refine wpAny_mono (h _ _ N _ s s1 _ oo hA.deeper hE hb a e1) (fun fl s' h'=>?_) fun _ _ x=>x.elim
   cases oo with
   | retF l=>cases e2;obtain⟨a,vs,n,rfl,h1,h2⟩:=h';exact⟨h1,a,vs,n,rfl,h2⟩
   | ret d=>cases e2
   | next ρ=>cases e2
   | brk ρ=>cases e2
   | cont ρ=>cases e2
 .cases e
theorem XFnB.of{μ:aa->Option String}(h:XS G k fd.scope body μ):XFnB G (k+1) f (je names μ):=by
 refine⟨⟨o,fd,ho,hd⟩,fun A N s vals ds ρ c l B hA hb lo ra hbk hfr hB hff e=>?_⟩
 unfold je at e
 split at e
 .rename_i hlen
  have hvl:vals.length=names.length:=ra.length.trans hlen
  refine wpAny_call (codeAny_call_cells (Nat.lt_of_le_of_lt (Nat.le_add_right _ _) hA.2.1) (hb _ _ ho) hd (G.nolimit.keeps hb) (hcd.keeps hb) hbody (hbind vals hvl) hclo (fun x hx=>?_) (fun s1 X=>?_) hco hgen hk)
  .have hm:x.1∈names:=(List.of_mem_zip hx).1
   have:=hkind _ hm
   unfold okStore at this
   split at this
   .rename_i q;exact .inl q
   .rename_i q;exact .inr ⟨q,fX _ _ _ (.inl q)⟩
   .cases this
  .have hE:EOk fd.scope (callEnvC fd s.heap.objs.size f):=⟨rfl,hk,hgl,hbi⟩
   have a:=nk (ρ:=ρ) hE hnd hkind hfree lo ra hlen hbk X
   have hF:Fc (A.deeper (callEnvC fd s.heap.objs.size f)) (callEnvC fd s.heap.objs.size f) l B s:=⟨by show A.frames.map _=_;rw[hfr];rfl,rfl,hB,hff,Heap.StaysIn.fresh hB⟩
   exact wpAny_mono (h _ _ N _ s s1 _ c l B hA.deeper hE hb a hF e) (fun _ _ q=>q.elim) fun ev s' y=>y.leave hF.fr rfl fun s'' z=>z
 .cases e
end
theorem jT{h:Heap}{N:Addr->Prop}{v:Value}{b:Addr}(r:Rt h N v (.ref b)):v=.ref b:=by
 cases r with
 | clean r=>cases r;rfl
noncomputable def c9(Φ:aa->List D->Option (List D))(mo:aa->Option D):aa->Option (List D):=fun ρ=>(mo ρ).bind fun d=>match d with | .ref b=>(ρ (ag b)).bind fun _=>Φ ρ [.ref b] | _=>none
theorem SF.meth(X:BkC G K C){j:Nat}{name:String}{f:Addr}{o:Expr}{apos pos:Pos}{Φ:aa->List D->Option (List D)}{mo:aa->Option D}(M:iu K C (Str.ofString name) f)(hf:FnR G j f Φ)(hj:j≤k)
  (hm:jL o (Str.ofString name) apos [] pos) (ho:SE G k sc o mo):SF G k sc (.Call (.Attribute o (Str.ofString name) apos) [] [] pos) (c9 Φ mo):=by
 intro A env N α s ρ l hA hE hb hi hρ
 refine ao hρ fun d ed hρ=>?_
 split at hρ
 .rename_i b
  refine ao hρ fun d' ed' hρ=>?_
  obtain⟨pl,hev⟩:=hm env
  refine MethodCall_ (pl:=pl) (wpAny_mono (ho A env N α s ρ _ hA hE hb hi ed) (fun v s1 h1=>?_) fun _ _ y=>y) hev
  obtain⟨k₁,r₁⟩:=h1
  have:=jT r₁
  subst this
  have i1:=hi.keep k₁.heap
  have hb1:=aZ hb k₁
  refine(i1.bk b d' ed').meth X M hb1 ?_
  refine callWith_of (P:=fun h=>∃o fd,h.get? f=some o∧o.data=.func fd) rfl pM (evalArgs_nil3 ⟨let ⟨o,fd,e,q⟩:=hf.1;⟨o,fd,hb1 _ _ e,q⟩,?_⟩)
  refine wpAny_mono (hf.2 A (Nu N α) s1 [.ref b] [.ref b] ρ l (hA.mono hj) hb1 i1.low (.one (.ref b)) i1.bk hρ) (fun v s' h'=>?_) fun _ _ x=>x
  obtain⟨kp,a,us,n,rfl,hn,r⟩:=h'
  exact⟨k₁.trans kp,a,us,n,rfl,k₁.gone hn,r⟩
 .cases hρ
noncomputable def bv(Φ:aa->List D->Option (D × aa))(mo me:aa->Option D):aa->Option (D × aa):=fun ρ=>(mo ρ).bind fun d=>match d with | .ref b=>(ρ (ag b)).bind fun _=>(me ρ).bind fun y=>if y.clean then(Φ ρ [.ref b,y]).map fun p=>(p.1,cI ρ p.2) else none | _=>none
theorem SEb.meth(X:BkC G K C){j:Nat}{name:String}{f:Addr}{o e:Expr}{apos pos:Pos}{Φ:aa->List D->Option (D × aa)}{mo me:aa->Option D}(M:iu K C (Str.ofString name) f)(hf:FnB G j f Φ)(hj:j≤k)
  (hm:jL o (Str.ofString name) apos [e] pos) (hs:a9 e) (ho:SE G k sc o mo) (he:SE G k sc e me):SEb G k sc (.Call (.Attribute o (Str.ofString name) apos) [e] [] pos) (bv Φ mo me):=by
 intro A env N α s₀ s ρ d ρ' l hA hE hb ha hF hP hρ
 refine ao hρ fun dd ed hρ=>?_
 split at hρ
 .rename_i b
  refine ao hρ fun d' ed' hρ=>?_
  refine ao hρ fun y ey hρ=>?_
  split at hρ
  case isFalse=>cases hρ
  rename_i hcl
  obtain⟨⟨r,ρ2⟩,er,q⟩:=Option.map_eq_some_iff.mp hρ
  cases q
  have hbs:=ha.hk hb
  obtain⟨pl,hev⟩:=hm env
  refine MethodCall_ (pl:=pl) (wpAny_mono (ho A env N α s ρ _ hA hE hbs ha.in ed) (fun v s1 h1=>?_) fun _ _ y=>y) hev
  obtain⟨k₁,r₁⟩:=h1
  have:=jT r₁
  subst this
  have i1:=ha.in.keep k₁.heap
  have hb1:=aZ hbs k₁
  refine(i1.bk b d' ed').meth X M hb1 ?_
  refine callWith_of (P:=fun h=>∃o fd,h.get? f=some o∧o.data=.func fd) (by rw[hs [] env];rfl) pM ?_
  rw[hs [] env]
  refine evalArgs_plain (Calls.spliced_cons (wpAny_mono (he A env N α s1 ρ y hA hE hb1 i1 ey) (fun v s2 h2=>?_) fun _ _ x=>x))
  have k₂:=k₁.trans h2.1
  refine spliced_none ⟨let ⟨o,fd,e,q⟩:=hf.1;⟨o,fd,aZ hbs k₂ _ _ e,q⟩,?_⟩
  exact hf.call hj hA hE hb ha hF hP k₂ (.cons (.ref b) (.one (h2.2.rp hcl))) er
 .cases hρ
noncomputable def e8(Ψ:aa->List D->Option String)(mo me:aa->Option D):aa->Option String:=fun ρ=>(mo ρ).bind fun d=>match d with | .ref b=>(ρ (ag b)).bind fun _=>(me ρ).bind fun y=>if y.clean then Ψ ρ [.ref b,y] else none | _=>none
theorem XE.meth(X:BkC G K C){j:Nat}{name:String}{f:Addr}{o e:Expr}{apos pos:Pos}{Ψ:aa->List D->Option String}{mo me:aa->Option D}(M:iu K C (Str.ofString name) f)(hf:XFnB G j f Ψ)(hj:j≤k)
  (hm:jL o (Str.ofString name) apos [e] pos) (hs:a9 e) (ho:SE G k sc o mo) (he:SE G k sc e me):XE G k sc (.Call (.Attribute o (Str.ofString name) apos) [e] [] pos) (e8 Ψ mo me):=by
 intro A env N α s ρ c l B hA hE hb hi hfr hB hff hρ
 refine ao hρ fun dd ed hρ=>?_
 split at hρ
 .rename_i b
  refine ao hρ fun d' ed' hρ=>?_
  refine ao hρ fun y ey hρ=>?_
  split at hρ
  case isFalse=>cases hρ
  rename_i hcl
  obtain⟨pl,hev⟩:=hm env
  refine MethodCall_ (pl:=pl) (wpAny_mono (ho A env N α s ρ _ hA hE hb hi ed) (fun v s1 h1=>?_) fun _ _ y=>y.elim) hev
  obtain⟨k₁,r₁⟩:=h1
  have:=jT r₁
  subst this
  have i1:=hi.keep k₁.heap
  have hb1:=aZ hb k₁
  refine(i1.bk b d' ed').meth X M hb1 ?_
  refine callWith_of (P:=fun h=>∃o fd,h.get? f=some o∧o.data=.func fd) (by rw[hs [] env];rfl) pM ?_
  rw[hs [] env]
  refine evalArgs_plain (Calls.spliced_cons (wpAny_mono (he A env N α s1 ρ y hA hE hb1 i1 ey) (fun v s2 h2=>?_) fun _ _ x=>x.elim))
  have k₂:=k₁.trans h2.1
  have i2:=hi.keep k₂.heap
  refine spliced_none ⟨let ⟨o,fd,e,q⟩:=hf.1;⟨o,fd,aZ hb k₂ _ _ e,q⟩,?_⟩
  exact wpAny_mono (hf.2 A (Nu N α) s2 _ [.ref b,y] ρ c (env :: l) B (hA.mono hj) (aZ hb k₂) i2.low (.cons (.ref b) (.one (h2.2.rp hcl))) i2.bk hfr (fun b o e=>k₂.heap b o (hB b o e)) (ng hff k₂.heap) hρ) (fun _ _ q=>q.elim) fun _ _ y=>y.after k₂.up k₂.st
 .cases hρ
end
end Mine
end
section
namespace Mine
open PySem PyProof.Rows PySem.W PySem.Calls Builtin Builtin.ObjectAttr
theorem yW{h:Heap}{dx:Addr}{o o':Obj}{f:Obj->Obj}(e:h.get? dx=some o)(hf:f o=o')(hn:o'.isFreed=false):(h.update dx f).get? dx=some o':=by
 refine(Heap.get?_update_self _ e ?_).trans (by rw[hf])
 rw[hf];exact hn
theorem tI{name:Str}{hs:Int}{key v:Value}:∀ {es:List DictEntry},(putL name hs key v es).length≤es.length+1
 | []=>by simp[putL]
 | e :: r=>by
  have:=tI (name:=name) (hs:=hs) (key:=key) (v:=v) (es:=r)
  unfold putL
  split <;> simp
  omega
section
variable {prog:Program} {w:World} {A:Around} {K:Frag} {C x dx:Addr} {s:Shared} {R:Result->Shared->Prop} {v:Value}
theorem tJ{od:Obj}{es:List DictEntry}{n:Nat}{tk:Tok}(X:K.In s.heap)(I:InstAt s.heap x (mS C dx) C (some od))(hp:plainOver K C=true)(ht:takerIn K C (Str.ofString "held")=some none)(hh:(clsIn K C).any (·.hasDict)=true)
  (ho:od=dictOf es n) (hl:(lookIn (Str.ofString "held") od).isSome=true) (hz:es.length≤999)
  (h:∀h' hs tk',h'.get? dx=some (dictOf (putL (Str.ofString "held") hs (.str (Str.ofString "held") tk') v es) (putN (Str.ofString "held") es n))->(∀b,b≠dx->h'.get? b=s.heap.get? b)->R (.ok (.ret .none)) { s with heap:=h',toks:=s.toks+1 }):
  codeAny (model prog w) A (.call (.builtin "object.__setattr__") ⟨[.ref x,.str (Str.ofString "held") tk,v],[]⟩) R s:=by
 refine osa_open X I hp ht fun b=>?_
 obtain⟨cd,hc,hd'⟩:=any_some hh
 have D:s.heap.get? dx=some od:=I.dict
 have hx:=I.at_
 refine wpAny_bind (wpAny_pure (wpAny_bind (wpAny_bind (wpAny_loadPart hx (wpAny_bind ((looks_clsIn X hc).here ?_))))))
 rw[hd']
 refine wpAny_pure (a:=some dx) (wpAny_bind (wpAny_pure (wpAny_bind ?_)))
 unfold nsSet
 refine wpAny_bind (wpAny_bind (wpAny_askSetting (wpAny_pure (wpAny_bind (wpAny_mkText (wpAny_bind (wpAny_loadPart D ?_)))))))
 have hl':=hl
 unfold lookIn at hl
 split at hl
 .rename_i es0 n0 q
  rw[q]
  dsimp only
  have c:(!es0.any (·.key.isStr (Str.ofString "held"))&&es0.any (·.refKey))=false:=by
   rw[← Array.any_toList,← Array.any_toList]
   split at hl
   .rename_i en he
    rw[List.any_eq_true.mpr ⟨en,List.mem_of_find?_eq_some he,List.find?_some he⟩];rfl
   .split at hl
    .cases hl
    .rename_i z;rw[Bool.not_eq_true] at z;rw[z,Bool.and_false]
  rw[aRefKeyMayBeTheName_at,c]
  refine wpAny_updatePart D ?_
  have D':=yW (f:=Obj.putName (Str.ofString "held") (if (Str.ofString "held").cps.isEmpty=true then 0 else reduceHash ((model prog w).w.params.strHash (Str.ofString "held").cps)) (Value.str (Str.ofString "held") s.toks) v) D (by rw[ho,putName_dict]) rfl
  have len:(putL (Str.ofString "held") (if (Str.ofString "held").cps.isEmpty=true then 0 else reduceHash ((model prog w).w.params.strHash (Str.ofString "held").cps)) (Value.str (Str.ofString "held") s.toks) v es).length≤1000:=Nat.le_trans tI (by omega)
  refine wpAny_bind (wpAny_lookBehind D' (pastItsLine_dict (by rw[List.size_toArray,sizeLine_eq];omega)) ?_)
  exact wpAny_pure (h _ _ _ D' fun b hb=>Heap.get?_update_ne _ _ _ _ hb)
 .cases hl
end
end Mine
end
section
namespace Mine
open PySem PyProof.Rows PySem.W PySem.Calls
theorem yX{hs hs':Int}{tk:Tok}{key v v':Value}:putL (Str.ofString "held") hs' key v' [⟨hs,.str (Str.ofString "held") tk,v⟩]=[⟨hs,.str (Str.ofString "held") tk,v'⟩]:=by
 simp[putL,Value.isStr]
theorem BkC.taker{G:ap}{K:Frag}{C:Addr}(X:BkC G K C):takerIn K C (Str.ofString "held")=some none:=by
 unfold takerIn
 rw[X.held]
 rfl
noncomputable def lJ(mo me:aa->Option D):aa->Option Ob:=fun ρ=>(me ρ).bind fun d=>if d.clean then(mo ρ).bind fun o=>(match o with | .ref b=>(ρ (ag b)).map fun _=>.next (ah ρ (ag b) d) | _=>none) else none
theorem yY{h:Heap}{dx:Addr}{hs:Int}{tk:Tok}{v:Value}{n:Nat}(e:h.get? dx=some (gV hs tk v n))(us:List Value)(j:Nat):h.get? dx≠some (aJ us j)∧h.get? dx≠some (a8 us j):=by
 constructor <;> (intro q;rw[e] at q;have:=congrArg Obj.data (Option.some.inj q);cases this)
section
variable {G:ap} {k:Nat} {sc:Scope} {K:Frag} {C:Addr}
theorem B1.setHeld(X:BkC G K C){x:Str}{p pos' pos:Pos}{e:Expr}{mo me:aa->Option D}(hsw:∀env,swapsWith e (some (.Attribute (.Name x p) (Str.ofString "held") pos')) pos.line env=pure false)(ho:SE G k sc (.Name x p) mo)(he:SE G k sc e me):
  B1 G k sc (.Assign [.Attribute (.Name x p) (Str.ofString "held") pos'] e pos) (lJ mo me):=by
 intro A env N α s₀ s ρ o l hA hE hb ha hF hP hρ
 refine ao hρ fun d ed hρ=>?_
 split at hρ
 case isFalse=>cases hρ
 rename_i hcl
 refine ao hρ fun od eod hρ=>?_
 split at hρ
 .rename_i b
  obtain⟨d₀,ed0,rfl⟩:=Option.map_eq_some_iff.mp hρ
  have hbs:=ha.hk hb
  refine plainObj_wpAny_Assign_Attribute (wpAny_mono (he A env N α s ρ d hA hE hbs ha.in ed) (fun v s1 h1=>?_) fun _ _ x=>x) (hsw env)
  have hb1:=aZ hbs h1.1
  refine wpAny_mono (ho A env N α s1 ρ _ hA hE hb1 (ha.in.keep h1.1.heap) eod) (fun ov s2 h2=>?_) fun _ _ x=>x
  have:=jT h2.2
  subst this
  have k₂:=h1.1.trans h2.1
  have a2:=ha.keep k₂
  have hb2:=aZ hbs k₂
  have rv:Rp s2.heap (Nu N α) v d:=(h1.2.keep h2.1.heap).rp hcl
  obtain⟨B,hne⟩:=a2.bk b d₀ ed0
  obtain⟨dx,hs,tk,n,v0,eb,hbase,I,hdx,r₀⟩:=B.inst X
  have Xs:=X.in_.keeps hb2
  refine set_plain Xs I X.sa ?_
  refine tJ (s:={ s2 with toks:=s2.toks+1 }) Xs I X.over X.taker X.cd rfl (by rw[tH];rfl) (by simp) fun h' hs' tk' e1 e2=>?_
  rw[yX] at e1
  have nq:=yY hdx
  have kt:∀c us j,s2.heap.get? c=some (a8 us j)->h'.get? c=some (a8 us j):=fun c us j e=>(e2 c fun q=>(nq us j).2 (q ▸ e)).trans e
  have kl:∀c us j,s2.heap.get? c=some (aJ us j)->¬Nu N α c->h'.get? c=some (aJ us j)∧¬Nu N α c:=fun c us j e hn=>⟨(e2 c fun q=>(nq us j).1 (q ▸ e)).trans e,hn⟩
  have dne:∀e∈env :: l,dx≠e.locals:=fun e he q=>by
   rcases List.mem_cons.mp he with rfl | he
   .exact hne (by rw[eb,q])
   .exact hP e he d₀ (by rw[← q,← eb];exact ed0)
  have kd:Kd (env :: l) (Dk ρ) s2 { s2 with heap:=h',toks:=s2.toks+1+1 }:=by
   refine⟨⟨_,_,rfl⟩,fun c o e _ hn=>(e2 c fun q=>hn ⟨d₀,by rw[q,← eb];exact ed0⟩).trans e,fun c o e=>?_,fun e he m hm=>hm.at' fun o e'=>(e2 _ fun q=>dne e he q.symm).trans e'⟩
   by_cases q:c=dx
   .exact⟨_,q ▸ e1⟩
   .exact⟨o,(e2 c q).trans e⟩
  have sb:Sb ρ (ah ρ (ag b) d):=by
   refine⟨fun y hy=>?_,fun b'=>?_⟩
   .unfold ah
    rw[if_neg fun q=>by rw[q,dH] at hy;cases hy]
   .unfold ah
    by_cases q:ag b'=ag b
    .rw[if_pos q,iQ q]
     exact⟨fun _=>⟨d₀,ed0⟩,fun _=>⟨d,rfl⟩⟩
    .rw[if_neg q]
  have po:=PoB.of a2 hb hF kd sb fun b' d' e'=>by
   unfold ah at e'
   by_cases q:ag b'=ag b
   .rw[if_pos q] at e'
    cases e'
    have:=iQ q
    subst this
    refine⟨C,dx,hs,tk,_,v,eb,X.glob,hbase,(e2 _ fun q=>?_).trans I.at_,e1,rv.change kt kl⟩
    rw[eb] at q
    exact absurd q (Nat.succ_ne_self dx)
   .rw[if_neg q] at e'
    refine(a2.bk b' d' e').1.change kt kl (fun o e hp=>(e2 b' fun q'=>?_).trans e) fun dx' o eq e _=>(e2 dx' fun q'=>q (by rw[eq,q',← eb])).trans e
    rw[q',hdx] at e;cases e;cases hp
  have fm:=(Fm.kp k₂).b.trans (po.fm a2 hF)
  obtain⟨⟨s3,a,hb',kr⟩,_,sb'⟩:=po
  exact⟨rfl,sb'.dom,s3,α,a,hb',kr,fm⟩
 .cases hρ
end
noncomputable abbrev jf(so:Shared)(env:Env)(l:List Env):Heap:=hideAll so.heap ((env :: l).map (·.locals))
section
variable {G:ap} {A:Around} {env:Env} {N:Addr->Prop} {α:Str->Option Addr} {l:List Env} {s₀ so s:Shared} {ρ:aa}
theorem yZ(a:Act G s₀ env N α so ρ)(f:Fd G A env l s₀.heap)(h1:(jf so env l).StaysIn s.heap)(up:so.heap.UpToSlots s.heap)(st:∃h' tk,s={ so with heap:=h',toks:=tk }):Kd (env :: l) (Dk ρ) so s:=by
 have ns:∀e∈env :: l,∃m,so.heap.Ns e.locals m:=fun e he=>by
  rcases List.mem_cons.mp he with rfl | he
  .obtain⟨m,cm,i,_⟩:=a.ex;exact⟨m,i.toInCall.ns⟩
  .exact a.outs f e he
 have keep:∀c o,so.heap.get? c=some o->(∀e∈env :: l,c≠e.locals)->s.heap.get? c=some o:=fun c o e hn=>h1 c o (hideAll_get _ e fun q=>by
  obtain⟨e',he',q'⟩:=List.mem_map.mp q
  exact hn e' he' q'.symm)
 refine⟨st,fun c o e hn _=>keep c o e hn,fun c o e=>?_,fun e he m h=>up.ns h⟩
 by_cases q:∃e'∈env :: l,c=e'.locals
 .obtain⟨e',he',rfl⟩:=q
  obtain⟨m,h⟩:=ns e' he'
  obtain⟨o',_,_,ho',_⟩:=up.ns h
  exact⟨o',ho'⟩
 .exact⟨o,keep c o e fun e' he' q'=>q ⟨e',he',q'⟩⟩
theorem tK(a:Act G s₀ env N α so ρ)(hb:Hk G.base s₀.heap)(f:Fd G A env l s₀.heap)(hP:Apt l ρ)(h1:(jf so env l).StaysIn s.heap)(up:so.heap.UpToSlots s.heap)(st:∃h' tk,s={ so with heap:=h',toks:=tk }):PoB G env N α l s₀ so ρ ρ s:=by
 have kd:=yZ a f h1 up st
 have keep:∀c o,so.heap.get? c=some o->(∀e∈env :: l,c≠e.locals)->s.heap.get? c=some o:=fun c o e hn=>h1 c o (hideAll_get _ e fun q=>by
  obtain⟨e',he',q'⟩:=List.mem_map.mp q
  exact hn e' he' q'.symm)
 have off:∀c o,so.heap.get? c=some o->(∀es n,o.data≠.dict es n)->∀e∈env :: l,c≠e.locals:=fun c o e hn e' he' q=>by
  obtain⟨m,ol,es,ep,hol,hdl,_⟩:∃m,so.heap.Ns e'.locals m:=by
   rcases List.mem_cons.mp he' with rfl | he
   .obtain⟨m,cm,i,_⟩:=a.ex;exact⟨m,i.toInCall.ns⟩
   .exact a.outs f e' he
  rw[← q,e] at hol;cases hol;exact hn _ _ hdl
 refine PoB.of a hb f kd (Sb.refl ρ) fun b d e=>?_
 obtain⟨B,hne⟩:=a.bk b d e
 refine B.change (fun c us j e=>keep c _ e (off c _ e fun _ _ q=>by cases q)) (fun c us j e hn=>⟨keep c _ e (off c _ e fun _ _ q=>by cases q),hn⟩) (fun o e' hp=>keep _ _ e' (off _ _ e' fun _ _ q=>by rw[hp] at q;cases q)) fun dx o q e' _=>keep _ _ e' fun e'' he q'=>?_
 rcases List.mem_cons.mp he with rfl | he
 .exact hne (by rw[q,q'])
 .exact hP e'' he d (by rw[← q',← q];exact e)
end
noncomputable def HB(G:ap)(sc:Scope)(C:Addr)(hs:List ExceptHandler)(m:aa->Option Ob):Prop:=
 ∀A env N α s₀ so s ρ o l e a0,AOk A 0->EOk sc env->Hk G.base s₀.heap->Act G s₀ env N α so ρ->Fd G A env l s₀.heap->Apt l ρ->Heap.FlyingW (jf so env l) (env :: l) e (.ref C) a0 s.heap->so.heap.UpToSlots s.heap->(∃h' tk,s={ so with heap:=h',toks:=tk })->m ρ=some o->
  wpAny (model G.prog G.w) A (handleBy (.ref e) env hs) (fun fl s'=>OutB G env N α l s₀ ρ so fl s' o) aQ s
section
variable {G:ap} {k:Nat} {sc:Scope}
theorem pN{A:Around}{env:Env}{N:Addr->Prop}{α:Str->Option Addr}{l:List Env}{s₀ so:Shared}{ρ:aa}(hb:Hk G.base s₀.heap)(a:Act G s₀ env N α so ρ)(f:Fd G A env l s₀.heap):G.base.StaysIn (jf so env l):=fun b o e=>hideAll_get _ (a.hk hb b o e) fun q=>by
 obtain⟨e',he',q'⟩:=List.mem_map.mp q
 rcases List.mem_cons.mp he' with rfl | he
 .rw[← q',f.new] at e;cases e
 .rw[← q',(f.out e' he).new] at e;cases e
theorem HB.skip{c n:String}{C C':Addr}{mro m':List Value}{p p3:Pos}{nm:Option Str}{body:List Stmt}{rest:List ExceptHandler}{m:aa->Option Ob}(hC:XCls G c C mro)(hC':XCls G n C' m')(hx:okGlob sc n=true)(hm:(Value.ref C :: mro).contains (.ref C')=false)(h:HB G sc C rest m):
  HB G sc C (.ExceptHandler (some (.Name (Str.ofString n) p)) nm body p3 :: rest) m:=by
 intro A env N α s₀ so s ρ o l e a0 hA hE hb ha hF hP hfl up st hρ
 have hbs:Hk G.base s.heap:=fun b o q=>hfl.1 b o (pN hb ha hF b o q)
 refine wpAny_handleBy_cons (codeAny_handlers_test (Calls.Name_function_global hE.kind' (by rw[hE.kindOf];exact cq hx) (Calls.loadGlobal_global (mg:=G.mg) (by rw[hE.globals];exact G.g.keeps hbs) hC'.bound ?_) (cr hx))) (by intro q;cases q)
 obtain⟨ob,hob,hcl⟩:=hfl.there
 have hh:=h A env N α s₀ so s ρ o l e a0 hA hE hb ha hF hP hfl up st hρ
 obtain⟨hp,g,d,tk,os⟩:=s
 refine pH hC hC' hbs hob hcl ?_
 rw[hm]
 exact hh
theorem HB.here{c n:String}{C C':Addr}{mro m':List Value}{p p3:Pos}{b0:Stmt}{body:List Stmt}{rest:List ExceptHandler}{m:aa->Option Ob}(hC:XCls G c C mro)(hC':XCls G n C' m')(hx:okGlob sc n=true)(hm:(Value.ref C :: mro).contains (.ref C')=true)(h:BS G 0 sc (b0 :: body) m):
  HB G sc C (.ExceptHandler (some (.Name (Str.ofString n) p)) none (b0 :: body) p3 :: rest) m:=by
 intro A env N α s₀ so s ρ o l e a0 hA hE hb ha hF hP hfl up st hρ
 have hbs:Hk G.base s.heap:=fun b o q=>hfl.1 b o (pN hb ha hF b o q)
 refine wpAny_handleBy_cons (codeAny_handlers_test (Calls.Name_function_global hE.kind' (by rw[hE.kindOf];exact cq hx) (Calls.loadGlobal_global (mg:=G.mg) (by rw[hE.globals];exact G.g.keeps hbs) hC'.bound ?_) (cr hx))) (by intro q;cases q)
 obtain⟨ob,hob,hcl⟩:=hfl.there
 obtain⟨hp,g,d,tk,os⟩:=s
 refine pH hC hC' hbs hob hcl ?_
 rw[hm]
 refine codeAny_handlers_suite (tz hfl fun h' hfl' up'=>?_)
 have st':∃h'' tk',({ heap:=h',gens:=g,drawn:=d,toks:=tk,os:=os }:Shared)={ so with heap:=h'',toks:=tk' }:=by
  obtain⟨h2,t2,e2⟩:=st
  cases e2
  exact⟨_,_,rfl⟩
 have po:=tK ha hb hF hP (s:={ heap:=h',gens:=g,drawn:=d,toks:=tk,os:=os }) hfl'.1 (up.trans up') st'
 have fm:=po.fm ha hF
 obtain⟨⟨s1,a,hb',kr⟩,kd,sb⟩:=po
 have hF':Fd G (A.mark (some (.ref e))) env l s1.heap:=let f:=hF.kd kr.toKd;⟨f.fr,f.own,f.new,f.out,f.ne⟩
 refine wpAny_mono (h (A.mark (some (.ref e))) env N α s1 _ ρ o l ⟨fun q=>absurd q (Nat.lt_irrefl 0),hA.2.1,hA.2.2⟩ hE hb' a hF' hP hρ) (fun fl s' q=>q.trans (fun _=>Iff.rfl) kr fm) fun _ _ x=>x.elim
noncomputable def gE(μ:aa->Option String)(mst:aa->Option Ob)(hd:String->Option (aa->Option Ob)):aa->Option Ob:=fun ρ=>match μ ρ with
 | some c=>(hd c).bind fun m=>m ρ
 | none=>mst ρ
theorem B1.try{st:Stmt}{e:Expr}{h0:ExceptHandler}{hs:List ExceptHandler}{pos:Pos}{μ:aa->Option String}{mst:aa->Option Ob}{hd:String->Option (aa->Option Ob)}(hx:XE G k sc e μ)(hst:B1 G k sc st mst)
  (hex:∀(A:Around) (env:Env) (s:Shared) (E:Value->Shared->Prop),EOk sc env->wpAny (model G.prog G.w) A (eval e env) (fun _ _=>False) E s->wpAny (model G.prog G.w) A (exec st env) (fun _ _=>False) E s)
  (pick:∀c m,hd c=some m->∃C mro,XCls G c C mro∧HB G sc C (h0 :: hs) m):B1 G k sc (.Try [st] (h0 :: hs) [] [] pos) (gE μ mst hd):=by
 intro A env N α s₀ s ρ o l hA hE hb ha hF hP hρ
 unfold gE at hρ
 cases hμ:μ ρ with
 | none=>
  rw[hμ] at hρ
  refine wpAny_Try_except (wpAny_execs_cons (wpAny_mono (hst A env N α s₀ s ρ o l hA hE hb ha hF hP hρ) (fun fl s' q=>?_) fun _ _ x=>x.elim))
  cases o with
  | next ρ'=>obtain⟨rfl,r⟩:=q;exact wpAny_execs_nil (wpAny_execs_nil ⟨rfl,r⟩)
  | ret d ρ'=>obtain⟨v,rfl,r⟩:=q;exact⟨v,rfl,r⟩
 | some c=>
  rw[hμ] at hρ
  refine ao hρ fun m hm hρ=>?_
  obtain⟨C,mro,hC,hO⟩:=pick c m hm
  have hbs:=ha.hk hb
  have ns:∀e∈env :: l,e.scope.kind=.function∧e.frame=some e.locals∧∃m,s.heap.Ns e.locals m:=fun e he=>by
   rcases List.mem_cons.mp he with rfl | he
   .obtain⟨m,cm,i,_⟩:=ha.ex;exact⟨hE.kind',hF.own,m,i.toInCall.ns⟩
   .exact⟨(hF.out e he).kind,(hF.out e he).frame,ha.outs hF e he⟩
  have h1:(jf s env l).StaysIn s.heap:=fun b o q=>of_hideAll _ q
  have ff:∀(ls:List Env),(∀e∈ls,e∈env :: l)->s.heap.FunFrames (jf s env l) ls:=fun ls=>by
   induction ls with
   | nil=>intro _;trivial
   | cons e' r ih=>
    intro hl
    obtain⟨hk,hf,m,ol,es,ep,hol,hdl,_⟩:=ns e' (hl e' (.head _))
    exact⟨by rw[hk];decide,⟨e'.locals,ol,hf,hideAll_none _ (List.mem_map_of_mem (hl e' (.head _))),hol,fun vs q=>by rw[hdl] at q;cases q⟩,ih fun x hx=>hl x (.tail _ hx)⟩
  refine wpAny_Try_except (wpAny_execs_cons (wpAny_mono (hex A env s _ hE (wpAny_mono (hx A env N α s ρ c l (jf s env l) hA hE hbs ha.in hF.fr h1 (ff _ fun _ q=>q) hμ) (fun _ _ q=>q.elim) fun _ _ y=>y)) (fun _ _ q=>q.elim) fun ev s1 y=>?_))
  obtain⟨⟨ea,C',a0,rfl,hm',hfl⟩,up,st1⟩:=y
  have e:some (Value.ref C)=some (Value.ref C'):=hC.bound.symm.trans hm'
  cases e
  refine wpAny_looks_onW hF.fr hF.own hfl fun h' hh u1=>wpAny_landsW hh fun h'' hf2 u2=>?_
  refine hO A env N α s₀ s _ ρ o l ea a0 ⟨fun q=>absurd q (Nat.lt_irrefl 0),by have:=hA.2.1;omega,by have:=hA.2.2;omega⟩ hE hb ha hF hP hf2 ((up.trans u1).trans u2) ?_ hρ
  obtain⟨h3,t3,e3⟩:=st1
  subst e3
  exact⟨_,_,rfl⟩
end
open Classical in
noncomputable def jg(v:String)(me:aa->Option D):aa->Option Ob:=fun ρ=>(me (ah ρ (Str.ofString v) (.ref 0))).bind fun d=>if d.clean=true∧∀e,me (ah ρ (Str.ofString v) (.ref e))=some d then some (.ret d ρ) else none
section
variable {G:ap} {k:Nat} {sc:Scope}
theorem HB.hereAs{c n v:String}{C C':Addr}{mro m':List Value}{p p1 p2 p3:Pos}{test ex:Expr}{b1:List Stmt}{rest:List ExceptHandler}{me:aa->Option D}(hC:XCls G c C mro)(hC':XCls G n C' m')(hx:okGlob sc n=true)(hm:(Value.ref C :: mro).contains (.ref C')=true)
  (hv:sc.names.lookup (Str.ofString v)=some .local) (hT:TE3 G sc (Str.ofString v) C test false) (h:SE G 0 sc ex me):
  HB G sc C (.ExceptHandler (some (.Name (Str.ofString n) p)) (some (Str.ofString v)) [.If test b1 [] p1,.Return (some ex) p2] p3 :: rest) (jg v me):=by
 intro A env N α s₀ so s ρ o l e a0 hA hE hb ha hF hP hfl up st hρ
 unfold jg at hρ
 refine ao hρ fun d ed hρ=>?_
 split at hρ
 case isFalse=>cases hρ
 rename_i hc
 obtain⟨hcl,hall⟩:=hc
 cases hρ
 have hbs:Hk G.base s.heap:=fun b o q=>hfl.1 b o (pN hb ha hF b o q)
 refine wpAny_handleBy_cons (codeAny_handlers_test (Calls.Name_function_global hE.kind' (by rw[hE.kindOf];exact cq hx) (Calls.loadGlobal_global (mg:=G.mg) (by rw[hE.globals];exact G.g.keeps hbs) hC'.bound ?_) (cr hx))) (by intro q;cases q)
 obtain⟨ob,hob,hclb⟩:=hfl.there
 obtain⟨hp,g,dr,tk,os⟩:=s
 refine pH hC hC' hbs hob hclb ?_
 rw[hm]
 have hkp:(env.scope.kind==.class||(env.scope.kind==.module&&env.locals != env.globals))=false:=by rw[hE.kind'];rfl
 have hkl:env.kindOf (Str.ofString v)=some .local:=by rw[hE.kindOf];exact hv
 refine codeAny_handlers_suite_as (tz hfl fun h' hfl' up'=>?_)
 have st':∃h'' tk',({ heap:=h',gens:=g,drawn:=dr,toks:=tk,os:=os }:Shared)={ so with heap:=h'',toks:=tk' }:=by
  obtain⟨h₂,t2,e2⟩:=st
  cases e2
  exact⟨_,_,rfl⟩
 have po:=tK ha hb hF hP (s:={ heap:=h',gens:=g,drawn:=dr,toks:=tk,os:=os }) hfl'.1 (up.trans up') st'
 obtain⟨⟨s1,a,hb',kr⟩,kd,sb⟩:=po
 refine a.store hE.kind' (.inl hkl) (.ref e) fun s2 a2 f2=>?_
 have hex:∃o,s2.heap.get? e=some o∧o.cls=.ref C:=by
  obtain⟨m,cm,i,_⟩:=a.ex
  have hne:=yO hfl' i.toInCall.ns
  obtain⟨_,_,_,oe,vs,_,_,_,he,hce,hdat,_⟩:=hfl'
  refine⟨oe,(f2 e oe he ⟨hne,fun x c hc q=>?_,fun x q=>?_⟩).1,hce.1⟩
  .obtain⟨oc,hoc,hdc⟩:=i.cell x c hc
   rw[← q] at hoc
   have:some oe=some oc:=he.symm.trans hoc
   cases this
   rw[hdat] at hdc;cases hdc
  .obtain⟨_,us,j,hl⟩:=a.fresh x e q
   have:some oe=some (aJ us j):=he.symm.trans hl
   cases this
   cases hdat
 have hbs2:Hk G.base s2.heap:=a2.hk hb'
 obtain⟨m,cm,i,hvv⟩:=a2.ex
 have hmv:m (Str.ofString v)=some (.ref e):=by
  obtain⟨v',h1,h2⟩:=hvv (Str.ofString v) (.ref e) (by unfold ah;rw[if_pos rfl]) gU
  unfold valOf at h1
  rw[hkl] at h1
  have:v'=.ref e:=jT h2.rt
  rw[this] at h1
  exact h1
 refine wpAny_execs_cons (wpAny_If (wpAny_mono (hT _ env s2 e m hE hbs2 i.toInCall.ns hmv hex) (fun b' s3 h3=>?_) fun _ _ q=>q.elim))
 obtain⟨rfl,k₃⟩:=h3
 refine wpAny_execs_nil ?_
 have a3:=a2.keep k₃
 refine wpAny_execs_cons (wpAny_Return_some (wpAny_mono (h _ env N _ s3 _ d ⟨fun q=>absurd q (Nat.lt_irrefl 0),hA.2.1,hA.2.2⟩ hE (a3.hk hb') a3.in (hall e)) (fun w s4 h4=>?_) fun _ _ q=>q.elim))
 have a4:=a3.keep h4.1
 obtain⟨m4,cm4,i₄,_⟩:=a4.ex
 refine wpAny_nameGoes hkl i₄.toInCall.ns hkp fun h5 m5 hn5 sb5=>?_
 have nL:=fy i₄.toInCall.ns
 have kp4:=a4.kp
 have rp:=(h4.2.rp hcl).weak (N':=N) fun _ q=>.inl q
 refine⟨w,rfl,fun _=>Iff.rfl,kr.toKd.trans ⟨?_,fun c o e' _ _=>(sb5.2 c (a.off e')).trans (kp4.heap c o e'),fun c o e'=>⟨o,(sb5.2 c (a.off e')).trans (kp4.heap c o e')⟩,fun e' he m hm=>?_⟩,⟨m5,hn5⟩,lr rp sb5.2 nL,fun b d' q=>?_⟩
 .obtain⟨h6,t6,e6⟩:=kp4.st
  rw[e6];exact⟨_,_,rfl⟩
 .exact(hm.keeps kp4.heap).at' fun o e''=>(sb5.2 _ (hF.ne e' he)).trans e''
 .have q':ah ρ (Str.ofString v) (.ref e) (ag b)=some d':=by rw[upd_bk];exact q
  obtain⟨B,hbl⟩:=a4.bk b d' q'
  refine(B.weak (N':=N) fun _ z=>.inl z).change (fun c us j e'=>(sb5.2 c fun z=>(nL us j).2 (z ▸ e')).trans e') (fun c us j e' hn=>⟨(sb5.2 c fun z=>(nL us j).1 (z ▸ e')).trans e',hn⟩) (fun o e' hp=>(sb5.2 b fun z=>?_).trans e') fun dx o z e' _=>(sb5.2 dx fun z'=>hbl (by rw[z,z'])).trans e'
  obtain⟨ol,es,ep,hol,hdl,_⟩:=i₄.toInCall.ns
  rw[z,hol] at e';cases e';rw[hdl] at hp;cases hp
end
structure NewBk (G:ap) (s s':Shared) (b:Addr):Prop where
 kp:Kp s s'
 new:s.heap.get? b=none
 newd:∀dx,b=dx+1->s.heap.get? dx=none
 at_:∀N,Lo N s.heap->BookAt G s'.heap N b (.list [])
structure jU (G:ap) (K:Frag) (C fI:Addr) (sI:Scope) (bI:List Stmt):Prop where
 makes:makesIn K C=true
 keep:keepIn K (.ref C)=true
 find:findIn K (.ref C) "__init__"=some (some (.ref fI))
 fn:typeIn K (.ref fI)=some (.type "function")
 def_:∃o fd,G.base.get? fI=some o∧o.data=.func fd∧fd.body=.stmts bI∧fd.closure=[]∧fd.globals=mainGlobals∧fd.builtins=builtinsNs∧G.base.CodeRec fd.code fd.qualname∧(∀vals:List Value,vals.length=1->bindArgs fd ⟨vals,[]⟩=pure ([Str.ofString "self"].zip vals))∧fd.scope=sI
 body:∃p pos' pos lp,bI=[.Assign [.Attribute (.Name (Str.ofString "self") p) (Str.ofString "held") pos'] (.List [] lp) pos]
 sc:m8 sI "self"=true∧okStore sI (Str.ofString "self")=true∧sI.names.all (fun p=>p.2 != .free && !aU p.1)=true∧sI.isCoroutine=false∧sI.isGenerator=false∧sI.kind=.function
theorem AOk.tc{A:Around}{k:Nat}{C:Addr}(h:AOk A (k+1))(hu:A.units+1+64*(k+4) < 9900):AOk (A.under (.builtin "type.__call__" ⟨[.ref C],[]⟩)) k:=by
 refine⟨fun q=>h.1 (Nat.succ_pos k),?_,?_⟩
 .have:=h.2.1
  have w:(Code.builtin "type.__call__" ⟨[.ref C],[]⟩).weight=1:=by kernel_rfl
  show A.depth+(Code.builtin "type.__call__" ⟨[.ref C],[]⟩).weight+k < 1000
  omega
 .first | exact hu | simpa [Around.under,Code.cUnits,Code.frames,Code.isFrame] using hu
section
variable {G:ap} {K:Frag} {C fI:Addr} {sI:Scope} {bI:List Stmt}
theorem za(X:BkC G K C)(Y:jU G K C fI sI bI){A:Around}{s:Shared}(hA:AOk A 2)(hb:Hk G.base s.heap):
  wpAny (model G.prog G.w) A (call (.ref C) []) (fun v s'=>∃b,v=.ref b∧NewBk G s s' b) aQ s:=by
 have Xs:=X.in_.keeps hb
 obtain⟨o,fd,ho,hd,hbody,hclo,hgl,hbi,hcd,hbind,hsc⟩:=Y.def_
 obtain⟨p,pos',pos,lp,rfl⟩:=Y.body
 obtain⟨c1,c2,c3,c4,c5,c6⟩:=Y.sc
 obtain⟨hp,g,dr,tk,os⟩:=s
 refine wpAny_call (make_core (makes_of Xs Y.makes) (looks_findIn Xs Y.find) (fun self=>bind_fn Xs self Y.fn) (.inl rfl) ?_)
 have k0:∀b o,hp.get? b=some o->((hp.push emptyDict).push (instObj C hp.objs.size)).get? b=some o:=fun b o e=>Heap.get?_push_of_some _ (Heap.get?_push_of_some _ e)
 have hx:((hp.push emptyDict).push (instObj C hp.objs.size)).get? (hp.objs.size+1)=some (instObj C hp.objs.size):=by heap_get
 have hdx:((hp.push emptyDict).push (instObj C hp.objs.size)).get? hp.objs.size=some emptyDict:=by heap_get
 have hb0:Hk G.base ((hp.push emptyDict).push (instObj C hp.objs.size)):=fun b o e=>k0 b o (hb b o e)
 have hA':AOk (A.under (.builtin "type.__call__" ⟨[.ref C],[]⟩)) 1:=AOk.tc hA (by have:=hA.2.2;omega)
 have ra:Rps ((hp.push emptyDict).push (instObj C hp.objs.size)) (fun _=>False) [.ref (hp.objs.size+1)] [.ref (hp.objs.size+1)]:=.one (.ref _)
 refine codeAny_call_cells (fd:=fd) (binds:=[Str.ofString "self"].zip [.ref (hp.objs.size+1)]) (Nat.lt_of_le_of_lt (Nat.le_add_right _ _) hA'.2.1) (hb0 _ _ ho) hd (G.nolimit.keeps hb0) (hcd.keeps hb0) hbody (hbind _ rfl) hclo (fun x hx=>?_) (fun s1 XX=>?_) (by rw[hsc];exact c4) (by rw[hsc];exact c5) (by rw[hsc];exact c6)
 .have hm:x.1∈[Str.ofString "self"]:=(List.of_mem_zip hx).1
  rw[List.mem_singleton] at hm
  rw[hm,hsc]
  have:=c2
  unfold okStore at this
  split at this
  .rename_i q;exact .inl q
  .rename_i q;exact .inr ⟨q,fX _ _ _ (.inl q)⟩
  .cases this
 .have hE:EOk fd.scope (callEnvC fd ((hp.push emptyDict).push (instObj C hp.objs.size)).objs.size fI):=⟨rfl,by rw[hsc];exact c6,hgl,hbi⟩
  have a:=pG (G:=G) (names:=[Str.ofString "self"]) hE (by simp) (fun x hx=>by rw[List.mem_singleton] at hx;rw[hx,hsc];exact c2) (by rw[hsc];exact c3) (fun _ q=>q.elim) ra rfl XX
  have hd':AOk ((A.under (.builtin "type.__call__" ⟨[.ref C],[]⟩)).deeper (callEnvC fd ((hp.push emptyDict).push (instObj C hp.objs.size)).objs.size fI)) 0:=hA'.deeper
  have nS:SE G 0 fd.scope (.Name (Str.ofString "self") p) (eV "self"):=rV (by rw[hsc];exact c1)
  have lS:SF G 0 fd.scope (.List [] lp) (bB ak):=SF.list SEs.nil (by simp)
  refine wpAny_execs_cons (plainObj_wpAny_Assign_Attribute (wpAny_mono (lS _ _ _ _ s1 _ [] hd' hE (a.hk hb0) a.in rfl) (fun v s2 h2=>?_) fun _ _ q=>q.elim) rfl)
  obtain⟨k₂,al,vs,n,rfl,hn,hal,rl⟩:=h2
  refine wpAny_mono (nS _ _ _ _ s2 _ (.ref (hp.objs.size+1)) hd' hE ((a.keep k₂).hk hb0) (a.keep k₂).in ?_) (fun ov s3 h3=>?_) fun _ _ q=>q.elim
  .show bK [Str.ofString "self"] [.ref (hp.objs.size+1)] (Str.ofString "self")=_
   simp[bK]
  have:=jT h3.2
  subst this
  have kk:=(a.kp.trans k₂).trans h3.1
  have X3:=X.in_.keeps fun b o e=>kk.heap b o (hb0 b o e)
  have I:InstAt s3.heap (hp.objs.size+1) (mS C hp.objs.size) C (some (dictOf [] 0)):=⟨kk.heap _ _ hx,rfl,rfl,kk.heap _ _ hdx⟩
  refine set_plain X3 I X.sa ?_
  refine tJ (s:={ s3 with toks:=s3.toks+1 }) (es:=[]) (n:=0) X3 I X.over X.taker X.cd rfl (by simp[lookIn]) (by simp) fun h' hs' tk' e1 e2=>?_
  refine wpAny_execs_nil ⟨rfl,hp.objs.size+1,rfl,⟨?_,?_,?_,?_⟩⟩
  .obtain⟨h6,t6,e6,_⟩:=kk
   refine⟨h',s3.toks+1+1,?_,fun b o e=>(e2 b fun q=>?_).trans (h3.1.heap b o (k₂.heap b o (a.kp.heap b o (k0 b o e))))⟩
   .rw[e6]
   .rw[q,b4] at e;cases e
  .cases q:hp.get? (hp.objs.size+1) with
   | none=>rfl
   | some o=>exact absurd (Heap.lt_size q) (Nat.not_lt.mpr (Nat.le_succ _))
  .intro dx q
   have:dx=hp.objs.size:=(Nat.add_right_cancel q).symm
   rw[this];exact b4 _
  .intro N lo
   have hal3:=h3.1.heap _ _ hal
   have ne:al≠hp.objs.size:=fun q=>by
    have:=a.kp.heap _ _ hdx
    rw[q,this] at hn;cases hn
   refine⟨C,hp.objs.size,hs',tk',1,.ref al,rfl,X.glob,?_,(e2 _ (Nat.succ_ne_self _)).trans (kk.heap _ _ hx),e1,.list ((e2 _ ne).trans hal3) (fun q=>?_) ?_⟩
   .cases q:G.base.get? hp.objs.size with
    | none=>rfl
    | some o=>have:=hb _ _ q;rw[b4] at this;cases this
   .obtain⟨o,ho⟩:=lo _ q
    have:=a.kp.heap _ _ (k0 _ _ ho)
    rw[this] at hn;cases hn
   .cases rl;exact .nil
end
section
variable {G:ap} {K:Frag} {C fI:Addr} {sI:Scope} {bI:List Stmt} {k:Nat} {sc:Scope}
theorem pO(X:BkC G K C)(Y:jU G K C fI sI bI){p pos:Pos}(hx:okGlob sc "Book"=true){A:Around}{env:Env}{s:Shared}(hA:AOk A 2)(hE:EOk sc env)(hb:Hk G.base s.heap):
  wpAny (model G.prog G.w) A (eval (.Call (.Name (Str.ofString "Book") p) [] [] pos) env) (fun v s'=>∃b,v=.ref b∧NewBk G s s' b) aQ s:=by
 refine Call_ (Calls.Name_function_global hE.kind' (by rw[hE.kindOf];exact cq hx) (Calls.loadGlobal_global (mg:=G.mg) (by rw[hE.globals];exact G.g.keeps hb) X.glob ?_) (cr hx))
 exact callWith_of (P:=K.In) rfl (keeps_K Y.keep) (evalArgs_nil3 ⟨X.in_.keeps hb,za X Y hA hb⟩)
theorem Act.book{env:Env}{N:Addr->Prop}{α:Str->Option Addr}{s₀ s:Shared}{ρ:aa}{b:Addr}{d:D}(a:Act G s₀ env N α s ρ)(B:BookAt G s.heap (Nu N α) b d)(hne:b≠env.locals+1):Act G s₀ env N α s (ah ρ (ag b) d):=by
 obtain⟨m,cm,i,hv⟩:=a.ex
 refine⟨⟨m,cm,i,fun x d' e hy=>hv x d' ?_ hy⟩,a.lowN,a.fresh,a.inj,a.cells,fun b' d' e=>?_,a.nb⟩
 .unfold ah at e
  rwa [if_neg fun q=>by rw[q,dH] at hy;cases hy] at e
 .unfold ah at e
  by_cases q:ag b'=ag b
  .rw[if_pos q] at e;cases e
   rw[iQ q];exact⟨B,hne⟩
  .rw[if_neg q] at e;exact a.bk b' d' e
theorem NewBk.ne{env:Env}{N:Addr->Prop}{α:Str->Option Addr}{s₀ s s':Shared}{ρ:aa}{b:Addr}(n:NewBk G s s' b)(a:Act G s₀ env N α s ρ):b≠env.locals+1:=fun q=>by
 obtain⟨m,cm,i,_⟩:=a.ex
 obtain⟨o,_,_,ho,_⟩:=i.toInCall.ns
 have:=n.newd env.locals q
 rw[this] at ho;cases ho
theorem NewBk.act{env:Env}{N:Addr->Prop}{α:Str->Option Addr}{s₀ s s':Shared}{ρ:aa}{b:Addr}(n:NewBk G s s' b)(a:Act G s₀ env N α s ρ):Act G s₀ env N α s' (ah ρ (ag b) (.list [])):=
 (a.keep n.kp).book (n.at_ _ a.in.low) (n.ne a)
noncomputable def BT(G:ap)(k:Nat)(sc:Scope)(sts:List Stmt)(R:aa->D->Prop):Prop:=
 ∀A env N α s₀ s ρ d,AOk A k->EOk sc env->Fd G A env [] s₀.heap->Hk G.base s₀.heap->Act G s₀ env N α s ρ->R ρ d->
  wpAny (model G.prog G.w) A (execs sts env) (fun fl s'=>∃v,fl=.ret v∧Kp s₀ s'∧Rp s'.heap N v d) aQ s
theorem tL{D:Addr->Prop}{s s':Shared}(k:Kd [] D s s')(h:∀c,D c->s.heap.get? c=none):Kp s s':=by
 obtain⟨h',tk,e⟩:=k.st
 subst e
 exact⟨h',tk,rfl,fun b o e=>k.keep b o e (fun _ q=>nomatch q) fun q=>by rw[h b q] at e;cases e⟩
noncomputable def jh(ρ:aa)(b0 b1:Addr):aa:=ah (ah ρ (ag b0) (.list [])) (ag b1) (.list [])
noncomputable def lK(ρ:aa):Prop:=∀b d,ρ (ag b)≠some d
theorem BT.two(X:BkC G K C)(Y:jU G K C fI sI bI){x:String}{p p0 p1 q0 q1 lp pos:Pos}{rest:List Stmt}{ms:aa->Option Ob}(hk:2≤k)(hg:okGlob sc "Book"=true)(hx:okStore sc (Str.ofString x)=true)(hs:iV (.List [.Call (.Name (Str.ofString "Book") p0) [] [] q0,.Call (.Name (Str.ofString "Book") p1) [] [] q1] lp))(h:BS G k sc rest ms):
  BT G k sc (.Assign [.Name (Str.ofString x) p] (.List [.Call (.Name (Str.ofString "Book") p0) [] [] q0,.Call (.Name (Str.ofString "Book") p1) [] [] q1] lp) pos :: rest)
   (fun ρ d=>lK ρ∧∀b0 b1,b0≠b1->∃ ρ',ms (ah (jh ρ b0 b1) (Str.ofString x) (.list [.ref b0,.ref b1]))=some (.ret d ρ')):=by
 intro A env N α s₀ s ρ d hA hE hF hb ha hR
 obtain⟨hno,hR⟩:=hR
 refine wpAny_execs_cons (wpAny_Assign_Name (List_ (args_cons (wpAny_mono (pO X Y hg (hA.mono hk) hE (ha.hk hb)) (fun v s1 h₁=>?_) fun _ _ z=>z) rfl)) (hs _ p pos.line env))
 obtain⟨b0,rfl,n0⟩:=h₁
 have a1:=n0.act ha
 refine args_cons (wpAny_mono (pO X Y hg (hA.mono hk) hE (a1.hk hb)) (fun v s2 h2=>?_) fun _ _ z=>z) rfl
 obtain⟨b1,rfl,n1⟩:=h2
 have a2:=n1.act a1
 have b01:b0≠b1:=fun q=>by
  obtain⟨C',dx,_,_,_,_,_,_,_,h1,_⟩:=(n0.at_ (fun _=>False) fun _ z=>z.elim).ex
  have:=n1.new
  rw[← q,h1] at this;cases this
 refine args_nil (wpAny_newObj_type ?_ (by show 2≤sizeLine;rw[sizeLine_eq];decide))
 have kp:Kp s2 { s2 with heap:=s2.heap.push (aJ [.ref b0,.ref b1] 0) }:=Kp.push s2 _
 have a3:=a2.keep kp
 have rp:Rp ({ s2 with heap:=s2.heap.push (aJ [.ref b0,.ref b1] 0) }:Shared).heap (Nu N α) (.ref s2.heap.objs.size) (.list [.ref b0,.ref b1]):=
  .list (n:=0) (Heap.get?_push_size _ rfl) (a2.in.low.fresh (b4 _)) (.cons (.ref b0) (.one (.ref b1)))
 refine a3.store hE.kind' (okStore.ok hE hx) rp fun s4 a4 f4=>?_
 obtain⟨ρ',e'⟩:=hR b0 b1 b01
 have key:∀c d',ah (jh ρ b0 b1) (Str.ofString x) (.list [.ref b0,.ref b1]) (ag (c+1))=some d'->s₀.heap.get? c=none:=fun c d' q=>by
  rw[upd_bk] at q
  unfold jh ah at q
  by_cases q1:ag (c+1)=ag b1
  .have:=n1.newd c (iQ q1).symm
   exact(ha.kp.trans n0.kp).gone this
  .rw[if_neg q1] at q
   by_cases q0:ag (c+1)=ag b0
   .exact ha.kp.gone (n0.newd c (iQ q0).symm)
   .rw[if_neg q0] at q;exact absurd q (hno _ _)
 refine wpAny_mono (h A env N _ s₀ s4 _ _ [] hA hE hb a4 hF (fun e he=>nomatch he) e') (fun fl s' q=>?_) fun _ _ z=>z
 obtain⟨v,rfl,_,kd,_,r,_⟩:=q
 exact⟨v,rfl,tL kd fun c ⟨d',q⟩=>key c d' q,r⟩
theorem BT.one(X:BkC G K C)(Y:jU G K C fI sI bI){j:Nat}{f:Addr}{x:String}{p p0 q0 pos pos':Pos}{e1 e2:Expr}{m1 m2:aa->Option D}{Φ:aa->List D->Option (D × aa)}(hk:2≤k)(hg:okGlob sc "Book"=true)(hf:FnB G j f Φ)(hj:j≤k)(hx:okGlob sc x=true)(hm:G.mg (Str.ofString x)=some (.ref f))
  (hs1:a9 e1) (hs2:a9 e2) (h1:SE G k sc e1 m1) (h2:SE G k sc e2 m2):
  BT G k sc [.Return (some (.Call (.Name (Str.ofString x) p) [.Call (.Name (Str.ofString "Book") p0) [] [] q0,e1,e2] [] pos)) pos']
   (fun ρ d=>lK ρ∧d.clean=true∧∃d1 d2,d1.clean=true∧d2.clean=true∧∀b,m1 (ah ρ (ag b) (.list []))=some d1∧m2 (ah ρ (ag b) (.list []))=some d2∧∃ ρ',Φ (ah ρ (ag b) (.list [])) [.ref b,d1,d2]=some (d,ρ')):=by
 intro A env N α s₀ s ρ d hA hE hF hb ha hR
 obtain⟨hno,hc,d1,d2,c1,c2,hR⟩:=hR
 obtain⟨o,fd,ho,hdat⟩:=hf.1
 have hbs:=ha.hk hb
 refine wpAny_execs_cons (wpAny_Return_some (Call_ (Calls.Name_function_global hE.kind' (by rw[hE.kindOf];exact cq hx) (Calls.loadGlobal_global (mg:=G.mg) (by rw[hE.globals];exact G.g.keeps hbs) hm ?_) (cr hx))))
 refine callWith_def hdat (args_cons (wpAny_mono (pO X Y hg (hA.mono hk) hE hbs) (fun v s1 h₁=>?_) fun _ _ z=>z) rfl) rfl
 obtain⟨b,rfl,n0⟩:=h₁
 have a1:=n0.act ha
 obtain⟨r1,r2,ρ',r3⟩:=hR b
 refine args_cons (wpAny_mono (h1 A env N α s1 _ d1 hA hE (a1.hk hb) a1.in r1) (fun v1 s2 h₂=>?_) fun _ _ z=>z) (hs1 _ env)
 have a2:=a1.keep h₂.1
 refine args_cons (wpAny_mono (h2 A env N α s2 _ d2 hA hE (a2.hk hb) a2.in r2) (fun v2 s3 h3=>?_) fun _ _ z=>z) (hs2 _ env)
 have k₃:=h₂.1.trans h3.1
 refine args_nil ⟨(a1.keep k₃).hk hb _ _ ho,?_⟩
 have P:Apt [] (ah ρ (ag b) (.list [])):=fun e he=>nomatch he
 refine wpAny_mono (hf.call hj hA hE hb a1 hF P k₃ (.cons (.ref b) (.cons ((h₂.2.rp c1).keep h3.1.heap) (.one (h3.2.rp c2)))) r3) (fun v s' q=>?_) fun _ _ z=>z
 obtain⟨⟨⟨s4,a4,_,kr⟩,_,_⟩,rt⟩:=q
 refine⟨v,rfl,(tL kr.toKd fun c ⟨d',q⟩=>?_).trans a4.kp,(rt.rp hc).weak fun _ z=>.inl z⟩
 unfold ah at q
 by_cases q0:ag (c+1)=ag b
 .exact ha.kp.gone (n0.newd c (iQ q0).symm)
 .rw[if_neg q0] at q;exact absurd q (hno _ _)
theorem BT.ite{test:Expr}{body:List Stmt}{pos:Pos}{rest:List Stmt}{c:aa->Option Bool}{R1 R2:aa->D->Prop}(ht:ST G k sc test c)(h1:BT G k sc body R1)(h2:BT G k sc rest R2):
  BT G k sc (.If test body [] pos :: rest) (fun ρ d=>(c ρ=some true∧R1 ρ d)∨(c ρ=some false∧R2 ρ d)):=by
 intro A env N α s₀ s ρ d hA hE hF hb ha hR
 rcases hR with ⟨hc,hR⟩ | ⟨hc,hR⟩
 .refine wpAny_execs_cons (wpAny_If (wpAny_mono (ht A env N α s ρ true hA hE (ha.hk hb) ha.in hc) (fun b' s1 q=>?_) fun _ _ z=>z))
  obtain⟨rfl,kp⟩:=q
  refine wpAny_mono (h1 A env N α s₀ s1 ρ d hA hE hF hb (ha.keep kp) hR) (fun fl s' q=>?_) fun _ _ z=>z
  obtain⟨v,rfl,q⟩:=q
  exact⟨v,rfl,q⟩
 .refine wpAny_execs_cons (wpAny_If (wpAny_mono (ht A env N α s ρ false hA hE (ha.hk hb) ha.in hc) (fun b' s1 q=>?_) fun _ _ z=>z))
  obtain⟨rfl,kp⟩:=q
  exact wpAny_execs_nil (h2 A env N α s₀ s1 ρ d hA hE hF hb (ha.keep kp) hR)
end
noncomputable def lL(lo:aa->Option (List D))(m:aa->Option D):aa->Option Out:=fun ρ=>(lo ρ).bind fun l=>(m ρ).bind fun _=>if l.length < 16777216 then some (.next ρ) else none
section
variable {G:ap} {k:Nat} {sc:Scope}
theorem S1.appT{o e:Expr}{apos pos pos':Pos}{lo:aa->Option (List D)}{m:aa->Option D}(hf:jL o (Str.ofString "append") apos [e] pos)(hs:a9 e)
  (hsw:∀env,swapsWith (.Call (.Attribute o (Str.ofString "append") apos) [e] [] pos) none pos'.line env=pure false) (ho:SF G k sc o lo) (h:SE G k sc e m):
  S1 G k sc (.Expr (.Call (.Attribute o (Str.ofString "append") apos) [e] [] pos) pos') (lL lo m):=by
 intro A env N α s₀ s ρ oo hA hE hb ha hρ
 refine ao hρ fun l el hρ=>?_
 refine ao hρ fun d ed hρ=>?_
 split at hρ
 .cases hρ
  rename_i hc
  obtain⟨pl,he⟩:=hf env
  refine wpAny_Expr_any (MethodCall_ (pl:=pl) (wpAny_mono (ho A env N α s ρ l hA hE (ha.hk hb) ha.in el) (fun v s1 h1=>?_) fun _ _ x=>x) he) (lu env hE) (hsw env)
  obtain⟨k₁,a,vs,n,rfl,hn,hl,r⟩:=h1
  refine getMethod_builtin (T:="list") ⟨_,hl,rfl⟩ PySem.F.plainAttrs_list slot_list_append rfl (fun b q=>by cases q;exact⟨_,hl,rfl⟩) ?_
  have a1:=ha.keep k₁
  refine callWith_method1 (args_cons (wpAny_mono (h A env N α s1 ρ d hA hE (a1.hk hb) a1.in ed) (fun v s2 h2=>args_nil ?_) fun _ _ x=>x) (hs [] env)) (hs [] env) rfl
  obtain⟨k₂,rt⟩:=h2
  refine wpAny_list_append_plain (items:=vs.toArray) ⟨n,k₂.heap _ _ hl⟩ (fun h' hl' hs'=>?_) (by simp;rw[r.length,sizeLine_eq];omega)
  have kp:Kp s { s2 with heap:=h' }:=by
   obtain⟨h6,t6,e6,k6⟩:=k₁.trans k₂
   subst e6
   exact⟨h',t6,rfl,fun b o e=>(hs'.2 b fun q=>by rw[q,hn] at e;cases e).trans (k6 b o e)⟩
  exact⟨rfl,α,ha.keep kp,Fm.kp kp⟩
 .cases hρ
theorem ct{x:String}{m:aa->Option D}:NB (aR x m):=fun ρ ρ' e b=>by
 refine ao e fun d _ e=>?_
 split at e
 .cases e;exact upd_bk
 .cases e
theorem pP{x:String}{m:aa->Option (List D)}:NB (dz x m):=fun ρ ρ' e b=>by
 refine ao e fun d _ e=>?_
 cases e;exact upd_bk
theorem zb{x:String}{m:aa->Option (List D)}:NB (f9 x m):=fun ρ ρ' e b=>by
 refine ao e fun d _ e=>?_
 cases e;exact upd_bk
theorem tM{x:String}{m:aa->Option D}:NB (i5 x m):=fun ρ ρ' e b=>by
 refine ao e fun d _ e=>?_
 split at e
 .split at e
  .cases e;exact upd_bk
  .cases e
 .cases e
theorem zc{x:String}{mi me:aa->Option D}:NB (fF x mi me):=fun ρ ρ' e b=>by
 refine ao e fun d _ e=>?_
 refine ao e fun j _ e=>?_
 split at e
 .split at e
  .cases e;exact upd_bk
  .cases e
 .cases e
theorem zd{lo:aa->Option (List D)}{m:aa->Option D}:NB (lL lo m):=fun ρ ρ' e b=>by
 refine ao e fun d _ e=>?_
 refine ao e fun j _ e=>?_
 split at e
 .cases e;rfl
 .cases e
end
noncomputable def nt:aa->Option Ob:=fun _=>none
section
variable {G:ap} {k:Nat} {sc:Scope}
theorem B1.no{st:Stmt}:B1 G k sc st nt:=by intro A env N α s₀ s ρ o l hA hE hb ha hF hP hρ;cases hρ
theorem cB{j:Nat}{x:String}{f:Addr}{e:Expr}{rest:List Expr}{p pos:Pos}{Φ:aa->List D->Option (D × aa)}{ms:aa->Option (List D)}(hf:FnB G j f Φ)(hg:G.mg (Str.ofString x)=some (.ref f))(hj:j≤k)(hx:okGlob sc x=true)(hs:a9 e)(h:SEs G k sc (e :: rest) ms):
  SEb G k sc (.Call (.Name (Str.ofString x) p) (e :: rest) [] pos) (cf Φ ms):=SEb.call hf hj (cq hx) (cr hx) hg hs h
theorem cF{j:Nat}{x:String}{f:Addr}{e:Expr}{rest:List Expr}{p pos:Pos}{Φ:List D->Option (List D)}{ms:aa->Option (List D)}(hf:FnF G j f Φ)(hg:G.mg (Str.ofString x)=some (.ref f))(hj:j≤k)(hx:okGlob sc x=true)(hs:a9 e)(h:SEs G k sc (e :: rest) ms):
  SF G k sc (.Call (.Name (Str.ofString x) p) (e :: rest) [] pos) (ir Φ ms):=SF.call hf hj (cq hx) (cr hx) hg hs h
end
noncomputable def pQ(G:ap)(k:Nat)(name:String)(Φ:List D->Option (List D)):Prop:=∃a,G.mg (Str.ofString name)=some (.ref a)∧FnF G k a Φ
noncomputable def lM(G:ap)(k:Nat)(name:String)(Φ:aa->List D->Option (D × aa)):Prop:=∃a,G.mg (Str.ofString name)=some (.ref a)∧FnB G k a Φ
section
variable {q:Program} {loose:List Str} {mean:ExcName->Option Value} {mg mb:Str->Option Value} {h:Heap} (T:Top q loose mean mg mb h) {prog:Program} {w:World} {k:Nat} {name:String} {names:List String} (i:Nat) {d:DefRec} (hi:(recsOf q)[i]? = some d) (hnm:d.name=Str.ofString name)
  (hbind:∀(pm code doc:Value) (vals:List Value),vals.length=(ay names).length->bindArgs (docDef d.name d.params d.body d.scope pm code doc) ⟨vals,[]⟩=pure ((ay names).zip vals))
  (hnd:(ay names).Nodup) (hsc:fH d.scope (ay names)=true)
include hi hnm hbind hnd hsc
theorem tO{m:aa->Option Out}(hs:SS ⟨prog,w,h,mg,mb,T.g,T.b,T.nolimit⟩ k d.scope d.body m):pQ ⟨prog,w,h,mg,mb,T.g,T.b,T.nolimit⟩ (k+1) name (ja (ay names) m):=by
 obtain⟨a,o,pm,code,doc,h1,h2,h3,h4⟩:=T.fn d (List.mem_of_getElem? hi)
 simp only[fH,Bool.and_eq_true,Bool.not_eq_true'] at hsc
 refine⟨a,hnm ▸ h1,FnF.of (fd:=docDef d.name d.params d.body d.scope pm code doc) h2 h3 rfl rfl rfl rfl h4 (hbind pm code doc) hnd (fun x hx=>List.all_eq_true.mp hsc.1.1.1.1 x hx) hsc.1.1.1.2 hsc.1.1.2 hsc.1.2 ?_ hs⟩
 have:=hsc.2
 show d.scope.kind=.function
 split at this
 .assumption
 .cases this
theorem nu{m:aa->Option Ob}(hs:BS ⟨prog,w,h,mg,mb,T.g,T.b,T.nolimit⟩ k d.scope d.body m):lM ⟨prog,w,h,mg,mb,T.g,T.b,T.nolimit⟩ (k+1) name (fJ (ay names) m):=by
 obtain⟨a,o,pm,code,doc,h1,h2,h3,h4⟩:=T.fn d (List.mem_of_getElem? hi)
 simp only[fH,Bool.and_eq_true,Bool.not_eq_true'] at hsc
 refine⟨a,hnm ▸ h1,FnB.of (fd:=docDef d.name d.params d.body d.scope pm code doc) h2 h3 rfl rfl rfl rfl h4 (hbind pm code doc) hnd (fun x hx=>List.all_eq_true.mp hsc.1.1.1.1 x hx) hsc.1.1.1.2 hsc.1.1.2 hsc.1.2 ?_ hs⟩
 have:=hsc.2
 show d.scope.kind=.function
 split at this
 .assumption
 .cases this
end
theorem tP{h:Heap}{N:Addr->Prop}{v:Value}{x:Str}(r:Rt h N v (.str x)):∃t,v=.str x t:=by
 cases r with
 | clean r=>cases r;exact⟨_,rfl⟩
noncomputable def eM:D->D->Option D
 | .str x,.str y=>if x.length+y.length≤16777216 then some (.str (x++y)) else none
 | _,_=>none
section
variable {G:ap} {k:Nat} {sc:Scope}
theorem tQ(a b d:D)(h:eM a b=some d):gW G k .Add a b d:=by
 intro A N s va vb hA hb lo ra rb
 unfold eM at h
 split at h
 .split at h
  .rename_i hz
   cases h;obtain⟨t,rfl⟩:=tP ra;obtain⟨u,rfl⟩:=tP rb
   exact PySem.SB.add (fun t' k=>⟨Kp.toks s _,.clean (.str _ _)⟩) (by rw[sizeLine_eq];exact hz)
  .cases h
 .cases h
theorem jV[NeZero k]{target iter:Expr}{t:Tg}{body:List Stmt}{pos:Pos}{mi:aa->Option (List D)}{mb:aa->Option Ob}(ht:bV target=some t)(ho:(t.names.all fun x=>okStore sc x)=true)(hfs:∀env x,foldedSetIterable iter env x=pure x)
  (hi:SI G k sc true target iter mi) (hbd:BS G k sc body mb):B1 G k sc (.For target iter body [] pos) (eK t mi mb):=B1.for ht (fun x hx=>List.all_eq_true.mp ho x hx) hfs hi hbd
theorem pR{e:Expr}{pos:Pos}(hs:∀env,swapsWith e none pos.line env=pure false):∀(A:Around) (env:Env) (s:Shared) (E:Value->Shared->Prop),EOk sc env->wpAny (model G.prog G.w) A (eval e env) (fun _ _=>False) E s->wpAny (model G.prog G.w) A (exec (.Expr e pos) env) (fun _ _=>False) E s:=
 fun A env s E hE h=>wpAny_Expr_any (wpAny_mono h (fun _ _ q=>q.elim) fun _ _ y=>y) (lu env hE) (hs env)
theorem ze{e:Expr}{x:Str}{p pos:Pos}(hs:iV e):∀(A:Around) (env:Env) (s:Shared) (E:Value->Shared->Prop),EOk sc env->wpAny (model G.prog G.w) A (eval e env) (fun _ _=>False) E s->wpAny (model G.prog G.w) A (exec (.Assign [.Name x p] e pos) env) (fun _ _=>False) E s:=
 fun A env s E hE h=>wpAny_Assign_Name (wpAny_mono h (fun _ _ q=>q.elim) fun _ _ y=>y) (hs x p pos.line env)
end
section
variable {G:ap} {k:Nat} {sc:Scope}
theorem tR{a b:Expr}{p:Pos}{m n:aa->Option D}(hs:∀o i,subscripted b false o i=operate [o,i] (getItem o i))(hv:SE G k sc a m)(hi:SE G k sc b n):SE G k sc (.Subscript a b p) (aq m n):=SE.sub hs hv hi
theorem nv{es:List Expr}{kd:Nat}{p:Pos}:a9 (.Tuple es kd p):=fun _ _=>rfl
theorem zf{es:List Expr}{p:Pos}:a9 (.List es p):=fun _ _=>rfl
theorem fK{c:Const}{kd:Nat}{p:Pos}:a9 (.Constant c kd p):=fun _ _=>rfl
theorem tS{a b c:Int}{k1 k2 k3 kd:Nat}{p1 p2 p3 p:Pos}:SE G k sc (.Tuple [.Constant (.int a) k1 p1,.Constant (.int b) k2 p2,.Constant (.int c) k3 p3] kd p) (aS (ae (eI a) (ae (eI b) (ae (eI c) ak)))):=
 SE.tuple (SEs.cons fK SE.cInt (SEs.cons fK SE.cInt (SEs.cons fK SE.cInt SEs.nil))) (by simp)
theorem zg{a b:Int}{k1 k2 kd:Nat}{p1 p2 p:Pos}:SE G k sc (.Tuple [.Constant (.int a) k1 p1,.Constant (.int b) k2 p2] kd p) (aS (ae (eI a) (ae (eI b) ak))):=
 SE.tuple (SEs.cons fK SE.cInt (SEs.cons fK SE.cInt SEs.nil)) (by simp)
theorem zi{a:Bool}{b c:Int}{k1 k2 k3 kd:Nat}{p1 p2 p3 p:Pos}:SE G k sc (.Tuple [.Constant (.bool a) k1 p1,.Constant (.int b) k2 p2,.Constant (.int c) k3 p3] kd p) (aS (ae (eB a) (ae (eI b) (ae (eI c) ak)))):=
 SE.tuple (SEs.cons fK SE.cBool (SEs.cons fK SE.cInt (SEs.cons fK SE.cInt SEs.nil))) (by simp)
theorem zj{a b c:Int}{k1 k2 k3:Nat}{p1 p2 p3 p:Pos}:SE G k sc (.List [.Constant (.int a) k1 p1,.Constant (.int b) k2 p2,.Constant (.int c) k3 p3] p) (eL (bB (ae (eI a) (ae (eI b) (ae (eI c) ak))))):=
 (SF.list (SEs.cons fK SE.cInt (SEs.cons fK SE.cInt (SEs.cons fK SE.cInt SEs.nil))) (by simp)).se
theorem q6{e1 e2 e3 e4 e5 e6:Expr}{m1 m2 m3 m4 m5 m6:aa->Option D}{p:Pos}(s1:a9 e1)(s2:a9 e2)(s3:a9 e3)(s4:a9 e4)(s5:a9 e5)(s6:a9 e6)(h1:SE G k sc e1 m1)(h2:SE G k sc e2 m2)(h3:SE G k sc e3 m3)(h4:SE G k sc e4 m4)(h5:SE G k sc e5 m5)(h6:SE G k sc e6 m6):
  SE G k sc (.List [e1,e2,e3,e4,e5,e6] p) (eL (bB (ae m1 (ae m2 (ae m3 (ae m4 (ae m5 (ae m6 ak)))))))):=
 (SF.list (SEs.cons s1 h1 (SEs.cons s2 h2 (SEs.cons s3 h3 (SEs.cons s4 h4 (SEs.cons s5 h5 (SEs.cons s6 h6 SEs.nil)))))) (by simp)).se
theorem tT{k1 k2 k3 k4 k5 k6 k7 k8 k9 k10 k11 k12 k13 k14 k15 k16 k17 k18 k19:Nat}{p1 p2 p3 p4 p5 p6 p7 p8 p9 p10 p11 p12 p13 p14 p15 p16 p17 p18 p19 p20 p21:Pos}:
  SE G k sc (.List [.Tuple [.Constant (.int 0) k1 p1,.Constant (.int 0) k2 p2,.Constant (.int 4) k3 p3] k4 p4,.Tuple [.Constant (.int 3) k5 p5,.Constant (.int 1) k6 p6,.Constant (.int 3) k7 p7] k8 p8,.Tuple [.Constant (.int 2) k9 p9,.Constant (.int 1) k10 p10] k11 p11,.Tuple [.Constant (.bool true) k12 p12,.Constant (.int 1) k13 p13,.Constant (.int 5) k14 p14] k15 p15,.List [.Constant (.int 0) k16 p16,.Constant (.int 1) k17 p17,.Constant (.int 40) k18 p18] p19,.Constant .none k19 p20] p21)
   (eL (bB (ae (aS (ae (eI 0) (ae (eI 0) (ae (eI 4) ak)))) (ae (aS (ae (eI 3) (ae (eI 1) (ae (eI 3) ak)))) (ae (aS (ae (eI 2) (ae (eI 1) ak))) (ae (aS (ae (eB true) (ae (eI 1) (ae (eI 5) ak)))) (ae (eL (bB (ae (eI 0) (ae (eI 1) (ae (eI 40) ak))))) (ae eN ak)))))))):=
 @q6 G k sc _ _ _ _ _ _ _ _ _ _ _ _ p21 (@nv _ _ _) (@nv _ _ _) (@nv _ _ _) (@nv _ _ _) (@zf _ _) (@fK _ _ _) (@tS G k sc 0 0 4 k1 k2 k3 k4 p1 p2 p3 p4) (@tS G k sc 3 1 3 k5 k6 k7 k8 p5 p6 p7 p8) (@zg G k sc 2 1 k9 k10 k11 p9 p10 p11) (@zi G k sc true 1 5 k12 k13 k14 k15 p12 p13 p14 p15) (@zj G k sc 0 1 40 k16 k17 k18 p16 p17 p18 p19) (@SE.cNone G k sc k19 p20)
end
noncomputable def jW(names:List Str)(ds:List D):aa:=dm (fun _=>none) names ds
theorem zk{names:List Str}{ds:List D}:lK (jW names ds):=fun b d q=>by
 unfold jW at q;rw[entB_key] at q;cases q
noncomputable def FnU(G:ap)(k:Nat)(f:Addr)(R:List D->D->Prop):Prop:=
 ∀A N s vals ds r,AOk A k->A.frames=some []->Hk G.base s.heap->Lo N s.heap->Rps s.heap N vals ds->R ds r->
  wpAny (model G.prog G.w) A (call (.ref f) vals) (fun v s'=>Kp s s'∧Rp s'.heap N v r) aQ s
noncomputable def pS(names:List Str)(R:aa->D->Prop):List D->D->Prop:=fun ds r=>ds.length=names.length∧R (jW names ds) r
section
variable {G:ap} {k:Nat} {sc:Scope}
theorem FnU.of{f:Addr}{o:Obj}{fd:FuncData}{names:List Str}{body:List Stmt}{R:aa->D->Prop}(ho:G.base.get? f=some o)(hd:o.data=.func fd)(hbody:fd.body=.stmts body)(hclo:fd.closure=[])
  (hgl:fd.globals=mainGlobals) (hbi:fd.builtins=builtinsNs) (hcd:G.base.CodeRec fd.code fd.qualname)
  (hbind:∀vals:List Value,vals.length=names.length->bindArgs fd ⟨vals,[]⟩=pure (names.zip vals)) (hnd:names.Nodup) (hkind:∀x∈names,okStore fd.scope x=true) (hfree:fd.scope.names.all (fun p=>p.2 != .free && !aU p.1)=true)
  (hco:fd.scope.isCoroutine=false) (hgen:fd.scope.isGenerator=false) (hk:fd.scope.kind=.function) (h:BT G k fd.scope body R):FnU G (k+1) f (pS names R):=by
 intro A N s vals ds r hA hfr hb lo ra e
 obtain⟨hlen,e⟩:=e
 have hvl:vals.length=names.length:=ra.length.trans hlen
 refine wpAny_call (codeAny_call_cells (Nat.lt_of_le_of_lt (Nat.le_add_right _ _) hA.2.1) (hb _ _ ho) hd (G.nolimit.keeps hb) (hcd.keeps hb) hbody (hbind vals hvl) hclo (fun x hx=>?_) (fun s1 X=>?_) hco hgen hk)
 .have hm:x.1∈names:=(List.of_mem_zip hx).1
  have:=hkind _ hm
  unfold okStore at this
  split at this
  .rename_i q;exact .inl q
  .rename_i q;exact .inr ⟨q,fX _ _ _ (.inl q)⟩
  .cases this
 .have hE:EOk fd.scope (callEnvC fd s.heap.objs.size f):=⟨rfl,hk,hgl,hbi⟩
  have a:=nk (G:=G) (ρ:=fun _=>none) hE hnd hkind hfree lo ra hlen (fun b d q=>by cases q) X
  have gs:s.heap.get? s.heap.objs.size=none:=b4 _
  have hF:Fd G (A.deeper (callEnvC fd s.heap.objs.size f)) (callEnvC fd s.heap.objs.size f) [] s.heap:=by
   refine⟨by show A.frames.map _=_;rw[hfr];rfl,rfl,?_,(fun e he=>nomatch he),fun e he=>nomatch he⟩
   cases hq:G.base.get? (callEnvC fd s.heap.objs.size f).locals with
   | none=>rfl
   | some ob=>have:=hb _ _ hq;rw[show s.heap.get? (callEnvC fd s.heap.objs.size f).locals=none from gs] at this;cases this
  refine wpAny_mono (h _ _ N _ s s1 _ r hA.deeper hE hF hb a e) (fun fl s' h'=>?_) fun _ _ x=>x.elim
  obtain⟨v,rfl,kp,rp⟩:=h'
  exact⟨kp,rp⟩
end
noncomputable def tU(G:ap)(k:Nat)(name:String)(R:List D->D->Prop):Prop:=∃a,G.mg (Str.ofString name)=some (.ref a)∧FnU G k a R
section
variable {q:Program} {loose:List Str} {mean:ExcName->Option Value} {mg mb:Str->Option Value} {h:Heap} (T:Top q loose mean mg mb h) {prog:Program} {w:World} {k:Nat} {name:String} {names:List String} (i:Nat) {d:DefRec} (hi:(recsOf q)[i]? = some d) (hnm:d.name=Str.ofString name)
  (hbind:∀(pm code doc:Value) (vals:List Value),vals.length=(ay names).length->bindArgs (docDef d.name d.params d.body d.scope pm code doc) ⟨vals,[]⟩=pure ((ay names).zip vals))
  (hnd:(ay names).Nodup) (hsc:fH d.scope (ay names)=true)
include hi hnm hbind hnd hsc
theorem zl{R:aa->D->Prop}(hs:BT ⟨prog,w,h,mg,mb,T.g,T.b,T.nolimit⟩ k d.scope d.body R):tU ⟨prog,w,h,mg,mb,T.g,T.b,T.nolimit⟩ (k+1) name (pS (ay names) R):=by
 obtain⟨a,o,pm,code,doc,h1,h2,h3,h4⟩:=T.fn d (List.mem_of_getElem? hi)
 simp only[fH,Bool.and_eq_true,Bool.not_eq_true'] at hsc
 refine⟨a,hnm ▸ h1,FnU.of (fd:=docDef d.name d.params d.body d.scope pm code doc) h2 h3 rfl rfl rfl rfl h4 (hbind pm code doc) hnd (fun x hx=>List.all_eq_true.mp hsc.1.1.1.1 x hx) hsc.1.1.1.2 hsc.1.1.2 hsc.1.2 ?_ hs⟩
 have:=hsc.2
 show d.scope.kind=.function
 split at this
 .assumption
 .cases this
end
theorem zm{l:OpenLaw}(hm:l.most=some 63)(hb:l.bound=none){q:Program}{loose:List Str}{XP:(Str->Option Value)->Heap->Prop}{YP:World->Heap->Prop}{d:DefRec}{kwd:List (Str × PySem.Expr)}
  (H:∀(w:World) (mean:ExcName->Option Value) (h:Heap) (mg mb:Str->Option Value) (T:Top q (looseW q loose) mean mg mb h) (a:Addr),YP w h->mg d.name=some (.ref a)->∃k R,k≤40∧FnU ⟨l.prog,w,h,mg,mb,T.g,T.b,T.nolimit⟩ k a R∧∀ns:List Int,ns.length≤63->R [.list (ns.map .int)] (.bool true)):
  WalkO q loose XP YP l.row.toRowW d kwd fun f vs=>PySem.call f vs:=by
 intro w s₀ s1 mg mb Gr Y a o pm cd doc dV kV ho hd hcd hD hmg hg args vals as hpre hlay hrd hwl hlo
 obtain⟨k,Φ,hk,hf,hΦ⟩:=H w _ s1.heap mg mb Gr.T a Y hmg
 have hsh:=(pre_splitW hpre).1
 have hcond:=(pre_splitW hpre).2
 obtain⟨x,r,rfl,hx,hr⟩:=hasAllW_cons hsh
 obtain rfl:=hasAllW_nil hr
 obtain⟨xs,rfl,hxs⟩:=hasW_list hx
 obtain⟨ns,rfl⟩:=ye _ hxs
 have hlen:ns.length≤63:=by
  have:l.row.toRowW.pre=l.pre:=rfl
  rw[this] at hcond
  unfold OpenLaw.pre at hcond
  rw[hm,hb] at hcond
  have h1:=(holds_andW hcond).1
  have h2:=condW_of h1 (w_not (w_lt w_lit (w_len_list (w_arg rfl))))
  simp at h2
  omega
 cases hwl with
 | cons wl wr=>
  cases wr
  cases wl with
  | @list b vs _ hl wa=>
   have rp:Rps s1.heap (fun _=>False) [.ref b] [.list (ns.map .int)]:=.one (.list (n:=0) hl (fun q=>q) (yf _ wa))
   have hA:AOk callerA k:=⟨fun _=>rfl,by show 1+claimMargin+k < 1000;unfold claimMargin;omega,by show 4+64*(k+4) < 9900;omega⟩
   refine wpAny_mono (hf callerA (fun _=>False) s1 _ _ _ hA rfl (fun _ _ e=>e) (fun _ q=>q.elim) rp (hΦ ns hlen)) (fun v s' h'=>?_) fun _ _ x=>x.elim
   obtain⟨k',r'⟩:=h'
   cases r'
   refine GoodW.toG ⟨.inl ⟨_,.bool true,[],rfl,fun cls=>?_,.bool true,?_,fun _=>⟨.nil,fun _ h=>(nomatch h)⟩⟩,k'.heap,?_,?_⟩
   .rfl
   .exact postW_of rfl (w_eq_bool (w_res rfl) w_lit) rfl
   .obtain⟨h',tk,rfl,_⟩:=k';rfl
   .obtain⟨h',tk,rfl,_⟩:=k';exact hg
noncomputable def lN(x:String)(m:aa->Option Ob):aa->Option Ob:=fun ρ=>match ρ (Str.ofString x) with | some (.own l)=>m (ah ρ (Str.ofString x) (.list l)) | _=>none
section
variable {G:ap} {k:Nat} {sc:Scope}
theorem Act.frz{env:Env}{N:Addr->Prop}{α:Str->Option Addr}{s₀ s:Shared}{ρ:aa}{x:String}{l:List D}(a:Act G s₀ env N α s ρ)(e:ρ (Str.ofString x)=some (.own l)):Act G s₀ env N (drop α (Str.ofString x)) s (ah ρ (Str.ofString x) (.list l)):=by
 obtain⟨m,cm,i,hv⟩:=a.ex
 have sub:∀c,Nu N (drop α (Str.ofString x)) c->Nu N α c:=fun c q=>q.imp id fun⟨z,e⟩=>⟨z,fA e⟩
 refine⟨⟨m,cm,i,fun y d hy hyk=>?_⟩,a.lowN,fun y b e=>a.fresh y b (fA e),fun y z b e1 e2=>a.inj y z b (fA e1) (fA e2),a.cells,fun b d hb=>?_,a.nb⟩
 .unfold ah at hy
  by_cases q:y=Str.ofString x
  .subst q
   rw[if_pos rfl] at hy;cases hy
   obtain⟨v,h1,h2⟩:=hv _ _ e hyk
   cases h2 with
   | clean r=>cases r
   | own ea hl r=>
    refine⟨_,h1,.clean (.list hl (fun q=>?_) (r.weak sub))⟩
    rcases q with q | ⟨z,q⟩
    .have:=(a.fresh _ _ ea).1
     exact a.lowN.fresh this q
    .have hz:=a.inj _ _ _ (fA q) ea
     rw[hz] at q
     unfold drop at q
     rw[if_pos rfl] at q;cases q
  .rw[if_neg q] at hy
   obtain⟨v,h1,h2⟩:=hv y d hy hyk
   exact⟨v,h1,h2.drop q⟩
 .rw[upd_bk] at hb
  obtain⟨B,hl⟩:=a.bk b d hb
  exact⟨B.weak sub,hl⟩
theorem B1.frz{st:Stmt}{x:String}{m:aa->Option Ob}(h:B1 G k sc st m):B1 G k sc st (lN x m):=by
 intro A env N α s₀ s ρ o l hA hE hb ha hF hP hρ
 unfold lN at hρ
 split at hρ
 .rename_i us e
  refine wpAny_mono (h A env N _ s₀ s _ o l hA hE hb (ha.frz e) hF (fun e he d q=>hP e he d (by rw[upd_bk] at q;exact q)) hρ) (fun fl s' q=>q.trans (fun b=>by rw[upd_bk]) (Kr.refl _ _ _) fun b o e _ f=>⟨e,f.1,f.2.1,fun y q=>f.2.2 y (fA q)⟩) fun _ _ x=>x
 .cases hρ
end
end Mine
end
section
namespace Mine
open PySem PyProof.Rows PySem.W
noncomputable def ev{α:Type}(c:Nat->Nat->Bool):KasT α->α
 | .ret a=>a
 | .ask i j k=>ev c (k (c i j))
noncomputable def Aq(n:Nat){α:Type}(Q:α->Prop):KasT α->Prop
 | .ret a=>Q a
 | .ask i j k=>i < n∧j < n∧∀b,Aq n Q (k b)
theorem Aq.bind{n:Nat}{α β:Type}{Q:α->Prop}{R:β->Prop}{f:α->KasT β}(h:∀a,Q a->Aq n R (f a)):∀t:KasT α,Aq n Q t->Aq n R (t.bind f)
 | .ret a,q=>h a q
 | .ask i j k,q=>⟨q.1,q.2.1,fun b=>Aq.bind h (k b) (q.2.2 b)⟩
theorem tV{n:Nat}{α:Type}{P:α->Prop}{cmp:Nat->Nat->(Bool->Shared->Prop)->Shared->Prop}{c:Nat->Nat->Bool}{s:Shared}(h:∀i j,i < n->j < n->∀(C:Bool->Shared->Prop),C (c i j) s->cmp i j C s){Q:α->Shared->Prop}:∀t:KasT α,Aq n P t->Q (ev c t) s->t.kasWp cmp Q s
 | .ret _,_,q=>q
 | .ask i j k,a,q=>h i j a.1 a.2.1 _ (tV h (k (c i j)) (a.2.2 _) q)
theorem Aq.ev{n:Nat}{α:Type}{P:α->Prop}{c:Nat->Nat->Bool}:∀t:KasT α,Aq n P t->P (Mine.ev c t)
 | .ret _,q=>q
 | .ask i j k,a=>Aq.ev (k (c i j)) (a.2.2 _)
noncomputable def Al(n:Nat)(p:Array Nat):Prop:=p.Perm (List.toArray (List.range n))
theorem Al.lt{n:Nat}{p:Array Nat}(h:Al n p){x:Nat}(hx:x∈p.toList):x < n:=by
 have h1:p.toList.Perm (List.range n):=by simpa using Array.perm_iff_toList_perm.mp h
 simpa using h1.mem_iff.mp hx
theorem Al.pt{n:Nat}{p:Array Nat}(h:Al n p)(hn:0 < n)(k:Nat):p.getD k 0 < n:=by
 rw[Array.getD_eq_getD_getElem?]
 cases e:p[k]? with
 | none=>simpa using hn
 | some x=>exact h.lt (by simpa using Array.mem_of_getElem? e)
theorem Al.perm{n:Nat}{p q:Array Nat}(h:Al n p)(k:q.Perm p):Al n q:=k.trans h
section
variable {n:Nat} (hn:0 < n)
include hn
theorem pT{p:Array Nat}(h:Al n p):∀f m,Aq n (fun _=>True) (kas_asc p f m)
 | 0,m=>trivial
 | f+1,m=>⟨h.pt hn _,h.pt hn _,fun b=>by
  cases b with
  | true=>exact trivial
  | false=>exact pT h f (m+1)⟩
theorem nw:∀f (p:Array Nat) m q,Al n p->Aq n (fun r=>Al n r.1) (kas_desc f p m q)
 | 0,p,m,q,h=>h
 | f+1,p,m,q,h=>⟨h.pt hn _,h.pt hn _,fun b=>by
  cases b with
  | true=>
   simp only[if_true]
   split
   .exact nw f _ _ _ (h.perm (mirror_perm _ _ _ _))
   .exact nw f _ _ _ h
  | false=>
   simp only[Bool.false_eq_true,if_false]
   exact⟨h.pt hn _,h.pt hn _,fun b=>by
    cases b with
    | true=>exact h
    | false=>exact nw f _ _ _ h⟩⟩
theorem tW{p:Array Nat}(h:Al n p)(m r:Nat):Aq n (fun r=>Al n r.2) (kas_tail3 m r p):=by
 unfold kas_tail3
 refine Aq.bind (Q:=fun _=>True) (fun a _=>?_) _ (pT hn (h.perm (mirror_perm _ _ _ _)) _ _)
 show Al n (kas_rev p 0 m)
 exact h.perm (mirror_perm _ _ _ _)
theorem tX{p:Array Nat}(h:Al n p)(m r:Nat):Aq n (fun r=>Al n r.2) (kas_descPart m r p):=by
 unfold kas_descPart
 refine Aq.bind (fun a ha=>?_) _ (nw hn _ _ _ _ h)
 split
 .exact tW hn (ha.perm (mirror_perm _ _ _ _)) _ _
 .exact tW hn ha _ _
theorem zn{p:Array Nat}(h:Al n p)(r:Nat):Aq n (fun r=>Al n r.2) (kas_count r p):=by
 unfold kas_count
 refine Aq.bind (fun a _=>?_) _ (pT hn h _ _)
 split
 .exact h
 .split
  .exact⟨h.pt hn _,h.pt hn _,fun b=>by
    cases b with
    | true=>exact h
    | false=>exact tX hn (h.perm (mirror_perm _ _ _ _)) _ _⟩
  .exact tX hn h _ _
theorem pU{p:Array Nat}{k:Nat}(h:Al n p):∀f l r,Aq n (fun _=>True) (kas_place p k f l r)
 | 0,l,r=>trivial
 | f+1,l,r=>by
  unfold kas_place
  split
  .exact trivial
  .exact⟨h.pt hn _,h.pt hn _,fun b=>by
    cases b with
    | true=>exact pU h f _ _
    | false=>exact pU h f _ _⟩
theorem tY:∀f (p:Array Nat) k,Al n p->Aq n (fun r=>Al n r) (kas_bin f p k)
 | 0,p,k,h=>h
 | f+1,p,k,h=>Aq.bind (fun a _=>tY f _ _ (h.perm (bubble_perm _ _ _))) _ (pU hn h _ _ _)
theorem tZ:Aq n (fun r=>Al n r) (kas_sort n):=by
 unfold kas_sort
 refine Aq.bind (fun a ha=>?_) _ (zn hn (p:=List.toArray (List.range n)) (.refl _) _)
 split
 .exact tY hn _ _ _ ha
 .exact ha
end
noncomputable def gg(c:Nat->Nat->Bool)(n:Nat):Array Nat:=if n < 2 then List.toArray (List.range n) else ev c (kas_sort n)
theorem pV{c:Nat->Nat->Bool}{n:Nat}:Al n (gg c n):=by
 unfold gg
 split
 .exact .refl _
 .exact Aq.ev _ (tZ (by omega))
section
variable {prog:Program} {w:World} {A:Around} {E:Value->Shared->Prop} {s:Shared}
theorem zo{vs:List Value}:(List.range vs.length).map (fun i=>vs.getD i Value.none)=vs:=by
 refine List.ext_getElem? fun i=>?_
 by_cases h:i < vs.length
 .simp[h]
 .simp[h]
theorem zp{a:Addr}{vs:List Value}{n:Nat}{c:Nat->Nat->Bool}{P:PySem.Fin->Shared->Prop}(ho:s.heap.get? a=some (seqObj "list" vs.toArray n))(h64:vs.length < 64)
  (hk:2≤vs.length->∀h',(∀b o,b≠a->s.heap.get? b=some o->h'.get? b=some o)->wpAny (model prog w) A (keyKind' vs.toArray) (fun κ s'=>s'={ s with heap:=h' }∧∀i j,i < vs.length->j < vs.length->∀C:Bool->Shared->Prop,C (c i j) s'->kas_ask prog w A κ vs i j C s') (fun _ _=>False) { s with heap:=h' })
  (h:∀h' n',(∀b o,b≠a->s.heap.get? b=some o->h'.get? b=some o)->h'.get? a=some (seqObj "list" (List.toArray ((gg c vs.length).toList.map fun i=>vs.getD i Value.none)) n')->P (.done (.ret .none)) { s with heap:=h' }):
  wpAny (model prog w) A (Builtin.«list.sort» ⟨[.ref a],[]⟩) P E s:=by
 rw[list_sort_plain]
 have ha:a < s.heap.objs.size:=Heap.lt_size ho
 refine wpAny_bind (listItems_at ho rfl ?_)
 refine wpAny_bind (listUpdate_at ho rfl ?_ (by rw[List.size_toArray,sizeLine_eq];omega) (Nat.zero_le _))
 obtain⟨e1,ho1⟩:∃e1,(s.heap.update a (Obj.mapSeq fun _=>(#[]:Array Value))).get? a=some (seqObj "list" #[] e1):=⟨_,get?_update_seq ho fun _=>#[]⟩
 have s1:=Heap.SameBut.update s.heap a (Obj.mapSeq fun _=>(#[]:Array Value))
 refine wpAny_bind (seqEpoch_at ho1 rfl ?_)
 refine wpAny_bind (wpAny_newTuple ?_ (by show vs.length≤_;rw[sizeLine_eq];omega))
 refine wpAny_bind (wpAny_newList ?_ (Nat.zero_le _))
 refine wpAny_holding ?_
 show wpAny (model prog w) A _ P E { s with heap:=((s.heap.update a (Obj.mapSeq fun _=>(#[]:Array Value))).push (seqObj "tuple" vs.toArray 0)).push (seqObj "list" #[] 0) }
 have keep:∀b o,b≠a->s.heap.get? b=some o->(((s.heap.update a (Obj.mapSeq fun _=>(#[]:Array Value))).push (seqObj "tuple" vs.toArray 0)).push (seqObj "list" #[] 0)).get? b=some o:=fun b o hb e=>
  Heap.get?_push_of_some _ (Heap.get?_push_of_some _ ((s1.2 b hb).trans e))
 have hoa:(((s.heap.update a (Obj.mapSeq fun _=>(#[]:Array Value))).push (seqObj "tuple" vs.toArray 0)).push (seqObj "list" #[] 0)).get? a=some (seqObj "list" #[] e1):=Heap.get?_push_of_some _ (Heap.get?_push_of_some _ ho1)
 generalize ((s.heap.update a (Obj.mapSeq fun _=>(#[]:Array Value))).push (seqObj "tuple" vs.toArray 0)).push (seqObj "list" #[] 0)=h1 at keep hoa ⊢
 have fin:∀(out:Array Value),out=List.toArray ((gg c vs.length).toList.map fun i=>vs.getD i Value.none)->P (.done (.ret .none)) { s with heap:=h1.update a (Obj.mapSeq fun _=>out) }:=fun out e=>by
  subst e
  have s2:=Heap.SameBut.update h1 a (Obj.mapSeq fun _=>List.toArray ((gg c vs.length).toList.map fun i=>vs.getD i Value.none))
  exact h _ _ (fun b o hb e=>(s2.2 b hb).trans (keep b o hb e)) (get?_update_seq hoa fun _=>_)
 dsimp only
 by_cases h2:vs.toArray.size < 2
 .rw[if_pos h2,if_pos h2]
  refine wpAny_bind (wpAny_pure ?_)
  rw[StateT.run_pure]
  refine wpAny_bind (wpAny_pure ?_)
  dsimp only
  have hout:(arrOf (SortSt.mk' general' (vs.toArray.zip vs.toArray) #[] 7 none)).map (·.2)=List.toArray ((List.toArray (List.range vs.length)).toList.map fun i=>vs.getD i Value.none):=by
   rw[zo]
   show(vs.toArray.zip vs.toArray).map (·.2)=vs.toArray
   apply Array.toList_inj.mp
   simp
   exact List.map_snd_zip (l₁:=vs) (l₂:=vs) (Nat.le_refl _)
  refine wpAny_bind (seqEpoch_at hoa rfl ?_)
  refine wpAny_bind (listUpdate_at hoa rfl ?_ (Nat.zero_le _) (by rw[hout];simp;rw[sizeLine_eq];omega))
  simp only[bne_self_eq_false,Bool.false_eq_true,if_false]
  refine wpAny_pure (fin _ (hout.trans ?_))
  unfold gg
  rw[List.size_toArray] at h2
  rw[if_pos h2]
 .rw[if_neg h2,if_neg h2]
  have h2':2≤vs.length:=by rw[List.size_toArray] at h2;omega
  refine wpAny_bind (wpAny_mono (hk h2' h1 keep) (fun κ s0 hκ=>?_) fun _ _ x=>x.elim)
  obtain⟨rfl,hask⟩:=hκ
  have hix:gg c vs.length=ev c (kas_sort vs.length):=by unfold gg;rw[if_neg (by omega)]
  have srt:=pV (c:=c) (n:=vs.length)
  rw[hix] at srt
  have run:=kat_run (prog:=prog) (w:=w) (A:=A) (E:=E) (s:={ s with heap:=h1 }) (κ:=κ) (vs:=vs) (ks:=vs) (Q:=fun st' s'=>s'={ s with heap:=h1 }∧arrOf st'=(ev c (kas_sort vs.length)).map (kas_item (vs.toArray.zip vs.toArray))∧failedOf st'=none)
   (G:=fun p s'=>s'={ s with heap:=h1 }∧p=ev c (kas_sort vs.length)) rfl h2' h64 (fun p st' s' a1 a2 a3 a4=>⟨a4.1,a4.2 ▸ a2,a3⟩) (tV hask _ (tZ (by omega)) ⟨rfl,rfl⟩)
  refine wpAny_bind (wpAny_mono run ?_ fun _ _ e=>e)
  rintro⟨⟨⟩,st'⟩ s' ⟨rfl,har,hf⟩
  dsimp only
  have hout:=kat_snds (vs:=vs) (ks:=vs) rfl har
  have hsz:(List.toArray ((ev c (kas_sort vs.length)).toList.map fun i=>vs.getD i Value.none)).size=vs.length:=by
   have:=Array.Perm.size_eq srt
   simp at this
   simp[this]
  refine wpAny_bind (seqEpoch_at hoa rfl ?_)
  refine wpAny_bind (listUpdate_at hoa rfl ?_ (Nat.zero_le _) (by rw[hout,hsz,sizeLine_eq];omega))
  rw[hf]
  simp only[bne_self_eq_false,Bool.false_eq_true,if_false]
  exact wpAny_pure (fin _ (hout.trans (by rw[hix])))
theorem zq{l:Addr}{vs:List Value}{n:Nat}{c:Nat->Nat->Bool}{Q:Value->Shared->Prop}(hl:s.heap.get? l=some (aJ vs n))(h64:vs.length < 64)
  (hk:2≤vs.length->∀s':Shared,(∀b o,s.heap.get? b=some o->s'.heap.get? b=some o)->wpAny (model prog w) A.in1.in1 (keyKind' vs.toArray) (fun κ s''=>s''=s'∧∀i j,i < vs.length->j < vs.length->∀C:Bool->Shared->Prop,C (c i j) s''->kas_ask prog w A.in1.in1 κ vs i j C s'') (fun _ _=>False) s')
  (h:∀a h' n',s.heap.get? a=none->(∀b o,s.heap.get? b=some o->h'.get? b=some o)->h'.get? a=some (aJ ((gg c vs.length).toList.map fun i=>vs.getD i Value.none) n')->Q (.ref a) { s with heap:=h' }):
  wpAny (model prog w) A (call (.builtin "sorted") [.ref l]) Q E s:=by
 refine Calls.call_function_entry kind_sorted plain_sorted entry_sorted (args_sorted1 _) ?_
 unfold Builtin.«sorted»
 refine wpAny_bind (m:=checkCount "sorted" 1 1 _) (wpAny_pure ?_)
 refine wpAny_bind (collect_list (vs:=vs) ⟨_,hl,rfl,n,rfl⟩ ?_ (by rw[sizeLine_eq];omega))
 refine wpAny_bind (wpAny_newList ?_ (by rw[sizeLine_eq];omega))
 have hsz:((s.heap.push (seqObj "list" #[] 0)).update s.heap.objs.size (Obj.mapSeq (· ++ vs.toArray))).objs.size=s.heap.objs.size+1:=by
  rw[Heap.size_update,size_push']
 have hoL:(((s.heap.push (seqObj "list" #[] 0)).update s.heap.objs.size (Obj.mapSeq (· ++ vs.toArray))).push (seqObj "list" vs.toArray 0)).get? (s.heap.objs.size+1)=some (seqObj "list" vs.toArray 0):=by
  rw[← hsz];exact Heap.get?_push_size _ rfl
 have keep:∀b o,s.heap.get? b=some o->(((s.heap.push (seqObj "list" #[] 0)).update s.heap.objs.size (Obj.mapSeq (· ++ vs.toArray))).push (seqObj "list" vs.toArray 0)).get? b=some o:=fun b o q=>by
  have hlt:b < s.heap.objs.size:=Heap.lt_size q
  rw[Heap.get?_push_ne _ _ _ (by rw[hsz];exact Nat.ne_of_lt (Nat.lt_succ_of_lt hlt)),Heap.get?_update_ne _ _ _ _ (Nat.ne_of_lt hlt),Heap.get?_push_ne _ _ _ (Nat.ne_of_lt hlt)]
  exact q
 have ga:s.heap.get? (s.heap.objs.size+1)=none:=yj _
 show wpAny _ _ _ _ _ { s with heap:=((s.heap.push (seqObj "list" #[] 0)).update s.heap.objs.size (Obj.mapSeq (· ++ vs.toArray))).push (seqObj "list" vs.toArray 0) }
 rw[hsz]
 have off:∀b o,s.heap.get? b=some o->b≠s.heap.objs.size+1:=fun b o e q=>by rw[q,ga] at e;cases e
 refine wpAny_bind (wpAny_holding (wpAny_call_entry slot_list_sort ⟨_,hoL,rfl⟩ entry_list_sort (zp hoL h64 (fun h2 h' kk=>hk h2 _ fun b o e=>kk b o (off b o e) (keep b o e)) fun h' n' kk hh=>⟨_,rfl,?_⟩) (args_list_sort _)))
 exact wpAny_pure ⟨_,rfl,h _ h' n' ga (fun b o e=>kk b o (off b o e) (keep b o e)) hh⟩
end
noncomputable def jX(a b:Int × Int):Bool:=if a.1=b.1 then decide (a.2 < b.2) else decide (a.1 < b.1)
noncomputable def pd(p:Int × Int):D:=.tup [.int p.1,.int p.2]
noncomputable def t4(d:D):Option (Int × Int):=(match d with | .tup l=>dw l | _=>none).bind fun ns=>if ns.length=2 then some (ns.getD 0 0,ns.getD 1 0) else none
noncomputable def lO : List D->Option (List (Int × Int))
 | []=>some []
 | d :: l=>(t4 d).bind fun p=>(lO l).map (p :: ·)
noncomputable def jY(ps:List (Int × Int)):List (Int × Int):=(gg (fun i j=>jX (ps.getD i (0,0)) (ps.getD j (0,0))) ps.length).toList.map fun i=>ps.getD i (0,0)
noncomputable def ji(l:List D):Option (List D):=if l.length < 64 then(lO l).map fun ps=>(jY ps).map pd else none
theorem t5:∀ {l:List D} {ns:List Int},dw l=some ns->l=ns.map D.int
 | [],ns,h=>by cases h;rfl
 | d :: l,ns,h=>by
  cases d with
  | int i=>
   simp only[dw] at h
   obtain⟨ns',h1,rfl⟩:=Option.map_eq_some_iff.mp h
   rw[t5 h1];rfl
  | _=>simp[dw] at h
theorem zr{d:D}{p:Int × Int}(h:t4 d=some p):d=pd p:=by
 refine ao h fun ns h1 h2=>?_
 cases d with
 | tup l=>
  by_cases q:ns.length=2
  .rw[if_pos q] at h2
   obtain⟨a,b,rfl⟩:=il q
   cases h2
   rw[t5 h1];rfl
  .rw[if_neg q] at h2;cases h2
 | _=>cases h1
theorem t7:∀ {l:List D} {ps:List (Int × Int)},lO l=some ps->l=ps.map pd
 | [],ns,h=>by cases h;rfl
 | d :: l,ps,h=>by
  refine ao h fun p h1 h=>?_
  obtain⟨qs,h2,rfl⟩:=Option.map_eq_some_iff.mp h
  rw[zr h1,t7 h2];rfl
theorem Rp.pd{h:Heap}{N:Addr->Prop}{v:Value}{p:Int × Int}(r:Rp h N v (pd p)):∃a t u n,v=.ref a∧h.get? a=some (a8 [.int p.1 t,.int p.2 u] n):=by
 obtain⟨a,vs,n,rfl,ha,hl,hv⟩:=r.open rfl
 obtain⟨x,y,rfl⟩:=il (show vs.length=2 from hl)
 have r1:=hv 0 x (.int p.1) rfl rfl
 have r2:=hv 1 y (.int p.2) rfl rfl
 obtain⟨t,rfl⟩:=bG (.clean r1)
 obtain⟨u,rfl⟩:=bG (.clean r2)
 exact⟨a,t,u,n,rfl,ha⟩
theorem zs{α:Type}{l:List α}{z:α}{p:Array Nat}(hp:p.Perm (List.toArray (List.range l.length))):(p.toList.map fun i=>l.getD i z).Perm l:=by
 have h1:p.toList.Perm (List.range l.length):=by simpa using Array.perm_iff_toList_perm.mp hp
 have h2:=h1.map fun i=>l.getD i z
 have:(List.range l.length).map (fun i=>l.getD i z)=l:=by
  refine List.ext_getElem? fun i=>?_
  by_cases h:i < l.length
  .simp[h]
  .simp[h]
 rw[this] at h2
 exact h2
theorem sortP_perm{ps:List (Int × Int)}:(jY ps).Perm ps:=zs pV
theorem Rps.perm{h:Heap}{N:Addr->Prop}{vs:List Value}{ds:List D}(r:Rps h N vs ds):∀(is:List Nat),(∀i∈is,i < vs.length)->Rps h N (is.map fun i=>vs.getD i Value.none) (is.map fun i=>ds.getD i .none)
 | [],_=>.nil
 | i :: is,hi=>by
  have h1:=hi i (.head _)
  refine .cons ?_ (r.perm is fun j hj=>hi j (.tail _ hj))
  obtain⟨d,e1,r1⟩:=r.get' (List.getElem?_eq_getElem h1)
  have e2:vs.getD i Value.none=vs[i]:=by simp[h1]
  have e3:ds.getD i .none=d:=by rw[List.getD_eq_getElem?_getD,e1];rfl
  show Rp h N (vs.getD i Value.none) (ds.getD i .none)
  rw[e2,e3];exact r1
theorem Rps.fire{h:Heap}{N:Addr->Prop}:∀ {ps:List (Int × Int)} {vs:List Value},Rps h N vs (ps.map pd)->∃fs,KatTups h vs fs∧fs.length=ps.length∧(∀v∈fs,∃i t,v=.int i t)
 | [],_,.nil=>⟨[],.nil,rfl,fun v hv=>by cases hv⟩
 | p :: ps,_,.cons x r=>by
  obtain⟨fs,h1,h2,h3⟩:=Rps.fire r
  obtain⟨a,t,u,n,rfl,ha⟩:=x.pd
  refine⟨.int p.1 t :: fs,.cons ha rfl rfl rfl h1,by simp[h2],fun v hv=>?_⟩
  rcases List.mem_cons.mp hv with rfl | hv
  .exact⟨_,_,rfl⟩
  .exact h3 v hv
theorem zt{ps:List (Int × Int)}{i:Nat}(h:i < ps.length):(ps.map pd).getD i .none=pd (ps.getD i (0,0)):=by
 rw[List.getD_eq_getElem?_getD,List.getElem?_map,List.getD_eq_getElem?_getD,List.getElem?_eq_getElem h];rfl
theorem t8{h:Heap}{N:Addr->Prop}{vs:List Value}{ps:List (Int × Int)}{i:Nat}(r:Rps h N vs (ps.map pd))(hi:i < ps.length):Rp h N (vs.getD i Value.none) (pd (ps.getD i (0,0))):=by
 have h1:i < vs.length:=by rw[r.length,List.length_map];exact hi
 obtain⟨d,e,r1⟩:=r.get' (List.getElem?_eq_getElem h1)
 rw[List.getElem?_map,List.getElem?_eq_getElem hi] at e
 cases e
 rw[List.getD_eq_getElem?_getD,List.getElem?_eq_getElem h1,List.getD_eq_getElem?_getD,List.getElem?_eq_getElem hi]
 exact r1
section
variable {G:ap} {k:Nat} {sc:Scope}
theorem zu{A:Around}{s:Shared}{N:Addr->Prop}{v u:Value}{p q:Int × Int}{C:Bool->Shared->Prop}{E:Value->Shared->Prop}(hv:Rp s.heap N v (pd p))(hu:Rp s.heap N u (pd q))(h:C (jX p q) s):
  wpAny (model G.prog G.w) A (keyLt' (tuples' true) v u) C E s:=by
 obtain⟨a,t1,t2,n,rfl,ha⟩:=hv.pd
 obtain⟨b,u1,u2,m,rfl,hb⟩:=hu.pd
 unfold jX at h
 refine kat_lt ha rfl hb rfl (kat_cons (wpAny_eqBool_int ?_))
 by_cases q1:p.1=q.1
 .rw[if_pos q1] at h
  rw[show(p.1==q.1)=true by simpa using q1]
  refine kat_yes (kat_cons (wpAny_eqBool_int ?_))
  by_cases q2:p.2=q.2
  .rw[show(p.2==q.2)=true by simpa using q2]
   rw[show decide (p.2 < q.2)=false by simp;omega] at h
   exact kat_yes (kat_nil h)
  .rw[show(p.2==q.2)=false by simpa using q2]
   exact kat_no (kat_one _ _ (lt_int h))
 .rw[if_neg q1] at h
  rw[show(p.1==q.1)=false by simpa using q1]
  exact kat_no (oneLt_int h)
noncomputable def lP(m:aa->Option D):aa->Option (List D):=fun ρ=>(m ρ).bind fun d=>(D.items? d).bind ji
theorem SF.sorted{x:Str}{e:Expr}{p pos:Pos}{m:aa->Option D}(b:BName G sc x (.builtin "sorted"))(hs:a9 e)(h:SE G k sc e m):SF G k sc (.Call (.Name x p) [e] [] pos) (lP m):=by
 intro A env N α s ρ ds hA hE hb hin hρ
 refine ao hρ fun d ed hρ=>?_
 refine ao hρ fun l el hρ=>?_
 unfold ji at hρ
 split at hρ
 .rename_i h64
  refine Call_ (b.eval hE hb (callWith_builtin1 (args_cons (wpAny_mono (h A env N α s ρ d hA hE hb hin ed) (fun v s1 h₁=>args_nil ?_) fun _ _ x=>x) (hs _ env)) (hs _ env) rfl))
  obtain⟨k₁,rt⟩:=h₁
  obtain⟨a,vs,n,rfl,ha,rs⟩:=rt.items el
  have hl64:vs.length < 64:=by rw[rs.length];exact h64
  obtain⟨ps,hP,rfl⟩:=Option.map_eq_some_iff.mp hρ
  have hl:=t7 hP
  subst hl
  have hlen:vs.length=ps.length:=by rw[rs.length];simp
  refine zq (c:=fun i j=>jX (ps.getD i (0,0)) (ps.getD j (0,0))) ha hl64 (fun h2 s' kk=>?_) fun a h' n' hn hk hh=>?_
  .have rs':=rs.keep kk
   obtain⟨fs,hf1,hf2,hf3⟩:=rs'.fire
   refine kat_kind (T:=.type "int") hf1 (by omega) (fun v hv=>?_) (by first | rfl | decide) ⟨rfl,fun i j h1 h2 C hC=>?_⟩
   .obtain⟨i,t,rfl⟩:=hf3 v hv
    exact Looks.of_pure rfl
   .unfold kas_ask
    exact zu (t8 rs' (hlen ▸ h1)) (t8 rs' (hlen ▸ h2)) hC
  .refine⟨k₁.trans ⟨h',s1.toks,rfl,hk⟩,a,_,n',rfl,k₁.gone hn,hh,?_⟩
   have al:=pV (c:=fun i j=>jX (ps.getD i (0,0)) (ps.getD j (0,0))) (n:=vs.length)
   have hds:((gg (fun i j=>jX (ps.getD i (0,0)) (ps.getD j (0,0))) vs.length).toList.map fun i=>(ps.map pd).getD i .none)=(jY ps).map pd:=by
    unfold jY
    rw[List.map_map,← hlen]
    exact List.map_congr_left fun i hi=>zt (hlen ▸ al.lt hi)
   rw[← hds]
   exact(rs.perm _ fun i hi=>al.lt hi).off hn hk
 .cases hρ
theorem zv{e:Expr}{p pos:Pos}{m:aa->Option D}(hn:G.mg (Str.ofString "sorted")=none∧G.mb (Str.ofString "sorted")=some (.builtin "sorted"))(hx:okGlob sc "sorted"=true)(hs:a9 e)(h:SE G k sc e m):
  SF G k sc (.Call (.Name (Str.ofString "sorted") p) [e] [] pos) (lP m):=SF.sorted ⟨cq hx,cr hx,hn.1,hn.2⟩ hs h
end
end Mine
end
section
namespace Mine
open PySem PyProof.Rows PySem.Calls
noncomputable def pW:aa->Option Out:=(am (bM (f8 (cH "int" (eV "thing")) (ly (cH "bool" (eV "thing"))))) <|
 aL)
noncomputable def lQ:List D->Option D:=cG (ay ["thing"]) pW
noncomputable def e9:aa->Option Out:=(am (b5 (aV (b8 (cQ (aT lQ (ae (eV "part") ak)))) (aV (aK cw (eV "part") (eI 0)) (aV (aK eT (eV "part") (aE fY (eI 10) (eI 60))) cA))) (am (bM (eB false)) <|
   aL) aL) <|
  aL)
noncomputable def jZ:aa->Option Out:=(am (b5 (aV (b8 (cQ (cH "tuple" (eV "job")))) (aV (aK bc (bu bg (ae (eV "job") ak)) (eI 3)) cA)) (am (bM (eB false)) <|
  aL) aL) <|
 am (gc (t1 "part") (dO true (eV "job")) e9) <|
 am (bM (f8 (gy eT (aq (eV "job") (eI 1)) (eI 1)) (gy cy (aq (eV "job") (eI 2)) (aq (eV "job") (eI 0))))) <|
 aL)
noncomputable def fL:List D->Option D:=cG (ay ["job"]) jZ
noncomputable def pX:aa->Option Out:=(am (b5 (b8 (cQ (aT fL (ae (eV "job") ak)))) (am m7 <|
   aL) aL) <|
  aL)
noncomputable def t9:aa->Option Out:=(am (b5 (aK cy (bu bg (ae (eV "jobs") ak)) (eI 60)) (am m7 <|
  aL) aL) <|
 am (gc (t1 "job") (dO true (eV "jobs")) pX) <|
 aL)
noncomputable def pY:List D->Option D:=cG (ay ["jobs"]) t9
noncomputable def fg:aa->Option Out:=(am (b5 (dh (aK cy (aq (eV "left") (eV "place")) (eI 0)) (dh (aK dv (aq (aq (eV "jobs") (eV "place")) (eI 0)) (eV "time")) c8)) (am (b5 (aV (aK fE (eV "best") eN) (aV (aK cw (aq (aq (eV "jobs") (eV "place")) (eI 2)) (aq (aq (eV "jobs") (eV "best")) (eI 2))) cA)) (am (aR "best" (eV "place")) <|
    aL) aL) <|
   aL) aL) <|
  aL)
noncomputable def ua:aa->Option Out:=(am (aR "best" eN) <|
 am (gc (t1 "place") (dP (bu bg (ae (eV "jobs") ak))) fg) <|
 am (bM (eV "best")) <|
 aL)
noncomputable def pZ:List D->Option D:=cG (ay ["jobs","left","time"]) ua
noncomputable def ub:aa->Option Out:=(am (f9 "comes" (dJ (t1 "place") (dP (bu bg (ae (eV "jobs") ak))) (aK cy (aq (eV "left") (eV "place")) (eI 0)) (aq (aq (eV "jobs") (eV "place")) (eI 0)))) <|
 am (bM (lx (eL (dJ (t1 "come") (dO false (eV "comes")) (aK cy (eV "come") (eV "time")) (eV "come"))))) <|
 aL)
noncomputable def qc:List D->Option D:=cG (ay ["jobs","left","time"]) ub
noncomputable def uc:aa->Option Out:=(am (b5 (dh (aK bc (eV "pieces") (eL (bB ak))) (dh (aK bj (aq (aq (eV "pieces") (i4 (eI 1))) (eI 0)) (eV "place")) (dh (aK bj (aq (aq (eV "pieces") (i4 (eI 1))) (eI 2)) (eV "begin")) c8))) (am (jb (dy (eL (di (eV "pieces") dN (co (i4 (eI 1))))) (eL (bB (ae (aS (ae (eV "place") (ae (aq (aq (eV "pieces") (i4 (eI 1))) (eI 1)) (ae (eV "end") ak)))) ak))))) <|
  aL) aL) <|
 am (jb (dy (eV "pieces") (eL (bB (ae (aS (ae (eV "place") (ae (eV "begin") (ae (eV "end") ak)))) ak))))) <|
 aL)
noncomputable def lR:List D->Option (List D):=ja (ay ["pieces","place","begin","end"]) uc
noncomputable def zw:List D->Option D:=fun ds=>(lR ds).map .list
noncomputable def jj:aa->Option Out:=(am (aR "place" (aT pZ (ae (eV "jobs") (ae (eV "left") (ae (eV "time") ak))))) <|
  am (aR "stop" (aT qc (ae (eV "jobs") (ae (eV "left") (ae (eV "time") ak))))) <|
  am (b5 (aK fE (eV "place") eN) (am (aR "time" (eV "stop")) <|
   aL) (am (aR "end" (aE cP (eV "time") (aq (eV "left") (eV "place")))) <|
   am (b5 (dh (aK i3 (eV "stop") eN) (dh (aK cw (eV "stop") (eV "end")) c8)) (am (aR "end" (eV "stop")) <|
    aL) aL) <|
   am (dz "pieces" (ir lR (ae (eV "pieces") (ae (eV "place") (ae (eV "time") (ae (eV "end") ak)))))) <|
   am (fF "left" (eV "place") (aE fD (aq (eV "left") (eV "place")) (aE fD (eV "end") (eV "time")))) <|
   am (aR "time" (eV "end")) <|
   aL)) <|
  aL)
noncomputable def ud:aa->Option Out:=(am (lA (aT pY (ae (eV "jobs") ak))) <|
 am (dz "left" (dJ (t1 "job") (dO false (eV "jobs")) c8 (aq (eV "job") (eI 1)))) <|
 am (dz "pieces" (bB ak)) <|
 am (aR "time" (eI 0)) <|
 am (eE (aK cy (bu gY (ae (eV "left") ak)) (eI 0)) jj 100000) <|
 am (nr "pieces") <|
 aL)
noncomputable def jk:List D->Option (List D):=ja (ay ["jobs"]) ud
noncomputable def fM:List D->Option D:=fun ds=>(jk ds).map .list
noncomputable def qd:aa->Option Out:=(am (fF "found" (aq (eV "piece") (eI 0)) (aq (eV "piece") (eI 2))) <|
  aL)
noncomputable def ue:aa->Option Out:=(am (dz "found" (dJ (t1 "job") (dO false (eV "jobs")) c8 (eI 0))) <|
 am (gc (t1 "piece") (dO true (aT fM (ae (eV "jobs") ak))) qd) <|
 am (lz "found") <|
 aL)
noncomputable def qe:List D->Option D:=cG (ay ["jobs"]) ue
noncomputable def uf:aa->Option Out:=(am (aR "done" (aT qe (ae (eV "jobs") ak))) <|
 am (f9 "rows" (dJ (t1 "place") (dP (bu bg (ae (eV "jobs") ak))) (aK cy (aq (eV "done") (eV "place")) (aq (aq (eV "jobs") (eV "place")) (eI 2))) (aS (ae (aq (aq (eV "jobs") (eV "place")) (eI 2)) (ae (eV "place") ak))))) <|
 am (bM (eL (dJ (t1 "row") (dO false (eL (lP (eV "rows")))) c8 (aq (eV "row") (eI 1))))) <|
 aL)
noncomputable def qf:List D->Option D:=cG (ay ["jobs"]) uf
noncomputable def jl:aa->Option Out:=(am (b5 (aK cw (aq (eV "piece") (eI 1)) (eV "end")) (am (b5 (aV (aK cw (bu mV (ae (aq (eV "piece") (eI 2)) (ae (eV "end") ak))) (eV "begin")) (aV (aK cy (aq (aq (eV "jobs") (aq (eV "piece") (eI 0))) (eI 2)) (eV "end")) cA)) (am (bM (eV "begin")) <|
    aL) aL) <|
   am (aR "begin" (aq (eV "piece") (eI 1))) <|
   aL) aL) <|
  aL)
noncomputable def ug:aa->Option Out:=(am (aR "begin" (eV "end")) <|
 am (gc (t1 "piece") (lF (eV "pieces")) jl) <|
 am (bM (eV "begin")) <|
 aL)
noncomputable def qg:List D->Option D:=cG (ay ["jobs","pieces","end"]) ug
noncomputable def qh:aa->Option Out:=(am (aR "pieces" (aT fM (ae (eV "jobs") ak))) <|
 am (aR "places" (aT qf (ae (eV "jobs") ak))) <|
 am (b5 (aK bj (eV "places") (eL (bB ak))) (am (bM (aS (ae (eS "plan") (ae (eV "pieces") ak)))) <|
  aL) aL) <|
 am (aR "place" (aq (eV "places") (eI 0))) <|
 am (aR "end" (aq (aq (eV "jobs") (eV "place")) (eI 2))) <|
 am (bM (aS (ae (eS "late") (ae (eV "place") (ae (aT qg (ae (eV "jobs") (ae (eV "pieces") (ae (eV "end") ak)))) (ae (eV "end") ak)))))) <|
 aL)
noncomputable def fN:List D->Option D:=cG (ay ["jobs"]) qh
noncomputable def uh:aa->Option Out:=(am (bM (f8 (cH "int" (eV "_law_found")) (ly (cH "bool" (eV "_law_found"))))) <|
 aL)
noncomputable def iv:List D->Option D:=cG (ay ["_law_found"]) uh
noncomputable def ui:aa->Option Out:=(am (b5 (aK cw (eV "_law_k") (bu bg (ae (eV "_law_script") ak))) (am (bM (aq (eV "_law_script") (eV "_law_k"))) <|
  aL) aL) <|
 am (bM (eI 0)) <|
 aL)
noncomputable def em:List D->Option D:=cG (ay ["_law_script","_law_k"]) ui
noncomputable def uj:aa->Option Out:=(am (bM (bu gY (ae (eL (dJ (t1 "_law_job") (dO false (eV "_law_jobs")) (dh (aK eT (aq (eV "_law_job") (eI 0)) (eV "_law_begin")) (dh (aK dv (aq (eV "_law_job") (eI 2)) (eV "_law_end")) c8)) (aq (eV "_law_job") (eI 1)))) ak))) <|
 aL)
noncomputable def qi:List D->Option D:=cG (ay ["_law_jobs","_law_begin","_law_end"]) uj
noncomputable def uk:aa->Option Out:=(am (b5 (aV (b8 (cQ (cH "tuple" (eV "_law_piece")))) (aV (aK bc (bu bg (ae (eV "_law_piece") ak)) (eI 3)) cA)) (am (bM (eB false)) <|
  aL) aL) <|
 am (bM (f8 (aT iv (ae (aq (eV "_law_piece") (eI 0)) ak)) (f8 (aT iv (ae (aq (eV "_law_piece") (eI 1)) ak)) (aT iv (ae (aq (eV "_law_piece") (eI 2)) ak))))) <|
 aL)
noncomputable def qj:List D->Option D:=cG (ay ["_law_piece"]) uk
noncomputable def nx:aa->Option Out:=(am (b5 (aV (b8 (cQ (aT qj (ae (eV "_law_piece") ak)))) (aV (b8 (eU dv cw (eI 0) (aq (eV "_law_piece") (eI 0)) (bu bg (ae (eV "_law_jobs") ak)))) (aV (b8 (eU dv cw (eV "_law_now") (aq (eV "_law_piece") (eI 1)) (aq (eV "_law_piece") (eI 2)))) cA))) (am (bM (eB false)) <|
   aL) aL) <|
  am (b5 (aV (aK cw (aq (eV "_law_piece") (eI 1)) (aq (aq (eV "_law_jobs") (aq (eV "_law_piece") (eI 0))) (eI 0))) (aV (aK cy (aq (eV "_law_piece") (eI 2)) (aq (aq (eV "_law_jobs") (aq (eV "_law_piece") (eI 0))) (eI 2))) cA)) (am (bM (eB false)) <|
   aL) aL) <|
  am (fF "_law_left" (aq (eV "_law_piece") (eI 0)) (aE fD (aq (eV "_law_left") (aq (eV "_law_piece") (eI 0))) (aE fD (aq (eV "_law_piece") (eI 2)) (aq (eV "_law_piece") (eI 1))))) <|
  am (aR "_law_now" (aq (eV "_law_piece") (eI 2))) <|
  aL)
noncomputable def ul:aa->Option Out:=(am (dz "_law_left" (dJ (t1 "_law_job") (dO false (eV "_law_jobs")) c8 (aq (eV "_law_job") (eI 1)))) <|
 am (aR "_law_now" (eI 0)) <|
 am (b5 (b8 (cQ (cH "list" (eV "_law_pieces")))) (am (bM (eB false)) <|
  aL) aL) <|
 am (gc (t1 "_law_piece") (dO true (eV "_law_pieces")) nx) <|
 am (bM (gy bj (eV "_law_left") (eL (jP (eL (bB (ae (eI 0) ak))) (bu bg (ae (eV "_law_jobs") ak)))))) <|
 aL)
noncomputable def j4:List D->Option D:=cG (ay ["_law_jobs","_law_pieces"]) ul
noncomputable def um:aa->Option Out:=(am (b5 (aV (b8 (cQ (aT iv (ae (eV "_law_place") ak)))) (aV (b8 (cQ (aT iv (ae (eV "_law_begin") ak)))) (aV (b8 (cQ (aT iv (ae (eV "_law_end") ak)))) cA))) (am (bM (eB false)) <|
  aL) aL) <|
 am (b5 (aV (b8 (eU dv cw (eI 0) (eV "_law_place") (bu bg (ae (eV "_law_jobs") ak)))) (aV (b8 (eU dv dv (eI 0) (eV "_law_begin") (aq (aq (eV "_law_jobs") (eV "_law_place")) (eI 0)))) (aV (aK bc (eV "_law_end") (aq (aq (eV "_law_jobs") (eV "_law_place")) (eI 2))) cA))) (am (bM (eB false)) <|
  aL) aL) <|
 am (bM (gy cy (aT qi (ae (eV "_law_jobs") (ae (eV "_law_begin") (ae (eV "_law_end") ak)))) (aE fD (eV "_law_end") (eV "_law_begin")))) <|
 aL)
noncomputable def lT:List D->Option D:=cG (ay ["_law_jobs","_law_place","_law_begin","_law_end"]) um
noncomputable def qk:aa->Option Ob:=(aj (bC (bL (b8 (cQ (aT fL (ae (eV "job") ak))))) (aj nt <|
  aG) (aG)) <|
 aj (bC (bL (aK eT (bu bg (ae (e7 (eV "self")) ak)) (eI 60))) (aj nt <|
  aG) (aG)) <|
 aj (aX (aR "more" (eL (dy (e7 (eV "self")) (eL (bB (ae (eV "job") ak))))))) <|
 aj (aX (aR "found" (aT fN (ae (eV "more") ak)))) <|
 aj (bC (bL (aK bj (aq (eV "found") (eI 0)) (eS "plan"))) (aj (lJ (eV "self") (eV "more")) <|
  aj (bn (bQ eN)) <|
  aG) (aG)) <|
 aj (bn (bQ (aS (ae (aq (eV "found") (eI 1)) (ae (aq (eV "found") (eI 2)) (ae (aq (eV "found") (eI 3)) ak)))))) <|
 aG)
noncomputable def dC:aa->List D->Option (D × aa):=fJ (ay ["self","job"]) qk
noncomputable def ql:aa->Option String:=(i9 (im (b8 (cQ (aT fL (ae (eV "job") ak)))) (lH "BadJob") lG) (b5 (b8 (cQ (aT fL (ae (eV "job") ak)))) (am m7 <|
  aL) aL) (im (aK eT (bu bg (ae (e7 (eV "self")) ak)) (eI 60)) (lH "TooMany") lG))
noncomputable def gF:aa->List D->Option String:=je (ay ["self","job"]) ql
noncomputable def qm:aa->Option Ob:=(aj (iq "_law_found" (bv dC (eV "_law_book") (eV "_law_job"))) <|
 aj (bC (bL (aK fE (eV "_law_found") eN)) (aj (bn (bQ (eL (dy (eV "_law_held") (eL (bB (ae (eV "_law_job") ak))))))) <|
  aG) (aG)) <|
 aj (bC (bL (aV (b8 (cQ (cH "tuple" (eV "_law_found")))) (aV (aK bc (bu bg (ae (eV "_law_found") ak)) (eI 3)) cA))) (aj (bn (bQ eN)) <|
  aG) (aG)) <|
 aj (bC (bL (aK bc (aT fN (ae (eL (dy (eV "_law_held") (eL (bB (ae (eV "_law_job") ak))))) ak)) (aS (ae (eS "late") (ae (aq (eV "_law_found") (eI 0)) (ae (aq (eV "_law_found") (eI 1)) (ae (aq (eV "_law_found") (eI 2)) ak))))))) (aj (bn (bQ eN)) <|
  aG) (aG)) <|
 aj (bn (bQ (gZ (cQ (aT lT (ae (eL (dy (eV "_law_held") (eL (bB (ae (eV "_law_job") ak))))) (ae (aq (eV "_law_found") (eI 0)) (ae (aq (eV "_law_found") (eI 1)) (ae (aq (eV "_law_found") (eI 2)) ak)))))) (eV "_law_held") eN))) <|
 aG)
noncomputable def eO:aa->List D->Option (D × aa):=fJ (ay ["_law_book","_law_held","_law_job"]) qm
noncomputable def un:aa->Option Ob:=(aj (bC (bL (aV (aK cw (eV "place") (eI 0)) (aV (aK eT (eV "place") (bu bg (ae (e7 (eV "self")) ak))) cA))) (aj nt <|
  aG) (aG)) <|
 aj (aX (aR "job" (aq (e7 (eV "self")) (eV "place")))) <|
 aj (lJ (eV "self") (eL (dy (eL (di (e7 (eV "self")) dN (co (eV "place")))) (eL (di (e7 (eV "self")) (co (aE cP (eV "place") (eI 1))) dN))))) <|
 aj (bn (bQ (eV "job"))) <|
 aG)
noncomputable def dD:aa->List D->Option (D × aa):=fJ (ay ["self","place"]) un
noncomputable def qn:aa->Option String:=(im (aV (aK cw (eV "place") (eI 0)) (aV (aK eT (eV "place") (bu bg (ae (e7 (eV "self")) ak))) cA)) (lH "OutOfPlace") lG)
noncomputable def j5:aa->List D->Option String:=je (ay ["self","place"]) qn
noncomputable def ny:String->Option (aa->Option Ob):=(fun c=>if c="BadJob" then some (aj (bn (bQ (eV "_law_held"))) <|
    aG) else none)
noncomputable def nA:String->Option (aa->Option Ob):=(fun c=>if c="OutOfPlace" then some (jg "e" (gZ (eU dv cw (eI 0) (eV "_law_place") (bu bg (ae (eV "_law_held") ak))) eN (eV "_law_held"))) else none)
noncomputable def jm:aa->Option Ob:=(aj (bC (bL (aK bj (aE bp (eV "_law_cell") (eI 9)) (eI 7))) (aj (gE (e8 gF (eV "_law_book") (aq (eL (bB (ae (aS (ae (eI 0) (ae (eI 0) (ae (eI 4) ak)))) (ae (aS (ae (eI 3) (ae (eI 1) (ae (eI 3) ak)))) (ae (aS (ae (eI 2) (ae (eI 1) ak))) (ae (aS (ae (eB true) (ae (eI 1) (ae (eI 5) ak)))) (ae (eL (bB (ae (eI 0) (ae (eI 1) (ae (eI 40) ak))))) (ae eN ak)))))))) (aE bp (aE cY (eV "_law_cell") (eI 9)) (eI 6)))) (gA (bv dC (eV "_law_book") (aq (eL (bB (ae (aS (ae (eI 0) (ae (eI 0) (ae (eI 4) ak)))) (ae (aS (ae (eI 3) (ae (eI 1) (ae (eI 3) ak)))) (ae (aS (ae (eI 2) (ae (eI 1) ak))) (ae (aS (ae (eB true) (ae (eI 1) (ae (eI 5) ak)))) (ae (eL (bB (ae (eI 0) (ae (eI 1) (ae (eI 40) ak))))) (ae eN ak)))))))) (aE bp (aE cY (eV "_law_cell") (eI 9)) (eI 6))))) ny) <|
  aj (bn (bQ eN)) <|
  aG) (aG)) <|
 aj (bC (bL (aK cy (aE bp (eV "_law_cell") (eI 9)) (eI 5))) (aj (aX (aR "_law_place" (aE fD (aE fD (aE bp (aE cY (eV "_law_cell") (eI 9)) (aE cP (aE dK (eI 2) (bu bg (ae (eV "_law_held") ak))) (eI 5))) (bu bg (ae (eV "_law_held") ak))) (eI 2)))) <|
  aj (bC (bL (aK bj (aE bp (aE cY (eV "_law_cell") (eI 9)) (eI 11)) (eI 3))) (aj (aX (aR "_law_place" (aE dK (eV "_law_place") (aE fY (eI 10) (eI 30))))) <|
   aG) (aG)) <|
  aj (gE (e8 j5 (eV "_law_book") (eV "_law_place")) (iq "_law_job" (bv dD (eV "_law_book") (eV "_law_place"))) nA) <|
  aj (bC (bL (aV (b8 (eU dv cw (eI 0) (eV "_law_place") (bu bg (ae (eV "_law_held") ak)))) (aV (aK bc (eV "_law_job") (aq (eV "_law_held") (eV "_law_place"))) cA))) (aj (bn (bQ eN)) <|
   aG) (aG)) <|
  aj (bn (bQ (eL (dy (eL (di (eV "_law_held") dN (co (eV "_law_place")))) (eL (di (eV "_law_held") (co (aE cP (eV "_law_place") (eI 1))) dN)))))) <|
  aG) (aG)) <|
 aj (aX (aR "_law_come" (aE dK (aE bp (aE cY (eV "_law_cell") (eI 9)) (eI 30)) (eV "_law_wide")))) <|
 aj (bn (cf eO (ae (eV "_law_book") (ae (eV "_law_held") (ae (aS (ae (eV "_law_come") (ae (aE dK (aE cP (eI 1) (aE bp (aE cY (eV "_law_cell") (eI 270)) (eI 5))) (eV "_law_wide")) (ae (aE cP (eV "_law_come") (aE dK (aE cP (eI 1) (aE bp (aE cY (eV "_law_cell") (eI 1350)) (eI 24))) (eV "_law_wide"))) ak)))) ak))))) <|
 aG)
noncomputable def nB:aa->List D->Option (D × aa):=fJ (ay ["_law_book","_law_held","_law_cell","_law_wide"]) jm
noncomputable def uo:aa->Option Out:=(am (jb (ij (e7 (eV "self")))) <|
 aL)
noncomputable def gG:aa->List D->Option (List D):=jc (ay ["self"]) uo
noncomputable def uq:aa->Option Out:=(am (jb (ir jk (ae (e7 (eV "self")) ak))) <|
 aL)
noncomputable def iw:aa->List D->Option (List D):=jc (ay ["self"]) uq
noncomputable def j6:String->Option (aa->Option Ob):=(fun c=>if c="BadJob" then some (aj (aX (aR "_law_found" (aE eM (eV "_law_found") (eS "job")))) <|
    aG) else if c="TooMany" then some (aj (aX (aR "_law_found" (aE eM (eV "_law_found") (eS "many ")))) <|
    aG) else none)
noncomputable def nC:String->Option (aa->Option Ob):=(fun c=>if c="TooMany" then some (aj (aX (aR "_law_jobs" (eL (dy (eV "_law_jobs") (eL (bB (ae (aS (ae (eI 0) (ae (eI 1) (ae (eI 900) ak)))) ak))))))) <|
   aG) else none)
noncomputable def nD:aa->Option Ob:=(aj (bC (gf i3 (bv dC (eV "_law_book") (aS (ae (eV "_law_k") (ae (eI 1) (ae (eI 61) ak))))) eN) (aj (bn (bQ (eB false))) <|
   aG) (aG)) <|
  aG)
noncomputable def j7:aa->Option Ob:=(aj (gE (e8 gF (eV "_law_book") (eV "_law_job")) (gA (bv dC (eV "_law_book") (eV "_law_job"))) j6) <|
  aG)
noncomputable def j8:aa->Option Ob:=(aj (bC (bL (aV (aK cw (bu bg (ae (eV "_law_jobs") ak)) (eI 60)) (aV (aK bc (eL (c9 gG (eV "_law_book"))) (eV "_law_jobs")) (aV (aK bc (eL (c9 iw (eV "_law_book"))) (aT fM (ae (eV "_law_jobs") ak))) cA)))) (aj (bn (bQ (eB false))) <|
  aG) (aG)) <|
 aj (gA (bv dD (eV "_law_book") (eI 0))) <|
 aj (gA (bv dD (eV "_law_book") (eI 0))) <|
 aj (bn (nj (ni (gf fE (bv dC (eV "_law_book") (aS (ae (eI 0) (ae (eI 3) (ae (eI 61) ak))))) eN)) (gy bj (eL (c9 gG (eV "_law_book"))) (eL (dy (eL (di (eV "_law_jobs") (co (eI 2)) dN)) (eL (bB (ae (aS (ae (eI 0) (ae (eI 3) (ae (eI 61) ak)))) ak)))))))) <|
 aG)
noncomputable def jn:aa->Option Ob:=(aj (bC (ip (bL (aK bc (eV "_law_found") (eS "many many job"))) (ip (bL (aK bc (eL (c9 gG (eV "_law_book"))) (eV "_law_jobs"))) (ip (gf bc (bv dD (eV "_law_book") (eV "_law_place")) (aq (eV "_law_jobs") (eV "_law_place"))) (bL cA)))) (aj (bn (bQ (eB false))) <|
  aG) (aG)) <|
 aj (aX (aR "_law_jobs" (eL (dy (eL (di (eV "_law_jobs") dN (co (eV "_law_place")))) (eL (di (eV "_law_jobs") (co (aE cP (eV "_law_place") (eI 1))) dN)))))) <|
 aj (bC (ip (gf bc (cf eO (ae (eV "_law_book") (ae (eV "_law_jobs") (ae (aS (ae (eI 0) (ae (eI 3) (ae (eI 61) ak)))) ak)))) (eV "_law_jobs")) (ip (gf i3 (bv dC (eV "_law_book") (aS (ae (eI 0) (ae (eI 1) (ae (eI 900) ak))))) eN) (bL cA))) (aj (bn (bQ (eB false))) <|
  aG) (aG)) <|
 aj (gE (e8 gF (eV "_law_book") (aS (ae (eI 0) (ae (eI 1) (ae (eI 900) ak))))) (gA (bv dC (eV "_law_book") (aS (ae (eI 0) (ae (eI 1) (ae (eI 900) ak)))))) nC) <|
 j8)
noncomputable def nF:aa->Option Ob:=(aj (aX (aR "_law_found" (eS ""))) <|
 aj (eK (t1 "_law_job") (dO true (eL (bB (ae (aS (ae (eI 0) (ae (eI 1) (ae (eI 900) ak)))) (ae (aS (ae (eI 0) (ae (eI 3) (ae (eI 61) ak)))) (ae (aS (ae (eI 0) (ae (eI 1) (ae (eI 0) ak)))) ak)))))) j7) <|
 aj (aX (f9 "_law_jobs" (dJ (t1 "_law_k") (dP (eI 60)) c8 (aS (ae (eV "_law_k") (ae (eI 1) (ae (eI 61) ak))))))) <|
 jn)
noncomputable def ur:aa->Option Ob:=(aj (eK (t1 "_law_k") (dP (eI 60)) nD) <|
 nF)
noncomputable def g9:aa->List D->Option (D × aa):=fJ (ay ["_law_book","_law_place"]) ur
noncomputable def ix:aa->Option Ob:=(aj (bC (bL (aV (aK fE (eV "_law_after") eN) (aV (aK bc (eL (c9 gG (eV "_law_book"))) (eV "_law_after")) cA))) (aj (bn (bQ (eB false))) <|
   aG) (aG)) <|
  aj (aX (aR "_law_held" (eV "_law_after"))) <|
  aj (bC (bL (dh (aK bj (aE bp (eV "_law_k") (eI 4)) (eI 3)) (dh (cQ (eV "_law_held")) c8))) (aj (aX (aR "_law_place" (aE bp (aE cY (eV "_law_mix") (eI 5040)) (bu bg (ae (eV "_law_held") ak))))) <|
   aj (bC (gf bc (bv dD (eV "_law_book") (eV "_law_place")) (aq (eV "_law_held") (eV "_law_place"))) (aj (bn (bQ (eB false))) <|
    aG) (aG)) <|
   aj (aX (aR "_law_held" (eL (dy (eL (di (eV "_law_held") dN (co (eV "_law_place")))) (eL (di (eV "_law_held") (co (aE cP (eV "_law_place") (eI 1))) dN)))))) <|
   aG) (aG)) <|
  aG)
noncomputable def j9:aa->Option Ob:=(aj (aX (aR "_law_mix" (aE bp (aE dK (aE cP (aE cP (eV "_law_cell") (aE dK (eI 7) (eV "_law_k"))) (eI 1)) (eI 48271)) (eI 2147483647)))) <|
  aj (aX (aR "_law_come" (aE bp (eV "_law_mix") (eI 40)))) <|
  aj (aX (aR "_law_job" (aS (ae (eV "_law_come") (ae (aE cP (eI 1) (aE bp (aE cY (eV "_law_mix") (eI 40)) (eI 9))) (ae (aE cP (aE cP (eV "_law_come") (eI 9)) (aE bp (aE cY (eV "_law_mix") (eI 360)) (eI 14))) ak)))))) <|
  aj (iq "_law_after" (cf eO (ae (eV "_law_book") (ae (eV "_law_held") (ae (eV "_law_job") ak))))) <|
  aj (bC (bL (aK bj (eV "_law_after") (eV "_law_held"))) (aj (aX (aR "_law_place" (aE bp (aE cY (eV "_law_mix") (eI 5040)) (bu bg (ae (eV "_law_held") ak))))) <|
   aj (bC (gf bc (bv dD (eV "_law_book") (eV "_law_place")) (aq (eV "_law_held") (eV "_law_place"))) (aj (bn (bQ (eB false))) <|
    aG) (aG)) <|
   aj (iq "_law_after" (cf eO (ae (eV "_law_book") (ae (eL (dy (eL (di (eV "_law_held") dN (co (eV "_law_place")))) (eL (di (eV "_law_held") (co (aE cP (eV "_law_place") (eI 1))) dN)))) (ae (eV "_law_job") ak))))) <|
   aG) (aG)) <|
  ix)
noncomputable def ut:aa->Option Ob:=(aj (aX (aR "_law_held" (eL (bB ak)))) <|
 aj (eK (t1 "_law_k") (dP (eV "_law_count")) j9) <|
 aj (bn (bQ (f8 (gy bj (eL (c9 gG (eV "_law_book"))) (eV "_law_held")) (aT j4 (ae (eV "_law_held") (ae (eL (c9 iw (eV "_law_book"))) ak)))))) <|
 aG)
noncomputable def qo:aa->List D->Option (D × aa):=fJ (ay ["_law_book","_law_cell","_law_count"]) ut
noncomputable def iy:aa->Option Ob:=(aj (aX (dz "_law_listed" (c9 gG (aq (eV "_law_books") (eV "_law_k"))))) <|
   aj (bC (bL (aV (b8 (cQ (cH "list" (eV "_law_listed")))) (aV (aK bc (eV "_law_listed") (aq (eV "_law_held") (eV "_law_k"))) cA))) (aj (bn (bQ (eB false))) <|
    aG) (aG)) <|
   aj (aX (i5 "_law_listed" (aS (ae (eI 0) (ae (eI 1) (ae (eI 2) ak)))))) <|
   aG)
noncomputable def ka:aa->Option Ob:=(aj (bC (bL (aV (aK fE (eV "_law_after") eN) (aV (b8 (cQ (aT j4 (ae (eV "_law_after") (ae (eL (c9 iw (aq (eV "_law_books") (eV "_law_which")))) ak))))) cA))) (aj (bn (bQ (eB false))) <|
   aG) (aG)) <|
  aj (aX (lL (c9 iw (aq (eV "_law_books") (eV "_law_which"))) (aS (ae (eI 0) (ae (eI 0) (ae (eI 0) ak)))))) <|
  aj (bC (bL (aK bc (eL (c9 iw (aq (eV "_law_books") (eV "_law_which")))) (aT fM (ae (eL (ij (eV "_law_after"))) ak)))) (aj (bn (bQ (eB false))) <|
   aG) (aG)) <|
  aj (aX (fF "_law_held" (eV "_law_which") (eV "_law_after"))) <|
  aj (eK (t1 "_law_k") (dP (eI 2)) iy) <|
  aG)
noncomputable def lU:aa->Option Ob:=(aj (aX (aR "_law_which" (aE bp (eV "_law_cell") (eI 2)))) <|
  aj (aX (aR "_law_told" (aS (ae (eL (c9 gG (aq (eV "_law_books") (eV "_law_which")))) (ae (eL (c9 iw (aq (eV "_law_books") (eV "_law_which")))) ak))))) <|
  aj (aX (i5 "_law_kept" (aS (ae (eV "_law_told") (ae (aS (ae (eL (ij (aq (eV "_law_told") (eI 0)))) (ae (eL (ij (aq (eV "_law_told") (eI 1)))) ak))) ak))))) <|
  aj (iq "_law_after" (cf nB (ae (aq (eV "_law_books") (eV "_law_which")) (ae (eL (ij (aq (eV "_law_held") (eV "_law_which")))) (ae (aE cY (eV "_law_cell") (eI 2)) (ae (eV "_law_wide") ak)))))) <|
  ka)
noncomputable def lV:aa->Option Ob:=(aj (bC (bL (aK bc (eV "_law_told") (eV "_law_ones"))) (aj (bn (bQ (eB false))) <|
   aG) (aG)) <|
  aG)
noncomputable def kc:aa->Option Ob:=(aj (aX (dz "_law_kept" (bB ak))) <|
 aj (eK (t1 "_law_cell") (dO true (eL (di (eV "_law_script") (co (eI 1)) (co (eI 17))))) lU) <|
 aj (lN "_law_kept" (eK (tN ["_law_told","_law_ones"]) (dO true (eV "_law_kept")) lV)) <|
 aj (bn (bQ (gy bj (eL (c9 gG (aq (eV "_law_books") (eI 0)))) (aq (eV "_law_held") (eI 0))))) <|
 aG)
noncomputable def nG:aa->Option Bool:=(aK bj (aE bp (aT em (ae (eV "_law_script") (ae (eI 0) ak))) (eI 64)) (eI 25))
noncomputable def uu:aa->Option D:=(aT em (ae (eV "_law_script") (ae (eI 1) ak)))
noncomputable def uv:aa->Option D:=(aE cP (eI 16) (aE bp (aE cY (aT em (ae (eV "_law_script") (ae (eI 0) ak))) (eI 64)) (eI 10)))
noncomputable def hJ:aa->Option Ob:=(aj (aX (dz "_law_held" (bB (ae (eL (bB ak)) (ae (eL (bB ak)) ak))))) <|
 aj (aX (aR "_law_wide" (eI 1))) <|
 aj (bC (bL (aK bj (aE bp (aT em (ae (eV "_law_script") (ae (eI 0) ak))) (eI 4)) (eI 3))) (aj (aX (aR "_law_wide" (aE cP (eI 2) (aE bp (aE cY (aT em (ae (eV "_law_script") (ae (eI 0) ak))) (eI 4)) (aE fY (eI 10) (eI 56)))))) <|
  aG) (aG)) <|
 aj (bC (bL (aK bj (aE bp (aT em (ae (eV "_law_script") (ae (eI 0) ak))) (eI 64)) (eI 9))) (aj (bn (cf g9 (ae (aq (eV "_law_books") (eI 0)) (ae (aE bp (aT em (ae (eV "_law_script") (ae (eI 1) ak))) (eI 60)) ak)))) <|
  aG) (aG)) <|
 kc)
noncomputable def uw:aa->D->Prop:=fun ρ d=>(nG ρ=some true∧lK ρ∧d.clean=true∧∃d1 d2,d1.clean=true∧d2.clean=true∧∀b,uu (ah ρ (ag b) (.list []))=some d1∧uv (ah ρ (ag b) (.list []))=some d2∧∃ ρ',qo (ah ρ (ag b) (.list [])) [.ref b,d1,d2]=some (d,ρ'))∨(nG ρ=some false∧lK ρ∧∀b0 b1,b0≠b1->∃ ρ',hJ (ah (jh ρ b0 b1) (Str.ofString "_law_books") (.list [.ref b0,.ref b1]))=some (.ret d ρ'))
noncomputable def qp:List D->D->Prop:=pS (ay ["_law_script"]) uw
theorem ux{a b:String}(h:Str.ofString a=Str.ofString b):a=b:=by
 rw[Str.ofString_eq_toList,Str.ofString_eq_toList] at h
 have h1:=congrArg (fun s:Str=>s.cps.toList) h
 simp only at h1
 have h2:a.toList.map Char.toNat=b.toList.map Char.toNat:=by simpa using h1
 have h3:a.toList=b.toList:=List.map_inj_right (fun x y e=>Char.ext (by simpa [Char.toNat] using (UInt32.toNat_inj.mp e))) |>.mp h2
 exact String.toList_inj.mp h3
theorem zx(a b:String):(Str.ofString a==Str.ofString b)=(a==b):=by
 by_cases h:a=b
 .subst h;simp
 .have:Str.ofString a≠Str.ofString b:=fun q=>h (ux q)
  rw[beq_eq_false_iff_ne.mpr h,beq_eq_false_iff_ne.mpr this]
section
variable {ρ:aa} {x y:String}
noncomputable def jo(o:Out)(ms:aa->Option Out):Option Out:=match o with | .next ρ'=>ms ρ' | o=>some o
theorem qq{ms:aa->Option Out}:jo (.next ρ) ms=ms ρ:=id rfl
theorem zy{ms:aa->Option Out}{d:D}:jo (.ret d) ms=some (.ret d):=id rfl
noncomputable def uy(ρ:aa)(x:String)(d:D):Option D->Option Out
 | some (.own l)=>if d.clean=true∧l.length < 16777216 then some (.next (ah ρ (Str.ofString x) (.own (l++[d])))) else none
 | _=>none
theorem zz{m:aa->Option D}:i5 x m ρ=(m ρ).bind fun d=>uy ρ x d (ρ (Str.ofString x)):=by
 unfold i5
 congr 1
theorem zA{d:D}{l:List D}:uy ρ x d (some (.own l))=if d.clean=true∧l.length < 16777216 then some (.next (ah ρ (Str.ofString x) (.own (l++[d])))) else none:=id rfl
noncomputable def nH(ρ:aa)(x:String)(d j:D):Option D->Option Out
 | some (.own l)=>(match j with | .int j=>if d.clean=true∧0≤j∧j < l.length∧j < 9223372036854775808 then some (.next (ah ρ (Str.ofString x) (.own (l.set j.toNat d)))) else none | _=>none)
 | _=>none
theorem uz{mi me:aa->Option D}:fF x mi me ρ=(me ρ).bind fun d=>(mi ρ).bind fun j=>nH ρ x d j (ρ (Str.ofString x)):=by
 unfold fF
 congr 1
 funext d
 congr 1
 funext j
 unfold nH
 cases ρ (Str.ofString x) with
 | none=>rfl
 | some e=>cases e <;> cases j <;> rfl
theorem uA{d:D}{j:Int}{l:List D}:nH ρ x d (.int j) (some (.own l))=if d.clean=true∧0≤j∧j < l.length∧j < 9223372036854775808 then some (.next (ah ρ (Str.ofString x) (.own (l.set j.toNat d)))) else none:=id rfl
theorem av{i:Int}:eI i ρ=some (.int i):=id rfl
theorem hK:eS x ρ=some (.str (Str.ofString x)):=id rfl
theorem nJ{b:Bool}:eB b ρ=some (.bool b):=id rfl
theorem da:eN ρ=some .none:=id rfl
theorem zB{m:aa->Option D}:lx m ρ=(m ρ).bind fun d=>(D.items? d).bind fun l=>(dw l).map ii:=id rfl
theorem zC{ml mn:aa->Option D}:jP ml mn ρ=(ml ρ).bind fun a=>(mn ρ).bind fun b=>(D.items? a).bind fun l=>m0 l b:=id rfl
theorem zD{l:List D}{n:Int}:m0 l (.int n)=if l.length≤1000∧0≤n∧n≤1000 then some (List.replicate n.toNat l).flatten else none:=id rfl
theorem jp:c8 ρ=some true:=id rfl
theorem cJ:cA ρ=some false:=id rfl
theorem qr{mv:aa->Option D}{ml mu:aa->Option (Option Int)}:di mv ml mu ρ=(mv ρ).bind fun o=>(ml ρ).bind fun lo=>(mu ρ).bind fun hi=>(D.items? o).bind fun l=>if l.length≤16777216 then some (b7 l lo hi) else none:=id rfl
theorem uB:dN ρ=some none:=id rfl
noncomputable def uC:D->Option (Option Int)
 | .int i=>some (some i)
 | _=>none
theorem nK{i:Int}:uC (.int i)=some (some i):=id rfl
theorem nM{m:aa->Option D}:co m ρ=(m ρ).bind uC:=by
 unfold co
 congr 1
theorem zE{m:aa->Option D}:ij m ρ=(m ρ).bind fun d=>(cZ d).bind fun l=>if l.length≤16777216 then some l else none:=id rfl
theorem zF{fz:Bool}{m:aa->Option D}:dO fz m ρ=(m ρ).bind fun d=>(ik fz d).bind fun l=>if l.length≤16777216 then some l else none:=id rfl
noncomputable def uD:D->Option (List D)
 | .int n=>if n≤16777216∧-16777216≤n then some (ca 0 n.toNat) else none
 | _=>none
theorem zG{n:Int}:uD (.int n)=if n≤16777216∧-16777216≤n then some (ca 0 n.toNat) else none:=id rfl
theorem zH{m:aa->Option D}:dP m ρ=(m ρ).bind uD:=by
 unfold dP
 congr 1
theorem zI{t:Tg}{mi:aa->Option (List D)}{mc:aa->Option Bool}{me:aa->Option D}:dJ t mi mc me ρ=(mi ρ).bind fun ds=>cX t mc me ds ρ:=id rfl
theorem an{z:Str}{d:D}:ah ρ z d z=some d:=by simp[ah]
theorem gH{z:Str}{d:D}:cO (.one z) d ρ=some (ah ρ z d):=id rfl
theorem zJ{d:D}(h:(x==y)=false):ah ρ (Str.ofString y) d (Str.ofString x)=ρ (Str.ofString x):=by
 unfold ah
 rw[if_neg fun e=>by rw[ux e] at h;simp at h]
theorem az{ns:List Str}{d:D}{ds:List D}:bK (Str.ofString x :: ns) (d :: ds) (Str.ofString x)=some d:=by
 unfold bK
 rw[List.zip_cons_cons,List.lookup_cons_self]
theorem zK{ns:List Str}{d:D}{ds:List D}(h:(x==y)=false):bK (Str.ofString y :: ns) (d :: ds) (Str.ofString x)=bK ns ds (Str.ofString x):=by
 unfold bK
 rw[List.zip_cons_cons,List.lookup_cons,zx,h]
noncomputable def zL(o:Out):Option D:=sM o
theorem uE{ns:List Str}{m:aa->Option Out}{ds:List D}:cG ns m ds=if ds.length=ns.length then(m (bK ns ds)).bind zL else none:=id rfl
end
theorem au{α β:Type}{a:α}{f:α->Option β}:(some a).bind f=f a:=id rfl
theorem dR{a b:Int}:cP (.int a) (.int b)=some (.int (a+b)):=id rfl
theorem hM{a b:Int}:fD (.int a) (.int b)=some (.int (a - b)):=id rfl
theorem uF{a b:Int}:dK (.int a) (.int b)=if a.natAbs < 18446744073709551616∨b.natAbs < 18446744073709551616 then some (.int (a*b)) else none:=id rfl
theorem zM{a b:Int}:cY (.int a) (.int b)=if 0 < b∧b < 1073741824 then some (.int (a.fdiv b)) else none:=id rfl
theorem zN{a b:Int}:bp (.int a) (.int b)=if b≠0 then some (.int (a.fmod b)) else none:=id rfl
theorem zO{a b:Int}:fY (.int a) (.int b)=if 0≤b∧b≤1000∧a.natAbs < 1000 then some (.int (a ^ b.toNat)) else none:=id rfl
theorem zP{a b:Int}(h1:-18446744073709551616 < a)(h2:a < 18446744073709551616):dK (.int a) (.int b)=some (.int (a*b)):=by rw[uF,if_pos (.inl (by omega))]
theorem zQ{a b:Int}(h1:-18446744073709551616 < b)(h2:b < 18446744073709551616):dK (.int a) (.int b)=some (.int (a*b)):=by rw[uF,if_pos (.inr (by omega))]
theorem zR{a b:Int}(h1:0 < b)(h2:b < 1073741824):cY (.int a) (.int b)=some (.int (a.fdiv b)):=by rw[zM,if_pos ⟨h1,h2⟩]
theorem zS{a b:Int}(h1:0 < b):bp (.int a) (.int b)=some (.int (a.fmod b)):=by rw[zN,if_pos (by omega)]
theorem qt{a b:Int}(h1:0≤b)(h2:b≤1000)(h3:-1000 < a)(h4:a < 1000):fY (.int a) (.int b)=some (.int (a ^ b.toNat)):=by rw[zO,if_pos ⟨h1,h2,by omega⟩]
theorem uG{a b:Int}:cw (.int a) (.int b)=some (decide (a < b)):=id rfl
theorem lW{a b:Int}:cy (.int a) (.int b)=some (decide (b < a)):=id rfl
theorem uH{a b:Int}:dv (.int a) (.int b)=some (decide (a≤b)):=id rfl
theorem uI{a b:Int}:eT (.int a) (.int b)=some (decide (b≤a)):=id rfl
theorem uJ{a b:Int}:bj (.int a) (.int b)=some (decide (a=b)):=by
 have:(a==b)=decide (a=b):=by by_cases h:a=b <;> simp[h]
 simp[bj,D.ok,D.py,PyData.eqv,this]
theorem uL{a b:Int}:bc (.int a) (.int b)=some (!decide (a=b)):=by
 have:(a==b)=decide (a=b):=by by_cases h:a=b <;> simp[h]
 simp[bc,D.ok,D.py,PyData.eqv,this]
theorem zT:D.isNone .none=true:=id rfl
theorem aP{i:Int}:(D.int i).clean=true:=id rfl
theorem dE{l:List D}:(D.tup l).clean=true:=id rfl
theorem bD{l:List D}:(D.list l).clean=true:=id rfl
theorem jq{b:Bool}:(D.bool b).clean=true:=id rfl
theorem ke:D.none.clean=true:=id rfl
theorem kf{x:Str}:(D.str x).clean=true:=id rfl
theorem nN{i:Int}:(D.int i).flat=true:=by simp[D.flat]
theorem uM:D.none.flat=true:=by simp[D.flat]
theorem zU:D.flats []=true:=by simp[D.flats]
theorem zV{d:D}{l:List D}:D.flats (d :: l)=(d.flat&&D.flats l):=by simp[D.flats]
theorem gj{b:Bool}:D.truth? (.bool b)=some b:=id rfl
theorem db{l:List D}:D.items? (.list l)=some l:=id rfl
theorem ki{l:List D}:cZ (.list l)=some l:=id rfl
theorem zW{l:List D}:cZ (.own l)=some l:=id rfl
theorem uO{l:List D}:cZ (.tup l)=some l:=id rfl
theorem gk{fz:Bool}{l:List D}:ik fz (.list l)=some l:=id rfl
theorem zX{fz:Bool}{l:List D}:ik fz (.tup l)=some l:=id rfl
theorem uP{d:D}:bg [d]=(cZ d).bind fun l=>if l.length < 9223372036854775808 then some (.int l.length) else none:=id rfl
theorem qu{a b:Int}:mV [.int a,.int b]=some (.int (if b < a then b else a)):=id rfl
noncomputable def kj(d:D)(k:Option Out):Option Out:=if d.clean then k else none
theorem uQ{d:D}{k:Option Out}(h:d.clean=true):kj d k=k:=by unfold kj;rw[if_pos h]
noncomputable def km(b:Bool)(k l:Option Out):Option Out:=if b then k else l
theorem uR{k l:Option Out}:km true k l=k:=id rfl
theorem zY{k l:Option Out}:km false k l=l:=id rfl
noncomputable def uS(b:Bool)(k l:Option D):Option D:=if b then k else l
theorem kn{p:Prop}[Decidable p](h:p):decide p=true:=decide_eq_true h
theorem kq{p:Prop}[Decidable p](h:¬p):decide p=false:=decide_eq_false h
section
variable {ρ:aa} {x:String} {ms:aa->Option Out}
theorem zZ{m:aa->Option D}:am (aR x m) ms ρ=(m ρ).bind fun d=>kj d (ms (ah ρ (Str.ofString x) d)):=by
 unfold am aR kj
 cases m ρ with
 | none=>rfl
 | some d=>simp only[Option.bind_some];split <;> rfl
theorem z5{m:aa->Option (List D)}:am (dz x m) ms ρ=(m ρ).bind fun ds=>ms (ah ρ (Str.ofString x) (.own ds)):=by
 unfold am dz;cases m ρ <;> rfl
theorem z6{m:aa->Option (List D)}:am (f9 x m) ms ρ=(m ρ).bind fun ds=>ms (ah ρ (Str.ofString x) (.list ds)):=by
 unfold am f9;cases m ρ <;> rfl
theorem uT{c:aa->Option Bool}{a b:aa->Option Out}:am (b5 c a b) ms ρ=(c ρ).bind fun t=>km t (am a ms ρ) (am b ms ρ):=by
 show((c ρ).bind fun t=>if t then a ρ else b ρ).bind (fun o=>jo o ms)=_
 unfold km
 cases c ρ with
 | none=>rfl
 | some t=>cases t <;> rfl
theorem z7{a b:aa->Option Out}:am (am a b) ms ρ=am a (am b ms) ρ:=by
 unfold am
 cases a ρ with
 | none=>rfl
 | some o=>cases o <;> rfl
theorem z8{m:aa->Option D}:am (bM m) ms ρ=(m ρ).bind fun d=>kj d (some (.ret d)):=by
 unfold am bM kj
 cases m ρ with
 | none=>rfl
 | some d=>simp only[Option.bind_some];split <;> rfl
theorem z9:am (lz x) ms ρ=(ρ (Str.ofString x)).map fun d=>.ret d.frz:=by
 unfold am lz
 cases ρ (Str.ofString x) <;> rfl
theorem uU{t:Tg}{mi:aa->Option (List D)}{mb:aa->Option Out}:am (gc t mi mb) ms ρ=(mi ρ).bind fun ds=>(bY t mb ds ρ).bind fun o=>jo o ms:=by
 unfold am gc;cases mi ρ <;> rfl
theorem AA{c:aa->Option Bool}{mb:aa->Option Out}{n:Nat}:am (eE c mb n) ms ρ=(eE c mb n ρ).bind fun o=>jo o ms:=id rfl
theorem AB{m:aa->Option D}:am (lA m) ms ρ=(m ρ).bind fun d=>km d.isNone (ms ρ) none:=by
 unfold am lA km
 cases m ρ with
 | none=>rfl
 | some d=>simp only[Option.bind_some];split <;> rfl
theorem AC{mi me:aa->Option D}:am (fF x mi me) ms ρ=(me ρ).bind fun d=>(mi ρ).bind fun j=>(nH ρ x d j (ρ (Str.ofString x))).bind fun o=>jo o ms:=by
 show(fF x mi me ρ).bind (fun o=>jo o ms)=_
 rw[uz]
 cases me ρ with
 | none=>rfl
 | some d=>cases mi ρ <;> rfl
variable {a b c d e f:aa->Option D} {Φ:List D->Option D}
theorem AD{ds:List D}(h:ds.all D.clean=true):iU Φ ds=Φ ds:=by
 unfold iU
 rw[lm h,h]
 cases Φ ds <;> rfl
theorem AE{ds:List D}(h:ds.all D.clean=false):iU Φ ds=(Φ (ds.map D.frz)).bind fun r=>uS r.flat (some r) none:=by
 unfold iU uS
 rw[h];rfl
end
theorem qv{α:Type}{g:α->D}{t:Tg}{mb:aa->Option Out}:∀(xs:List α) (I:Nat->aa->Prop) {ρ:aa},I 0 ρ->(∀i x ρ,xs[i]? = some x->I i ρ->∃ ρ',(cO t (g x) ρ).bind mb=some (.next ρ')∧I (i+1) ρ')->
  ∃ ρ',bY t mb (xs.map g) ρ=some (.next ρ')∧I xs.length ρ'
 | [],I,ρ,h0,_=>⟨ρ,rfl,h0⟩
 | x :: xs,I,ρ,h0,step=>by
  obtain⟨ρ',e,h1⟩:=step 0 x ρ rfl h0
  obtain⟨ρ1,e1,e2⟩:=Option.bind_eq_some_iff.mp e
  obtain⟨ρ2,e3,h2⟩:=qv (g:=g) (t:=t) (mb:=mb) xs (fun i=>I (i+1)) h1 fun i y ρ hy hi=>step (i+1) y ρ (by simpa using hy) hi
  refine⟨ρ2,?_,h2⟩
  simp only[List.map_cons,bY,e1,e2,Option.bind_some,e3]
theorem AF{z:Str}{mb:aa->Option Out}{n:Nat}(I:Nat->aa->Prop){ρ:aa}(h0:I 0 ρ)(step:∀(i:Nat) ρ,i < n->I i ρ->∃ ρ',mb (ah ρ z (.int (i:Int)))=some (.next ρ')∧I (i+1) ρ'):
  ∃ ρ',bY (.one z) mb (ca 0 n) ρ=some (.next ρ')∧I n ρ':=by
 have:=qv (g:=fun(i:Nat)=>D.int (0+(i:Int))) (t:=.one z) (mb:=mb) (List.range n) I h0 fun i x ρ hx hi=>by
  obtain⟨hl,hx⟩:=List.getElem?_eq_some_iff.mp hx
  simp at hx hl
  subst hx
  obtain⟨ρ',e,h1⟩:=step i ρ hl hi
  exact⟨ρ',by simp only[gH,Option.bind_some,Int.zero_add];exact e,h1⟩
 simpa [ca] using this
theorem gI{α:Type}{g:α->D}{t:Tg}{mc:aa->Option Bool}{me:aa->Option D}{ρ:aa}(p:α->Bool)(f:α->D):∀(xs:List α),(∀x∈xs,∃ ρ1,cO t (g x) ρ=some ρ1∧mc ρ1=some (p x)∧(p x=true->me ρ1=some (f x)∧(f x).clean=true))->
  cX t mc me (xs.map g) ρ=some ((xs.filter p).map f)
 | [],_=>rfl
 | x :: xs,h=>by
  obtain⟨ρ1,e1,e2,e3⟩:=h x (.head _)
  have ih:=gI (g:=g) (t:=t) (mc:=mc) (me:=me) (ρ:=ρ) p f xs fun y hy=>h y (.tail _ hy)
  simp only[List.map_cons,cX,e1,e2,Option.bind_some]
  cases hp:p x with
  | false=>simp only[Bool.false_eq_true,if_false,ih,List.filter_cons,hp]
  | true=>
   obtain⟨e4,e5⟩:=e3 hp
   simp only[if_true,e4,Option.bind_some,e5,ih,Option.map_some,List.filter_cons,hp,List.map_cons]
theorem iz{l:List D}{i:Int}(h0:0≤i)(h1:i < 9223372036854775808):bf (.tup l) (.int i)=l[i.toNat]? := by
 simp only[bf,uO,Option.bind_some]
 rw[if_pos ⟨by omega,h1⟩,if_neg (by omega)]
theorem lX{l:List D}{i:Int}(h0:0≤i)(h1:i < 9223372036854775808):bf (.list l) (.int i)=l[i.toNat]? := by
 simp only[bf,ki,Option.bind_some]
 rw[if_pos ⟨by omega,h1⟩,if_neg (by omega)]
theorem AG{l:List D}{i:Int}(h0:0≤i)(h1:i < 9223372036854775808):bf (.own l) (.int i)=l[i.toNat]? := by
 simp only[bf,zW,Option.bind_some]
 rw[if_pos ⟨by omega,h1⟩,if_neg (by omega)]
noncomputable abbrev J:Type:=Int × Int × Int
noncomputable def jd(j:J):D:=.tup [.int j.1,.int j.2.1,.int j.2.2]
theorem dc{j:J}:bf (jd j) (.int 0)=some (.int j.1):=iz (by omega) (by omega)
theorem fh{j:J}:bf (jd j) (.int 1)=some (.int j.2.1):=iz (by omega) (by omega)
theorem dn{j:J}:bf (jd j) (.int 2)=some (.int j.2.2):=iz (by omega) (by omega)
theorem fO{j:J}:(jd j).clean=true:=rfl
theorem AH{j:J}:(jd j).flat=true:=by simp[jd,D.flat,D.flats]
noncomputable def bw(j:J):Prop:=0≤j.1∧1≤j.2.1∧j.1 < j.2.2∧j.1 < 10 ^ 60∧j.2.1 < 10 ^ 60∧j.2.2 < 10 ^ 60
section
variable {ρ:aa} {x y:String} {a b c:aa->Option D} {d e z:D} {ms:aa->Option Out} {r:Option Out}
theorem vV(h:ρ (Str.ofString x)=some d):eV x ρ=some d:=h
theorem br{f:D->D->Option D}(h1:a ρ=some d)(h2:b ρ=some e)(h3:f d e=some z):aE f a b ρ=some z:=by unfold aE;rw[h1,au,h2,au,h3]
theorem gJ{f:D->D->Option Bool}{t:Bool}(h1:a ρ=some d)(h2:b ρ=some e)(h3:f d e=some t):gy f a b ρ=some (.bool t):=by unfold gy;rw[h1,au,h2,au,h3];rfl
theorem aH{f:D->D->Option Bool}{t:Bool}(h1:a ρ=some d)(h2:b ρ=some e)(h3:f d e=some t):aK f a b ρ=some t:=by unfold aK;rw[h1,au,h2,au,h3]
theorem lY{f g:D->D->Option Bool}{t:Bool}(h1:a ρ=some d)(h2:b ρ=some e)(h3:f d e=some true)(h4:c ρ=some z)(h5:g e z=some t):eU f g a b c ρ=some t:=by unfold eU;rw[h1,au,h2,au,h3,au,if_pos rfl,h4,au,h5]
variable {m n:aa->Option Bool} {t:Bool}
theorem qw(h:m ρ=some false):b8 m ρ=some true:=by unfold b8;rw[h];rfl
theorem df(h:m ρ=some true):b8 m ρ=some false:=by unfold b8;rw[h];rfl
theorem eP(h:m ρ=some true)(k:n ρ=some t):dh m n ρ=some t:=by unfold dh;rw[h];exact k
theorem gm(h:m ρ=some false):dh m n ρ=some false:=by unfold dh;rw[h];rfl
theorem hU(h:m ρ=some true):aV m n ρ=some true:=by unfold aV;rw[h];rfl
theorem bz(h:m ρ=some false)(k:n ρ=some t):aV m n ρ=some t:=by unfold aV;rw[h];exact k
theorem cC(h:a ρ=some d)(k:d.truth? = some t):cQ a ρ=some t:=by unfold cQ;rw[h];exact k
theorem jr(h:a ρ=some d)(k:d.truth? = some true)(l:b ρ=some e):f8 a b ρ=some e:=by unfold f8;rw[h,au,k];exact l
theorem AI(h:a ρ=some d)(k:d.truth? = some false):f8 a b ρ=some d:=by unfold f8;rw[h,au,k];rfl
theorem qx(h:a ρ=some d)(k:d.truth? = some t):ly a ρ=some (.bool (!t)):=by unfold ly;rw[h,au,k];rfl
theorem AJ(h:m ρ=some true)(k:a ρ=some d):gZ m a b ρ=some d:=by unfold gZ;rw[h];exact k
theorem uV(h:m ρ=some false)(k:b ρ=some d):gZ m a b ρ=some d:=by unfold gZ;rw[h];exact k
theorem qy{i:Int}(h:a ρ=some (.int i)):i4 a ρ=some (.int (-i)):=by unfold i4;rw[h];rfl
theorem aN(h:a ρ=some d)(k:b ρ=some e)(l:bf d e=some z):aq a b ρ=some z:=by unfold aq;rw[h,au,k];exact l
variable {es:aa->Option (List D)} {ds us vs:List D} {Φ:List D->Option D}
theorem aF:ak ρ=some []:=id rfl
theorem aB(h:a ρ=some d)(k:es ρ=some ds):ae a es ρ=some (d :: ds):=by unfold ae;rw[h,au,k];rfl
theorem cK(h:es ρ=some ds)(k:ds.all D.clean=true):aS es ρ=some (.tup ds):=by unfold aS;rw[h,au,if_pos k]
theorem bH(h:es ρ=some ds)(k:ds.all D.clean=true)(l:Φ ds=some d):aT Φ es ρ=some d:=by unfold aT;rw[h,au,AD k,l]
theorem nO(h:es ρ=some ds)(k:ds.all D.clean=false)(l:Φ (ds.map D.frz)=some d)(n:d.flat=true):aT Φ es ρ=some d:=by unfold aT;rw[h,au,AE k,l,au,n];rfl
theorem bq(h:es ρ=some ds)(l:Φ ds=some d):bu Φ es ρ=some d:=by unfold bu;rw[h,au,l]
theorem hY{T:String}(h:a ρ=some d)(k:d.isRef=false):cH T a ρ=some (.bool (lw T d)):=by unfold cH;rw[h,au,k];rfl
variable {l l':aa->Option (List D)}
theorem vL(h:l ρ=some ds):eL l ρ=some (.list ds):=by unfold eL;rw[h];rfl
theorem cu(h:es ρ=some ds)(k:ds.all D.clean=true):bB es ρ=some ds:=by unfold bB;rw[h,au,if_pos k]
theorem eu(h1:a ρ=some d)(h2:b ρ=some e)(h3:d.items? = some us)(h4:e.items? = some vs)(h5:us.length+vs.length≤16777216):dy a b ρ=some (us++vs):=by unfold dy;rw[h1,au,h2,au,h3,au,h4,au,if_pos h5]
theorem jt{k:Int}(h1:a ρ=some d)(h2:b ρ=some (.int k))(h3:d.items? = some us)(h4:us.length≤16777216):di a dN (co b) ρ=some (b7 us none (some k)):=by
 rw[qr,h1,au,uB,au,nM,h2,au,nK,au,h3,au,if_pos h4]
theorem ju{k:Int}(h1:a ρ=some d)(h2:b ρ=some (.int k))(h3:d.items? = some us)(h4:us.length≤16777216):di a (co b) dN ρ=some (b7 us (some k) none):=by
 rw[qr,h1,au,nM,h2,au,nK,au,uB,au,h3,au,if_pos h4]
theorem qz(h1:a ρ=some d)(h2:cZ d=some us)(h3:us.length≤16777216):ij a ρ=some us:=by rw[zE,h1,au,h2,au,if_pos h3]
theorem AK{k:Int}(h1:a ρ=some d)(h2:b ρ=some (.int k))(h3:d.items? = some us)(h4:us.length≤1000∧0≤k∧k≤1000):jP a b ρ=some (List.replicate k.toNat us).flatten:=by rw[zC,h1,au,h2,au,h3,au,zD,if_pos h4]
theorem iA{tg:Tg}(h1:l ρ=some ds)(h2:cX tg m a ds ρ=some us):dJ tg l m a ρ=some us:=by rw[zI,h1,au,h2]
theorem iS{fz:Bool}(h1:a ρ=some d)(h2:ik fz d=some us)(h3:us.length≤16777216):dO fz a ρ=some us:=by rw[zF,h1,au,h2,au,if_pos h3]
theorem iR{k:Int}(h1:a ρ=some (.int k))(h2:k≤16777216∧-16777216≤k):dP a ρ=some (ca 0 k.toNat):=by rw[zH,h1,au,zG,if_pos h2]
theorem nP{k:Nat}(h1:a ρ=some (.int (k:Int)))(h2:(k:Int)≤16777216∧-16777216≤(k:Int)):dP a ρ=some (ca 0 k):=by rw[iR h1 h2,Int.toNat_natCast]
theorem AL{ns:List Int}(h1:a ρ=some d)(h2:d.items? = some us)(h3:dw us=some ns):lx a ρ=some (ii ns):=by rw[zB,h1,au,h2,au,h3];rfl
theorem sA(h:a ρ=some d)(k:d.clean=true)(n:ms (ah ρ (Str.ofString x) d)=r):am (aR x a) ms ρ=r:=by rw[zZ,h,au,uQ k,n]
theorem sO(h:l ρ=some ds)(n:ms (ah ρ (Str.ofString x) (.own ds))=r):am (dz x l) ms ρ=r:=by rw[z5,h,au,n]
theorem uW(h:l ρ=some ds)(n:ms (ah ρ (Str.ofString x) (.list ds))=r):am (f9 x l) ms ρ=r:=by rw[z6,h,au,n]
variable {sa sb:aa->Option Out}
theorem sT(h:m ρ=some true)(n:am sa ms ρ=r):am (b5 m sa sb) ms ρ=r:=by rw[uT,h,au,uR,n]
theorem sF(h:m ρ=some false)(n:am sb ms ρ=r):am (b5 m sa sb) ms ρ=r:=by rw[uT,h,au,zY,n]
theorem dS(n:am sa (am sb ms) ρ=r):am (am sa sb) ms ρ=r:=by rw[z7,n]
theorem sP(n:ms ρ=r):am aL ms ρ=r:=n
theorem sE:aL ρ=some (.next ρ):=id rfl
theorem sR(h:a ρ=some d)(k:d.clean=true):am (bM a) ms ρ=some (.ret d):=by rw[z8,h,au,uQ k]
theorem AN(h:ρ (Str.ofString x)=some (.own us)):am (lz x) ms ρ=some (.ret (.list us)):=by rw[z9,h];rfl
theorem jv{tg:Tg}{mb:aa->Option Out}{ρ':aa}(h:l ρ=some ds)(k:bY tg mb ds ρ=some (.next ρ'))(n:ms ρ'=r):am (gc tg l mb) ms ρ=r:=by rw[uU,h,au,k,au,qq,n]
theorem uX{tg:Tg}{mb:aa->Option Out}(h:l ρ=some ds)(k:bY tg mb ds ρ=some (.ret d)):am (gc tg l mb) ms ρ=some (.ret d):=by rw[uU,h,au,k,au,zy]
theorem sW{mb:aa->Option Out}{ρ':aa}{k:Nat}(h:eE m mb k ρ=some (.next ρ'))(n:ms ρ'=r):am (eE m mb k) ms ρ=r:=by rw[AA,h,au,qq,n]
theorem sX(h:a ρ=some .none)(n:ms ρ=r):am (lA a) ms ρ=r:=by rw[AB,h,au,zT,uR,n]
theorem lZ{k:Int}(h:b ρ=some d)(i:a ρ=some (.int k))(v:ρ (Str.ofString x)=some (.own us))(c:d.clean=true)(l:0≤k∧k < us.length∧k < 9223372036854775808)(n:ms (ah ρ (Str.ofString x) (.own (us.set k.toNat d)))=r):am (fF x a b) ms ρ=r:=by rw[AC,h,au,i,au,v,uA,if_pos ⟨c,l⟩,au,qq,n]
theorem cT{ns:List Str}{mm:aa->Option Out}(h:ds.length=ns.length)(k:mm (bK ns ds)=some (.ret d)):cG ns mm ds=some d:=by rw[uE,if_pos h,k];rfl
theorem AO{ns:List Str}{mm:aa->Option Out}{ρ':aa}(h:ds.length=ns.length)(k:mm (bK ns ds)=some (.next ρ')):cG ns mm ds=some .none:=by rw[uE,if_pos h,k];rfl
theorem uN{o:Option D}(h:(x==y)=false)(k:ρ (Str.ofString x)=o):ah ρ (Str.ofString y) d (Str.ofString x)=o:=(zJ h).trans k
theorem bN{ns:List Str}{o:Option D}(h:(x==y)=false)(k:bK ns ds (Str.ofString x)=o):bK (Str.ofString y :: ns) (d :: ds) (Str.ofString x)=o:=(zK h).trans k
end
section
variable {i j:Int}
theorem gp(h:i < j):cw (.int i) (.int j)=some true:=by rw[uG,kn h]
theorem fi(h:¬i < j):cw (.int i) (.int j)=some false:=by rw[uG,kq h]
theorem fP(h:j < i):cy (.int i) (.int j)=some true:=by rw[lW,kn h]
theorem jw(h:¬j < i):cy (.int i) (.int j)=some false:=by rw[lW,kq h]
theorem hZ(h:i≤j):dv (.int i) (.int j)=some true:=by rw[uH,kn h]
theorem qA(h:¬i≤j):dv (.int i) (.int j)=some false:=by rw[uH,kq h]
theorem ku(h:j≤i):eT (.int i) (.int j)=some true:=by rw[uI,kn h]
theorem jx(h:¬j≤i):eT (.int i) (.int j)=some false:=by rw[uI,kq h]
theorem gq(h:i=j):bj (.int i) (.int j)=some true:=by rw[uJ,kn h]
theorem fQ(h:¬i=j):bj (.int i) (.int j)=some false:=by rw[uJ,kq h]
theorem AP(h:¬i=j):bc (.int i) (.int j)=some true:=by rw[uL,kq h];rfl
theorem kv(h:i=j):bc (.int i) (.int j)=some false:=by rw[uL,kn h];rfl
theorem h7(h:-18446744073709551616 < i∧i < 18446744073709551616):dK (.int i) (.int j)=some (.int (i*j)):=zP h.1 h.2
theorem uY(h:-18446744073709551616 < j∧j < 18446744073709551616):dK (.int i) (.int j)=some (.int (i*j)):=zQ h.1 h.2
theorem nQ{l:List D}(h:l.length < 9223372036854775808):bg [.list l]=some (.int l.length):=by rw[uP,ki,au,if_pos h]
end
theorem nR:fE .none .none=some true:=id rfl
theorem md{i:Int}:fE (.int i) .none=some false:=id rfl
theorem qB:i3 .none .none=some false:=id rfl
theorem uZ{i:Int}:i3 (.int i) .none=some true:=id rfl
theorem aY:([]:List D).all D.clean=true:=id rfl
theorem aW{d:D}{ds:List D}(h:d.clean=true)(k:ds.all D.clean=true):(d :: ds).all D.clean=true:=by rw[List.all_cons,h,k];rfl
theorem cL{i j:Int}(h:0 < j):bp (.int i) (.int j)=some (.int (i.fmod j)):=zS h
theorem fj{i j:Int}(h:0 < j∧j < 1073741824):cY (.int i) (.int j)=some (.int (i.fdiv j)):=zR h.1 h.2
noncomputable abbrev N(a b:String):Prop:=(a==b)=false
noncomputable abbrev Z0:="_law_begin"
noncomputable abbrev Z1:="_law_job"
noncomputable abbrev Z2:="_law_jobs"
noncomputable abbrev Z3:="_law_place"
noncomputable abbrev Z4:="_law_book"
noncomputable abbrev Z5:="_law_after"
noncomputable abbrev Z6:="_law_come"
noncomputable abbrev Z7:="_law_found"
noncomputable abbrev Z8:="_law_held"
noncomputable abbrev Z9:="_law_k"
noncomputable abbrev h8:="_law_mix"
noncomputable abbrev gr:="_law_books"
noncomputable abbrev dT:="_law_cell"
noncomputable abbrev fk:="_law_kept"
noncomputable abbrev mf:="_law_listed"
noncomputable abbrev qC:="_law_ones"
noncomputable abbrev jy:="_law_told"
noncomputable abbrev iB:="_law_which"
noncomputable abbrev fo:="_law_wide"
noncomputable abbrev qD:="_law_count"
noncomputable abbrev nT:="_law_end"
noncomputable abbrev u0:="e"
noncomputable abbrev mh:="_law_left"
noncomputable abbrev nU:="_law_now"
noncomputable abbrev nV:="_law_piece"
noncomputable abbrev mj:="_law_script"
noncomputable abbrev qE:="_law_pieces"
noncomputable abbrev kx:="begin"
noncomputable abbrev nW:="piece"
noncomputable abbrev eQ:="pieces"
noncomputable abbrev fq:="place"
noncomputable abbrev nX:="best"
noncomputable abbrev u3:="done"
noncomputable abbrev fR:="end"
noncomputable abbrev dU:="jobs"
noncomputable abbrev gt:="left"
noncomputable abbrev nY:="found"
noncomputable abbrev qF:="job"
noncomputable abbrev mq:="self"
noncomputable abbrev u4:="places"
noncomputable abbrev ky:="stop"
noncomputable abbrev fS:="time"
noncomputable abbrev u5:="more"
noncomputable abbrev AQ:="come"
noncomputable abbrev AR:="comes"
theorem qG:N Z0 Z1:=by decide
theorem u6:N Z0 Z2:=by decide
theorem AS:N Z0 Z3:=by decide
theorem nZ:N Z4 Z5:=by decide
theorem mw:N Z4 Z6:=by decide
theorem qH:N Z4 Z7:=by decide
theorem kz:N Z4 Z8:=by decide
theorem iC:N Z4 Z1:=by decide
theorem n6:N Z4 Z2:=by decide
theorem kA:N Z4 Z9:=by decide
theorem n7:N Z4 h8:=by decide
theorem iD:N Z4 Z3:=by decide
theorem AT:N gr Z5:=by decide
theorem u7:N gr dT:=by decide
theorem mx:N gr Z8:=by decide
theorem u8:N gr Z9:=by decide
theorem n8:N gr fk:=by decide
theorem u9:N gr mf:=by decide
theorem AU:N gr qC:=by decide
theorem qI:N gr jy:=by decide
theorem vd:N gr iB:=by decide
theorem kB:N gr fo:=by decide
theorem qJ:N dT Z5:=by decide
theorem jz:N dT Z4:=by decide
theorem qK:N dT Z6:=by decide
theorem gu:N dT Z8:=by decide
theorem ve:N dT Z1:=by decide
theorem n9:N dT Z9:=by decide
theorem AV:N dT fk:=by decide
theorem vf:N dT h8:=by decide
theorem kC:N dT Z3:=by decide
theorem AW:N dT jy:=by decide
theorem AX:N dT iB:=by decide
theorem AY:N qD Z4:=by decide
theorem AZ:N qD dT:=by decide
theorem A0:N qD Z8:=by decide
theorem vg:N nT Z0:=by decide
theorem vh:N nT Z1:=by decide
theorem vj:N nT Z2:=by decide
theorem A1:N nT Z3:=by decide
theorem vk:N Z7 Z1:=by decide
theorem A2:N Z7 Z2:=by decide
theorem qL:N Z8 Z5:=by decide
theorem iE:N Z8 Z4:=by decide
theorem vm:N Z8 dT:=by decide
theorem qM:N Z8 Z6:=by decide
theorem vn:N Z8 Z7:=by decide
theorem oa:N Z8 Z1:=by decide
theorem og:N Z8 Z9:=by decide
theorem oh:N Z8 fk:=by decide
theorem qN:N Z8 mf:=by decide
theorem vp:N Z8 h8:=by decide
theorem A3:N Z8 qC:=by decide
theorem kD:N Z8 Z3:=by decide
theorem qP:N Z8 jy:=by decide
theorem vq:N Z8 iB:=by decide
theorem qQ:N Z8 fo:=by decide
theorem qR:N Z8 u0:=by decide
theorem A4:N Z1 Z5:=by decide
theorem vr:N Z1 Z4:=by decide
theorem vt:N Z1 Z7:=by decide
theorem vv:N Z1 Z8:=by decide
theorem A5:N Z1 Z3:=by decide
theorem vw:N Z2 mh:=by decide
theorem vx:N Z2 nU:=by decide
theorem vy:N Z2 nV:=by decide
theorem qS:N Z9 Z5:=by decide
theorem vz:N Z9 Z6:=by decide
theorem qT:N Z9 Z8:=by decide
theorem vA:N Z9 Z1:=by decide
theorem A6:N Z9 mf:=by decide
theorem vB:N Z9 h8:=by decide
theorem A7:N Z9 Z3:=by decide
theorem qU:N Z9 mj:=by decide
theorem A9:N fk Z5:=by decide
theorem BA:N fk dT:=by decide
theorem BB:N fk Z8:=by decide
theorem BC:N fk Z9:=by decide
theorem vC:N fk mf:=by decide
theorem BD:N fk jy:=by decide
theorem BE:N fk iB:=by decide
theorem vD:N mh nU:=by decide
theorem BF:N mh nV:=by decide
theorem oi:N h8 Z5:=by decide
theorem oj:N h8 Z6:=by decide
theorem BG:N h8 Z8:=by decide
theorem qV:N h8 Z1:=by decide
theorem BH:N h8 Z3:=by decide
theorem BI:N nU nV:=by decide
theorem BJ:N nV mh:=by decide
theorem BK:N qE Z2:=by decide
theorem BL:N qE mh:=by decide
theorem BM:N qE nU:=by decide
theorem BN:N Z3 Z4:=by decide
theorem qW:N Z3 Z7:=by decide
theorem om:N Z3 Z1:=by decide
theorem oq:N Z3 Z2:=by decide
theorem BO:N Z3 Z9:=by decide
theorem vE:N Z3 u0:=by decide
theorem BP:N mj gr:=by decide
theorem iF:N mj Z8:=by decide
theorem BQ:N mj fk:=by decide
theorem gK:N mj fo:=by decide
theorem BR:N jy qC:=by decide
theorem BU:N iB Z5:=by decide
theorem vF:N iB fk:=by decide
theorem vG:N iB jy:=by decide
theorem BV:N fo Z5:=by decide
theorem BW:N fo Z4:=by decide
theorem qX:N fo dT:=by decide
theorem BX:N fo Z6:=by decide
theorem vH:N fo Z8:=by decide
theorem BY:N fo Z9:=by decide
theorem qY:N fo fk:=by decide
theorem vI:N fo mf:=by decide
theorem vJ:N fo jy:=by decide
theorem vK:N fo iB:=by decide
theorem ot:N kx nW:=by decide
theorem ou:N kx eQ:=by decide
theorem ow:N kx fq:=by decide
theorem ox:N nX fq:=by decide
theorem BZ:N u3 fq:=by decide
theorem kF:N fR kx:=by decide
theorem qZ:N fR dU:=by decide
theorem q8:N fR gt:=by decide
theorem kG:N fR nW:=by decide
theorem gL:N fR eQ:=by decide
theorem oy:N fR fq:=by decide
theorem B0:N nY nW:=by decide
theorem my:N qF mq:=by decide
theorem vM:N dU kx:=by decide
theorem rc:N dU nX:=by decide
theorem B2:N dU u3:=by decide
theorem mz:N dU fR:=by decide
theorem B3:N dU nY:=by decide
theorem oz:N dU gt:=by decide
theorem oA:N dU nW:=by decide
theorem kH:N dU eQ:=by decide
theorem dp:N dU fq:=by decide
theorem B4:N dU u4:=by decide
theorem oB:N dU ky:=by decide
theorem mB:N dU fS:=by decide
theorem vN:N gt nX:=by decide
theorem re:N gt fR:=by decide
theorem vO:N gt dU:=by decide
theorem oD:N gt eQ:=by decide
theorem fu:N gt fq:=by decide
theorem oE:N gt ky:=by decide
theorem mC:N gt fS:=by decide
theorem B5:N u5 nY:=by decide
theorem vP:N eQ kx:=by decide
theorem oF:N eQ fR:=by decide
theorem vQ:N eQ dU:=by decide
theorem rf:N eQ gt:=by decide
theorem mD:N eQ fq:=by decide
theorem vR:N eQ u4:=by decide
theorem oG:N eQ ky:=by decide
theorem mE:N eQ fS:=by decide
theorem oH:N fq fR:=by decide
theorem B6:N fq qF:=by decide
theorem jA:N fq eQ:=by decide
theorem kI:N fq mq:=by decide
theorem oI:N fq ky:=by decide
theorem B7:N mq nY:=by decide
theorem B8:N mq qF:=by decide
theorem CA:N mq u5:=by decide
theorem rg:N ky fR:=by decide
theorem vS:N fS nX:=by decide
theorem CB:N fS AQ:=by decide
theorem CC:N fS AR:=by decide
theorem rh:N fS fR:=by decide
theorem vT:N fS dU:=by decide
theorem vU:N fS gt:=by decide
theorem rj:N fS eQ:=by decide
theorem gP:N fS fq:=by decide
theorem rk:N fS ky:=by decide
theorem CD:(0:Int) < 2∧(2:Int) < 1073741824:=by decide
theorem vW:(0:Int) < 4∧(4:Int) < 1073741824:=by decide
theorem kJ:(0:Int) < 9∧(9:Int) < 1073741824:=by decide
theorem vX:(0:Int) < 40∧(40:Int) < 1073741824:=by decide
theorem CE:(0:Int) < 64∧(64:Int) < 1073741824:=by decide
theorem CF:(0:Int) < 270∧(270:Int) < 1073741824:=by decide
theorem vY:(0:Int) < 360∧(360:Int) < 1073741824:=by decide
theorem CG:(0:Int) < 1350∧(1350:Int) < 1073741824:=by decide
theorem vZ:(0:Int) < 5040∧(5040:Int) < 1073741824:=by decide
theorem CH:(0:Int) < 2:=by decide
theorem jB:(0:Int) < 4:=by decide
theorem CI:(0:Int) < 5:=by decide
theorem CJ:(0:Int) < 6:=by decide
theorem iG:(0:Int) < 9:=by decide
theorem CK:(0:Int) < 10:=by decide
theorem oJ:(0:Int) < 11:=by decide
theorem v4:(0:Int) < 14:=by decide
theorem CL:(0:Int) < 24:=by decide
theorem CM:(0:Int) < 30:=by decide
theorem v5:(0:Int) < 40:=by decide
theorem v6:(0:Int) < 60:=by decide
theorem kL:(0:Int) < 64:=by decide
theorem v7:(0:Int) < 2147483647:=by decide
theorem oK:-18446744073709551616 < (2:Int)∧(2:Int) < 18446744073709551616:=by decide
theorem v8:-18446744073709551616 < (7:Int)∧(7:Int) < 18446744073709551616:=by decide
theorem v9:-18446744073709551616 < (48271:Int)∧(48271:Int) < 18446744073709551616:=by decide
theorem wb{z:Str}(q:aU z=true):∃b,z=ag b:=by
 unfold aU at q
 split at q
 .rename_i c hc
  have hq:=of_decide_eq_true q
  have e:z.cps=#[c]:=by rw[← Array.toList_inj];exact hc
  refine⟨c - 1114112,?_⟩
  cases z
  simp only at e
  subst e
  unfold ag
  rw[show 1114112+(c - 1114112)=c by omega]
 .cases q
theorem oL:∀ {ps:List J},D.flats (ps.map jd)=true
 | []=>zU
 | p :: ps=>by rw[List.map_cons,zV,AH,oL];rfl
section
variable {ρ ρ':aa} {x y:String} {a b c:aa->Option D} {d e z:D} {m n:aa->Option Bool} {t:Bool} {l:aa->Option (List D)} {ds us vs:List D} {es:aa->Option (List D)}
theorem kM{ms:aa->Option Out}(h:l ρ=some ds):am (jb l) ms ρ=some (.retF ds):=by unfold am jb;rw[h];rfl
theorem CN{ms:aa->Option Out}(h:ρ (Str.ofString x)=some (.own us)):am (nr x) ms ρ=some (.retF us):=by unfold am nr;rw[h];rfl
theorem wc{ns:List Str}{mm:aa->Option Out}(h:ds.length=ns.length)(k:mm (bK ns ds)=some (.retF us)):ja ns mm ds=some us:=by unfold ja;rw[if_pos h,k];rfl
theorem CO{Φ:List D->Option (List D)}(h:es ρ=some ds)(k:ds.all D.clean=true)(n:Φ ds=some us):ir Φ es ρ=some us:=by
 unfold ir;rw[h,au,lm k,n,au,k];rfl
theorem kN{Φ:List D->Option (List D)}(h:es ρ=some ds)(n:Φ (ds.map D.frz)=some us)(k:D.flats us=true):ir Φ es ρ=some us:=by
 unfold ir;rw[h,au,n,au,k,Bool.or_true];rfl
theorem CP{i j:Int}(h1:a ρ=some d)(h2:b ρ=some (.int i))(h3:c ρ=some (.int j))(h4:d.items? = some us)(h5:us.length≤16777216):di a (co b) (co c) ρ=some (b7 us (some i) (some j)):=by
 rw[qr,h1,au,nM,h2,au,nK,au,nM,h3,au,nK,au,h4,au,if_pos h5]
theorem CQ{f g:D->D->Option Bool}(h1:a ρ=some d)(h2:b ρ=some e)(h3:f d e=some false):eU f g a b c ρ=some false:=by unfold eU;rw[h1,au,h2,au,h3];rfl
variable {ms sa sb:aa->Option Ob} {r:Option Ob} {bk b':Addr}
theorem kO{m1:aa->Option Out}(h:m1 ρ=some (.next ρ')):aj (aX m1) ms ρ=ms ρ':=by unfold aj aX;rw[h];rfl
theorem CR(h:a ρ=some d)(k:d.clean=true):aR x a ρ=some (.next (ah ρ (Str.ofString x) d)):=by unfold aR;rw[h,au,if_pos k]
theorem CS(h:l ρ=some ds):dz x l ρ=some (.next (ah ρ (Str.ofString x) (.own ds))):=by unfold dz;rw[h];rfl
theorem CT(h:l ρ=some ds):f9 x l ρ=some (.next (ah ρ (Str.ofString x) (.list ds))):=by unfold f9;rw[h];rfl
theorem bA(h:a ρ=some d)(k:d.clean=true)(n:ms (ah ρ (Str.ofString x) d)=r):aj (aX (aR x a)) ms ρ=r:=(kO (CR h k)).trans n
theorem bO(h:l ρ=some ds)(n:ms (ah ρ (Str.ofString x) (.own ds))=r):aj (aX (dz x l)) ms ρ=r:=(kO (CS h)).trans n
theorem CU(h:l ρ=some ds)(n:ms (ah ρ (Str.ofString x) (.list ds))=r):aj (aX (f9 x l)) ms ρ=r:=(kO (CT h)).trans n
theorem wd(h:a ρ=some d)(k:ρ (Str.ofString x)=some (.own us))(c:d.clean=true)(l:us.length < 16777216)(n:ms (ah ρ (Str.ofString x) (.own (us++[d])))=r):aj (aX (i5 x a)) ms ρ=r:=
 (kO (by rw[zz,h,au,k,zA,if_pos ⟨c,l⟩])).trans n
theorem CV{k:Int}(h:b ρ=some d)(i:a ρ=some (.int k))(v:ρ (Str.ofString x)=some (.own us))(c:d.clean=true)(l:0≤k∧k < us.length∧k < 9223372036854775808)(n:ms (ah ρ (Str.ofString x) (.own (us.set k.toNat d)))=r):aj (aX (fF x a b)) ms ρ=r:=
 (kO (by rw[uz,h,au,i,au,v,uA,if_pos ⟨c,l⟩])).trans n
theorem CW(h:l ρ=some us)(k:a ρ=some d)(i:us.length < 16777216)(n:ms ρ=r):aj (aX (lL l a)) ms ρ=r:=
 (kO (by unfold lL;rw[h,au,k,au,if_pos i])).trans n
variable {cb cb':aa->Option (Bool × aa)} {eb eb':aa->Option (D × aa)}
theorem ew{ta:aa->Option Ob}(n:aj sa (aj ta ms) ρ=r):aj (aj sa ta) ms ρ=r:=by
 rw[← n];unfold aj
 cases sa ρ with
 | none=>rfl
 | some o=>cases o <;> rfl
theorem bT(h:cb ρ=some (true,ρ'))(n:aj sa ms ρ'=r):aj (bC cb sa sb) ms ρ=r:=by rw[← n];unfold aj bC;rw[h];rfl
theorem bF(h:cb ρ=some (false,ρ'))(n:aj sb ms ρ'=r):aj (bC cb sa sb) ms ρ=r:=by rw[← n];unfold aj bC;rw[h];rfl
theorem bP(n:ms ρ=r):aj aG ms ρ=r:=n
theorem bE:aG ρ=some (.next ρ):=id rfl
theorem bR(h:eb ρ=some (d,ρ'))(k:d.clean=true):aj (bn eb) ms ρ=some (.ret d ρ'):=by unfold aj bn;rw[h,au,if_pos k];rfl
theorem jC(h:eb ρ=some (d,ρ'))(k:d.clean=true)(n:ms (ah ρ' (Str.ofString x) d)=r):aj (iq x eb) ms ρ=r:=by rw[← n];unfold aj iq;rw[h,au,if_pos k];rfl
theorem we(h:eb ρ=some (d,ρ'))(n:ms ρ'=r):aj (gA eb) ms ρ=r:=by rw[← n];unfold aj gA;rw[h];rfl
theorem wf(h:b ρ=some d)(k:d.clean=true)(o:a ρ=some (.ref bk))(v:ρ (ag bk)=some e)(n:ms (ah ρ (ag bk) d)=r):aj (lJ a b) ms ρ=r:=by
 rw[← n];unfold aj lJ;rw[h,au,if_pos k,o,au];simp only[];rw[v];rfl
theorem kP{tg:Tg}{mb:aa->Option Ob}(h:l ρ=some ds)(k:ek tg mb ds ρ=some (.next ρ'))(n:ms ρ'=r):aj (eK tg l mb) ms ρ=r:=by
 rw[← n];unfold aj eK;rw[h,au,k];rfl
theorem CX(h:ρ (Str.ofString x)=some (.own us))(n:aj sa ms (ah ρ (Str.ofString x) (.list us))=r):aj (lN x sa) ms ρ=r:=by
 rw[← n];unfold aj lN;rw[h]
variable {μ:aa->Option String} {hd:String->Option (aa->Option Ob)} {C:String}
theorem wg(h:μ ρ=none)(n:aj sa ms ρ=r):aj (gE μ sa hd) ms ρ=r:=by rw[← n];unfold aj gE;rw[h]
theorem kQ(h:μ ρ=some C)(k:hd C=some sb)(n:aj sb ms ρ=r):aj (gE μ sa hd) ms ρ=r:=by rw[← n];unfold aj gE;rw[h];show((hd C).bind _).bind _=_;rw[k];rfl
theorem CY(h:∀i,a (ah ρ (Str.ofString x) (.ref i))=some d)(k:d.clean=true):aj (jg x a) ms ρ=some (.ret d ρ):=by
 unfold aj jg;rw[h 0,au,if_pos ⟨k,h⟩];rfl
theorem bZ(h:m ρ=some t):bL m ρ=some (t,ρ):=by unfold bL;rw[h];rfl
theorem gQ(h:a ρ=some d):bQ a ρ=some (d,ρ):=by unfold bQ;rw[h];rfl
theorem mF{f:D->D->Option Bool}(h:eb ρ=some (d,ρ'))(k:b ρ'=some e)(l:f d e=some t):gf f eb b ρ=some (t,ρ'):=by unfold gf;rw[h,au,k,au,l];rfl
theorem CZ{p:Bool × aa}(h:cb ρ=some (false,ρ'))(k:cb' ρ'=some p):ip cb cb' ρ=some p:=by rw[← k];unfold ip;rw[h];rfl
theorem C0(h:cb ρ=some (t,ρ')):ni cb ρ=some (.bool t,ρ'):=by unfold ni;rw[h];rfl
theorem C4(h:eb ρ=some (d,ρ'))(k:d.truth? = some true)(l:b ρ'=some e):nj eb b ρ=some (e,ρ'):=by unfold nj;rw[h,au,k,au,if_pos rfl,l];rfl
theorem rm{Φ:aa->List D->Option (D × aa)}(o:a ρ=some (.ref bk))(v:ρ (ag bk)=some e)(h:b ρ=some z)(k:z.clean=true)(n:Φ ρ [.ref bk,z]=some (d,ρ')):bv Φ a b ρ=some (d,cI ρ ρ'):=by
 unfold bv;rw[o,au];simp only[];rw[v,au,h,au,if_pos k,n];rfl
theorem kR{Ψ:aa->List D->Option String}{q:Option String}(o:a ρ=some (.ref bk))(v:ρ (ag bk)=some e)(h:b ρ=some z)(k:z.clean=true)(n:Ψ ρ [.ref bk,z]=q):e8 Ψ a b ρ=q:=by
 unfold e8;rw[o,au];simp only[];rw[v,au,h,au,if_pos k,n]
theorem wh{Φ:aa->List D->Option (List D)}(o:a ρ=some (.ref bk))(v:ρ (ag bk)=some e)(n:Φ ρ [.ref bk]=some us):c9 Φ a ρ=some us:=by
 unfold c9;rw[o,au];simp only[];rw[v,au,n]
theorem iH(o:a ρ=some (.ref bk))(v:ρ (ag bk)=some d):e7 a ρ=some d:=by unfold e7;rw[o,au,← v]
theorem oM{Φ:aa->List D->Option (D × aa)}(h:es ρ=some ds)(k:ds.all D.clean=true)(n:Φ ρ ds=some (d,ρ')):cf Φ es ρ=some (d,cI ρ ρ'):=by
 unfold cf;rw[h,au,if_pos k,n];rfl
theorem fv{ns:List Str}{mm:aa->Option Ob}(h:ds.length=ns.length)(k:mm (dm ρ ns ds)=some (.ret d ρ')):fJ ns mm ρ ds=some (d,ρ'):=by unfold fJ;rw[if_pos h,k];rfl
theorem wi{ns:List Str}{mm:aa->Option Out}(h:ds.length=ns.length)(k:mm (dm ρ ns ds)=some (.retF us)):jc ns mm ρ ds=some us:=by unfold jc;rw[if_pos h,k];rfl
theorem oN{ns:List Str}{μ:aa->Option String}{q:Option String}(h:ds.length=ns.length)(k:μ (dm ρ ns ds)=q):je ns μ ρ ds=q:=by unfold je;rw[if_pos h,k]
theorem uK{o:Option D}(k:ρ (Str.ofString x)=o):ah ρ (ag bk) d (Str.ofString x)=o:=by
 rw[← k];unfold ah;rw[if_neg fun q=>by have:=gU (s:=x);rw[q,dH] at this;cases this]
theorem kU{o:Option D}(k:ρ (ag bk)=o):ah ρ (Str.ofString x) d (ag bk)=o:=upd_bk.trans k
theorem kK{o:Option D}(h:bk≠b')(k:ρ (ag bk)=o):ah ρ (ag b') d (ag bk)=o:=by
 rw[← k];unfold ah;rw[if_neg fun q=>h (iQ q)]
theorem nE{o:Option D}{ns:List Str}(k:bK ns ds (Str.ofString x)=o):dm ρ ns ds (Str.ofString x)=o:=by
 rw[← k];unfold dm;rw[gU];rfl
theorem kE{o:Option D}{ns:List Str}(k:ρ (ag bk)=o):dm ρ ns ds (ag bk)=o:=entB_key.trans k
theorem mG{σ:aa}(h:∀b,σ (ag b)=ρ (ag b)):cI ρ σ=ρ:=by
 funext z;unfold cI
 by_cases q:aU z=true
 .rw[if_pos q]
  obtain⟨b,rfl⟩:=wb q
  exact h b
 .rw[if_neg q]
theorem wj{σ:aa}(h:∀b,σ (ag b)=ah ρ (ag bk) d (ag b)):cI ρ σ=ah ρ (ag bk) d:=by
 funext z;unfold cI
 by_cases q:aU z=true
 .rw[if_pos q]
  obtain⟨b,rfl⟩:=wb q
  exact h b
 .rw[if_neg q]
  unfold ah
  rw[if_neg fun e=>by rw[e,dH] at q;exact q rfl]
theorem ru{σ:aa}(h:∀b,σ (ag b)=ρ (ag b)):cI ρ (ah σ (ag bk) d)=ah ρ (ag bk) d:=wj fun b=>by
 unfold ah
 split
 .rfl
 .exact h b
theorem rx{σ:aa}{e:D}(h:∀b,σ (ag b)=ρ (ag b)):cI ρ (ah (ah σ (ag bk) d) (Str.ofString x) e)=ah ρ (ag bk) d:=wj fun b=>by
 rw[upd_bk]
 unfold ah
 split
 .rfl
 .exact h b
theorem mH{w:Str}(h:ρ w=some d):ah ρ w d=ρ:=by
 funext z;unfold ah
 split
 .rename_i q;rw[q,h]
 .rfl
variable {p q:aa->Option String} {o:Option String} {so:aa->Option Out} {sc sd:aa->Option Out}
theorem oO(h:m ρ=some true)(k:p ρ=o):im m p q ρ=o:=by unfold im;rw[h];exact k
theorem wm(h:m ρ=some false)(k:q ρ=o):im m p q ρ=o:=by unfold im;rw[h];exact k
theorem C5{C:String}(h:p ρ=some C):i9 p so q ρ=some C:=by unfold i9;rw[h]
theorem C7(h:p ρ=none)(k:so ρ=some (.next ρ'))(l:q ρ'=o):i9 p so q ρ=o:=by unfold i9;rw[h,k];exact l
theorem oP{C:String}:lH C ρ=some C:=id rfl
theorem wn:lG ρ=none:=id rfl
theorem C8{oo:Option Out}(h:m ρ=some false)(k:sd ρ=oo):b5 m sc sd ρ=oo:=by unfold b5;rw[h];exact k
end
noncomputable def cU(ns:List Int):D:=.list (ns.map .int)
noncomputable def fw(ns:List Int)(k:Int):Int:=ns.getD k.toNat 0
theorem oQ{ns:List Int}{k:Int}(hn:ns.length≤63)(hk:0≤k):em [cU ns,.int k]=some (.int (fw ns k)):=by
 have hl:bg [cU ns]=some (.int (ns.length:Int)):=by unfold cU;rw[nQ (by simp;omega),List.length_map]
 refine cT rfl ?_
 unfold ui
 simp only[ay,List.map_cons,List.map_nil]
 by_cases h:k < (ns.length:Int)
 .have e:bf (cU ns) (.int k)=some (.int (fw ns k)):=by
   unfold cU fw
   rw[lX hk (by omega),List.getElem?_map,List.getD_eq_getElem?_getD,List.getElem?_eq_getElem (by omega:k.toNat < ns.length)];rfl
  exact sT (aH (vV (bN qU az)) (bq (aB (vV az) aF) hl) (gp h)) (dS (sR (aN (vV az) (vV (bN qU az)) e) aP))
 .have e:fw ns k=0:=by unfold fw;rw[List.getD_eq_getElem?_getD,List.getElem?_eq_none (by omega)];rfl
  rw[e]
  exact sF (aH (vV (bN qU az)) (bq (aB (vV az) aF) hl) (fi h)) (sP (sR av aP))
theorem dW{a b:Int}(h:0 < b):0≤a.fmod b∧a.fmod b < b:=⟨Int.fmod_nonneg_of_pos _ h,Int.fmod_lt_of_pos _ h⟩
theorem wo:fY (.int 10) (.int 56)=some (.int (10 ^ 56)):=qt (by decide) (by decide) (by decide) (by decide)
theorem wp:(0:Int) < 10 ^ 56:=by decide
theorem C9{a A w W:Int}(h0:0≤a)(h1:a≤A)(h2:0≤w)(h3:w≤W):0≤a*w∧a*w≤A*W:=
 ⟨Int.mul_nonneg h0 h2,Int.mul_le_mul h1 h3 h2 (Int.le_trans h0 h1)⟩
theorem ry{x:Int}(h0:0≤x)(h1:x < 1000):-18446744073709551616 < x∧x < 18446744073709551616:=by omega
theorem wq{a w:Int}(h0:0≤a)(h1:a≤700)(hw:0≤w)(hw':w≤10 ^ 56+1):a*w < 10 ^ 60:=Int.lt_of_le_of_lt (C9 h0 h1 hw hw').2 (by decide)
theorem wt{a w:Int}(h:1≤a)(hw:0≤w):w≤a*w:=by have:=Int.mul_le_mul_of_nonneg_right h hw;rwa [Int.one_mul] at this
theorem wu{l:List D}{i:Int}(h0:0≤i):b7 l none (some i)=l.take i.toNat:=by
 simp only[b7,Option.map_none,Option.getD_none,Option.map_some,Option.getD_some,dM]
 rw[if_neg (by omega)]
 simp only[List.drop_zero,Nat.sub_zero]
 by_cases h:i.toNat≤l.length
 .rw[Nat.min_eq_left h]
 .rw[Nat.min_eq_right (by omega),List.take_of_length_le (Nat.le_refl _),List.take_of_length_le (by omega)]
theorem oR{l:List D}{i:Int}(h0:0≤i):b7 l (some i) none=l.drop i.toNat:=by
 simp only[b7,Option.map_none,Option.getD_none,Option.map_some,Option.getD_some,dM]
 rw[if_neg (by omega)]
 by_cases h:i.toNat≤l.length
 .rw[Nat.min_eq_left h,List.take_of_length_le (by simp)]
 .rw[Nat.min_eq_right (by omega),List.drop_of_length_le (Nat.le_refl _),List.drop_of_length_le (by omega)];simp
set_option maxHeartbeats 4000000 in
theorem DA{i:Int}:lQ [.int i]=some (.bool true):=by
 refine cT rfl ?_
 unfold pW
 simp only[ay,List.map_cons,List.map_nil]
 exact sR (jr (hY (vV az) rfl) rfl (qx (hY (vV az) rfl) rfl)) rfl
theorem oS{i:Int}:iv [.int i]=some (.bool true):=by
 refine cT rfl ?_
 unfold uh
 simp only[ay,List.map_cons,List.map_nil]
 exact sR (jr (hY (vV az) rfl) rfl (qx (hY (vV az) rfl) rfl)) rfl
theorem iI:fY (.int 10) (.int 60)=some (.int (10 ^ 60)):=qt (by decide) (by decide) (by decide) (by decide)
theorem kT{x T:Int}{ρ:aa}(iI:fY (.int 10) (.int 60)=some (.int T))(q1:¬x < 0)(q2:¬T≤x):e9 (ah ρ (Str.ofString "part") (.int x))=some (.next (ah ρ (Str.ofString "part") (.int x))):=by
 have w:=DA (i:=x)
 unfold e9
 exact sF (bz (df (cC (bH (aB (vV an) aF) rfl w) rfl)) (bz (aH (vV an) av (fi q1)) (bz (aH (vV an) (br av av iI) (jx q2)) cJ))) (sP sE)
theorem oT{j:J}(h:bw j):fL [jd j]=some (.bool true):=by
 obtain⟨h1,h2,h3,h4,h5,h6⟩:=h
 have s1:∀ ρ,e9 (ah ρ (Str.ofString "part") (.int j.1))=_:=fun ρ=>kT iI (by omega) (by omega)
 have s2:∀ ρ,e9 (ah ρ (Str.ofString "part") (.int j.2.1))=_:=fun ρ=>kT iI (by omega) (by omega)
 have s3:∀ ρ,e9 (ah ρ (Str.ofString "part") (.int j.2.2))=_:=fun ρ=>kT iI (by omega) (by omega)
 have ne1:("job"=="part")=false:=by decide
 have e:∀ ρ,bY (.one (Str.ofString "part")) e9 [.int j.1,.int j.2.1,.int j.2.2] ρ=some (.next (ah (ah (ah ρ (Str.ofString "part") (.int j.1)) (Str.ofString "part") (.int j.2.1)) (Str.ofString "part") (.int j.2.2))):=fun ρ=>by
  simp only[bY,gH,au,s1,s2,s3]
 refine cT rfl ?_
 unfold jZ
 simp only[ay,t1,List.map_cons,List.map_nil]
 have g:∀ {o},bK [Str.ofString "job"] [jd j] (Str.ofString "job")=o->ah (ah (ah (bK [Str.ofString "job"] [jd j]) (Str.ofString "part") (.int j.1)) (Str.ofString "part") (.int j.2.1)) (Str.ofString "part") (.int j.2.2) (Str.ofString "job")=o:=fun h=>uN ne1 (uN ne1 (uN ne1 h))
 exact sF (bz (df (cC (hY (vV az) rfl) rfl)) (bz (aH (bq (aB (vV az) aF) (show bg [jd j]=some (.int 3) from rfl)) av (kv rfl)) cJ)) (sP (jv (iS (vV az) (show ik true (jd j)=some [.int j.1,.int j.2.1,.int j.2.2] from rfl) (by simp)) (e _) (sR (jr (gJ (aN (vV (g az)) av fh) av (ku h2)) rfl (gJ (aN (vV (g az)) av dn) (aN (vV (g az)) av dc) (fP h3))) rfl)))
theorem DB{js:List J}(hl:js.length≤60)(h:∀j∈js,bw j):pY [.list (js.map jd)]=some .none:=by
 have ln:bg [.list (js.map jd)]=some (.int (js.length:Int)):=by rw[nQ (by simp;omega),List.length_map]
 have q:¬(60:Int) < (js.length:Int):=by omega
 have z:(js.map jd).length≤16777216:=by simp;omega
 obtain⟨ρ,e,_⟩:=qv (g:=jd) (t:=.one (Str.ofString "job")) (mb:=pX) js (fun _ _=>True) (ρ:=bK [Str.ofString "jobs"] [.list (js.map jd)]) trivial fun i x ρ hx _=>by
  have w:=oT (h x (List.mem_of_getElem? hx))
  exact⟨_,by rw[gH,au];unfold pX;exact sF (df (cC (bH (aB (vV an) aF) rfl w) rfl)) (sP sE),trivial⟩
 refine AO (ρ':=ρ) rfl ?_
 unfold t9
 simp only[ay,t1,List.map_cons,List.map_nil]
 exact sF (aH (bq (aB (vV az) aF) ln) av (jw q)) (sP (jv (iS (vV az) gk z) e sE))
theorem rz{j:J}{n:Nat}:(jd j).ok (n+1)=true:=by simp[jd,D.ok]
theorem iJ{js:List J}{n:Nat}:(D.list (js.map jd)).ok (n+2)=true:=by
 simp only[D.ok,List.all_eq_true,List.mem_map]
 rintro d ⟨j,_,rfl⟩
 exact rz
theorem wv{ls:List Int}{n:Nat}:(D.list (ls.map .int)).ok (n+1)=true:=by
 simp only[D.ok,List.all_eq_true,List.mem_map]
 rintro d ⟨j,_,rfl⟩
 simp[D.ok]
theorem rA{i:Int}{n:Nat}:(D.int i).ok n=true:=by cases n <;> rfl
theorem ww{l:List D}{n:Nat}:(D.own l).ok n=(D.list l).ok n:=by cases n <;> rfl
theorem wx{l:List D}:(D.own l).py=(D.list l).py:=by simp[D.py]
theorem wy{d:D}(h:d.ok 8=true):bj d d=some true:=by
 unfold bj
 rw[h,Bool.and_self,if_pos rfl,SeqAt.eqv_refl _ (D.ok_lay 8 d h).1]
theorem kW{d:D}(h:d.ok 8=true):bc d d=some false:=by
 unfold bc
 rw[h,Bool.and_self,if_pos rfl,SeqAt.eqv_refl _ (D.ok_lay 8 d h).1];rfl
theorem DC{l:List D}(h:(D.list l).ok 8=true):bj (.own l) (.list l)=some true:=by
 unfold bj
 rw[ww,h,Bool.and_self,if_pos rfl,wx,SeqAt.eqv_refl _ (D.ok_lay 8 _ h).1]
noncomputable def ar(js:List J)(i:Nat):J:=js.getD i (0,0,0)
noncomputable def aC(ls:List Int)(i:Nat):Int:=ls.getD i 0
theorem wz{js:List J}{i:Nat}(h:i < js.length):js[i]? = some (ar js i):=by
 unfold ar;rw[List.getD_eq_getElem?_getD,List.getElem?_eq_getElem h];rfl
theorem oU{js:List J}{i:Nat}(h:i < js.length):ar js i∈js:=List.mem_of_getElem? (wz h)
theorem wA{ls:List Int}{i:Nat}(h:i < ls.length):ls[i]? = some (aC ls i):=by
 unfold aC;rw[List.getD_eq_getElem?_getD,List.getElem?_eq_getElem h];rfl
theorem jD{js:List J}{i:Nat}(h:i < js.length)(hb:js.length≤1000000):bf (.list (js.map jd)) (.int (i:Int))=some (jd (ar js i)):=by
 rw[lX (by omega) (by omega),List.getElem?_map,Int.toNat_natCast,wz h];rfl
theorem rE{ls:List Int}{i:Nat}(h:i < ls.length)(hb:ls.length≤1000000):bf (.list (ls.map .int)) (.int (i:Int))=some (.int (aC ls i)):=by
 rw[lX (by omega) (by omega),List.getElem?_map,Int.toNat_natCast,wA h];rfl
theorem wB{ls:List Int}{i:Nat}(h:i < ls.length)(hb:ls.length≤1000000):bf (.own (ls.map .int)) (.int (i:Int))=some (.int (aC ls i)):=by
 rw[AG (by omega) (by omega),List.getElem?_map,Int.toNat_natCast,wA h];rfl
noncomputable def eA(js:List J)(ls:List Int)(t:Int)(i:Nat):Bool:=decide (0 < aC ls i)&&decide ((ar js i).1≤t)
noncomputable def fd(js:List J)(ls:List Int)(t:Int):Nat->Option Nat
 | 0=>none
 | n+1=>if eA js ls t n then(match fd js ls t n with | none=>some n | some m=>if (ar js n).2.2 < (ar js m).2.2 then some n else some m) else fd js ls t n
noncomputable def h9:Option Nat->D
 | none=>.none
 | some m=>.int (m:Int)
noncomputable abbrev DD(js:List J)(ls:List Int)(t:Int)(n:Nat):Option Nat->Prop
  | none=>∀i < n,eA js ls t i=false
  | some m=>m < n∧eA js ls t m=true∧∀i < n,eA js ls t i=true->(ar js m).2.2 < (ar js i).2.2∨((ar js m).2.2=(ar js i).2.2∧m≤i)
theorem oV{js:List J}{ls:List Int}{t:Int}:∀n,DD js ls t n (fd js ls t n)
 | 0=>fun i h=>by omega
 | n+1=>by
  have ih:=oV (js:=js) (ls:=ls) (t:=t) n
  unfold fd
  by_cases ha:eA js ls t n=true
  .rw[if_pos ha]
   cases hm:fd js ls t n with
   | none=>
    rw[hm] at ih
    refine⟨by omega,ha,fun i hi hai=>?_⟩
    by_cases q:i=n
    .subst q;exact .inr ⟨rfl,Nat.le_refl _⟩
    .have:=ih i (by omega);rw[this] at hai;cases hai
   | some m=>
    rw[hm] at ih
    obtain⟨h1,h2,h3⟩:=ih
    by_cases q:(ar js n).2.2 < (ar js m).2.2
    .simp only[q,if_true]
     refine⟨by omega,ha,fun i hi hai=>?_⟩
     by_cases q':i=n
     .subst q';exact .inr ⟨rfl,Nat.le_refl _⟩
     .have:=h3 i (by omega) hai;omega
    .simp only[q,if_false]
     refine⟨by omega,h2,fun i hi hai=>?_⟩
     by_cases q':i=n
     .subst q';omega
     .exact h3 i (by omega) hai
  .rw[if_neg ha]
   have ha':eA js ls t n=false:=by simpa using ha
   cases hm:fd js ls t n with
   | none=>
    rw[hm] at ih
    intro i hi
    by_cases q:i=n
    .subst q;exact ha'
    .exact ih i (by omega)
   | some m=>
    rw[hm] at ih
    refine⟨by omega,ih.2.1,fun i hi hai=>?_⟩
    by_cases q:i=n
    .subst q;rw[ha'] at hai;cases hai
    .exact ih.2.2 i (by omega) hai
noncomputable def FI(js:List J)(ls:List Int)(t:Int)(i:Nat)(ρ:aa):Prop:=ρ (Str.ofString "jobs")=some (.list (js.map jd))∧ρ (Str.ofString "left")=some (.list (ls.map .int))∧ρ (Str.ofString "time")=some (.int t)∧ρ (Str.ofString "best")=some (h9 (fd js ls t i))
theorem FI.next{js:List J}{ls:List Int}{t:Int}{i:Nat}{ρ:aa}{b:Option Nat}(h1:ρ (Str.ofString "jobs")=some (.list (js.map jd)))(h2:ρ (Str.ofString "left")=some (.list (ls.map .int)))(h3:ρ (Str.ofString "time")=some (.int t))(h4:ρ (Str.ofString "best")=some (h9 b))(hb:fd js ls t (i+1)=b):FI js ls t (i+1) ρ:=⟨h1,h2,h3,hb ▸ h4⟩
set_option maxHeartbeats 4000000 in
set_option maxRecDepth 200000 in
theorem DE{js:List J}{ls:List Int}{t:Int}(hl:js.length≤60)(hll:ls.length=js.length)(i:Nat)(ρ:aa)(hi:i < js.length)(H:FI js ls t i ρ):∃ ρ',fg (ah ρ (Str.ofString "place") (.int (i:Int)))=some (.next ρ')∧FI js ls t (i+1) ρ':=by
 obtain⟨h1,h2,h3,h4⟩:=H
 have g1:=jD hi (by omega:js.length≤1000000)
 have g2:=rE (show i < ls.length by omega) (by omega)
 have stay:fd js ls t (i+1)=fd js ls t i->∃ ρ',some (Out.next (ah ρ (Str.ofString "place") (.int (i:Int))))=some (.next ρ')∧FI js ls t (i+1) ρ':=fun e=>⟨_,rfl,.next (by exact uN dp h1) (by exact uN fu h2) (by exact uN gP h3) (by exact uN ox h4) e⟩
 have take:fd js ls t (i+1)=some i->∃ ρ',some (Out.next (ah (ah ρ (Str.ofString "place") (.int (i:Int))) (Str.ofString "best") (.int (i:Int))))=some (.next ρ')∧FI js ls t (i+1) ρ':=fun e=>⟨_,rfl,.next (by exact uN rc (uN dp h1)) (by exact uN vN (uN fu h2)) (by exact uN vS (uN gP h3)) an e⟩
 by_cases p1:0 < aC ls i
 .by_cases p2:(ar js i).1≤t
  .have ha:eA js ls t i=true:=by simp[eA,p1,p2]
   have sp:=oV (js:=js) (ls:=ls) (t:=t) i
   have ef:fd js ls t (i+1)=(match fd js ls t i with | none=>some i | some m=>if (ar js i).2.2 < (ar js m).2.2 then some i else some m):=by rw[fd,if_pos ha]
   cases hm:fd js ls t i with
   | none=>
    rw[hm] at h4 ef
    rw[show fg (ah ρ (Str.ofString "place") (.int (i:Int)))=_ from by unfold fg;unfold h9 at h4;solve_by_elim -exfalso-symm-intro-constructor(maxDepth:=500) (transparency:=.reducible)only[h1,h2,h3,h4,g1,g2,p1,p2,sA,sT,dS,sP,sE,vV,aH,eP,hU,aN,av,da,jp,an,uN,fP,hZ,dc,aP,nR,ox,dp,fu,gP]]
    exact take ef
   | some m=>
    rw[hm] at sp h4 ef
    have g3:=jD (show m < js.length by omega) (by omega:js.length≤1000000)
    by_cases p3:(ar js i).2.2 < (ar js m).2.2
    .simp only[p3,if_true] at ef
     rw[show fg (ah ρ (Str.ofString "place") (.int (i:Int)))=_ from by unfold fg;unfold h9 at h4;solve_by_elim -exfalso-symm-intro-constructor(maxDepth:=500) (transparency:=.reducible)only[h1,h2,h3,h4,g1,g2,g3,p1,p2,p3,sA,sT,dS,sP,sE,vV,aH,eP,hU,bz,aN,av,da,jp,an,uN,gp,fP,hZ,dc,dn,aP,md,ox,dp,fu,gP]]
     exact take ef
    .simp only[p3,if_false] at ef
     rw[show fg (ah ρ (Str.ofString "place") (.int (i:Int)))=some (Out.next (ah ρ (Str.ofString "place") (.int (i:Int)))) from by unfold fg;unfold h9 at h4;solve_by_elim -exfalso-symm-intro-constructor(maxDepth:=500) (transparency:=.reducible)only[h1,h2,h3,h4,g1,g2,g3,p1,p2,p3,sT,sF,dS,sP,sE,vV,aH,eP,bz,aN,av,da,jp,cJ,an,uN,fi,fP,hZ,dc,dn,md,ox,dp,fu,gP]]
     exact stay (ef.trans hm.symm)
  .have ha:eA js ls t i=false:=by simp[eA,p2]
   rw[show fg (ah ρ (Str.ofString "place") (.int (i:Int)))=some (Out.next (ah ρ (Str.ofString "place") (.int (i:Int)))) from by unfold fg;exact sF (eP (aH (aN (vV (uN fu h2)) (vV an) g2) av (fP p1)) (gm (aH (aN (aN (vV (uN dp h1)) (vV an) g1) av dc) (vV (uN gP h3)) (qA p2)))) (sP sE)]
   exact stay (by rw[fd,if_neg (by rw[ha];decide)])
 .have ha:eA js ls t i=false:=by simp[eA,p1]
  rw[show fg (ah ρ (Str.ofString "place") (.int (i:Int)))=some (Out.next (ah ρ (Str.ofString "place") (.int (i:Int)))) from by unfold fg;exact sF (gm (aH (aN (vV (uN fu h2)) (vV an) g2) av (jw p1))) (sP sE)]
  exact stay (by rw[fd,if_neg (by rw[ha];decide)])
set_option maxRecDepth 200000 in
theorem DF{js:List J}{ls:List Int}{t:Int}(hl:js.length≤60)(hll:ls.length=js.length):pZ [.list (js.map jd),.list (ls.map .int),.int t]=some (h9 (fd js ls t js.length)):=by
 have ln:bg [.list (js.map jd)]=some (.int (js.length:Int)):=by rw[nQ (by simp;omega),List.length_map]
 have z:((js.length:Int)≤16777216∧-16777216≤(js.length:Int)):=by omega
 obtain⟨ρ,e,hI⟩:=AF (n:=js.length) (z:=Str.ofString "place") (mb:=fg) (FI js ls t)
  (ρ:=ah (bK [Str.ofString "jobs",Str.ofString "left",Str.ofString "time"] [.list (js.map jd),.list (ls.map .int),.int t]) (Str.ofString "best") .none)
  ⟨by exact uN rc az,by exact uN vN (bN vO az),by exact uN vS (bN vT (bN vU az)),an⟩ (DE hl hll)
 have hb:=hI.2.2.2
 have hc:(h9 (fd js ls t js.length)).clean=true:=by cases fd js ls t js.length <;> rfl
 refine cT rfl ?_
 unfold ua
 simp only[ay,t1,List.map_cons,List.map_nil]
 exact sA da ke (jv (nP (bq (aB (vV (uN rc az)) aF) ln) z) e (sR (vV hb) hc))
theorem rF:∀(ns:List Int) (a:Int),(ns.foldl (fun a b=>if b < a then b else a) a=a∨ns.foldl (fun a b=>if b < a then b else a) a∈ns)∧ns.foldl (fun a b=>if b < a then b else a) a≤a∧∀x∈ns,ns.foldl (fun a b=>if b < a then b else a) a≤x
 | [],a=>⟨.inl rfl,Int.le_refl _,fun x h=>by cases h⟩
 | n :: ns,a=>by
  simp only[List.foldl_cons]
  by_cases q:n < a
  .obtain⟨h1,h2,h3⟩:=rF ns n
   simp only[q,if_true]
   refine⟨.inr (h1.elim (fun e=>by rw[e];exact .head _) fun e=>.tail _ e),by omega,fun x hx=>?_⟩
   rcases List.mem_cons.mp hx with rfl | hx
   .exact h2
   .exact h3 x hx
  .obtain⟨h1,h2,h3⟩:=rF ns a
   simp only[q,if_false]
   refine⟨h1.imp id fun e=>.tail _ e,h2,fun x hx=>?_⟩
   rcases List.mem_cons.mp hx with rfl | hx
   .omega
   .exact h3 x hx
theorem DG{ns:List Int}:match jO ns with | none=>ns=[] | some b=>b∈ns∧∀x∈ns,b≤x:=by
 cases ns with
 | nil=>rfl
 | cons n ns=>
  obtain⟨h1,h2,h3⟩:=rF ns n
  refine⟨?_,fun x hx=>?_⟩
  .rcases h1 with h1 | h1
   .rw[h1];exact .head _
   .exact .tail _ h1
  .rcases List.mem_cons.mp hx with rfl | hx
   .exact h2
   .exact h3 x hx
theorem DH{l:List D}(h:l.length≤1000000):bf (.list l) (.int (-1))=l.getLast? := by
 simp only[bf,ki,Option.bind_some]
 rw[if_pos ⟨by omega,by omega⟩,if_pos (by omega)]
 cases l with
 | nil=>rfl
 | cons d l=>
  rw[if_neg (by simp;omega),List.getLast?_eq_getElem?]
  congr 1
  simp;omega
theorem wC{l:List D}:b7 l none (some (-1))=l.dropLast:=by
 simp only[b7,Option.map_none,Option.getD_none,Option.map_some,Option.getD_some,dM]
 rw[if_pos (by decide),List.drop_zero,List.dropLast_eq_take]
 congr 1
 omega
theorem DI{l:List D}:gY [.own l]=(dw l).map fun ns=>.int ns.sum:=id rfl
theorem oW:∀(xs:List Int),dw (xs.map D.int)=some xs
 | []=>rfl
 | x :: xs=>by simp only[List.map_cons,dw,oW xs,Option.map_some]
noncomputable def mI(js:List J)(ls:List Int)(t:Int):List Int:=(((List.range js.length).filter fun i=>decide (0 < aC ls i)).map fun i=>(ar js i).1).filter fun c=>decide (t < c)
noncomputable def nc(js:List J)(ls:List Int)(t:Int):Option Int:=jO (mI js ls t)
noncomputable def jE:Option Int->D
 | none=>.none
 | some m=>.int m
theorem kX{js:List J}{ls:List Int}{t:Int}:match nc js ls t with
  | none=>∀i < js.length,0 < aC ls i->(ar js i).1≤t
  | some c=>t < c∧(∃i < js.length,0 < aC ls i∧(ar js i).1=c)∧∀i < js.length,0 < aC ls i->t < (ar js i).1->c≤(ar js i).1:=by
 have h:=DG (ns:=mI js ls t)
 have mem:∀x,x∈mI js ls t↔t < x∧∃i < js.length,0 < aC ls i∧(ar js i).1=x:=fun x=>by
  simp only[mI,List.mem_filter,List.mem_map,List.mem_range,decide_eq_true_eq]
  constructor
  .rintro⟨⟨i,⟨h1,h2⟩,h3⟩,h4⟩;exact⟨h4,i,h1,h2,h3⟩
  .rintro⟨h4,i,h1,h2,h3⟩;exact⟨⟨i,⟨h1,h2⟩,h3⟩,h4⟩
 unfold nc
 cases hb:jO (mI js ls t) with
 | none=>
  rw[hb] at h
  intro i hi hp
  by_cases q:t < (ar js i).1
  .have:=(mem _).mpr ⟨q,i,hi,hp,rfl⟩
   rw[h] at this;cases this
  .omega
 | some c=>
  rw[hb] at h
  obtain⟨h1,h2⟩:=h
  obtain⟨h3,h4⟩:=(mem c).mp h1
  exact⟨h3,h4,fun i hi hp hq=>h2 _ ((mem _).mpr ⟨hq,i,hi,hp,rfl⟩)⟩
theorem DJ{ns:List Int}:ii ns=jE (jO ns):=by unfold ii;cases jO ns <;> rfl
theorem DK{o:Option Int}:(jE o).clean=true:=by cases o <;> rfl
theorem eC{js:List J}(hl:js.length≤10000):bg [.list (js.map jd)]=some (.int (js.length:Int)):=by rw[nQ (by simp;omega),List.length_map]
theorem DL{js:List J}{ls:List Int}{t:Int}(hl:js.length≤60)(hll:ls.length=js.length):qc [.list (js.map jd),.list (ls.map .int),.int t]=some (jE (nc js ls t)):=by
 have hnn:((js.length:Int)≤16777216∧-16777216≤(js.length:Int)):=by omega
 have ln:=eC (js:=js) (by omega)
 have hc1:∀ ρ:aa,ρ (Str.ofString "jobs")=some (.list (js.map jd))->ρ (Str.ofString "left")=some (.list (ls.map .int))->cX (.one (Str.ofString "place")) (aK cy (aq (eV "left") (eV "place")) (eI 0)) (aq (aq (eV "jobs") (eV "place")) (eI 0)) (ca 0 js.length) ρ=some ((((List.range js.length).filter fun i=>decide (0 < aC ls i)).map fun i=>(ar js i).1).map D.int):=fun ρ h1 h2=>by
  rw[show ca 0 js.length=(List.range js.length).map fun(i:Nat)=>D.int (0+(i:Int)) from rfl,gI (fun i=>decide (0 < aC ls i)) (fun(i:Nat)=>D.int (ar js i).1) (List.range js.length) (fun k hk=>?_),List.map_map]
  .rfl
  .have hk':k < js.length:=by simpa using hk
   have g1:=jD hk' (by omega:js.length≤1000000)
   have g2:=rE (show k < ls.length by omega) (by omega)
   rw[Int.zero_add]
   exact⟨_,rfl,by exact aH (aN (vV (uN fu h2)) (vV an) g2) av lW,fun _=>⟨by exact aN (aN (vV (uN dp h1)) (vV an) g1) av dc,rfl⟩⟩
 have hc2:∀(ρ:aa) (cs:List Int),ρ (Str.ofString "time")=some (.int t)->cX (.one (Str.ofString "come")) (aK cy (eV "come") (eV "time")) (eV "come") (cs.map D.int) ρ=some ((cs.filter fun c=>decide (t < c)).map D.int):=fun ρ cs h=>
  gI (fun c=>decide (t < c)) (fun(c:Int)=>D.int c) cs fun c hc=>⟨_,rfl,by exact aH (vV an) (vV (uN CB h)) lW,fun _=>⟨by exact vV an,rfl⟩⟩
 have z:(((((List.range js.length).filter fun i=>decide (0 < aC ls i)).map fun i=>(ar js i).1).map D.int)).length≤16777216:=by
  have:=List.length_filter_le (fun i=>decide (0 < aC ls i)) (List.range js.length)
  simp only[List.length_map,List.length_range] at this ⊢;omega
 have io:∀ns:List Int,dw (ns.map D.int)=some ns:=oW
 have oc:=DK (o:=nc js ls t)
 have hb:jE (nc js ls t)=ii ((((List.range js.length).filter fun i=>decide (0 < aC ls i)).map fun i=>(ar js i).1).filter fun c=>decide (t < c)):=by rw[DJ];rfl
 rw[hb] at oc ⊢
 refine cT rfl ?_
 unfold ub
 simp only[ay,t1,List.map_cons,List.map_nil]
 exact uW (iA (nP (bq (aB (vV az) aF) ln) hnn) (hc1 _ az (bN vO az))) (sR (AL (vL (iA (iS (vV an) gk z) (hc2 _ _ (uN CC (bN vT (bN vU az)))))) db (io _)) oc)
noncomputable def fT(ps:List J)(p b e:Int):List J:=match ps.getLast? with
 | some l=>if l.1=p∧l.2.2=b then ps.dropLast++[(p,l.2.1,e)] else ps++[(p,b,e)]
 | none=>[(p,b,e)]
theorem DM{ps:List J}:bc (.list (ps.map jd)) (.list [])=some (!ps.isEmpty):=by
 unfold bc
 rw[iJ,show(D.list ([]:List D)).ok 8=true from rfl,Bool.and_self,if_pos rfl]
 cases ps <;> simp[D.py,D.pys,PyData.eqv,PyData.eqvAll]
theorem DN{ps:List J}{p b e:Int}(hl:ps.length≤10000):lR [.list (ps.map jd),.int p,.int b,.int e]=some ((fT ps p b e).map jd):=by
 have gl:=DH (l:=ps.map jd) (by simpa using (by omega:ps.length≤1000000))
 rw[List.getLast?_map] at gl
 have hn:=DM (ps:=ps)
 have z1:(ps.map jd).length≤16777216:=by simp;omega
 have z2:∀t:D,(ps.map jd).length+[t].length≤16777216:=fun t=>by simp;omega
 have z3:∀t:D,(b7 (ps.map jd) none (some (-1))).length+[t].length≤16777216:=fun t=>by rw[wC];simp;omega
 have al:ps.map jd++[D.tup [.int p,.int b,.int e]]=(ps++[(p,b,e)]).map jd:=by rw[List.map_append];rfl
 refine wc rfl ?_
 unfold uc fT
 simp only[ay,List.map_cons,List.map_nil]
 cases hg:ps.getLast? with
 | none=>
  have:ps=[]:=by simpa using hg
  subst this
  exact sF (gm (aH (vV az) (vL (cu aF aY)) hn)) (sP (kM (eu (vV az) (vL (cu (aB (cK (by exact aB (vV (bN jA az)) (aB (vV (bN ou (bN ow az))) (aB (vV (bN gL (bN oy (bN kF az)))) aF))) (by exact aW aP (aW aP (aW aP aY)))) aF) (by exact aW dE aY))) db db (z2 _))))
 | some l=>
  rw[hg,Option.map_some] at gl
  have hne:ps.isEmpty=false:=by cases ps <;> simp_all
  rw[hne,Bool.not_false] at hn
  simp only
  by_cases q1:l.1=p
  .by_cases q2:l.2.2=b
   .rw[if_pos ⟨q1,q2⟩,show(ps.dropLast++[(p,l.2.1,e)]).map jd=b7 (ps.map jd) none (some (-1))++[D.tup [.int p,.int l.2.1,.int e]] by rw[wC,List.map_append,List.map_dropLast];rfl]
    solve_by_elim -exfalso-symm-intro-constructor(maxDepth:=500) (transparency:=.reducible)only[hn,gl,q1,q2,z1,z3,sT,dS,vV,aH,eP,qy,aN,aF,aB,cK,vL,cu,eu,jt,av,jp,az,bN,gq,db,dc,fh,dn,aP,dE,aY,aW,kM,ou,ow,kF,gL,oy,jA]
   .rw[if_neg (fun h=>q2 h.2),← al]
    solve_by_elim -exfalso-symm-intro-constructor(maxDepth:=500) (transparency:=.reducible)only[hn,gl,q1,q2,z1,z2,sF,sP,vV,aH,eP,gm,qy,aN,aF,aB,cK,vL,cu,eu,av,az,bN,gq,fQ,db,dc,dn,aP,dE,aY,aW,kM,ou,ow,kF,gL,oy,jA]
  .rw[if_neg (fun h=>q1 h.1),← al]
   solve_by_elim -exfalso-symm-intro-constructor(maxDepth:=500) (transparency:=.reducible)only[hn,gl,q1,z1,z2,sF,sP,vV,aH,eP,gm,qy,aN,aF,aB,cK,vL,cu,eu,av,az,bN,fQ,db,dc,aP,dE,aY,aW,kM,ou,ow,kF,gL,oy,jA]
structure R where
 ls:List Int
 ps:List J
 t:Int
noncomputable def ba(js:List J)(s:R)(p:Nat):Int:=match nc js s.ls s.t with
 | some c=>if c < s.t+aC s.ls p then c else s.t+aC s.ls p
 | none=>s.t+aC s.ls p
noncomputable def iK(js:List J)(s:R)(p:Nat):R:=⟨s.ls.set p (aC s.ls p - (ba js s p - s.t)),fT s.ps p s.t (ba js s p),ba js s p⟩
inductive Reach (js:List J):R->Prop
 | init:Reach js ⟨js.map (·.2.1),[],0⟩
 | wait {s:R} {c:Int}:Reach js s->fd js s.ls s.t js.length=none->nc js s.ls s.t=some c->Reach js ⟨s.ls,s.ps,c⟩
 | work {s:R} {p:Nat}:Reach js s->fd js s.ls s.t js.length=some p->Reach js (iK js s p)
theorem iM{ls:List Int}{p i:Nat}{x:Int}(hp:p < ls.length):aC (ls.set p x) i=if i=p then x else aC ls i:=by
 unfold aC
 rw[List.getD_eq_getElem?_getD,List.getD_eq_getElem?_getD,List.getElem?_set]
 by_cases q:p=i
 .subst q;simp[hp]
 .rw[if_neg q,if_neg (fun e=>q e.symm)]
theorem rG{js:List J}{s:R}{p:Nat}(hp:0 < aC s.ls p):s.t < ba js s p∧ba js s p≤s.t+aC s.ls p∧(ba js s p < s.t+aC s.ls p->nc js s.ls s.t=some (ba js s p))∧∀c,nc js s.ls s.t=some c->ba js s p≤c:=by
 have h:=kX (js:=js) (ls:=s.ls) (t:=s.t)
 unfold ba
 cases hc:nc js s.ls s.t with
 | none=>simp only;exact⟨by omega,by omega,fun q=>by omega,fun c q=>by cases q⟩
 | some c=>
  rw[hc] at h
  simp only
  split
  .exact⟨by omega,by omega,fun _=>rfl,fun c' q=>by cases q;omega⟩
  .exact⟨by omega,by omega,fun q=>by omega,fun c' q=>by cases q;omega⟩
structure wD (js:List J) (s:R):Prop where
 len:s.ls.length=js.length
 pos:∀i,0≤aC s.ls i
theorem rH{js:List J}{i:Nat}(h:i < js.length):aC (js.map (·.2.1)) i=(ar js i).2.1:=by
 unfold aC ar
 rw[List.getD_eq_getElem?_getD,List.getD_eq_getElem?_getD,List.getElem?_map,List.getElem?_eq_getElem h];rfl
theorem wE{ls:List Int}{i:Nat}(h:ls.length≤i):aC ls i=0:=by
 unfold aC;rw[List.getD_eq_getElem?_getD,List.getElem?_eq_none h];rfl
theorem mJ{js:List J}{ls:List Int}{t:Int}{p:Nat}(h:fd js ls t js.length=some p):p < js.length∧0 < aC ls p∧(ar js p).1≤t∧∀i < js.length,0 < aC ls i->(ar js i).1≤t->(ar js p).2.2 < (ar js i).2.2∨((ar js p).2.2=(ar js i).2.2∧p≤i):=by
 have sp:=oV (js:=js) (ls:=ls) (t:=t) js.length
 rw[h] at sp
 obtain⟨h1,h2,h3⟩:=sp
 simp only[eA,Bool.and_eq_true,decide_eq_true_eq] at h2
 exact⟨h1,h2.1,h2.2,fun i hi h4 h5=>h3 i hi (by simp[eA,h4,h5])⟩
theorem wF{js:List J}{ls:List Int}{t:Int}(h:fd js ls t js.length=none):∀i < js.length,0 < aC ls i->t < (ar js i).1:=by
 have sp:=oV (js:=js) (ls:=ls) (t:=t) js.length
 rw[h] at sp
 intro i hi hp
 have:=sp i hi
 simp only[eA,hp,decide_true,Bool.true_and,decide_eq_false_iff_not] at this
 omega
theorem Reach.good{js:List J}(hs:∀j∈js,bw j){s:R}(h:Reach js s):wD js s:=by
 induction h with
 | init=>
  refine⟨by simp,fun i=>?_⟩
  by_cases hi:i < js.length
  .rw[rH hi];have:=(hs _ (oU hi)).2.1;omega
  .rw[wE (by simp;omega)];omega
 | wait _ _ _ ih=>exact⟨ih.len,ih.pos⟩
 | @work s p _ hf ih=>
  obtain⟨h1,h2,_,_⟩:=mJ hf
  obtain⟨e1,e2,_,_⟩:=rG (js:=js) h2
  refine⟨by simp[iK,ih.len],fun i=>?_⟩
  simp only[iK]
  rw[iM (by rw[ih.len];exact h1)]
  split
  .omega
  .exact ih.pos i
noncomputable def mu(js:List J)(s:R):Nat:=((List.range js.length).filter fun i=>decide (0 < aC s.ls i)).length+((List.range js.length).filter fun i=>decide (s.t < (ar js i).1)).length
theorem rJ{l:List Nat}{p q:Nat->Bool}(h:∀x∈l,q x=true->p x=true){a:Nat}(ha:a∈l)(h1:p a=true)(h2:q a=false):(l.filter q).length < (l.filter p).length:=by
 induction l with
 | nil=>cases ha
 | cons x l ih=>
  have hle:(l.filter q).length≤(l.filter p).length:=by
   clear ih ha
   induction l with
   | nil=>simp
   | cons y l ih2=>
    have:=ih2 fun z hz=>h z (by rcases List.mem_cons.mp hz with rfl | hz;exact .head _;exact .tail _ (.tail _ hz))
    simp only[List.filter_cons]
    have hy:=h y (.tail _ (.head _))
    cases hq:q y
    .cases hp:p y <;> simp <;> omega
    .rw[hy hq];simp;omega
  simp only[List.filter_cons]
  rcases List.mem_cons.mp ha with rfl | ha
  .rw[h1,h2];simp;omega
  .have:=ih (fun z hz=>h z (.tail _ hz)) ha
   have hx:=h x (.head _)
   cases hq:q x
   .cases hp:p x <;> simp <;> omega
   .rw[hx hq];simp;omega
theorem wG{l:List Nat}{p q:Nat->Bool}(h:∀x∈l,q x=true->p x=true):(l.filter q).length≤(l.filter p).length:=by
 induction l with
 | nil=>simp
 | cons y l ih=>
  have:=ih fun z hz=>h z (.tail _ hz)
  simp only[List.filter_cons]
  have hy:=h y (.head _)
  cases hq:q y
  .cases hp:p y <;> simp <;> omega
  .rw[hy hq];simp;omega
theorem DO{js:List J}{s:R}{c:Int}(h:nc js s.ls s.t=some c):mu js ⟨s.ls,s.ps,c⟩ < mu js s:=by
 have sp:=kX (js:=js) (ls:=s.ls) (t:=s.t)
 rw[h] at sp
 obtain⟨h1,⟨i,h2,h3,h4⟩,_⟩:=sp
 unfold mu
 refine Nat.add_lt_add_left (rJ (fun x _ hx=>?_) (a:=i) (by simpa using h2) ?_ ?_) _
 .simp only[decide_eq_true_eq] at hx ⊢;omega
 .simp only[decide_eq_true_eq];omega
 .simp only[decide_eq_false_iff_not];omega
theorem DP{js:List J}{s:R}{p:Nat}(hG:wD js s)(hf:fd js s.ls s.t js.length=some p):mu js (iK js s p) < mu js s:=by
 obtain⟨h1,h2,h3,_⟩:=mJ hf
 obtain⟨e1,e2,e3,_⟩:=rG (js:=js) h2
 have hp:p < s.ls.length:=by rw[hG.len];exact h1
 have hset:∀x,aC (s.ls.set p (aC s.ls p - (ba js s p - s.t))) x=if x=p then aC s.ls p - (ba js s p - s.t) else aC s.ls x:=fun x=>iM hp
 have l1:∀x∈List.range js.length,decide (0 < aC (s.ls.set p (aC s.ls p - (ba js s p - s.t))) x)=true->decide (0 < aC s.ls x)=true:=fun x _ hx=>by
  simp only[decide_eq_true_eq,hset] at hx ⊢
  split at hx
  .rename_i q;rw[q];exact h2
  .exact hx
 have l2:∀x∈List.range js.length,decide (ba js s p < (ar js x).1)=true->decide (s.t < (ar js x).1)=true:=fun x _ hx=>by simp only[decide_eq_true_eq] at hx ⊢;omega
 unfold mu iK
 by_cases q:ba js s p < s.t+aC s.ls p
 .have hc:=e3 q
  have sp:=kX (js:=js) (ls:=s.ls) (t:=s.t)
  rw[hc] at sp
  obtain⟨_,⟨i,h4,h5,h6⟩,_⟩:=sp
  have:=wG l1
  have:=rJ l2 (a:=i) (by simpa using h4) (by simp only[decide_eq_true_eq];omega) (by simp only[decide_eq_false_iff_not];omega)
  simp only
  omega
 .have:=wG l2
  have:=rJ l1 (a:=p) (by simpa using h1) (by simpa using h2) (by simp only[decide_eq_false_iff_not,hset,if_true];omega)
  simp only
  omega
theorem wH{js:List J}{s:R}:mu js s≤2*js.length:=by
 unfold mu
 have h1:=List.length_filter_le (fun i=>decide (0 < aC s.ls i)) (List.range js.length)
 have h2:=List.length_filter_le (fun i=>decide (s.t < (ar js i).1)) (List.range js.length)
 rw[List.length_range] at h1 h2
 omega
theorem rK:∀ {ls:List Int},(∀i,0≤aC ls i)->0≤ls.sum∧(0 < ls.sum->∃i < ls.length,0 < aC ls i)∧(ls.sum=0->∀i,aC ls i=0)
 | [],_=>⟨by simp,fun h=>by simp at h,fun _ i=>wE (by simp)⟩
 | x :: ls,h=>by
  have hx:0≤x:=h 0
  obtain⟨h1,h2,h3⟩:=rK (ls:=ls) fun i=>h (i+1)
  rw[List.sum_cons]
  refine⟨by omega,fun hp=>?_,fun hz i=>?_⟩
  .by_cases q:0 < x
   .exact⟨0,by simp,q⟩
   .obtain⟨i,hi,hp'⟩:=h2 (by omega)
    exact⟨i+1,by simp;exact hi,hp'⟩
  .cases i with
   | zero=>show x=0;omega
   | succ i=>exact h3 (by omega) i
theorem wI{c:aa->Option Bool}{mb:aa->Option Out}{Q:aa->Prop}(I:Nat->aa->Prop)(step:∀m ρ,I m ρ->(c ρ=some false∧Q ρ)∨(c ρ=some true∧∃ ρ' m',mb ρ=some (.next ρ')∧m' < m∧I m' ρ')):
  ∀(fuel m:Nat) (ρ:aa),m < fuel->I m ρ->∃ ρ',eE c mb fuel ρ=some (.next ρ')∧Q ρ'
 | 0,m,ρ,h,_=>by omega
 | fuel+1,m,ρ,h,hI=>by
  rcases step m ρ hI with ⟨h1,h2⟩ | ⟨h1,ρ',m',h2,h3,h4⟩
  .exact⟨ρ,by simp[eE,h1],h2⟩
  .obtain⟨ρ'',e,hq⟩:=wI I step fuel m' ρ' (by omega) h4
   exact⟨ρ'',by simp[eE,h1,h2,e],hq⟩
theorem DQ{ps:List J}{p b e:Int}:(fT ps p b e).length≤ps.length+1:=by
 unfold fT
 split
 .split
  .simp
  .simp
 .simp
structure RI (js:List J) (m:Nat) (ρ:aa) (s:R):Prop where
 jobs:ρ (Str.ofString "jobs")=some (.list (js.map jd))
 left:ρ (Str.ofString "left")=some (.own (s.ls.map .int))
 pieces:ρ (Str.ofString "pieces")=some (.own (s.ps.map jd))
 time:ρ (Str.ofString "time")=some (.int s.t)
 reach:Reach js s
 mu:mu js s=m
 few:s.ps.length+m≤2*js.length
set_option maxHeartbeats 4000000 in
theorem DR{js:List J}(hl:js.length≤60)(hs:∀j∈js,bw j)(m:Nat)(ρ:aa)(s:R)(H:RI js m ρ s)(hpos:0 < s.ls.sum):∃ ρ' m',jj ρ=some (.next ρ')∧m' < m∧∃s',RI js m' ρ' s':=by
 obtain⟨hj,hle,hp,ht,hr,hmu,hfew⟩:=H
 have hG:=hr.good hs
 have hll:=hG.len
 have ff:=DF (t:=s.t) hl hll
 have fn:=DL (t:=s.t) hl hll
 have af:([.list (js.map jd),.own (s.ls.map .int),.int s.t]:List D).map D.frz=[.list (js.map jd),.list (s.ls.map .int),.int s.t]:=rfl
 have ac:([.list (js.map jd),.own (s.ls.map .int),.int s.t]:List D).all D.clean=false:=rfl
 rw[← af] at ff fn
 cases hf:fd js s.ls s.t js.length with
 | none=>
  rw[hf] at ff
  cases hc:nc js s.ls s.t with
  | none=>
   obtain⟨i,hi,hp'⟩:=(rK hG.pos).2.1 hpos
   have h1:=wF hf i (by omega) hp'
   have sp:=kX (js:=js) (ls:=s.ls) (t:=s.t)
   rw[hc] at sp
   have:=sp i (by omega) hp'
   omega
  | some c=>
   rw[hc] at fn
   unfold h9 at ff
   unfold jE at fn
   have hm:=DO hc
   exact⟨_,mu js ⟨s.ls,s.ps,c⟩,by unfold jj;solve_by_elim -exfalso-symm-intro-constructor(maxDepth:=500) (transparency:=.reducible)only[hj,hle,hp,ht,nO,ff,fn,ac,nN,uM,sA,sT,dS,sP,sE,vV,aH,aF,aB,da,an,uN,aP,ke,nR,dp,fu,oI,gP],by omega,⟨s.ls,s.ps,c⟩,by exact uN mB (uN oB (uN dp hj)),by exact uN mC (uN oE (uN fu hle)),by exact uN mE (uN oG (uN mD hp)),by exact an,.wait hr hf hc,rfl,by simp only;omega⟩
 | some p=>
  rw[hf] at ff
  unfold h9 at ff
  obtain⟨h1,h2,h3,_⟩:=mJ hf
  have g1:=wB (show p < s.ls.length by omega) (by omega)
  have hm:=DP hG hf
  have fp:∀e,lR (([.own (s.ps.map jd),.int (p:Int),.int s.t,.int e]:List D).map D.frz)=some ((fT s.ps p s.t e).map jd):=fun e=>DN (by omega)
  have hplen:=DQ (ps:=s.ps) (p:=(p:Int)) (b:=s.t) (e:=ba js s p)
  have hset:(s.ls.map D.int).set (p:Int).toNat (.int (aC s.ls p - (ba js s p - s.t)))=(s.ls.set p (aC s.ls p - (ba js s p - s.t))).map D.int:=by rw[Int.toNat_natCast,List.map_set]
  have done:∀ ρ',ρ' (Str.ofString "jobs")=some (.list (js.map jd))->ρ' (Str.ofString "left")=some (.own ((s.ls.map D.int).set (p:Int).toNat (.int (aC s.ls p - (ba js s p - s.t)))))->ρ' (Str.ofString "pieces")=some (.own ((fT s.ps p s.t (ba js s p)).map jd))->ρ' (Str.ofString "time")=some (.int (ba js s p))->
    ∃s',RI js (mu js (iK js s p)) ρ' s':=fun ρ' a b c d=>⟨iK js s p,a,b.trans (by rw[hset];rfl),c,d,.work hr hf,rfl,by show(fT s.ps p s.t (ba js s p)).length+_≤_;omega⟩
  have hm':mu js (iK js s p) < m:=by omega
  have cnd:((0:Int)≤(p:Int)∧(p:Int) < ((s.ls.map D.int).length:Int)∧(p:Int) < 9223372036854775808):=⟨by omega,by simp;omega,by omega⟩
  cases hc:nc js s.ls s.t with
  | none=>
   rw[hc] at fn
   unfold jE at fn
   have he:s.t+aC s.ls p=ba js s p:=by unfold ba;rw[hc]
   refine⟨_,_,by unfold jj;solve_by_elim -exfalso-symm-intro-constructor(maxDepth:=500) (transparency:=.reducible)only[hj,hle,hp,ht,g1,fp,cnd,nO,kN,oL,ff,fn,ac,nN,uM,sA,sO,sF,dS,sP,sE,lZ,vV,br,aH,gm,aN,aF,aB,da,an,uN,dR,hM,aP,ke,md,qB,kN,q8,gL,dp,re,oD,fu,oE,oF,mD,oG,oH,jA,oI,rg,rh,rj,gP,rk],hm',?_⟩
   rw[he]
   exact done _ (by exact uN mB (uN oz (uN kH (uN mz (uN oB (uN dp hj)))))) (by exact uN mC an) (by exact uN mE (uN rf an)) (by exact an)
  | some c=>
   rw[hc] at fn
   unfold jE at fn
   by_cases q:c < s.t+aC s.ls p
   .have he:c=ba js s p:=by unfold ba;rw[hc];simp[q]
    refine⟨_,_,by unfold jj;solve_by_elim -exfalso-symm-intro-constructor(maxDepth:=500) (transparency:=.reducible)only[hj,hle,hp,ht,g1,q,fp,cnd,nO,kN,oL,ff,fn,ac,nN,sA,sO,sT,sF,dS,sP,sE,lZ,vV,br,aH,eP,aN,aF,aB,da,jp,an,uN,dR,hM,gp,aP,md,uZ,kN,q8,gL,dp,re,oD,fu,oE,oF,mD,oG,oH,jA,oI,rg,rh,rj,gP,rk],hm',?_⟩
    rw[he]
    exact done _ (by exact uN mB (uN oz (uN kH (uN mz (uN mz (uN oB (uN dp hj))))))) (by exact uN mC an) (by exact uN mE (uN rf an)) (by exact an)
   .have he:s.t+aC s.ls p=ba js s p:=by unfold ba;rw[hc];simp[q]
    refine⟨_,_,by unfold jj;solve_by_elim -exfalso-symm-intro-constructor(maxDepth:=500) (transparency:=.reducible)only[hj,hle,hp,ht,g1,q,fp,cnd,nO,kN,oL,ff,fn,ac,nN,sA,sO,sF,dS,sP,sE,lZ,vV,br,aH,eP,gm,aN,aF,aB,da,an,uN,dR,hM,fi,aP,md,uZ,kN,q8,gL,dp,re,oD,fu,oE,oF,mD,oG,oH,jA,oI,rg,rh,rj,gP,rk],hm',?_⟩
    rw[he]
    exact done _ (by exact uN mB (uN oz (uN kH (uN mz (uN oB (uN dp hj)))))) (by exact uN mC an) (by exact uN mE (uN rf an)) (by exact an)
theorem DS{js:List J}(hl:js.length≤60)(hs:∀j∈js,bw j):∃s:R,jk [.list (js.map jd)]=some (s.ps.map jd)∧Reach js s∧(∀i,aC s.ls i=0)∧s.ps.length≤2*js.length:=by
 have z:(js.map jd).length≤16777216:=by simp;omega
 have hc:∀ ρ:aa,cX (.one (Str.ofString "job")) c8 (aq (eV "job") (eI 1)) (js.map jd) ρ=some ((js.map (·.2.1)).map D.int):=fun ρ=>by
  rw[gI (fun _=>true) (fun j:J=>.int j.2.1) js (fun j hj=>⟨_,rfl,rfl,fun _=>⟨aN (vV an) av fh,rfl⟩⟩),List.filter_eq_self.mpr (fun _ _=>rfl),List.map_map];rfl
 have ck:=DB hl hs
 obtain⟨ρ,e,s,hI,hz⟩:=wI (c:=aK cy (bu gY (ae (eV "left") ak)) (eI 0)) (mb:=jj) (Q:=fun ρ=>∃s,RI js (mu js s) ρ s∧∀i,aC s.ls i=0) (fun m ρ=>∃s,RI js m ρ s) (fun m ρ ⟨s,H⟩=>by
  have hG:=H.reach.good hs
  obtain⟨s1,s2,s3⟩:=rK hG.pos
  have sm:gY [.own (s.ls.map .int)]=some (.int s.ls.sum):=by rw[DI,oW];rfl
  have ev:∀t:Bool,cy (.int s.ls.sum) (.int 0)=some t->aK cy (bu gY (ae (eV "left") ak)) (eI 0) ρ=some t:=fun t h=>aH (bq (aB (vV H.left) aF) sm) av h
  by_cases q:0 < s.ls.sum
  .obtain⟨ρ',m',a,b,c⟩:=DR hl hs m ρ s H q
   exact .inr ⟨ev _ (fP q),ρ',m',a,b,c⟩
  .refine .inl ⟨ev _ (jw q),s,?_,s3 (by omega)⟩
   have:=H.mu
   exact this ▸ H) 100000 (mu js ⟨js.map (·.2.1),[],0⟩)
  (ah (ah (ah (bK [Str.ofString "jobs"] [.list (js.map jd)]) (Str.ofString "left") (.own ((js.map (·.2.1)).map .int))) (Str.ofString "pieces") (.own [])) (Str.ofString "time") (.int 0)) (by have:=wH (js:=js) (s:=⟨js.map (·.2.1),[],0⟩);omega)
  ⟨⟨js.map (·.2.1),[],0⟩,by exact uN mB (uN kH (uN oz az)),by exact uN mC (uN oD an),by show _=some (D.own []);exact uN mE an,by exact an,.init,rfl,by have:=wH (js:=js) (s:=⟨js.map (·.2.1),[],0⟩);simp only[List.length_nil];omega⟩
 have hpc:=hI.pieces
 refine⟨s,wc rfl ?_,hI.reach,hz,by have:=hI.few;omega⟩
 unfold ud
 simp only[ay,t1,List.map_cons,List.map_nil]
 exact sX (bH (aB (vV az) aF) (aW bD aY) ck) (sO (iA (iS (vV az) gk z) (hc _)) (sO (cu aF aY) (sA av aP (sW e (CN hpc)))))
noncomputable def dq(ls:List Int)(x:J):List Int:=ls.set x.1.toNat (aC ls x.1.toNat - (x.2.2 - x.2.1))
inductive Rpl (C:List Int->Int->J->Prop):List J->List Int->Int->List Int->Int->Prop
 | nil {ls:List Int} {t:Int}:Rpl C [] ls t ls t
 | cons {x:J} {xs:List J} {ls ls':List Int} {t t':Int}:C ls t x->Rpl C xs (dq ls x) x.2.2 ls' t'->Rpl C (x :: xs) ls t ls' t'
theorem Rpl.snoc{C:List Int->Int->J->Prop}{x:J}:∀ {xs:List J} {ls ls1:List Int} {t t1:Int},Rpl C xs ls t ls1 t1->C ls1 t1 x->Rpl C (xs++[x]) ls t (dq ls1 x) x.2.2:=by
 intro xs ls ls1 t t1 h hc
 induction h with
 | nil=>exact .cons hc .nil
 | cons a _ ih=>exact .cons a (ih hc)
theorem Rpl.unsnoc{C:List Int->Int->J->Prop}{x:J}:∀ {xs:List J} {ls ls':List Int} {t t':Int},Rpl C (xs++[x]) ls t ls' t'->∃ls1 t1,Rpl C xs ls t ls1 t1∧C ls1 t1 x∧ls'=dq ls1 x∧t'=x.2.2
 | [],_,_,_,_,h=>by
  cases h with
  | cons h1 h2=>cases h2;exact⟨_,_,.nil,h1,rfl,rfl⟩
 | y :: ys,_,_,_,_,h=>by
  cases h with
  | cons h1 h2=>
   obtain⟨ls1,t1,a,b,c,d⟩:=Rpl.unsnoc h2
   exact⟨ls1,t1,.cons h1 a,b,c,d⟩
structure C6 (js:List J) (ls:List Int) (t:Int) (x:J):Prop where
 nn:0≤x.1
 lt:x.1.toNat < js.length
 tb:t≤x.2.1
 be:x.2.1 < x.2.2
 come:(ar js x.1.toNat).1≤x.2.1
 idle:∀o < js.length,0 < aC ls o->(ar js o).1 < x.2.1->t=x.2.1
 first:∀o < js.length,0 < aC ls o->(ar js o).1 < x.2.2->(ar js x.1.toNat).2.2 < (ar js o).2.2∨((ar js x.1.toNat).2.2=(ar js o).2.2∧x.1.toNat≤o)
 start:t=x.2.1∨∃o < js.length,(ar js o).1=x.2.1
theorem Reach.rpl{js:List J}(hs:∀j∈js,bw j){s:R}(h:Reach js s):∃t0,Rpl (C6 js) s.ps (js.map (·.2.1)) 0 s.ls t0∧t0≤s.t∧(t0 < s.t->(∀o < js.length,0 < aC s.ls o->s.t≤(ar js o).1)∧∃o < js.length,(ar js o).1=s.t):=by
 induction h with
 | init=>exact⟨0,.nil,Int.le_refl _,fun q=>absurd q (Int.lt_irrefl _)⟩
 | @wait s c _ hf hc ih=>
  obtain⟨t0,h1,h2,h3⟩:=ih
  have sp:=kX (js:=js) (ls:=s.ls) (t:=s.t)
  rw[hc] at sp
  obtain⟨n1,⟨i,n2,n3,n4⟩,n5⟩:=sp
  exact⟨t0,h1,by show t0≤c;omega,fun _=>⟨fun o ho hp=>n5 o ho hp (wF hf o ho hp),i,n2,n4⟩⟩
 | @work s p hr hf ih=>
  obtain⟨t0,h1,h2,h3⟩:=ih
  have hG:=hr.good hs
  obtain⟨f1,f2,f3,f4⟩:=mJ hf
  obtain⟨e1,e2,e3,e4⟩:=rG (js:=js) f2
  have hfirst:∀o < js.length,0 < aC s.ls o->(ar js o).1 < ba js s p->(ar js p).2.2 < (ar js o).2.2∨((ar js p).2.2=(ar js o).2.2∧p≤o):=fun o ho hp hc=>by
   by_cases q:(ar js o).1≤s.t
   .exact f4 o ho hp q
   .have sp:=kX (js:=js) (ls:=s.ls) (t:=s.t)
    cases hn:nc js s.ls s.t with
    | none=>rw[hn] at sp;have:=sp o ho hp;omega
    | some c=>
     rw[hn] at sp
     have:=sp.2.2 o ho hp (by omega)
     have:=e4 c hn
     omega
  have hplain:Rpl (C6 js) (s.ps++[((p:Int),s.t,ba js s p)]) (js.map (·.2.1)) 0 (dq s.ls ((p:Int),s.t,ba js s p)) (ba js s p):=
   h1.snoc (x:=((p:Int),s.t,ba js s p)) ⟨by simp only;omega,by simpa using f1,h2,e1,by simpa using f3,fun o ho hp hc=>by
    simp only at hc ⊢
    by_cases q:t0 < s.t
    .have:=(h3 q).1 o ho hp;omega
    .omega,by simpa using hfirst,by
    simp only
    by_cases q:t0 < s.t
    .exact .inr (h3 q).2
    .exact .inl (by omega)⟩
  refine⟨ba js s p,?_,Int.le_refl _,fun q=>absurd q (Int.lt_irrefl _)⟩
  show Rpl (C6 js) (fT s.ps p s.t (ba js s p)) _ 0 (s.ls.set p (aC s.ls p - (ba js s p - s.t))) _
  have hst:dq s.ls ((p:Int),s.t,ba js s p)=s.ls.set p (aC s.ls p - (ba js s p - s.t)):=by simp[dq]
  unfold fT
  cases hg:s.ps.getLast? with
  | none=>
   have:s.ps=[]:=by simpa using hg
   rw[this] at hplain
   simp only
   rw[← hst];exact hplain
  | some l=>
   simp only
   by_cases q:l.1=(p:Int)∧l.2.2=s.t
   .rw[if_pos q]
    obtain⟨ys,hy⟩:=List.getLast?_eq_some_iff.mp hg
    rw[hy] at h1 ⊢
    rw[List.dropLast_concat]
    obtain⟨ls1,t1,r1,r2,r3,r4⟩:=h1.unsnoc
    obtain⟨q1,q2⟩:=q
    have hpn:l.1.toNat=p:=by rw[q1];simp
    have hlen:ls1.length=js.length:=by rw[← hG.len,r3];simp[dq]
    have hlsp:∀o,aC s.ls o=if o=p then aC ls1 p - (l.2.2 - l.2.1) else aC ls1 o:=fun o=>by
     rw[r3];unfold dq;rw[hpn,iM (by rw[hlen];exact f1)]
    have hnew:=r1.snoc (x:=((p:Int),l.2.1,ba js s p)) ⟨by simp only;omega,by simpa using f1,r2.tb,by have:=r2.be;simp only;omega,by have:=r2.come;rw[hpn] at this;simpa using this,r2.idle,fun o ho hp hc=>by
     simp only[Int.toNat_natCast] at hc ⊢
     by_cases z:o=p
     .subst z;exact .inr ⟨rfl,Nat.le_refl _⟩
     .exact hfirst o ho (by rw[hlsp o,if_neg z];exact hp) hc,r2.start⟩
    have hls:dq ls1 ((p:Int),l.2.1,ba js s p)=s.ls.set p (aC s.ls p - (ba js s p - s.t)):=by
     rw[hlsp p,if_pos rfl,r3]
     unfold dq
     rw[hpn,List.set_set]
     simp only[Int.toNat_natCast]
     congr 1
     omega
    rw[← hls];exact hnew
   .rw[if_neg q,← hst];exact hplain
theorem Rpl.len{C:List Int->Int->J->Prop}:∀ {xs:List J} {ls ls':List Int} {t t':Int},Rpl C xs ls t ls' t'->ls'.length=ls.length:=by
 intro xs ls ls' t t' h
 induction h with
 | nil=>rfl
 | cons _ _ ih=>rw[ih];simp[dq]
theorem wJ{α β:Type}{g:α->D}{t:Str}{mb:aa->Option Out}(I:β->aa->Prop)(f:β->α->β):∀(xs:List α),(∀x∈xs,∀b ρ,I b ρ->∃ ρ',mb (ah ρ t (g x))=some (.next ρ')∧I (f b x) ρ')->∀b ρ,I b ρ->∃ ρ',bY (.one t) mb (xs.map g) ρ=some (.next ρ')∧I (xs.foldl f b) ρ'
 | [],_,b,ρ,h=>⟨ρ,rfl,h⟩
 | x :: xs,st,b,ρ,h=>by
  obtain⟨ρ1,e1,h1⟩:=st x (.head _) b ρ h
  obtain⟨ρ2,e2,h2⟩:=wJ (g:=g) (t:=t) (mb:=mb) I f xs (fun y hy=>st y (.tail _ hy)) (f b x) ρ1 h1
  exact⟨ρ2,by simp only[List.map_cons,bY,gH,au,e1];exact e2,h2⟩
theorem DT{ps:List J}{p b e:Int}{x:J}(h:x∈fT ps p b e):x∈ps∨x.1=p:=by
 unfold fT at h
 cases hg:ps.getLast? with
 | none=>rw[hg] at h;simp only[List.mem_singleton] at h;exact .inr (by rw[h])
 | some l=>
  rw[hg] at h
  simp only at h
  split at h
  .rcases List.mem_append.mp h with h | h
   .exact .inl (List.dropLast_subset _ h)
   .rw[List.mem_singleton] at h;exact .inr (by rw[h])
  .rcases List.mem_append.mp h with h | h
   .exact .inl h
   .rw[List.mem_singleton] at h;exact .inr (by rw[h])
theorem Reach.places{js:List J}{s:R}(h:Reach js s):∀x∈s.ps,0≤x.1∧x.1.toNat < js.length:=by
 induction h with
 | init=>intro x hx;cases hx
 | wait _ _ _ ih=>exact ih
 | @work s p _ hf ih=>
  intro x hx
  rcases DT hx with q | q
  .exact ih x q
  .have:=(mJ hf).1
   rw[q];exact⟨by omega,by omega⟩
structure Ran (js:List J) (s:R):Prop where
 len:js.length≤60
 snd:∀j∈js,bw j
 rr:jk [.list (js.map jd)]=some (s.ps.map jd)
 reach:Reach js s
 zero:∀i,aC s.ls i=0
 few:s.ps.length≤2*js.length
theorem wK{js:List J}(hl:js.length≤60)(hs:∀j∈js,bw j):∃s,Ran js s:=by
 obtain⟨s,er,hr,hz,hlen⟩:=DS hl hs
 exact⟨s,hl,hs,er,hr,hz,hlen⟩
theorem Ran.run{js:List J}{s:R}(h:Ran js s):fM [.list (js.map jd)]=some (.list (s.ps.map jd)):=by unfold fM;rw[h.rr];rfl
theorem Ran.place{js:List J}{s:R}(h:Ran js s){x:J}(hx:x∈s.ps):0≤x.1∧x.1.toNat < js.length:=h.reach.places x hx
theorem wL:∀(js:List J),js.map (fun _:J=>D.int 0)=(List.replicate js.length 0).map D.int
 | []=>rfl
 | j :: js=>by rw[List.map_cons,wL js,List.length_cons,List.replicate_succ];rfl
noncomputable def cM(ls:List Int)(x:J):List Int:=ls.set x.1.toNat x.2.2
noncomputable def cg(js:List J)(s:R):List Int:=s.ps.foldl cM (List.replicate js.length 0)
theorem DU{xs:List J}:∀ {ls:List Int},(xs.foldl cM ls).length=ls.length:=by
 induction xs with
 | nil=>intro ls;rfl
 | cons x xs ih=>intro ls;rw[List.foldl_cons,ih];simp[cM]
theorem DV{js:List J}{s:R}:(cg js s).length=js.length:=by unfold cg;rw[DU];simp
theorem DW{js:List J}{ls:List Int}{x:J}(hl:js.length≤60)(hx:0≤x.1∧x.1.toNat < js.length)(hll:ls.length=js.length):((0:Int)≤x.1∧x.1 < (((ls.map D.int).length:Nat):Int)∧x.1 < 9223372036854775808)∧(ls.map D.int).set x.1.toNat (.int x.2.2)=(cM ls x).map D.int:=by
 refine⟨⟨hx.1,by rw[List.length_map];omega,by omega⟩,?_⟩
 unfold cM;rw[List.map_set]
theorem DX{js:List J}{s:R}(h:Ran js s):qe [.list (js.map jd)]=some (.list ((cg js s).map .int)):=by
 have hl:=h.len
 have hf:=h.few
 have z1:(js.map jd).length≤16777216:=by simp;omega
 have z2:(s.ps.map jd).length≤16777216:=by simp;omega
 have hr:=h.run
 have hc:∀ ρ:aa,cX (.one (Str.ofString "job")) c8 (eI 0) (js.map jd) ρ=some ((List.replicate js.length 0).map D.int):=fun ρ=>by
  rw[gI (fun _=>true) (fun j:J=>.int 0) js (fun j hj=>⟨_,rfl,rfl,fun _=>⟨av,rfl⟩⟩),List.filter_eq_self.mpr (fun _ _=>rfl),wL]
 obtain⟨ρ,e,h1,h2⟩:=wJ (g:=jd) (t:=Str.ofString "piece") (mb:=qd) (fun ls ρ=>ρ (Str.ofString "found")=some (.own (ls.map .int))∧ls.length=js.length) cM s.ps
  (fun x hx ls ρ hI=>by
   obtain⟨c1,c2⟩:=DW hl (h.place hx) hI.2
   have v:=hI.1
   exact⟨_,by unfold qd;exact lZ (aN (vV an) av dn) (aN (vV an) av dc) (uN B0 v) aP c1 sE,by rw[an,c2],by simp[cM,hI.2]⟩) (List.replicate js.length 0)
  (ah (bK [Str.ofString "jobs"] [.list (js.map jd)]) (Str.ofString "found") (.own ((List.replicate js.length 0).map .int))) ⟨by exact an,by simp⟩
 refine cT rfl ?_
 unfold ue
 simp only[ay,t1,List.map_cons,List.map_nil]
 show _=some (Out.ret (.list ((s.ps.foldl cM (List.replicate js.length 0)).map .int)))
 exact sO (iA (iS (vV az) gk z1) (hc _)) (jv (iS (bH (aB (vV (uN B3 az)) aF) (aW bD aY) hr) gk z2) e (AN h1))
noncomputable def dF(js:List J)(es:List Int)(i:Nat):Bool:=decide ((ar js i).2.2 < aC es i)
noncomputable def iN(js:List J)(es:List Int):List (Int × Int):=((List.range js.length).filter (dF js es)).map fun(i:Nat)=>((ar js i).2.2,(i:Int))
noncomputable def eR(js:List J)(es:List Int):List (Int × Int):=jY (iN js es)
theorem DY{m:aa->Option D}{ρ:aa}:lP m ρ=(m ρ).bind fun d=>(D.items? d).bind ji:=id rfl
theorem wM:∀(ps:List (Int × Int)),lO (ps.map pd)=some ps
 | []=>rfl
 | p :: ps=>by rw[List.map_cons];unfold lO;rw[wM ps];rfl
theorem DZ{ps:List (Int × Int)}(h:ps.length < 64):ji (ps.map pd)=some ((jY ps).map pd):=by
 unfold ji
 rw[if_pos (by simpa using h),wM];rfl
theorem wN{js:List J}{es:List Int}:(iN js es).length≤js.length:=by
 unfold iN
 have:=List.length_filter_le (dF js es) (List.range js.length)
 simpa using this
theorem D0{js:List J}{es:List Int}:(eR js es).length≤js.length:=by unfold eR;rw[sortP_perm.length_eq];exact wN
theorem wO{js:List J}{es:List Int}{p:Int × Int}(h:p∈eR js es):∃i:Nat,i < js.length∧dF js es i=true∧p=((ar js i).2.2,(i:Int)):=by
 have h:=sortP_perm.mem_iff.mp h
 unfold iN at h
 obtain⟨i,hi,rfl⟩:=List.mem_map.mp h
 rw[List.mem_filter] at hi
 exact⟨i,by simpa using hi.1,hi.2,rfl⟩
theorem D1{p:Int × Int}:bf (pd p) (.int 1)=some (.int p.2):=iz (by omega) (by omega)
theorem D2{a:aa->Option D}{ρ:aa}{d:D}{us vs:List D}(h1:a ρ=some d)(h2:d.items? = some us)(h3:ji us=some vs):lP a ρ=some vs:=by rw[DY,h1,au,h2,au,h3]
theorem wP{js:List J}{s:R}(h:Ran js s):qf [.list (js.map jd)]=some (.list ((eR js (cg js s)).map fun p=>.int p.2)):=by
 have hl:=h.len
 have hel:=DV (js:=js) (s:=s)
 have fe:=DX h
 have hnn:((js.length:Int)≤16777216∧-16777216≤(js.length:Int)):=by omega
 have ln:=eC (js:=js) (by omega)
 generalize cg js s=es at *
 have hRl:=wN (js:=js) (es:=es)
 have hPl:=D0 (js:=js) (es:=es)
 have hc1:∀ ρ:aa,ρ (Str.ofString "jobs")=some (.list (js.map jd))->ρ (Str.ofString "done")=some (.list (es.map .int))->cX (.one (Str.ofString "place")) (aK cy (aq (eV "done") (eV "place")) (aq (aq (eV "jobs") (eV "place")) (eI 2))) (aS (ae (aq (aq (eV "jobs") (eV "place")) (eI 2)) (ae (eV "place") ak))) (ca 0 js.length) ρ=some ((iN js es).map pd):=fun ρ h1 h2=>by
  rw[show ca 0 js.length=(List.range js.length).map fun(i:Nat)=>D.int (0+(i:Int)) from rfl,gI (dF js es) (fun(i:Nat)=>pd ((ar js i).2.2,(i:Int))) (List.range js.length) (fun k hk=>?_)]
  .unfold iN;rw[List.map_map];rfl
  .have hk':k < js.length:=by simpa using hk
   have g1:=jD hk' (by omega:js.length≤1000000)
   have g2:=rE (show k < es.length by omega) (by omega)
   rw[Int.zero_add]
   exact⟨_,rfl,by unfold dF;exact aH (aN (vV (uN BZ h2)) (vV an) g2) (aN (aN (vV (uN dp h1)) (vV an) g1) av dn) lW,fun _=>⟨by unfold pd;exact cK (aB (aN (aN (vV (uN dp h1)) (vV an) g1) av dn) (aB (vV an) aF)) (aW aP (aW aP aY)),rfl⟩⟩
 have so:ji ((iN js es).map pd)=some ((eR js es).map pd):=DZ (by omega)
 have z:((eR js es).map pd).length≤16777216:=by rw[List.length_map];omega
 have hc2:∀ ρ:aa,cX (.one (Str.ofString "row")) c8 (aq (eV "row") (eI 1)) ((eR js es).map pd) ρ=some ((eR js es).map fun p=>.int p.2):=fun ρ=>by
  rw[gI (fun _=>true) (fun p:Int × Int=>.int p.2) (eR js es) (fun p hp=>⟨_,rfl,rfl,fun _=>⟨aN (vV an) av D1,rfl⟩⟩),List.filter_eq_self.mpr (fun _ _=>rfl)]
 refine cT rfl ?_
 unfold uf
 simp only[ay,t1,List.map_cons,List.map_nil]
 solve_by_elim -exfalso-symm-intro-constructor(maxDepth:=500) (transparency:=.reducible)only[fe,hnn,ln,hc1,so,z,hc2,iA,D2,sA,uW,sR,vV,aF,aB,bH,bq,vL,iS,nP,an,uN,az,db,gk,bD,aY,aW,B2]
theorem C6.endp{js:List J}{ls:List Int}{t:Int}{x:J}(h:C6 js ls t x):t≤x.2.1∧x.2.1 < x.2.2:=⟨h.tb,h.be⟩
theorem Rpl.later{js:List J}:∀ {xs:List J} {ls ls':List Int} {t t':Int},Rpl (C6 js) xs ls t ls' t'->∀x∈xs,t≤x.2.1∧x.2.1 < x.2.2:=by
 intro xs ls ls' t t' h
 induction h with
 | nil=>intro x h;cases h
 | cons h1 _ ih=>
  intro x h
  have e:=h1.endp
  rcases List.mem_cons.mp h with rfl | h
  .exact e
  .have i:=ih x h
   exact⟨Int.le_trans e.1 (Int.le_trans (Int.le_of_lt e.2) i.1),i.2⟩
noncomputable def wk(xs:List J)(o:Nat):Int:=((xs.filter fun x=>decide (x.1=(o:Int))).map fun x=>x.2.2 - x.2.1).sum
theorem rM{x:J}{xs:List J}{o:Nat}:wk (x :: xs) o=(if x.1=(o:Int) then x.2.2 - x.2.1 else 0)+wk xs o:=by
 unfold wk
 by_cases q:x.1=(o:Int) <;> simp[List.filter_cons,q]
theorem Rpl.left{js:List J}:∀ {xs:List J} {ls ls':List Int} {t t':Int},Rpl (C6 js) xs ls t ls' t'->ls.length=js.length->(∀i,aC ls' i=0)->∀o < js.length,aC ls o=wk xs o:=by
 intro xs ls ls' t t' h
 induction h with
 | nil=>intro _ hz o _;rw[hz o];rfl
 | @cons x xs ls ls' t t' h1 h2 ih=>
  intro hl hz o ho
  have ih:=ih (by simpa [dq] using hl) hz o ho
  have hx:=h1.nn
  have hlt:=h1.lt
  rw[rM,← ih]
  unfold dq
  rw[iM (by omega)]
  by_cases q:o=x.1.toNat
  .rw[if_pos q,if_pos (by omega),← q];omega
  .rw[if_neg q,if_neg (by omega)];omega
theorem oX{xs:List J}{o:Nat}(h:∀x∈xs,x.2.1 < x.2.2):0≤wk xs o∧((∃x∈xs,x.1=(o:Int))->0 < wk xs o):=by
 induction xs with
 | nil=>exact⟨by simp[wk],fun⟨x,hx,_⟩=>by cases hx⟩
 | cons y xs ih=>
  obtain⟨i1,i2⟩:=ih fun x hx=>h x (.tail _ hx)
  have hy:=h y (.head _)
  rw[rM]
  refine⟨by split <;> omega,fun⟨x,hx,ex⟩=>?_⟩
  rcases List.mem_cons.mp hx with rfl | hx
  .rw[if_pos ex];omega
  .have:=i2 ⟨x,hx,ex⟩
   split <;> omega
theorem Rpl.split{C:List Int->Int->J->Prop}:∀ {as bs:List J} {ls ls':List Int} {t t':Int},Rpl C (as++bs) ls t ls' t'->∃ls1 t1,Rpl C as ls t ls1 t1∧Rpl C bs ls1 t1 ls' t'
 | [],_,ls,_,t,_,h=>⟨ls,t,.nil,h⟩
 | _ :: _,_,_,_,_,_,.cons h1 h2=>by
  obtain⟨ls1,t1,a,b⟩:=Rpl.split h2
  exact⟨ls1,t1,.cons h1 a,b⟩
noncomputable def ia(as:List J):Int:=match as.getLast? with | some y=>y.2.2 | none=>0
theorem Rpl.at{js:List J}{as bs:List J}{x:J}{ls':List Int}{t':Int}(h:Rpl (C6 js) (as++x :: bs) (js.map (·.2.1)) 0 ls' t')(hz:∀i,aC ls' i=0):∃ls,C6 js ls (ia as) x∧∀o < js.length,aC ls o=wk (x :: bs) o:=by
 obtain⟨ls1,t1,h1,h2⟩:=h.split
 have hl:ls1.length=js.length:=by rw[h1.len];simp
 have ht:t1=ia as:=by
  unfold ia
  cases hg:as.getLast? with
  | none=>
   have:as=[]:=by simpa using hg
   subst this
   cases h1;rfl
  | some y=>
   obtain⟨ys,rfl⟩:=List.getLast?_eq_some_iff.mp hg
   obtain⟨_,_,_,_,_,e⟩:=h1.unsnoc
   exact e
 subst ht
 refine⟨ls1,?_,h2.left hl hz⟩
 cases h2 with
 | cons hc _=>exact hc
noncomputable def dt(e:Int)(x:J):Int:=if e < x.2.2 then e else x.2.2
noncomputable def eD(js:List J)(e:Int):List J->Int->Int
 | [],b=>b
 | x :: xs,b=>if x.2.1 < e then(if dt e x < b∨e < (ar js x.1.toNat).2.2 then b else eD js e xs x.2.1) else eD js e xs b
structure Late (js ps:List J) (q:Nat) (e:Int):Prop where
 lt:q < js.length
 due:(ar js q).2.2=e
 come:(ar js q).1 < e
 nn:0≤(ar js q).1
 last:∃cs z ds,ps=cs++z :: ds∧z.1=(q:Int)∧e < z.2.2
theorem Rpl.order{js:List J}{as bs:List J}{x:J}{ls ls':List Int}{t t':Int}(h:Rpl (C6 js) (as++x :: bs) ls t ls' t'):(∀y∈as,y.2.2≤x.2.1)∧∀y∈bs,x.2.2≤y.2.1:=by
 obtain⟨ls1,t1,h1,h2⟩:=h.split
 constructor
 .intro y hy
  obtain⟨us,vs,rfl⟩:=List.append_of_mem hy
  rw[List.append_assoc] at h
  obtain⟨ls2,t2,g1,g2⟩:=h.split
  cases g2 with
  | cons _ g3=>exact(g3.later x (List.mem_append_right _ (.head _))).1
 .cases h2 with
  | cons _ g=>exact fun y hy=>(g.later y hy).1
theorem Late.pending{js ps:List J}{q:Nat}{e:Int}{ls':List Int}{t':Int}(L:Late js ps q e)(h:Rpl (C6 js) ps (js.map (·.2.1)) 0 ls' t'){as bs:List J}{x:J}(ex:ps=as++x :: bs)(hx:x.2.1 < e):0 < wk (x :: bs) q:=by
 obtain⟨cs,z,ds,ez,hz,hze⟩:=L.last
 have hpos:∀y∈ps,y.2.1 < y.2.2:=fun y hy=>(h.later y hy).2
 refine(oX (fun y hy=>hpos y (by rw[ex];exact List.mem_append_right _ hy))).2 ⟨z,?_,hz⟩
 have hm:z∈as++x :: bs:=by rw[← ex,ez];exact List.mem_append_right _ (.head _)
 rcases List.mem_append.mp hm with q1 | q1
 .rw[ex] at h
  have:=h.order.1 z q1
  omega
 .exact q1
theorem Late.dueOf{js ps:List J}{q:Nat}{e:Int}{ls':List Int}{t':Int}(L:Late js ps q e)(h:Rpl (C6 js) ps (js.map (·.2.1)) 0 ls' t')(hz:∀i,aC ls' i=0){as bs:List J}{x:J}(ex:ps=as++x :: bs)(hx:x.2.1 < e)(hc:(ar js q).1 < x.2.2):(ar js x.1.toNat).2.2≤e:=by
 have hp:=L.pending h ex hx
 have due:=L.due
 rw[ex] at h
 obtain⟨ls,c,hw⟩:=h.at hz
 have:=c.first q L.lt (by rw[hw q L.lt];exact hp) hc
 omega
theorem Late.gapless{js ps:List J}{q:Nat}{e:Int}{ls':List Int}{t':Int}(L:Late js ps q e)(h:Rpl (C6 js) ps (js.map (·.2.1)) 0 ls' t')(hz:∀i,aC ls' i=0){as bs:List J}{x:J}(ex:ps=as++x :: bs)(hp:0 < wk (x :: bs) q)(hc:(ar js q).1 < x.2.1):ia as=x.2.1:=by
 rw[ex] at h
 obtain⟨ls,c,hw⟩:=h.at hz
 exact c.idle q L.lt (by rw[hw q L.lt];exact hp) hc
noncomputable def cov(e:Int):List J->Int
 | []=>0
 | x :: xs=>(if x.2.1 < e then dt e x - x.2.1 else 0)+cov e xs
structure Bz (js ps:List J) (e:Int) (as bs:List J) (b:Int):Prop where
 sp:ps=as++bs
 be:b≤e
 due:∀y∈bs,y.2.1 < e->b≤y.2.1∧(ar js y.1.toNat).2.2≤e
 cov:e - b≤cov e bs
 hd:(b=e∧∀y∈bs,e≤y.2.1)∨∃y ys,bs=y :: ys∧y.2.1=b∧b < e
noncomputable def rO(js:List J)(e:Int)(rs:List J)(r:Int):Prop:=match rs with
 | []=>True
 | x :: _=>x.2.1 < e∧(dt e x < r∨e < (ar js x.1.toNat).2.2)
theorem rP{js ps:List J}{e:Int}{ls':List Int}{t':Int}(h:Rpl (C6 js) ps (js.map (·.2.1)) 0 ls' t'):∀(rs bs:List J) (b:Int),Bz js ps e rs.reverse bs b->∃rs' bs',Bz js ps e rs'.reverse bs' (eD js e rs b)∧rO js e rs' (eD js e rs b)
 | [],bs,b,B=>⟨[],bs,B,trivial⟩
 | x :: rs,bs,b,B=>by
  have sp:ps=rs.reverse++x :: bs:=by rw[B.sp,List.reverse_cons,List.append_assoc];rfl
  have hx:x.2.1 < x.2.2:=(h.later x (by rw[sp];exact List.mem_append_right _ (.head _))).2
  have ho:∀y∈bs,x.2.2≤y.2.1:=by rw[sp] at h;exact h.order.2
  unfold eD
  by_cases q:x.2.1 < e
  .rw[if_pos q]
   by_cases q2:dt e x < b∨e < (ar js x.1.toNat).2.2
   .rw[if_pos q2]
    exact⟨x :: rs,bs,B,q,q2⟩
   .rw[if_neg q2]
    have q3:b≤dt e x:=by omega
    have q4:(ar js x.1.toNat).2.2≤e:=by omega
    have q5:dt e x≤x.2.2:=by unfold dt;split <;> omega
    have hb:=B.cov
    have hbe:=B.be
    refine rP h rs (x :: bs) x.2.1 ⟨sp,by omega,fun y hy hye=>?_,?_,.inr ⟨x,bs,rfl,rfl,q⟩⟩
    .rcases List.mem_cons.mp hy with rfl | hy
     .exact⟨Int.le_refl _,q4⟩
     .have:=ho y hy
      exact⟨by omega,(B.due y hy hye).2⟩
    .unfold cov
     rw[if_pos q];omega
  .rw[if_neg q]
   rcases B.hd with ⟨hbe,hall⟩ | ⟨y,ys,rfl,hy1,hy2⟩
   .refine rP h rs (x :: bs) b ⟨sp,B.be,fun y hy hye=>?_,?_,.inl ⟨hbe,fun y hy=>?_⟩⟩
    .rcases List.mem_cons.mp hy with rfl | hy
     .exact absurd hye q
     .exact B.due y hy hye
    .unfold cov
     rw[if_neg q];have:=B.cov;omega
    .rcases List.mem_cons.mp hy with rfl | hy
     .omega
     .exact hall y hy
   .have:=ho y (.head _)
    omega
theorem Rpl.mem'{C:List Int->Int->J->Prop}:∀ {xs:List J} {ls ls':List Int} {t t':Int},Rpl C xs ls t ls' t'->∀x∈xs,∃ls t,C ls t x:=by
 intro xs ls ls' t t' h
 induction h with
 | nil=>intro x h;cases h
 | cons h1 _ ih=>
  intro x h
  rcases List.mem_cons.mp h with rfl | h
  .exact⟨_,_,h1⟩
  .exact ih x h
theorem D3{js ps:List J}{e r:Int}{ls':List Int}{t':Int}(hs:∀j∈js,bw j)(h:Rpl (C6 js) ps (js.map (·.2.1)) 0 ls' t')(hz:∀i,aC ls' i=0){rs bs:List J}(B:Bz js ps e rs.reverse bs r)(S:rO js e rs r){x:J}(hx:x∈bs)(hxe:x.2.1 < e):r≤(ar js x.1.toNat).1:=by
 have hpos:∀y∈ps,y.2.1 < y.2.2:=fun y hy=>(h.later y hy).2
 obtain⟨_,_,cx⟩:=h.mem' x (by rw[B.sp];exact List.mem_append_right _ hx)
 have ho:x.1.toNat < js.length:=cx.lt
 have hxo:x.1=((x.1.toNat:Nat):Int):=(Int.toNat_of_nonneg cx.nn).symm
 have hdue:=(B.due x hx hxe).2
 have hnn:=(hs _ (oU ho)).1
 rcases B.hd with ⟨_,hall⟩ | ⟨y,ys,rfl,hy1,hy2⟩
 .have:=hall x hx;omega
 .by_cases q:r≤(ar js x.1.toNat).1
  .exact q
  .exfalso
   have hp:0 < wk (y :: ys) x.1.toNat:=(oX fun z hz=>hpos z (by rw[B.sp];exact List.mem_append_right _ hz)).2 ⟨x,hx,hxo⟩
   have sp:=B.sp
   have h':=h
   rw[sp] at h'
   obtain⟨ls,c,hw⟩:=h'.at hz
   have hi:=c.idle _ ho (by rw[hw _ ho];exact hp) (by omega)
   cases rs with
   | nil=>simp[ia] at hi;omega
   | cons w rs=>
    rw[List.reverse_cons] at hi sp
    have hw2:w.2.2=r:=by simp[ia] at hi;omega
    obtain⟨s1,s2⟩:=S
    have hm:dt e w=r:=by unfold dt;rw[if_neg (by omega)];exact hw2
    have hdw:e < (ar js w.1.toNat).2.2:=s2.resolve_left (by omega)
    rw[List.append_assoc] at sp
    have h2:=h
    rw[sp] at h2
    obtain⟨ls2,c2,hw2'⟩:=Rpl.at (as:=rs.reverse) (x:=w) (bs:=y :: ys) h2 hz
    have hp2:0 < wk (w :: y :: ys) x.1.toNat:=(oX fun z hz=>hpos z (by rw[sp];exact List.mem_append_right _ hz)).2 ⟨x,.tail _ hx,hxo⟩
    have:=c2.first _ ho (by rw[hw2' _ ho];exact hp2) (by omega)
    omega
theorem D4{as:List J}{w:J}:ia (as++[w])=w.2.2:=by simp[ia]
theorem D5{js ps:List J}{e r:Int}{q:Nat}{ls':List Int}{t':Int}(L:Late js ps q e)(h:Rpl (C6 js) ps (js.map (·.2.1)) 0 ls' t')(hz:∀i,aC ls' i=0){rs bs:List J}(B:Bz js ps e rs.reverse bs r)(S:rO js e rs r):r≤(ar js q).1:=by
 have hcn:=L.nn
 have hce:=L.come
 by_cases hq:r≤(ar js q).1
 .exact hq
 .exfalso
  have hre:=B.be
  have ahead:∀w ws,rs=w :: ws->r≤dt e w->(ar js q).1 < w.2.2->False:=fun w ws er hm hc=>by
   subst er
   obtain⟨s1,s2⟩:=S
   have sp:=B.sp
   rw[List.reverse_cons,List.append_assoc] at sp
   have:=L.dueOf h hz (as:=ws.reverse) (x:=w) (bs:=bs) sp s1 hc
   omega
  have follow:∀y ys,bs=y :: ys->r≤y.2.1->0 < wk (y :: ys) q->False:=fun y ys eb hy hp=>by
   have sp:=B.sp
   rw[eb] at sp
   have g:=L.gapless h hz sp hp (by omega)
   cases rs with
   | nil=>simp[ia] at g;omega
   | cons w ws=>
    rw[List.reverse_cons,D4] at g
    refine ahead w ws rfl ?_ (by omega)
    unfold dt;split <;> omega
  rcases B.hd with ⟨h1,h2⟩ | ⟨y,ys,eb,hy1,hy2⟩
  .obtain⟨cs,z,ds,ez,hzq,hze⟩:=L.last
   have hm:z∈rs.reverse++bs:=by rw[← B.sp,ez];exact List.mem_append_right _ (.head _)
   rcases List.mem_append.mp hm with q1 | q1
   .cases rs with
    | nil=>cases q1
    | cons w ws=>
     rw[List.reverse_cons] at q1
     have sp:=B.sp
     rw[List.reverse_cons,List.append_assoc] at sp
     rcases List.mem_append.mp q1 with q2 | q2
     .have h':=h
      rw[sp] at h'
      have:=h'.order.1 z q2
      have:=S.1
      omega
     .rw[List.mem_singleton] at q2
      subst q2
      refine ahead z ws rfl ?_ (by omega)
      unfold dt;rw[if_pos hze];exact hre
   .cases bs with
    | nil=>cases q1
    | cons y ys=>
     refine follow y ys rfl (by have:=h2 y (.head _);omega) ((oX fun u hu=>(h.later u (by rw[B.sp];exact List.mem_append_right _ hu)).2).2 ⟨z,q1,hzq⟩)
  .refine follow y ys eb (by omega) ?_
   have sp:=B.sp
   rw[eb] at sp
   exact L.pending h sp (by omega)
noncomputable def dg(f:Nat->Int):Nat->Int
 | 0=>0
 | n+1=>dg f n+f n
theorem kY{f g:Nat->Int}:∀ {n:Nat},(∀o < n,f o=g o)->dg f n=dg g n
 | 0,_=>rfl
 | n+1,h=>by unfold dg;rw[kY fun o ho=>h o (by omega),h n (by omega)]
theorem wQ{f g:Nat->Int}:∀ {n:Nat},dg (fun o=>f o+g o) n=dg f n+dg g n
 | 0=>rfl
 | n+1=>by unfold dg;rw[wQ];omega
theorem rQ:∀ {n:Nat},dg (fun _=>0) n=0
 | 0=>rfl
 | n+1=>by unfold dg;rw[rQ];rfl
theorem wR{v:Int}{k:Nat}:∀ {n:Nat},k < n->dg (fun o=>if o=k then v else 0) n=v
 | 0,h=>by omega
 | n+1,h=>by
  unfold dg
  by_cases q:n=k
  .subst q
   rw[if_pos rfl,kY (g:=fun _=>0) fun o ho=>if_neg (by omega),rQ];omega
  .rw[if_neg q,wR (by omega)];omega
theorem wT{f:Nat->Int}:∀ {n:Nat},dg f (n+1)=f 0+dg (fun o=>f (o+1)) n
 | 0=>by simp[dg]
 | n+1=>by rw[dg,wT,dg];omega
theorem rR{p:J->Bool}{g:J->Int}:∀ {js:List J},((js.filter p).map g).sum=dg (fun o=>if p (ar js o) then g (ar js o) else 0) js.length
 | []=>rfl
 | j :: js=>by
  rw[List.length_cons,wT,List.filter_cons]
  have ih:=rR (p:=p) (g:=g) (js:=js)
  have e:(fun o=>if p (ar (j :: js) (o+1)) then g (ar (j :: js) (o+1)) else 0)=fun o=>if p (ar js o) then g (ar js o) else 0:=rfl
  rw[e,← ih,show ar (j :: js) 0=j from rfl]
  cases hp:p j <;> simp
noncomputable def wS(S:Nat->Bool):List J->Int
 | []=>0
 | x :: xs=>(if S x.1.toNat then x.2.2 - x.2.1 else 0)+wS S xs
theorem wU{S:Nat->Bool}:∀ {as bs:List J},wS S (as++bs)=wS S as+wS S bs
 | [],bs=>by simp[wS]
 | a :: as,bs=>by simp only[List.cons_append,wS];rw[wU];omega
theorem wV{S:Nat->Bool}{z:J}(hz:S z.1.toNat=true):∀ {as:List J},(∀x∈as,x.2.1 < x.2.2)->0≤wS S as∧(z∈as->0 < wS S as)
 | [],_=>⟨by simp[wS],fun h=>by cases h⟩
 | a :: as,h=>by
  obtain⟨i1,i2⟩:=wV hz (as:=as) fun x hx=>h x (.tail _ hx)
  have ha:=h a (.head _)
  unfold wS
  refine⟨by split <;> omega,fun hm=>?_⟩
  rcases List.mem_cons.mp hm with rfl | hm
  .rw[if_pos hz];omega
  .have:=i2 hm;split <;> omega
theorem rT{S:Nat->Bool}{n:Nat}:∀ {ps:List J},(∀x∈ps,0≤x.1∧x.1.toNat < n)->wS S ps=dg (fun o=>if S o then wk ps o else 0) n
 | [],_=>by
  unfold wS
  rw[kY (g:=fun _=>0) fun o _=>by simp[wk],rQ]
 | x :: xs,h=>by
  obtain⟨h0,hl⟩:=h x (.head _)
  unfold wS
  rw[rT (n:=n) fun y hy=>h y (.tail _ hy),← wR (v:=if S x.1.toNat then x.2.2 - x.2.1 else 0) hl,← wQ]
  refine kY fun o _=>?_
  rw[rM]
  by_cases q:o=x.1.toNat
  .rw[if_pos q,if_pos (show x.1=(o:Int) by omega),← q]
   cases S o <;> simp
  .rw[if_neg q,if_neg (show ¬x.1=(o:Int) by omega)]
   cases S o <;> simp
theorem wW{S:Nat->Bool}{e:Int}{z:J}(hz:S z.1.toNat=true)(hze:e < z.2.2):∀ {bs:List J},(∀x∈bs,x.2.1 < x.2.2)->(∀x∈bs,x.2.1 < e->S x.1.toNat=true)->cov e bs≤wS S bs∧(z∈bs->cov e bs < wS S bs)
 | [],_,_=>⟨by simp[cov,wS],fun h=>by cases h⟩
 | b :: bs,h,hS=>by
  obtain⟨i1,i2⟩:=wW hz hze (bs:=bs) (fun x hx=>h x (.tail _ hx)) fun x hx=>hS x (.tail _ hx)
  have hb:=h b (.head _)
  have hs:=hS b (.head _)
  have hm:dt e b≤b.2.2∧dt e b≤e:=by unfold dt;split <;> omega
  unfold cov wS
  have k:(if b.2.1 < e then dt e b - b.2.1 else 0)≤(if S b.1.toNat then b.2.2 - b.2.1 else 0):=by
   by_cases q:b.2.1 < e
   .rw[if_pos q,if_pos (hs q)];omega
   .rw[if_neg q];split <;> omega
  refine⟨by omega,fun hmem=>?_⟩
  rcases List.mem_cons.mp hmem with rfl | hmem
  .have:(if z.2.1 < e then dt e z - z.2.1 else 0) < (if S z.1.toNat then z.2.2 - z.2.1 else 0):=by
    rw[if_pos hz];split <;> omega
   omega
  .have:=i2 hmem;omega
noncomputable def bS(js:List J)(b e:Int):Int:=((js.filter fun j=>decide (b≤j.1)&&decide (j.2.2≤e)).map (·.2.1)).sum
theorem D6{js ps:List J}{e:Int}{q:Nat}{ls':List Int}{t':Int}(hs:∀j∈js,bw j)(L:Late js ps q e)(h:Rpl (C6 js) ps (js.map (·.2.1)) 0 ls' t')(hz:∀i,aC ls' i=0):0≤eD js e ps.reverse e∧eD js e ps.reverse e≤(ar js q).1∧e - eD js e ps.reverse e < bS js (eD js e ps.reverse e) e:=by
 have hpos:∀y∈ps,y.2.1 < y.2.2:=fun y hy=>(h.later y hy).2
 obtain⟨rs,bs,B,S⟩:=rP (e:=e) h ps.reverse [] e ⟨by simp,Int.le_refl _,fun y hy=>(nomatch hy),by simp[cov],.inl ⟨rfl,fun y hy=>(nomatch hy)⟩⟩
 generalize eD js e ps.reverse e=r at *
 have hb:=D5 L h hz B S
 refine⟨?_,hb,?_⟩
 .have hce:=L.come
  have hcn:=L.nn
  rcases B.hd with ⟨h1,_⟩ | ⟨y,ys,eb,h1,_⟩
  .omega
  .have:=(h.later y (by rw[B.sp,eb];exact List.mem_append_right _ (.head _))).1
   omega
 .obtain⟨cs,z,ds,ez,hzq,hze⟩:=L.last
  let SS:Nat->Bool:=fun o=>decide (r≤(ar js o).1)&&decide ((ar js o).2.2≤e)
  have hzS:SS z.1.toNat=true:=by
   have:z.1.toNat=q:=by omega
   have d:=L.due
   simp only[SS,this,Bool.and_eq_true,decide_eq_true_eq];omega
  have hm:∀x∈ps,0≤x.1∧x.1.toNat < js.length:=fun x hx=>by
   obtain⟨_,_,c⟩:=h.mem' x hx
   exact⟨c.nn,c.lt⟩
  have e1:bS js r e=wS SS ps:=by
   rw[rT hm]
   unfold bS
   rw[rR]
   refine kY fun o ho=>?_
   have hl:=h.left (by simp) hz o ho
   rw[rH ho] at hl
   rw[← hl]
  have hbs:∀x∈bs,x∈ps:=fun x hx=>by rw[B.sp];exact List.mem_append_right _ hx
  have has:∀x∈rs.reverse,x∈ps:=fun x hx=>by rw[B.sp];exact List.mem_append_left _ hx
  obtain⟨c1,c2⟩:=wW (S:=SS) hzS hze (bs:=bs) (fun x hx=>hpos x (hbs x hx)) (fun x hx hxe=>by
   have g1:=D3 hs h hz B S hx hxe
   have g2:=(B.due x hx hxe).2
   simp only[SS,Bool.and_eq_true,decide_eq_true_eq];omega)
  obtain⟨a1,a2⟩:=wV (S:=SS) hzS (as:=rs.reverse) fun x hx=>hpos x (has x hx)
  have hzm:z∈rs.reverse++bs:=by rw[← B.sp,ez];exact List.mem_append_right _ (.head _)
  have hw:wS SS ps=wS SS rs.reverse+wS SS bs:=by rw[B.sp];exact wU
  have hc:=B.cov
  rw[e1,hw]
  rcases List.mem_append.mp hzm with q1 | q1
  .have:=a2 q1;omega
  .have:=c2 q1;omega
theorem wX{o:Nat}{v:Int}:∀ {ps:List J} {es:List Int},(∀x∈ps,v≤x.2.2∧x.1.toNat < es.length)->v≤aC es o->v≤aC (ps.foldl cM es) o
 | [],es,_,h=>h
 | x :: xs,es,hx,h=>by
  rw[List.foldl_cons]
  refine wX (fun y hy=>?_) ?_
  .have:=hx y (.tail _ hy)
   exact⟨this.1,by simpa [cM] using this.2⟩
  .have:=hx x (.head _)
   unfold cM
   rw[iM this.2]
   split
   .exact this.1
   .exact h
theorem wY{js:List J}{ls':List Int}:∀ {ps:List J} {ls es:List Int} {t t':Int},Rpl (C6 js) ps ls t ls' t'->es.length=js.length->∀x∈ps,x.2.2≤aC (ps.foldl cM es) x.1.toNat:=by
 intro ps ls es t t' h
 induction h generalizing es with
 | nil=>intro _ x hx;cases hx
 | @cons y ys ls ls' t t' h1 h2 ih=>
  intro hl x hx
  rw[List.foldl_cons]
  have hlen:(cM es y).length=js.length:=by simpa [cM] using hl
  rcases List.mem_cons.mp hx with rfl | hx
  .refine wX (fun z hz=>?_) ?_
   .have:=h2.later z hz
    obtain⟨_,_,c⟩:=h2.mem' z hz
    exact⟨by omega,by rw[hlen];exact c.lt⟩
   .unfold cM
    rw[iM (by rw[hl];exact h1.lt),if_pos rfl];exact Int.le_refl _
  .exact ih hlen x hx
theorem wZ{js:List J}{o:Nat}:∀ {ps:List J} {es:List Int},(∀x∈ps,0≤x.1∧x.1.toNat < es.length)->aC (ps.foldl cM es) o=aC es o∨∃z∈ps,z.1=(o:Int)∧aC (ps.foldl cM es) o=z.2.2
 | [],es,_=>.inl rfl
 | x :: xs,es,h=>by
  rw[List.foldl_cons]
  have hx:=h x (.head _)
  rcases wZ (js:=js) (o:=o) (ps:=xs) (es:=cM es x) (fun y hy=>by have:=h y (.tail _ hy);exact⟨this.1,by simpa [cM] using this.2⟩) with q | ⟨z,hz,h1,h2⟩
  .by_cases e:o=x.1.toNat
   .refine .inr ⟨x,.head _,by omega,?_⟩
    rw[q];unfold cM;rw[iM hx.2,if_pos e]
   .left
    rw[q];unfold cM;rw[iM hx.2,if_neg e]
  .exact .inr ⟨z,.tail _ hz,h1,h2⟩
theorem w3{a:aa->Option D}{ρ:aa}{d:D}{us:List D}(h1:a ρ=some d)(h2:fB true d=some us)(h3:us.length≤16777216):lF a ρ=some us.reverse:=by unfold lF;rw[h1,au,h2,au,if_pos h3]
theorem D7{l:List D}:fB true (.list l)=some l:=id rfl
theorem rU{t:Str}{mb:aa->Option Out}{ρ ρ':aa}{d:D}{ds:List D}(h:mb (ah ρ t d)=some (.next ρ')):bY (.one t) mb (d :: ds) ρ=bY (.one t) mb ds ρ':=by simp only[bY,gH,au,h]
theorem rW{t:Str}{mb:aa->Option Out}{ρ:aa}{d v:D}{ds:List D}(h:mb (ah ρ t d)=some (.ret v)):bY (.one t) mb (d :: ds) ρ=some (.ret v):=by simp only[bY,gH,au,h]
theorem jF{js:List J}{i:Int}(h:0≤i∧i.toNat < js.length)(hb:js.length≤1000000):bf (.list (js.map jd)) (.int i)=some (jd (ar js i.toNat)):=by
 have:=jD h.2 hb
 rwa [Int.toNat_of_nonneg h.1] at this
theorem rX{js:List J}(hl:js.length≤60)(e:Int):∀(xs:List J) (b:Int) (ρ:aa),(∀x∈xs,0≤x.1∧x.1.toNat < js.length)->ρ (Str.ofString "jobs")=some (.list (js.map jd))->ρ (Str.ofString "end")=some (.int e)->ρ (Str.ofString "begin")=some (.int b)->
  bY (.one (Str.ofString "piece")) jl (xs.map jd) ρ=some (.ret (.int (eD js e xs b)))∨∃ ρ',bY (.one (Str.ofString "piece")) jl (xs.map jd) ρ=some (.next ρ')∧ρ' (Str.ofString "begin")=some (.int (eD js e xs b))
 | [],b,ρ,_,_,_,v=>.inr ⟨ρ,rfl,v⟩
 | x :: xs,b,ρ,hx,v1,v2,v3=>by
  have g:=jF (hx x (.head _)) (by omega)
  rw[List.map_cons]
  unfold eD
  by_cases q:x.2.1 < e
  .rw[if_pos q]
   by_cases q1:(if e < x.2.2 then e else x.2.2) < b
   .rw[if_pos (.inl q1),rW (v:=.int b) (by unfold jl;solve_by_elim -exfalso-symm-intro-constructor(maxDepth:=500) (transparency:=.reducible)only[v1,v2,v3,g,q,q1,sT,dS,sR,vV,aH,hU,aN,aF,aB,bq,av,an,uN,gp,qu,fh,dn,aP,ot,kG])]
    exact .inl rfl
   .by_cases q2:e < (ar js x.1.toNat).2.2
    .rw[if_pos (.inr q2),rW (v:=.int b) (by unfold jl;solve_by_elim -exfalso-symm-intro-constructor(maxDepth:=500) (transparency:=.reducible)only[v1,v2,v3,g,q,q1,q2,sT,dS,sR,vV,aH,hU,bz,aN,aF,aB,bq,av,an,uN,gp,fi,fP,qu,dc,fh,dn,aP,ot,kG,oA])]
     exact .inl rfl
    .rw[if_neg (show ¬(dt e x < b∨_) from fun h=>h.elim q1 q2),rU (ρ':=ah (ah ρ (Str.ofString "piece") (jd x)) (Str.ofString "begin") (.int x.2.1)) (by unfold jl;solve_by_elim -exfalso-symm-intro-constructor(maxDepth:=500) (transparency:=.reducible)only[v1,v2,v3,g,q,q1,q2,sA,sT,sF,dS,sP,sE,vV,aH,bz,aN,aF,aB,bq,av,cJ,an,uN,gp,fi,jw,qu,dc,fh,dn,aP,ot,kG,oA])]
     exact rX hl e xs x.2.1 _ (fun y hy=>hx y (.tail _ hy)) (by exact uN vM (uN oA v1)) (by exact uN kF (uN kG v2)) (by exact an)
  .rw[if_neg q,rU (ρ':=ah ρ (Str.ofString "piece") (jd x)) (by unfold jl;exact sF (aH (aN (vV an) av fh) (vV (uN kG v2)) (fi q)) (sP sE))]
   exact rX hl e xs b _ (fun y hy=>hx y (.tail _ hy)) (by exact uN oA v1) (by exact uN kG v2) (by exact uN ot v3)
theorem D8{js ps:List J}{e:Int}(hl:js.length≤60)(hp:ps.length≤10000)(hx:∀x∈ps,0≤x.1∧x.1.toNat < js.length):qg [.list (js.map jd),.list (ps.map jd),.int e]=some (.int (eD js e ps.reverse e)):=by
 have z:(ps.map jd).length≤16777216:=by simp;omega
 have lt:=D7 (l:=ps.map jd)
 have er:ps.reverse.map jd=(ps.map jd).reverse:=List.map_reverse
 have o:=rX hl e ps.reverse e (ah (bK [Str.ofString "jobs",Str.ofString "pieces",Str.ofString "end"] [.list (js.map jd),.list (ps.map jd),.int e]) (Str.ofString "begin") (.int e)) (fun x h=>hx x (by simpa using h)) (by exact uN vM az) (by exact uN kF (bN qZ (bN gL az))) (by exact an)
 rw[er] at o
 refine cT rfl ?_
 unfold ug
 simp only[ay,t1,List.map_cons,List.map_nil]
 rcases o with o | ⟨ρ',o,v⟩
 .exact sA (vV (bN qZ (bN gL az))) aP (uX (w3 (vV (uN vP (bN vQ az))) lt z) o)
 .exact sA (vV (bN qZ (bN gL az))) aP (jv (w3 (vV (uN vP (bN vQ az))) lt z) o (sR (vV v) aP))
theorem D9{ns:List Int}(h:ns≠[]):bj (.list (ns.map .int)) (.list [])=some false:=by
 unfold bj
 rw[wv,show(D.list ([]:List D)).ok 8=true from rfl,Bool.and_self,if_pos rfl]
 cases ns with
 | nil=>exact absurd rfl h
 | cons n ns=>simp[D.py,D.pys,PyData.eqv,PyData.eqvAll]
theorem EA{js:List J}{s:R}(h:Ran js s)(h0:eR js (cg js s)=[]):fN [.list (js.map jd)]=some (.tup [.str (Str.ofString "plan"),.list (s.ps.map jd)]):=by
 have fr:=h.run
 have fl:=wP h
 rw[h0,List.map_nil] at fl
 have ce:bj (.list []) (.list [])=some true:=wy rfl
 refine cT rfl ?_
 unfold qh
 simp only[ay,t1,List.map_cons,List.map_nil]
 solve_by_elim -exfalso-symm-intro-constructor(maxDepth:=500) (transparency:=.reducible)only[fr,fl,ce,sA,sT,dS,sR,vV,aH,aF,aB,cK,bH,vL,cu,hK,an,uN,az,dE,bD,kf,aY,aW,kH,vR]
theorem EB{js:List J}{s:R}(h:Ran js s){q:Nat}{rest:List (Int × Int)}(hq:q < js.length)(h0:eR js (cg js s)=((ar js q).2.2,(q:Int)) :: rest):fN [.list (js.map jd)]=some (.tup [.str (Str.ofString "late"),.int (q:Int),.int (eD js (ar js q).2.2 s.ps.reverse (ar js q).2.2),.int (ar js q).2.2]):=by
 have fr:=h.run
 have fl:=wP h
 have hl:=h.len
 have hf:=h.few
 rw[h0,show((((ar js q).2.2,(q:Int)) :: rest).map fun p=>D.int p.2)=(((q:Int) :: rest.map (·.2))).map D.int by rw[List.map_cons,List.map_cons,List.map_map];rfl] at fl
 have ce:=D9 (ns:=(q:Int) :: rest.map (·.2)) (by simp)
 have g0:bf (.list (((q:Int) :: rest.map (·.2)).map D.int)) (.int 0)=some (.int (q:Int)):=lX (by omega) (by omega)
 have g1:=jD hq (by omega:js.length≤1000000)
 have fb:=D8 (js:=js) (ps:=s.ps) (e:=(ar js q).2.2) hl (by omega) fun x hx=>h.place hx
 generalize ((q:Int) :: rest.map (·.2)).map D.int=l at *
 refine cT rfl ?_
 unfold qh
 simp only[ay,t1,List.map_cons,List.map_nil]
 solve_by_elim -exfalso-symm-intro-constructor(maxDepth:=500) (transparency:=.reducible)only[fr,fl,ce,g0,g1,fb,sA,sF,sP,sR,vV,aH,aN,aF,aB,cK,bH,vL,cu,av,hK,an,uN,az,dn,aP,dE,bD,kf,aY,aW,mz,kH,dp,B4,oF,mD,vR,oH]
theorem iT{a:aa->Option D}{ρ:aa}{j:J}(h:a ρ=some (jd j)):cH "tuple" a ρ=some (.bool true):=by unfold cH;rw[h];rfl
theorem rY{a:aa->Option D}{ρ:aa}{l:List D}(h:a ρ=some (.tup l)):cH "tuple" a ρ=some (.bool true):=by unfold cH;rw[h];rfl
theorem iL{a:aa->Option D}{ρ:aa}{l:List D}(h:a ρ=some (.list l)):cH "list" a ρ=some (.bool true):=by unfold cH;rw[h];rfl
theorem EC{j:J}:bg [jd j]=some (.int 3):=id rfl
theorem ED{j:J}:qj [jd j]=some (.bool true):=by
 have w0:=oS (i:=j.1)
 have w1:=oS (i:=j.2.1)
 have w2:=oS (i:=j.2.2)
 have ln:=EC (j:=j)
 have q:(3:Int)=3:=rfl
 refine cT rfl ?_
 unfold uk
 simp only[ay,t1,List.map_cons,List.map_nil]
 solve_by_elim -exfalso-symm-intro-constructor(maxDepth:=500) (transparency:=.reducible)only[w0,w1,w2,ln,iT,q,sF,sP,sR,vV,aH,df,bz,cC,jr,aN,aF,aB,bH,bq,av,cJ,az,kv,gj,dc,fh,dn,aP,jq,aY,aW]
theorem Rpl.with{C:List Int->Int->J->Prop}{P:J->Prop}:∀ {xs:List J} {ls ls':List Int} {t t':Int},Rpl C xs ls t ls' t'->(∀x∈xs,P x)->Rpl (fun ls t x=>C ls t x∧P x) xs ls t ls' t':=by
 intro xs ls ls' t t' h
 induction h with
 | nil=>intro _;exact .nil
 | cons h1 _ ih=>intro h;exact .cons ⟨h1,h _ (.head _)⟩ (ih fun x hx=>h x (.tail _ hx))
theorem EE{js:List J}{C:List Int->Int->J->Prop}{t:Str}{mb:aa->Option Out}(I:List Int->Int->aa->Prop)(step:∀(ls:List Int) (tm:Int) (x:J) (ρ:aa),ls.length=js.length->C ls tm x->I ls tm ρ->∃ ρ',mb (ah ρ t (jd x))=some (.next ρ')∧I (dq ls x) x.2.2 ρ'):
  ∀ {xs:List J} {ls ls':List Int} {tm tm':Int},Rpl C xs ls tm ls' tm'->ls.length=js.length->∀ ρ,I ls tm ρ->∃ ρ',bY (.one t) mb (xs.map jd) ρ=some (.next ρ')∧I ls' tm' ρ':=by
 intro xs ls ls' tm tm' h
 induction h with
 | nil=>intro _ ρ h;exact⟨ρ,rfl,h⟩
 | cons hc hr ih=>
  intro hl ρ h
  obtain⟨ρ1,e1,h1⟩:=step _ _ _ ρ hl hc h
  obtain⟨ρ2,e2,h2⟩:=ih (by simpa [dq] using hl) ρ1 h1
  exact⟨ρ2,by rw[List.map_cons,rU e1,e2],h2⟩
structure I9 (js:List J) (ls:List Int) (tm:Int) (ρ:aa):Prop where
 jobs:ρ (Str.ofString "_law_jobs")=some (.list (js.map jd))
 left:ρ (Str.ofString "_law_left")=some (.own (ls.map .int))
 time:ρ (Str.ofString "_law_now")=some (.int tm)
theorem EF{ls:List Int}{i:Int}(h:0≤i∧i.toNat < ls.length)(hb:ls.length≤1000000):bf (.own (ls.map .int)) (.int i)=some (.int (aC ls i.toNat)):=by
 have:=wB h.2 hb
 rwa [Int.toNat_of_nonneg h.1] at this
theorem EG{js:List J}(hl:js.length≤60)(ls:List Int)(tm:Int)(x:J)(ρ:aa)(hll:ls.length=js.length)(hc:C6 js ls tm x∧x.2.2≤(ar js x.1.toNat).2.2)(H:I9 js ls tm ρ):∃ ρ',nx (ah ρ (Str.ofString "_law_piece") (jd x))=some (.next ρ')∧I9 js (dq ls x) x.2.2 ρ':=by
 obtain⟨h1,h2,h3⟩:=H
 obtain⟨⟨c1,c2,c3,c4,c5,_,_,_⟩,c6⟩:=hc
 have g1:=jF ⟨c1,c2⟩ (by omega:js.length≤1000000)
 have g2:=EF (ls:=ls) ⟨c1,by omega⟩ (by omega)
 have ft:=ED (j:=x)
 have ln:=eC (js:=js) (by omega)
 have q1:x.1 < (js.length:Int):=by omega
 have q2:¬x.2.1 < (ar js x.1.toNat).1:=by omega
 have q3:¬(ar js x.1.toNat).2.2 < x.2.2:=by omega
 have cnd:((0:Int)≤x.1∧x.1 < ((ls.map D.int).length:Int)∧x.1 < 9223372036854775808):=⟨c1,by simp;omega,by omega⟩
 refine⟨_,by unfold nx;solve_by_elim -exfalso-symm-intro-constructor(maxDepth:=500) (transparency:=.reducible)only[h1,h2,h3,g1,g2,ft,ln,q1,q2,q3,c1,c3,c4,cnd,sA,sF,sP,sE,lZ,vV,br,aH,lY,df,bz,cC,aN,aF,aB,bH,bq,av,cJ,an,uN,hM,gp,fi,jw,hZ,gj,dc,fh,dn,aP,fO,aY,aW,vy,BF,BI,BJ],by exact uN vx (uN vw (uN vy h1)),?_,by exact an⟩
 have e:(ls.map D.int).set x.1.toNat (.int (aC ls x.1.toNat - (x.2.2 - x.2.1)))=(dq ls x).map D.int:=by unfold dq;rw[List.map_set]
 rw[← e]
 exact uN vD an
theorem w4:∀ {ls:List Int},(∀i,aC ls i=0)->ls=List.replicate ls.length 0
 | [],_=>rfl
 | x :: ls,h=>by
  have h0:x=0:=h 0
  have ih:=w4 (ls:=ls) fun i=>h (i+1)
  rw[List.length_cons,List.replicate_succ,← ih,h0]
theorem w5:∀(n:Nat),(List.replicate n [D.int 0]).flatten=(List.replicate n 0).map D.int
 | 0=>rfl
 | n+1=>by rw[List.replicate_succ,List.flatten_cons,w5 n,List.replicate_succ];rfl
theorem EH{a b:aa->Option D}{ρ:aa}{d:D}{k:Nat}(h1:a ρ=some d)(h2:b ρ=some (.int (k:Int)))(h3:d.items? = some [D.int 0])(h4:(k:Int)≤1000):jP a b ρ=some ((List.replicate k 0).map D.int):=by
 rw[AK h1 h2 h3 ⟨by simp,by omega,h4⟩,Int.toNat_natCast,w5]
theorem EI{js:List J}{s:R}(h:Ran js s)(hd:∀x∈s.ps,x.2.2≤(ar js x.1.toNat).2.2):j4 [.list (js.map jd),.list (s.ps.map jd)]=some (.bool true):=by
 have hl:=h.len
 have hf:=h.few
 obtain⟨t0,rp,_,_⟩:=h.reach.rpl h.snd
 have z1:(js.map jd).length≤16777216:=by simp;omega
 have z2:(s.ps.map jd).length≤16777216:=by simp;omega
 have ln:=eC (js:=js) (by omega)
 have hn:(js.length:Int)≤1000:=by omega
 have hc:∀ ρ:aa,cX (.one (Str.ofString "_law_job")) c8 (aq (eV "_law_job") (eI 1)) (js.map jd) ρ=some ((js.map (·.2.1)).map D.int):=fun ρ=>by
  rw[gI (fun _=>true) (fun j:J=>.int j.2.1) js (fun j hj=>⟨_,rfl,rfl,fun _=>⟨aN (vV an) av fh,rfl⟩⟩),List.filter_eq_self.mpr (fun _ _=>rfl),List.map_map];rfl
 obtain⟨ρ',e,hI⟩:=EE (js:=js) (t:=Str.ofString "_law_piece") (mb:=nx) (I9 js) (EG hl) (rp.with hd) (by simp)
  (ah (ah (bK [Str.ofString "_law_jobs",Str.ofString "_law_pieces"] [.list (js.map jd),.list (s.ps.map jd)]) (Str.ofString "_law_left") (.own ((js.map (·.2.1)).map .int))) (Str.ofString "_law_now") (.int 0)) ⟨by exact uN vx (uN vw az),by exact uN vD an,by exact an⟩
 have hls:s.ls=List.replicate js.length 0:=by rw[w4 h.zero,(h.reach.good h.snd).len]
 obtain⟨i1,i2,_⟩:=hI
 rw[hls] at i2
 have ce:bj (.own ((List.replicate js.length 0).map D.int)) (.list ((List.replicate js.length 0).map D.int))=some true:=DC wv
 refine cT rfl ?_
 unfold ul
 simp only[ay,t1,List.map_cons,List.map_nil]
 solve_by_elim -exfalso-symm-intro-constructor(maxDepth:=500) (transparency:=.reducible)only[iA,hc,z1,z2,ln,hn,iL,jv,e,i1,i2,ce,EH,sA,sO,sF,sP,sR,vV,gJ,df,cC,aF,aB,bq,vL,cu,iS,av,uN,az,bN,db,gk,gj,aP,jq,aY,aW,BK,BL,BM]
theorem EJ{js:List J}{b e:Int}(hl:js.length≤60):qi [.list (js.map jd),.int b,.int e]=some (.int (bS js b e)):=by
 have z1:(js.map jd).length≤16777216:=by simp;omega
 have hc:∀ ρ:aa,ρ (Str.ofString "_law_begin")=some (.int b)->ρ (Str.ofString "_law_end")=some (.int e)->cX (.one (Str.ofString "_law_job")) (dh (aK eT (aq (eV "_law_job") (eI 0)) (eV "_law_begin")) (dh (aK dv (aq (eV "_law_job") (eI 2)) (eV "_law_end")) c8)) (aq (eV "_law_job") (eI 1)) (js.map jd) ρ=some (((js.filter fun j=>decide (b≤j.1)&&decide (j.2.2≤e)).map (·.2.1)).map D.int):=fun ρ v1 v2=>by
  rw[gI (fun j:J=>decide (b≤j.1)&&decide (j.2.2≤e)) (fun j:J=>.int j.2.1) js (fun j hj=>⟨_,rfl,?_,fun _=>⟨aN (vV an) av fh,rfl⟩⟩),List.map_map]
  .rfl
  .by_cases q1:b≤j.1
   .by_cases q2:j.2.2≤e
    .rw[decide_eq_true q1,decide_eq_true q2];show _=some true
     exact eP (aH (aN (vV an) av dc) (vV (uN qG v1)) (ku q1)) (eP (aH (aN (vV an) av dn) (vV (uN vh v2)) (hZ q2)) jp)
    .rw[decide_eq_true q1,decide_eq_false q2];show _=some false
     exact eP (aH (aN (vV an) av dc) (vV (uN qG v1)) (ku q1)) (gm (aH (aN (vV an) av dn) (vV (uN vh v2)) (qA q2)))
   .rw[decide_eq_false q1,Bool.false_and]
    exact gm (aH (aN (vV an) av dc) (vV (uN qG v1)) (jx q1))
 have sm:∀ns:List Int,gY [.list (ns.map .int)]=some (.int ns.sum):=fun ns=>by show(dw (ns.map D.int)).map _=_;rw[oW];rfl
 refine cT rfl ?_
 unfold uj bS
 simp only[ay,t1,List.map_cons,List.map_nil]
 exact sR (bq (aB (vL (iA (iS (vV az) gk z1) (hc _ (bN u6 az) (bN vj (bN vg az))))) aF) (sm _)) aP
theorem EK{js:List J}{q:Nat}{b:Int}(hl:js.length≤60)(hq:q < js.length)(h0:0≤b)(h1:b≤(ar js q).1)(h2:(ar js q).2.2 - b < bS js b (ar js q).2.2):lT [.list (js.map jd),.int (q:Int),.int b,.int (ar js q).2.2]=some (.bool true):=by
 have w:=fun i=>oS (i:=i)
 have g1:=jD hq (by omega:js.length≤1000000)
 have ln:=eC (js:=js) (by omega)
 have fl:=fun e=>EJ (js:=js) (b:=b) (e:=e) hl
 have q1:(0:Int)≤(q:Int):=by omega
 have q2:(q:Int) < (js.length:Int):=by omega
 have q3:(ar js q).2.2=(ar js q).2.2:=rfl
 refine cT rfl ?_
 unfold um
 simp only[ay,t1,List.map_cons,List.map_nil]
 solve_by_elim -exfalso-symm-intro-constructor(maxDepth:=500) (transparency:=.reducible)only[w,g1,ln,fl,q1,q2,q3,h0,h1,h2,sF,sP,sR,vV,br,gJ,aH,lY,df,bz,cC,aN,aF,aB,bH,bq,av,cJ,az,bN,hM,gp,fP,hZ,kv,gj,dc,dn,aP,bD,jq,aY,aW,u6,AS,vg,vj,A1,oq]
theorem w6{x y:String}{t:Bool}(hx:(D.str (Str.ofString x)).ok 8=true)(hy:(D.str (Str.ofString y)).ok 8=true)(h:(Str.ofString x==Str.ofString y)=t):bj (.str (Str.ofString x)) (.str (Str.ofString y))=some t:=by
 subst h
 unfold bj
 rw[hx,hy,Bool.and_self,if_pos rfl]
 simp[D.py,PyData.eqv]
theorem EL{js:List J}{s:R}(h:Ran js s){q:Nat}(hq:q < js.length)(hd:dF js (cg js s) q=true):Late js s.ps q (ar js q).2.2:=by
 have hj:=h.snd _ (oU hq)
 unfold dF at hd
 rw[decide_eq_true_eq] at hd
 have ho:=wZ (js:=js) (o:=q) (ps:=s.ps) (es:=List.replicate js.length 0) fun x hx=>by rw[List.length_replicate];exact h.place hx
 have h0:aC (List.replicate js.length 0) q=0:=by unfold aC;simp[List.getD_eq_getElem?_getD,List.getElem?_replicate,hq]
 rw[h0] at ho
 obtain⟨j1,_,j3,_⟩:=hj
 refine⟨hq,rfl,j3,j1,?_⟩
 change aC (cg js s) q=0∨_ at ho
 rcases ho with ho | ⟨z,hz,h1,h2⟩
 .omega
 .obtain⟨cs,ds,e⟩:=List.append_of_mem hz
  change aC (cg js s) q=_ at h2
  exact⟨cs,z,ds,e,h1,by omega⟩
noncomputable def gap(js:List J)(b e:Int):Int:=e - b - bS js b e
theorem Rpl.pwr{js:List J}:∀ {xs:List J} {ls ls':List Int} {t t':Int},Rpl (C6 js) xs ls t ls' t'->xs.Pairwise fun a b=>a.2.2≤b.2.1:=by
 intro xs ls ls' t t' h
 induction h with
 | nil=>exact .nil
 | cons h1 h2 ih=>exact .cons (fun b hb=>(h2.later b hb).1) ih
theorem rZ{S:Nat->Bool}{e:Int}:∀ {xs:List J} {u:Int},(∀x∈xs,S x.1.toNat=true->u≤x.2.1∧x.2.2≤e)->(∀x∈xs,x.2.1 < x.2.2)->xs.Pairwise (fun a b=>a.2.2≤b.2.1)->u≤e->wS S xs≤e - u
 | [],u,_,_,_,h=>by unfold wS;omega
 | x :: xs,u,hS,hx,hp,h=>by
  rw[List.pairwise_cons] at hp
  unfold wS
  by_cases q:S x.1.toNat=true
  .obtain⟨h1,h2⟩:=hS x (.head _) q
   have:=rZ (S:=S) (e:=e) (xs:=xs) (u:=x.2.2) (fun y hy hq=>⟨hp.1 y hy,(hS y (.tail _ hy) hq).2⟩) (fun y hy=>hx y (.tail _ hy)) hp.2 h2
   rw[if_pos q];omega
  .have:=rZ (S:=S) (e:=e) (xs:=xs) (u:=u) (fun y hy hq=>hS y (.tail _ hy) hq) (fun y hy=>hx y (.tail _ hy)) hp.2 h
   rw[if_neg q];omega
theorem EM{js:List J}{s:R}(h:Ran js s)(hd:∀i < js.length,dF js (cg js s) i=false){b e:Int}(hbe:b≤e):0≤gap js b e:=by
 obtain⟨t0,rp,_,_⟩:=h.reach.rpl h.snd
 have e1:bS js b e=wS (fun o=>decide (b≤(ar js o).1)&&decide ((ar js o).2.2≤e)) s.ps:=by
  rw[rT fun x hx=>h.place hx]
  unfold bS
  rw[rR]
  refine kY fun o ho=>?_
  have hl:=rp.left (by simp) h.zero o ho
  rw[rH ho] at hl
  rw[← hl]
 have:=rZ (S:=fun o=>decide (b≤(ar js o).1)&&decide ((ar js o).2.2≤e)) (e:=e) (xs:=s.ps) (u:=b) (fun x hx hq=>by
  simp only[Bool.and_eq_true,decide_eq_true_eq] at hq
  obtain⟨_,_,c⟩:=rp.mem' x hx
  have h1:=wY (es:=List.replicate js.length 0) rp (by simp) x hx
  change x.2.2≤aC (cg js s) x.1.toNat at h1
  have h2:=hd _ (h.place hx).2
  unfold dF at h2
  rw[decide_eq_false_iff_not] at h2
  have:=c.come
  exact⟨by omega,by omega⟩) (fun x hx=>(rp.later x hx).2) rp.pwr hbe
 unfold gap
 omega
theorem w7{js:List J}{s:R}(h:Ran js s)(h0:∀i < js.length,dF js (cg js s) i=false):fN [.list (js.map jd)]=some (.tup [.str (Str.ofString "plan"),.list (s.ps.map jd)])∧j4 [.list (js.map jd),.list (s.ps.map jd)]=some (.bool true):=by
 obtain⟨t0,rp,_,_⟩:=h.reach.rpl h.snd
 have hp:eR js (cg js s)=[]:=List.eq_nil_iff_forall_not_mem.mpr fun p hp=>by
  obtain⟨i,hi,hd,_⟩:=wO hp
  rw[h0 i hi] at hd;cases hd
 refine⟨EA h hp,EI h fun x hx=>?_⟩
 have h1:=wY (es:=List.replicate js.length 0) rp (by simp) x hx
 change x.2.2≤aC (cg js s) x.1.toNat at h1
 have h2:=h0 _ (h.place hx).2
 unfold dF at h2
 rw[decide_eq_false_iff_not] at h2
 omega
theorem w8{js:List J}{s:R}(h:Ran js s){i:Nat}(hi:i < js.length)(h0:dF js (cg js s) i=true):∃q r e:Int,fN [.list (js.map jd)]=some (.tup [.str (Str.ofString "late"),.int q,.int r,.int e])∧lT [.list (js.map jd),.int q,.int r,.int e]=some (.bool true)∧r≤e∧e - r < bS js r e:=by
 obtain⟨t0,rp,_,_⟩:=h.reach.rpl h.snd
 cases hp:eR js (cg js s) with
 | nil=>
  exfalso
  have hm:((ar js i).2.2,(i:Int))∈eR js (cg js s):=by
   refine sortP_perm.mem_iff.mpr ?_
   unfold iN
   rw[List.mem_map]
   exact⟨i,List.mem_filter.mpr ⟨by simpa using hi,h0⟩,rfl⟩
  rw[hp] at hm;cases hm
 | cons p rest=>
  obtain⟨q,hq,hd,e⟩:=wO (js:=js) (es:=cg js s) (p:=p) (by rw[hp];exact .head _)
  rw[e] at hp
  obtain⟨c1,c2,c3⟩:=D6 h.snd (EL h hq hd) rp h.zero
  have sq:=(h.snd _ (oU hq)).2.2.1
  exact⟨_,_,_,EB h hq hp,EK h.len hq c1 c2 c3,by omega,c3⟩
structure Fit (js:List J):Prop where
 len:js.length≤60
 snd:∀j∈js,bw j
 gap:∀b e,b≤e->bS js b e≤e - b
theorem Fit.no{js:List J}{s:R}(f:Fit js)(h:Ran js s):∀i < js.length,dF js (cg js s) i=false:=fun i hi=>by
 cases q:dF js (cg js s) i with
 | false=>rfl
 | true=>
  obtain⟨_,r,e,_,_,h1,h2⟩:=w8 h hi q
  have:=f.gap r e h1
  omega
theorem w9{js:List J}(hl:js.length≤60)(hs:∀j∈js,bw j):(Fit js∧∃ps:List J,ps.length≤120∧fN [.list (js.map jd)]=some (.tup [.str (Str.ofString "plan"),.list (ps.map jd)]))∨(¬Fit js∧∃q r e:Int,fN [.list (js.map jd)]=some (.tup [.str (Str.ofString "late"),.int q,.int r,.int e])∧lT [.list (js.map jd),.int q,.int r,.int e]=some (.bool true)):=by
 obtain⟨s,h⟩:=wK hl hs
 by_cases q:∀i < js.length,dF js (cg js s) i=false
 .refine .inl ⟨⟨hl,hs,fun b e hb=>?_⟩,s.ps,by have:=h.few;omega,(w7 h q).1⟩
  have:=EM h q hb
  unfold gap at this
  omega
 .have:∃i < js.length,dF js (cg js s) i=true:=by
   refine Classical.byContradiction fun n=>q fun i hi=>?_
   cases z:dF js (cg js s) i with
   | false=>rfl
   | true=>exact absurd ⟨i,hi,z⟩ n
  obtain⟨i,hi,z⟩:=this
  obtain⟨q,r,e,h1,h2,h3,h4⟩:=w8 h hi z
  exact .inr ⟨fun f=>by have:=f.gap r e h3;omega,q,r,e,h1,h2⟩
theorem oY{js:List J}(f:Fit js):∃ps:List J,ps.length≤120∧jk [.list (js.map jd)]=some (ps.map jd)∧fM [.list (js.map jd)]=some (.list (ps.map jd))∧j4 [.list (js.map jd),.list (ps.map jd)]=some (.bool true):=by
 obtain⟨s,h⟩:=wK f.len f.snd
 exact⟨s.ps,by have:=h.few;have:=h.len;omega,h.rr,h.run,(w7 h (f.no h)).2⟩
theorem mK{xs ys:List J}{b e:Int}:bS (xs++ys) b e=bS xs b e+bS ys b e:=by
 unfold bS;rw[List.filter_append,List.map_append,List.sum_append]
theorem gv{j:J}{ys:List J}{b e:Int}:bS (j :: ys) b e=(if b≤j.1∧j.2.2≤e then j.2.1 else 0)+bS ys b e:=by
 unfold bS
 by_cases q:b≤j.1∧j.2.2≤e
 .rw[if_pos q,List.filter_cons_of_pos (by simp[q.1,q.2]),List.map_cons,List.sum_cons]
 .rw[if_neg q,List.filter_cons_of_neg (by simp;omega),Int.zero_add]
theorem gR{b e:Int}:bS [] b e=0:=by simp[bS]
theorem xa{xs ys:List J}(h:xs.Sublist ys)(hs:∀j∈ys,bw j){b e:Int}:bS xs b e≤bS ys b e:=by
 induction h with
 | slnil=>omega
 | @cons l₁ l₂ a _ ih=>
  have:=ih fun j hj=>hs j (.tail _ hj)
  have:=(hs a (.head _)).2.1
  rw[gv]
  split <;> omega
 | @cons_cons l₁ l₂ a _ ih=>
  have:=ih fun j hj=>hs j (.tail _ hj)
  rw[gv,gv]
  omega
theorem Fit.sub{xs ys:List J}(f:Fit ys)(h:xs.Sublist ys):Fit xs:=
 ⟨Nat.le_trans h.length_le f.len,fun j hj=>f.snd j (h.subset hj),fun b e hb=>Int.le_trans (xa h f.snd) (f.gap b e hb)⟩
theorem Fit.nil:Fit []:=⟨by simp,by simp,fun b e h=>by rw[gR];omega⟩
noncomputable def cV(js:List J)(p:Nat):List J:=js.take p++js.drop (p+1)
theorem oZ{js:List J}{p:Nat}:(cV js p).Sublist js:=by
 have:=(List.Sublist.refl (js.take p)).append (List.drop_sublist 1 (js.drop p))
 rw[List.drop_drop,List.take_append_drop] at this
 unfold cV
 rwa [Nat.add_comm] at this ⊢
theorem o0{js:List J}{p:Nat}(h:p < js.length):(cV js p).length=js.length - 1:=by
 unfold cV
 rw[List.length_append,List.length_take,List.length_drop,Nat.min_eq_left (Nat.le_of_lt h)]
 omega
set_option maxHeartbeats 4000000
theorem kZ{js:List J}{j:J}:(js++[j]).map jd=js.map jd++[jd j]:=by rw[List.map_append];rfl
theorem EN:bj (.str (Str.ofString "plan")) (.str (Str.ofString "plan"))=some true:=w6 (by decide +kernel) (by decide +kernel) (by decide +kernel)
theorem EO:bj (.str (Str.ofString "late")) (.str (Str.ofString "plan"))=some false:=w6 (by decide +kernel) (by decide +kernel) (by decide +kernel)
theorem o3{a:D}{l:List D}:bf (.tup (a :: l)) (.int 0)=some a:=iz (by omega) (by omega)
theorem r8{a b:D}{l:List D}:bf (.tup (a :: b :: l)) (.int 1)=some b:=iz (by omega) (by omega)
theorem xc{a b c:D}{l:List D}:bf (.tup (a :: b :: c :: l)) (.int 2)=some c:=iz (by omega) (by omega)
theorem EP{a b c d:D}{l:List D}:bf (.tup (a :: b :: c :: d :: l)) (.int 3)=some d:=iz (by omega) (by omega)
section
variable {ρ:aa} {b:Addr} {js:List J} {j:J}
theorem EQ(hb:ρ (ag b)=some (.list (js.map jd)))(hs:bw j)(hl:js.length < 60){l:D}(fa:fN [.list ((js++[j]).map jd)]=some (.tup [.str (Str.ofString "plan"),l])):
  ∃ σ,dC ρ [.ref b,jd j]=some (.none,σ)∧cI ρ σ=ah ρ (ag b) (.list ((js++[j]).map jd)):=by
 have fs:=oT hs
 have ln:=eC (js:=js) (by omega)
 have q:¬(60:Int)≤(js.length:Int):=by omega
 have z:(js.map jd).length+[jd j].length≤16777216:=by simp;omega
 rw[kZ] at fa ⊢
 exact⟨_,fv rfl (by unfold qk;simp only[ay,List.map_cons,List.map_nil];solve_by_elim -exfalso-symm-intro-constructor(maxDepth:=500) (transparency:=.reducible)only[hb,fs,ln,q,z,fa,EN,o3,vV,aH,df,cC,aN,aF,aB,bH,bq,vL,cu,eu,av,da,hK,an,uN,az,bN,jx,db,gj,dE,bD,ke,fO,aY,aW,bA,bT,bF,ew,bP,bR,wf,bZ,gQ,iH,kU,nE,kE,my,B5,B7,CA]),ru fun b=>upd_bk.trans (upd_bk.trans entB_key)⟩
theorem ER(hb:ρ (ag b)=some (.list (js.map jd)))(hs:bw j)(hl:js.length < 60){u v w:Int}(fa:fN [.list ((js++[j]).map jd)]=some (.tup [.str (Str.ofString "late"),.int u,.int v,.int w])):
  ∃ σ,dC ρ [.ref b,jd j]=some (.tup [.int u,.int v,.int w],σ)∧cI ρ σ=ρ:=by
 have fs:=oT hs
 have ln:=eC (js:=js) (by omega)
 have q:¬(60:Int)≤(js.length:Int):=by omega
 have z:(js.map jd).length+[jd j].length≤16777216:=by simp;omega
 rw[kZ] at fa
 exact⟨_,fv rfl (by unfold qk;simp only[ay,List.map_cons,List.map_nil];solve_by_elim -exfalso-symm-intro-constructor(maxDepth:=500) (transparency:=.reducible)only[hb,fs,ln,q,z,fa,EO,o3,r8,xc,EP,vV,aH,df,cC,aN,aF,aB,cK,bH,bq,vL,cu,eu,av,hK,an,az,bN,jx,db,gj,aP,dE,bD,fO,aY,aW,bA,bF,bP,bR,bZ,gQ,iH,nE,kE,my]),mG fun b=>upd_bk.trans (upd_bk.trans entB_key)⟩
theorem xd{d:D}(hc:d.clean=true)(fs:fL [d]=some (.bool false)):gF ρ [.ref b,d]=some "BadJob":=by
 refine oN rfl ?_
 unfold ql
 simp only[ay,List.map_cons,List.map_nil]
 exact C5 (oO (by exact qw (cC (bH (aB (vV (nE (bN my az))) aF) (aW hc aY) fs) gj)) oP)
theorem xe(hb:ρ (ag b)=some (.list (js.map jd)))(hs:bw j)(hl:js.length=60):gF ρ [.ref b,jd j]=some "TooMany":=by
 have fs:=oT hs
 have ln:=eC (js:=js) (by omega)
 have q:(60:Int)≤(js.length:Int):=by omega
 refine oN rfl ?_
 unfold ql
 simp only[ay,List.map_cons,List.map_nil]
 exact C7 (wm (by exact df (cC (bH (aB (vV (nE (bN my az))) aF) (aW fO aY) fs) gj)) wn) (C8 (by exact df (cC (bH (aB (vV (nE (bN my az))) aF) (aW fO aY) fs) gj)) sE) (oO (by exact aH (bq (aB (iH (vV (nE az)) (kE hb)) aF) ln) av (ku q)) oP)
theorem mL{k:Int}(h0:0≤k):b7 (js.map jd) none (some k)++b7 (js.map jd) (some (k+1)) none=(cV js k.toNat).map jd:=by
 rw[wu h0,oR (by omega)]
 unfold cV
 rw[List.map_append,List.map_take,List.map_drop,show(k+1).toNat=k.toNat+1 by omega]
theorem mM{k:Int}(h0:0≤k)(hl:js.length≤60):(b7 (js.map jd) none (some k)).length+(b7 (js.map jd) (some (k+1)) none).length≤16777216:=by
 rw[wu h0,oR (by omega)];simp;omega
theorem ES(hb:ρ (ag b)=some (.list (js.map jd)))(hl:js.length≤60){k:Int}(h0:0≤k)(h1:k < (js.length:Int)):
  ∃ σ,dD ρ [.ref b,.int k]=some (jd (ar js k.toNat),σ)∧cI ρ σ=ah ρ (ag b) (.list ((cV js k.toNat).map jd)):=by
 have ln:=eC (js:=js) (by omega)
 have q1:¬k < 0:=by omega
 have q2:¬(js.length:Int)≤k:=by omega
 have g:=jF (js:=js) (i:=k) ⟨h0,by omega⟩ (by omega)
 have z1:(js.map jd).length≤16777216:=by simp;omega
 have z2:=mM (js:=js) h0 hl
 rw[← mL h0]
 exact⟨_,fv rfl (by unfold un;simp only[ay,List.map_cons,List.map_nil];solve_by_elim -exfalso-symm-intro-constructor(maxDepth:=500) (transparency:=.reducible)only[hb,ln,q1,q2,g,z1,z2,vV,br,aH,bz,aN,aF,aB,bq,vL,eu,jt,ju,av,cJ,an,uN,az,bN,dR,fi,jx,db,bD,fO,bA,bF,bP,bR,wf,bZ,gQ,iH,uK,kU,nE,kE,B6,kI,B8]),ru fun b=>upd_bk.trans entB_key⟩
theorem ET(hb:ρ (ag b)=some (.list (js.map jd)))(hl:js.length≤60){k:Int}(h0:0≤k)(h1:k < (js.length:Int)):j5 ρ [.ref b,.int k]=none:=by
 have ln:=eC (js:=js) (by omega)
 have q1:¬k < 0:=by omega
 have q2:¬(js.length:Int)≤k:=by omega
 refine oN rfl ?_
 unfold qn
 simp only[ay,List.map_cons,List.map_nil]
 exact wm (by exact bz (aH (vV (nE (bN kI az))) av (fi q1)) (bz (aH (vV (nE (bN kI az))) (bq (aB (iH (vV (nE az)) (kE hb)) aF) ln) (jx q2)) cJ)) wn
theorem EU(hb:ρ (ag b)=some (.list (js.map jd)))(hl:js.length≤60){k:Int}(h:¬(0≤k∧k < (js.length:Int))):j5 ρ [.ref b,.int k]=some "OutOfPlace":=by
 have ln:=eC (js:=js) (by omega)
 refine oN rfl ?_
 unfold qn
 simp only[ay,List.map_cons,List.map_nil]
 by_cases q1:k < 0
 .exact oO (by exact hU (aH (vV (nE (bN kI az))) av (gp q1))) oP
 .have q2:(js.length:Int)≤k:=by omega
  exact oO (by exact bz (aH (vV (nE (bN kI az))) av (fi q1)) (hU (aH (vV (nE (bN kI az))) (bq (aB (iH (vV (nE az)) (kE hb)) aF) ln) (ku q2)))) oP
variable {mo me:aa->Option D}
theorem o4(o:mo ρ=some (.ref b))(hb:ρ (ag b)=some (.list (js.map jd)))(h:me ρ=some (jd j))(hs:bw j)(hl:js.length < 60)(hf:Fit (js++[j])):bv dC mo me ρ=some (.none,ah ρ (ag b) (.list ((js++[j]).map jd))):=by
 rcases w9 hf.len hf.snd with ⟨_,ps,_,fa⟩ | ⟨n,_⟩
 .obtain⟨σ,e,m⟩:=EQ hb hs hl fa
  rw[← m];exact rm o hb h fO e
 .exact absurd hf n
theorem EV(o:mo ρ=some (.ref b))(hb:ρ (ag b)=some (.list (js.map jd)))(h:me ρ=some (jd j))(hs:bw j)(hl:js.length < 60){u v w:Int}(fa:fN [.list ((js++[j]).map jd)]=some (.tup [.str (Str.ofString "late"),.int u,.int v,.int w])):bv dC mo me ρ=some (.tup [.int u,.int v,.int w],ρ):=by
 obtain⟨σ,e,m⟩:=ER hb hs hl fa
 rw[rm o hb h fO e,m]
theorem lc(o:mo ρ=some (.ref b))(hb:ρ (ag b)=some (.list (js.map jd))){k:Int}(h:me ρ=some (.int k))(hl:js.length≤60)(hk:0≤k∧k < (js.length:Int)):bv dD mo me ρ=some (jd (ar js k.toNat),ah ρ (ag b) (.list ((cV js k.toNat).map jd))):=by
 obtain⟨σ,e,m⟩:=ES hb hl hk.1 hk.2
 rw[← m];exact rm o hb h aP e
theorem ib{us:List D}(o:mo ρ=some (.ref b))(hb:ρ (ag b)=some (.list us))(hl:us.length≤16777216):c9 gG mo ρ=some us:=by
 refine wh o hb (wi rfl ?_)
 unfold uo
 simp only[ay,List.map_cons,List.map_nil]
 exact kM (qz (iH (vV (nE az)) (kE hb)) ki hl)
theorem o5{us vs:List D}(o:mo ρ=some (.ref b))(hb:ρ (ag b)=some (.list us))(hr:jk [.list us]=some vs):c9 iw mo ρ=some vs:=by
 refine wh o hb (wi rfl ?_)
 unfold uq
 simp only[ay,List.map_cons,List.map_nil]
 exact kM (CO (aB (iH (vV (nE az)) (kE hb)) aF) rfl hr)
end
set_option maxHeartbeats 4000000
theorem EW{a b c:D}:bg [.tup [a,b,c]]=some (.int 3):=id rfl
theorem r3:(3:Int)=3:=rfl
theorem EX{l:List D}:fE (.tup l) .none=some false:=id rfl
theorem o6{l:List D}:fE (.list l) .none=some false:=id rfl
theorem EY{u v w:Int}:(D.tup [.str (Str.ofString "late"),.int u,.int v,.int w]).ok 8=true:=by
 have h:(D.str (Str.ofString "late")).ok 7=true:=by decide +kernel
 show([.str (Str.ofString "late"),.int u,.int v,.int w]:List D).all (D.ok 7)=true
 rw[List.all_cons,h,List.all_cons,rA,List.all_cons,rA,List.all_cons,rA];rfl
section
variable {ρ:aa} {b:Addr} {js:List J} {j:J}
theorem EZ(hb:ρ (ag b)=some (.list (js.map jd)))(hs:bw j)(hl:js.length < 60)(hf:Fit (js++[j])):
  ∃ σ,eO ρ [.ref b,.list (js.map jd),jd j]=some (.list ((js++[j]).map jd),σ)∧cI ρ σ=ah ρ (ag b) (.list ((js++[j]).map jd)):=by
 have z:(js.map jd).length+[jd j].length≤16777216:=by simp;omega
 have sn:=kZ (js:=js) (j:=j)
 have tk:∀ {ρ:aa} {mo me:aa->Option D},mo ρ=some (.ref b)->ρ (ag b)=some (.list (js.map jd))->me ρ=some (jd j)->bv dC mo me ρ=some (.none,ah ρ (ag b) (.list (js.map jd++[jd j]))):=fun h1 h2 h3=>by rw[← sn];exact o4 h1 h2 h3 hs hl hf
 rw[sn]
 exact⟨_,fv rfl (by unfold qm;simp only[ay,List.map_cons,List.map_nil];solve_by_elim -exfalso-symm-intro-constructor(maxDepth:=500) (transparency:=.reducible)only[hb,tk,z,vV,aH,aF,aB,vL,cu,eu,da,an,uN,az,bN,db,bD,ke,fO,nR,aY,aW,bT,ew,bR,jC,bZ,gQ,uK,nE,kE,iE,vn,vr,vt,vv]),rx fun b=>entB_key⟩
theorem E0(hb:ρ (ag b)=some (.list (js.map jd)))(hs:bw j)(hl:js.length < 60)(hj:∀j∈js,bw j)(hf:¬Fit (js++[j])):
  ∃ σ,eO ρ [.ref b,.list (js.map jd),jd j]=some (.list (js.map jd),σ)∧cI ρ σ=ρ:=by
 have z:(js.map jd).length+[jd j].length≤16777216:=by simp;omega
 have sn:=kZ (js:=js) (j:=j)
 rcases w9 (js:=js++[j]) (by simp;omega) (fun x hx=>by
  rcases List.mem_append.mp hx with h | h
  .exact hj x h
  .rw[List.mem_singleton] at h;rw[h];exact hs) with ⟨f,_⟩ | ⟨_,u,v,w,fa,fc⟩
 .exact absurd f hf
 have tk:∀ {ρ:aa} {mo me:aa->Option D},mo ρ=some (.ref b)->ρ (ag b)=some (.list (js.map jd))->me ρ=some (jd j)->bv dC mo me ρ=some (.tup [.int u,.int v,.int w],ρ):=fun h1 h2 h3=>EV h1 h2 h3 hs hl fa
 rw[sn] at fa fc
 have ne:bc (.tup [.str (Str.ofString "late"),.int u,.int v,.int w]) (.tup [.str (Str.ofString "late"),.int u,.int v,.int w])=some false:=kW EY
 have it:∀ {ρ:aa} {a:aa->Option D},a ρ=some (.tup [.int u,.int v,.int w])->cH "tuple" a ρ=some (.bool true):=fun h=>rY h
 exact⟨_,fv rfl (by unfold qm;simp only[ay,List.map_cons,List.map_nil];solve_by_elim -exfalso-symm-intro-constructor(maxDepth:=500) (transparency:=.reducible)only[hb,tk,z,fa,fc,ne,it,EX,EW,r3,o3,r8,xc,vV,aH,df,bz,cC,AJ,aN,aF,aB,cK,bH,bq,vL,cu,eu,av,da,hK,cJ,an,uN,az,bN,kv,db,gj,aP,dE,bD,kf,fO,aY,aW,bF,bP,bR,jC,bZ,gQ,nE,kE,iE,vn,vr,vt,vv]),mG fun b=>upd_bk.trans entB_key⟩
variable {es:aa->Option (List D)}
theorem r9(h:es ρ=some [.ref b,.list (js.map jd),jd j])(hb:ρ (ag b)=some (.list (js.map jd)))(hs:bw j)(hl:js.length < 60)(hf:Fit (js++[j])):cf eO es ρ=some (.list ((js++[j]).map jd),ah ρ (ag b) (.list ((js++[j]).map jd))):=by
 obtain⟨σ,e,m⟩:=EZ hb hs hl hf
 rw[← m];exact oM h rfl e
theorem o7(h:es ρ=some [.ref b,.list (js.map jd),jd j])(hb:ρ (ag b)=some (.list (js.map jd)))(hs:bw j)(hl:js.length < 60)(hj:∀j∈js,bw j)(hf:¬Fit (js++[j])):cf eO es ρ=some (.list (js.map jd),ρ):=by
 obtain⟨σ,e,m⟩:=E0 hb hs hl hj hf
 rw[oM h rfl e,m]
end
theorem xf{l:List D}(h:l.length < 9223372036854775808):bg [.tup l]=some (.int l.length):=by rw[uP,uO,au,if_pos h]
theorem E1{t:Bool}:lQ [.bool t]=some (.bool false):=by
 refine cT rfl ?_
 unfold pW
 simp only[ay,List.map_cons,List.map_nil]
 exact sR (jr (hY (vV az) rfl) rfl (qx (hY (vV az) rfl) rfl)) rfl
theorem xg{d:D}(hr:d.isRef=false)(h:lw "tuple" d=false):fL [d]=some (.bool false):=by
 refine cT rfl ?_
 unfold jZ
 simp only[ay,t1,List.map_cons,List.map_nil]
 exact sT (hU (qw (cC ((hY (vV az) hr).trans (by rw[h])) rfl))) (dS (sR nJ rfl))
theorem E2{l:List D}(h:¬(l.length:Int)=3)(h':l.length < 100):fL [.tup l]=some (.bool false):=by
 refine cT rfl ?_
 unfold jZ
 simp only[ay,t1,List.map_cons,List.map_nil]
 exact sT (bz (df (cC (rY (vV az)) rfl)) (hU (aH (bq (aB (vV az) aF) (xf (by omega))) av (AP h)))) (dS (sR nJ rfl))
theorem E3{d:D}{l:List D}(hl:(l.length:Int)=2)(hc:d.clean=true)(w:lQ [d]=some (.bool false)):fL [.tup (d :: l)]=some (.bool false):=by
 refine cT rfl ?_
 unfold jZ
 simp only[ay,t1,List.map_cons,List.map_nil]
 have e:∀ ρ,bY (.one (Str.ofString "part")) e9 (d :: l) ρ=some (.ret (.bool false)):=fun ρ=>rW (by
  unfold e9
  exact sT (hU (qw (cC (bH (aB (vV an) aF) (by rw[List.all_cons,hc];rfl) w) rfl))) (dS (sR nJ rfl)))
 have h3:((d :: l).length:Int)=3:=by rw[List.length_cons];omega
 exact sF (bz (df (cC (rY (vV az)) rfl)) (bz (aH (bq (aB (vV az) aF) (xf (by rw[List.length_cons];omega))) av (kv h3)) cJ)) (sP (uX (iS (vV az) zX (by rw[List.length_cons];omega)) (e _)))
theorem sf{j:J}(h1:0≤j.1∧j.1 < 10 ^ 60)(h2:0≤j.2.1∧j.2.1 < 10 ^ 60)(h3:0≤j.2.2∧j.2.2 < 10 ^ 60)(h:¬(1≤j.2.1∧j.1 < j.2.2)):fL [jd j]=some (.bool false):=by
 have s1:∀ ρ,e9 (ah ρ (Str.ofString "part") (.int j.1))=_:=fun ρ=>kT iI (by omega) (by omega)
 have s2:∀ ρ,e9 (ah ρ (Str.ofString "part") (.int j.2.1))=_:=fun ρ=>kT iI (by omega) (by omega)
 have s3:∀ ρ,e9 (ah ρ (Str.ofString "part") (.int j.2.2))=_:=fun ρ=>kT iI (by omega) (by omega)
 have ne1:("job"=="part")=false:=by decide
 have e:∀ ρ,bY (.one (Str.ofString "part")) e9 [.int j.1,.int j.2.1,.int j.2.2] ρ=some (.next (ah (ah (ah ρ (Str.ofString "part") (.int j.1)) (Str.ofString "part") (.int j.2.1)) (Str.ofString "part") (.int j.2.2))):=fun ρ=>by
  simp only[bY,gH,au,s1,s2,s3]
 refine cT rfl ?_
 unfold jZ
 simp only[ay,t1,List.map_cons,List.map_nil]
 have g:∀ {o},bK [Str.ofString "job"] [jd j] (Str.ofString "job")=o->ah (ah (ah (bK [Str.ofString "job"] [jd j]) (Str.ofString "part") (.int j.1)) (Str.ofString "part") (.int j.2.1)) (Str.ofString "part") (.int j.2.2) (Str.ofString "job")=o:=fun h=>uN ne1 (uN ne1 (uN ne1 h))
 refine sF (bz (df (cC (hY (vV az) rfl) rfl)) (bz (aH (bq (aB (vV az) aF) (show bg [jd j]=some (.int 3) from rfl)) av (kv rfl)) cJ)) (sP (jv (iS (vV az) (show ik true (jd j)=some [.int j.1,.int j.2.1,.int j.2.2] from rfl) (by simp)) (e _) (sR ?_ rfl)))
 by_cases q:1≤j.2.1
 .exact jr (gJ (aN (vV (g az)) av fh) av (ku q)) rfl (gJ (aN (vV (g az)) av dn) (aN (vV (g az)) av dc) (jw fun h'=>h ⟨q,h'⟩))
 .exact AI (gJ (aN (vV (g az)) av fh) av (jx q)) rfl
noncomputable def o8:List D:=[.tup [.int 0,.int 0,.int 4],.tup [.int 3,.int 1,.int 3],.tup [.int 2,.int 1],.tup [.bool true,.int 1,.int 5],.list [.int 0,.int 1,.int 40],.none]
theorem E4{k:Int}(h0:0≤k)(h1:k < 6):∃d,bf (.list o8) (.int k)=some d∧d.clean=true∧fL [d]=some (.bool false):=by
 have g:bf (.list o8) (.int k)=o8[k.toNat]? := lX h0 (by omega)
 rw[g]
 have hk:k.toNat < 6:=by omega
 generalize k.toNat=n at hk
 match n,hk with
 | 0,_=>exact⟨_,rfl,rfl,sf (j:=(0,0,4)) (by decide) (by decide) (by decide) (by decide)⟩
 | 1,_=>exact⟨_,rfl,rfl,sf (j:=(3,1,3)) (by decide) (by decide) (by decide) (by decide)⟩
 | 2,_=>exact⟨_,rfl,rfl,E2 (by decide) (by decide)⟩
 | 3,_=>exact⟨_,rfl,rfl,E3 (by decide) rfl E1⟩
 | 4,_=>exact⟨_,rfl,rfl,xg rfl rfl⟩
 | 5,_=>exact⟨_,rfl,rfl,xg rfl rfl⟩
set_option maxHeartbeats 4000000
theorem E5{A B C w:Int}(ha:0≤A∧A < 30)(hb:0≤B∧B < 5)(hc:0≤C∧C < 24)(hw:1≤w)(hw':w≤10 ^ 56+1):bw (A*w,(1+B)*w,A*w+(1+C)*w):=by
 have w0:0≤w:=Int.le_trans (by decide) hw
 have k1:=Int.mul_nonneg ha.1 w0
 have k2:=wt (a:=1+B) (by omega) w0
 have k3:=wt (a:=1+C) (by omega) w0
 have k4:=wq (a:=1+B) (by omega) (by omega) w0 hw'
 have k5:=wq (a:=A+(1+C)) (by omega) (by omega) w0 hw'
 rw[Int.add_mul] at k5
 generalize A*w=x at *
 generalize (1+B)*w=y at *
 generalize (1+C)*w=z at *
 clear hw' ha hb hc
 unfold bw
 simp only
 refine⟨k1,?_,?_,?_,k4,k5⟩ <;> omega
theorem xh:fY (.int 10) (.int 30)=some (.int (10 ^ 30)):=qt (by decide) (by decide) (by decide) (by decide)
theorem E6:ny "BadJob"=some (aj (bn (bQ (eV "_law_held"))) aG):=by unfold ny;rw[if_pos rfl]
theorem xi:nA "OutOfPlace"=some (jg "e" (gZ (eU dv cw (eI 0) (eV "_law_place") (bu bg (ae (eV "_law_held") ak))) eN (eV "_law_held"))):=by unfold nA;rw[if_pos rfl]
section
variable {b:Addr} {js:List J} {c w:Int}
noncomputable def o9(b:Addr)(js:List J)(c w:Int):Prop:=∃js',Fit js'∧js'.length≤js.length+1∧∀ ρ:aa,ρ (ag b)=some (.list (js.map jd))->∃ σ,nB ρ [.ref b,.list (js.map jd),.int c,.int w]=some (.list (js'.map jd),σ)∧cI ρ σ=ah ρ (ag b) (.list (js'.map jd))
theorem E7(f:Fit js)(q:c.fmod 9=7):o9 b js c w:=by
 have h6:=dW (a:=c.fdiv 9) (b:=6) (by decide)
 obtain⟨d,g,hc,fs⟩:=E4 h6.1 h6.2
 unfold o8 at g
 have xb:∀ {ρ:aa} {mo me:aa->Option D},mo ρ=some (.ref b)->ρ (ag b)=some (.list (js.map jd))->me ρ=some d->e8 gF mo me ρ=some "BadJob":=fun h1 h2 h3=>kR h1 h2 h3 hc (xd hc fs)
 exact⟨js,f,by omega,fun ρ hb=>⟨_,fv rfl (by unfold jm;simp only[ay,List.map_cons,List.map_nil];solve_by_elim -exfalso-symm-intro-constructor(maxDepth:=500) (transparency:=.reducible)only[hb,q,g,xb,E6,vV,br,aH,aN,aF,aB,cK,vL,cu,av,da,nJ,az,bN,fj,cL,gq,aP,dE,bD,jq,ke,aY,aW,bT,ew,bR,kQ,bZ,gQ,nE,kE,jz,gu,iE,kJ,CJ,iG]),(mG fun b=>entB_key).trans (mH hb).symm⟩⟩
theorem xj(f:Fit js)(hl:js.length≤60){k:Int}(q7:¬c.fmod 9=7)(q5:5 < c.fmod 9)(hk:((c.fdiv 9).fmod 11=3∧((c.fdiv 9).fmod (2*(js.length:Int)+5) - (js.length:Int) - 2)*10 ^ 30=k)∨(¬(c.fdiv 9).fmod 11=3∧(c.fdiv 9).fmod (2*(js.length:Int)+5) - (js.length:Int) - 2=k)):o9 b js c w:=by
 have ln:=eC (js:=js) (by omega)
 have m1:(0:Int) < 2*(js.length:Int)+5:=by omega
 have pb:-18446744073709551616 < (c.fdiv 9).fmod (2*(js.length:Int)+5) - (js.length:Int) - 2∧(c.fdiv 9).fmod (2*(js.length:Int)+5) - (js.length:Int) - 2 < 18446744073709551616:=by
  have:=dW (a:=c.fdiv 9) m1
  omega
 have z1:(js.map jd).length≤16777216:=by simp;omega
 by_cases q:0≤k∧k < (js.length:Int)
 .have q1:=q.1
  have q2:=q.2
  have g:=jF (js:=js) (i:=k) ⟨q.1,by omega⟩ (by omega)
  have z2:=mM (js:=js) q.1 hl
  have ce:bc (jd (ar js k.toNat)) (jd (ar js k.toNat))=some false:=kW rz
  have dr:∀ {ρ:aa} {mo me:aa->Option D},mo ρ=some (.ref b)->ρ (ag b)=some (.list (js.map jd))->me ρ=some (.int k)->bv dD mo me ρ=some (jd (ar js k.toNat),ah ρ (ag b) (.list ((cV js k.toNat).map jd))):=fun h1 h2 h3=>lc h1 h2 h3 hl q
  have xn:∀ {ρ:aa} {mo me:aa->Option D},mo ρ=some (.ref b)->ρ (ag b)=some (.list (js.map jd))->me ρ=some (.int k)->e8 j5 mo me ρ=none:=fun h1 h2 h3=>kR h1 h2 h3 aP (ET h2 hl q1 q2)
  have len:(cV js k.toNat).length≤js.length+1:=by rw[o0 (by omega)];omega
  refine⟨cV js k.toNat,f.sub oZ,len,fun ρ hb=>?_⟩
  rw[← mL (js:=js) q1] at dr ⊢
  rcases hk with ⟨t,hk⟩ | ⟨t,hk⟩
  .have mk:dK (.int ((c.fdiv 9).fmod (2*(js.length:Int)+5) - (js.length:Int) - 2)) (.int (10 ^ 30))=some (.int k):=by rw[← hk];exact h7 pb
   exact⟨_,fv rfl (by unfold jm;simp only[ay,List.map_cons,List.map_nil];solve_by_elim -exfalso-symm-intro-constructor(maxDepth:=500) (transparency:=.reducible)only[hb,q7,q5,ln,m1,mk,t,xh,q1,q2,g,z1,z2,ce,dr,xn,vV,br,aH,lY,df,bz,aN,aF,aB,bq,vL,eu,jt,ju,av,cJ,an,uN,az,bN,dR,hM,fj,cL,h7,gp,fP,hZ,gq,fQ,db,aP,bD,fO,bA,bT,bF,ew,bP,bR,jC,wg,bZ,gQ,uK,kU,nE,kE,iD,jz,gu,kC,iE,oa,kD,om,kJ,iG,oJ,oK]),rx fun b=>upd_bk.trans (upd_bk.trans entB_key)⟩
  .have mk:fD (.int ((c.fdiv 9).fmod (2*(js.length:Int)+5) - (js.length:Int))) (.int 2)=some (.int k):=by rw[← hk];rfl
   exact⟨_,fv rfl (by unfold jm;simp only[ay,List.map_cons,List.map_nil];solve_by_elim -exfalso-symm-intro-constructor(maxDepth:=500) (transparency:=.reducible)only[hb,q7,q5,ln,m1,mk,t,q1,q2,g,z1,z2,ce,dr,xn,vV,br,aH,lY,df,bz,aN,aF,aB,bq,vL,eu,jt,ju,av,cJ,an,uN,az,bN,dR,hM,fj,cL,h7,gp,fP,hZ,fQ,db,aP,bD,fO,bA,bT,bF,ew,bP,bR,jC,wg,bZ,gQ,uK,kU,nE,kE,iD,jz,gu,kC,iE,oa,kD,om,kJ,iG,oJ,oK]),rx fun b=>upd_bk.trans entB_key⟩
 .have xo:∀ {ρ:aa} {mo me:aa->Option D},mo ρ=some (.ref b)->ρ (ag b)=some (.list (js.map jd))->me ρ=some (.int k)->e8 j5 mo me ρ=some "OutOfPlace":=fun h1 h2 h3=>kR h1 h2 h3 aP (EU h2 hl q)
  have hA:∀ {ρ:aa} {ms:aa->Option Ob},ρ (Str.ofString "_law_place")=some (.int k)->ρ (Str.ofString "_law_held")=some (.list (js.map jd))->aj (jg "e" (gZ (eU dv cw (eI 0) (eV "_law_place") (bu bg (ae (eV "_law_held") ak))) eN (eV "_law_held"))) ms ρ=some (.ret (.list (js.map jd)) ρ):=fun h1 h2=>CY (fun i=>by
   by_cases q1:0≤k
   .have q2:¬k < (js.length:Int):=fun h=>q ⟨q1,h⟩
    exact uV (lY av (vV (uN vE h1)) (hZ q1) (bq (aB (vV (uN qR h2)) aF) ln) (fi q2)) (vV (uN qR h2))
   .exact uV (CQ av (vV (uN vE h1)) (qA q1)) (vV (uN qR h2))) rfl
  refine⟨js,f,by omega,fun ρ hb=>?_⟩
  rcases hk with ⟨t,hk⟩ | ⟨t,hk⟩
  .have mk:dK (.int ((c.fdiv 9).fmod (2*(js.length:Int)+5) - (js.length:Int) - 2)) (.int (10 ^ 30))=some (.int k):=by rw[← hk];exact h7 pb
   exact⟨_,fv rfl (by unfold jm;simp only[ay,List.map_cons,List.map_nil];solve_by_elim -exfalso-symm-intro-constructor(maxDepth:=500) (transparency:=.reducible)only[hb,q7,q5,ln,m1,mk,t,xh,xo,xi,hA,vV,br,aH,aF,aB,bq,av,an,uN,az,bN,dR,hM,fj,cL,h7,fP,gq,fQ,aP,bA,bT,bF,ew,bP,kQ,bZ,kU,nE,kE,iD,jz,gu,kC,iE,kD,kJ,iG,oJ,oK]),(mG fun b=>upd_bk.trans (upd_bk.trans entB_key)).trans (mH hb).symm⟩
  .have mk:fD (.int ((c.fdiv 9).fmod (2*(js.length:Int)+5) - (js.length:Int))) (.int 2)=some (.int k):=by rw[← hk];rfl
   exact⟨_,fv rfl (by unfold jm;simp only[ay,List.map_cons,List.map_nil];solve_by_elim -exfalso-symm-intro-constructor(maxDepth:=500) (transparency:=.reducible)only[hb,q7,q5,ln,m1,mk,t,xo,xi,hA,vV,br,aH,aF,aB,bq,av,an,uN,az,bN,dR,hM,fj,cL,h7,fP,fQ,aP,bA,bT,bF,ew,bP,kQ,bZ,kU,nE,kE,iD,jz,gu,kC,iE,kD,kJ,iG,oJ,oK]),(mG fun b=>upd_bk.trans entB_key).trans (mH hb).symm⟩
theorem E8(f:Fit js)(hl:js.length < 60)(hw:1≤w)(hw':w≤10 ^ 56+1)(q5:¬ 5 < c.fmod 9):o9 b js c w:=by
 have q7:¬c.fmod 9=7:=by omega
 have ha:=dW (a:=c.fdiv 9) (b:=30) (by decide)
 have hB:=dW (a:=c.fdiv 270) (b:=5) (by decide)
 have hc:=dW (a:=c.fdiv 1350) (b:=24) (by decide)
 have hs:=E5 ha hB hc hw hw'
 have b1:=ry ha.1 (by omega)
 have b2:=ry (x:=1+(c.fdiv 270).fmod 5) (by omega) (by omega)
 have b3:=ry (x:=1+(c.fdiv 1350).fmod 24) (by omega) (by omega)
 generalize hA:(c.fdiv 9).fmod 30=A at *
 generalize hB':(c.fdiv 270).fmod 5=B at *
 generalize hC:(c.fdiv 1350).fmod 24=C at *
 have b1':-18446744073709551616 < (c.fdiv 9).fmod 30∧(c.fdiv 9).fmod 30 < 18446744073709551616:=by rw[hA];exact b1
 have b2':-18446744073709551616 < 1+(c.fdiv 270).fmod 5∧1+(c.fdiv 270).fmod 5 < 18446744073709551616:=by rw[hB'];exact b2
 have b3':-18446744073709551616 < 1+(c.fdiv 1350).fmod 24∧1+(c.fdiv 1350).fmod 24 < 18446744073709551616:=by rw[hC];exact b3
 subst hA hB' hC
 have key:∃js',Fit js'∧js'.length≤js.length+1∧∀ {ρ:aa} {es:aa->Option (List D)},es ρ=some [.ref b,.list (js.map jd),.tup [.int ((c.fdiv 9).fmod 30*w),.int ((1+(c.fdiv 270).fmod 5)*w),.int ((c.fdiv 9).fmod 30*w+(1+(c.fdiv 1350).fmod 24)*w)]]->ρ (ag b)=some (.list (js.map jd))->cf eO es ρ=some (.list (js'.map jd),ah ρ (ag b) (.list (js'.map jd))):=by
  by_cases q:Fit (js++[((c.fdiv 9).fmod 30*w,(1+(c.fdiv 270).fmod 5)*w,(c.fdiv 9).fmod 30*w+(1+(c.fdiv 1350).fmod 24)*w)])
  .exact⟨_,q,by simp,fun h1 h2=>r9 h1 h2 hs hl q⟩
  .exact⟨js,f,by omega,fun h1 h2=>by rw[mH h2];exact o7 h1 h2 hs hl f.snd q⟩
 obtain⟨js',f',l',tk⟩:=key
 exact⟨js',f',l',fun ρ hb=>⟨_,fv rfl (by unfold jm;simp only[ay,List.map_cons,List.map_nil];solve_by_elim -exfalso-symm-intro-constructor(maxDepth:=500) (transparency:=.reducible)only[hb,q7,q5,b1',b2',b3',tk,vV,br,aH,aF,aB,cK,av,an,uN,az,bN,dR,fj,cL,h7,jw,fQ,aP,bD,aY,aW,bA,bF,bP,bR,bZ,kU,nE,kE,mw,jz,qK,gu,iE,qM,BW,qX,BX,vH,kJ,CF,CG,CI,iG,CL,CM]),ru fun b=>upd_bk.trans entB_key⟩⟩
theorem E9(f:Fit js)(hl:js.length < 60)(hw:1≤w)(hw':w≤10 ^ 56+1):o9 b js c w:=by
 by_cases q7:c.fmod 9=7
 .exact E7 f q7
 .by_cases q5:5 < c.fmod 9
  .by_cases t:(c.fdiv 9).fmod 11=3
   .exact xj f (by omega) q7 q5 (.inl ⟨t,rfl⟩)
   .exact xj f (by omega) q7 q5 (.inr ⟨t,rfl⟩)
  .exact E8 f hl hw hw' q5
theorem FA(f:Fit js)(hl:js.length < 60)(hw:1≤w)(hw':w≤10 ^ 56+1):∃js',Fit js'∧js'.length≤js.length+1∧∀ {ρ:aa} {es:aa->Option (List D)},es ρ=some [.ref b,.list (js.map jd),.int c,.int w]->ρ (ag b)=some (.list (js.map jd))->cf nB es ρ=some (.list (js'.map jd),ah ρ (ag b) (.list (js'.map jd))):=by
 obtain⟨js',f',l',h⟩:=E9 (b:=b) (c:=c) f hl hw hw'
 refine⟨js',f',l',fun {ρ es} h1 h2=>?_⟩
 obtain⟨σ,e,m⟩:=h ρ h2
 rw[← m];exact oM h1 rfl e
end
set_option maxHeartbeats 4000000
theorem sg{t:Str}{mb:aa->Option Ob}{ρ ρ':aa}{d:D}{ds:List D}(h:mb (ah ρ t d)=some (.next ρ')):ek (.one t) mb (d :: ds) ρ=ek (.one t) mb ds ρ':=by simp only[ek,gH,au,h]
theorem pa{α:Type}{g:α->D}{t:Tg}{mb:aa->Option Ob}:∀(xs:List α) (I:Nat->aa->Prop) {ρ:aa},I 0 ρ->(∀i x ρ,xs[i]? = some x->I i ρ->∃ ρ',(cO t (g x) ρ).bind mb=some (.next ρ')∧I (i+1) ρ')->∃ ρ',ek t mb (xs.map g) ρ=some (.next ρ')∧I xs.length ρ'
 | [],I,ρ,h,_=>⟨ρ,rfl,h⟩
 | x :: xs,I,ρ,h,st=>by
  obtain⟨ρ1,e1,h1⟩:=st 0 x ρ rfl h
  obtain⟨ρ2,e2,h2⟩:=pa (g:=g) (t:=t) (mb:=mb) xs (fun i=>I (i+1)) h1 fun i y ρ hy hI=>st (i+1) y ρ hy hI
  refine⟨ρ2,?_,h2⟩
  rw[List.map_cons,← e2]
  obtain⟨ρ3,e3,e4⟩:=Option.bind_eq_some_iff.mp e1
  simp only[ek,e3,e4,au]
theorem sh{z:Str}{mb:aa->Option Ob}{n:Nat}(I:Nat->aa->Prop){ρ:aa}(h0:I 0 ρ)(step:∀(i:Nat) ρ,i < n->I i ρ->∃ ρ',mb (ah ρ z (.int (i:Int)))=some (.next ρ')∧I (i+1) ρ'):∃ ρ',ek (.one z) mb (ca 0 n) ρ=some (.next ρ')∧I n ρ':=by
 have:=pa (g:=fun(i:Nat)=>D.int (0+(i:Int))) (t:=.one z) (mb:=mb) (List.range n) I h0 fun i x ρ hx hI=>by
  have hi:=List.getElem?_eq_some_iff.mp hx
  obtain⟨h1,h2⟩:=hi
  rw[List.getElem_range] at h2
  subst h2
  rw[Int.zero_add,gH,au]
  exact step _ ρ (by simpa using h1) hI
 rw[List.length_range] at this
 exact this
theorem xk:∀ {js:List J} {j:J},PyData.eqvAll (D.pys ((js++[j]).map jd)) (D.pys (js.map jd))=false
 | [],j=>by simp[D.pys,PyData.eqvAll]
 | x :: js,j=>by
  rw[List.cons_append,List.map_cons,List.map_cons]
  simp only[D.pys,PyData.eqvAll,xk,Bool.and_false]
theorem FB{js:List J}{j:J}:bj (.list ((js++[j]).map jd)) (.list (js.map jd))=some false:=by
 unfold bj
 rw[iJ,iJ,Bool.and_self,if_pos rfl]
 simp only[D.py,PyData.eqv,xk]
theorem pc{js:List J}:bj (.list (js.map jd)) (.list (js.map jd))=some true:=wy iJ
theorem jG{js:List J}:bc (.list (js.map jd)) (.list (js.map jd))=some false:=kW iJ
theorem si{j:J}:bc (jd j) (jd j)=some false:=kW rz
theorem FC{js:List J}(h:js.length≤60):(D.list (js.map jd)).truth? = some (!js.isEmpty):=by
 show(if (js.map jd).length < 9223372036854775808 then some (!(js.map jd).isEmpty) else none)=_
 rw[if_pos (by simp;omega)]
 cases js <;> rfl
noncomputable def cD(c:Int)(i:Nat):Int:=((c+7*(i:Int)+1)*48271).fmod 2147483647
noncomputable def gw(m:Int):J:=(m.fmod 40,1+(m.fdiv 40).fmod 9,m.fmod 40+9+(m.fdiv 360).fmod 14)
theorem xl{m:Int}:bw (gw m):=by
 have h1:=dW (a:=m) (b:=40) (by decide)
 have h2:=dW (a:=m.fdiv 40) (b:=9) (by decide)
 have h3:=dW (a:=m.fdiv 360) (b:=14) (by decide)
 unfold bw gw
 simp only
 refine⟨by omega,by omega,by omega,?_,?_,?_⟩
 .exact Int.lt_trans (by omega:m.fmod 40 < 100) (by decide)
 .exact Int.lt_trans (by omega:1+(m.fdiv 40).fmod 9 < 100) (by decide)
 .exact Int.lt_trans (by omega:m.fmod 40+9+(m.fdiv 360).fmod 14 < 100) (by decide)
theorem FD{m:Int}:Fit ([]++[gw m]):=by
 refine⟨by simp,fun j hj=>?_,fun b e hb=>?_⟩
 .rw[List.nil_append,List.mem_singleton] at hj;rw[hj];exact xl
 .rw[List.nil_append,gv,gR]
  have h2:=dW (a:=m.fdiv 40) (b:=9) (by decide)
  have h3:=dW (a:=m.fdiv 360) (b:=14) (by decide)
  unfold gw
  simp only
  split <;> omega
structure IM (b:Addr) (c:Int) (i:Nat) (ρ:aa) (js:List J):Prop where
 book:ρ (Str.ofString "_law_book")=some (.ref b)
 cell:ρ (Str.ofString "_law_cell")=some (.int c)
 held:ρ (Str.ofString "_law_held")=some (.list (js.map jd))
 bk:ρ (ag b)=some (.list (js.map jd))
 fit:Fit js
 few:js.length≤i
theorem FE{b:Addr}{c m:Int}{i:Nat}{ρ:aa}{js:List J}(hi:i < 25)(hb:ρ (Str.ofString "_law_book")=some (.ref b))(hc:ρ (Str.ofString "_law_cell")=some (.int c))(hm:ρ (Str.ofString "_law_mix")=some (.int m))(hk:ρ (Str.ofString "_law_k")=some (.int (i:Int)))
  (ha:ρ (Str.ofString "_law_after")=some (.list (js.map jd))) (bk:ρ (ag b)=some (.list (js.map jd))) (f:Fit js) (few:js.length≤i+1):∃ ρ' js',ix ρ=some (.next ρ')∧IM b c (i+1) ρ' js':=by
 have z1:(js.map jd).length≤16777216:=by simp;omega
 have ln:=eC (js:=js) (by omega)
 by_cases q:(i:Int).fmod 4=3
 .by_cases q0:js=[]
  .subst q0
   have tr:(D.list (([]:List J).map jd)).truth? = some false:=rfl
   exact⟨_,[],by unfold ix;exact bF (bZ (bz (aH (vV ha) da o6) (bz (aH (vL (ib (vV hb) bk z1)) (vV ha) jG) cJ))) (bP (bA (vV ha) bD (bF (bZ (eP (aH (br (vV (uN qT hk)) av (cL jB)) av (gq q)) (gm (cC (vV an) tr)))) (bP bE)))),by exact uN kz hb,by exact uN gu hc,by exact an,by exact kU bk,f,few⟩
  .have hne:js.isEmpty=false:=by cases js <;> simp_all
   have tr:(D.list (js.map jd)).truth? = some true:=by rw[FC (by omega),hne];rfl
   have n0:0 < js.length:=List.length_pos_iff.mpr q0
   have m1:(0:Int) < (js.length:Int):=by omega
   have hp:=dW (a:=m.fdiv 5040) m1
   have g:=jF (js:=js) (i:=(m.fdiv 5040).fmod (js.length:Int)) ⟨hp.1,by omega⟩ (by omega)
   have dr:∀ {ρ:aa} {mo me:aa->Option D},mo ρ=some (.ref b)->ρ (ag b)=some (.list (js.map jd))->me ρ=some (.int ((m.fdiv 5040).fmod (js.length:Int)))->bv dD mo me ρ=some (jd (ar js ((m.fdiv 5040).fmod (js.length:Int)).toNat),ah ρ (ag b) (.list ((cV js ((m.fdiv 5040).fmod (js.length:Int)).toNat).map jd))):=fun h1 h2 h3=>lc h1 h2 h3 f.len hp
   have z2:=mM (js:=js) hp.1 f.len
   have fc:=f.sub (oZ (js:=js) (p:=((m.fdiv 5040).fmod (js.length:Int)).toNat))
   have fl:=o0 (js:=js) (p:=((m.fdiv 5040).fmod (js.length:Int)).toNat) (by omega)
   have cm:=mL (js:=js) hp.1
   generalize cV js ((m.fdiv 5040).fmod (js.length:Int)).toNat=js' at *
   rw[← cm] at dr
   exact⟨_,js',by unfold ix;solve_by_elim -exfalso-symm-intro-constructor(maxDepth:=500) (transparency:=.reducible)only[hb,hc,hm,hk,ha,bk,z1,z2,jG,si,o6,ib,q,tr,ln,m1,g,dr,vV,br,aH,eP,bz,cC,aN,aF,aB,bq,vL,eu,jt,ju,av,da,jp,cJ,an,uN,dR,fj,cL,gq,db,aP,bD,bA,bT,bF,ew,bP,bE,bZ,mF,uK,kU,kz,iD,kD,qT,BG,vZ,jB],by exact uN kz (uK (uN iD (uN kz hb))),by exact uN gu (uK (uN kC (uN gu hc))),by rw[← cm];exact an,by rw[← cm];exact kU an,fc,by omega⟩
 .exact⟨_,js,by unfold ix;exact bF (bZ (bz (aH (vV ha) da o6) (bz (aH (vL (ib (vV hb) bk z1)) (vV ha) jG) cJ))) (bP (bA (vV ha) bD (bF (bZ (gm (aH (br (vV (uN qT hk)) av (cL jB)) av (fQ q)))) (bP bE)))),by exact uN kz hb,by exact uN gu hc,by exact an,by exact kU bk,f,few⟩
theorem xp{ρ:aa}:ix ρ=ix ρ:=rfl
structure AM (b:Addr) (c m:Int) (i:Nat) (ρ:aa) (js:List J):Prop where
 book:ρ (Str.ofString "_law_book")=some (.ref b)
 cell:ρ (Str.ofString "_law_cell")=some (.int c)
 mix:ρ (Str.ofString "_law_mix")=some (.int m)
 kk:ρ (Str.ofString "_law_k")=some (.int (i:Int))
 after:ρ (Str.ofString "_law_after")=some (.list (js.map jd))
 bk:ρ (ag b)=some (.list (js.map jd))
noncomputable abbrev sj(m:Int):D:=.tup [.int (m.fmod 40),.int (1+(m.fdiv 40).fmod 9),.int (m.fmod 40+9+(m.fdiv 360).fmod 14)]
theorem FF{b:Addr}{c:Int}{i:Nat}{ρ:aa}{js:List J}(hi:i < 25)(H:IM b c i ρ js):∃ ρ1 js',j9 (ah ρ (Str.ofString "_law_k") (.int (i:Int)))=ix ρ1∧AM b c (cD c i) i ρ1 js'∧Fit js'∧js'.length≤i+1:=by
 obtain⟨hb,hc,hh,bk,f,few⟩:=H
 have hs:=xl (m:=cD c i)
 have hl:js.length < 60:=by omega
 by_cases q:Fit (js++[gw (cD c i)])
 .have tk:∀ {ρ:aa} {es:aa->Option (List D)},es ρ=some [.ref b,.list (js.map jd),sj (cD c i)]->ρ (ag b)=some (.list (js.map jd))->cf eO es ρ=some (.list ((js++[gw (cD c i)]).map jd),ah ρ (ag b) (.list ((js++[gw (cD c i)]).map jd))):=fun h1 h2=>r9 h1 h2 hs hl q
  have ce:=FB (js:=js) (j:=gw (cD c i))
  have len:(js++[gw (cD c i)]).length≤i+1:=by simp;omega
  generalize js++[gw (cD c i)]=js' at *
  unfold cD at tk ⊢
  exact⟨_,js',by unfold j9;solve_by_elim -exfalso-symm-intro-constructor(maxDepth:=500) (transparency:=.reducible)only[hb,hc,hh,bk,tk,ce,xp,vV,br,aH,aF,aB,cK,av,an,uN,dR,fj,cL,h7,uY,aP,dE,bD,aY,aW,bA,bF,bP,jC,bZ,uK,kU,mw,iC,kA,n7,n9,qL,qM,oa,og,vp,oj,vX,vY,iG,v4,v5,v7,v8,v9],⟨by exact uN nZ (uK (uN iC (uN mw (uN n7 (uN kA hb))))),by exact uN qJ (uK (uN ve (uN qK (uN vf (uN n9 hc))))),by exact uN oi (uK (uN qV (uN oj an))),by exact uN qS (uK (uN vA (uN vz (uN vB an)))),by exact an,by exact kU an⟩,q,len⟩
 .have hne:js≠[]:=fun e=>q (by rw[e];exact FD)
  have n0:0 < js.length:=List.length_pos_iff.mpr hne
  have tk:∀ {ρ:aa} {es:aa->Option (List D)},es ρ=some [.ref b,.list (js.map jd),sj (cD c i)]->ρ (ag b)=some (.list (js.map jd))->cf eO es ρ=some (.list (js.map jd),ρ):=fun h1 h2=>o7 h1 h2 hs hl f.snd q
  have ln:=eC (js:=js) (by omega)
  have m1:(0:Int) < (js.length:Int):=by omega
  have hp:=dW (a:=(cD c i).fdiv 5040) m1
  have g:=jF (js:=js) (i:=((cD c i).fdiv 5040).fmod (js.length:Int)) ⟨hp.1,by omega⟩ (by omega)
  have dr:∀ {ρ:aa} {mo me:aa->Option D},mo ρ=some (.ref b)->ρ (ag b)=some (.list (js.map jd))->me ρ=some (.int (((cD c i).fdiv 5040).fmod (js.length:Int)))->bv dD mo me ρ=some (jd (ar js (((cD c i).fdiv 5040).fmod (js.length:Int)).toNat),ah ρ (ag b) (.list ((cV js (((cD c i).fdiv 5040).fmod (js.length:Int)).toNat).map jd))):=fun h1 h2 h3=>lc h1 h2 h3 f.len hp
  have z1:(js.map jd).length≤16777216:=by simp;omega
  have z2:=mM (js:=js) hp.1 f.len
  have fc:=f.sub (oZ (js:=js) (p:=(((cD c i).fdiv 5040).fmod (js.length:Int)).toNat))
  have fl:=o0 (js:=js) (p:=(((cD c i).fdiv 5040).fmod (js.length:Int)).toNat) (by omega)
  have cm:=mL (js:=js) hp.1
  generalize cV js (((cD c i).fdiv 5040).fmod (js.length:Int)).toNat=js1 at *
  have key:∃js',Fit js'∧js'.length≤js1.length+1∧∀ {ρ:aa} {es:aa->Option (List D)},es ρ=some [.ref b,.list (js1.map jd),sj (cD c i)]->ρ (ag b)=some (.list (js1.map jd))->cf eO es ρ=some (.list (js'.map jd),ah ρ (ag b) (.list (js'.map jd))):=by
   by_cases q:Fit (js1++[gw (cD c i)])
   .exact⟨_,q,by simp,fun h1 h2=>r9 h1 h2 hs (by omega) q⟩
   .exact⟨js1,fc,by omega,fun h1 h2=>by rw[mH h2];exact o7 h1 h2 hs (by omega) fc.snd q⟩
  obtain⟨js',f',l',tk2⟩:=key
  rw[← cm] at dr tk2
  unfold cD at tk tk2 dr g m1 z2 ⊢
  exact⟨_,js',by unfold j9;solve_by_elim -exfalso-symm-intro-constructor(maxDepth:=500) (transparency:=.reducible)only[hb,hc,hh,bk,tk,tk2,pc,si,ln,m1,g,dr,z1,z2,xp,vV,br,aH,aN,aF,aB,cK,bq,vL,eu,jt,ju,av,an,uN,dR,fj,cL,h7,uY,db,aP,dE,bD,aY,aW,bA,bT,bF,ew,bP,jC,bZ,mF,uK,kU,nZ,mw,iC,kA,n7,iD,n9,qL,qM,oa,og,vp,kD,A4,A5,oi,oj,qV,vX,vY,vZ,iG,v4,v5,v7,v8,v9],⟨by exact uN nZ (uK (uK (uN iD (uN nZ (uN iC (uN mw (uN n7 (uN kA hb)))))))),by exact uN qJ (uK (uK (uN kC (uN qJ (uN ve (uN qK (uN vf (uN n9 hc)))))))),by exact uN oi (uK (uK (uN BH (uN oi (uN qV (uN oj an)))))),by exact uN qS (uK (uK (uN A7 (uN qS (uN vA (uN vz (uN vB an))))))),by exact an,by exact kU an⟩,f',by omega⟩
theorem FG{b:Addr}{c:Int}{i:Nat}{ρ:aa}{js:List J}(hi:i < 25)(H:IM b c i ρ js):∃ ρ' js',j9 (ah ρ (Str.ofString "_law_k") (.int (i:Int)))=some (.next ρ')∧IM b c (i+1) ρ' js':=by
 obtain⟨ρ1,js1,e,A,f,l⟩:=FF hi H
 obtain⟨ρ',js',e',H'⟩:=FE hi A.book A.cell A.mix A.kk A.after A.bk f l
 exact⟨ρ',js',e.trans e',H'⟩
theorem FH{ρ:aa}{b:Addr}{c:Int}{n:Nat}(hn:n≤25)(hb:ρ (ag b)=some (.list [])):∃ σ,qo ρ [.ref b,.int c,.int (n:Int)]=some (.bool true,σ):=by
 have hnn:(n:Int)≤16777216∧-16777216≤(n:Int):=by omega
 obtain⟨ρ',e,js,H⟩:=sh (z:=Str.ofString "_law_k") (mb:=j9) (n:=n) (fun i ρ=>∃js,IM b c i ρ js) (ρ:=ah (dm ρ [Str.ofString "_law_book",Str.ofString "_law_cell",Str.ofString "_law_count"] [.ref b,.int c,.int (n:Int)]) (Str.ofString "_law_held") (.list []))
  ⟨[],by exact uN kz (nE az),by exact uN gu (nE (bN jz az)),by show _=some (D.list []);exact an,by show _=some (D.list []);exact kU (kE hb),Fit.nil,by simp⟩ fun i ρ hi ⟨js,H⟩=>by
   obtain⟨ρ',js',e,H'⟩:=FG (by omega) H
   exact⟨ρ',e,js',H'⟩
 obtain⟨h1,_,h3,h4,f,few⟩:=H
 obtain⟨ps,pl,r,_,mt⟩:=oY f
 have z1:(js.map jd).length≤16777216:=by simp;omega
 have trt:(D.bool true).truth? = some true:=rfl
 exact⟨_,fv rfl (by unfold ut;simp only[ay,t1,List.map_cons,List.map_nil];exact bA (vL (cu aF aY)) bD (kP (nP (vV (uN A0 (nE (bN AY (bN AZ az))))) hnn) e (bR (gQ (jr (gJ (vL (ib (vV h1) h4 z1)) (vV h3) pc) trt (bH (aB (vV h3) (aB (vL (o5 (vV h1) h4 r)) aF)) (aW bD (aW bD aY)) mt))) jq)))⟩
set_option maxHeartbeats 4000000
noncomputable def base(n:Nat):List J:=(List.range n).map fun(k:Nat)=>((k:Int),1,61)
theorem xq{n:Nat}:base (n+1)=base n++[((n:Int),1,61)]:=by unfold base;rw[List.range_succ,List.map_append];rfl
theorem lf{n:Nat}:(base n).length=n:=by unfold base;simp
theorem sk(b e:Int):∀n:Nat,(¬ 61≤e->bS (base n) b e=0)∧bS (base n) b e≤(n:Int)∧((n:Int)≤b->bS (base n) b e=0)∧(b≤(n:Int)->bS (base n) b e≤(n:Int) - b)
 | 0=>by unfold base;simp[gR]
 | n+1=>by
  obtain⟨h1,h2,h3,h4⟩:=sk b e n
  rw[xq,mK,gv,gR]
  simp only
  refine⟨fun h=>?_,?_,fun h=>?_,fun h=>?_⟩
  .have:=h1 h
   split <;> omega
  .split <;> omega
  .have:=h3 (by omega)
   split <;> omega
  .by_cases q:b≤(n:Int)
   .have:=h4 q
    split <;> omega
   .have:=h3 (by omega)
    split <;> omega
theorem xr{n:Nat}{j:J}(h:j∈base n):0≤j.1∧j.1 < (n:Int)∧j.2.1=1∧j.2.2=61:=by
 unfold base at h
 obtain⟨k,hk,rfl⟩:=List.mem_map.mp h
 have:k < n:=by simpa using hk
 exact⟨by simp only;omega,by simp only;omega,rfl,rfl⟩
theorem sr{j:J}(h1:0≤j.1)(h2:1≤j.2.1)(h3:j.1 < j.2.2)(h4:j.2.1 < 1000)(h5:j.2.2 < 1000):bw j:=
 ⟨h1,h2,h3,Int.lt_trans (by omega:j.1 < 1000) (by decide),Int.lt_trans h4 (by decide),Int.lt_trans h5 (by decide)⟩
theorem pe{n:Nat}(h:n≤60):Fit (base n):=by
 refine⟨by rw[lf];omega,fun j hj=>?_,fun b e hb=>?_⟩
 .obtain⟨h1,h2,h3,h4⟩:=xr hj
  exact sr h1 (by omega) (by omega) (by omega) (by omega)
 .obtain⟨h1,h2,h3,h4⟩:=sk b e n
  by_cases q:61≤e
  .by_cases q':b≤(n:Int)
   .have:=h4 q';omega
   .have:=h3 (by omega);omega
  .have:=h1 q;omega
theorem xt:∀ {xs:List J},(∀j∈xs,0≤j.1∧j.2.1=1∧j.2.2=61)->bS xs 0 61=(xs.length:Int)
 | [],_=>by rw[gR];rfl
 | x :: xs,h=>by
  obtain⟨h1,h2,h3⟩:=h x (.head _)
  rw[gv,xt fun j hj=>h j (.tail _ hj),if_pos ⟨h1,by omega⟩,List.length_cons]
  omega
theorem ss:∀ {xs:List J} {b e:Int},(∀j∈xs,0≤j.1∧j.2.1=1∧j.2.2=61)->bS xs b e≤(xs.length:Int)
 | [],_,_,_=>by rw[gR];simp
 | x :: xs,b,e,h=>by
  obtain⟨h1,h2,h3⟩:=h x (.head _)
  have:=ss (b:=b) (e:=e) fun j hj=>h j (.tail _ hj)
  rw[gv,List.length_cons]
  split <;> omega
noncomputable def cv(p:Nat):List J:=cV (base 60) p
noncomputable def bJ(p:Nat):List J:=cv p++[(0,1,900)]
section
variable {p:Nat}
theorem S59_sub:(cv p).Sublist (base 60):=oZ
theorem lg(h:p < 60):(cv p).length=59:=by unfold cv;rw[o0 (by rw[lf];exact h),lf]
theorem S59_fit:Fit (cv p):=(pe (Nat.le_refl 60)).sub S59_sub
theorem su:∀j∈cv p,0≤j.1∧j.2.1=1∧j.2.2=61:=fun j hj=>by
 obtain⟨h1,_,h3,h4⟩:=xr (S59_sub.subset hj)
 exact⟨h1,h3,h4⟩
theorem pf:bw (0,3,61):=sr (by decide) (by decide) (by decide) (by decide) (by decide)
theorem pg:bw (0,1,900):=sr (by decide) (by decide) (by decide) (by decide) (by decide)
theorem FJ(h:p < 60):¬Fit (cv p++[(0,3,61)]):=fun f=>by
 have:=f.gap 0 61 (by decide)
 rw[mK,xt su,lg h,gv,gR] at this
 simp at this
theorem ph(h:p < 60):(bJ p).length=60:=by unfold bJ;rw[List.length_append,lg h];rfl
theorem sv(h:p < 60):Fit (bJ p):=by
 refine⟨by rw[ph h];omega,fun j hj=>?_,fun b e hb=>?_⟩
 .rcases List.mem_append.mp hj with q | q
  .exact S59_fit.snd j q
  .rw[List.mem_singleton] at q;rw[q];exact pg
 .unfold bJ
  rw[mK,gv,gR]
  have h1:=S59_fit (p:=p).gap b e hb
  have h2:=ss (b:=b) (e:=e) (su (p:=p))
  rw[lg h] at h2
  simp only
  split <;> omega
noncomputable def dX(p:Nat):List J:=(bJ p).drop 2
theorem FK(h:p < 60):dX p=(cv p).drop 2++[(0,1,900)]:=by
 unfold dX bJ
 rw[List.drop_append_of_le_length (by rw[lg h];omega)]
theorem FM(h:p < 60):Fit (dX p++[(0,3,61)]):=by
 refine⟨by rw[List.length_append];unfold dX;rw[List.length_drop,ph h];simp,fun j hj=>?_,fun b e hb=>?_⟩
 .rcases List.mem_append.mp hj with q | q
  .exact(sv h).snd j (List.mem_of_mem_drop q)
  .rw[List.mem_singleton] at q;rw[q];exact pf
 .rw[FK h,mK,mK,gv,gR,gv,gR]
  have sb:((cv p).drop 2).Sublist (base 60):=(List.drop_sublist _ _).trans S59_sub
  have h1:=ss (xs:=(cv p).drop 2) (b:=b) (e:=e) fun j hj=>su j (List.mem_of_mem_drop hj)
  rw[List.length_drop,lg h] at h1
  have h2:=xa (b:=b) (e:=e) sb (pe (Nat.le_refl 60)).snd
  obtain⟨g1,g2,g3,g4⟩:=sk b e 60
  have h3:=(pe (Nat.le_refl 60)).gap b e hb
  simp only
  by_cases q:61≤e
  .split <;> split <;> omega
  .have:=g1 q
   split <;> split <;> omega
theorem cut0{xs:List J}:cV xs (0:Int).toNat=xs.drop 1:=by unfold cV;simp
end
theorem FN:eM (.str (Str.ofString "")) (.str (Str.ofString "many "))=some (.str (Str.ofString "many ")):=by
 simp only[eM];rw[if_pos (by decide +kernel),show Str.ofString ""++Str.ofString "many "=Str.ofString "many " by decide +kernel]
theorem FO:eM (.str (Str.ofString "many ")) (.str (Str.ofString "many "))=some (.str (Str.ofString "many many ")):=by
 simp only[eM];rw[if_pos (by decide +kernel),show Str.ofString "many "++Str.ofString "many "=Str.ofString "many many " by decide +kernel]
theorem FP:eM (.str (Str.ofString "many many ")) (.str (Str.ofString "job"))=some (.str (Str.ofString "many many job")):=by
 simp only[eM];rw[if_pos (by decide +kernel),show Str.ofString "many many "++Str.ofString "job"=Str.ofString "many many job" by decide +kernel]
theorem FQ:bc (.str (Str.ofString "many many job")) (.str (Str.ofString "many many job"))=some false:=kW (by decide +kernel)
theorem FR:j6 "BadJob"=some (aj (aX (aR "_law_found" (aE eM (eV "_law_found") (eS "job")))) aG):=by unfold j6;rw[if_pos rfl]
theorem FS:j6 "TooMany"=some (aj (aX (aR "_law_found" (aE eM (eV "_law_found") (eS "many ")))) aG):=by unfold j6;rw[if_neg (by decide),if_pos rfl]
theorem FT:nC "TooMany"=some (aj (aX (aR "_law_jobs" (eL (dy (eV "_law_jobs") (eL (bB (ae (aS (ae (eI 0) (ae (eI 1) (ae (eI 900) ak)))) ak))))))) aG):=by unfold nC;rw[if_pos rfl]
structure FL (b:Addr) (p:Int) (js:List J) (ρ:aa):Prop where
 book:ρ (Str.ofString "_law_book")=some (.ref b)
 place:ρ (Str.ofString "_law_place")=some (.int p)
 bk:ρ (ag b)=some (.list (js.map jd))
theorem FU{b:Addr}{p:Int}{i:Nat}(hi:i < 60){ρ:aa}(H:FL b p (base i) ρ):∃ ρ',nD (ah ρ (Str.ofString "_law_k") (.int (i:Int)))=some (.next ρ')∧FL b p (base (i+1)) ρ':=by
 obtain⟨h1,h2,h3⟩:=H
 have f:=pe (n:=i+1) (by omega)
 have tk:∀ {ρ:aa} {mo me:aa->Option D},mo ρ=some (.ref b)->ρ (ag b)=some (.list ((base i).map jd))->me ρ=some (.tup [.int (i:Int),.int 1,.int 61])->bv dC mo me ρ=some (.none,ah ρ (ag b) (.list ((base (i+1)).map jd))):=fun h1 h2 h3=>by
  rw[xq] at f ⊢
  exact o4 (js:=base i) (j:=((i:Int),1,61)) h1 h2 h3 (f.snd _ (by simp)) (by rw[lf];exact hi) f
 exact⟨_,by unfold nD;exact bF (mF (tk (vV (uN kA h1)) (kU h3) (cK (aB (vV an) (aB av (aB av aF))) (aW aP (aW aP (aW aP aY))))) da qB) (bP bE),by exact uK (uN kA h1),by exact uK (uN BO h2),by exact an⟩
theorem xu{b:Addr}{p:Int}{x y z:Int}(hs:bw (x,y,z)){u v:String}(ad:eM (.str (Str.ofString u)) (.str (Str.ofString "many "))=some (.str (Str.ofString v))){ρ:aa}(H:FL b p (base 60) ρ)(hf:ρ (Str.ofString "_law_found")=some (.str (Str.ofString u))):∃ ρ',j7 (ah ρ (Str.ofString "_law_job") (.tup [.int x,.int y,.int z]))=some (.next ρ')∧FL b p (base 60) ρ'∧ρ' (Str.ofString "_law_found")=some (.str (Str.ofString v)):=by
 obtain⟨h1,h2,h3⟩:=H
 have xm:∀ {ρ:aa} {mo me:aa->Option D},mo ρ=some (.ref b)->ρ (ag b)=some (.list ((base 60).map jd))->me ρ=some (.tup [.int x,.int y,.int z])->e8 gF mo me ρ=some "TooMany":=fun h1 h2 h3=>kR h1 h2 h3 rfl (xe (js:=base 60) (j:=(x,y,z)) h2 hs lf)
 exact⟨_,by unfold j7;exact kQ (xm (vV (uN iC h1)) (kU h3) (vV an)) FS (ew (bA (br (vV (uN vk hf)) hK ad) kf (bP bE))),⟨by exact uN qH (uN iC h1),by exact uN qW (uN om h2),by exact kU (kU h3)⟩,by exact an⟩
theorem FV{b:Addr}{p:Int}{u v:String}(ad:eM (.str (Str.ofString u)) (.str (Str.ofString "job"))=some (.str (Str.ofString v))){ρ:aa}(H:FL b p (base 60) ρ)(hf:ρ (Str.ofString "_law_found")=some (.str (Str.ofString u))):∃ ρ',j7 (ah ρ (Str.ofString "_law_job") (.tup [.int 0,.int 1,.int 0]))=some (.next ρ')∧FL b p (base 60) ρ'∧ρ' (Str.ofString "_law_found")=some (.str (Str.ofString v)):=by
 obtain⟨h1,h2,h3⟩:=H
 have xm:∀ {ρ:aa} {mo me:aa->Option D},mo ρ=some (.ref b)->ρ (ag b)=some (.list ((base 60).map jd))->me ρ=some (.tup [.int 0,.int 1,.int 0])->e8 gF mo me ρ=some "BadJob":=fun h1 h2 h3=>kR h1 h2 h3 rfl (xd (d:=jd (0,1,0)) rfl (sf (j:=(0,1,0)) (by decide) (by decide) (by decide) (by decide)))
 exact⟨_,by unfold j7;exact kQ (xm (vV (uN iC h1)) (kU h3) (vV an)) FR (ew (bA (br (vV (uN vk hf)) hK ad) kf (bP bE))),⟨by exact uN qH (uN iC h1),by exact uN qW (uN om h2),by exact kU (kU h3)⟩,by exact an⟩
theorem FW{ρ:aa}:jn ρ=jn ρ:=rfl
theorem FX{ρ:aa}:j8 ρ=j8 ρ:=rfl
theorem FY{b:Addr}{p:Int}{n:Nat}(hn:n < 60){ρ:aa}(H:FL b p (bJ n) ρ)(hj:ρ (Str.ofString "_law_jobs")=some (.list ((bJ n).map jd))):∃ σ,j8 ρ=some (.ret (.bool true) σ):=by
 obtain⟨h1,h2,h3⟩:=H
 have f:=sv hn
 have sl:=ph hn
 have ln:bg [.list ((bJ n).map jd)]=some (.int 60):=by rw[eC (by omega),sl];rfl
 have q:¬(60:Int) < 60:=by omega
 have z1:((bJ n).map jd).length≤16777216:=by simp;omega
 obtain⟨ps,pl,r,fr,_⟩:=oY f
 have s1:(bJ n).drop 1=cV (bJ n) (0:Int).toNat:=cut0.symm
 have l1:((bJ n).drop 1).length=59:=by rw[List.length_drop,sl]
 have d1:∀ {ρ:aa} {mo me:aa->Option D},mo ρ=some (.ref b)->ρ (ag b)=some (.list ((bJ n).map jd))->me ρ=some (.int 0)->∃d,bv dD mo me ρ=some (d,ah ρ (ag b) (.list (((bJ n).drop 1).map jd))):=fun h1 h2 h3=>⟨_,by rw[s1];exact lc h1 h2 h3 (by omega) (by omega)⟩
 have e58:dX n=cV ((bJ n).drop 1) (0:Int).toNat:=by rw[cut0,List.drop_drop];rfl
 have d2:∀ {ρ:aa} {mo me:aa->Option D},mo ρ=some (.ref b)->ρ (ag b)=some (.list (((bJ n).drop 1).map jd))->me ρ=some (.int 0)->∃d,bv dD mo me ρ=some (d,ah ρ (ag b) (.list ((dX n).map jd))):=fun h1 h2 h3=>⟨_,by rw[e58];exact lc h1 h2 h3 (by omega) (by omega)⟩
 have x1:∀ {ρ:aa} {mo me:aa->Option D} {ms:aa->Option Ob} {r:Option Ob},mo ρ=some (.ref b)->ρ (ag b)=some (.list ((bJ n).map jd))->me ρ=some (.int 0)->ms (ah ρ (ag b) (.list (((bJ n).drop 1).map jd)))=r->aj (gA (bv dD mo me)) ms ρ=r:=fun h1 h2 h3 h4=>let ⟨_,e⟩:=d1 h1 h2 h3;we e h4
 have x2:∀ {ρ:aa} {mo me:aa->Option D} {ms:aa->Option Ob} {r:Option Ob},mo ρ=some (.ref b)->ρ (ag b)=some (.list (((bJ n).drop 1).map jd))->me ρ=some (.int 0)->ms (ah ρ (ag b) (.list ((dX n).map jd)))=r->aj (gA (bv dD mo me)) ms ρ=r:=fun h1 h2 h3 h4=>let ⟨_,e⟩:=d2 h1 h2 h3;we e h4
 have f2:=FM hn
 have l58:(dX n).length=58:=by unfold dX;rw[List.length_drop,sl]
 have tk:∀ {ρ:aa} {mo me:aa->Option D},mo ρ=some (.ref b)->ρ (ag b)=some (.list ((dX n).map jd))->me ρ=some (.tup [.int 0,.int 3,.int 61])->bv dC mo me ρ=some (.none,ah ρ (ag b) (.list ((dX n++[(0,3,61)]).map jd))):=fun h1 h2 h3=>o4 (js:=dX n) (j:=(0,3,61)) h1 h2 h3 pf (by omega) f2
 have z2:((dX n++[(0,3,61)]).map jd).length≤16777216:=by simp;omega
 have se:b7 ((bJ n).map jd) (some 2) none++[D.tup [.int 0,.int 3,.int 61]]=(dX n++[(0,3,61)]).map jd:=by
  rw[oR (by omega),kZ];unfold dX;rw[List.map_drop];rfl
 have ce:bj (.list ((dX n++[(0,3,61)]).map jd)) (.list (b7 ((bJ n).map jd) (some 2) none++[D.tup [.int 0,.int 3,.int 61]]))=some true:=by rw[se];exact pc
 have z3:∀t:D,(b7 ((bJ n).map jd) (some 2) none).length+[t].length≤16777216:=fun t=>by rw[oR (by omega)];simp;omega
 have trt:(D.bool true).truth? = some true:=rfl
 exact⟨_,by unfold j8;solve_by_elim -exfalso-symm-intro-constructor(maxDepth:=500) (transparency:=.reducible)only[h1,h2,h3,hj,ln,q,z1,z2,z3,r,fr,jG,x1,x2,tk,ce,trt,ib,o5,vV,gJ,aH,bz,aF,aB,cK,bH,bq,vL,cu,eu,ju,av,da,cJ,an,fi,db,aP,dE,bD,jq,nR,aY,aW,bF,bP,bR,bZ,mF,C0,C4,uK]⟩
theorem FZ{b:Addr}{p:Int}(h0:0≤p)(hp:p < 60){ρ:aa}(H:FL b p (base 60) ρ)(hf:ρ (Str.ofString "_law_found")=some (.str (Str.ofString "many many job")))(hj:ρ (Str.ofString "_law_jobs")=some (.list ((base 60).map jd))):∃ σ,jn ρ=some (.ret (.bool true) σ):=by
 obtain⟨h1,h2,h3⟩:=H
 have hn:p.toNat < 60:=by omega
 have bl:=lf (n:=60)
 have z1:((base 60).map jd).length≤16777216:=by simp[bl]
 have g:=jF (js:=base 60) (i:=p) ⟨h0,by omega⟩ (by omega)
 have z2:=mM (js:=base 60) h0 (by omega)
 have cm:=mL (js:=base 60) h0
 have dr:∀ {ρ:aa} {mo me:aa->Option D},mo ρ=some (.ref b)->ρ (ag b)=some (.list ((base 60).map jd))->me ρ=some (.int p)->bv dD mo me ρ=some (jd (ar (base 60) p.toNat),ah ρ (ag b) (.list ((cv p.toNat).map jd))):=fun h1 h2 h3=>lc h1 h2 h3 (by omega) (by omega)
 have sl:=lg hn
 have tn:∀ {ρ:aa} {es:aa->Option (List D)},es ρ=some [.ref b,.list ((cv p.toNat).map jd),.tup [.int 0,.int 3,.int 61]]->ρ (ag b)=some (.list ((cv p.toNat).map jd))->cf eO es ρ=some (.list ((cv p.toNat).map jd),ρ):=fun h1 h2=>o7 (js:=cv p.toNat) (j:=(0,3,61)) h1 h2 pf (by omega) S59_fit.snd (FJ hn)
 have tk:∀ {ρ:aa} {mo me:aa->Option D},mo ρ=some (.ref b)->ρ (ag b)=some (.list ((cv p.toNat).map jd))->me ρ=some (.tup [.int 0,.int 1,.int 900])->bv dC mo me ρ=some (.none,ah ρ (ag b) (.list ((bJ p.toNat).map jd))):=fun h1 h2 h3=>o4 (js:=cv p.toNat) (j:=(0,1,900)) h1 h2 h3 pg (by omega) (sv hn)
 have xm:∀ {ρ:aa} {mo me:aa->Option D},mo ρ=some (.ref b)->ρ (ag b)=some (.list ((bJ p.toNat).map jd))->me ρ=some (.tup [.int 0,.int 1,.int 900])->e8 gF mo me ρ=some "TooMany":=fun h1 h2 h3=>kR h1 h2 h3 rfl (xe (js:=bJ p.toNat) (j:=(0,1,900)) h2 pg (ph hn))
 have e60:(cv p.toNat).map jd++[D.tup [.int 0,.int 1,.int 900]]=(bJ p.toNat).map jd:=by unfold bJ;rw[kZ];rfl
 have cn:bc (.list ((cv p.toNat).map jd)) (.list ((cv p.toNat).map jd))=some false:=jG
 have z4:((cv p.toNat).map jd).length+[D.tup [.int 0,.int 1,.int 900]].length≤16777216:=by simp[sl]
 change _=(cv p.toNat).map jd at cm
 generalize hS:(cv p.toNat).map jd=S at *
 subst cm
 have st:∃ ρ',jn ρ=j8 ρ'∧FL b p (bJ p.toNat) ρ'∧ρ' (Str.ofString "_law_jobs")=some (.list ((bJ p.toNat).map jd)):=
  ⟨_,by unfold jn;solve_by_elim -exfalso-symm-intro-constructor(maxDepth:=500) (transparency:=.reducible)only[h1,h2,h3,hf,hj,z1,z2,z4,FQ,jG,si,g,dr,tn,cn,tk,xm,FT,ib,FX,vV,br,aH,aN,aF,aB,cK,vL,cu,eu,jt,ju,av,da,hK,cJ,an,uN,dR,db,aP,dE,bD,qB,aY,aW,bA,bF,ew,bP,kQ,bZ,mF,CZ,uK,kU,n6],⟨by exact uN n6 (uK (uN n6 (uK h1))),by exact uN oq (uK (uN oq (uK h2))),by exact kU an⟩,by rw[← e60];exact an⟩
 obtain⟨ρ',e,H,hj⟩:=st
 obtain⟨σ,e'⟩:=FY hn H hj
 exact⟨σ,e.trans e'⟩
theorem GA{b:Addr}{p:Int}(h0:0≤p)(hp:p < 60){ρ:aa}(H:FL b p (base 60) ρ):∃ σ,nF ρ=some (.ret (.bool true) σ):=by
 have H0:FL b p (base 60) (ah ρ (Str.ofString "_law_found") (.str (Str.ofString ""))):=by
  obtain⟨h1,h2,h3⟩:=H
  exact⟨by exact uN qH h1,by exact uN qW h2,by exact kU h3⟩
 obtain⟨ρ1,e1,H1,f1⟩:=xu pg FN H0 an
 obtain⟨ρ2,e2,H2,f2⟩:=xu pf FO H1 f1
 obtain⟨ρ3,e3,H3,f3⟩:=FV FP H2 f2
 have lp:ek (.one (Str.ofString "_law_job")) j7 [.tup [.int 0,.int 1,.int 900],.tup [.int 0,.int 3,.int 61],.tup [.int 0,.int 1,.int 0]] (ah ρ (Str.ofString "_law_found") (.str (Str.ofString "")))=some (.next ρ3):=by
  rw[sg e1,sg e2,sg e3];rfl
 have hc:∀ ρ:aa,cX (.one (Str.ofString "_law_k")) c8 (aS (ae (eV "_law_k") (ae (eI 1) (ae (eI 61) ak)))) (ca 0 (60:Int).toNat) ρ=some ((base 60).map jd):=fun ρ=>by
  rw[show ca 0 (60:Int).toNat=(List.range 60).map fun(i:Nat)=>D.int (0+(i:Int)) from rfl,gI (fun _=>true) (fun(i:Nat)=>jd ((i:Int),1,61)) (List.range 60) (fun k hk=>by
   rw[Int.zero_add]
   exact⟨_,rfl,rfl,fun _=>⟨cK (aB (vV an) (aB av (aB av aF))) rfl,rfl⟩⟩),List.filter_eq_self.mpr (fun _ _=>rfl)]
  unfold base;rw[List.map_map];rfl
 have hnn:(60:Int)≤16777216∧-16777216≤(60:Int):=by omega
 have z3:([.tup [.int 0,.int 1,.int 900],.tup [.int 0,.int 3,.int 61],.tup [.int 0,.int 1,.int 0]]:List D).length≤16777216:=by decide
 have st:∃ ρ',nF ρ=jn ρ'∧FL b p (base 60) ρ'∧ρ' (Str.ofString "_law_found")=some (.str (Str.ofString "many many job"))∧ρ' (Str.ofString "_law_jobs")=some (.list ((base 60).map jd)):=by
  obtain⟨h1,h2,h3⟩:=H3
  exact⟨_,by unfold nF;simp only[t1];solve_by_elim -exfalso-symm-intro-constructor(maxDepth:=500) (transparency:=.reducible)only[lp,hc,hnn,z3,kP,iA,FW,aF,aB,cK,vL,cu,iS,iR,av,hK,gk,aP,dE,kf,aY,aW,bA,CU],⟨by exact uN n6 h1,by exact uN oq h2,by exact kU h3⟩,by exact uN A2 f3,by exact an⟩
 obtain⟨ρ',e,H,hf,hj⟩:=st
 obtain⟨σ,e'⟩:=FZ h0 hp H hf hj
 exact⟨σ,e.trans e'⟩
theorem GB{ρ:aa}{b:Addr}{p:Int}(h0:0≤p)(hp:p < 60)(hb:ρ (ag b)=some (.list [])):∃ σ,g9 ρ [.ref b,.int p]=some (.bool true,σ):=by
 have hnn:(60:Int)≤16777216∧-16777216≤(60:Int):=by omega
 obtain⟨ρ',e,H⟩:=sh (z:=Str.ofString "_law_k") (mb:=nD) (n:=(60:Int).toNat) (fun i ρ=>FL b p (base i) ρ) (ρ:=dm ρ [Str.ofString "_law_book",Str.ofString "_law_place"] [.ref b,.int p])
  ⟨by exact nE az,by exact nE (bN BN az),by show _=some (D.list []);exact kE hb⟩ fun i ρ hi H=>FU (by simpa using hi) H
 obtain⟨σ,e'⟩:=GA h0 hp H
 exact⟨_,fv rfl (by unfold ur;simp only[ay,t1,List.map_cons,List.map_nil];exact kP (iR av hnn) e e')⟩
set_option maxHeartbeats 4000000
theorem GC{ns:List Int}:∃xs:List Int,b7 (ns.map D.int) (some 1) (some 17)=xs.map D.int∧xs.length≤16:=by
 simp only[b7,Option.map_some,Option.getD_some,dM,List.length_map]
 rw[if_neg (by omega),if_neg (by omega)]
 refine⟨(ns.drop (min (1:Int).toNat ns.length)).take (min (17:Int).toNat ns.length - min (1:Int).toNat ns.length),by rw[List.map_take,List.map_drop],?_⟩
 rw[List.length_take,List.length_drop]
 refine Nat.le_trans (Nat.min_le_left _ _) ?_
 rcases Nat.eq_zero_or_pos ns.length with h | h
 .rw[h];decide
 .exact Nat.le_trans (Nat.sub_le_sub_right (Nat.min_le_left 17 _) _) (by rw[show min (1:Int).toNat ns.length=1 from Nat.min_eq_left h];decide)
theorem GD{l:List D}(h:(D.list l).ok 8=true):bc (.own l) (.list l)=some false:=by
 unfold bc
 rw[ww,h,Bool.and_self,if_pos rfl,wx,SeqAt.eqv_refl _ (D.ok_lay 8 _ h).1];rfl
theorem GE{js:List J}:bc (.own (js.map jd)) (.list (js.map jd))=some false:=GD iJ
theorem GF{a:aa->Option D}{ρ:aa}{l:List D}(h:a ρ=some (.own l)):cH "list" a ρ=some (.bool true):=by unfold cH;rw[h];rfl
structure LI (b0 b1:Addr) (w:Int) (h0 h1:List J) (ks:List D) (i:Nat) (ρ:aa):Prop where
 books:ρ (Str.ofString "_law_books")=some (.list [.ref b0,.ref b1])
 held:ρ (Str.ofString "_law_held")=some (.own [.list (h0.map jd),.list (h1.map jd)])
 wide:ρ (Str.ofString "_law_wide")=some (.int w)
 kept:ρ (Str.ofString "_law_kept")=some (.own ks)
 k0:ρ (ag b0)=some (.list (h0.map jd))
 k1:ρ (ag b1)=some (.list (h1.map jd))
 f0:Fit h0
 f1:Fit h1
 l0:h0.length≤i
 l1:h1.length≤i
 kl:ks.length≤i
 kg:∀d∈ks,∃t:D,d=.tup [t,t]∧t.ok 8=true
theorem GG{ρ:aa}:ka ρ=ka ρ:=rfl
theorem xv{ρ:aa}:kc ρ=kc ρ:=rfl
theorem GH{ρ:aa}:aj (eK (.one (Str.ofString "_law_k")) (dP (eI 2)) iy) aG ρ=aj (eK (.one (Str.ofString "_law_k")) (dP (eI 2)) iy) aG ρ:=rfl
structure LA (bks:D) (hs:List D) (w:Int) (ks:List D) (ρ:aa):Prop where
 books:ρ (Str.ofString "_law_books")=some bks
 held:ρ (Str.ofString "_law_held")=some (.own hs)
 wide:ρ (Str.ofString "_law_wide")=some (.int w)
 kept:ρ (Str.ofString "_law_kept")=some (.own ks)
theorem xw{bks:D}{hs ks:List D}{w c:Int}{bW:Addr}{hW:List J}{ρ:aa}(H:LA bks hs w ks ρ)(gb:bf bks (.int (c.fmod 2))=some (.ref bW))(gh:bf (.own hs) (.int (c.fmod 2))=some (.list (hW.map jd)))(bk:ρ (ag bW)=some (.list (hW.map jd)))(f:Fit hW)(hl:hW.length < 60)(kl:ks.length < 1000)(hw:1≤w)(hw':w≤10 ^ 56+1):
  ∃ ρ1 js' t,lU (ah ρ (Str.ofString "_law_cell") (.int c))=ka ρ1∧Fit js'∧js'.length≤hW.length+1∧LA bks hs w (ks++[.tup [t,t]]) ρ1∧t.ok 8=true∧ρ1 (Str.ofString "_law_which")=some (.int (c.fmod 2))∧ρ1 (Str.ofString "_law_after")=some (.list (js'.map jd))∧ρ1 (ag bW)=some (.list (js'.map jd))∧∀b',b'≠bW->ρ1 (ag b')=ρ (ag b'):=by
 obtain⟨h1,h2,h3,h4⟩:=H
 obtain⟨js',f',l',dd⟩:=FA (b:=bW) (c:=c.fdiv 2) f hl hw hw'
 obtain⟨ps,pl,r,_,_⟩:=oY f
 have z1:(hW.map jd).length≤16777216:=by simp;omega
 have z2:(ps.map jd).length≤16777216:=by simp;omega
 have z3:ks.length < 16777216:=by omega
 refine⟨_,js',.tup [.list (hW.map jd),.list (ps.map jd)],by unfold lU;solve_by_elim -exfalso-symm-intro-constructor(maxDepth:=500) (transparency:=.reducible)only[h1,h2,h3,h4,gb,gh,bk,dd,r,z1,z2,z3,o3,r8,ib,o5,GG,vV,br,aN,aF,aB,cK,vL,qz,av,an,uN,fj,cL,ki,aP,dE,bD,aY,aW,bA,wd,jC,kU,u7,n8,qI,vd,AV,AW,AX,vm,oh,qP,vq,BA,BD,BE,vF,vG,qX,qY,vJ,vK,CD,CH],f',l',⟨by exact uN AT (uK (uN n8 (uN qI (uN vd (uN u7 h1))))),by exact uN qL (uK (uN oh (uN qP (uN vq (uN vm h2))))),by exact uN BV (uK (uN qY (uN vJ (uN vK (uN qX h3))))),by exact uN A9 (uK an)⟩,?_,by exact uN BU (uK (uN vF (uN vG an))),by exact an,by exact kU an,fun b' hb=>?_⟩
 .have a1:(D.list (hW.map jd)).ok 7=true:=iJ
  have a2:(D.list (ps.map jd)).ok 7=true:=iJ
  simp only[D.ok,List.all_cons,List.all_nil,Bool.and_true,Bool.and_eq_true]
  exact⟨a1,a2⟩
 .have rr:ρ (ag b')=ρ (ag b'):=rfl
  exact kU (kK hb (kU (kU (kU (kU rr)))))
theorem xx{b0 b1:Addr}{h0 h1:List J}{w:Int}{ks:List D}{ρ:aa}(H:LA (.list [.ref b0,.ref b1]) [.list (h0.map jd),.list (h1.map jd)] w ks ρ)(k0:ρ (ag b0)=some (.list (h0.map jd)))(k1:ρ (ag b1)=some (.list (h1.map jd)))(l0:h0.length≤60)(l1:h1.length≤60):
  ∃ ρ',ek (.one (Str.ofString "_law_k")) iy (ca 0 (2:Int).toNat) ρ=some (.next ρ')∧LA (.list [.ref b0,.ref b1]) [.list (h0.map jd),.list (h1.map jd)] w ks ρ'∧ρ' (ag b0)=some (.list (h0.map jd))∧ρ' (ag b1)=some (.list (h1.map jd)):=by
 refine sh (n:=(2:Int).toNat) (fun _ ρ=>LA (.list [.ref b0,.ref b1]) [.list (h0.map jd),.list (h1.map jd)] w ks ρ∧ρ (ag b0)=some (.list (h0.map jd))∧ρ (ag b1)=some (.list (h1.map jd))) ⟨H,k0,k1⟩ fun i ρ hi ⟨⟨h1',h2',h3',h4'⟩,k0,k1⟩=>?_
 have key:∃(bW:Addr) (hW:List J),bf (.list [.ref b0,.ref b1]) (.int (i:Int))=some (.ref bW)∧bf (.own [.list (h0.map jd),.list (h1.map jd)]) (.int (i:Int))=some (.list (hW.map jd))∧ρ (ag bW)=some (.list (hW.map jd))∧hW.length≤60:=by
  have:i=0∨i=1:=by have:i < 2:=hi;omega
  rcases this with rfl | rfl
  .exact⟨b0,h0,rfl,rfl,k0,l0⟩
  .exact⟨b1,h1,rfl,rfl,k1,l1⟩
 obtain⟨bW,hW,gb,gh,kk,ll⟩:=key
 have z1:(hW.map jd).length≤16777216:=by simp;omega
 have z2:(hW.map jd).length < 16777216:=by simp;omega
 exact⟨_,by unfold iy;solve_by_elim -exfalso-symm-intro-constructor(maxDepth:=500) (transparency:=.reducible)only[h1',h2',h3',h4',gb,gh,kk,z1,z2,GF,GE,ib,vV,aH,df,bz,cC,aN,aF,aB,cK,av,cJ,an,uN,gj,aP,dE,aY,aW,bO,bF,bP,bE,wd,bZ,kU,u8,og,qN,A6],⟨by exact uN u9 (uN u9 (uN u8 h1')),by exact uN qN (uN qN (uN og h2')),by exact uN vI (uN vI (uN BY h3')),by exact uN vC (uN vC (uN BC h4'))⟩,by exact kU (kU (kU k0)),by exact kU (kU (kU k1))⟩
theorem xy{bks:D}{hs ks:List D}{w c:Int}{bW:Addr}{js:List J}{ρ:aa}(H:LA bks hs w ks ρ)(gb:bf bks (.int (c.fmod 2))=some (.ref bW))(bk:ρ (ag bW)=some (.list (js.map jd)))(f:Fit js)(hw:ρ (Str.ofString "_law_which")=some (.int (c.fmod 2)))(ha:ρ (Str.ofString "_law_after")=some (.list (js.map jd)))(cn:0≤c.fmod 2∧c.fmod 2 < (hs.length:Int)∧c.fmod 2 < 9223372036854775808):
  ∃ ρ1,ka ρ=aj (eK (.one (Str.ofString "_law_k")) (dP (eI 2)) iy) aG ρ1∧LA bks (hs.set (c.fmod 2).toNat (.list (js.map jd))) w ks ρ1∧∀b',ρ1 (ag b')=ρ (ag b'):=by
 obtain⟨h1,h2,h3,h4⟩:=H
 obtain⟨ps,pl,r,fr,mt⟩:=oY f
 have hl:=f.len
 have z1:(js.map jd).length≤16777216:=by simp;omega
 have z2:(ps.map jd).length < 16777216:=by simp;omega
 have trt:(D.bool true).truth? = some true:=rfl
 refine⟨_,by unfold ka;simp only[t1];solve_by_elim -exfalso-symm-intro-constructor(maxDepth:=500) (transparency:=.reducible)only[h1,h2,h3,h4,hw,ha,gb,bk,r,fr,mt,z1,z2,cn,o6,jG,trt,o5,GH,vV,aH,df,bz,cC,aN,aF,aB,cK,bH,vL,qz,av,da,cJ,ki,aP,bD,aY,aW,bF,bP,CV,CW,bZ],⟨by exact uN mx h1,by exact an,by exact uN vH h3,by exact uN BB h4⟩,fun b'=>?_⟩
 have rr:ρ (ag b')=ρ (ag b'):=rfl
 exact kU rr
theorem GI{b0 b1:Addr}{w c:Int}{h0 h1:List J}{ks:List D}{i:Nat}{ρ:aa}(hb:b0≠b1)(hi:i < 16)(hw:1≤w)(hw':w≤10 ^ 56+1)(H:LI b0 b1 w h0 h1 ks i ρ):∃ ρ' h0' h1' ks',lU (ah ρ (Str.ofString "_law_cell") (.int c))=some (.next ρ')∧LI b0 b1 w h0' h1' ks' (i+1) ρ':=by
 have hc:=dW (a:=c) (b:=2) (by decide)
 have L:LA (.list [.ref b0,.ref b1]) [.list (h0.map jd),.list (h1.map jd)] w ks ρ:=⟨H.books,H.held,H.wide,H.kept⟩
 have l0:=H.l0
 have l1:=H.l1
 have kl:=H.kl
 have hnn:(2:Int)≤16777216∧-16777216≤(2:Int):=by omega
 have fin:∀ {ρ2 ρ':aa},ek (.one (Str.ofString "_law_k")) iy (ca 0 (2:Int).toNat) ρ2=some (.next ρ')->aj (eK (.one (Str.ofString "_law_k")) (dP (eI 2)) iy) aG ρ2=some (.next ρ'):=fun e=>kP (iR av hnn) e bE
 have kgs:∀(t:D),t.ok 8=true->∀d∈ks++[.tup [t,t]],∃t:D,d=.tup [t,t]∧t.ok 8=true:=fun t ht d hd=>by
  rcases List.mem_append.mp hd with q | q
  .exact H.kg d q
  .rw[List.mem_singleton] at q;exact⟨t,q,ht⟩
 have kls:∀t:D,(ks++[D.tup [t,t]]).length≤i+1:=fun t=>by simp;omega
 have:c.fmod 2=0∨c.fmod 2=1:=by omega
 rcases this with q | q
 .obtain⟨ρ1,js',t,e1,f',l',L1,ht,hwh,haf,kb,ko⟩:=xw (c:=c) (bW:=b0) (hW:=h0) L (by rw[q];rfl) (by rw[q];rfl) H.k0 H.f0 (by omega) (by omega) hw hw'
  obtain⟨ρ2,e2,L2,k2⟩:=xy (c:=c) (bW:=b0) L1 (by rw[q];rfl) kb f' hwh haf (by rw[q];exact⟨by omega,by simp,by omega⟩)
  rw[q] at L2
  have k0':=(k2 b0).trans kb
  have k1':=((k2 b1).trans (ko b1 hb.symm)).trans H.k1
  obtain⟨ρ3,e3,L3,a0,a1⟩:=xx (h0:=js') (h1:=h1) L2 k0' k1' f'.len H.f1.len
  exact⟨ρ3,js',h1,_,e1.trans (e2.trans (fin e3)),L3.books,L3.held,L3.wide,L3.kept,a0,a1,f',H.f1,by omega,by omega,kls t,kgs t ht⟩
 .obtain⟨ρ1,js',t,e1,f',l',L1,ht,hwh,haf,kb,ko⟩:=xw (c:=c) (bW:=b1) (hW:=h1) L (by rw[q];rfl) (by rw[q];rfl) H.k1 H.f1 (by omega) (by omega) hw hw'
  obtain⟨ρ2,e2,L2,k2⟩:=xy (c:=c) (bW:=b1) L1 (by rw[q];rfl) kb f' hwh haf (by rw[q];exact⟨by omega,by simp,by omega⟩)
  rw[q] at L2
  have k1':=(k2 b1).trans kb
  have k0':=((k2 b0).trans (ko b0 hb)).trans H.k0
  obtain⟨ρ3,e3,L3,a0,a1⟩:=xx (h0:=h0) (h1:=js') L2 k0' k1' H.f0.len f'.len
  exact⟨ρ3,h0,js',_,e1.trans (e2.trans (fin e3)),L3.books,L3.held,L3.wide,L3.kept,a0,a1,H.f0,f',by omega,by omega,kls t,kgs t ht⟩
structure LZ (b0 b1:Addr) (h0 h1:List J) (ρ:aa):Prop where
 books:ρ (Str.ofString "_law_books")=some (.list [.ref b0,.ref b1])
 held:ρ (Str.ofString "_law_held")=some (.own [.list (h0.map jd),.list (h1.map jd)])
 k0:ρ (ag b0)=some (.list (h0.map jd))
theorem GJ{b0 b1:Addr}{h0 h1:List J}{ks:List D}{ρ:aa}(kg:∀d∈ks,∃t:D,d=.tup [t,t]∧t.ok 8=true)(H:LZ b0 b1 h0 h1 ρ):∃ ρ',ek (.many [Str.ofString "_law_told",Str.ofString "_law_ones"]) lV ks ρ=some (.next ρ')∧LZ b0 b1 h0 h1 ρ':=by
 have:=pa (g:=id) (t:=.many [Str.ofString "_law_told",Str.ofString "_law_ones"]) (mb:=lV) ks (fun _ ρ=>LZ b0 b1 h0 h1 ρ) H fun i d ρ hd ⟨a1,a2,a3⟩=>by
  obtain⟨t,e,ht⟩:=kg d (List.mem_of_getElem? hd)
  subst e
  have cn:bc t t=some false:=kW ht
  have e:cO (.many [Str.ofString "_law_told",Str.ofString "_law_ones"]) (.tup [t,t]) ρ=some (ah (ah ρ (Str.ofString "_law_told") t) (Str.ofString "_law_ones") t):=rfl
  show ∃ ρ',(cO _ (.tup [t,t]) ρ).bind lV=_∧_
  rw[e,au]
  exact⟨_,by unfold lV;exact bF (bZ (aH (vV (uN BR an)) (vV an) cn)) (bP bE),by exact uN AU (uN qI a1),by exact uN A3 (uN qP a2),by exact kU (kU a3)⟩
 rw[List.map_id] at this
 exact this
theorem GK{ns:List Int}(hn:ns.length≤63){b0 b1:Addr}(hb:b0≠b1){w:Int}(hw:1≤w)(hw':w≤10 ^ 56+1){ρ:aa}(hs:ρ (Str.ofString "_law_script")=some (cU ns))(h1:ρ (Str.ofString "_law_books")=some (.list [.ref b0,.ref b1]))(h2:ρ (Str.ofString "_law_held")=some (.own [.list [],.list []]))(h3:ρ (Str.ofString "_law_wide")=some (.int w))(k0:ρ (ag b0)=some (.list []))(k1:ρ (ag b1)=some (.list [])):∃ σ,kc ρ=some (.ret (.bool true) σ):=by
 obtain⟨xs,ex,hx⟩:=GC (ns:=ns)
 obtain⟨ρ1,e1,a0,a1,ks,H⟩:=pa (g:=D.int) (t:=.one (Str.ofString "_law_cell")) (mb:=lU) xs (fun i ρ=>∃h0 h1 ks,LI b0 b1 w h0 h1 ks i ρ) (ρ:=ah ρ (Str.ofString "_law_kept") (.own []))
  ⟨[],[],[],by exact uN n8 h1,by show _=some (D.own [.list [],.list []]);exact uN oh h2,by exact uN qY h3,by exact an,by show _=some (D.list []);exact kU k0,by show _=some (D.list []);exact kU k1,Fit.nil,Fit.nil,by simp,by simp,by simp,fun d hd=>nomatch hd⟩ fun i c ρ hc ⟨h0,h1,ks,H⟩=>by
   have:=(List.getElem?_eq_some_iff.mp hc).1
   obtain⟨ρ',h0',h1',ks',e,H'⟩:=GI (c:=c) hb (by omega) hw hw' H
   exact⟨ρ',by rw[gH,au];exact e,h0',h1',ks',H'⟩
 rw[← ex] at e1
 have kp:=H.kept
 obtain⟨ρ2,e2,c1,c2,c3⟩:=GJ (b0:=b0) (b1:=b1) (h0:=a0) (h1:=a1) (ks:=ks) (ρ:=ah ρ1 (Str.ofString "_law_kept") (.list ks)) H.kg (by
  have c1:=H.books
  have c2:=H.held
  have c3:=H.k0
  exact⟨by exact uN n8 c1,by exact uN oh c2,by exact kU c3⟩)
 have g0:bf (.list [.ref b0,.ref b1]) (.int 0)=some (.ref b0):=rfl
 have g1:bf (.own [.list (a0.map jd),.list (a1.map jd)]) (.int 0)=some (.list (a0.map jd)):=rfl
 have hl:=H.f0.len
 have z0:(ns.map D.int).length≤16777216:=by simp;omega
 have z1:(b7 (ns.map D.int) (some 1) (some 17)).length≤16777216:=by rw[ex];simp;omega
 have z2:(a0.map jd).length≤16777216:=by simp;omega
 have z3:ks.length≤16777216:=by have:=H.kl;omega
 have it:(cU ns).items? = some (ns.map D.int):=rfl
 exact⟨_,by unfold kc;simp only[t1,tN,ay,List.map_cons,List.map_nil];exact bO (cu aF aY) (kP (iS (vL (CP (vV (uN BQ hs)) av av it z0)) gk z1) e1 (CX kp (kP (iS (vV an) gk z3) e2 (bR (gQ (gJ (vL (ib (aN (vV c1) av g0) c3 z2)) (aN (vV c2) av g1) pc)) jq))))⟩
theorem GL{ns:List Int}(hn:ns.length≤63){b0 b1:Addr}(hb:b0≠b1){ρ:aa}(hs:ρ (Str.ofString "_law_script")=some (cU ns))(h1:ρ (Str.ofString "_law_books")=some (.list [.ref b0,.ref b1]))(k0:ρ (ag b0)=some (.list []))(k1:ρ (ag b1)=some (.list [])):∃ σ,hJ ρ=some (.ret (.bool true) σ):=by
 have c0:=oQ (ns:=ns) (k:=0) hn (by omega)
 have c1:=oQ (ns:=ns) (k:=1) hn (by omega)
 have al:([cU ns,.int 0]:List D).all D.clean=true:=rfl
 have al1:([cU ns,.int 1]:List D).all D.clean=true:=rfl
 generalize fw ns 0=c at *
 generalize fw ns 1=e at *
 by_cases q9:c.fmod 64=9
 .have he:=dW (a:=e) (b:=60) (by decide)
  have g0:bf (.list [.ref b0,.ref b1]) (.int 0)=some (.ref b0):=rfl
  have fl:∀ {ρ:aa} {es:aa->Option (List D)},es ρ=some [.ref b0,.int (e.fmod 60)]->ρ (ag b0)=some (.list [])->∃ σ,cf g9 es ρ=some (.bool true,σ):=fun h1 h2=>by
   obtain⟨σ,x⟩:=GB he.1 he.2 h2
   exact⟨_,oM h1 rfl x⟩
  have fr:∀ {ρ:aa} {es:aa->Option (List D)} {ms:aa->Option Ob},es ρ=some [.ref b0,.int (e.fmod 60)]->ρ (ag b0)=some (.list [])->∃ σ,aj (bn (cf g9 es)) ms ρ=some (.ret (.bool true) σ):=fun h1 h2=>let ⟨σ,x⟩:=fl h1 h2;⟨σ,bR x rfl⟩
  have krr:∀ {ρ:aa} {ms:aa->Option Ob},aj (bn (cf g9 (ae (aq (eV "_law_books") (eI 0)) (ae (aE bp (aT em (ae (eV "_law_script") (ae (eI 1) ak))) (eI 60)) ak)))) ms ρ=aj (bn (cf g9 (ae (aq (eV "_law_books") (eI 0)) (ae (aE bp (aT em (ae (eV "_law_script") (ae (eI 1) ak))) (eI 60)) ak)))) ms ρ:=rfl
  by_cases q3:c.fmod 4=3
  .have st:∃ ρ' ms,hJ ρ=aj (bn (cf g9 (ae (aq (eV "_law_books") (eI 0)) (ae (aE bp (aT em (ae (eV "_law_script") (ae (eI 1) ak))) (eI 60)) ak)))) ms ρ'∧ρ' (Str.ofString "_law_script")=some (cU ns)∧ρ' (Str.ofString "_law_books")=some (.list [.ref b0,.ref b1])∧ρ' (ag b0)=some (.list []):=
    ⟨_,_,by unfold hJ;solve_by_elim -exfalso-symm-intro-constructor(maxDepth:=500) (transparency:=.reducible)only[hs,h1,c0,al,q3,q9,wo,wp,krr,vV,br,aH,aF,aB,bH,vL,cu,av,uN,dR,fj,cL,gq,aP,bD,aY,aW,bA,bO,bT,ew,bP,bZ,iF,gK,vW,jB,kL],by exact uN gK (uN gK (uN iF hs)),by exact uN kB (uN kB (uN mx h1)),by exact kU (kU (kU k0))⟩
   obtain⟨ρ',ms,e1,e2,e3,e4⟩:=st
   obtain⟨σ,x⟩:=fr (ms:=ms) (es:=ae (aq (eV "_law_books") (eI 0)) (ae (aE bp (aT em (ae (eV "_law_script") (ae (eI 1) ak))) (eI 60)) ak)) (ρ:=ρ') (by exact aB (aN (vV e3) av g0) (aB (br (bH (aB (vV e2) (aB av aF)) al1 c1) av (cL v6)) aF)) e4
   exact⟨σ,e1.trans x⟩
  .have st:∃ ρ' ms,hJ ρ=aj (bn (cf g9 (ae (aq (eV "_law_books") (eI 0)) (ae (aE bp (aT em (ae (eV "_law_script") (ae (eI 1) ak))) (eI 60)) ak)))) ms ρ'∧ρ' (Str.ofString "_law_script")=some (cU ns)∧ρ' (Str.ofString "_law_books")=some (.list [.ref b0,.ref b1])∧ρ' (ag b0)=some (.list []):=
    ⟨_,_,by unfold hJ;solve_by_elim -exfalso-symm-intro-constructor(maxDepth:=500) (transparency:=.reducible)only[hs,h1,c0,al,q3,q9,krr,vV,br,aH,aF,aB,bH,vL,cu,av,uN,cL,gq,fQ,aP,bD,aY,aW,bA,bO,bT,bF,ew,bP,bZ,iF,gK,jB,kL],by exact uN gK (uN iF hs),by exact uN kB (uN mx h1),by exact kU (kU k0)⟩
   obtain⟨ρ',ms,e1,e2,e3,e4⟩:=st
   obtain⟨σ,x⟩:=fr (ms:=ms) (es:=ae (aq (eV "_law_books") (eI 0)) (ae (aE bp (aT em (ae (eV "_law_script") (ae (eI 1) ak))) (eI 60)) ak)) (ρ:=ρ') (by exact aB (aN (vV e3) av g0) (aB (br (bH (aB (vV e2) (aB av aF)) al1 c1) av (cL v6)) aF)) e4
   exact⟨σ,e1.trans x⟩
 .have st:∃ ρ' w,hJ ρ=kc ρ'∧1≤w∧w≤10 ^ 56+1∧ρ' (Str.ofString "_law_script")=some (cU ns)∧ρ' (Str.ofString "_law_books")=some (.list [.ref b0,.ref b1])∧ρ' (Str.ofString "_law_held")=some (.own [.list [],.list []])∧ρ' (Str.ofString "_law_wide")=some (.int w)∧ρ' (ag b0)=some (.list [])∧ρ' (ag b1)=some (.list []):=by
   have hw:=dW (a:=c.fdiv 4) (b:=10 ^ 56) (by decide)
   by_cases q3:c.fmod 4=3
   .exact⟨_,2+(c.fdiv 4).fmod (10 ^ 56),by unfold hJ;solve_by_elim -exfalso-symm-intro-constructor(maxDepth:=500) (transparency:=.reducible)only[hs,h1,c0,al,q3,q9,wo,wp,xv,vV,br,aH,aF,aB,bH,vL,cu,av,uN,dR,fj,cL,gq,fQ,aP,bD,aY,aW,bA,bO,bT,bF,ew,bP,bZ,iF,gK,vW,jB,kL],by omega,by omega,by exact uN gK (uN gK (uN iF hs)),by exact uN kB (uN kB (uN mx h1)),by exact uN qQ (uN qQ an),by exact an,by exact kU (kU (kU k0)),by exact kU (kU (kU k1))⟩
   .exact⟨_,1,by unfold hJ;solve_by_elim -exfalso-symm-intro-constructor(maxDepth:=500) (transparency:=.reducible)only[hs,h1,c0,al,q3,q9,xv,vV,br,aH,aF,aB,bH,vL,cu,av,uN,cL,fQ,aP,bD,aY,aW,bA,bO,bF,bP,bZ,iF,gK,jB,kL],by omega,by decide,by exact uN gK (uN iF hs),by exact uN kB (uN mx h1),by exact uN qQ an,by exact an,by exact kU (kU k0),by exact kU (kU k1)⟩
  obtain⟨ρ',w,e,hw,hw',a1,a2,a3,a4,a5,a6⟩:=st
  obtain⟨σ,x⟩:=GK hn hb hw hw' a1 a2 a3 a4 a5 a6
  exact⟨σ,e.trans x⟩
theorem GM{ns:List Int}(hn:ns.length≤63):qp [.list (ns.map .int)] (.bool true):=by
 refine⟨rfl,?_⟩
 have hs:jW (ay ["_law_script"]) [cU ns] (Str.ofString "_law_script")=some (cU ns):=nE az
 change uw (jW (ay ["_law_script"]) [cU ns]) _
 have no:=zk (names:=ay ["_law_script"]) (ds:=[cU ns])
 generalize jW (ay ["_law_script"]) [cU ns]=ρ at *
 have c0:=oQ (ns:=ns) (k:=0) hn (by omega)
 have c1:=oQ (ns:=ns) (k:=1) hn (by omega)
 have al:([cU ns,.int 0]:List D).all D.clean=true:=rfl
 have al1:([cU ns,.int 1]:List D).all D.clean=true:=rfl
 by_cases q:(fw ns 0).fmod 64=25
 .have hm:=dW (a:=(fw ns 0).fdiv 64) (b:=10) (by decide)
  refine .inl ⟨by unfold nG;exact aH (br (bH (aB (vV hs) (aB av aF)) al c0) av (cL kL)) av (gq q),no,rfl,.int (fw ns 1),.int (16+((fw ns 0).fdiv 64).fmod 10),rfl,rfl,fun b=>⟨by unfold uu;exact bH (aB (vV (uK hs)) (aB av aF)) al1 c1,by unfold uv;exact br av (br (br (bH (aB (vV (uK hs)) (aB av aF)) al c0) av (fj CE)) av (cL CK)) dR,?_⟩⟩
  have:(16+((fw ns 0).fdiv 64).fmod 10)=(((16+((fw ns 0).fdiv 64).fmod 10).toNat:Nat):Int):=by omega
  rw[this]
  exact FH (by omega) an
 .refine .inr ⟨by unfold nG;exact aH (br (bH (aB (vV hs) (aB av aF)) al c0) av (cL kL)) av (fQ q),no,fun b0 b1 hb=>GL hn hb ?_ an ?_ ?_⟩
  .unfold jh;exact uN BP (uK (uK hs))
  .unfold jh;rw[upd_bk];exact kK hb an
  .unfold jh;rw[upd_bk];exact an
end Mine
end
section
namespace Mine
open PySem PyProof.Rows PySem.Calls PySem.W
noncomputable abbrev lh:List Value:=[.ref 24,.type "ValueError",.type "Exception",.type "BaseException",.type "object"]
noncomputable def YC(w:World)(h:Heap):Prop:=Hd.Yf { heap:=h }=Hd.Ya w
theorem GN{h h':Heap}{x:Str}{v:Value}(e:globalOf h x=some v)(k:∀b o,h.get? b=some o->h'.get? b=some o):globalOf h' x=some v:=by
 unfold globalOf at e ⊢
 cases hq:h.get? mainNs with
 | none=>rw[hq] at e;cases e
 | some o=>rw[hq] at e;rw[k _ _ hq];exact e
theorem xz{h h':Heap}{a:Addr}(e:h.isNs a=true)(k:∀b o,h.get? b=some o->h'.get? b=some o):h'.isNs a=true∧∀n,h'.nsMap a n=h.nsMap a n:=by
 unfold Heap.isNs Heap.nsMap at *
 cases hq:h.get? a with
 | none=>rw[hq] at e;cases e
 | some o=>rw[hq] at e;rw[k _ _ hq];exact⟨e,fun _=>rfl⟩
noncomputable def bU(w:World)(a:Addr):Obj:=((Hd.hp557 w.params).get? a).getD default
theorem xA(w:World):(Hd.hp557 w.params).get? 189=some (bU w 189):=by kernel_rfl
theorem xB(w:World):(Hd.hp557 w.params).get? 188=some (bU w 188):=by kernel_rfl
theorem xC(w:World):(Hd.hp557 w.params).get? 158=some (bU w 158):=by kernel_rfl
theorem xD(w:World):(Hd.hp557 w.params).get? 157=some (bU w 157):=by kernel_rfl
theorem xE(w:World):(Hd.hp557 w.params).get? 165=some (bU w 165):=by kernel_rfl
theorem xF(w:World):(Hd.hp557 w.params).get? 164=some (bU w 164):=by kernel_rfl
theorem xG(w:World):(Hd.hp557 w.params).get? 172=some (bU w 172):=by kernel_rfl
theorem xH(w:World):(Hd.hp557 w.params).get? 171=some (bU w 171):=by kernel_rfl
theorem xI(w:World):(Hd.hp557 w.params).get? 179=some (bU w 179):=by kernel_rfl
theorem xJ(w:World):(Hd.hp557 w.params).get? 178=some (bU w 178):=by kernel_rfl
theorem xK(w:World):(Hd.hp557 w.params).get? 186=some (bU w 186):=by kernel_rfl
theorem xL(w:World):(Hd.hp557 w.params).get? 185=some (bU w 185):=by kernel_rfl
theorem bh{α β:Type}{a a' x:α}{b b' y:β}(f:a=x->a'=x)(g:b=y->b'=y)(Y:(a,b)=(x,y)):(a',b')=(x,y):=by rw[f (congrArg Prod.fst Y),g (congrArg Prod.snd Y)]
section
variable {h h':Heap} (k:∀b o,h.get? b=some o->h'.get? b=some o)
include k
theorem li{x:Str}{v:Value}(e:globalOf h x=some v):globalOf h' x=some v:=GN e k
theorem fU{a:Addr}{o:Obj}{H:Option Obj}(q:H=some o)(e:h.get? a=H):h'.get? a=H:=(k _ _ (e.trans q)).trans q.symm
theorem pj{a:Addr}(e:h.isNs a=true):h'.isNs a=true:=(xz e k).1
theorem fV{a:Addr}{n:Str}{v:Option Value}(j:h.isNs a=true)(e:h.nsMap a n=v):h'.nsMap a n=v:=((xz j k).2 n).trans e
end
theorem YC.keeps{w:World}{h h':Heap}(Y:YC w h)(k:∀b o,h.get? b=some o->h'.get? b=some o):YC w h':=by
 have j0:h.isNs 23=true:=congrArg (·.2.2.2.2.2.2.2.2.2.2.2.2.2.2.2.2.2.2.2.2.2.2.2.1) Y
 have j1:h.isNs 36=true:=congrArg (·.2.2.2.2.2.2.2.2.2.2.2.2.2.2.2.2.2.2.2.2.2.2.2.2.2.2.2.1) Y
 have j2:h.isNs 48=true:=congrArg (·.2.2.2.2.2.2.2.2.2.2.2.2.2.2.2.2.2.2.2.2.2.2.2.2.2.2.2.2.2.2.2.1) Y
 have j3:h.isNs 60=true:=congrArg (·.2.2.2.2.2.2.2.2.2.2.2.2.2.2.2.2.2.2.2.2.2.2.2.2.2.2.2.2.2.2.2.2.2.2.2.1) Y
 exact bh (li k) (bh (fU k (xA w)) (bh (fU k (xB w)) (bh (fU k (xC w)) (bh (fU k (xD w)) (bh (fU k (xE w)) (bh (fU k (xF w)) (bh (fU k (xG w)) (bh (fU k (xH w)) (bh (fU k (xI w)) (bh (fU k (xJ w)) (bh (fU k (xK w)) (bh (fU k (xL w)) (bh (k _ _) (bh (k _ _) (bh (k _ _) (bh (k _ _) (bh (k _ _) (bh (li k) (bh (li k) (bh (li k) (bh (li k) (bh (li k) (bh (pj k) (bh (fV k j0) (bh (fV k j0) (bh (fV k j0) (bh (pj k) (bh (fV k j1) (bh (fV k j1) (bh (fV k j1) (bh (pj k) (bh (fV k j2) (bh (fV k j2) (bh (fV k j2) (bh (pj k) (bh (fV k j3) (bh (fV k j3) (fV k j3)))))))))))))))))))))))))))))))))))))) Y
section
variable {prog:Program} {mean:ExcName->Option Value} {mg mb:Str->Option Value} {h:Heap} (T:Top Hd.PQa (looseW Hd.PQa []) mean mg mb h) (w:World)
theorem GO(Y:YC w h):XCls ⟨prog,w,h,mg,mb,T.g,T.b,T.nolimit⟩ "RunError" 24 dl:=by
 have y1:h.get? 24=_:=congrArg (·.2.2.2.2.2.2.2.2.2.2.2.2.2.1) Y
 have y3:globalOf h (Str.ofString "RunError")=some (.ref 24):=congrArg (·.2.2.2.2.2.2.2.2.2.2.2.2.2.2.2.2.2.2.1) Y
 obtain⟨C,O,_⟩:=T.ownAt (x:=Str.ofString "RunError") (newId:="ValueError.__new__") (bm:=dl) (by kernel_rfl)
 have e:some (Value.ref 24)=some (Value.ref C):=y3.symm.trans ((Claim2Try.globalOf_of_ns T.g _).trans O.bound)
 cases e
 exact XCls.at (G:=⟨prog,w,h,mg,mb,T.g,T.b,T.nolimit⟩) O.own y1 rfl
theorem mO(Y:YC w h):XCls ⟨prog,w,h,mg,mb,T.g,T.b,T.nolimit⟩ "BadJob" 37 lh:=by
 have y1:h.get? 37=_:=congrArg (·.2.2.2.2.2.2.2.2.2.2.2.2.2.2.1) Y
 have y3:globalOf h (Str.ofString "BadJob")=some (.ref 37):=congrArg (·.2.2.2.2.2.2.2.2.2.2.2.2.2.2.2.2.2.2.2.1) Y
 obtain⟨C,O,_⟩:=T.ownAt (x:=Str.ofString "BadJob") (newId:="ValueError.__new__") (bm:=dl) (by kernel_rfl)
 have e:some (Value.ref 37)=some (Value.ref C):=y3.symm.trans ((Claim2Try.globalOf_of_ns T.g _).trans O.bound)
 cases e
 exact XCls.at (G:=⟨prog,w,h,mg,mb,T.g,T.b,T.nolimit⟩) O.own y1 rfl
theorem pk(Y:YC w h):XCls ⟨prog,w,h,mg,mb,T.g,T.b,T.nolimit⟩ "TooMany" 49 lh:=by
 have y1:h.get? 49=_:=congrArg (·.2.2.2.2.2.2.2.2.2.2.2.2.2.2.2.1) Y
 have y3:globalOf h (Str.ofString "TooMany")=some (.ref 49):=congrArg (·.2.2.2.2.2.2.2.2.2.2.2.2.2.2.2.2.2.2.2.2.1) Y
 obtain⟨C,O,_⟩:=T.ownAt (x:=Str.ofString "TooMany") (newId:="ValueError.__new__") (bm:=dl) (by kernel_rfl)
 have e:some (Value.ref 49)=some (Value.ref C):=y3.symm.trans ((Claim2Try.globalOf_of_ns T.g _).trans O.bound)
 cases e
 exact XCls.at (G:=⟨prog,w,h,mg,mb,T.g,T.b,T.nolimit⟩) O.own y1 rfl
theorem mP(Y:YC w h):XCls ⟨prog,w,h,mg,mb,T.g,T.b,T.nolimit⟩ "OutOfPlace" 61 lh:=by
 have y1:h.get? 61=_:=congrArg (·.2.2.2.2.2.2.2.2.2.2.2.2.2.2.2.2.1) Y
 have y3:globalOf h (Str.ofString "OutOfPlace")=some (.ref 61):=congrArg (·.2.2.2.2.2.2.2.2.2.2.2.2.2.2.2.2.2.2.2.2.2.1) Y
 obtain⟨C,O,_⟩:=T.ownAt (x:=Str.ofString "OutOfPlace") (newId:="ValueError.__new__") (bm:=dl) (by kernel_rfl)
 have e:some (Value.ref 61)=some (Value.ref C):=y3.symm.trans ((Claim2Try.globalOf_of_ns T.g _).trans O.bound)
 cases e
 exact XCls.at (G:=⟨prog,w,h,mg,mb,T.g,T.b,T.nolimit⟩) O.own y1 rfl
theorem GP(Y:YC w h):XCls ⟨prog,w,h,mg,mb,T.g,T.b,T.nolimit⟩ "NoRow" 73 lh:=by
 have y1:h.get? 73=_:=congrArg (·.2.2.2.2.2.2.2.2.2.2.2.2.2.2.2.2.2.1) Y
 have y3:globalOf h (Str.ofString "NoRow")=some (.ref 73):=congrArg (·.2.2.2.2.2.2.2.2.2.2.2.2.2.2.2.2.2.2.2.2.2.2.1) Y
 obtain⟨C,O,_⟩:=T.ownAt (x:=Str.ofString "NoRow") (newId:="ValueError.__new__") (bm:=dl) (by kernel_rfl)
 have e:some (Value.ref 73)=some (Value.ref C):=y3.symm.trans ((Claim2Try.globalOf_of_ns T.g _).trans O.bound)
 cases e
 exact XCls.at (G:=⟨prog,w,h,mg,mb,T.g,T.b,T.nolimit⟩) O.own y1 rfl
end
theorem xM{m:Str->Option Value}(h1:m (Str.ofString "__class__")=none)(h2:m (Str.ofString "__getattribute__")=none)(h3:m (Str.ofString "__getattr__")=none):∀n∈eJ,m n=none:=fun n hn=>by
 rcases List.mem_cons.mp hn with rfl | hn
 .exact h1
 rcases List.mem_cons.mp hn with rfl | hn
 .exact h2
 rcases List.mem_cons.mp hn with rfl | hn
 .exact h3
 cases hn
theorem GQ{prog:Program}{mean:ExcName->Option Value}{mg mb:Str->Option Value}{h:Heap}(T:Top Hd.PQa (looseW Hd.PQa []) mean mg mb h)(w:World)(Y:YC w h):XQ ⟨prog,w,h,mg,mb,T.g,T.b,T.nolimit⟩ 61 lh:=by
 intro h' a hk hi
 have Y':YC w h':=Y.keeps hk
 have z:h'.get? 24=_:=congrArg (·.2.2.2.2.2.2.2.2.2.2.2.2.2.1) Y'
 have y:h'.get? 61=_:=congrArg (·.2.2.2.2.2.2.2.2.2.2.2.2.2.2.2.2.1) Y'
 have i1:h'.isNs 23=true:=congrArg (·.2.2.2.2.2.2.2.2.2.2.2.2.2.2.2.2.2.2.2.2.2.2.2.1) Y'
 have n10:h'.nsMap 23 (Str.ofString "__class__")=none:=congrArg (·.2.2.2.2.2.2.2.2.2.2.2.2.2.2.2.2.2.2.2.2.2.2.2.2.1) Y'
 have n11:h'.nsMap 23 (Str.ofString "__getattribute__")=none:=congrArg (·.2.2.2.2.2.2.2.2.2.2.2.2.2.2.2.2.2.2.2.2.2.2.2.2.2.1) Y'
 have n12:h'.nsMap 23 (Str.ofString "__getattr__")=none:=congrArg (·.2.2.2.2.2.2.2.2.2.2.2.2.2.2.2.2.2.2.2.2.2.2.2.2.2.2.1) Y'
 have i2:h'.isNs 60=true:=congrArg (·.2.2.2.2.2.2.2.2.2.2.2.2.2.2.2.2.2.2.2.2.2.2.2.2.2.2.2.2.2.2.2.2.2.2.2.1) Y'
 have n20:h'.nsMap 60 (Str.ofString "__class__")=none:=congrArg (·.2.2.2.2.2.2.2.2.2.2.2.2.2.2.2.2.2.2.2.2.2.2.2.2.2.2.2.2.2.2.2.2.2.2.2.2.1) Y'
 have n21:h'.nsMap 60 (Str.ofString "__getattribute__")=none:=congrArg (·.2.2.2.2.2.2.2.2.2.2.2.2.2.2.2.2.2.2.2.2.2.2.2.2.2.2.2.2.2.2.2.2.2.2.2.2.2.1) Y'
 have n22:h'.nsMap 60 (Str.ofString "__getattr__")=none:=congrArg (·.2.2.2.2.2.2.2.2.2.2.2.2.2.2.2.2.2.2.2.2.2.2.2.2.2.2.2.2.2.2.2.2.2.2.2.2.2.2) Y'
 obtain⟨N,nm,q,bs,hdct,sn,sub,ab,col,dd,k0,k1,k2,k3,k5,mN,o1,_,_,_⟩:=(mP (prog:=prog) T w Y).obj
 have o2:=hk _ _ o1
 have eN:60=N:=congrArg (fun o:Obj=>match o.data with | .cls cd=>cd.ns | _=>0) (Option.some.inj (y.symm.trans o2))
 subst eN
 exact⟨hi,⟨_,_,_,_,_,_,_,_,_,_,_,_,_,_,_,_,_,o2,.of_isNs i2,xM n20 n21 n22⟩,.own z (.of_isNs i1) (xM n10 n11 n12) .base,rfl,rfl⟩
noncomputable def KB(w:World):Frag:=[(189,bU w 189),(188,bU w 188),(158,bU w 158),(157,bU w 157),(165,bU w 165),(164,bU w 164),(172,bU w 172),(171,bU w 171),(179,bU w 179),(178,bU w 178),(186,bU w 186),(185,bU w 185)]
theorem fW{K:Frag}{h:Heap}{a:Addr}{o:Obj}(y:h.get? a=some o)(r:K.In h):Frag.In ((a,o) :: K) h:=fun b p e=>by
 rw[List.lookup_cons] at e
 split at e
 .rename_i q
  cases e
  rw[beq_iff_eq.mp q]
  exact y
 .exact r b p e
theorem KB.in_{w:World}{h:Heap}(Y:YC w h):(KB w).In h:=
 fW ((congrArg (·.2.1) Y:h.get? 189=(Hd.hp557 w.params).get? 189).trans (xA w)) (fW ((congrArg (·.2.2.1) Y:h.get? 188=(Hd.hp557 w.params).get? 188).trans (xB w)) (fW ((congrArg (·.2.2.2.1) Y:h.get? 158=(Hd.hp557 w.params).get? 158).trans (xC w)) (fW ((congrArg (·.2.2.2.2.1) Y:h.get? 157=(Hd.hp557 w.params).get? 157).trans (xD w)) (fW ((congrArg (·.2.2.2.2.2.1) Y:h.get? 165=(Hd.hp557 w.params).get? 165).trans (xE w)) (fW ((congrArg (·.2.2.2.2.2.2.1) Y:h.get? 164=(Hd.hp557 w.params).get? 164).trans (xF w)) (fW ((congrArg (·.2.2.2.2.2.2.2.1) Y:h.get? 172=(Hd.hp557 w.params).get? 172).trans (xG w)) (fW ((congrArg (·.2.2.2.2.2.2.2.2.1) Y:h.get? 171=(Hd.hp557 w.params).get? 171).trans (xH w)) (fW ((congrArg (·.2.2.2.2.2.2.2.2.2.1) Y:h.get? 179=(Hd.hp557 w.params).get? 179).trans (xI w)) (fW ((congrArg (·.2.2.2.2.2.2.2.2.2.2.1) Y:h.get? 178=(Hd.hp557 w.params).get? 178).trans (xJ w)) (fW ((congrArg (·.2.2.2.2.2.2.2.2.2.2.2.1) Y:h.get? 186=(Hd.hp557 w.params).get? 186).trans (xK w)) (fW ((congrArg (·.2.2.2.2.2.2.2.2.2.2.2.2.1) Y:h.get? 185=(Hd.hp557 w.params).get? 185).trans (xL w)) (fun _ _ e=>nomatch e))))))))))))
section
variable {prog:Program} {mean:ExcName->Option Value} {mg mb:Str->Option Value} {h:Heap} (T:Top Hd.PQa (looseW Hd.PQa []) mean mg mb h) (w:World)
theorem gx(Y:YC w h):BkC ⟨prog,w,h,mg,mb,T.g,T.b,T.nolimit⟩ (KB w) 189 where
 in_:=KB.in_ Y
 glob:=(Claim2Try.globalOf_of_ns T.g _).symm.trans (congrArg (·.1) Y)
 ga:=by kernel_rfl
 gn:=by kernel_rfl
 cd:=by kernel_rfl
 held:=by kernel_rfl
 sa:=by kernel_rfl
 over:=by kernel_rfl
end
theorem gT(w:World):iu (KB w) 189 (Str.ofString "take") 165:=⟨by kernel_rfl,by kernel_rfl,by decide +kernel⟩
theorem jH(w:World):iu (KB w) 189 (Str.ofString "drop") 172:=⟨by kernel_rfl,by kernel_rfl,by decide +kernel⟩
theorem iO(w:World):iu (KB w) 189 (Str.ofString "listed") 179:=⟨by kernel_rfl,by kernel_rfl,by decide +kernel⟩
theorem lj(w:World):iu (KB w) 189 (Str.ofString "plan") 186:=⟨by kernel_rfl,by kernel_rfl,by decide +kernel⟩
noncomputable def GR:Stmt->Option DefRec
 | .FunctionDef name a b _ _ _ sc _ _ pos=>some ⟨name,a,b,sc,pos⟩
 | _=>none
noncomputable def pn(q:Program):List DefRec:=q.main.body.flatMap fun st=>match st with
 | .ClassDef _ _ _ body _ _ _ _ _ _ _=>body.filterMap GR
 | _=>[]
noncomputable def dY(w:World)(f:Addr):FuncData:=match(bU w f).data with
 | .func fd=>fd
 | _=>default
structure MD (w:World) (f:Addr) (i:Nat) (names:List String):Prop where
 data:(bU w f).data=.func (dY w f)
 body:((pn Hd.PQa)[i]?.map fun d=>FuncBody.stmts d.body)=some (dY w f).body
 scope:((pn Hd.PQa)[i]?.map (·.scope))=some (dY w f).scope
 rest:(dY w f).closure=[]∧(dY w f).globals=mainGlobals∧(dY w f).builtins=builtinsNs
 code:codeIn (KB w) (dY w f).code (dY w f).qualname=true
 look:(KB w).lookup f=some (bU w f)
 bind:∀vals:List Value,vals.length=(ay names).length->bindArgs (dY w f) ⟨vals,[]⟩=pure ((ay names).zip vals)
 nodup:(ay names).Nodup
theorem GS(w:World):MD w 158 0 ["self"] where
 data:=by kernel_rfl
 body:=by kernel_rfl
 scope:=by kernel_rfl
 rest:=⟨by kernel_rfl,by kernel_rfl,by kernel_rfl⟩
 code:=by kernel_rfl
 look:=rfl
 bind:=fun vals h=>by
  obtain⟨a,rfl⟩:=eH h
  kernel_rfl
 nodup:=by decide +kernel
theorem xN(w:World):MD w 165 1 ["self","job"] where
 data:=by kernel_rfl
 body:=by kernel_rfl
 scope:=by kernel_rfl
 rest:=⟨by kernel_rfl,by kernel_rfl,by kernel_rfl⟩
 code:=by kernel_rfl
 look:=rfl
 bind:=fun vals h=>by
  obtain⟨a,b,rfl⟩:=il h
  kernel_rfl
 nodup:=by decide +kernel
theorem xO(w:World):MD w 172 2 ["self","place"] where
 data:=by kernel_rfl
 body:=by kernel_rfl
 scope:=by kernel_rfl
 rest:=⟨by kernel_rfl,by kernel_rfl,by kernel_rfl⟩
 code:=by kernel_rfl
 look:=rfl
 bind:=fun vals h=>by
  obtain⟨a,b,rfl⟩:=il h
  kernel_rfl
 nodup:=by decide +kernel
theorem GT(w:World):MD w 179 3 ["self"] where
 data:=by kernel_rfl
 body:=by kernel_rfl
 scope:=by kernel_rfl
 rest:=⟨by kernel_rfl,by kernel_rfl,by kernel_rfl⟩
 code:=by kernel_rfl
 look:=rfl
 bind:=fun vals h=>by
  obtain⟨a,rfl⟩:=eH h
  kernel_rfl
 nodup:=by decide +kernel
theorem GU(w:World):MD w 186 4 ["self"] where
 data:=by kernel_rfl
 body:=by kernel_rfl
 scope:=by kernel_rfl
 rest:=⟨by kernel_rfl,by kernel_rfl,by kernel_rfl⟩
 code:=by kernel_rfl
 look:=rfl
 bind:=fun vals h=>by
  obtain⟨a,rfl⟩:=eH h
  kernel_rfl
 nodup:=by decide +kernel
section
variable {prog:Program} {mean:ExcName->Option Value} {mg mb:Str->Option Value} {h:Heap} (T:Top Hd.PQa (looseW Hd.PQa []) mean mg mb h) {w:World} {k f i:Nat} {names:List String} {d:DefRec} (M:MD w f i names) (hi:(pn Hd.PQa)[i]? = some d) (Y:YC w h) (hsc:fH d.scope (ay names)=true)
include M hi Y hsc
theorem xP{m:aa->Option Ob}(hs:BS ⟨prog,w,h,mg,mb,T.g,T.b,T.nolimit⟩ k d.scope d.body m):FnB ⟨prog,w,h,mg,mb,T.g,T.b,T.nolimit⟩ (k+1) f (fJ (ay names) m):=by
 have hb:=M.body;have hc:=M.scope
 rw[hi] at hb hc
 have hb':(dY w f).body=.stmts d.body:=(Option.some.inj hb).symm
 have hc':(dY w f).scope=d.scope:=(Option.some.inj hc).symm
 simp only[fH,Bool.and_eq_true,Bool.not_eq_true'] at hsc
 have X:=KB.in_ Y
 refine FnB.of (X _ _ M.look) M.data hb' M.rest.1 M.rest.2.1 M.rest.2.2 (codeRec_of X M.code) M.bind M.nodup (fun x hx=>by rw[hc'];exact List.all_eq_true.mp hsc.1.1.1.1 x hx) (by rw[hc'];exact hsc.1.1.1.2) (by rw[hc'];exact hsc.1.1.2) (by rw[hc'];exact hsc.1.2) ?_ (by rw[hc'];exact hs)
 rw[hc']
 have:=hsc.2
 split at this
 .assumption
 .cases this
theorem xQ{μ:aa->Option String}(hs:XS ⟨prog,w,h,mg,mb,T.g,T.b,T.nolimit⟩ k d.scope d.body μ):XFnB ⟨prog,w,h,mg,mb,T.g,T.b,T.nolimit⟩ (k+1) f (je (ay names) μ):=by
 have hb:=M.body;have hc:=M.scope
 rw[hi] at hb hc
 have hb':(dY w f).body=.stmts d.body:=(Option.some.inj hb).symm
 have hc':(dY w f).scope=d.scope:=(Option.some.inj hc).symm
 simp only[fH,Bool.and_eq_true,Bool.not_eq_true'] at hsc
 have X:=KB.in_ Y
 refine XFnB.of (X _ _ M.look) M.data hb' M.rest.1 M.rest.2.1 M.rest.2.2 (codeRec_of X M.code) M.bind M.nodup (fun x hx=>by rw[hc'];exact List.all_eq_true.mp hsc.1.1.1.1 x hx) (by rw[hc'];exact hsc.1.1.1.2) (by rw[hc'];exact hsc.1.1.2) (by rw[hc'];exact hsc.1.2) ?_ (by rw[hc'];exact hs)
 rw[hc']
 have:=hsc.2
 split at this
 .assumption
 .cases this
theorem xR{m:aa->Option Out}(hs:SS ⟨prog,w,h,mg,mb,T.g,T.b,T.nolimit⟩ k d.scope d.body m):FnR ⟨prog,w,h,mg,mb,T.g,T.b,T.nolimit⟩ (k+1) f (jc (ay names) m):=by
 have hb:=M.body;have hc:=M.scope
 rw[hi] at hb hc
 have hb':(dY w f).body=.stmts d.body:=(Option.some.inj hb).symm
 have hc':(dY w f).scope=d.scope:=(Option.some.inj hc).symm
 simp only[fH,Bool.and_eq_true,Bool.not_eq_true'] at hsc
 have X:=KB.in_ Y
 refine FnR.of (X _ _ M.look) M.data hb' M.rest.1 M.rest.2.1 M.rest.2.2 (codeRec_of X M.code) M.bind M.nodup (fun x hx=>by rw[hc'];exact List.all_eq_true.mp hsc.1.1.1.1 x hx) (by rw[hc'];exact hsc.1.1.1.2) (by rw[hc'];exact hsc.1.1.2) (by rw[hc'];exact hsc.1.2) ?_ (by rw[hc'];exact hs)
 rw[hc']
 have:=hsc.2
 split at this
 .assumption
 .cases this
end
section
variable {prog:Program} {mean:ExcName->Option Value} {mg mb:Str->Option Value} {h:Heap} (T:Top Hd.PQa (looseW Hd.PQa []) mean mg mb h) {w:World} {d:DefRec}
theorem GV(hi:(pn Hd.PQa)[0]? = some d)(Y:YC w h)(hbd:∃p pos' pos lp,d.body=[.Assign [.Attribute (.Name (Str.ofString "self") p) (Str.ofString "held") pos'] (.List [] lp) pos])
  (hsc:m8 d.scope "self"=true∧okStore d.scope (Str.ofString "self")=true∧d.scope.names.all (fun p=>p.2 != .free && !aU p.1)=true∧d.scope.isCoroutine=false∧d.scope.isGenerator=false∧d.scope.kind=.function):jU ⟨prog,w,h,mg,mb,T.g,T.b,T.nolimit⟩ (KB w) 189 158 d.scope d.body:=by
 have M:=GS w
 have hb:=M.body;have hc:=M.scope
 rw[hi] at hb hc
 have X:=KB.in_ Y
 exact⟨by kernel_rfl,by kernel_rfl,by kernel_rfl,by kernel_rfl,⟨bU w 158,dY w 158,X _ _ M.look,M.data,(Option.some.inj hb).symm,M.rest.1,M.rest.2.1,M.rest.2.2,codeRec_of X M.code,fun vals hv=>M.bind vals hv,(Option.some.inj hc).symm⟩,hbd,hsc⟩
theorem GW(Y:YC w h):∃sI bI,jU ⟨prog,w,h,mg,mb,T.g,T.b,T.nolimit⟩ (KB w) 189 158 sI bI:=
 ⟨_,_,GV T rfl Y ⟨_,_,_,_,rfl⟩ ⟨by decide +kernel,by decide +kernel,by decide +kernel,rfl,rfl,rfl⟩⟩
end
theorem GX{prog:Program}{mean:ExcName->Option Value}{mg mb:Str->Option Value}{h:Heap}(T:Top Hd.PQa (looseW Hd.PQa []) mean mg mb h){w:World}(Y:YC w h){sc:Scope}{c2 c3 c4 c5 c6 d2 d3 d4 d5 d6 d7 d8 d9:Pos}{kd:Nat}
  (bi:mg (Str.ofString "isinstance")=none∧mb (Str.ofString "isinstance")=some (.builtin "isinstance"))
  (le:sc.names.lookup (Str.ofString "e")=some .local) (gi:okGlob sc "isinstance"=true) (gO:okGlob sc "OutOfPlace"=true) (gB:okGlob sc "BadJob"=true) (gN:okGlob sc "NoRow"=true) (gM:okGlob sc "TooMany"=true):
  TE3 ⟨prog,w,h,mg,mb,T.g,T.b,T.nolimit⟩ sc (Str.ofString "e") 61
   (.BoolOp .Or [.UnaryOp .Not (.Call (.Name (Str.ofString "isinstance") c2) [.Name (Str.ofString "e") c3,.Name (Str.ofString "OutOfPlace") c4] [] c5) c6,
    .Call (.Name (Str.ofString "isinstance") d2) [.Name (Str.ofString "e") d3,.Tuple [.Name (Str.ofString "BadJob") d4,.Name (Str.ofString "NoRow") d5,.Name (Str.ofString "TooMany") d6] kd d7] [] d8] d9) false:=by
 have bx:BName ⟨prog,w,h,mg,mb,T.g,T.b,T.nolimit⟩ sc (Str.ofString "isinstance") (.builtin "isinstance"):=⟨cq gi,cr gi,bi.1,bi.2⟩
 have de:(Str.ofString "e"==("__debug__":Str))=false:=by decide +kernel
 have qO:=GQ (prog:=prog) T w Y
 exact TE3.or (pos:=d9) (TE3.not (pos:=c6) (TE3.of qO (TE.isi (C:=61) (mro:=lh) (p:=c2) (q:=c3) (r:=c4) (pos:=c5) le de bx (mP (prog:=prog) T w Y) (cq gO) (cr gO) (fun _ _=>rfl))))
  (TE3.or (TE3.isi3 (p:=d2) (q:=d3) (r1:=d4) (r2:=d5) (r3:=d6) (tp:=d7) (pos:=d8) (kd:=kd) qO le de bx (mO (prog:=prog) T w Y) (GP (prog:=prog) T w Y) (pk (prog:=prog) T w Y) gB gN gM (fun _ _=>rfl)) TE3.or_nil)
set_option maxHeartbeats 4000000
section
variable {prog:Program} {mean:ExcName->Option Value} {mg mb:Str->Option Value} {h:Heap} (T:Top Hd.PQa (looseW Hd.PQa []) mean mg mb h) (w:World)
include T
theorem iP:mg (Str.ofString "isinstance")=none∧mb (Str.ofString "isinstance")=some (.builtin "isinstance"):=ge T (by decide +kernel) (by kernel_rfl)
theorem xS:mg (Str.ofString "int")=none∧mb (Str.ofString "int")=some (.type "int"):=ge T (by decide +kernel) (by kernel_rfl)
theorem xT:mg (Str.ofString "bool")=none∧mb (Str.ofString "bool")=some (.type "bool"):=ge T (by decide +kernel) (by kernel_rfl)
theorem dG:mg (Str.ofString "len")=none∧mb (Str.ofString "len")=some (.builtin "len"):=ge T (by decide +kernel) (by kernel_rfl)
theorem sw:mg (Str.ofString "tuple")=none∧mb (Str.ofString "tuple")=some (.type "tuple"):=ge T (by decide +kernel) (by kernel_rfl)
theorem lk:mg (Str.ofString "range")=none∧mb (Str.ofString "range")=some (.type "range"):=ge T (by decide +kernel) (by kernel_rfl)
theorem xU:mg (Str.ofString "min")=none∧mb (Str.ofString "min")=some (.builtin "min"):=ge T (by decide +kernel) (by kernel_rfl)
theorem xV:mg (Str.ofString "sum")=none∧mb (Str.ofString "sum")=some (.builtin "sum"):=ge T (by decide +kernel) (by kernel_rfl)
theorem GY:mg (Str.ofString "sorted")=none∧mb (Str.ofString "sorted")=some (.builtin "sorted"):=ge T (by decide +kernel) (by kernel_rfl)
theorem GZ:mg (Str.ofString "reversed")=none∧mb (Str.ofString "reversed")=some (.type "reversed"):=ge T (by decide +kernel) (by kernel_rfl)
theorem sy:mg (Str.ofString "list")=none∧mb (Str.ofString "list")=some (.type "list"):=ge T (by decide +kernel) (by kernel_rfl)
theorem sz:∃t,mg (Str.ofString "LIMIT")=some (.int 60 t):=yx T (by kernel_rfl)
theorem G0:dQ ⟨prog,w,h,mg,mb,T.g,T.b,T.nolimit⟩ 2 "whole" lQ:=by
 have b_isinstance:=iP T
 have b_int:=xS T
 have b_bool:=xT T
 exact eg T (names:=["thing"]) 0 rfl rfl (by intro _ _ _ vals hv;obtain⟨v0,rfl⟩:=eH hv;rfl) (by decide +kernel) (by decide +kernel) (aD (cc (jR (g8 (by decide +kernel) b_isinstance b_int (by decide +kernel) (by decide +kernel) (fun _ _=>rfl) rV) (jQ (tv (g8 (by decide +kernel) b_isinstance b_bool (by decide +kernel) (by decide +kernel) (fun _ _=>rfl) rV))))) <|
 aM)
theorem sB:dQ ⟨prog,w,h,mg,mb,T.g,T.b,T.nolimit⟩ 3 "sound" fL:=by
 obtain⟨a_whole,g_whole,f_whole⟩:=G0 (prog:=prog) T w
 have b_len:=dG T
 have b_isinstance:=iP T
 have b_tuple:=sw T
 exact eg T (names:=["job"]) 1 rfl rfl (by intro _ _ _ vals hv;obtain⟨v0,rfl⟩:=eH hv;rfl) (by decide +kernel) (by decide +kernel) (aD (cS (bd (cR (dB (fun _ _=>rfl) (g8 (by decide +kernel) b_isinstance b_tuple (by decide +kernel) (by decide +kernel) (fun _ _=>rfl) rV))) (bd (aO c7 rfl (b9 cz b_len (by decide +kernel) (fun _ _=>rfl) (fun _=>rfl) (ai rV aw)) rI) dA)) (aD (cc rB) <|
  aM) aM) <|
 aD (jS rfl (by decide +kernel) (fun _ _=>rfl) (eY rfl rV) (aD (cS (bd (cR (dB (fun _ _=>rfl) (bo f_whole g_whole (by decide +kernel) (by decide +kernel) (fun _ _=>rfl) (ai rV aw)))) (bd (aO d0 rfl rV rI) (bd (aO i0 rfl rV (aI pw rI rI)) dA))) (aD (cc rB) <|
   aM) aM) <|
  aM)) <|
 aD (cc (jR (i6 i0 rfl (aA rV rI) rI) (jQ (i6 fZ rfl (aA rV rI) (aA rV rI))))) <|
 aM)
theorem G1:dQ ⟨prog,w,h,mg,mb,T.g,T.b,T.nolimit⟩ 4 "check" pY:=by
 obtain⟨a_sound,g_sound,f_sound⟩:=sB (prog:=prog) T w
 have b_len:=dG T
 have c_LIMIT:=sz T
 exact eg T (names:=["jobs"]) 2 rfl rfl (by intro _ _ _ vals hv;obtain⟨v0,rfl⟩:=eH hv;rfl) (by decide +kernel) (by decide +kernel) (aD (cS (aO fZ rfl (b9 cz b_len (by decide +kernel) (fun _ _=>rfl) (fun _=>rfl) (ai rV aw)) (pz (by decide +kernel) c_LIMIT)) (aD pB <|
  aM) aM) <|
 aD (jS rfl (by decide +kernel) (fun _ _=>rfl) (eY rfl rV) (aD (cS (cR (dB (fun _ _=>rfl) (bo f_sound g_sound (by decide +kernel) (by decide +kernel) (fun _ _=>rfl) (ai rV aw)))) (aD pB <|
   aM) aM) <|
  aM)) <|
 aM)
theorem G2:dQ ⟨prog,w,h,mg,mb,T.g,T.b,T.nolimit⟩ 2 "first_due" pZ:=by
 have b_range:=lk T
 have b_len:=dG T
 exact eg T (names:=["jobs","left","time"]) 3 rfl rfl (by intro _ _ _ vals hv;obtain⟨v0,v1,v2,rfl⟩:=i8 hv;rfl) (by decide +kernel) (by decide +kernel) (aD (a7 rN) <|
 aD (jS rfl (by decide +kernel) (fun _ _=>rfl) (i7 b_range (by decide +kernel) (fun _ _=>rfl) rfl (b9 cz b_len (by decide +kernel) (fun _ _=>rfl) (fun _=>rfl) (ai rV aw))) (aD (cS (gd (aO fZ rfl (aA rV rV) rI) (gd (aO gX rfl (aA (aA rV rV) rI) rV) lB)) (aD (cS (bd (aO jM rfl rV rN) (bd (aO d0 rfl (aA (aA rV rV) rI) (aA (aA rV rV) rI)) dA)) (aD (a7 rV) <|
    aM) aM) <|
   aM) aM) <|
  aM)) <|
 aD (cc rV) <|
 aM)
theorem G3:dQ ⟨prog,w,h,mg,mb,T.g,T.b,T.nolimit⟩ 2 "next_come" qc:=by
 have b_range:=lk T
 have b_len:=dG T
 have b_min:=xU T
 exact eg T (names:=["jobs","left","time"]) 4 rfl rfl (by intro _ _ _ vals hv;obtain⟨v0,v1,v2,rfl⟩:=i8 hv;rfl) (by decide +kernel) (by decide +kernel) (aD (pD (by decide +kernel) rfl (by decide +kernel) (fun _ _=>rfl) (i7 b_range (by decide +kernel) (fun _ _=>rfl) rfl (b9 cz b_len (by decide +kernel) (fun _ _=>rfl) (fun _=>rfl) (ai rV aw))) (na (aO fZ rfl (aA rV rV) rI)) (aA (aA rV rV) rI)) <|
 aD (cc (yr b_min (by decide +kernel) (fun _ _=>rfl) (rL (pA rfl (by decide +kernel) (fun _ _=>rfl) (eY rfl rV) (na (aO fZ rfl rV rV)) rV)))) <|
 aM)
theorem G4:pQ ⟨prog,w,h,mg,mb,T.g,T.b,T.nolimit⟩ 2 "put" lR:=by
 exact tO T (names:=["pieces","place","begin","end"]) 5 rfl rfl (by intro _ _ _ vals hv;obtain⟨v0,v1,v2,v3,rfl⟩:=pE hv;rfl) (by decide +kernel) (by decide +kernel) (aD (cS (gd (aO c7 rfl rV (rL (dj aw))) (gd (aO ee rfl (aA (aA rV (m9 rI)) rI) rV) (gd (aO ee rfl (aA (aA rV (m9 rI)) rI) rV) lB))) (aD (S1.retF (eX (rL (eW rV fG (eG (m9 rI)))) (rL (dj (ai (b6 (ai rV (ai (aA (aA rV (m9 rI)) rI) (ai rV aw)))) aw))))) <|
  aM) aM) <|
 aD (S1.retF (eX rV (rL (dj (ai (b6 (ai rV (ai rV (ai rV aw)))) aw))))) <|
 aM)
theorem mQ:pQ ⟨prog,w,h,mg,mb,T.g,T.b,T.nolimit⟩ 5 "run" jk:=by
 obtain⟨a_check,g_check,f_check⟩:=G1 (prog:=prog) T w
 obtain⟨a_first_due,g_first_due,f_first_due⟩:=G2 (prog:=prog) T w
 obtain⟨a_next_come,g_next_come,f_next_come⟩:=G3 (prog:=prog) T w
 obtain⟨a_put,g_put,f_put⟩:=G4 (prog:=prog) T w
 have h_put:FnOk ⟨prog,w,h,mg,mb,T.g,T.b,T.nolimit⟩ 2 a_put zw:=f_put.ok
 have b_sum:=xV T
 exact tO T (names:=["jobs"]) 6 rfl rfl (by intro _ _ _ vals hv;obtain⟨v0,rfl⟩:=eH hv;rfl) (by decide +kernel) (by decide +kernel) (aD (yv (fun _=>rfl) (bo f_check g_check (by decide +kernel) (by decide +kernel) (fun _ _=>rfl) (ai rV aw))) <|
 aD (pC (by decide +kernel) rfl (by decide +kernel) (fun _ _=>rfl) (eY rfl rV) lD (aA rV rI)) <|
 aD (lE (by decide +kernel) (fun _ _ _ _=>rfl) (dj aw)) <|
 aD (a7 rI) <|
 aD (yw 100000 (aO fZ rfl (b9 tj b_sum (by decide +kernel) (fun _ _=>rfl) (fun _=>rfl) (ai rV aw)) rI) (aD (a7 (bo f_first_due g_first_due (by decide +kernel) (by decide +kernel) (fun _ _=>rfl) (ai rV (ai rV (ai rV aw))))) <|
  aD (a7 (bo f_next_come g_next_come (by decide +kernel) (by decide +kernel) (fun _ _=>rfl) (ai rV (ai rV (ai rV aw))))) <|
  aD (cS (aO jM rfl rV rN) (aD (a7 rV) <|
   aM) (aD (a7 (aI du rV (aA rV rV))) <|
   aD (cS (gd (aO px rfl rV rN) (gd (aO d0 rfl rV rV) lB)) (aD (a7 rV) <|
    aM) aM) <|
   aD (lE (by decide +kernel) (fun _ _ _ _=>rfl) (cF f_put g_put (by decide +kernel) (by decide +kernel) (fun _ _=>rfl) (ai rV (ai rV (ai rV (ai rV aw)))))) <|
   aD (nf (by decide +kernel) (fun _=>rfl) rV (aI iY (aA rV rV) (aI iY rV rV))) <|
   aD (a7 rV) <|
   aM)) <|
  aM)) <|
 aD (S1.retO (by decide +kernel)) <|
 aM)
theorem G5:dQ ⟨prog,w,h,mg,mb,T.g,T.b,T.nolimit⟩ 6 "ends" qe:=by
 obtain⟨a_run,g_run,f_run⟩:=mQ (prog:=prog) T w
 have h_run:FnOk ⟨prog,w,h,mg,mb,T.g,T.b,T.nolimit⟩ 5 a_run fM:=f_run.ok
 exact eg T (names:=["jobs"]) 7 rfl rfl (by intro _ _ _ vals hv;obtain⟨v0,rfl⟩:=eH hv;rfl) (by decide +kernel) (by decide +kernel) (aD (pC (by decide +kernel) rfl (by decide +kernel) (fun _ _=>rfl) (eY rfl rV) lD rI) <|
 aD (jS rfl (by decide +kernel) (fun _ _=>rfl) (eY rfl (bo h_run g_run (by decide +kernel) (by decide +kernel) (fun _ _=>rfl) (ai rV aw))) (aD (nf (by decide +kernel) (fun _=>rfl) (aA rV rI) (aA rV rI)) <|
  aM)) <|
 aD (yu (by decide +kernel)) <|
 aM)
theorem G6:dQ ⟨prog,w,h,mg,mb,T.g,T.b,T.nolimit⟩ 7 "late" qf:=by
 obtain⟨a_ends,g_ends,f_ends⟩:=G5 (prog:=prog) T w
 have b_range:=lk T
 have b_len:=dG T
 have b_sorted:=GY T
 exact eg T (names:=["jobs"]) 8 rfl rfl (by intro _ _ _ vals hv;obtain⟨v0,rfl⟩:=eH hv;rfl) (by decide +kernel) (by decide +kernel) (aD (a7 (bo f_ends g_ends (by decide +kernel) (by decide +kernel) (fun _ _=>rfl) (ai rV aw))) <|
 aD (pD (by decide +kernel) rfl (by decide +kernel) (fun _ _=>rfl) (i7 b_range (by decide +kernel) (fun _ _=>rfl) rfl (b9 cz b_len (by decide +kernel) (fun _ _=>rfl) (fun _=>rfl) (ai rV aw))) (na (aO fZ rfl (aA rV rV) (aA (aA rV rV) rI))) (b6 (ai (aA (aA rV rV) rI) (ai rV aw)))) <|
 aD (cc (rL (pA rfl (by decide +kernel) (fun _ _=>rfl) (eY rfl (rL (zv b_sorted (by decide +kernel) (fun _ _=>rfl) rV))) lD (aA rV rI)))) <|
 aM)
theorem G7:dQ ⟨prog,w,h,mg,mb,T.g,T.b,T.nolimit⟩ 2 "busy_since" qg:=by
 have b_reversed:=GZ T
 have b_min:=xU T
 exact eg T (names:=["jobs","pieces","end"]) 9 rfl rfl (by intro _ _ _ vals hv;obtain⟨v0,v1,v2,rfl⟩:=i8 hv;rfl) (by decide +kernel) (by decide +kernel) (aD (a7 rV) <|
 aD (jS rfl (by decide +kernel) (fun _ _=>rfl) (yy b_reversed (by decide +kernel) (fun _ _=>rfl) rfl rV) (aD (cS (aO d0 rfl (aA rV rI) rV) (aD (cS (bd (aO d0 rfl (b9 yh b_min (by decide +kernel) (fun _ _=>rfl) (fun _=>rfl) (ai (aA rV rI) (ai rV aw))) rV) (bd (aO fZ rfl (aA (aA rV (aA rV rI)) rI) rV) dA)) (aD (cc rV) <|
    aM) aM) <|
   aD (a7 (aA rV rI)) <|
   aM) aM) <|
  aM)) <|
 aD (cc rV) <|
 aM)
theorem sC:dQ ⟨prog,w,h,mg,mb,T.g,T.b,T.nolimit⟩ 8 "answer" fN:=by
 obtain⟨a_late,g_late,f_late⟩:=G6 (prog:=prog) T w
 obtain⟨a_busy_since,g_busy_since,f_busy_since⟩:=G7 (prog:=prog) T w
 obtain⟨a_run,g_run,f_run⟩:=mQ (prog:=prog) T w
 have h_run:FnOk ⟨prog,w,h,mg,mb,T.g,T.b,T.nolimit⟩ 5 a_run fM:=f_run.ok
 exact eg T (names:=["jobs"]) 10 rfl rfl (by intro _ _ _ vals hv;obtain⟨v0,rfl⟩:=eH hv;rfl) (by decide +kernel) (by decide +kernel) (aD (a7 (bo h_run g_run (by decide +kernel) (by decide +kernel) (fun _ _=>rfl) (ai rV aw))) <|
 aD (a7 (bo f_late g_late (by decide +kernel) (by decide +kernel) (fun _ _=>rfl) (ai rV aw))) <|
 aD (cS (aO ee rfl rV (rL (dj aw))) (aD (cc (b6 (ai rS (ai rV aw)))) <|
  aM) aM) <|
 aD (a7 (aA rV rI)) <|
 aD (a7 (aA (aA rV rV) rI)) <|
 aD (cc (b6 (ai rS (ai rV (ai (bo f_busy_since g_busy_since (by decide +kernel) (by decide +kernel) (fun _ _=>rfl) (ai rV (ai rV (ai rV aw)))) (ai rV aw)))))) <|
 aM)
theorem xW:dQ ⟨prog,w,h,mg,mb,T.g,T.b,T.nolimit⟩ 2 "_law_whole" iv:=by
 have b_isinstance:=iP T
 have b_int:=xS T
 have b_bool:=xT T
 exact eg T (names:=["_law_found"]) 11 rfl rfl (by intro _ _ _ vals hv;obtain⟨v0,rfl⟩:=eH hv;rfl) (by decide +kernel) (by decide +kernel) (aD (cc (jR (g8 (by decide +kernel) b_isinstance b_int (by decide +kernel) (by decide +kernel) (fun _ _=>rfl) rV) (jQ (tv (g8 (by decide +kernel) b_isinstance b_bool (by decide +kernel) (by decide +kernel) (fun _ _=>rfl) rV))))) <|
 aM)
theorem G8:dQ ⟨prog,w,h,mg,mb,T.g,T.b,T.nolimit⟩ 2 "_law_cell_at" em:=by
 have b_len:=dG T
 exact eg T (names:=["_law_script","_law_k"]) 12 rfl rfl (by intro _ _ _ vals hv;obtain⟨v0,v1,rfl⟩:=il hv;rfl) (by decide +kernel) (by decide +kernel) (aD (cS (aO d0 rfl rV (b9 cz b_len (by decide +kernel) (fun _ _=>rfl) (fun _=>rfl) (ai rV aw))) (aD (cc (aA rV rV)) <|
  aM) aM) <|
 aD (cc rI) <|
 aM)
theorem G9:dQ ⟨prog,w,h,mg,mb,T.g,T.b,T.nolimit⟩ 2 "_law_load" qi:=by
 have b_sum:=xV T
 exact eg T (names:=["_law_jobs","_law_begin","_law_end"]) 13 rfl rfl (by intro _ _ _ vals hv;obtain⟨v0,v1,v2,rfl⟩:=i8 hv;rfl) (by decide +kernel) (by decide +kernel) (aD (cc (b9 tj b_sum (by decide +kernel) (fun _ _=>rfl) (fun _=>rfl) (ai (rL (pA rfl (by decide +kernel) (fun _ _=>rfl) (eY rfl rV) (na (gd (aO i0 rfl (aA rV rI) rV) (gd (aO gX rfl (aA rV rI) rV) lB))) (aA rV rI))) aw))) <|
 aM)
theorem HA:dQ ⟨prog,w,h,mg,mb,T.g,T.b,T.nolimit⟩ 3 "_law_triple" qj:=by
 obtain⟨a_law_whole,g_law_whole,f_law_whole⟩:=xW (prog:=prog) T w
 have b_len:=dG T
 have b_isinstance:=iP T
 have b_tuple:=sw T
 exact eg T (names:=["_law_piece"]) 14 rfl rfl (by intro _ _ _ vals hv;obtain⟨v0,rfl⟩:=eH hv;rfl) (by decide +kernel) (by decide +kernel) (aD (cS (bd (cR (dB (fun _ _=>rfl) (g8 (by decide +kernel) b_isinstance b_tuple (by decide +kernel) (by decide +kernel) (fun _ _=>rfl) rV))) (bd (aO c7 rfl (b9 cz b_len (by decide +kernel) (fun _ _=>rfl) (fun _=>rfl) (ai rV aw)) rI) dA)) (aD (cc rB) <|
  aM) aM) <|
 aD (cc (jR (bo f_law_whole g_law_whole (by decide +kernel) (by decide +kernel) (fun _ _=>rfl) (ai (aA rV rI) aw)) (jR (bo f_law_whole g_law_whole (by decide +kernel) (by decide +kernel) (fun _ _=>rfl) (ai (aA rV rI) aw)) (jQ (bo f_law_whole g_law_whole (by decide +kernel) (by decide +kernel) (fun _ _=>rfl) (ai (aA rV rI) aw)))))) <|
 aM)
theorem xX:dQ ⟨prog,w,h,mg,mb,T.g,T.b,T.nolimit⟩ 4 "_law_meets" j4:=by
 obtain⟨a_law_triple,g_law_triple,f_law_triple⟩:=HA (prog:=prog) T w
 have b_isinstance:=iP T
 have b_list:=sy T
 have b_len:=dG T
 exact eg T (names:=["_law_jobs","_law_pieces"]) 15 rfl rfl (by intro _ _ _ vals hv;obtain⟨v0,v1,rfl⟩:=il hv;rfl) (by decide +kernel) (by decide +kernel) (aD (pC (by decide +kernel) rfl (by decide +kernel) (fun _ _=>rfl) (eY rfl rV) lD (aA rV rI)) <|
 aD (a7 rI) <|
 aD (cS (cR (dB (fun _ _=>rfl) (g8 (by decide +kernel) b_isinstance b_list (by decide +kernel) (by decide +kernel) (fun _ _=>rfl) rV))) (aD (cc rB) <|
  aM) aM) <|
 aD (jS rfl (by decide +kernel) (fun _ _=>rfl) (eY rfl rV) (aD (cS (bd (cR (dB (fun _ _=>rfl) (bo f_law_triple g_law_triple (by decide +kernel) (by decide +kernel) (fun _ _=>rfl) (ai rV aw)))) (bd (cR (jN gX d0 rfl rI (aA rV rI) (b9 cz b_len (by decide +kernel) (fun _ _=>rfl) (fun _=>rfl) (ai rV aw)))) (bd (cR (jN gX d0 rfl rV (aA rV rI) (aA rV rI))) dA))) (aD (cc rB) <|
   aM) aM) <|
  aD (cS (bd (aO d0 rfl (aA rV rI) (aA (aA rV (aA rV rI)) rI)) (bd (aO fZ rfl (aA rV rI) (aA (aA rV (aA rV rI)) rI)) dA)) (aD (cc rB) <|
   aM) aM) <|
  aD (nf (by decide +kernel) (fun _=>rfl) (aA rV rI) (aI iY (aA rV (aA rV rI)) (aI iY (aA rV rI) (aA rV rI)))) <|
  aD (a7 (aA rV rI)) <|
  aM)) <|
 aD (cc (i6 ee rfl rV (rL (yt (rL (dj (ai rI aw))) (b9 cz b_len (by decide +kernel) (fun _ _=>rfl) (fun _=>rfl) (ai rV aw)))))) <|
 aM)
theorem HC:dQ ⟨prog,w,h,mg,mb,T.g,T.b,T.nolimit⟩ 3 "_law_crowded" lT:=by
 obtain⟨a_law_whole,g_law_whole,f_law_whole⟩:=xW (prog:=prog) T w
 obtain⟨a_law_load,g_law_load,f_law_load⟩:=G9 (prog:=prog) T w
 have b_len:=dG T
 exact eg T (names:=["_law_jobs","_law_place","_law_begin","_law_end"]) 16 rfl rfl (by intro _ _ _ vals hv;obtain⟨v0,v1,v2,v3,rfl⟩:=pE hv;rfl) (by decide +kernel) (by decide +kernel) (aD (cS (bd (cR (dB (fun _ _=>rfl) (bo f_law_whole g_law_whole (by decide +kernel) (by decide +kernel) (fun _ _=>rfl) (ai rV aw)))) (bd (cR (dB (fun _ _=>rfl) (bo f_law_whole g_law_whole (by decide +kernel) (by decide +kernel) (fun _ _=>rfl) (ai rV aw)))) (bd (cR (dB (fun _ _=>rfl) (bo f_law_whole g_law_whole (by decide +kernel) (by decide +kernel) (fun _ _=>rfl) (ai rV aw)))) dA))) (aD (cc rB) <|
  aM) aM) <|
 aD (cS (bd (cR (jN gX d0 rfl rI rV (b9 cz b_len (by decide +kernel) (fun _ _=>rfl) (fun _=>rfl) (ai rV aw)))) (bd (cR (jN gX gX rfl rI rV (aA (aA rV rV) rI))) (bd (aO c7 rfl rV (aA (aA rV rV) rI)) dA))) (aD (cc rB) <|
  aM) aM) <|
 aD (cc (i6 fZ rfl (bo f_law_load g_law_load (by decide +kernel) (by decide +kernel) (fun _ _=>rfl) (ai rV (ai rV (ai rV aw)))) (aI iY rV rV))) <|
 aM)
theorem sD(Y:YC w h):FnB ⟨prog,w,h,mg,mb,T.g,T.b,T.nolimit⟩ 9 165 dC:=by
 obtain⟨a_sound,g_sound,f_sound⟩:=sB (prog:=prog) T w
 obtain⟨a_answer,g_answer,f_answer⟩:=sC (prog:=prog) T w
 have bX:=gx (prog:=prog) T w Y
 have b_len:=dG T
 have c_LIMIT:=sz T
 have xc_BadJob:=mO (prog:=prog) T w Y
 have xc_TooMany:=pk (prog:=prog) T w Y
 exact xP T (xN w) rfl Y (by decide +kernel) (BS.cons (B1.ite (STb.of (cR (dB (fun _ _=>rfl) (bo f_sound g_sound (by decide +kernel) (by decide +kernel) (fun _ _=>rfl) (ai rV aw))))) (BS.cons B1.no <|
  BS.nil) (BS.nil)) <|
 BS.cons (B1.ite (STb.of (aO i0 rfl (b9 cz b_len (by decide +kernel) (fun _ _=>rfl) (fun _=>rfl) (ai (SE.held bX rV) aw)) (pz (by decide +kernel) c_LIMIT))) (BS.cons B1.no <|
  BS.nil) (BS.nil)) <|
 BS.cons (B1.of (a7 (rL (eX (SE.held bX rV) (rL (dj (ai rV aw)))))) ct) <|
 BS.cons (B1.of (a7 (bo f_answer g_answer (by decide +kernel) (by decide +kernel) (fun _ _=>rfl) (ai rV aw))) ct) <|
 BS.cons (B1.ite (STb.of (aO ee rfl (aA rV rI) rS)) (BS.cons (B1.setHeld bX (fun _=>rfl) rV rV) <|
  BS.cons (B1.ret (SEb.of rN)) <|
  BS.nil) (BS.nil)) <|
 BS.cons (B1.ret (SEb.of (b6 (ai (aA rV rI) (ai (aA rV rI) (ai (aA rV rI) aw)))))) <|
 BS.nil)
theorem xY(Y:YC w h):XFnB ⟨prog,w,h,mg,mb,T.g,T.b,T.nolimit⟩ 9 165 gF:=by
 obtain⟨a_sound,g_sound,f_sound⟩:=sB (prog:=prog) T w
 obtain⟨a_answer,g_answer,f_answer⟩:=sC (prog:=prog) T w
 have bX:=gx (prog:=prog) T w Y
 have b_len:=dG T
 have c_LIMIT:=sz T
 have xc_BadJob:=mO (prog:=prog) T w Y
 have xc_TooMany:=pk (prog:=prog) T w Y
 exact xQ T (xN w) rfl Y (by decide +kernel) (XS.cons (X1.ite (cR (dB (fun _ _=>rfl) (bo f_sound g_sound (by decide +kernel) (by decide +kernel) (fun _ _=>rfl) (ai rV aw)))) (XS.last (pJ xc_BadJob (by decide +kernel))) pI) (cS (cR (dB (fun _ _=>rfl) (bo f_sound g_sound (by decide +kernel) (by decide +kernel) (fun _ _=>rfl) (ai rV aw)))) (aD pB <|
  aM) aM) (XS.last (X1.ite (aO i0 rfl (b9 cz b_len (by decide +kernel) (fun _ _=>rfl) (fun _=>rfl) (ai (SE.held bX rV) aw)) (pz (by decide +kernel) c_LIMIT)) (XS.last (pJ xc_TooMany (by decide +kernel))) pI)))
theorem sG(Y:YC w h):lM ⟨prog,w,h,mg,mb,T.g,T.b,T.nolimit⟩ 10 "_law_taken" eO:=by
 obtain⟨a_answer,g_answer,f_answer⟩:=sC (prog:=prog) T w
 obtain⟨a_law_crowded,g_law_crowded,f_law_crowded⟩:=HC (prog:=prog) T w
 have bX:=gx (prog:=prog) T w Y
 have fm_take:=sD (prog:=prog) T w Y
 have b_len:=dG T
 have b_isinstance:=iP T
 have b_tuple:=sw T
 exact nu T (names:=["_law_book","_law_held","_law_job"]) 19 rfl rfl (by intro _ _ _ vals hv;obtain⟨v0,v1,v2,rfl⟩:=i8 hv;rfl) (by decide +kernel) (by decide +kernel) (BS.cons (B1.assign (by decide +kernel) (fun _ _ _ _=>rfl) (SEb.meth bX (gT w) fm_take (by decide +kernel) (fun _=>⟨_,rfl⟩) (fun _ _=>rfl) rV rV)) <|
 BS.cons (B1.ite (STb.of (aO jM rfl rV rN)) (BS.cons (B1.ret (SEb.of (rL (eX rV (rL (dj (ai rV aw))))))) <|
  BS.nil) (BS.nil)) <|
 BS.cons (B1.ite (STb.of (bd (cR (dB (fun _ _=>rfl) (g8 (by decide +kernel) b_isinstance b_tuple (by decide +kernel) (by decide +kernel) (fun _ _=>rfl) rV))) (bd (aO c7 rfl (b9 cz b_len (by decide +kernel) (fun _ _=>rfl) (fun _=>rfl) (ai rV aw)) rI) dA))) (BS.cons (B1.ret (SEb.of rN)) <|
  BS.nil) (BS.nil)) <|
 BS.cons (B1.ite (STb.of (aO c7 rfl (bo f_answer g_answer (by decide +kernel) (by decide +kernel) (fun _ _=>rfl) (ai (rL (eX rV (rL (dj (ai rV aw))))) aw)) (b6 (ai rS (ai (aA rV rI) (ai (aA rV rI) (ai (aA rV rI) aw))))))) (BS.cons (B1.ret (SEb.of rN)) <|
  BS.nil) (BS.nil)) <|
 BS.cons (B1.ret (SEb.of (tw (dB (fun _ _=>rfl) (bo f_law_crowded g_law_crowded (by decide +kernel) (by decide +kernel) (fun _ _=>rfl) (ai (rL (eX rV (rL (dj (ai rV aw))))) (ai (aA rV rI) (ai (aA rV rI) (ai (aA rV rI) aw)))))) rV rN))) <|
 BS.nil)
theorem sH(Y:YC w h):FnB ⟨prog,w,h,mg,mb,T.g,T.b,T.nolimit⟩ 2 172 dD:=by
 have bX:=gx (prog:=prog) T w Y
 have b_len:=dG T
 have xc_OutOfPlace:=mP (prog:=prog) T w Y
 exact xP T (xO w) rfl Y (by decide +kernel) (BS.cons (B1.ite (STb.of (bd (aO d0 rfl rV rI) (bd (aO i0 rfl rV (b9 cz b_len (by decide +kernel) (fun _ _=>rfl) (fun _=>rfl) (ai (SE.held bX rV) aw))) dA))) (BS.cons B1.no <|
  BS.nil) (BS.nil)) <|
 BS.cons (B1.of (a7 (aA (SE.held bX rV) rV)) ct) <|
 BS.cons (B1.setHeld bX (fun _=>rfl) rV (rL (eX (rL (eW (SE.held bX rV) fG (eG rV))) (rL (eW (SE.held bX rV) (eG (aI du rV rI)) fG))))) <|
 BS.cons (B1.ret (SEb.of rV)) <|
 BS.nil)
theorem HD(Y:YC w h):XFnB ⟨prog,w,h,mg,mb,T.g,T.b,T.nolimit⟩ 2 172 j5:=by
 have bX:=gx (prog:=prog) T w Y
 have b_len:=dG T
 have xc_OutOfPlace:=mP (prog:=prog) T w Y
 exact xQ T (xO w) rfl Y (by decide +kernel) (XS.last (X1.ite (bd (aO d0 rfl rV rI) (bd (aO i0 rfl rV (b9 cz b_len (by decide +kernel) (fun _ _=>rfl) (fun _=>rfl) (ai (SE.held bX rV) aw))) dA)) (XS.last (pJ xc_OutOfPlace (by decide +kernel))) pI))
theorem sJ(Y:YC w h):FnR ⟨prog,w,h,mg,mb,T.g,T.b,T.nolimit⟩ 2 179 gG:=by
 have bX:=gx (prog:=prog) T w Y
 have b_list:=sy T
 exact xR T (GT w) rfl Y (by decide +kernel) (aD (S1.retF (lC b_list (by decide +kernel) (fun _ _=>rfl) (SE.held bX rV))) <|
 aM)
theorem sK(Y:YC w h):FnR ⟨prog,w,h,mg,mb,T.g,T.b,T.nolimit⟩ 6 186 iw:=by
 obtain⟨a_run,g_run,f_run⟩:=mQ (prog:=prog) T w
 have h_run:FnOk ⟨prog,w,h,mg,mb,T.g,T.b,T.nolimit⟩ 5 a_run fM:=f_run.ok
 have bX:=gx (prog:=prog) T w Y
 exact xR T (GU w) rfl Y (by decide +kernel) (aD (S1.retF (cF f_run g_run (by decide +kernel) (by decide +kernel) (fun _ _=>rfl) (ai (SE.held bX rV) aw))) <|
 aM)
theorem HE(Y:YC w h):lM ⟨prog,w,h,mg,mb,T.g,T.b,T.nolimit⟩ 11 "_law_full" g9:=by
 obtain⟨a_run,g_run,f_run⟩:=mQ (prog:=prog) T w
 have h_run:FnOk ⟨prog,w,h,mg,mb,T.g,T.b,T.nolimit⟩ 5 a_run fM:=f_run.ok
 obtain⟨a_law_taken,g_law_taken,f_law_taken⟩:=sG (prog:=prog) T w Y
 have bX:=gx (prog:=prog) T w Y
 have fm_take:=sD (prog:=prog) T w Y
 have fm_drop:=sH (prog:=prog) T w Y
 have fm_listed:=sJ (prog:=prog) T w Y
 have fm_plan:=sK (prog:=prog) T w Y
 have fx_take:=xY (prog:=prog) T w Y
 have b_range:=lk T
 have b_len:=dG T
 have xc_BadJob:=mO (prog:=prog) T w Y
 have xc_TooMany:=pk (prog:=prog) T w Y
 exact nu T (names:=["_law_book","_law_place"]) 20 rfl rfl (by intro _ _ _ vals hv;obtain⟨v0,v1,rfl⟩:=il hv;rfl) (by decide +kernel) (by decide +kernel) (BS.cons (jV rfl (by decide +kernel) (fun _ _=>rfl) (i7 b_range (by decide +kernel) (fun _ _=>rfl) rfl rI) (BS.cons (B1.ite (STb.cmp px (SEb.meth bX (gT w) fm_take (by decide +kernel) (fun _=>⟨_,rfl⟩) (fun _ _=>rfl) rV (b6 (ai rV (ai rI (ai rI aw))))) rN rfl) (BS.cons (B1.ret (SEb.of rB)) <|
   BS.nil) (BS.nil)) <|
  BS.nil)) <|
 BS.cons (B1.of (a7 rS) ct) <|
 BS.cons (jV rfl (by decide +kernel) (fun _ _=>rfl) (eY rfl (rL (dj (ai (b6 (ai rI (ai rI (ai rI aw)))) (ai (b6 (ai rI (ai rI (ai rI aw)))) (ai (b6 (ai rI (ai rI (ai rI aw)))) aw)))))) (BS.cons (B1.try (XE.meth bX (gT w) fx_take (by decide +kernel) (fun _=>⟨_,rfl⟩) (fun _ _=>rfl) rV rV) (B1.expr (fun _=>rfl) (SEb.meth bX (gT w) fm_take (by decide +kernel) (fun _=>⟨_,rfl⟩) (fun _ _=>rfl) rV rV)) (pR (fun _=>rfl)) (fun c m e=>by
   unfold j6 at e
   by_cases z0:c="BadJob"
   .subst z0;rw[if_pos rfl] at e;cases e;exact⟨_,_,xc_BadJob,(HB.skip xc_BadJob xc_TooMany (by decide +kernel) rfl (HB.here xc_BadJob xc_BadJob (by decide +kernel) rfl (BS.cons (B1.of (a7 (aI tQ rV rS)) ct) <|
    BS.nil)))⟩
   by_cases z1:c="TooMany"
   .subst z1;rw[if_neg (by decide)] at e;rw[if_pos rfl] at e;cases e;exact⟨_,_,xc_TooMany,(HB.here xc_TooMany xc_TooMany (by decide +kernel) rfl (BS.cons (B1.of (a7 (aI tQ rV rS)) ct) <|
    BS.nil))⟩
   rw[if_neg z0,if_neg z1] at e;cases e)) <|
  BS.nil)) <|
 BS.cons (B1.of (pD (by decide +kernel) rfl (by decide +kernel) (fun _ _=>rfl) (i7 b_range (by decide +kernel) (fun _ _=>rfl) rfl rI) lD (b6 (ai rV (ai rI (ai rI aw))))) zb) <|
 BS.cons (B1.ite (STb.or (STb.of (aO c7 rfl rV rS)) (STb.or (STb.of (aO c7 rfl (rL (SF.meth bX (iO w) fm_listed (by decide +kernel) (fun _=>⟨_,rfl⟩) rV)) rV)) (STb.or (STb.cmp c7 (SEb.meth bX (jH w) fm_drop (by decide +kernel) (fun _=>⟨_,rfl⟩) (fun _ _=>rfl) rV rV) (aA rV rV) rfl) STb.or_nil))) (BS.cons (B1.ret (SEb.of rB)) <|
  BS.nil) (BS.nil)) <|
 BS.cons (B1.of (a7 (rL (eX (rL (eW rV fG (eG rV))) (rL (eW rV (eG (aI du rV rI)) fG))))) ct) <|
 BS.cons (B1.ite (STb.or (STb.cmp c7 (cB f_law_taken g_law_taken (by decide +kernel) (by decide +kernel) (fun _ _=>rfl) (ai rV (ai rV (ai (b6 (ai rI (ai rI (ai rI aw)))) aw)))) rV rfl) (STb.or (STb.cmp px (SEb.meth bX (gT w) fm_take (by decide +kernel) (fun _=>⟨_,rfl⟩) (fun _ _=>rfl) rV (b6 (ai rI (ai rI (ai rI aw))))) rN rfl) STb.or_nil)) (BS.cons (B1.ret (SEb.of rB)) <|
  BS.nil) (BS.nil)) <|
 BS.cons (B1.try (XE.meth bX (gT w) fx_take (by decide +kernel) (fun _=>⟨_,rfl⟩) (fun _ _=>rfl) rV (b6 (ai rI (ai rI (ai rI aw))))) (B1.expr (fun _=>rfl) (SEb.meth bX (gT w) fm_take (by decide +kernel) (fun _=>⟨_,rfl⟩) (fun _ _=>rfl) rV (b6 (ai rI (ai rI (ai rI aw)))))) (pR (fun _=>rfl)) (fun c m e=>by
  unfold nC at e
  by_cases z0:c="TooMany"
  .subst z0;rw[if_pos rfl] at e;cases e;exact⟨_,_,xc_TooMany,(HB.here xc_TooMany xc_TooMany (by decide +kernel) rfl (BS.cons (B1.of (a7 (rL (eX rV (rL (dj (ai (b6 (ai rI (ai rI (ai rI aw)))) aw)))))) ct) <|
   BS.nil))⟩
  rw[if_neg z0] at e;cases e)) <|
 BS.cons (B1.ite (STb.of (bd (aO d0 rfl (b9 cz b_len (by decide +kernel) (fun _ _=>rfl) (fun _=>rfl) (ai rV aw)) rI) (bd (aO c7 rfl (rL (SF.meth bX (iO w) fm_listed (by decide +kernel) (fun _=>⟨_,rfl⟩) rV)) rV) (bd (aO c7 rfl (rL (SF.meth bX (lj w) fm_plan (by decide +kernel) (fun _=>⟨_,rfl⟩) rV)) (bo h_run g_run (by decide +kernel) (by decide +kernel) (fun _ _=>rfl) (ai rV aw))) dA)))) (BS.cons (B1.ret (SEb.of rB)) <|
  BS.nil) (BS.nil)) <|
 BS.cons (B1.expr (fun _=>rfl) (SEb.meth bX (jH w) fm_drop (by decide +kernel) (fun _=>⟨_,rfl⟩) (fun _ _=>rfl) rV rI)) <|
 BS.cons (B1.expr (fun _=>rfl) (SEb.meth bX (jH w) fm_drop (by decide +kernel) (fun _=>⟨_,rfl⟩) (fun _ _=>rfl) rV rI)) <|
 BS.cons (B1.ret (SEb.and2 (SEb.cmp jM (SEb.meth bX (gT w) fm_take (by decide +kernel) (fun _=>⟨_,rfl⟩) (fun _ _=>rfl) rV (b6 (ai rI (ai rI (ai rI aw))))) rN rfl) (jQ (i6 ee rfl (rL (SF.meth bX (iO w) fm_listed (by decide +kernel) (fun _=>⟨_,rfl⟩) rV)) (rL (eX (rL (eW rV (eG rI) fG)) (rL (dj (ai (b6 (ai rI (ai rI (ai rI aw)))) aw))))))))) <|
 BS.nil)
theorem HF(Y:YC w h):lM ⟨prog,w,h,mg,mb,T.g,T.b,T.nolimit⟩ 11 "_law_many" qo:=by
 obtain⟨a_law_meets,g_law_meets,f_law_meets⟩:=xX (prog:=prog) T w
 obtain⟨a_law_taken,g_law_taken,f_law_taken⟩:=sG (prog:=prog) T w Y
 have bX:=gx (prog:=prog) T w Y
 have fm_drop:=sH (prog:=prog) T w Y
 have fm_listed:=sJ (prog:=prog) T w Y
 have fm_plan:=sK (prog:=prog) T w Y
 have b_range:=lk T
 have b_len:=dG T
 exact nu T (names:=["_law_book","_law_cell","_law_count"]) 21 rfl rfl (by intro _ _ _ vals hv;obtain⟨v0,v1,v2,rfl⟩:=i8 hv;rfl) (by decide +kernel) (by decide +kernel) (BS.cons (B1.of (a7 (rL (dj aw))) ct) <|
 BS.cons (jV rfl (by decide +kernel) (fun _ _=>rfl) (i7 b_range (by decide +kernel) (fun _ _=>rfl) rfl rV) (BS.cons (B1.of (a7 (aI cj (aI iZ (aI du (aI du rV (aI iZ rI rV)) rI) rI) rI)) ct) <|
  BS.cons (B1.of (a7 (aI cj rV rI)) ct) <|
  BS.cons (B1.of (a7 (b6 (ai rV (ai (aI du rI (aI cj (aI eF rV rI) rI)) (ai (aI du (aI du rV rI) (aI cj (aI eF rV rI) rI)) aw))))) ct) <|
  BS.cons (B1.assign (by decide +kernel) (fun _ _ _ _=>rfl) (cB f_law_taken g_law_taken (by decide +kernel) (by decide +kernel) (fun _ _=>rfl) (ai rV (ai rV (ai rV aw))))) <|
  BS.cons (B1.ite (STb.of (aO ee rfl rV rV)) (BS.cons (B1.of (a7 (aI cj (aI eF rV rI) (b9 cz b_len (by decide +kernel) (fun _ _=>rfl) (fun _=>rfl) (ai rV aw)))) ct) <|
   BS.cons (B1.ite (STb.cmp c7 (SEb.meth bX (jH w) fm_drop (by decide +kernel) (fun _=>⟨_,rfl⟩) (fun _ _=>rfl) rV rV) (aA rV rV) rfl) (BS.cons (B1.ret (SEb.of rB)) <|
    BS.nil) (BS.nil)) <|
   BS.cons (B1.assign (by decide +kernel) (fun _ _ _ _=>rfl) (cB f_law_taken g_law_taken (by decide +kernel) (by decide +kernel) (fun _ _=>rfl) (ai rV (ai (rL (eX (rL (eW rV fG (eG rV))) (rL (eW rV (eG (aI du rV rI)) fG)))) (ai rV aw))))) <|
   BS.nil) (BS.nil)) <|
  BS.cons (B1.ite (STb.of (bd (aO jM rfl rV rN) (bd (aO c7 rfl (rL (SF.meth bX (iO w) fm_listed (by decide +kernel) (fun _=>⟨_,rfl⟩) rV)) rV) dA))) (BS.cons (B1.ret (SEb.of rB)) <|
   BS.nil) (BS.nil)) <|
  BS.cons (B1.of (a7 rV) ct) <|
  BS.cons (B1.ite (STb.of (gd (aO ee rfl (aI cj rV rI) rI) (gd (dB (fun _ _=>rfl) rV) lB))) (BS.cons (B1.of (a7 (aI cj (aI eF rV rI) (b9 cz b_len (by decide +kernel) (fun _ _=>rfl) (fun _=>rfl) (ai rV aw)))) ct) <|
   BS.cons (B1.ite (STb.cmp c7 (SEb.meth bX (jH w) fm_drop (by decide +kernel) (fun _=>⟨_,rfl⟩) (fun _ _=>rfl) rV rV) (aA rV rV) rfl) (BS.cons (B1.ret (SEb.of rB)) <|
    BS.nil) (BS.nil)) <|
   BS.cons (B1.of (a7 (rL (eX (rL (eW rV fG (eG rV))) (rL (eW rV (eG (aI du rV rI)) fG))))) ct) <|
   BS.nil) (BS.nil)) <|
  BS.nil)) <|
 BS.cons (B1.ret (SEb.of (jR (i6 ee rfl (rL (SF.meth bX (iO w) fm_listed (by decide +kernel) (fun _=>⟨_,rfl⟩) rV)) rV) (jQ (bo f_law_meets g_law_meets (by decide +kernel) (by decide +kernel) (fun _ _=>rfl) (ai rV (ai (rL (SF.meth bX (lj w) fm_plan (by decide +kernel) (fun _=>⟨_,rfl⟩) rV)) aw))))))) <|
 BS.nil)
end
set_option maxHeartbeats 4000000
section
variable {prog:Program} {mean:ExcName->Option Value} {mg mb:Str->Option Value} {h:Heap} (T:Top Hd.PQa (looseW Hd.PQa []) mean mg mb h) (w:World)
include T
theorem HG(Y:YC w h):lM ⟨prog,w,h,mg,mb,T.g,T.b,T.nolimit⟩ 11 "_law_deed" nB:=by
 obtain⟨a_law_taken,g_law_taken,f_law_taken⟩:=sG (prog:=prog) T w Y
 have bX:=gx (prog:=prog) T w Y
 have fm_take:=sD (prog:=prog) T w Y
 have fm_drop:=sH (prog:=prog) T w Y
 have fx_take:=xY (prog:=prog) T w Y
 have fx_drop:=HD (prog:=prog) T w Y
 have b_len:=dG T
 have b_isinstance:=iP T
 have xc_BadJob:=mO (prog:=prog) T w Y
 have xc_OutOfPlace:=mP (prog:=prog) T w Y
 have xc_RunError:=GO (prog:=prog) T w Y
 exact nu T (names:=["_law_book","_law_held","_law_cell","_law_wide"]) 18 rfl rfl (by intro _ _ _ vals hv;obtain⟨v0,v1,v2,v3,rfl⟩:=pE hv;rfl) (by decide +kernel) (by decide +kernel) (BS.cons (B1.ite (STb.of (aO ee rfl (aI cj rV rI) rI)) (BS.cons (B1.try (XE.meth bX (gT w) fx_take (by decide +kernel) (fun _=>⟨_,rfl⟩) (fun _ _=>rfl) rV (@tR _ _ _ _ _ _ _ _ (fun _ _=>rfl) (@tT _ _ _ _ _ _ _ _ _ _ _ _ _ _ _ _ _ _ _ _ _ _ _ _ _ _ _ _ _ _ _ _ _ _ _ _ _ _ _ _ _ _ _) (aI cj (aI eF rV rI) rI))) (B1.expr (fun _=>rfl) (SEb.meth bX (gT w) fm_take (by decide +kernel) (fun _=>⟨_,rfl⟩) (fun _ _=>rfl) rV (@tR _ _ _ _ _ _ _ _ (fun _ _=>rfl) (@tT _ _ _ _ _ _ _ _ _ _ _ _ _ _ _ _ _ _ _ _ _ _ _ _ _ _ _ _ _ _ _ _ _ _ _ _ _ _ _ _ _ _ _) (aI cj (aI eF rV rI) rI)))) (pR (fun _=>rfl)) (fun c m e=>by
   unfold ny at e
   by_cases z0:c="BadJob"
   .subst z0;rw[if_pos rfl] at e;cases e;exact⟨_,_,xc_BadJob,(HB.here xc_BadJob xc_BadJob (by decide +kernel) rfl (BS.cons (B1.ret (SEb.of rV)) <|
    BS.nil))⟩
   rw[if_neg z0] at e;cases e)) <|
  BS.cons (B1.ret (SEb.of rN)) <|
  BS.nil) (BS.nil)) <|
 BS.cons (B1.ite (STb.of (aO fZ rfl (aI cj rV rI) rI)) (BS.cons (B1.of (a7 (aI iY (aI iY (aI cj (aI eF rV rI) (aI du (aI iZ rI (b9 cz b_len (by decide +kernel) (fun _ _=>rfl) (fun _=>rfl) (ai rV aw))) rI)) (b9 cz b_len (by decide +kernel) (fun _ _=>rfl) (fun _=>rfl) (ai rV aw))) rI)) ct) <|
  BS.cons (B1.ite (STb.of (aO ee rfl (aI cj (aI eF rV rI) rI) rI)) (BS.cons (B1.of (a7 (aI iZ rV (aI pw rI rI))) ct) <|
   BS.nil) (BS.nil)) <|
  BS.cons (B1.try (XE.meth bX (jH w) fx_drop (by decide +kernel) (fun _=>⟨_,rfl⟩) (fun _ _=>rfl) rV rV) (B1.assign (by decide +kernel) (fun _ _ _ _=>rfl) (SEb.meth bX (jH w) fm_drop (by decide +kernel) (fun _=>⟨_,rfl⟩) (fun _ _=>rfl) rV rV)) (ze (fun _ _ _ _=>rfl)) (fun c m e=>by
   unfold nA at e
   by_cases z0:c="OutOfPlace"
   .subst z0;rw[if_pos rfl] at e;cases e;exact⟨_,_,xc_OutOfPlace,HB.hereAs xc_OutOfPlace xc_RunError (by decide +kernel) rfl rfl (GX T Y b_isinstance rfl (by decide +kernel) (by decide +kernel) (by decide +kernel) (by decide +kernel) (by decide +kernel)) (tw (jN gX d0 rfl rI rV (b9 cz b_len (by decide +kernel) (fun _ _=>rfl) (fun _=>rfl) (ai rV aw))) rN rV)⟩
   rw[if_neg z0] at e;cases e)) <|
  BS.cons (B1.ite (STb.of (bd (cR (jN gX d0 rfl rI rV (b9 cz b_len (by decide +kernel) (fun _ _=>rfl) (fun _=>rfl) (ai rV aw)))) (bd (aO c7 rfl rV (aA rV rV)) dA))) (BS.cons (B1.ret (SEb.of rN)) <|
   BS.nil) (BS.nil)) <|
  BS.cons (B1.ret (SEb.of (rL (eX (rL (eW rV fG (eG rV))) (rL (eW rV (eG (aI du rV rI)) fG)))))) <|
  BS.nil) (BS.nil)) <|
 BS.cons (B1.of (a7 (aI iZ (aI cj (aI eF rV rI) rI) rV)) ct) <|
 BS.cons (B1.ret (cB f_law_taken g_law_taken (by decide +kernel) (by decide +kernel) (fun _ _=>rfl) (ai rV (ai rV (ai (b6 (ai rV (ai (aI iZ (aI du rI (aI cj (aI eF rV rI) rI)) rV) (ai (aI du rV (aI iZ (aI du rI (aI cj (aI eF rV rI) rI)) rV)) aw)))) aw))))) <|
 BS.nil)
end
set_option maxHeartbeats 4000000
section
variable {prog:Program} {mean:ExcName->Option Value} {mg mb:Str->Option Value} {h:Heap} (T:Top Hd.PQa (looseW Hd.PQa []) mean mg mb h) (w:World)
include T
theorem HH(Y:YC w h):tU ⟨prog,w,h,mg,mb,T.g,T.b,T.nolimit⟩ 12 "law" qp:=by
 obtain⟨a_law_cell_at,g_law_cell_at,f_law_cell_at⟩:=G8 (prog:=prog) T w
 obtain⟨a_law_meets,g_law_meets,f_law_meets⟩:=xX (prog:=prog) T w
 obtain⟨a_run,g_run,f_run⟩:=mQ (prog:=prog) T w
 have h_run:FnOk ⟨prog,w,h,mg,mb,T.g,T.b,T.nolimit⟩ 5 a_run fM:=f_run.ok
 obtain⟨a_law_many,g_law_many,f_law_many⟩:=HF (prog:=prog) T w Y
 obtain⟨a_law_full,g_law_full,f_law_full⟩:=HE (prog:=prog) T w Y
 obtain⟨a_law_deed,g_law_deed,f_law_deed⟩:=HG (prog:=prog) T w Y
 have bX:=gx (prog:=prog) T w Y
 have fm_plan:=sK (prog:=prog) T w Y
 have fm_listed:=sJ (prog:=prog) T w Y
 have b_list:=sy T
 have b_range:=lk T
 have b_isinstance:=iP T
 obtain⟨sI,bI,mX⟩:=GW (prog:=prog) T Y
 exact zl T (names:=["_law_script"]) 22 rfl rfl (by intro _ _ _ vals hv;obtain⟨v0,rfl⟩:=eH hv;rfl) (by decide +kernel) (by decide +kernel) (BT.ite (aO ee rfl (aI cj (bo f_law_cell_at g_law_cell_at (by decide +kernel) (by decide +kernel) (fun _ _=>rfl) (ai rV (ai rI aw))) rI) rI) (BT.one bX mX (by decide +kernel) (by decide +kernel) f_law_many (by decide +kernel) (by decide +kernel) g_law_many (fun _ _=>rfl) (fun _ _=>rfl) (bo f_law_cell_at g_law_cell_at (by decide +kernel) (by decide +kernel) (fun _ _=>rfl) (ai rV (ai rI aw))) (aI du rI (aI cj (aI eF (bo f_law_cell_at g_law_cell_at (by decide +kernel) (by decide +kernel) (fun _ _=>rfl) (ai rV (ai rI aw))) rI) rI))) (BT.two bX mX (by decide +kernel) (by decide +kernel) (by decide +kernel) (fun _ _ _ _=>rfl) (BS.cons (B1.of (lE (by decide +kernel) (fun _ _ _ _=>rfl) (dj (ai (rL (dj aw)) (ai (rL (dj aw)) aw)))) pP) <|
 BS.cons (B1.of (a7 rI) ct) <|
 BS.cons (B1.ite (STb.of (aO ee rfl (aI cj (bo f_law_cell_at g_law_cell_at (by decide +kernel) (by decide +kernel) (fun _ _=>rfl) (ai rV (ai rI aw))) rI) rI)) (BS.cons (B1.of (a7 (aI du rI (aI cj (aI eF (bo f_law_cell_at g_law_cell_at (by decide +kernel) (by decide +kernel) (fun _ _=>rfl) (ai rV (ai rI aw))) rI) (aI pw rI rI)))) ct) <|
  BS.nil) (BS.nil)) <|
 BS.cons (B1.ite (STb.of (aO ee rfl (aI cj (bo f_law_cell_at g_law_cell_at (by decide +kernel) (by decide +kernel) (fun _ _=>rfl) (ai rV (ai rI aw))) rI) rI)) (BS.cons (B1.ret (cB f_law_full g_law_full (by decide +kernel) (by decide +kernel) (fun _ _=>rfl) (ai (aA rV rI) (ai (aI cj (bo f_law_cell_at g_law_cell_at (by decide +kernel) (by decide +kernel) (fun _ _=>rfl) (ai rV (ai rI aw))) rI) aw)))) <|
  BS.nil) (BS.nil)) <|
 BS.cons (B1.of (lE (by decide +kernel) (fun _ _ _ _=>rfl) (dj aw)) pP) <|
 BS.cons (jV rfl (by decide +kernel) (fun _ _=>rfl) (eY rfl (rL (eW rV (eG rI) (eG rI)))) (BS.cons (B1.of (a7 (aI cj rV rI)) ct) <|
  BS.cons (B1.of (a7 (b6 (ai (rL (SF.meth bX (iO w) fm_listed (by decide +kernel) (fun _=>⟨_,rfl⟩) (aA rV rV))) (ai (rL (SF.meth bX (lj w) fm_plan (by decide +kernel) (fun _=>⟨_,rfl⟩) (aA rV rV))) aw)))) ct) <|
  BS.cons (B1.of (tx (fun _=>⟨_,rfl⟩) (by decide +kernel) (fun _ _=>rfl) (fun _=>rfl) (b6 (ai rV (ai (b6 (ai (rL (lC b_list (by decide +kernel) (fun _ _=>rfl) (aA rV rI))) (ai (rL (lC b_list (by decide +kernel) (fun _ _=>rfl) (aA rV rI))) aw))) aw)))) tM) <|
  BS.cons (B1.assign (by decide +kernel) (fun _ _ _ _=>rfl) (cB f_law_deed g_law_deed (by decide +kernel) (by decide +kernel) (fun _ _=>rfl) (ai (aA rV rV) (ai (rL (lC b_list (by decide +kernel) (fun _ _=>rfl) (aA rV rV))) (ai (aI eF rV rI) (ai rV aw)))))) <|
  BS.cons (B1.ite (STb.of (bd (aO jM rfl rV rN) (bd (cR (dB (fun _ _=>rfl) (bo f_law_meets g_law_meets (by decide +kernel) (by decide +kernel) (fun _ _=>rfl) (ai rV (ai (rL (SF.meth bX (lj w) fm_plan (by decide +kernel) (fun _=>⟨_,rfl⟩) (aA rV rV))) aw))))) dA))) (BS.cons (B1.ret (SEb.of rB)) <|
   BS.nil) (BS.nil)) <|
  BS.cons (B1.of (S1.appT (fun _=>⟨_,rfl⟩) (fun _ _=>rfl) (fun _=>rfl) (SF.meth bX (lj w) fm_plan (by decide +kernel) (fun _=>⟨_,rfl⟩) (aA rV rV)) (b6 (ai rI (ai rI (ai rI aw))))) zd) <|
  BS.cons (B1.ite (STb.of (aO c7 rfl (rL (SF.meth bX (lj w) fm_plan (by decide +kernel) (fun _=>⟨_,rfl⟩) (aA rV rV))) (bo h_run g_run (by decide +kernel) (by decide +kernel) (fun _ _=>rfl) (ai (rL (lC b_list (by decide +kernel) (fun _ _=>rfl) rV)) aw)))) (BS.cons (B1.ret (SEb.of rB)) <|
   BS.nil) (BS.nil)) <|
  BS.cons (B1.of (nf (by decide +kernel) (fun _=>rfl) rV rV) zc) <|
  BS.cons (jV rfl (by decide +kernel) (fun _ _=>rfl) (i7 b_range (by decide +kernel) (fun _ _=>rfl) rfl rI) (BS.cons (B1.of (lE (by decide +kernel) (fun _ _ _ _=>rfl) (SF.meth bX (iO w) fm_listed (by decide +kernel) (fun _=>⟨_,rfl⟩) (aA rV rV))) pP) <|
   BS.cons (B1.ite (STb.of (bd (cR (dB (fun _ _=>rfl) (g8 (by decide +kernel) b_isinstance b_list (by decide +kernel) (by decide +kernel) (fun _ _=>rfl) rV))) (bd (aO c7 rfl rV (aA rV rV)) dA))) (BS.cons (B1.ret (SEb.of rB)) <|
    BS.nil) (BS.nil)) <|
   BS.cons (B1.of (tx (fun _=>⟨_,rfl⟩) (by decide +kernel) (fun _ _=>rfl) (fun _=>rfl) (b6 (ai rI (ai rI (ai rI aw))))) tM) <|
   BS.nil)) <|
  BS.nil)) <|
 BS.cons (B1.frz (jV rfl (by decide +kernel) (fun _ _=>rfl) (eY rfl rV) (BS.cons (B1.ite (STb.of (aO c7 rfl rV rV)) (BS.cons (B1.ret (SEb.of rB)) <|
   BS.nil) (BS.nil)) <|
  BS.nil))) <|
 BS.cons (B1.ret (SEb.of (i6 ee rfl (rL (SF.meth bX (iO w) fm_listed (by decide +kernel) (fun _=>⟨_,rfl⟩) (aA rV rI))) (aA rV rI)))) <|
 BS.nil)))
end
set_option maxHeartbeats 8000000
theorem HI:OpenLaw.wellSaid Hd.PRl=true:=by k_qdec
theorem HJ:∀(w:World) (s:Shared),Hd.Yf s=Hd.Ya w->YC w s.heap:=fun w s e=>e
theorem fin13:PySem.Challenge.rw_uf050015_13.Holds:=by
 rw[Hd.rEq]
 refine holds_law HI fun said=>?_
 refine holds_open (r:=Hd.PRl.row) (q:=Hd.PQl) (loose:=[]) (Xt:=fun s=>xlAt Hd.PQl [] s&&recOk (RowW.records Hd.PRl.row.toRowW) s) (XP:=XL Hd.PQl []) (Yf:=Hd.Yf) (Ya:=Hd.Ya) (YP:=YC) (d:=Hd.dL) (kwd:=[])
  Hd.left HJ (fun _ _ _=>YC.keeps) (fun s e=>xl_of s (Bool.and_eq_true_iff.mp e).1) XL.keeps (by kernel_rfl) (by kernel_rfl) (by kernel_rfl) (fun s e=>recFacts_of (Bool.and_eq_true_iff.mp e).2) (by rfl) said (by decide +kernel) ⟨rfl,rfl,rfl,rfl,rfl,by decide +kernel⟩ ⟨[.list []],by decide +kernel,by decide +kernel⟩ ?_
 refine zm (l:=Hd.PRl) rfl rfl fun w mean h mg mb T a Y hm=>?_
 have T':Top Hd.PQa (looseW Hd.PQa []) mean mg mb h:=by rw[Hd.qEq];exact T
 obtain⟨a',g,f⟩:=HH (prog:=Hd.PRl.prog) T' w Y
 have e:some (Value.ref a')=some (Value.ref a):=g.symm.trans ((congrArg mg Hd.eLaw).trans hm)
 cases e
 exact⟨_,qp,by decide,f,fun ns hn=>GM hn⟩
end Mine
end
theorem PySem.Challenge.cw_uf050015_13_holds : PySem.Challenge.rw_uf050015_13.Holds :=
 Mine.fin13
