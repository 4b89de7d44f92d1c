import PyProof.Rows.All
import Wide.All
import OpenK.AllK
import Wide.FinOn
import HandS.ForMost
import HandS.ExcInit
import HandS.ExcOwn
import HandS.TryMany
import HandS.Lambda
import HandS.HeadHook4
import KE.KDflt
import HandS.More
import HandS.Zip
import HandS.StrMore
import KE.GoesEnum
import KE.GoesMore
import HandS.TupMul
import HandS.TupAny
import HandS.Conv
import HandS.Deep
import HandS.IsInst
import HandS.Defaults
import PyProof.ListStr
import HandS.MakeKwOnly
import HandS.TupLe
import KE.LtSeq
import HandS.SortRule
import KE.KSortTupG
import PyProof.EnumMake
import HandS.HeadHook2
import PyProof.ExcBaseAll.LookupError
import PyProof.ExcBaseAll.IndexError
import KE.KTryMore
import HandS.ExcField
import HandS.MakeKw
import HandS.ExcCtx
import HandS.SuiteRaise
import HandS.ExcInitHot
import HandS.Style
import HandS.RaiseFrom
import HandS.Iter
import HandS.Head0
import HandS.Head1
import HandS.Head2
import HandS.HeadEnd
import PySem.Challenge.RW_samefare_k04_steps_and_places
import HandS.HeadWalk
set_option Elab.async false
set_option linter.all false
set_option maxRecDepth 100000
set_option maxHeartbeats 0
namespace DL
open PySem L2
def lawT (K : PySem.W.Frag) : Addr := (He.cT K ("law", none)).2
end DL
namespace DL
open PySem PySem.Spec PyProof.Rows L2
def kwAt (p : Str × Option Str) (x : Str) (K : PySem.W.Frag) : Addr := match K.lookup (He.fAd K p) with
  | some ⟨_, _, .func fd, _⟩ => (match fd.kwdefaults with
    | .ref D => (match PySem.W.nsIn K D x with
      | some (some (.ref a)) => a
      | _ => 0)
    | _ => 0)
  | _ => 0
end DL
namespace DL
open PySem PySem.Spec PyProof.Rows L2
def tupE (K : PySem.W.Frag) (a : Addr) : Bool := match K.lookup a with
  | some ⟨.type c, _, .seq its _, _⟩ => decide (c = "tuple") && its.isEmpty
  | _ => false
end DL
namespace DLX
open PySem PySem.W PySem.Calls PyProof.Rows PySem.HandSPX
open PySem.Builtin PySem.Builtin.ObjectAttr
abbrev veT : List Value := [.type "ValueError", .type "Exception", .type "BaseException", .type "object"]
end DLX
namespace DLX
open PySem PySem.W PySem.Calls PyProof.Rows PySem.HandSPX
open PySem.Builtin PySem.Builtin.ObjectAttr
abbrev leT : List Value := [.type "LookupError", .type "Exception", .type "BaseException", .type "object"]
end DLX
namespace DLX
open PySem PySem.W PySem.Calls PyProof.Rows PySem.HandSPX
open PySem.Builtin PySem.Builtin.ObjectAttr
abbrev ieT : List Value := [.type "IndexError", .type "LookupError", .type "Exception", .type "BaseException", .type "object"]
end DLX
namespace DLX
open PySem PySem.W PySem.Calls PyProof.Rows PySem.HandSPX
open PySem.Builtin PySem.Builtin.ObjectAttr
def ownThen (T : List Value) : List Value → Bool
  | .ref _ :: r => ownThen T r
  | l => l == T
end DLX
namespace DL
open PySem PySem.Spec PyProof.Rows L2
def baseOf (nid : String) : Option (List Value) := if nid = "ValueError.__new__" then some DLX.veT else if nid = "LookupError.__new__" then some DLX.leT else if nid = "IndexError.__new__" then some DLX.ieT else none
end DL
namespace DL
open PySem PySem.Spec PyProof.Rows L2
def oexB (K : PySem.W.Frag) (C : Addr) : Bool := (match K.lookup C with
  | some ⟨.type t, _, .cls cd, sl⟩ => (match cd.mro, sl.toList with
    | .ref c :: bm, [_, _, _, _, some (.builtin n), _] => decide (t = "type") && decide (c = C) && (match baseOf n with
      | some T => DLX.ownThen T bm
      | none => false) && !cd.hasDel && cd.hasDict
    | _, _ => false)
  | _ => false) && decide (PySem.W.findIn K (.ref C) "__setattr__" = some (some (.builtin "object.__setattr__"))) && decide (PySem.W.subIn K (.ref C) (.type "BaseException") = some true) && decide (PySem.W.typeIn K (.ref C) = some (.type "type")) && PySem.W.keepIn K (.ref C)
end DL
namespace DL
open PySem PySem.Spec PyProof.Rows L2
def oexI (K : PySem.W.Frag) (C f : Addr) : Bool := decide (PySem.W.findIn K (.ref C) "__init__" = some (some (.ref f))) && decide (PySem.W.typeIn K (.ref f) = some (.type "function"))
end DL
namespace DL
open PySem PySem.Spec PyProof.Rows L2
def noA (K : PySem.W.Frag) (C : Addr) (f : Str) : Bool := decide (PySem.W.findIn K (.ref C) f = some none)
end DL
namespace DL
open PySem PySem.Spec PyProof.Rows L2
abbrev WhyL := List (List Value × Option Str)
end DL
namespace DL
open PySem PySem.Spec PyProof.Rows L2
def fldB (K : PySem.W.Frag) (C : Addr) : Option Str → Bool
  | some f => noA K C f
  | none => true
end DL
namespace DL
open PySem PySem.Spec PyProof.Rows L2
def whyPick (K : PySem.W.Frag) (C : Addr) : WhyL → Option (Option Str)
  | [] => none
  | (cs, fo) :: r => match PySem.W.exmAny K (.ref C) cs with
    | some true => if (xfB K C && noA K C "word" && fldB K C fo) = true then some fo else none
    | some false => whyPick K C r
    | none => none
end DL
namespace DL
open PySem PySem.Spec PyProof.Rows L2
def nxS (o : Obj) : List Addr := match o.data with
  | .dict es _ => es.toList.flatMap fun e => He.refV e.val
  | .func fd => He.refV fd.code ++ (He.refV fd.defaults ++ He.refV fd.kwdefaults)
  | .cls cd => [cd.ns]
  | .seq its _ => its.toList.flatMap He.refV
  | _ => []
end DL
namespace DL
open PySem PySem.Spec PyProof.Rows L2
def upS (g : Addr → Option Obj) (as : List Addr) : List Addr := as.flatMap fun a => match g a with
  | some o => nxS o
  | none => []
end DL
namespace DL
open PySem PySem.Spec PyProof.Rows L2
def asS (g : Addr → Option Obj) : Nat → List Addr → List Addr
  | 0, as => as
  | n + 1, as => as ++ asS g n (upS g as)
end DL
namespace DL
open PySem PySem.Spec PyProof.Rows L2
def frS (g : Addr → Option Obj) : PySem.W.Frag := He.frT g (asS g 5 [mainGlobals])
end DL
namespace DL
open PySem PySem.Spec PyProof.Rows L2
def obsS (fa : List He.Fa) (fn : List He.DefD) (tf : List He.Defn) (ex : PySem.W.Frag → Bool) (g : Addr → Option Obj) : He.AlX :=
  (He.obsT fa fn [] (frS g), ex (frS g) && He.tabsB g tf (frS g))
end DL
namespace DL
open PySem PySem.Spec PyProof.Rows L2
theorem saysS_of {fa : List He.Fa} {fn : List He.DefD} {tf : List He.Defn} {ex : PySem.W.Frag → Bool} {w : World} {h : Heap} (e : obsS fa fn tf ex h.get? = He.valX fn [] w) : He.SaysX fa fn [] tf ex w h (frS h.get?) := by
  have e1 : He.obsT fa fn [] (frS h.get?) = He.valT fn [] w := (Prod.ext_iff.mp e).1
  have e2 : (ex (frS h.get?) && He.tabsB h.get? tf (frS h.get?)) = true := (Prod.ext_iff.mp e).2
  rw [Bool.and_eq_true] at e2
  have tb := List.all_eq_true.mp e2.2
  refine ⟨e1, e2.1, fun p hp => (Bool.and_eq_true_iff.mp (tb p hp)).1, fun p hp => ?_, fun p hp => ?_⟩
  · have q := (Bool.and_eq_true_iff.mp (tb p hp)).2
    cases ho : h.get? (He.cT (frS h.get?) p).2 with
    | none => rw [ho] at q; cases q
    | some o =>
      rw [ho] at q
      exact He.frT_none ho q
  · have q := (Bool.and_eq_true_iff.mp (tb p hp)).2
    cases ho : h.get? (He.cT (frS h.get?) p).2 with
    | none => rw [ho] at q; cases q
    | some o =>
      rw [ho] at q
      rw [He.emptyTab_eq q]
end DL
namespace DL
open PySem PySem.Spec PyProof.Rows L2
def hookS (fa : List He.Fa) (fn : List He.DefD) (tf : List He.Defn) (ex : PySem.W.Frag → Bool) : PySem.W.Hook where
  α := He.AlX
  obs := fun s => obsS fa fn tf ex s.heap.get?
  val := fun w => He.valX fn [] w
  says := fun w h => ∃ K : PySem.W.Frag, K.In h ∧ He.SaysX fa fn [] tf ex w h K
  of := fun _ _ e => ⟨_, He.frT_in, saysS_of e⟩
  keeps := (He.hookX 0 fa fn [] tf ex).keeps
end DL
namespace SF
open PySem PySem.Spec PyProof.Rows L2 DL
def topS (i : Nat) : Stmt := PySem.Challenge.pw_samefare_k04_steps_and_places.main.body.getD i (.Pass ⟨0, 0, 0, 0⟩)
end SF
namespace SF
open PySem PySem.Spec PyProof.Rows L2 DL
abbrev s_BadLetters_init : Stmt := (inClass (topS 3) 0)
end SF
namespace SF
open PySem PySem.Spec PyProof.Rows L2 DL
abbrev a_BadLetters_init (K : PySem.W.Frag) : Addr := He.fAd K ("BadLetters", some "__init__")
end SF
namespace SF
open PySem PySem.Spec PyProof.Rows L2 DL
abbrev s_BadWeights_init : Stmt := (inClass (topS 4) 0)
end SF
namespace SF
open PySem PySem.Spec PyProof.Rows L2 DL
abbrev a_BadWeights_init (K : PySem.W.Frag) : Addr := He.fAd K ("BadWeights", some "__init__")
end SF
namespace SF
open PySem PySem.Spec PyProof.Rows L2 DL
abbrev s_BadWord_init : Stmt := (inClass (topS 6) 0)
end SF
namespace SF
open PySem PySem.Spec PyProof.Rows L2 DL
abbrev a_BadWord_init (K : PySem.W.Frag) : Addr := He.fAd K ("BadWord", some "__init__")
end SF
namespace SF
open PySem PySem.Spec PyProof.Rows L2 DL
abbrev s_BadRule_init : Stmt := (inClass (topS 5) 0)
end SF
namespace SF
open PySem PySem.Spec PyProof.Rows L2 DL
abbrev a_BadRule_init (K : PySem.W.Frag) : Addr := He.fAd K ("BadRule", some "__init__")
end SF
namespace SF
open PySem PySem.Spec PyProof.Rows L2 DL
abbrev s_TooMany_init : Stmt := (inClass (topS 11) 0)
end SF
namespace SF
open PySem PySem.Spec PyProof.Rows L2 DL
abbrev a_TooMany_init (K : PySem.W.Frag) : Addr := He.fAd K ("TooMany", some "__init__")
end SF
namespace SF
open PySem PySem.Spec PyProof.Rows L2 DL
abbrev s_TooLong_init : Stmt := (inClass (topS 10) 0)
end SF
namespace SF
open PySem PySem.Spec PyProof.Rows L2 DL
abbrev a_TooLong_init (K : PySem.W.Frag) : Addr := He.fAd K ("TooLong", some "__init__")
end SF
namespace SF
open PySem PySem.Spec PyProof.Rows L2 DL
abbrev s_NoStep_init : Stmt := (inClass (topS 7) 0)
end SF
namespace SF
open PySem PySem.Spec PyProof.Rows L2 DL
abbrev a_NoStep_init (K : PySem.W.Frag) : Addr := He.fAd K ("NoStep", some "__init__")
end SF
namespace SF
open PySem PySem.Spec PyProof.Rows L2 DL
abbrev s_NoRule_init : Stmt := (inClass (topS 23) 0)
end SF
namespace SF
open PySem PySem.Spec PyProof.Rows L2 DL
abbrev a_NoRule_init (K : PySem.W.Frag) : Addr := He.fAd K ("NoRule", some "__init__")
end SF
namespace SF
open PySem PySem.Spec PyProof.Rows L2 DL
abbrev s_is_whole : Stmt := (topS 44)
end SF
namespace SF
open PySem PySem.Spec PyProof.Rows L2 DL
abbrev s_Scale_init : Stmt := (inClass (topS 45) 0)
end SF
namespace SF
open PySem PySem.Spec PyProof.Rows L2 DL
abbrev s_Scale_look : Stmt := (inClass (topS 45) 7)
end SF
namespace SF
open PySem PySem.Spec PyProof.Rows L2 DL
abbrev s_Scale_many : Stmt := (inClass (topS 45) 8)
end SF
namespace SF
open PySem PySem.Spec PyProof.Rows L2 DL
abbrev s_Scale_weight : Stmt := (inClass (topS 45) 9)
end SF
namespace SF
open PySem PySem.Spec PyProof.Rows L2 DL
abbrev s_Scale_rank : Stmt := (inClass (topS 45) 10)
end SF
namespace SF
open PySem PySem.Spec PyProof.Rows L2 DL
abbrev s_Scale_less : Stmt := (inClass (topS 45) 11)
end SF
namespace SF
open PySem PySem.Spec PyProof.Rows L2 DL
abbrev s_need_short : Stmt := (topS 33)
end SF
namespace SF
open PySem PySem.Spec PyProof.Rows L2 DL
abbrev s_standing : Stmt := (topS 34)
end SF
namespace SF
open PySem PySem.Spec PyProof.Rows L2 DL
abbrev s_is_rule : Stmt := (topS 38)
end SF
namespace SF
open PySem PySem.Spec PyProof.Rows L2 DL
abbrev s_Rules_init : Stmt := (inClass (topS 39) 0)
end SF
namespace SF
open PySem PySem.Spec PyProof.Rows L2 DL
abbrev s_Rules_side : Stmt := (inClass (topS 39) 6)
end SF
namespace SF
open PySem PySem.Spec PyProof.Rows L2 DL
abbrev s_Rules_places : Stmt := (inClass (topS 39) 7)
end SF
namespace SF
open PySem PySem.Spec PyProof.Rows L2 DL
abbrev s_Rules_is_end : Stmt := (inClass (topS 39) 8)
end SF
namespace SF
open PySem PySem.Spec PyProof.Rows L2 DL
abbrev s_Rules_turned : Stmt := (inClass (topS 39) 9)
end SF
namespace SF
open PySem PySem.Spec PyProof.Rows L2 DL
abbrev s_law_deal : Stmt := (topS 47)
end SF
namespace SF
open PySem PySem.Spec PyProof.Rows L2 DL
abbrev s_law_pick : Stmt := (topS 48)
end SF
namespace SF
open PySem PySem.Spec PyProof.Rows L2 DL
abbrev s_law_of : Stmt := (topS 49)
end SF
namespace SF
open PySem PySem.Spec PyProof.Rows L2 DL
abbrev s_law_like : Stmt := (topS 50)
end SF
namespace SF
open PySem PySem.Spec PyProof.Rows L2 DL
abbrev s_law_letters : Stmt := (topS 52)
end SF
namespace SF
open PySem PySem.Spec PyProof.Rows L2 DL
abbrev s_law_weights : Stmt := (topS 53)
end SF
namespace SF
open PySem PySem.Spec PyProof.Rows L2 DL
abbrev s_law_word : Stmt := (topS 54)
end SF
namespace SF
open PySem PySem.Spec PyProof.Rows L2 DL
abbrev s_law_rank : Stmt := (topS 55)
end SF
namespace SF
open PySem PySem.Spec PyProof.Rows L2 DL
abbrev s_law_oriented : Stmt := (topS 56)
end SF
namespace SF
open PySem PySem.Spec PyProof.Rows L2 DL
abbrev s_law_any_list : Stmt := (topS 57)
end SF
namespace SF
open PySem PySem.Spec PyProof.Rows L2 DL
abbrev s_law_scale_of : Stmt := (topS 58)
end SF
namespace SF
open PySem PySem.Spec PyProof.Rows L2 DL
abbrev s_law_rules_of : Stmt := (topS 59)
end SF
namespace SF
open PySem PySem.Spec PyProof.Rows L2 DL
abbrev s_law_standing : Stmt := (topS 60)
end SF
namespace SF
open PySem PySem.Spec PyProof.Rows L2 DL
abbrev s_law_turned : Stmt := (topS 61)
end SF
namespace SF
open PySem PySem.Spec PyProof.Rows L2 DL
abbrev s_law_why : Stmt := (topS 51)
end SF
namespace SF
open PySem PySem.Spec PyProof.Rows L2 DL
abbrev s_law : Stmt := (topS 62)
end SF
namespace SF
open PySem PySem.Spec PyProof.Rows L2 DL
abbrev c_BadLetters (K : PySem.W.Frag) : Addr := He.ga K "BadLetters"
end SF
namespace SF
open PySem PySem.Spec PyProof.Rows L2 DL
abbrev c_BadWeights (K : PySem.W.Frag) : Addr := He.ga K "BadWeights"
end SF
namespace SF
open PySem PySem.Spec PyProof.Rows L2 DL
abbrev c_BadWord (K : PySem.W.Frag) : Addr := He.ga K "BadWord"
end SF
namespace SF
open PySem PySem.Spec PyProof.Rows L2 DL
abbrev c_BadRule (K : PySem.W.Frag) : Addr := He.ga K "BadRule"
end SF
namespace SF
open PySem PySem.Spec PyProof.Rows L2 DL
abbrev c_TooMany (K : PySem.W.Frag) : Addr := He.ga K "TooMany"
end SF
namespace SF
open PySem PySem.Spec PyProof.Rows L2 DL
abbrev c_TooLong (K : PySem.W.Frag) : Addr := He.ga K "TooLong"
end SF
namespace SF
open PySem PySem.Spec PyProof.Rows L2 DL
abbrev c_NoStep (K : PySem.W.Frag) : Addr := He.ga K "NoStep"
end SF
namespace SF
open PySem PySem.Spec PyProof.Rows L2 DL
abbrev c_NoRule (K : PySem.W.Frag) : Addr := He.ga K "NoRule"
end SF
namespace SF
open PySem PySem.Spec PyProof.Rows L2 DL
abbrev c_Stray (K : PySem.W.Frag) : Addr := He.ga K "Stray"
end SF
namespace SF
open PySem PySem.Spec PyProof.Rows L2 DL
abbrev c_BadText (K : PySem.W.Frag) : Addr := He.ga K "BadText"
end SF
namespace SF
open PySem PySem.Spec PyProof.Rows L2 DL
abbrev c_BadDeed (K : PySem.W.Frag) : Addr := He.ga K "BadDeed"
end SF
namespace SF
open PySem PySem.Spec PyProof.Rows L2 DL
abbrev c_Tired (K : PySem.W.Frag) : Addr := He.ga K "Tired"
end SF
namespace SF
open PySem PySem.Spec PyProof.Rows L2 DL
abbrev c_Full (K : PySem.W.Frag) : Addr := He.ga K "Full"
end SF
namespace SF
open PySem PySem.Spec PyProof.Rows L2 DL
abbrev c_NotSettled (K : PySem.W.Frag) : Addr := He.ga K "NotSettled"
end SF
namespace SF
open PySem PySem.Spec PyProof.Rows L2 DL
abbrev c_Unfair (K : PySem.W.Frag) : Addr := He.ga K "Unfair"
end SF
namespace SF
open PySem PySem.Spec PyProof.Rows L2 DL
abbrev c_BadName (K : PySem.W.Frag) : Addr := He.ga K "BadName"
end SF
namespace SF
open PySem PySem.Spec PyProof.Rows L2 DL
abbrev c_Taken (K : PySem.W.Frag) : Addr := He.ga K "Taken"
end SF
namespace SF
open PySem PySem.Spec PyProof.Rows L2 DL
abbrev c_NoName (K : PySem.W.Frag) : Addr := He.ga K "NoName"
end SF
namespace SF
open PySem PySem.Spec PyProof.Rows L2 DL
abbrev c_Needed (K : PySem.W.Frag) : Addr := He.ga K "Needed"
end SF
namespace SF
open PySem PySem.Spec PyProof.Rows L2 DL
abbrev c_NoSize (K : PySem.W.Frag) : Addr := He.ga K "NoSize"
end SF
namespace SF
open PySem PySem.Spec PyProof.Rows L2 DL
abbrev c_InUse (K : PySem.W.Frag) : Addr := He.ga K "InUse"
end SF
namespace SF
open PySem PySem.Spec PyProof.Rows L2 DL
abbrev c_NoLetter (K : PySem.W.Frag) : Addr := He.ga K "NoLetter"
end SF
namespace SF
open PySem PySem.Spec PyProof.Rows L2 DL
abbrev c_NotMade (K : PySem.W.Frag) : Addr := He.ga K "NotMade"
end SF
namespace SF
open PySem PySem.Spec PyProof.Rows L2 DL
abbrev c_FareError (K : PySem.W.Frag) : Addr := He.ga K "FareError"
end SF
namespace SF
open PySem PySem.Spec PyProof.Rows L2 DL
abbrev c_NothingLeft (K : PySem.W.Frag) : Addr := He.ga K "NothingLeft"
end SF
namespace SF
open PySem PySem.Spec PyProof.Rows L2 DL
def whyL (K : PySem.W.Frag) : WhyL := [([.ref (c_BadRule K), .ref (c_BadWord K), .ref (c_Stray K), .ref (c_BadText K), .ref (c_BadDeed K)], some "at"), ([.ref (c_Tired K), .ref (c_TooLong K), .ref (c_TooMany K), .ref (c_Full K)], some "most"), ([.ref (c_NotSettled K), .ref (c_Unfair K)], some "text"), ([.ref (c_BadName K), .ref (c_Taken K), .ref (c_NoName K)], some "name"), ([.ref (c_Needed K), .ref (c_NoRule K), .ref (c_NoSize K)], some "number"), ([.ref (c_InUse K), .ref (c_NoLetter K)], some "letter"), ([.ref (c_NoStep K)], some "place"), ([.ref (c_NotMade K)], some "turn"), ([.ref (c_FareError K)], none), ([.ref (c_NothingLeft K)], none)]
end SF
namespace SF
open PySem PySem.Spec PyProof.Rows L2 DL
def t_Scale_init_weights (K : PySem.W.Frag) : Addr := kwAt ("Scale", some "__init__") "weights" K
end SF
namespace SF
open PySem PySem.Spec PyProof.Rows L2 DL
def t_Rules_init_rules (K : PySem.W.Frag) : Addr := He.dflAt ("Rules", some "__init__") 0 K
end SF
namespace SF
open PySem PySem.Spec PyProof.Rows L2 DL
def fa0 : List He.Fa := [.glo "is_whole", .glo "need_short", .glo "standing", .glo "is_rule", .glo "_law_deal", .glo "_law_pick", .glo "_law_of", .glo "_law_like", .glo "_law_letters", .glo "_law_weights", .glo "_law_word", .glo "_law_rank", .glo "_law_oriented", .glo "_law_any_list", .glo "_law_scale_of", .glo "_law_rules_of", .glo "_law_standing", .glo "_law_turned", .glo "_law_why", .glo "law", .glo "Scale", .cls "Scale", .mkr "Scale", .noat "Scale" "signs", .noat "Scale" "worths"]
end SF
namespace SF
open PySem PySem.Spec PyProof.Rows L2 DL
def fa1 : List He.Fa := [.glo "Rules", .cls "Rules", .mkr "Rules", .noat "Rules" "own_scale", .noat "Rules" "pairs", .glo "BadLetters", .glo "BadWeights", .glo "BadWord", .glo "BadRule", .glo "TooMany", .glo "TooLong", .glo "NoStep", .glo "NoRule", .glo "Stray", .glo "BadText", .glo "BadDeed", .glo "Tired", .glo "Full", .glo "NotSettled", .glo "Unfair", .glo "BadName", .glo "Taken", .glo "NoName", .glo "Needed", .glo "NoSize"]
end SF
namespace SF
open PySem PySem.Spec PyProof.Rows L2 DL
def fa2 : List He.Fa := [.glo "InUse", .glo "NoLetter", .glo "NotMade", .glo "FareError", .glo "NothingLeft", .meth "Scale" "look", .meth "Scale" "many", .meth "Scale" "weight", .meth "Scale" "rank", .meth "Scale" "less", .meth "Rules" "side", .meth "Rules" "places", .meth "Rules" "is_end", .meth "Rules" "turned", .free "isinstance", .free "int", .free "bool", .free "enumerate", .str "SMALL" "abcdefghijklmnopqrstuvwxyz", .free "len", .int "MOST_LETTERS" 8, .free "tuple", .free "all", .int "MOST_WEIGHT" 99, .free "sum"]
end SF
namespace SF
open PySem PySem.Spec PyProof.Rows L2 DL
def fa3 : List He.Fa := [.free "zip", .int "MOST_WORD" 400, .free "range", .int "MOST_SIDE" 20, .int "MOST_RULES" 40, .free "list", .free "str"]
end SF
namespace SF
open PySem PySem.Spec PyProof.Rows L2 DL
def fas : List He.Fa := fa0 ++ fa1 ++ fa2 ++ fa3
end SF
namespace SF
open PySem PySem.Spec PyProof.Rows L2 DL
def dd_BadLetters_init : He.DefD := ⟨("BadLetters", some "__init__"), "__init__", "BadLetters.__init__", defArgs s_BadLetters_init, defBody s_BadLetters_init, defScope s_BadLetters_init, [], []⟩
end SF
namespace SF
open PySem PySem.Spec PyProof.Rows L2 DL
def dd_BadWeights_init : He.DefD := ⟨("BadWeights", some "__init__"), "__init__", "BadWeights.__init__", defArgs s_BadWeights_init, defBody s_BadWeights_init, defScope s_BadWeights_init, [], []⟩
end SF
namespace SF
open PySem PySem.Spec PyProof.Rows L2 DL
def dd_BadWord_init : He.DefD := ⟨("BadWord", some "__init__"), "__init__", "BadWord.__init__", defArgs s_BadWord_init, defBody s_BadWord_init, defScope s_BadWord_init, [], []⟩
end SF
namespace SF
open PySem PySem.Spec PyProof.Rows L2 DL
def dd_BadRule_init : He.DefD := ⟨("BadRule", some "__init__"), "__init__", "BadRule.__init__", defArgs s_BadRule_init, defBody s_BadRule_init, defScope s_BadRule_init, [], []⟩
end SF
namespace SF
open PySem PySem.Spec PyProof.Rows L2 DL
def dd_TooMany_init : He.DefD := ⟨("TooMany", some "__init__"), "__init__", "TooMany.__init__", defArgs s_TooMany_init, defBody s_TooMany_init, defScope s_TooMany_init, [], []⟩
end SF
namespace SF
open PySem PySem.Spec PyProof.Rows L2 DL
def dd_TooLong_init : He.DefD := ⟨("TooLong", some "__init__"), "__init__", "TooLong.__init__", defArgs s_TooLong_init, defBody s_TooLong_init, defScope s_TooLong_init, [], []⟩
end SF
namespace SF
open PySem PySem.Spec PyProof.Rows L2 DL
def dd_NoStep_init : He.DefD := ⟨("NoStep", some "__init__"), "__init__", "NoStep.__init__", defArgs s_NoStep_init, defBody s_NoStep_init, defScope s_NoStep_init, [], []⟩
end SF
namespace SF
open PySem PySem.Spec PyProof.Rows L2 DL
def dd_NoRule_init : He.DefD := ⟨("NoRule", some "__init__"), "__init__", "NoRule.__init__", defArgs s_NoRule_init, defBody s_NoRule_init, defScope s_NoRule_init, [], []⟩
end SF
namespace SF
open PySem PySem.Spec PyProof.Rows L2 DL
def dd_is_whole : He.DefD := ⟨("is_whole", none), "is_whole", "is_whole", defArgs s_is_whole, defBody s_is_whole, defScope s_is_whole, [], []⟩
end SF
namespace SF
open PySem PySem.Spec PyProof.Rows L2 DL
def dd_Scale_init : He.DefD := ⟨("Scale", some "__init__"), "__init__", "Scale.__init__", defArgs s_Scale_init, defBody s_Scale_init, defScope s_Scale_init, [], [("weights", .adr t_Scale_init_weights)]⟩
end SF
namespace SF
open PySem PySem.Spec PyProof.Rows L2 DL
def dd_Scale_look : He.DefD := ⟨("Scale", some "look"), "look", "Scale.look", defArgs s_Scale_look, defBody s_Scale_look, defScope s_Scale_look, [], []⟩
end SF
namespace SF
open PySem PySem.Spec PyProof.Rows L2 DL
def dd_Scale_many : He.DefD := ⟨("Scale", some "many"), "many", "Scale.many", defArgs s_Scale_many, defBody s_Scale_many, defScope s_Scale_many, [], []⟩
end SF
namespace SF
open PySem PySem.Spec PyProof.Rows L2 DL
def dd_Scale_weight : He.DefD := ⟨("Scale", some "weight"), "weight", "Scale.weight", defArgs s_Scale_weight, defBody s_Scale_weight, defScope s_Scale_weight, [], []⟩
end SF
namespace SF
open PySem PySem.Spec PyProof.Rows L2 DL
def dd_Scale_rank : He.DefD := ⟨("Scale", some "rank"), "rank", "Scale.rank", defArgs s_Scale_rank, defBody s_Scale_rank, defScope s_Scale_rank, [], []⟩
end SF
namespace SF
open PySem PySem.Spec PyProof.Rows L2 DL
def dd_Scale_less : He.DefD := ⟨("Scale", some "less"), "less", "Scale.less", defArgs s_Scale_less, defBody s_Scale_less, defScope s_Scale_less, [], []⟩
end SF
namespace SF
open PySem PySem.Spec PyProof.Rows L2 DL
def dd_need_short : He.DefD := ⟨("need_short", none), "need_short", "need_short", defArgs s_need_short, defBody s_need_short, defScope s_need_short, [], []⟩
end SF
namespace SF
open PySem PySem.Spec PyProof.Rows L2 DL
def dd_standing : He.DefD := ⟨("standing", none), "standing", "standing", defArgs s_standing, defBody s_standing, defScope s_standing, [], []⟩
end SF
namespace SF
open PySem PySem.Spec PyProof.Rows L2 DL
def dd_is_rule : He.DefD := ⟨("is_rule", none), "is_rule", "is_rule", defArgs s_is_rule, defBody s_is_rule, defScope s_is_rule, [], []⟩
end SF
namespace SF
open PySem PySem.Spec PyProof.Rows L2 DL
def dd_Rules_init : He.DefD := ⟨("Rules", some "__init__"), "__init__", "Rules.__init__", defArgs s_Rules_init, defBody s_Rules_init, defScope s_Rules_init, [.adr t_Rules_init_rules], []⟩
end SF
namespace SF
open PySem PySem.Spec PyProof.Rows L2 DL
def dd_Rules_side : He.DefD := ⟨("Rules", some "side"), "side", "Rules.side", defArgs s_Rules_side, defBody s_Rules_side, defScope s_Rules_side, [], []⟩
end SF
namespace SF
open PySem PySem.Spec PyProof.Rows L2 DL
def dd_Rules_places : He.DefD := ⟨("Rules", some "places"), "places", "Rules.places", defArgs s_Rules_places, defBody s_Rules_places, defScope s_Rules_places, [], []⟩
end SF
namespace SF
open PySem PySem.Spec PyProof.Rows L2 DL
def dd_Rules_is_end : He.DefD := ⟨("Rules", some "is_end"), "is_end", "Rules.is_end", defArgs s_Rules_is_end, defBody s_Rules_is_end, defScope s_Rules_is_end, [], []⟩
end SF
namespace SF
open PySem PySem.Spec PyProof.Rows L2 DL
def dd_Rules_turned : He.DefD := ⟨("Rules", some "turned"), "turned", "Rules.turned", defArgs s_Rules_turned, defBody s_Rules_turned, defScope s_Rules_turned, [], [("back", .bl false)]⟩
end SF
namespace SF
open PySem PySem.Spec PyProof.Rows L2 DL
def dd_law_deal : He.DefD := ⟨("_law_deal", none), "_law_deal", "_law_deal", defArgs s_law_deal, defBody s_law_deal, defScope s_law_deal, [], []⟩
end SF
namespace SF
open PySem PySem.Spec PyProof.Rows L2 DL
def dd_law_pick : He.DefD := ⟨("_law_pick", none), "_law_pick", "_law_pick", defArgs s_law_pick, defBody s_law_pick, defScope s_law_pick, [], []⟩
end SF
namespace SF
open PySem PySem.Spec PyProof.Rows L2 DL
def dd_law_of : He.DefD := ⟨("_law_of", none), "_law_of", "_law_of", defArgs s_law_of, defBody s_law_of, defScope s_law_of, [], []⟩
end SF
namespace SF
open PySem PySem.Spec PyProof.Rows L2 DL
def dd_law_like : He.DefD := ⟨("_law_like", none), "_law_like", "_law_like", defArgs s_law_like, defBody s_law_like, defScope s_law_like, [], []⟩
end SF
namespace SF
open PySem PySem.Spec PyProof.Rows L2 DL
def dd_law_letters : He.DefD := ⟨("_law_letters", none), "_law_letters", "_law_letters", defArgs s_law_letters, defBody s_law_letters, defScope s_law_letters, [], []⟩
end SF
namespace SF
open PySem PySem.Spec PyProof.Rows L2 DL
def dd_law_weights : He.DefD := ⟨("_law_weights", none), "_law_weights", "_law_weights", defArgs s_law_weights, defBody s_law_weights, defScope s_law_weights, [], []⟩
end SF
namespace SF
open PySem PySem.Spec PyProof.Rows L2 DL
def dd_law_word : He.DefD := ⟨("_law_word", none), "_law_word", "_law_word", defArgs s_law_word, defBody s_law_word, defScope s_law_word, [], []⟩
end SF
namespace SF
open PySem PySem.Spec PyProof.Rows L2 DL
def dd_law_rank : He.DefD := ⟨("_law_rank", none), "_law_rank", "_law_rank", defArgs s_law_rank, defBody s_law_rank, defScope s_law_rank, [], []⟩
end SF
namespace SF
open PySem PySem.Spec PyProof.Rows L2 DL
def dd_law_oriented : He.DefD := ⟨("_law_oriented", none), "_law_oriented", "_law_oriented", defArgs s_law_oriented, defBody s_law_oriented, defScope s_law_oriented, [], []⟩
end SF
namespace SF
open PySem PySem.Spec PyProof.Rows L2 DL
def dd_law_any_list : He.DefD := ⟨("_law_any_list", none), "_law_any_list", "_law_any_list", defArgs s_law_any_list, defBody s_law_any_list, defScope s_law_any_list, [], []⟩
end SF
namespace SF
open PySem PySem.Spec PyProof.Rows L2 DL
def dd_law_scale_of : He.DefD := ⟨("_law_scale_of", none), "_law_scale_of", "_law_scale_of", defArgs s_law_scale_of, defBody s_law_scale_of, defScope s_law_scale_of, [], []⟩
end SF
namespace SF
open PySem PySem.Spec PyProof.Rows L2 DL
def dd_law_rules_of : He.DefD := ⟨("_law_rules_of", none), "_law_rules_of", "_law_rules_of", defArgs s_law_rules_of, defBody s_law_rules_of, defScope s_law_rules_of, [], []⟩
end SF
namespace SF
open PySem PySem.Spec PyProof.Rows L2 DL
def dd_law_standing : He.DefD := ⟨("_law_standing", none), "_law_standing", "_law_standing", defArgs s_law_standing, defBody s_law_standing, defScope s_law_standing, [], []⟩
end SF
namespace SF
open PySem PySem.Spec PyProof.Rows L2 DL
def dd_law_turned : He.DefD := ⟨("_law_turned", none), "_law_turned", "_law_turned", defArgs s_law_turned, defBody s_law_turned, defScope s_law_turned, [], []⟩
end SF
namespace SF
open PySem PySem.Spec PyProof.Rows L2 DL
def dd_law_why : He.DefD := ⟨("_law_why", none), "_law_why", "_law_why", defArgs s_law_why, defBody s_law_why, defScope s_law_why, [], []⟩
end SF
namespace SF
open PySem PySem.Spec PyProof.Rows L2 DL
def dd_law : He.DefD := ⟨("law", none), "law", "law", defArgs s_law, defBody s_law, defScope s_law, [], []⟩
end SF
namespace SF
open PySem PySem.Spec PyProof.Rows L2 DL
def fn0 : List He.DefD := [dd_BadLetters_init, dd_BadWeights_init, dd_BadWord_init, dd_BadRule_init, dd_TooMany_init, dd_TooLong_init, dd_NoStep_init, dd_NoRule_init, dd_is_whole, dd_Scale_init, dd_Scale_look, dd_Scale_many, dd_Scale_weight, dd_Scale_rank, dd_Scale_less, dd_need_short, dd_standing, dd_is_rule, dd_Rules_init, dd_Rules_side, dd_Rules_places, dd_Rules_is_end, dd_Rules_turned, dd_law_deal, dd_law_pick]
end SF
namespace SF
open PySem PySem.Spec PyProof.Rows L2 DL
def fn1 : List He.DefD := [dd_law_of, dd_law_like, dd_law_letters, dd_law_weights, dd_law_word, dd_law_rank, dd_law_oriented, dd_law_any_list, dd_law_scale_of, dd_law_rules_of, dd_law_standing, dd_law_turned, dd_law_why, dd_law]
end SF
namespace SF
open PySem PySem.Spec PyProof.Rows L2 DL
def fns : List He.DefD := fn0 ++ fn1
end SF
namespace SF
open PySem PySem.Spec PyProof.Rows L2 DL
def exl (K : PySem.W.Frag) : List Bool := tupE K (t_Scale_init_weights K) :: tupE K (t_Rules_init_rules K) :: oexB K (c_BadLetters K) :: oexI K (c_BadLetters K) (a_BadLetters_init K) :: noA K (c_BadLetters K) "word" :: oexB K (c_BadWeights K) :: oexI K (c_BadWeights K) (a_BadWeights_init K) :: noA K (c_BadWeights K) "word" :: oexB K (c_BadWord K) :: oexI K (c_BadWord K) (a_BadWord_init K) :: noA K (c_BadWord K) "word" :: noA K (c_BadWord K) "at" :: oexB K (c_BadRule K) :: oexI K (c_BadRule K) (a_BadRule_init K) :: noA K (c_BadRule K) "word" :: noA K (c_BadRule K) "at" :: oexB K (c_TooMany K) :: oexI K (c_TooMany K) (a_TooMany_init K) :: noA K (c_TooMany K) "word" :: noA K (c_TooMany K) "most" :: oexB K (c_TooLong K) :: oexI K (c_TooLong K) (a_TooLong_init K) :: noA K (c_TooLong K) "word" :: noA K (c_TooLong K) "most" :: oexB K (c_NoStep K) :: oexI K (c_NoStep K) (a_NoStep_init K) :: noA K (c_NoStep K) "word" :: noA K (c_NoStep K) "place" :: oexB K (c_NoRule K) :: oexI K (c_NoRule K) (a_NoRule_init K) :: noA K (c_NoRule K) "word" :: noA K (c_NoRule K) "number" :: (!decide (lawT K = 0)) :: decide (whyPick K (c_BadWord K) (whyL K) = some (some ("at" : Str))) :: decide (whyPick K (c_TooLong K) (whyL K) = some (some ("most" : Str))) :: decide (whyPick K (c_NoStep K) (whyL K) = some (some ("place" : Str))) :: decide (whyPick K (c_NoRule K) (whyL K) = some (some ("number" : Str))) :: decide (PySem.W.exmAny K (.ref (c_BadWord K)) [.ref (c_BadWord K)] = some true) :: []
end SF
namespace SF
open PySem PySem.Spec PyProof.Rows L2 DL
def exs (K : PySem.W.Frag) : Bool := (exl K).all id
end SF
namespace SF
open PySem PySem.Spec PyProof.Rows L2 DL
def tfs : List He.Defn := [("law", none)]
end SF
namespace SF
open PySem PySem.Spec PyProof.Rows L2 DL
abbrev R : PySem.W.OpenRow := PySem.W.OpenLaw.row PySem.Challenge.rw_samefare_k04_steps_and_places
end SF
namespace SF
open PySem PySem.Spec PyProof.Rows L2 DL
def nms0 : List PySem.Str := ["_wall", "__name__", "FareError", "BadLetters", "BadWeights", "BadRule", "BadWord", "NoStep", "Stray", "Tired", "TooLong", "TooMany", "NotSettled", "NotMade", "Unfair", "BadText", "BadName", "Taken", "Full", "BadDeed"]
end SF
namespace SF
open PySem PySem.Spec PyProof.Rows L2 DL
def nms1 : List PySem.Str := ["Needed", "InUse", "Missing", "NoRule", "NoLetter", "NoName", "NoSize", "NothingLeft", "MOST_RULES", "MOST_SIDE", "MOST_WORD", "MOST_STEPS", "need_short", "standing", "first_standing", "chosen", "steps_of", "is_rule", "Rules", "MOST_LETTERS"]
end SF
namespace SF
open PySem PySem.Spec PyProof.Rows L2 DL
def nms2 : List PySem.Str := ["MOST_WEIGHT", "SMALL", "is_whole", "Scale", "_law_deal", "_law_pick", "_law_of", "_law_like", "_law_why", "_law_letters", "_law_weights", "_law_word", "_law_rank", "_law_oriented", "_law_any_list", "_law_scale_of", "_law_rules_of", "_law_standing", "_law_turned"]
end SF
namespace SF
open PySem PySem.Spec PyProof.Rows L2 DL
def names : List PySem.Str := nms0 ++ nms1 ++ nms2
end SF
namespace SF
open PySem PySem.Spec PyProof.Rows L2 DL
abbrev hk : PySem.W.Hook := DL.hookS fas fns tfs exs
end SF
namespace SF
open PySem PySem.Spec PyProof.Rows L2 DL
def ob (s : PySem.W.SharedT) : He.AlX := DL.obsS fas fns tfs exs (HandSHeadRun.getT s)
end SF
namespace SF
open PySem PySem.Spec PyProof.Rows L2 DL
theorem map3 {α β γ δ : Type} {X : Option α} {A : α → β} {B : α → γ} {C : α → δ} {a : β} {b : γ} {c : δ} (h1 : X.map (fun s => (A s, B s)) = some (a, b)) (h3 : X.map C = some c) : X.map (fun s => (A s, B s, C s)) = some (a, b, c) := by
  cases X with
  | none => cases h1
  | some s =>
    cases h1
    cases h3
    rfl
end SF
namespace SF
open PySem PySem.Spec PyProof.Rows L2 DL
theorem run1 (w : World) (os : OsState) : Option.map (fun s => (HandSHeadRun.looksF R.prog (PySem.W.boot_heap w.params) s.abs, HandSHeadRun.seenQ (PySem.W.view R.prog [62]) names (importedModules R.prog.main.body) (fun s => PySem.W.xlAt (PySem.W.view R.prog [62]) [] s && PySem.W.recOk R.records s) s.abs)) (HandSHeadRun.endF (HandSHeadRun.stepQ (HandSHeadRun.denQ HandSHeadRun.tabQ) R.prog w) 20000 R.prog w os) = some (true, PySem.W.openGood (PySem.W.view R.prog [62]) names) := by
  kernel_rfl
end SF
namespace SF
open PySem PySem.Spec PyProof.Rows L2 DL
theorem run3 (w : World) (os : OsState) : Option.map (fun s => ob s) (HandSHeadRun.endF (HandSHeadRun.stepQ (HandSHeadRun.denQ HandSHeadRun.tabQ) R.prog w) 20000 R.prog w os) = some (hk.val w) := by
  kernel_rfl
end SF
namespace SF
open PySem PySem.Spec PyProof.Rows L2 DL
theorem run (w : World) : HandSHeadRun.RunEq R (PySem.W.view R.prog [62]) hk ob 20000 names w := fun os => map3 (run1 w os) (run3 w os)
end SF
namespace DL
open PySem L2

structure FnRec where
  n : Nat
  params : Arguments
  body : Expr
  scope : Scope
  cl : List (Str × Addr)
  dT : Option Addr
def lamQ : Str := "law.<locals>.<lambda>"
def FnRec.dV (F : FnRec) : Value := match F.dT with
  | some T => .ref T
  | none => .none
def LamO (F : FnRec) (f c : Addr) : HO := .ext fun h => ∃ doc pm ctv : Value, h.get? f = some (PySem.W.kdv_obj "<lambda>" lamQ F.params (.expr F.body) F.scope F.cl F.dV doc pm c ctv)
inductive D where
  | non | bl (b : Bool) | int (i : Int) | str (s : Str) | lst (l : List D) | tup (l : List D) | obj (C : Addr) (fs : List (Str × D)) | deal | ty (n : String) | cl (C : Addr) | unk | scr (ns : List Int) | fn (F : FnRec)

theorem same_t {K : PySem.W.Frag} {H H' : Hp} {a : Addr} {xs : List V} (e : Same H H') (h : SqT K H a xs) : SqT K H' a xs := by
  rcases h with (h | ⟨o, h⟩) | h
  · exact .inl (.inl (e _ _ h))
  · exact .inl (.inr ⟨o, e _ _ h⟩)
  · exact .inr h
theorem same_l {K : PySem.W.Frag} {H H' : Hp} {a : Addr} {xs : List V} (e : Same H H') (h : SqL K H a xs) : SqL K H' a xs := by
  rcases h with (h | ⟨o, h⟩) | h
  · exact .inl (.inl (e _ _ h))
  · exact .inl (.inr ⟨o, e _ _ h⟩)
  · exact .inr h
theorem Same.new {H : Hp} {p : Addr} {o : HO} (h : H p = none) : Same H (upd H p o) := fun a u e => by
  rw [upd_ne (ne_of_none e h)]
  exact e

mutual
inductive Rp (K : PySem.W.Frag) (da : Option Addr) (G : Hp) : D → V → Prop
  | non : Rp K da G .non .non
  | bl (b : Bool) : Rp K da G (.bl b) (.bl b)
  | int (i : Int) : Rp K da G (.int i) (.int i)
  | str (s : Str) : Rp K da G (.str s) (.str s)
  | lst {a : Addr} {xs : List V} {ds : List D} : G a = some (.lst xs) → RpA K da G ds xs → Rp K da G (.lst ds) (.ref a)
  | tup {a : Addr} {xs : List V} {ds : List D} : SqT K G a xs → RpA K da G ds xs → Rp K da G (.tup ds) (.ref a)
  | obj {a C dx : Addr} {fs : List (Str × D)} {gs : List (Str × V)} : G a = some (.ins C dx gs) → RpF K da G fs gs → Rp K da G (.obj C fs) (.ref a)
  | deal {a : Addr} : da = some a → Rp K da G .deal (.ref a)
  | ty (n : String) : Rp K da G (.ty n) (.ty n)
  | cl (C : Addr) : Rp K da G (.cl C) (.ref C)
  | unk (v : V) : Rp K da G .unk v
  | scr {a : Addr} {ns : List Int} : SqL K G a (ns.map V.int) → Rp K da G (.scr ns) (.ref a)
  | fn {F : FnRec} {f c : Addr} : G f = some (LamO F f c) → G c = some (LamX.CodeO c lamQ) → (∀ T, F.dT = some T → G T = some (.tup [.int 0])) → Rp K da G (.fn F) (.ref f)
inductive RpA (K : PySem.W.Frag) (da : Option Addr) (G : Hp) : List D → List V → Prop
  | nil : RpA K da G [] []
  | cons {d : D} {ds : List D} {v : V} {vs : List V} : Rp K da G d v → RpA K da G ds vs → RpA K da G (d :: ds) (v :: vs)
inductive RpF (K : PySem.W.Frag) (da : Option Addr) (G : Hp) : List (Str × D) → List (Str × V) → Prop
  | nil : RpF K da G [] []
  | cons {f : Str} {d : D} {ds : List (Str × D)} {v : V} {vs : List (Str × V)} : Rp K da G d v → RpF K da G ds vs → RpF K da G ((f, d) :: ds) ((f, v) :: vs)
end

section
variable {K : PySem.W.Frag} {da da' : Option Addr} {G G' : Hp}
mutual
theorem Rp.mono (e : Same G G') (ed : ∀ a, da = some a → da' = some a) : ∀ {d : D} {v : V}, Rp K da G d v → Rp K da' G' d v
  | _, _, .non => .non
  | _, _, .bl b => .bl b
  | _, _, .int i => .int i
  | _, _, .str s => .str s
  | _, _, .lst h r => .lst (e _ _ h) (RpA.mono e ed r)
  | _, _, .tup h r => .tup (same_t e h) (RpA.mono e ed r)
  | _, _, .obj h r => .obj (e _ _ h) (RpF.mono e ed r)
  | _, _, .deal h => .deal (ed _ h)
  | _, _, .ty n => .ty n
  | _, _, .cl C => .cl C
  | _, _, .unk v => .unk v
  | _, _, .scr h => .scr (same_l e h)
  | _, _, .fn h1 h2 h3 => .fn (e _ _ h1) (e _ _ h2) fun T hT => e _ _ (h3 T hT)
theorem RpA.mono (e : Same G G') (ed : ∀ a, da = some a → da' = some a) : ∀ {d : List D} {v : List V}, RpA K da G d v → RpA K da' G' d v
  | _, _, .nil => .nil
  | _, _, .cons h r => .cons (Rp.mono e ed h) (RpA.mono e ed r)
theorem RpF.mono (e : Same G G') (ed : ∀ a, da = some a → da' = some a) : ∀ {d : List (Str × D)} {v : List (Str × V)}, RpF K da G d v → RpF K da' G' d v
  | _, _, .nil => .nil
  | _, _, .cons h r => .cons (Rp.mono e ed h) (RpF.mono e ed r)
end
theorem Rp.up {d : D} {v : V} (h : Rp K da G d v) (e : Same G G') : Rp K da G' d v := h.mono e fun _ q => q
theorem RpA.up {d : List D} {v : List V} (h : RpA K da G d v) (e : Same G G') : RpA K da G' d v := h.mono e fun _ q => q
theorem RpF.up {d : List (Str × D)} {v : List (Str × V)} (h : RpF K da G d v) (e : Same G G') : RpF K da G' d v := h.mono e fun _ q => q
theorem RpA.length : ∀ {ds : List D} {vs : List V}, RpA K da G ds vs → ds.length = vs.length
  | _, _, .nil => rfl
  | _, _, .cons _ r => congrArg (· + 1) (RpA.length r)
theorem RpA.app : ∀ {ds es : List D} {vs ws : List V}, RpA K da G ds vs → RpA K da G es ws → RpA K da G (ds ++ es) (vs ++ ws)
  | _, _, _, _, .nil, s => s
  | _, _, _, _, .cons h r, s => .cons h (RpA.app r s)
theorem RpA.get : ∀ {ds : List D} {vs : List V} {i : Nat} {d : D}, RpA K da G ds vs → ds[i]? = some d → ∃ v, vs[i]? = some v ∧ Rp K da G d v
  | _, _, _, _, .nil, e => by simp at e
  | _, _, 0, _, .cons h _, e => by simp at e; subst e; exact ⟨_, rfl, h⟩
  | _, _, i + 1, d, .cons _ r, e => by
    obtain ⟨u, h1, h2⟩ := RpA.get (i := i) (d := d) r (by simpa using e)
    exact ⟨u, by simpa using h1, h2⟩
theorem RpA.getV : ∀ {ds : List D} {vs : List V} {i : Nat} {v : V}, RpA K da G ds vs → vs[i]? = some v → ∃ d, ds[i]? = some d ∧ Rp K da G d v
  | _, _, _, _, .nil, e => by simp at e
  | _, _, 0, _, .cons h _, e => by simp at e; subst e; exact ⟨_, rfl, h⟩
  | _, _, i + 1, d, .cons _ r, e => by
    obtain ⟨u, h1, h2⟩ := RpA.getV (i := i) (v := d) r (by simpa using e)
    exact ⟨u, by simpa using h1, h2⟩
theorem RpA.take : ∀ {ds : List D} {vs : List V} (n : Nat), RpA K da G ds vs → RpA K da G (ds.take n) (vs.take n)
  | _, _, 0, _ => .nil
  | _, _, _ + 1, .nil => .nil
  | _, _, n + 1, .cons h r => .cons h (RpA.take n r)
theorem RpA.drop : ∀ {ds : List D} {vs : List V} (n : Nat), RpA K da G ds vs → RpA K da G (ds.drop n) (vs.drop n)
  | _, _, 0, r => r
  | _, _, _ + 1, .nil => .nil
  | _, _, n + 1, .cons _ r => RpA.drop n r
theorem RpA.set {d : D} {v : V} (h : Rp K da G d v) : ∀ {ds : List D} {vs : List V} (i : Nat), RpA K da G ds vs → RpA K da G (ds.set i d) (vs.set i v)
  | _, _, _, .nil => .nil
  | _, _, 0, .cons _ r => .cons h r
  | _, _, i + 1, .cons q r => .cons q (RpA.set h i r)
theorem RpA.erase : ∀ {ds : List D} {vs : List V} (i : Nat), RpA K da G ds vs → RpA K da G (ds.eraseIdx i) (vs.eraseIdx i)
  | _, _, _, .nil => .nil
  | _, _, 0, .cons _ r => r
  | _, _, i + 1, .cons q r => .cons q (RpA.erase i r)
theorem RpA.rev {ds : List D} {vs : List V} (h : RpA K da G ds vs) : RpA K da G ds.reverse vs.reverse := by
  induction ds generalizing vs with
  | nil => cases h; exact .nil
  | cons d ds ih => cases h with
    | cons a b => rw [List.reverse_cons, List.reverse_cons]; exact (ih b).app (.cons a .nil)
theorem RpF.get : ∀ {ds : List (Str × D)} {vs : List (Str × V)} {f : Str} {d : D}, RpF K da G ds vs → ds.lookup f = some d → ∃ v, vs.lookup f = some v ∧ Rp K da G d v
  | _, _, _, _, .nil, e => by simp at e
  | _, _, f, d, .cons (f := g) (ds := ds) (vs := vs) h r, e => by
    by_cases hf : f = g
    · subst hf
      rw [List.lookup_cons_self] at e
      cases e
      exact ⟨_, List.lookup_cons_self, h⟩
    · have hb : (f == g) = false := by simpa using hf
      rw [List.lookup_cons, hb] at e
      obtain ⟨v, h1, h2⟩ := RpF.get r e
      exact ⟨v, by rw [List.lookup_cons, hb]; exact h1, h2⟩
theorem RpF.no : ∀ {ds : List (Str × D)} {vs : List (Str × V)} {f : Str}, RpF K da G ds vs → ds.lookup f = none → vs.lookup f = none
  | _, _, _, .nil, e => rfl
  | _, _, f, .cons (f := g) (ds := ds) (vs := vs) h r, e => by
    by_cases hf : f = g
    · subst hf
      rw [List.lookup_cons_self] at e
      cases e
    · have hb : (f == g) = false := by simpa using hf
      rw [List.lookup_cons, hb] at e ⊢
      exact RpF.no r e
theorem RpF.length : ∀ {ds : List (Str × D)} {vs : List (Str × V)}, RpF K da G ds vs → ds.length = vs.length
  | _, _, .nil => rfl
  | _, _, .cons _ r => congrArg (· + 1) (RpF.length r)
structure TabOk (K : PySem.W.Frag) (G H : Hp) : Prop where
  tab : ∀ ps : Array Value, H (lawT K) = some (.tbl ps) → TriplesOk ps.toList ∧ ∀ (pos : Pos) (cv : Value), codeAmong pos ps.toList = some cv → ∃ c, cv = .ref c ∧ G c = some (LamX.CodeO c lamQ)
  ex : lawT K ≠ 0 → ∃ ps, H (lawT K) = some (.tbl ps)
  noG : ∀ (b : Addr) (ps : Array Value), G b ≠ some (.tbl ps)
def NTb (H : Hp) (a : Addr) : Prop := ∀ ps, H a ≠ some (.tbl ps)
theorem NTb.none {H : Hp} {a : Addr} (h : H a = Option.none) : NTb H a := fun _ z => by rw [h] at z; cases z
theorem NTb.lst {H : Hp} {a : Addr} {xs : List V} (h : H a = some (.lst xs)) : NTb H a := fun _ z => by rw [h] at z; cases z
theorem NTb.ins {H : Hp} {a C d : Addr} {xs : List (Str × V)} (h : H a = some (.ins C d xs)) : NTb H a := fun _ z => by rw [h] at z; cases z
theorem TabOk.up {K : PySem.W.Frag} {G H G1 H1 : Hp} (t : TabOk K G H) (eg : Same G G1) (hT : ∀ b, H1 b = H b ∨ (NTb H b ∧ NTb H1 b)) (hG : ∀ b ps, G1 b = some (.tbl ps) → G b = some (.tbl ps)) : TabOk K G1 H1 where
  tab := fun ps h => by
    rcases hT (lawT K) with z | z
    · rw [z] at h
      obtain ⟨h1, h2⟩ := t.tab ps h
      refine ⟨h1, fun pos cv hcv => ?_⟩
      obtain ⟨c, e1, e2⟩ := h2 pos cv hcv
      exact ⟨c, e1, eg _ _ e2⟩
    · exact absurd h (z.2 ps)
  ex := fun n => by
    obtain ⟨ps, h⟩ := t.ex n
    rcases hT (lawT K) with z | z
    · exact ⟨ps, z.trans h⟩
    · exact absurd h (z.1 ps)
  noG := fun b ps h => t.noG b ps (hG b ps h)
theorem TabOk.updH {K : PySem.W.Frag} {G H : Hp} {a : Addr} {o : HO} (t : TabOk K G H) (hn : ∀ ps, o ≠ .tbl ps) (hc : NTb H a) : TabOk K G (L2.upd H a o) :=
  t.up (Same.refl _) (fun b => by
    by_cases e : b = a
    · subst e
      exact .inr ⟨hc, fun ps z => by rw [upd_same] at z; exact hn ps (Option.some.inj z)⟩
    · exact .inl (upd_ne e)) fun _ _ z => z
theorem TabOk.updG {K : PySem.W.Frag} {G H : Hp} {a : Addr} {o : HO} (t : TabOk K G H) (hn : ∀ ps, o ≠ .tbl ps) (ha : G a = none) : TabOk K (L2.upd G a o) H :=
  t.up (Same.new ha) (fun b => .inl rfl) fun b ps z => by
    by_cases e : b = a
    · subst e
      rw [upd_same] at z
      exact absurd (Option.some.inj z) (hn ps)
    · rw [upd_ne e] at z; exact z
def DealOk (K : PySem.W.Frag) (da : Option Addr) (G H : Hp) : Prop := TabOk K G H ∧ ∀ a, da = some a → G a = none ∧ ∃ (b : Addr) (ns : List Int) (p q m t : Int),
  H a = some (.lst [.ref b, .int p, .int q, .int m, .int t]) ∧ G b = some (.lst (ns.map V.int)) ∧ ns.length ≤ 63 ∧ 0 ≤ p ∧ 0 ≤ q ∧ 0 ≤ m ∧ m < 2147483563
end

inductive SD where
  | no | val (d : D) | own (ds : List D) | box (p : Addr) (ds ls : List D) | ini (x dx C : Addr) (fs : List (Str × D))
abbrev Env := List SD

def Slot (K : PySem.W.Frag) (da : Option Addr) (G H : Hp) : SD → Option (Option V) → List Addr → Prop
  | .no, _, A => A = []
  | .val d, o, A => A = [] ∧ ∃ v, o = some (some v) ∧ Rp K da G d v
  | .own ds, o, A => ∃ (a : Addr) (xs : List V), A = [a] ∧ o = some (some (.ref a)) ∧ H a = some (.lst xs) ∧ RpA K da G ds xs
  | .box a ds ls, o, A => ∃ (t : Addr) (xs ys : List V), A = [a] ∧ o = some (some (.ref t)) ∧ SqT K G t (xs ++ [.ref a]) ∧ H a = some (.lst ys) ∧ RpA K da G ds xs ∧ RpA K da G ls ys
  | .ini x dx C fs, o, A => ∃ (gs : List (Str × V)), A = [x, dx] ∧ dx ≠ x ∧ o = some (some (.ref x)) ∧ H x = some (.ins C dx gs) ∧ H dx = some (.own x) ∧ RpF K da G fs gs

structure En where
  G : Hp
  H : Hp

def Kept (o : HO) (x : Option HO) : Prop := x = some o ∨ ∃ ps ps', o = .tbl ps ∧ x = some (.tbl ps')
theorem Kept.ne {o : HO} {x : Option HO} (h : Kept o x) : x ≠ none := by
  rcases h with h | ⟨_, _, _, h⟩ <;> rw [h] <;> simp
theorem Kept.nt {o : HO} {x : Option HO} (h : Kept o x) (n : ∀ ps, o ≠ .tbl ps) : x = some o := by
  rcases h with h | ⟨ps, _, h, _⟩
  · exact h
  · exact absurd h (n ps)
def NT (x : Option HO) : Prop := ∃ o, x = some o ∧ ∀ ps, o ≠ .tbl ps
theorem NT.ne {x : Option HO} (h : NT x) : x ≠ none := by
  obtain ⟨o, h, _⟩ := h
  rw [h]; simp
theorem NT.upd {H : Hp} {p : Addr} {o : HO} (n : ∀ ps, o ≠ .tbl ps) : NT (L2.upd H p o p) := ⟨o, upd_same, n⟩
structure Trn (K : PySem.W.Frag) (da : Option Addr) (G H G' H' : Hp) : Prop where
  ex : Same G' H'
  eg : Same G G'
  kp : ∀ b o, H b = some o → da ≠ some b → Kept o (H' b)
  fr : ∀ b o, G' b = some o → G b = some o ∨ H b = none
  dl : DealOk K da G' H'

structure Rel0 (K : PySem.W.Frag) (e : En) (da : Option Addr) (G : Hp) (δ : Env) (σ : L2.St) (H : Hp) : Prop extends Trn K da e.G e.H G H where
  ln : δ.length = σ.length
  sl : ∃ A : Nat → List Addr, (∀ i s, δ[i]? = some s → Slot K da G H s (σ[i]?) (A i)) ∧ (∀ i a, a ∈ A i → e.H a = none ∧ da ≠ some a ∧ G a = none ∧ NT (H a)) ∧ ∀ i j a, i ≠ j → a ∈ A i → a ∈ A j → False

section
variable {K : PySem.W.Frag} {e : En} {da : Option Addr} {G G' H H' : Hp} {δ δ' : Env} {σ : L2.St} {d : D} {ds : List D} {v : V} {xs : List V} {i : Nat} {p : Addr}

theorem Trn.refl (ex : Same G H) (dl : DealOk K da G H) : Trn K da G H G H := ⟨ex, Same.refl _, fun _ _ h _ => .inl h, fun _ _ h => .inl h, dl⟩
theorem Trn.trans {G1 H1 G2 H2 : Hp} (a : Trn K da G H G1 H1) (b : Trn K da G1 H1 G2 H2) : Trn K da G H G2 H2 where
  ex := b.ex
  eg := a.eg.trans b.eg
  kp := fun c o h n => by
    rcases a.kp c o h n with h1 | ⟨ps, ps', e, h1⟩
    · exact b.kp c o h1 n
    · subst e
      rcases b.kp c _ h1 n with h2 | ⟨q1, q2, e, h2⟩
      · exact .inr ⟨ps, ps', rfl, h2⟩
      · exact .inr ⟨ps, q2, rfl, h2⟩
  fr := fun c o h => by
    rcases b.fr c o h with q | q
    · exact a.fr c o q
    · cases r : H c with
      | none => exact .inr rfl
      | some u =>
        by_cases n : da = some c
        · have := (b.dl.2 c n).1
          rw [this] at h; cases h
        · exact absurd q (a.kp c u r n).ne
  dl := b.dl
theorem DealOk.up {G1 H1 : Hp} (x : DealOk K da G H) (eg : Same G G1) (ht : TabOk K G H → TabOk K G1 H1) (hd : ∀ a, da = some a → G1 a = none ∧ H1 a = H a) : DealOk K da G1 H1 := ⟨ht x.1, fun a e => by
  obtain ⟨_, b, ns, p, q, m, t, h, hs, r⟩ := x.2 a e
  obtain ⟨g, h'⟩ := hd a e
  exact ⟨g, b, ns, p, q, m, t, by rw [h']; exact h, eg _ _ hs, r⟩⟩
theorem DealOk.ne (x : DealOk K da G H) {p : Addr} (h : H p = none) : da ≠ some p := fun e => by
  obtain ⟨_, b, ns, a, q, m, t, h', _⟩ := x.2 p e
  rw [h] at h'; cases h'
theorem gno {G H : Hp} {p : Addr} (e : Same G H) (h : H p = none) : G p = none := by
  cases q : G p with
  | none => rfl
  | some u => rw [e p u q] at h; cases h
theorem Trn.put (ex : Same G H) (dl : DealOk K da G H) {o : HO} (h : H p = none) (hn : ∀ ps, o ≠ .tbl ps := by intro ps z; cases z) : Trn K da G H (upd G p o) (upd H p o) where
  ex := fun a u q => by
    by_cases ha : a = p
    · subst ha; rw [upd_same] at q ⊢; exact q
    · rw [upd_ne ha] at q ⊢; exact ex a u q
  eg := fun a u q => by rw [upd_ne (ne_of_none (ex a u q) h)]; exact q
  kp := fun b u q _ => by rw [upd_ne (ne_of_none q h)]; exact .inl q
  fr := fun b u q => by
    by_cases hb : b = p
    · subst hb; exact .inr h
    · rw [upd_ne hb] at q; exact .inl q
  dl := dl.up (fun a u q => by rw [upd_ne (ne_of_none (ex a u q) h)]; exact q) (fun t => (t.updG hn (gno ex h)).updH hn (.none h)) fun a ea => by
    have n : a ≠ p := fun z => dl.ne h (by rw [← z]; exact ea)
    rw [upd_ne n, upd_ne n]
    exact ⟨(dl.2 a ea).1, rfl⟩
theorem Trn.mine (ex : Same G H) (dl : DealOk K da G H) {o : HO} (h : H p = none) (hn : ∀ ps, o ≠ .tbl ps := by intro ps z; cases z) : Trn K da G H G (upd H p o) where
  ex := fun a u q => by rw [upd_ne (ne_of_none (ex a u q) h)]; exact ex a u q
  eg := Same.refl _
  kp := fun b u q _ => by rw [upd_ne (ne_of_none q h)]; exact .inl q
  fr := fun b u q => .inl q
  dl := dl.up (Same.refl _) (fun t => t.updH hn (.none h)) fun a ea => by
    have n : a ≠ p := fun z => dl.ne h (by rw [← z]; exact ea)
    rw [upd_ne n]
    exact ⟨(dl.2 a ea).1, rfl⟩

theorem Slot.up {s : SD} {o : Option (Option V)} {A : List Addr} (x : Slot K da G H s o A) (eg : Same G G') (hk : ∀ a ∈ A, H' a = H a) : Slot K da G' H' s o A := by
  cases s with
  | no => exact x
  | val d => obtain ⟨r, v, e, q⟩ := x; exact ⟨r, v, e, q.up eg⟩
  | own ds =>
    obtain ⟨a, xs, r, e, h, q⟩ := x
    exact ⟨a, xs, r, e, by rw [hk a (by rw [r]; exact List.mem_cons_self)]; exact h, q.up eg⟩
  | box a ds ls =>
    obtain ⟨t, xs, ys, r, e, h, h2, q, q2⟩ := x
    exact ⟨t, xs, ys, r, e, same_t eg h, by rw [hk a (by rw [r]; exact List.mem_cons_self)]; exact h2, q.up eg, q2.up eg⟩
  | ini t a C fs =>
    obtain ⟨gs, r, ne, e, h, h2, q⟩ := x
    exact ⟨gs, r, ne, e, by rw [hk t (by rw [r]; exact List.mem_cons_self)]; exact h, by rw [hk a (by rw [r]; exact List.mem_cons_of_mem _ List.mem_cons_self)]; exact h2, q.up eg⟩

theorem Rel0.go (R : Rel0 K e da G δ σ H) (T : Trn K da G H G' H') : Rel0 K e da G' δ σ H' := by
  obtain ⟨A, h1, h2, h3⟩ := R.sl
  refine ⟨R.toTrn.trans T, R.ln, A, fun i s q => (h1 i s q).up T.eg fun a ha => ?_, fun i a ha => ?_, h3⟩
  · obtain ⟨_, n, _, u, r, nt⟩ := h2 i a ha
    rw [r]
    exact (T.kp a u r n).nt nt
  · obtain ⟨q1, n, q2, x⟩ := h2 i a ha
    refine ⟨q1, n, ?_, ?_⟩
    · cases r : G' a with
      | none => rfl
      | some u =>
        rcases T.fr a u r with z | z
        · rw [q2] at z; cases z
        · exact absurd z x.ne
    · obtain ⟨u, r, nt⟩ := x
      exact ⟨u, (T.kp a u r n).nt nt, nt⟩
theorem Rel0.put {o : HO} (R : Rel0 K e da G δ σ H) (h : H p = none) (hn : ∀ ps, o ≠ .tbl ps := by intro ps z; cases z) : Rel0 K e da (upd G p o) δ σ (upd H p o) := R.go (Trn.put R.ex R.dl h hn)
theorem get_set {α : Type} {l : List α} {i j : Nat} {x s : α} (h : (l.set i x)[j]? = some s) : (j = i ∧ i < l.length ∧ s = x) ∨ (j ≠ i ∧ l[j]? = some s) := by
  by_cases e : i = j
  · subst e
    by_cases q : i < l.length
    · rw [List.getElem?_set_self q] at h
      exact .inl ⟨rfl, q, (Option.some.inj h).symm⟩
    · rw [List.getElem?_eq_none (by rw [List.length_set]; omega)] at h; cases h
  · rw [List.getElem?_set_ne e] at h
    exact .inr ⟨fun z => e z.symm, h⟩
theorem Rel0.slot {G2 H2 : Hp} {s : SD} {o : Option V} {B C : List Addr} (R : Rel0 K e da G δ σ H) (T : Trn K da e.G e.H G2 H2) (i : Nat)
    (eg : Same G G2) (hk : ∀ a, H a ≠ none → G a = none → a ∉ C → H2 a = H a ∧ G2 a = none) (hB : ∀ a ∈ B, a ∈ C ∧ e.H a = none ∧ da ≠ some a ∧ G2 a = none ∧ NT (H2 a))
    (hnew : ∀ A : Nat → List Addr, (∀ i s, δ[i]? = some s → Slot K da G H s (σ[i]?) (A i)) → (∀ i a, a ∈ A i → H a ≠ none ∧ G a = none) → ∀ a ∈ C, a ∈ A i ∨ H a = none)
    (hs : Slot K da G2 H2 s (some o) B) : Rel0 K e da G2 (δ.set i s) (σ.set i o) H2 := by
  obtain ⟨A, h1, h2, h3⟩ := R.sl
  have nb : ∀ j a, j ≠ i → a ∈ A j → a ∉ C := fun j a n ha z => by
    rcases hnew A h1 (fun i a ha => ⟨(h2 i a ha).2.2.2.ne, (h2 i a ha).2.2.1⟩) a z with q | q
    · exact h3 j i a n ha q
    · exact (h2 j a ha).2.2.2.ne q
  refine ⟨T, by rw [List.length_set, List.length_set]; exact R.ln, fun j => if j = i then B else A j, fun j s' q => ?_, fun j a ha => ?_, fun j k a n ha hb => ?_⟩
  · rcases get_set q with ⟨rfl, lt, rfl⟩ | ⟨n, q⟩
    · dsimp only
      rw [if_pos rfl, List.getElem?_set_self (by rw [← R.ln]; exact lt)]
      exact hs
    · dsimp only
      rw [if_neg n, List.getElem?_set_ne (Ne.symm n)]
      exact (h1 j s' q).up eg fun a ha => (hk a (h2 j a ha).2.2.2.ne (h2 j a ha).2.2.1 (nb j a n ha)).1
  · dsimp only at ha
    by_cases n : j = i
    · rw [if_pos n] at ha
      exact (hB a ha).2
    · rw [if_neg n] at ha
      obtain ⟨q1, q2, q3, q4⟩ := h2 j a ha
      obtain ⟨z1, z2⟩ := hk a q4.ne q3 (nb j a n ha)
      exact ⟨q1, q2, z2, by rw [z1]; exact q4⟩
  · dsimp only at ha hb
    by_cases n1 : j = i
    · rw [if_pos n1] at ha
      have n2 : k ≠ i := fun z => n (n1.trans z.symm)
      rw [if_neg n2] at hb
      exact nb k a n2 hb (hB a ha).1
    · rw [if_neg n1] at ha
      by_cases n2 : k = i
      · rw [if_pos n2] at hb
        exact nb j a n1 ha (hB a hb).1
      · rw [if_neg n2] at hb
        exact h3 j k a n ha hb
theorem Rel0.val (R : Rel0 K e da G δ σ H) (h : Rp K da G d v) (i : Nat) : Rel0 K e da G (δ.set i (.val d)) (σ.set i (some v)) H :=
  R.slot (B := []) (C := []) R.toTrn i (Same.refl _) (fun a _ g _ => ⟨rfl, g⟩) (fun a ha => absurd ha (by simp)) (fun _ _ _ a ha => absurd ha (by simp)) ⟨rfl, v, rfl, h⟩
theorem Rel0.forget (R : Rel0 K e da G δ σ H) (o : Option V) (i : Nat) : Rel0 K e da G (δ.set i .no) (σ.set i o) H :=
  R.slot (B := []) (C := []) R.toTrn i (Same.refl _) (fun a _ g _ => ⟨rfl, g⟩) (fun a ha => absurd ha (by simp)) (fun _ _ _ a ha => absurd ha (by simp)) rfl
theorem Rel0.enone (R : Rel0 K e da G δ σ H) (hp : H p = none) : e.H p = none ∧ G p = none := by
  constructor
  · cases q : e.H p with
    | none => rfl
    | some u => exact absurd hp (R.kp p u q (R.dl.ne hp)).ne
  · cases q : G p with
    | none => rfl
    | some u => rw [R.ex p u q] at hp; cases hp
theorem Rel0.mine (R : Rel0 K e da G δ σ H) (hp : H p = none) (h : RpA K da G ds xs) (i : Nat) : Rel0 K e da G (δ.set i (.own ds)) (σ.set i (some (.ref p))) (upd H p (.lst xs)) := by
  obtain ⟨eHp, gp⟩ := R.enone hp
  refine R.slot (B := [p]) (C := [p]) (R.toTrn.trans (Trn.mine R.ex R.dl hp)) i (Same.refl _) (fun a ha g nb => ⟨upd_ne (fun z => nb (by simp [z])), g⟩) (fun a ha => ?_) (fun A _ _ a ha => ?_) ⟨p, xs, rfl, rfl, upd_same, h⟩
  · obtain rfl : a = p := by simpa using ha
    exact ⟨ha, eHp, R.dl.ne hp, gp, NT.upd (by intro ps z; cases z)⟩
  · obtain rfl : a = p := by simpa using ha
    exact .inr hp
theorem Rel0.at (R : Rel0 K e da G δ σ H) {s : SD} (h : δ[i]? = some s) : ∃ A, Slot K da G H s (σ[i]?) A ∧ ∀ a ∈ A, e.H a = none ∧ da ≠ some a ∧ G a = none ∧ NT (H a) := by
  obtain ⟨A, h1, h2, _⟩ := R.sl
  exact ⟨A i, h1 i s h, h2 i⟩
theorem set_at {α : Type} {l : List α} {i : Nat} {x : α} (h : l[i]? = some x) : l.set i x = l := by
  apply List.ext_getElem?
  intro j
  by_cases e : i = j
  · subst e
    rw [List.getElem?_set_self (List.getElem?_eq_some_iff.mp h).1, h]
  · rw [List.getElem?_set_ne e]
theorem Rel0.own_at (R : Rel0 K e da G δ σ H) (h : δ[i]? = some (.own ds)) : ∃ (a : Addr) (xs : List V), σ[i]? = some (some (.ref a)) ∧ H a = some (.lst xs) ∧ RpA K da G ds xs ∧ e.H a = none ∧ da ≠ some a ∧ G a = none := by
  obtain ⟨A, ⟨a, xs, rfl, q1, q2, q3⟩, hA⟩ := R.at h
  obtain ⟨z1, z2, z3, _⟩ := hA a List.mem_cons_self
  exact ⟨a, xs, q1, q2, q3, z1, z2, z3⟩
theorem Rel0.own_set {es : List D} {ys : List V} {a : Addr} (R : Rel0 K e da G δ σ H) (h : δ[i]? = some (.own ds)) (hσ : σ[i]? = some (some (.ref a))) (r : RpA K da G es ys) :
    Rel0 K e da G (δ.set i (.own es)) σ (upd H a (.lst ys)) := by
  obtain ⟨a', xs, q1, q2, q3, z1, z2, z3⟩ := R.own_at h
  rw [hσ] at q1; cases q1
  have hk : ∀ b, b ≠ a → upd H a (.lst ys) b = H b := fun b n => upd_ne n
  have T : Trn K da e.G e.H G (upd H a (.lst ys)) := ⟨fun b o q => by rw [hk b (fun z => by rw [z, z3] at q; cases q)]; exact R.ex b o q, R.eg,
    fun b o q n => by rw [hk b (fun z => by rw [z, z1] at q; cases q)]; exact R.kp b o q n, R.fr, R.dl.up (Same.refl _) (fun t => t.updH (by intro ps z; cases z) (.lst q2)) fun b eb => ⟨(R.dl.2 b eb).1, hk b fun z => z2 (by rw [← z]; exact eb)⟩⟩
  have Z := R.slot (s := .own es) (o := some (.ref a)) (B := [a]) (C := [a]) T i (Same.refl _) (fun b _ g nb => ⟨hk b fun z => nb (by simp [z]), g⟩) (fun b hb => ?_) (fun A h1 h2 b hb => ?_) ⟨a, ys, rfl, rfl, upd_same, r⟩
  · rw [set_at hσ] at Z
    exact Z
  · obtain rfl : b = a := by simpa using hb
    exact ⟨hb, z1, z2, z3, NT.upd (by intro ps z; cases z)⟩
  · obtain rfl : b = a := by simpa using hb
    obtain ⟨a2, xs2, r1, r2, _⟩ := h1 i _ h
    rw [hσ] at r2; cases r2
    exact .inl (by rw [r1]; exact List.mem_cons_self)
theorem Rel0.own_free (R : Rel0 K e da G δ σ H) (h : δ[i]? = some (.own ds)) : ∃ (a : Addr) (G' : Hp), σ[i]? = some (some (.ref a)) ∧ Rel0 K e da G' (δ.set i (.val (.lst ds))) σ H ∧ Same G G' ∧ Rp K da G' (.lst ds) (.ref a) := by
  obtain ⟨a, xs, q1, q2, q3, z1, z2, z3⟩ := R.own_at h
  have eg : Same G (upd G a (.lst xs)) := Same.new z3
  have rp : Rp K da (upd G a (.lst xs)) (.lst ds) (.ref a) := .lst upd_same (q3.up eg)
  have T : Trn K da e.G e.H (upd G a (.lst xs)) H := ⟨fun b o q => by
      by_cases hb : b = a
      · subst hb; rw [upd_same] at q; rw [q2]; exact q
      · rw [upd_ne hb] at q; exact R.ex b o q, R.eg.trans eg, R.kp, fun b o q => by
      by_cases hb : b = a
      · subst hb; exact .inr z1
      · rw [upd_ne hb] at q; exact R.fr b o q, R.dl.up eg (fun t => t.updG (by intro ps z; cases z) z3) fun b eb => ⟨by rw [upd_ne (fun z => z2 (by rw [← z]; exact eb))]; exact (R.dl.2 b eb).1, rfl⟩⟩
  have Z := R.slot (s := .val (.lst ds)) (o := some (.ref a)) (B := []) (C := [a]) T i eg (fun b _ g nb => ⟨rfl, by rw [upd_ne (fun z => nb (by simp [z]))]; exact g⟩) (fun b hb => absurd hb (by simp)) (fun A h1 h2 b hb => ?_) ⟨rfl, _, rfl, rp⟩
  · rw [set_at q1] at Z
    exact ⟨a, _, q1, Z, eg, rp⟩
  · obtain rfl : b = a := by simpa using hb
    obtain ⟨a2, xs2, r1, r2, _⟩ := h1 i _ h
    rw [q1] at r2; cases r2
    exact .inl (by rw [r1]; exact List.mem_cons_self)
theorem Rel0.free {a : Addr} (R : Rel0 K e da G δ σ H) (ha : H a = some (.lst xs)) (ga : G a = none) (ea : e.H a = none) (na : da ≠ some a) (r : RpA K da G ds xs) (hn : ∀ (i : Nat) (s : SD) (A : List Addr), δ[i]? = some s → Slot K da G H s (σ[i]?) A → a ∉ A) :
    ∃ G', Rel0 K e da G' δ σ H ∧ Same G G' ∧ Rp K da G' (.lst ds) (.ref a) := by
  have eg : Same G (upd G a (.lst xs)) := Same.new ga
  refine ⟨upd G a (.lst xs), ?_, eg, .lst upd_same (r.up eg)⟩
  have T : Trn K da e.G e.H (upd G a (.lst xs)) H := ⟨fun b o q => by
      by_cases hb : b = a
      · subst hb; rw [upd_same] at q; rw [ha]; exact q
      · rw [upd_ne hb] at q; exact R.ex b o q, R.eg.trans eg, R.kp, fun b o q => by
      by_cases hb : b = a
      · subst hb; exact .inr ea
      · rw [upd_ne hb] at q; exact R.fr b o q, R.dl.up eg (fun t => t.updG (by intro ps z; cases z) ga) fun b eb => ⟨by rw [upd_ne (fun z => na (by rw [← z]; exact eb))]; exact (R.dl.2 b eb).1, rfl⟩⟩
  obtain ⟨A, h1, h2, h3⟩ := R.sl
  refine ⟨T, R.ln, fun i => if i < δ.length then A i else [], fun i s q => ?_, fun i b hb => ?_, fun i j b n h h' => ?_⟩
  · dsimp only
    rw [if_pos (List.getElem?_eq_some_iff.mp q).1]
    exact (h1 i s q).up eg fun _ _ => rfl
  · dsimp only at hb
    by_cases lt : i < δ.length
    · rw [if_pos lt] at hb
      obtain ⟨q1, q2, q3, q4⟩ := h2 i b hb
      have ne : b ≠ a := fun z => hn i (δ[i]) (A i) (List.getElem?_eq_getElem lt) (h1 i _ (List.getElem?_eq_getElem lt)) (by rw [← z]; exact hb)
      exact ⟨q1, q2, by rw [upd_ne ne]; exact q3, q4⟩
    · rw [if_neg lt] at hb
      exact absurd hb (by simp)
  · dsimp only at h h'
    by_cases l1 : i < δ.length
    · rw [if_pos l1] at h
      by_cases l2 : j < δ.length
      · rw [if_pos l2] at h'
        exact h3 i j b n h h'
      · rw [if_neg l2] at h'; exact absurd h' (by simp)
    · rw [if_neg l1] at h; exact absurd h (by simp)
end
/-! ### with a raising end -/
abbrev DXs := Addr → List (Str × D) → Env → Prop
structure KW where
  K : PySem.W.Frag
  W : L2.WX
  xs : DXs
instance : Coe KW PySem.W.Frag := ⟨KW.K⟩
def KW.still (K : KW) : KW := ⟨K.K, fun _ _ _ _ => False, fun _ _ _ => False⟩
def XOk (K : KW) (e : En) (da : Option Addr) : Prop := ∀ (C dd : Addr) (fs : List (Str × D)) (gs : List (Str × V)) (G : Hp) (δ : Env) (σ : L2.St) (H : Hp), Rel0 K.K e da G δ σ H → H dd = some (.xd gs) → RpF K.K da G fs gs → K.xs C fs δ → K.W (.ref C) (some dd) σ H
structure Rel (K : KW) (e : En) (da : Option Addr) (G : Hp) (δ : Env) (σ : L2.St) (H : Hp) : Prop extends Rel0 K.K e da G δ σ H where
  xo : XOk K e da
section
variable {K : KW} {e : En} {da : Option Addr} {G G' H H' : Hp} {δ δ' : Env} {σ : L2.St} {d : D} {ds : List D} {v : V} {xs : List V} {i : Nat} {p : Addr}
theorem Rel.go (R : Rel K e da G δ σ H) (T : Trn K da G H G' H') : Rel K e da G' δ σ H' := ⟨R.toRel0.go T, R.xo⟩
theorem Rel.put {o : HO} (R : Rel K e da G δ σ H) (h : H p = none) (hn : ∀ ps, o ≠ .tbl ps := by intro ps z; cases z) : Rel K e da (upd G p o) δ σ (upd H p o) := ⟨R.toRel0.put h hn, R.xo⟩
theorem Rel.slot {G2 H2 : Hp} {s : SD} {o : Option V} {B C : List Addr} (R : Rel K e da G δ σ H) (T : Trn K da e.G e.H G2 H2) (i : Nat)
    (eg : Same G G2) (hk : ∀ a, H a ≠ none → G a = none → a ∉ C → H2 a = H a ∧ G2 a = none) (hB : ∀ a ∈ B, a ∈ C ∧ e.H a = none ∧ da ≠ some a ∧ G2 a = none ∧ NT (H2 a))
    (hnew : ∀ A : Nat → List Addr, (∀ i s, δ[i]? = some s → Slot K da G H s (σ[i]?) (A i)) → (∀ i a, a ∈ A i → H a ≠ none ∧ G a = none) → ∀ a ∈ C, a ∈ A i ∨ H a = none)
    (hs : Slot K da G2 H2 s (some o) B) :
    Rel K e da G2 (δ.set i s) (σ.set i o) H2 := ⟨R.toRel0.slot T i eg hk hB hnew hs, R.xo⟩
theorem Rel.val (R : Rel K e da G δ σ H) (h : Rp K da G d v) (i : Nat) : Rel K e da G (δ.set i (.val d)) (σ.set i (some v)) H := ⟨R.toRel0.val h i, R.xo⟩
theorem Rel.forget (R : Rel K e da G δ σ H) (o : Option V) (i : Nat) : Rel K e da G (δ.set i .no) (σ.set i o) H := ⟨R.toRel0.forget o i, R.xo⟩
theorem Rel.mine (R : Rel K e da G δ σ H) (hp : H p = none) (h : RpA K da G ds xs) (i : Nat) : Rel K e da G (δ.set i (.own ds)) (σ.set i (some (.ref p))) (upd H p (.lst xs)) := ⟨R.toRel0.mine hp h i, R.xo⟩
theorem Rel.own_set {es : List D} {ys : List V} {a : Addr} (R : Rel K e da G δ σ H) (h : δ[i]? = some (.own ds)) (hσ : σ[i]? = some (some (.ref a))) (r : RpA K da G es ys) :
    Rel K e da G (δ.set i (.own es)) σ (upd H a (.lst ys)) := ⟨R.toRel0.own_set h hσ r, R.xo⟩
theorem Rel.own_free (R : Rel K e da G δ σ H) (h : δ[i]? = some (.own ds)) : ∃ (a : Addr) (G' : Hp), σ[i]? = some (some (.ref a)) ∧ Rel K e da G' (δ.set i (.val (.lst ds))) σ H ∧ Same G G' ∧ Rp K da G' (.lst ds) (.ref a) :=
  let ⟨a, G', h1, h2, h3⟩ := R.toRel0.own_free h; ⟨a, G', h1, ⟨h2, R.xo⟩, h3⟩
theorem Rel.free {a : Addr} (R : Rel K e da G δ σ H) (ha : H a = some (.lst xs)) (ga : G a = none) (ea : e.H a = none) (na : da ≠ some a) (r : RpA K da G ds xs) (hn : ∀ (i : Nat) (s : SD) (A : List Addr), δ[i]? = some s → Slot K da G H s (σ[i]?) A → a ∉ A) :
    ∃ G', Rel K e da G' δ σ H ∧ Same G G' ∧ Rp K da G' (.lst ds) (.ref a) :=
  let ⟨G', h2, h3⟩ := R.toRel0.free ha ga ea na r hn; ⟨G', ⟨h2, R.xo⟩, h3⟩
end
end DL

namespace DL
open PySem L2

abbrev DE := Env → (D → Env → Prop) → Prop
abbrev DT := Env → (Bool → Env → Prop) → Prop
abbrev DA := Env → (List D → Env → Prop) → Prop
abbrev DO := D → D → (D → Prop) → Prop
abbrev DC := List D → (D → Prop) → Prop
structure DEnds where
  nx : Env → Prop
  rt : D → Prop
  rn : List D → Prop
  bk : Env → Prop
  ct : Env → Prop
  rb : List D → List D → Prop
abbrev DS := DEnds → Env → Prop

section
variable (K : KW)
def RfE (te : TE) (t : DE) : Prop := ∀ (e : En) (da : Option Addr) (G : Hp) (δ : Env) (σ : L2.St) (H : Hp) (P : D → Env → Prop) (Q : VK), Rel K e da G δ σ H → t δ P →
  (∀ d δ' v G' H', Rel K e da G' δ' σ H' → Same G G' → Rp K da G' d v → P d δ' → Q v H') → te σ H Q
def RfN (te : TE) (t : Env → (List D → Env → Prop) → Prop) : Prop := ∀ (e : En) (da : Option Addr) (G : Hp) (δ : Env) (σ : L2.St) (H : Hp) (P : List D → Env → Prop) (Q : VK), Rel K e da G δ σ H → t δ P →
  (∀ ds δ' a xs G' H0 H', Rel K e da G' δ' σ H0 → Same G G' → H0 a = none → H' = upd H0 a (.lst xs) → RpA K da G' ds xs → P ds δ' → Q (.ref a) H') → te σ H Q
def RfT (te : TT) (t : DT) : Prop := ∀ (e : En) (da : Option Addr) (G : Hp) (δ : Env) (σ : L2.St) (H : Hp) (P : Bool → Env → Prop) (Q : Bool → Hp → Prop), Rel K e da G δ σ H → t δ P →
  (∀ b δ' G' H', Rel K e da G' δ' σ H' → Same G G' → P b δ' → Q b H') → te σ H Q
def RfA (te : TA) (t : DA) : Prop := ∀ (e : En) (da : Option Addr) (G : Hp) (δ : Env) (σ : L2.St) (H : Hp) (P : List D → Env → Prop) (Q : List V → Hp → Prop), Rel K e da G δ σ H → t δ P →
  (∀ ds δ' vs G' H', Rel K e da G' δ' σ H' → Same G G' → RpA K da G' ds vs → P ds δ' → Q vs H') → te σ H Q
def RfO (K : PySem.W.Frag) (r : R2) (o : DO) : Prop := ∀ (da : Option Addr) (G H : Hp) (x y : V) (d1 d2 : D) (P : D → Prop) (Q : VK), Same G H → DealOk K da G H → Rp K da G d1 x → Rp K da G d2 y → o d1 d2 P →
  (∀ d v G' H', Trn K da G H G' H' → Rp K da G' d v → P d → Q v H') → r x y H Q
def RfON (K : PySem.W.Frag) (r : R2) (o : D → D → (List D → Prop) → Prop) : Prop := ∀ (da : Option Addr) (G H : Hp) (x y : V) (d1 d2 : D) (P : List D → Prop) (Q : VK), Same G H → DealOk K da G H → Rp K da G d1 x → Rp K da G d2 y → o d1 d2 P →
  (∀ ds a xs, H a = none → RpA K da G ds xs → P ds → Q (.ref a) (upd H a (.lst xs))) → r x y H Q
def RfC (K : PySem.W.Frag) (r : List V → Hp → VK → Prop) (o : DC) : Prop := ∀ (da : Option Addr) (G H : Hp) (xs : List V) (ds : List D) (P : D → Prop) (Q : VK), Same G H → DealOk K da G H → RpA K da G ds xs → o ds P →
  (∀ d v G' H', Trn K da G H G' H' → Rp K da G' d v → P d → Q v H') → r xs H Q
def RfCN (K : PySem.W.Frag) (r : List V → Hp → VK → Prop) (o : List D → (List D → Prop) → Prop) : Prop := ∀ (da : Option Addr) (G H : Hp) (xs : List V) (ds : List D) (P : List D → Prop) (Q : VK), Same G H → DealOk K da G H → RpA K da G ds xs → o ds P →
  (∀ ds a xs, H a = none → RpA K da G ds xs → P ds → Q (.ref a) (upd H a (.lst xs))) → r xs H Q
structure EndsOk (e : En) (da : Option Addr) (D : Ends) (Dd : DEnds) : Prop where
  nx : ∀ G δ σ H, Rel K e da G δ σ H → Dd.nx δ → D.nx σ H
  bk : ∀ G δ σ H, Rel K e da G δ σ H → Dd.bk δ → D.bk σ H
  ct : ∀ G δ σ H, Rel K e da G δ σ H → Dd.ct δ → D.ct σ H
  rt : ∀ d v G H, Trn K da e.G e.H G H → Rp K da G d v → Dd.rt d → D.rt v H
  rn : ∀ ds a xs G H, Trn K da e.G e.H G H → H a = some (.lst xs) → G a = none → e.H a = none → da ≠ some a → RpA K da G ds xs → Dd.rn ds → D.rt (.ref a) H
  rb : ∀ ds ls t a xs ys G H, Trn K da e.G e.H G H → SqT K.K G t (xs ++ [.ref a]) → H a = some (.lst ys) → G a = none → e.H a = none → da ≠ some a → RpA K da G ds xs → RpA K da G ls ys → Dd.rb ds ls → D.rt (.ref t) H
def RfS (ts : TS) (t : DS) : Prop := ∀ (e : En) (da : Option Addr) (G : Hp) (δ : Env) (σ : L2.St) (H : Hp) (D : Ends) (Dd : DEnds), EndsOk K e da D Dd → Rel K e da G δ σ H → t Dd δ → ts D σ H
end

section
variable {K : PySem.W.Frag} {ta tb te : TE} {a b : DE} {tt tu : TT} {t u : DT} {tas tbs : TA} {as bs : DA}

/-! ### names, constants -/
def dVar (i : Nat) : DE := fun δ P => match δ[i]? with
  | some (.val d) => P d δ
  | some (.own ds) => P (.lst ds) (δ.set i (.val (.lst ds)))
  | some (.box _ ds _) => P (.tup (ds ++ [.unk])) δ
  | _ => False
theorem rf_var {K : KW} {i : Nat} : RfE K (tVar i) (dVar i) := by
  intro e da G δ σ H P Q R h k
  unfold dVar at h
  cases q : δ[i]? with
  | none => rw [q] at h; exact h.elim
  | some s =>
    rw [q] at h
    cases s with
    | val d =>
      obtain ⟨A, ⟨_, v, e1, r⟩, _⟩ := R.at q
      exact ⟨v, e1, k d δ v G H R (Same.refl _) r h⟩
    | own ds =>
      obtain ⟨a, G', e1, R', eg, r⟩ := R.own_free q
      exact ⟨_, e1, k _ _ _ G' H R' eg r h⟩
    | no => exact h.elim
    | box a ds ls =>
      obtain ⟨A, ⟨t, xs, ys, _, e1, ht, _, r, _⟩, _⟩ := R.at q
      exact ⟨_, e1, k _ _ _ G H R (Same.refl _) (.tup ht (r.app (.cons (.unk _) .nil))) h⟩
    | ini x dx C fs => exact h.elim
def dC (d : D) : DE := fun δ P => P d δ
theorem rf_int {K : KW} {i : Int} : RfE K (tC (.int i)) (dC (.int i)) := fun e da G δ σ H P Q R h k => k _ _ _ G H R (Same.refl _) (.int i) h
theorem rf_bl {K : KW} {i : Bool} : RfE K (tC (.bl i)) (dC (.bl i)) := fun e da G δ σ H P Q R h k => k _ _ _ G H R (Same.refl _) (.bl i) h
theorem rf_str {K : KW} {i : Str} : RfE K (tC (.str i)) (dC (.str i)) := fun e da G δ σ H P Q R h k => k _ _ _ G H R (Same.refl _) (.str i) h
theorem rf_non {K : KW} : RfE K (tC .non) (dC .non) := fun e da G δ σ H P Q R h k => k _ _ _ G H R (Same.refl _) .non h
def dN (t : Env → (List D → Env → Prop) → Prop) : DE := fun δ P => t δ fun ds δ' => P (.lst ds) δ'
theorem RfN.rfe {K : KW} {n : Env → (List D → Env → Prop) → Prop} (h : RfN K te n) : RfE K te (dN n) := by
  intro e da G δ σ H P Q R hn k
  refine h e da G δ σ H _ Q R hn fun ds δ' a xs G' H0 H' R' eg ha eh r p => ?_
  subst eh
  have hg := (R'.enone ha).2
  have e2 : Same G' (upd G' a (.lst xs)) := Same.new hg
  exact k _ _ _ _ _ (R'.put (o := .lst xs) ha) (eg.trans e2) (.lst upd_same (r.up e2)) p

/-! ### operations -/
def dOp (o : DO) (a b : DE) : DE := fun δ P => a δ fun x δ1 => b δ1 fun y δ2 => o x y fun z => P z δ2
theorem rf_op {K : KW} {r : R2} {o : DO} (ho : RfO K r o) (ha : RfE K ta a) (hb : RfE K tb b) : RfE K (tOp r ta tb) (dOp o a b) := by
  intro e da G δ σ H P Q R h k
  refine ha e da G δ σ H _ _ R h fun x δ1 v G1 H1 R1 e1 r1 h1 => ?_
  refine hb e da G1 δ1 σ H1 _ _ R1 h1 fun y δ2 w G2 H2 R2 e2 r2 h2 => ?_
  exact ho da G2 H2 v w x y _ Q R2.ex R2.dl (r1.up e2) r2 h2 fun d z G3 H3 T r3 p => k d δ2 z G3 H3 (R2.go T) ((e1.trans e2).trans T.eg) r3 p
def dOpN (o : D → D → (List D → Prop) → Prop) (a b : DE) : Env → (List D → Env → Prop) → Prop := fun δ P => a δ fun x δ1 => b δ1 fun y δ2 => o x y fun z => P z δ2
theorem rf_opN {K : KW} {r : R2} {o : D → D → (List D → Prop) → Prop} (ho : RfON K r o) (ha : RfE K ta a) (hb : RfE K tb b) : RfN K (tOp r ta tb) (dOpN o a b) := by
  intro e da G δ σ H P Q R h k
  refine ha e da G δ σ H _ _ R h fun x δ1 v G1 H1 R1 e1 r1 h1 => ?_
  refine hb e da G1 δ1 σ H1 _ _ R1 h1 fun y δ2 w G2 H2 R2 e2 r2 h2 => ?_
  exact ho da G2 H2 v w x y _ Q R2.ex R2.dl (r1.up e2) r2 h2 fun ds l xs hl r3 p => k ds δ2 l xs G2 H2 _ R2 (e1.trans e2) hl rfl r3 p
def dUn (o : D → (D → Prop) → Prop) (a : DE) : DE := fun δ P => a δ fun x δ1 => o x fun z => P z δ1
def RfU (K : PySem.W.Frag) (r : V → Hp → VK → Prop) (o : D → (D → Prop) → Prop) : Prop := ∀ (da : Option Addr) (G H : Hp) (x : V) (d1 : D) (P : D → Prop) (Q : VK), Same G H → DealOk K da G H → Rp K da G d1 x → o d1 P →
  (∀ d v G' H', Trn K da G H G' H' → Rp K da G' d v → P d → Q v H') → r x H Q
theorem rf_un {K : KW} {r : V → Hp → VK → Prop} {o : D → (D → Prop) → Prop} (ho : RfU K r o) (ha : RfE K ta a) : RfE K (tUn r ta) (dUn o a) := by
  intro e da G δ σ H P Q R h k
  refine ha e da G δ σ H _ _ R h fun x δ1 v G1 H1 R1 e1 r1 h1 => ?_
  exact ho da G1 H1 v x _ Q R1.ex R1.dl r1 h1 fun d z G3 H3 T r3 p => k d δ1 z G3 H3 (R1.go T) (e1.trans T.eg) r3 p

/-! ### arguments -/
def dNil : DA := fun δ P => P [] δ
def dCons (a : DE) (as : DA) : DA := fun δ P => a δ fun x δ1 => as δ1 fun xs δ2 => P (x :: xs) δ2
theorem rf_nil {K : KW} : RfA K tNil dNil := fun e da G δ σ H P Q R h k => k _ _ _ G H R (Same.refl _) .nil h
theorem rf_cons {K : KW} (ha : RfE K ta a) (hb : RfA K tas as) : RfA K (tCons ta tas) (dCons a as) := by
  intro e da G δ σ H P Q R h k
  refine ha e da G δ σ H _ _ R h fun x δ1 v G1 H1 R1 e1 r1 h1 => ?_
  refine hb e da G1 δ1 σ H1 _ _ R1 h1 fun y δ2 w G2 H2 R2 e2 r2 h2 => ?_
  exact k _ _ _ G2 H2 R2 (e1.trans e2) (.cons (r1.up e2) r2) h2
theorem sz6 {n : Nat} (h : n ≤ 1000000) : n ≤ sizeLine := Nat.le_trans h (by rw [sizeLine_eq]; decide)
theorem sz6l {n : Nat} (h : n ≤ 1000000) : n < sizeLine := Nat.lt_of_le_of_lt h (by rw [sizeLine_eq]; decide)
def dTup (as : DA) : DE := fun δ P => as δ fun ds δ' => ds.length ≤ 1000000 ∧ P (.tup ds) δ'
theorem rf_tup {K : KW} (ha : RfA K tas as) : RfE K (tTup tas) (dTup as) := by
  intro e da G δ σ H P Q R h k
  refine ha e da G δ σ H _ _ R h fun ds δ1 vs G1 H1 R1 e1 r1 h1 => ⟨by rw [← r1.length]; exact sz6 h1.1, fun p hp => ?_⟩
  have hg := (R1.enone hp).2
  have e2 : Same G1 (upd G1 p (.tup vs)) := Same.new hg
  exact k _ _ _ _ _ (R1.put (o := .tup vs) hp) (e1.trans e2) (.tup (.inl (.inl upd_same)) (r1.up e2)) h1.2
def dLst (as : DA) : Env → (List D → Env → Prop) → Prop := fun δ P => as δ fun ds δ' => ds.length ≤ 1000000 ∧ P ds δ'
theorem rf_lst {K : KW} (ha : RfA K tas as) : RfN K (tLst tas) (dLst as) := by
  intro e da G δ σ H P Q R h k
  refine ha e da G δ σ H _ _ R h fun ds δ1 vs G1 H1 R1 e1 r1 h1 => ⟨by rw [← r1.length]; exact sz6 h1.1, fun p hp => ?_⟩
  exact k _ _ _ _ _ _ _ R1 e1 hp rfl r1 h1.2

/-! ### calls of built-ins -/
def dCB (o : DC) (as : DA) : DE := fun δ P => as δ fun ds δ' => o ds fun d => P d δ'
theorem rf_cb {K : KW} {r : List V → Hp → VK → Prop} {o : DC} (ho : RfC K r o) (ha : RfA K tas as) : RfE K (tCB r tas) (dCB o as) := by
  intro e da G δ σ H P Q R h k
  refine ha e da G δ σ H _ _ R h fun ds δ1 vs G1 H1 R1 e1 r1 h1 => ?_
  exact ho da G1 H1 vs ds _ Q R1.ex R1.dl r1 h1 fun d z G3 H3 T r3 p => k d δ1 z G3 H3 (R1.go T) (e1.trans T.eg) r3 p
def dCBN (o : List D → (List D → Prop) → Prop) (as : DA) : Env → (List D → Env → Prop) → Prop := fun δ P => as δ fun ds δ' => o ds fun d => P d δ'
theorem rf_cbN {K : KW} {r : List V → Hp → VK → Prop} {o : List D → (List D → Prop) → Prop} (ho : RfCN K r o) (ha : RfA K tas as) : RfN K (tCB r tas) (dCBN o as) := by
  intro e da G δ σ H P Q R h k
  refine ha e da G δ σ H _ _ R h fun ds δ1 vs G1 H1 R1 e1 r1 h1 => ?_
  exact ho da G1 H1 vs ds _ Q R1.ex R1.dl r1 h1 fun ds l xs hl r3 p => k ds δ1 l xs G1 H1 _ R1 e1 hl rfl r3 p

/-! ### tests -/
def dTest (a : DE) : DT := fun δ P => a δ fun x δ' => ∃ b, x = .bl b ∧ P b δ'
theorem rf_test {K : KW} (ha : RfE K ta a) : RfT K (tTest ta) (dTest a) := by
  intro e da G δ σ H P Q R h k
  refine ha e da G δ σ H _ _ R h fun x δ1 v G1 H1 R1 e1 r1 ⟨c, ex, h1⟩ => ?_
  subst ex
  cases r1
  exact ⟨c, rfl, k _ _ _ _ R1 e1 h1⟩
theorem rf_B {K : KW} (ha : RfE K ta a) : RfT K (tB ta) (dTest a) := rf_test ha
def dAnd (t u : DT) : DT := fun δ P => t δ fun b δ' => if b = true then u δ' P else P false δ'
def dOr (t u : DT) : DT := fun δ P => t δ fun b δ' => if b = true then P true δ' else u δ' P
def dNot (t : DT) : DT := fun δ P => t δ fun b δ' => P (!b) δ'
theorem rf_and {K : KW} (ht : RfT K tt t) (hu : RfT K tu u) : RfT K (tAnd tt tu) (dAnd t u) := by
  intro e da G δ σ H P Q R h k
  refine ht e da G δ σ H _ _ R h fun c δ1 G1 H1 R1 e1 h1 => ?_
  cases c with
  | true =>
    rw [if_pos rfl] at h1 ⊢
    exact hu e da G1 δ1 σ H1 _ _ R1 h1 fun c δ2 G2 H2 R2 e2 h2 => k _ _ _ _ R2 (e1.trans e2) h2
  | false =>
    rw [if_neg Bool.false_ne_true] at h1 ⊢
    exact k _ _ _ _ R1 e1 h1
theorem rf_or {K : KW} (ht : RfT K tt t) (hu : RfT K tu u) : RfT K (tOr tt tu) (dOr t u) := by
  intro e da G δ σ H P Q R h k
  refine ht e da G δ σ H _ _ R h fun c δ1 G1 H1 R1 e1 h1 => ?_
  cases c with
  | true =>
    rw [if_pos rfl] at h1 ⊢
    exact k _ _ _ _ R1 e1 h1
  | false =>
    rw [if_neg Bool.false_ne_true] at h1 ⊢
    exact hu e da G1 δ1 σ H1 _ _ R1 h1 fun c δ2 G2 H2 R2 e2 h2 => k _ _ _ _ R2 (e1.trans e2) h2
theorem rf_not {K : KW} (ht : RfT K tt t) : RfT K (tNot tt) (dNot t) := fun e da G δ σ H P Q R h k =>
  ht e da G δ σ H _ _ R h fun c δ1 G1 H1 R1 e1 h1 => k _ _ _ _ R1 e1 h1
def dIf (t : DT) (a b : DE) : DE := fun δ P => t δ fun c δ' => if c = true then a δ' P else b δ' P
theorem rf_if {K : KW} (ht : RfT K tt t) (ha : RfE K ta a) (hb : RfE K tb b) : RfE K (tIf tt ta tb) (dIf t a b) := by
  intro e da G δ σ H P Q R h k
  refine ht e da G δ σ H _ _ R h fun c δ1 G1 H1 R1 e1 h1 => ?_
  cases c with
  | true =>
    rw [if_pos rfl] at h1 ⊢
    exact ha e da G1 δ1 σ H1 _ _ R1 h1 fun d δ2 v G2 H2 R2 e2 r h2 => k _ _ _ _ _ R2 (e1.trans e2) r h2
  | false =>
    rw [if_neg Bool.false_ne_true] at h1 ⊢
    exact hb e da G1 δ1 σ H1 _ _ R1 h1 fun d δ2 v G2 H2 R2 e2 r h2 => k _ _ _ _ _ R2 (e1.trans e2) r h2
def dAndV (a b : DE) : DE := fun δ P => a δ fun x δ' => ∃ c, x = .bl c ∧ if c = true then b δ' P else P (.bl false) δ'
def dOrV (a b : DE) : DE := fun δ P => a δ fun x δ' => ∃ c, x = .bl c ∧ if c = true then P (.bl true) δ' else b δ' P
def dNotV (a : DE) : DE := fun δ P => a δ fun x δ' => ∃ c, x = .bl c ∧ P (.bl (!c)) δ'
theorem rf_andV {K : KW} (ha : RfE K ta a) (hb : RfE K tb b) : RfE K (tAndV ta tb) (dAndV a b) := by
  intro e da G δ σ H P Q R h k
  refine ha e da G δ σ H _ _ R h fun x δ1 v G1 H1 R1 e1 r1 ⟨c, ex, h1⟩ => ?_
  subst ex
  cases r1
  refine ⟨c, rfl, ?_⟩
  cases c with
  | true =>
    rw [if_pos rfl] at h1 ⊢
    exact hb e da G1 δ1 σ H1 _ _ R1 h1 fun d δ2 v G2 H2 R2 e2 r h2 => k _ _ _ _ _ R2 (e1.trans e2) r h2
  | false =>
    rw [if_neg Bool.false_ne_true] at h1 ⊢
    exact k _ _ _ _ _ R1 e1 (.bl _) h1
theorem rf_orV {K : KW} (ha : RfE K ta a) (hb : RfE K tb b) : RfE K (tOrV ta tb) (dOrV a b) := by
  intro e da G δ σ H P Q R h k
  refine ha e da G δ σ H _ _ R h fun x δ1 v G1 H1 R1 e1 r1 ⟨c, ex, h1⟩ => ?_
  subst ex
  cases r1
  refine ⟨c, rfl, ?_⟩
  cases c with
  | true =>
    rw [if_pos rfl] at h1 ⊢
    exact k _ _ _ _ _ R1 e1 (.bl _) h1
  | false =>
    rw [if_neg Bool.false_ne_true] at h1 ⊢
    exact hb e da G1 δ1 σ H1 _ _ R1 h1 fun d δ2 v G2 H2 R2 e2 r h2 => k _ _ _ _ _ R2 (e1.trans e2) r h2
theorem rf_notV {K : KW} (ha : RfE K ta a) : RfE K (tNotV ta) (dNotV a) := by
  intro e da G δ σ H P Q R h k
  refine ha e da G δ σ H _ _ R h fun x δ1 v G1 H1 R1 e1 r1 ⟨c, ex, h1⟩ => ?_
  subst ex
  cases r1
  exact ⟨c, rfl, k _ _ _ _ _ R1 e1 (.bl _) h1⟩

/-! ### fields, methods, calls of the text's defs -/
def dFld (K : PySem.W.Frag) (a : DE) (f : Str) : DE := fun δ P => a δ fun x δ' => ∃ C fs d, x = .obj C fs ∧ Cls K C ∧ NoAttr K C f ∧ fs.lookup f = some d ∧ P d δ'
theorem rf_fld {K : KW} {f : Str} (ha : RfE K ta a) : RfE K (tFld K ta f) (dFld K a f) := by
  intro e da G δ σ H P Q R h k
  refine ha e da G δ σ H _ _ R h fun x δ1 v G1 H1 R1 e1 r1 ⟨C, fs, d, ex, hc, hn, hl, h1⟩ => ?_
  subst ex
  cases r1 with
  | obj hG rF =>
    obtain ⟨u, hu, ru⟩ := rF.get hl
    exact ⟨_, _, _, _, u, rfl, R1.ex _ _ hG, hc, hn, hu, k _ _ _ _ _ R1 e1 ru h1⟩
abbrev Spec := List D → (D → Prop) → Prop
abbrev SpecN := List D → (List D → Prop) → Prop
def spD (K : PySem.W.Frag) (S : Spec) : Sp := fun vs H Q _ => ∃ (G : Hp) (da : Option Addr) (ds : List D) (P : D → Prop), Same G H ∧ DealOk K da G H ∧ RpA K da G ds vs ∧ S ds P ∧
  ∀ d v G' H', Trn K da G H G' H' → Rp K da G' d v → P d → Q v H'
def spN (K : PySem.W.Frag) (S : SpecN) : Sp := fun vs H Q _ => ∃ (G : Hp) (da : Option Addr) (ds : List D) (P : List D → Prop), Same G H ∧ DealOk K da G H ∧ RpA K da G ds vs ∧ S ds P ∧
  ∀ ds a xs G' H', Trn K da G H G' H' → H' a = some (.lst xs) → G' a = none → H a = none → da ≠ some a → RpA K da G' ds xs → P ds → Q (.ref a) H'
def dCall (S : Spec) (as : DA) : DE := fun δ P => as δ fun ds δ' => S ds fun d => P d δ'
theorem rf_call {K : KW} {S : Spec} {E : XK} (ha : RfA K tas as) : RfE K (tCall (spD K S) [] E tas) (dCall S as) := by
  intro e da G δ σ H P Q R h k
  refine ha e da G δ σ H _ _ R h fun ds δ1 vs G1 H1 R1 e1 r1 h1 => ?_
  rw [List.append_nil]
  exact ⟨G1, da, ds, _, R1.ex, R1.dl, r1, h1, fun d v G' H' T r p => k _ _ _ _ _ (R1.go T) (e1.trans T.eg) r p⟩
def dCallN (S : SpecN) (as : DA) : Env → (List D → Env → Prop) → Prop := fun δ P => as δ fun ds δ' => S ds fun d => P d δ'
end
end DL

namespace DL
open PySem L2
section
variable {K : PySem.W.Frag} {ta tb te : TE} {a b : DE} {tt tu : TT} {t u : DT} {tas tbs : TA} {as bs : DA} {ts tw : TS} {s w : DS} {i : Nat}

def del (H : Hp) (a : Addr) : Hp := fun b => if b = a then none else H b
theorem del_ne {H : Hp} {a b : Addr} (h : b ≠ a) : del H a b = H b := if_neg h
theorem del_same {H : Hp} {a : Addr} : del H a a = none := if_pos rfl
theorem upd_del {H : Hp} {a : Addr} {o : HO} (h : H a = some o) : H = upd (del H a) a o := by
  funext b
  by_cases e : b = a
  · subst e; rw [upd_same, h]
  · rw [upd_ne e, del_ne e]
theorem TabOk.delH {K : PySem.W.Frag} {G H : Hp} {a : Addr} (t : TabOk K G H) (hc : NTb H a) : TabOk K G (DL.del H a) :=
  t.up (Same.refl _) (fun b => by
    by_cases e : b = a
    · subst e
      exact .inr ⟨hc, fun ps z => by rw [del_same] at z; cases z⟩
    · exact .inl (del_ne e)) fun _ _ z => z
theorem Trn.cut {da : Option Addr} {G H G' H' : Hp} {p : Addr} (T : Trn K da G H G' H') (hp : H p = none) (gp : G' p = none) (np : da ≠ some p) (nc : NTb H' p) : Trn K da G H G' (del H' p) where
  ex := fun b o q => by rw [del_ne (fun z => by rw [z, gp] at q; cases q)]; exact T.ex b o q
  eg := T.eg
  kp := fun b o q n => by rw [del_ne (fun z => by rw [z, hp] at q; cases q)]; exact T.kp b o q n
  fr := T.fr
  dl := T.dl.up (Same.refl _) (fun t => t.delH nc) fun b eb => ⟨(T.dl.2 b eb).1, del_ne fun z => np (by rw [← z]; exact eb)⟩
theorem rf_callN {K : KW} {S : SpecN} {E : XK} (ha : RfA K tas as) : RfN K (tCall (spN K S) [] E tas) (dCallN S as) := by
  intro e da G δ σ H P Q R h k
  refine ha e da G δ σ H _ _ R h fun ds δ1 vs G1 H1 R1 e1 r1 h1 => ?_
  rw [List.append_nil]
  exact ⟨G1, da, ds, _, R1.ex, R1.dl, r1, h1, fun d p xs G' H' T ea gp hp np r q => k _ _ p xs G' (del H' p) H' (R1.go (T.cut hp gp np (.lst ea))) (e1.trans T.eg) del_same (upd_del ea) r q⟩
def dCallD (S : Spec) (d0 : List D) (as : DA) : DE := fun δ P => as δ fun ds δ' => S (ds ++ d0) fun d => P d δ'
theorem rf_callD {K : KW} {S : Spec} {E : XK} {dvs : List V} {d0 : List D} (h0 : ∀ da G, RpA K da G d0 dvs) (ha : RfA K tas as) : RfE K (tCall (spD K S) dvs E tas) (dCallD S d0 as) := by
  intro e da G δ σ H P Q R h k
  refine ha e da G δ σ H _ _ R h fun ds δ1 vs G1 H1 R1 e1 r1 h1 => ?_
  exact ⟨G1, da, _, _, R1.ex, R1.dl, r1.app (h0 da G1), h1, fun d v G' H' T r p => k _ _ _ _ _ (R1.go T) (e1.trans T.eg) r p⟩
/-! ### methods of own classes -/
def dMeth (C : Addr) (m : Str) (S : Spec) (a : DE) (as : DA) : DE := fun δ P => a δ fun x δ1 => ∃ fs, x = .obj C fs ∧ fs.lookup m = none ∧ as δ1 fun ds δ2 => S (x :: ds) fun d => P d δ2
theorem rf_meth {K : KW} {C : Addr} {m : Str} {S : Spec} {E : XK} (ha : RfE K ta a) (hs : RfA K tas as) : RfE K (tMeth C m (spD K S) [] E ta tas) (dMeth C m S a as) := by
  intro e da G δ σ H P Q R h k
  refine ha e da G δ σ H _ _ R h fun x δ1 v G1 H1 R1 e1 r1 ⟨fs, ex, hl, h1⟩ => ?_
  subst ex
  cases r1 with
  | obj hG rF =>
    refine ⟨_, _, _, rfl, R1.ex _ _ hG, rF.no hl, ?_⟩
    refine hs e da G1 δ1 σ H1 _ _ R1 h1 fun ds δ2 vs G2 H2 R2 e2 r2 h2 => ?_
    rw [List.append_nil]
    exact ⟨G2, da, _, _, R2.ex, R2.dl, .cons (.obj (e2 _ _ hG) (rF.up e2)) r2, h2, fun d v G' H' T r p => k _ _ _ _ _ (R2.go T) ((e1.trans e2).trans T.eg) r p⟩
def dMethN (C : Addr) (m : Str) (S : SpecN) (a : DE) (as : DA) : Env → (List D → Env → Prop) → Prop := fun δ P => a δ fun x δ1 => ∃ fs, x = .obj C fs ∧ fs.lookup m = none ∧ as δ1 fun ds δ2 => S (x :: ds) fun d => P d δ2
theorem rf_methN {K : KW} {C : Addr} {m : Str} {S : SpecN} {E : XK} (ha : RfE K ta a) (hs : RfA K tas as) : RfN K (tMeth C m (spN K S) [] E ta tas) (dMethN C m S a as) := by
  intro e da G δ σ H P Q R h k
  refine ha e da G δ σ H _ _ R h fun x δ1 v G1 H1 R1 e1 r1 ⟨fs, ex, hl, h1⟩ => ?_
  subst ex
  cases r1 with
  | obj hG rF =>
    refine ⟨_, _, _, rfl, R1.ex _ _ hG, rF.no hl, ?_⟩
    refine hs e da G1 δ1 σ H1 _ _ R1 h1 fun ds δ2 vs G2 H2 R2 e2 r2 h2 => ?_
    rw [List.append_nil]
    exact ⟨G2, da, _, _, R2.ex, R2.dl, .cons (.obj (e2 _ _ hG) (rF.up e2)) r2, h2, fun d p xs G' H' T ea gp hp np r q => k _ _ p xs G' (del H' p) H' (R2.go (T.cut hp gp np (.lst ea))) ((e1.trans e2).trans T.eg) del_same (upd_del ea) r q⟩

/-! ### methods of built-in types, on values -/
abbrev DM := D → List D → (D → Prop) → Prop
def RfM (K : PySem.W.Frag) (T : String) (r : V → List V → Hp → VK → Prop) (o : DM) : Prop := ∀ (da : Option Addr) (G H : Hp) (x : V) (xs : List V) (d : D) (ds : List D) (P : D → Prop) (Q : VK), Same G H → DealOk K da G H → Rp K da G d x → RpA K da G ds xs → o d ds P →
  (∀ d v G' H', Trn K da G H G' H' → Rp K da G' d v → P d → Q v H') → r x xs H Q
def dBMS (o : DM) (a : DE) (as : DA) : DE := fun δ P => a δ fun x δ1 => (∃ z, x = .str z) ∧ as δ1 fun ds δ2 => o x ds fun d => P d δ2
theorem rf_bmS {K : KW} {r : V → List V → Hp → VK → Prop} {o : DM} (ho : RfM K "str" r o) (ha : RfE K ta a) (hs : RfA K tas as) : RfE K (tBM K "str" r ta tas) (dBMS o a as) := by
  intro e da G δ σ H P Q R h k
  refine ha e da G δ σ H _ _ R h fun x δ1 v G1 H1 R1 e1 r1 ⟨⟨z, ex⟩, h1⟩ => ?_
  subst ex
  cases r1
  refine ⟨rfl, ?_⟩
  refine hs e da G1 δ1 σ H1 _ _ R1 h1 fun ds δ2 vs G2 H2 R2 e2 r2 h2 => ?_
  exact ho da G2 H2 _ vs _ ds _ Q R2.ex R2.dl (.str z) r2 h2 fun d z G3 H3 T r3 p => k d δ2 z G3 H3 (R2.go T) ((e1.trans e2).trans T.eg) r3 p
def dBML (o : DM) (a : DE) (as : DA) : DE := fun δ P => a δ fun x δ1 => (∃ z, x = .lst z) ∧ as δ1 fun ds δ2 => o x ds fun d => P d δ2
theorem rf_bmL {K : KW} {r : V → List V → Hp → VK → Prop} {o : DM} (ho : RfM K "list" r o) (ha : RfE K ta a) (hs : RfA K tas as) : RfE K (tBM K "list" r ta tas) (dBML o a as) := by
  intro e da G δ σ H P Q R h k
  refine ha e da G δ σ H _ _ R h fun x δ1 v G1 H1 R1 e1 r1 ⟨⟨z, ex⟩, h1⟩ => ?_
  subst ex
  cases r1 with
  | lst hG rA =>
    refine ⟨.inl ⟨rfl, _, .inl (.inl (R1.ex _ _ hG))⟩, ?_⟩
    refine hs e da G1 δ1 σ H1 _ _ R1 h1 fun ds δ2 vs G2 H2 R2 e2 r2 h2 => ?_
    exact ho da G2 H2 _ vs _ ds _ Q R2.ex R2.dl (.lst (e2 _ _ hG) (rA.up e2)) r2 h2 fun d z G3 H3 T r3 p => k d δ2 z G3 H3 (R2.go T) ((e1.trans e2).trans T.eg) r3 p

/-! ### slices -/
abbrev DOp := Env → (Option Int → Env → Prop) → Prop
def RfP (K : KW) (to : TO) (t : DOp) : Prop := ∀ (e : En) (da : Option Addr) (G : Hp) (δ : Env) (σ : L2.St) (H : Hp) (P : Option Int → Env → Prop) (Q : Option Int → Hp → Prop), Rel K e da G δ σ H → t δ P →
  (∀ b δ' G' H', Rel K e da G' δ' σ H' → Same G G' → P b δ' → Q b H') → to σ H Q
def dNoP : DOp := fun δ P => P none δ
def dPart (a : DE) : DOp := fun δ P => a δ fun x δ' => ∃ i, x = .int i ∧ P (some i) δ'
theorem rf_noP {K : KW} : RfP K tNoPart dNoP := fun e da G δ σ H P Q R h k => k _ _ _ _ R (Same.refl _) h
theorem rf_part {K : KW} (ha : RfE K ta a) : RfP K (tPart ta) (dPart a) := by
  intro e da G δ σ H P Q R h k
  refine ha e da G δ σ H _ _ R h fun x δ1 v G1 H1 R1 e1 r1 ⟨c, ex, h1⟩ => ?_
  subst ex
  cases r1
  exact ⟨c, rfl, k _ _ _ _ R1 e1 h1⟩
def RfSl (K : PySem.W.Frag) (r : V → Option Int → Option Int → Hp → VK → Prop) (o : D → Option Int → Option Int → (D → Prop) → Prop) : Prop := ∀ (da : Option Addr) (G H : Hp) (x : V) (d : D) (l u : Option Int) (P : D → Prop) (Q : VK), Same G H → DealOk K da G H → Rp K da G d x → o d l u P →
  (∀ d v G' H', Trn K da G H G' H' → Rp K da G' d v → P d → Q v H') → r x l u H Q
def dSl (o : D → Option Int → Option Int → (D → Prop) → Prop) (a : DE) (l u : DOp) : DE := fun δ P => a δ fun x δ1 => l δ1 fun lo δ2 => u δ2 fun hi δ3 => o x lo hi fun d => P d δ3
theorem rf_sl {K : KW} {r : V → Option Int → Option Int → Hp → VK → Prop} {o : D → Option Int → Option Int → (D → Prop) → Prop} {tl th : TO} {l h : DOp} (ho : RfSl K r o) (ha : RfE K ta a) (hl : RfP K tl l) (hh : RfP K th h) : RfE K (tSl r ta tl th) (dSl o a l h) := by
  intro e da G δ σ H P Q R h k
  refine ha e da G δ σ H _ _ R h fun x δ1 v G1 H1 R1 e1 r1 h1 => ?_
  refine hl e da G1 δ1 σ H1 _ _ R1 h1 fun lo δ2 G2 H2 R2 e2 h2 => ?_
  refine hh e da G2 δ2 σ H2 _ _ R2 h2 fun hi δ3 G3 H3 R3 e3 h3 => ?_
  exact ho da G3 H3 v x lo hi _ Q R3.ex R3.dl ((r1.up e2).up e3) h3 fun d z G4 H4 T r4 p => k d δ3 z G4 H4 (R3.go T) (((e1.trans e2).trans e3).trans T.eg) r4 p

/-! ### statements -/
def dSeq (s w : DS) : DS := fun D δ => s { D with nx := w D } δ
def dNext : DS := fun D δ => D.nx δ
def dNever : DS := fun _ _ => False
def dBreak : DS := fun D δ => D.bk δ
def dCont : DS := fun D δ => D.ct δ
theorem rf_next {K : KW} : RfS K tNext dNext := fun e da G δ σ H D Dd E R h => E.nx _ _ _ _ R h
theorem rf_never {K : KW} : RfS K tNever dNever := fun e da G δ σ H D Dd E R h => h
theorem rf_break {K : KW} : RfS K tBreak dBreak := fun e da G δ σ H D Dd E R h => E.bk _ _ _ _ R h
theorem rf_cont {K : KW} : RfS K tCont dCont := fun e da G δ σ H D Dd E R h => E.ct _ _ _ _ R h
theorem rf_seq {K : KW} (hs : RfS K ts s) (hw : RfS K tw w) : RfS K (tSeq ts tw) (dSeq s w) := fun e da G δ σ H D Dd E R h =>
  hs e da G δ σ H _ { Dd with nx := w Dd } ⟨fun G δ σ H R h => hw e da G δ σ H D Dd E R h, E.bk, E.ct, E.rt, E.rn, E.rb⟩ R h
def dAsg (i : Nat) (a : DE) : DS := fun D δ => a δ fun d δ' => D.nx (δ'.set i (.val d))
theorem rf_asg {K : KW} (ha : RfE K ta a) : RfS K (tAsg ta (gName i)) (dAsg i a) := fun e da G δ σ H D Dd E R h =>
  ha e da G δ σ H _ _ R h fun d δ' v G' H' R' eg r h' => E.nx _ _ _ _ (R'.val r i) h'
def dAsgN (i : Nat) (n : Env → (List D → Env → Prop) → Prop) : DS := fun D δ => n δ fun d δ' => D.nx (δ'.set i (.own d))
theorem rf_asgN {K : KW} {n : Env → (List D → Env → Prop) → Prop} (ha : RfN K ta n) : RfS K (tAsg ta (gName i)) (dAsgN i n) := fun e da G δ σ H D Dd E R h =>
  ha e da G δ σ H _ _ R h fun ds δ' p xs G' H0 H' R' eg hp eh r h' => by
    subst eh
    exact E.nx _ _ _ _ (R'.mine hp r i) h'
def dDrop (a : DE) : DS := fun D δ => a δ fun _ δ' => D.nx δ'
theorem rf_drop {K : KW} (ha : RfE K ta a) : RfS K (tDrop ta) (dDrop a) := fun e da G δ σ H D Dd E R h =>
  ha e da G δ σ H _ _ R h fun d δ' v G' H' R' eg r h' => E.nx _ _ _ _ R' h'
def dRet (a : DE) : DS := fun D δ => a δ fun d _ => D.rt d
theorem rf_ret {K : KW} (ha : RfE K ta a) : RfS K (tRet ta) (dRet a) := fun e da G δ σ H D Dd E R h =>
  ha e da G δ σ H _ _ R h fun d δ' v G' H' R' eg r h' => E.rt _ _ _ _ R'.toTrn r h'
def dRetN (n : Env → (List D → Env → Prop) → Prop) : DS := fun D δ => n δ fun d _ => D.rn d
theorem rf_retN {K : KW} {n : Env → (List D → Env → Prop) → Prop} (ha : RfN K ta n) : RfS K (tRet ta) (dRetN n) := fun e da G δ σ H D Dd E R h =>
  ha e da G δ σ H _ _ R h fun ds δ' p xs G' H0 H' R' eg hp eh r h' => by
    subst eh
    obtain ⟨z1, z2⟩ := R'.enone hp
    exact E.rn ds p xs G' _ (R'.toTrn.trans (Trn.mine R'.ex R'.dl hp)) upd_same z2 z1 (R'.dl.ne hp) r h'
def dRetV (i : Nat) : DS := fun D δ => match δ[i]? with
  | some (.val d) => D.rt d
  | some (.own ds) => D.rn ds
  | some (.box _ ds ls) => D.rt (.tup (ds ++ [.lst ls]))
  | _ => False
theorem rf_retV {K : KW} : RfS K (tRet (tVar i)) (dRetV i) := by
  intro e da G δ σ H D Dd E R h
  unfold dRetV at h
  cases q : δ[i]? with
  | none => rw [q] at h; exact h.elim
  | some s =>
    rw [q] at h
    cases s with
    | val d =>
      obtain ⟨A, ⟨_, v, e1, r⟩, _⟩ := R.at q
      exact ⟨v, e1, E.rt d v G H R.toTrn r h⟩
    | own ds =>
      obtain ⟨a, xs, q1, q2, q3, z1, z2, z3⟩ := R.own_at q
      exact ⟨_, q1, E.rn ds a xs G H R.toTrn q2 z3 z1 z2 q3 h⟩
    | no => exact h.elim
    | box a ds ls =>
      obtain ⟨A, ⟨t, xs, ys, rA, e1, ht, ha, r, r2⟩, hA⟩ := R.at q
      obtain ⟨m1, m2, m3, _⟩ := hA a (by rw [rA]; exact List.mem_cons_self)
      have eg : Same G (upd G a (.lst ys)) := Same.new m3
      have T : Trn K da e.G e.H (upd G a (.lst ys)) H := ⟨fun b o q => by
          by_cases hb : b = a
          · subst hb; rw [upd_same] at q; rw [ha]; exact q
          · rw [upd_ne hb] at q; exact R.ex b o q, R.eg.trans eg, R.kp, fun b o q => by
          by_cases hb : b = a
          · subst hb; exact .inr m1
          · rw [upd_ne hb] at q; exact R.fr b o q, R.dl.up eg (fun t => t.updG (by intro ps z; cases z) m3) fun b eb => ⟨by rw [upd_ne (fun z => m2 (by rw [← z]; exact eb))]; exact (R.dl.2 b eb).1, rfl⟩⟩
      exact ⟨_, e1, E.rt _ _ _ H T (.tup (same_t eg ht) ((r.up eg).app (.cons (.lst upd_same (r2.up eg)) .nil))) h⟩
    | ini x dx C fs => exact h.elim
def dRetNone : DS := fun D _ => D.rt .non
theorem rf_retNone {K : KW} : RfS K tRetN dRetNone := fun e da G δ σ H D Dd E R h => E.rt _ _ _ _ R.toTrn .non h
def dIfS (t : DT) (s w : DS) : DS := fun D δ => t δ fun b δ' => if b = true then s D δ' else w D δ'
theorem rf_ifS {K : KW} (ht : RfT K tt t) (hs : RfS K ts s) (hw : RfS K tw w) : RfS K (tIfS tt ts tw) (dIfS t s w) := fun e da G δ σ H D Dd E R h =>
  ht e da G δ σ H _ _ R h fun b δ' G' H' R' eg h' => by
    cases b with
    | true =>
      rw [if_pos rfl] at h' ⊢
      exact hs e da G' δ' σ H' D Dd E R' h'
    | false =>
      rw [if_neg Bool.false_ne_true] at h' ⊢
      exact hw e da G' δ' σ H' D Dd E R' h'
def dPar (i j : Nat) (as : DA) : DS := fun D δ => as δ fun ds δ' => ∃ d1 d2, ds = [d1, d2] ∧ D.nx ((δ'.set i (.val d1)).set j (.val d2))
theorem rf_par {K : KW} {j : Nat} (ha : RfA K tas as) : RfS K (tPar i j tas) (dPar i j as) := fun e da G δ σ H D Dd E R h =>
  ha e da G δ σ H _ _ R h fun ds δ' vs G' H' R' eg r ⟨d1, d2, ed, h'⟩ => by
    subst ed
    cases r with
    | cons r1 r2 =>
      cases r2 with
      | cons r2 r3 =>
        cases r3
        exact ⟨_, _, rfl, E.nx _ _ _ _ ((R'.val r1 i).val r2 j) h'⟩

/-! ### targets -/
abbrev DG := D → Env → (Env → Prop) → Prop
def RfG (K : KW) (g : TG) (dg : DG) : Prop := ∀ (e : En) (da : Option Addr) (G : Hp) (δ : Env) (σ : L2.St) (H : Hp) (d : D) (v : V) (P : Env → Prop) (Q : L2.St → Hp → Prop), Rel K e da G δ σ H → Rp K da G d v → dg d δ P →
  (∀ δ' σ', Rel K e da G δ' σ' H → P δ' → Q σ' H) → g v σ H Q
def dName (i : Nat) : DG := fun d δ P => P (δ.set i (.val d))
theorem rf_name {K : KW} : RfG K (gName i) (dName i) := fun e da G δ σ H d v P Q R r h k => k _ _ (R.val r i) h
abbrev DGs := List D → Env → (Env → Prop) → Prop
def RfGs (K : KW) (g : TGs) (dg : DGs) : Prop := ∀ (e : En) (da : Option Addr) (G : Hp) (δ : Env) (σ : L2.St) (H : Hp) (d : List D) (v : List V) (P : Env → Prop) (Q : L2.St → Hp → Prop), Rel K e da G δ σ H → RpA K da G d v → dg d δ P →
  (∀ δ' σ', Rel K e da G δ' σ' H → P δ' → Q σ' H) → g v σ H Q
def dGNil : DGs := fun ds δ P => ds = [] ∧ P δ
def dGCons (g : DG) (gs : DGs) : DGs := fun ds δ P => ∃ d r, ds = d :: r ∧ g d δ fun δ' => gs r δ' P
theorem rf_gnil {K : KW} : RfGs K gNil dGNil := fun e da G δ σ H d v P Q R r h k => by
  obtain ⟨rfl, h⟩ := h
  cases r
  exact ⟨rfl, k _ _ R h⟩
theorem rf_gcons {K : KW} {g : TG} {gs : TGs} {dg : DG} {dgs : DGs} (h1 : RfG K g dg) (h2 : RfGs K gs dgs) : RfGs K (gCons g gs) (dGCons dg dgs) := fun e da G δ σ H d v P Q R r h k => by
  obtain ⟨d, r', rfl, h⟩ := h
  cases r with
  | cons ra rb => exact ⟨_, _, rfl, h1 e da G δ σ H _ _ _ _ R ra h fun δ' σ' R' h' => h2 e da G δ' σ' H _ _ P Q R' rb h' k⟩
def dGTup (n : Nat) (gs : DGs) : DG := fun d δ P => ∃ ds, d = .tup ds ∧ ds.length = n ∧ gs ds δ P
theorem rf_gtup {K : KW} {n : Nat} {gs : TGs} {dgs : DGs} (h : RfGs K gs dgs) : RfG K (gTup K n gs) (dGTup n dgs) := fun e da G δ σ H d v P Q R r hd k => by
  obtain ⟨ds, rfl, hn, hd⟩ := hd
  cases r with
  | tup hs ra => exact ⟨_, _, rfl, same_t R.ex hs, by rw [← ra.length]; exact hn, h e da G δ σ H _ _ P Q R ra hd k⟩
def dAsgG (a : DE) (g : DG) : DS := fun D δ => a δ fun d δ' => g d δ' D.nx
theorem rf_asgG {K : KW} {g : TG} {dg : DG} (ha : RfE K ta a) (hg : RfG K g dg) : RfS K (tAsg ta g) (dAsgG a dg) := fun e da G δ σ H D Dd E R h =>
  ha e da G δ σ H _ _ R h fun d δ' v G' H' R' eg r h' => hg e da G' δ' σ H' d v _ _ R' r h' fun δ2 σ2 R2 h2 => E.nx _ _ _ _ R2 h2

/-! ### changes of one's own lists -/
theorem own_start {K : KW} {e : En} {da : Option Addr} {G H : Hp} {δ : Env} {σ : L2.St} {ds : List D} (R : Rel K e da G δ σ H) (h : δ[i]? = some (.own ds)) :
    ∃ a xs, σ[i]? = some (some (.ref a)) ∧ tyV K "list" (.ref a) H ∧ H a = some (.lst xs) := by
  obtain ⟨a, xs, q1, q2, _⟩ := R.own_at h
  exact ⟨a, xs, q1, .inl ⟨rfl, xs, .inl (.inl q2)⟩, q2⟩
def dApp (i : Nat) (as : DA) : DS := fun D δ => (∃ ds0, δ[i]? = some (.own ds0)) ∧ as δ fun es δ' => ∃ d ds, es = [d] ∧ δ'[i]? = some (.own ds) ∧ ds.length ≤ 1000000 ∧ D.nx (δ'.set i (.own (ds ++ [d])))
theorem rf_app {K : KW} (ha : RfA K tas as) : RfS K (tDrop (tBM K "list" rAppend (tVar i) tas)) (dApp i as) := fun e da G δ σ H D Dd E R ⟨⟨ds0, h0⟩, h⟩ => by
  obtain ⟨a, xs0, q1, qt, _⟩ := own_start R h0
  refine ⟨_, q1, qt, ha e da G δ σ H _ _ R h fun es δ' vs G' H' R' eg r ⟨d, ds, ee, hi, hl, h'⟩ => ?_⟩
  subst ee
  cases r with
  | cons r1 r2 =>
    cases r2
    obtain ⟨a', xs, p1, p2, p3, _⟩ := R'.own_at hi
    rw [q1] at p1; cases p1
    exact ⟨a, xs, _, rfl, rfl, p2, sz6l (by rw [← p3.length]; exact hl), E.nx _ _ _ _ (R'.own_set hi q1 (p3.app (.cons r1 .nil))) h'⟩
def dExt (i : Nat) (as : DA) : DS := fun D δ => (∃ ds0, δ[i]? = some (.own ds0)) ∧ as δ fun es δ' => ∃ ls ds, es = [.lst ls] ∧ δ'[i]? = some (.own ds) ∧ ds.length + ls.length ≤ 1000000 ∧ D.nx (δ'.set i (.own (ds ++ ls)))
theorem rf_ext {K : KW} (ha : RfA K tas as) : RfS K (tDrop (tBM K "list" rExtend (tVar i) tas)) (dExt i as) := fun e da G δ σ H D Dd E R ⟨⟨ds0, h0⟩, h⟩ => by
  obtain ⟨a, xs0, q1, qt, _⟩ := own_start R h0
  refine ⟨_, q1, qt, ha e da G δ σ H _ _ R h fun es δ' vs G' H' R' eg r ⟨ls, ds, ee, hi, hl, h'⟩ => ?_⟩
  subst ee
  cases r with
  | cons r1 r2 =>
    cases r2
    cases r1 with
    | lst hg rl =>
      obtain ⟨a', xs, p1, p2, p3, _⟩ := R'.own_at hi
      rw [q1] at p1; cases p1
      exact ⟨a, _, xs, _, rfl, rfl, p2, R'.ex _ _ hg, sz6 (by rw [← p3.length, ← rl.length]; exact hl), E.nx _ _ _ _ (R'.own_set hi q1 (p3.app rl)) h'⟩
def rInsert : V → List V → Hp → VK → Prop := fun x vs H Q => ∃ (l : Addr) (xs : List V) (i : Int) (y : V), x = .ref l ∧ vs = [.int i, y] ∧ H l = some (.lst xs) ∧ xs.length < sizeLine ∧ 0 ≤ i ∧ i < 2 ^ 63 ∧
    Q .non (upd H l (.lst (xs.take i.toNat ++ [y] ++ xs.drop i.toNat)))
theorem mt_insert1 {X : Cx} : MtR X "list.insert" rInsert := mt_insert
def dIns (i : Nat) (as : DA) : DS := fun D δ => (∃ ds0, δ[i]? = some (.own ds0)) ∧ as δ fun es δ' => ∃ k d ds, es = [.int k, d] ∧ δ'[i]? = some (.own ds) ∧ ds.length ≤ 1000000 ∧ 0 ≤ k ∧ k ≤ 1000000 ∧ D.nx (δ'.set i (.own (ds.take k.toNat ++ [d] ++ ds.drop k.toNat)))
theorem rf_ins {K : KW} (ha : RfA K tas as) : RfS K (tDrop (tBM K "list" rInsert (tVar i) tas)) (dIns i as) := fun e da G δ σ H D Dd E R ⟨⟨ds0, h0⟩, h⟩ => by
  obtain ⟨a, xs0, q1, qt, _⟩ := own_start R h0
  refine ⟨_, q1, qt, ha e da G δ σ H _ _ R h fun es δ' vs G' H' R' eg r ⟨k, d, ds, ee, hi, hl, k0, k1, h'⟩ => ?_⟩
  subst ee
  cases r with
  | cons r1 r2 =>
    cases r2 with
    | cons r2 r3 =>
      cases r3
      cases r1
      obtain ⟨a', xs, p1, p2, p3, _⟩ := R'.own_at hi
      rw [q1] at p1; cases p1
      exact ⟨a, xs, k, _, rfl, rfl, p2, sz6l (by rw [← p3.length]; exact hl), k0, by omega, E.nx _ _ _ _ (R'.own_set hi q1 (((p3.take _).app (.cons r2 .nil)).app (p3.drop _))) h'⟩
def dPopAt (i : Nat) (as : DA) : DE := fun δ P => (∃ ds0, δ[i]? = some (.own ds0)) ∧ as δ fun es δ' => ∃ (k : Nat) (d : D) (ds : List D), es = [.int k] ∧ δ'[i]? = some (.own ds) ∧ k < 1000000 ∧ ds[k]? = some d ∧ P d (δ'.set i (.own (ds.eraseIdx k)))
theorem rf_popAt {K : KW} (ha : RfA K tas as) : RfE K (tBM K "list" rPopAt (tVar i) tas) (dPopAt i as) := fun e da G δ σ H P Q R ⟨⟨ds0, h0⟩, h⟩ kk => by
  obtain ⟨a, xs0, q1, qt, _⟩ := own_start R h0
  refine ⟨_, q1, qt, ha e da G δ σ H _ _ R h fun es δ' vs G' H' R' eg r ⟨k, d, ds, ee, hi, hk, hd, h'⟩ => ?_⟩
  subst ee
  cases r with
  | cons r1 r2 =>
    cases r2
    cases r1
    obtain ⟨a', xs, p1, p2, p3, _⟩ := R'.own_at hi
    rw [q1] at p1; cases p1
    obtain ⟨y, hy, ry⟩ := p3.get hd
    have lt : k < xs.length := (List.getElem?_eq_some_iff.mp hy).1
    refine ⟨a, xs, k, k, y, rfl, rfl, p2, by omega, by omega, ?_, hy, kk _ _ _ _ _ (R'.own_set hi q1 (p3.erase k)) eg ry h'⟩
    unfold seqIndex?
    simp
    omega
end
end DL

namespace DL
open PySem L2 RZ
section
variable {K : PySem.W.Frag} {ta tb te : TE} {a b : DE} {tt tu : TT} {t u : DT} {tas tbs : TA} {as bs : DA} {ts tw : TS} {s w : DS} {i : Nat}

/-! ### iterables -/
def ItOk (K : PySem.W.Frag) (da : Option Addr) (G : Hp) (J : It) (ds : List D) : Prop := ∀ G1 H1, Same G G1 → Same G1 H1 → DealOk K da G1 H1 →
  (∀ i d, ds[i]? = some d → J.go i H1 ∧ ∀ x H', J.yld i H1 x H' → ∃ G2, Trn K da G1 H1 G2 H' ∧ Rp K da G2 d x) ∧ J.stop ds.length H1
abbrev DI := Env → (List D → Env → Prop) → Prop
def RfI (K : KW) (wi : TI) (it : DI) : Prop := ∀ (e : En) (da : Option Addr) (G : Hp) (δ : Env) (σ : L2.St) (H : Hp) (P : List D → Env → Prop) (R : It → Hp → Prop), Rel K e da G δ σ H → it δ P →
  (∀ ds δ' J G' H', Rel K e da G' δ' σ H' → Same G G' → ItOk K da G' J ds → P ds δ' → R J H') → wi σ H R
theorem sq_same {G : Hp} {p : Addr} {xs ys : List V} (h : G p = some (.lst xs)) (h2 : SqL K G p ys) (hK : K.lookup p = none ∨ True) : (Rd G p (.lst ys)) ∨ True := .inr trivial
def dItL (a : DE) : DI := fun δ P => a δ fun x δ' => ∃ ds, x = .lst ds ∧ P ds δ'
theorem itl_ok {da : Option Addr} {G : Hp} {p : Addr} {xs : List V} {ds : List D} (hG : G p = some (.lst xs)) (r : RpA K da G ds xs) : ItOk K da G (Itl K p) ds := by
  intro G1 H1 e1 e2 dl
  have hS : SqL K H1 p xs := .inl (.inl (e2 _ _ (e1 _ _ hG)))
  refine ⟨fun i d hd => ?_, ⟨xs, hS, by rw [r.length]; exact Nat.le_refl _⟩⟩
  obtain ⟨v, hv, rv⟩ := r.get hd
  refine ⟨⟨xs, v, hS, hv⟩, fun x H' ⟨eh, q⟩ => ?_⟩
  subst eh
  have := q xs hS
  rw [hv] at this; cases this
  exact ⟨G1, Trn.refl e2 dl, rv.up e1⟩
theorem rf_itL {K : KW} (ha : RfE K ta a) : RfI K (iList K ta) (dItL a) := by
  intro e da G δ σ H P R R0 h k
  refine ha e da G δ σ H _ _ R0 h fun x δ' v G' H' R' eg r ⟨ds, ex, h'⟩ => ?_
  subst ex
  cases r with
  | lst hg ra => exact ⟨_, rfl, ⟨_, .inl (.inl (R'.ex _ _ hg))⟩, k _ _ _ _ _ R' eg (itl_ok hg ra) h'⟩
def dItT (a : DE) : DI := fun δ P => a δ fun x δ' => ∃ ds, x = .tup ds ∧ P ds δ'
theorem itt_ok {da : Option Addr} {G : Hp} {p : Addr} {xs : List V} {ds : List D} (hG : SqT K G p xs) (r : RpA K da G ds xs) : ItOk K da G (Itt K p) ds := by
  intro G1 H1 e1 e2 dl
  have hS : SqT K H1 p xs := same_t e2 (same_t e1 hG)
  refine ⟨fun i d hd => ?_, ⟨xs, hS, by rw [r.length]; exact Nat.le_refl _⟩⟩
  obtain ⟨v, hv, rv⟩ := r.get hd
  refine ⟨⟨xs, v, hS, hv⟩, fun x H' ⟨eh, q⟩ => ?_⟩
  subst eh
  have := q xs hS
  rw [hv] at this; cases this
  exact ⟨G1, Trn.refl e2 dl, rv.up e1⟩
theorem rf_itT {K : KW} (ha : RfE K ta a) : RfI K (iTup K ta) (dItT a) := by
  intro e da G δ σ H P R R0 h k
  refine ha e da G δ σ H _ _ R0 h fun x δ' v G' H' R' eg r ⟨ds, ex, h'⟩ => ?_
  subst ex
  cases r with
  | tup hg ra => exact ⟨_, rfl, ⟨_, same_t R'.ex hg⟩, k _ _ _ _ _ R' eg (itt_ok hg ra) h'⟩
def sgn (c : Nat) : D := .str ⟨#[c]⟩
def signs (z : Str) : List D := z.cps.toList.map sgn
def dItS (a : DE) : DI := fun δ P => a δ fun x δ' => ∃ z, x = .str z ∧ P (signs z) δ'
theorem its_ok {da : Option Addr} {G : Hp} {z : Str} : ItOk K da G (Its z) (signs z) := by
  intro G1 H1 e1 e2 dl
  refine ⟨fun i d hd => ?_, ?_⟩
  · unfold signs at hd
    rw [List.getElem?_map] at hd
    cases q : z.cps.toList[i]? with
    | none => rw [q] at hd; cases hd
    | some c =>
      rw [q] at hd
      cases hd
      have q' : z.cps[i]? = some c := by rw [← Array.getElem?_toList]; exact q
      refine ⟨(Array.getElem?_eq_some_iff.mp q').1, fun x H' ⟨eh, c2, hc, ex⟩ => ?_⟩
      subst eh; subst ex
      rw [q'] at hc; cases hc
      exact ⟨G1, Trn.refl e2 dl, .str _⟩
  · show z.cps.size ≤ (signs z).length
    unfold signs
    rw [List.length_map, Array.length_toList]
    exact Nat.le_refl _
theorem rf_itS {K : KW} (ha : RfE K ta a) : RfI K (iStr ta) (dItS a) := by
  intro e da G δ σ H P R R0 h k
  refine ha e da G δ σ H _ _ R0 h fun x δ' v G' H' R' eg r ⟨z, ex, h'⟩ => ?_
  subst ex
  cases r
  exact ⟨z, rfl, k _ _ _ _ _ R' eg its_ok h'⟩
def rngD (lo : Int) (n : Nat) : List D := (List.range n).map fun k => .int (lo + (k : Nat))
theorem rngD_get {lo : Int} {n i : Nat} {d : D} (h : (rngD lo n)[i]? = some d) : i < n ∧ d = .int (lo + (i : Nat)) := by
  unfold rngD at h
  rw [List.getElem?_map] at h
  cases q : (List.range n)[i]? with
  | none => rw [q] at h; cases h
  | some j =>
    rw [q] at h
    cases h
    obtain ⟨lt, e⟩ := List.getElem?_eq_some_iff.mp q
    rw [List.length_range] at lt
    rw [List.getElem_range] at e
    subst e
    exact ⟨lt, rfl⟩
theorem itr_ok {da : Option Addr} {G : Hp} {lo : Int} {n : Nat} : ItOk K da G (Itr lo n) (rngD lo n) := by
  intro G1 H1 e1 e2 dl
  refine ⟨fun i d hd => ?_, ?_⟩
  · obtain ⟨lt, ed⟩ := rngD_get hd
    subst ed
    refine ⟨lt, fun x H' ⟨eh, ex⟩ => ?_⟩
    subst eh; subst ex
    exact ⟨G1, Trn.refl e2 dl, .int _⟩
  · show n ≤ (rngD lo n).length
    unfold rngD
    rw [List.length_map, List.length_range]
    exact Nat.le_refl _
def dItR1 (as : DA) : DI := fun δ P => as δ fun ds δ' => ∃ j : Int, ds = [.int j] ∧ -1000000 ≤ j ∧ j ≤ 1000000 ∧ P (rngD 0 j.toNat) δ'
theorem rf_itR1 {K : KW} (ha : RfA K tas as) : RfI K (iRng1 tas) (dItR1 as) := by
  intro e da G δ σ H P R R0 h k
  refine ha e da G δ σ H _ _ R0 h fun ds δ' v G' H' R' eg r ⟨j, ed, h0, h1, h'⟩ => ?_
  subst ed
  cases r with
  | cons r1 r2 =>
    cases r2; cases r1
    exact ⟨j, rfl, by omega, by omega, k _ _ _ _ _ R' eg itr_ok h'⟩
def dItR2 (as : DA) : DI := fun δ P => as δ fun ds δ' => ∃ i j : Int, ds = [.int i, .int j] ∧ (-1000000 ≤ i ∧ i ≤ 1000000 ∧ -1000000 ≤ j ∧ j ≤ 1000000) ∧ P (rngD i (j - i).toNat) δ'
theorem rf_itR2 {K : KW} (ha : RfA K tas as) : RfI K (iRng2 tas) (dItR2 as) := by
  intro e da G δ σ H P R R0 h k
  refine ha e da G δ σ H _ _ R0 h fun ds δ' v G' H' R' eg r ⟨i, j, ed, h0, h'⟩ => ?_
  subst ed
  cases r with
  | cons r1 r2 =>
    cases r2 with
    | cons r2 r3 =>
      cases r3; cases r1; cases r2
      exact ⟨i, j, rfl, by omega, k _ _ _ _ _ R' eg itr_ok h'⟩
def numbered (ds : List D) : List D := ds.mapIdx fun k d => .tup [.int (k : Nat), d]
theorem numbered_get {ds : List D} {i : Nat} {d : D} (h : (numbered ds)[i]? = some d) : ∃ x, ds[i]? = some x ∧ d = .tup [.int (i : Nat), x] := by
  unfold numbered at h
  rw [List.getElem?_mapIdx] at h
  cases q : ds[i]? with
  | none => rw [q] at h; cases h
  | some x => rw [q] at h; cases h; exact ⟨x, rfl, rfl⟩
theorem numbered_len {ds : List D} : (numbered ds).length = ds.length := by unfold numbered; rw [List.length_mapIdx]
theorem ite_ok {da : Option Addr} {G : Hp} {p : Addr} {xs : List V} {ds : List D} (hG : G p = some (.lst xs)) (r : RpA K da G ds xs) : ItOk K da G (Ite K p) (numbered ds) := by
  intro G1 H1 e1 e2 dl
  have hS : SqL K H1 p xs := .inl (.inl (e2 _ _ (e1 _ _ hG)))
  refine ⟨fun i d hd => ?_, ⟨xs, hS, by rw [numbered_len, r.length]; exact Nat.le_refl _⟩⟩
  obtain ⟨y, hy, ed⟩ := numbered_get hd
  subst ed
  obtain ⟨v, hv, rv⟩ := r.get hy
  refine ⟨⟨xs, v, hS, hv⟩, fun x H' ⟨T, x', ev, hT, eh, q⟩ => ?_⟩
  subst eh; subst ev
  have := q xs hS
  rw [hv] at this; cases this
  have gT : G1 T = none := by
    cases z : G1 T with
    | none => rfl
    | some o => rw [e2 T o z] at hT; cases hT
  have e3 : Same G1 (upd G1 T (.tup [.int (i : Nat), v])) := Same.new gT
  exact ⟨_, Trn.put e2 dl hT, .tup (.inl (.inl upd_same)) (.cons (.int _) (.cons ((rv.up e1).up e3) .nil))⟩
def dItE (as : DA) : DI := fun δ P => as δ fun xs δ' => ∃ ds, xs = [.lst ds] ∧ P (numbered ds) δ'
theorem rf_itE {K : KW} (ha : RfA K tas as) : RfI K (iEnum K tas) (dItE as) := by
  intro e da G δ σ H P R R0 h k
  refine ha e da G δ σ H _ _ R0 h fun ds δ' v G' H' R' eg r ⟨ls, ed, h'⟩ => ?_
  subst ed
  cases r with
  | cons r1 r2 =>
    cases r2
    cases r1 with
    | lst hg ra => exact ⟨_, _, rfl, .inl (.inl (R'.ex _ _ hg)), k _ _ _ _ _ R' eg (ite_ok hg ra) h'⟩
def zipped (xs ys : List D) : List D := List.zipWith (fun x y => .tup [x, y]) xs ys
theorem zipped_get {xs ys : List D} {i : Nat} {d : D} (h : (zipped xs ys)[i]? = some d) : ∃ x y, xs[i]? = some x ∧ ys[i]? = some y ∧ d = .tup [x, y] := by
  unfold zipped at h
  rw [List.getElem?_zipWith] at h
  cases q : xs[i]? with
  | none => rw [q] at h; simp at h
  | some x =>
    cases q2 : ys[i]? with
    | none => rw [q, q2] at h; simp at h
    | some y => rw [q, q2] at h; simp at h; exact ⟨x, y, rfl, rfl, h.symm⟩
theorem itz_ok {da : Option Addr} {G : Hp} {p q : Addr} {xs ys : List V} {ds es : List D} (hG : G p = some (.lst xs)) (r : RpA K da G ds xs) (hG2 : G q = some (.lst ys)) (r2 : RpA K da G es ys) : ItOk K da G (Itz K p q) (zipped ds es) := by
  intro G1 H1 e1 e2 dl
  have hS : SqL K H1 p xs := .inl (.inl (e2 _ _ (e1 _ _ hG)))
  have hS2 : SqL K H1 q ys := .inl (.inl (e2 _ _ (e1 _ _ hG2)))
  refine ⟨fun i d hd => ?_, ⟨xs, ys, hS, hS2, ?_⟩⟩
  · obtain ⟨x, y, hx, hy, ed⟩ := zipped_get hd
    subst ed
    obtain ⟨v, hv, rv⟩ := r.get hx
    obtain ⟨w, hw, rw'⟩ := r2.get hy
    refine ⟨⟨xs, ys, v, w, hS, hS2, hv, hw⟩, fun x H' ⟨T, x1, y1, ev, hT, eh, q1, q2⟩ => ?_⟩
    subst eh; subst ev
    have z1 := q1 xs hS
    rw [hv] at z1; cases z1
    have z2 := q2 ys hS2
    rw [hw] at z2; cases z2
    have gT : G1 T = none := by
      cases z : G1 T with
      | none => rfl
      | some o => rw [e2 T o z] at hT; cases hT
    have e3 : Same G1 (upd G1 T (.tup [v, w])) := Same.new gT
    exact ⟨_, Trn.put e2 dl hT, .tup (.inl (.inl upd_same)) (.cons ((rv.up e1).up e3) (.cons ((rw'.up e1).up e3) .nil))⟩
  · unfold zipped
    rw [List.length_zipWith, r.length, r2.length]
    omega
theorem itzT_ok {da : Option Addr} {G : Hp} {p q : Addr} {xs ys : List V} {ds es : List D} (hG : SqT K G p xs) (r : RpA K da G ds xs) (hG2 : SqT K G q ys) (r2 : RpA K da G es ys) : ItOk K da G (ItzT K p q) (zipped ds es) := by
  intro G1 H1 e1 e2 dl
  have hS : SqT K H1 p xs := same_t e2 (same_t e1 hG)
  have hS2 : SqT K H1 q ys := same_t e2 (same_t e1 hG2)
  refine ⟨fun i d hd => ?_, ⟨xs, ys, hS, hS2, ?_⟩⟩
  · obtain ⟨x, y, hx, hy, ed⟩ := zipped_get hd
    subst ed
    obtain ⟨v, hv, rv⟩ := r.get hx
    obtain ⟨w, hw, rw'⟩ := r2.get hy
    refine ⟨⟨xs, ys, v, w, hS, hS2, hv, hw⟩, fun x H' ⟨T, x1, y1, ev, hT, eh, q1, q2⟩ => ?_⟩
    subst eh; subst ev
    have z1 := q1 xs hS
    rw [hv] at z1; cases z1
    have z2 := q2 ys hS2
    rw [hw] at z2; cases z2
    have gT : G1 T = none := by
      cases z : G1 T with
      | none => rfl
      | some o => rw [e2 T o z] at hT; cases hT
    have e3 : Same G1 (upd G1 T (.tup [v, w])) := Same.new gT
    exact ⟨_, Trn.put e2 dl hT, .tup (.inl (.inl upd_same)) (.cons ((rv.up e1).up e3) (.cons ((rw'.up e1).up e3) .nil))⟩
  · unfold zipped
    rw [List.length_zipWith, r.length, r2.length]
    omega
def dItZ (as : DA) : DI := fun δ P => as δ fun xs δ' => ∃ ds es, (xs = [.lst ds, .lst es] ∨ xs = [.tup ds, .tup es]) ∧ P (zipped ds es) δ'
theorem rf_itZ {K : KW} (ha : RfA K tas as) : RfI K (iZipA K tas) (dItZ as) := by
  intro e da G δ σ H P R R0 h k
  refine ha e da G δ σ H _ _ R0 h fun xs δ' v G' H' R' eg r ⟨ds, es, ed, h'⟩ => ?_
  rcases ed with ed | ed <;> subst ed
  · cases r with
    | cons r1 r2 =>
      cases r2 with
      | cons r2 r3 =>
        cases r3
        cases r1 with
        | lst hg ra =>
          cases r2 with
          | lst hg2 ra2 => exact ⟨_, _, _, _, rfl, .inl ⟨.inl (.inl (R'.ex _ _ hg)), .inl (.inl (R'.ex _ _ hg2)), k _ _ _ _ _ R' eg (itz_ok hg ra hg2 ra2) h'⟩⟩
  · cases r with
    | cons r1 r2 =>
      cases r2 with
      | cons r2 r3 =>
        cases r3
        cases r1 with
        | tup hg ra =>
          cases r2 with
          | tup hg2 ra2 => exact ⟨_, _, _, _, rfl, .inr ⟨same_t R'.ex hg, same_t R'.ex hg2, k _ _ _ _ _ R' eg (itzT_ok hg ra hg2 ra2) h'⟩⟩

/-! ### for -/
def dLoop (dg : DG) (body : DS) (D : DEnds) : List DL.D → Env → Prop
  | [], δ => D.nx δ
  | d :: ds, δ => dg d δ fun δ' => body { D with nx := dLoop dg body D ds, ct := dLoop dg body D ds, bk := D.nx } δ'
def dFor (it : DI) (dg : DG) (body : DS) : DS := fun D δ => it δ fun ds δ' => dLoop dg body D ds δ'
theorem Rel0.weak {K : PySem.W.Frag} {e : En} {da : Option Addr} {G G0 : Hp} {δ : Env} {σ : L2.St} {H : Hp} (R : Rel0 K e da G δ σ H) (eg : Same e.G G0) (e0 : Same G0 G) : Rel0 K ⟨G0, e.H⟩ da G δ σ H :=
  ⟨⟨R.ex, e0, R.kp, fun b o q => (R.fr b o q).elim (fun z => .inl (eg b o z)) .inr, R.dl⟩, R.ln, R.sl⟩
theorem Trn.back {da : Option Addr} {G0 G1 H0 G H : Hp} (T : Trn K da G1 H0 G H) (eg : Same G0 G1) (f : ∀ b o, G1 b = some o → G0 b = some o ∨ H0 b = none) : Trn K da G0 H0 G H :=
  ⟨T.ex, eg.trans T.eg, T.kp, fun b o q => (T.fr b o q).elim (f b o) .inr, T.dl⟩
theorem Rel0.back {K : PySem.W.Frag} {e : En} {da : Option Addr} {G G0 : Hp} {δ : Env} {σ : L2.St} {H : Hp} (R : Rel0 K ⟨G0, e.H⟩ da G δ σ H) (eg : Same e.G G0) (f : ∀ b o, G0 b = some o → e.G b = some o ∨ e.H b = none) : Rel0 K e da G δ σ H :=
  ⟨Trn.back (K := K) (H0 := e.H) R.toTrn eg f, R.ln, R.sl⟩
theorem Rel.weak {K : KW} {e : En} {da : Option Addr} {G G0 : Hp} {δ : Env} {σ : L2.St} {H : Hp} (R : Rel K e da G δ σ H) (eg : Same e.G G0) (e0 : Same G0 G) (f : ∀ b o, G0 b = some o → e.G b = some o ∨ e.H b = none) : Rel K ⟨G0, e.H⟩ da G δ σ H :=
  ⟨R.toRel0.weak eg e0, fun C dd fs gs G1 δ1 σ1 H1 R1 => R.xo C dd fs gs G1 δ1 σ1 H1 (R1.back eg f)⟩
theorem Rel.back {K : KW} {e : En} {da : Option Addr} {G G0 : Hp} {δ : Env} {σ : L2.St} {H : Hp} (R : Rel K ⟨G0, e.H⟩ da G δ σ H) (eg : Same e.G G0) (f : ∀ b o, G0 b = some o → e.G b = some o ∨ e.H b = none) (xo : XOk K e da) : Rel K e da G δ σ H := ⟨R.toRel0.back eg f, xo⟩
theorem EndsOk.back {K : KW} {e : En} {da : Option Addr} {G0 : Hp} {D : Ends} {Dd : DEnds} (E : EndsOk K e da D Dd) (eg : Same e.G G0) (f : ∀ b o, G0 b = some o → e.G b = some o ∨ e.H b = none) (xo : XOk K e da) : EndsOk K ⟨G0, e.H⟩ da D Dd where
  nx := fun G δ σ H R h => E.nx G δ σ H (R.back eg f xo) h
  bk := fun G δ σ H R h => E.bk G δ σ H (R.back eg f xo) h
  ct := fun G δ σ H R h => E.ct G δ σ H (R.back eg f xo) h
  rt := fun d v G H T r h => E.rt d v G H (Trn.back (K := K) (H0 := e.H) T eg f) r h
  rn := fun ds a xs G H T h1 h2 h3 h4 r h => E.rn ds a xs G H (Trn.back (K := K) (H0 := e.H) T eg f) h1 h2 h3 h4 r h
  rb := fun ds ls t a xs ys G H T h0 h1 h2 h3 h4 r r2 h => E.rb ds ls t a xs ys G H (Trn.back (K := K) (H0 := e.H) T eg f) h0 h1 h2 h3 h4 r r2 h
theorem rf_for {K : KW} {wi : TI} {it : DI} {g : TG} {dg : DG} (hi : RfI K wi it) (hg : RfG K g dg) (hs : RfS K ts s) : RfS K (tFor wi g ts) (dFor it dg s) := by
  intro e da G δ σ H D Dd E R h
  refine hi e da G δ σ H _ _ R h fun ds δ' J G0 H0 R0 eg ok h' => ?_
  have f0 : ∀ b o, G0 b = some o → e.G b = some o ∨ e.H b = none := R0.fr
  have eg0 : Same e.G G0 := R0.eg
  have E0 := E.back eg0 f0 R0.xo
  refine ⟨fun i m σ H => i ≤ ds.length ∧ m = ds.length - i ∧ ∃ G δ, Rel K ⟨G0, e.H⟩ da G δ σ H ∧ dLoop dg s Dd (ds.drop i) δ, ⟨_, Nat.zero_le _, rfl, G0, δ', R0.weak eg0 (Same.refl _) f0, h'⟩, ?_⟩
  rintro i m σ1 H1 ⟨hle, rfl, G1, δ1, R1, h1⟩
  have okk := ok G1 H1 R1.eg R1.ex R1.dl
  by_cases lt : i < ds.length
  · right
    have hd : ds[i]? = some ds[i] := List.getElem?_eq_getElem lt
    obtain ⟨go, yl⟩ := okk.1 i _ hd
    rw [List.drop_eq_getElem_cons lt] at h1
    refine ⟨go, fun σ H => ∃ G δ, Rel K ⟨G0, e.H⟩ da G δ σ H ∧ dLoop dg s Dd (ds.drop (i + 1)) δ, fun σ' H' ⟨G, δ, R, h⟩ => ⟨_, by omega, lt, rfl, G, δ, R, h⟩, fun x H' hy => ?_⟩
    obtain ⟨G2, T2, rx⟩ := yl x H' hy
    refine hg ⟨G0, e.H⟩ da G2 δ1 σ1 H' ds[i] x _ _ (R1.go T2) rx h1 fun δ2 σ2 R2 h2 => ?_
    refine hs ⟨G0, e.H⟩ da G2 δ2 σ2 H' _ { Dd with nx := dLoop dg s Dd (List.drop (i + 1) ds), ct := dLoop dg s Dd (List.drop (i + 1) ds), bk := Dd.nx } ⟨fun G δ σ H R h => ⟨G, δ, R, h⟩, fun G δ σ H R h => E0.nx G δ σ H R h, fun G δ σ H R h => ⟨G, δ, R, h⟩, E0.rt, E0.rn, E0.rb⟩ R2 h2
  · left
    have e2 : i = ds.length := by omega
    subst e2
    rw [List.drop_length] at h1
    exact ⟨okk.2, E0.nx _ _ _ _ R1 h1⟩

/-! ### list comprehensions -/
def maskS : SD → SD
  | .val d => .val d
  | _ => .no
def maskw (δ : Env) : List Nat → Env
  | [] => δ.map maskS
  | v :: vs => (maskw δ vs).set v .no
def dComp (dg : DG) (t : DT) (a : DE) (δm : Env) : List D → List D → (List D → Prop) → Prop
  | [], acc, P => P acc
  | d :: ds, acc, P => dg d δm fun δ' => t δ' fun b δ2 => if b = true then a δ2 fun y _ => acc.length ≤ 1000000 ∧ dComp dg t a δm ds (acc ++ [y]) P else dComp dg t a δm ds acc P
def dLc (it : DI) (dg : DG) (t : DT) (a : DE) (vs : List Nat) : Env → (List D → Env → Prop) → Prop := fun δ P => it δ fun ds δ1 => dComp dg t a (maskw δ1 vs) ds [] fun acc => P acc δ1
def RfGw (K : KW) (g : TG) (dg : DG) (vs : List Nat) : Prop := ∀ (e : En) (da : Option Addr) (G : Hp) (δ : Env) (σ : L2.St) (H : Hp) (d : D) (v : V) (P : Env → Prop) (Q : L2.St → Hp → Prop), Rel K e da G δ σ H → Rp K da G d v → dg d δ P →
  (∀ δ' σ', Rel K e da G δ' σ' H → wipe σ' vs = wipe σ vs → P δ' → Q σ' H) → g v σ H Q
theorem wipe_set {σ : L2.St} {i : Nat} {x : Option V} : ∀ {vs : List Nat}, i ∈ vs → wipe (σ.set i x) vs = wipe σ vs
  | v :: vs, h => by
    by_cases hm : i ∈ vs
    · show (wipe (σ.set i x) vs).set v none = (wipe σ vs).set v none
      rw [wipe_set hm]
    · have hv : i = v := by
        rcases List.mem_cons.mp h with z | z
        · exact z
        · exact absurd z hm
      subst hv
      show (wipe (σ.set i x) vs).set i none = (wipe σ vs).set i none
      have key : ∀ {ws : List Nat}, i ∉ ws → wipe (σ.set i x) ws = (wipe σ ws).set i x := by
        intro ws
        induction ws with
        | nil => intro _; rfl
        | cons w ws ih =>
          intro hn
          have n1 : i ≠ w := fun z => hn (by rw [z]; exact List.mem_cons_self)
          have n2 : i ∉ ws := fun z => hn (List.mem_cons_of_mem _ z)
          show (wipe (σ.set i x) ws).set w none = ((wipe σ ws).set w none).set i x
          rw [ih n2, List.set_comm _ _ (Ne.symm n1)]
      rw [key hm, List.set_set]
theorem wipe_idem {σ : L2.St} {vs : List Nat} : wipe (wipe σ vs) vs = wipe σ vs := by
  have key : ∀ {ws : List Nat}, (∀ w ∈ ws, w ∈ vs) → wipe (wipe σ ws) vs = wipe σ vs := by
    intro ws
    induction ws with
    | nil => intro _; rfl
    | cons w ws ih =>
      intro h
      show wipe ((wipe σ ws).set w none) vs = wipe σ vs
      rw [wipe_set (h w List.mem_cons_self), ih fun x hx => h x (List.mem_cons_of_mem _ hx)]
  exact key fun _ h => h
theorem rf_nameW {K : KW} {vs : List Nat} (hi : i ∈ vs) : RfGw K (gName i) (dName i) vs := fun e da G δ σ H d v P Q R r h k => k _ _ (R.val r i) (wipe_set hi) h
def RfGsw (K : KW) (g : TGs) (dg : DGs) (vs : List Nat) : Prop := ∀ (e : En) (da : Option Addr) (G : Hp) (δ : Env) (σ : L2.St) (H : Hp) (d : List D) (v : List V) (P : Env → Prop) (Q : L2.St → Hp → Prop), Rel K e da G δ σ H → RpA K da G d v → dg d δ P →
  (∀ δ' σ', Rel K e da G δ' σ' H → wipe σ' vs = wipe σ vs → P δ' → Q σ' H) → g v σ H Q
theorem rf_gnilW {K : KW} {vs : List Nat} : RfGsw K gNil dGNil vs := fun e da G δ σ H d v P Q R r h k => by
  obtain ⟨rfl, h⟩ := h
  cases r
  exact ⟨rfl, k _ _ R rfl h⟩
theorem rf_gconsW {K : KW} {g : TG} {gs : TGs} {dg : DG} {dgs : DGs} {vs : List Nat} (h1 : RfGw K g dg vs) (h2 : RfGsw K gs dgs vs) : RfGsw K (gCons g gs) (dGCons dg dgs) vs := fun e da G δ σ H d v P Q R r h k => by
  obtain ⟨d, r', rfl, h⟩ := h
  cases r with
  | cons ra rb => exact ⟨_, _, rfl, h1 e da G δ σ H _ _ _ _ R ra h fun δ' σ' R' w' h' => h2 e da G δ' σ' H _ _ P Q R' rb h' fun δ2 σ2 R2 w2 h2 => k _ _ R2 (w2.trans w') h2⟩
theorem rf_gtupW {K : KW} {n : Nat} {gs : TGs} {dgs : DGs} {vs : List Nat} (h : RfGsw K gs dgs vs) : RfGw K (gTup K n gs) (dGTup n dgs) vs := fun e da G δ σ H d v P Q R r hd k => by
  obtain ⟨ds, rfl, hn, hd⟩ := hd
  cases r with
  | tup hs ra => exact ⟨_, _, rfl, same_t R.ex hs, by rw [← ra.length]; exact hn, h e da G δ σ H _ _ P Q R ra hd k⟩
theorem maskw_len (δ : Env) : ∀ vs, (maskw δ vs).length = δ.length
  | [] => List.length_map _
  | v :: vs => by show ((maskw δ vs).set v .no).length = _; rw [List.length_set, maskw_len]
theorem maskw_rel {K : KW} {e : En} {da : Option Addr} {G : Hp} {δ : Env} {σ : L2.St} {H : Hp} (R : Rel K e da G δ σ H) : ∀ (vs : List Nat) (i : Nat) (s : SD), (maskw δ vs)[i]? = some s → Slot K da G H s ((wipe σ vs)[i]?) []
  | [], i, s, h => by
    have h' : (δ.map maskS)[i]? = some s := h
    rw [List.getElem?_map] at h'
    cases q : δ[i]? with
    | none => rw [q] at h'; cases h'
    | some x =>
      rw [q] at h'
      cases h'
      cases x with
      | val d =>
        obtain ⟨A, ⟨_, r⟩, _⟩ := R.at q
        exact ⟨rfl, r⟩
      | no => rfl
      | own ds => rfl
      | box a ds ls => rfl
      | ini x dx C fs => rfl
  | v :: vs, i, s, h => by
    have h' : ((maskw δ vs).set v .no)[i]? = some s := h
    rcases get_set h' with ⟨rfl, lt, rfl⟩ | ⟨n, q⟩
    · rfl
    · have z := maskw_rel R vs i s q
      show Slot K da G H s (((wipe σ vs).set v none)[i]?) []
      rw [List.getElem?_set_ne (Ne.symm n)]
      exact z
theorem wipe_len (σ : L2.St) : ∀ vs, (wipe σ vs).length = σ.length
  | [] => rfl
  | v :: vs => by show ((wipe σ vs).set v none).length = _; rw [List.length_set, wipe_len]
theorem rf_lc {K : KW} {wi : TI} {it : DI} {g : TG} {dg : DG} {vs : List Nat} (hi : RfI K wi it) (hg : RfGw K.still g dg vs) (ht : RfT K.still tt t) (ha : RfE K.still te a) : RfN K (tLc wi g tt te vs) (dLc it dg t a vs) := by
  intro e da G δ σ H P Q R h k
  refine hi e da G δ σ H _ _ R h fun ds δ1 J G1 H1 R1 eg ok h1 => ?_
  intro Dd hD
  have nD : da ≠ some Dd := R1.dl.ne hD
  refine ⟨fun i m H => i ≤ ds.length ∧ m = ds.length - i ∧ ∃ G acc accD B, H = upd B Dd (.lst acc) ∧ B Dd = none ∧ Trn K da G1 H1 G B ∧ RpA K da G accD acc ∧ dComp dg t a (maskw δ1 vs) (ds.drop i) accD (fun acc => P acc δ1),
    ⟨_, Nat.zero_le _, rfl, G1, [], [], H1, rfl, hD, Trn.refl R1.ex R1.dl, .nil, h1⟩, ?_⟩
  rintro i m H2 ⟨hle, rfl, G2, acc, accD, B, rfl, hB, T, ra, hc⟩
  have exB : Same G2 (upd B Dd (.lst acc)) := fun b o q => by
    rw [upd_ne (fun z => by rw [z] at q; have := T.ex _ _ q; rw [hB] at this; cases this)]
    exact T.ex b o q
  have gD : G2 Dd = none := by
    cases q : G2 Dd with
    | none => rfl
    | some o => have := T.ex _ _ q; rw [hB] at this; cases this
  have dlB : DealOk K da G2 (upd B Dd (.lst acc)) := T.dl.up (Same.refl _) (fun t => t.updH (by intro ps z; cases z) (.none hB)) fun b eb => ⟨(T.dl.2 b eb).1, upd_ne fun z => nD (by rw [← z]; exact eb)⟩
  have okk := ok G2 (upd B Dd (.lst acc)) T.eg exB dlB
  by_cases lt : i < ds.length
  · right
    have hd : ds[i]? = some ds[i] := List.getElem?_eq_getElem lt
    obtain ⟨go, yl⟩ := okk.1 i _ hd
    rw [List.drop_eq_getElem_cons lt] at hc
    refine ⟨go, fun H => ∃ G acc accD B, H = upd B Dd (.lst acc) ∧ B Dd = none ∧ Trn K da G1 H1 G B ∧ RpA K da G accD acc ∧ dComp dg t a (maskw δ1 vs) (ds.drop (i + 1)) accD (fun acc => P acc δ1),
      fun H' h => ⟨_, by omega, lt, rfl, h⟩, fun x H' hy => ?_⟩
    obtain ⟨G3, T3, rx⟩ := yl x H' hy
    have R2 : Rel K.still ⟨G2, upd B Dd (.lst acc)⟩ da G3 (maskw δ1 vs) (wipe σ vs) H' := by
      refine ⟨⟨T3, by rw [maskw_len, wipe_len]; exact R1.ln, fun _ => [], fun j s q => ?_, fun _ _ z => absurd z (by simp), fun _ _ _ _ z => absurd z (by simp)⟩, fun _ _ _ _ _ _ _ _ _ _ _ z => z.elim⟩
      exact (maskw_rel R1 vs j s q).up (T.eg.trans T3.eg) fun _ z => absurd z (by simp)
    -- behind the element: the new list stands as it was
    have fin : ∀ {G4 : Hp} {δ4 : Env} {σ4 : L2.St} {H4 : Hp}, Rel K.still ⟨G2, upd B Dd (.lst acc)⟩ da G4 δ4 σ4 H4 → H4 Dd = some (.lst acc) ∧ G4 Dd = none ∧ Trn K da G1 H1 G4 (del H4 Dd) := by
      intro G4 δ4 σ4 H4 R4
      have q1 : H4 Dd = some (.lst acc) := (R4.kp Dd _ upd_same nD).nt (by intro ps z; cases z)
      have q2 : G4 Dd = none := by
        cases q : G4 Dd with
        | none => rfl
        | some o =>
          rcases R4.fr Dd o q with z | z
          · have z' : G2 Dd = some o := z
            rw [gD] at z'; cases z'
          · have z' : upd B Dd (.lst acc) Dd = none := z
            rw [upd_same] at z'; cases z'
      refine ⟨q1, q2, T.trans ⟨fun b o q => ?_, R4.eg, fun b o q n => ?_, fun b o q => ?_, ?_⟩⟩
      · rw [del_ne (fun z => by rw [z, q2] at q; cases q)]
        exact R4.ex b o q
      · have nb : b ≠ Dd := fun z => by rw [z, hB] at q; cases q
        rw [del_ne nb]
        exact R4.kp b o (by show upd B Dd (.lst acc) b = some o; rw [upd_ne nb]; exact q) n
      · rcases R4.fr b o q with z | z
        · exact .inl z
        · have z' : upd B Dd (.lst acc) b = none := z
          by_cases nb : b = Dd
          · rw [nb, upd_same] at z'; cases z'
          · rw [upd_ne nb] at z'
            exact .inr z'
      · exact R4.dl.up (Same.refl _) (fun t => t.delH (.lst q1)) fun b eb => ⟨(R4.dl.2 b eb).1, del_ne fun z => nD (by rw [← z]; exact eb)⟩
    refine hg _ da G3 _ _ H' ds[i] x _ _ R2 rx hc fun δ2 σ2 R3 w3 h3 => ⟨by rw [w3, wipe_idem], ?_⟩
    refine ht _ da G3 δ2 σ2 H' _ _ R3 h3 fun b δ3 G4 H4 R4 e4 h4 => ?_
    cases b with
    | false =>
      rw [if_neg Bool.false_ne_true] at h4 ⊢
      obtain ⟨q1, q2, T4⟩ := fin R4
      exact ⟨G4, acc, accD, del H4 Dd, upd_del q1, del_same, T4, ra.up (T3.eg.trans e4), h4⟩
    | true =>
      rw [if_pos rfl] at h4 ⊢
      refine ha _ da G4 δ3 σ2 H4 _ _ R4 h4 fun y δ5 v G5 H5 R5 e5 ry ⟨hl, h5⟩ => ?_
      obtain ⟨q1, q2, T5⟩ := fin R5
      have rA := ra.up ((T3.eg.trans e4).trans e5)
      have eqH : upd H5 Dd (.lst (acc ++ [v])) = upd (del H5 Dd) Dd (.lst (acc ++ [v])) := by
        funext b
        by_cases nb : b = Dd
        · subst nb; rw [upd_same, upd_same]
        · rw [upd_ne nb, upd_ne nb, del_ne nb]
      exact ⟨acc, q1, sz6l (by rw [← ra.length]; exact hl), G5, acc ++ [v], accD ++ [y], del H5 Dd, eqH, del_same, T5, rA.app (.cons ry .nil), h5⟩
  · left
    have e2 : i = ds.length := by omega
    subst e2
    rw [List.drop_length] at hc
    exact ⟨okk.2, k accD δ1 Dd acc G2 B _ (R1.go T) (eg.trans T.eg) hB rfl ra hc⟩
def dYes : DT := fun δ P => P true δ
theorem rf_yes {K : KW} : RfT K tYes dYes := fun e da G δ σ H P Q R h k => k _ _ _ _ R (Same.refl _) h
end
end DL

namespace DL
open PySem PySem.Spec PyProof.Rows L2
/-! ### enumerate(text) -/
def IteS (z : Str) : It := ⟨fun i _ => i < z.cps.size, fun i H v H' => ∃ T c, v = .ref T ∧ H T = none ∧ H' = upd H T (.tup [.int (i : Nat), .str ⟨#[c]⟩]) ∧ z.cps[i]? = some c, fun i _ => i = z.cps.size⟩
theorem turn_enumS {P : Program} {w : World} {K : PySem.W.Frag} {elts : List Expr} {kk : Nat} {tpos : Pos} (z : Str) (zt : Tok) (e it : Addr) :
    Turn P w K (.Tuple elts kk tpos) (IteS z) [e, it] e (fun i h => (∃ old, IsEnum h e it ((i : Nat) : Int) old) ∧ h.IsStrIter it (strIterType z) z zt i ∧ e ≠ it) where
  mem := by simp
  obj := fun i h st b hb => by
    obtain ⟨⟨old, he⟩, ⟨o, ho, hc, hd⟩, _⟩ := st
    have e' : b = e ∨ b = it := by simpa using hb
    rcases e' with z | z
    · rw [z]; exact ⟨_, he, fun v q => nomatch q⟩
    · rw [z]; exact ⟨o, ho, fun v q => by rw [hd] at q; cases q⟩
  keep := fun i h h' st k => let ⟨⟨old, he⟩, hi, hne⟩ := st; ⟨⟨old, k e (by simp) _ he⟩, (let ⟨o, ho, r⟩ := hi; ⟨o, k it (by simp) o ho, r⟩), hne⟩
  item := by
    intro X hP hw hK hc i pins s σ H E I hf st hg
    subst hP hw hK
    obtain ⟨⟨old, he⟩, hit, hne⟩ := st
    have hel : e < s.heap.objs.size := Heap.lt_size he
    have hil : it < s.heap.objs.size := by obtain ⟨_, q, _⟩ := hit; exact Heap.lt_size q
    have hh : X.A.in1.handled = none := I.ok.hd hc
    refine wpAny_pyNext_enum_itemC (Draws.text hh it z zt) he hit hg hne (by simpa using hne) fun u h' tk ⟨c, ut, hcx, eu⟩ ho hit' hT hsz hk => ?_
    subst eu
    refine ⟨_, rfl, wpAny_letOwnedTupleGo_enum (s := { s with heap := h', toks := tk + 1 }) ho fun h'' he' sb => ?_⟩
    have hT2 : h''.get? s.heap.objs.size = some { cls := .type "tuple", data := .seq #[.int i tk, .str ⟨#[c]⟩ ut] } := (sb.2 _ (Nat.ne_of_gt hel)).trans hT
    have new : ObjOk X.prog X.w (upd H s.heap.objs.size (.tup [.int (i : Nat), .str ⟨#[c]⟩])) h'' s.heap.objs.size (.tup [.int (i : Nat), .str ⟨#[c]⟩]) :=
      ⟨by show 2 ≤ sizeLine; decide, [.int i tk, .str ⟨#[c]⟩ ut], .cons ⟨_, rfl⟩ (.cons ⟨_, rfl⟩ .nil), ⟨_, hT2, rfl, _, rfl⟩⟩
    have I1 : Inv X pins σ (upd H s.heap.objs.size (.tup [.int (i : Nat), .str ⟨#[c]⟩])) { s with heap := h'', toks := tk + 1 } :=
      I.turnedNew (ch := [e, it]) (fun b ob hb q => (sb.2 b (fun z => hb (by simp [z]))).trans (hk b ob (fun z => hb (by simp [z])) (fun z => hb (by simp [z])) q)) hf (Nat.le_refl _) new
    refine ⟨.ref s.heap.objs.size, _, I1, rfl, ⟨_, c, rfl, I.hok.fresh (Nat.le_refl _), rfl, hcx⟩, ⟨⟨.str ⟨#[c]⟩ ut, ?_⟩, (let ⟨o, ho, r⟩ := hit'; ⟨o, (sb.2 it (Ne.symm hne)).trans ho, r⟩), hne⟩, fun b hb => ?_⟩
    · have e1 : ((i + 1 : Nat) : Int) = (i : Int) + 1 := by omega
      rw [e1]; exact he'
    · have hb' : b < s.heap.objs.size := by
        have e' : b = e ∨ b = it := by simpa using hb
        rcases e' with z | z
        · rw [z]; exact hel
        · rw [z]; exact hil
      rw [upd_ne (Nat.ne_of_lt hb')]
      exact (hf b hb).1
  done := by
    intro X hP hw hK hc i pins s σ H E I hf st hg
    subst hP hw hK
    obtain ⟨⟨old, he⟩, hit, hne⟩ := st
    obtain ⟨f0, f1, f2, f3, f4, f5⟩ := hf it (by simp)
    have hh : X.A.in1.handled = none := I.ok.hd hc
    have hg' : i = z.cps.size := hg
    subst hg'
    have D := Draws.text (prog := X.prog) (w := X.w) hh it z zt
    exact wpAny_pyNext_enum_endD D he hit fun h' eb => ⟨rfl, I.turned (t' := s.toks) (fun b o hb q => eb b o hb q) f0 f1 f3 f4 f5⟩
  self := fun A i s Q E st h => let ⟨⟨_, he⟩, _⟩ := st; wpAny_pyIter_enum he h
def iEnumS (ta : TA) : TI := fun σ H R => ta σ H fun vs H1 => ∃ z, vs = [.str z] ∧ R (IteS z) H1
theorem pi_enumS {X : Cx} {e : Expr} {ta : TA} {p pos tpos : Pos} {elts : List Expr} {kk : Nat} (hg : Gl X "enumerate") (hm : X.mg "enumerate" = none) (ha : PA X [e] ta) (hs : starEach [e] X.env = [(false, eval e X.env)] := by rfl) :
    PI X (.Tuple elts kk tpos) (.Call (.Name "enumerate" p) [e] [] pos) (iEnumS ta) := by
  refine ⟨fun pins s σ H R I h => ?_⟩
  refine Call_ (ld_blt I hg hm boot_enumerate (PyProof.Rows.callWith_type1 (thn (ha.run pos pins s σ H _ I h) fun us s1 ⟨vs, H1, I1, r1, q1⟩ => ?_) hs rfl))
  obtain ⟨z, ex, q⟩ := q1
  subst ex
  cases r1 with
  | cons r rr =>
    cases rr
    obtain ⟨t, rfl⟩ := r
    refine call_enumerate_str fun h' he hit hsz hk => wpAny_pyIter_enum he ?_
    have I2 : Inv X pins σ H1 { s1 with heap := h' } := I1.kept (t' := s1.toks) hk
    refine ⟨s1.heap.objs.size + 1, [s1.heap.objs.size + 1, s1.heap.objs.size], _, _, H1, rfl, I2, turn_enumS z t (s1.heap.objs.size + 1) s1.heap.objs.size, ⟨⟨.none, he⟩, hit, Nat.succ_ne_self _⟩, fun b hb => ?_, q⟩
    have e' : b = s1.heap.objs.size + 1 ∨ b = s1.heap.objs.size := by simpa using hb
    have hle : s1.heap.objs.size ≤ b := by
      rcases e' with z | z
      · rw [z]; exact Nat.le_add_right _ _
      · rw [z]; exact Nat.le_refl _
    exact I1.fpOk hle (I1.hok.fresh hle)
section
variable {K : PySem.W.Frag} {tas : TA} {as : DA}
theorem iteS_ok {da : Option Addr} {G : Hp} {z : Str} : ItOk K da G (IteS z) (numbered (signs z)) := by
  intro G1 H1 e1 e2 dl
  refine ⟨fun i d hd => ?_, ?_⟩
  · obtain ⟨y, hy, ed⟩ := numbered_get hd
    subst ed
    unfold signs at hy
    rw [List.getElem?_map] at hy
    cases q : z.cps.toList[i]? with
    | none => rw [q] at hy; cases hy
    | some c =>
      rw [q] at hy
      cases hy
      have q' : z.cps[i]? = some c := by rw [← Array.getElem?_toList]; exact q
      refine ⟨(Array.getElem?_eq_some_iff.mp q').1, fun x H' ⟨T, c2, ev, hT, eh, hc⟩ => ?_⟩
      subst eh; subst ev
      rw [q'] at hc; cases hc
      have gT : G1 T = none := by
        cases z : G1 T with
        | none => rfl
        | some o => rw [e2 T o z] at hT; cases hT
      exact ⟨_, Trn.put e2 dl hT, .tup (.inl (.inl upd_same)) (.cons (.int _) (.cons (.str _) .nil))⟩
  · show (numbered (signs z)).length = z.cps.size
    unfold signs
    rw [numbered_len, List.length_map, Array.length_toList]
def dItES (as : DA) : DI := fun δ P => as δ fun xs δ' => ∃ z, xs = [.str z] ∧ P (numbered (signs z)) δ'
theorem rf_itES {K : KW} (ha : RfA K tas as) : RfI K (iEnumS tas) (dItES as) := by
  intro e da G δ σ H P R R0 h k
  refine ha e da G δ σ H _ _ R0 h fun ds δ' v G' H' R' eg r ⟨z, ed, h'⟩ => ?_
  subst ed
  cases r with
  | cons r1 r2 =>
    cases r2
    cases r1
    exact ⟨z, rfl, k _ _ _ _ _ R' eg iteS_ok h'⟩
end
end DL

namespace DL
open PySem PySem.Spec PyProof.Rows L2
section
variable {K : PySem.W.Frag} {X : Cx}
theorem Rp.hp {da : Option Addr} {G H : Hp} {d : D} {v : V} (h : Rp K da G d v) (e : Same G H) : Rp K da H d v := h.up e
theorem stay {da : Option Addr} {G H : Hp} (e : Same G H) (dl : DealOk K da G H) : Trn K da G H G H := Trn.refl e dl
theorem lay {da : Option Addr} {G H : Hp} {p : Addr} {o : HO} (e : Same G H) (dl : DealOk K da G H) (h : H p = none) (hn : ∀ ps, o ≠ .tbl ps := by intro ps z; cases z) : Trn K da G H (upd G p o) (upd H p o) := Trn.put e dl h hn
theorem gnone {G H : Hp} {p : Addr} (e : Same G H) (h : H p = none) : G p = none := by
  cases q : G p with
  | none => rfl
  | some u => rw [e p u q] at h; cases h

/-! ### + -/
def rAddA (K : PySem.W.Frag) : R2 := fun x y H Q => (∃ i j, x = .int i ∧ y = .int j ∧ Q (.int (i + j)) H) ∨ (∃ i j, x = .str i ∧ y = .str j ∧ i.length + j.length ≤ sizeLine ∧ Q (.str (i ++ j)) H) ∨ rCat x y H Q ∨ rCatA K x y H Q
theorem op_addA : OpR X (binaryOp .Add) (rAddA X.K) := op_add.or (op_add_str.or (op_cat.or op_catA))
def dAdd : DO := fun x y P => match x, y with
  | .int i, .int j => P (.int (i + j))
  | .str i, .str j => i.length + j.length ≤ 1000000 ∧ P (.str (i ++ j))
  | .lst i, .lst j => i.length + j.length ≤ 1000000 ∧ P (.lst (i ++ j))
  | .tup i, .tup j => i.length + j.length ≤ 1000000 ∧ P (.tup (i ++ j))
  | _, _ => False
theorem rfo_add : RfO K (rAddA K) dAdd := by
  intro da G H x y d1 d2 P Q e dl r1 r2 h k
  unfold dAdd at h
  cases r1 <;> cases r2 <;> try exact h.elim
  · exact .inl ⟨_, _, rfl, rfl, k _ _ G H (stay e dl) (.int _) h⟩
  · exact .inr (.inl ⟨_, _, rfl, rfl, sz6 h.1, k _ _ G H (stay e dl) (.str _) h.2⟩)
  · rename_i a xs ds hg ra b ys es hg2 ra2
    refine .inr (.inr (.inl ⟨a, b, xs, ys, rfl, rfl, e _ _ hg, e _ _ hg2, by rw [← ra.length, ← ra2.length]; exact sz6 h.1, fun p hp => ?_⟩))
    have e2 : Same G (upd G p (.lst (xs ++ ys))) := Same.new (gnone e hp)
    exact k _ _ _ _ (lay e dl hp) (.lst upd_same ((ra.app ra2).up e2)) h.2
  · rename_i a xs ds hg ra b ys es hg2 ra2
    refine .inr (.inr (.inr ⟨a, b, xs, ys, rfl, rfl, same_t e hg, same_t e hg2, by rw [← ra.length, ← ra2.length]; exact sz6 h.1, fun z => ?_, fun _ z => ?_, fun _ _ p hp => ?_⟩))
    · subst z
      cases ra
      exact k _ _ G H (stay e dl) (.tup hg2 ra2) h.2
    · subst z
      cases ra2
      exact k _ _ G H (stay e dl) (.tup hg ra) (by have := h.2; rwa [List.append_nil] at this)
    · have e2 : Same G (upd G p (.tup (xs ++ ys))) := Same.new (gnone e hp)
      exact k _ _ _ _ (lay e dl hp) (.tup (.inl (.inl upd_same)) ((ra.app ra2).up e2)) h.2

/-! ### ints -/
def dInt2 (C : Int → Int → Prop) (g : Int → Int → Int) : DO := fun x y P => ∃ i j, x = .int i ∧ y = .int j ∧ C i j ∧ P (.int (g i j))
theorem rfo_I0 {g : Int → Int → Int} : RfO K (rI0 fun i j => .int (g i j)) (dInt2 (fun _ _ => True) g) := by
  intro da G H x y d1 d2 P Q e dl r1 r2 ⟨i, j, e1, e2, _, h⟩ k
  subst e1; subst e2
  cases r1; cases r2
  exact ⟨i, j, rfl, rfl, k _ _ G H (stay e dl) (.int _) h⟩
theorem rfo_I {C : Int → Int → Prop} {g : Int → Int → Int} : RfO K (rI C fun i j => .int (g i j)) (dInt2 C g) := by
  intro da G H x y d1 d2 P Q e dl r1 r2 ⟨i, j, e1, e2, hc, h⟩ k
  subst e1; subst e2
  cases r1; cases r2
  exact ⟨i, j, rfl, rfl, hc, k _ _ G H (stay e dl) (.int _) h⟩
def dCmp2 (g : Int → Int → Bool) : DO := fun x y P => ∃ i j, x = .int i ∧ y = .int j ∧ P (.bl (g i j))
theorem rfo_cmp {g : Int → Int → Bool} : RfO K (rI0 fun i j => .bl (g i j)) (dCmp2 g) := by
  intro da G H x y d1 d2 P Q e dl r1 r2 ⟨i, j, e1, e2, h⟩ k
  subst e1; subst e2
  cases r1; cases r2
  exact ⟨i, j, rfl, rfl, k _ _ G H (stay e dl) (.bl _) h⟩
def dSub : DO := dInt2 (fun _ _ => True) fun i j => i - j
def dMod : DO := dInt2 (fun _ j => 0 < j) fun i j => i % j
def dDiv : DO := dInt2 CDiv fun i j => i / j
def dPow : DO := dInt2 CPow fun i j => i ^ j.toNat
def dLtI : DO := dCmp2 fun i j => decide (i < j)
def dLeI : DO := dCmp2 fun i j => decide (i ≤ j)
def dGtI : DO := dCmp2 fun i j => decide (j < i)
def dGeI : DO := dCmp2 fun i j => decide (j ≤ i)

/-! ### * : ints; a text, a list, a tuple so many times -/
theorem op_mul_str : OpR X (binaryOp .Mult) (fun x y H Q => ∃ z k, x = .str z ∧ y = .int k ∧ MulOk z k ∧ Q (.str (Txt.mul z k)) H) := by
  intro pins s σ H x y v u Q I rx ry h
  obtain ⟨z, k, rfl, rfl, hk, q⟩ := h
  obtain ⟨t, rfl⟩ := rx
  obtain ⟨t2, rfl⟩ := ry
  exact SB.mul hk fun t' n => ⟨.str (Txt.mul z k), H, I.tok n, ⟨t', rfl⟩, q⟩
theorem tuple_mulOne (l : Addr) (items : Array Value) (n : Nat) (x : Int) (u : Tok) (sl : Array (Option Value)) (dd : Option Addr) (c0 : (decide (x < -(2 ^ 63)) || decide (x ≥ 2 ^ 63)) = false) (c1 : (items.isEmpty || x == 1) = true) :
    Meets (Builtin.«tuple.__mul__» ⟨[.ref l, .int x u], []⟩) (fun _ R s => s.heap.get? l = some { cls := .type "tuple", dict := dd, data := .seq items n, slots := sl } ∧ R (.ok (.ret (Value.ref l))) s) :=
  .of_wp fun prog w A R s h => by
    obtain ⟨hp, g, d, tk, os⟩ := s
    obtain ⟨hl, h⟩ := h
    have f1 := AutoSeq1.idx_int
    wp_walk using wpAny_loadPart' hl
    repeat (first
      | (refine wpAny_ite_false (decide_eq_false (by rw [c0]; exact Bool.false_ne_true)) ?_; wp_walk using wpAny_loadPart' hl)
      | (refine wpAny_ite_true (decide_eq_true c1) ?_; wp_walk using wpAny_loadPart' hl))
    exact ⟨_, rfl, h⟩
theorem op_repOne : OpR X (binaryOp .Mult) (fun x y H Q => ∃ l k xs, x = .ref l ∧ y = .int k ∧ SqT X.K H l xs ∧ (xs = [] ∨ k = 1) ∧ -(2 ^ 62) ≤ k ∧ k ≤ 2 ^ 62 ∧ Q (.ref l) H) := by
  intro pins s σ H x y v u Q I rx ry h
  obtain ⟨l, k, xs, rfl, rfl, hT, hne, h1, h2, q⟩ := h
  cases rx
  obtain ⟨t, rfl⟩ := ry
  obtain ⟨its, r, ⟨⟨cls, dd, data, sl⟩, ho, hc, n, hd⟩, hs⟩ := I.tuple hT
  simp only at hc hd
  subst hc hd
  have hle : its.length = xs.length := r.length.symm
  have c0 : (decide (k < -(2 ^ 63)) || decide (k ≥ 2 ^ 63)) = false := by
    rw [decide_eq_false (by omega), decide_eq_false (by omega)] <;> rfl
  have c1 : (its.toArray.isEmpty || k == 1) = true := by
    rcases hne with e | e
    · subst e
      have : its = [] := List.eq_nil_of_length_eq_zero hle
      subst this
      rfl
    · subst e
      simp
  refine wpAny_binaryOp_repeat_ref (T := "tuple") (U := "int") (by decide) ⟨_, ho, rfl⟩ (fun s' => typeIs_int s' k t) noFill_tuple_mul F.fills_int_mul F.slot_int_rmul repeat_tuple F.slot_int_index.lookup
    (call_meets F.slot_int_rmul (typeIs_int s k t) F.entry_int_rmul (F.args_int_rmul_2 _ _) (int_rmul_tuple k t l its.toArray n dd sl)
      ⟨ho, rfl, ⟨_, ho, rfl⟩, call_meets F.slot_tuple_mul ⟨_, ho, rfl⟩ F.entry_tuple_mul (F.args_tuple_mul_2 _ _) (tuple_mulOne l its.toArray n k t sl dd c0 c1) ⟨ho, ?_⟩⟩)
  exact ⟨.ref l, H, I, rfl, q⟩
def rMulA (K : PySem.W.Frag) : R2 := fun x y H Q => rI CMul (fun i j => .int (i * j)) x y H Q ∨ (∃ z k, x = .str z ∧ y = .int k ∧ MulOk z k ∧ Q (.str (Txt.mul z k)) H) ∨ rRep x y H Q ∨
  (∃ l k xs, x = .ref l ∧ y = .int k ∧ SqT K H l xs ∧ (xs = [] ∨ k = 1) ∧ -(2 ^ 62) ≤ k ∧ k ≤ 2 ^ 62 ∧ Q (.ref l) H) ∨ rRepT K x y H Q
theorem op_mulA : OpR X (binaryOp .Mult) (rMulA X.K) := op_mul.or (op_mul_str.or (op_rep.or (op_repOne.or op_repT)))
def rep (n : Nat) (z : Str) : Str := ⟨(List.replicate n z.cps.toList).flatten.toArray⟩
def dMul : DO := fun x y P => match x, y with
  | .int i, .int j => CMul i j ∧ P (.int (i * j))
  | .str z, .int k => 0 ≤ k ∧ z.length ≤ 1000 ∧ k ≤ 1000 ∧ P (.str (rep k.toNat z))
  | .lst l, .int k => 0 ≤ k ∧ l.length ≤ 1000 ∧ k ≤ 1000 ∧ P (.lst (List.replicate k.toNat l).flatten)
  | .tup l, .int k => 0 < k ∧ l.length ≤ 1000 ∧ k ≤ 1000 ∧ P (.tup (List.replicate k.toNat l).flatten)
  | _, _ => False
theorem foldl_app : ∀ (n : Nat) (x acc : Array Nat), ((List.replicate n x).foldl (· ++ ·) acc) = acc ++ (List.replicate n x.toList).flatten.toArray
  | 0, x, acc => by simp
  | n + 1, x, acc => by
    rw [List.replicate_succ, List.foldl_cons, foldl_app n x, List.replicate_succ, List.flatten_cons]
    apply Array.ext'
    simp
theorem mul_rep {z : Str} {k : Int} (h : 0 ≤ k) : Txt.mul z k = rep k.toNat z := by
  unfold Txt.mul rep
  by_cases h1 : k < 1
  · rw [if_pos h1]
    have : k.toNat = 0 := by omega
    rw [this]; rfl
  · rw [if_neg h1]
    by_cases h2 : (k == 1 || z.length == 0) = true
    · rw [if_pos h2]
      rw [Bool.or_eq_true] at h2
      rcases h2 with h2 | h2
      · have e : k = 1 := by simpa using h2
        subst e
        show z = ⟨([z.cps.toList] : List (List Nat)).flatten.toArray⟩
        simp
      · have e : z.cps.size = 0 := by simpa [Str.length] using h2
        have e2 : z.cps = #[] := Array.eq_empty_of_size_eq_zero e
        have e3 : z = ⟨#[]⟩ := by cases z; simp at e2; subst e2; rfl
        rw [e3]
        simp
    · rw [if_neg h2]
      rw [foldl_app]
      simp
theorem rpA_rep {da : Option Addr} {G : Hp} {ds : List D} {vs : List V} (r : RpA K da G ds vs) : ∀ n, RpA K da G (List.replicate n ds).flatten (List.replicate n vs).flatten
  | 0 => .nil
  | n + 1 => by
    rw [List.replicate_succ, List.replicate_succ, List.flatten_cons, List.flatten_cons]
    exact r.app (rpA_rep r n)
theorem rfo_mul : RfO K (rMulA K) dMul := by
  intro da G H x y d1 d2 P Q e dl r1 r2 h k
  unfold dMul at h
  cases r1 <;> cases r2 <;> try exact h.elim
  · exact .inl ⟨_, _, rfl, rfl, h.1, k _ _ G H (stay e dl) (.int _) h.2⟩
  · rename_i z j
    obtain ⟨h0, hz, hj, h⟩ := h
    refine .inr (.inl ⟨z, j, rfl, rfl, ⟨?_, fun n1 n2 => ?_, fun n1 n2 => ?_⟩, by rw [mul_rep h0]; exact k _ _ G H (stay e dl) (.str _) h⟩)
    · rw [decide_eq_false (by omega), decide_eq_false (by omega)] <;> rfl
    · have h3 : (9223372036854775807 : Int) / 1000 ≤ 9223372036854775807 / j := by
        apply (Int.le_ediv_iff_mul_le (by omega)).mpr
        have : (9223372036854775807 : Int) / 1000 = 9223372036854775 := by decide
        rw [this]
        have : (9223372036854775 : Int) * j ≤ 9223372036854775 * 1000 := Int.mul_le_mul_of_nonneg_left hj (by decide)
        omega
      have : (9223372036854775807 : Int) / 1000 = 9223372036854775 := by decide
      have h4 : ((2 : Int) ^ 63 - 1) = 9223372036854775807 := by decide
      rw [h4]
      omega
    · show Builtin.Str.tooLong _ = false
      unfold Builtin.Str.tooLong
      have : z.length * j.toNat ≤ 1000 * 1000 := Nat.mul_le_mul hz (by omega)
      have h5 : z.length * j.toNat ≤ sizeLine := sz6 this
      first
        | exact decide_eq_false (Nat.not_lt.mpr h5)
        | simp [Nat.not_lt.mpr h5]
        | (simp; omega)
  · rename_i a xs ds hg ra j
    obtain ⟨h0, hz, hj, h⟩ := h
    refine .inr (.inr (.inl ⟨a, j, xs, rfl, rfl, e _ _ hg, by omega, by omega, ?_, fun p hp => ?_⟩))
    · have : xs.length * j.toNat ≤ 1000 * 1000 := Nat.mul_le_mul (by rw [← ra.length]; exact hz) (by omega)
      exact sz6 this
    · have e2 : ∀ o, Same G (upd G p o) := fun o => Same.new (gnone e hp)
      exact k _ _ _ _ (lay e dl hp) (.lst upd_same ((rpA_rep ra j.toNat).up (e2 _))) h
  · rename_i a xs ds hg ra j
    obtain ⟨h0, hz, hj, h⟩ := h
    by_cases hx : xs = [] ∨ j = 1
    · refine .inr (.inr (.inr (.inl ⟨a, j, xs, rfl, rfl, same_t e hg, hx, by omega, by omega, k _ _ G H (stay e dl) (.tup hg ?_) h⟩)))
      rcases hx with hx | hx
      · subst hx
        cases ra
        have : (List.replicate j.toNat ([] : List D)).flatten = [] := by simp
        rw [this]
        exact .nil
      · subst hx
        have : (List.replicate (1 : Int).toNat ds).flatten = ds := by simp
        rw [this]
        exact ra
    · have n1 : xs ≠ [] := fun z => hx (.inl z)
      have n2 : j ≠ 1 := fun z => hx (.inr z)
      refine .inr (.inr (.inr (.inr ⟨a, j, xs, rfl, rfl, same_t e hg, n1, by omega, hj, by rw [← ra.length]; exact hz, fun p hp => ?_⟩)))
      have e2 : ∀ o, Same G (upd G p o) := fun o => Same.new (gnone e hp)
      exact k _ _ _ _ (lay e dl hp) (.tup (.inl (.inl upd_same)) ((rpA_rep ra j.toNat).up (e2 _))) h

/-! ### plain data -/
mutual
def py : D → PyData
  | .non => .none
  | .bl b => .bool b
  | .int i => .int i
  | .str s => .str s
  | .lst l => .list (pys l)
  | .tup l => .tuple (pys l)
  | .obj _ _ => .dict []
  | .deal => .dict []
  | .ty _ => .dict []
  | .cl _ => .dict []
  | .unk => .dict []
  | .scr _ => .dict []
  | .fn _ => .dict []
def pys : List D → List PyData
  | [] => []
  | d :: ds => py d :: pys ds
end
theorem pys_map : ∀ ds : List D, pys ds = ds.map py
  | [] => rfl
  | d :: ds => by rw [pys, pys_map ds]; rfl
mutual
theorem Rp.dp {da : Option Addr} {G H : Hp} (e : Same G H) : ∀ {d : D} {v : V}, Rp K da G d v → (py d).canLay0 = true → Dp K H v (py d)
  | _, _, .non, _ => .non
  | _, _, .bl b, _ => .bl b
  | _, _, .int i, _ => .int i
  | _, _, .str s, _ => .str s
  | _, _, .lst h r, c => .lst (.inl (.inl (e _ _ h))) (RpA.dp e r (by rw [py, PyData.canLay0] at c; exact c))
  | _, _, .tup h r, c => .tup (same_t e h) (RpA.dp e r (by rw [py, PyData.canLay0] at c; exact c))
  | _, _, .obj h r, c => by rw [py, PyData.canLay0] at c; cases c
  | _, _, .deal h, c => by rw [py, PyData.canLay0] at c; cases c
  | _, _, .ty n, c => by rw [py, PyData.canLay0] at c; cases c
  | _, _, .cl C, c => by rw [py, PyData.canLay0] at c; cases c
  | _, _, .unk v, c => by rw [py, PyData.canLay0] at c; cases c
  | _, _, .scr _, c => by rw [py, PyData.canLay0] at c; cases c
  | _, _, .fn _ _ _, c => by rw [py, PyData.canLay0] at c; cases c
theorem RpA.dp {da : Option Addr} {G H : Hp} (e : Same G H) : ∀ {d : List D} {v : List V}, RpA K da G d v → PyData.canLayAll0 (pys d) = true → DpAll K H v (pys d)
  | _, _, .nil, _ => .nil
  | _, _, .cons h r, c => by
    rw [pys, PyData.canLayAll0, Bool.and_eq_true] at c
    exact .cons (Rp.dp e h c.1) (RpA.dp e r c.2)
end
abbrev shp (d : D) : Bool := SeqAt.shaped (py d)
theorem shp_can {d : D} (h : shp d = true) : (py d).canLay0 = true := (Bool.and_eq_true_iff.mp h).1
def dEq : DO := fun x y P => shp x = true ∧ shp y = true ∧ P (.bl (PyData.eqv (py x) (py y)))
def dNe : DO := fun x y P => shp x = true ∧ shp y = true ∧ P (.bl (!PyData.eqv (py x) (py y)))
theorem rfo_eq : RfO K (rEqD K) dEq := fun da G H x y d1 d2 P Q e dl r1 r2 ⟨h1, h2, h⟩ k =>
  ⟨_, _, r1.dp e (shp_can h1), r2.dp e (shp_can h2), h1, h2, k _ _ G H (stay e dl) (.bl _) h⟩
theorem rfo_ne : RfO K (rNeD K) dNe := fun da G H x y d1 d2 P Q e dl r1 r2 ⟨h1, h2, h⟩ k =>
  ⟨_, _, r1.dp e (shp_can h1), r2.dp e (shp_can h2), h1, h2, k _ _ G H (stay e dl) (.bl _) h⟩
def dInL : DO := fun x y P => ∃ ls, y = .lst ls ∧ shp x = true ∧ shp y = true ∧ P (.bl (ls.any fun z => PyData.eqv (py z) (py x)))
def dNotInL : DO := fun x y P => ∃ ls, y = .lst ls ∧ shp x = true ∧ shp y = true ∧ P (.bl (!ls.any fun z => PyData.eqv (py z) (py x)))
theorem any_pys (ls : List D) (d : PyData) : (pys ls).any (fun z => PyData.eqv z d) = ls.any fun z => PyData.eqv (py z) d := by rw [pys_map, List.any_map]; rfl
theorem rfo_inL : RfO K (rInD K) dInL := fun da G H x y d1 d2 P Q e dl r1 r2 ⟨ls, hy, h1, h2, h⟩ k => by
  subst hy
  exact ⟨_, _, r1.dp e (shp_can h1), r2.dp e (shp_can h2), h1, h2, by rw [any_pys]; exact k _ _ G H (stay e dl) (.bl _) h⟩
theorem rfo_notInL : RfO K (rNotInD K) dNotInL := fun da G H x y d1 d2 P Q e dl r1 r2 ⟨ls, hy, h1, h2, h⟩ k => by
  subst hy
  exact ⟨_, _, r1.dp e (shp_can h1), r2.dp e (shp_can h2), h1, h2, by rw [any_pys]; exact k _ _ G H (stay e dl) (.bl _) h⟩
def rInC : R2 := fun x y H Q => ∃ (c : Nat) (z : Str), x = .str ⟨#[c]⟩ ∧ y = .str z ∧ Q (.bl (decide (c ∈ z.cps.toList))) H
def rNotInC : R2 := fun x y H Q => ∃ (c : Nat) (z : Str), x = .str ⟨#[c]⟩ ∧ y = .str z ∧ Q (.bl (!decide (c ∈ z.cps.toList))) H
theorem op_inC : OpR X (compareOp .In) rInC := op_in_sign
theorem op_notInC : OpR X (compareOp .NotIn) rNotInC := op_notIn_sign
def dInC : DO := fun x y P => ∃ (c : Nat) (z : Str), x = sgn c ∧ y = .str z ∧ P (.bl (decide (c ∈ z.cps.toList)))
def dNotInC : DO := fun x y P => ∃ (c : Nat) (z : Str), x = sgn c ∧ y = .str z ∧ P (.bl (!decide (c ∈ z.cps.toList)))
theorem rfo_inC : RfO K rInC dInC := fun da G H x y d1 d2 P Q e dl r1 r2 ⟨c, z, h1, h2, h⟩ k => by
  subst h1; subst h2
  cases r1; cases r2
  exact ⟨c, z, rfl, rfl, k _ _ G H (stay e dl) (.bl _) h⟩
theorem rfo_notInC : RfO K rNotInC dNotInC := fun da G H x y d1 d2 P Q e dl r1 r2 ⟨c, z, h1, h2, h⟩ k => by
  subst h1; subst h2
  cases r1; cases r2
  exact ⟨c, z, rfl, rfl, k _ _ G H (stay e dl) (.bl _) h⟩

/-! ### subscripts -/
def dIx : DO := fun x y P => ∃ i, y = .int i ∧ match x with
  | .lst l => ∃ d, atI l i = some d ∧ P d
  | .tup l => ∃ d, atI l i = some d ∧ P d
  | .str z => z.length ≤ 1000000 ∧ ∃ c, atI z.cps.toList i = some c ∧ P (sgn c)
  | _ => False
theorem atI_rel {da : Option Addr} {G : Hp} {ds : List D} {vs : List V} {i : Int} {d : D} (r : RpA K da G ds vs) (h : atI ds i = some d) : ∃ v, atI vs i = some v ∧ Rp K da G d v := by
  unfold atI at h ⊢
  rw [← r.length]
  cases q : ixN ds.length i with
  | none => rw [q] at h; cases h
  | some j =>
    rw [q] at h
    exact r.get h
theorem rfo_ix : RfO K (rIx K) dIx := by
  intro da G H x y d1 d2 P Q e dl r1 r2 ⟨i, ey, h⟩ k
  subst ey
  cases r2
  cases r1 <;> try exact h.elim
  · obtain ⟨hz, c, hc, h⟩ := h
    exact .inr (.inr ⟨_, i, c, rfl, rfl, sz6 hz, hc, k _ _ G H (stay e dl) (.str _) h⟩)
  · rename_i a xs ds hg ra
    obtain ⟨d, hd, h⟩ := h
    obtain ⟨v, hv, rv⟩ := atI_rel ra hd
    exact .inl ⟨a, xs, i, v, rfl, rfl, .inl (.inl (e _ _ hg)), hv, k _ _ G H (stay e dl) rv h⟩
  · rename_i a xs ds hg ra
    obtain ⟨d, hd, h⟩ := h
    obtain ⟨v, hv, rv⟩ := atI_rel ra hd
    exact .inr (.inl ⟨a, xs, i, v, rfl, rfl, same_t e hg, hv, k _ _ G H (stay e dl) rv h⟩)
/-! ### slices -/
def rSlU (K : PySem.W.Frag) : V → Option Int → Option Int → Hp → VK → Prop := fun x lo hi H Q => rSlL K x lo hi H Q ∨ rSlS x lo hi H Q ∨ rSlA K x lo hi H Q
theorem sl_any : SlR X (rSlU X.K) := sl_list.or (sl_str.or sl_tupA)
def cut {α : Type} (xs : List α) (lo hi : Option Int) : List α := (xs.drop (HT.sIx xs.length 0 lo)).take (HT.sIx xs.length xs.length hi - HT.sIx xs.length 0 lo)
def dSlU : D → Option Int → Option Int → (D → Prop) → Prop := fun x lo hi P => match x with
  | .lst l => P (.lst (cut l lo hi))
  | .tup l => P (.tup (cut l lo hi))
  | .str z => z.length ≤ 1000000 ∧ P (.str (cutS z lo hi))
  | .scr ns => P (.lst (cut (ns.map .int) lo hi))
  | _ => False
theorem cut_rel {da : Option Addr} {G : Hp} {ds : List D} {vs : List V} {lo hi : Option Int} (r : RpA K da G ds vs) : RpA K da G (cut ds lo hi) (cutV vs lo hi) := by
  unfold cut cutV
  rw [r.length]
  exact (r.drop _).take _
theorem rfsl_any : RfSl K (rSlU K) dSlU := by
  intro da G H x d lo hi P Q e dl r1 h k
  cases r1 <;> try exact h.elim
  · exact .inr (.inl ⟨_, rfl, sz6 h.1, k _ _ G H (stay e dl) (.str _) h.2⟩)
  · rename_i a xs ds hg ra
    refine .inl ⟨a, xs, rfl, .inl (.inl (e _ _ hg)), fun p hp => ?_⟩
    have e2 : ∀ o, Same G (upd G p o) := fun o => Same.new (gnone e hp)
    exact k _ _ _ _ (lay e dl hp) (.lst upd_same ((cut_rel ra).up (e2 _))) h
  · rename_i a xs ds hg ra
    refine .inr (.inr ⟨a, xs, rfl, same_t e hg, fun ⟨z1, z2⟩ => ?_, fun _ p hp => ?_⟩)
    · have ec : cut ds lo hi = ds := by
        unfold cut
        rw [ra.length, z1, z2, List.drop_zero, Nat.sub_zero, ← ra.length, List.take_length]
      have h' : P (.tup (cut ds lo hi)) := h
      rw [ec] at h'
      exact k _ _ G H (stay e dl) (.tup hg ra) h'
    · have e2 : ∀ o, Same G (upd G p o) := fun o => Same.new (gnone e hp)
      exact k _ _ _ _ (lay e dl hp) (.tup (.inl (.inl upd_same)) ((cut_rel ra).up (e2 _))) h
  · rename_i a ns hq
    have ra : ∀ ns : List Int, RpA K da G (ns.map .int) (ns.map V.int) := by
      intro ns
      induction ns with
      | nil => exact .nil
      | cons n ns ih => exact .cons (.int n) ih
    refine .inl ⟨a, _, rfl, same_l e hq, fun p hp => ?_⟩
    have e2 : ∀ o, Same G (upd G p o) := fun o => Same.new (gnone e hp)
    exact k _ _ _ _ (lay e dl hp) (.lst upd_same ((cut_rel (ra ns)).up (e2 _))) h
end
end DL

namespace DL
open PySem PySem.Spec PyProof.Rows L2
section
variable {K : PySem.W.Frag} {X : Cx} {ta tb te : TE} {a b : DE} {tas tbs : TA} {as bs : DA}
/-! ### len -/
def rLenA (K : PySem.W.Frag) : List V → Hp → VK → Prop := fun xs H Q => (∃ p ys, xs = [.ref p] ∧ (SqL K H p ys ∨ SqT K H p ys) ∧ Q (.int ys.length) H) ∨ ∃ z, xs = [.str z] ∧ z.length ≤ sizeLine ∧ Q (.int z.length) H
theorem call_lenA : CallR X (.builtin "len") (rLenA X.K) := call_len_seq.or call_len_str
def lenD : D → Option Nat
  | .lst l => some l.length
  | .tup l => some l.length
  | .str z => some z.length
  | _ => none
def dLen : DC := fun ds P => ∃ x n, ds = [x] ∧ lenD x = some n ∧ n ≤ 1000000 ∧ P (.int (n : Nat))
theorem rfc_len : RfC K (rLenA K) dLen := by
  intro da G H xs ds P Q e dl r ⟨x, n, ed, hn, hz, h⟩ k
  subst ed
  cases r with
  | cons r1 r2 =>
    cases r2
    cases r1 <;> simp only [lenD, Option.some.injEq, reduceCtorEq] at hn
    · subst hn
      exact .inr ⟨_, rfl, sz6 hz, k _ _ G H (stay e dl) (.int _) h⟩
    · rename_i a xs ds hg ra
      subst hn
      refine .inl ⟨a, xs, rfl, .inl (.inl (.inl (e _ _ hg))), ?_⟩
      rw [← ra.length]
      exact k _ _ G H (stay e dl) (.int _) h
    · rename_i a xs ds hg ra
      subst hn
      refine .inl ⟨a, xs, rfl, .inr (same_t e hg), ?_⟩
      rw [← ra.length]
      exact k _ _ G H (stay e dl) (.int _) h
def lenS : SD → Option Nat
  | .val d => lenD d
  | .own ds => some ds.length
  | _ => none
def dLenV (i : Nat) : DE := fun δ P => ∃ s n, δ[i]? = some s ∧ lenS s = some n ∧ n ≤ 1000000 ∧ P (.int (n : Nat)) δ
theorem rf_lenV {K : KW} {i : Nat} : RfE K (tCB (rLenA K) (tCons (tVar i) tNil)) (dLenV i) := by
  intro e da G δ σ H P Q R ⟨s, n, hs, hn, hz, h⟩ k
  cases s with
  | val d =>
    obtain ⟨A, ⟨_, v, e1, r⟩, _⟩ := R.at hs
    refine ⟨v, e1, ?_⟩
    exact rfc_len da G H [v] [d] (fun x => P x δ) Q R.ex R.dl (.cons r .nil) ⟨d, n, rfl, hn, hz, h⟩ fun d' z G' H' T r' p => k d' δ z G' H' (R.go T) T.eg r' p
  | own ds =>
    obtain ⟨a, xs, q1, q2, q3, _⟩ := R.own_at hs
    refine ⟨_, q1, .inl ⟨a, xs, rfl, .inl (.inl (.inl q2)), ?_⟩⟩
    have hn' : ds.length = n := Option.some.inj hn
    rw [← q3.length, hn']
    exact k _ _ _ G H R (Same.refl _) (.int _) h
  | no => cases hn
  | box p a b => cases hn
  | ini a b c d => cases hn
def dIxV (i : Nat) (b : DE) : DE := fun δ P => (∃ ds0, δ[i]? = some (.own ds0)) ∧ b δ fun y δ' => ∃ j ds d, y = .int j ∧ δ'[i]? = some (.own ds) ∧ atI ds j = some d ∧ P d δ'
theorem rf_ixV {K : KW} {i : Nat} (hb : RfE K tb b) : RfE K (tOp (rIx K) (tVar i) tb) (dIxV i b) := by
  intro e da G δ σ H P Q R ⟨⟨ds0, h0⟩, h⟩ k
  obtain ⟨a, xs0, q1, _⟩ := R.own_at h0
  refine ⟨_, q1, hb e da G δ σ H _ _ R h fun y δ' w G' H' R' eg r ⟨j, ds, d, ey, hi, hd, h'⟩ => ?_⟩
  subst ey
  cases r
  obtain ⟨a', xs, p1, p2, p3, _⟩ := R'.own_at hi
  rw [q1] at p1; cases p1
  obtain ⟨v, hv, rv⟩ := atI_rel p3 hd
  exact .inl ⟨a, xs, j, v, rfl, rfl, .inl (.inl p2), hv, k _ _ _ G' H' R' eg rv h'⟩

/-! ### sum, all, any -/
def dSum : DC := fun ds P => ∃ ns : List Int, ds = [.lst (ns.map .int)] ∧ P (.int ns.sum)
theorem rp_ints {da : Option Addr} {G : Hp} : ∀ {ns : List Int} {vs : List V}, RpA K da G (ns.map D.int) vs → vs = ns.map V.int
  | [], _, h => by cases h; rfl
  | n :: ns, _, h => by
    cases h with
    | cons a b => cases a; rw [rp_ints b]; rfl
theorem rp_bls {da : Option Addr} {G : Hp} : ∀ {ns : List Bool} {vs : List V}, RpA K da G (ns.map D.bl) vs → vs = ns.map V.bl
  | [], _, h => by cases h; rfl
  | n :: ns, _, h => by
    cases h with
    | cons a b => cases a; rw [rp_bls b]; rfl
theorem rp_strs {da : Option Addr} {G : Hp} : ∀ {ns : List Str} {vs : List V}, RpA K da G (ns.map D.str) vs → vs = ns.map V.str
  | [], _, h => by cases h; rfl
  | n :: ns, _, h => by
    cases h with
    | cons a b => cases a; rw [rp_strs b]; rfl
theorem rfc_sum : RfC K (rSum K) dSum := by
  intro da G H xs ds P Q e dl r ⟨ns, ed, h⟩ k
  subst ed
  cases r with
  | cons r1 r2 =>
    cases r2
    cases r1 with
    | lst hg ra =>
      rw [rp_ints ra] at hg
      exact ⟨_, ns, rfl, .inl (.inl (e _ _ hg)), k _ _ G H (stay e dl) (.int _) h⟩
def dAll : DC := fun ds P => ∃ bs : List Bool, ds = [.lst (bs.map .bl)] ∧ P (.bl (bs.all id))
theorem rfc_all : RfC K (rAll K) dAll := by
  intro da G H xs ds P Q e dl r ⟨ns, ed, h⟩ k
  subst ed
  cases r with
  | cons r1 r2 =>
    cases r2
    cases r1 with
    | lst hg ra =>
      rw [rp_bls ra] at hg
      exact ⟨_, ns, rfl, .inl (.inl (e _ _ hg)), k _ _ G H (stay e dl) (.bl _) h⟩
/-! ### list, tuple -/
def rListA (K : PySem.W.Frag) : List V → Hp → VK → Prop := fun xs H Q => (∃ p ys, xs = [.ref p] ∧ (SqL K H p ys ∨ SqT K H p ys) ∧ ∀ l, H l = none → Q (.ref l) (upd H l (.lst ys))) ∨
  ∃ z : Str, xs = [.str z] ∧ z.length ≤ 1000000 ∧ ∀ l, H l = none → Q (.ref l) (upd H l (.lst (z.cps.toList.map fun c => V.str ⟨#[c]⟩)))
theorem call_list_strR (hc : X.calm = true) : CallR X (.type "list") (fun xs H Q => ∃ z : Str, xs = [.str z] ∧ z.length ≤ 1000000 ∧ ∀ l, H l = none → Q (.ref l) (upd H l (.lst (z.cps.toList.map fun c => V.str ⟨#[c]⟩)))) := by
  intro pins s σ H xs us Q I r h
  obtain ⟨z, rfl, hz, q⟩ := h
  obtain ⟨u, rfl, rx⟩ := vals1 r
  obtain ⟨t, rfl⟩ := rx
  have hh : X.A.handled = none := I.ok.hd hc
  refine call_list_str hh z t (fun h' tk acc c' kp e hacc => ?_) (by show z.length ≤ sizeLine; exact sz6 hz)
  have hv : Vals (z.cps.toList.map fun c => V.str ⟨#[c]⟩) acc.toList := by
    refine vals_of_at ?_ fun j x u hx hu => ?_
    · rw [List.length_map, Array.length_toList, Array.length_toList, hacc.1]
    · rw [List.getElem?_map] at hx
      obtain ⟨c, ut, hcx, rfl⟩ := hacc.2 j u (by rw [← Array.getElem?_toList]; exact hu)
      rw [Array.getElem?_toList, hcx] at hx
      cases hx
      exact ⟨ut, rfl⟩
  have hlen : (z.cps.toList.map fun c => V.str ⟨#[c]⟩).length ≤ sizeLine := by rw [List.length_map, Array.length_toList]; exact sz6 hz
  exact ⟨.ref s.heap.objs.size, _, I.laid (t' := tk) kp (Nat.le_refl _) (show ObjOk X.prog X.w _ h' _ (.lst (z.cps.toList.map fun c => V.str ⟨#[c]⟩)) from ⟨hlen, acc.toList, c', hv, by rw [Array.toArray_toList]; exact e⟩), rfl, q _ (I.hok.fresh (Nat.le_refl _))⟩
theorem call_listA (hc : X.calm = true) : CallR X (.type "list") (rListA X.K) := call_list_of.or (call_list_strR hc)
def itemsD : D → Option (List D)
  | .lst l => some l
  | .tup l => some l
  | .str z => if z.length ≤ 1000000 then some (signs z) else none
  | _ => none
def dList : List D → (List D → Prop) → Prop := fun ds P => ∃ x l, ds = [x] ∧ itemsD x = some l ∧ P l
theorem rfc_list : RfCN K (rListA K) dList := by
  intro da G H xs ds P Q e dl r ⟨x, l, ed, hl, h⟩ k
  subst ed
  cases r with
  | cons r1 r2 =>
    cases r2
    cases r1 <;> simp only [itemsD, Option.some.injEq, reduceCtorEq, Option.ite_none_right_eq_some] at hl
    · rename_i z
      obtain ⟨hz, hl⟩ := hl
      subst hl
      refine .inr ⟨z, rfl, hz, fun p hp => k _ p _ hp ?_ h⟩
      unfold signs
      generalize z.cps.toList = cs
      induction cs with
      | nil => exact .nil
      | cons c cs ih => exact .cons (.str _) ih
    · rename_i a xs ds hg ra
      subst hl
      exact .inl ⟨a, xs, rfl, .inl (.inl (.inl (e _ _ hg))), fun p hp => k _ p _ hp ra h⟩
    · rename_i a xs ds hg ra
      subst hl
      exact .inl ⟨a, xs, rfl, .inr (same_t e hg), fun p hp => k _ p _ hp ra h⟩
def rTupA (K : PySem.W.Frag) : List V → Hp → VK → Prop := fun xs H Q => ∃ p ys, xs = [.ref p] ∧ ((SqL K H p ys ∧ ∀ l, H l = none → Q (.ref l) (upd H l (.tup ys))) ∨ (SqT K H p ys ∧ Q (.ref p) H))
theorem call_tupA : CallR X (.type "tuple") (rTupA X.K) := call_tuple_of
def dTuple : DC := fun ds P => ∃ l, (ds = [.lst l] ∨ ds = [.tup l]) ∧ P (.tup l)
theorem rfc_tuple : RfC K (rTupA K) dTuple := by
  intro da G H xs ds P Q e dl r ⟨l, ed, h⟩ k
  rcases ed with ed | ed <;> subst ed
  · cases r with
    | cons r1 r2 =>
      cases r2
      cases r1 with
      | lst hg ra =>
        refine ⟨_, _, rfl, .inl ⟨.inl (.inl (e _ _ hg)), fun p hp => ?_⟩⟩
        have e2 : ∀ o, Same G (upd G p o) := fun o => Same.new (gnone e hp)
        exact k _ _ _ _ (lay e dl hp) (.tup (.inl (.inl upd_same)) (ra.up (e2 _))) h
  · cases r with
    | cons r1 r2 =>
      cases r2
      cases r1 with
      | tup hg ra => exact ⟨_, _, rfl, .inr ⟨same_t e hg, k _ _ G H (stay e dl) (.tup hg ra) h⟩⟩

/-! ### isinstance, of built-in classes and of data without instances -/
def tyD : D → Option String
  | .non => some "NoneType"
  | .bl _ => some "bool"
  | .int _ => some "int"
  | .str _ => some "str"
  | .lst _ => some "list"
  | .tup _ => some "tuple"
  | _ => none
theorem ty_rel {da : Option Addr} {G H : Hp} {d : D} {v : V} {n : String} (e : Same G H) (r : Rp K da G d v) (h : tyD d = some n) : TyX K H v (.type n) := by
  cases r <;> simp only [tyD, Option.some.injEq, reduceCtorEq] at h <;> subst h
  · exact .base .non
  · exact .base (.bl _)
  · exact .base (.int _)
  · exact .base (.str _)
  · rename_i a xs ds hg ra
    exact .base (.lst (e _ _ hg))
  · rename_i a xs ds hg ra
    rcases hg with (hg | ⟨o, hg⟩) | ⟨o, its, n, hk, hc, _⟩
    · exact .base (.tup (e _ _ hg))
    · exact .fTuple (e _ _ hg)
    · exact .kTuple hk hc
def dIsi : DC := fun ds P => ∃ x T n b, ds = [x, .ty T] ∧ tyD x = some n ∧ kitB n T = some b ∧ P (.bl b)
theorem rfc_isi : RfC K (rIsi K) dIsi := by
  intro da G H xs ds P Q e dl r ⟨x, T, n, b, ed, hn, hb, h⟩ k
  subst ed
  cases r with
  | cons r1 r2 =>
    cases r2 with
    | cons r2 r3 =>
      cases r3; cases r2
      exact ⟨_, _, _, _, b, rfl, .ty T, ty_rel e r1 hn, kit_ty hb, k _ _ G H (stay e dl) (.bl _) h⟩
def dIs2 (T U : String) (a : DE) : DE := fun δ P => a δ fun x δ' => ∃ n b c, tyD x = some n ∧ kitB n T = some b ∧ kitB n U = some c ∧ P (.bl (b || c)) δ'
theorem rf_isi2 {K : KW} {T U : String} (ha : RfE K ta a) : RfE K (tCB (rIsiT K) (tCons ta (tCons (tTup (tCons (tC (.ty T)) (tCons (tC (.ty U)) tNil))) tNil))) (dIs2 T U a) := by
  intro e da G δ σ H P Q R h k
  refine ha e da G δ σ H _ _ R h fun x δ' v G' H' R' eg r ⟨n, b, c, hn, hb, hc, h'⟩ => ⟨by show 2 ≤ sizeLine; decide, fun p hp => ?_⟩
  have tr := (R'.put (o := .tup [.ty T, .ty U]) hp)
  have e2 : ∀ o, Same G' (upd G' p o) := fun o => Same.new (R'.enone hp).2
  refine ⟨v, p, [.ty T, .ty U], .type n, [.type T, .type U], b || c, rfl, upd_same, .cons (.ty T) (.cons (.ty U) .nil), ty_rel tr.ex (r.up (e2 _)) hn, ?_, k _ _ _ _ _ tr (eg.trans (e2 _)) (.bl _) h'⟩
  exact kitAny_cons (kit_ty hb) (fun h0 => kitAny_cons (kit_ty hc) (fun h1 => by rw [h0, h1]; rfl) fun h1 => by rw [h0, h1]; rfl) fun h1 => by rw [h1]; rfl

/-! ### methods of texts -/
def dM1 (f : Str → Str → D) : DM := fun x ds P => ∃ a b, x = .str a ∧ ds = [.str b] ∧ P (f a b)
theorem rfm_count : RfM K "str" (fun x xs H Q => ∃ a b, x = .str a ∧ xs = [.str b] ∧ Q (.int (Txt.count a b)) H) (dM1 fun a b => .int (Txt.count a b)) := by
  intro da G H x xs d ds P Q e dl r rs ⟨a, b, ed, es, h⟩ k
  subst ed; subst es
  cases r
  cases rs with
  | cons r1 r2 => cases r2; cases r1; exact ⟨a, b, rfl, rfl, k _ _ G H (stay e dl) (.int _) h⟩
theorem rfm_startswith : RfM K "str" (fun x xs H Q => ∃ a b, x = .str a ∧ xs = [.str b] ∧ Q (.bl (Txt.startswith a b)) H) (dM1 fun a b => .bl (Txt.startswith a b)) := by
  intro da G H x xs d ds P Q e dl r rs ⟨a, b, ed, es, h⟩ k
  subst ed; subst es
  cases r
  cases rs with
  | cons r1 r2 => cases r2; cases r1; exact ⟨a, b, rfl, rfl, k _ _ G H (stay e dl) (.bl _) h⟩
def dM2 (f : Str → Str → Int → D) : DM := fun x ds P => ∃ a b i, x = .str a ∧ ds = [.str b, .int i] ∧ P (f a b i)
theorem rfm_startswith3 : RfM K "str" (fun x xs H Q => ∃ (a b : Str) (i : Int), x = .str a ∧ xs = [.str b, .int i] ∧ Q (.bl (Txt.startswith3 a b i)) H) (dM2 fun a b i => .bl (Txt.startswith3 a b i)) := by
  intro da G H x xs d ds P Q e dl r rs ⟨a, b, i, ed, es, h⟩ k
  subst ed; subst es
  cases r
  cases rs with
  | cons r1 r2 => cases r2 with
    | cons r2 r3 => cases r3; cases r1; cases r2; exact ⟨a, b, i, rfl, rfl, k _ _ G H (stay e dl) (.bl _) h⟩
def dJoin : DM := fun x ds P => ∃ (a : Str) (ys : List Str), x = .str a ∧ (ds = [.lst (ys.map .str)] ∨ ds = [.tup (ys.map .str)]) ∧ (ys.map (·.length)).sum + ys.length * a.length ≤ 16777216 ∧ P (.str (Txt.join a ys))
theorem rfm_join : RfM K "str" (fun x xs H Q => ∃ a p, ∃ ys : List Str, x = .str a ∧ xs = [.ref p] ∧ (SqL K H p (ys.map V.str) ∨ SqT K H p (ys.map V.str)) ∧
    (ys.map (·.length)).sum + ys.length * a.length ≤ 16777216 ∧ Q (.str (Txt.join a ys)) H) dJoin := by
  intro da G H x xs d ds P Q e dl r rs ⟨a, ys, ed, es, hz, h⟩ k
  subst ed
  cases r
  rcases es with es | es <;> subst es
  · cases rs with
    | cons r1 r2 =>
      cases r2
      cases r1 with
      | lst hg ra =>
        rw [rp_strs ra] at hg
        exact ⟨a, _, ys, rfl, rfl, .inl (.inl (.inl (e _ _ hg))), hz, k _ _ G H (stay e dl) (.str _) h⟩
  · cases rs with
    | cons r1 r2 =>
      cases r2
      cases r1 with
      | tup hg ra =>
        rw [rp_strs ra] at hg
        exact ⟨a, _, ys, rfl, rfl, .inr (same_t e hg), hz, k _ _ G H (stay e dl) (.str _) h⟩
def dIndex (a : DE) (as : DA) : DE := fun δ P => a δ fun x δ1 => (∃ z, x = .str z) ∧ as δ1 fun ds δ2 => ∃ (z b : Str) (k : Nat), x = .str z ∧ ds = [.str b] ∧ Txt.index0 z b = some k ∧ P (.int (k : Nat)) δ2
theorem rf_index {K : KW} {W : WX} (ha : RfE K ta a) (hs : RfA K tas as) : RfE K (tBMS K "str" (rIndexX W) ta tas) (dIndex a as) := by
  intro e da G δ σ H P Q R h k
  refine ha e da G δ σ H _ _ R h fun x δ1 v G1 H1 R1 e1 r1 ⟨⟨z, ex⟩, h1⟩ => ?_
  subst ex
  cases r1
  refine ⟨rfl, ?_⟩
  refine hs e da G1 δ1 σ H1 _ _ R1 h1 fun ds δ2 vs G2 H2 R2 e2 r2 ⟨z', b, j, ez, ed, hj, h2⟩ => ?_
  cases ez
  subst ed
  cases r2 with
  | cons r3 r4 =>
    cases r4; cases r3
    exact ⟨z, b, rfl, rfl, fun k' hk => by rw [hj] at hk; cases hk; exact k _ _ _ _ _ R2 (e1.trans e2) (.int _) h2, fun hn => by rw [hj] at hn; cases hn⟩

/-! ### a def's body and its promise -/
def kw0 (K : PySem.W.Frag) : KW := ⟨K, fun _ _ _ _ => False, fun _ _ _ => False⟩
def kwE (K : PySem.W.Frag) (E : XK) (PX : Addr → List (Str × D) → Prop) : KW := ⟨K, fun cls d _ H => E cls d H, fun C fs _ => PX C fs⟩
theorem start_rel {K : PySem.W.Frag} {da : Option Addr} {G H : Hp} {ds : List D} {vs : List V} {N : List Str} (e : Same G H) (dl : DealOk K da G H) (r : RpA K da G ds vs) :
    Rel0 K ⟨G, H⟩ da G (ds.map .val ++ List.replicate (N.length - ds.length) .no) (L2.start N vs) H := by
  refine ⟨Trn.refl e dl, ?_, fun _ => [], fun i s h => ?_, fun _ _ z => absurd z (by simp), fun _ _ _ _ z => absurd z (by simp)⟩
  · unfold L2.start
    rw [List.length_append, List.length_append, List.length_map, List.length_map, List.length_replicate, List.length_replicate, r.length]
  · unfold L2.start
    by_cases lt : i < ds.length
    · rw [List.getElem?_append_left (by rw [List.length_map]; exact lt), List.getElem?_map] at h
      have hd : ds[i]? = some ds[i] := List.getElem?_eq_getElem lt
      rw [hd] at h
      cases h
      obtain ⟨v, hv, rv⟩ := r.get hd
      rw [List.getElem?_append_left (by rw [List.length_map, ← r.length]; exact lt), List.getElem?_map, hv]
      exact ⟨rfl, v, rfl, rv⟩
    · rw [List.getElem?_append_right (by rw [List.length_map]; omega)] at h
      have hs : s = .no := by
        obtain ⟨_, q⟩ := List.getElem?_eq_some_iff.mp h
        rw [List.getElem_replicate] at q
        exact q.symm
      subst hs
      exact rfl
abbrev env0 (N : List Str) (ds : List D) : Env := ds.map .val ++ List.replicate (N.length - ds.length) .no
def endsD (P : D → Prop) : DEnds := ⟨fun _ => P .non, P, fun ds => P (.lst ds), fun _ => False, fun _ => False, fun _ _ => False⟩
def endsN (P : List D → Prop) : DEnds := ⟨fun _ => False, fun _ => False, P, fun _ => False, fun _ => False, fun _ _ => False⟩
theorem give {e : En} {da : Option Addr} {G H : Hp} {ds : List D} {xs : List V} {a : Addr} (T : Trn K da e.G e.H G H) (ha : H a = some (.lst xs)) (ga : G a = none) (ea : e.H a = none) (na : da ≠ some a) (r : RpA K da G ds xs) :
    Trn K da e.G e.H (upd G a (.lst xs)) H ∧ Rp K da (upd G a (.lst xs)) (.lst ds) (.ref a) := by
  have eg : Same G (upd G a (.lst xs)) := Same.new ga
  refine ⟨⟨fun b o q => ?_, T.eg.trans eg, T.kp, fun b o q => ?_, T.dl.up eg (fun t => t.updG (by intro ps z; cases z) ga) fun b eb => ⟨by rw [upd_ne (fun z => na (by rw [← z]; exact eb))]; exact (T.dl.2 b eb).1, rfl⟩⟩, .lst upd_same (r.up eg)⟩
  · by_cases hb : b = a
    · subst hb; rw [upd_same] at q; rw [ha]; exact q
    · rw [upd_ne hb] at q; exact T.ex b o q
  · by_cases hb : b = a
    · subst hb; exact .inr ea
    · rw [upd_ne hb] at q; exact T.fr b o q
variable {P : Program} {w : World} {mg : Str → Option Value} {base : Heap}
theorem okD {K : PySem.W.Frag} {x qual : Str} {st : Stmt} {f : Addr} {fd : FuncData} {N ps : List Str} {k : Nat} {S : Spec} {dv : List V} {kv : List (Str × V)} (F : FunD K x qual (defArgs st) (defBody st) (defScope st) dv kv f fd) (Sc : FnScope N ps (defScope st)) (len : ∀ ds P, S ds P → ds.length = ps.length)
    (hbody : ∀ (cdv : Value) (A : Around) (outer : List PySem.Env) (s : Shared) (H : Hp) (E : XK), Room k (A.deeper (envOfC qual (defScope st) s.heap.objs.size f cdv)) →
      ∃ t dt, PSs (cxOf CX0 P w K mg base N qual (defScope st) f cdv A outer s H E).nox (defBody st) t ∧ RfS (kw0 K) t dt ∧ ∀ ds P, S ds P → dt (endsD P) (env0 N ds)) : FnOk P w K mg base CX0 (k + 1) f fd ps (spD K S) := by
  refine F.ok Sc (fun vs H Q E h => ?_) (fun cdv A outer s H vs Q E hr h => ?_)
  · obtain ⟨G, da, ds, P', ex, dl, ra, hS, k⟩ := h
    rw [← ra.length]
    exact len ds P' hS
  · obtain ⟨G, da, ds, P', ex, dl, ra, hS, k⟩ := h
    obtain ⟨t, dt, ht, hrf, hd⟩ := hbody cdv A outer s H E hr
    refine ⟨t, ht.nox, hrf ⟨G, H⟩ da G _ _ H _ (endsD P') ⟨fun G1 δ σ H1 R p => k _ _ _ _ R.toTrn .non p, fun _ _ _ _ _ p => p.elim, fun _ _ _ _ _ p => p.elim, fun d v G1 H1 T r p => k d v G1 H1 T r p, fun ds a xs G1 H1 T ha ga ea na r p => ?_, fun _ _ _ _ _ _ _ _ _ _ _ _ _ _ _ _ p => p.elim⟩ ⟨start_rel ex dl ra, fun _ _ _ _ _ _ _ _ _ _ _ z => z.elim⟩ (hd ds P' hS)⟩
    obtain ⟨T2, r2⟩ := give T ha ga ea na r
    exact k _ _ _ _ T2 r2 p
theorem okN {K : PySem.W.Frag} {x qual : Str} {st : Stmt} {f : Addr} {fd : FuncData} {N ps : List Str} {k : Nat} {S : SpecN} {dv : List V} {kv : List (Str × V)} (F : FunD K x qual (defArgs st) (defBody st) (defScope st) dv kv f fd) (Sc : FnScope N ps (defScope st)) (len : ∀ ds P, S ds P → ds.length = ps.length)
    (hbody : ∀ (cdv : Value) (A : Around) (outer : List PySem.Env) (s : Shared) (H : Hp) (E : XK), Room k (A.deeper (envOfC qual (defScope st) s.heap.objs.size f cdv)) →
      ∃ t dt, PSs (cxOf CX0 P w K mg base N qual (defScope st) f cdv A outer s H E).nox (defBody st) t ∧ RfS (kw0 K) t dt ∧ ∀ ds P, S ds P → dt (endsN P) (env0 N ds)) : FnOk P w K mg base CX0 (k + 1) f fd ps (spN K S) := by
  refine F.ok Sc (fun vs H Q E h => ?_) (fun cdv A outer s H vs Q E hr h => ?_)
  · obtain ⟨G, da, ds, P', ex, dl, ra, hS, k⟩ := h
    rw [← ra.length]
    exact len ds P' hS
  · obtain ⟨G, da, ds, P', ex, dl, ra, hS, k⟩ := h
    obtain ⟨t, dt, ht, hrf, hd⟩ := hbody cdv A outer s H E hr
    exact ⟨t, ht.nox, hrf ⟨G, H⟩ da G _ _ H _ (endsN P') ⟨fun _ _ _ _ _ p => p.elim, fun _ _ _ _ _ p => p.elim, fun _ _ _ _ _ p => p.elim, fun _ _ _ _ _ _ p => p.elim, fun ds a xs G1 H1 T ha ga ea na r p => k ds a xs G1 H1 T ha ga ea na r p, fun _ _ _ _ _ _ _ _ _ _ _ _ _ _ _ _ p => p.elim⟩ ⟨start_rel ex dl ra, fun _ _ _ _ _ _ _ _ _ _ _ z => z.elim⟩ (hd ds P' hS)⟩

/-! ### instances -/
abbrev SpecI := List D → (List (Str × D) → Prop) → Prop
def spI (K : PySem.W.Frag) (C : Addr) (S : SpecI) : Sp := fun vs H Q _ => ∃ (G H0 : Hp) (da : Option Addr) (x dx : Addr) (us : List V) (ds : List D) (P : List (Str × D) → Prop), vs = .ref x :: us ∧ H = upd (upd H0 dx (.own x)) x (.ins C dx []) ∧ H0 x = none ∧ H0 dx = none ∧ dx ≠ x ∧
  Same G H0 ∧ DealOk K da G H0 ∧ RpA K da G ds us ∧ S ds P ∧ ∀ fs gs G' H', Trn K da G H0 G' H' → H' x = some (.ins C dx gs) → H' dx = some (.own x) → G' x = none → G' dx = none → RpF K da G' fs gs → P fs → Q .non H'
def dMake (C : Addr) (S : SpecI) (d0 : List D) (as : DA) : DE := fun δ P => as δ fun ds δ' => S (ds ++ d0) fun fs => P (.obj C fs) δ'
theorem giveI {e : En} {da : Option Addr} {G H : Hp} {x dx C : Addr} {fs : List (Str × D)} {gs : List (Str × V)} (T : Trn K da e.G e.H G H) (hx : H x = some (.ins C dx gs)) (hd : H dx = some (.own x)) (gx : G x = none) (gd : G dx = none) (ne : dx ≠ x)
    (ex : e.H x = none) (ed : e.H dx = none) (nx : da ≠ some x) (nd : da ≠ some dx) (r : RpF K da G fs gs) :
    ∃ G', Trn K da e.G e.H G' H ∧ Same G G' ∧ Rp K da G' (.obj C fs) (.ref x) := by
  have e1 : Same G (upd G dx (.own x)) := Same.new gd
  have e2 : Same (upd G dx (.own x)) (upd (upd G dx (.own x)) x (.ins C dx gs)) := Same.new (by rw [upd_ne (Ne.symm ne)]; exact gx)
  refine ⟨upd (upd G dx (.own x)) x (.ins C dx gs), ⟨fun b o q => ?_, T.eg.trans (e1.trans e2), T.kp, fun b o q => ?_, T.dl.up (e1.trans e2) (fun t => (t.updG (by intro ps z; cases z) gd).updG (by intro ps z; cases z) (by rw [upd_ne (Ne.symm ne)]; exact gx)) fun b eb => ⟨?_, rfl⟩⟩, e1.trans e2, .obj upd_same (r.up (e1.trans e2))⟩
  · by_cases hb : b = x
    · subst hb; rw [upd_same] at q; rw [hx]; exact q
    · rw [upd_ne hb] at q
      by_cases hb2 : b = dx
      · subst hb2; rw [upd_same] at q; rw [hd]; exact q
      · rw [upd_ne hb2] at q; exact T.ex b o q
  · by_cases hb : b = x
    · subst hb; exact .inr ex
    · rw [upd_ne hb] at q
      by_cases hb2 : b = dx
      · subst hb2; exact .inr ed
      · rw [upd_ne hb2] at q; exact T.fr b o q
  · rw [upd_ne (fun z => nx (by rw [← z]; exact eb)), upd_ne (fun z => nd (by rw [← z]; exact eb))]
    exact (T.dl.2 b eb).1
theorem rf_make {K : KW} {C : Addr} {S : SpecI} {E : XK} {dvs : List V} {d0 : List D} (h0 : ∀ da G, RpA K da G d0 dvs) (ha : RfA K tas as) : RfE K (tMake C (spI K C S) dvs E tas) (dMake C S d0 as) := by
  intro e da G δ σ H P Q R h k
  refine ha e da G δ σ H _ _ R h fun ds δ1 vs G1 H1 R1 e1 r1 h1 => fun x dx hx hdx ne => ?_
  refine ⟨G1, H1, da, x, dx, _, _, _, rfl, rfl, hx, hdx, ne, R1.ex, R1.dl, r1.app (h0 da G1), h1, fun fs gs G' H' T a1 a2 a3 a4 rF p => ⟨rfl, ?_⟩⟩
  obtain ⟨G2, T2, eg2, rp⟩ := giveI (e := ⟨G1, H1⟩) T a1 a2 a3 a4 ne hx hdx (R1.dl.ne hx) (R1.dl.ne hdx) rF
  exact k _ _ _ G2 H' (R1.go T2) (e1.trans T2.eg) rp p
def endsI (x dx C : Addr) (P : List (Str × D) → Prop) : DEnds := ⟨fun δ => ∃ fs, δ[0]? = some (.ini x dx C fs) ∧ P fs, fun _ => False, fun _ => False, fun _ => False, fun _ => False, fun _ _ => False⟩
theorem ini_rel {K : PySem.W.Frag} {da : Option Addr} {G H0 : Hp} {x dx C : Addr} {N : List Str} {ds : List D} {us : List V} (ex : Same G H0) (dl : DealOk K da G H0) (hx : H0 x = none) (hdx : H0 dx = none) (ne : dx ≠ x) (ra : RpA K da G ds us) :
    Rel0 K ⟨G, H0⟩ da G (.ini x dx C [] :: (ds.map .val ++ List.replicate (N.length - (ds.length + 1)) .no)) (L2.start N (.ref x :: us)) (upd (upd H0 dx (.own x)) x (.ins C dx [])) := by
  have n1 : upd H0 dx (.own x) x = none := by rw [upd_ne (Ne.symm ne)]; exact hx
  have T1 : Trn K da G H0 G (upd (upd H0 dx (.own x)) x (.ins C dx [])) := (Trn.mine ex dl hdx).trans (Trn.mine (Trn.mine (K := K) ex dl hdx).ex (Trn.mine (K := K) ex dl hdx).dl n1)
  have R0 := start_rel (N := N) (ds := .non :: ds) (vs := .non :: us) T1.ex T1.dl (.cons .non (ra))
  have gx : G x = none := gnone ex hx
  have gd : G dx = none := gnone ex hdx
  obtain ⟨A, h1, h2, h3⟩ := R0.sl
  refine ⟨T1, ?_, fun i => if i = 0 then [x, dx] else [], fun i s q => ?_, fun i a ha => ?_, fun i j a n ha hb => ?_⟩
  · have := R0.ln
    simp [L2.start] at this ⊢
    omega
  · cases i with
    | zero =>
      have q' : some (SD.ini x dx C []) = some s := q
      cases q'
      exact ⟨[], rfl, ne, rfl, upd_same, by rw [upd_ne ne, upd_same], .nil⟩
    | succ i =>
      have z := h1 (i + 1) s q
      have A0 : A (i + 1) = [] := by
        cases s with
        | val d => exact z.1
        | no => exact z
        | own d =>
          exfalso
          have : (ds.map SD.val ++ List.replicate (N.length - (ds.length + 1)) SD.no)[i]? = some (.own d) := q
          have hm := List.mem_of_getElem? this
          simp at hm
        | box d e f =>
          exfalso
          have : (ds.map SD.val ++ List.replicate (N.length - (ds.length + 1)) SD.no)[i]? = some (.box d e f) := q
          have hm := List.mem_of_getElem? this
          simp at hm
        | ini d e f g =>
          exfalso
          have : (ds.map SD.val ++ List.replicate (N.length - (ds.length + 1)) SD.no)[i]? = some (.ini d e f g) := q
          have hm := List.mem_of_getElem? this
          simp at hm
      rw [A0] at z
      exact z
  · dsimp only at ha
    by_cases i0 : i = 0
    · rw [if_pos i0] at ha
      rcases List.mem_cons.mp ha with z | z
      · subst z; exact ⟨hx, dl.ne hx, gx, NT.upd (by intro ps z; cases z)⟩
      · obtain rfl : a = dx := by simpa using z
        exact ⟨hdx, dl.ne hdx, gd, ⟨_, (upd_ne ne).trans upd_same, by intro ps z; cases z⟩⟩
    · rw [if_neg i0] at ha
      exact absurd ha (by simp)
  · dsimp only at ha hb
    by_cases i0 : i = 0
    · rw [if_neg (fun z => n (i0.trans z.symm))] at hb
      exact absurd hb (by simp)
    · rw [if_neg i0] at ha
      exact absurd ha (by simp)
theorem okI {K : PySem.W.Frag} {x qual : Str} {st : Stmt} {f C : Addr} {fd : FuncData} {N ps : List Str} {k : Nat} {S : SpecI} {dv : List V} {kv : List (Str × V)} (F : FunD K x qual (defArgs st) (defBody st) (defScope st) dv kv f fd) (Sc : FnScope N ps (defScope st)) (len : ∀ ds P, S ds P → ds.length + 1 = ps.length)
    (hbody : ∀ (cdv : Value) (A : Around) (outer : List PySem.Env) (s : Shared) (H : Hp) (E : XK), Room k (A.deeper (envOfC qual (defScope st) s.heap.objs.size f cdv)) →
      ∃ t dt, PSs (cxOf CX0 P w K mg base N qual (defScope st) f cdv A outer s H E).nox (defBody st) t ∧ RfS (kw0 K) t dt ∧
        ∀ x dx ds P, S ds P → dt (endsI x dx C P) (.ini x dx C [] :: (ds.map .val ++ List.replicate (N.length - (ds.length + 1)) .no))) : FnOk P w K mg base CX0 (k + 1) f fd ps (spI K C S) := by
  refine F.ok Sc (fun vs H Q E h => ?_) (fun cdv A outer s H vs Q E hr h => ?_)
  · obtain ⟨G, H0, da, x, dx, us, ds, P', rfl, _, _, _, _, _, _, ra, hS, _⟩ := h
    rw [List.length_cons, ← ra.length]
    exact len ds P' hS
  · obtain ⟨G, H0, da, x, dx, us, ds, P', rfl, rfl, hx, hdx, ne, ex, dl, ra, hS, k⟩ := h
    obtain ⟨t, dt, ht, hrf, hd⟩ := hbody cdv A outer s (upd (upd H0 dx (.own x)) x (.ins C dx [])) E hr
    have R1 := ini_rel (C := C) (N := N) ex dl hx hdx ne ra
    refine ⟨t, ht.nox, hrf ⟨G, H0⟩ da G _ _ _ _ (endsI x dx C P') ⟨fun G1 δ σ H1 R hp => ?_, fun _ _ _ _ _ p => p.elim, fun _ _ _ _ _ p => p.elim, fun _ _ _ _ _ _ p => p.elim, fun _ _ _ _ _ _ _ _ _ _ _ p => p.elim, fun _ _ _ _ _ _ _ _ _ _ _ _ _ _ _ _ p => p.elim⟩ ⟨R1, fun _ _ _ _ _ _ _ _ _ _ _ z => z.elim⟩ (hd x dx ds P' hS)⟩
    obtain ⟨fs, hf, p⟩ := hp
    obtain ⟨A, ⟨gs, rA, ne', _, z1, z2, z3⟩, hA⟩ := R.at hf
    have m1 := hA x (by rw [rA]; exact List.mem_cons_self)
    have m2 := hA dx (by rw [rA]; exact List.mem_cons_of_mem _ List.mem_cons_self)
    exact k fs gs G1 H1 R.toTrn z1 z2 m1.2.2.1 m2.2.2.1 z3 p
def dIniF (K : PySem.W.Frag) (i : Nat) (f : Str) (a : DE) : DS := fun D δ => a δ fun d δ' => ∃ x dx C fs, δ'[i]? = some (.ini x dx C fs) ∧ Cls K C ∧ NoAttr K C f ∧ fs.length ≤ 900 ∧ fs.lookup f = none ∧ D.nx (δ'.set i (.ini x dx C (fs ++ [(f, d)])))
theorem putF_new {f : Str} {v : V} : ∀ {gs : List (Str × V)}, gs.lookup f = none → putF f v gs = gs ++ [(f, v)]
  | [], _ => rfl
  | (g, u) :: gs, h => by
    by_cases hf : f = g
    · subst hf; rw [List.lookup_cons_self] at h; cases h
    · have hb : (f == g) = false := by simpa using hf
      rw [List.lookup_cons, hb] at h
      have hg : ¬ g = f := fun z => hf z.symm
      have e1 : putF f v ((g, u) :: gs) = (g, u) :: putF f v gs := by
        show (if g = f then (g, v) :: gs else (g, u) :: putF f v gs) = _
        rw [if_neg hg]
      rw [e1, putF_new h]
      rfl
theorem RpF.app {da : Option Addr} {G : Hp} : ∀ {ds es : List (Str × D)} {vs ws : List (Str × V)}, RpF K da G ds vs → RpF K da G es ws → RpF K da G (ds ++ es) (vs ++ ws)
  | _, _, _, _, .nil, s => s
  | _, _, _, _, .cons h r, s => .cons h (RpF.app r s)
theorem rf_iniF {K : KW} {i : Nat} {f : Str} (ha : RfE K ta a) : RfS K (sFld K (tVar i) ta f) (dIniF K i f a) := fun e da G δ σ H D Dd E R h =>
  ha e da G δ σ H _ _ R h fun d δ' v G' H' R' eg r ⟨x, dx, C, fs, hi, hc, hn, hl, hno, h'⟩ => by
    obtain ⟨A, ⟨gs, rA, ne, e1, z1, z2, z3⟩, hA⟩ := R'.at hi
    obtain ⟨m1, m2, m3, m4⟩ := hA x (by rw [rA]; exact List.mem_cons_self)
    obtain ⟨n1, n2, n3, n4⟩ := hA dx (by rw [rA]; exact List.mem_cons_of_mem _ List.mem_cons_self)
    refine ⟨.ref x, e1, x, C, dx, gs, rfl, z1, hc, hn, by rw [← z3.length]; omega, ?_⟩
    rw [putF_new (z3.no hno)]
    refine E.nx G' _ σ _ ?_ h'
    have hk : ∀ b, b ≠ x → upd H' x (.ins C dx (gs ++ [(f, v)])) b = H' b := fun b n => upd_ne n
    have T : Trn K da e.G e.H G' (upd H' x (.ins C dx (gs ++ [(f, v)]))) := ⟨fun b o q => by rw [hk b (fun z => by rw [z, m3] at q; cases q)]; exact R'.ex b o q, R'.eg,
      fun b o q n => by rw [hk b (fun z => by rw [z, m1] at q; cases q)]; exact R'.kp b o q n, R'.fr, R'.dl.up (Same.refl _) (fun t => t.updH (by intro ps z; cases z) (.ins z1)) fun b eb => ⟨(R'.dl.2 b eb).1, hk b fun z => m2 (by rw [← z]; exact eb)⟩⟩
    have Z := R'.slot (s := .ini x dx C (fs ++ [(f, d)])) (o := some (.ref x)) (B := [x, dx]) (C := [x, dx]) T i (Same.refl _) (fun b _ g nb => ⟨hk b fun z => nb (by simp [z]), g⟩) (fun b hb => ?_) (fun A h1 h2 b hb => ?_)
      ⟨gs ++ [(f, v)], rfl, ne, rfl, upd_same, by rw [hk dx ne]; exact z2, z3.app (.cons r .nil)⟩
    · rw [set_at e1] at Z
      exact Z
    · rcases List.mem_cons.mp hb with q | q
      · subst q; exact ⟨hb, m1, m2, m3, NT.upd (by intro ps z; cases z)⟩
      · obtain rfl : b = dx := by simpa using q
        exact ⟨hb, n1, n2, n3, by rw [hk _ ne]; exact n4⟩
    · obtain ⟨gs2, r1, _⟩ := h1 i _ hi
      exact .inl (by rw [r1]; exact hb)
end
end DL

namespace DL
open PySem PySem.Spec PyProof.Rows L2
theorem takesF {X : Cx} : Takes X (fun _ _ _ _ => False) := fun _ _ x => by
  obtain ⟨_, _, _, _, _, _, _, _, _, _, _, _, _, _, _, _, z⟩ := x
  exact z.elim
theorem hu64 {A : Around} {k : Nat} (hr : Room k A) : A.units + 64 < cLine := hr.units
section
variable {K : PySem.W.Frag} {X : Cx} {ta tb tc te : TE} {a b c : DE} {tas tbs : TA} {as bs : DA} {i : Nat}
theorem rf_ty {K : KW} {n : String} : RfE K (tC (.ty n)) (dC (.ty n)) := fun e da G δ σ H P Q R h k => k _ _ _ G H R (Same.refl _) (.ty n) h
def dNeg : D → (D → Prop) → Prop := fun x P => ∃ i, x = .int i ∧ P (.int (-i))
theorem rfu_neg : RfU K (rU fun i => .int (-i)) dNeg := by
  intro da G H x d P Q e dl r ⟨i, ed, h⟩ k
  subst ed
  cases r
  exact ⟨i, rfl, k _ _ G H (stay e dl) (.int _) h⟩
def dIsN (a : DE) : DE := fun δ P => a δ fun x δ' => (x = .non → P (.bl true) δ') ∧ (x ≠ .non → P (.bl false) δ') ∧ x ≠ .unk
theorem rp_non {da : Option Addr} {G : Hp} {d : D} {v : V} (r : Rp K da G d v) (h : d ≠ .unk) : v = .non ↔ d = .non := by
  cases r <;> simp at h ⊢
theorem rf_isN {K : KW} (ha : RfE K ta a) : RfE K (tIsN ta) (dIsN a) := by
  intro e da G δ σ H P Q R h k
  refine ha e da G δ σ H _ _ R h fun x δ1 v G1 H1 R1 e1 r1 ⟨h1, h2, h3⟩ => ?_
  by_cases hx : x = .non
  · have hv := (rp_non r1 h3).mpr hx
    rw [decide_eq_true hv]
    exact k _ _ _ _ _ R1 e1 (.bl _) (h1 hx)
  · have hv : ¬ v = .non := fun z => hx ((rp_non r1 h3).mp z)
    rw [decide_eq_false hv]
    exact k _ _ _ _ _ R1 e1 (.bl _) (h2 hx)
def dNotN (a : DE) : DE := fun δ P => a δ fun x δ' => (x = .non → P (.bl false) δ') ∧ (x ≠ .non → P (.bl true) δ') ∧ x ≠ .unk
theorem rf_notN {K : KW} (ha : RfE K ta a) : RfE K (tNotN ta) (dNotN a) := by
  intro e da G δ σ H P Q R h k
  refine ha e da G δ σ H _ _ R h fun x δ1 v G1 H1 R1 e1 r1 ⟨h1, h2, h3⟩ => ?_
  by_cases hx : x = .non
  · have hv := (rp_non r1 h3).mpr hx
    rw [decide_eq_true hv]
    exact k _ _ _ _ _ R1 e1 (.bl _) (h1 hx)
  · have hv : ¬ v = .non := fun z => hx ((rp_non r1 h3).mp z)
    rw [decide_eq_false hv]
    exact k _ _ _ _ _ R1 e1 (.bl _) (h2 hx)
/-! ### a < b < c -/
def dChain (o o' : DO) (a b c : DE) : DE := fun δ P => a δ fun x δ1 => b δ1 fun y δ2 => o x y fun z => ∃ k, z = .bl k ∧ if k = true then c δ2 fun w δ3 => o' y w fun u => P u δ3 else P (.bl false) δ2
theorem rf_chain {K : KW} {r r' : R2} {o o' : DO} (ho : RfO K r o) (ho' : RfO K r' o') (ha : RfE K ta a) (hb : RfE K tb b) (hc : RfE K tc c) : RfE K (tChain r r' ta tb tc) (dChain o o' a b c) := by
  intro e da G δ σ H P Q R h k
  refine ha e da G δ σ H _ _ R h fun x δ1 v G1 H1 R1 e1 r1 h1 => ?_
  refine hb e da G1 δ1 σ H1 _ _ R1 h1 fun y δ2 w G2 H2 R2 e2 r2 h2 => ?_
  refine ho da G2 H2 v w x y _ _ R2.ex R2.dl (r1.up e2) r2 h2 fun d z G3 H3 T r3 ⟨q, eq, hq⟩ => ?_
  subst eq
  cases r3
  refine ⟨q, rfl, ?_⟩
  have R3 := R2.go T
  cases q with
  | true =>
    rw [if_pos rfl] at hq ⊢
    refine hc e da G3 δ2 σ H3 _ _ R3 hq fun w' δ3 u G4 H4 R4 e4 r4 h4 => ?_
    exact ho' da G4 H4 w u y w' _ Q R4.ex R4.dl ((r2.up T.eg).up e4) r4 h4 fun d z G5 H5 T5 r5 p => k d δ3 z G5 H5 (R4.go T5) ((((e1.trans e2).trans T.eg).trans e4).trans T5.eg) r5 p
  | false =>
    rw [if_neg Bool.false_ne_true] at hq ⊢
    exact k _ _ _ _ _ R3 ((e1.trans e2).trans T.eg) (.bl _) hq
def dChainT (o o' : DO) (a b c : DE) : DT := dTest (dChain o o' a b c)
theorem rf_chainT {K : KW} {r r' : R2} {o o' : DO} (ho : RfO K r o) (ho' : RfO K r' o') (ha : RfE K ta a) (hb : RfE K tb b) (hc : RfE K tc c) : RfT K (tTest (tChain r r' ta tb tc)) (dChainT o o' a b c) := rf_test (rf_chain ho ho' ha hb hc)
def dMin2 : DC := fun ds P => ∃ i j, ds = [.int i, .int j] ∧ P (.int (if j < i then j else i))
theorem rfc_min2 : RfC K (fun xs H Q => ∃ i j, xs = [.int i, .int j] ∧ Q (.int (if j < i then j else i)) H) dMin2 := by
  intro da G H xs ds P Q e dl r ⟨i, j, ed, h⟩ k
  subst ed
  cases r with
  | cons r1 r2 => cases r2 with
    | cons r2 r3 => cases r3; cases r1; cases r2; exact ⟨i, j, rfl, k _ _ G H (stay e dl) (.int _) h⟩
/-! ### C(x, k = y) -/
def dMakeK (C : Addr) (S : SpecI) (as : DA) (b : DE) : DE := fun δ P => as δ fun ds δ1 => ds.length = 1 ∧ b δ1 fun y δ2 => S (ds ++ [y]) fun fs => P (.obj C fs) δ2
theorem rf_makeK {K : KW} {C : Addr} {S : SpecI} {E : XK} (ha : RfA K tas as) (hb : RfE K tb b) : RfE K (tMakeK C 1 1 (spI K C S) (fun vs zs => vs ++ zs) E tas (tCons tb tNil)) (dMakeK C S as b) := by
  intro e da G δ σ H P Q R h k
  refine ha e da G δ σ H _ _ R h fun ds δ1 vs G1 H1 R1 e1 r1 ⟨hl, h1⟩ => ?_
  refine hb e da G1 δ1 σ H1 _ _ R1 h1 fun y δ2 w G2 H2 R2 e2 r2 h2 => ?_
  refine ⟨by rw [← r1.length]; exact hl, rfl, fun x dx hx hdx ne => ?_⟩
  refine ⟨G2, H2, da, x, dx, _, _, _, rfl, rfl, hx, hdx, ne, R2.ex, R2.dl, (r1.up e2).app (.cons r2 .nil), h2, fun fs gs G' H' T a1 a2 a3 a4 rF p => ⟨rfl, ?_⟩⟩
  obtain ⟨G3, T2, eg2, rp⟩ := giveI (e := ⟨G2, H2⟩) T a1 a2 a3 a4 ne hx hdx (R2.dl.ne hx) (R2.dl.ne hdx) rF
  exact k _ _ _ G3 H' (R2.go T2) ((e1.trans e2).trans T2.eg) rp p
/-! ### a tuple that ends with a list of one's own -/
def dAsgBox (i : Nat) (a b : DE) : DS := fun D δ => a δ fun x δ1 => b δ1 fun y δ2 => ∀ p, D.nx (δ2.set i (.box p [x, y] []))
theorem Rel.box {K : KW} {e : En} {da : Option Addr} {G H : Hp} {δ : Env} {σ : L2.St} {ds : List D} {xs : List V} {t p : Addr} (R : Rel K e da G δ σ H) (hp : H p = none) (ht : upd H p (.lst []) t = none) (r : RpA K da G ds xs) (i : Nat) :
    ∃ G', Rel K e da G' (δ.set i (.box p ds [])) (σ.set i (some (.ref t))) (upd (upd H p (.lst [])) t (.tup (xs ++ [.ref p]))) := by
  have ntp : t ≠ p := fun z => by rw [z, upd_same] at ht; cases ht
  have hT : H t = none := by rw [upd_ne ntp] at ht; exact ht
  obtain ⟨eHp, gp⟩ := R.enone hp
  obtain ⟨eHt, gt⟩ := R.enone hT
  have T1 := Trn.mine (K := K) (o := .lst []) R.ex R.dl hp
  have T2 := Trn.put (K := K) (o := .tup (xs ++ [.ref p])) T1.ex T1.dl ht
  have T := R.toTrn.trans (T1.trans T2)
  have eg : Same G (upd G t (.tup (xs ++ [.ref p]))) := Same.new gt
  refine ⟨upd G t (.tup (xs ++ [.ref p])), R.slot (s := .box p ds []) (o := some (.ref t)) (B := [p]) (C := [p, t]) T i eg (fun a ha g nb => ?_) (fun a ha => ?_) (fun A _ _ a ha => ?_) ⟨t, xs, [], rfl, rfl, .inl (.inl upd_same), by rw [upd_ne (Ne.symm ntp), upd_same], r.up eg, .nil⟩⟩
  · have n1 : a ≠ p := fun z => nb (by simp [z])
    have n2 : a ≠ t := fun z => nb (by simp [z])
    rw [upd_ne n2, upd_ne n1, upd_ne n2]
    exact ⟨rfl, g⟩
  · obtain rfl : a = p := by simpa using ha
    exact ⟨by simp, eHp, R.dl.ne hp, by rw [upd_ne (Ne.symm ntp)]; exact gp, ⟨_, (upd_ne (Ne.symm ntp)).trans upd_same, by intro ps z; cases z⟩⟩
  · rcases List.mem_cons.mp ha with q | q
    · subst q; exact .inr hp
    · obtain rfl : a = t := by simpa using q
      exact .inr hT
theorem rf_asgBox {K : KW} (ha : RfE K ta a) (hb : RfE K tb b) : RfS K (tAsg (tTup (tCons ta (tCons tb (tCons (tLst tNil) tNil)))) (gName i)) (dAsgBox i a b) := by
  intro e da G δ σ H D Dd E R h
  refine ha e da G δ σ H _ _ R h fun x δ1 v G1 H1 R1 e1 r1 h1 => ?_
  refine hb e da G1 δ1 σ H1 _ _ R1 h1 fun y δ2 w G2 H2 R2 e2 r2 h2 => ?_
  refine ⟨Nat.zero_le _, fun p hp => ⟨by show 3 ≤ sizeLine; decide, fun t ht => ?_⟩⟩
  obtain ⟨G', R'⟩ := R2.box hp ht (.cons (r1.up e2) (.cons r2 .nil)) i
  exact E.nx _ _ _ _ R' (h2 p)
def dBoxApp (i : Nat) (a : DE) : DS := fun D δ => ∃ p ds ls, δ[i]? = some (.box p ds ls) ∧ ds.length = 2 ∧ a δ fun d δ' => ∃ ds ls, δ'[i]? = some (.box p ds ls) ∧ ls.length ≤ 1000000 ∧ D.nx (δ'.set i (.box p ds (ls ++ [d])))
theorem rf_boxApp {K : KW} (ha : RfE K ta a) : RfS K (tDrop (tBM K "list" rAppend (tOp (rIx K) (tVar i) (tC (.int 2))) (tCons ta tNil))) (dBoxApp i a) := by
  intro e da G δ σ H D Dd E R ⟨p, ds0, ls0, h0, hl0, h⟩
  obtain ⟨A, ⟨t, xs, ys, rA, e1, ht, hp, r, _⟩, hA⟩ := R.at h0
  have hx : xs.length = 2 := by rw [← r.length]; exact hl0
  have hat : atI (xs ++ [V.ref p]) 2 = some (.ref p) := by
    have h1 : atI (xs ++ [V.ref p]) ((2 : Nat) : Int) = some (.ref p) := atI_nat (by rw [List.getElem?_append_right (by omega), hx]; rfl)
    exact h1
  refine ⟨_, e1, .inr (.inl ⟨t, _, 2, .ref p, rfl, rfl, same_t R.ex ht, hat, ?_⟩)⟩
  refine ⟨.inl ⟨rfl, ys, .inl (.inl hp)⟩, ?_⟩
  refine ha e da G δ σ H _ _ R h fun d δ' v G' H' R' eg rv ⟨ds, ls, hi, hl, h'⟩ => ?_
  obtain ⟨A', ⟨t', xs', ys', rA', e1', ht', hp', r', rl'⟩, hA'⟩ := R'.at hi
  obtain ⟨m1, m2, m3, m4⟩ := hA' p (by rw [rA']; exact List.mem_cons_self)
  refine ⟨p, ys', v, rfl, rfl, hp', sz6l (by rw [← rl'.length]; exact hl), E.nx G' _ _ _ ?_ h'⟩
  have hk : ∀ b, b ≠ p → upd H' p (.lst (ys' ++ [v])) b = H' b := fun b n => upd_ne n
  have T : Trn K da e.G e.H G' (upd H' p (.lst (ys' ++ [v]))) := ⟨fun b o q => by rw [hk b (fun z => by rw [z, m3] at q; cases q)]; exact R'.ex b o q, R'.eg,
    fun b o q n => by rw [hk b (fun z => by rw [z, m1] at q; cases q)]; exact R'.kp b o q n, R'.fr, R'.dl.up (Same.refl _) (fun t => t.updH (by intro ps z; cases z) (.lst hp')) fun b eb => ⟨(R'.dl.2 b eb).1, hk b fun z => m2 (by rw [← z]; exact eb)⟩⟩
  have Z := R'.slot (s := .box p ds (ls ++ [d])) (o := some (.ref t')) (B := [p]) (C := [p]) T i (Same.refl _) (fun b _ g nb => ⟨hk b fun z => nb (by simp [z]), g⟩) (fun b hb => ?_) (fun A h1 h2 b hb => ?_)
    ⟨t', xs', ys' ++ [v], rfl, rfl, ht', upd_same, r', rl'.app (.cons rv .nil)⟩
  · rw [set_at e1'] at Z
    exact Z
  · obtain rfl : b = p := by simpa using hb
    exact ⟨hb, m1, m2, m3, NT.upd (by intro ps z; cases z)⟩
  · obtain rfl : b = p := by simpa using hb
    obtain ⟨t2, xs2, ys2, q, _⟩ := h1 i _ hi
    exact .inl (by rw [q]; exact List.mem_cons_self)
end
end DL

/-! order of nested data of ints -/
namespace DLo
open PySem PySem.SeqAt PySem.W
open PySem.AutoSeq1 (wpAny_loadPart')
open PySem.MeetsSeq PySem.MeetsSeq2 PySem.MeetsSeq3 PySem.SeqRoads2
theorem gt_loopAt (l b : Addr) (items items2 : Array Value) (n n2 : Nat) (dd dd2 : Option Addr) (sl sl2 : Array (Option Value)) (e r : Nat → Bool) (k : Nat) :
    ∀ i : Nat, min items.size items2.size - i = k → Meets (Builtin.«list.__eq__.loop» ⟨[.ref l, .ref b, rawInt i, rawInt 4], []⟩)
      (fun A R s => s.heap.get? l = some { cls := .type "list", dict := dd, data := .seq items n, slots := sl } ∧ s.heap.get? b = some { cls := .type "list", dict := dd2, data := .seq items2 n2, slots := sl2 } ∧
        (∀ j (h1 : j < items.size) (h2 : j < items2.size), EqAt A.in1 s items[j] items2[j] (e j)) ∧ (∀ j (h1 : j < items.size) (h2 : j < items2.size), e j = false → Ob.RcOp .Gt A.in1 s items[j] items2[j] (r j)) ∧
        R (.ok (.ret (.bool (firstLt e r (decide (items.size > items2.size)) ((List.range (min items.size items2.size)).drop i))))) s) := by
  induction k with
  | zero =>
    intro i hk prog w A R s h
    obtain ⟨hp, g, d, tk, os⟩ := s; obtain ⟨hl, hb, he, hr, h⟩ := h
    have hd : (List.range (min items.size items2.size)).drop i = [] := by simp; omega
    rw [hd] at h
    wp_walk using wpAny_loadPart' hl, wpAny_loadPart' hb
    by_cases h1 : items.size ≤ i
    · have hi1 : items[((i : Nat) : Int).toNat]? = none := by simp; omega
      rw [hi1]
      wp_walk using wpAny_loadPart' hl, wpAny_loadPart' hb
      exact h
    · have hlt : i < items.size := by omega
      have hi1 : items[((i : Nat) : Int).toNat]? = some items[i] := by simp [hlt]
      have hi2 : items2[((i : Nat) : Int).toNat]? = none := by simp; omega
      rw [hi1, hi2]
      wp_walk using wpAny_loadPart' hl, wpAny_loadPart' hb
      exact h
  | succ k ih =>
    intro i hk prog w A R s h
    obtain ⟨hp, g, d, tk, os⟩ := s; obtain ⟨hl, hb, he, hr, h⟩ := h
    wp_walk using wpAny_loadPart' hl, wpAny_loadPart' hb
    have hm : i < min items.size items2.size := by omega
    have hlt : i < items.size := Nat.lt_of_lt_of_le hm (Nat.min_le_left _ _)
    have hlt2 : i < items2.size := Nat.lt_of_lt_of_le hm (Nat.min_le_right _ _)
    have hi1 : items[((i : Nat) : Int).toNat]? = some items[i] := by simp [hlt]
    have hi2 : items2[((i : Nat) : Int).toNat]? = some items2[i] := by simp [hlt2]
    have hd : (List.range (min items.size items2.size)).drop i = i :: (List.range (min items.size items2.size)).drop (i + 1) := by simp [List.drop_eq_getElem_cons, hm]
    have hc : ((i : Int) + 1) = ((i + 1 : Nat) : Int) := by push_cast; rfl
    rw [hd] at h
    rw [hi1, hi2]
    refine wpAny_bind (he i hlt hlt2 prog w _ _ ?_)
    cases hb' : e i with
    | true =>
      rw [firstLt_yes hb'] at h
      wp_walk
      rw [hc]
      exact ⟨plainId_quiet plain_eq_loop _, codeAny_builtin entry_eq_loop (by
        rw [Around.under_plainId plain_eq_loop _]
        exact ih (i + 1) (by omega) prog w A R _ ⟨hl, hb, he, hr, h⟩)⟩
    | false =>
      rw [firstLt_no hb'] at h
      wp_walk using wpAny_loadPart' hl, wpAny_loadPart' hb
      rw [hi1, hi2]
      show wpAny _ _ (richCompare .Gt items[i] items2[i] >>= fun v => ret v) _ _ _
      refine wpAny_bind (hr i hlt hlt2 hb' prog w _ _ ?_)
      wp_walk
      exact h
theorem list_gtAt (l b : Addr) (items items2 : Array Value) (n n2 : Nat) (dd dd2 : Option Addr) (sl sl2 : Array (Option Value)) (e r : Nat → Bool) :
    Meets (Builtin.«list.__gt__» ⟨[.ref l, .ref b], []⟩)
      (fun A R s => s.heap.get? l = some { cls := .type "list", dict := dd, data := .seq items n, slots := sl } ∧ s.heap.get? b = some { cls := .type "list", dict := dd2, data := .seq items2 n2, slots := sl2 } ∧
        (∀ j (h1 : j < items.size) (h2 : j < items2.size), EqAt A.in1 s items[j] items2[j] (e j)) ∧ (∀ j (h1 : j < items.size) (h2 : j < items2.size), e j = false → Ob.RcOp .Gt A.in1 s items[j] items2[j] (r j)) ∧
        R (.ok (.ret (.bool (firstLt e r (decide (items.size > items2.size)) (List.range (min items.size items2.size)))))) s) := by
  intro prog w A R s h
  obtain ⟨hp, g, d, tk, os⟩ := s; obtain ⟨hl, hb, he, hr, h⟩ := h
  have f3 := AutoSeq1.sub_list_list
  wp_walk using wpAny_loadPart' hl, wpAny_loadPart' hb
  exact ⟨plainId_quiet plain_eq_loop _, codeAny_builtin entry_eq_loop (by
    rw [Around.under_plainId plain_eq_loop _]
    exact gt_loopAt l b items items2 n n2 dd dd2 sl sl2 e r _ 0 rfl prog w A R _ ⟨hl, hb, he, hr, by simpa using h⟩)⟩
section
variable {A : Around} {s : Shared}
theorem RcGt.lists {l b : Addr} {items items2 : Array Value} {e r : Nat → Bool} (hl : s.heap.IsList l items) (hb : s.heap.IsList b items2) (hu : A.units < cLine)
    (he : ∀ j (h1 : j < items.size) (h2 : j < items2.size), EqAt A.in1 s items[j] items2[j] (e j)) (hr : ∀ j (h1 : j < items.size) (h2 : j < items2.size), e j = false → Ob.RcOp .Gt A.in1 s items[j] items2[j] (r j)) :
    Ob.RcOp .Gt A s (.ref l) (.ref b) (firstLt e r (decide (items.size > items2.size)) (List.range (min items.size items2.size))) := fun prog w E Q h => by
  obtain ⟨⟨cls, dd, data, sl⟩, ho, hc, n, hd⟩ := id hl
  obtain ⟨⟨cls2, dd2, data2, sl2⟩, ho2, hc2, n2, hd2⟩ := id hb
  simp only at hc hd hc2 hd2
  subst hc hd hc2 hd2
  exact richCompare_meets_room (op := .Gt) ⟨_, ho, rfl⟩ ⟨_, ho2, rfl⟩ F.slot_list_gt F.entry_list_gt (F.args_list_gt_2 _ _) (list_gtAt l b items items2 n n2 dd dd2 sl sl2 e r)
    ⟨ho, ho2, he, hr, show Value.bool (firstLt e r (decide (items.size > items2.size)) (List.range (min items.size items2.size))) ≠ Value.notImplemented ∧ Q (.bool (firstLt e r (decide (items.size > items2.size)) (List.range (min items.size items2.size)))) s from ⟨(fun x => nomatch x), h⟩⟩ hu
end
theorem lexAt_first {e r : Nat → Bool} {z : Bool} : ∀ (n i : Nat), Ob.lexAt e r z i n = firstLt e r z (List.range' i n)
  | 0, i => rfl
  | n + 1, i => by
    rw [Ob.lexAt_succ, List.range'_succ]
    by_cases h : e i = true
    · rw [if_pos h, firstLt_yes h, lexAt_first n (i + 1)]
    · rw [if_neg h, firstLt_no (by simpa using h)]
/-! ### data of ints, lists, tuples -/
mutual
def cmpOk : PyData → PyData → Bool
  | .int _, .int _ => true
  | .list xs, .list ys => cmpAll xs ys
  | .tuple xs, .tuple ys => cmpAll xs ys
  | _, _ => false
def cmpAll : List PyData → List PyData → Bool
  | x :: xs, y :: ys => cmpOk x y && cmpAll xs ys
  | _, _ => true
end
mutual
def dlt : PyData → PyData → Bool
  | .int a, .int b => decide (a < b)
  | .list xs, .list ys => dlts xs ys
  | .tuple xs, .tuple ys => dlts xs ys
  | _, _ => false
def dlts : List PyData → List PyData → Bool
  | [], [] => false
  | [], _ :: _ => true
  | _ :: _, [] => false
  | x :: xs, y :: ys => if PyData.eqv x y = true then dlts xs ys else dlt x y
end
theorem first_lt {e r : Nat → Bool} : ∀ (xs ys : List PyData) (i : Nat), (∀ (j : Nat) (x y : PyData), xs[j]? = some x → ys[j]? = some y → e (i + j) = PyData.eqv x y ∧ r (i + j) = dlt x y) →
    firstLt e r (decide (xs.length < ys.length)) (List.range' i (min xs.length ys.length)) = dlts xs ys
  | [], [], i, h => rfl
  | [], y :: ys, i, h => by simp [firstLt, dlts]
  | x :: xs, [], i, h => by simp [firstLt, dlts]
  | x :: xs, y :: ys, i, h => by
    obtain ⟨h1, h2⟩ := h 0 x y rfl rfl
    have hm : min (x :: xs).length (y :: ys).length = min xs.length ys.length + 1 := by simp
    have hl : decide ((x :: xs).length < (y :: ys).length) = decide (xs.length < ys.length) := by simp
    rw [hm, hl, List.range'_succ, dlts]
    by_cases q : PyData.eqv x y = true
    · rw [if_pos q, firstLt_yes (by rw [← q]; exact h1)]
      exact first_lt xs ys (i + 1) fun j a b ha hb => by
        have := h (j + 1) a b (by simpa using ha) (by simpa using hb)
        rw [show i + 1 + j = i + (j + 1) by omega]
        exact this
    · rw [if_neg q, firstLt_no (by rw [show e i = PyData.eqv x y from h1]; simpa using q)]
      exact h2
theorem eqv_symm_all : True := trivial
theorem first_gt {e r : Nat → Bool} : ∀ (xs ys : List PyData) (i : Nat), (∀ (j : Nat) (x y : PyData), xs[j]? = some x → ys[j]? = some y → e (i + j) = PyData.eqv x y ∧ r (i + j) = dlt y x) → (∀ (j : Nat) (x y : PyData), xs[j]? = some x → ys[j]? = some y → PyData.eqv x y = PyData.eqv y x) →
    firstLt e r (decide (xs.length > ys.length)) (List.range' i (min xs.length ys.length)) = dlts ys xs
  | [], [], i, h, _ => rfl
  | [], y :: ys, i, h, _ => by simp [firstLt, dlts]
  | x :: xs, [], i, h, _ => by simp [firstLt, dlts]
  | x :: xs, y :: ys, i, h, hs => by
    obtain ⟨h1, h2⟩ := h 0 x y rfl rfl
    have s1 := hs 0 x y rfl rfl
    have hm : min (x :: xs).length (y :: ys).length = min xs.length ys.length + 1 := by simp
    have hl : decide ((x :: xs).length > (y :: ys).length) = decide (xs.length > ys.length) := by simp
    rw [hm, hl, List.range'_succ, dlts]
    by_cases q : PyData.eqv x y = true
    · rw [if_pos (by rw [← s1]; exact q), firstLt_yes (by rw [← q]; exact h1)]
      exact first_gt xs ys (i + 1) (fun j a b ha hb => by
        have := h (j + 1) a b (by simpa using ha) (by simpa using hb)
        rw [show i + 1 + j = i + (j + 1) by omega]
        exact this) fun j a b ha hb => hs (j + 1) a b (by simpa using ha) (by simpa using hb)
    · rw [if_neg (by rw [← s1]; exact q), firstLt_no (by rw [show e i = PyData.eqv x y from h1]; simpa using q)]
      exact h2
mutual
theorem eqv_symm : ∀ x y : PyData, PyData.eqv x y = PyData.eqv y x
  | .none, y => by cases y <;> simp [PyData.eqv]
  | .bool a, y => by cases y <;> simp [PyData.eqv] <;> (try cases a) <;> (try exact Bool.beq_comm) <;> (try exact eq_comm) <;> (first | exact decide_eq_decide.mpr eq_comm | rfl | (rw [Bool.eq_iff_iff]; simp [eq_comm]))
  | .int a, y => by cases y <;> simp [PyData.eqv] <;> (first | exact Bool.beq_comm | exact decide_eq_decide.mpr eq_comm | (rw [Bool.eq_iff_iff]; simp [eq_comm]))
  | .str a, y => by cases y <;> simp [PyData.eqv] <;> (first | exact Bool.beq_comm | (rw [Bool.eq_iff_iff]; simp [eq_comm]))
  | .list xs, y => by
    cases y <;> simp only [PyData.eqv]
    exact eqvAll_symm _ _
  | .tuple xs, y => by
    cases y <;> simp only [PyData.eqv]
    exact eqvAll_symm _ _
  | .dict _, y => by cases y <;> simp [PyData.eqv]
theorem eqvAll_symm : ∀ xs ys : List PyData, PyData.eqvAll xs ys = PyData.eqvAll ys xs
  | [], [] => rfl
  | [], _ :: _ => by simp [PyData.eqvAll]
  | _ :: _, [] => by simp [PyData.eqvAll]
  | x :: xs, y :: ys => by rw [PyData.eqvAll, PyData.eqvAll, eqv_symm x y, eqvAll_symm xs ys]
end
theorem depth_mem : ∀ {xs : List PyData} {j : Nat} {x : PyData}, xs[j]? = some x → x.depth ≤ PyData.depthAll xs
  | [], j, x, h => by simp at h
  | a :: xs, 0, x, h => by
    simp at h
    subst h
    simp [PyData.depthAll]
    omega
  | a :: xs, j + 1, x, h => by
    have := depth_mem (xs := xs) (j := j) (x := x) (by simpa using h)
    simp [PyData.depthAll]
    omega
theorem lay_mem : ∀ {xs : List PyData} {j : Nat} {x : PyData}, PyData.canLayAll0 xs = true → xs[j]? = some x → x.canLay0 = true
  | [], j, x, c, h => by simp at h
  | a :: xs, 0, x, c, h => by
    simp at h
    subst h
    rw [PyData.canLayAll0, Bool.and_eq_true] at c
    exact c.1
  | a :: xs, j + 1, x, c, h => by
    rw [PyData.canLayAll0, Bool.and_eq_true] at c
    exact lay_mem c.2 (by simpa using h)
theorem cmp_mem : ∀ {xs ys : List PyData} {j : Nat} {x y : PyData}, cmpAll xs ys = true → xs[j]? = some x → ys[j]? = some y → cmpOk x y = true
  | [], ys, j, x, y, c, h, h2 => by simp at h
  | a :: xs, [], j, x, y, c, h, h2 => by simp at h2
  | a :: xs, b :: ys, 0, x, y, c, h, h2 => by
    simp at h h2
    subst h; subst h2
    rw [cmpAll, Bool.and_eq_true] at c
    exact c.1
  | a :: xs, b :: ys, j + 1, x, y, c, h, h2 => by
    rw [cmpAll, Bool.and_eq_true] at c
    exact cmp_mem c.2 (by simpa using h) (by simpa using h2)
theorem reads_at {h : Heap} : ∀ {vs : List Value} {ds : List PyData} {as : List Addr}, ReadsAll h vs ds as → vs.length = ds.length ∧ ∀ (j : Nat) (d : PyData), ds[j]? = some d → ∃ v bs, vs[j]? = some v ∧ Reads h v d bs
  | _, _, _, .nil => ⟨rfl, fun j d e => by simp at e⟩
  | _, _, _, .cons r t => by
    obtain ⟨h1, h2⟩ := reads_at t
    refine ⟨by simp [h1], fun j d e => ?_⟩
    cases j with
    | zero => simp at e; subst e; exact ⟨_, _, rfl, r⟩
    | succ j =>
      obtain ⟨v, bs, q1, q2⟩ := h2 j d (by simpa using e)
      exact ⟨v, bs, by simpa using q1, q2⟩
theorem rc_lt (n : Nat) : ∀ (d e : PyData) (A : Around) (s : Shared) (u v : Value) (as bs : List Addr), Reads s.heap u d as → Reads s.heap v e bs → d.canLay0 = true → e.canLay0 = true → cmpOk d e = true → d.depth ≤ n → A.units + n + 1 < cLine → Ob.RcOp .Lt A s u v (dlt d e) ∧ Ob.RcOp .Gt A s u v (dlt e d) := by
  induction n with
  | zero =>
    intro d e A s u v as bs r1 r2 c1 c2 hc hd hu
    cases d <;> cases e <;> simp [cmpOk] at hc
    · cases r1; cases r2
      exact ⟨Ob.RcOp.lt_int _ _ _ _, Ob.RcOp.gt_int _ _ _ _⟩
    · simp [PyData.depth] at hd
    · simp [PyData.depth] at hd
  | succ n ih =>
    intro d e A s u v as bs r1 r2 c1 c2 hc hd hu
    have hin : A.in1.units = A.units + 1 := rfl
    cases d <;> cases e <;> simp only [cmpOk, Bool.false_eq_true] at hc
    · cases r1; cases r2
      exact ⟨Ob.RcOp.lt_int _ _ _ _, Ob.RcOp.gt_int _ _ _ _⟩
    · rename_i xs ys
      rw [PyData.canLay0] at c1 c2
      have hd' : PyData.depthAll xs ≤ n := by simp [PyData.depth] at hd; omega
      cases r1 with
      | list ho hcl hdt ra =>
        rename_i a o vs k as'
        cases r2 with
        | list ho2 hcl2 hdt2 rb =>
          rename_i b o2 ws k2 bs'
          obtain ⟨l1, g1⟩ := reads_at ra
          obtain ⟨l2, g2⟩ := reads_at rb
          have hs1 : vs.size = xs.length := by rw [← l1, Array.length_toList]
          have hs2 : ws.size = ys.length := by rw [← l2, Array.length_toList]
          have key : ∀ j (h1 : j < vs.size) (h2 : j < ws.size), ∃ x y as bs, xs[j]? = some x ∧ ys[j]? = some y ∧ Reads s.heap vs[j] x as ∧ Reads s.heap ws[j] y bs := fun j h1 h2 => by
            have hx : xs[j]? = some xs[j] := List.getElem?_eq_getElem (by omega)
            have hy : ys[j]? = some ys[j] := List.getElem?_eq_getElem (by omega)
            obtain ⟨v1, b1, q1, q2⟩ := g1 j _ hx
            obtain ⟨v2, b2, q3, q4⟩ := g2 j _ hy
            rw [Array.getElem?_toList, Array.getElem?_eq_getElem h1] at q1
            rw [Array.getElem?_toList, Array.getElem?_eq_getElem h2] at q3
            cases q1; cases q3
            exact ⟨_, _, b1, b2, hx, hy, q2, q4⟩
          have he : ∀ j (h1 : j < vs.size) (h2 : j < ws.size), EqAt A.in1 s vs[j] ws[j] (PyData.eqv (xs.getD j .none) (ys.getD j .none)) := fun j h1 h2 => by
            obtain ⟨x, y, a1, b1, hx, hy, q1, q2⟩ := key j h1 h2
            have z := eqAt_reads x y A.in1 s _ _ a1 b1 q1 q2 (lay_mem c1 hx) (lay_mem c2 hy) (by have := depth_mem hx; omega)
            rw [List.getD_eq_getElem?_getD, List.getD_eq_getElem?_getD, hx, hy]
            exact z
          have hr : ∀ j (h1 : j < vs.size) (h2 : j < ws.size), Ob.RcOp .Lt A.in1 s vs[j] ws[j] (dlt (xs.getD j .none) (ys.getD j .none)) ∧ Ob.RcOp .Gt A.in1 s vs[j] ws[j] (dlt (ys.getD j .none) (xs.getD j .none)) := fun j h1 h2 => by
            obtain ⟨x, y, a1, b1, hx, hy, q1, q2⟩ := key j h1 h2
            rw [List.getD_eq_getElem?_getD, List.getD_eq_getElem?_getD, hx, hy]
            exact ih x y A.in1 s _ _ a1 b1 q1 q2 (lay_mem c1 hx) (lay_mem c2 hy) (cmp_mem hc hx hy) (by have := depth_mem hx; omega) (by omega)
          have L1 : s.heap.IsList a vs := ⟨o, ho, hcl, k, hdt⟩
          have L2 : s.heap.IsList b ws := ⟨o2, ho2, hcl2, k2, hdt2⟩
          have A1 := RcLt.lists (A := A) L1 L2 (by omega) he (fun j h1 h2 _ => (hr j h1 h2).1)
          have A2 := RcGt.lists (A := A) L1 L2 (by omega) he (fun j h1 h2 _ => (hr j h1 h2).2)
          rw [hs1, hs2, List.range_eq_range'] at A1 A2
          rw [first_lt xs ys 0 (fun j x y hx hy => by rw [Nat.zero_add, List.getD_eq_getElem?_getD, List.getD_eq_getElem?_getD, hx, hy]; exact ⟨rfl, rfl⟩)] at A1
          rw [first_gt xs ys 0 (fun j x y hx hy => by rw [Nat.zero_add, List.getD_eq_getElem?_getD, List.getD_eq_getElem?_getD, hx, hy]; exact ⟨rfl, rfl⟩) (fun _ _ _ _ _ => eqv_symm _ _)] at A2
          exact ⟨A1, A2⟩
    · rename_i xs ys
      rw [PyData.canLay0] at c1 c2
      have hd' : PyData.depthAll xs ≤ n := by simp [PyData.depth] at hd; omega
      cases r1 with
      | tuple ho hcl hdt ra =>
        rename_i a o vs k
        cases r2 with
        | tuple ho2 hcl2 hdt2 rb =>
          rename_i b o2 ws k2
          obtain ⟨l1, g1⟩ := reads_at ra
          obtain ⟨l2, g2⟩ := reads_at rb
          have hs1 : vs.size = xs.length := by rw [← l1, Array.length_toList]
          have hs2 : ws.size = ys.length := by rw [← l2, Array.length_toList]
          have key : ∀ j (h1 : j < vs.size) (h2 : j < ws.size), ∃ x y as bs, xs[j]? = some x ∧ ys[j]? = some y ∧ Reads s.heap vs[j] x as ∧ Reads s.heap ws[j] y bs := fun j h1 h2 => by
            have hx : xs[j]? = some xs[j] := List.getElem?_eq_getElem (by omega)
            have hy : ys[j]? = some ys[j] := List.getElem?_eq_getElem (by omega)
            obtain ⟨v1, b1, q1, q2⟩ := g1 j _ hx
            obtain ⟨v2, b2, q3, q4⟩ := g2 j _ hy
            rw [Array.getElem?_toList, Array.getElem?_eq_getElem h1] at q1
            rw [Array.getElem?_toList, Array.getElem?_eq_getElem h2] at q3
            cases q1; cases q3
            exact ⟨_, _, b1, b2, hx, hy, q2, q4⟩
          have he : ∀ j (h1 : j < vs.size) (h2 : j < ws.size), EqAt A.in1 s vs[j] ws[j] (PyData.eqv (xs.getD j .none) (ys.getD j .none)) := fun j h1 h2 => by
            obtain ⟨x, y, a1, b1, hx, hy, q1, q2⟩ := key j h1 h2
            have z := eqAt_reads x y A.in1 s _ _ a1 b1 q1 q2 (lay_mem c1 hx) (lay_mem c2 hy) (by have := depth_mem hx; omega)
            rw [List.getD_eq_getElem?_getD, List.getD_eq_getElem?_getD, hx, hy]
            exact z
          have hr : ∀ j (h1 : j < vs.size) (h2 : j < ws.size), Ob.RcOp .Lt A.in1 s vs[j] ws[j] (dlt (xs.getD j .none) (ys.getD j .none)) ∧ Ob.RcOp .Gt A.in1 s vs[j] ws[j] (dlt (ys.getD j .none) (xs.getD j .none)) := fun j h1 h2 => by
            obtain ⟨x, y, a1, b1, hx, hy, q1, q2⟩ := key j h1 h2
            rw [List.getD_eq_getElem?_getD, List.getD_eq_getElem?_getD, hx, hy]
            exact ih x y A.in1 s _ _ a1 b1 q1 q2 (lay_mem c1 hx) (lay_mem c2 hy) (cmp_mem hc hx hy) (by have := depth_mem hx; omega) (by omega)
          have L1 : s.heap.IsTuple a vs := ⟨o, ho, hcl, k, hdt⟩
          have L2 : s.heap.IsTuple b ws := ⟨o2, ho2, hcl2, k2, hdt2⟩
          have A1 := Ob.RcOp.tuples_lt (A := A) L1 L2 (by omega) he (fun j h1 h2 _ => (hr j h1 h2).1)
          have A2 := Ob.RcOp.tuples_gt (A := A) L1 L2 (by omega) he (fun j h1 h2 _ => (hr j h1 h2).2)
          rw [hs1, hs2, lexAt_first] at A1 A2
          rw [first_lt xs ys 0 (fun j x y hx hy => by rw [Nat.zero_add, List.getD_eq_getElem?_getD, List.getD_eq_getElem?_getD, hx, hy]; exact ⟨rfl, rfl⟩)] at A1
          rw [first_gt xs ys 0 (fun j x y hx hy => by rw [Nat.zero_add, List.getD_eq_getElem?_getD, List.getD_eq_getElem?_getD, hx, hy]; exact ⟨rfl, rfl⟩) (fun _ _ _ _ _ => eqv_symm _ _)] at A2
          exact ⟨A1, A2⟩
end DLo
namespace DL
open PySem PySem.Spec PyProof.Rows L2
section
variable {K : PySem.W.Frag} {X : Cx}
def rLtR (K : PySem.W.Frag) : R2 := fun x y H Q => ∃ d e, Dp K H x d ∧ Dp K H y e ∧ d.canLay0 = true ∧ e.canLay0 = true ∧ DLo.cmpOk d e = true ∧ d.depth ≤ 60 ∧ Q (.bl (DLo.dlt d e)) H
def rGtR (K : PySem.W.Frag) : R2 := fun x y H Q => ∃ d e, Dp K H x d ∧ Dp K H y e ∧ d.canLay0 = true ∧ e.canLay0 = true ∧ DLo.cmpOk d e = true ∧ d.depth ≤ 60 ∧ Q (.bl (DLo.dlt e d)) H
theorem op_ltR (hu : X.A.units + 64 < cLine) : OpR X (compareOp .Lt) (rLtR X.K) := by
  intro pins s σ H x y v u Q I rx ry h
  obtain ⟨d, e, hd, he, c1, c2, hc, hz, q⟩ := h
  obtain ⟨as, r1⟩ := Dp.reads I d x v hd rx
  obtain ⟨bs, r2⟩ := Dp.reads I e y u he ry
  have z : wpAny (model X.prog X.w) X.A (compareOp .Lt v u) (EP X pins σ Q) X.xe s := (DLo.rc_lt 60 d e X.A s v u as bs r1 r2 c1 c2 hc hz (by omega)).1 X.prog X.w X.xe (EP X pins σ Q) ⟨.bl _, H, I, rfl, q⟩
  exact z
theorem op_gtR (hu : X.A.units + 64 < cLine) : OpR X (compareOp .Gt) (rGtR X.K) := by
  intro pins s σ H x y v u Q I rx ry h
  obtain ⟨d, e, hd, he, c1, c2, hc, hz, q⟩ := h
  obtain ⟨as, r1⟩ := Dp.reads I d x v hd rx
  obtain ⟨bs, r2⟩ := Dp.reads I e y u he ry
  have z : wpAny (model X.prog X.w) X.A (compareOp .Gt v u) (EP X pins σ Q) X.xe s := (DLo.rc_lt 60 d e X.A s v u as bs r1 r2 c1 c2 hc hz (by omega)).2 X.prog X.w X.xe (EP X pins σ Q) ⟨.bl _, H, I, rfl, q⟩
  exact z
def dLtR : DO := fun x y P => (py x).canLay0 = true ∧ (py y).canLay0 = true ∧ DLo.cmpOk (py x) (py y) = true ∧ (py x).depth ≤ 60 ∧ P (.bl (DLo.dlt (py x) (py y)))
def dGtR : DO := fun x y P => (py x).canLay0 = true ∧ (py y).canLay0 = true ∧ DLo.cmpOk (py x) (py y) = true ∧ (py x).depth ≤ 60 ∧ P (.bl (DLo.dlt (py y) (py x)))
theorem rfo_ltR : RfO K (rLtR K) dLtR := fun da G H x y d1 d2 P Q e dl r1 r2 ⟨c1, c2, hc, hz, h⟩ k => ⟨_, _, r1.dp e c1, r2.dp e c2, c1, c2, hc, hz, k _ _ G H (stay e dl) (.bl _) h⟩
theorem rfo_gtR : RfO K (rGtR K) dGtR := fun da G H x y d1 d2 P Q e dl r1 r2 ⟨c1, c2, hc, hz, h⟩ k => ⟨_, _, r1.dp e c1, r2.dp e c2, c1, c2, hc, hz, k _ _ G H (stay e dl) (.bl _) h⟩
end
end DL

/-! sorted of a list of tuples of ints and texts -/
namespace DL
open PySem PySem.Spec PyProof.Rows L2
abbrev Ky := List (Int ⊕ List Nat)
def keyV (shape : Nat → Bool) : Nat → List V → Option Ky
  | _, [] => some []
  | i, .int n :: r => if shape i = true then none else (keyV shape (i + 1) r).map (Sum.inl n :: ·)
  | i, .str x :: r => if shape i = true then (keyV shape (i + 1) r).map (Sum.inr x.cps.toList :: ·) else none
  | _, _ :: _ => none
def keyDs (shape : Nat → Bool) : Nat → List D → Option Ky
  | _, [] => some []
  | i, .int n :: r => if shape i = true then none else (keyDs shape (i + 1) r).map (Sum.inl n :: ·)
  | i, .str x :: r => if shape i = true then (keyDs shape (i + 1) r).map (Sum.inr x.cps.toList :: ·) else none
  | _, _ :: _ => none
def keyT (shape : Nat → Bool) : D → Option Ky
  | .tup (d :: ds) => keyDs shape 0 (d :: ds)
  | _ => none
abbrev kle : Ky → Ky → Prop := (PyProof.Rows.listOrd PyProof.Rows.itemOrd).kle
def KeyIs (K : PySem.W.Frag) (H : Hp) (shape : Nat → Bool) (x : V) (k : Ky) : Prop := ∃ t items, x = .ref t ∧ SqT K H t items ∧ items ≠ [] ∧ keyV shape 0 items = some k
def rSortT (K : PySem.W.Frag) : List V → Hp → VK → Prop := fun vs H Q => ∃ (a : Addr) (xs : List V) (shape : Nat → Bool), vs = [.ref a] ∧ SqL K H a xs ∧ (∀ x ∈ xs, ∃ k, KeyIs K H shape x k) ∧
  ∀ ys p, ys.Perm xs → ys.Pairwise (fun x y => ∀ k k', KeyIs K H shape x k → KeyIs K H shape y k' → kle k k') → H p = none → Q (.ref p) (upd H p (.lst ys))
section
variable {K : PySem.W.Frag} {X : Cx}
theorem keyV_items {shape : Nat → Bool} : ∀ {i : Nat} {xs : List V} {us : List Value} {k : Ky}, Vals xs us → keyV shape i xs = some k → PyProof.Rows.tupItems shape i us = some k
  | i, [], _, k, .nil, h => h
  | i, .int n :: r, _, k, .cons ⟨t, e⟩ rr, h => by
    subst e
    unfold keyV at h
    unfold PyProof.Rows.tupItems
    by_cases hs : shape i = true
    · rw [if_pos hs] at h; cases h
    · rw [if_neg hs] at h ⊢
      cases q : keyV shape (i + 1) r with
      | none => rw [q] at h; cases h
      | some k' => rw [q] at h; rw [keyV_items rr q]; exact h
  | i, .str x :: r, _, k, .cons ⟨t, e⟩ rr, h => by
    subst e
    unfold keyV at h
    unfold PyProof.Rows.tupItems
    by_cases hs : shape i = true
    · rw [if_pos hs] at h ⊢
      cases q : keyV shape (i + 1) r with
      | none => rw [q] at h; cases h
      | some k' => rw [q] at h; rw [keyV_items rr q]; exact h
    · rw [if_neg hs] at h; cases h
  | i, .non :: r, _, k, .cons _ rr, h => by simp [keyV] at h
  | i, .bl b :: r, _, k, .cons _ rr, h => by simp [keyV] at h
  | i, .byt b :: r, _, k, .cons _ rr, h => by simp [keyV] at h
  | i, .flt b :: r, _, k, .cons _ rr, h => by simp [keyV] at h
  | i, .ref b :: r, _, k, .cons _ rr, h => by simp [keyV] at h
  | i, .ty b :: r, _, k, .cons _ rr, h => by simp [keyV] at h
theorem key_first {shape : Nat → Bool} {x : V} {xs : List V} {k : Ky} {u : Value} (r : RelV x u) (h : keyV shape 0 (x :: xs) = some k) : (shape 0 = false → ∃ k t, u = .int k t) ∧ (shape 0 = true → ∃ x t, u = .str x t) := by
  cases x <;> simp [keyV] at h
  · obtain ⟨t, e⟩ := r
    exact ⟨fun _ => ⟨_, t, e⟩, fun z => by rw [z] at h; simp at h⟩
  · obtain ⟨t, e⟩ := r
    exact ⟨fun z => by rw [z] at h; simp at h, fun _ => ⟨_, t, e⟩⟩
theorem key_at {pins : List (Addr × Obj)} {σ : L2.St} {H : Hp} {s : Shared} {shape : Nat → Bool} {x : V} {u : Value} {k : Ky} (I : Inv X pins σ H s) (r : RelV x u) (h : KeyIs X.K H shape x k) :
    PyProof.Rows.G.tupKeyC s.heap shape u = some k ∧ ∃ f, PyProof.Rows.TupOf s.heap shape u f := by
  obtain ⟨t, items, rfl, ht, hne, hk⟩ := h
  cases r
  obtain ⟨its, rv, ⟨o, ho, hc, n, hd⟩, hz⟩ := I.tuple ht
  have e1 := keyV_items rv hk
  refine ⟨?_, ?_⟩
  · unfold PyProof.Rows.G.tupKeyC
    have : PyProof.Rows.G.isTupObj s.heap (.ref t) = true := by
      unfold PyProof.Rows.G.isTupObj
      simp only [ho, hc]
      decide
    rw [if_pos this]
    unfold PyProof.Rows.tupKey
    simp only [ho, hd]
    exact e1
  · cases items with
    | nil => exact absurd rfl hne
    | cons x0 xs0 =>
      cases rv with
      | cons r0 rr =>
        exact ⟨_, t, o, _, n, rfl, ho, hc, hd, by simp, key_first r0 hk⟩
theorem cr_sortedT (hu : True) : CallR X (.builtin "sorted") (rSortT X.K) := by
  intro pins s σ H vs us Q I r h
  obtain ⟨a, xs, shape, rfl, hs, hx, q⟩ := h
  obtain ⟨its, rv, hl, hz⟩ := I.list hs
  obtain ⟨u, rfl, ru⟩ := vals1 r
  obtain rfl : u = Value.ref a := ru
  have hz' : its.length ≤ sizeLine := by rw [← rv.length]; exact hz
  have tups : ∃ fs, PyProof.Rows.TupsOf s.heap shape its fs := by
    clear hl q hs hz hz' r
    induction rv with
    | nil => exact ⟨[], .nil⟩
    | cons r rr ih =>
      obtain ⟨k, hk⟩ := hx _ List.mem_cons_self
      obtain ⟨_, f, hf⟩ := key_at I r hk
      obtain ⟨fs, hfs⟩ := ih fun x hm => hx x (List.mem_cons_of_mem _ hm)
      exact ⟨f :: fs, .cons hf hfs⟩
  obtain ⟨fs, hfs⟩ := tups
  have keyOf : ∀ (j : Nat) (x : V) (u : Value), xs[j]? = some x → its[j]? = some u → ∃ k, KeyIs X.K H shape x k ∧ PyProof.Rows.G.tupKeyC s.heap shape u = some k ∧ RelV x u := fun j x u e1 e2 => by
    obtain ⟨u', h1, h2⟩ := Vals.get rv e1
    rw [e2] at h1; cases h1
    obtain ⟨k, hk⟩ := hx x (List.mem_of_getElem? e1)
    exact ⟨k, hk, (key_at I h2 hk).1, h2⟩
  have kv : ∀ v ∈ its, ∃ k, PyProof.Rows.G.tupKeyC s.heap shape v = some k := fun v hv => by
    obtain ⟨j, hj⟩ := List.getElem?_of_mem hv
    have lt : j < xs.length := by rw [rv.length]; exact (List.getElem?_eq_some_iff.mp hj).1
    obtain ⟨k, _, hk, _⟩ := keyOf j xs[j] v (List.getElem?_eq_getElem lt) hj
    exact ⟨k, hk⟩
  refine PyProof.Rows.G.sorted_tups hl.isList hfs kv hz' fun st' hp hsrt _ => ?_
  obtain ⟨e1, e2⟩ := refs_back rv fun x m => by
    obtain ⟨k, t, _, e, _⟩ := hx x m
    exact ⟨t, e⟩
  have hpl : (arrOf st').toList.Perm (its.zip its) := by
    have := Array.perm_iff_toList_perm.mp hp
    rw [PyProof.Rows.pairsOf_toList] at this
    exact this
  have hsame : ∀ p ∈ (arrOf st').toList, p.1 = p.2 ∧ p.2 ∈ its := fun p hm => by
    have hm' := hpl.mem_iff.mp hm
    obtain ⟨j, hj⟩ := List.getElem?_of_mem hm'
    rw [List.getElem?_zip_eq_some] at hj
    have := hj.1.symm.trans hj.2
    exact ⟨Option.some.inj this, List.mem_of_getElem? hj.2⟩
  have hout : ((arrOf st').map (·.2)).toList = (arrOf st').toList.map (·.2) := by simp
  have hop : ((arrOf st').toList.map (·.2)).Perm its := by
    have := hpl.map (Prod.snd)
    rwa [List.map_snd_zip (Nat.le_refl _)] at this
  have hkx : PyProof.Rows.KeysOf (PyProof.Rows.G.tupKindC s.heap shape) (arrOf st') := fun p hm => by
    obtain ⟨e, m⟩ := hsame p hm
    rw [e]
    exact kv _ m
  have hsx : PyProof.Rows.SortedToK (PyProof.Rows.G.tupKindC s.heap shape) (arrOf st') (arrOf st').size := by
    rw [hp.size_eq]; exact hsrt
  have hpw := PyProof.Rows.keyLe_of_sorted hkx hsx
  have h3 : ∀ u ∈ (arrOf st').toList.map (·.2), ∃ a, u = Value.ref a := fun u hu => e2 u (hop.mem_iff.mp hu)
  obtain ⟨e, he⟩ := PyProof.Rows.sortedAll_at s.heap its ((arrOf st').map (·.2))
  have hd : s.heap.objs.size ≤ s.heap.objs.size + 1 := Nat.le_succ _
  refine ⟨.ref (s.heap.objs.size + 1), upd H (s.heap.objs.size + 1) (.lst (((arrOf st').toList.map (·.2)).map backV)),
    I.laid (t' := s.toks) (fun b o ho => PyProof.Rows.sortedAll_old ho) hd ⟨?_, (arrOf st').toList.map (·.2), e, vals_back h3, by rw [he, ← hout, Array.toArray_toList]⟩, rfl, q _ _ ?_ ?_ (I.hok.fresh hd)⟩
  · have := hop.length_eq
    rw [List.length_map, this, ← rv.length]
    exact hz
  · have := hop.map backV
    rw [← e1] at this
    exact this
  · rw [List.pairwise_map, List.pairwise_map]
    refine hpw.imp_of_mem fun {p q'} hp1 hq1 hpq => ?_
    obtain ⟨ka, kb, h1, h2, h3'⟩ := hpq
    intro k k' hk hk'
    obtain ⟨ep, mp⟩ := hsame p hp1
    obtain ⟨eq, mq⟩ := hsame q' hq1
    obtain ⟨ap, rp⟩ := e2 _ mp
    obtain ⟨aq, rq⟩ := e2 _ mq
    have g1 := (key_at (u := p.2) I (by rw [rp]; exact rfl) hk).1
    have g2 := (key_at (u := q'.2) I (by rw [rq]; exact rfl) hk').1
    have h1' : PyProof.Rows.G.tupKeyC s.heap shape p.1 = some ka := h1
    have h2' : PyProof.Rows.G.tupKeyC s.heap shape q'.1 = some kb := h2
    rw [ep, g1] at h1'
    rw [eq, g2] at h2'
    cases h1'; cases h2'
    exact h3'
variable {da : Option Addr} {G : Hp}
theorem RpA.perm {xs ys : List V} (h : ys.Perm xs) : ∀ {ds : List D}, RpA K da G ds xs → ∃ es : List D, es.Perm ds ∧ RpA K da G es ys := by
  have := h.symm
  clear h
  induction this with
  | nil => intro ds r; cases r; exact ⟨[], .nil, .nil⟩
  | cons x _ ih =>
    intro ds r
    cases r with
    | cons r1 r2 =>
      obtain ⟨es, h1, h2⟩ := ih r2
      exact ⟨_ :: es, h1.cons _, .cons r1 h2⟩
  | swap x y l =>
    intro ds r
    cases r with
    | cons r1 r2 => cases r2 with
      | cons r2 r3 => exact ⟨_, .swap _ _ _, .cons r2 (.cons r1 r3)⟩
  | trans _ _ ih1 ih2 =>
    intro ds r
    obtain ⟨es, h1, h2⟩ := ih1 r
    obtain ⟨es', h3, h4⟩ := ih2 h2
    exact ⟨es', h3.trans h1, h4⟩
theorem RpA.pw {P : V → V → Prop} {R : D → D → Prop} (hPR : ∀ d e v w, Rp K da G d v → Rp K da G e w → P v w → R d e) : ∀ {ds : List D} {xs : List V}, RpA K da G ds xs → xs.Pairwise P → ds.Pairwise R
  | _, _, .nil, _ => .nil
  | _, _, .cons r rr, h => by
    rw [List.pairwise_cons] at h ⊢
    refine ⟨fun e he => ?_, RpA.pw hPR rr h.2⟩
    obtain ⟨i, hi⟩ := List.getElem?_of_mem he
    obtain ⟨w, h1, h2⟩ := RpA.get rr hi
    exact hPR _ _ _ _ r h2 (h.1 _ (List.mem_of_getElem? h1))
theorem keyD_V {shape : Nat → Bool} : ∀ {i : Nat} {ds : List D} {xs : List V} {k : Ky}, RpA K da G ds xs → keyDs shape i ds = some k → keyV shape i xs = some k
  | i, [], _, k, .nil, h => h
  | i, .int n :: r, _, k, .cons (.int _) rr, h => by
    unfold keyDs at h
    unfold keyV
    by_cases hs : shape i = true
    · rw [if_pos hs] at h; cases h
    · rw [if_neg hs] at h ⊢
      cases q : keyDs shape (i + 1) r with
      | none => rw [q] at h; cases h
      | some k' => rw [q] at h; rw [keyD_V rr q]; exact h
  | i, .str x :: r, _, k, .cons (.str _) rr, h => by
    unfold keyDs at h
    unfold keyV
    by_cases hs : shape i = true
    · rw [if_pos hs] at h ⊢
      cases q : keyDs shape (i + 1) r with
      | none => rw [q] at h; cases h
      | some k' => rw [q] at h; rw [keyD_V rr q]; exact h
    · rw [if_neg hs] at h; cases h
  | i, .non :: r, _, k, .cons _ rr, h => by simp [keyDs] at h
  | i, .bl b :: r, _, k, .cons _ rr, h => by simp [keyDs] at h
  | i, .lst b :: r, _, k, .cons _ rr, h => by simp [keyDs] at h
  | i, .tup b :: r, _, k, .cons _ rr, h => by simp [keyDs] at h
  | i, .obj b _ :: r, _, k, .cons _ rr, h => by simp [keyDs] at h
  | i, .deal :: r, _, k, .cons _ rr, h => by simp [keyDs] at h
  | i, .ty b :: r, _, k, .cons _ rr, h => by simp [keyDs] at h
  | i, .cl b :: r, _, k, .cons _ rr, h => by simp [keyDs] at h
  | i, .unk :: r, _, k, .cons _ rr, h => by simp [keyDs] at h
  | i, .scr b :: r, _, k, .cons _ rr, h => by simp [keyDs] at h
  | i, .fn b :: r, _, k, .cons _ rr, h => by simp [keyDs] at h
theorem keyT_V {H : Hp} {shape : Nat → Bool} {d : D} {v : V} {k : Ky} (e : Same G H) (r : Rp K da G d v) (h : keyT shape d = some k) : KeyIs K H shape v k := by
  match d, h with
  | .tup (d :: ds), h =>
    cases r with
    | tup ht rr =>
      refine ⟨_, _, rfl, same_t e ht, ?_, keyD_V rr h⟩
      intro z
      rw [z] at rr
      cases rr
def dSortedT : List D → (List D → Prop) → Prop := fun ds P => ∃ (l : List D) (shape : Nat → Bool), ds = [.lst l] ∧ (∀ x ∈ l, ∃ k, keyT shape x = some k) ∧
  ∀ es, es.Perm l → es.Pairwise (fun x y => ∀ k k', keyT shape x = some k → keyT shape y = some k' → kle k k') → P es
theorem rfc_sortedT : RfCN K (rSortT K) dSortedT := by
  intro da G H xs ds P Q e dl r ⟨l, shape, ed, hk, h⟩ k
  subst ed
  cases r with
  | cons r1 r2 =>
    cases r2
    cases r1 with
    | lst hg ra =>
      rename_i a xs
      refine ⟨a, xs, shape, rfl, .inl (.inl (e _ _ hg)), fun x hx => ?_, fun ys p hp hpw hn => ?_⟩
      · obtain ⟨j, hj⟩ := List.getElem?_of_mem hx
        obtain ⟨d, h1, h2⟩ := RpA.getV ra hj
        obtain ⟨kk, hkk⟩ := hk d (List.mem_of_getElem? h1)
        exact ⟨kk, keyT_V e h2 hkk⟩
      · obtain ⟨es, h1, h2⟩ := RpA.perm hp ra
        refine k es p ys hn h2 (h es h1 (RpA.pw (fun d e' v w rd re hvw k k' hd he => ?_) h2 hpw))
        exact hvw k k' (keyT_V e rd hd) (keyT_V e re he)
end
end DL

/-! texts as lists of signs -/
namespace DL
open PySem PySem.Spec PyProof.Rows L2
abbrev tx (l : List Nat) : Str := ⟨l.toArray⟩
theorem tx_inj {a b : List Nat} (h : tx a = tx b) : a = b := by
  have := congrArg (fun s : Str => s.cps.toList) h
  simpa using this
theorem tx_eq {a b : List Nat} : tx a = tx b ↔ a = b := ⟨tx_inj, fun h => by rw [h]⟩
@[simp] theorem tx_len (a : List Nat) : (tx a).length = a.length := by simp [Str.length]
@[simp] theorem tx_app (a b : List Nat) : tx a ++ tx b = tx (a ++ b) := by
  show (⟨a.toArray ++ b.toArray⟩ : Str) = ⟨(a ++ b).toArray⟩
  simp
@[simp] theorem tx_list (a : List Nat) : (tx a).cps.toList = a := rfl
@[simp] theorem tx_signs (a : List Nat) : signs (tx a) = a.map sgn := rfl
theorem tx_of (z : Str) : tx z.cps.toList = z := by cases z; rfl
theorem str_tx (z : Str) : ∃ l, z = tx l := ⟨_, (tx_of z).symm⟩
@[simp] theorem tx_cut (a : List Nat) (lo hi : Option Int) : cutS (tx a) lo hi = tx (cut a lo hi) := by
  unfold cutS cut
  simp [Str.length]
@[simp] theorem tx_rep (n : Nat) (a : List Nat) : rep n (tx a) = tx (List.replicate n a).flatten := rfl
theorem cut_from {α : Type} {xs : List α} {i : Int} (h : 0 ≤ i) : cut xs (some i) none = xs.drop i.toNat := by
  unfold cut HT.sIx
  simp only [show ¬ (i < 0) by omega, if_false]
  by_cases hl : i.toNat ≤ xs.length
  · rw [Nat.min_eq_left hl, List.take_of_length_le (by rw [List.length_drop]; omega)]
  · rw [Nat.min_eq_right (by omega), List.drop_eq_nil_of_le (Nat.le_refl _), List.drop_eq_nil_of_le (by omega)]
    simp
theorem cut_to {α : Type} {xs : List α} {i : Int} (h : 0 ≤ i) : cut xs none (some i) = xs.take i.toNat := by
  unfold cut HT.sIx
  simp only [show ¬ (i < 0) by omega, if_false, List.drop_zero, Nat.sub_zero]
  by_cases hl : i.toNat ≤ xs.length
  · rw [Nat.min_eq_left hl]
  · rw [Nat.min_eq_right (by omega), List.take_of_length_le (Nat.le_refl _), List.take_of_length_le (by omega)]
theorem cut_mid {α : Type} {xs : List α} {i j : Int} (h : 0 ≤ i) (hj : i ≤ j) (hl : i ≤ xs.length) : cut xs (some i) (some j) = (xs.drop i.toNat).take (j - i).toNat := by
  have e1 : HT.sIx xs.length 0 (some i) = i.toNat := by
    unfold HT.sIx
    simp only [show ¬ (i < 0) by omega, if_false]
    omega
  have e2 : HT.sIx xs.length xs.length (some j) = min j.toNat xs.length := by
    unfold HT.sIx
    simp only [show ¬ (j < 0) by omega, if_false]
  unfold cut
  rw [e1, e2]
  by_cases hl2 : j.toNat ≤ xs.length
  · rw [Nat.min_eq_left hl2]
    congr 1
    omega
  · rw [Nat.min_eq_right (by omega), List.take_of_length_le (by rw [List.length_drop]; omega), List.take_of_length_le (by rw [List.length_drop]; omega)]
theorem take_beq {a b : List Nat} : (a.take b.length == b) = b.isPrefixOf a := by
  induction b generalizing a with
  | nil => simp
  | cons c b ih =>
    cases a with
    | nil => simp
    | cons d a => 
      simp only [List.length_cons, List.take_succ_cons, List.isPrefixOf]
      rw [← ih]
      show (d == c && _) = _
      by_cases h : d = c
      · subst h; simp; rfl
      · rw [beq_false_of_ne h, beq_false_of_ne (fun z => h z.symm)]; rfl
theorem len_le_of_take {a b : List Nat} (h : (a.take b.length == b) = true) : b.length ≤ a.length := by
  have h2 := congrArg List.length (eq_of_beq h)
  rw [List.length_take] at h2
  omega
@[simp] theorem tx_starts (a b : List Nat) : Txt.startswith (tx a) (tx b) = b.isPrefixOf a := by
  unfold Txt.startswith
  rw [StrLaws.subAt_eq]
  simp only [tx_len, tx_list, List.drop_zero, Nat.zero_add]
  rw [← take_beq]
  cases h : (a.take b.length == b) with
  | false => simp
  | true => simp [len_le_of_take h]
theorem tx_starts3 (a b : List Nat) (i : Int) (h : 0 ≤ i) (hi : i ≤ a.length) : Txt.startswith3 (tx a) (tx b) i = b.isPrefixOf (a.drop i.toNat) := by
  unfold Txt.startswith3
  rw [StrLaws.subAt_eq]
  have e : fromIndex (tx a).length i = i.toNat := by
    unfold fromIndex
    rw [if_neg (by omega)]
    omega
  rw [e]
  simp only [tx_len, tx_list]
  rw [← take_beq]
  cases h : ((a.drop i.toNat).take b.length == b) with
  | false => simp
  | true =>
    have := len_le_of_take h
    rw [List.length_drop] at this
    simp
    omega
@[simp] theorem tx_join (ls : List (List Nat)) : Txt.join (tx []) (ls.map tx) = tx ls.flatten := by
  unfold Txt.join
  rw [StrLaws.glued_eq_join]
  induction ls with
  | nil => rfl
  | cons a ls ih =>
    cases ls with
    | nil => show tx a = _; simp
    | cons b ls =>
      show tx a ++ tx [] ++ Str.join (tx []) (tx b :: ls.map tx) = _
      have ih' : Str.join (tx []) (tx b :: ls.map tx) = tx (b :: ls).flatten := ih
      rw [ih', tx_app, tx_app]
      simp
/-! ### one sign in a text -/
theorem subAt_sgn (a : List Nat) (c i : Nat) : (i + (tx [c]).length ≤ (tx a).length ∧ Builtin.Str.subAt (tx a) (tx [c]) i = true) ↔ a[i]? = some c := StrLaws.subAt_one (tx a) c i
theorem occ_step (a : List Nat) (c limit i : Nat) (st : Array Nat × Nat) (h : st.snd ≤ i) : StrLaws.occBody (tx a) (tx [c]) a.length limit i st = pure (ForInStep.yield (if st.fst.size < limit ∧ a[i]? = some c then (st.fst.push i, i + 1) else st)) := by
  unfold StrLaws.occBody
  have key := subAt_sgn a c i
  rw [tx_len a] at key
  by_cases h1 : a[i]? = some c
  · by_cases h2 : st.fst.size < limit
    · rw [if_pos ⟨⟨⟨h2, h⟩, (key.mpr h1).1⟩, (key.mpr h1).2⟩, if_pos ⟨h2, h1⟩]; rfl
    · rw [if_neg (fun z => h2 z.1.1.1), if_neg (fun z => h2 z.1)]
  · rw [if_neg (fun z => h1 (key.mp ⟨z.1.2, z.2⟩)), if_neg (fun z => h1 z.2)]
theorem occ_run (a : List Nat) (c limit : Nat) : ∀ (n i : Nat) (acc : Array Nat) (f : Nat), f ≤ i → (forIn (List.range' i n) (acc, f) (StrLaws.occBody (tx a) (tx [c]) a.length limit)).run.fst.toList = (acc.toList ++ ((List.range' i n).filter fun j => a[j]? == some c).take (limit - acc.size))
  | 0, i, acc, f, h => by simp
  | n + 1, i, acc, f, h => by
    rw [List.range'_succ, List.forIn_cons, occ_step a c limit i (acc, f) h]
    by_cases h1 : a[i]? = some c
    · have e1 : ((i :: List.range' (i + 1) n).filter fun j => a[j]? == some c) = i :: ((List.range' (i + 1) n).filter fun j => a[j]? == some c) := by
        rw [List.filter_cons_of_pos (by simp [h1])]
      rw [e1]
      by_cases h2 : acc.size < limit
      · rw [if_pos ⟨h2, h1⟩]
        have ih := occ_run a c limit n (i + 1) (acc.push i) (i + 1) (Nat.le_refl _)
        refine Eq.trans ih ?_
        rw [Array.toList_push, List.append_assoc, Array.size_push]
        obtain ⟨m, hm⟩ : ∃ m, limit - acc.size = m + 1 := ⟨limit - acc.size - 1, by omega⟩
        rw [hm, show limit - (acc.size + 1) = m by omega, List.take_succ_cons]
        rfl
      · rw [if_neg (fun z => h2 z.1)]
        have ih := occ_run a c limit n (i + 1) acc f (by omega)
        refine Eq.trans ih ?_
        rw [show limit - acc.size = 0 by omega]
        simp
    · have e1 : ((i :: List.range' (i + 1) n).filter fun j => a[j]? == some c) = ((List.range' (i + 1) n).filter fun j => a[j]? == some c) := by
        rw [List.filter_cons_of_neg (by simp [h1])]
      rw [e1, if_neg (fun z => h1 z.2)]
      exact occ_run a c limit n (i + 1) acc f (by omega)
theorem occ_one (a : List Nat) (c limit : Nat) : Builtin.Str.occurrences (tx a) (tx [c]) 0 (tx a).length limit = ((List.range' 0 (a.length + 1)).filter fun j => a[j]? == some c).take limit := by
  rw [StrLaws.occ_eq, tx_len]
  refine Eq.trans (occ_run a c limit (a.length + 1 - 0) 0 #[] 0 (Nat.le_refl _)) ?_
  simp
theorem filt_shift (d : Nat) (a : List Nat) (c : Nat) (n : Nat) : ((List.range' 1 n).filter fun j => (d :: a)[j]? == some c) = ((List.range' 0 n).filter fun j => a[j]? == some c).map (· + 1) := by
  rw [show List.range' 1 n = (List.range' 0 n).map (· + 1) by rw [show (fun x : Nat => x + 1) = (fun x => 1 + x) from funext fun x => Nat.add_comm _ _, List.map_add_range']]
  rw [List.filter_map]
  congr 1
theorem filt_count (c : Nat) : ∀ (a : List Nat), ((List.range' 0 (a.length + 1)).filter fun j => a[j]? == some c).length = a.count c
  | [] => by simp [List.range']
  | d :: a => by
    rw [List.length_cons, show List.range' 0 (a.length + 1 + 1) = 0 :: List.range' 1 (a.length + 1) by rw [List.range'_succ]]
    have ih := filt_count c a
    by_cases h : d = c
    · rw [List.filter_cons_of_pos (by simp [h]), List.length_cons, filt_shift, List.length_map, ih, h, List.count_cons_self]
    · rw [List.filter_cons_of_neg (by simp [h]), filt_shift, List.length_map, ih, List.count_cons_of_ne (fun z => h z)]
theorem filt_head (c : Nat) : ∀ (a : List Nat), c ∈ a → ((List.range' 0 (a.length + 1)).filter fun j => a[j]? == some c).head? = some (a.idxOf c)
  | [], h => by simp at h
  | d :: a, hm => by
    rw [List.length_cons, show List.range' 0 (a.length + 1 + 1) = 0 :: List.range' 1 (a.length + 1) by rw [List.range'_succ]]
    by_cases h : d = c
    · rw [List.filter_cons_of_pos (by simp [h]), h, List.idxOf_cons_self]; rfl
    · rw [List.filter_cons_of_neg (by simp [h]), filt_shift, List.head?_map, filt_head c a (by simpa [Ne.symm h] using hm), List.idxOf_cons, beq_false_of_ne h]
      rfl
theorem tx_count (a : List Nat) (c : Nat) : Txt.count (tx a) (tx [c]) = (a.count c : Nat) := by
  unfold Txt.count
  rw [occ_one, List.take_of_length_le, filt_count]
  refine Nat.le_trans (List.length_filter_le _ _) ?_
  simp
theorem tx_index (a : List Nat) (c : Nat) (h : c ∈ a) : Txt.index0 (tx a) (tx [c]) = some (a.idxOf c) := by
  unfold Txt.index0
  rw [occ_one]
  have := filt_head c a h
  cases q : ((List.range' 0 (a.length + 1)).filter fun j => a[j]? == some c) with
  | nil => rw [q] at this; cases this
  | cons x l => rw [q] at this; exact this
/-! ### == of data without marks -/
@[simp] theorem eqv_str (a b : Str) : PyData.eqv (.str a) (.str b) = decide (a = b) := by
  unfold PyData.eqv
  by_cases h : a = b
  · subst h; simp
  · rw [decide_eq_false h]
    simp [h]
@[simp] theorem eqv_int (a b : Int) : PyData.eqv (.int a) (.int b) = decide (a = b) := by
  unfold PyData.eqv
  by_cases h : a = b
  · subst h; simp
  · rw [decide_eq_false h]
    simp [h]
end DL

/-! list.count of data -/
namespace DL
open PySem PySem.Spec PyProof.Rows L2
theorem hu65 {A : Around} {k : Nat} (hr : Room k A) : A.units + 65 < cLine := by have := hr.un; omega
section
variable {K : PySem.W.Frag} {X : Cx}
def rCountD (K : PySem.W.Frag) : V → List V → Hp → VK → Prop := fun x xs H Q => ∃ (a : Addr) (y : V) (d : PyData) (ds : List PyData), x = V.ref a ∧ xs = [y] ∧ Dp K H (V.ref a) (.list ds) ∧ Dp K H y d ∧
  SeqAt.shaped (.list ds) = true ∧ SeqAt.shaped d = true ∧ Q (.int ((ds.countP fun z => PyData.eqv z d) : Nat)) H
theorem mt_countD (hu : X.A.units + 65 < cLine) : MtR X "list.count" (rCountD X.K) := by
  intro pins s σ H x xs v us Q I rx rxs h
  obtain ⟨a, y, d, ds, rfl, rfl, hl, hy, sl, sd, q⟩ := h
  cases rx
  cases rxs with
  | cons ry rt =>
    rename_i uy ut
    cases rt
    obtain ⟨bs, r1⟩ := Dp.reads I d y uy hy ry
    have hxs : PyData.canLayAll0 ds = true := SeqAt.canLay_of_shaped sl
    have hroom : X.A.units + 1 + min (PyData.depthAll ds) d.depth < cLine := room_in_shaped sd hu
    cases hl with
    | lst hs ha =>
      obtain ⟨its, rv, ⟨⟨cls, dd, data, sls⟩, n, ho, hc, hdn, hdt⟩, hlen⟩ := I.list hs
      simp only at hc hdt
      subst hc hdt
      obtain ⟨as, h4⟩ := Dp.readsAll I ds _ its ha rv
      have hmap : its.map (SeqAt.readOf s.heap) = ds := SeqAt.readsAll_map ds its as hxs h4
      refine call_meets PySem.F.slot_list_count ⟨_, ho, rfl⟩ PySem.F.entry_list_count (PySem.F.args_list_count_2 _ _)
        (SeqAt.list_countAt a its.toArray n dd sls uy (fun u => PyData.eqv (SeqAt.readOf s.heap u) d)) ⟨ho, SeqAt.items_eqAt (vs := its.toArray) (show ReadsAll s.heap its.toArray.toList ds as from h4) r1 hxs (SeqAt.canLay_of_shaped sd) hroom, ?_⟩
      have e : its.toArray.toList.countP (fun u => PyData.eqv (SeqAt.readOf s.heap u) d) = ds.countP fun z => PyData.eqv z d := by
        rw [← hmap, List.countP_map]
        rfl
      rw [e]
      exact ⟨.int ((ds.countP fun z => PyData.eqv z d) : Nat), H, I.tok _, ⟨_, rfl⟩, q⟩
def dCountD : DM := fun x ds P => ∃ ls y, x = .lst ls ∧ ds = [y] ∧ shp (.lst ls) = true ∧ shp y = true ∧ P (.int ((ls.countP fun z => PyData.eqv (py z) (py y)) : Nat))
theorem rfm_countD : RfM K "list" (rCountD K) dCountD := by
  intro da G H x xs d ds P Q e dl r rs ⟨ls, y, ed, es, h1, h2, h⟩ k
  subst ed; subst es
  cases rs with
  | cons r1 r2 =>
    cases r2
    have hd : Dp K H x (py (.lst ls)) := r.dp e (shp_can h1)
    cases r with
    | lst hg ra =>
      rename_i a xs
      refine ⟨a, _, py y, pys ls, rfl, rfl, by rw [← py]; exact hd, r1.dp e (shp_can h2), by rw [← py]; exact h1, h2, ?_⟩
      rw [pys_map, List.countP_map]
      exact k _ _ G H (stay e dl) (.int _) h
end
end DL

/-! enumerate over tuples; lists or tuples -/
namespace PySem
open Sem (wp)
open AutoSeq1 (wpAny_loadPart')
theorem enumNewT (l : Addr) (items : Array Value) (n : Nat) (dct : Option Addr) (sl : Array (Option Value)) :
    Meets (Builtin.«enumerate.__new__» ⟨[.type "enumerate", .ref l], []⟩) (fun _ R s => s.heap.get? l = some { cls := .type "tuple", dict := dct, data := .seq items n, slots := sl } ∧
      R (.ok (.ret (.ref (s.heap.push { cls := .type "tuple_iterator", data := .fields #[.ref l, .int 0 0] }).objs.size)))
        { s with heap := (s.heap.push { cls := .type "tuple_iterator", data := .fields #[.ref l, .int 0 0] }).push { cls := .type "enumerate", data := .fields #[.none, .bool false, .ref s.heap.objs.size, rawInt 0, .none, .none] } }) :=
  .of_wp fun prog w A R s h => by
    obtain ⟨hp, g, d, tk, os⟩ := s; obtain ⟨hl, h⟩ := h
    have hsub := sub_enumerate
    have hL : Heap.IsTuple (Shared.heap ⟨hp, g, d, tk, os⟩) l items := ⟨_, hl, rfl, n, rfl⟩
    wp_walk using wpAny_loadPart' hl
    refine wpAny_stack_any fun st => wpAny_pure ?_
    split
    · rename_i c _ _ _ _ _
      cases (c == Value.type "enumerate")
      · wp_walk using wpAny_loadPart' hl, wpAny_pyIter_tuple hL
        exact ⟨_, rfl, h⟩
      · wp_walk using wpAny_loadPart' hl, wpAny_pyIter_tuple hL
        exact ⟨_, rfl, h⟩
    · wp_walk using wpAny_loadPart' hl, wpAny_pyIter_tuple hL
      exact ⟨_, rfl, h⟩
section
variable {prog : Program} {w : World} {A : Around} {E : Value → Shared → Prop} {s : Shared}
theorem call_enumT {l : Addr} {items : Array Value} {Q : Value → Shared → Prop} (hL : s.heap.IsTuple l items)
    (h : ∀ h', IsEnum h' (s.heap.objs.size + 1) s.heap.objs.size 0 .none → h'.IsTupleIter s.heap.objs.size l 0 → h'.objs.size = s.heap.objs.size + 2 →
      (∀ b o, s.heap.get? b = some o → h'.get? b = some o) → Q (.ref (s.heap.objs.size + 1)) { s with heap := h' }) :
    wpAny (model prog w) A (call (.type "enumerate") [.ref l]) Q E s := by
  obtain ⟨⟨c, dct, dt, sl⟩, hl, hc, n, hd⟩ := hL
  replace hc : c = .type "tuple" := hc
  replace hd : dt = .seq items n := hd
  subst hc hd
  refine callType_new F.called_enumerate (by decide) (F.typeCall_enumerate_1 _) (F.newCall_enumerate_1 _) (fun obj => F.args_object_init_2 obj _) F.entry_enumerate_new
    (enumNewT l items n dct sl) ⟨hl, ?_⟩
  have hz : (s.heap.push { cls := .type "tuple_iterator", data := .fields #[.ref l, .int 0 0] }).objs.size = s.heap.objs.size + 1 := Heap.size_push ..
  show _ ∧ _
  rw [hz]
  have he : IsEnum ((s.heap.push { cls := .type "tuple_iterator", data := .fields #[.ref l, .int 0 0] }).push
      { cls := .type "enumerate", data := .fields #[.none, .bool false, .ref s.heap.objs.size, rawInt 0, .none, .none] }) (s.heap.objs.size + 1) s.heap.objs.size 0 .none := by
    have := Heap.get?_push_size (s.heap.push { cls := .type "tuple_iterator", data := .fields #[.ref l, .int 0 0] })
      (o := { cls := .type "enumerate", data := .fields #[.none, .bool false, .ref s.heap.objs.size, rawInt 0, .none, .none] }) rfl
    rw [hz] at this; exact this
  refine ⟨⟨_, he, rfl⟩, h _ he ⟨_, Heap.get?_push_of_some _ (Heap.get?_push_size _ rfl), rfl, rfl⟩ (by rw [Heap.size_push, hz]) fun b o x => Heap.get?_push_of_some _ (Heap.get?_push_of_some _ x)⟩
end
end PySem
namespace DL
open PySem PySem.Spec PyProof.Rows L2
def IteT (K : PySem.W.Frag) (a : Addr) : It :=
  ⟨fun i H => ∃ xs x, SqT K H a xs ∧ xs[i]? = some x, fun i H v H' => ∃ T x, v = .ref T ∧ H T = none ∧ H' = upd H T (.tup [.int (i : Nat), x]) ∧ ∀ ys, SqT K H a ys → ys[i]? = some x, fun i H => ∃ xs, SqT K H a xs ∧ xs.length = i⟩
theorem turn_enumT {P : Program} {w : World} {K : PySem.W.Frag} {elts : List Expr} {kk : Nat} {tpos : Pos} (a e it : Addr) :
    Turn P w K (.Tuple elts kk tpos) (IteT K a) [e, it] e (fun i h => (∃ old, IsEnum h e it ((i : Nat) : Int) old) ∧ h.IsTupleIter it a i ∧ e ≠ it ∧ a ≠ it ∧ a ≠ e) where
  mem := by simp
  obj := fun i h st b hb => by
    obtain ⟨⟨old, he⟩, ⟨o, ho, hc, hd⟩, _⟩ := st
    have e' : b = e ∨ b = it := by simpa using hb
    rcases e' with z | z
    · rw [z]; exact ⟨_, he, fun v q => nomatch q⟩
    · rw [z]; exact ⟨o, ho, fun v q => by rw [hd] at q; cases q⟩
  keep := fun i h h' st k => let ⟨⟨old, he⟩, hi, hne⟩ := st; ⟨⟨old, k e (by simp) _ he⟩, hi.at fun o q => k it (by simp) o q, hne⟩
  item := by
    intro X hP hw hK hc i pins s σ H E I hf st hg
    subst hP hw hK
    obtain ⟨⟨old, he⟩, hit, hne, hai, hae⟩ := st
    obtain ⟨xs, x, hq, hx⟩ := hg
    obtain ⟨its, rv, p, hz⟩ := I.tuple hq
    obtain ⟨u, hu, ru⟩ := rv.get hx
    have hT0 : s.heap.IsTuple a its.toArray := p
    have hel : e < s.heap.objs.size := Heap.lt_size he
    have hil : it < s.heap.objs.size := by obtain ⟨_, q, _⟩ := hit; exact Heap.lt_size q
    have hh : X.A.in1.handled = none := I.ok.hd hc
    have hlt : i < its.toArray.size := by
      have := (List.getElem?_eq_some_iff.mp hu).1
      simpa using this
    refine wpAny_pyNext_enum_itemC (Draws.tuple hh it a hai its.toArray) he ⟨hit, hT0⟩ hlt hne (by simp; exact ⟨hne, fun z => hae z.symm⟩) fun u2 h' tk hu2 ho ⟨hit', hT'⟩ hT hsz hk => ?_
    have eu : u2 = u := by
      have : its[i]? = some u2 := by simpa using hu2
      rw [hu] at this
      exact (Option.some.inj this).symm
    subst eu
    refine ⟨_, rfl, wpAny_letOwnedTupleGo_enum (s := { s with heap := h', toks := tk + 1 }) ho fun h'' he' sb => ?_⟩
    have hT2 : h''.get? s.heap.objs.size = some { cls := .type "tuple", data := .seq #[.int i tk, u2] } := (sb.2 _ (Nat.ne_of_gt hel)).trans hT
    have new : ObjOk X.prog X.w (upd H s.heap.objs.size (.tup [.int (i : Nat), x])) h'' s.heap.objs.size (.tup [.int (i : Nat), x]) :=
      ⟨by show 2 ≤ sizeLine; decide, [.int i tk, u2], .cons ⟨_, rfl⟩ (.cons ru .nil), ⟨_, hT2, rfl, _, rfl⟩⟩
    have I1 : Inv X pins σ (upd H s.heap.objs.size (.tup [.int (i : Nat), x])) { s with heap := h'', toks := tk + 1 } :=
      I.turnedNew (ch := [e, it]) (fun b ob hb q => (sb.2 b (fun z => hb (by simp [z]))).trans (hk b ob (fun z => hb (by simp [z])) (fun z => hb (by simp [z])) q)) hf (Nat.le_refl _) new
    refine ⟨.ref s.heap.objs.size, _, I1, rfl, ⟨_, x, rfl, I.hok.fresh (Nat.le_refl _), rfl, fun ys hy => by rw [I.tuple_inj hy hq]; exact hx⟩, ⟨⟨u2, ?_⟩, hit'.at fun o q => (sb.2 it (Ne.symm hne)).trans q, hne, hai, hae⟩, fun b hb => ?_⟩
    · have e1 : ((i + 1 : Nat) : Int) = (i : Int) + 1 := by omega
      rw [e1]; exact he'
    · have hb' : b < s.heap.objs.size := by
        have e' : b = e ∨ b = it := by simpa using hb
        rcases e' with z | z
        · rw [z]; exact hel
        · rw [z]; exact hil
      rw [upd_ne (Nat.ne_of_lt hb')]
      exact (hf b hb).1
  done := by
    intro X hP hw hK hc i pins s σ H E I hf st hg
    subst hP hw hK
    obtain ⟨⟨old, he⟩, hit, hne, hai, hae⟩ := st
    obtain ⟨xs, hq, hx⟩ := hg
    obtain ⟨its, rv, p, hz⟩ := I.tuple hq
    have hT0 : s.heap.IsTuple a its.toArray := p
    obtain ⟨f0, f1, f2, f3, f4, f5⟩ := hf it (by simp)
    have hl := rv.length
    have hh : X.A.in1.handled = none := I.ok.hd hc
    have ei : i = its.toArray.size := by simp; omega
    subst ei
    exact wpAny_pyNext_enum_endD (Draws.tuple hh it a hai its.toArray) he ⟨hit, hT0⟩ fun h' eb => ⟨rfl, I.turned (t' := s.toks) (fun b o hb q => eb b o hb q) f0 f1 f3 f4 f5⟩
  self := fun A i s Q E st h => let ⟨⟨_, he⟩, _⟩ := st; wpAny_pyIter_enum he h
def iEnumT (K : PySem.W.Frag) (ta : TA) : TI := fun σ H R => ta σ H fun vs H1 => ∃ a xs, vs = [.ref a] ∧ SqT K H1 a xs ∧ R (IteT K a) H1
theorem pi_enumT {X : Cx} {e : Expr} {ta : TA} {p pos tpos : Pos} {elts : List Expr} {kk : Nat} (hg : Gl X "enumerate") (hm : X.mg "enumerate" = none) (ha : PA X [e] ta) (hs : starEach [e] X.env = [(false, eval e X.env)] := by rfl) :
    PI X (.Tuple elts kk tpos) (.Call (.Name "enumerate" p) [e] [] pos) (iEnumT X.K ta) := by
  refine ⟨fun pins s σ H R I h => ?_⟩
  refine Call_ (ld_blt I hg hm boot_enumerate (PyProof.Rows.callWith_type1 (thn (ha.run pos pins s σ H _ I h) fun us s1 ⟨vs, H1, I1, r1, q1⟩ => ?_) hs rfl))
  obtain ⟨a, xs, ex, hq, q⟩ := q1
  subst ex
  cases r1 with
  | cons r rr =>
    cases rr
    cases r
    obtain ⟨its, rv, p', hz⟩ := I1.tuple hq
    have hT0 : s1.heap.IsTuple a its.toArray := p'
    have hal : a < s1.heap.objs.size := by obtain ⟨_, q, _⟩ := hT0; exact Heap.lt_size q
    refine call_enumT hT0 fun h' he hit hsz hk => wpAny_pyIter_enum he ?_
    have I2 : Inv X pins σ H1 { s1 with heap := h' } := I1.kept (t' := s1.toks) hk
    refine ⟨s1.heap.objs.size + 1, [s1.heap.objs.size + 1, s1.heap.objs.size], _, _, H1, rfl, I2, turn_enumT a (s1.heap.objs.size + 1) s1.heap.objs.size, ⟨⟨.none, he⟩, hit, Nat.succ_ne_self _, Nat.ne_of_lt hal, Nat.ne_of_lt (Nat.lt_succ_of_lt hal)⟩, fun b hb => ?_, q⟩
    have e' : b = s1.heap.objs.size + 1 ∨ b = s1.heap.objs.size := by simpa using hb
    have hle : s1.heap.objs.size ≤ b := by
      rcases e' with z | z
      · rw [z]; exact Nat.le_add_right _ _
      · rw [z]; exact Nat.le_refl _
    exact I1.fpOk hle (I1.hok.fresh hle)
theorem pi_or {X : Cx} {tg l : Expr} {w1 w2 : TI} (h1 : PI X tg l w1) (h2 : PI X tg l w2) : PI X tg l (fun σ H R => w1 σ H R ∨ w2 σ H R) :=
  ⟨fun pins s σ H R I h => h.elim (h1.run pins s σ H R I) (h2.run pins s σ H R I)⟩
section
variable {K : PySem.W.Frag} {i : Nat}
theorem iteT_ok {da : Option Addr} {G : Hp} {p : Addr} {xs : List V} {ds : List D} (hG : SqT K G p xs) (r : RpA K da G ds xs) : ItOk K da G (IteT K p) (numbered ds) := by
  intro G1 H1 e1 e2 dl
  have hS : SqT K H1 p xs := same_t e2 (same_t e1 hG)
  refine ⟨fun i d hd => ?_, ⟨xs, hS, by rw [numbered_len, r.length]⟩⟩
  obtain ⟨y, hy, ed⟩ := numbered_get hd
  subst ed
  obtain ⟨v, hv, rv⟩ := r.get hy
  refine ⟨⟨xs, v, hS, hv⟩, fun x H' ⟨T, v2, ev, hT, eh, q⟩ => ?_⟩
  subst eh; subst ev
  have := q xs hS
  rw [hv] at this; cases this
  have gT : G1 T = none := by
    cases z : G1 T with
    | none => rfl
    | some o => rw [e2 T o z] at hT; cases hT
  have e3 : Same G1 (upd G1 T (.tup [.int (i : Nat), v])) := Same.new gT
  exact ⟨_, Trn.put e2 dl hT, .tup (.inl (.inl upd_same)) (.cons (.int _) (.cons ((rv.up e1).up e3) .nil))⟩
def dItEA (i : Nat) : DI := fun δ P => ∃ ds, (δ[i]? = some (.val (.lst ds)) ∨ δ[i]? = some (.val (.tup ds))) ∧ P (numbered ds) δ
theorem rf_itEA {K : KW} : RfI K (fun σ H R => iEnum K (tCons (tVar i) tNil) σ H R ∨ iEnumT K (tCons (tVar i) tNil) σ H R) (dItEA i) := by
  intro e da G δ σ H P R R0 ⟨ds, hi, h⟩ k
  rcases hi with hi | hi
  · refine .inl (rf_itE (rf_cons rf_var rf_nil) e da G δ σ H P R R0 ?_ k)
    show dVar i δ _
    unfold dVar
    rw [hi]
    exact ⟨ds, rfl, h⟩
  · refine .inr ?_
    obtain ⟨A, ⟨_, v, e1, r⟩, _⟩ := R0.at hi
    cases r with
    | tup hg ra => exact ⟨_, e1, _, _, rfl, same_t R0.ex hg, k _ _ _ _ _ R0 (Same.refl _) (iteT_ok hg ra) h⟩
def dItA (i : Nat) : DI := fun δ P => ∃ ds, (δ[i]? = some (.val (.lst ds)) ∨ δ[i]? = some (.val (.tup ds))) ∧ P ds δ
theorem rf_itA {K : KW} : RfI K (fun σ H R => iList K (tVar i) σ H R ∨ iTup K (tVar i) σ H R) (dItA i) := by
  intro e da G δ σ H P R R0 ⟨ds, hi, h⟩ k
  rcases hi with hi | hi
  · refine .inl (rf_itL rf_var e da G δ σ H P R R0 ?_ k)
    show dVar i δ _
    unfold dVar
    rw [hi]
    exact ⟨ds, rfl, h⟩
  · refine .inr (rf_itT rf_var e da G δ σ H P R R0 ?_ k)
    show dVar i δ _
    unfold dVar
    rw [hi]
    exact ⟨ds, rfl, h⟩
end
end DL

/-! facts by names -/
namespace DL
open PySem PySem.Spec PyProof.Rows L2
def fdOf (K : PySem.W.Frag) (f : Addr) : FuncData := match K.lookup f with
  | some ⟨_, _, .func fd, _⟩ => fd
  | _ => default
theorem fdOf_eq {K : PySem.W.Frag} {x qual : Str} {p : Arguments} {b : List Stmt} {sc : Scope} {dv : List V} {kv : List (Str × V)} {f : Addr} {fd : FuncData} (F : FunD K x qual p b sc dv kv f fd) : FunD K x qual p b sc dv kv f (fdOf K f) := by
  obtain ⟨_, _, _, _, _, _, _, _, _, _, _, lk, _⟩ := F.ex
  have e : fdOf K f = fd := by unfold fdOf; rw [lk]
  rw [e]
  exact F
theorem fd_of {K : PySem.W.Frag} {x qual : Str} {p : Arguments} {b : List Stmt} {sc : Scope} {dv : List V} {kv : List (Str × V)} {f : Addr} (h : ∃ fd, FunD K x qual p b sc dv kv f fd) : FunD K x qual p b sc dv kv f (fdOf K f) := by
  obtain ⟨fd, F⟩ := h
  exact fdOf_eq F
theorem tupE_ok {K : PySem.W.Frag} {a : Addr} (h : tupE K a = true) (G : Hp) : SqT K G a [] := by
  unfold tupE at h
  cases q : K.lookup a with
  | none => rw [q] at h; cases h
  | some o =>
    obtain ⟨oc, od, dt, osl⟩ := o
    rw [q] at h
    cases oc with
    | type c =>
      cases dt with
      | seq its n =>
        obtain ⟨h1, h2⟩ := He.ba (show (decide (c = "tuple") && its.isEmpty) = true from h)
        have h3 : its = #[] := by simpa using h2
        subst h3
        exact .inr ⟨_, #[], n, q, congrArg Value.type (of_decide_eq_true h1), rfl, by decide, .nil⟩
      | _ => cases h
    | _ => cases dt <;> cases h
theorem tupE_rp {K : PySem.W.Frag} {a : Addr} (h : tupE K a = true) (da : Option Addr) (G : Hp) : RpA K da G [.tup []] [.ref a] := .cons (.tup (tupE_ok h G) .nil) .nil
end DL

/-! loops, comprehensions over data -/
namespace DL
open PySem PySem.Spec PyProof.Rows L2
theorem ite_f {b : Bool} {A B : Prop} (h : b = false) (hb : B) : (if b = true then A else B) := by rw [h, if_neg Bool.false_ne_true]; exact hb
theorem ite_t {b : Bool} {A B : Prop} (h : b = true) (hb : A) : (if b = true then A else B) := by rw [if_pos h]; exact hb
theorem ite_b {b : Bool} {A B : Prop} (h1 : b = true → A) (h2 : b = false → B) : (if b = true then A else B) := by
  cases b
  · exact ite_f rfl (h2 rfl)
  · exact ite_t rfl (h1 rfl)
theorem loop_inv {dg : DG} {body : DS} {E : DEnds} (I : Nat → Env → Prop) {ds : List D} {δ : Env} (h0 : I 0 δ) (hend : ∀ δ, I ds.length δ → E.nx δ)
    (step : ∀ (i : Nat) (d : D) (δ : Env) (N : Env → Prop), ds[i]? = some d → I i δ → (∀ δ', I (i + 1) δ' → N δ') → dg d δ fun δ' => body { E with nx := N, ct := N, bk := E.nx } δ') : dLoop dg body E ds δ := by
  have key : ∀ (n i : Nat) (δ : Env), n + i = ds.length → I i δ → dLoop dg body E (ds.drop i) δ := by
    intro n
    induction n with
    | zero =>
      intro i δ e h
      have : i = ds.length := by omega
      subst this
      rw [List.drop_length]
      exact hend δ h
    | succ n ih =>
      intro i δ e h
      have lt : i < ds.length := by omega
      rw [List.drop_eq_getElem_cons lt]
      exact step i ds[i] δ (dLoop dg body E (ds.drop (i + 1))) (List.getElem?_eq_getElem lt) h fun δ' h' => ih (i + 1) δ' (by omega) h'
  have := key ds.length 0 δ (by omega) h0
  rwa [List.drop_zero] at this
inductive All2 {α β : Type} (R : α → β → Prop) : List α → List β → Prop
  | nil : All2 R [] []
  | cons {x : α} {y : β} {xs : List α} {ys : List β} : R x y → All2 R xs ys → All2 R (x :: xs) (y :: ys)
theorem All2.len {α β : Type} {R : α → β → Prop} {xs : List α} {ys : List β} (h : All2 R xs ys) : ys.length = xs.length := by
  induction h with
  | nil => rfl
  | cons _ _ ih => simp [ih]
theorem comp_go {dg : DG} {t : DT} {a : DE} {δm : Env} (R : D → Option D → Prop) {P : List D → Prop} : ∀ {ds : List D} {acc : List D}, acc.length + ds.length ≤ 1000000 →
    (∀ d ∈ ds, ∀ (Q : D → Env → Prop) (N : Prop), (∀ y δ, R d (some y) → Q y δ) → (R d none → N) → dg d δm fun δ' => t δ' fun b δ2 => if b = true then a δ2 Q else N) →
    (∀ os, All2 R ds os → P (acc ++ os.filterMap id)) → dComp dg t a δm ds acc P
  | [], acc, _, _, hP => by
    have := hP [] .nil
    show P acc
    simpa using this
  | d :: ds, acc, hl, h, hP => by
    have hl' : acc.length + (ds.length + 1) ≤ 1000000 := hl
    refine h d List.mem_cons_self (fun y _ => acc.length ≤ 1000000 ∧ dComp dg t a δm ds (acc ++ [y]) P) (dComp dg t a δm ds acc P) (fun y δ r => ⟨by omega, ?_⟩) (fun r => ?_)
    · refine comp_go R (by simp; omega) (fun d' hd' => h d' (List.mem_cons_of_mem _ hd')) fun os ho => ?_
      have := hP (some y :: os) (.cons r ho)
      simpa using this
    · refine comp_go R (by omega) (fun d' hd' => h d' (List.mem_cons_of_mem _ hd')) fun os ho => ?_
      have := hP (none :: os) (.cons r ho)
      simpa using this
theorem comp_rel {dg : DG} {a : DE} {δm : Env} (R : D → D → Prop) {P : List D → Prop} {ds : List D} (hl : ds.length ≤ 1000000)
    (h : ∀ d ∈ ds, ∀ Q : D → Env → Prop, (∀ y δ, R d y → Q y δ) → dg d δm fun δ' => a δ' Q) (hP : ∀ ys, All2 R ds ys → P ys) : dComp dg dYes a δm ds [] P := by
  refine comp_go (fun d o => ∃ y, o = some y ∧ R d y) (by simpa using hl) (fun d hd Q N hq _ => ?_) fun os ho => ?_
  · have e : (fun δ' => dYes δ' fun b δ2 => if b = true then a δ2 Q else N) = fun δ' => a δ' Q := by
      funext δ'
      show (if true = true then a δ' Q else N) = _
      rw [if_pos rfl]
    rw [e]
    exact h d hd Q fun y δ r => hq y δ ⟨y, rfl, r⟩
  · have : ∀ {ds os}, All2 (fun d o => ∃ y, o = some y ∧ R d y) ds os → All2 R ds (os.filterMap id) := by
      intro ds os ho
      induction ho with
      | nil => exact .nil
      | cons hr _ ih =>
        obtain ⟨y, rfl, r⟩ := hr
        exact .cons r ih
    simpa using hP _ (this ho)
theorem comp_map {dg : DG} {a : DE} {δm : Env} (f : D → D) {P : List D → Prop} {ds : List D} (hl : ds.length ≤ 1000000)
    (h : ∀ d ∈ ds, ∀ Q : D → Env → Prop, (∀ δ, Q (f d) δ) → dg d δm fun δ' => a δ' Q) (hP : P (ds.map f)) : dComp dg dYes a δm ds [] P := by
  refine comp_rel (fun d y => y = f d) hl (fun d hd Q hq => h d hd Q fun δ => hq _ δ rfl) fun ys hy => ?_
  have : ys = ds.map f := by
    clear h hP hl
    induction hy with
    | nil => rfl
    | cons r _ ih => rw [List.map_cons, ← r, ih]
  rw [this]
  exact hP
theorem comp_filt {dg : DG} {t : DT} {a : DE} {δm : Env} (f : D → D) (p : D → Bool) {P : List D → Prop} {ds : List D} (hl : ds.length ≤ 1000000)
    (h : ∀ d ∈ ds, ∀ (Q : D → Env → Prop) (N : Prop), (p d = true → ∀ δ, Q (f d) δ) → (p d = false → N) → dg d δm fun δ' => t δ' fun b δ2 => if b = true then a δ2 Q else N) (hP : P ((ds.filter p).map f)) : dComp dg t a δm ds [] P := by
  refine comp_go (fun d o => o = if p d = true then some (f d) else none) (by simpa using hl) (fun d hd Q N hq hn => ?_) fun os ho => ?_
  · refine h d hd Q N (fun e δ => hq _ δ (by rw [if_pos e])) (fun e => hn (by rw [e]; rfl))
  · have : os.filterMap id = (ds.filter p).map f := by
      clear h hP hl
      induction ho with
      | nil => rfl
      | @cons d o ds os r _ ih =>
        by_cases e : p d = true
        · rw [if_pos e] at r
          subst r
          rw [List.filter_cons_of_pos e, List.map_cons, ← ih]
          rfl
        · rw [if_neg e] at r
          subst r
          rw [List.filter_cons_of_neg e, ← ih]
          rfl
    rw [this]
    simpa using hP
end DL

/-! a list of one's own lent to a call that tells a bool -/
namespace DL
open PySem PySem.Spec PyProof.Rows L2
def pureD : Nat → D → Prop
  | _, .non => True
  | _, .bl _ => True
  | _, .int _ => True
  | _, .str _ => True
  | n + 1, .lst l => ∀ d ∈ l, pureD n d
  | n + 1, .tup l => ∀ d ∈ l, pureD n d
  | _, _ => False
section
variable {K : PySem.W.Frag} {tas : TA} {as : DA} {da : Option Addr} {G : Hp}
theorem pureAll (n : Nat) (ih : ∀ (d : D) (v : V), pureD n d → Rp K da G d v → Rp K none G d v) : ∀ {ds : List D} {vs : List V}, (∀ d ∈ ds, pureD n d) → RpA K da G ds vs → RpA K none G ds vs
  | _, _, _, .nil => .nil
  | _, _, h, .cons r rr => .cons (ih _ _ (h _ List.mem_cons_self) r) (pureAll n ih (fun d hd => h d (List.mem_cons_of_mem _ hd)) rr)
theorem pure_rp : ∀ (n : Nat) (d : D) (v : V), pureD n d → Rp K da G d v → Rp K none G d v := by
  intro n
  induction n with
  | zero =>
    intro d v h r
    cases r <;> first | exact h.elim | constructor
  | succ n ih =>
    intro d v h r
    cases r with
    | non => exact .non
    | bl b => exact .bl b
    | int i => exact .int i
    | str s => exact .str s
    | lst hg ra => exact .lst hg (pureAll n ih h ra)
    | tup hg ra => exact .tup hg (pureAll n ih h ra)
    | obj _ _ => exact h.elim
    | deal _ => exact h.elim
    | ty _ => exact h.elim
    | cl _ => exact h.elim
    | unk _ => exact h.elim
    | scr _ => exact h.elim
    | fn _ _ _ => exact h.elim
def dCallL (S : DL.Spec) (i : Nat) (as : DA) : DE := fun δ P => ∃ ds n, δ[i]? = some (.own ds) ∧ (∀ d ∈ ds, pureD n d) ∧ as δ fun es δ' => δ'[i]? = some (.own ds) ∧ (∃ m, ∀ d ∈ es, pureD m d) ∧ S (.lst ds :: es) fun d => (∃ b, d = .bl b) ∧ P d δ'
theorem rf_callL {K : KW} {S : DL.Spec} {E : XK} {i : Nat} (ha : RfA K tas as) : RfE K (tCall (spD K S) [] E (tCons (tVar i) tas)) (dCallL S i as) := by
  intro e da G δ σ H P Q R ⟨ds, n, hi, hp, h⟩ k
  obtain ⟨a, xs0, s1, _, _, _, _, _⟩ := R.own_at hi
  refine ⟨_, s1, ha e da G δ σ H _ _ R h fun es δ1 vs G1 H1 R1 e1 r1 ⟨hi1, ⟨m, hm⟩, hS⟩ => ?_⟩
  obtain ⟨a', xs, s2, ha1, rx, z1, z2, z3⟩ := R1.own_at hi1
  have ea : a' = a := by
    rw [s1] at s2
    injection s2 with q
    injection q with q
    injection q with q
    exact q.symm
  subst ea
  rw [List.append_nil]
  have eg : Same G1 (upd G1 a' (.lst xs)) := Same.new z3
  have ex : Same (upd G1 a' (.lst xs)) H1 := fun b o q => by
    by_cases hb : b = a'
    · subst hb; rw [upd_same] at q; rw [ha1]; exact q
    · rw [upd_ne hb] at q; exact R1.ex b o q
  have dl0 : DealOk K none (upd G1 a' (.lst xs)) H1 := ⟨R1.dl.1.updG (by intro ps z; cases z) z3, fun b eb => by cases eb⟩
  refine ⟨upd G1 a' (.lst xs), none, .lst ds :: es, _, ex, dl0, .cons (.lst upd_same (pureAll n (pure_rp n) hp (rx.up eg))) (pureAll m (pure_rp m) hm (r1.up eg)), hS, fun d v G' H' T r ⟨⟨b, ed⟩, p⟩ => ?_⟩
  subst ed
  cases r
  have ga : ∀ b o, G' b = some o → b ≠ a' → G1 b = some o ∨ H1 b = none := fun b o q hb => by
    rcases T.fr b o q with z | z
    · rw [upd_ne hb] at z; exact .inl z
    · exact .inr z
  have T' : Trn K da G1 H1 (fun b => if b = a' then none else G' b) H' := by
    have same1 : Same G1 (fun b => if b = a' then none else G' b) := fun b o q => by
      have hb : b ≠ a' := fun z => by rw [z, z3] at q; cases q
      show (if b = a' then none else G' b) = some o
      rw [if_neg hb]
      exact T.eg b o (by rw [upd_ne hb]; exact q)
    refine ⟨fun b o q => ?_, same1, fun b o q _ => T.kp b o q (by simp), fun b o q => ?_, ?_⟩
    · have q' : (if b = a' then none else G' b) = some o := q
      by_cases hb : b = a'
      · rw [if_pos hb] at q'; cases q'
      · rw [if_neg hb] at q'; exact T.ex b o q'
    · have q' : (if b = a' then none else G' b) = some o := q
      by_cases hb : b = a'
      · rw [if_pos hb] at q'; cases q'
      · rw [if_neg hb] at q'; exact ga b o q' hb
    · have tabs : TabOk K (fun b => if b = a' then none else G' b) H' := by
        refine ⟨fun ps h => ?_, T.dl.1.ex, fun b ps h => ?_⟩
        · obtain ⟨h1, h2⟩ := T.dl.1.tab ps h
          refine ⟨h1, fun pos cv hcv => ?_⟩
          obtain ⟨c, e1, e2⟩ := h2 pos cv hcv
          have hc : c ≠ a' := fun z => by
            have q : G' a' = some (.lst xs) := T.eg a' _ upd_same
            rw [z, q] at e2
            unfold LamX.CodeO at e2
            cases e2
          exact ⟨c, e1, (if_neg hc).trans e2⟩
        · have h' : (if b = a' then none else G' b) = some (.tbl ps) := h
          by_cases hb : b = a'
          · rw [if_pos hb] at h'; cases h'
          · rw [if_neg hb] at h'; exact T.dl.1.noG b ps h'
      refine R1.dl.up same1 (fun _ => tabs) fun b eb => ?_
      obtain ⟨g0, b', ns, p, q, mm, t, hb1, _⟩ := R1.dl.2 b eb
      have hba : b ≠ a' := fun z => z2 (by rw [← z]; exact eb)
      refine ⟨?_, ?_⟩
      · show (if b = a' then none else G' b) = none
        rw [if_neg hba]
        cases q2 : G' b with
        | none => rfl
        | some o =>
          rcases ga b o q2 hba with z | z
          · rw [g0] at z; cases z
          · rw [hb1] at z; cases z
      · rw [(T.kp b _ hb1 (by simp)).nt (by intro ps z; cases z), hb1]
  exact k (.bl b) _ _ _ _ (R1.go T') (e1.trans T'.eg) (.bl b) p
end
end DL

/-! what may leave by an exception -/
namespace DL
open PySem PySem.Spec PyProof.Rows L2
abbrev SpecX := List D → (D → Prop) → (Addr → List (Str × D) → Prop) → Prop
abbrev SpecNX := List D → (List D → Prop) → (Addr → List (Str × D) → Prop) → Prop
abbrev SpecIX := List D → (List (Str × D) → Prop) → (Addr → List (Str × D) → Prop) → Prop
def ExcOf (K : PySem.W.Frag) (da : Option Addr) (G H : Hp) (PX : Addr → List (Str × D) → Prop) (E : XK) : Prop := ∀ (C dd : Addr) (fs : List (Str × D)) (gs : List (Str × V)) (G' H' : Hp), Trn K da G H G' H' → H' dd = some (.xd gs) → RpF K da G' fs gs → PX C fs → E (.ref C) (some dd) H'
def spX (K : PySem.W.Frag) (S : SpecX) : Sp := fun vs H Q E => ∃ (G : Hp) (da : Option Addr) (ds : List D) (P : D → Prop) (PX : Addr → List (Str × D) → Prop), Same G H ∧ DealOk K da G H ∧ RpA K da G ds vs ∧ S ds P PX ∧
  (∀ d v G' H', Trn K da G H G' H' → Rp K da G' d v → P d → Q v H') ∧ ExcOf K da G H PX E
def spNX (K : PySem.W.Frag) (S : SpecNX) : Sp := fun vs H Q E => ∃ (G : Hp) (da : Option Addr) (ds : List D) (P : List D → Prop) (PX : Addr → List (Str × D) → Prop), Same G H ∧ DealOk K da G H ∧ RpA K da G ds vs ∧ S ds P PX ∧
  (∀ ds a xs G' H', Trn K da G H G' H' → H' a = some (.lst xs) → G' a = none → H a = none → da ≠ some a → RpA K da G' ds xs → P ds → Q (.ref a) H') ∧ ExcOf K da G H PX E
section
variable {K : KW} {ta : TE} {a : DE} {tas : TA} {as : DA}
theorem Rel.exc {K : KW} {e : En} {da : Option Addr} {G H : Hp} {δ : Env} {σ : L2.St} (R : Rel K e da G δ σ H) : ExcOf K da G H (fun C fs => K.xs C fs δ) (WE K.W σ) := fun C dd fs gs G' H' T hd r px =>
  R.xo C dd fs gs G' δ σ H' (R.toRel0.go T) hd r px
def dCallX (S : SpecX) (xs : DXs) (as : DA) : DE := fun δ P => as δ fun ds δ' => S ds (fun d => P d δ') fun C fs => xs C fs δ'
theorem rf_callX {K : KW} {S : SpecX} (ha : RfA K tas as) : RfE K (tCallS (spX K S) (WE K.W) tas) (dCallX S K.xs as) := by
  intro e da G δ σ H P Q R h k
  refine ha e da G δ σ H _ _ R h fun ds δ1 vs G1 H1 R1 e1 r1 h1 => ?_
  exact ⟨G1, da, ds, _, _, R1.ex, R1.dl, r1, h1, fun d v G' H' T r p => k _ _ _ _ _ (R1.go T) (e1.trans T.eg) r p, R1.exc⟩
def dRaise (C : Addr) (mk : List D → List (Str × D)) (xs : DXs) (as : DA) : DS := fun _ δ => as δ fun ds δ' => ds.length ≤ 1000 ∧ xs C (mk ds) δ'
end
/-! ### a def's body that may raise -/
section
variable {P : Program} {w : World} {K : PySem.W.Frag} {mg : Str → Option Value} {base : Heap}
theorem kwE_xo {E : XK} {PX : Addr → List (Str × D) → Prop} {da : Option Addr} {G H : Hp} (x : ExcOf K da G H PX E) : XOk (kwE K E PX) ⟨G, H⟩ da := fun C dd fs gs G' δ σ H' R hd r px => x C dd fs gs G' H' R.toTrn hd r px
theorem okX {x qual : Str} {st : Stmt} {f : Addr} {fd : FuncData} {N ps : List Str} {k : Nat} {S : SpecX} {dv : List V} {kv : List (Str × V)} (F : FunD K x qual (defArgs st) (defBody st) (defScope st) dv kv f fd) (Sc : FnScope N ps (defScope st)) (len : ∀ ds P PX, S ds P PX → ds.length = ps.length)
    (hbody : ∀ (cdv : Value) (A : Around) (outer : List PySem.Env) (s : Shared) (H : Hp) (E : XK), Room k (A.deeper (envOfC qual (defScope st) s.heap.objs.size f cdv)) →
      ∃ t, PSs (cxOf (L2.CX P w) P w K mg base N qual (defScope st) f cdv A outer s H E) (defBody st) t ∧ ∀ PX, ∃ dt, RfS (kwE K E PX) t dt ∧ ∀ ds P, S ds P PX → dt (endsD P) (env0 N ds)) : FnOk P w K mg base (L2.CX P w) (k + 1) f fd ps (spX K S) := by
  refine F.ok Sc (fun vs H Q E h => ?_) (fun cdv A outer s H vs Q E hr h => ?_)
  · obtain ⟨G, da, ds, P', PX, ex, dl, ra, hS, k, kx⟩ := h
    rw [← ra.length]
    exact len ds P' PX hS
  · obtain ⟨G, da, ds, P', PX, ex, dl, ra, hS, k, kx⟩ := h
    obtain ⟨t, ht, hx⟩ := hbody cdv A outer s H E hr
    obtain ⟨dt, hrf, hd⟩ := hx PX
    refine ⟨t, ht, hrf ⟨G, H⟩ da G _ _ H _ (endsD P') ⟨fun G1 δ σ H1 R p => k _ _ _ _ R.toTrn .non p, fun _ _ _ _ _ p => p.elim, fun _ _ _ _ _ p => p.elim, fun d v G1 H1 T r p => k d v G1 H1 T r p, fun ds a xs G1 H1 T ha ga ea na r p => ?_, fun _ _ _ _ _ _ _ _ _ _ _ _ _ _ _ _ p => p.elim⟩ ⟨start_rel ex dl ra, kwE_xo kx⟩ (hd ds P' hS)⟩
    obtain ⟨T2, r2⟩ := give T ha ga ea na r
    exact k _ _ _ _ T2 r2 p
theorem okNX {x qual : Str} {st : Stmt} {f : Addr} {fd : FuncData} {N ps : List Str} {k : Nat} {S : SpecNX} {dv : List V} {kv : List (Str × V)} (F : FunD K x qual (defArgs st) (defBody st) (defScope st) dv kv f fd) (Sc : FnScope N ps (defScope st)) (len : ∀ ds P PX, S ds P PX → ds.length = ps.length)
    (hbody : ∀ (cdv : Value) (A : Around) (outer : List PySem.Env) (s : Shared) (H : Hp) (E : XK), Room k (A.deeper (envOfC qual (defScope st) s.heap.objs.size f cdv)) →
      ∃ t, PSs (cxOf (L2.CX P w) P w K mg base N qual (defScope st) f cdv A outer s H E) (defBody st) t ∧ ∀ PX, ∃ dt, RfS (kwE K E PX) t dt ∧ ∀ ds P, S ds P PX → dt (endsN P) (env0 N ds)) : FnOk P w K mg base (L2.CX P w) (k + 1) f fd ps (spNX K S) := by
  refine F.ok Sc (fun vs H Q E h => ?_) (fun cdv A outer s H vs Q E hr h => ?_)
  · obtain ⟨G, da, ds, P', PX, ex, dl, ra, hS, k, kx⟩ := h
    rw [← ra.length]
    exact len ds P' PX hS
  · obtain ⟨G, da, ds, P', PX, ex, dl, ra, hS, k, kx⟩ := h
    obtain ⟨t, ht, hx⟩ := hbody cdv A outer s H E hr
    obtain ⟨dt, hrf, hd⟩ := hx PX
    exact ⟨t, ht, hrf ⟨G, H⟩ da G _ _ H _ (endsN P') ⟨fun _ _ _ _ _ p => p.elim, fun _ _ _ _ _ p => p.elim, fun _ _ _ _ _ p => p.elim, fun _ _ _ _ _ _ p => p.elim, fun ds a xs G1 H1 T ha ga ea na r p => k ds a xs G1 H1 T ha ga ea na r p, fun _ _ _ _ _ _ _ _ _ _ _ _ _ _ _ _ p => p.elim⟩ ⟨start_rel ex dl ra, kwE_xo kx⟩ (hd ds P' hS)⟩
end
end DL

/-! own exceptions over ValueError, LookupError, IndexError -/
namespace DLX
open PySem PySem.W PySem.Calls PyProof.Rows PySem.HandSPX
open PySem.Builtin PySem.Builtin.ObjectAttr
theorem own_cases {T : List Value} (l : List Value) (e : ownThen T l = true) : (∃ c r, l = .ref c :: r ∧ ownThen T r = true) ∨ l = T := by
  unfold ownThen at e
  split at e
  · rename_i c r
    exact .inl ⟨c, r, rfl, e⟩
  · exact .inr (beq_iff_eq.mp e)
structure BaseT (T : List Value) (nid : String) : Prop where
  pass : ∀ self : Value, refuseLoop self "__setattr__" T = pure ()
  obj : T.contains (.type "object") = true
  ne : T.isEmpty = false
  fx : ∃ B iid, ExcBaseFacts B nid iid T
theorem base_ve : BaseT veT "ValueError.__new__" := ⟨fun self => F.store_ValueError.passes self, by decide +kernel, rfl, _, _, F.excBase_ValueError⟩
theorem base_le : BaseT leT "LookupError.__new__" := ⟨fun self => by kernel_rfl, by decide +kernel, rfl, _, _, F.excBase_LookupError⟩
theorem base_ie : BaseT ieT "IndexError.__new__" := ⟨fun self => by kernel_rfl, by decide +kernel, rfl, _, _, F.excBase_IndexError⟩
theorem own_pass {T : List Value} {self : Value} (h : refuseLoop self "__setattr__" T = pure ()) : ∀ l : List Value, ownThen T l = true → refuseLoop self "__setattr__" l = pure () := by
  intro l
  induction l with
  | nil =>
    intro e
    rcases own_cases [] e with ⟨c, r', q, _⟩ | q
    · cases q
    · rw [q]; exact h
  | cons a r ih =>
    intro e
    rcases own_cases (a :: r) e with ⟨c, r', q, h2⟩ | q
    · obtain ⟨rfl, rfl⟩ := List.cons.inj q
      rw [refuseLoop_ref]; exact ih h2
    · rw [q]; exact h
theorem own_has {T : List Value} (X : String) : ∀ l : List Value, ownThen T l = true → l.contains (.type X) = T.contains (.type X) := by
  intro l
  induction l with
  | nil =>
    intro e
    rcases own_cases [] e with ⟨c, r', q, _⟩ | q
    · cases q
    · rw [q]
  | cons a r ih =>
    intro e
    rcases own_cases (a :: r) e with ⟨c, r', q, h2⟩ | q
    · obtain ⟨rfl, rfl⟩ := List.cons.inj q
      rw [List.contains_cons, ih h2]; rfl
    · rw [q]
theorem own_ne {T : List Value} (h : T.isEmpty = false) {l : List Value} (e : ownThen T l = true) : l.isEmpty = false := by
  rcases own_cases l e with ⟨c, r', q, _⟩ | q
  · rw [q]; rfl
  · rw [q]; exact h
section
variable {prog : Program} {w : World} {A : Around} {E : Value → Shared → Prop} {R : Result → Shared → Prop} {hp : Heap} {g : Array GenState} {d : Drawn} {t : Nat} {os : OsState}
theorem osaNew {T : List Value} {nid : String} (BT : BaseT T nid) {K : Frag} {name : Str} {tk : Tok} {v : Value} {x C : Addr} {fv : Array Value} {cd : ClassData}
    (X : K.In hp) (hx : hp.get? x = some { cls := .ref C, data := .fields fv }) (hcd : clsIn K C = some cd) (hm : ownThen T cd.mro = true) (hh : cd.hasDict = true) (ha : findIn K (.ref C) name = some none)
    (hq : ∀ h' tk' dx, (∀ b o, b ≠ x → hp.get? b = some o → h'.get? b = some o) → hp.objs.size ≤ dx → dx ≠ x → h'.get? x = some { cls := .ref C, dict := some dx, data := .fields fv } →
      h'.Ns1 dx (fun y => if y = name then some v else none) → R (.ok (.ret .none)) ⟨h', g, d, tk', os⟩) :
    codeAny (model prog w) A (.call (.builtin "object.__setattr__") ⟨[.ref x, .str name tk, v], []⟩) R ⟨hp, g, d, t, os⟩ := by
  have I : InstAt hp x { cls := .ref C, data := .fields fv } C none := ⟨hx, rfl, rfl, trivial⟩
  have SF := F.store_object
  have ne := own_ne BT.ne hm
  have hob : cd.mro.contains (.type "object") = true := (own_has "object" _ hm).trans BT.obj
  have hxs : x ≠ hp.objs.size := Nat.ne_of_lt (Heap.lt_size hx)

  have sub : Looks (model prog w) hp (isInstance (.ref x) (.type "object")) true := I.type.andThen (looks_mroIn X (by unfold mroIn; rw [hcd, Option.bind_some, if_neg (by rw [ne]; decide), hob]))
  refine codeAny_call_builtin SF.slot.plain SF.entry (@check_slot (model prog w) _ _ ⟨hp, g, d, t, os⟩ "object.__setattr__" "object" "__setattr__" (.ref x) [.str name tk, v] [] _ SF.kind SF.split sub (SF.args (.ref x) (.str name tk) v) ?_)
  have hmr : Looks (model prog w) hp (mroOf (.ref C)) cd.mro := (looks_clsIn X hcd).andThen .now
  have L3 : Looks (model prog w) hp (storeTaker? none) none := .now
  have hcls : Looks (model prog w) hp (classData C) cd := looks_clsIn X hcd
  rw [osa_eq, refuse_eq]
  refine wpAny_bind (wpAny_bind (I.type.at (wpAny_bind (hmr.at ?_))))
  rw [own_pass (BT.pass _) _ hm]
  refine wpAny_pure (wpAny_bind (I.type.at (wpAny_bind ((looks_findIn X ha).at (wpAny_bind (L3.at ?_))))))
  show wpAny _ _ (storeInOwnDict (.ref x) (.ref C) (.str name tk) name v false) _ _ _
  obtain ⟨nm, bs, mro, ns, qn, hd, sn, sb, ab, col, del⟩ := cd
  dsimp only at hh
  subst hh
  unfold storeInOwnDict ownDictForStores
  repeat (first | with_reducible refine store_in_new ?_ ?_ | with_reducible refine wpAny_loadPart_at hx ?_ | with_reducible refine hcls.at ?_ | wp_step)
  · exact ⟨_, #[], _, (Heap.get?_update_ne _ _ _ _ hxs.symm).trans (Heap.get?_push_at rfl rfl), rfl, fun e he => absurd he (by simp), fun _ => rfl⟩
  · intro h' tk' hn' hs
    have hx₁ : (hp.push { cls := .type "dict", data := .dict #[] }).get? x = some { cls := .ref C, data := .fields fv } := Heap.get?_push_of_some _ hx
    refine hq h' tk' hp.objs.size (fun b o hb ho => ?_) (Nat.le_refl _) hxs.symm ?_ hn'
    · exact (hs.2 b (Nat.ne_of_lt (Heap.lt_size ho))).trans ((Heap.get?_update_ne _ _ _ _ hb).trans (Heap.get?_push_of_some _ ho))
    · exact (hs.2 x hxs).trans (Heap.get?_update_self _ hx₁ rfl)
theorem osaOld {T : List Value} {nid : String} (BT : BaseT T nid) {K : Frag} {name : Str} {tk : Tok} {v : Value} {x C dx : Addr} {fv : Array Value} {cd : ClassData} {m0 : Str → Option Value} {nl : List Str}
    (X : K.In hp) (hx : hp.get? x = some { cls := .ref C, dict := some dx, data := .fields fv }) (hns : hp.Ns1 dx m0) (hw : Within m0 nl) (hz : nl.length ≤ 1000) (hcd : clsIn K C = some cd) (hm : ownThen T cd.mro = true) (hh : cd.hasDict = true)
    (ha : findIn K (.ref C) name = some none)
    (hq : ∀ h' tk', (∀ b o, b ≠ dx → hp.get? b = some o → h'.get? b = some o) → h'.Ns1 dx (fun y => if y = name then some v else m0 y) → R (.ok (.ret .none)) ⟨h', g, d, tk', os⟩) :
    codeAny (model prog w) A (.call (.builtin "object.__setattr__") ⟨[.ref x, .str name tk, v], []⟩) R ⟨hp, g, d, t, os⟩ := by
  obtain ⟨oD, esD, epD, hoD, hdD, _⟩ := hns.count hw
  have I : InstAt hp x { cls := .ref C, dict := some dx, data := .fields fv } C (some oD) := ⟨hx, rfl, rfl, hoD⟩
  have SF := F.store_object
  have ne := own_ne BT.ne hm
  have hob : cd.mro.contains (.type "object") = true := (own_has "object" _ hm).trans BT.obj
  have sub : Looks (model prog w) hp (isInstance (.ref x) (.type "object")) true := I.type.andThen (looks_mroIn X (by unfold mroIn; rw [hcd, Option.bind_some, if_neg (by rw [ne]; decide), hob]))
  refine codeAny_call_builtin SF.slot.plain SF.entry (@check_slot (model prog w) _ _ ⟨hp, g, d, t, os⟩ "object.__setattr__" "object" "__setattr__" (.ref x) [.str name tk, v] [] _ SF.kind SF.split sub (SF.args (.ref x) (.str name tk) v) ?_)
  have hmr : Looks (model prog w) hp (mroOf (.ref C)) cd.mro := (looks_clsIn X hcd).andThen .now
  have L3 : Looks (model prog w) hp (storeTaker? none) none := .now
  have hcls : Looks (model prog w) hp (classData C) cd := looks_clsIn X hcd
  rw [osa_eq, refuse_eq]
  refine wpAny_bind (wpAny_bind (I.type.at (wpAny_bind (hmr.at ?_))))
  rw [own_pass (BT.pass _) _ hm]
  refine wpAny_pure (wpAny_bind (I.type.at (wpAny_bind ((looks_findIn X ha).at (wpAny_bind (L3.at ?_))))))
  show wpAny _ _ (storeInOwnDict (.ref x) (.ref C) (.str name tk) name v false) _ _ _
  obtain ⟨nm, bs, mro, ns, qn, hd, sn, sb, ab, col, del⟩ := cd
  dsimp only at hh
  subst hh
  unfold storeInOwnDict ownDictForStores
  repeat (first | with_reducible refine PySem.OEX.store_in_old hns hw hz ?_ | with_reducible refine wpAny_loadPart_at hx ?_ | with_reducible refine hcls.at ?_ | wp_step)
  intro h' tk' hn' hs
  exact hq h' tk' (fun b o hb ho => (hs.2 b hb).trans ho) hn'
end
end DLX
namespace DL
open PySem PySem.Spec PyProof.Rows L2 DLX
structure OexG (K : PySem.W.Frag) (C : Addr) : Prop where
  cls : ∃ T nid nm q N bs bm sn sub ab col dd k0 k1 k2 k3 k5, BaseT T nid ∧ K.lookup C = some (excClassObj nm q C N bs bm true sn sub ab col dd k0 k1 k2 k3 k5 nid) ∧ ownThen T bm = true
  sa : PySem.W.findIn K (.ref C) "__setattr__" = some (some (.builtin "object.__setattr__"))
  exC : PySem.W.subIn K (.ref C) (.type "BaseException") = some true
  tyC : PySem.W.typeIn K (.ref C) = some (.type "type")
  kC : PySem.W.keepIn K (.ref C) = true
section
variable {X : Cx} {pins : List (Addr × Obj)} {σ : L2.St} {H : Hp} {s : Shared} {a C dx : Addr} {f : Str} {y : V} {u : Value} {fs : List (Str × V)} {Q : Unit → Shared → Prop} {E : Value → Shared → Prop} {A : Around}
theorem putNew (T : OexG X.K C) (I : Inv X pins σ H s) (e : H a = some (exo a C none)) (hno : PySem.W.findIn X.K (.ref C) f = some none) (ry : RelV y u)
    (h : ∀ dx s', H dx = none → dx ≠ a → Inv X pins σ (upd (upd H dx (exd dx [(f, y)])) a (exo a C (some dx))) s' → Q () s') : wpAny (model X.prog X.w) A (setAttr (.ref a) f u) Q E s := by
  obtain ⟨T0, nid, nm, q, N, bs, bm, sn, sub, ab, col, dd, k0, k1, k2, k3, k5, BT, hC, hbm⟩ := T.cls
  have hcl : PySem.W.clsIn X.K C = some { name := nm, bases := bs, mro := .ref C :: bm, ns := N, qualname := q, hasDict := true, slotNames := sn, subclasses := sub, abstract := ab, collection := col, hasDel := false } := by unfold PySem.W.clsIn; rw [hC] <;> rfl
  obtain ⟨t1, ho⟩ := exo_at I.hok e
  obtain ⟨hp, g, d, t, os⟩ := s
  refine PySem.W.set_plain I.kIn (ox := { cls := .ref C, dict := none, data := .fields #[.ref t1, .none, .none, .none, .bool false, .none] }) (od := none) ⟨ho, rfl, rfl, trivial⟩ T.sa ?_
  refine osaNew BT I.kIn ho hcl (show ownThen T0 (.ref C :: bm) = true from hbm) rfl hno (fun h' tk' dx k dn dne hx hn => ?_)
  have hnd : H dx = none := I.hok.fresh dn
  have nd : ∀ {b : Addr} {o : Obj}, hp.get? b = some o → b ≠ dx := fun {b o} q => Nat.ne_of_lt (Nat.lt_of_lt_of_le (Heap.lt_size q) dn)
  have na : ∀ {b : Addr}, H b = none → b ≠ a := fun {b} n z => by
    rw [z, e] at n
    cases n
  have Un1 : Un X.fs [] H (upd (upd H dx (exd dx [(f, y)])) a (exo a C (some dx))) hp h' := {
    keep := fun b o q n _ _ => k b o (na n) q
    slot := fun b o q n _ _ => ⟨o.slots, k b o (na n) q⟩
    free := fun b o q n _ => by rw [upd_ne (na n), upd_ne (nd q)]; exact n
    there := fun b o q _ => by
      by_cases hb : b = a
      · exact ⟨_, by rw [hb]; exact hx⟩
      · exact ⟨o, k b o hb q⟩
    tups := fun b xs q => by rw [upd_ne (at_ne e q exo_tup), upd_ne (ne_of_none q hnd)]; exact q
    frzs := fun b o v q => by rw [upd_ne (at_ne e q exo_frz), upd_ne (ne_of_none q hnd)]; exact q
    tbls := fun b ps q => ⟨#[], by rw [upd_ne (at_ne e q exo_tbl), upd_ne (ne_of_none q hnd), q]; simp⟩ }
  refine h dx _ hnd dne (I.un (t' := tk') Un1 fun b o q => ?_)
  by_cases hb : b = a
  · subst hb
    rw [upd_same] at q
    cases q
    exact exo_ok hx
  · rw [upd_ne hb] at q
    by_cases hd : b = dx
    · subst hd
      rw [upd_same] at q
      cases q
      exact exd_ok hn (relO_put (fs := []) ry fun g => True.intro)
    · rw [upd_ne hd] at q
      exact (I.hok b o q).stay (fun c v hc z => k c v (by
          rcases hc with hc | hc
          · rw [hc]
            exact hb
          · exact at_ne e hc exo_own) z)
        (fun c hc => by rw [upd_ne (at_ne e hc exo_own), upd_ne (ne_of_none hc hnd)]; exact hc) (fun c xs hc => by rw [upd_ne (at_ne e hc exo_tup), upd_ne (ne_of_none hc hnd)]; exact hc)
theorem putOld (T : OexG X.K C) (I : Inv X pins σ H s) (e : H a = some (exo a C (some dx))) (ed : H dx = some (exd dx fs)) (hl : fs.length ≤ 900) (hno : PySem.W.findIn X.K (.ref C) f = some none) (ry : RelV y u)
    (h : ∀ s', Inv X pins σ (upd H dx (exd dx ((f, y) :: fs))) s' → Q () s') : wpAny (model X.prog X.w) A (setAttr (.ref a) f u) Q E s := by
  obtain ⟨T0, nid, nm, q, N, bs, bm, sn, sub, ab, col, dd, k0, k1, k2, k3, k5, BT, hC, hbm⟩ := T.cls
  have hcl : PySem.W.clsIn X.K C = some { name := nm, bases := bs, mro := .ref C :: bm, ns := N, qualname := q, hasDict := true, slotNames := sn, subclasses := sub, abstract := ab, collection := col, hasDel := false } := by unfold PySem.W.clsIn; rw [hC] <;> rfl
  obtain ⟨t1, ho⟩ := exo_at I.hok e
  obtain ⟨mA, hns, rel⟩ := exd_at I.hok ed
  have hw := within_of rel
  obtain ⟨hp, g, d, t, os⟩ := s
  obtain ⟨oD, _, _, hoD, _, _⟩ := hns.count hw
  refine PySem.W.set_plain I.kIn (ox := { cls := .ref C, dict := some dx, data := .fields #[.ref t1, .none, .none, .none, .bool false, .none] }) (od := some oD) ⟨ho, rfl, rfl, hoD⟩ T.sa ?_
  refine osaOld BT I.kIn ho hns hw (by rw [List.length_map]; omega) hcl (show ownThen T0 (.ref C :: bm) = true from hbm) rfl hno (fun h' tk' k hn => ?_)
  have hd : ∃ o, h'.get? dx = some o := by
    obtain ⟨o, _, _, e', _⟩ := hn
    exact ⟨o, e'⟩
  exact h _ (I.write (t' := tk') (x := dx) (e := dx) (o := exd dx ((f, y) :: fs)) (by rw [ed]; exact True.intro) (.inl rfl) k hd (exd_ok hn (relO_put ry rel)))
end
def tOstG (K : PySem.W.Frag) (f : Str) (to te : TE) : TS := fun D σ H => te σ H fun y H1 => to σ H1 fun x H2 => ∃ a C : Addr, x = .ref a ∧ OexG K C ∧ PySem.W.findIn K (.ref C) f = some none ∧
  ((H2 a = some (exo a C none) ∧ ∀ dx, H2 dx = none → dx ≠ a → D.nx σ (upd (upd H2 dx (exd dx [(f, y)])) a (exo a C (some dx)))) ∨
    ∃ (dx : Addr) (fs : List (Str × V)), H2 a = some (exo a C (some dx)) ∧ H2 dx = some (exd dx fs) ∧ fs.length ≤ 900 ∧ D.nx σ (upd H2 dx (exd dx ((f, y) :: fs))))
theorem ps_ostG {X : Cx} {o e : Expr} {to te : TE} {f : Str} {p' pos : Pos} (ho : PE X o to) (he : PE X e te) (hs : swapsWith e (some (.Attribute o f p')) pos.line X.env = pure false := by rfl) : PS X (.Assign [.Attribute o f p'] e pos) (tOstG X.K f to te) := by
  refine ⟨fun pins s σ H D I h => ?_⟩
  refine plainObj_wpAny_Assign_Attribute (thn (he.run pins s σ H _ I h) fun v s1 ⟨y, H1, I1, r1, q1⟩ => thn (ho.run pins s1 σ H1 _ I1 q1) fun u s2 ⟨x, H2, I2, r2, a, C, ex, T, hno, q⟩ => ?_) hs
  subst ex
  obtain rfl : u = Value.ref a := r2
  rcases q with ⟨ea, q⟩ | ⟨dx, fs, ea, ed, hl, q⟩
  · exact putNew T I2 ea hno r1 fun dx s' n ne J => ⟨σ, _, J, q dx n ne⟩
  · exact putOld T I2 ea ed hl hno r1 fun s' J => ⟨σ, _, J, q⟩
end DL

/-! own exceptions: made, raised -/
namespace DL
open PySem PySem.Spec PyProof.Rows L2
def spEI (K : PySem.W.Frag) (C : Addr) (n : Nat) (mk : List V → List (Str × V)) : Sp := fun vs H Q _ => ∃ (a : Addr) (ws : List V), vs = .ref a :: ws ∧ ws.length = n ∧ OexG K C ∧ H a = some (exo a C none) ∧
  ∀ d, H d = none → d ≠ a → Q .non (upd (upd H a (exo a C (some d))) d (exd d (mk ws)))
theorem ei0 {K : PySem.W.Frag} {C a d0 : Addr} {z : Str} {σ : L2.St} {H : Hp} {D : Ends} {Q : VK} (hσ : σ[0]? = some (some (.ref a))) (hO : OexG K C) (hw : PySem.W.findIn K (.ref C) "word" = some none) (ha : H a = some (exo a C none))
    (hD : ∀ σ H', D.nx σ H' = Q .non H') (h : ∀ d, H d = none → d ≠ a → Q .non (upd (upd H a (exo a C (some d))) d (exd d [("word", .str z)]))) : tOstG K "word" (tVar 0) (tC (.str z)) D σ H := by
  refine ⟨_, hσ, a, C, rfl, hO, hw, .inl ⟨ha, fun dx hdx nda => ?_⟩⟩
  rw [hD]
  have e : upd (upd H dx (exd dx [("word", V.str z)])) a (exo a C (some dx)) = upd (upd H a (exo a C (some dx))) dx (exd dx [("word", .str z)]) := by
    funext b
    by_cases h1 : b = a
    · subst h1; rw [upd_same, upd_ne (Ne.symm nda), upd_same]
    · by_cases h2 : b = dx
      · subst h2; rw [upd_ne h1, upd_same, upd_same]
      · rw [upd_ne h1, upd_ne h2, upd_ne h2, upd_ne h1]
  rw [e]
  exact h dx hdx nda
theorem ei1 {K : PySem.W.Frag} {C a : Addr} {z f : Str} {v : V} {σ : L2.St} {H : Hp} {D : Ends} {Q : VK} (hσ : σ[0]? = some (some (.ref a))) (hσ1 : σ[1]? = some (some v)) (hO : OexG K C) (hw : PySem.W.findIn K (.ref C) "word" = some none) (hf : PySem.W.findIn K (.ref C) f = some none) (ha : H a = some (exo a C none))
    (hD : ∀ σ H', D.nx σ H' = Q .non H') (h : ∀ d, H d = none → d ≠ a → Q .non (upd (upd H a (exo a C (some d))) d (exd d [(f, v), ("word", .str z)]))) : tSeq (tOstG K "word" (tVar 0) (tC (.str z))) (tOstG K f (tVar 0) (tVar 1)) D σ H := by
  refine ⟨_, hσ, a, C, rfl, hO, hw, .inl ⟨ha, fun dx hdx nda => ?_⟩⟩
  refine ⟨_, hσ1, _, hσ, a, C, rfl, hO, hf, .inr ⟨dx, [("word", .str z)], upd_same, by rw [upd_ne nda, upd_same], by show 1 ≤ 900; decide, ?_⟩⟩
  rw [hD]
  have e : upd (upd (upd H dx (exd dx [("word", V.str z)])) a (exo a C (some dx))) dx (exd dx [(f, v), ("word", .str z)]) = upd (upd H a (exo a C (some dx))) dx (exd dx [(f, v), ("word", .str z)]) := by
    funext b
    by_cases h2 : b = dx
    · subst h2; rw [upd_same, upd_same]
    · rw [upd_ne h2, upd_ne h2]
      by_cases h1 : b = a
      · subst h1; rw [upd_same, upd_same]
      · rw [upd_ne h1, upd_ne h1, upd_ne h2]
  rw [e]
  exact h dx hdx nda
theorem rf_raise {K : KW} {C : Addr} {n : Nat} {mk : List V → List (Str × V)} {mkD : List D → List (Str × D)} {tas : TA} {as : DA} (hO : OexG K C) (hm : ∀ da G ds vs, RpA K da G ds vs → ds.length = n → RpF K da G (mkD ds) (mk vs)) (ha : RfA K tas as) :
    RfS K (fun _ σ H => tMkO C (spEI K C n mk) [] tas σ H fun cls d H' => K.W cls d σ H') (fun D δ => dRaise C mkD K.xs (fun δ P => as δ fun ds δ' => ds.length = n ∧ P ds δ') D δ) := by
  intro e da G δ σ H D Dd E R h
  refine ha e da G δ σ H _ _ R h fun ds δ1 vs G1 H1 R1 e1 r1 ⟨hn, hl, h1⟩ => ⟨by rw [← r1.length]; exact hl, fun a hna => ?_⟩
  refine ⟨a, vs ++ [], rfl, by rw [List.append_nil, ← r1.length]; exact hn, hO, upd_same, fun d hd nda => ⟨rfl, d, mk vs, by rw [upd_ne (Ne.symm nda), upd_same], by rw [upd_same, List.append_nil], ?_, ?_⟩⟩
  · rw [upd_ne nda] at hd
    exact hd
  · have hd1 : H1 d = none := by rw [upd_ne nda] at hd; exact hd
    have e2 : upd (L2.del (upd (upd (upd H1 a (exo a C none)) a (exo a C (some d))) d (exd d (mk (vs ++ [])))) a) d (.xd (mk vs)) = upd H1 d (.xd (mk vs)) := by
      funext b
      by_cases h2 : b = d
      · subst h2; rw [upd_same, upd_same]
      · rw [upd_ne h2, upd_ne h2]
        by_cases h3 : b = a
        · subst h3; rw [L2.del_same]; exact hna.symm
        · rw [L2.del_ne h3, upd_ne h2, upd_ne h3, upd_ne h3]
    rw [e2]
    exact R1.xo C d (mkD ds) (mk vs) G1 δ1 σ _ (R1.toRel0.go (Trn.mine R1.ex R1.dl hd1)) upd_same (hm da G1 ds vs r1 hn) h1
end DL

/-! clauses of several classes, with names -/
namespace DLT
open PySem PySem.W PyProof.Rows
section
variable {M : Model} {K : Frag}
theorem exmT5 {c1 c2 c3 c4 c5 cls : Value} {tp e : Addr} {b : Bool} {h : Heap} (X : K.In h) (LT : Looks M h (typeOf (.ref e)) cls) (hp : h.get? tp = some { cls := .type "tuple", data := .seq [c1, c2, c3, c4, c5].toArray }) (hx : exmAny K cls [c1, c2, c3, c4, c5] = some b) : Looks M h (excMatches (.ref e) (.ref tp)) b := by
  intro A Q E s k₀ q
  obtain ⟨hh, g, d, tk, os⟩ := s
  have k : ∀ b o, h.get? b = some o → hh.get? b = some o := k₀
  have LT0 : Looks M h (isInstance (.ref tp) (.type "tuple")) true := ((Looks.ld hp).andThen .now).andThen (Looks.of_pure isSubtype_tuple_tuple)
  obtain ⟨b1, d1, x1, y1, z1⟩ := exmAny_cons hx
  obtain ⟨e1, S1⟩ := exm_cls (M := M) X x1
  have e1 := e1.keeps k
  have S1 := S1.keeps k
  obtain ⟨b2, d2, x2, y2, z2⟩ := exmAny_cons y1
  obtain ⟨e2, S2⟩ := exm_cls (M := M) X x2
  have e2 := e2.keeps k
  have S2 := S2.keeps k
  obtain ⟨b3, d3, x3, y3, z3⟩ := exmAny_cons y2
  obtain ⟨e3, S3⟩ := exm_cls (M := M) X x3
  have e3 := e3.keeps k
  have S3 := S3.keeps k
  obtain ⟨b4, d4, x4, y4, z4⟩ := exmAny_cons y3
  obtain ⟨e4, S4⟩ := exm_cls (M := M) X x4
  have e4 := e4.keeps k
  have S4 := S4.keeps k
  obtain ⟨b5, d5, x5, y5, z5⟩ := exmAny_cons y4
  obtain ⟨e5, S5⟩ := exm_cls (M := M) X x5
  have e5 := e5.keeps k
  have S5 := S5.keeps k
  have wn : some false = some d5 := y5
  cases wn
  have LT := LT.keeps k
  have LT0 := LT0.keeps k
  have hp' := k _ _ hp
  subst z1 z2 z3 z4 z5
  unfold excMatches
  refine wpAny_bind (LT0.at ?_)
  dsimp only
  rw [if_pos rfl]
  first
    | refine wpAny_bind (wpAny_seqItems hp' rfl ?_)
    | refine wpAny_bind (wpAny_bind (wpAny_seqItems hp' rfl (wpAny_pure ?_)))
  dsimp only [Option.getD_some, Option.getD]
  cases b1 <;> cases b2 <;> cases b3 <;> cases b4 <;> cases b5 <;> ((repeat (first | simp only [List.forIn_cons, List.forIn_nil, Bool.not_true, Bool.false_eq_true, if_false, if_true] | lk)); exact q)
end
end DLT
namespace DL
open PySem PySem.Spec PyProof.Rows L2
theorem fly_keeps {B h h' : Heap} {l : List PySem.Env} {a : Addr} {Z : Obj → Prop} (R : HandSPX.FlyingZ B l a Z h) (k : ∀ b o, h.get? b = some o → h'.get? b = some o) : HandSPX.FlyingZ B l a Z h' := by
  obtain ⟨f1, f2, f3, oe, ws, T, oT, ts, he, hc, hd, h1, hn, hne, hT, hdT, h3⟩ := R
  exact ⟨fun b o q => k b o (f1 b o q), f2, f3.of_keeps fun b o q _ => ⟨o, k b o q, rfl⟩, oe, ws, T, oT, ts, k _ _ he, hc, hd, h1, hn, hne, k _ _ hT, hdT, h3⟩
def ClTest (X : Cx) (e : Expr) (cs : List Value) : Prop := ∀ (a : Addr) (oe : Obj) (pn : List (Addr × Obj)) (σ : L2.St) (H : Hp) (s : Shared) (cls : Value) (b : Bool) (A : Around) (Q : Bool → Shared → Prop) (E : Value → Shared → Prop), Inv (X.suite a ((a, oe) :: pn)) [] σ H s →
  PySem.W.Looks (model X.prog X.w) s.heap (typeOf (.ref a)) cls → PySem.W.exmAny X.K cls cs = some b → (∀ h', (∀ q o, s.heap.get? q = some o → h'.get? q = some o) → Q b { s with heap := h' }) →
  wpAny (model X.prog X.w) (X.A.mark (some (.ref a))) (eval e X.env) (fun c s1 => wpAny (model X.prog X.w) (X.A.mark (some (.ref a))) (excMatches (.ref a) c) Q E s1) E s
theorem ld_cls {X : Cx} {x : Str} {c : Value} {np : Pos} {a : Addr} {oe : Obj} {pn : List (Addr × Obj)} {σ : L2.St} {H : Hp} {s : Shared} {Q : Value → Shared → Prop} {E : Value → Shared → Prop} (hc : Names X x c) (S : Inv (X.suite a ((a, oe) :: pn)) [] σ H s) (q : Q c s) :
    wpAny (model X.prog X.w) (X.A.mark (some (.ref a))) (eval (.Name x np) X.env) Q E s := by
  obtain ⟨hg, hdbg, hm | ⟨hm, hv, hnn⟩⟩ := hc
  · exact ld_glob (X := X.suite a ((a, oe) :: pn)) S hg hm q hdbg
  · exact ld_blt (X := X.suite a ((a, oe) :: pn)) S hg hm hv q hnn hdbg
theorem cl_one {X : Cx} {x : Str} {c : Value} {np : Pos} (hc : Names X x c) : ClTest X (.Name x np) [c] := by
  intro a oe pn σ H s cls b A Q E S LT hx q
  obtain ⟨b1, d1, h1, h2, rfl⟩ := PySem.W.exmAny_cons hx
  have h2' : some false = some d1 := h2
  cases h2'
  refine ld_cls hc S ((PySem.W.exm_one (M := model X.prog X.w) S.kIn LT h1).here ?_)
  have := q s.heap fun _ _ z => z
  rwa [Bool.or_false] at this
theorem cl_tup2 {X : Cx} {x1 x2 : Str} {c1 c2 : Value} {p1 p2 tpos : Pos} {kk : Nat} (n1 : Names X x1 c1) (n2 : Names X x2 c2) : ClTest X (.Tuple [.Name x1 p1, .Name x2 p2] kk tpos) [c1, c2] := by
  intro a oe pn σ H s cls b A Q E S LT hx q
  refine wpAny_Tuple ?_
  refine wpAny_items_cons (ld_cls n1 S ?_)
  refine wpAny_items_cons (ld_cls n2 S ?_)
  refine wpAny_items_nil ⟨by size_fits, ?_⟩
  have kp : ∀ q o, s.heap.get? q = some o → (s.heap.push { cls := .type "tuple", data := .seq [c1, c2].toArray }).get? q = some o := fun _ _ z => Heap.get?_push_of_some _ z
  exact (PySem.W.exm_tup2 (M := model X.prog X.w) (S.kIn.keeps kp) (LT.keeps kp) (Heap.get?_push_size s.heap rfl) hx).here (q _ kp)
theorem cl_tup3 {X : Cx} {x1 x2 x3 : Str} {c1 c2 c3 : Value} {p1 p2 p3 tpos : Pos} {kk : Nat} (n1 : Names X x1 c1) (n2 : Names X x2 c2) (n3 : Names X x3 c3) : ClTest X (.Tuple [.Name x1 p1, .Name x2 p2, .Name x3 p3] kk tpos) [c1, c2, c3] := by
  intro a oe pn σ H s cls b A Q E S LT hx q
  refine wpAny_Tuple ?_
  refine wpAny_items_cons (ld_cls n1 S ?_)
  refine wpAny_items_cons (ld_cls n2 S ?_)
  refine wpAny_items_cons (ld_cls n3 S ?_)
  refine wpAny_items_nil ⟨by size_fits, ?_⟩
  have kp : ∀ q o, s.heap.get? q = some o → (s.heap.push { cls := .type "tuple", data := .seq [c1, c2, c3].toArray }).get? q = some o := fun _ _ z => Heap.get?_push_of_some _ z
  exact (PySem.W.exm_tup3 (M := model X.prog X.w) (S.kIn.keeps kp) (LT.keeps kp) (Heap.get?_push_size s.heap rfl) hx).here (q _ kp)
theorem cl_tup4 {X : Cx} {x1 x2 x3 x4 : Str} {c1 c2 c3 c4 : Value} {p1 p2 p3 p4 tpos : Pos} {kk : Nat} (n1 : Names X x1 c1) (n2 : Names X x2 c2) (n3 : Names X x3 c3) (n4 : Names X x4 c4) : ClTest X (.Tuple [.Name x1 p1, .Name x2 p2, .Name x3 p3, .Name x4 p4] kk tpos) [c1, c2, c3, c4] := by
  intro a oe pn σ H s cls b A Q E S LT hx q
  refine wpAny_Tuple ?_
  refine wpAny_items_cons (ld_cls n1 S ?_)
  refine wpAny_items_cons (ld_cls n2 S ?_)
  refine wpAny_items_cons (ld_cls n3 S ?_)
  refine wpAny_items_cons (ld_cls n4 S ?_)
  refine wpAny_items_nil ⟨by size_fits, ?_⟩
  have kp : ∀ q o, s.heap.get? q = some o → (s.heap.push { cls := .type "tuple", data := .seq [c1, c2, c3, c4].toArray }).get? q = some o := fun _ _ z => Heap.get?_push_of_some _ z
  exact (PySem.W.exm_tup4 (M := model X.prog X.w) (S.kIn.keeps kp) (LT.keeps kp) (Heap.get?_push_size s.heap rfl) hx).here (q _ kp)
theorem cl_tup5 {X : Cx} {x1 x2 x3 x4 x5 : Str} {c1 c2 c3 c4 c5 : Value} {p1 p2 p3 p4 p5 tpos : Pos} {kk : Nat} (n1 : Names X x1 c1) (n2 : Names X x2 c2) (n3 : Names X x3 c3) (n4 : Names X x4 c4) (n5 : Names X x5 c5) : ClTest X (.Tuple [.Name x1 p1, .Name x2 p2, .Name x3 p3, .Name x4 p4, .Name x5 p5] kk tpos) [c1, c2, c3, c4, c5] := by
  intro a oe pn σ H s cls b A Q E S LT hx q
  refine wpAny_Tuple ?_
  refine wpAny_items_cons (ld_cls n1 S ?_)
  refine wpAny_items_cons (ld_cls n2 S ?_)
  refine wpAny_items_cons (ld_cls n3 S ?_)
  refine wpAny_items_cons (ld_cls n4 S ?_)
  refine wpAny_items_cons (ld_cls n5 S ?_)
  refine wpAny_items_nil ⟨by size_fits, ?_⟩
  have kp : ∀ q o, s.heap.get? q = some o → (s.heap.push { cls := .type "tuple", data := .seq [c1, c2, c3, c4, c5].toArray }).get? q = some o := fun _ _ z => Heap.get?_push_of_some _ z
  exact (DLT.exmT5 (M := model X.prog X.w) (S.kIn.keeps kp) (LT.keeps kp) (Heap.get?_push_size s.heap rfl) hx).here (q _ kp)
end DL

/-! try with many clauses `except .. as n` -/
namespace DL
open PySem PySem.Spec PyProof.Rows L2
def wCl (K : PySem.W.Frag) (i : Nat) (Wout : WX) (D : Ends) : List (List Value × (Addr → Value → Option Addr → TS)) → WX
  | [] => Wout
  | (cs, ts) :: r => fun cls d σ H => ∃ b, PySem.W.exmAny K cls cs = some b ∧
      (b = true → ∀ a, H a = none → ts a cls d { nx := fun σ' H' => D.nx (σ'.set i none) H', rt := D.rt, bk := fun σ' H' => D.bk (σ'.set i none) H', ct := fun σ' H' => D.ct (σ'.set i none) H' } (σ.set i (some (.ref a))) H) ∧
      (b = false → wCl K i Wout D r cls d σ H)
inductive ClsOk (X : Cx) (n : Str) : List ExceptHandler → List (List Value × (Addr → Value → Option Addr → TS)) → Prop
  | nil : ClsOk X n [] []
  | cons {e : Expr} {cs : List Value} {ts : Addr → Value → Option Addr → TS} {b₀ : Stmt} {suite : List Stmt} {pos' : Pos} {hds : List ExceptHandler} {l : List (List Value × (Addr → Value → Option Addr → TS))} (hc : ClTest X e cs)
      (hsu : ∀ (a : Addr) (oe : Obj) (cls : Value) (d : Option Addr) (pn : List (Addr × Obj)), Zc cls d oe → (∃ vs, oe.data = .fields vs) → PSs (X.suite a ((a, oe) :: pn)) (b₀ :: suite) (ts a cls d)) (r : ClsOk X n hds l) :
      ClsOk X n (.ExceptHandler (some e) (some n) (b₀ :: suite) pos' :: hds) ((cs, ts) :: l)
section
variable {X : Cx} {n : Str} {i : Nat} {body : List Stmt} {h₀ : ExceptHandler} {hds : List ExceptHandler} {l : List (List Value × (Addr → Value → Option Addr → TS))} {pos : Pos} {tb : WX → TS} {Wout : WX}
theorem ps_try_cl (hs : X.stack = X.env :: X.outer) (hf : X.env.frame = some X.env.locals) (hN : X.N.Nodup) (hi : X.N[i]? = some n) (hln : X.env.kindOf n = some .local) (tk : Takes X Wout)
    (hb : ∀ (W : WX) (pn : List (Addr × Obj)) (xe : Value → Shared → Prop), Takes (X.tr pn xe) W → PassesOwn (model X.prog X.w) X.A X.env xe → PSs (X.tr pn xe) body (tb W))
    (hh : ClsOk X n (h₀ :: hds) l) : PS X (.Try body (h₀ :: hds) [] [] pos) (fun D σ H => tb (wCl X.K i Wout D l) D σ H) := by
  refine ⟨fun pins s σ H D I h => ?_⟩
  have ok := I.ok
  have hfr : X.A.frames = some (X.env :: X.outer) := by rw [ok.frames, hs]
  have hloc : Loc X.env.scope n := .inl hln
  refine wpAny_Try_except ?_
  refine wpAny_mono ((hb (wCl X.K i Wout D l) (X.pn ++ pins) (fun e s₁ => wpAny (model X.prog X.w) X.A (noteFrame e X.env) (fun _ s₂ => wpAny (model X.prog X.w) X.A (setFlight e none) (fun _ s₃ =>
    wpAny (model X.prog X.w) X.A (handleBy e X.env (h₀ :: hds)) (SP X pins D) X.xe s₃) X.xe s₂) X.xe s₁) (fun u s' xx => ?_) PassesOwn.looking).run [] s σ H D (I.toTry _) h) (fun f s1 hsp => ?_) (fun e s1 he => he)
  · obtain ⟨a, B, sI, pins', σ', H', cls, d, rfl, J', nb, up, sky, na, os, ag, w⟩ := xx
    have J : Inv X pins σ' H' sI := J'.ofTry ok
    have sky' : Sky B (X.env :: X.outer) a (Zc cls d) X.env.locals s'.heap := by rw [← hs]; exact sky
    show wpAny (model X.prog X.w) X.A (noteFrame (.ref a) X.env) _ _ _
    refine Sky.land Zc.steady hfr hf sky' fun h3 fl3 up3 => ?_
    have up30 := up.trans up3
    clear up3
    have go : ∀ {hds' : List ExceptHandler} {l' : List (List Value × (Addr → Value → Option Addr → TS))}, ClsOk X n hds' l' → wCl X.K i Wout D l' cls d σ' H' → ∀ h3, HandSPX.FlyingZ B (X.env :: X.outer) a (Zc cls d) h3 → sI.heap.UpToSlots h3 →
        wpAny (model X.prog X.w) X.A (handleBy (.ref a) X.env hds') (SP X pins D) X.xe { s' with heap := h3 } := by
      intro hds' l' hk
      induction hk with
      | nil =>
        intro w h3 fl3 up3
        refine wpAny_handleBy_nil ?_
        obtain ⟨k1, k2, k3, oe, vs, T, oT, ts', he, hz, hd, h1, hr⟩ := id fl3
        unfold PySem.passOn
        refine wpAny_bind (wpAny_field he hd h1 ?_)
        rw [if_neg (show ¬ ((Value.ref T == Value.none) = true) from by simp)]
        have fin : wpAny (model X.prog X.w) X.A (setFlight (.ref a) X.env.frame) (fun _ s4 => wpAny (model X.prog X.w) X.A (throw (.ref a) : Sem Flow) (SP X pins D) X.xe s4) X.xe { s' with heap := h3 } := by
          rw [hf]
          refine HandSPX.setFlight_upZ fl3 fun h4 hh4 up4 => wpAny_throw (tk _ _ ?_)
          exact ⟨a, B, sI, pins, σ', H', cls, d, rfl, J, nb, up3.trans up4, .inr (.inr (by rw [hs]; exact hh4)), na, os, ag, w⟩
        first
          | exact wpAny_bind (wpAny_pure (wpAny_bind fin))
          | exact wpAny_bind fin
      | @cons e cs ts b₀ suite pos' hds2 l2 hc hsu r ih =>
        intro w h3 fl3 up3
        obtain ⟨b, hb1, hyes, hno⟩ := w
        have J3 : Inv X pins σ' H' { s' with heap := h3 } := J.landed nb fl3.1 up3 os ag
        obtain ⟨oe3, vs3, he3, hz3, hd3⟩ := fl3.there
        have notFr : ∀ {h : Heap} {o : Obj} {vs : Array Value}, h.FunFrames B (X.env :: X.outer) → h.get? a = some o → o.data = .fields vs → a ∉ frs (X.env :: X.outer) := fun {h o vs} ff e dd hm => by
          obtain ⟨_, o', e', hnf⟩ := ff.mem hm
          rw [e] at e'; cases e'
          exact hnf _ dd
        have nfr := notFr fl3.2.2.1 he3 hd3
        have nL : a ≠ X.env.locals := fun z => nfr (List.mem_filterMap.mpr ⟨X.env, List.mem_cons_self, by rw [hf, z]⟩)
        have nF : a ∉ X.fs := fun hm => by
          obtain ⟨e, he, q⟩ := List.mem_filterMap.mp hm
          exact nfr (List.mem_filterMap.mpr ⟨e, List.mem_cons_of_mem _ he, q⟩)
        have S3 := J3.suite he3 hd3 na nL nF
        refine wpAny_handleBy_cons (codeAny_handlers_test ?_) (by intro q; cases q)
        have LT : PySem.W.Looks (model X.prog X.w) h3 (typeOf (.ref a)) cls := fun A Q E s k q => wpAny_typeOf_ref (k _ _ he3) (by rw [hz3.1]; exact q)
        refine hc a oe3 (X.pn ++ pins) σ' H' { s' with heap := h3 } cls b X.A _ _ S3 LT hb1 fun h5 kp => ?_
        have fl5 := fly_keeps fl3 kp
        have up5 : sI.heap.UpToSlots h5 := up3.trans (Heap.UpToSlots.of_keeps kp)
        cases b with
        | true =>
          refine codeAny_handlers_suite_as ?_
          refine HandSPX.lands_againZ fl5 fun h4 fl4 up4 => ?_
          have J4 : Inv X pins σ' H' { s' with heap := h4 } := J.landed nb fl4.1 (up5.trans up4) os ag
          obtain ⟨oe4, vs4, he4, hz4, hd4⟩ := fl4.there
          have S4 := J4.suite he4 hd4 na nL nF
          refine store_ok (X := X.suite a ((a, oe4) :: (X.pn ++ pins))) (v := .ref a) S4 hN hi hloc rfl (fun s5 S5 => ?_) (.inr hln)
          refine wpAny_mono ((hsu a oe4 cls d (X.pn ++ pins) hz4 ⟨_, hd4⟩).run [] s5 _ H' _ S5 (hyes rfl a na)) (fun f s6 hsp => ?_) (fun _ _ z => False.elim z)
          have end_ : ∀ {σ6 : L2.St} {H6 : Hp} {Q : Shared → Prop}, Inv (X.suite a ((a, oe4) :: (X.pn ++ pins))) [] σ6 H6 s6 → (∀ s7, Inv X pins (σ6.set i none) H6 s7 → Q s7) →
              wpAny (model X.prog X.w) X.A (do bindName X.env n .none; unbindBehindTheSuite X.env n pos') (fun _ s7 => Q s7) X.xe s6 := fun {σ6 H6 Q} S6 hq => gone_ok (S6.unsuite ok) hN hi hln hq
          cases f with
          | next =>
            obtain ⟨σ6, H6, S6, q6⟩ := hsp
            exact end_ S6 fun s7 J7 => ⟨_, _, J7, q6⟩
          | brk =>
            obtain ⟨σ6, H6, S6, q6⟩ := hsp
            exact end_ S6 fun s7 J7 => ⟨_, _, J7, q6⟩
          | cont =>
            obtain ⟨σ6, H6, S6, q6⟩ := hsp
            exact end_ S6 fun s7 J7 => ⟨_, _, J7, q6⟩
          | ret u =>
            obtain ⟨v6, σ6, H6, S6, r6, q6⟩ := hsp
            exact end_ S6 fun s7 J7 => ⟨_, _, _, J7, r6, q6⟩
        | false =>
          show wpAny _ X.A (handleBy (.ref a) X.env hds2) _ _ _
          exact ih (hno rfl) h5 fl5 up5
    exact go hh w h3 fl3 up30
  · cases f with
    | next =>
      obtain ⟨σ', H', J', q⟩ := hsp
      exact wpAny_execs_nil ⟨σ', H', J'.ofTry ok, q⟩
    | brk =>
      obtain ⟨σ', H', J', q⟩ := hsp
      exact ⟨σ', H', J'.ofTry ok, q⟩
    | cont =>
      obtain ⟨σ', H', J', q⟩ := hsp
      exact ⟨σ', H', J'.ofTry ok, q⟩
    | ret u =>
      obtain ⟨v, σ', H', J', r, q⟩ := hsp
      exact ⟨v, σ', H', J'.ofTry ok, r, q⟩
end
end DL

/-! a caught exception's field, its class not told beforehand -/
namespace DL
open PySem PySem.Spec PyProof.Rows L2
def tXfs (K : PySem.W.Frag) (a : Addr) (cls : Value) (d : Option Addr) (f : Str) (te : TE) : TE := fun σ H Q => te σ H fun x H1 => x = .ref a ∧ ∃ (C dd : Addr) (fs : List (Str × V)) (v : V), cls = .ref C ∧ XfC K C ∧ PySem.W.findIn K (.ref C) f = some none ∧ d = some dd ∧ H1 dd = some (.xd fs) ∧ fs.lookup f = some v ∧ Q v H1
theorem pe_xfs {X : Cx} {a : Addr} {oe : Obj} {cls : Value} {d : Option Addr} {pn : List (Addr × Obj)} {e : Expr} {te : TE} {pos : Pos} {n : Str}
    (hz : Zc cls d oe) (hf : ∃ vs, oe.data = .fields vs) (he : PE (X.suite a ((a, oe) :: pn)) e te) (hb : attributeBase e n X.env (eval e X.env) = eval e X.env := by rfl) :
    PE (X.suite a ((a, oe) :: pn)) (.Attribute e n pos) (tXfs X.K a cls d n te) := by
  refine ⟨fun pins s σ H Q I h => ?_⟩
  refine attr_of hb (thn (he.run pins s σ H _ I h) fun u s1 hh => ?_)
  obtain ⟨x, H1, I1, rx, ex, C, dd, fs, v, ec, T, hno, ed, ea, l, q⟩ := hh
  subst ex
  obtain rfl : u = Value.ref a := rx
  subst ec
  subst ed
  obtain ⟨ha, _⟩ := I1.pin (a, oe) (List.mem_append_left _ List.mem_cons_self)
  obtain ⟨vs, hd⟩ := hf
  have hx : ObjOk X.prog X.w H1 s1.heap dd (.xd fs) := I1.hok dd _ ea
  obtain ⟨mA, hns, hr⟩ := hx
  obtain ⟨od, ho, hl⟩ := lookIn_ns hns
  obtain ⟨u, hu, ru⟩ := RelO.some_of (v := v) (o := mA n) (by rw [← l]; exact hr n)
  have J : PySem.W.InstAt s1.heap a oe C (some od) := ⟨ha, hz.1, by unfold PySem.W.notCls; rw [hd] <;> rfl, by rw [hz.2]; exact ho⟩
  exact HandSPX.exc_get I1.kIn J T.ga T.gg T.exC (PySem.W.findObj_own T.hdC hno rfl (by rw [hl, hu])) (handed_of ru) ⟨v, H1, I1.tok _, ru, q⟩
end DL

/-! raising calls in a body without try: what leaves there leaves the def -/
namespace DL
open PySem PySem.Spec PyProof.Rows L2
theorem pass_of {X : Cx} {E : XK} (tk : Takes X (fun c d _ H => E c d H)) : Passes (L2.CX X.prog X.w) X E := fun pins σ H s e s' I c => passAt tk σ pins H s e s' I c
section
variable {K : PySem.W.Frag} {E : XK} {PX : Addr → List (Str × D) → Prop} {ta : TE} {a : DE} {tas : TA} {as : DA}
theorem Rel.excE {e : En} {da : Option Addr} {G H : Hp} {δ : Env} {σ : L2.St} (R : Rel (kwE K E PX) e da G δ σ H) : ExcOf K da G H PX E := fun C dd fs gs G' H' T hd r px =>
  R.xo C dd fs gs G' δ σ H' (R.toRel0.go T) hd r px
def dCallE (S : SpecX) (PX : Addr → List (Str × D) → Prop) (as : DA) : DE := fun δ P => as δ fun ds δ' => S ds (fun d => P d δ') PX
theorem rf_callE {S : SpecX} (ha : RfA (kwE K E PX) tas as) : RfE (kwE K E PX) (tCall (spX K S) [] E tas) (dCallE S PX as) := by
  intro e da G δ σ H P Q R h k
  refine ha e da G δ σ H _ _ R h fun ds δ1 vs G1 H1 R1 e1 r1 h1 => ?_
  rw [List.append_nil]
  exact ⟨G1, da, ds, _, _, R1.ex, R1.dl, r1, h1, fun d v G' H' T r p => k _ _ _ _ _ (R1.go T) (e1.trans T.eg) r p, R1.excE⟩
def dMethE (C : Addr) (m : Str) (S : SpecX) (PX : Addr → List (Str × D) → Prop) (a : DE) (as : DA) : DE := fun δ P => a δ fun x δ1 => ∃ fs, x = .obj C fs ∧ fs.lookup m = none ∧ as δ1 fun ds δ2 => S (x :: ds) (fun d => P d δ2) PX
theorem rf_methE {C : Addr} {m : Str} {S : SpecX} (ha : RfE (kwE K E PX) ta a) (hs : RfA (kwE K E PX) tas as) : RfE (kwE K E PX) (tMeth C m (spX K S) [] E ta tas) (dMethE C m S PX a as) := by
  intro e da G δ σ H P Q R h k
  refine ha e da G δ σ H _ _ R h fun x δ1 v G1 H1 R1 e1 r1 ⟨fs, ex, hno, h1⟩ => ?_
  subst ex
  cases r1 with
  | obj hG rF =>
    refine ⟨_, _, _, rfl, R1.ex _ _ hG, rF.no hno, ?_⟩
    refine hs e da G1 δ1 σ H1 _ _ R1 h1 fun ds δ2 vs G2 H2 R2 e2 r2 h2 => ?_
    rw [List.append_nil]
    exact ⟨G2, da, _, _, _, R2.ex, R2.dl, .cons (.obj (e2 _ _ hG) (rF.up e2)) r2, h2, fun d v G' H' T r p => k _ _ _ _ _ (R2.go T) ((e1.trans e2).trans T.eg) r p, R2.excE⟩
end
end DL

/-! calls of all shapes; what leaves may hang on the slots -/
namespace DL
open PySem PySem.Spec PyProof.Rows L2
section
variable {K : PySem.W.Frag} {x qual : Str} {params : Arguments} {body : List Stmt} {scope : Scope} {kws : List (Str × V)} {f : Addr} {fd : FuncData} {ps : List Str}
theorem kbP (F : FunD K x qual params body scope [] kws f fd) (n : Nat) (ks : List Str) (g : {α : Type} → List α → List α → List α) (hrel : ∀ {vs zs : List V} {us ws : List Value}, Vals vs us → Vals zs ws → Vals (g vs zs) (g us ws))
    (h : ∀ (kV doc pm : Value) (an : Option Addr) (cdv ct : Value) (us ws : List Value), us.length = n → ws.length = ks.length → bindArgs (PySem.W.fnOf x qual params body scope .none kV doc pm an cdv ct) ⟨us, ks.zip ws⟩ = pure (ps.zip (g us ws))) : KBn K fd ps n ks g g := by
  obtain ⟨oc, od, dV, kV, doc, pm, an, cdv, ct, osl, rfl, lk, hcd, hD, hK⟩ := F.ex
  rcases hD with ⟨_, rfl⟩ | ⟨e, _⟩
  · exact ⟨fun s us ws _ l1 l2 => .of_eq (h kV doc pm an cdv ct us ws l1 l2), hrel⟩
  · exact absurd rfl e
end
def Bd (K : PySem.W.Frag) (fd : FuncData) (ps : List Str) (n : Nat) (ks : List Str) (gV : List V → List V → List V) : Prop := ∃ g, KBn K fd ps n ks g gV
def tCallU (n m : Nat) (sp : Sp) (gV : List V → List V → List V) (E : L2.St → XK) (t tk : TA) : TE := fun σ H Q => t σ H fun vs H1 => tk σ H1 fun zs H2 => vs.length = n ∧ zs.length = m ∧ sp (gV vs zs) H2 Q (E σ)
def tMethU (C : Addr) (mt : Str) (n m : Nat) (sp : Sp) (gV : List V → List V → List V) (E : L2.St → XK) (ta : TE) (t tk : TA) : TE := fun σ H Q => ta σ H fun x H1 => ∃ a dx fs, x = .ref a ∧ H1 a = some (.ins C dx fs) ∧ fs.lookup mt = none ∧
  t σ H1 fun vs H2 => tk σ H2 fun zs H3 => vs.length + 1 = n ∧ zs.length = m ∧ sp (gV (x :: vs) zs) H3 Q (E σ)
def tMakeU (C : Addr) (n m : Nat) (sp : Sp) (gV : List V → List V → List V) (E : L2.St → XK) (t tk : TA) : TE := fun σ H Q => t σ H fun vs H1 => tk σ H1 fun zs H2 => vs.length + 1 = n ∧ zs.length = m ∧ ∀ x dx, H2 x = none → H2 dx = none → dx ≠ x →
  sp (gV (.ref x :: vs) zs) (upd (upd H2 dx (.own x)) x (.ins C dx [])) (fun v H3 => v = .non ∧ Q (.ref x) H3) (E σ)
section
variable {X : Cx} {CX : CXT} {k n : Nat} {f C : Addr} {fd : FuncData} {ps ks : List Str} {sp : Sp} {E : L2.St → XK} {x m : Str} {p pos apos : Pos} {e o : Expr} {es : List Expr} {kws : List Keyword} {ta : TE} {t tk : TA} {gV : List V → List V → List V}
theorem run_fnU {pins : List (Addr × Obj)} {σ : L2.St} {H : Hp} {s : Shared} {Q : VK} {us ws : List Value} {vs zs : List V} (F : FnOk X.prog X.w X.K X.mg X.base CX k f fd ps sp) (hr : Room k X.A) (hb : Bd X.K fd ps n ks gV) (hx : PassesAt CX X σ (E σ))
    (I : Inv X pins σ H s) (r : Vals vs us) (rz : Vals zs ws) (l1 : vs.length = n) (l2 : zs.length = ks.length) (h : sp (gV vs zs) H Q (E σ)) : wpAny (model X.prog X.w) X.A (call (.ref f) us (ks.zip ws)) (EP X pins σ Q) X.xe s := by
  obtain ⟨g, hb⟩ := hb
  refine wpAny_call (codeAny_mono (F.run X.A X.stack s H ⟨us, ks.zip ws⟩ (g us ws) (gV vs zs) Q (E σ) hr I.env0 (hb.to s us ws I.kIn (r.length.symm.trans l1) (rz.length.symm.trans l2)) (hb.rel r rz) h) fun r s' hq => ?_)
  cases r with
  | error e => exact hx pins H s e s' I hq
  | ok fl =>
    cases fl with
    | ret u => exact I.after hq
    | next => exact False.elim hq
    | brk => exact False.elim hq
    | cont => exact False.elim hq
theorem pe_callU (F : FnOk X.prog X.w X.K X.mg X.base CX k f fd ps sp) (hr : Room k X.A) (hg : Gl X x) (hm : X.mg x = some (.ref f)) (hk : PySem.W.keepIn X.K (.ref f) = true) (hb : Bd X.K fd ps n ks gV) (hx : ∀ σ, PassesAt CX X σ (E σ))
    (ha : PA X (e :: es) t) (hkw : PK X kws tk) (hall : (backToKw pos (keywordEach kws X.env)).all (·.1.isSome) = true := by rfl) (hks : (backToKw pos (keywordEach kws X.env)).filterMap (·.1) = ks := by rfl)
    (hdb : (x == ("__debug__" : Str)) = false := by decide) (he : starEach (e :: es) X.env = (false, eval e X.env) :: starEach es X.env := by rfl)
    (hpl : ((backTo pos (starEach (e :: es) X.env)).any (·.1) || (backToKw pos (keywordEach kws X.env)).any (·.1.isNone)) = false := by rfl) :
    PE X (.Call (.Name x p) (e :: es) kws pos) (tCallU n ks.length sp gV E t tk) := by
  refine ⟨fun pins s σ H Q I h => ?_⟩
  refine wpAny_Call_Name_kw (ld_glob I hg hm ?_ hdb)
  refine PySem.W.callWith_KW (h₀ := X.base) I.ok.mod.kin hk hall (thn (ha.run pos pins s σ H _ I h) fun us s1 ⟨vs, H1, I1, r, q⟩ => ?_) hpl he
  refine thn (hkw.run pos pins s1 σ H1 _ I1 q) fun ws s2 ⟨zs, H2, I2, rz, l1, l2, q2⟩ => ⟨I2.kIn, ?_⟩
  rw [hks]
  exact run_fnU F hr hb (hx σ) I2 r rz l1 l2 q2
theorem pe_callU0 (F : FnOk X.prog X.w X.K X.mg X.base CX k f fd ps sp) (hr : Room k X.A) (hg : Gl X x) (hm : X.mg x = some (.ref f)) (hk : PySem.W.keepIn X.K (.ref f) = true) (hb : Bd X.K fd ps n ks gV) (hx : ∀ σ, PassesAt CX X σ (E σ))
    (hkw : PK X kws tk) (hall : (backToKw pos (keywordEach kws X.env)).all (·.1.isSome) = true := by rfl) (hks : (backToKw pos (keywordEach kws X.env)).filterMap (·.1) = ks := by rfl)
    (hdb : (x == ("__debug__" : Str)) = false := by decide) (hpl : ((backTo pos (starEach [] X.env)).any (·.1) || (backToKw pos (keywordEach kws X.env)).any (·.1.isNone)) = false := by rfl) :
    PE X (.Call (.Name x p) [] kws pos) (tCallU n ks.length sp gV E tNil tk) := by
  refine ⟨fun pins s σ H Q I h => ?_⟩
  refine wpAny_Call_Name_kw (ld_glob I hg hm ?_ hdb)
  refine PySem.W.callWith_KW0 (h₀ := X.base) I.ok.mod.kin hk hall ?_ hpl
  refine thn (hkw.run pos pins s σ H _ I h) fun ws s2 ⟨zs, H2, I2, rz, l1, l2, q2⟩ => ⟨I2.kIn, ?_⟩
  rw [hks]
  exact run_fnU (us := []) (vs := []) F hr hb (hx σ) I2 .nil rz l1 l2 q2
theorem pe_methU {pl : Sem Bool} (he : PE X o ta) (c : Cls X.K C) (hm : Meth X.K C m f) (F : FnOk X.prog X.w X.K X.mg X.base CX k f fd ps sp) (hr : Room k X.A) (hb : Bd X.K fd ps n ks gV) (hx : ∀ σ, PassesAt CX X σ (E σ)) (ha : PA X (e :: es) t) (hkw : PK X kws tk)
    (hall : (backToKw pos (keywordEach kws X.env)).all (·.1.isSome) = true := by rfl) (hks : (backToKw pos (keywordEach kws X.env)).filterMap (·.1) = ks := by rfl)
    (hst : starEach (e :: es) X.env = (false, eval e X.env) :: starEach es X.env := by rfl) (hpl : ((backTo pos (starEach (e :: es) X.env)).any (·.1) || (backToKw pos (keywordEach kws X.env)).any (·.1.isNone)) = false := by rfl)
    (ht : eval (.Call (.Attribute o m apos) (e :: es) kws pos) X.env = (do
      let ov ← eval o X.env
      standAt apos.atName
      let (f, first) ← holding [ov] (getMethod ov m pl)
      callWith pos f first (backTo pos (starEach (e :: es) X.env)) (backToKw pos (keywordEach kws X.env))) := by rfl) :
    PE X (.Call (.Attribute o m apos) (e :: es) kws pos) (tMethU C m n ks.length sp gV E ta t tk) := by
  refine ⟨fun pins s σ H Q I h => ?_⟩
  refine PySem.W.methodCall_KW (pl := pl) (thn (he.run pins s σ H _ I h) fun u s1 ⟨x, H1, I1, rx, a, dx, fs, ex, ea, l, q⟩ => ?_) ht
  subst ex
  obtain rfl : u = Value.ref a := rx
  refine getmeth_ok I1 ea c hm l ?_
  refine PySem.W.callWith_KW (first := [.ref a]) (h₀ := X.base) I.ok.mod.kin hm.kp hall (thn (ha.run pos pins s1 σ H1 _ I1 q) fun us s2 ⟨vs, H2, I2, r, q2⟩ => ?_) hpl hst
  refine thn (hkw.run pos pins s2 σ H2 _ I2 q2) fun ws s3 ⟨zs, H3, I3, rz, l1, l2, q3⟩ => ⟨I3.kIn, ?_⟩
  rw [hks]
  exact run_fnU (us := .ref a :: us) (vs := .ref a :: vs) F hr hb (hx σ) I3 (.cons rfl r) rz l1 l2 q3
theorem pe_methU0 {pl : Sem Bool} (he : PE X o ta) (c : Cls X.K C) (hm : Meth X.K C m f) (F : FnOk X.prog X.w X.K X.mg X.base CX k f fd ps sp) (hr : Room k X.A) (hb : Bd X.K fd ps n ks gV) (hx : ∀ σ, PassesAt CX X σ (E σ)) (hkw : PK X kws tk)
    (hall : (backToKw pos (keywordEach kws X.env)).all (·.1.isSome) = true := by rfl) (hks : (backToKw pos (keywordEach kws X.env)).filterMap (·.1) = ks := by rfl)
    (hpl : ((backTo pos (starEach [] X.env)).any (·.1) || (backToKw pos (keywordEach kws X.env)).any (·.1.isNone)) = false := by rfl)
    (ht : eval (.Call (.Attribute o m apos) [] kws pos) X.env = (do
      let ov ← eval o X.env
      standAt apos.atName
      let (f, first) ← holding [ov] (getMethod ov m pl)
      callWith pos f first (backTo pos (starEach [] X.env)) (backToKw pos (keywordEach kws X.env))) := by rfl) :
    PE X (.Call (.Attribute o m apos) [] kws pos) (tMethU C m n ks.length sp gV E ta tNil tk) := by
  refine ⟨fun pins s σ H Q I h => ?_⟩
  refine PySem.W.methodCall_KW (pl := pl) (thn (he.run pins s σ H _ I h) fun u s1 ⟨x, H1, I1, rx, a, dx, fs, ex, ea, l, q⟩ => ?_) ht
  subst ex
  obtain rfl : u = Value.ref a := rx
  refine getmeth_ok I1 ea c hm l ?_
  refine PySem.W.callWith_KW0 (first := [.ref a]) (h₀ := X.base) I.ok.mod.kin hm.kp hall ?_ hpl
  refine thn (hkw.run pos pins s1 σ H1 _ I1 q) fun ws s3 ⟨zs, H3, I3, rz, l1, l2, q3⟩ => ⟨I3.kIn, ?_⟩
  rw [hks]
  exact run_fnU (us := [.ref a]) (vs := [.ref a]) F hr hb (hx σ) I3 (.cons rfl .nil) rz l1 l2 q3
theorem run_makeU {pins : List (Addr × Obj)} {σ : L2.St} {H : Hp} {s : Shared} {Q : VK} {us ws : List Value} {vs zs : List V} (M : Mk X.K C f) (F : FnOk X.prog X.w X.K X.mg X.base CX k f fd ps sp) (hr : Room (k + 1) X.A) (hb : Bd X.K fd ps n ks gV) (hx : PassesAt CX X σ (E σ))
    (I : Inv X pins σ H s) (r : Vals vs us) (rz : Vals zs ws) (l1 : vs.length + 1 = n) (l2 : zs.length = ks.length)
    (h : ∀ x dx, H x = none → H dx = none → dx ≠ x → sp (gV (.ref x :: vs) zs) (upd (upd H dx (.own x)) x (.ins C dx [])) (fun v H2 => v = .non ∧ Q (.ref x) H2) (E σ)) :
    wpAny (model X.prog X.w) X.A (call (.ref C) us (ks.zip ws)) (EP X pins σ Q) X.xe s := by
  obtain ⟨g, hb⟩ := hb
  have hq := h (s.heap.objs.size + 1) s.heap.objs.size (I.hok.fresh (Nat.le_succ _)) (I.hok.fresh (Nat.le_refl _)) (Nat.ne_of_lt (Nat.lt_succ_self _))
  have I2 := Inv.made (C := C) I
  have r1 : Vals (V.ref (s.heap.objs.size + 1) :: vs) (Value.ref (s.heap.objs.size + 1) :: us) := .cons rfl r
  have n1 : (Value.ref (s.heap.objs.size + 1) :: us).length = n := by rw [← l1, List.length_cons, ← r.length]
  refine wpAny_call (make_map (f := f) I.kIn M.makes M.init (beq_iff_eq.mp M.fn) (codeAny_mono (F.run _ X.stack _ _ ⟨Value.ref (s.heap.objs.size + 1) :: us, ks.zip ws⟩ (g (Value.ref (s.heap.objs.size + 1) :: us) ws) _ _ (E σ) (hr.make C us (ks.zip ws))
    (I2.env0.make C us (ks.zip ws)) (hb.to _ (Value.ref (s.heap.objs.size + 1) :: us) ws I2.kIn n1 (rz.length.symm.trans l2)) (hb.rel r1 rz) hq) fun r s' hq' => ?_))
  cases r with
  | error e => exact hx pins _ _ e s' I2 hq'
  | ok fl =>
    cases fl with
    | ret u =>
      obtain ⟨v, H', I3, rv, ev, q3⟩ := I2.after hq'
      subst ev
      exact ⟨rv, ⟨V.ref (s.heap.objs.size + 1), H', I3, rfl, q3⟩⟩
    | next => exact False.elim hq'
    | brk => exact False.elim hq'
    | cont => exact False.elim hq'
theorem pe_makeU (M : Mk X.K C f) (F : FnOk X.prog X.w X.K X.mg X.base CX k f fd ps sp) (hr : Room (k + 1) X.A) (hg : Gl X x) (hm : X.mg x = some (.ref C)) (hb : Bd X.K fd ps n ks gV) (hx : ∀ σ, PassesAt CX X σ (E σ)) (ha : PA X (e :: es) t) (hkw : PK X kws tk)
    (hall : (backToKw pos (keywordEach kws X.env)).all (·.1.isSome) = true := by rfl) (hks : (backToKw pos (keywordEach kws X.env)).filterMap (·.1) = ks := by rfl) (hdb : (x == ("__debug__" : Str)) = false := by decide)
    (he : starEach (e :: es) X.env = (false, eval e X.env) :: starEach es X.env := by rfl) (hpl : ((backTo pos (starEach (e :: es) X.env)).any (·.1) || (backToKw pos (keywordEach kws X.env)).any (·.1.isNone)) = false := by rfl) :
    PE X (.Call (.Name x p) (e :: es) kws pos) (tMakeU C n ks.length sp gV E t tk) := by
  refine ⟨fun pins s σ H Q I h => ?_⟩
  refine wpAny_Call_Name_kw (ld_glob I hg hm ?_ hdb)
  refine PySem.W.callWith_KW (h₀ := X.base) I.ok.mod.kin M.kp hall (thn (ha.run pos pins s σ H _ I h) fun us s1 ⟨vs, H1, I1, r, q⟩ => ?_) hpl he
  refine thn (hkw.run pos pins s1 σ H1 _ I1 q) fun ws s2 ⟨zs, H2, I2, rz, l1, l2, q2⟩ => ⟨I2.kIn, ?_⟩
  rw [hks]
  exact run_makeU M F hr hb (hx σ) I2 r rz l1 l2 q2
end
/-! ### who passes what -/
theorem takes0 {X : Cx} : L2.Takes X (fun _ _ _ _ => False) := fun _ _ x => by
  obtain ⟨_, _, _, _, _, _, _, _, _, _, _, _, _, _, _, _, z⟩ := x
  exact z.elim
theorem takesN {X : Cx} {W : WX} (t : L2.Takes X W) : L2N.Takes X W := fun u s' ⟨a, B, sI, pins, σ, H, cls, d, e, I, nb, up, sky, na, os, ag, w⟩ => by
  refine t u s' ⟨a, B, sI, pins, σ, H, cls, d, e, I, nb, up, ?_, na, os, ag, w⟩
  have imp : ∀ {B h : Heap} {l : List PySem.Env} {L : Addr}, HandSPX.HeldZ B l a (L2N.Zn cls d) L h → HandSPX.HeldZ B l a (Zc cls d) L h := fun hh => ⟨hh.1, hh.2.1, hh.2.2.1, L2H.tracedZ_imp (fun o z => z.zc) hh.2.2.2⟩
  rcases sky with ⟨h1, h2, h3, oe, vs, h4, h5, h6⟩ | fl | hh
  · exact .inl ⟨h1, h2, h3, oe, vs, h4, h5.zc, h6⟩
  · exact .inr (.inl (L2H.flyingZ_imp (fun o z => z.zc) fl))
  · exact .inr (.inr (imp hh))
theorem passN {X : Cx} {W : WX} (tk : L2.Takes X W) (σ : L2.St) : PassesAt (L2N.CX X.prog X.w) X σ (WE W σ) := L2N.passAt (takesN tk) σ
theorem passP {X : Cx} {W : WX} (tk : L2.Takes X W) (σ : L2.St) : PassesAt (L2.CX X.prog X.w) X σ (WE W σ) := L2.passAt tk σ
theorem passQ {X : Cx} {W : WX} (σ : L2.St) : PassesAt CX0 X σ (WE W σ) := fun pins H s e s' I c => pass0 pins σ H s e s' I c
end DL

/-! calls of all shapes, over data -/
namespace DL
open PySem PySem.Spec PyProof.Rows L2
def GOk (K : PySem.W.Frag) (gD : List D → List D → List D) (gV : List V → List V → List V) : Prop := ∀ (da : Option Addr) (G : Hp) (ds es : List D) (vs zs : List V), RpA K da G ds vs → RpA K da G es zs → RpA K da G (gD ds es) (gV vs zs)
theorem GOk.fst {K : PySem.W.Frag} : GOk K (fun ds _ => ds) (fun vs _ => vs) := fun _ _ _ _ _ _ r _ => r
theorem GOk.app {K : PySem.W.Frag} : GOk K (fun ds es => ds ++ es) (fun vs zs => vs ++ zs) := fun _ _ _ _ _ _ r s => r.app s
theorem GOk.dfl {K : PySem.W.Frag} {d0 : List D} {v0 : List V} (h : ∀ da G, RpA K da G d0 v0) : GOk K (fun ds _ => ds ++ d0) (fun vs _ => vs ++ v0) := fun da G _ _ _ _ r _ => r.app (h da G)
def spIX (K : PySem.W.Frag) (C : Addr) (S : SpecIX) : Sp := fun vs H Q E => ∃ (G H0 : Hp) (da : Option Addr) (x dx : Addr) (us : List V) (ds : List D) (P : List (Str × D) → Prop) (PX : Addr → List (Str × D) → Prop), vs = .ref x :: us ∧ H = upd (upd H0 dx (.own x)) x (.ins C dx []) ∧ H0 x = none ∧ H0 dx = none ∧ dx ≠ x ∧
  Same G H0 ∧ DealOk K da G H0 ∧ RpA K da G ds us ∧ S ds P PX ∧ (∀ fs gs G' H', Trn K da G H0 G' H' → H' x = some (.ins C dx gs) → H' dx = some (.own x) → G' x = none → G' dx = none → RpF K da G' fs gs → P fs → Q .non H') ∧ ExcOf K da G H0 PX E
section
variable {K : KW} {ta : TE} {a : DE} {tas tks : TA} {as ks : DA} {n m : Nat} {gV : List V → List V → List V} {gD : List D → List D → List D}
def dCallU (S : SpecX) (n m : Nat) (gD : List D → List D → List D) (xs : DXs) (as ks : DA) : DE := fun δ P => as δ fun ds δ1 => ks δ1 fun es δ2 => ds.length = n ∧ es.length = m ∧ S (gD ds es) (fun d => P d δ2) fun C fs => xs C fs δ2
theorem rf_callU {S : SpecX} (hg : GOk K gD gV) (ha : RfA K tas as) (hk : RfA K tks ks) : RfE K (tCallU n m (spX K S) gV (WE K.W) tas tks) (dCallU S n m gD K.xs as ks) := by
  intro e da G δ σ H P Q R h k
  refine ha e da G δ σ H _ _ R h fun ds δ1 vs G1 H1 R1 e1 r1 h1 => ?_
  refine hk e da G1 δ1 σ H1 _ _ R1 h1 fun es δ2 zs G2 H2 R2 e2 r2 ⟨l1, l2, h2⟩ => ⟨by rw [← r1.length]; exact l1, by rw [← r2.length]; exact l2, ?_⟩
  exact ⟨G2, da, _, _, _, R2.ex, R2.dl, hg da G2 _ _ _ _ (r1.up e2) r2, h2, fun d v G' H' T r p => k _ _ _ _ _ (R2.go T) ((e1.trans e2).trans T.eg) r p, R2.exc⟩
def dCallUN (S : SpecNX) (n m : Nat) (gD : List D → List D → List D) (xs : DXs) (as ks : DA) : Env → (List D → Env → Prop) → Prop := fun δ P => as δ fun ds δ1 => ks δ1 fun es δ2 => ds.length = n ∧ es.length = m ∧ S (gD ds es) (fun d => P d δ2) fun C fs => xs C fs δ2
theorem rf_callUN {S : SpecNX} (hg : GOk K gD gV) (ha : RfA K tas as) (hk : RfA K tks ks) : RfN K (tCallU n m (spNX K S) gV (WE K.W) tas tks) (dCallUN S n m gD K.xs as ks) := by
  intro e da G δ σ H P Q R h k
  refine ha e da G δ σ H _ _ R h fun ds δ1 vs G1 H1 R1 e1 r1 h1 => ?_
  refine hk e da G1 δ1 σ H1 _ _ R1 h1 fun es δ2 zs G2 H2 R2 e2 r2 ⟨l1, l2, h2⟩ => ⟨by rw [← r1.length]; exact l1, by rw [← r2.length]; exact l2, ?_⟩
  exact ⟨G2, da, _, _, _, R2.ex, R2.dl, hg da G2 _ _ _ _ (r1.up e2) r2, h2, fun d p xs G' H' T ea gp hp np r q => k _ _ p xs G' (del H' p) H' (R2.go (T.cut hp gp np (.lst ea))) ((e1.trans e2).trans T.eg) del_same (upd_del ea) r q, R2.exc⟩
def dMethU (C : Addr) (mt : Str) (S : SpecX) (n m : Nat) (gD : List D → List D → List D) (xs : DXs) (a : DE) (as ks : DA) : DE := fun δ P => a δ fun x δ0 => ∃ fs, x = .obj C fs ∧ fs.lookup mt = none ∧
  as δ0 fun ds δ1 => ks δ1 fun es δ2 => ds.length + 1 = n ∧ es.length = m ∧ S (gD (x :: ds) es) (fun d => P d δ2) fun C fs => xs C fs δ2
theorem rf_methU {C : Addr} {mt : Str} {S : SpecX} (hg : GOk K gD gV) (hx : RfE K ta a) (ha : RfA K tas as) (hk : RfA K tks ks) : RfE K (tMethU C mt n m (spX K S) gV (WE K.W) ta tas tks) (dMethU C mt S n m gD K.xs a as ks) := by
  intro e da G δ σ H P Q R h k
  refine hx e da G δ σ H _ _ R h fun x δ0 v G0 H0 R0 e0 r0 ⟨fs, ex, hno, h0⟩ => ?_
  subst ex
  cases r0 with
  | obj hG rF =>
    refine ⟨_, _, _, rfl, R0.ex _ _ hG, rF.no hno, ?_⟩
    refine ha e da G0 δ0 σ H0 _ _ R0 h0 fun ds δ1 vs G1 H1 R1 e1 r1 h1 => ?_
    refine hk e da G1 δ1 σ H1 _ _ R1 h1 fun es δ2 zs G2 H2 R2 e2 r2 ⟨l1, l2, h2⟩ => ⟨by rw [← r1.length]; exact l1, by rw [← r2.length]; exact l2, ?_⟩
    exact ⟨G2, da, _, _, _, R2.ex, R2.dl, hg da G2 _ _ _ _ (.cons (.obj ((e1.trans e2) _ _ hG) (rF.up (e1.trans e2))) (r1.up e2)) r2, h2, fun d v G' H' T r p => k _ _ _ _ _ (R2.go T) (((e0.trans e1).trans e2).trans T.eg) r p, R2.exc⟩
def dMethUN (C : Addr) (mt : Str) (S : SpecNX) (n m : Nat) (gD : List D → List D → List D) (xs : DXs) (a : DE) (as ks : DA) : Env → (List D → Env → Prop) → Prop := fun δ P => a δ fun x δ0 => ∃ fs, x = .obj C fs ∧ fs.lookup mt = none ∧
  as δ0 fun ds δ1 => ks δ1 fun es δ2 => ds.length + 1 = n ∧ es.length = m ∧ S (gD (x :: ds) es) (fun d => P d δ2) fun C fs => xs C fs δ2
theorem rf_methUN {C : Addr} {mt : Str} {S : SpecNX} (hg : GOk K gD gV) (hx : RfE K ta a) (ha : RfA K tas as) (hk : RfA K tks ks) : RfN K (tMethU C mt n m (spNX K S) gV (WE K.W) ta tas tks) (dMethUN C mt S n m gD K.xs a as ks) := by
  intro e da G δ σ H P Q R h k
  refine hx e da G δ σ H _ _ R h fun x δ0 v G0 H0 R0 e0 r0 ⟨fs, ex, hno, h0⟩ => ?_
  subst ex
  cases r0 with
  | obj hG rF =>
    refine ⟨_, _, _, rfl, R0.ex _ _ hG, rF.no hno, ?_⟩
    refine ha e da G0 δ0 σ H0 _ _ R0 h0 fun ds δ1 vs G1 H1 R1 e1 r1 h1 => ?_
    refine hk e da G1 δ1 σ H1 _ _ R1 h1 fun es δ2 zs G2 H2 R2 e2 r2 ⟨l1, l2, h2⟩ => ⟨by rw [← r1.length]; exact l1, by rw [← r2.length]; exact l2, ?_⟩
    exact ⟨G2, da, _, _, _, R2.ex, R2.dl, hg da G2 _ _ _ _ (.cons (.obj ((e1.trans e2) _ _ hG) (rF.up (e1.trans e2))) (r1.up e2)) r2, h2, fun d p xs G' H' T ea gp hp np r q => k _ _ p xs G' (del H' p) H' (R2.go (T.cut hp gp np (.lst ea))) (((e0.trans e1).trans e2).trans T.eg) del_same (upd_del ea) r q, R2.exc⟩
def GOkI (K : PySem.W.Frag) (gD : List D → List D → List D) (gV : List V → List V → List V) : Prop := ∀ (da : Option Addr) (G : Hp) (x : V) (ds es : List D) (vs zs : List V), RpA K da G ds vs → RpA K da G es zs → ∃ us, gV (x :: vs) zs = x :: us ∧ RpA K da G (gD ds es) us
theorem GOkI.fst {K : PySem.W.Frag} : GOkI K (fun ds _ => ds) (fun vs _ => vs) := fun _ _ _ _ _ vs _ r _ => ⟨vs, rfl, r⟩
theorem GOkI.app {K : PySem.W.Frag} : GOkI K (fun ds es => ds ++ es) (fun vs zs => vs ++ zs) := fun _ _ _ _ _ vs zs r s => ⟨vs ++ zs, rfl, r.app s⟩
theorem GOkI.dfl {K : PySem.W.Frag} {d0 : List D} {v0 : List V} (h : ∀ da G, RpA K da G d0 v0) : GOkI K (fun ds _ => ds ++ d0) (fun vs _ => vs ++ v0) := fun da G _ _ _ vs _ r _ => ⟨vs ++ v0, rfl, r.app (h da G)⟩
def dMakeU (C : Addr) (S : SpecIX) (n m : Nat) (gD : List D → List D → List D) (xs : DXs) (as ks : DA) : DE := fun δ P => as δ fun ds δ1 => ks δ1 fun es δ2 => ds.length + 1 = n ∧ es.length = m ∧ S (gD ds es) (fun fs => P (.obj C fs) δ2) fun C fs => xs C fs δ2
theorem rf_makeU {C : Addr} {S : SpecIX} (hg : GOkI K gD gV) (ha : RfA K tas as) (hk : RfA K tks ks) : RfE K (tMakeU C n m (spIX K C S) gV (WE K.W) tas tks) (dMakeU C S n m gD K.xs as ks) := by
  intro e da G δ σ H P Q R h k
  refine ha e da G δ σ H _ _ R h fun ds δ1 vs G1 H1 R1 e1 r1 h1 => ?_
  refine hk e da G1 δ1 σ H1 _ _ R1 h1 fun es δ2 zs G2 H2 R2 e2 r2 ⟨l1, l2, h2⟩ => ⟨by rw [← r1.length]; exact l1, by rw [← r2.length]; exact l2, fun x dx hx hdx ne => ?_⟩
  obtain ⟨us, eu, ru⟩ := hg da G2 (.ref x) _ _ _ _ (r1.up e2) r2
  refine ⟨G2, H2, da, x, dx, us, _, _, _, eu, rfl, hx, hdx, ne, R2.ex, R2.dl, ru, h2, fun fs gs G' H' T a1 a2 a3 a4 rF p => ⟨rfl, ?_⟩, R2.exc⟩
  obtain ⟨G3, T2, eg2, rp⟩ := giveI (e := ⟨G2, H2⟩) T a1 a2 a3 a4 ne hx hdx (R2.dl.ne hx) (R2.dl.ne hdx) rF
  exact k _ _ _ G3 H' (R2.go T2) ((e1.trans e2).trans T2.eg) rp p
end
/-! ### bodies -/
section
variable {P : Program} {w : World} {K : PySem.W.Frag} {mg : Str → Option Value} {base : Heap}
theorem okXc {CX : CXT} {x qual : Str} {st : Stmt} {f : Addr} {fd : FuncData} {N ps : List Str} {k : Nat} {S : SpecX} {dv : List V} {kv : List (Str × V)} (F : FunD K x qual (defArgs st) (defBody st) (defScope st) dv kv f fd) (Sc : FnScope N ps (defScope st)) (len : ∀ ds P PX, S ds P PX → ds.length = ps.length)
    (hbody : ∀ (cdv : Value) (A : Around) (outer : List PySem.Env) (s : Shared) (H : Hp) (E : XK) (PX : Addr → List (Str × D) → Prop), Room k (A.deeper (envOfC qual (defScope st) s.heap.objs.size f cdv)) →
      ∃ t dt, PSs (cxOf CX P w K mg base N qual (defScope st) f cdv A outer s H E) (defBody st) t ∧ RfS (kwE K E PX) t dt ∧ ∀ ds P, S ds P PX → dt (endsD P) (env0 N ds)) : FnOk P w K mg base CX (k + 1) f fd ps (spX K S) := by
  refine F.ok Sc (fun vs H Q E h => ?_) (fun cdv A outer s H vs Q E hr h => ?_)
  · obtain ⟨G, da, ds, P', PX, ex, dl, ra, hS, k, kx⟩ := h
    rw [← ra.length]
    exact len ds P' PX hS
  · obtain ⟨G, da, ds, P', PX, ex, dl, ra, hS, k, kx⟩ := h
    obtain ⟨t, dt, ht, hrf, hd⟩ := hbody cdv A outer s H E PX hr
    refine ⟨t, ht, hrf ⟨G, H⟩ da G _ _ H _ (endsD P') ⟨fun G1 δ σ H1 R p => k _ _ _ _ R.toTrn .non p, fun _ _ _ _ _ p => p.elim, fun _ _ _ _ _ p => p.elim, fun d v G1 H1 T r p => k d v G1 H1 T r p, fun ds a xs G1 H1 T ha ga ea na r p => ?_, fun _ _ _ _ _ _ _ _ _ _ _ _ _ _ _ _ p => p.elim⟩ ⟨start_rel ex dl ra, kwE_xo kx⟩ (hd ds P' hS)⟩
    obtain ⟨T2, r2⟩ := give T ha ga ea na r
    exact k _ _ _ _ T2 r2 p
theorem okNXc {CX : CXT} {x qual : Str} {st : Stmt} {f : Addr} {fd : FuncData} {N ps : List Str} {k : Nat} {S : SpecNX} {dv : List V} {kv : List (Str × V)} (F : FunD K x qual (defArgs st) (defBody st) (defScope st) dv kv f fd) (Sc : FnScope N ps (defScope st)) (len : ∀ ds P PX, S ds P PX → ds.length = ps.length)
    (hbody : ∀ (cdv : Value) (A : Around) (outer : List PySem.Env) (s : Shared) (H : Hp) (E : XK) (PX : Addr → List (Str × D) → Prop), Room k (A.deeper (envOfC qual (defScope st) s.heap.objs.size f cdv)) →
      ∃ t dt, PSs (cxOf CX P w K mg base N qual (defScope st) f cdv A outer s H E) (defBody st) t ∧ RfS (kwE K E PX) t dt ∧ ∀ ds P, S ds P PX → dt (endsN P) (env0 N ds)) : FnOk P w K mg base CX (k + 1) f fd ps (spNX K S) := by
  refine F.ok Sc (fun vs H Q E h => ?_) (fun cdv A outer s H vs Q E hr h => ?_)
  · obtain ⟨G, da, ds, P', PX, ex, dl, ra, hS, k, kx⟩ := h
    rw [← ra.length]
    exact len ds P' PX hS
  · obtain ⟨G, da, ds, P', PX, ex, dl, ra, hS, k, kx⟩ := h
    obtain ⟨t, dt, ht, hrf, hd⟩ := hbody cdv A outer s H E PX hr
    exact ⟨t, ht, hrf ⟨G, H⟩ da G _ _ H _ (endsN P') ⟨fun _ _ _ _ _ p => p.elim, fun _ _ _ _ _ p => p.elim, fun _ _ _ _ _ p => p.elim, fun _ _ _ _ _ _ p => p.elim, fun ds a xs G1 H1 T ha ga ea na r p => k ds a xs G1 H1 T ha ga ea na r p, fun _ _ _ _ _ _ _ _ _ _ _ _ _ _ _ _ p => p.elim⟩ ⟨start_rel ex dl ra, kwE_xo kx⟩ (hd ds P' hS)⟩
theorem okIXc {CX : CXT} {x qual : Str} {st : Stmt} {f C : Addr} {fd : FuncData} {N ps : List Str} {k : Nat} {S : SpecIX} {dv : List V} {kv : List (Str × V)} (F : FunD K x qual (defArgs st) (defBody st) (defScope st) dv kv f fd) (Sc : FnScope N ps (defScope st)) (len : ∀ ds P PX, S ds P PX → ds.length + 1 = ps.length)
    (hbody : ∀ (cdv : Value) (A : Around) (outer : List PySem.Env) (s : Shared) (H : Hp) (E : XK) (PX : Addr → List (Str × D) → Prop), Room k (A.deeper (envOfC qual (defScope st) s.heap.objs.size f cdv)) →
      ∃ t dt, PSs (cxOf CX P w K mg base N qual (defScope st) f cdv A outer s H E) (defBody st) t ∧ RfS (kwE K E PX) t dt ∧
        ∀ x dx ds P, S ds P PX → dt (endsI x dx C P) (.ini x dx C [] :: (ds.map .val ++ List.replicate (N.length - (ds.length + 1)) .no))) : FnOk P w K mg base CX (k + 1) f fd ps (spIX K C S) := by
  refine F.ok Sc (fun vs H Q E h => ?_) (fun cdv A outer s H vs Q E hr h => ?_)
  · obtain ⟨G, H0, da, x, dx, us, ds, P', PX, rfl, _, _, _, _, _, _, ra, hS, _⟩ := h
    rw [List.length_cons, ← ra.length]
    exact len ds P' PX hS
  · obtain ⟨G, H0, da, x, dx, us, ds, P', PX, rfl, rfl, hx, hdx, ne, ex, dl, ra, hS, k, kx⟩ := h
    obtain ⟨t, dt, ht, hrf, hd⟩ := hbody cdv A outer s (upd (upd H0 dx (.own x)) x (.ins C dx [])) E PX hr
    have R1 := ini_rel (C := C) (N := N) ex dl hx hdx ne ra
    refine ⟨t, ht, hrf ⟨G, H0⟩ da G _ _ _ _ (endsI x dx C P') ⟨fun G1 δ σ H1 R hp => ?_, fun _ _ _ _ _ p => p.elim, fun _ _ _ _ _ p => p.elim, fun _ _ _ _ _ _ p => p.elim, fun _ _ _ _ _ _ _ _ _ _ _ p => p.elim, fun _ _ _ _ _ _ _ _ _ _ _ _ _ _ _ _ p => p.elim⟩ ⟨R1, kwE_xo kx⟩ (hd x dx ds P' hS)⟩
    obtain ⟨fs, hf, p⟩ := hp
    obtain ⟨A, ⟨gs, rA, ne', _, z1, z2, z3⟩, hA⟩ := R.at hf
    have m1 := hA x (by rw [rA]; exact List.mem_cons_self)
    have m2 := hA dx (by rw [rA]; exact List.mem_cons_of_mem _ List.mem_cons_self)
    exact k fs gs G1 H1 R.toTrn z1 z2 m1.2.2.1 m2.2.2.1 z3 p
end
theorem Rel.still {K : KW} {e : En} {da : Option Addr} {G : Hp} {δ : Env} {σ : L2.St} {H : Hp} (R : Rel K e da G δ σ H) : Rel K.still e da G δ σ H := ⟨R.toRel0, fun _ _ _ _ _ _ _ _ _ _ _ z => z.elim⟩
theorem rf_thru {K : KW} {ts : TS} {s : DS} (hs : RfS K.still ts s) : RfS K ts s := by
  intro e da G δ σ H D Dd E R h
  have bk : ∀ {G δ σ H}, Rel K.still e da G δ σ H → Rel K e da G δ σ H := fun R' => ⟨R'.toRel0, R.xo⟩
  exact hs e da G δ σ H D Dd ⟨fun G δ σ H R => E.nx G δ σ H (bk R), fun G δ σ H R => E.bk G δ σ H (bk R), fun G δ σ H R => E.ct G δ σ H (bk R), E.rt, E.rn, E.rb⟩ R.still h
end DL

/-! own exceptions, their context None -/
namespace DL
open PySem PySem.Spec PyProof.Rows L2
theorem baseOf_ok {nid : String} {T : List Value} (h : baseOf nid = some T) : DLX.BaseT T nid := by
  unfold baseOf at h
  split at h
  · rename_i e; subst e; cases h; exact DLX.base_ve
  · split at h
    · rename_i e; subst e; cases h; exact DLX.base_le
    · split at h
      · rename_i e; subst e; cases h; exact DLX.base_ie
      · cases h
theorem oexB_ok {K : PySem.W.Frag} {C : Addr} (h : oexB K C = true) : OexG K C := by
  unfold oexB at h
  simp only [Bool.and_eq_true, decide_eq_true_eq] at h
  obtain ⟨⟨⟨⟨h1, h2⟩, h3⟩, h4⟩, h5⟩ := h
  refine ⟨?_, h2, h3, h4, h5⟩
  split at h1
  · rename_i t dd cd sl ho
    split at h1
    · rename_i c bm k0 k1 k2 k3 n k5 hm hs
      simp only [Bool.and_eq_true, decide_eq_true_eq, Bool.not_eq_true'] at h1
      obtain ⟨⟨⟨⟨rfl, rfl⟩, hbm⟩, hdel⟩, hdict⟩ := h1
      obtain ⟨nm, bs, mro, ns, qn, hd, sn, sub, ab, col, del⟩ := cd
      dsimp only at hm hdel hdict
      subst hm hdel hdict
      have hsl : sl = #[k0, k1, k2, k3, some (.builtin n), k5] := by
        apply Array.ext'
        simpa using hs
      subst hsl
      cases hB : baseOf n with
      | none => rw [hB] at hbm; cases hbm
      | some T =>
        rw [hB] at hbm
        exact ⟨T, n, nm, qn, ns, bs, bm, sn, sub, ab, col, dd, k0, k1, k2, k3, k5, baseOf_ok hB, ho, hbm⟩
    · cases h1
  · cases h1
structure OexI (K : PySem.W.Frag) (C f : Addr) : Prop extends OexG K C where
  ini : PySem.W.findIn K (.ref C) "__init__" = some (some (.ref f))
  fn : PySem.W.typeIn K (.ref f) = some (.type "function")
section
variable {X : Cx} {pins : List (Addr × Obj)} {σ : L2.St} {H1 H2 : Hp} {Q : XK} {hp hp2 h2 : Heap} {g1 g2 : Array GenState} {d1 d2 : Drawn} {t1 t2 : Nat} {os1 os2 : OsState} {a C d : Addr} {fs : List (Str × V)}
theorem mkN (T : Raises X (.ref C)) (I1 : Inv X pins σ H1 ⟨hp, g1, d1, t1, os1⟩) (ha : hp.objs.size ≤ a) (k : ∀ b o, hp.get? b = some o → hp2.get? b = some o) (un : Un (frs X.stack) [] (upd H1 a (exo a C none)) H2 hp2 h2) (hok : HOk X.prog X.w H2 h2)
    (ho : os2 = os1) (hb : AllBare g2) (ea : H2 a = some (exo a C (some d))) (ed : H2 d = some (exd d fs)) (hd1 : H1 d = none) (q : Q (.ref C) (some d) (upd (L2.del H2 a) d (.xd fs))) : L2N.MkP X pins σ Q (.ref a) ⟨h2, g2, d2, t2, os2⟩ := by
  obtain ⟨t0, G, J, kG, ge, hoe, na⟩ := mk_end0 (d2 := d2) (t2 := t2) I1 ha k un hok ho hb ea ed hd1
  exact ⟨a, _, _, ⟨G, g2, d2, t2, os2⟩, _, .ref C, some d, rfl, J, kG, ge, hoe, ⟨rfl, rfl, fun vs hv => by cases hv; rfl⟩, rfl, rfl, na, rfl, hb, T, q⟩
end
section
variable {X : Cx} {CX : CXT} {x : Str} {C fI : Addr} {k : Nat} {fd : FuncData} {ps : List Str} {sp : Sp} {e : Expr} {es : List Expr} {ta : TA} {p pos : Pos}
theorem call_oexN {pins : List (Addr × Obj)} {σ : L2.St} {H1 : Hp} {s1 : Shared} {Q : XK} {us : List Value} {vs : List V} (T : OexI X.K C fI) (F1 : FnOk X.prog X.w X.K X.mg X.base CX k fI fd ps sp) (hr : Room (k + 1) X.A) (hb : Binds X.K fd ps []) (hx : Passes CX X (fun _ _ _ => False))
    (I1 : Inv X pins σ H1 s1) (r1 : Vals vs us) (hz : vs.length ≤ 1000) (q1 : ∀ a, H1 a = none → sp (.ref a :: (vs ++ [])) (upd H1 a (exo a C none)) (fun v H2 => v = .non ∧ ∃ (d : Addr) (fs : List (Str × V)), H2 a = some (exo a C (some d)) ∧ H2 d = some (exd d fs) ∧ H1 d = none ∧ Q (.ref C) (some d) (upd (L2.del H2 a) d (.xd fs))) (fun _ _ _ => False)) :
    wpAny (model X.prog X.w) X.A (call (.ref C) us) (L2N.MkP X pins σ Q) X.xe s1 := by
  obtain ⟨T0, nid, nm, q, N, bs, bm, sn, sub, ab, col, dd, k0, k1, k2, k3, k5, BT, hC, hbm⟩ := T.cls
  obtain ⟨B0, iid, FB⟩ := BT.fx
  obtain ⟨hp, g, dr, tk, os⟩ := s1
  have hsz : hp.objs.size ≤ hp.objs.size + 1 := Nat.le_succ _
  have hn : H1 (hp.objs.size + 1) = none := I1.hok.fresh hsz
  have hq := q1 (hp.objs.size + 1) hn
  rw [List.append_nil] at hq
  have kk : ∀ b o, hp.get? b = some o → ((hp.push (PySem.W.kdv_tup us)).push (PySem.HandSPX.excO C hp.objs.size)).get? b = some o := fun b o e => Heap.get?_push_of_some _ (Heap.get?_push_of_some _ e)
  have hget : ((hp.push (PySem.W.kdv_tup us)).push (PySem.HandSPX.excO C hp.objs.size)).get? (hp.objs.size + 1) = some (PySem.HandSPX.excO C hp.objs.size) := by heap_get
  have I2 : Inv X pins σ (upd H1 (hp.objs.size + 1) (exo (hp.objs.size + 1) C none)) ⟨(hp.push (PySem.W.kdv_tup us)).push (PySem.HandSPX.excO C hp.objs.size), g, dr, tk, os⟩ :=
    I1.laid (t' := tk) (a := hp.objs.size + 1) (o := exo (hp.objs.size + 1) C none) (h' := (hp.push (PySem.W.kdv_tup us)).push (PySem.HandSPX.excO C hp.objs.size)) kk hsz (exo_ok hget)
  have r2 : Vals (V.ref (hp.objs.size + 1) :: vs) (Value.ref (hp.objs.size + 1) :: us) := .cons rfl r1
  have hl : (Value.ref (hp.objs.size + 1) :: us ++ []).length = ps.length := by
    have e := r2.length
    rw [F1.len _ _ _ _ hq] at e
    rw [List.append_nil]
    exact e.symm
  have hus : us.length ≤ sizeLine := by rw [← Paired.length r1]; exact sz6 (by omega)
  have b2 := hb _ (Value.ref (hp.objs.size + 1) :: us) I2.kIn hl
  rw [List.append_nil] at b2
  refine wpAny_call (PySem.HandSPX.call_own FB (fun Y => DLX.own_has Y bm hbm) (I1.kIn _ _ hC) (PySem.W.looks_findIn I1.kIn T.ini) (fun self => PySem.W.bind_fn I1.kIn self T.fn) hus
    (codeAny_mono (F1.run _ X.stack _ _ ⟨Value.ref (hp.objs.size + 1) :: us, []⟩ (Value.ref (hp.objs.size + 1) :: us) _ _ (fun _ _ _ => False) (hr.make C us []) (I2.env0.make C us []) b2 r2 hq) fun r s' hq' => ?_))
  cases r with
  | error er => exact hx pins σ _ _ er s' I2 hq'
  | ok fl =>
    cases fl with
    | ret u =>
      obtain ⟨v, H2, os2, bare2, un2, hok2, rv, ev, d, fs, ea, ed, hd1, q2⟩ := hq'
      subst ev
      obtain ⟨h2, g2, d2, t2, os'⟩ := s'
      exact ⟨rv, mkN (raises_own T.exC T.tyC) I1 hsz kk un2 hok2 os2 bare2 ea ed hd1 q2⟩
    | next => exact False.elim hq'
    | brk => exact False.elim hq'
    | cont => exact False.elim hq'
theorem pmkN (T : OexI X.K C fI) (F1 : FnOk X.prog X.w X.K X.mg X.base CX k fI fd ps sp) (hr : Room (k + 1) X.A) (hb : Binds X.K fd ps []) (hx : Passes CX X (fun _ _ _ => False)) (hg : Gl X x) (hm : X.mg x = some (.ref C)) (ha : PA X (e :: es) ta)
    (hdb : (x == ("__debug__" : Str)) = false := by decide) (he : starEach (e :: es) X.env = (false, eval e X.env) :: starEach es X.env := by rfl) (hpl : (backTo pos (starEach es X.env)).any (·.1) = false := by rfl) :
    L2N.PMk X (.Call (.Name x p) (e :: es) [] pos) (tMkO C sp [] ta) := by
  intro pins s σ H Q I h
  refine wpAny_Call_Name_kw (ld_glob I hg hm ?_ hdb)
  exact PySem.W.callWith_K (h₀ := X.base) I.ok.mod.kin T.kC (thn (ha.run pos pins s σ H _ I h) fun us s1 ⟨vs, H1, I1, r1, hz, q1⟩ => ⟨I1.kIn, call_oexN T F1 hr hb hx I1 r1 hz q1⟩) he hpl
theorem pmkN0 (T : OexI X.K C fI) (F1 : FnOk X.prog X.w X.K X.mg X.base CX k fI fd ps sp) (hr : Room (k + 1) X.A) (hb : Binds X.K fd ps []) (hx : Passes CX X (fun _ _ _ => False)) (hg : Gl X x) (hm : X.mg x = some (.ref C)) (hdb : (x == ("__debug__" : Str)) = false := by decide) :
    L2N.PMk X (.Call (.Name x p) [] [] pos) (tMkO C sp [] tNil) := by
  intro pins s σ H Q I h
  refine wpAny_Call_Name_kw (ld_glob I hg hm ?_ hdb)
  exact PySem.W.callWith_K0 I.kIn T.kC (call_oexN T F1 hr hb hx I .nil h.1 h.2)
theorem pmkP {t : L2.St → Hp → XK → Prop} (h : L2N.PMk X e t) : L2.PMk X e t := fun pins s σ H Q I q => thn (h pins s σ H Q I q) fun u s' ⟨a, oe, vs, sI, H', cls, d, e1, e2, e3, e4, e5, e6, e7⟩ => ⟨a, oe, vs, sI, H', cls, d, e1, e2, e3, e4, e5, e6.zc, e7⟩
end
/-! ### what an __init__ of these does -/
section
variable {P : Program} {w : World} {K : PySem.W.Frag} {mg : Str → Option Value} {base : Heap}
theorem okE1 {x qual z fld : Str} {st : Stmt} {f C : Addr} {fd : FuncData} {N ps : List Str} {k : Nat} (F : FunD K x qual (defArgs st) (defBody st) (defScope st) [] [] f fd) (Sc : FnScope N ps (defScope st)) (hO : OexG K C) (hw : noA K C "word" = true) (hf : noA K C fld = true) (hl : ps.length = 2)
    (hbody : ∀ (cdv : Value) (A : Around) (outer : List PySem.Env) (s : Shared) (H : Hp) (E : XK), PSs (cxOf CX0 P w K mg base N qual (defScope st) f cdv A outer s H E).nox (defBody st) (tSeq (tOstG K "word" (tVar 0) (tC (.str z))) (tOstG K fld (tVar 0) (tVar 1)))) :
    FnOk P w K mg base CX0 (k + 1) f fd ps (spEI K C 1 fun ws => [(fld, ws.getD 0 .non), ("word", .str z)]) := by
  refine F.ok Sc (fun vs H Q E h => ?_) (fun cdv A outer s H vs Q E hr h => ?_)
  · obtain ⟨a, ws, rfl, hws, _⟩ := h
    rw [List.length_cons, hws, hl]
  · obtain ⟨a, ws, rfl, hws, _, ha, hq⟩ := h
    match ws, hws with
    | [v], _ =>
      refine ⟨_, (hbody cdv A outer s H E).nox, ?_⟩
      exact ei1 (hσ := rfl) (hσ1 := rfl) hO (of_decide_eq_true hw) (of_decide_eq_true hf) ha (fun _ _ => rfl) hq
theorem okE0 {x qual z : Str} {st : Stmt} {f C : Addr} {fd : FuncData} {N ps : List Str} {k : Nat} (F : FunD K x qual (defArgs st) (defBody st) (defScope st) [] [] f fd) (Sc : FnScope N ps (defScope st)) (hO : OexG K C) (hw : noA K C "word" = true) (hl : ps.length = 1)
    (hbody : ∀ (cdv : Value) (A : Around) (outer : List PySem.Env) (s : Shared) (H : Hp) (E : XK), PSs (cxOf CX0 P w K mg base N qual (defScope st) f cdv A outer s H E).nox (defBody st) (tOstG K "word" (tVar 0) (tC (.str z)))) :
    FnOk P w K mg base CX0 (k + 1) f fd ps (spEI K C 0 fun _ => [("word", .str z)]) := by
  refine F.ok Sc (fun vs H Q E h => ?_) (fun cdv A outer s H vs Q E hr h => ?_)
  · obtain ⟨a, ws, rfl, hws, _⟩ := h
    rw [List.length_cons, hws, hl]
  · obtain ⟨a, ws, rfl, hws, _, ha, hq⟩ := h
    match ws, hws with
    | [], _ =>
      refine ⟨_, (hbody cdv A outer s H E).nox, ?_⟩
      exact ei0 (d0 := 0) (hσ := rfl) hO (of_decide_eq_true hw) ha (fun _ _ => rfl) hq
end
def dRaise1 (C : Addr) (z fld : Str) (xs : DXs) (as : DA) : DS := fun _ δ => as δ fun ds δ' => ds.length = 1 ∧ ds.length ≤ 1000 ∧ xs C [(fld, ds.getD 0 .non), ("word", .str z)] δ'
theorem rf_raise1 {K : KW} {C : Addr} {z fld : Str} {tas : TA} {as : DA} (hO : OexG K C) (ha : RfA K tas as) :
    RfS K (fun _ σ H => tMkO C (spEI K C 1 fun ws => [(fld, ws.getD 0 .non), ("word", .str z)]) [] tas σ H fun cls d H' => K.W cls d σ H') (dRaise1 C z fld K.xs as) :=
  rf_raise (K := K) (C := C) (n := 1) (mk := fun ws => [(fld, ws.getD 0 .non), ("word", .str z)]) (mkD := fun ds => [(fld, ds.getD 0 .non), ("word", .str z)]) (as := as) hO (fun da G ds vs r hn => by
    match ds, vs, r, hn with
    | [d], [v], .cons r1 .nil, _ => exact .cons r1 (.cons (.str z) .nil)) ha
def dRaise0 (C : Addr) (z : Str) (xs : DXs) : DS := fun _ δ => xs C [("word", .str z)] δ
theorem rf_raise0 {K : KW} {C : Addr} {z : Str} (hO : OexG K C) :
    RfS K (fun _ σ H => tMkO C (spEI K C 0 fun _ => [("word", .str z)]) [] tNil σ H fun cls d H' => K.W cls d σ H') (dRaise0 C z K.xs) := by
  intro e da G δ σ H D Dd E R h
  exact rf_raise (K := K) (C := C) (n := 0) (mk := fun _ => [("word", .str z)]) (mkD := fun _ => [("word", .str z)]) (as := dNil) hO (fun da G ds vs r hn => .cons (.str z) .nil) rf_nil e da G δ σ H D Dd E R ⟨rfl, by show 0 ≤ 1000; decide, h⟩
end DL

/-! lambdas handed to a def, with defaults too -/
namespace DL
open PySem PySem.Spec PyProof.Rows L2
structure LamStep (K : PySem.W.Frag) (H H1 : Hp) (c : Addr) : Prop where
  tb : ∃ ps0 ps, H (lawT K) = some (.tbl ps0) ∧ H1 (lawT K) = some (.tbl ps) ∧ TriplesOk ps.toList ∧ ∀ (pos : Pos) (cv : Value), codeAmong pos ps.toList = some cv → codeAmong pos ps0.toList = some cv ∨ cv = .ref c
  cd : H1 c = some (LamX.CodeO c lamQ)
  old : H c = none ∨ ∃ (ps : Array Value) (pos : Pos), H (lawT K) = some (.tbl ps) ∧ codeAmong pos ps.toList = some (.ref c)
  rest : ∀ b, b ≠ lawT K → b ≠ c → H1 b = H b
structure LamN (sc scope : Scope) (N ds : List Str) : Prop where
  kind : scope.kind = .function
  co : scope.isCoroutine = false
  gen : scope.isGenerator = false
  own : ∀ y ∈ scope.names, y.2 ≠ .cell ∧ (y.2 = .local → y.1 ∉ N)
  dl : ∀ d ∈ ds, scope.names.lookup d = some .local
  free : ∀ y ∈ scope.names, y.2 = .free → sc.names.lookup y.1 = some .cell ∨ sc.names.lookup y.1 = some .free
def lamNB (sc scope : Scope) (N ds : List Str) : Bool :=
  decide (scope.kind = .function) && !scope.isCoroutine && !scope.isGenerator && (scope.names.all fun y => !decide (y.2 = .cell) && (!decide (y.2 = .local) || !N.contains y.1) && (!decide (y.2 = .free) || decide (sc.names.lookup y.1 = some .cell) || decide (sc.names.lookup y.1 = some .free))) && ds.all fun d => decide (scope.names.lookup d = some .local)
theorem lamN_by {sc scope : Scope} {N ds : List Str} (h : lamNB sc scope N ds = true) : LamN sc scope N ds := by
  unfold lamNB at h
  simp only [Bool.and_eq_true, Bool.or_eq_true, Bool.not_eq_true', decide_eq_true_eq, decide_eq_false_iff_not, List.all_eq_true] at h
  obtain ⟨⟨⟨⟨h1, h2⟩, h3⟩, h4⟩, h5⟩ := h
  refine ⟨h1, h2, h3, fun y hy => ⟨(h4 y hy).1.1, fun e hm => ?_⟩, h5, fun y hy e => ?_⟩
  · rcases (h4 y hy).1.2 with z | z
    · exact z e
    · rw [List.contains_iff_mem.mpr hm] at z
      cases z
  · rcases (h4 y hy).2 with (z | z) | z
    · exact absurd e z
    · exact .inl z
    · exact .inr z
theorem LamN.has {X : Cx} {scope : Scope} {N ds : List Str} (L : LamN X.env.scope scope N ds) (ok : X.Ok) : ∀ y ∈ scope.names, y.2 = .free → ∃ c, X.env.cells.lookup y.1 = some c := fun y hy e => by
  rcases L.free y hy e with k | k
  · exact ok.has _ (.inl k)
  · exact ok.has _ (.inr k)
section
variable {X : Cx} {pins : List (Addr × Obj)} {σ : L2.St} {H : Hp} {s : Shared}
theorem lam_tail {c : Addr} {params : Arguments} {body : Expr} {scope : Scope} {pos : Pos} {dV : Value} {E : Value → Shared → Prop} {Q : Value → Shared → Prop} {ps : Array Value} (I : Inv X pins σ H s) (TB : LamX.TabB X.base X.mg c (lawT X.K)) (hcode : X.env.code = .ref c)
    (hfree : ∀ y ∈ scope.names, y.2 = .free → ∃ c, X.env.cells.lookup y.1 = some c) (hP : H (lawT X.K) = some (.tbl ps)) (ht : TriplesOk ps.toList) (ha : ∀ (pos : Pos) (cv : Value), codeAmong pos ps.toList = some cv → ∃ c, cv = .ref c ∧ H c = some (LamX.CodeO c lamQ))
    (h : ∀ (f c' : Addr) (doc pm ctv : Value) (H1 : Hp) (s' : Shared), Inv X pins σ H1 s' → LamStep X.K H H1 c' → (∀ b o, b ≠ lawT X.K → s.heap.get? b = some o → s'.heap.get? b = some o) →
      s'.heap.get? f = some (PySem.W.kdv_obj "<lambda>" lamQ params (.expr body) scope (cloFrom X.env.cells scope.names []) dV doc pm c' ctv) → H1 f = none → f ∉ frs X.stack → Q (.ref f) s') :
    wpAny (model X.prog X.w) X.A (makeTail "<lambda>" lamQ params (.expr body) scope X.env dV .none none pos pos.line) Q E s := by
  have bP : s.heap.BuiltinsAt X.mg (lawT X.K) := TB.bm.keeps I.bk
  have hP' : s.heap.get? (lawT X.K) = some { cls := .none, data := .fields ps } := I.hok _ _ hP
  have nofr : ∀ f, s.heap.objs.size ≤ f → f ∉ frs X.stack := fun f hf z => by
    rcases List.mem_cons.mp (I.stkSub _ z) with e | e
    · have h1 := I.lt
      rw [← e] at h1
      exact Nat.lt_irrefl _ (Nat.lt_of_lt_of_le h1 hf)
    · exact I.nofs hf e
  cases hc : codeAmong pos ps.toList with
  | none =>
    refine PySem.W.kdv_makeTail (mg := X.mg) (c := c) (P := lawT X.K) (ps := ps) (closure_ok hfree) I.ok.glob (I.mod.glob.keeps I.bk) hcode (TB.code.keeps I.bk) hP' ht hc TB.gP bP fun c' ctv doc h' tk hx hge hlt hrec htb => ?_
    obtain ⟨c2, oc, vs, t, e2, hoc, hd, hv⟩ := hrec
    cases e2
    have hsz : s.heap.objs.size ≤ h'.objs.size := Nat.le_trans hge (Nat.le_of_lt hlt)
    have nC : H c' = none := I.hok.fresh hge
    have I1 := LamX.inv_table (q := lamQ) (t' := tk) (more := #[rawInt pos.line, rawInt pos.col, .ref c']) (h' := h'.push (PySem.W.kdv_obj "<lambda>" lamQ params (.expr body) scope (cloFrom X.env.cells scope.names []) dV doc ((X.mg "__name__").getD .none) c' ctv)) I hP
      (fun b o hb e => Heap.get?_push_of_some _ (hx b o hb e)) (Heap.get?_push_of_some _ htb) hge ⟨oc, vs, t, Heap.get?_push_of_some _ hoc, hd, hv⟩
    have nPc : lawT X.K ≠ c' := ne_of_none hP nC
    have eL : (ps ++ #[rawInt pos.line, rawInt pos.col, .ref c']).toList = ps.toList ++ [rawInt pos.line, rawInt pos.col, .ref c'] := by simp
    refine h h'.objs.size c' doc ((X.mg "__name__").getD .none) ctv _ _ I1 ⟨⟨_, _, hP, by rw [upd_ne nPc, upd_same], by rw [eL]; exact PySem.TriplesOk_snoc _ _ _ _ ht, fun p' cv hcv => ?_⟩, upd_same, .inl nC, fun b h1 h2 => by rw [upd_ne h2, upd_ne h1]⟩ (fun b o hb e => Heap.get?_push_of_some _ (hx b o hb e)) (Heap.get?_push_size _ rfl) ?_ (nofr _ hsz)
    · rw [eL] at hcv
      exact LamX.among_app _ ht hcv
    · have n1 : h'.objs.size ≠ c' := Nat.ne_of_gt hlt
      have n2 : h'.objs.size ≠ lawT X.K := Nat.ne_of_gt (Nat.lt_of_lt_of_le (Heap.lt_size hP') hsz)
      rw [upd_ne n1, upd_ne n2]
      exact I.hok.fresh hsz
  | some cv =>
    obtain ⟨c', e, hco⟩ := ha pos cv hc
    subst e
    refine PySem.W.kdv_makeTailHit (mg := X.mg) (c := c) (P := lawT X.K) (ps := ps) (closure_ok hfree) I.ok.glob (I.mod.glob.keeps I.bk) hcode (TB.code.keeps I.bk) hP' ht hc bP fun ctv doc h' tk hx hsz => ?_
    have I1 : Inv X pins σ H { s with heap := h'.push (PySem.W.kdv_obj "<lambda>" lamQ params (.expr body) scope (cloFrom X.env.cells scope.names []) dV doc ((X.mg "__name__").getD .none) c' ctv), toks := tk } := I.kept fun b o e => Heap.get?_push_of_some _ (hx b o e)
    exact h h'.objs.size c' doc ((X.mg "__name__").getD .none) ctv H _ I1 ⟨⟨ps, ps, hP, hP, ht, fun p' cv hcv => .inl hcv⟩, hco, .inr ⟨ps, pos, hP, hc⟩, fun _ _ _ => rfl⟩ (fun b o _ e => Heap.get?_push_of_some _ (hx b o e)) (Heap.get?_push_size _ rfl) (I.hok.fresh hsz) (nofr _ hsz)
end
section
variable {X : Cx} {pins : List (Addr × Obj)} {σ : L2.St} {H HZ : Hp} {s s1 : Shared}
theorem lam_enter {A : Around} {outer : List PySem.Env} {E : XK} {scope : Scope} {ds : List Str} {binds : List (Str × Value)} {f c' : Addr} {h₁ : Heap} {tk : Nat} (I : Inv X pins σ H s) (L : LamN X.env.scope scope X.N ds) (e0 : Env0 X.prog X.w X.K X.mg X.base A outer s1 HZ) (hd : A.handled = none)
    (un : Un (frs X.stack) [] H HZ s.heap s1.heap) (hns : h₁.Ns s1.heap.objs.size fun y => binds.reverse.lookup y) (kp : ∀ b o, s1.heap.get? b = some o → h₁.get? b = some o) :
    Inv (LamX.lamCx X A outer s1 HZ E scope f c') [] σ HZ { s1 with heap := h₁, toks := tk } := by
  have hfree := L.has I.ok
  have cm : ∀ {y c}, (cloFrom X.env.cells scope.names []).lookup y = some c → X.env.cells.lookup y = some c := fun {y c} e => by
    rcases cloFrom_mem (PySem.mem_of_lookup e) with hm | ⟨h1, h2⟩
    · cases hm
    · obtain ⟨c1, hc⟩ := hfree _ h1 rfl
      have hc : X.env.cells.lookup y = some c1 := hc
      have e2 : c = c1 := by
        rw [h2, hc] <;> rfl
      rw [e2]
      exact hc
  have look : ∀ {y}, scope.names.lookup y = some .free → ∃ c, (cloFrom X.env.cells scope.names []).lookup y = some c := fun {y} hl => by
    have hy : (y, NameKind.free) ∈ scope.names := PySem.mem_of_lookup hl
    exact mem_lookup (cloFrom_has (cells := X.env.cells) (acc := []) hy)
  have cellK : ∀ {c : Addr} {v : Option Value}, H c = none → s.heap.IsCell c v → h₁.IsCell c v := fun {c v} n ⟨o, ho, hd⟩ => by
    obtain ⟨sl, q⟩ := un.any ho n (by simp)
    exact ⟨_, kp _ _ q, hd⟩
  have noA : ∀ b : Addr, b ∉ (LamX.lamCx X A outer s1 HZ E scope f c').ex := fun b z => absurd (show b ∈ ([] : List Addr) from z) (by simp)
  refine ⟨⟨e0.mod, L.kind, rfl, rfl, Nat.le_refl _, fun y z c e1 e2 => I.ok.inj y z c (cm e1) (cm e2), fun y hy => ?_, fun y c z _ => ?_, fun _ => hd, Around.frames_deeper e0.frames, .inr ⟨rfl, rfl⟩, fun b z => absurd z (noA b), e0.bs, e0.bsz, fun b _ _ => noA b,
      fun b z => absurd z (noA b), e0.funs, e0.frf⟩,
    rfl, e0.bare, Un.kept kp, ⟨_, hns, fun i y v e1 e2 e3 => ?_⟩, fun y c e => ?_, e0.hok.fresh (Nat.le_refl _), fun y c e => ?_, fun q hq => absurd (show q ∈ ([] : List (Addr × Obj)) ++ [] from hq) (by simp), e0.hok.kept kp, I.len⟩
  · have hy : scope.names.lookup y = some .cell ∨ scope.names.lookup y = some .free := hy
    rcases hy with hy | hy
    · exact absurd rfl (L.own _ (PySem.mem_of_lookup hy)).1
    · exact look hy
  · have z : false = true := z
    cases z
  · have e3 : Vis scope y := e3
    rcases e3 with k | k | k
    · exact absurd (List.mem_of_getElem? (show X.N[i]? = some y from e1)) ((L.own _ (PySem.mem_of_lookup k)).2 rfl)
    · exact absurd rfl (L.own _ (PySem.mem_of_lookup k)).1
    · obtain ⟨m, hn, hl⟩ := I.loc
      have hvis : Vis X.env.scope y := (L.free _ (PySem.mem_of_lookup k) rfl).elim (fun k => .inr (.inl k)) (fun k => .inr (.inr k))
      obtain ⟨w', r, q⟩ := hl i y v e1 e2 hvis
      obtain ⟨c2, h2⟩ := look k
      refine ⟨w', r, .inr ⟨.inr k, c2, h2, ?_⟩⟩
      have c1 := cm h2
      rcases q with ⟨k', _⟩ | ⟨_, c3, e', z⟩
      · have k' : X.env.scope.names.lookup y = some .local := k'
        rcases L.free _ (PySem.mem_of_lookup k) rfl with k2 | k2 <;> rw [show X.env.scope.names.lookup y = _ from k2] at k' <;> cases k'
      · rw [c1] at e'
        cases e'
        exact cellK (I.freeC y _ c1) z
  · obtain ⟨w', z⟩ := I.cell y c (cm e)
    exact ⟨w', cellK (I.freeC y c (cm e)) z⟩
  · obtain ⟨v, o, ho, hd⟩ := I.cell y c (cm e)
    exact un.free c o ho (I.freeC y c (cm e)) (by simp)
theorem lam_act {CXg : CXT} {Eg : XK} {Ng : List Str} {qg : Str} {sg : Scope} {g f c' : Addr} {cdg doc dV pm ctv : Value} {params : Arguments} {body : Expr} {scope : Scope} {ds : List Str} {us : List Value} {k i : Nat} {a : Str} {pn : List (Addr × Obj)} {xe : Value → Shared → Prop} {W : WX} {E : XK} {tb : TE} {p1 p2 : Pos}
    (I : Inv X pins σ H s) (L : LamN X.env.scope scope X.N ds) (hf : s.heap.get? f = some (PySem.W.kdv_obj "<lambda>" lamQ params (.expr body) scope (cloFrom X.env.cells scope.names []) dV doc pm c' ctv)) (hfn : H f = none) (hfr : f ∉ frs X.stack) (hus : us.length = ds.length)
    (hbind : ∀ sB : Shared, (∀ b o, s.heap.get? b = some o → H b = none → b ∉ frs X.stack → sB.heap.get? b = some o) → BindsTo sB (PySem.W.kdv_fn "<lambda>" lamQ params (.expr body) scope (cloFrom X.env.cells scope.names []) dV doc pm (.ref c') ctv) ⟨[], []⟩ (ds.zip us))
    (tk : L2.Takes ((cxOf CXg X.prog X.w X.K X.mg X.base Ng qg sg g cdg X.A X.stack s H Eg).tr pn xe) W) (hW : ∀ cls d σ' H', E cls d H' → W cls d σ' H') (hr : Room (k + 1) (X.A.deeper (envOfC qg sg s.heap.objs.size g cdg)))
    (hq : X.env.qual ++ "<lambda>" = lamQ)
    (hbody : ∀ (A : Around) (outer : List PySem.Env) (s : Shared) (H : Hp), Room k (A.deeper (LamX.lamEnv X scope s.heap.objs.size f c')) → PE (LamX.lamCx X A outer s H E scope f c') body tb)
    (hN : Ng[i]? = some a) (hv : Vis sg a) (hd : (a == ("__debug__" : Str)) = false := by decide) (hcd : (a == ("__classdict__" : Str)) = false := by decide) :
    PE ((cxOf CXg X.prog X.w X.K X.mg X.base Ng qg sg g cdg X.A X.stack s H Eg).tr pn xe) (.Call (.Name a p1) [] [] p2)
      (fun σZ HZ Q => σZ[i]? = some (some (.ref f)) ∧ HZ c' = some (LamX.CodeO c' lamQ) ∧ tb σ HZ Q) := by
  refine ⟨fun pinsZ sZ σZ HZ Q IZ h => ?_⟩
  obtain ⟨hs, hc, ht⟩ := h
  refine wpAny_Call_Name_kw (thn ((pe_var (pos := p1) (i := i) hN hv hd hcd).run pinsZ sZ σZ HZ (fun v H1 => v = .ref f ∧ H1 = HZ) IZ ⟨.ref f, hs, rfl, rfl⟩) fun u s1 ⟨v, H1, I1, r1, q1⟩ => ?_)
  obtain ⟨ev, eH⟩ := q1
  subst ev
  rw [eH] at I1
  obtain rfl : u = Value.ref f := r1
  have keep1 : ∀ b o, s.heap.get? b = some o → H b = none → b ∉ frs X.stack → s1.heap.get? b = some o := fun b o e n nf => I1.base.keep b o e n nf (fun z => nomatch (show b ∈ ([] : List Addr) from z))
  have of1 := keep1 f _ hf hfn hfr
  refine PySem.W.callWith_F0 ⟨_, _, _, _, of1⟩ ?_
  have un : Un (frs X.stack) [] H HZ s.heap s1.heap := I1.base
  obtain ⟨⟨oc, vs, t, hoc, hdc, hvc⟩, _, _⟩ := I1.hok c' _ hc
  have rc : codeAny (model X.prog X.w) (X.A.deeper (envOfC qg sg s.heap.objs.size g cdg)) (.call (.ref f) ⟨[], []⟩) (CR (L2.CX X.prog X.w) (envOfC qg sg s.heap.objs.size g cdg :: X.stack) X.prog X.w HZ s1 Q E) s1 := by
    refine PySem.W.kla_callFunE hr.depth of1 rfl L.co L.gen rfl ⟨c', oc, vs, t, rfl, hoc, hdc, hvc⟩ ?_
    refine hbind s1 keep1 _ _ _ _ ?_
    refine wpAny_newFunctionEnv (fun y hy => (L.own y hy).1) (fun y hy => L.dl y.1 (List.of_mem_zip hy).1) (fun h₁ hns hsb => ⟨I1.nolimit.fresh _ hsb, ?_⟩) L.kind
    show codeAny _ _ (.expr body (PySem.W.envX lamQ scope s1.heap.objs.size f (.ref c') (cloFrom X.env.cells scope.names []))) _ _
    rw [← hq]
    have kp : ∀ b o, s1.heap.get? b = some o → h₁.get? b = some o := fun b o e => hsb.extBut b o (Nat.ne_of_lt (Heap.lt_size e)) (Heap.get?_push_of_some _ e)
    have J : Inv (LamX.lamCx X (X.A.deeper (envOfC qg sg s.heap.objs.size g cdg)) (envOfC qg sg s.heap.objs.size g cdg :: X.stack) s1 HZ E scope f c') [] σ HZ { s1 with heap := h₁, toks := s1.toks + (ds.zip us).length } :=
      lam_enter I L I1.env0 hr.hd un hns kp
    refine PySem.W.kla_codeExpr (wpAny_mono ((hbody _ _ s1 HZ (hr.deeper _)).run [] _ _ HZ Q J ht) (fun v s' hq => ?_) fun e s' hq => hq)
    obtain ⟨w', H', J', rv, q⟩ := hq
    exact ⟨w', H', J'.os, J'.bare, J'.base, J'.hok, rv, q⟩
  have hx : Passes (L2.CX X.prog X.w) ((cxOf CXg X.prog X.w X.K X.mg X.base Ng qg sg g cdg X.A X.stack s H Eg).tr pn xe) E := L2.passes_call tk hW
  refine wpAny_call (codeAny_mono rc fun r s' hq => ?_)
  cases r with
  | error e => exact hx pinsZ σZ HZ s1 e s' I1 hq
  | ok fl =>
    cases fl with
    | ret u => exact I1.after hq
    | next => exact False.elim hq
    | brk => exact False.elim hq
    | cont => exact False.elim hq
end
def tLamD (K : PySem.W.Frag) (TT : (XK → Hp → VK → Prop) → Hp → VK → Prop) (t : XK → TE) : TE := fun σ H Q => (∃ ps, H (lawT K) = some (.tbl ps) ∧ TriplesOk ps.toList ∧ ∀ (pos : Pos) (cv : Value), codeAmong pos ps.toList = some cv → ∃ c, cv = .ref c ∧ H c = some (LamX.CodeO c lamQ)) ∧
  ∀ H1 c, LamStep K H H1 c → TT (fun E H' Q' => t E σ H' Q') H1 Q
section
variable {X : Cx}
theorem pe_lamD {TT : (XK → Hp → VK → Prop) → Hp → VK → Prop} {x a : Str} {g c : Addr} {k : Nat} {pg : Arguments} {bg : List Stmt} {sg : Scope} {dV kV doc pm cdv ct oc : Value} {an od : Option Addr} {osl : Array (Option Value)} {Ng ds : List Str}
    {params : Arguments} {body : Expr} {scope : Scope} {t : XK → TE} {p lpos pos : Pos} (hg : Gl X x) (hm : X.mg x = some (.ref g)) (hk : PySem.W.keepIn X.K (.ref g) = true)
    (lk : X.K.lookup g = some ⟨oc, od, .func (PySem.W.fnOf x x pg bg sg dV kV doc pm an cdv ct), osl⟩) (hcg : PySem.W.codeIn X.K cdv x = true) (hb : L2.Binds X.K (PySem.W.fnOf x x pg bg sg dV kV doc pm an cdv ct) [a] []) (Sg : FnScope Ng [a] sg) (hNg : Ng[0]? = some a) (hva : Vis sg a)
    (hG : LamX.GivesTo X Ng x sg g cdv bg a lamQ TT)
    (TB : LamX.TabB X.base X.mg c (lawT X.K)) (hcode : X.env.code = .ref c) (hq : X.env.qual ++ "<lambda>" = lamQ) (hr : Room (k + 2) X.A) (L : LamN X.env.scope scope X.N ds) (hkw0 : params.kw_defaults = [])
    (hds : (ds = [] ∧ params.defaults = []) ∨ ∃ (d : Str) (j : Nat) (dp : Pos), ds = [d] ∧ params.defaults = [.Constant (.int 0) j dp])
    (hb0 : ds = [] → ∀ (cl : List (Str × Addr)) (doc pm cv ctv : Value), bindArgs (PySem.W.kdv_fn "<lambda>" lamQ params (.expr body) scope cl .none doc pm cv ctv) ⟨[], []⟩ = pure [])
    (hb1 : ∀ d, ds = [d] → ∀ (T : Addr) (cl : List (Str × Addr)) (doc pm cv ctv : Value), ∃ kk, bindArgs (PySem.W.kdv_fn "<lambda>" lamQ params (.expr body) scope cl (.ref T) doc pm cv ctv) ⟨[], []⟩ = seqItems? (.ref T) >>= kk ∧ ∀ u, kk (some #[u]) = pure [(d, u)])
    (hbody : ∀ (A : Around) (outer : List PySem.Env) (s : Shared) (H : Hp) (E : XK) (f c' : Addr), Room k (A.deeper (LamX.lamEnv X scope s.heap.objs.size f c')) → PE (LamX.lamCx X A outer s H E scope f c') body (t E))
    (hdb : (x == ("__debug__" : Str)) = false := by decide) (hd : (a == ("__debug__" : Str)) = false := by decide) (hcd : (a == ("__classdict__" : Str)) = false := by decide) :
    PE X (.Call (.Name x p) [.Lambda params body scope lpos] [] pos) (tLamD X.K TT t) := by
  refine ⟨fun pins s σ H Q I h => ?_⟩
  obtain ⟨⟨ps, hP, ht, hA⟩, h⟩ := h
  refine wpAny_Call_Name_kw (ld_glob I hg hm ?_ hdb)
  refine PySem.W.callWith_K (h₀ := X.base) I.ok.mod.kin hk ?_ (by rfl) (by rfl)
  show wpAny _ _ (spliced ((false, eval (.Lambda params body scope lpos) X.env) :: backTo pos (starEach [] X.env))) _ _ s
  -- behind the making
  have go : ∀ (f c' : Addr) (dv : Value) (us : List Value) (doc' pm' ctv : Value) (H1 : Hp) (s' : Shared), Inv X pins σ H1 s' → LamStep X.K H H1 c' →
      s'.heap.get? f = some (PySem.W.kdv_obj "<lambda>" lamQ params (.expr body) scope (cloFrom X.env.cells scope.names []) dv doc' pm' c' ctv) → H1 f = none → f ∉ frs X.stack → us.length = ds.length →
      (∀ sB : Shared, (∀ b o, s'.heap.get? b = some o → H1 b = none → b ∉ frs X.stack → sB.heap.get? b = some o) → BindsTo sB (PySem.W.kdv_fn "<lambda>" lamQ params (.expr body) scope (cloFrom X.env.cells scope.names []) dv doc' pm' (.ref c') ctv) ⟨[], []⟩ (ds.zip us)) →
      wpAny (model X.prog X.w) X.A (spliced (backTo pos (starEach [] X.env))) (fun vs s₁ => X.K.In s₁.heap ∧ wpAny (model X.prog X.w) X.A (call (.ref g) ([] ++ (.ref f :: vs))) (EP X pins σ Q) X.xe s₁) X.xe s' := by
    intro f c' dv us doc' pm' ctv H1 s' I1 st hf hfn hfr hus hbd
    refine Calls.spliced_nil ⟨I1.kIn, ?_⟩
    have rc : codeAny (model X.prog X.w) X.A (.call (.ref g) ⟨[.ref f], []⟩) (CR C8.CX0 X.stack X.prog X.w H1 s' Q C8.E0) s' := by
      refine LamX.run_ofS (N := Ng) (ps := [a]) (us := [.ref f]) (vs := [.ref f]) lk hcg Sg hr I1.env0 (hb s' [.ref f] I1.kIn rfl) (.cons rfl .nil) rfl fun hr' => ?_
      obtain ⟨t', ht', hq'⟩ := hG f c' s' H1 Q (fun E H' Q' => t E σ H' Q') (fun W pn xe E p1 p2 tk hW => lam_act (i := 0) I1 L hf hfn hfr hus hbd tk hW hr' hq (fun A outer s H hr2 => hbody A outer s H E f c' hr2) hNg hva hd hcd) st.cd (h H1 c' st)
      exact ⟨t', ht'.nox, hq'⟩
    refine wpAny_call (codeAny_mono rc fun r s2 hq => ?_)
    cases r with
    | error e => exact (show False from hq).elim
    | ok fl =>
      cases fl with
      | ret u => exact I1.after hq
      | next => exact False.elim hq
      | brk => exact False.elim hq
      | cont => exact False.elim hq
  refine Calls.spliced_cons ?_
  rcases hds with ⟨e1, e2⟩ | ⟨d, j, dp, e1, e2⟩
  · rw [arm_eval_Lambda, defaultsOf_eq, hkw0, e2]
    show wpAny _ _ (do let dv ← evalAll (evalEach [] X.env); let kdv ← holding dv (evalAllOpt []); makeFunction "<lambda>" (X.env.qual ++ "<lambda>") params (.expr body) scope X.env dv kdv [] lpos lpos.line) _ _ s
    refine wpAny_bind (PySem.W.kdv_all0 (wpAny_bind (wpAny_holding (wpAny_pure ?_))))
    rw [hq, makeFunction_eq]
    simp only [List.zip_nil_right, List.filterMap_nil, List.isEmpty_nil, if_true, pure_bind]
    refine lam_tail I TB hcode (L.has I.ok) hP ht hA fun f c' doc' pm' ctv H1 s' I1 st _ hf hfn hfr => ?_
    exact go f c' .none [] doc' pm' ctv H1 s' I1 st hf hfn hfr (by rw [e1]; rfl) fun sB _ => by rw [e1]; exact .of_eq (hb0 e1 _ _ _ _ _)
  · rw [arm_eval_Lambda, defaultsOf_eq, hkw0, e2]
    show wpAny _ _ (do let dv ← evalAll (evalEach [.Constant (.int 0) j dp] X.env); let kdv ← holding dv (evalAllOpt []); makeFunction "<lambda>" (X.env.qual ++ "<lambda>") params (.expr body) scope X.env dv kdv [] lpos lpos.line) _ _ s
    refine wpAny_bind (PySem.W.kdv_all1 (thn ((pe_int (X := X) (i := 0) (j := j) (pos := dp)).run pins s σ H (fun v H1 => v = .int 0 ∧ H1 = H) I ⟨rfl, rfl⟩) fun u s1 ⟨v, H1, I1, r1, ev, eH⟩ => PySem.W.kdv_all0 (wpAny_bind (wpAny_holding (wpAny_pure ?_)))))
    subst ev eH
    rw [hq, makeFunction_eq]
    simp only [List.zip_nil_right, List.filterMap_nil, List.isEmpty_nil, List.isEmpty_cons, if_true, pure_bind, Bool.false_eq_true, if_false]
    refine wpAny_bind (wpAny_newTextTuple ?_)
    have hT : (s1.heap.push (PySem.W.kdv_tup [u])).get? s1.heap.objs.size = some (PySem.W.kdv_tup [u]) := Heap.get?_push_size _ rfl
    have I2 : Inv X pins σ H1 { s1 with heap := s1.heap.push (PySem.W.kdv_tup [u]), toks := s1.toks } := I1.kept fun b o e => Heap.get?_push_of_some _ e
    have nT : H1 s1.heap.objs.size = none := I1.hok.fresh (Nat.le_refl _)
    have nfT : s1.heap.objs.size ∉ frs X.stack := fun z => by
      rcases List.mem_cons.mp (I1.stkSub _ z) with e | e
      · have h1 := I1.lt
        rw [← e] at h1
        exact Nat.lt_irrefl _ h1
      · exact I1.nofs (Nat.le_refl _) e
    refine lam_tail I2 TB hcode (L.has I.ok) hP ht hA fun f c' doc' pm' ctv H2 s' I3 st kp hf hfn hfr => ?_
    have nPT : s1.heap.objs.size ≠ lawT X.K := fun z => by rw [z, hP] at nT; cases nT
    refine go f c' (.ref s1.heap.objs.size) [u] doc' pm' ctv H2 s' I3 st hf hfn hfr (by rw [e1]; rfl) fun sB kB => ?_
    obtain ⟨kk, z1, z2⟩ := hb1 d e1 s1.heap.objs.size (cloFrom X.env.cells scope.names []) doc' pm' (.ref c') ctv
    have nT2 : H2 s1.heap.objs.size = none := by
      by_cases hc : s1.heap.objs.size = c'
      · exfalso
        have q1 := I3.hok c' _ st.cd
        obtain ⟨⟨oc, vs, t, e, hd', _⟩, _, _⟩ := q1
        have q2 := kp _ _ nPT hT
        rw [hc, e] at q2
        cases q2
        cases hd'
      · rw [st.rest _ nPT hc]; exact nT
    rw [e1]
    exact BindsTo.of_defaults rfl (kB _ _ (kp _ _ nPT hT) nT2 nfT) rfl z1 (z2 u)
end
end DL

/-! asked for its word: try: return ("told", ask()) / except (..) as e: return (e.word, e.f) .. -/
namespace DL
open PySem PySem.Spec PyProof.Rows L2
def fldV {α : Type} (non : α) (fs : List (Str × α)) (v : α) : Option Str → Prop
  | none => v = non
  | some f => fs.lookup f = some v
def whyK (K : PySem.W.Frag) (l : WhyL) (cls : Value) (d : Option Addr) (H : Hp) (Q : VK) : Prop := ∃ (C dd : Addr) (fs : List (Str × V)) (fo : Option Str) (w v : V), cls = .ref C ∧ d = some dd ∧ H dd = some (.xd fs) ∧ whyPick K C l = some fo ∧ fs.lookup ("word" : Str) = some w ∧ fldV .non fs v fo ∧ ∀ p, H p = none → Q (.ref p) (upd H p (.tup [w, v]))
def TTwhy (K : PySem.W.Frag) (l : WhyL) : (XK → Hp → VK → Prop) → Hp → VK → Prop := fun tl H Q => tl (fun cls d H' => whyK K l cls d H' Q) H fun v H' => [V.str "told", v].length ≤ sizeLine ∧ ∀ p, H' p = none → Q (.ref p) (upd H' p (.tup [.str "told", v]))
def whyS (K : PySem.W.Frag) (fo : Option Str) : Addr → Value → Option Addr → TS := fun a cls d => tRet (tTup (tCons (tXfs K a cls d "word" (tVar 1)) (tCons (match fo with | some f => tXfs K a cls d f (tVar 1) | none => tC .non) tNil)))
theorem why_cl {K : PySem.W.Frag} {l : WhyL} {cls : Value} {d : Option Addr} {σ : L2.St} {H : Hp} {D : Ends} (hl : σ.length = 2) (h : whyK K l cls d H D.rt) : wCl K 1 (fun _ _ _ _ => False) D (l.map fun q => (q.1, whyS K q.2)) cls d σ H := by
  obtain ⟨C, dd, fs, fo, w, v, rfl, rfl, hd, hp, hw, hv, hq⟩ := h
  induction l with
  | nil => cases hp
  | cons q r ih =>
    obtain ⟨cs, fo'⟩ := q
    unfold whyPick at hp
    cases he : PySem.W.exmAny K (.ref C) cs with
    | none => rw [he] at hp; cases hp
    | some b =>
      rw [he] at hp
      refine ⟨b, he, fun hb => ?_, fun hb => ?_⟩
      · subst hb
        dsimp only at hp
        by_cases hc : (xfB K C && noA K C "word" && fldB K C fo') = true
        · rw [if_pos hc] at hp
          cases hp
          simp only [Bool.and_eq_true] at hc
          obtain ⟨⟨h1, h2⟩, h3⟩ := hc
          intro a na
          have s1 : (σ.set 1 (some (V.ref a)))[1]? = some (some (.ref a)) := List.getElem?_set_self (by omega)
          have lenOk : ∀ x y : V, [x, y].length ≤ sizeLine := fun _ _ => by show 2 ≤ sizeLine; decide
          refine ⟨.ref a, s1, rfl, C, dd, fs, w, rfl, xfB_ok h1, of_decide_eq_true h2, rfl, hd, hw, ?_⟩
          cases fo with
          | none =>
            have hv' : v = .non := hv
            subst hv'
            exact ⟨lenOk _ _, hq⟩
          | some f => exact ⟨.ref a, s1, rfl, C, dd, fs, v, rfl, xfB_ok h1, of_decide_eq_true h3, rfl, hd, hv, lenOk _ _, hq⟩
        · rw [if_neg hc] at hp
          cases hp
      · subst hb
        exact ih hp
theorem why_gives {X : Cx} {Ng : List Str} {x n a : Str} {sg : Scope} {g : Addr} {cdg : Value} {h₀ : ExceptHandler} {hds : List ExceptHandler} {l : WhyL} {j k : Nat} {p0 p1 p2 p3 p4 p5 : Pos} (hl2 : Ng.length = 2) (hnd : Ng.Nodup) (h0 : ∀ f : Addr, (L2.start Ng [V.ref f])[0]? = some (some (V.ref f))) (hn : Ng[1]? = some n)
    (hln : sg.names.lookup n = some .local) (hh : ∀ (s : Shared) (H : Hp), ClsOk (cxOf C8.CX0 X.prog X.w X.K X.mg X.base Ng x sg g cdg X.A X.stack s H C8.E0).nox n (h₀ :: hds) (l.map fun q => (q.1, whyS X.K q.2))) :
    LamX.GivesTo X Ng x sg g cdg [.Try [.Return (some (.Tuple [.Constant (.str "told") j p0, .Call (.Name a p1) [] [] p2] k p3)) p4] (h₀ :: hds) [] [] p5] a lamQ (TTwhy X.K l) := by
  intro f c' s H Q tl act hc h
  refine ⟨_, pss_one (ps_try_cl (X := (cxOf C8.CX0 X.prog X.w X.K X.mg X.base Ng x sg g cdg X.A X.stack s H C8.E0).nox) (n := n) (i := 1) (Wout := fun _ _ _ _ => False)
    (tb := fun W D σ H => ∃ Ech : XK, (∀ cls d σ' H', σ'.length = 2 → Ech cls d H' → W cls d σ' H') ∧ σ[0]? = some (some (.ref f)) ∧ H c' = some (LamX.CodeO c' lamQ) ∧ tl Ech H fun v H1 => [V.str "told", v].length ≤ sizeLine ∧ ∀ p, H1 p = none → D.rt (.ref p) (upd H1 p (.tup [.str "told", v])))
    rfl rfl hnd hn hln takes0 (fun W pn xe tk _ => ?_) (hh s H)), ?_⟩
  · refine ⟨fun pins s' σ H' D I h' => ?_⟩
    obtain ⟨Ech, hW, h1, h2, h3⟩ := h'
    have tk2 : L2.Takes ((cxOf C8.CX0 X.prog X.w X.K X.mg X.base Ng x sg g cdg X.A X.stack s H C8.E0).nox.tr pn xe) (fun cls d σ H => σ.length = 2 → W cls d σ H) := fun u s' ⟨a, B, sI, pins, σ, H, cls, d, e, I, nb, up, sky, na, os, ag, w⟩ =>
      tk u s' ⟨a, B, sI, pins, σ, H, cls, d, e, I, nb, up, sky, na, os, ag, w (by first | exact I.len.trans hl2 | exact I.len.symm.trans hl2 | (rw [I.len]; exact hl2))⟩
    have hp := act (fun cls d σ H => σ.length = 2 → W cls d σ H) pn xe Ech p1 p2 tk2 fun cls d σ' H' z hl => hW cls d σ' H' hl z
    have hq := pss_one (ps_ret (pos := p4) (pe_tup (x1 := k) (pos := p3) (pa_cons (pe_str (j := j) (pos := p0) (x := "told")) (pa_cons hp pa_nil))))
    exact hq.run pins s' σ H' D I ⟨h1, h2, h3⟩
  · exact ⟨fun cls d H' => whyK X.K l cls d H' Q, fun cls d σ' H' hl z => why_cl hl z, h0 f, hc, h⟩

/-! ### over data -/
def whyX (K : PySem.W.Frag) (l : WhyL) (C : Addr) (fs : List (Str × D)) (P : D → Prop) : Prop := ∃ (fo : Option Str) (w v : D), whyPick K C l = some fo ∧ fs.lookup ("word" : Str) = some w ∧ fldV .non fs v fo ∧ P (.tup [w, v])
def dWhy (K : PySem.W.Frag) (l : WhyL) (b : (Addr → List (Str × D) → Prop) → DE) : DE := fun δ P => b (fun C fs => whyX K l C fs fun d => P d δ) (maskw δ []) fun d _ => P (.tup [.str "told", d]) δ
theorem lam_trn {K : PySem.W.Frag} {da : Option Addr} {G H H1 : Hp} {c : Addr} (ex : Same G H) (dl : DealOk K da G H) (st : LamStep K H H1 c) (nz : lawT K ≠ 0) : ∃ G1, Trn K da G H G1 H1 ∧ G1 c = some (LamX.CodeO c lamQ) := by
  obtain ⟨ps0, hP⟩ := dl.1.ex nz
  obtain ⟨ht0, hA0⟩ := dl.1.tab _ hP
  obtain ⟨ps1, ps, hP', hP1, ht1, hA1⟩ := st.tb
  rw [hP] at hP'
  cases hP'
  have gP : G (lawT K) = none := by
    cases q : G (lawT K) with
    | none => rfl
    | some o =>
      have := ex _ _ q
      rw [hP] at this
      cases this
      exact absurd q (dl.1.noG _ _)
  have nPc : lawT K ≠ c := fun z => by
    have := st.cd
    rw [← z, hP1] at this
    unfold LamX.CodeO at this
    cases this
  have gc : G c = none ∨ G c = some (LamX.CodeO c lamQ) := by
    rcases st.old with z | ⟨ps', pos, e1, e2⟩
    · exact .inl (gno ex z)
    · rw [hP] at e1
      cases e1
      obtain ⟨c2, e3, e4⟩ := hA0 pos _ e2
      cases e3
      exact .inr e4
  have eg : Same G (upd G c (LamX.CodeO c lamQ)) := fun b o q => by
    by_cases hb : b = c
    · subst hb
      rcases gc with z | z
      · rw [z] at q; cases q
      · rw [z] at q; rw [upd_same]; exact q
    · rw [upd_ne hb]; exact q
  have nT : ∀ q, LamX.CodeO c lamQ ≠ .tbl q := fun q z => by
    unfold LamX.CodeO at z
    cases z
  have cH : ∀ o, H c = some o → o = LamX.CodeO c lamQ := fun o q => by
    rcases st.old with z | ⟨ps', pos, e1, e2⟩
    · rw [z] at q; cases q
    · rw [hP] at e1
      cases e1
      obtain ⟨c2, e3, e4⟩ := hA0 pos _ e2
      cases e3
      have := ex _ _ e4
      rw [q] at this
      exact Option.some.inj this
  have tabs : TabOk K (upd G c (LamX.CodeO c lamQ)) H1 := by
    refine ⟨fun ps' h => ?_, fun _ => ⟨_, hP1⟩, fun b ps' h => ?_⟩
    · rw [hP1] at h
      cases h
      refine ⟨ht1, fun pos cv hcv => ?_⟩
      rcases hA1 pos cv hcv with z | z
      · obtain ⟨c2, e1, e2⟩ := hA0 pos cv z
        exact ⟨c2, e1, eg _ _ e2⟩
      · exact ⟨c, z, upd_same⟩
    · by_cases hb : b = c
      · subst hb
        rw [upd_same] at h
        exact nT _ (Option.some.inj h)
      · rw [upd_ne hb] at h
        exact dl.1.noG b ps' h
  refine ⟨upd G c (LamX.CodeO c lamQ), ⟨fun b o q => ?_, eg, fun b o q n => ?_, fun b o q => ?_, dl.up eg (fun _ => tabs) fun a ea => ?_⟩, upd_same⟩
  · by_cases hb : b = c
    · subst hb
      rw [upd_same] at q
      rw [← q]
      exact st.cd
    · rw [upd_ne hb] at q
      have nb : b ≠ lawT K := fun z => by rw [z, gP] at q; cases q
      rw [st.rest b nb hb]
      exact ex b o q
  · by_cases hb : b = lawT K
    · subst hb
      rw [hP] at q
      cases q
      exact .inr ⟨_, _, rfl, hP1⟩
    · by_cases hc : b = c
      · subst hc
        rw [cH o q]
        exact .inl st.cd
      · rw [st.rest b hb hc]
        exact .inl q
  · by_cases hb : b = c
    · subst hb
      rcases st.old with z | ⟨ps', pos, e1, e2⟩
      · exact .inr z
      · rcases gc with z | z
        · exfalso
          rw [hP] at e1
          cases e1
          obtain ⟨c2, e3, e4⟩ := hA0 pos _ e2
          cases e3
          rw [z] at e4; cases e4
        · rw [upd_same] at q
          rw [← q]
          exact .inl z
    · rw [upd_ne hb] at q
      exact .inl q
  · obtain ⟨g0, b, ns, p, q, m, t, h, _⟩ := dl.2 a ea
    have n1 : a ≠ lawT K := fun z => by rw [z, hP] at h; cases h
    have n2 : a ≠ c := fun z => by
      rw [z] at h
      have := cH _ h
      unfold LamX.CodeO at this
      cases this
    exact ⟨by rw [upd_ne n2]; exact g0, st.rest a n1 n2⟩
theorem rf_why {K : KW} {l : WhyL} {t : XK → TE} {b : (Addr → List (Str × D) → Prop) → DE} (nz : lawT K.K ≠ 0) (hb : ∀ (E : XK) (PX : Addr → List (Str × D) → Prop), RfE (kwE K.K E PX) (t E) (b PX)) : RfE K (tLamD K.K (TTwhy K.K l) t) (dWhy K.K l b) := by
  intro e da G δ σ H P Q R h k
  refine ⟨?_, fun H1 c st => ?_⟩
  · obtain ⟨ps, hP⟩ := R.dl.1.ex nz
    obtain ⟨h1, h2⟩ := R.dl.1.tab _ hP
    exact ⟨ps, hP, h1, fun pos cv hcv => (h2 pos cv hcv).imp fun c z => ⟨z.1, R.ex _ _ z.2⟩⟩
  · obtain ⟨G1, T1, _⟩ := lam_trn R.ex R.dl st nz
    have R1 := R.go T1
    have Rm : Rel0 K.K ⟨G1, H1⟩ da G1 (maskw δ []) σ H1 :=
      ⟨Trn.refl R1.ex R1.dl, by rw [maskw_len]; exact R1.ln, fun _ => [], fun i s q => maskw_rel R1 [] i s q, fun _ _ z => absurd z (by simp), fun _ _ _ _ z => absurd z (by simp)⟩
    have fin : ∀ {G2 H2 : Hp} {w v : V} {dw dv : D}, Trn K.K da G1 H1 G2 H2 → Rp K.K da G2 dw w → Rp K.K da G2 dv v → P (.tup [dw, dv]) δ → ∀ p, H2 p = none → Q (.ref p) (upd H2 p (.tup [w, v])) := by
      intro G2 H2 w v dw dv T2 rw' rv hp p np
      have R2 := R1.go T2
      have e2 : Same G2 (upd G2 p (.tup [w, v])) := Same.new (R2.enone np).2
      exact k _ _ _ _ _ (R2.put (o := .tup [w, v]) np) ((T1.eg.trans T2.eg).trans e2) (.tup (.inl (.inl upd_same)) (.cons (rw'.up e2) (.cons (rv.up e2) .nil))) hp
    refine hb (fun cls d H' => whyK K.K l cls d H' Q) (fun C fs => whyX K.K l C fs fun d => P d δ) ⟨G1, H1⟩ da G1 (maskw δ []) σ H1 _ _ ⟨Rm, kwE_xo fun C dd fs gs G' H' T hd rF px => ?_⟩ h fun d δ' v G' H' R' eg r p => ⟨by show 2 ≤ sizeLine; decide, fun q nq => fin R'.toTrn (.str _) r p q nq⟩
    obtain ⟨fo, w, v, hp, hw, hv, pp⟩ := px
    obtain ⟨w', hw', rw'⟩ := rF.get hw
    cases fo with
    | none =>
      have hv' : v = .non := hv
      subst hv'
      exact ⟨C, dd, gs, none, w', .non, rfl, rfl, hd, hp, hw', rfl, fin T rw' .non pp⟩
    | some f =>
      obtain ⟨v', hv', rv'⟩ := rF.get hv
      exact ⟨C, dd, gs, some f, w', v', rfl, rfl, hd, hp, hw', hv', fin T rw' rv' pp⟩
end DL

/-! try with clauses without names, whose suites let nothing out -/
namespace DL
open PySem PySem.Spec PyProof.Rows L2
def wCl0 (K : PySem.W.Frag) (Wout : WX) (D : Ends) : List (List Value × (Addr → Value → Option Addr → TS)) → WX
  | [] => Wout
  | (cs, ts) :: r => fun cls d σ H => ∃ b, PySem.W.exmAny K cls cs = some b ∧ (b = true → ∀ a, H a = none → ts a cls d D σ H) ∧ (b = false → wCl0 K Wout D r cls d σ H)
inductive ClsOk0 (X : Cx) : List ExceptHandler → List (List Value × (Addr → Value → Option Addr → TS)) → Prop
  | nil : ClsOk0 X [] []
  | cons {e : Expr} {cs : List Value} {ts : Addr → Value → Option Addr → TS} {b₀ : Stmt} {suite : List Stmt} {pos' : Pos} {hds : List ExceptHandler} {l : List (List Value × (Addr → Value → Option Addr → TS))} (hc : ClTest X e cs)
      (hsu : ∀ (a : Addr) (oe : Obj) (cls : Value) (d : Option Addr) (pn : List (Addr × Obj)), Zc cls d oe → (∃ vs, oe.data = .fields vs) → PSs (X.suite a ((a, oe) :: pn)) (b₀ :: suite) (ts a cls d)) (r : ClsOk0 X hds l) :
      ClsOk0 X (.ExceptHandler (some e) none (b₀ :: suite) pos' :: hds) ((cs, ts) :: l)
section
variable {X : Cx} {body : List Stmt} {h₀ : ExceptHandler} {hds : List ExceptHandler} {l : List (List Value × (Addr → Value → Option Addr → TS))} {pos : Pos} {tb : WX → TS} {Wout : WX}
theorem ps_try_nn (hs : X.stack = X.env :: X.outer) (hf : X.env.frame = some X.env.locals) (tk : Takes X Wout)
    (hb : ∀ (W : WX) (pn : List (Addr × Obj)) (xe : Value → Shared → Prop), Takes (X.tr pn xe) W → PassesOwn (model X.prog X.w) X.A X.env xe → PSs (X.tr pn xe) body (tb W))
    (hh : ClsOk0 X (h₀ :: hds) l) : PS X (.Try body (h₀ :: hds) [] [] pos) (fun D σ H => tb (wCl0 X.K Wout D l) D σ H) := by
  refine ⟨fun pins s σ H D I h => ?_⟩
  have ok := I.ok
  have hfr : X.A.frames = some (X.env :: X.outer) := by rw [ok.frames, hs]
  refine wpAny_Try_except ?_
  refine wpAny_mono ((hb (wCl0 X.K Wout D l) (X.pn ++ pins) (fun e s₁ => wpAny (model X.prog X.w) X.A (noteFrame e X.env) (fun _ s₂ => wpAny (model X.prog X.w) X.A (setFlight e none) (fun _ s₃ =>
    wpAny (model X.prog X.w) X.A (handleBy e X.env (h₀ :: hds)) (SP X pins D) X.xe s₃) X.xe s₂) X.xe s₁) (fun u s' xx => ?_) PassesOwn.looking).run [] s σ H D (I.toTry _) h) (fun f s1 hsp => ?_) (fun e s1 he => he)
  · obtain ⟨a, B, sI, pins', σ', H', cls, d, rfl, J', nb, up, sky, na, os, ag, w⟩ := xx
    have J : Inv X pins σ' H' sI := J'.ofTry ok
    have sky' : Sky B (X.env :: X.outer) a (Zc cls d) X.env.locals s'.heap := by rw [← hs]; exact sky
    show wpAny (model X.prog X.w) X.A (noteFrame (.ref a) X.env) _ _ _
    refine Sky.land Zc.steady hfr hf sky' fun h3 fl3 up3 => ?_
    have up30 := up.trans up3
    clear up3
    have go : ∀ {hds' : List ExceptHandler} {l' : List (List Value × (Addr → Value → Option Addr → TS))}, ClsOk0 X hds' l' → wCl0 X.K Wout D l' cls d σ' H' → ∀ h3, HandSPX.FlyingZ B (X.env :: X.outer) a (Zc cls d) h3 → sI.heap.UpToSlots h3 →
        wpAny (model X.prog X.w) X.A (handleBy (.ref a) X.env hds') (SP X pins D) X.xe { s' with heap := h3 } := by
      intro hds' l' hk
      induction hk with
      | nil =>
        intro w h3 fl3 up3
        refine wpAny_handleBy_nil ?_
        obtain ⟨k1, k2, k3, oe, vs, T, oT, ts', he, hz, hd, h1, hr⟩ := id fl3
        unfold PySem.passOn
        refine wpAny_bind (wpAny_field he hd h1 ?_)
        rw [if_neg (show ¬ ((Value.ref T == Value.none) = true) from by simp)]
        have fin : wpAny (model X.prog X.w) X.A (setFlight (.ref a) X.env.frame) (fun _ s4 => wpAny (model X.prog X.w) X.A (throw (.ref a) : Sem Flow) (SP X pins D) X.xe s4) X.xe { s' with heap := h3 } := by
          rw [hf]
          refine HandSPX.setFlight_upZ fl3 fun h4 hh4 up4 => wpAny_throw (tk _ _ ?_)
          exact ⟨a, B, sI, pins, σ', H', cls, d, rfl, J, nb, up3.trans up4, .inr (.inr (by rw [hs]; exact hh4)), na, os, ag, w⟩
        first
          | exact wpAny_bind (wpAny_pure (wpAny_bind fin))
          | exact wpAny_bind fin
      | @cons e cs ts b₀ suite pos' hds2 l2 hc hsu r ih =>
        intro w h3 fl3 up3
        obtain ⟨b, hb1, hyes, hno⟩ := w
        have J3 : Inv X pins σ' H' { s' with heap := h3 } := J.landed nb fl3.1 up3 os ag
        obtain ⟨oe3, vs3, he3, hz3, hd3⟩ := fl3.there
        have notFr : ∀ {h : Heap} {o : Obj} {vs : Array Value}, h.FunFrames B (X.env :: X.outer) → h.get? a = some o → o.data = .fields vs → a ∉ frs (X.env :: X.outer) := fun {h o vs} ff e dd hm => by
          obtain ⟨_, o', e', hnf⟩ := ff.mem hm
          rw [e] at e'; cases e'
          exact hnf _ dd
        have nfr := notFr fl3.2.2.1 he3 hd3
        have nL : a ≠ X.env.locals := fun z => nfr (List.mem_filterMap.mpr ⟨X.env, List.mem_cons_self, by rw [hf, z]⟩)
        have nF : a ∉ X.fs := fun hm => by
          obtain ⟨e, he, q⟩ := List.mem_filterMap.mp hm
          exact nfr (List.mem_filterMap.mpr ⟨e, List.mem_cons_of_mem _ he, q⟩)
        have S3 := J3.suite he3 hd3 na nL nF
        refine wpAny_handleBy_cons (codeAny_handlers_test ?_) (by intro q; cases q)
        have LT : PySem.W.Looks (model X.prog X.w) h3 (typeOf (.ref a)) cls := fun A Q E s k q => wpAny_typeOf_ref (k _ _ he3) (by rw [hz3.1]; exact q)
        refine hc a oe3 (X.pn ++ pins) σ' H' { s' with heap := h3 } cls b X.A _ _ S3 LT hb1 fun h5 kp => ?_
        have fl5 := fly_keeps fl3 kp
        have up5 : sI.heap.UpToSlots h5 := up3.trans (Heap.UpToSlots.of_keeps kp)
        cases b with
        | true =>
          refine codeAny_handlers_suite ?_
          refine HandSPX.lands_againZ fl5 fun h4 fl4 up4 => ?_
          have J4 : Inv X pins σ' H' { s' with heap := h4 } := J.landed nb fl4.1 (up5.trans up4) os ag
          obtain ⟨oe4, vs4, he4, hz4, hd4⟩ := fl4.there
          have S4 := J4.suite he4 hd4 na nL nF
          refine wpAny_mono ((hsu a oe4 cls d (X.pn ++ pins) hz4 ⟨_, hd4⟩).run [] _ _ H' _ S4 (hyes rfl a na)) (fun f s6 hsp => ?_) (fun _ _ z => False.elim z)
          cases f with
          | next =>
            obtain ⟨σ6, H6, S6, q6⟩ := hsp
            exact ⟨_, _, S6.unsuite ok, q6⟩
          | brk =>
            obtain ⟨σ6, H6, S6, q6⟩ := hsp
            exact ⟨_, _, S6.unsuite ok, q6⟩
          | cont =>
            obtain ⟨σ6, H6, S6, q6⟩ := hsp
            exact ⟨_, _, S6.unsuite ok, q6⟩
          | ret u =>
            obtain ⟨v6, σ6, H6, S6, r6, q6⟩ := hsp
            exact ⟨_, _, _, S6.unsuite ok, r6, q6⟩
        | false =>
          show wpAny _ X.A (handleBy (.ref a) X.env hds2) _ _ _
          exact ih (hno rfl) h5 fl5 up5
    exact go hh w h3 fl3 up30
  · cases f with
    | next =>
      obtain ⟨σ', H', J', q⟩ := hsp
      exact wpAny_execs_nil ⟨σ', H', J'.ofTry ok, q⟩
    | brk =>
      obtain ⟨σ', H', J', q⟩ := hsp
      exact ⟨σ', H', J'.ofTry ok, q⟩
    | cont =>
      obtain ⟨σ', H', J', q⟩ := hsp
      exact ⟨σ', H', J'.ofTry ok, q⟩
    | ret u =>
      obtain ⟨v, σ', H', J', r, q⟩ := hsp
      exact ⟨v, σ', H', J'.ofTry ok, r, q⟩
end
/-! ### over data -/
def dTry0 (K : PySem.W.Frag) (cs : List Value) (body : DXs → DS) (s : DS) (xs : DXs) : DS := fun D δ => body (fun C fs δ' => ∃ b, PySem.W.exmAny K (.ref C) cs = some b ∧ (b = true → s D δ') ∧ (b = false → xs C fs δ')) D δ
theorem EndsOk.with {K K' : KW} (hK : K'.K = K.K) {e : En} {da : Option Addr} {D : Ends} {Dd : DEnds} (E : EndsOk K e da D Dd) (xo : XOk K e da) : EndsOk K' e da D Dd := by
  have bk : ∀ {G δ σ H}, Rel K' e da G δ σ H → Rel K e da G δ σ H := fun R' => ⟨by rw [← hK]; exact R'.toRel0, xo⟩
  exact ⟨fun G δ σ H R => E.nx G δ σ H (bk R), fun G δ σ H R => E.bk G δ σ H (bk R), fun G δ σ H R => E.ct G δ σ H (bk R), by rw [hK]; exact E.rt, by rw [hK]; exact E.rn, by rw [hK]; exact E.rb⟩
def tTry0 (K : PySem.W.Frag) (Wout : WX) (cs : List Value) (tb : WX → TS) (ts : Addr → Value → Option Addr → TS) : TS := fun D σ H => tb (wCl0 K Wout D [(cs, ts)]) D σ H
theorem ps_try_n1 {X : Cx} {e : Expr} {cs : List Value} {body suite : List Stmt} {b₀ : Stmt} {pos pos' : Pos} {tb : WX → TS} {Wout : WX} {ts : Addr → Value → Option Addr → TS} (hs : X.stack = X.env :: X.outer) (hf : X.env.frame = some X.env.locals) (tk : Takes X Wout)
    (hb : ∀ (W : WX) (pn : List (Addr × Obj)) (xe : Value → Shared → Prop), Takes (X.tr pn xe) W → PassesOwn (model X.prog X.w) X.A X.env xe → PSs (X.tr pn xe) body (tb W)) (hc : ClTest X e cs)
    (hsu : ∀ (a : Addr) (oe : Obj) (cls : Value) (d : Option Addr) (pn : List (Addr × Obj)), Zc cls d oe → (∃ vs, oe.data = .fields vs) → PSs (X.suite a ((a, oe) :: pn)) (b₀ :: suite) (ts a cls d)) :
    PS X (.Try body [.ExceptHandler (some e) none (b₀ :: suite) pos'] [] [] pos) (tTry0 X.K Wout cs tb ts) := ps_try_nn hs hf tk hb (.cons hc hsu .nil)
theorem rf_try0 {K : KW} {cs : List Value} {tb : WX → TS} {ts : Addr → Value → Option Addr → TS} {body : DXs → DS} {s : DS} (hb : ∀ (W : WX) (xs : DXs), RfS ⟨K.K, W, xs⟩ (tb W) (body xs)) (hs : ∀ a cls d, RfS K.still (ts a cls d) s) :
    RfS K (tTry0 K.K K.W cs tb ts) (dTry0 K.K cs body s K.xs) := by
  intro e da G δ σ H D Dd E R h
  let K' : KW := ⟨K.K, wCl0 K.K K.W D [(cs, ts)], fun C fs δ' => ∃ b, PySem.W.exmAny K.K (.ref C) cs = some b ∧ (b = true → s Dd δ') ∧ (b = false → K.xs C fs δ')⟩
  refine hb K'.W K'.xs e da G δ σ H D Dd (EndsOk.with (K := K) (K' := K') rfl E R.xo) ⟨R.toRel0, fun C dd fs gs G1 δ1 σ1 H1 R1 hd rF px => ?_⟩ h
  obtain ⟨b, he, hy, hn⟩ := px
  exact ⟨b, he, fun hb a _ => hs a (.ref C) (some dd) e da G1 δ1 σ1 H1 D Dd (EndsOk.with (K := K) (K' := K.still) rfl E R.xo) ⟨R1, fun _ _ _ _ _ _ _ _ _ _ _ z => z.elim⟩ (hy hb), fun hb => R.xo C dd fs gs G1 δ1 σ1 H1 R1 hd rF (hn hb)⟩
end DL

/-! while, is True, in (texts) -/
namespace DL
open PySem PySem.Spec PyProof.Rows L2
def dWhile (t : DT) (s : DS) : DS := fun D δ => ∃ (I : Nat → Env → Prop), (∃ m, I m δ) ∧ ∀ m δ, I m δ → t δ fun b δ' => if b = true then s { D with nx := fun δ2 => ∃ m', m' < m ∧ I m' δ2, ct := fun δ2 => ∃ m', m' < m ∧ I m' δ2, bk := D.nx } δ' else D.nx δ'
theorem rf_while {K : KW} {tt : TT} {t : DT} {ts : TS} {s : DS} (ht : RfT K tt t) (hs : RfS K ts s) : RfS K (tWhile tt ts) (dWhile t s) := by
  intro e da G0 δ0 σ0 H0 D Dd E R0 ⟨I, ⟨m0, h0⟩, step⟩
  have xo := R0.xo
  refine ⟨fun m σ H => ∃ G δ, Rel0 K.K e da G δ σ H ∧ I m δ, ⟨m0, G0, δ0, R0.toRel0, h0⟩, fun m σ H ⟨G, δ, R, h⟩ => ?_⟩
  refine ht e da G δ σ H _ _ ⟨R, xo⟩ (step m δ h) fun b δ' G' H' R' eg h' => ?_
  cases b with
  | true =>
    rw [if_pos rfl] at h' ⊢
    refine ⟨fun σ' H' => ∃ m', m' < m ∧ ∃ G δ, Rel0 K.K e da G δ σ' H' ∧ I m' δ, fun σ' H' z => z, ?_⟩
    exact hs e da G' δ' σ H' _ { Dd with nx := fun δ2 => ∃ m', m' < m ∧ I m' δ2, ct := fun δ2 => ∃ m', m' < m ∧ I m' δ2, bk := Dd.nx } ⟨fun G δ σ H R ⟨m', lt, hI⟩ => ⟨m', lt, G, δ, R.toRel0, hI⟩, E.nx, fun G δ σ H R ⟨m', lt, hI⟩ => ⟨m', lt, G, δ, R.toRel0, hI⟩, E.rt, E.rn, E.rb⟩ R' h'
  | false =>
    rw [if_neg Bool.false_ne_true] at h' ⊢
    exact E.nx _ _ _ _ R' h'
def dIsB : DO := fun x y P => ∃ a b, x = .bl a ∧ y = .bl b ∧ P (.bl (decide (a = b)))
def dNotB : DO := fun x y P => ∃ a b, x = .bl a ∧ y = .bl b ∧ P (.bl (!decide (a = b)))
theorem rfo_isB {K : PySem.W.Frag} : RfO K (fun x y H Q => ∃ a b, x = .bl a ∧ y = .bl b ∧ Q (.bl (decide (a = b))) H) dIsB := fun da G H x y d1 d2 P Q e dl r1 r2 ⟨a, b, e1, e2, h⟩ k => by
  subst e1 e2
  cases r1; cases r2
  exact ⟨a, b, rfl, rfl, k _ _ G H (stay e dl) (.bl _) h⟩
theorem rfo_notB {K : PySem.W.Frag} : RfO K (fun x y H Q => ∃ a b, x = .bl a ∧ y = .bl b ∧ Q (.bl (!decide (a = b))) H) dNotB := fun da G H x y d1 d2 P Q e dl r1 r2 ⟨a, b, e1, e2, h⟩ k => by
  subst e1 e2
  cases r1; cases r2
  exact ⟨a, b, rfl, rfl, k _ _ G H (stay e dl) (.bl _) h⟩
def flD : D → Option V
  | .non => some .non
  | .bl b => some (.bl b)
  | .int i => some (.int i)
  | .str z => some (.str z)
  | _ => none
def flA : List D → Option (List V)
  | [] => some []
  | d :: ds => match flD d, flA ds with
    | some v, some vs => some (v :: vs)
    | _, _ => none
theorem flD_rel {K : PySem.W.Frag} {da : Option Addr} {G : Hp} {d : D} {v w : V} (r : Rp K da G d v) (h : flD d = some w) : v = w ∧ flatV v = true := by
  cases r <;> simp only [flD, Option.some.injEq, reduceCtorEq] at h <;> subst h <;> exact ⟨rfl, rfl⟩
theorem flA_rel {K : PySem.W.Frag} {da : Option Addr} {G : Hp} : ∀ {ds : List D} {vs ws : List V}, RpA K da G ds vs → flA ds = some ws → vs = ws ∧ vs.all flatV = true
  | _, _, _, .nil, h => by cases h; exact ⟨rfl, rfl⟩
  | d :: ds, v :: vs, ws, .cons r rr, h => by
    unfold flA at h
    cases h1 : flD d with
    | none => rw [h1] at h; cases h
    | some w =>
      cases h2 : flA ds with
      | none => rw [h1, h2] at h; cases h
      | some us =>
        rw [h1, h2] at h
        cases h
        obtain ⟨e1, f1⟩ := flD_rel r h1
        obtain ⟨e2, f2⟩ := flA_rel rr h2
        subst e1 e2
        exact ⟨rfl, by rw [List.all_cons, f1, f2]; rfl⟩
def dInF (neg : Bool) : DO := fun x y P => ∃ ds u us, (y = .tup ds ∨ y = .lst ds) ∧ flD x = some u ∧ flA ds = some us ∧ P (.bl (if neg then !inV u us else inV u us))
theorem rfo_inF {K : PySem.W.Frag} {neg : Bool} : RfO K (rIn K neg) (dInF neg) := fun da G H x y d1 d2 P Q e dl r1 r2 ⟨ds, u, us, e2, h1, h2, h⟩ k => by
  obtain ⟨ev, fv⟩ := flD_rel r1 h1
  subst ev
  rcases e2 with e2 | e2
  · subst e2
    cases r2 with
    | tup hg ra =>
      obtain ⟨es, fs⟩ := flA_rel ra h2
      subst es
      exact ⟨_, _, rfl, .inr (same_t e hg), fv, fs, k _ _ G H (stay e dl) (.bl _) h⟩
  · subst e2
    cases r2 with
    | lst hg ra =>
      obtain ⟨es, fs⟩ := flA_rel ra h2
      subst es
      exact ⟨_, _, rfl, .inl (.inl (.inl (e _ _ hg))), fv, fs, k _ _ G H (stay e dl) (.bl _) h⟩
end DL

/-! words for printed texts -/
namespace DL
open PySem PySem.Spec PyProof.Rows L2
abbrev dXF : DXs := fun _ _ _ => False
def sX (S : DL.Spec) : SpecX := fun ds P _ => S ds P
def sNX (S : SpecN) : SpecNX := fun ds P _ => S ds P
def sIX (S : SpecI) : SpecIX := fun ds P _ => S ds P
section
variable {P : Program} {w : World} {K : PySem.W.Frag} {mg : Str → Option Value} {base : Heap} {CX : CXT} {k : Nat} {f : Addr} {fd : FuncData} {ps : List Str}
theorem fn_dx {S : DL.Spec} (F : FnOk P w K mg base CX k f fd ps (spD K S)) : FnOk P w K mg base CX k f fd ps (spX K (sX S)) :=
  F.imp fun vs H Q E ⟨G, da, ds, P', PX, ex, dl, ra, hS, k, _⟩ => ⟨G, da, ds, P', ex, dl, ra, hS, k⟩
theorem fn_nx {S : SpecN} (F : FnOk P w K mg base CX k f fd ps (spN K S)) : FnOk P w K mg base CX k f fd ps (spNX K (sNX S)) :=
  F.imp fun vs H Q E ⟨G, da, ds, P', PX, ex, dl, ra, hS, k, _⟩ => ⟨G, da, ds, P', ex, dl, ra, hS, k⟩
theorem fn_ix {C : Addr} {S : SpecI} (F : FnOk P w K mg base CX k f fd ps (spI K C S)) : FnOk P w K mg base CX k f fd ps (spIX K C (sIX S)) :=
  F.imp fun vs H Q E ⟨G, H0, da, x, dx, us, ds, P', PX, e1, e2, h1, h2, h3, ex, dl, ra, hS, k, _⟩ => ⟨G, H0, da, x, dx, us, ds, P', e1, e2, h1, h2, h3, ex, dl, ra, hS, k⟩
end
theorem all_at {l : List Bool} (h : l.all id = true) (i : Nat) {b : Bool} (e : l[i]? = some b) : b = true := List.all_eq_true.mp h b (List.mem_of_getElem? e)
theorem oexI_of {K : PySem.W.Frag} {C f : Addr} (h1 : oexB K C = true) (h2 : oexI K C f = true) : OexI K C f := by
  obtain ⟨a, b⟩ := Bool.and_eq_true_iff.mp (show (decide (PySem.W.findIn K (.ref C) "__init__" = some (some (.ref f))) && decide (PySem.W.typeIn K (.ref f) = some (.type "function"))) = true from h2)
  exact ⟨oexB_ok h1, of_decide_eq_true a, of_decide_eq_true b⟩
theorem tupE_rp1 {K : PySem.W.Frag} {a : Addr} (h : tupE K a = true) (da : Option Addr) (G : Hp) : Rp K da G (.tup []) (.ref a) := .tup (tupE_ok h G) .nil
theorem GOk.dfl2 {K : PySem.W.Frag} {d0 : List D} {v0 : List V} (h : ∀ da G, RpA K da G d0 v0) : GOk K (fun ds es => (ds ++ es) ++ d0) (fun vs zs => (vs ++ zs) ++ v0) := fun da G _ _ _ _ r s => (r.app s).app (h da G)
theorem lamTk {X : Cx} {A : Around} {outer : List PySem.Env} {s : Shared} {H : Hp} {E : XK} {scope : Scope} {f c' : Addr} {e : Expr} {t : TE} (h : L2.Takes (LamX.lamCx X A outer s H E scope f c') (fun cls d _ H => E cls d H) → PE (LamX.lamCx X A outer s H E scope f c') e t) : PE (LamX.lamCx X A outer s H E scope f c') e t := h (L2.takes_of rfl rfl rfl rfl)
theorem pe_lamF {X : Cx} {TT : (XK → Hp → VK → Prop) → Hp → VK → Prop} {x a : Str} {g c : Addr} {fd : FuncData} {k : Nat} {pg : Arguments} {bg : List Stmt} {sg : Scope} {Ng ds : List Str} {params : Arguments} {body : Expr} {scope : Scope} {t : XK → TE} {p lpos pos : Pos}
    (hg : Gl X x) (hm : X.mg x = some (.ref g)) (F : FunD X.K x x pg bg sg [] [] g fd) (hb : L2.Binds X.K fd [a] []) (Sg : FnScope Ng [a] sg) (hNg : Ng[0]? = some a) (hva : Vis sg a) (hG : ∀ cdv, LamX.GivesTo X Ng x sg g cdv bg a lamQ TT)
    (TB : LamX.TabB X.base X.mg c (lawT X.K)) (hcode : X.env.code = .ref c) (hq : X.env.qual ++ "<lambda>" = lamQ) (hr : Room (k + 2) X.A) (L : LamN X.env.scope scope X.N ds) (hkw0 : params.kw_defaults = [])
    (hds : (ds = [] ∧ params.defaults = []) ∨ ∃ (d : Str) (j : Nat) (dp : Pos), ds = [d] ∧ params.defaults = [.Constant (.int 0) j dp])
    (hb0 : ds = [] → ∀ (cl : List (Str × Addr)) (doc pm cv ctv : Value), bindArgs (PySem.W.kdv_fn "<lambda>" lamQ params (.expr body) scope cl .none doc pm cv ctv) ⟨[], []⟩ = pure [])
    (hb1 : ∀ d, ds = [d] → ∀ (T : Addr) (cl : List (Str × Addr)) (doc pm cv ctv : Value), ∃ kk, bindArgs (PySem.W.kdv_fn "<lambda>" lamQ params (.expr body) scope cl (.ref T) doc pm cv ctv) ⟨[], []⟩ = seqItems? (.ref T) >>= kk ∧ ∀ u, kk (some #[u]) = pure [(d, u)])
    (hbody : ∀ (A : Around) (outer : List PySem.Env) (s : Shared) (H : Hp) (E : XK) (f c' : Addr), Room k (A.deeper (LamX.lamEnv X scope s.heap.objs.size f c')) → PE (LamX.lamCx X A outer s H E scope f c') body (t E))
    (hdb : (x == ("__debug__" : Str)) = false := by decide) (hd : (a == ("__debug__" : Str)) = false := by decide) (hcd : (a == ("__classdict__" : Str)) = false := by decide) :
    PE X (.Call (.Name x p) [.Lambda params body scope lpos] [] pos) (tLamD X.K TT t) := by
  obtain ⟨oc, od, dV, kV, doc, pm, an, cdv, ct, osl, rfl, lk, hcd', _, _⟩ := F.ex
  exact pe_lamD hg hm F.kp lk hcd' hb Sg hNg hva (hG cdv) TB hcode hq hr L hkw0 hds hb0 hb1 hbody hdb hd hcd
end DL

/-! several names at once -/
namespace DL
open PySem PySem.Spec PyProof.Rows L2
def dPar3 (i j l : Nat) (as : DA) : DS := fun D δ => as δ fun ds δ' => ∃ d1 d2 d3, ds = [d1, d2, d3] ∧ D.nx (((δ'.set i (.val d1)).set j (.val d2)).set l (.val d3))
theorem rf_par3 {K : KW} {i j l : Nat} {tas : TA} {as : DA} (ha : RfA K tas as) : RfS K (tPar3 i j l tas) (dPar3 i j l as) := fun e da G δ σ H D Dd E R h =>
  ha e da G δ σ H _ _ R h fun ds δ' vs G' H' R' eg r ⟨d1, d2, d3, ed, h'⟩ => by
    subst ed
    match vs, r with
    | [v1, v2, v3], .cons r1 (.cons r2 (.cons r3 .nil)) => exact ⟨_, _, _, rfl, E.nx _ _ _ _ (((R'.val r1 i).val r2 j).val r3 l) h'⟩
def dParNV (i j : Nat) (n : Env → (List D → Env → Prop) → Prop) (k : Nat) : DS := fun D δ => n δ fun ds δ1 => ∃ d, δ1[k]? = some (.val d) ∧ D.nx ((δ1.set i (.own ds)).set j (.val d))
theorem rf_parNV {K : KW} {i j k : Nat} {tn : TE} {n : Env → (List D → Env → Prop) → Prop} (ha : RfN K tn n) : RfS K (tPar i j (tCons tn (tCons (tVar k) tNil))) (dParNV i j n k) := fun e da G δ σ H D Dd E R h =>
  ha e da G δ σ H _ _ R h fun ds δ' p xs G' H0 H' R' eg hp eh r ⟨d, hk, h'⟩ => by
    subst eh
    obtain ⟨A, ⟨_, v, e1, rv⟩, _⟩ := R'.at hk
    exact ⟨v, e1, _, _, rfl, E.nx _ _ _ _ ((R'.mine hp r i).val rv j) h'⟩
end DL

/-! a hook that looks at few objects: what the names of the module reach, by defs and classes alone -/
namespace DL
open PySem PySem.Spec PyProof.Rows L2
theorem obsS_eq {fa : List He.Fa} {fn : List He.DefD} {tf : List He.Defn} {ex : PySem.W.Frag → Bool} {g : Addr → Option Obj} {s : Shared} (h : ∀ a, g a = s.heap.get? a) : obsS fa fn tf ex g = (hookS fa fn tf ex).obs s := by
  rw [show g = s.heap.get? from funext h]
  rfl
end DL

/-! a clause whose suite raises; x[::-1]; int of truth values -/
namespace DL
open PySem PySem.Spec PyProof.Rows L2
section
variable {X : Cx} {e : Expr} {cs : List Value} {body suite : List Stmt} {b₀ : Stmt} {pos pos' : Pos} {tb : WX → TS} {Wout : WX} {ts : Addr → Value → Option Addr → TS}
theorem ps_try_nX (hs : X.stack = X.env :: X.outer) (hf : X.env.frame = some X.env.locals) (hpa : ∀ hd : Option Value, PassesOwnAt (model X.prog X.w) (X.A.mark hd) X.A X.env X.xe) (tk : L2.Takes X Wout)
    (hb : ∀ (W : WX) (pn : List (Addr × Obj)) (xe : Value → Shared → Prop), L2N.Takes (X.tr pn xe) W → PassesOwn (model X.prog X.w) X.A X.env xe → PSs (X.tr pn xe) body (tb W)) (hc : ClTest X e cs)
    (hsu : ∀ (a : Addr) (oe : Obj) (cls : Value) (d : Option Addr) (pn : List (Addr × Obj)), L2N.Zn cls d oe → (∃ vs, oe.data = .fields vs) → L2.Takes (L2H.suiteX X a ((a, oe) :: pn)) Wout → L2H.HotC (L2H.suiteX X a ((a, oe) :: pn)) →
      PSs (L2H.suiteX X a ((a, oe) :: pn)) (b₀ :: suite) (ts a cls d)) :
    PS X (.Try body [.ExceptHandler (some e) none (b₀ :: suite) pos'] [] [] pos) (tTry0 X.K Wout cs tb ts) := by
  refine ⟨fun pins s σ H D I h => ?_⟩
  have ok := I.ok
  have hfr : X.A.frames = some (X.env :: X.outer) := by rw [ok.frames, hs]
  have notFr : ∀ {B h : Heap} {a : Addr} {o : Obj} {vs : Array Value}, h.FunFrames B (X.env :: X.outer) → h.get? a = some o → o.data = .fields vs → a ∉ frs (X.env :: X.outer) := fun {B h a o vs} ff e dd hm => by
    obtain ⟨_, o', e', hnf⟩ := ff.mem hm
    rw [e] at e'; cases e'
    exact hnf _ dd
  refine wpAny_Try_except ?_
  refine wpAny_mono ((hb (wCl0 X.K Wout D [(cs, ts)]) (X.pn ++ pins) (fun e1 s₁ => wpAny (model X.prog X.w) X.A (noteFrame e1 X.env) (fun _ s₂ => wpAny (model X.prog X.w) X.A (setFlight e1 none) (fun _ s₃ =>
    wpAny (model X.prog X.w) X.A (handleBy e1 X.env [.ExceptHandler (some e) none (b₀ :: suite) pos']) (SP X pins D) X.xe s₃) X.xe s₂) X.xe s₁) (fun u s' xx => ?_) PassesOwn.looking).run [] s σ H D (I.toTry _) h) (fun f s1 hsp => ?_) (fun e1 s1 he => he)
  · obtain ⟨a, B, sI, pins', σ', H', cls, d, rfl, J', nb, up, sky, na, os, ag, b, hb1, hyes, hno⟩ := xx
    have J : Inv X pins σ' H' sI := J'.ofTry ok
    have sky' : Sky B (X.env :: X.outer) a (L2N.Zn cls d) X.env.locals s'.heap := by rw [← hs]; exact sky
    show wpAny (model X.prog X.w) X.A (noteFrame (.ref a) X.env) _ _ _
    refine L2N.Sky.land L2N.Zn.steady hfr hf sky' fun h3 fl3 up3 => ?_
    have J3 : Inv X pins σ' H' { s' with heap := h3 } := J.landed nb fl3.1 (up.trans up3) os ag
    obtain ⟨oe3, vs3, he3, hz3, hd3⟩ := fl3.there
    have nfr : a ∉ frs (X.env :: X.outer) := notFr fl3.2.2.1 he3 hd3
    have nL : a ≠ X.env.locals := fun z => nfr (List.mem_filterMap.mpr ⟨X.env, List.mem_cons_self, by rw [hf, z]⟩)
    have nF : a ∉ X.fs := fun hm => by
      obtain ⟨e, he, q⟩ := List.mem_filterMap.mp hm
      exact nfr (List.mem_filterMap.mpr ⟨e, List.mem_cons_of_mem _ he, q⟩)
    have S3 := J3.suite he3 hd3 na nL nF
    refine wpAny_handleBy_cons (codeAny_handlers_test ?_) (by intro q; cases q)
    have LT : PySem.W.Looks (model X.prog X.w) h3 (typeOf (.ref a)) cls := fun A Q E s k q => wpAny_typeOf_ref (k _ _ he3) (by rw [hz3.1]; exact q)
    refine hc a oe3 (X.pn ++ pins) σ' H' { s' with heap := h3 } cls b X.A _ _ S3 LT hb1 fun h5 kp => ?_
    have fl5 := fly_keeps fl3 kp
    have up5 : sI.heap.UpToSlots h5 := (up.trans up3).trans (Heap.UpToSlots.of_keeps kp)
    cases b with
    | true =>
      refine codeAny_handlers_suite ?_
      refine HandSPX.lands_againZ fl5 fun h4 fl4 up4 => ?_
      have J4 : Inv X pins σ' H' { s' with heap := h4 } := J.landed nb fl4.1 (up5.trans up4) os ag
      obtain ⟨oe4, vs4, he4, hz4, hd4⟩ := fl4.there
      have S4 := J4.suite he4 hd4 na nL nF
      have tkS : L2.Takes (L2H.suiteX X a ((a, oe4) :: (X.pn ++ pins))) Wout := fun u2 s2 x2 => by
        obtain ⟨a2, B2, sI2, pn2, σ2, H2, cls2, d2, e2, I2, nb2, up2, sky2, na2, os2, ag2, w2⟩ := x2
        exact tk u2 s2 ⟨a2, B2, sI2, pins, σ2, H2, cls2, d2, e2, L2H.unsuiteX I2 ok, nb2, up2, sky2, na2, os2, ag2, w2⟩
      have hot : L2H.HotC (L2H.suiteX X a ((a, oe4) :: (X.pn ++ pins))) := ⟨(a, oe4), ⟨rfl, vs4, hd4, hz4.2.2 vs4 hd4⟩, List.mem_cons_self⟩
      refine wpAny_mono ((hsu a oe4 cls d (X.pn ++ pins) hz4 ⟨_, hd4⟩ tkS hot).run [] _ _ H' _ (L2H.suiteX_of S4) (hyes rfl a na)) (fun f s6 hsp => ?_) (fun e6 s6 z => hpa (some (.ref a)) e6 s6 z)
      cases f with
      | next =>
        obtain ⟨σ6, H6, S6, q6⟩ := hsp
        exact ⟨_, _, L2H.unsuiteX S6 ok, q6⟩
      | brk =>
        obtain ⟨σ6, H6, S6, q6⟩ := hsp
        exact ⟨_, _, L2H.unsuiteX S6 ok, q6⟩
      | cont =>
        obtain ⟨σ6, H6, S6, q6⟩ := hsp
        exact ⟨_, _, L2H.unsuiteX S6 ok, q6⟩
      | ret u =>
        obtain ⟨v6, σ6, H6, S6, r6, q6⟩ := hsp
        exact ⟨_, _, _, L2H.unsuiteX S6 ok, r6, q6⟩
    | false =>
      show wpAny _ X.A (handleBy (.ref a) X.env []) _ _ _
      refine wpAny_handleBy_nil ?_
      have fl6 := L2H.flyingZ_imp (fun o z => z.zc) fl5
      obtain ⟨k1, k2, k3, oe, vs, T, oT, ts', he, hz, hd, h1, hr⟩ := id fl6
      unfold PySem.passOn
      refine wpAny_bind (wpAny_field he hd h1 ?_)
      rw [if_neg (show ¬ ((Value.ref T == Value.none) = true) from by simp)]
      have fin : wpAny (model X.prog X.w) X.A (setFlight (.ref a) X.env.frame) (fun _ s4 => wpAny (model X.prog X.w) X.A (throw (.ref a) : Sem Flow) (SP X pins D) X.xe s4) X.xe { s' with heap := h5 } := by
        rw [hf]
        refine HandSPX.setFlight_upZ fl6 fun h4 hh4 up4 => wpAny_throw (tk _ _ ?_)
        exact ⟨a, B, sI, pins, σ', H', cls, d, rfl, J, nb, up5.trans up4, .inr (.inr (by rw [hs]; exact hh4)), na, os, ag, hno rfl⟩
      first
        | exact wpAny_bind (wpAny_pure (wpAny_bind fin))
        | exact wpAny_bind fin
  · cases f with
    | next =>
      obtain ⟨σ', H', J', q⟩ := hsp
      exact wpAny_execs_nil ⟨σ', H', J'.ofTry ok, q⟩
    | brk =>
      obtain ⟨σ', H', J', q⟩ := hsp
      exact ⟨σ', H', J'.ofTry ok, q⟩
    | cont =>
      obtain ⟨σ', H', J', q⟩ := hsp
      exact ⟨σ', H', J'.ofTry ok, q⟩
    | ret u =>
      obtain ⟨v, σ', H', J', r, q⟩ := hsp
      exact ⟨v, σ', H', J'.ofTry ok, r, q⟩
end
theorem rf_tryX {K : KW} {cs : List Value} {tb : WX → TS} {ts : Addr → Value → Option Addr → TS} {body : DXs → DS} {s : DS} (hb : ∀ (W : WX) (xs : DXs), RfS ⟨K.K, W, xs⟩ (tb W) (body xs)) (hs : ∀ a cls d, RfS K (ts a cls d) s) :
    RfS K (tTry0 K.K K.W cs tb ts) (dTry0 K.K cs body s K.xs) := by
  intro e da G δ σ H D Dd E R h
  let K' : KW := ⟨K.K, wCl0 K.K K.W D [(cs, ts)], fun C fs δ' => ∃ b, PySem.W.exmAny K.K (.ref C) cs = some b ∧ (b = true → s Dd δ') ∧ (b = false → K.xs C fs δ')⟩
  refine hb K'.W K'.xs e da G δ σ H D Dd (EndsOk.with (K := K) (K' := K') rfl E R.xo) ⟨R.toRel0, fun C dd fs gs G1 δ1 σ1 H1 R1 hd rF px => ?_⟩ h
  obtain ⟨b, he, hy, hn⟩ := px
  exact ⟨b, he, fun hb a _ => hs a (.ref C) (some dd) e da G1 δ1 σ1 H1 D Dd E ⟨R1, R.xo⟩ (hy hb), fun hb => R.xo C dd fs gs G1 δ1 σ1 H1 R1 hd rF (hn hb)⟩
/-! ### an own exception that is made while one is handled -/
section
variable {P : Program} {w : World} {K : PySem.W.Frag} {mg : Str → Option Value} {base : Heap}
theorem okE1H {x qual z fld : Str} {st : Stmt} {f C : Addr} {fd : FuncData} {N ps : List Str} {k : Nat} (F : FunD K x qual (defArgs st) (defBody st) (defScope st) [] [] f fd) (Sc : FnScope N ps (defScope st)) (hO : OexG K C) (hw : noA K C "word" = true) (hf : noA K C fld = true) (hl : ps.length = 2)
    (hbody : ∀ (cdv : Value) (A : Around) (outer : List PySem.Env) (s : Shared) (H : Hp) (E : XK) (p : Addr × Obj), PSs (L2H.cxH CX0 P w K mg base N qual (defScope st) f cdv A outer s H E p) (defBody st) (tSeq (tOstG K "word" (tVar 0) (tC (.str z))) (tOstG K fld (tVar 0) (tVar 1)))) :
    L2H.FnH P w K mg base CX0 (k + 1) f fd ps (spEI K C 1 fun ws => [(fld, ws.getD 0 .non), ("word", .str z)]) := by
  obtain ⟨oc, od, dV, kV, doc, pm, an, cdv, ct, osl, rfl, lk, hcd, _, _⟩ := F.ex
  refine L2H.fn_ofH lk hcd Sc (fun vs H Q E h => ?_) fun A outer s H vs Q E p hot hr h => ?_
  · obtain ⟨a, ws, rfl, hws, _⟩ := h
    rw [List.length_cons, hws, hl]
  · obtain ⟨a, ws, rfl, hws, _, ha, hq⟩ := h
    match ws, hws with
    | [v], _ =>
      refine ⟨_, hbody cdv A outer s H E p, ?_⟩
      exact ei1 (hσ := rfl) (hσ1 := rfl) hO (of_decide_eq_true hw) (of_decide_eq_true hf) ha (fun _ _ => rfl) hq
end
theorem pmkH {X : Cx} {CX : CXT} {x : Str} {e : Expr} {es : List Expr} {ta : TA} {p pos : Pos} {C fI : Addr} {k : Nat} {fd : FuncData} {ps : List Str} {sp : Sp} (T : OexI X.K C fI)
    (F1 : L2H.FnH X.prog X.w X.K X.mg X.base CX k fI fd ps sp) (hr : L2H.RoomH (k + 1) X.A) (hc : L2H.HotC X) (hb : Binds X.K fd ps []) (hx : Passes CX X (fun _ _ _ => False)) (hg : Gl X x) (hm : X.mg x = some (.ref C)) (ha : PA X (e :: es) ta)
    (hdb : (x == ("__debug__" : Str)) = false := by decide) (he : starEach (e :: es) X.env = (false, eval e X.env) :: starEach es X.env := by rfl) (hpl : (backTo pos (starEach es X.env)).any (·.1) = false := by rfl) :
    L2H.PMk5 X (.Call (.Name x p) (e :: es) [] pos) (tMkO C sp [] ta) := by
  intro pins s σ H Q I h
  obtain ⟨T0, nid, nm, q, N, bs, bm, sn, sub, ab, col, dd, k0, k1, k2, k3, k5, BT, hC, hbm⟩ := T.cls
  obtain ⟨B0, iid, FB⟩ := BT.fx
  obtain ⟨pn, hot, hpn⟩ := hc
  refine wpAny_Call_Name_kw (ld_glob I hg hm ?_ hdb)
  refine PySem.W.callWith_K (h₀ := X.base) I.ok.mod.kin T.kC (thn (ha.run pos pins s σ H _ I h) fun us s1 ⟨vs, H1, I1, r1, hz, q1⟩ => ⟨I1.kIn, ?_⟩) he hpl
  show wpAny _ _ (call (.ref C) us) _ _ _
  obtain ⟨hp, g, dr, tk, os⟩ := s1
  have hsz : hp.objs.size ≤ hp.objs.size + 1 := Nat.le_succ _
  have hn : H1 (hp.objs.size + 1) = none := I1.hok.fresh hsz
  have hq := q1 (hp.objs.size + 1) hn
  rw [List.append_nil] at hq
  have kk : ∀ b o, hp.get? b = some o → ((hp.push (PySem.W.kdv_tup us)).push (PySem.HandSPX.excO C hp.objs.size)).get? b = some o := fun b o e => Heap.get?_push_of_some _ (Heap.get?_push_of_some _ e)
  have hget : ((hp.push (PySem.W.kdv_tup us)).push (PySem.HandSPX.excO C hp.objs.size)).get? (hp.objs.size + 1) = some (PySem.HandSPX.excO C hp.objs.size) := by heap_get
  have I2 : Inv X pins σ (upd H1 (hp.objs.size + 1) (exo (hp.objs.size + 1) C none)) ⟨(hp.push (PySem.W.kdv_tup us)).push (PySem.HandSPX.excO C hp.objs.size), g, dr, tk, os⟩ :=
    I1.laid (t' := tk) (a := hp.objs.size + 1) (o := exo (hp.objs.size + 1) C none) (h' := (hp.push (PySem.W.kdv_tup us)).push (PySem.HandSPX.excO C hp.objs.size)) kk hsz (exo_ok hget)
  have r2 : Vals (V.ref (hp.objs.size + 1) :: vs) (Value.ref (hp.objs.size + 1) :: us) := .cons rfl r1
  have hl : (Value.ref (hp.objs.size + 1) :: us ++ []).length = ps.length := by
    have e := r2.length
    rw [F1.len _ _ _ _ hq] at e
    rw [List.append_nil]
    exact e.symm
  have hus : us.length ≤ sizeLine := by rw [← Paired.length r1]; exact sz6 (by omega)
  have b2 := hb _ (Value.ref (hp.objs.size + 1) :: us) I2.kIn hl
  rw [List.append_nil] at b2
  have P1 := I2.pin pn (List.mem_append_left _ hpn)
  have hpin : L2H.PinOk X.stack (upd H1 (hp.objs.size + 1) (exo (hp.objs.size + 1) C none)) ⟨(hp.push (PySem.W.kdv_tup us)).push (PySem.HandSPX.excO C hp.objs.size), g, dr, tk, os⟩ pn :=
    ⟨P1.1, P1.2.1, fun hmm => (List.mem_cons.mp (I2.stkSub pn.1 hmm)).elim P1.2.2.1 P1.2.2.2.1, P1.2.2.2.2⟩
  refine wpAny_call (PySem.HandSPX.call_own FB (fun Y => DLX.own_has Y bm hbm) (I1.kIn _ _ hC) (PySem.W.looks_findIn I1.kIn T.ini) (fun self => PySem.W.bind_fn I1.kIn self T.fn) hus
    (codeAny_mono (F1.run _ X.stack _ _ ⟨Value.ref (hp.objs.size + 1) :: us, []⟩ (Value.ref (hp.objs.size + 1) :: us) _ _ (fun _ _ _ => False) pn (L2H.RoomH.make hr C us []) ⟨hot.1, hot.2⟩ hpin (I2.env0.make C us []) b2 r2 hq) fun r s' hq' => ?_))
  cases r with
  | error er => exact hx pins σ _ _ er s' I2 hq'
  | ok fl =>
    cases fl with
    | ret u =>
      obtain ⟨v, H2, os2, bare2, un2, hok2, rv, ev, d, fs, ea, ed, hd1, q2⟩ := hq'
      subst ev
      obtain ⟨h2, g2, d2, t2, os'⟩ := s'
      obtain ⟨t0, G, J, kG, ge, hoe, na⟩ := mk_end0 (d2 := d2) (t2 := t2) I1 hsz kk un2 hok2 os2 bare2 ea ed hd1
      refine ⟨rv, ⟨hp.objs.size + 1, _, _, ⟨G, g2, d2, t2, os'⟩, _, .ref C, some d, rfl, J, kG, ge, hoe, ⟨rfl, rfl, fun vs hv => ?_⟩, rfl, rfl, na, rfl, bare2, raises_own T.exC T.tyC, q2⟩, fun a oe vs ea2 hg2 hd2 => ?_⟩
      · cases hv
        rfl
      · cases ea2
        have hg3 : h2.get? (hp.objs.size + 1) = some oe := hg2
        rw [hoe] at hg3
        cases hg3
        cases hd2
        show (4 : Nat) < 6
        decide
    | next => exact False.elim hq'
    | brk => exact False.elim hq'
    | cont => exact False.elim hq'
end DL

/-! x[::-1]; int of truth values -/
namespace DL
open PySem PySem.Spec PyProof.Rows L2
/-! ### x[::-1] -/
theorem fm_map {α β : Type} {f : α → Option β} {g : α → β} : ∀ (l : List α), (∀ k ∈ l, f k = some (g k)) → l.filterMap f = l.map g
  | [], _ => rfl
  | x :: l, h => by rw [List.filterMap_cons_some (h x List.mem_cons_self), List.map_cons, fm_map l fun k hk => h k (List.mem_cons_of_mem _ hk)]
section
variable {X : Cx} {e est : Expr} {te : TE} {tst : TO} {pos p2 : Pos}
theorem pick_rev (items : Array Value) : slicePick items none none (some (-1)) = items.toList.reverse.toArray := by
  have hb : sliceBounds none none (some (-1)) items.size = ((items.size : Int) - 1, -1, -1) := rfl
  unfold slicePick
  rw [hb]
  congr 1
  have hr : sliceRange ((items.size : Int) - 1) (-1) (-1) = (List.range items.size).map fun k => (items.size - 1 - k : Nat) := by
    unfold sliceRange
    have h1 : ¬ ((-1 : Int) > 0) := by omega
    simp only [h1, if_false]
    by_cases h0 : items.size = 0
    · simp [h0]
    · have h2 : ((items.size : Int) - 1) > -1 := by omega
      simp only [h2, if_true]
      have h3 : (((items.size : Int) - 1 - -1 - -1 - 1) / - -1).toNat = items.size := by
        have : ((items.size : Int) - 1 - -1 - -1 - 1) / - -1 = (items.size : Int) := by
          have e1 : (- -1 : Int) = 1 := rfl
          rw [e1, Int.ediv_one]
          omega
        rw [this]; rfl
      rw [h3]
      apply List.map_congr_left
      intro k hk
      have := List.mem_range.mp hk
      omega
  rw [hr, List.filterMap_map]
  apply List.ext_getElem?
  intro i
  rw [fm_map (g := fun k => items.toList.getD (items.size - 1 - k) .none)]
  · rw [List.getElem?_map]
    by_cases hi : i < items.size
    · rw [List.getElem?_range hi, List.getElem?_reverse (by simpa using hi)]
      simp only [Option.map_some, Array.length_toList, List.getD_eq_getElem?_getD]
      rw [List.getElem?_eq_getElem (by simp; omega)]
      rfl
    · rw [List.getElem?_eq_none (by simpa using hi), List.getElem?_eq_none (by simpa using hi)]
      rfl
  · intro k hk
    have := List.mem_range.mp hk
    show items[items.size - 1 - k]? = _
    rw [List.getD_eq_getElem?_getD, ← Array.getElem?_toList, List.getElem?_eq_getElem (by simp; omega)]
    rfl
def rRev (K : PySem.W.Frag) : V → Hp → VK → Prop := fun x H Q => ∃ a xs, x = .ref a ∧ ((SqL K H a xs ∧ ∀ p, H p = none → Q (.ref p) (upd H p (.lst xs.reverse))) ∨ (SqT K H a xs ∧ ∀ p, H p = none → Q (.ref p) (upd H p (.tup xs.reverse))))
def tRev (K : PySem.W.Frag) (te : TE) (tst : TO) : TE := fun σ H Q => te σ H fun x H1 => tst σ H1 fun o H2 => o = some (-1) ∧ rRev K x H2 Q
theorem applied_rev {prog : Program} {w : World} {A : Around} {E : Value → Shared → Prop} {s : Shared} {sl : Addr} {u : Tok} {n : Nat} {Q : Int × Int × Nat → Shared → Prop} (hs : s.heap.IsSliceOf sl .none .none (.int (-1) u))
    (h : Q ((n : Int) - 1, -1, n) s) : wpAny (model prog w) A (Builtin.Slice.sliceApplied (.ref sl) (pure (n : Int))) Q E s := by
  obtain ⟨os, hos, hcs, hds⟩ := id hs
  unfold Builtin.Slice.sliceApplied Builtin.Slice.sliceFields
  refine wpAny_bind (wpAny_bind (wpAny_field hos hds (x := .none) rfl (wpAny_bind (wpAny_field hos hds (x := .none) rfl (wpAny_bind (wpAny_field hos hds (x := .int (-1) u) rfl (wpAny_pure ?_)))))))
  refine wpAny_bind (slicePart_int ?_)
  show wpAny _ _ (if ((-1 : Int) == 0) = true then _ else _) _ _ s
  rw [if_neg (by decide)]
  refine wpAny_bind (slicePart_none (wpAny_bind (slicePart_none (wpAny_bind (wpAny_pure ?_)))))
  have e : Builtin.Slice.slicePlaces ((n : Int) - 1) (-1) (-1) = n := by
    unfold Builtin.Slice.slicePlaces
    have h1 : ¬ ((-1 : Int) > 0) := by omega
    simp only [h1, if_false]
    have e1 : (- -1 : Int) = 1 := rfl
    rw [e1, Int.ediv_one]
    split <;> omega
  show wpAny _ _ (pure ((n : Int) - 1, (-1 : Int), Builtin.Slice.slicePlaces ((n : Int) - 1) (-1) (-1))) _ _ s
  rw [e]
  exact wpAny_pure h
theorem pick_revT (xs : Array Value) : ((List.range xs.size).filterMap fun (k : Nat) => xs[(((xs.size : Int) - 1) + (k : Int) * -1).toNat]?).toArray = xs.toList.reverse.toArray := by
  rw [← pick_rev]
  have hb : sliceBounds none none (some (-1)) xs.size = ((xs.size : Int) - 1, -1, -1) := rfl
  unfold slicePick
  rw [hb]
  congr 1
  unfold sliceRange
  have h1 : ¬ ((-1 : Int) > 0) := by omega
  simp only [h1, if_false]
  by_cases h0 : xs.size = 0
  · simp [h0]
  · have h2 : ((xs.size : Int) - 1) > -1 := by omega
    simp only [h2, if_true]
    have h3 : (((xs.size : Int) - 1 - -1 - -1 - 1) / - -1).toNat = xs.size := by
      have : ((xs.size : Int) - 1 - -1 - -1 - 1) / - -1 = (xs.size : Int) := by
        have e1 : (- -1 : Int) = 1 := rfl
        rw [e1, Int.ediv_one]
        omega
      rw [this]; rfl
    rw [h3, List.filterMap_map]
    congr 1
    funext k
    show xs[((xs.size : Int) - 1 + (k : Int) * -1).toNat]? = xs[((xs.size : Int) - 1 + -1 * (k : Int)).toNat]?
    rw [Int.mul_comm]
theorem getItem_tuple_rev {prog : Program} {w : World} {A : Around} {E : Value → Shared → Prop} {s : Shared} {t sl : Addr} {items : Array Value} {u : Tok} {Q : Value → Shared → Prop} (ht : IsTup s.heap t items) (hs : s.heap.IsSliceOf sl .none .none (.int (-1) u))
    (h : Q (.ref s.heap.objs.size) { s with heap := s.heap.push { cls := .type "tuple", data := .seq items.toList.reverse.toArray } }) (hsz : items.size ≤ sizeLine) : wpAny (model prog w) A (getItem (.ref t) (.ref sl)) Q E s := by
  have htake : sizeOk (.seq items.toList.reverse.toArray) := by
    show items.toList.reverse.toArray.size ≤ sizeLine
    rw [List.size_toArray, List.length_reverse, Array.length_toList]
    exact hsz
  obtain ⟨os, hos, hcs, hds⟩ := id hs
  have hTs : s.TypeIs (.ref sl) "slice" := ⟨os, hos, hcs⟩
  unfold getItem
  try with_reducible refine wpAny_holding ?_
  first | refine wpAny_bind (wpAny_pure ?_) | skip
  refine wpAny_bind (wpAny_sequenceKey ht.typeIs (by decide) ?_)
  refine wpAny_bind (wpAny_callSpecial?_slot (name := Str.ofString "__getitem__") ht.typeIs PyProof.Rows.slot_tuple_getitem
    (wpAny_call_entry PyProof.Rows.slot_tuple_getitem ht.typeIs entry_tuple_getitem ?_ (args_tuple_getitem _ _)))
  show wpAny _ _ (Builtin.Tuple.tupleItemsOf (.ref t) >>= _) _ _ s
  refine wpAny_bind (tupleItemsOf_ ht ?_)
  refine wpAny_bind (wpAny_typeOf hTs ?_)
  rw [if_pos (by decide)]
  refine wpAny_bind (applied_rev hs ?_)
  have hno : ¬ ((((items.size : Int) - 1) == 0 && (-1 : Int) == 1 && items.size == items.size) = true) := by
    intro q
    rw [Bool.and_eq_true, Bool.and_eq_true] at q
    exact absurd q.1.2 (by decide)
  show wpAny _ _ (if (((items.size : Int) - 1) == 0 && (-1 : Int) == 1 && items.size == items.size) = true then _ else _) _ _ s
  rw [if_neg hno, pick_revT]
  first
    | exact wpAny_bind (m := Builtin.Tuple.tupleExact _) (wpAny_newObj_type (wpAny_pure ⟨_, rfl, wpAny_pure h⟩) htake)
    | exact wpAny_bind (m := Builtin.Tuple.tupleExact _) (wpAny_newObj_type (wpAny_bind (wpAny_pure (wpAny_pure ⟨_, rfl, wpAny_pure h⟩))) htake)
    | exact wpAny_bind (wpAny_bind (m := Builtin.Tuple.tupleExact _) (wpAny_newObj_type (wpAny_pure (wpAny_pure ⟨_, rfl, wpAny_pure h⟩)) htake))
    | exact wpAny_bind (wpAny_bind (m := Builtin.Tuple.tupleExact _) (wpAny_newObj_type (wpAny_pure ⟨_, rfl, wpAny_pure h⟩) htake))
theorem pe_rev (he : PE X e te) (hs : PO X (some est) tst) : PE X (.Subscript e (.Slice none none (some est) p2) pos) (tRev X.K te tst) := by
  refine ⟨fun pins s σ H Q I h => ?_⟩
  refine Subscript_ (thn (he.run pins s σ H _ I h) fun v s1 ⟨x, H1, I1, r1, q1⟩ => ?_)
  refine wpAny_Slice ?_
  refine wpAny_pure (wpAny_pure (thn (hs.run pins s1 σ H1 _ I1 q1) fun vs s3 ⟨o, H3, I3, po, ho, q3⟩ => ?_))
  subst ho
  have I4 : Inv X pins σ H3 { s3 with heap := s3.heap.push { cls := .type "slice", data := .fields #[.none, .none, vs] } } := I3.kept (t' := s3.toks) fun b ob q => Heap.get?_push_of_some _ q
  obtain ⟨a, xs, rfl, hq⟩ := q3
  cases r1
  show wpAny (model X.prog X.w) X.A (subscriptTail e (.Slice none none (some est) p2) (.ref a) (.ref s3.heap.objs.size)) (EP X pins σ Q) X.xe { s3 with heap := s3.heap.push { cls := .type "slice", data := .fields #[.none, .none, vs] } }
  rcases hq with ⟨hx, q⟩ | ⟨hx, q⟩
  · obtain ⟨its, r, ht, hz⟩ := I4.list hx
    have hlen := r.length
    refine tail_any (ops := [.ref a, .ref s3.heap.objs.size]) ht.isList.typeIs slot_list_getitem.lookup (wpAny_getItem_list_slice ht.isList (Heap.IsSliceOf.new ..) .none .none po (by simp) ?_ (by rw [List.size_toArray] <;> omega)) (by with_unfolding_all rfl)
    rw [pick_rev]
    refine ⟨.ref _, _, I4.laid (t' := s3.toks) (o := .lst xs.reverse) (fun b ob q => Heap.get?_push_of_some _ q) (Nat.le_refl _) ?_, rfl, q _ (I4.hok.fresh (Nat.le_refl _))⟩
    exact ⟨by rw [List.length_reverse]; exact hz, _, 0, r.reverse, Heap.get?_push_size _ rfl⟩
  · obtain ⟨its, r, ht, hz⟩ := I4.tuple hx
    have hlen : its.toArray.size = xs.length := by rw [List.size_toArray]; exact r.length.symm
    cases po with
    | int i t =>
      refine tail_any (ops := [.ref a, .ref s3.heap.objs.size]) ht.typeIs PyProof.Rows.slot_tuple_getitem.lookup (getItem_tuple_rev ht (Heap.IsSliceOf.new ..) ?_ (by rw [hlen]; exact hz)) (by with_unfolding_all rfl)
      refine ⟨.ref _, _, I4.laid (t' := s3.toks) (o := .tup xs.reverse) (fun b ob q => Heap.get?_push_of_some _ q) (Nat.le_refl _) ?_, rfl, q _ (I4.hok.fresh (Nat.le_refl _))⟩
      exact ⟨by rw [List.length_reverse]; exact hz, _, r.reverse, IsTup.new _ _⟩
end
def dRev (a : DE) (p : DOp) : DE := fun δ P => a δ fun x δ1 => p δ1 fun o δ2 => o = some (-1) ∧ match x with
  | .lst l => P (.lst l.reverse) δ2
  | .tup l => P (.tup l.reverse) δ2
  | _ => False
theorem rf_rev {K : KW} {te : TE} {tst : TO} {a : DE} {p : DOp} (ha : RfE K te a) (hp : RfP K tst p) : RfE K (tRev K te tst) (dRev a p) := by
  intro e da G δ σ H P Q R h k
  refine ha e da G δ σ H _ _ R h fun x δ1 v G1 H1 R1 e1 r1 h1 => ?_
  refine hp e da G1 δ1 σ H1 _ _ R1 h1 fun o δ2 G2 H2 R2 e2 ⟨ho, h2⟩ => ⟨ho, ?_⟩
  have r2 := r1.up e2
  cases r2 with
  | @lst a xs ds hg ra =>
    refine ⟨a, xs, rfl, .inl ⟨.inl (.inl (R2.ex _ _ hg)), fun p hp => ?_⟩⟩
    have hgn := (R2.enone hp).2
    have e3 : Same G2 (upd G2 p (.lst xs.reverse)) := Same.new hgn
    exact k _ _ _ _ _ (R2.put (o := .lst xs.reverse) hp) ((e1.trans e2).trans e3) (.lst upd_same (ra.rev.up e3)) h2
  | @tup a xs ds hg ra =>
    refine ⟨a, xs, rfl, .inr ⟨same_t R2.ex hg, fun p hp => ?_⟩⟩
    have hgn := (R2.enone hp).2
    have e3 : Same G2 (upd G2 p (.tup xs.reverse)) := Same.new hgn
    exact k _ _ _ _ _ (R2.put (o := .tup xs.reverse) hp) ((e1.trans e2).trans e3) (.tup (.inl (.inl upd_same)) (ra.rev.up e3)) h2
  | _ => exact h2.elim
/-! ### int(x) -/
def dIntC : DC := fun ds P => match ds with
  | [.int i] => P (.int i)
  | [.bl k] => P (.int (if k then 1 else 0))
  | _ => False
theorem rfc_int {K : PySem.W.Frag} : RfC K (fun xs H Q => (∃ i, xs = [.int i] ∧ Q (.int i) H) ∨ ∃ k, xs = [.bl k] ∧ Q (.int (if k then 1 else 0)) H) dIntC := by
  intro da G H xs ds P Q e dl r h k
  match ds, xs, r with
  | [.int i], _, .cons (.int _) .nil => exact .inl ⟨i, rfl, k _ _ G H (stay e dl) (.int _) h⟩
  | [.bl b], _, .cons (.bl _) .nil => exact .inr ⟨b, rfl, k _ _ G H (stay e dl) (.int _) h⟩
/-! ### keywords in another order -/
def prm {α : Type} (p : List Nat) (l : List α) : List α := p.filterMap fun i => l[i]?
theorem prm_vals (p : List Nat) {xs : List V} {us : List Value} (r : Vals xs us) : Vals (prm p xs) (prm p us) := by
  unfold prm
  induction p with
  | nil => exact .nil
  | cons i p ih =>
    cases h : xs[i]? with
    | none => rw [List.filterMap_cons_none h, List.filterMap_cons_none (r.none_of h)]; exact ih
    | some x =>
      obtain ⟨u, hu, ru⟩ := r.get h
      rw [List.filterMap_cons_some h, List.filterMap_cons_some hu]
      exact .cons ru ih
theorem prm_rpa (p : List Nat) {K : PySem.W.Frag} {da : Option Addr} {G : Hp} {ds : List D} {vs : List V} (r : RpA K da G ds vs) : RpA K da G (prm p ds) (prm p vs) := by
  unfold prm
  induction p with
  | nil => exact .nil
  | cons i p ih =>
    cases h : ds[i]? with
    | none =>
      have h2 : vs[i]? = none := by
        rw [List.getElem?_eq_none_iff] at h ⊢
        rw [← r.length]; exact h
      rw [List.filterMap_cons_none h, List.filterMap_cons_none h2]; exact ih
    | some x =>
      obtain ⟨u, hu, ru⟩ := r.get h
      rw [List.filterMap_cons_some h, List.filterMap_cons_some hu]
      exact .cons ru ih
theorem GOk.prm {K : PySem.W.Frag} {p : List Nat} : GOk K (fun ds es => ds ++ prm p es) (fun vs zs => vs ++ prm p zs) := fun _ _ _ _ _ _ r s => r.app (prm_rpa p s)
theorem rf_asgNV {K : KW} {i j k : Nat} {tn : TE} {n : Env → (List D → Env → Prop) → Prop} (ha : RfN K tn n) : RfS K (tAsg (tTup (tCons tn (tCons (tVar k) tNil))) (gTup K.K 2 (gCons (gName i) (gCons (gName j) gNil)))) (dParNV i j n k) := fun e da G δ σ H D Dd E R h =>
  ha e da G δ σ H _ _ R h fun ds δ' p xs G' H0 H' R' eg hp eh r ⟨d, hk, h'⟩ => by
    subst eh
    obtain ⟨A, ⟨_, v, e1, rv⟩, _⟩ := R'.at hk
    have R1 := R'.mine hp r i
    refine ⟨v, e1, by show 2 ≤ _; rw [sizeLine_eq]; decide, fun t ht => ?_⟩
    refine ⟨t, _, rfl, .inl (.inl upd_same), rfl, _, _, rfl, _, _, rfl, rfl, ?_⟩
    exact E.nx _ _ _ _ ((R1.go (Trn.mine R1.ex R1.dl ht)).val rv j) h'
end DL

/-! zip of a tuple and a list, either way -/
namespace ZM
open PySem RZ
open PySem.Sem (wp)
section
variable {prog : Program} {w : World} {A : Around} {E : Value → Shared → Prop} {s : Shared}
theorem zipTL_next_item {z TI TO i1 i2 l1 l2 : Addr} {k1 k2 : Nat} {xs ys : Array Value} {x y a b : Value} {Q : Value → Shared → Prop} (D : ZipApart z TI TO i1 i2 l1 l2)
    (hz : IsZip s.heap z TI TO .none) (hTI : IsPair s.heap TI (.ref i1) (.ref i2)) (hTO : IsPair s.heap TO a b)
    (h1 : s.heap.IsTupleIter i1 l1 k1) (h2 : s.heap.IsListIter i2 l2 k2) (hl1 : s.heap.IsTuple l1 xs) (hl2 : s.heap.IsList l2 ys) (hx : xs[k1]? = some x) (hy : ys[k2]? = some y)
    (hQ : ∀ h', IsZip h' z TI TO (rawInt s.heap.objs.size) → IsPair h' TO x y → h'.IsTupleIter i1 l1 (k1 + 1) → h'.IsListIter i2 l2 (k2 + 1) → IsPair h' s.heap.objs.size x y → h'.objs.size = s.heap.objs.size + 1 →
      (∀ c o, c ≠ z → c ≠ TO → c ≠ i1 → c ≠ i2 → s.heap.get? c = some o → h'.get? c = some o) → Q (.ref s.heap.objs.size) { s with heap := h' }) :
    wpAny (model prog w) A (Builtin.«zip.__next__» ⟨[.ref z], []⟩) (fun fin s' => ∃ v, fin = .done (.ret v) ∧ Q v s') E s := by
  show wpAny _ _ (field (.ref z) 2 >>= _) _ _ _
  refine wpAny_bind (wpAny_field hz rfl (x := .bool false) rfl ?_)
  show wpAny _ _ (field (.ref z) 3 >>= _) _ _ _
  refine wpAny_bind (wpAny_field hz rfl (x := .ref TI) rfl ?_)
  refine wpAny_bind (wpAny_seqItems hTI rfl ?_)
  show wpAny _ _ (Builtin.SmallTypes.ownedTupleIsFree (.ref z) >>= _) _ _ _
  refine wpAny_bind ?_
  unfold Builtin.SmallTypes.ownedTupleIsFree
  refine wpAny_bind (wpAny_field hz rfl (x := .none) rfl (wpAny_pure ?_))
  simp only [if_true]
  refine wpAny_bind (wpAny_rule ?_)
  refine wpAny_bind (wpAny_field hz rfl (x := .ref TO) rfl ?_)
  refine wpAny_bind (wpAny_setField_rec hz (by simp) fun h₁ hz₁ hs₁ => ?_)
  replace hz₁ : IsZip h₁ z TI TO .ellipsis := hz₁
  refine wpAny_bind ?_
  simp only [List.zipIdx_cons, List.zipIdx_nil, List.forIn_cons, List.forIn_nil]

  refine wpAny_bind (wpAny_bind (wpAny_onRaise ?_))
  show wpAny _ _ (Builtin.SmallTypes.nextOf (.ref i1) >>= _) _ _ _
  refine wpAny_bind (nextOf_tuple_item (h1.extBut hs₁.extBut D.i1z) (hl1.extBut hs₁.extBut D.l1z) hx fun h₂ h1₂ hs₂ => wpAny_pure ?_)
  have hTO₂ : IsPair h₂ TO a b := hs₂.extBut _ _ D.TOi1 (hs₁.extBut _ _ D.TOz hTO)
  refine wpAny_bind (wpAny_seqItems hTO₂ rfl ?_)
  refine wpAny_bind (wpAny_updateSeq_pair hTO₂ fun h₃ hTO₃ hs₃ => ?_)
  replace hTO₃ : IsPair h₃ TO x b := hTO₃
  refine wpAny_bind (wpAny_letGo (wpAny_pure ?_))

  refine wpAny_bind (wpAny_bind (wpAny_onRaise ?_))
  show wpAny _ _ (Builtin.SmallTypes.nextOf (.ref i2) >>= _) _ _ _
  refine wpAny_bind (wpAny_nextOf_list_item (((h2.extBut hs₁.extBut D.i2z).extBut hs₂.extBut D.i12.symm).extBut hs₃.extBut D.TOi2.symm)
    (((hl2.extBut hs₁.extBut D.l2z).extBut hs₂.extBut D.l2i1).extBut hs₃.extBut D.l2TO) hy fun h₄ h2₄ hs₄ => wpAny_pure ?_)
  have hTO₄ : IsPair h₄ TO x b := hs₄.extBut _ _ D.TOi2 hTO₃
  refine wpAny_bind (wpAny_seqItems hTO₄ rfl ?_)
  refine wpAny_bind (wpAny_updateSeq_pair hTO₄ fun h₅ hTO₅ hs₅ => ?_)
  replace hTO₅ : IsPair h₅ TO x y := hTO₅
  refine wpAny_bind (wpAny_letGo (wpAny_pure (wpAny_pure ?_)))

  refine wpAny_bind (wpAny_seqItems hTO₅ rfl ?_)
  refine wpAny_bind (wpAny_newTuple ?_)
  have hsz : h₅.objs.size = s.heap.objs.size := by rw [hs₅.1, hs₄.1, hs₃.1, hs₂.1, hs₁.1]
  have hz₅ : IsZip h₅ z TI TO .ellipsis := hs₅.extBut _ _ D.TOz.symm (hs₄.extBut _ _ D.i2z.symm (hs₃.extBut _ _ D.TOz.symm (hs₂.extBut _ _ D.i1z.symm hz₁)))
  have hk₅ : ∀ c o, c ≠ z → c ≠ TO → c ≠ i1 → c ≠ i2 → s.heap.get? c = some o → h₅.get? c = some o := fun c o c1 c2 c3 c4 e =>
    hs₅.extBut _ _ c2 (hs₄.extBut _ _ c4 (hs₃.extBut _ _ c2 (hs₂.extBut _ _ c3 (hs₁.extBut _ _ c1 e))))
  have h1₅ : h₅.IsTupleIter i1 l1 (k1 + 1) := ((h1₂.extBut hs₃.extBut D.TOi1.symm).extBut hs₄.extBut D.i12).extBut hs₅.extBut D.TOi1.symm
  have h2₅ : h₅.IsListIter i2 l2 (k2 + 1) := h2₄.extBut hs₅.extBut D.TOi2.symm
  have hzlt : z < h₅.objs.size := Heap.lt_size hz₅
  have hTOlt : TO < h₅.objs.size := Heap.lt_size hTO₅
  have hi1lt : i1 < h₅.objs.size := by obtain ⟨_, e, _⟩ := h1₅; exact Heap.lt_size e
  have hi2lt : i2 < h₅.objs.size := by obtain ⟨_, e, _⟩ := h2₅; exact Heap.lt_size e
  show wpAny _ _ (Builtin.SmallTypes.ownedTupleHandOut (.ref z) (.ref h₅.objs.size) >>= _) _ _ _
  refine wpAny_bind ?_
  unfold Builtin.SmallTypes.ownedTupleHandOut
  have hz₆ : IsZip (h₅.push { cls := .type "tuple", data := .seq #[x, y] }) z TI TO .ellipsis := Heap.get?_push_of_some _ hz₅
  refine wpAny_bind (wpAny_setField_rec hz₆ (by simp) fun h₇ hz₇ hs₇ => ?_)
  replace hz₇ : IsZip h₇ z TI TO (rawInt h₅.objs.size) := hz₇
  refine wpAny_setField_rec hz₇ (by simp) fun h₈ hz₈ hs₈ => ?_
  replace hz₈ : IsZip h₈ z TI TO (rawInt h₅.objs.size) := hz₈
  have up : ∀ c o, c ≠ z → h₅.get? c = some o → h₈.get? c = some o := fun c o c1 e => hs₈.extBut _ _ c1 (hs₇.extBut _ _ c1 (Heap.get?_push_of_some _ e))
  have hT₈ : IsPair h₈ h₅.objs.size x y := hs₈.extBut _ _ (Nat.ne_of_gt hzlt) (hs₇.extBut _ _ (Nat.ne_of_gt hzlt) (Heap.get?_push_size _ rfl))
  have hz8 : h₈.objs.size = h₅.objs.size + 1 := by rw [hs₈.1, hs₇.1, Heap.size_push]
  rw [hsz] at hz₈ hT₈ hz8
  refine wpAny_pure ⟨_, rfl, ?_⟩
  show Q (.ref h₅.objs.size) _
  rw [hsz]
  exact hQ h₈ hz₈ (up _ _ D.TOz hTO₅) (h1₅.at fun o e => up _ o D.i1z e) (h2₅.at fun o e => up _ o D.i2z e) hT₈ hz8 fun c o c1 c2 c3 c4 e => up c o c1 (hk₅ c o c1 c2 c3 c4 e)

theorem zipTL_next_end {z TI TO i1 i2 l1 l2 : Addr} {k1 k2 : Nat} {xs ys : Array Value} {a b : Value} {Q : Fin → Shared → Prop} (hh : A.handled = none) (D : ZipApart z TI TO i1 i2 l1 l2)
    (hz : IsZip s.heap z TI TO .none) (hTI : IsPair s.heap TI (.ref i1) (.ref i2)) (hTO : IsPair s.heap TO a b)
    (h1 : s.heap.IsTupleIter i1 l1 k1) (h2 : s.heap.IsListIter i2 l2 k2) (hl1 : s.heap.IsTuple l1 xs) (hl2 : s.heap.IsList l2 ys) (hend : xs[k1]? = none ∨ ys[k2]? = none)
    (hE : ∀ h' e, (∀ c o, c ≠ z → c ≠ TO → c ≠ i1 → c ≠ i2 → s.heap.get? c = some o → h'.get? c = some o) → (∃ o, h'.get? e = some o ∧ o.cls = .type "StopIteration") → E (.ref e) { s with heap := h' }) :
    wpAny (model prog w) A (Builtin.«zip.__next__» ⟨[.ref z], []⟩) Q E s := by
  show wpAny _ _ (field (.ref z) 2 >>= _) _ _ _
  refine wpAny_bind (wpAny_field hz rfl (x := .bool false) rfl ?_)
  show wpAny _ _ (field (.ref z) 3 >>= _) _ _ _
  refine wpAny_bind (wpAny_field hz rfl (x := .ref TI) rfl ?_)
  refine wpAny_bind (wpAny_seqItems hTI rfl ?_)
  show wpAny _ _ (Builtin.SmallTypes.ownedTupleIsFree (.ref z) >>= _) _ _ _
  refine wpAny_bind ?_
  unfold Builtin.SmallTypes.ownedTupleIsFree
  refine wpAny_bind (wpAny_field hz rfl (x := .none) rfl (wpAny_pure ?_))
  simp only [if_true]
  refine wpAny_bind (wpAny_rule ?_)
  refine wpAny_bind (wpAny_field hz rfl (x := .ref TO) rfl ?_)
  refine wpAny_bind (wpAny_setField_rec hz (by simp) fun h₁ hz₁ hs₁ => ?_)
  replace hz₁ : IsZip h₁ z TI TO .ellipsis := hz₁
  refine wpAny_bind ?_
  simp only [List.zipIdx_cons, List.zipIdx_nil, List.forIn_cons, List.forIn_nil]
  refine wpAny_bind (wpAny_bind (wpAny_onRaise ?_))
  show wpAny _ _ (Builtin.SmallTypes.nextOf (.ref i1) >>= _) _ _ _
  cases hx : xs[k1]? with
  | none =>
    refine wpAny_bind (nextOf_tuple_end hh (h1.extBut hs₁.extBut D.i1z) (hl1.extBut hs₁.extBut D.l1z) hx fun h₂ e hs₂ he => ?_)
    obtain ⟨oe, hoe, hce⟩ := he
    have hz₂ : IsZip h₂ z TI TO .ellipsis := hs₂ _ _ D.i1z.symm hz₁
    have hez : e ≠ z := fun x => by subst x; rw [hz₂] at hoe; cases hoe; simp at hce
    refine wpAny_setField_rec hz₂ (by simp) fun h₃ _ hs₃ => hE h₃ e (fun c o c1 _ c3 _ x => hs₃.extBut _ _ c1 (hs₂ _ _ c3 (hs₁.extBut _ _ c1 x))) ⟨oe, hs₃.extBut _ _ hez hoe, hce⟩
  | some x =>
    have hy : ys[k2]? = none := by rcases hend with h | h; rw [hx] at h; cases h; exact h
    refine wpAny_bind (nextOf_tuple_item (h1.extBut hs₁.extBut D.i1z) (hl1.extBut hs₁.extBut D.l1z) hx fun h₂ h1₂ hs₂ => wpAny_pure ?_)
    have hTO₂ : IsPair h₂ TO a b := hs₂.extBut _ _ D.TOi1 (hs₁.extBut _ _ D.TOz hTO)
    refine wpAny_bind (wpAny_seqItems hTO₂ rfl ?_)
    refine wpAny_bind (wpAny_updateSeq_pair hTO₂ fun h₃ hTO₃ hs₃ => ?_)
    refine wpAny_bind (wpAny_letGo (wpAny_pure ?_))
    refine wpAny_bind (wpAny_bind (wpAny_onRaise ?_))
    show wpAny _ _ (Builtin.SmallTypes.nextOf (.ref i2) >>= _) _ _ _
    refine wpAny_bind (wpAny_nextOf_list_end hh (((h2.extBut hs₁.extBut D.i2z).extBut hs₂.extBut D.i12.symm).extBut hs₃.extBut D.TOi2.symm)
      (((hl2.extBut hs₁.extBut D.l2z).extBut hs₂.extBut D.l2i1).extBut hs₃.extBut D.l2TO) hy fun h₄ e hs₄ he => ?_)
    obtain ⟨oe, hoe, hce⟩ := he
    have hz₄ : IsZip h₄ z TI TO .ellipsis := hs₄ _ _ D.i2z.symm (hs₃.extBut _ _ D.TOz.symm (hs₂.extBut _ _ D.i1z.symm hz₁))
    have hez : e ≠ z := fun x => by subst x; rw [hz₄] at hoe; cases hoe; simp at hce
    refine wpAny_setField_rec hz₄ (by simp) fun h₅ _ hs₅ => hE h₅ e (fun c o c1 c2 c3 c4 x => hs₅.extBut _ _ c1 (hs₄ _ _ c4 (hs₃.extBut _ _ c2 (hs₂.extBut _ _ c3 (hs₁.extBut _ _ c1 x))))) ⟨oe, hs₅.extBut _ _ hez hoe, hce⟩

theorem pyNext_zipTL_item {z TI TO i1 i2 l1 l2 : Addr} {k1 k2 : Nat} {xs ys : Array Value} {x y a b : Value} {Q : Option Value → Shared → Prop} (D : ZipApart z TI TO i1 i2 l1 l2)
    (hz : IsZip s.heap z TI TO .none) (hTI : IsPair s.heap TI (.ref i1) (.ref i2)) (hTO : IsPair s.heap TO a b)
    (h1 : s.heap.IsTupleIter i1 l1 k1) (h2 : s.heap.IsListIter i2 l2 k2) (hl1 : s.heap.IsTuple l1 xs) (hl2 : s.heap.IsList l2 ys) (hx : xs[k1]? = some x) (hy : ys[k2]? = some y)
    (hQ : ∀ h', IsZip h' z TI TO (rawInt s.heap.objs.size) → IsPair h' TO x y → h'.IsTupleIter i1 l1 (k1 + 1) → h'.IsListIter i2 l2 (k2 + 1) → IsPair h' s.heap.objs.size x y → h'.objs.size = s.heap.objs.size + 1 →
      (∀ c o, c ≠ z → c ≠ TO → c ≠ i1 → c ≠ i2 → s.heap.get? c = some o → h'.get? c = some o) → Q (some (.ref s.heap.objs.size)) { s with heap := h' }) :
    wpAny (model prog w) A (pyNext (.ref z)) Q E s := by
  have hT : s.TypeIs (.ref z) "zip" := ⟨_, hz, rfl⟩
  unfold pyNext
  exact wpAny_bind (wpAny_attempt (wpAny_callSpecial?_slot (name := Str.ofString "__next__") hT F.slot_zip_next
    (wpAny_call_entry F.slot_zip_next hT F.entry_zip_next
      (zipTL_next_item D hz hTI hTO h1 h2 hl1 hl2 hx hy fun h' a1 a2 a3 a4 a5 a6 a7 => wpAny_pure (hQ h' a1 a2 a3 a4 a5 a6 a7)) (F.args_zip_next_1 _))))

theorem pyNext_zipTL_end {z TI TO i1 i2 l1 l2 : Addr} {k1 k2 : Nat} {xs ys : Array Value} {a b : Value} {Q : Option Value → Shared → Prop} (hh : A.handled = none) (D : ZipApart z TI TO i1 i2 l1 l2)
    (hz : IsZip s.heap z TI TO .none) (hTI : IsPair s.heap TI (.ref i1) (.ref i2)) (hTO : IsPair s.heap TO a b)
    (h1 : s.heap.IsTupleIter i1 l1 k1) (h2 : s.heap.IsListIter i2 l2 k2) (hl1 : s.heap.IsTuple l1 xs) (hl2 : s.heap.IsList l2 ys) (hend : xs[k1]? = none ∨ ys[k2]? = none)
    (hQ : ∀ h', (∀ c o, c ≠ z → c ≠ TO → c ≠ i1 → c ≠ i2 → s.heap.get? c = some o → h'.get? c = some o) → Q none { s with heap := h' }) : wpAny (model prog w) A (pyNext (.ref z)) Q E s := by
  have hT : s.TypeIs (.ref z) "zip" := ⟨_, hz, rfl⟩
  unfold pyNext
  refine wpAny_bind (wpAny_attempt (wpAny_callSpecial?_slot (name := Str.ofString "__next__") hT F.slot_zip_next
    (wpAny_call_entry F.slot_zip_next hT F.entry_zip_next (zipTL_next_end hh D hz hTI hTO h1 h2 hl1 hl2 hend fun h' e hk he => ?_) (F.args_zip_next_1 _))))
  obtain ⟨o, ho, hc⟩ := he
  refine wpAny_bind (wpAny_isInstance (T := "StopIteration") (b := true) ⟨o, ho, hc⟩ isSubtype_stop ?_)
  exact wpAny_pure (hQ _ hk)
end
abbrev zipTLH1 (h : Heap) (l1 : Addr) : Heap := h.push { cls := .type "tuple_iterator", data := .fields #[.ref l1, .int 0 0] }
abbrev zipTLH2 (h : Heap) (l1 l2 : Addr) : Heap := (zipTLH1 h l1).push { cls := .type "list_iterator", data := .fields #[.ref l2, .int 0 0] }
abbrev zipTLH3 (h : Heap) (l1 l2 : Addr) : Heap := (zipTLH2 h l1 l2).push { cls := .type "tuple", data := .seq #[.ref h.objs.size, .ref (zipTLH1 h l1).objs.size] }
abbrev zipTLH4 (h : Heap) (l1 l2 : Addr) : Heap := (zipTLH3 h l1 l2).push { cls := .type "tuple", data := .seq #[.none, .none] }
abbrev zipTLH5 (h : Heap) (l1 l2 : Addr) : Heap := (zipTLH4 h l1 l2).push { cls := .type "zip", data := .fields #[.none, .bool false, .bool false, .ref (zipTLH2 h l1 l2).objs.size, .ref (zipTLH3 h l1 l2).objs.size] }

theorem meets_zipTL_new (l1 l2 : Addr) (xs ys : Array Value) :
    Meets (Builtin.«zip.__new__» ⟨[.type "zip", .ref l1, .ref l2], []⟩) (fun _ R s => s.heap.IsTuple l1 xs ∧ s.heap.IsList l2 ys ∧
      R (.ok (.ret (.ref (zipTLH4 s.heap l1 l2).objs.size))) { s with heap := zipTLH5 s.heap l1 l2 }) :=
  .of_wp fun prog w A R s h => by
    obtain ⟨hp, g, d, tk, os⟩ := s; obtain ⟨hl1, hl2, h⟩ := h
    have hsub := sub_zip
    have hL1 : Heap.IsTuple (Shared.heap ⟨hp, g, d, tk, os⟩) l1 xs := hl1
    have hL2 : Heap.IsList (Shared.heap ⟨hp.push { cls := .type "tuple_iterator", data := .fields #[.ref l1, .int 0 0] }, g, d, tk, os⟩) l2 ys := Heap.IsList.push hl2 _
    wp_walk using wpAny_pyIter_tuple hL1, wpAny_pyIter_list hL2
    exact ⟨_, rfl, h⟩

section
variable {prog : Program} {w : World} {A : Around} {E : Value → Shared → Prop} {s : Shared}
theorem call_zipTL {l1 l2 : Addr} {xs ys : Array Value} {Q : Value → Shared → Prop} (hl1 : s.heap.IsTuple l1 xs) (hl2 : s.heap.IsList l2 ys)
    (h : ∀ h', IsZip h' (s.heap.objs.size + 4) (s.heap.objs.size + 2) (s.heap.objs.size + 3) .none → IsPair h' (s.heap.objs.size + 2) (.ref s.heap.objs.size) (.ref (s.heap.objs.size + 1)) →
      IsPair h' (s.heap.objs.size + 3) .none .none → h'.IsTupleIter s.heap.objs.size l1 0 → h'.IsListIter (s.heap.objs.size + 1) l2 0 → h'.objs.size = s.heap.objs.size + 5 →
      (∀ c o, s.heap.get? c = some o → h'.get? c = some o) → Q (.ref (s.heap.objs.size + 4)) { s with heap := h' }) :
    wpAny (model prog w) A (call (.type "zip") [.ref l1, .ref l2]) Q E s := by
  refine callType_new F.called_zip (by decide) (F.typeCall_zip_2 _ _) (F.newCall_zip_2 _ _) (fun obj => F.args_object_init_3 obj _ _) F.entry_zip_new
    (meets_zipTL_new l1 l2 xs ys) ⟨hl1, hl2, ?_⟩
  have z1 : (zipTLH1 s.heap l1).objs.size = s.heap.objs.size + 1 := Heap.size_push ..
  have z2 : (zipTLH2 s.heap l1 l2).objs.size = s.heap.objs.size + 2 := by rw [Heap.size_push, z1]
  have z3 : (zipTLH3 s.heap l1 l2).objs.size = s.heap.objs.size + 3 := by rw [Heap.size_push, z2]
  have z4 : (zipTLH4 s.heap l1 l2).objs.size = s.heap.objs.size + 4 := by rw [Heap.size_push, z3]
  have z5 : (zipTLH5 s.heap l1 l2).objs.size = s.heap.objs.size + 5 := by rw [Heap.size_push, z4]
  have g5 : (zipTLH5 s.heap l1 l2).get? (zipTLH4 s.heap l1 l2).objs.size = some _ := Heap.get?_push_size _ rfl
  have g4 : (zipTLH5 s.heap l1 l2).get? (zipTLH3 s.heap l1 l2).objs.size = some _ := Heap.get?_push_of_some _ (Heap.get?_push_size _ rfl)
  have g3 : (zipTLH5 s.heap l1 l2).get? (zipTLH2 s.heap l1 l2).objs.size = some _ := Heap.get?_push_of_some _ (Heap.get?_push_of_some _ (Heap.get?_push_size _ rfl))
  have g2 : (zipTLH5 s.heap l1 l2).get? (zipTLH1 s.heap l1).objs.size = some _ := Heap.get?_push_of_some _ (Heap.get?_push_of_some _ (Heap.get?_push_of_some _ (Heap.get?_push_size _ rfl)))
  have g1 : (zipTLH5 s.heap l1 l2).get? s.heap.objs.size = some _ := Heap.get?_push_of_some _ (Heap.get?_push_of_some _ (Heap.get?_push_of_some _ (Heap.get?_push_of_some _ (Heap.get?_push_size _ rfl))))
  show _ ∧ _
  rw [z2, z3, z4] at g5
  rw [z1, z2] at g3
  rw [z3] at g4
  rw [z1] at g2
  rw [z4]
  exact ⟨⟨_, g5, rfl⟩, h _ g5 g3 g4 ⟨_, g1, rfl, rfl⟩ ⟨_, g2, rfl, rfl⟩ z5 fun c o x =>
    Heap.get?_push_of_some _ (Heap.get?_push_of_some _ (Heap.get?_push_of_some _ (Heap.get?_push_of_some _ (Heap.get?_push_of_some _ x))))⟩
end
section
variable {prog : Program} {w : World} {A : Around} {E : Value → Shared → Prop} {s : Shared}
theorem zipLT_next_item {z TI TO i1 i2 l1 l2 : Addr} {k1 k2 : Nat} {xs ys : Array Value} {x y a b : Value} {Q : Value → Shared → Prop} (D : ZipApart z TI TO i1 i2 l1 l2)
    (hz : IsZip s.heap z TI TO .none) (hTI : IsPair s.heap TI (.ref i1) (.ref i2)) (hTO : IsPair s.heap TO a b)
    (h1 : s.heap.IsListIter i1 l1 k1) (h2 : s.heap.IsTupleIter i2 l2 k2) (hl1 : s.heap.IsList l1 xs) (hl2 : s.heap.IsTuple l2 ys) (hx : xs[k1]? = some x) (hy : ys[k2]? = some y)
    (hQ : ∀ h', IsZip h' z TI TO (rawInt s.heap.objs.size) → IsPair h' TO x y → h'.IsListIter i1 l1 (k1 + 1) → h'.IsTupleIter i2 l2 (k2 + 1) → IsPair h' s.heap.objs.size x y → h'.objs.size = s.heap.objs.size + 1 →
      (∀ c o, c ≠ z → c ≠ TO → c ≠ i1 → c ≠ i2 → s.heap.get? c = some o → h'.get? c = some o) → Q (.ref s.heap.objs.size) { s with heap := h' }) :
    wpAny (model prog w) A (Builtin.«zip.__next__» ⟨[.ref z], []⟩) (fun fin s' => ∃ v, fin = .done (.ret v) ∧ Q v s') E s := by
  show wpAny _ _ (field (.ref z) 2 >>= _) _ _ _
  refine wpAny_bind (wpAny_field hz rfl (x := .bool false) rfl ?_)
  show wpAny _ _ (field (.ref z) 3 >>= _) _ _ _
  refine wpAny_bind (wpAny_field hz rfl (x := .ref TI) rfl ?_)
  refine wpAny_bind (wpAny_seqItems hTI rfl ?_)
  show wpAny _ _ (Builtin.SmallTypes.ownedTupleIsFree (.ref z) >>= _) _ _ _
  refine wpAny_bind ?_
  unfold Builtin.SmallTypes.ownedTupleIsFree
  refine wpAny_bind (wpAny_field hz rfl (x := .none) rfl (wpAny_pure ?_))
  simp only [if_true]
  refine wpAny_bind (wpAny_rule ?_)
  refine wpAny_bind (wpAny_field hz rfl (x := .ref TO) rfl ?_)
  refine wpAny_bind (wpAny_setField_rec hz (by simp) fun h₁ hz₁ hs₁ => ?_)
  replace hz₁ : IsZip h₁ z TI TO .ellipsis := hz₁
  refine wpAny_bind ?_
  simp only [List.zipIdx_cons, List.zipIdx_nil, List.forIn_cons, List.forIn_nil]

  refine wpAny_bind (wpAny_bind (wpAny_onRaise ?_))
  show wpAny _ _ (Builtin.SmallTypes.nextOf (.ref i1) >>= _) _ _ _
  refine wpAny_bind (wpAny_nextOf_list_item (h1.extBut hs₁.extBut D.i1z) (hl1.extBut hs₁.extBut D.l1z) hx fun h₂ h1₂ hs₂ => wpAny_pure ?_)
  have hTO₂ : IsPair h₂ TO a b := hs₂.extBut _ _ D.TOi1 (hs₁.extBut _ _ D.TOz hTO)
  refine wpAny_bind (wpAny_seqItems hTO₂ rfl ?_)
  refine wpAny_bind (wpAny_updateSeq_pair hTO₂ fun h₃ hTO₃ hs₃ => ?_)
  replace hTO₃ : IsPair h₃ TO x b := hTO₃
  refine wpAny_bind (wpAny_letGo (wpAny_pure ?_))

  refine wpAny_bind (wpAny_bind (wpAny_onRaise ?_))
  show wpAny _ _ (Builtin.SmallTypes.nextOf (.ref i2) >>= _) _ _ _
  refine wpAny_bind (nextOf_tuple_item (((h2.extBut hs₁.extBut D.i2z).extBut hs₂.extBut D.i12.symm).extBut hs₃.extBut D.TOi2.symm)
    (((hl2.extBut hs₁.extBut D.l2z).extBut hs₂.extBut D.l2i1).extBut hs₃.extBut D.l2TO) hy fun h₄ h2₄ hs₄ => wpAny_pure ?_)
  have hTO₄ : IsPair h₄ TO x b := hs₄.extBut _ _ D.TOi2 hTO₃
  refine wpAny_bind (wpAny_seqItems hTO₄ rfl ?_)
  refine wpAny_bind (wpAny_updateSeq_pair hTO₄ fun h₅ hTO₅ hs₅ => ?_)
  replace hTO₅ : IsPair h₅ TO x y := hTO₅
  refine wpAny_bind (wpAny_letGo (wpAny_pure (wpAny_pure ?_)))

  refine wpAny_bind (wpAny_seqItems hTO₅ rfl ?_)
  refine wpAny_bind (wpAny_newTuple ?_)
  have hsz : h₅.objs.size = s.heap.objs.size := by rw [hs₅.1, hs₄.1, hs₃.1, hs₂.1, hs₁.1]
  have hz₅ : IsZip h₅ z TI TO .ellipsis := hs₅.extBut _ _ D.TOz.symm (hs₄.extBut _ _ D.i2z.symm (hs₃.extBut _ _ D.TOz.symm (hs₂.extBut _ _ D.i1z.symm hz₁)))
  have hk₅ : ∀ c o, c ≠ z → c ≠ TO → c ≠ i1 → c ≠ i2 → s.heap.get? c = some o → h₅.get? c = some o := fun c o c1 c2 c3 c4 e =>
    hs₅.extBut _ _ c2 (hs₄.extBut _ _ c4 (hs₃.extBut _ _ c2 (hs₂.extBut _ _ c3 (hs₁.extBut _ _ c1 e))))
  have h1₅ : h₅.IsListIter i1 l1 (k1 + 1) := ((h1₂.extBut hs₃.extBut D.TOi1.symm).extBut hs₄.extBut D.i12).extBut hs₅.extBut D.TOi1.symm
  have h2₅ : h₅.IsTupleIter i2 l2 (k2 + 1) := h2₄.extBut hs₅.extBut D.TOi2.symm
  have hzlt : z < h₅.objs.size := Heap.lt_size hz₅
  have hTOlt : TO < h₅.objs.size := Heap.lt_size hTO₅
  have hi1lt : i1 < h₅.objs.size := by obtain ⟨_, e, _⟩ := h1₅; exact Heap.lt_size e
  have hi2lt : i2 < h₅.objs.size := by obtain ⟨_, e, _⟩ := h2₅; exact Heap.lt_size e
  show wpAny _ _ (Builtin.SmallTypes.ownedTupleHandOut (.ref z) (.ref h₅.objs.size) >>= _) _ _ _
  refine wpAny_bind ?_
  unfold Builtin.SmallTypes.ownedTupleHandOut
  have hz₆ : IsZip (h₅.push { cls := .type "tuple", data := .seq #[x, y] }) z TI TO .ellipsis := Heap.get?_push_of_some _ hz₅
  refine wpAny_bind (wpAny_setField_rec hz₆ (by simp) fun h₇ hz₇ hs₇ => ?_)
  replace hz₇ : IsZip h₇ z TI TO (rawInt h₅.objs.size) := hz₇
  refine wpAny_setField_rec hz₇ (by simp) fun h₈ hz₈ hs₈ => ?_
  replace hz₈ : IsZip h₈ z TI TO (rawInt h₅.objs.size) := hz₈
  have up : ∀ c o, c ≠ z → h₅.get? c = some o → h₈.get? c = some o := fun c o c1 e => hs₈.extBut _ _ c1 (hs₇.extBut _ _ c1 (Heap.get?_push_of_some _ e))
  have hT₈ : IsPair h₈ h₅.objs.size x y := hs₈.extBut _ _ (Nat.ne_of_gt hzlt) (hs₇.extBut _ _ (Nat.ne_of_gt hzlt) (Heap.get?_push_size _ rfl))
  have hz8 : h₈.objs.size = h₅.objs.size + 1 := by rw [hs₈.1, hs₇.1, Heap.size_push]
  rw [hsz] at hz₈ hT₈ hz8
  refine wpAny_pure ⟨_, rfl, ?_⟩
  show Q (.ref h₅.objs.size) _
  rw [hsz]
  exact hQ h₈ hz₈ (up _ _ D.TOz hTO₅) (h1₅.at fun o e => up _ o D.i1z e) (h2₅.at fun o e => up _ o D.i2z e) hT₈ hz8 fun c o c1 c2 c3 c4 e => up c o c1 (hk₅ c o c1 c2 c3 c4 e)

theorem zipLT_next_end {z TI TO i1 i2 l1 l2 : Addr} {k1 k2 : Nat} {xs ys : Array Value} {a b : Value} {Q : Fin → Shared → Prop} (hh : A.handled = none) (D : ZipApart z TI TO i1 i2 l1 l2)
    (hz : IsZip s.heap z TI TO .none) (hTI : IsPair s.heap TI (.ref i1) (.ref i2)) (hTO : IsPair s.heap TO a b)
    (h1 : s.heap.IsListIter i1 l1 k1) (h2 : s.heap.IsTupleIter i2 l2 k2) (hl1 : s.heap.IsList l1 xs) (hl2 : s.heap.IsTuple l2 ys) (hend : xs[k1]? = none ∨ ys[k2]? = none)
    (hE : ∀ h' e, (∀ c o, c ≠ z → c ≠ TO → c ≠ i1 → c ≠ i2 → s.heap.get? c = some o → h'.get? c = some o) → (∃ o, h'.get? e = some o ∧ o.cls = .type "StopIteration") → E (.ref e) { s with heap := h' }) :
    wpAny (model prog w) A (Builtin.«zip.__next__» ⟨[.ref z], []⟩) Q E s := by
  show wpAny _ _ (field (.ref z) 2 >>= _) _ _ _
  refine wpAny_bind (wpAny_field hz rfl (x := .bool false) rfl ?_)
  show wpAny _ _ (field (.ref z) 3 >>= _) _ _ _
  refine wpAny_bind (wpAny_field hz rfl (x := .ref TI) rfl ?_)
  refine wpAny_bind (wpAny_seqItems hTI rfl ?_)
  show wpAny _ _ (Builtin.SmallTypes.ownedTupleIsFree (.ref z) >>= _) _ _ _
  refine wpAny_bind ?_
  unfold Builtin.SmallTypes.ownedTupleIsFree
  refine wpAny_bind (wpAny_field hz rfl (x := .none) rfl (wpAny_pure ?_))
  simp only [if_true]
  refine wpAny_bind (wpAny_rule ?_)
  refine wpAny_bind (wpAny_field hz rfl (x := .ref TO) rfl ?_)
  refine wpAny_bind (wpAny_setField_rec hz (by simp) fun h₁ hz₁ hs₁ => ?_)
  replace hz₁ : IsZip h₁ z TI TO .ellipsis := hz₁
  refine wpAny_bind ?_
  simp only [List.zipIdx_cons, List.zipIdx_nil, List.forIn_cons, List.forIn_nil]
  refine wpAny_bind (wpAny_bind (wpAny_onRaise ?_))
  show wpAny _ _ (Builtin.SmallTypes.nextOf (.ref i1) >>= _) _ _ _
  cases hx : xs[k1]? with
  | none =>
    refine wpAny_bind (wpAny_nextOf_list_end hh (h1.extBut hs₁.extBut D.i1z) (hl1.extBut hs₁.extBut D.l1z) hx fun h₂ e hs₂ he => ?_)
    obtain ⟨oe, hoe, hce⟩ := he
    have hz₂ : IsZip h₂ z TI TO .ellipsis := hs₂ _ _ D.i1z.symm hz₁
    have hez : e ≠ z := fun x => by subst x; rw [hz₂] at hoe; cases hoe; simp at hce
    refine wpAny_setField_rec hz₂ (by simp) fun h₃ _ hs₃ => hE h₃ e (fun c o c1 _ c3 _ x => hs₃.extBut _ _ c1 (hs₂ _ _ c3 (hs₁.extBut _ _ c1 x))) ⟨oe, hs₃.extBut _ _ hez hoe, hce⟩
  | some x =>
    have hy : ys[k2]? = none := by rcases hend with h | h; rw [hx] at h; cases h; exact h
    refine wpAny_bind (wpAny_nextOf_list_item (h1.extBut hs₁.extBut D.i1z) (hl1.extBut hs₁.extBut D.l1z) hx fun h₂ h1₂ hs₂ => wpAny_pure ?_)
    have hTO₂ : IsPair h₂ TO a b := hs₂.extBut _ _ D.TOi1 (hs₁.extBut _ _ D.TOz hTO)
    refine wpAny_bind (wpAny_seqItems hTO₂ rfl ?_)
    refine wpAny_bind (wpAny_updateSeq_pair hTO₂ fun h₃ hTO₃ hs₃ => ?_)
    refine wpAny_bind (wpAny_letGo (wpAny_pure ?_))
    refine wpAny_bind (wpAny_bind (wpAny_onRaise ?_))
    show wpAny _ _ (Builtin.SmallTypes.nextOf (.ref i2) >>= _) _ _ _
    refine wpAny_bind (nextOf_tuple_end hh (((h2.extBut hs₁.extBut D.i2z).extBut hs₂.extBut D.i12.symm).extBut hs₃.extBut D.TOi2.symm)
      (((hl2.extBut hs₁.extBut D.l2z).extBut hs₂.extBut D.l2i1).extBut hs₃.extBut D.l2TO) hy fun h₄ e hs₄ he => ?_)
    obtain ⟨oe, hoe, hce⟩ := he
    have hz₄ : IsZip h₄ z TI TO .ellipsis := hs₄ _ _ D.i2z.symm (hs₃.extBut _ _ D.TOz.symm (hs₂.extBut _ _ D.i1z.symm hz₁))
    have hez : e ≠ z := fun x => by subst x; rw [hz₄] at hoe; cases hoe; simp at hce
    refine wpAny_setField_rec hz₄ (by simp) fun h₅ _ hs₅ => hE h₅ e (fun c o c1 c2 c3 c4 x => hs₅.extBut _ _ c1 (hs₄ _ _ c4 (hs₃.extBut _ _ c2 (hs₂.extBut _ _ c3 (hs₁.extBut _ _ c1 x))))) ⟨oe, hs₅.extBut _ _ hez hoe, hce⟩

theorem pyNext_zipLT_item {z TI TO i1 i2 l1 l2 : Addr} {k1 k2 : Nat} {xs ys : Array Value} {x y a b : Value} {Q : Option Value → Shared → Prop} (D : ZipApart z TI TO i1 i2 l1 l2)
    (hz : IsZip s.heap z TI TO .none) (hTI : IsPair s.heap TI (.ref i1) (.ref i2)) (hTO : IsPair s.heap TO a b)
    (h1 : s.heap.IsListIter i1 l1 k1) (h2 : s.heap.IsTupleIter i2 l2 k2) (hl1 : s.heap.IsList l1 xs) (hl2 : s.heap.IsTuple l2 ys) (hx : xs[k1]? = some x) (hy : ys[k2]? = some y)
    (hQ : ∀ h', IsZip h' z TI TO (rawInt s.heap.objs.size) → IsPair h' TO x y → h'.IsListIter i1 l1 (k1 + 1) → h'.IsTupleIter i2 l2 (k2 + 1) → IsPair h' s.heap.objs.size x y → h'.objs.size = s.heap.objs.size + 1 →
      (∀ c o, c ≠ z → c ≠ TO → c ≠ i1 → c ≠ i2 → s.heap.get? c = some o → h'.get? c = some o) → Q (some (.ref s.heap.objs.size)) { s with heap := h' }) :
    wpAny (model prog w) A (pyNext (.ref z)) Q E s := by
  have hT : s.TypeIs (.ref z) "zip" := ⟨_, hz, rfl⟩
  unfold pyNext
  exact wpAny_bind (wpAny_attempt (wpAny_callSpecial?_slot (name := Str.ofString "__next__") hT F.slot_zip_next
    (wpAny_call_entry F.slot_zip_next hT F.entry_zip_next
      (zipLT_next_item D hz hTI hTO h1 h2 hl1 hl2 hx hy fun h' a1 a2 a3 a4 a5 a6 a7 => wpAny_pure (hQ h' a1 a2 a3 a4 a5 a6 a7)) (F.args_zip_next_1 _))))

theorem pyNext_zipLT_end {z TI TO i1 i2 l1 l2 : Addr} {k1 k2 : Nat} {xs ys : Array Value} {a b : Value} {Q : Option Value → Shared → Prop} (hh : A.handled = none) (D : ZipApart z TI TO i1 i2 l1 l2)
    (hz : IsZip s.heap z TI TO .none) (hTI : IsPair s.heap TI (.ref i1) (.ref i2)) (hTO : IsPair s.heap TO a b)
    (h1 : s.heap.IsListIter i1 l1 k1) (h2 : s.heap.IsTupleIter i2 l2 k2) (hl1 : s.heap.IsList l1 xs) (hl2 : s.heap.IsTuple l2 ys) (hend : xs[k1]? = none ∨ ys[k2]? = none)
    (hQ : ∀ h', (∀ c o, c ≠ z → c ≠ TO → c ≠ i1 → c ≠ i2 → s.heap.get? c = some o → h'.get? c = some o) → Q none { s with heap := h' }) : wpAny (model prog w) A (pyNext (.ref z)) Q E s := by
  have hT : s.TypeIs (.ref z) "zip" := ⟨_, hz, rfl⟩
  unfold pyNext
  refine wpAny_bind (wpAny_attempt (wpAny_callSpecial?_slot (name := Str.ofString "__next__") hT F.slot_zip_next
    (wpAny_call_entry F.slot_zip_next hT F.entry_zip_next (zipLT_next_end hh D hz hTI hTO h1 h2 hl1 hl2 hend fun h' e hk he => ?_) (F.args_zip_next_1 _))))
  obtain ⟨o, ho, hc⟩ := he
  refine wpAny_bind (wpAny_isInstance (T := "StopIteration") (b := true) ⟨o, ho, hc⟩ isSubtype_stop ?_)
  exact wpAny_pure (hQ _ hk)
end
abbrev zipLTH1 (h : Heap) (l1 : Addr) : Heap := h.push { cls := .type "list_iterator", data := .fields #[.ref l1, .int 0 0] }
abbrev zipLTH2 (h : Heap) (l1 l2 : Addr) : Heap := (zipLTH1 h l1).push { cls := .type "tuple_iterator", data := .fields #[.ref l2, .int 0 0] }
abbrev zipLTH3 (h : Heap) (l1 l2 : Addr) : Heap := (zipLTH2 h l1 l2).push { cls := .type "tuple", data := .seq #[.ref h.objs.size, .ref (zipLTH1 h l1).objs.size] }
abbrev zipLTH4 (h : Heap) (l1 l2 : Addr) : Heap := (zipLTH3 h l1 l2).push { cls := .type "tuple", data := .seq #[.none, .none] }
abbrev zipLTH5 (h : Heap) (l1 l2 : Addr) : Heap := (zipLTH4 h l1 l2).push { cls := .type "zip", data := .fields #[.none, .bool false, .bool false, .ref (zipLTH2 h l1 l2).objs.size, .ref (zipLTH3 h l1 l2).objs.size] }

theorem meets_zipLT_new (l1 l2 : Addr) (xs ys : Array Value) :
    Meets (Builtin.«zip.__new__» ⟨[.type "zip", .ref l1, .ref l2], []⟩) (fun _ R s => s.heap.IsList l1 xs ∧ s.heap.IsTuple l2 ys ∧
      R (.ok (.ret (.ref (zipLTH4 s.heap l1 l2).objs.size))) { s with heap := zipLTH5 s.heap l1 l2 }) :=
  .of_wp fun prog w A R s h => by
    obtain ⟨hp, g, d, tk, os⟩ := s; obtain ⟨hl1, hl2, h⟩ := h
    have hsub := sub_zip
    have hL1 : Heap.IsList (Shared.heap ⟨hp, g, d, tk, os⟩) l1 xs := hl1
    have hL2 : Heap.IsTuple (Shared.heap ⟨hp.push { cls := .type "list_iterator", data := .fields #[.ref l1, .int 0 0] }, g, d, tk, os⟩) l2 ys := Heap.IsTuple.push hl2 _
    wp_walk using wpAny_pyIter_list hL1, wpAny_pyIter_tuple hL2
    exact ⟨_, rfl, h⟩

section
variable {prog : Program} {w : World} {A : Around} {E : Value → Shared → Prop} {s : Shared}
theorem call_zipLT {l1 l2 : Addr} {xs ys : Array Value} {Q : Value → Shared → Prop} (hl1 : s.heap.IsList l1 xs) (hl2 : s.heap.IsTuple l2 ys)
    (h : ∀ h', IsZip h' (s.heap.objs.size + 4) (s.heap.objs.size + 2) (s.heap.objs.size + 3) .none → IsPair h' (s.heap.objs.size + 2) (.ref s.heap.objs.size) (.ref (s.heap.objs.size + 1)) →
      IsPair h' (s.heap.objs.size + 3) .none .none → h'.IsListIter s.heap.objs.size l1 0 → h'.IsTupleIter (s.heap.objs.size + 1) l2 0 → h'.objs.size = s.heap.objs.size + 5 →
      (∀ c o, s.heap.get? c = some o → h'.get? c = some o) → Q (.ref (s.heap.objs.size + 4)) { s with heap := h' }) :
    wpAny (model prog w) A (call (.type "zip") [.ref l1, .ref l2]) Q E s := by
  refine callType_new F.called_zip (by decide) (F.typeCall_zip_2 _ _) (F.newCall_zip_2 _ _) (fun obj => F.args_object_init_3 obj _ _) F.entry_zip_new
    (meets_zipLT_new l1 l2 xs ys) ⟨hl1, hl2, ?_⟩
  have z1 : (zipLTH1 s.heap l1).objs.size = s.heap.objs.size + 1 := Heap.size_push ..
  have z2 : (zipLTH2 s.heap l1 l2).objs.size = s.heap.objs.size + 2 := by rw [Heap.size_push, z1]
  have z3 : (zipLTH3 s.heap l1 l2).objs.size = s.heap.objs.size + 3 := by rw [Heap.size_push, z2]
  have z4 : (zipLTH4 s.heap l1 l2).objs.size = s.heap.objs.size + 4 := by rw [Heap.size_push, z3]
  have z5 : (zipLTH5 s.heap l1 l2).objs.size = s.heap.objs.size + 5 := by rw [Heap.size_push, z4]
  have g5 : (zipLTH5 s.heap l1 l2).get? (zipLTH4 s.heap l1 l2).objs.size = some _ := Heap.get?_push_size _ rfl
  have g4 : (zipLTH5 s.heap l1 l2).get? (zipLTH3 s.heap l1 l2).objs.size = some _ := Heap.get?_push_of_some _ (Heap.get?_push_size _ rfl)
  have g3 : (zipLTH5 s.heap l1 l2).get? (zipLTH2 s.heap l1 l2).objs.size = some _ := Heap.get?_push_of_some _ (Heap.get?_push_of_some _ (Heap.get?_push_size _ rfl))
  have g2 : (zipLTH5 s.heap l1 l2).get? (zipLTH1 s.heap l1).objs.size = some _ := Heap.get?_push_of_some _ (Heap.get?_push_of_some _ (Heap.get?_push_of_some _ (Heap.get?_push_size _ rfl)))
  have g1 : (zipLTH5 s.heap l1 l2).get? s.heap.objs.size = some _ := Heap.get?_push_of_some _ (Heap.get?_push_of_some _ (Heap.get?_push_of_some _ (Heap.get?_push_of_some _ (Heap.get?_push_size _ rfl))))
  show _ ∧ _
  rw [z2, z3, z4] at g5
  rw [z1, z2] at g3
  rw [z3] at g4
  rw [z1] at g2
  rw [z4]
  exact ⟨⟨_, g5, rfl⟩, h _ g5 g3 g4 ⟨_, g1, rfl, rfl⟩ ⟨_, g2, rfl, rfl⟩ z5 fun c o x =>
    Heap.get?_push_of_some _ (Heap.get?_push_of_some _ (Heap.get?_push_of_some _ (Heap.get?_push_of_some _ (Heap.get?_push_of_some _ x))))⟩
end
end ZM
namespace ZM
open PySem PySem.Spec PyProof.Rows L2 RZ
def ItzTL (K : PySem.W.Frag) (a b : Addr) : It :=
  ⟨fun i H => ∃ (xs ys : List V) (x y : V), SqT K H a xs ∧ SqL K H b ys ∧ xs[i]? = some x ∧ ys[i]? = some y,
    fun i H v H' => ∃ T x y, v = .ref T ∧ H T = none ∧ H' = upd H T (.tup [x, y]) ∧ (∀ xs, SqT K H a xs → xs[i]? = some x) ∧ ∀ ys, SqL K H b ys → ys[i]? = some y,
    fun i H => ∃ xs ys : List V, SqT K H a xs ∧ SqL K H b ys ∧ (xs.length ≤ i ∨ ys.length ≤ i)⟩
theorem turn_zipTL {P : Program} {w : World} {K : PySem.W.Frag} {elts : List Expr} {kk : Nat} {tpos : Pos} {a b z TI TO i1 i2 : Addr} (D : ZipApart z TI TO i1 i2 a b) :
    Turn P w K (.Tuple elts kk tpos) (ItzTL K a b) [z, TI, TO, i1, i2] z (fun i h => IsZip h z TI TO .none ∧ IsPair h TI (.ref i1) (.ref i2) ∧ (∃ x y, IsPair h TO x y) ∧ h.IsTupleIter i1 a i ∧ h.IsListIter i2 b i) where
  mem := by simp
  obj := fun i h st c hc => by
    obtain ⟨hz, hTI, ⟨x, y, hTO⟩, ⟨o1, e1, _, d1⟩, ⟨o2, e2, _, d2⟩⟩ := st
    have e' : c = z ∨ c = TI ∨ c = TO ∨ c = i1 ∨ c = i2 := by simpa using hc
    rcases e' with q | q | q | q | q
    · rw [q]; exact ⟨_, hz, fun v q => nomatch q⟩
    · rw [q]; exact ⟨_, hTI, fun v q => nomatch q⟩
    · rw [q]; exact ⟨_, hTO, fun v q => nomatch q⟩
    · rw [q]; exact ⟨o1, e1, fun v q => by rw [d1] at q; cases q⟩
    · rw [q]; exact ⟨o2, e2, fun v q => by rw [d2] at q; cases q⟩
  keep := fun i h h' st k => by
    obtain ⟨hz, hTI, ⟨x, y, hTO⟩, h1, h2⟩ := st
    exact ⟨k z (by simp) _ hz, k TI (by simp) _ hTI, ⟨x, y, k TO (by simp) _ hTO⟩, h1.at fun o q => k i1 (by simp) o q, h2.at fun o q => k i2 (by simp) o q⟩
  item := by
    intro X hP hw hK hc i pins s σ H E I hf st hg
    subst hP hw hK
    obtain ⟨hz, hTI, ⟨x0, y0, hTO⟩, h1, h2⟩ := st
    obtain ⟨xs, ys, x, y, hqx, hqy, hx, hy⟩ := hg
    obtain ⟨its, rv, p, _⟩ := I.tuple hqx
    obtain ⟨its2, rv2, p2, _⟩ := I.list hqy
    obtain ⟨u, hu, ru⟩ := rv.get hx
    obtain ⟨u2, hu2, ru2⟩ := rv2.get hy
    have hzl : z < s.heap.objs.size := Heap.lt_size hz
    refine pyNext_zipTL_item D hz hTI hTO h1 h2 p p2.isList (x := u) (y := u2) (by simpa using hu) (by simpa using hu2) fun h' z' TO' h1' h2' hT hsz hk => ?_
    refine ⟨_, rfl, wpAny_letOwnedTupleGo_zip (s := { s with heap := h' }) z' fun h'' z'' sb => ?_⟩
    have hT2 : h''.get? s.heap.objs.size = some { cls := .type "tuple", data := .seq #[u, u2] } := (sb.2 _ (Nat.ne_of_gt hzl)).trans hT
    have new : ObjOk X.prog X.w (upd H s.heap.objs.size (.tup [x, y])) h'' s.heap.objs.size (.tup [x, y]) :=
      ⟨by show 2 ≤ sizeLine; decide, [u, u2], .cons ru (.cons ru2 .nil), ⟨_, hT2, rfl, _, rfl⟩⟩
    have I1 : Inv X pins σ (upd H s.heap.objs.size (.tup [x, y])) { s with heap := h'' } :=
      I.turnedNew (t' := s.toks) (ch := [z, TI, TO, i1, i2]) (fun c o hb q => (sb.2 c (fun q' => hb (by simp [q']))).trans (hk c o (fun q' => hb (by simp [q'])) (fun q' => hb (by simp [q'])) (fun q' => hb (by simp [q'])) (fun q' => hb (by simp [q'])) q)) hf (Nat.le_refl _) new
    refine ⟨.ref s.heap.objs.size, _, I1, rfl, ⟨_, x, y, rfl, I.hok.fresh (Nat.le_refl _), rfl, fun l hl => by rw [I.tuple_inj hl hqx]; exact hx, fun l hl => by rw [I.list_inj hl hqy]; exact hy⟩, ⟨z'', ?_, ⟨u, u2, ?_⟩, ?_, ?_⟩, fun c hcm => ?_⟩
    · exact (sb.2 _ D.TIz).trans (hk _ _ D.TIz D.TITO D.TIi1 D.TIi2 hTI)
    · exact (sb.2 _ D.TOz).trans TO'
    · exact h1'.at fun o q => (sb.2 _ D.i1z).trans q
    · exact h2'.at fun o q => (sb.2 _ D.i2z).trans q
    · have hlt : c < s.heap.objs.size := by
        have e' : c = z ∨ c = TI ∨ c = TO ∨ c = i1 ∨ c = i2 := by simpa using hcm
        rcases e' with q | q | q | q | q
        · rw [q]; exact hzl
        · rw [q]; exact Heap.lt_size hTI
        · rw [q]; exact Heap.lt_size hTO
        · rw [q]; obtain ⟨_, e1, _⟩ := h1; exact Heap.lt_size e1
        · rw [q]; obtain ⟨_, e2, _⟩ := h2; exact Heap.lt_size e2
      rw [upd_ne (Nat.ne_of_lt hlt)]
      exact (hf c hcm).1
  done := by
    intro X hP hw hK hc i pins s σ H E I hf st hg
    subst hP hw hK
    obtain ⟨hz, hTI, ⟨x0, y0, hTO⟩, h1, h2⟩ := st
    obtain ⟨xs, ys, hqx, hqy, hend⟩ := hg
    obtain ⟨its, rv, p, _⟩ := I.tuple hqx
    obtain ⟨its2, rv2, p2, _⟩ := I.list hqy
    have l1 := rv.length
    have l2 := rv2.length
    have he : its.toArray[i]? = none ∨ its2.toArray[i]? = none := by
      rcases hend with q | q
      · exact .inl (by simp; omega)
      · exact .inr (by simp; omega)
    exact pyNext_zipTL_end (I.ok.hd hc) D hz hTI hTO h1 h2 p p2.isList he fun h' hk => ⟨rfl, I.turnedL (t' := s.toks) (ch := [z, TI, TO, i1, i2]) (fun c o hb q =>
      hk c o (fun q' => hb (by simp [q'])) (fun q' => hb (by simp [q'])) (fun q' => hb (by simp [q'])) (fun q' => hb (by simp [q'])) q) hf⟩
  self := fun A i s Q E st h => wpAny_pyIter_zip st.1 h

def ItzLT (K : PySem.W.Frag) (a b : Addr) : It :=
  ⟨fun i H => ∃ (xs ys : List V) (x y : V), SqL K H a xs ∧ SqT K H b ys ∧ xs[i]? = some x ∧ ys[i]? = some y,
    fun i H v H' => ∃ T x y, v = .ref T ∧ H T = none ∧ H' = upd H T (.tup [x, y]) ∧ (∀ xs, SqL K H a xs → xs[i]? = some x) ∧ ∀ ys, SqT K H b ys → ys[i]? = some y,
    fun i H => ∃ xs ys : List V, SqL K H a xs ∧ SqT K H b ys ∧ (xs.length ≤ i ∨ ys.length ≤ i)⟩
theorem turn_zipLT {P : Program} {w : World} {K : PySem.W.Frag} {elts : List Expr} {kk : Nat} {tpos : Pos} {a b z TI TO i1 i2 : Addr} (D : ZipApart z TI TO i1 i2 a b) :
    Turn P w K (.Tuple elts kk tpos) (ItzLT K a b) [z, TI, TO, i1, i2] z (fun i h => IsZip h z TI TO .none ∧ IsPair h TI (.ref i1) (.ref i2) ∧ (∃ x y, IsPair h TO x y) ∧ h.IsListIter i1 a i ∧ h.IsTupleIter i2 b i) where
  mem := by simp
  obj := fun i h st c hc => by
    obtain ⟨hz, hTI, ⟨x, y, hTO⟩, ⟨o1, e1, _, d1⟩, ⟨o2, e2, _, d2⟩⟩ := st
    have e' : c = z ∨ c = TI ∨ c = TO ∨ c = i1 ∨ c = i2 := by simpa using hc
    rcases e' with q | q | q | q | q
    · rw [q]; exact ⟨_, hz, fun v q => nomatch q⟩
    · rw [q]; exact ⟨_, hTI, fun v q => nomatch q⟩
    · rw [q]; exact ⟨_, hTO, fun v q => nomatch q⟩
    · rw [q]; exact ⟨o1, e1, fun v q => by rw [d1] at q; cases q⟩
    · rw [q]; exact ⟨o2, e2, fun v q => by rw [d2] at q; cases q⟩
  keep := fun i h h' st k => by
    obtain ⟨hz, hTI, ⟨x, y, hTO⟩, h1, h2⟩ := st
    exact ⟨k z (by simp) _ hz, k TI (by simp) _ hTI, ⟨x, y, k TO (by simp) _ hTO⟩, h1.at fun o q => k i1 (by simp) o q, h2.at fun o q => k i2 (by simp) o q⟩
  item := by
    intro X hP hw hK hc i pins s σ H E I hf st hg
    subst hP hw hK
    obtain ⟨hz, hTI, ⟨x0, y0, hTO⟩, h1, h2⟩ := st
    obtain ⟨xs, ys, x, y, hqx, hqy, hx, hy⟩ := hg
    obtain ⟨its, rv, p, _⟩ := I.list hqx
    obtain ⟨its2, rv2, p2, _⟩ := I.tuple hqy
    obtain ⟨u, hu, ru⟩ := rv.get hx
    obtain ⟨u2, hu2, ru2⟩ := rv2.get hy
    have hzl : z < s.heap.objs.size := Heap.lt_size hz
    refine pyNext_zipLT_item D hz hTI hTO h1 h2 p.isList p2 (x := u) (y := u2) (by simpa using hu) (by simpa using hu2) fun h' z' TO' h1' h2' hT hsz hk => ?_
    refine ⟨_, rfl, wpAny_letOwnedTupleGo_zip (s := { s with heap := h' }) z' fun h'' z'' sb => ?_⟩
    have hT2 : h''.get? s.heap.objs.size = some { cls := .type "tuple", data := .seq #[u, u2] } := (sb.2 _ (Nat.ne_of_gt hzl)).trans hT
    have new : ObjOk X.prog X.w (upd H s.heap.objs.size (.tup [x, y])) h'' s.heap.objs.size (.tup [x, y]) :=
      ⟨by show 2 ≤ sizeLine; decide, [u, u2], .cons ru (.cons ru2 .nil), ⟨_, hT2, rfl, _, rfl⟩⟩
    have I1 : Inv X pins σ (upd H s.heap.objs.size (.tup [x, y])) { s with heap := h'' } :=
      I.turnedNew (t' := s.toks) (ch := [z, TI, TO, i1, i2]) (fun c o hb q => (sb.2 c (fun q' => hb (by simp [q']))).trans (hk c o (fun q' => hb (by simp [q'])) (fun q' => hb (by simp [q'])) (fun q' => hb (by simp [q'])) (fun q' => hb (by simp [q'])) q)) hf (Nat.le_refl _) new
    refine ⟨.ref s.heap.objs.size, _, I1, rfl, ⟨_, x, y, rfl, I.hok.fresh (Nat.le_refl _), rfl, fun l hl => by rw [I.list_inj hl hqx]; exact hx, fun l hl => by rw [I.tuple_inj hl hqy]; exact hy⟩, ⟨z'', ?_, ⟨u, u2, ?_⟩, ?_, ?_⟩, fun c hcm => ?_⟩
    · exact (sb.2 _ D.TIz).trans (hk _ _ D.TIz D.TITO D.TIi1 D.TIi2 hTI)
    · exact (sb.2 _ D.TOz).trans TO'
    · exact h1'.at fun o q => (sb.2 _ D.i1z).trans q
    · exact h2'.at fun o q => (sb.2 _ D.i2z).trans q
    · have hlt : c < s.heap.objs.size := by
        have e' : c = z ∨ c = TI ∨ c = TO ∨ c = i1 ∨ c = i2 := by simpa using hcm
        rcases e' with q | q | q | q | q
        · rw [q]; exact hzl
        · rw [q]; exact Heap.lt_size hTI
        · rw [q]; exact Heap.lt_size hTO
        · rw [q]; obtain ⟨_, e1, _⟩ := h1; exact Heap.lt_size e1
        · rw [q]; obtain ⟨_, e2, _⟩ := h2; exact Heap.lt_size e2
      rw [upd_ne (Nat.ne_of_lt hlt)]
      exact (hf c hcm).1
  done := by
    intro X hP hw hK hc i pins s σ H E I hf st hg
    subst hP hw hK
    obtain ⟨hz, hTI, ⟨x0, y0, hTO⟩, h1, h2⟩ := st
    obtain ⟨xs, ys, hqx, hqy, hend⟩ := hg
    obtain ⟨its, rv, p, _⟩ := I.list hqx
    obtain ⟨its2, rv2, p2, _⟩ := I.tuple hqy
    have l1 := rv.length
    have l2 := rv2.length
    have he : its.toArray[i]? = none ∨ its2.toArray[i]? = none := by
      rcases hend with q | q
      · exact .inl (by simp; omega)
      · exact .inr (by simp; omega)
    exact pyNext_zipLT_end (I.ok.hd hc) D hz hTI hTO h1 h2 p.isList p2 he fun h' hk => ⟨rfl, I.turnedL (t' := s.toks) (ch := [z, TI, TO, i1, i2]) (fun c o hb q =>
      hk c o (fun q' => hb (by simp [q'])) (fun q' => hb (by simp [q'])) (fun q' => hb (by simp [q'])) (fun q' => hb (by simp [q'])) q) hf⟩
  self := fun A i s Q E st h => wpAny_pyIter_zip st.1 h

end ZM

/-! zip of lists and tuples in any mix; len of an own class; stores into one's own list; [x] * n as a new list -/
namespace ZM
open PySem PySem.Spec PyProof.Rows L2 RZ
def iZip4 (K : PySem.W.Frag) (ta : TA) : TI := fun σ H R => ta σ H fun vs H1 => ∃ a b xs ys, vs = [.ref a, .ref b] ∧
  ((SqL K H1 a xs ∧ SqL K H1 b ys ∧ R (Itz K a b) H1) ∨ (SqT K H1 a xs ∧ SqT K H1 b ys ∧ R (ItzT K a b) H1) ∨ (SqT K H1 a xs ∧ SqL K H1 b ys ∧ R (ItzTL K a b) H1) ∨ (SqL K H1 a xs ∧ SqT K H1 b ys ∧ R (ItzLT K a b) H1))
theorem pi_zip4 {X : Cx} {e e2 : Expr} {ta : TA} {p pos tpos : Pos} {elts : List Expr} {kk : Nat} (hg : Gl X "zip") (hm : X.mg "zip" = none) (ha : PA X [e, e2] ta)
    (hs : starEach [e, e2] X.env = (false, eval e X.env) :: starEach [e2] X.env := by rfl) (hpl : (backTo pos (starEach [e2] X.env)).any (·.1) = false := by rfl) :
    PI X (.Tuple elts kk tpos) (.Call (.Name "zip" p) [e, e2] [] pos) (iZip4 X.K ta) := by
  refine ⟨fun pins s σ H R I h => ?_⟩
  refine Call_ (ld_blt I hg hm PyProof.Rows.boot_zip (PyProof.Rows.callWith_type1 (thn (ha.run pos pins s σ H _ I h) fun us s1 ⟨vs, H1, I1, r1, q1⟩ => ?_) hs hpl))
  obtain ⟨a, b, xs, ys, ex, q1⟩ := q1
  subst ex
  cases r1 with
  | cons r rr =>
    cases rr with
    | cons r' rr =>
      cases rr
      cases r
      cases r'
      have fresh5 : ∀ c, c ∈ [s1.heap.objs.size + 4, s1.heap.objs.size + 2, s1.heap.objs.size + 3, s1.heap.objs.size, s1.heap.objs.size + 1] → FpOk X pins H1 c := fun c hcm => by
        have e' : c = s1.heap.objs.size + 4 ∨ c = s1.heap.objs.size + 2 ∨ c = s1.heap.objs.size + 3 ∨ c = s1.heap.objs.size ∨ c = s1.heap.objs.size + 1 := by simpa using hcm
        have hle : s1.heap.objs.size ≤ c := by
          rcases e' with z | z | z | z | z
          · rw [z]; exact Nat.le_add_right _ _
          · rw [z]; exact Nat.le_add_right _ _
          · rw [z]; exact Nat.le_add_right _ _
          · rw [z]; exact Nat.le_refl _
          · rw [z]; exact Nat.le_add_right _ _
        exact I1.fpOk hle (I1.hok.fresh hle)
      rcases q1 with ⟨hqx, hqy, q⟩ | ⟨hqx, hqy, q⟩ | ⟨hqx, hqy, q⟩ | ⟨hqx, hqy, q⟩
      · obtain ⟨its, rv, p1, _⟩ := I1.list hqx
        obtain ⟨its2, rv2, p2, _⟩ := I1.list hqy
        refine call_zip_2 p1.isList p2.isList fun h' hz hTI hTO h1 h2 hsz hk => wpAny_pyIter_zip hz ?_
        have I2 : Inv X pins σ H1 { s1 with heap := h' } := I1.kept (t' := s1.toks) hk
        exact ⟨s1.heap.objs.size + 4, [s1.heap.objs.size + 4, s1.heap.objs.size + 2, s1.heap.objs.size + 3, s1.heap.objs.size, s1.heap.objs.size + 1], _, _, H1, rfl, I2, turn_zip (PySem.W.ktu_apart s1.heap.objs.size a b p1.lt p2.lt), ⟨hz, hTI, ⟨_, _, hTO⟩, h1, h2⟩, fresh5, q⟩
      · obtain ⟨its, rv, p1, _⟩ := I1.tuple hqx
        obtain ⟨its2, rv2, p2, _⟩ := I1.tuple hqy
        obtain ⟨o1, ho1, _⟩ := id p1
        obtain ⟨o2, ho2, _⟩ := id p2
        refine call_zipT (show s1.heap.IsTuple a its.toArray from p1) (show s1.heap.IsTuple b its2.toArray from p2) fun h' hz hTI hTO h1 h2 hsz hk => wpAny_pyIter_zip hz ?_
        have I2 : Inv X pins σ H1 { s1 with heap := h' } := I1.kept (t' := s1.toks) hk
        exact ⟨s1.heap.objs.size + 4, [s1.heap.objs.size + 4, s1.heap.objs.size + 2, s1.heap.objs.size + 3, s1.heap.objs.size, s1.heap.objs.size + 1], _, _, H1, rfl, I2, turn_zipT (PySem.W.ktu_apart s1.heap.objs.size a b (Heap.lt_size ho1) (Heap.lt_size ho2)), ⟨hz, hTI, ⟨_, _, hTO⟩, h1, h2⟩, fresh5, q⟩
      · obtain ⟨its, rv, p1, _⟩ := I1.tuple hqx
        obtain ⟨its2, rv2, p2, _⟩ := I1.list hqy
        obtain ⟨o1, ho1, _⟩ := id p1
        refine call_zipTL (show s1.heap.IsTuple a its.toArray from p1) p2.isList fun h' hz hTI hTO h1 h2 hsz hk => wpAny_pyIter_zip hz ?_
        have I2 : Inv X pins σ H1 { s1 with heap := h' } := I1.kept (t' := s1.toks) hk
        exact ⟨s1.heap.objs.size + 4, [s1.heap.objs.size + 4, s1.heap.objs.size + 2, s1.heap.objs.size + 3, s1.heap.objs.size, s1.heap.objs.size + 1], _, _, H1, rfl, I2, turn_zipTL (PySem.W.ktu_apart s1.heap.objs.size a b (Heap.lt_size ho1) p2.lt), ⟨hz, hTI, ⟨_, _, hTO⟩, h1, h2⟩, fresh5, q⟩
      · obtain ⟨its, rv, p1, _⟩ := I1.list hqx
        obtain ⟨its2, rv2, p2, _⟩ := I1.tuple hqy
        obtain ⟨o2, ho2, _⟩ := id p2
        refine call_zipLT p1.isList (show s1.heap.IsTuple b its2.toArray from p2) fun h' hz hTI hTO h1 h2 hsz hk => wpAny_pyIter_zip hz ?_
        have I2 : Inv X pins σ H1 { s1 with heap := h' } := I1.kept (t' := s1.toks) hk
        exact ⟨s1.heap.objs.size + 4, [s1.heap.objs.size + 4, s1.heap.objs.size + 2, s1.heap.objs.size + 3, s1.heap.objs.size, s1.heap.objs.size + 1], _, _, H1, rfl, I2, turn_zipLT (PySem.W.ktu_apart s1.heap.objs.size a b p1.lt (Heap.lt_size ho2)), ⟨hz, hTI, ⟨_, _, hTO⟩, h1, h2⟩, fresh5, q⟩
end ZM
namespace L2
open PySem PySem.Spec PyProof.Rows
def rLenO (C : Addr) (sp : Sp) : List V → Hp → VK → Prop := fun xs H Q => ∃ a dx fs, xs = [.ref a] ∧ H a = some (.ins C dx fs) ∧ sp [.ref a] H (fun v H' => ∃ n : Nat, v = .int (n : Int) ∧ n ≤ 1000000 ∧ Q (.int (n : Int)) H') (fun _ _ _ => False)
theorem run_fn1 {X : Cx} {CX : CXT} {k : Nat} {f : Addr} {fd : FuncData} {ps : List Str} {sp : Sp} {pins : List (Addr × Obj)} {σ : L2.St} {H : Hp} {s : Shared} {Q : VK} {us : List Value} {vs : List V} {E : XK} (F : FnOk X.prog X.w X.K X.mg X.base CX k f fd ps sp) (hr : Room (k + 1) X.A) (hb : Binds X.K fd ps []) (hx : Passes CX X E)
    (I : Inv X pins σ H s) (r : Vals vs us) (h : sp vs H Q E) : wpAny (model X.prog X.w) X.A.in1 (call (.ref f) us) (EP X pins σ Q) X.xe s := by
  have hl : (us ++ []).length = ps.length := by rw [List.append_nil, ← r.length]; exact F.len _ _ _ _ h
  have hb' := hb s us I.kIn hl
  rw [List.append_nil] at hb'
  refine wpAny_call (codeAny_mono (F.run X.A.in1 X.stack s H ⟨us, []⟩ us vs Q E hr.in1 I.env0.in1 hb' r h) fun r s' hq => ?_)
  cases r with
  | error e => exact hx pins σ H s e s' I hq
  | ok fl =>
    cases fl with
    | ret u => exact I.after hq
    | next => exact False.elim hq
    | brk => exact False.elim hq
    | cont => exact False.elim hq
theorem cr_lenO {X : Cx} {CX : CXT} {k : Nat} {C f : Addr} {fd : FuncData} {ps : List Str} {sp : Sp} (hm : Meth X.K C "__len__" f) (F : FnOk X.prog X.w X.K X.mg X.base CX k f fd ps sp) (hr : Room (k + 1) X.A) (hb : Binds X.K fd ps [])
    (hx : Passes CX X (fun _ _ _ => False)) : CallR X (.builtin "len") (rLenO C sp) := by
  intro pins s σ H xs us Q I r h
  obtain ⟨a, dx, fs, ex, ea, h⟩ := h
  subst ex
  obtain ⟨u, eu, rx⟩ := vals1 r
  subst eu
  obtain rfl : u = Value.ref a := rx
  obtain ⟨mA, O, _⟩ := ins_get I.hok ea
  obtain ⟨od, IA, _⟩ := O.look
  refine Calls.call_function_entry kind_len plain_len entry_len (args_len1 _) ?_
  unfold Builtin.«len»
  refine wpAny_bind (m := oneArg "len" _) (wpAny_pure ?_)
  refine wpAny_bind (m := callSpecial? (.ref a) (Str.ofString "__len__")) (PySem.W.special_fn I.kIn IA hm.at_ (beq_iff_eq.mp hm.fn) (wpAny_mono (run_fn1 (us := [.ref a]) (vs := [V.ref a]) F hr hb hx I (.cons rfl .nil) h) (fun u s' hq => ?_) fun _ _ e => e))
  obtain ⟨v, H', I3, rv, n, ev, hn, q3⟩ := hq
  subst ev
  obtain ⟨t, rfl⟩ := rv
  refine wpAny_bind (wpAny_holding (wpAny_pure ?_))
  refine wpAny_bind (wpAny_letGo ?_)
  show wpAny _ _ (if ((n : Nat) : Int) < 0 then _ else _) _ _ _
  rw [if_neg (by omega)]
  show wpAny _ _ (if ((n : Nat) : Int) ≥ 2 ^ 63 then _ else _) _ _ _
  rw [if_neg (by omega)]
  exact wpAny_bind (wpAny_mkInt (wpAny_pure ⟨_, rfl, .int n, H', I3.tok _, ⟨_, rfl⟩, q3⟩))
theorem get_listR {X : Cx} : PGet X (rIxL X.K) := by
  intro pins s σ H x y v u Q I rx ry h
  obtain ⟨p, xs, i, z, rfl, rfl, hq, he, q⟩ := h
  cases rx
  obtain ⟨t, rfl⟩ := ry
  obtain ⟨its, r, pl, hz⟩ := I.list hq
  obtain ⟨j, h1, h2, h3, h4, h5⟩ := atI_get he
  obtain ⟨w, ew, rw'⟩ := r.get h2
  have hl := r.length
  have hn := line63
  have fin : EP X pins σ Q w s := ⟨z, H, I, rw', q⟩
  by_cases h0 : 0 ≤ i
  · have hj : i.toNat = j := by
      rw [seqIndex_of h0 h5] at h1
      exact Option.some.inj h1
    exact wpAny_getItem_list pl.isList h0 (by omega) (by rw [hj]; simpa using ew) fin
  · have hj : (i + (its.toArray.size : Int)).toNat = j := by
      rw [seqIndex_neg (by omega) h4] at h1
      rw [List.size_toArray, ← hl]
      exact Option.some.inj h1
    exact wpAny_getItem_list_neg pl.isList (by omega) (by rw [List.size_toArray] <;> omega) (by omega) (by rw [hj]; simpa using ew) fin
end L2
namespace DL
open PySem PySem.Spec PyProof.Rows L2
section
variable {K : PySem.W.Frag} {te ti ta : TE} {a b : DE} {tas : TA} {as : DA}
theorem itzTL_ok {da : Option Addr} {G : Hp} {p q : Addr} {xs ys : List V} {ds es : List D} (hG : SqT K G p xs) (r : RpA K da G ds xs) (hG2 : SqL K G q ys) (r2 : RpA K da G es ys) : ItOk K da G (ZM.ItzTL K p q) (zipped ds es) := by
  intro G1 H1 e1 e2 dl
  have hS : SqT K H1 p xs := same_t e2 (same_t e1 hG)
  have hS2 : SqL K H1 q ys := same_l e2 (same_l e1 hG2)
  refine ⟨fun i d hd => ?_, ⟨xs, ys, hS, hS2, ?_⟩⟩
  · obtain ⟨x, y, hx, hy, ed⟩ := zipped_get hd
    subst ed
    obtain ⟨v, hv, rv⟩ := r.get hx
    obtain ⟨w, hw, rw'⟩ := r2.get hy
    refine ⟨⟨xs, ys, v, w, hS, hS2, hv, hw⟩, fun x H' ⟨T, x1, y1, ev, hT, eh, q1, q2⟩ => ?_⟩
    subst eh; subst ev
    have z1 := q1 xs hS
    rw [hv] at z1; cases z1
    have z2 := q2 ys hS2
    rw [hw] at z2; cases z2
    have gT : G1 T = none := by
      cases z : G1 T with
      | none => rfl
      | some o => rw [e2 T o z] at hT; cases hT
    have e3 : Same G1 (upd G1 T (.tup [v, w])) := Same.new gT
    exact ⟨_, Trn.put e2 dl hT, .tup (.inl (.inl upd_same)) (.cons ((rv.up e1).up e3) (.cons ((rw'.up e1).up e3) .nil))⟩
  · unfold zipped
    rw [List.length_zipWith, r.length, r2.length]
    omega
theorem itzLT_ok {da : Option Addr} {G : Hp} {p q : Addr} {xs ys : List V} {ds es : List D} (hG : SqL K G p xs) (r : RpA K da G ds xs) (hG2 : SqT K G q ys) (r2 : RpA K da G es ys) : ItOk K da G (ZM.ItzLT K p q) (zipped ds es) := by
  intro G1 H1 e1 e2 dl
  have hS : SqL K H1 p xs := same_l e2 (same_l e1 hG)
  have hS2 : SqT K H1 q ys := same_t e2 (same_t e1 hG2)
  refine ⟨fun i d hd => ?_, ⟨xs, ys, hS, hS2, ?_⟩⟩
  · obtain ⟨x, y, hx, hy, ed⟩ := zipped_get hd
    subst ed
    obtain ⟨v, hv, rv⟩ := r.get hx
    obtain ⟨w, hw, rw'⟩ := r2.get hy
    refine ⟨⟨xs, ys, v, w, hS, hS2, hv, hw⟩, fun x H' ⟨T, x1, y1, ev, hT, eh, q1, q2⟩ => ?_⟩
    subst eh; subst ev
    have z1 := q1 xs hS
    rw [hv] at z1; cases z1
    have z2 := q2 ys hS2
    rw [hw] at z2; cases z2
    have gT : G1 T = none := by
      cases z : G1 T with
      | none => rfl
      | some o => rw [e2 T o z] at hT; cases hT
    have e3 : Same G1 (upd G1 T (.tup [v, w])) := Same.new gT
    exact ⟨_, Trn.put e2 dl hT, .tup (.inl (.inl upd_same)) (.cons ((rv.up e1).up e3) (.cons ((rw'.up e1).up e3) .nil))⟩
  · unfold zipped
    rw [List.length_zipWith, r.length, r2.length]
    omega
def seqD : D → Option (List D)
  | .lst ds => some ds
  | .tup ds => some ds
  | _ => none
def dItZ4 (as : DA) : DI := fun δ P => as δ fun xs δ' => ∃ x y ds es, xs = [x, y] ∧ seqD x = some ds ∧ seqD y = some es ∧ P (zipped ds es) δ'
theorem rf_itZ4 {K : KW} (ha : RfA K tas as) : RfI K (ZM.iZip4 K tas) (dItZ4 as) := by
  intro e da G δ σ H P R R0 h k
  refine ha e da G δ σ H _ _ R0 h fun xs δ' v G' H' R' eg r ⟨x, y, ds, es, ed, h1, h2, h'⟩ => ?_
  subst ed
  cases r with
  | cons r1 r2 =>
    cases r2 with
    | cons r2 r3 =>
      cases r3
      cases r1 with
      | lst hg ra =>
        cases h1
        cases r2 with
        | lst hg2 ra2 =>
          cases h2
          exact ⟨_, _, _, _, rfl, .inl ⟨.inl (.inl (R'.ex _ _ hg)), .inl (.inl (R'.ex _ _ hg2)), k _ _ _ _ _ R' eg (itz_ok hg ra hg2 ra2) h'⟩⟩
        | tup hg2 ra2 =>
          cases h2
          exact ⟨_, _, _, _, rfl, .inr (.inr (.inr ⟨.inl (.inl (R'.ex _ _ hg)), same_t R'.ex hg2, k _ _ _ _ _ R' eg (itzLT_ok (.inl (.inl hg)) ra hg2 ra2) h'⟩))⟩
        | _ => cases h2
      | tup hg ra =>
        cases h1
        cases r2 with
        | lst hg2 ra2 =>
          cases h2
          exact ⟨_, _, _, _, rfl, .inr (.inr (.inl ⟨same_t R'.ex hg, .inl (.inl (R'.ex _ _ hg2)), k _ _ _ _ _ R' eg (itzTL_ok hg ra (.inl (.inl hg2)) ra2) h'⟩))⟩
        | tup hg2 ra2 =>
          cases h2
          exact ⟨_, _, _, _, rfl, .inr (.inl ⟨same_t R'.ex hg, same_t R'.ex hg2, k _ _ _ _ _ R' eg (itzT_ok hg ra hg2 ra2) h'⟩)⟩
        | _ => cases h2
      | _ => cases h1
/-! ### len of an own class -/
def dLenO (C : Addr) (S : DL.Spec) : DC := fun ds P => ∃ fs, ds = [.obj C fs] ∧ S [.obj C fs] fun d => ∃ n : Nat, d = .int (n : Int) ∧ n ≤ 1000000 ∧ P (.int (n : Int))
theorem rfc_lenO {C : Addr} {S : DL.Spec} : RfC K (rLenO C (spD K S)) (dLenO C S) := by
  intro da G H xs ds P Q ex dl r ⟨fs, ed, h⟩ k
  subst ed
  cases r with
  | cons r1 r2 =>
    cases r2
    cases r1 with
    | obj hG rF =>
      refine ⟨_, _, _, rfl, ex _ _ hG, ?_⟩
      exact ⟨G, da, _, _, ex, dl, .cons (.obj hG rF) .nil, h, fun d v G' H' T r ⟨n, ed, hn, p⟩ => by
        subst ed; cases r; exact ⟨n, rfl, hn, k _ _ _ _ T (.int _) p⟩⟩
/-! ### stores into one's own list -/
def dSetI (i : Nat) (a b : DE) : DS := fun D δ => a δ fun d δ1 => (∃ ds0, δ1[i]? = some (.own ds0)) ∧ b δ1 fun j δ2 => ∃ k n ds, j = .int k ∧ δ2[i]? = some (.own ds) ∧ ixN ds.length k = some n ∧ D.nx (δ2.set i (.own (ds.set n d)))
theorem rf_setI {K : KW} {i : Nat} (ha : RfE K te a) (hi : RfE K ti b) : RfS K (tAsg te (gSub (tVar i) ti rSetL)) (dSetI i a b) := fun e da G δ σ H D Dd E R h =>
  ha e da G δ σ H _ _ R h fun d δ1 v G1 H1 R1 e1 r1 ⟨⟨ds0, h0⟩, h1⟩ => by
    obtain ⟨p, xs0, q1, _, _⟩ := own_start R1 h0
    refine ⟨_, q1, hi e da G1 δ1 σ H1 _ _ R1 h1 fun j δ2 w G2 H2 R2 e2 r2 ⟨k, n, ds, ej, hd, hn, h2⟩ => ?_⟩
    subst ej; cases r2
    obtain ⟨p', xs, p1, p2, p3, _⟩ := R2.own_at hd
    rw [q1] at p1; cases p1
    exact ⟨p, xs, k, n, rfl, rfl, p2, by rw [← p3.length]; exact hn, E.nx _ _ _ _ (R2.own_set hd q1 (RpA.set (r1.up e2) n p3)) h2⟩
def dAugI (i : Nat) (f : Int → Int → Int) (b a : DE) : DS := fun D δ => (∃ ds0, δ[i]? = some (.own ds0)) ∧ b δ fun j δ1 => ∃ k ds x, j = .int k ∧ δ1[i]? = some (.own ds) ∧ atI ds k = some (.int x) ∧
  a δ1 fun y δ2 => ∃ z n ds', y = .int z ∧ δ2[i]? = some (.own ds') ∧ ixN ds'.length k = some n ∧ D.nx (δ2.set i (.own (ds'.set n (.int (f x z)))))
theorem rf_augI {K : KW} {i : Nat} {f : Int → Int → Int} (hi : RfE K ti b) (ha : RfE K te a) : RfS K (tAugS (tVar i) ti te (rIxL K) (ipI f) rSetL) (dAugI i f b a) := fun e da G δ σ H D Dd E R h => by
  obtain ⟨⟨ds0, h0⟩, h⟩ := h
  obtain ⟨p, xs0, q1, _, _⟩ := own_start R h0
  refine ⟨_, q1, hi e da G δ σ H _ _ R h fun j δ1 w G1 H1 R1 e1 r1 ⟨k, ds, x, ej, hd, hx, h1⟩ => ?_⟩
  subst ej; cases r1
  obtain ⟨p', xs, p1, p2, p3, _⟩ := R1.own_at hd
  rw [q1] at p1; cases p1
  obtain ⟨v, hv, rv⟩ := atI_rel p3 hx
  cases rv
  refine ⟨p, xs, k, _, rfl, rfl, .inl (.inl p2), hv, ha e da G1 δ1 σ H1 _ _ R1 h1 fun y δ2 u G2 H2 R2 e2 r2 ⟨z, n, ds', ey, hd2, hn, h2⟩ => ?_⟩
  subst ey; cases r2
  obtain ⟨p', xs', p1, p2, p3, _⟩ := R2.own_at hd2
  rw [q1] at p1; cases p1
  exact ⟨x, z, rfl, rfl, p, xs', k, n, rfl, rfl, p2, by rw [← p3.length]; exact hn, E.nx _ _ _ _ (R2.own_set hd2 q1 (RpA.set (.int _) n p3)) h2⟩
/-! ### [x] * n -/
def dMulN : D → D → (List D → Prop) → Prop := fun x y P => match x, y with
  | .lst l, .int k => 0 ≤ k ∧ l.length ≤ 1000 ∧ k ≤ 1000 ∧ P (List.replicate k.toNat l).flatten
  | _, _ => False
theorem rfo_mulN : RfON K (rMulA K) dMulN := by
  intro da G H x y d1 d2 P Q e dl r1 r2 h k
  unfold dMulN at h
  cases r1 <;> cases r2 <;> try exact h.elim
  · rename_i a xs ds hg ra j
    obtain ⟨h0, hz, hj, h⟩ := h
    refine .inr (.inr (.inl ⟨a, j, xs, rfl, rfl, e _ _ hg, by omega, by omega, ?_, fun p hp => ?_⟩))
    · have : xs.length * j.toNat ≤ 1000 * 1000 := Nat.mul_le_mul (by rw [← ra.length]; exact hz) (by omega)
      exact sz6 this
    · exact k _ _ _ hp (rpA_rep ra j.toNat) h
end
/-! ### x, y = [], e -/
section
variable {K : PySem.W.Frag} {e : En} {da : Option Addr} {G H : Hp} {δ : Env} {σ : L2.St} {p : Addr}
theorem Rel0.entry (R : Rel0 K e da G δ σ H) (hp : H p = none) : Rel0 K ⟨e.G, upd e.H p (.lst [])⟩ da G δ σ (upd H p (.lst [])) := by
  obtain ⟨eHp, gp⟩ := R.enone hp
  have T := Trn.mine (o := .lst []) R.ex R.dl hp
  obtain ⟨A, h1, h2, h3⟩ := R.sl
  have ne : ∀ i a, a ∈ A i → a ≠ p := fun i a ha z => (h2 i a ha).2.2.2.ne (by rw [z]; exact hp)
  refine ⟨⟨T.ex, R.eg, fun b o q n => ?_, fun b o q => ?_, T.dl⟩, R.ln, A, fun i s q => (h1 i s q).up (Same.refl _) fun a ha => upd_ne (ne i a ha), fun i a ha => ?_, h3⟩
  · by_cases hb : b = p
    · subst hb
      rw [show (⟨e.G, upd e.H b (.lst [])⟩ : En).H = upd e.H b (.lst []) from rfl, upd_same] at q
      rw [upd_same]; exact .inl q
    · rw [show (⟨e.G, upd e.H p (.lst [])⟩ : En).H = upd e.H p (.lst []) from rfl, upd_ne hb] at q
      rw [upd_ne hb]; exact R.kp b o q n
  · rcases R.fr b o q with z | z
    · exact .inl z
    · exact .inr (by
        show upd e.H p (.lst []) b = none
        rw [upd_ne (fun y => by rw [y, gp] at q; cases q)]; exact z)
  · obtain ⟨q1, q2, q3, q4⟩ := h2 i a ha
    refine ⟨?_, q2, q3, ?_⟩
    · show upd e.H p (.lst []) a = none
      rw [upd_ne (ne i a ha)]; exact q1
    · rw [upd_ne (ne i a ha)]; exact q4
theorem Rel0.leave (R : Rel0 K ⟨e.G, upd e.H p (.lst [])⟩ da G δ σ H) (he : e.H p = none) : Rel0 K e da G δ σ H := by
  obtain ⟨A, h1, h2, h3⟩ := R.sl
  have up : ∀ b, b ≠ p → (⟨e.G, upd e.H p (.lst [])⟩ : En).H b = e.H b := fun b n => upd_ne n
  refine ⟨⟨R.ex, R.eg, fun b o q n => R.kp b o (by rw [up b fun z => by rw [z, he] at q; cases q]; exact q) n, fun b o q => ?_, R.dl⟩, R.ln, A, h1, fun i a ha => ?_, h3⟩
  · rcases R.fr b o q with z | z
    · exact .inl z
    · by_cases hb : b = p
      · rw [hb]; exact .inr he
      · rw [up b hb] at z; exact .inr z
  · obtain ⟨q1, q2, q3, q4⟩ := h2 i a ha
    by_cases hb : a = p
    · rw [hb]
      rw [hb] at q2 q3 q4
      exact ⟨he, q2, q3, q4⟩
    · rw [up a hb] at q1; exact ⟨q1, q2, q3, q4⟩
theorem Rel0.adopt (R : Rel0 K ⟨e.G, upd e.H p (.lst [])⟩ da G δ σ H) (he : e.H p = none) (hg : e.G p = none) (hd : da ≠ some p) (i : Nat) : Rel0 K e da G (δ.set i (.own [])) (σ.set i (some (.ref p))) H := by
  have R0 := R.leave he
  have hp : H p = some (.lst []) := (R.kp p (.lst []) upd_same hd).nt (by intro ps z; cases z)
  have gp : G p = none := by
    cases q : G p with
    | none => rfl
    | some u =>
      rcases R.fr p u q with z | z
      · rw [hg] at z; cases z
      · rw [show (⟨e.G, upd e.H p (.lst [])⟩ : En).H = upd e.H p (.lst []) from rfl, upd_same] at z; cases z
  obtain ⟨A, h1, h2, h3⟩ := R.sl
  have np : ∀ j, p ∉ A j := fun j ha => by
    have := (h2 j p ha).1
    rw [show (⟨e.G, upd e.H p (.lst [])⟩ : En).H = upd e.H p (.lst []) from rfl, upd_same] at this; cases this
  have up : ∀ b, b ≠ p → (⟨e.G, upd e.H p (.lst [])⟩ : En).H b = e.H b := fun b n => upd_ne n
  refine ⟨R0.toTrn, by rw [List.length_set, List.length_set]; exact R.ln, fun j => if j = i then [p] else A j, fun j s' q => ?_, fun j a ha => ?_, fun j k a n ha hb => ?_⟩
  · rcases get_set q with ⟨rfl, lt, rfl⟩ | ⟨n, q⟩
    · dsimp only
      rw [if_pos rfl, List.getElem?_set_self (by rw [← R.ln]; exact lt)]
      exact ⟨p, [], rfl, rfl, hp, .nil⟩
    · dsimp only
      rw [if_neg n, List.getElem?_set_ne (Ne.symm n)]
      exact h1 j s' q
  · dsimp only at ha
    by_cases n : j = i
    · rw [if_pos n] at ha
      obtain rfl : a = p := by simpa using ha
      exact ⟨he, hd, gp, ⟨_, hp, by intro ps z; cases z⟩⟩
    · rw [if_neg n] at ha
      obtain ⟨q1, q2, q3, q4⟩ := h2 j a ha
      rw [up a fun z => np j (by rw [← z]; exact ha)] at q1
      exact ⟨q1, q2, q3, q4⟩
  · dsimp only at ha hb
    by_cases n1 : j = i
    · rw [if_pos n1] at ha
      have e1 : a = p := by simpa using ha
      have n2 : k ≠ i := fun z => n (n1.trans z.symm)
      rw [if_neg n2, e1] at hb
      exact np k hb
    · rw [if_neg n1] at ha
      by_cases n2 : k = i
      · rw [if_pos n2] at hb
        have e1 : a = p := by simpa using hb
        rw [e1] at ha
        exact np j ha
      · rw [if_neg n2] at hb
        exact h3 j k a n ha hb
end
def dParEV (i j : Nat) (a : DE) : DS := fun D δ => a δ fun d δ1 => D.nx ((δ1.set i (.own [])).set j (.val d))
theorem rf_asgEV {K : KW} {te : TE} {a : DE} {i j : Nat} (ha : RfE K te a) : RfS K (tAsg (tTup (tCons (tLst tNil) (tCons te tNil))) (gTup K.K 2 (gCons (gName i) (gCons (gName j) gNil)))) (dParEV i j a) := fun e da G δ σ H D Dd E R h => by
  refine ⟨by show 0 ≤ _; rw [sizeLine_eq]; decide, fun p hp => ?_⟩
  obtain ⟨eHp, gp⟩ := R.toRel0.enone hp
  have eGp : e.G p = none := gno R.eg gp
  have hd : da ≠ some p := R.dl.ne hp
  have R1 : Rel K ⟨e.G, upd e.H p (.lst [])⟩ da G δ σ (upd H p (.lst [])) := ⟨R.toRel0.entry hp, fun C dd fs gs G' δ' σ' H' R' => R.xo C dd fs gs G' δ' σ' H' (R'.leave eHp)⟩
  refine ha _ da G δ σ _ _ _ R1 h fun d δ1 v G1 H1 R2 e1 r p1 => ⟨by show 2 ≤ _; rw [sizeLine_eq]; decide, fun t ht => ⟨t, _, rfl, .inl (.inl upd_same), rfl, _, _, rfl, _, _, rfl, rfl, ?_⟩⟩
  have R3 : Rel K e da G1 (δ1.set i (.own [])) (σ.set i (some (.ref p))) H1 := ⟨R2.toRel0.adopt eHp eGp hd i, R.xo⟩
  exact E.nx _ _ _ _ ((R3.go (Trn.mine R3.ex R3.dl ht)).val r j) p1
theorem rf_parEV {K : KW} {te : TE} {a : DE} {i j : Nat} (ha : RfE K te a) : RfS K (tPar i j (tCons (tLst tNil) (tCons te tNil))) (dParEV i j a) := fun e da G δ σ H D Dd E R h => by
  refine ⟨by show 0 ≤ _; rw [sizeLine_eq]; decide, fun p hp => ?_⟩
  obtain ⟨eHp, gp⟩ := R.toRel0.enone hp
  have eGp : e.G p = none := gno R.eg gp
  have hd : da ≠ some p := R.dl.ne hp
  have R1 : Rel K ⟨e.G, upd e.H p (.lst [])⟩ da G δ σ (upd H p (.lst [])) := ⟨R.toRel0.entry hp, fun C dd fs gs G' δ' σ' H' R' => R.xo C dd fs gs G' δ' σ' H' (R'.leave eHp)⟩
  refine ha _ da G δ σ _ _ _ R1 h fun d δ1 v G1 H1 R2 e1 r p1 => ⟨_, _, rfl, ?_⟩
  have R3 : Rel K e da G1 (δ1.set i (.own [])) (σ.set i (some (.ref p))) H1 := ⟨R2.toRel0.adopt eHp eGp hd i, R.xo⟩
  exact E.nx _ _ _ _ (R3.val r j) p1
end DL

/-! range with a step -/
namespace DL
open PySem PySem.Spec PyProof.Rows L2
def rngC (lo c : Int) (n : Nat) : List D := (List.range n).map fun (k : Nat) => .int (lo + (k : Nat) * c)
theorem rngC_get {lo c : Int} {n i : Nat} {d : D} (h : (rngC lo c n)[i]? = some d) : i < n ∧ d = .int (lo + (i : Nat) * c) := by
  unfold rngC at h
  rw [List.getElem?_map] at h
  cases q : (List.range n)[i]? with
  | none => rw [q] at h; cases h
  | some j =>
    rw [q] at h
    cases h
    obtain ⟨lt, e⟩ := List.getElem?_eq_some_iff.mp q
    rw [List.length_range] at lt
    rw [List.getElem_range] at e
    subst e
    exact ⟨lt, rfl⟩
section
variable {K : PySem.W.Frag} {tas : TA} {as : DA}
theorem itc_ok {da : Option Addr} {G : Hp} {lo c : Int} {n : Nat} : ItOk K da G (Itc lo c n) (rngC lo c n) := by
  intro G1 H1 e1 e2 dl
  refine ⟨fun i d hd => ?_, ?_⟩
  · obtain ⟨lt, ed⟩ := rngC_get hd
    subst ed
    refine ⟨lt, fun x H' ⟨eh, ex⟩ => ?_⟩
    subst eh; subst ex
    exact ⟨G1, Trn.refl e2 dl, .int _⟩
  · show n ≤ (rngC lo c n).length
    unfold rngC
    rw [List.length_map, List.length_range]
    exact Nat.le_refl _
def dItR3 (as : DA) : DI := fun δ P => as δ fun ds δ' => ∃ (i j c : Int) (n : Nat), ds = [.int i, .int j, .int c] ∧ RgC i j c n ∧ P (rngC i c n) δ'
theorem rf_itR3 {K : KW} (ha : RfA K tas as) : RfI K (iRng3 tas) (dItR3 as) := by
  intro e da G δ σ H P R R0 h k
  refine ha e da G δ σ H _ _ R0 h fun ds δ' v G' H' R' eg r ⟨i, j, c, n, ed, h0, h'⟩ => ?_
  subst ed
  cases r with
  | cons r1 r2 =>
    cases r2 with
    | cons r2 r3 =>
      cases r3 with
      | cons r3 r4 =>
        cases r4; cases r1; cases r2; cases r3
        exact ⟨i, j, c, n, rfl, h0, k _ _ _ _ _ R' eg itc_ok h'⟩
end
def dParNC (i j : Nat) (n : Env → (List D → Env → Prop) → Prop) (z : Int) : DS := fun D δ => n δ fun ds δ1 => D.nx ((δ1.set i (.own ds)).set j (.val (.int z)))
theorem rf_parNC {K : KW} {i j : Nat} {z : Int} {tn : TE} {n : Env → (List D → Env → Prop) → Prop} (ha : RfN K tn n) : RfS K (tPar i j (tCons tn (tCons (tC (.int z)) tNil))) (dParNC i j n z) := fun e da G δ σ H D Dd E R h =>
  ha e da G δ σ H _ _ R h fun ds δ' p xs G' H0 H' R' eg hp eh r h' => by
    subst eh
    exact ⟨_, _, rfl, E.nx _ _ _ _ ((R'.mine hp r i).val (.int z) j) h'⟩
end DL

/-! x not in a list of one's own, which stays one's own -/
namespace DL
open PySem PySem.Spec PyProof.Rows L2
def dNotInV (i : Nat) (a : DE) : DE := fun δ P => a δ fun x δ' => ∃ ds, δ'[i]? = some (.own ds) ∧ shp x = true ∧ shp (.lst ds) = true ∧ P (.bl (!ds.any fun z => PyData.eqv (py z) (py x))) δ'
theorem rf_notInV {K : KW} {i : Nat} {ta : TE} {a : DE} (ha : RfE K ta a) : RfE K (tOp (rNotInD K) ta (tVar i)) (dNotInV i a) := by
  intro e da G δ σ H P Q R h
  intro k
  refine ha e da G δ σ H _ _ R h fun x δ' w G' H' R' eg r ⟨ds, hi, h1, h2, h'⟩ => ?_
  obtain ⟨a', xs, p1, p2, p3, _⟩ := R'.own_at hi
  refine ⟨_, p1, ?_⟩
  refine ⟨_, _, r.dp R'.ex (shp_can h1), .lst (.inl (.inl p2)) (RpA.dp R'.ex p3 (shp_can h2)), h1, h2, ?_⟩
  rw [any_pys]
  exact k _ _ _ G' H' R' eg (.bl _) h'
def dItAE (a : DE) : DI := fun δ P => dItL a δ P ∨ dItT a δ P
theorem rf_itAE {K : KW} {ta : TE} {a : DE} (ha : RfE K ta a) : RfI K (fun σ H R => iList K ta σ H R ∨ iTup K ta σ H R) (dItAE a) := by
  intro e da G δ σ H P R R0 h k
  rcases h with h | h
  · exact .inl (rf_itL ha e da G δ σ H P R R0 h k)
  · exact .inr (rf_itT ha e da G δ σ H P R R0 h k)
end DL

/-! a call that tells a tuple that ends with a new list -/
namespace DL
open PySem PySem.Spec PyProof.Rows L2
abbrev SpecB := List D → (List D → List D → Prop) → Prop
abbrev DB := Env → (List D → List D → Env → Prop) → Prop
def spB (K : PySem.W.Frag) (S : SpecB) : Sp := fun vs H Q _ => ∃ (G : Hp) (da : Option Addr) (ds : List D) (P : List D → List D → Prop), Same G H ∧ DealOk K da G H ∧ RpA K da G ds vs ∧ S ds P ∧
  ∀ ds ls t a xs ys G' H', Trn K da G H G' H' → SqT K G' t (xs ++ [.ref a]) → H' a = some (.lst ys) → G' a = none → H a = none → da ≠ some a → RpA K da G' ds xs → RpA K da G' ls ys → P ds ls → Q (.ref t) H'
def endsB (P : List D → List D → Prop) : DEnds := ⟨fun _ => False, fun _ => False, fun _ => False, fun _ => False, fun _ => False, P⟩
def RfB (K : KW) (te : TE) (n : DB) : Prop := ∀ (e : En) (da : Option Addr) (G : Hp) (δ : Env) (σ : L2.St) (H : Hp) (P : List D → List D → Env → Prop) (Q : VK), Rel K e da G δ σ H → n δ P →
  (∀ ds ls δ' t a xs ys G' H0 H', Rel K e da G' δ' σ H0 → Same G G' → H0 a = none → H' = upd H0 a (.lst ys) → SqT K.K G' t (xs ++ [.ref a]) → RpA K.K da G' ds xs → RpA K.K da G' ls ys → P ds ls δ' → Q (.ref t) H') → te σ H Q
section
variable {K : KW} {ta tb : TE} {a b : DE} {tas : TA} {as : DA} {tt : TT} {t : DT} {ts : TS} {s : DS} {i : Nat}
def dCallB (S : SpecB) (as : DA) : DB := fun δ P => as δ fun ds δ' => S ds fun ds ls => P ds ls δ'
theorem rf_callB {S : SpecB} {E : XK} (ha : RfA K tas as) : RfB K (tCall (spB K.K S) [] E tas) (dCallB S as) := by
  intro e da G δ σ H P Q R h k
  refine ha e da G δ σ H _ _ R h fun ds δ1 vs G1 H1 R1 e1 r1 h1 => ?_
  rw [List.append_nil]
  exact ⟨G1, da, ds, _, R1.ex, R1.dl, r1, h1, fun ds ls t p xs ys G' H' T ht ea gp hp np r r2 q => k ds ls _ t p xs ys G' (del H' p) H' (R1.go (T.cut hp gp np (.lst ea))) (e1.trans T.eg) del_same (upd_del ea) ht r r2 q⟩
def dIfB (t : DT) (n m : DB) : DB := fun δ P => t δ fun c δ' => if c = true then n δ' P else m δ' P
theorem rf_ifB {ta tb : TE} {n m : DB} (ht : RfT K tt t) (ha : RfB K ta n) (hb : RfB K tb m) : RfB K (tIf tt ta tb) (dIfB t n m) := by
  intro e da G δ σ H P Q R h k
  refine ht e da G δ σ H _ _ R h fun c δ1 G1 H1 R1 e1 h1 => ?_
  cases c with
  | true =>
    rw [if_pos rfl] at h1 ⊢
    exact ha e da G1 δ1 σ H1 _ _ R1 h1 fun ds ls δ' t a xs ys G' H0 H' R' eg => k ds ls δ' t a xs ys G' H0 H' R' (e1.trans eg)
  | false =>
    rw [if_neg Bool.false_ne_true] at h1 ⊢
    exact hb e da G1 δ1 σ H1 _ _ R1 h1 fun ds ls δ' t a xs ys G' H0 H' R' eg => k ds ls δ' t a xs ys G' H0 H' R' (e1.trans eg)
theorem Rel.boxed {e : En} {da : Option Addr} {G H : Hp} {δ : Env} {σ : L2.St} {ds ls : List D} {xs ys : List V} {t p : Addr} (R : Rel K e da G δ σ H) (hp : H p = none) (ht : SqT K.K G t (xs ++ [.ref p])) (r : RpA K.K da G ds xs) (r2 : RpA K.K da G ls ys) (i : Nat) :
    Rel K e da G (δ.set i (.box p ds ls)) (σ.set i (some (.ref t))) (upd H p (.lst ys)) := by
  obtain ⟨eHp, gp⟩ := R.enone hp
  refine R.slot (s := .box p ds ls) (o := some (.ref t)) (B := [p]) (C := [p]) (R.toTrn.trans (Trn.mine R.ex R.dl hp)) i (Same.refl _) (fun a ha g nb => ⟨upd_ne (fun z => nb (by simp [z])), g⟩) (fun a ha => ?_) (fun A _ _ a ha => ?_) ⟨t, xs, ys, rfl, rfl, ht, upd_same, r, r2⟩
  · obtain rfl : a = p := by simpa using ha
    exact ⟨ha, eHp, R.dl.ne hp, gp, NT.upd (by intro ps z; cases z)⟩
  · obtain rfl : a = p := by simpa using ha
    exact .inr hp
def dAsgB (i : Nat) (n : DB) : DS := fun D δ => n δ fun ds ls δ' => ∀ p, D.nx (δ'.set i (.box p ds ls))
theorem rf_asgB {n : DB} (ha : RfB K ta n) : RfS K (tAsg ta (gName i)) (dAsgB i n) := fun e da G δ σ H D Dd E R h =>
  ha e da G δ σ H _ _ R h fun ds ls δ' t p xs ys G' H0 H' R' eg hp eh ht r r2 h' => by
    subst eh
    exact E.nx _ _ _ _ (R'.boxed hp ht r r2 i) (h' p)
/-! ### told -/
def dRetB (i : Nat) : DS := fun D δ => match δ[i]? with
  | some (.box _ ds ls) => D.rb ds ls
  | _ => False
theorem rf_retB : RfS K (tRet (tVar i)) (dRetB i) := by
  intro e da G δ σ H D Dd E R h
  unfold dRetB at h
  cases q : δ[i]? with
  | none => rw [q] at h; exact h.elim
  | some s =>
    rw [q] at h
    cases s with
    | box a ds ls =>
      obtain ⟨A, ⟨t, xs, ys, rA, e1, ht, ha, r, r2⟩, hA⟩ := R.at q
      obtain ⟨m1, m2, m3, _⟩ := hA a (by rw [rA]; exact List.mem_cons_self)
      exact ⟨_, e1, E.rb ds ls t a xs ys G H R.toTrn ht ha m3 m1 m2 r r2 h⟩
    | val d => exact h.elim
    | own ds => exact h.elim
    | no => exact h.elim
    | ini x dx C fs => exact h.elim
def dRetB3 (a b : DE) (n : Env → (List D → Env → Prop) → Prop) : DS := fun D δ => a δ fun x δ1 => b δ1 fun y δ2 => n δ2 fun ls _ => D.rb [x, y] ls
theorem rf_retB3 {tn : TE} {n : Env → (List D → Env → Prop) → Prop} (ha : RfE K ta a) (hb : RfE K tb b) (hn : RfN K tn n) : RfS K (tRet (tTup (tCons ta (tCons tb (tCons tn tNil))))) (dRetB3 a b n) := by
  intro e da G δ σ H D Dd E R h
  refine ha e da G δ σ H _ _ R h fun x δ1 v G1 H1 R1 e1 r1 h1 => ?_
  refine hb e da G1 δ1 σ H1 _ _ R1 h1 fun y δ2 w G2 H2 R2 e2 r2 h2 => ?_
  refine hn e da G2 δ2 σ H2 _ _ R2 h2 fun ls δ3 p ys G3 H0 H3 R3 e3 hp eh rl h3 => ?_
  subst eh
  refine ⟨by show 3 ≤ sizeLine; decide, fun t ht => ?_⟩
  have ntp : t ≠ p := fun z => by rw [z, upd_same] at ht; cases ht
  obtain ⟨eHp, gp⟩ := R3.enone hp
  have hT : H0 t = none := by rw [upd_ne ntp] at ht; exact ht
  obtain ⟨eHt, gt⟩ := R3.enone hT
  have T1 := Trn.mine (K := K.K) (o := .lst ys) R3.ex R3.dl hp
  have T2 := Trn.put (K := K.K) (o := .tup [v, w, .ref p]) T1.ex T1.dl ht
  have eg : Same G3 (upd G3 t (.tup [v, w, .ref p])) := Same.new gt
  exact E.rb [x, y] ls t p [v, w] ys _ _ (R3.toTrn.trans (T1.trans T2)) (.inl (.inl upd_same)) (by rw [upd_ne (Ne.symm ntp), upd_same]) (by rw [upd_ne (Ne.symm ntp)]; exact gp) eHp (R3.dl.ne hp) ((.cons (r1.up ((e2.trans e3).trans eg)) (.cons (r2.up (e3.trans eg)) .nil))) (rl.up eg) h3
/-! ### the list of a box: len, != [], pop -/
theorem box_at {e : En} {da : Option Addr} {G H : Hp} {δ : Env} {σ : L2.St} {p : Addr} {ds ls : List D} (R : Rel K e da G δ σ H) (h : δ[i]? = some (.box p ds ls)) (hl : ds.length = 2) : ∃ (t : Addr) (xs ys : List V), σ[i]? = some (some (.ref t)) ∧ SqT K.K G t (xs ++ [.ref p]) ∧ H p = some (.lst ys) ∧ RpA K.K da G ls ys ∧ atI (xs ++ [V.ref p]) 2 = some (.ref p) := by
  obtain ⟨A, ⟨t, xs, ys, rA, e1, ht, hp, r, r2⟩, hA⟩ := R.at h
  have hx : xs.length = 2 := by rw [← r.length]; exact hl
  have h1 : atI (xs ++ [V.ref p]) ((2 : Nat) : Int) = some (.ref p) := atI_nat (by rw [List.getElem?_append_right (by omega), hx]; rfl)
  exact ⟨t, xs, ys, e1, ht, hp, r2, h1⟩
def dBoxLen (i : Nat) : DE := fun δ P => ∃ p ds ls, δ[i]? = some (.box p ds ls) ∧ ds.length = 2 ∧ P (.int (ls.length : Nat)) δ
theorem rf_boxLen : RfE K (tCB (rLenA K.K) (tCons (tOp (rIx K.K) (tVar i) (tC (.int 2))) tNil)) (dBoxLen i) := by
  intro e da G δ σ H P Q R ⟨p, ds, ls, h0, hl, h⟩ k
  obtain ⟨t, xs, ys, e1, ht, hp, r2, hat⟩ := box_at R h0 hl
  refine ⟨_, e1, .inr (.inl ⟨t, _, 2, .ref p, rfl, rfl, same_t R.ex ht, hat, ?_⟩)⟩
  refine .inl ⟨p, ys, rfl, .inl (.inl (.inl hp)), ?_⟩
  rw [← r2.length]
  exact k _ _ _ G H R (Same.refl _) (.int _) h
def dBoxNe (i : Nat) : DE := fun δ P => ∃ p ds ls, δ[i]? = some (.box p ds ls) ∧ ds.length = 2 ∧ shp (.lst ls) = true ∧ P (.bl (!PyData.eqv (py (.lst ls)) (py (.lst [])))) δ
theorem rf_boxNe : RfE K (tOp (rNeD K.K) (tOp (rIx K.K) (tVar i) (tC (.int 2))) (tLst tNil)) (dBoxNe i) := by
  intro e da G δ σ H P Q R ⟨p, ds, ls, h0, hl, hs, h⟩ k
  obtain ⟨t, xs, ys, e1, ht, hp, r2, hat⟩ := box_at R h0 hl
  refine ⟨_, e1, .inr (.inl ⟨t, _, 2, .ref p, rfl, rfl, same_t R.ex ht, hat, ?_⟩)⟩
  refine ⟨Nat.zero_le _, fun q hq => ?_⟩
  have T := Trn.put (K := K.K) (o := .lst []) R.ex R.dl hq
  have R1 := R.go T
  have hpq : p ≠ q := fun z => by rw [z, hq] at hp; cases hp
  have hp1 : upd H q (.lst []) p = some (.lst ys) := by rw [upd_ne hpq]; exact hp
  refine ⟨_, _, .lst (.inl (.inl hp1)) (RpA.dp (R.ex.trans (Same.new hq)) r2 (shp_can hs)), .lst (.inl (.inl upd_same)) .nil, hs, by rfl, ?_⟩
  exact k _ _ _ _ _ R1 T.eg (.bl _) h
def dBoxPop (i : Nat) (a : DE) : DS := fun D δ => ∃ p ds ls, δ[i]? = some (.box p ds ls) ∧ ds.length = 2 ∧ a δ fun x δ' => ∃ (k : Nat) (ds ls : List DL.D), x = .int k ∧ δ'[i]? = some (.box p ds ls) ∧ k < 1000000 ∧ k < ls.length ∧ D.nx (δ'.set i (.box p ds (ls.eraseIdx k)))
theorem rf_boxPop (ha : RfE K ta a) : RfS K (tDrop (tBM K.K "list" rPopAt (tOp (rIx K.K) (tVar i) (tC (.int 2))) (tCons ta tNil))) (dBoxPop i a) := by
  intro e da G δ σ H D Dd E R ⟨p, ds0, ls0, h0, hl0, h⟩
  obtain ⟨t, xs, ys, e1, ht, hp, _, hat⟩ := box_at R h0 hl0
  refine ⟨_, e1, .inr (.inl ⟨t, _, 2, .ref p, rfl, rfl, same_t R.ex ht, hat, ?_⟩)⟩
  refine ⟨.inl ⟨rfl, ys, .inl (.inl hp)⟩, ?_⟩
  refine ha e da G δ σ H _ _ R h fun x δ' v G' H' R' eg rv ⟨k, ds, ls, ex, hi, hk, hkl, h'⟩ => ?_
  subst ex
  cases rv
  obtain ⟨A', ⟨t', xs', ys', rA', e1', ht', hp', r', rl'⟩, hA'⟩ := R'.at hi
  obtain ⟨m1, m2, m3, m4⟩ := hA' p (by rw [rA']; exact List.mem_cons_self)
  obtain ⟨y, hy, ry⟩ := rl'.get (List.getElem?_eq_getElem hkl)
  have lt : k < ys'.length := (List.getElem?_eq_some_iff.mp hy).1
  refine ⟨p, ys', k, k, y, rfl, rfl, hp', by omega, by omega, ?_, hy, E.nx G' _ _ _ ?_ h'⟩
  · unfold seqIndex?
    simp
    omega
  have hk : ∀ b, b ≠ p → upd H' p (.lst (ys'.eraseIdx k)) b = H' b := fun b n => upd_ne n
  have T : Trn K.K da e.G e.H G' (upd H' p (.lst (ys'.eraseIdx k))) := ⟨fun b o q => by rw [hk b (fun z => by rw [z, m3] at q; cases q)]; exact R'.ex b o q, R'.eg,
    fun b o q n => by rw [hk b (fun z => by rw [z, m1] at q; cases q)]; exact R'.kp b o q n, R'.fr, R'.dl.up (Same.refl _) (fun t => t.updH (by intro ps z; cases z) (.lst hp')) fun b eb => ⟨(R'.dl.2 b eb).1, hk b fun z => m2 (by rw [← z]; exact eb)⟩⟩
  have Z := R'.slot (s := .box p ds (ls.eraseIdx k)) (o := some (.ref t')) (B := [p]) (C := [p]) T i (Same.refl _) (fun b _ g nb => ⟨hk b fun z => nb (by simp [z]), g⟩) (fun b hb => ?_) (fun A h1 h2 b hb => ?_)
    ⟨t', xs', ys'.eraseIdx k, rfl, rfl, ht', upd_same, r', rl'.erase k⟩
  · rw [set_at e1'] at Z
    exact Z
  · obtain rfl : b = p := by simpa using hb
    exact ⟨hb, m1, m2, m3, NT.upd (by intro ps z; cases z)⟩
  · obtain rfl : b = p := by simpa using hb
    obtain ⟨t2, xs2, ys2, q, _⟩ := h1 i _ hi
    exact .inl (by rw [q]; exact List.mem_cons_self)
def dFrz (i : Nat) (s : DS) : DS := fun D δ => ∃ p ds ls, δ[i]? = some (.box p ds ls) ∧ s D (δ.set i (.val (.tup (ds ++ [.lst ls]))))
theorem rf_frz (hs : RfS K ts s) : RfS K ts (dFrz i s) := by
  intro e da G δ σ H D Dd E R ⟨a, ds, ls, q, h⟩
  obtain ⟨A, ⟨t, xs, ys, rA, e1, ht, ha, r, r2⟩, hA⟩ := R.at q
  obtain ⟨m1, m2, m3, _⟩ := hA a (by rw [rA]; exact List.mem_cons_self)
  have eg : Same G (upd G a (.lst ys)) := Same.new m3
  have T : Trn K.K da e.G e.H (upd G a (.lst ys)) H := ⟨fun b o q => by
      by_cases hb : b = a
      · subst hb; rw [upd_same] at q; rw [ha]; exact q
      · rw [upd_ne hb] at q; exact R.ex b o q, R.eg.trans eg, R.kp, fun b o q => by
      by_cases hb : b = a
      · subst hb; exact .inr m1
      · rw [upd_ne hb] at q; exact R.fr b o q, R.dl.up eg (fun t => t.updG (by intro ps z; cases z) m3) fun b eb => ⟨by rw [upd_ne (fun z => m2 (by rw [← z]; exact eb))]; exact (R.dl.2 b eb).1, rfl⟩⟩
  have Z := R.slot (s := .val (.tup (ds ++ [.lst ls]))) (o := some (.ref t)) (B := []) (C := [a]) T i eg (fun b _ g nb => ⟨rfl, by rw [upd_ne (fun z => nb (by simp [z]))]; exact g⟩) (fun b hb => absurd hb (by simp)) (fun A h1 h2 b hb => ?_)
    ⟨rfl, _, rfl, .tup (same_t eg ht) ((r.up eg).app (.cons (.lst upd_same (r2.up eg)) .nil))⟩
  · rw [set_at e1] at Z
    exact hs e da _ _ σ H D Dd E Z h
  · obtain rfl : b = a := by simpa using hb
    obtain ⟨t2, xs2, ys2, q2, _⟩ := h1 i _ q
    exact .inl (by rw [q2]; exact List.mem_cons_self)
end
/-! ### bodies -/
section
variable {P : Program} {w : World} {K : PySem.W.Frag} {mg : Str → Option Value} {base : Heap}
theorem okB {x qual : Str} {st : Stmt} {f : Addr} {fd : FuncData} {N ps : List Str} {k : Nat} {S : SpecB} {dv : List V} {kv : List (Str × V)} (F : FunD K x qual (defArgs st) (defBody st) (defScope st) dv kv f fd) (Sc : FnScope N ps (defScope st)) (len : ∀ ds P, S ds P → ds.length = ps.length)
    (hbody : ∀ (cdv : Value) (A : Around) (outer : List PySem.Env) (s : Shared) (H : Hp) (E : XK), Room k (A.deeper (envOfC qual (defScope st) s.heap.objs.size f cdv)) →
      ∃ t dt, PSs (cxOf CX0 P w K mg base N qual (defScope st) f cdv A outer s H E).nox (defBody st) t ∧ RfS (kw0 K) t dt ∧ ∀ ds P, S ds P → dt (endsB P) (env0 N ds)) : FnOk P w K mg base CX0 (k + 1) f fd ps (spB K S) := by
  refine F.ok Sc (fun vs H Q E h => ?_) (fun cdv A outer s H vs Q E hr h => ?_)
  · obtain ⟨G, da, ds, P', ex, dl, ra, hS, k⟩ := h
    rw [← ra.length]
    exact len ds P' hS
  · obtain ⟨G, da, ds, P', ex, dl, ra, hS, k⟩ := h
    obtain ⟨t, dt, ht, hrf, hd⟩ := hbody cdv A outer s H E hr
    exact ⟨t, ht.nox, hrf ⟨G, H⟩ da G _ _ H _ (endsB P') ⟨fun _ _ _ _ _ p => p.elim, fun _ _ _ _ _ p => p.elim, fun _ _ _ _ _ p => p.elim, fun _ _ _ _ _ _ p => p.elim, fun _ _ _ _ _ _ _ _ _ _ _ p => p.elim, fun ds ls t a xs ys G1 H1 T h0 ha ga ea na r r2 p => k ds ls t a xs ys G1 H1 T h0 ha ga ea na r r2 p⟩ ⟨start_rel ex dl ra, fun _ _ _ _ _ _ _ _ _ _ _ z => z.elim⟩ (hd ds P' hS)⟩
end
end DL

/-! sum, any, min, max of whole numbers in a list or a tuple; an own list held against [] -/
namespace DL
open PySem PySem.Spec PyProof.Rows L2
section
variable {prog : Program} {w : World} {A : Around} {E : Value → Shared → Prop} {s : Shared} {l : Addr} {its : List Value} {ns : List Int}
theorem kept1 {h' : Heap} {o : Obj} (hk : ∀ b ob, b ∉ [s.heap.objs.size] → (s.heap.push o).get? b = some ob → h'.get? b = some ob) : ∀ b ob, s.heap.get? b = some ob → h'.get? b = some ob :=
  fun b ob e => hk b ob (fun hm => absurd (Heap.lt_size e) (by rw [List.mem_singleton.mp hm]; exact Nat.lt_irrefl _)) (Heap.get?_push_of_some _ e)
theorem truth_ints (hi : IntsAre its ns) : TruthOf prog w A (fun i v => its.toArray[i]? = some v) (fun i => ns.getD i 0 != 0) := fun i v s Q E hv hq => by
  have hv1 : its[i]? = some v := by rw [← hv]; exact (List.getElem?_toArray ..).symm
  obtain ⟨n, t, rfl, hn⟩ := hi.at i v hv1
  refine PySem.P.truthy_int ?_
  have : ns.getD i 0 = n := by rw [List.getD_eq_getElem?_getD, hn]; rfl
  have hq2 : Q (ns.getD i 0 != 0) s := hq
  rw [this] at hq2; exact hq2
theorem any_at0 : ∀ ns : List Int, (List.range ns.length).any (fun i => ns.getD i 0 != 0) = ns.any (· != 0)
  | [] => rfl
  | n :: ns => by
    show (List.range (ns.length + 1)).any _ = (n != 0 || ns.any (· != 0))
    rw [← any_at0 ns, List.range_succ_eq_map]
    simp only [List.any_cons, List.any_map]
    rfl
theorem sumT {Q : Value → Shared → Prop} (hh : A.handled = none) (hl : IsTup s.heap l its.toArray) (hi : IntsAre its ns)
    (h : ∀ h' tk t', (∀ b o, s.heap.get? b = some o → h'.get? b = some o) → Q (.int ns.sum t') { s with heap := h', toks := tk }) : wpAny (model prog w) A (call (.builtin "sum") [.ref l]) Q E s := by
  have hs : numsOf its = ns := hi.numsOf
  obtain ⟨xs, hx⟩ := hi.allInts.items
  have hs' : numsOf (intItems xs).toList = ns := by rw [← hx]; exact hs
  rw [nums_intItems] at hs'
  have hlt : l < s.heap.objs.size := by obtain ⟨_, e, _⟩ := hl; exact Heap.lt_size e
  rw [hx] at hl
  refine call_sum_walkG (wpAny_pyIter_tuple (t := l) (items := intItems xs) hl ?_)
  refine ⟨_, _, _, _, _, _, numAt xs, rfl, Walks.tuple (A := A.in1) hh _ l (Nat.ne_of_lt hlt) (intItems xs), ⟨⟨_, Heap.get?_push_size _ rfl, rfl, rfl⟩, IsTup.push hl _⟩, ?_, fun _ _ hp => intItems_at hp, ?_⟩
  · intro b hb
    have hz : (s.heap.push { cls := .type "tuple_iterator", data := .fields #[.ref l, .int 0 0] }).objs.size = s.heap.objs.size + 1 := Heap.size_push ..
    simp only [List.mem_cons, List.not_mem_nil, or_false] at hb
    show b < (s.heap.push { cls := .type "tuple_iterator", data := .fields #[.ref l, .int 0 0] }).objs.size
    rw [hz]
    rcases hb with e | e
    · rw [e]; exact Nat.lt_succ_self _
    · rw [e]; exact Nat.lt_succ_of_lt hlt
  · intro h' tk t' hk
    have q := h h' tk t' (kept1 hk)
    rw [show (intItems xs).size = xs.size from by simp [intItems], preSum_eq, List.take_of_length_le (by simp), hs']
    exact q
theorem anyT {Q : Value → Shared → Prop} (hh : A.handled = none) (hl : IsTup s.heap l its.toArray) (hi : IntsAre its ns)
    (h : ∀ h' tk, (∀ b o, s.heap.get? b = some o → h'.get? b = some o) → Q (.bool (ns.any (· != 0))) { s with heap := h', toks := tk }) : wpAny (model prog w) A (call (.builtin "any") [.ref l]) Q E s := by
  have hlt : l < s.heap.objs.size := by obtain ⟨_, e, _⟩ := hl; exact Heap.lt_size e
  refine call_any_walk (wpAny_pyIter_tuple (t := l) (items := its.toArray) hl ?_)
  refine ⟨_, _, _, _, _, _, _, rfl, Walks.tuple (A := A.in1) hh _ l (Nat.ne_of_lt hlt) its.toArray, ⟨⟨_, Heap.get?_push_size _ rfl, rfl, rfl⟩, IsTup.push hl _⟩, truth_ints hi, ?_⟩
  intro h' tk hk
  rw [List.size_toArray, hi.length, any_at0]
  exact h h' tk (kept1 hk)
theorem anyL {Q : Value → Shared → Prop} (hh : A.handled = none) (hl : s.heap.IsList l its.toArray) (hi : IntsAre its ns)
    (h : ∀ h' tk, (∀ b o, s.heap.get? b = some o → h'.get? b = some o) → Q (.bool (ns.any (· != 0))) { s with heap := h', toks := tk }) : wpAny (model prog w) A (call (.builtin "any") [.ref l]) Q E s := by
  refine call_any_walk (iter_any hl fun s2 e2 st hne => ?_)
  subst e2
  refine ⟨_, _, _, _, _, _, _, rfl, Walks.list (A := A.in1) hh _ l hne its.toArray, st, truth_ints hi, ?_⟩
  intro h' tk hk
  rw [List.size_toArray, hi.length, any_at0]
  exact h h' tk (kept1 hk)
end
def rSumI (K : PySem.W.Frag) : List V → Hp → VK → Prop := fun vs H Q => ∃ (a : Addr) (ns : List Int), vs = [V.ref a] ∧ (SqL K H a (ns.map V.int) ∨ SqT K H a (ns.map V.int)) ∧ Q (.int ns.sum) H
def rAnyI (K : PySem.W.Frag) : List V → Hp → VK → Prop := fun vs H Q => ∃ (a : Addr) (ns : List Int), vs = [V.ref a] ∧ (SqL K H a (ns.map V.int) ∨ SqT K H a (ns.map V.int)) ∧ Q (.bl (ns.any (· != 0))) H
section
variable {X : Cx}
theorem cr_sumI (hc : X.calm = true) : CallR X (.builtin "sum") (rSumI X.K) := by
  intro pins s σ H vs us Q I r ⟨a, ns, e, hs, q⟩
  subst e
  rw [Vals.ref1 r]
  rcases hs with hs | hs
  · obtain ⟨its, rv, hl, _⟩ := I.list hs
    exact sum_raw (I.ok.hd hc) hl.isList rv.ints fun h' tk t' hk => ⟨.int _, H, I.kept hk, ⟨_, rfl⟩, q⟩
  · obtain ⟨its, rv, hl, _⟩ := I.tuple hs
    exact sumT (I.ok.hd hc) hl rv.ints fun h' tk t' hk => ⟨.int _, H, I.kept hk, ⟨_, rfl⟩, q⟩
theorem cr_anyI (hc : X.calm = true) : CallR X (.builtin "any") (rAnyI X.K) := by
  intro pins s σ H vs us Q I r ⟨a, ns, e, hs, q⟩
  subst e
  rw [Vals.ref1 r]
  rcases hs with hs | hs
  · obtain ⟨its, rv, hl, _⟩ := I.list hs
    exact anyL (I.ok.hd hc) hl.isList rv.ints fun h' tk hk => ⟨.bl _, H, I.kept hk, rfl, q⟩
  · obtain ⟨its, rv, hl, _⟩ := I.tuple hs
    exact anyT (I.ok.hd hc) hl rv.ints fun h' tk hk => ⟨.bl _, H, I.kept hk, rfl, q⟩
end
section
variable {K : PySem.W.Frag}
def IntsD (d : D) (ns : List Int) : Prop := d = .lst (ns.map .int) ∨ d = .tup (ns.map .int)
theorem intsD_seq {da : Option Addr} {G H : Hp} {d : D} {v : V} {ns : List Int} (e : Same G H) (r : Rp K da G d v) (h : IntsD d ns) : ∃ a, v = .ref a ∧ (SqL K H a (ns.map V.int) ∨ SqT K H a (ns.map V.int)) := by
  rcases h with rfl | rfl
  · cases r with
    | lst hg ra => rw [rp_ints ra] at hg; exact ⟨_, rfl, .inl (.inl (.inl (e _ _ hg)))⟩
  · cases r with
    | tup hg ra => rw [rp_ints ra] at hg; exact ⟨_, rfl, .inr (same_t e hg)⟩
def dSumI : DC := fun ds P => ∃ d ns, ds = [d] ∧ IntsD d ns ∧ P (.int ns.sum)
theorem rfc_sumI : RfC K (rSumI K) dSumI := by
  intro da G H xs ds P Q e dl r ⟨d, ns, ed, hd, h⟩ k
  subst ed
  cases r with
  | cons r1 r2 =>
    cases r2
    obtain ⟨a, ea, q⟩ := intsD_seq e r1 hd
    subst ea
    exact ⟨_, ns, rfl, q, k _ _ G H (stay e dl) (.int _) h⟩
def dAnyI : DC := fun ds P => ∃ d ns, ds = [d] ∧ IntsD d ns ∧ P (.bl (ns.any (· != 0)))
theorem rfc_anyI : RfC K (rAnyI K) dAnyI := by
  intro da G H xs ds P Q e dl r ⟨d, ns, ed, hd, h⟩ k
  subst ed
  cases r with
  | cons r1 r2 =>
    cases r2
    obtain ⟨a, ea, q⟩ := intsD_seq e r1 hd
    subst ea
    exact ⟨_, ns, rfl, q, k _ _ G H (stay e dl) (.bl _) h⟩
def dMin1 : DC := fun ds P => ∃ ns : List Int, ds = [.lst (ns.map .int)] ∧ 0 < ns.length ∧ ∀ m, m ∈ ns → (∀ y, y ∈ ns → m ≤ y) → P (.int m)
def dMax1 : DC := fun ds P => ∃ ns : List Int, ds = [.lst (ns.map .int)] ∧ 0 < ns.length ∧ ∀ m, m ∈ ns → (∀ y, y ∈ ns → y ≤ m) → P (.int m)
theorem rfc_min1 : RfC K (rMin K) dMin1 := by
  intro da G H xs ds P Q e dl r ⟨ns, ed, hn, h⟩ k
  subst ed
  cases r with
  | cons r1 r2 =>
    cases r2
    cases r1 with
    | lst hg ra =>
      rw [rp_ints ra] at hg
      exact ⟨_, ns, rfl, .inl (.inl (e _ _ hg)), hn, fun m h1 h2 => k _ _ G H (stay e dl) (.int _) (h m h1 h2)⟩
theorem rfc_max1 : RfC K (rMax K) dMax1 := by
  intro da G H xs ds P Q e dl r ⟨ns, ed, hn, h⟩ k
  subst ed
  cases r with
  | cons r1 r2 =>
    cases r2
    cases r1 with
    | lst hg ra =>
      rw [rp_ints ra] at hg
      exact ⟨_, ns, rfl, .inl (.inl (e _ _ hg)), hn, fun m h1 h2 => k _ _ G H (stay e dl) (.int _) (h m h1 h2)⟩
end
def dEqV0 (i : Nat) (neg : Bool) : DE := fun δ P => ∃ ds, δ[i]? = some (.own ds) ∧ shp (.lst ds) = true ∧ P (.bl (cond neg (!PyData.eqv (py (.lst ds)) (py (.lst []))) (PyData.eqv (py (.lst ds)) (py (.lst []))))) δ
theorem rf_eqV0 {K : KW} {i : Nat} : RfE K (tOp (rEqD K.K) (tVar i) (tLst tNil)) (dEqV0 i false) := by
  intro e da G δ σ H P Q R ⟨ds, hi, hs, h⟩ k
  obtain ⟨a', xs, p1, p2, p3, _⟩ := R.own_at hi
  refine ⟨_, p1, ?_⟩
  refine ⟨Nat.zero_le _, fun q hq => ?_⟩
  have T := Trn.put (K := K.K) (o := .lst []) R.ex R.dl hq
  have hpq : a' ≠ q := fun z => by rw [z, hq] at p2; cases p2
  have hp1 : upd H q (.lst []) a' = some (.lst xs) := by rw [upd_ne hpq]; exact p2
  refine ⟨_, _, .lst (.inl (.inl hp1)) (RpA.dp (R.ex.trans (Same.new hq)) p3 (shp_can hs)), .lst (.inl (.inl upd_same)) .nil, hs, by rfl, ?_⟩
  exact k _ _ _ _ _ (R.go T) T.eg (.bl _) h
theorem rf_neV0 {K : KW} {i : Nat} : RfE K (tOp (rNeD K.K) (tVar i) (tLst tNil)) (dEqV0 i true) := by
  intro e da G δ σ H P Q R ⟨ds, hi, hs, h⟩ k
  obtain ⟨a', xs, p1, p2, p3, _⟩ := R.own_at hi
  refine ⟨_, p1, ?_⟩
  refine ⟨Nat.zero_le _, fun q hq => ?_⟩
  have T := Trn.put (K := K.K) (o := .lst []) R.ex R.dl hq
  have hpq : a' ≠ q := fun z => by rw [z, hq] at p2; cases p2
  have hp1 : upd H q (.lst []) a' = some (.lst xs) := by rw [upd_ne hpq]; exact p2
  refine ⟨_, _, .lst (.inl (.inl hp1)) (RpA.dp (R.ex.trans (Same.new hq)) p3 (shp_can hs)), .lst (.inl (.inl upd_same)) .nil, hs, by rfl, ?_⟩
  exact k _ _ _ _ _ (R.go T) T.eg (.bl _) h
end DL

/-! lambdas as values; asked for their words by turns within a comprehension -/
namespace DL
open PySem PySem.Spec PyProof.Rows L2
def TabC (K : PySem.W.Frag) (H : Hp) : Prop := ∃ ps : Array Value, H (lawT K) = some (.tbl ps) ∧ TriplesOk ps.toList ∧ ∀ (pos : Pos) (cv : Value), codeAmong pos ps.toList = some cv → ∃ c, cv = .ref c ∧ H c = some (LamX.CodeO c lamQ)
def tLamV0 (K : PySem.W.Frag) (F : FnRec) : TE := fun _ H Q => TabC K H ∧ ∀ H1 c, LamStep K H H1 c → ∀ f, H1 f = none → Q (.ref f) (upd H1 f (LamO F f c))
def tLamV1 (K : PySem.W.Frag) (F : Option Addr → FnRec) : TE := fun _ H Q => ∀ T, H T = none → TabC K (upd H T (.tup [.int 0])) ∧ ∀ H1 c, LamStep K (upd H T (.tup [.int 0])) H1 c → ∀ f, H1 f = none → Q (.ref f) (upd H1 f (LamO (F (some T)) f c))
section
variable {X : Cx} {pins : List (Addr × Obj)} {σ : L2.St} {H : Hp} {s : Shared}
theorem lam_tail2 {c : Addr} {params : Arguments} {body : Expr} {scope : Scope} {pos : Pos} {F : FnRec} {E Q : Value → Shared → Prop} (I : Inv X pins σ H s) (TB : LamX.TabB X.base X.mg c (lawT X.K)) (hcode : X.env.code = .ref c)
    (hfree : ∀ y ∈ scope.names, y.2 = .free → ∃ c, X.env.cells.lookup y.1 = some c) (tc : TabC X.K H) (e1 : F.params = params) (e2 : F.body = body) (e3 : F.scope = scope) (e4 : F.cl = cloFrom X.env.cells scope.names [])
    (h : ∀ (f c' : Addr) (H1 : Hp) (s' : Shared), LamStep X.K H H1 c' → H1 f = none → Inv X pins σ (upd H1 f (LamO F f c')) s' → Q (.ref f) s') :
    wpAny (model X.prog X.w) X.A (makeTail "<lambda>" lamQ params (.expr body) scope X.env F.dV .none none pos pos.line) Q E s := by
  obtain ⟨ps, hP, ht, ha⟩ := tc
  subst e1 e2 e3
  have bP : s.heap.BuiltinsAt X.mg (lawT X.K) := TB.bm.keeps I.bk
  have hP' : s.heap.get? (lawT X.K) = some { cls := .none, data := .fields ps } := I.hok _ _ hP
  have okF : ∀ {Hx : Hp} {hx : Heap} {f c' : Addr} {doc pm ctv : Value}, hx.get? f = some (PySem.W.kdv_obj "<lambda>" lamQ F.params (.expr F.body) F.scope F.cl F.dV doc pm c' ctv) → ObjOk X.prog X.w Hx hx f (LamO F f c') :=
    fun e => ⟨⟨_, _, _, e⟩, ⟨_, e⟩, fun h1 h2 ⟨d1, d2, d3, e⟩ k => ⟨d1, d2, d3, k _ e⟩⟩
  cases hc : codeAmong pos ps.toList with
  | none =>
    refine PySem.W.kdv_makeTail (mg := X.mg) (c := c) (P := lawT X.K) (ps := ps) (closure_ok hfree) I.ok.glob (I.mod.glob.keeps I.bk) hcode (TB.code.keeps I.bk) hP' ht hc TB.gP bP fun c' ctv doc h' tk hx hge hlt hrec htb => ?_
    obtain ⟨c2, oc, vs, t, e2, hoc, hd, hv⟩ := hrec
    cases e2
    have nC : H c' = none := I.hok.fresh hge
    have nPc : lawT X.K ≠ c' := ne_of_none hP nC
    have eL : (ps ++ #[rawInt pos.line, rawInt pos.col, .ref c']).toList = ps.toList ++ [rawInt pos.line, rawInt pos.col, .ref c'] := by simp
    have I1 := LamX.inv_table (q := lamQ) (t' := tk) (more := #[rawInt pos.line, rawInt pos.col, .ref c']) (h' := h') I hP (fun b o hb e => hx b o hb e) htb hge ⟨oc, vs, t, hoc, hd, hv⟩
    refine h h'.objs.size c' _ _ ⟨⟨_, _, hP, by rw [upd_ne nPc, upd_same], by rw [eL]; exact PySem.TriplesOk_snoc _ _ _ _ ht, fun p' cv hcv => ?_⟩, upd_same, .inl nC, fun b h1 h2 => by rw [upd_ne h2, upd_ne h1]⟩ (I1.hok.fresh (Nat.le_refl _))
      (I1.laid (t' := tk) (a := h'.objs.size) (o := LamO F h'.objs.size c') (fun b o e => Heap.get?_push_of_some _ e) (Nat.le_refl _) (okF (doc := doc) (pm := (X.mg "__name__").getD .none) (ctv := ctv) (by rw [e4]; exact Heap.get?_push_size _ rfl)))
    rw [eL] at hcv
    exact LamX.among_app _ ht hcv
  | some cv =>
    obtain ⟨c', e, hco⟩ := ha pos cv hc
    subst e
    refine PySem.W.kdv_makeTailHit (mg := X.mg) (c := c) (P := lawT X.K) (ps := ps) (closure_ok hfree) I.ok.glob (I.mod.glob.keeps I.bk) hcode (TB.code.keeps I.bk) hP' ht hc bP fun ctv doc h' tk hx hsz => ?_
    have I1 : Inv X pins σ H { s with heap := h', toks := tk } := I.kept fun b o e => hx b o e
    exact h h'.objs.size c' H _ ⟨⟨ps, ps, hP, hP, ht, fun p' cv hcv => .inl hcv⟩, hco, .inr ⟨ps, pos, hP, hc⟩, fun _ _ _ => rfl⟩ (I1.hok.fresh (Nat.le_refl _))
      (I1.laid (t' := tk) (a := h'.objs.size) (o := LamO F h'.objs.size c') (fun b o e => Heap.get?_push_of_some _ e) (Nat.le_refl _) (okF (doc := doc) (pm := (X.mg "__name__").getD .none) (ctv := ctv) (by rw [e4]; exact Heap.get?_push_size _ rfl)))
end
section
variable {X : Cx}
theorem pe_lamV0 {n : Nat} {c : Addr} {params : Arguments} {body : Expr} {scope : Scope} {lpos : Pos} {F : Option Addr → FnRec} (hF : ∀ dT, F dT = ⟨n, params, body, scope, cloFrom X.env.cells scope.names [], dT⟩) (TB : LamX.TabB X.base X.mg c (lawT X.K)) (hcode : X.env.code = .ref c)
    (hq : X.env.qual ++ "<lambda>" = lamQ) (L : LamN X.env.scope scope X.N []) (hkw0 : params.kw_defaults = []) (hd0 : params.defaults = []) : PE X (.Lambda params body scope lpos) (tLamV0 X.K (F none)) := by
  refine ⟨fun pins s σ H Q I h => ?_⟩
  obtain ⟨tc, h⟩ := h
  have ef := hF none
  rw [arm_eval_Lambda, defaultsOf_eq, hkw0, hd0]
  show wpAny _ _ (do let dv ← evalAll (evalEach [] X.env); let kdv ← holding dv (evalAllOpt []); makeFunction "<lambda>" (X.env.qual ++ "<lambda>") params (.expr body) scope X.env dv kdv [] lpos lpos.line) _ _ s
  refine wpAny_bind (PySem.W.kdv_all0 (wpAny_bind (wpAny_holding (wpAny_pure ?_))))
  rw [hq, makeFunction_eq]
  simp only [List.zip_nil_right, List.filterMap_nil, List.isEmpty_nil, if_true, pure_bind]
  have edv : (F none).dV = Value.none := by rw [ef]; rfl
  have key := lam_tail2 (F := F none) (params := params) (body := body) (pos := lpos) (E := X.xe) (Q := EP X pins σ Q) I TB hcode (L.has I.ok) tc (by rw [ef]) (by rw [ef]) (by rw [ef]) (by rw [ef]) fun f c' H1 s' st nf I1 => ⟨.ref f, _, I1, rfl, h H1 c' st f nf⟩
  rw [edv] at key
  exact key
theorem pe_lamV1 {n j : Nat} {c : Addr} {params : Arguments} {body : Expr} {scope : Scope} {lpos dp : Pos} {d : Str} {F : Option Addr → FnRec} (hF : ∀ dT, F dT = ⟨n, params, body, scope, cloFrom X.env.cells scope.names [], dT⟩) (TB : LamX.TabB X.base X.mg c (lawT X.K)) (hcode : X.env.code = .ref c)
    (hq : X.env.qual ++ "<lambda>" = lamQ) (L : LamN X.env.scope scope X.N [d]) (hkw0 : params.kw_defaults = []) (hd0 : params.defaults = [.Constant (.int 0) j dp]) : PE X (.Lambda params body scope lpos) (tLamV1 X.K F) := by
  refine ⟨fun pins s σ H Q I h => ?_⟩
  rw [arm_eval_Lambda, defaultsOf_eq, hkw0, hd0]
  show wpAny _ _ (do let dv ← evalAll (evalEach [.Constant (.int 0) j dp] X.env); let kdv ← holding dv (evalAllOpt []); makeFunction "<lambda>" (X.env.qual ++ "<lambda>") params (.expr body) scope X.env dv kdv [] lpos lpos.line) _ _ s
  refine wpAny_bind (PySem.W.kdv_all1 (thn ((pe_int (X := X) (i := 0) (j := j) (pos := dp)).run pins s σ H (fun v H1 => v = .int 0 ∧ H1 = H) I ⟨rfl, rfl⟩) fun u s1 ⟨v, H1, I1, r1, ev, eH⟩ => PySem.W.kdv_all0 (wpAny_bind (wpAny_holding (wpAny_pure ?_)))))
  subst ev eH
  rw [hq, makeFunction_eq]
  simp only [List.zip_nil_right, List.filterMap_nil, List.isEmpty_nil, List.isEmpty_cons, if_true, pure_bind, Bool.false_eq_true, if_false]
  refine wpAny_bind (wpAny_newTextTuple ?_)
  have nT : H1 s1.heap.objs.size = none := I1.hok.fresh (Nat.le_refl _)
  have I2 : Inv X pins σ (upd H1 s1.heap.objs.size (.tup [.int 0])) { s1 with heap := s1.heap.push { cls := .type "tuple", data := .seq [u].toArray }, toks := s1.toks } :=
    I1.laid (t' := s1.toks) (fun b o e => Heap.get?_push_of_some _ e) (Nat.le_refl _) ⟨by show 1 ≤ sizeLine; decide, [u], .cons r1 .nil, ⟨_, Heap.get?_push_size _ rfl, rfl, _, rfl⟩⟩
  obtain ⟨tc, h⟩ := h _ nT
  have ef := hF (some s1.heap.objs.size)
  have edv : (F (some s1.heap.objs.size)).dV = Value.ref s1.heap.objs.size := by rw [ef]; rfl
  rw [← edv]
  refine lam_tail2 (F := F (some s1.heap.objs.size)) (params := params) (body := body) I2 TB hcode (L.has I.ok) tc (by rw [ef]) (by rw [ef]) (by rw [ef]) (by rw [ef]) fun f c' H3 s' st nf I3 => ?_
  exact ⟨.ref f, _, I3, rfl, h H3 c' st f nf⟩
end
def LamBd (ds : List Str) (F : FnRec) : Prop := ∀ (sB : Shared) (c' : Addr), (∀ T, F.dT = some T → ∃ (u : Value) (o : Obj) (m : Nat), sB.heap.get? T = some o ∧ o.data = .seq #[u] m) →
  ∃ us : List Value, us.length = ds.length ∧ ∀ doc pm ctv : Value, BindsTo sB (PySem.W.kdv_fn "<lambda>" lamQ F.params (.expr F.body) F.scope F.cl F.dV doc pm (.ref c') ctv) ⟨[], []⟩ (ds.zip us)
section
variable {X : Cx} {pins : List (Addr × Obj)} {σ : L2.St} {H : Hp} {s : Shared}
theorem lam_actT {CXg : CXT} {Eg : XK} {Ng : List Str} {qg : Str} {sg : Scope} {g f c' : Addr} {cdg : Value} {F : FnRec} {ds : List Str} {k i : Nat} {a : Str} {pn : List (Addr × Obj)} {xe : Value → Shared → Prop} {W : WX} {E : XK} {tb : TE} {p1 p2 : Pos}
    (I : Inv X pins σ H s) (L : LamN X.env.scope F.scope X.N ds) (hcl : F.cl = cloFrom X.env.cells F.scope.names []) (hbind : LamBd ds F)
    (tk : L2.Takes ((cxOf CXg X.prog X.w X.K X.mg X.base Ng qg sg g cdg X.A X.stack s H Eg).tr pn xe) W) (hW : ∀ cls d σ' H', E cls d H' → W cls d σ' H') (hr : Room (k + 1) (X.A.deeper (envOfC qg sg s.heap.objs.size g cdg)))
    (hq : X.env.qual ++ "<lambda>" = lamQ)
    (hbody : ∀ (A : Around) (outer : List PySem.Env) (s : Shared) (H : Hp), Room k (A.deeper (LamX.lamEnv X F.scope s.heap.objs.size f c')) → PE (LamX.lamCx X A outer s H E F.scope f c') F.body tb)
    (hN : Ng[i]? = some a) (hv : Vis sg a) (hd : (a == ("__debug__" : Str)) = false) (hcd : (a == ("__classdict__" : Str)) = false) :
    PE ((cxOf CXg X.prog X.w X.K X.mg X.base Ng qg sg g cdg X.A X.stack s H Eg).tr pn xe) (.Call (.Name a p1) [] [] p2)
      (fun σZ HZ Q => σZ[i]? = some (some (.ref f)) ∧ HZ c' = some (LamX.CodeO c' lamQ) ∧ (HZ f = some (LamO F f c') ∧ ∀ T, F.dT = some T → HZ T = some (.tup [.int 0])) ∧ tb σ HZ Q) := by
  refine ⟨fun pinsZ sZ σZ HZ Q IZ h => ?_⟩
  obtain ⟨hs, hc, ⟨hf, hT⟩, ht⟩ := h
  refine wpAny_Call_Name_kw (thn ((pe_var (pos := p1) (i := i) hN hv hd hcd).run pinsZ sZ σZ HZ (fun v H1 => v = .ref f ∧ H1 = HZ) IZ ⟨.ref f, hs, rfl, rfl⟩) fun u s1 ⟨v, H1, I1, r1, q1⟩ => ?_)
  obtain ⟨ev, eH⟩ := q1
  subst ev
  rw [eH] at I1
  obtain rfl : u = Value.ref f := r1
  obtain ⟨⟨doc, pm, ctv, of1⟩, _, _⟩ := I1.hok f _ hf
  refine PySem.W.callWith_F0 ⟨_, _, _, _, of1⟩ ?_
  have un : Un (frs X.stack) [] H HZ s.heap s1.heap := I1.base
  obtain ⟨⟨oc, vs, t, hoc, hdc, hvc⟩, _, _⟩ := I1.hok c' _ hc
  have rc : codeAny (model X.prog X.w) (X.A.deeper (envOfC qg sg s.heap.objs.size g cdg)) (.call (.ref f) ⟨[], []⟩) (CR (L2.CX X.prog X.w) (envOfC qg sg s.heap.objs.size g cdg :: X.stack) X.prog X.w HZ s1 Q E) s1 := by
    refine PySem.W.kla_callFunE hr.depth of1 rfl L.co L.gen rfl ⟨c', oc, vs, t, rfl, hoc, hdc, hvc⟩ ?_
    obtain ⟨us, hus, hb⟩ := hbind s1 c' fun T eT => by
      obtain ⟨_, its, rv, o, ho, _, m, hd'⟩ := I1.hok T _ (hT T eT)
      cases rv with
      | cons r0 rn =>
        cases rn
        exact ⟨_, o, m, ho, hd'⟩
    refine hb doc pm ctv _ _ _ _ ?_
    refine wpAny_newFunctionEnv (fun y hy => (L.own y hy).1) (fun y hy => L.dl y.1 (List.of_mem_zip hy).1) (fun h₁ hns hsb => ⟨I1.nolimit.fresh _ hsb, ?_⟩) L.kind
    rw [hcl]
    show codeAny _ _ (.expr F.body (PySem.W.envX lamQ F.scope s1.heap.objs.size f (.ref c') (cloFrom X.env.cells F.scope.names []))) _ _
    rw [← hq]
    have kp : ∀ b o, s1.heap.get? b = some o → h₁.get? b = some o := fun b o e => hsb.extBut b o (Nat.ne_of_lt (Heap.lt_size e)) (Heap.get?_push_of_some _ e)
    have J : Inv (LamX.lamCx X (X.A.deeper (envOfC qg sg s.heap.objs.size g cdg)) (envOfC qg sg s.heap.objs.size g cdg :: X.stack) s1 HZ E F.scope f c') [] σ HZ { s1 with heap := h₁, toks := s1.toks + (ds.zip us).length } :=
      lam_enter I L I1.env0 hr.hd un hns kp
    refine PySem.W.kla_codeExpr (wpAny_mono ((hbody _ _ s1 HZ (hr.deeper _)).run [] _ _ HZ Q J ht) (fun v s' hq => ?_) fun e s' hq => hq)
    obtain ⟨w', H', J', rv, q⟩ := hq
    exact ⟨w', H', J'.os, J'.bare, J'.base, J'.hok, rv, q⟩
  have hx : Passes (L2.CX X.prog X.w) ((cxOf CXg X.prog X.w X.K X.mg X.base Ng qg sg g cdg X.A X.stack s H Eg).tr pn xe) E := L2.passes_call tk hW
  refine wpAny_call (codeAny_mono rc fun r s' hq => ?_)
  cases r with
  | error e => exact hx pinsZ σZ HZ s1 e s' I1 hq
  | ok fl =>
    cases fl with
    | ret u => exact I1.after hq
    | next => exact False.elim hq
    | brk => exact False.elim hq
    | cont => exact False.elim hq
end
structure LamOk (X : Cx) (k : Nat) (F : Option Addr → FnRec) (hd : Bool) (t : XK → TE) : Prop where
  ex : ∃ (n : Nat) (ds : List Str) (params : Arguments) (body : Expr) (scope : Scope), (∀ dT, F dT = ⟨n, params, body, scope, cloFrom X.env.cells scope.names [], dT⟩) ∧ LamN X.env.scope scope X.N ds ∧
    (∀ dT : Option Addr, dT.isSome = hd → LamBd ds (F dT)) ∧
    ∀ (A : Around) (outer : List PySem.Env) (s : Shared) (H : Hp) (E : XK) (f c' : Addr), Room k (A.deeper (LamX.lamEnv X scope s.heap.objs.size f c')) → PE (LamX.lamCx X A outer s H E scope f c') body (t E)
section
variable {X : Cx} {k n : Nat} {F : Option Addr → FnRec} {t : XK → TE} {params : Arguments} {body : Expr} {scope : Scope}
theorem lamOk0 (hF : ∀ dT, F dT = ⟨n, params, body, scope, cloFrom X.env.cells scope.names [], dT⟩) (L : LamN X.env.scope scope X.N [])
    (hb : ∀ (cl : List (Str × Addr)) (doc pm cv ctv : Value), bindArgs (PySem.W.kdv_fn "<lambda>" lamQ params (.expr body) scope cl .none doc pm cv ctv) ⟨[], []⟩ = pure [])
    (hbody : ∀ (A : Around) (outer : List PySem.Env) (s : Shared) (H : Hp) (E : XK) (f c' : Addr), Room k (A.deeper (LamX.lamEnv X scope s.heap.objs.size f c')) → PE (LamX.lamCx X A outer s H E scope f c') body (t E)) : LamOk X k F false t :=
  ⟨⟨n, [], params, body, scope, hF, L, fun dT hd sB c' _ => ⟨[], rfl, fun doc pm ctv => by
    have e : dT = none := by
      cases dT with
      | none => rfl
      | some _ => cases hd
    subst e
    rw [hF none]
    exact .of_eq (hb _ _ _ _ _)⟩, hbody⟩⟩
theorem lamOk1 {d : Str} (hF : ∀ dT, F dT = ⟨n, params, body, scope, cloFrom X.env.cells scope.names [], dT⟩) (L : LamN X.env.scope scope X.N [d])
    (hb : ∀ (T : Addr) (cl : List (Str × Addr)) (doc pm cv ctv : Value), ∃ kk, bindArgs (PySem.W.kdv_fn "<lambda>" lamQ params (.expr body) scope cl (.ref T) doc pm cv ctv) ⟨[], []⟩ = seqItems? (.ref T) >>= kk ∧ ∀ u, kk (some #[u]) = pure [(d, u)])
    (hbody : ∀ (A : Around) (outer : List PySem.Env) (s : Shared) (H : Hp) (E : XK) (f c' : Addr), Room k (A.deeper (LamX.lamEnv X scope s.heap.objs.size f c')) → PE (LamX.lamCx X A outer s H E scope f c') body (t E)) : LamOk X k F true t :=
  ⟨⟨n, [d], params, body, scope, hF, L, fun dT hd sB c' hT => by
    cases dT with
    | none => cases hd
    | some T =>
      rw [hF (some T)] at hT ⊢
      obtain ⟨u, o, m, ho, hs⟩ := hT T rfl
      refine ⟨[u], rfl, fun doc pm ctv => ?_⟩
      obtain ⟨kk, z1, z2⟩ := hb T (cloFrom X.env.cells scope.names []) doc pm (.ref c') ctv
      exact BindsTo.of_defaults rfl ho hs z1 (z2 u), hbody⟩⟩
end
abbrev LamT := List (Nat × Bool × (XK → TE))
def LamsOk (X : Cx) (k : Nat) (TF : Nat → Option Addr → FnRec) (ts : LamT) : Prop := ∀ n b t, ts.lookup n = some (b, t) → LamOk X k (TF n) b t
theorem lamsOk_nil {X : Cx} {k : Nat} {TF : Nat → Option Addr → FnRec} : LamsOk X k TF [] := fun _ _ _ h => by cases h
theorem lamsOk_cons {X : Cx} {k : Nat} {TF : Nat → Option Addr → FnRec} {n : Nat} {b : Bool} {t : XK → TE} {ts : LamT} (h : LamOk X k (TF n) b t) (hs : LamsOk X k TF ts) : LamsOk X k TF ((n, b, t) :: ts) := fun m b' t' e => by
  rw [List.lookup_cons] at e
  split at e
  · rename_i q
    have q' : m = n := by simpa using q
    subst q'
    cases e
    exact h
  · exact hs m b' t' e
def tWhyV (K : PySem.W.Frag) (l : WhyL) (vs : List Nat) (TF : Nat → Option Addr → FnRec) (ts : LamT) (ta : TE) : TE := fun σ H Q => ta σ H fun v H1 => ∃ (n : Nat) (dT : Option Addr) (f c : Addr) (t : XK → TE), v = .ref f ∧ ts.lookup n = some (dT.isSome, t) ∧
  H1 f = some (LamO (TF n dT) f c) ∧ H1 c = some (LamX.CodeO c lamQ) ∧ (∀ T, dT = some T → H1 T = some (.tup [.int 0])) ∧ TTwhy K l (fun E H' Q' => t E (wipe σ vs) H' Q') H1 Q
structure PEw (X : Cx) (R : L2.St → Prop) (e : Expr) (t : TE) : Prop where
  run : ∀ (pins : List (Addr × Obj)) (s : Shared) (σ : L2.St) (H : Hp) (Q : VK), Inv X pins σ H s → R σ → t σ H Q → wpAny (model X.prog X.w) X.A (eval e X.env) (EP X pins σ Q) X.xe s
theorem pew_of {X : Cx} {R : L2.St → Prop} {e : Expr} {t : TE} (h : PE X e t) : PEw X R e t := ⟨fun pins s σ H Q I _ q => h.run pins s σ H Q I q⟩
theorem pew_cmp {X : Cx} {R : L2.St → Prop} {a b : Expr} {op : CmpOp} {r : R2} {ta tb : TE} {pos : Pos} (ho : OpR X (compareOp op) r) (ha : PEw X R a ta) (hb : PE X b tb) (hm : behindInMarks op b = false) : PEw X R (.Compare a [op] [b] pos) (tOp r ta tb) := by
  refine ⟨fun pins s σ H Q I hR h => ?_⟩
  refine wpAny_Compare1 (thn (ha.run pins s σ H _ I hR h) fun v s1 ⟨x, H1, I1, r1, q1⟩ => thn (hb.run pins s1 σ H1 _ I1 q1) fun u s2 ⟨y, H2, I2, r2, q2⟩ => ?_) hm
  exact ho pins s2 σ H2 x y v u Q I2 r1 r2 q2
section
variable {X : Cx} {pins : List (Addr × Obj)} {σ : L2.St} {H3 : Hp} {s3 : Shared}
theorem pew_why {l : WhyL} {x a : Str} {g : Addr} {fd : FuncData} {k : Nat} {pg : Arguments} {bg : List Stmt} {sg : Scope} {Ng : List Str} {TF : Nat → Option Addr → FnRec} {ts : LamT} {ta : TE} {vs : List Nat} {e : Expr} {p pos : Pos} {scope : Scope} {C : Addr} {cl : List (Str × Addr)} {fp : List Addr}
    (hX : Inv X pins σ H3 s3) (hfp : ∀ b ∈ fp, FpOk X pins H3 b) (hg : Gl (X.blk s3 H3 scope (compEnvC scope cl C X.env) fp) x) (hm : X.mg x = some (.ref g)) (F : FunD X.K x x pg bg sg [] [] g fd) (hb : L2.Binds X.K fd [a] []) (Sg : FnScope Ng [a] sg) (hNg : Ng[0]? = some a) (hva : Vis sg a)
    (hG : ∀ cdv, LamX.GivesTo X Ng x sg g cdv bg a lamQ (TTwhy X.K l)) (hq : X.env.qual ++ "<lambda>" = lamQ) (hr : Room (k + 2) X.A) (LS : LamsOk X k TF ts) (ha : PE (X.blk s3 H3 scope (compEnvC scope cl C X.env) fp) e ta)
    (hst : starEach [e] (compEnvC scope cl C X.env) = [(false, eval e (compEnvC scope cl C X.env))] := by rfl)
    (hdb : (x == ("__debug__" : Str)) = false := by decide) (hd : (a == ("__debug__" : Str)) = false := by decide) (hcd : (a == ("__classdict__" : Str)) = false := by decide) :
    PEw (X.blk s3 H3 scope (compEnvC scope cl C X.env) fp) (fun σ2 => wipe σ2 vs = wipe σ vs) (.Call (.Name x p) [e] [] pos) (tWhyV X.K l vs TF ts ta) := by
  refine ⟨fun pinsY s σ2 H Q I hR h => ?_⟩
  obtain ⟨oc, od, dV, kV, doc, pm, an, cdv, ct, osl, rfl, lk, hcd', _, _⟩ := F.ex
  refine wpAny_Call_Name_kw (ld_glob I hg hm ?_ hdb)
  have run := (pa_cons ha (pa_nil (X := X.blk s3 H3 scope (compEnvC scope cl C X.env) fp)) hst).run pos pinsY s σ2 H (fun xs H1 => match xs with
    | [v] => ∃ (n : Nat) (dT : Option Addr) (f c : Addr) (t : XK → TE), v = .ref f ∧ ts.lookup n = some (dT.isSome, t) ∧
        H1 f = some (LamO (TF n dT) f c) ∧ H1 c = some (LamX.CodeO c lamQ) ∧ (∀ T, dT = some T → H1 T = some (.tup [.int 0])) ∧ TTwhy X.K l (fun E H' Q' => t E (wipe σ2 vs) H' Q') H1 Q
    | _ => False) I h
  refine PySem.W.callWith_K (h₀ := X.base) I.ok.mod.kin F.kp (thn run fun us s1 ⟨ws, H1, I1, r, q⟩ => ⟨I1.kIn, ?_⟩) hst (by rfl)
  match ws, r, q with
  | [v], r, q =>
    obtain ⟨n, dT, f, c', t, rfl, hl, hf, hc, hT, hw⟩ := q
    cases r with
    | cons r0 rn =>
    cases rn
    obtain rfl : _ = Value.ref f := r0
    have IX : Inv X pins (wipe σ2 vs) H1 s1 := by
      have z : Inv X pins σ H1 s1 := hX.call' (ch := fp) I1.os I1.base I1.hok I1.bare fun b hb => ⟨(hfp b hb).2.2.2.1, (hfp b hb).2.1, (hfp b hb).2.2.2.2.1, (hfp b hb).2.2.2.2.2⟩
      refine z.weak (by rw [wipe_length, ← wipe_length σ2 vs, hR, wipe_length]) fun i v e => ?_
      rw [hR] at e
      exact (wipe_some e).1
    obtain ⟨m, ds, params, body, sc, hF, L, bd, hbody⟩ := (LS n _ t hl).ex
    have ef := hF dT
    have rc : codeAny (model X.prog X.w) X.A (.call (.ref g) ⟨[.ref f], []⟩) (CR C8.CX0 X.stack X.prog X.w H1 s1 Q C8.E0) s1 := by
      refine LamX.run_ofS (N := Ng) (ps := [a]) (us := [.ref f]) (vs := [.ref f]) lk hcd' Sg hr IX.env0 (hb s1 [.ref f] IX.kIn rfl) (.cons rfl .nil) rfl fun hr' => ?_
      obtain ⟨t', ht', hq'⟩ := hG cdv f c' s1 H1 Q (fun E H' Q' => (H' f = some (LamO (TF n dT) f c') ∧ ∀ T, (TF n dT).dT = some T → H' T = some (.tup [.int 0])) ∧ t E (wipe σ2 vs) H' Q')
        (fun W pn xe E p1 p2 tk hW => lam_actT (i := 0) IX (by rw [ef]; exact L) (by rw [ef]) (bd dT rfl) tk hW hr' hq (by rw [ef]; exact fun A outer s H hr2 => hbody A outer s H E f c' hr2) hNg hva hd hcd) hc ⟨⟨hf, by rw [ef]; exact hT⟩, hw⟩
      exact ⟨t', ht'.nox, hq'⟩
    refine wpAny_call (codeAny_mono rc fun r s2 hq => ?_)
    cases r with
    | error e => exact (show False from hq).elim
    | ok fl =>
      cases fl with
      | ret u => exact I1.after hq
      | next => exact False.elim hq
      | brk => exact False.elim hq
      | cont => exact False.elim hq
  | [], _, q => exact q.elim
  | _ :: _ :: _, _, q => exact q.elim
end
section
variable {X : Cx}
theorem pe_lcW {elt tg iter : Expr} {scope : Scope} {own : List (Str × Nat)} {pos : Pos} {wi : TI} {g : TG} {te : TE} (hc : X.calm = true) (hN : X.N.Nodup) (hi : PI X tg iter wi) (bo : BlkOk X.N X.env.scope scope own)
    (hg : ∀ (s : Shared) (H : Hp) (C : Addr) (cl : List (Str × Addr)) (fp : List Addr), PG (X.blk s H scope (compEnvC scope cl C X.env) fp) tg g)
    (he : ∀ (pins : List (Addr × Obj)) (σ : L2.St) (s : Shared) (H : Hp) (C : Addr) (cl : List (Str × Addr)) (fp : List Addr), Inv X pins σ H s → (∀ b ∈ fp, FpOk X pins H b) → PEw (X.blk s H scope (compEnvC scope cl C X.env) fp) (fun σ2 => wipe σ2 (own.map (·.2)) = wipe σ (own.map (·.2))) elt te)
    (hs : ∀ x, foldedSetIterable iter X.env x = pure x := by intro _; rfl) : PE X (.ListComp elt [⟨tg, iter, [], 0⟩] scope pos) (tLc wi g tYes te (own.map (·.2))) := by
  refine ⟨fun pins s σ H Q I h => ?_⟩
  rw [eval_ListComp]
  have fr : ∀ y ∈ scope.names, y.2 = .free → ∃ c, X.env.cells.lookup y.1 = some c := fun y hy e => (bo.free y hy e).elim (fun k => I.ok.has _ (.inl k)) fun k => I.ok.has _ (.inr k)
  refine wpAny_comprehension_free (use := none) rfl hs (closure_ok fr) bo.kind (fun y hy e => by rw [bo.uniq y hy, e]) (thn (hi.run pins s σ H _ I h) fun xv sa hx => thn hx fun itv sb hy => ?_)
  obtain ⟨it, fp, tn, J, Hb, rfl, Ib, TU, st0, fok, body⟩ := hy
  refine wpAny_newObj_type (newEnv_comp ?_) (Nat.zero_le sizeLine)
  obtain ⟨L, eL⟩ : ∃ L, sb.heap.objs.size = L := ⟨_, rfl⟩
  rw [eL]
  have nL : Hb L = none := Ib.hok.fresh (Nat.le_of_eq eL)
  obtain ⟨W, ⟨m0, w0⟩, turn⟩ := body L nL
  generalize esc : ({ sb with heap := sb.heap.push { cls := .type "list", data := .seq ([] : List Value).toArray } } : Shared) = sc
  have hsc : sc.heap = sb.heap.push { cls := .type "list", data := .seq ([] : List Value).toArray } := by rw [← esc]
  obtain ⟨Hc, eHc⟩ : ∃ Hc, Hc = upd Hb L (.lst []) := ⟨_, rfl⟩
  have Ic : Inv X pins σ Hc sc := by
    rw [← esc, eHc]
    exact Ib.laid (t' := sb.toks) (fun b o e => Heap.get?_push_of_some _ e) (Nat.le_of_eq eL) ⟨Nat.zero_le _, [], 0, .nil, by rw [← eL]; exact Heap.get?_push_size _ rfl⟩
  have small : ∀ b ∈ fp, b < sb.heap.objs.size := fun b hb => let ⟨o, e, _⟩ := TU.obj _ _ st0 b hb; Heap.lt_size e
  have fokc : ∀ b ∈ fp, FpOk X pins Hc b ∧ b < sc.heap.objs.size := fun b hb => ⟨⟨by rw [eHc, upd_ne (by rw [← eL]; exact Nat.ne_of_lt (small b hb))]; exact (fok b hb).1, (fok b hb).2⟩, by rw [hsc, Heap.size_push]; exact Nat.lt_succ_of_lt (small b hb)⟩
  have Id := block_start Ic bo hN fokc
  rw [← eHc] at w0
  have pg := hg sc Hc sc.heap.objs.size (cellsFrom (sc.heap.objs.size + 1) scope.names (cloFrom X.env.cells scope.names [])) fp
  have pe := he pins σ sc Hc sc.heap.objs.size (cellsFrom (sc.heap.objs.size + 1) scope.names (cloFrom X.env.cells scope.names [])) fp Ic fun b hb => (fokc b hb).1
  show codeAny _ _ (.compStart (.ListComp elt [⟨tg, iter, [], 0⟩] scope pos) 0 (.ref it) (.ref L) (compEnvC scope (cellsFrom (sc.heap.objs.size + 1) scope.names (cloFrom X.env.cells scope.names [])) sc.heap.objs.size X.env)) _ { sc with heap := pushCells (sc.heap.push { cls := .type "dict", data := .dict #[] }) scope.names }
  obtain ⟨cv, ecv⟩ : ∃ cv, cv = compEnvC scope (cellsFrom (sc.heap.objs.size + 1) scope.names (cloFrom X.env.cells scope.names [])) sc.heap.objs.size X.env := ⟨_, rfl⟩
  have cvL : cv.locals = sc.heap.objs.size := by rw [ecv]; rfl
  rw [← ecv] at Id pg pe ⊢
  obtain ⟨sd, esd⟩ : ∃ sd : Shared, sd = { sc with heap := pushCells (sc.heap.push { cls := .type "dict", data := .dict #[] }) scope.names } := ⟨_, rfl⟩
  rw [← esd] at Id ⊢
  have st1 : tn 0 sd.heap := TU.keep _ _ _ st0 fun b _ o e => by rw [esd]; exact pushCells_keeps _ _ _ _ (Heap.get?_push_of_some _ (by rw [hsc]; exact Heap.get?_push_of_some _ e))
  have fpY : ∀ {σ' : L2.St} {H' : Hp} {s' : Shared}, Inv (X.blk sc Hc scope cv fp) [] σ' H' s' → (∀ b ∈ fp, H' b = none) → ∀ b ∈ fp, FpOk (X.blk sc Hc scope cv fp) [] H' b := fun J hn b hb =>
    ⟨hn b hb, (J.ok.exf b hb).1, J.ok.exfs b hb, .inl hb, (J.ok.exf b hb).2, fun p hp => absurd (show p ∈ ([] : List (Addr × Obj)) ++ [] from hp) (by simp)⟩
  have lp : codeAny (model X.prog X.w) X.A (.compLoop (.ListComp elt [⟨tg, iter, [], 0⟩] scope pos) 0 (.ref it) (.ref L) cv) (compPost (model X.prog X.w) X.A X.xe none (EP X pins σ Q) (.ref L) sc.heap.objs.size) sd := by
    refine compLoop_any (fun m s' => ∃ i H', Inv (X.blk sc Hc scope cv fp) [] (wipe σ (own.map (·.2))) H' s' ∧ tn i s'.heap ∧ (∀ b ∈ fp, H' b = none) ∧ W i m H') (fun m sE ⟨i, HE, IE, stE, nE, wE⟩ => ?_) m0 ⟨0, Hc, Id, st1, fun b hb => (fokc b hb).1.1, w0⟩
    rcases turn i m HE wE with ⟨stop, qq⟩ | ⟨go, Nx, hNx, step⟩
    · refine thnF (TU.done (X.blk sc Hc scope cv fp) rfl rfl rfl hc i [] sE _ HE (fun _ _ => False) IE (fpY IE nE) stE stop) fun r sF ⟨hr, IF⟩ => ?_
      subst hr
      have IG : Inv X pins σ HE sF := Ic.call' (ch := fp) IF.os IF.base IF.hok IF.bare fun b hb => let f := (fokc b hb).1; ⟨f.2.2.2.1, f.2.1, f.2.2.2.2.1, f.2.2.2.2.2⟩
      have nC : HE sc.heap.objs.size = none := by rw [← cvL]; exact IF.free
      obtain ⟨mm, hn, _⟩ := IF.loc
      have hn : sF.heap.Ns cv.locals mm := hn
      rw [cvL] at hn
      refine ⟨mm, hn, fun h2 same => ?_⟩
      obtain ⟨f0, f1, f2, f3, f4, f5⟩ := Ic.fpOk (Nat.le_refl _) nC
      exact ⟨.ref L, HE, IG.turned (t' := sF.toks) (fun b o hb e => (same.2 b hb).trans e) f0 f1 f3 f4 f5, rfl, qq⟩
    · refine thnF (TU.item (X.blk sc Hc scope cv fp) rfl rfl rfl hc i [] sE _ HE (fun _ _ => False) IE (fpY IE nE) stE go) fun r sF ⟨u, hr, hF⟩ => ?_
      subst hr
      refine thnF hF fun _ sG ⟨x, HG, IG, rG, yG, stG, nG⟩ => ?_
      have IP := IG.pinned (fpY IG nG) (TU.obj _ _ stG)
      refine thnF (pg.run _ sG _ HG x u _ IP rG (step x HG yG)) fun _ sH ⟨σ8, HH, IH, hw8, q8⟩ => ?_
      refine thnF ((pts_nil (X := X.blk sc Hc scope cv fp)).run _ sH σ8 HH _ IH q8) fun b sI ⟨HI, II, qI⟩ => ?_
      have fin : ∀ {s' : Shared} {H' : Hp}, Inv (X.blk sc Hc scope cv fp) ([] ++ pinsAt fp sG.heap) σ8 H' s' → Nx H' → ∃ m', m' < m ∧ ∃ i H', Inv (X.blk sc Hc scope cv fp) [] (wipe σ (own.map (·.2))) H' s' ∧ tn i s'.heap ∧ (∀ b ∈ fp, H' b = none) ∧ W i m' H' := fun {s' H'} I' nx => by
        obtain ⟨m', hm, w'⟩ := hNx H' nx
        have held : ∀ b ∈ fp, ∀ o, sG.heap.get? b = some o → s'.heap.get? b = some o ∧ H' b = none := fun b hb o e => let z := I'.pin (b, o) (List.mem_append_right _ (List.mem_append_right _ (mem_pinsAt hb e))); ⟨z.1, z.2.1⟩
        refine ⟨m', hm, i + 1, H', (I'.unpinned (pins := [])).weak (by rw [← hw8, wipe_length]) (fun j v e => ?_), TU.keep _ _ _ stG fun b hb o e => (held b hb o e).1, fun b hb => ?_, w'⟩
        · rw [← hw8] at e
          exact (wipe_some e).1
        · obtain ⟨o, e, _⟩ := TU.obj _ _ stG b hb
          exact (held b hb o e).2
      cases b with
      | false =>
        simp only [Bool.false_eq_true, if_false] at qI ⊢
        exact fin II qI
      | true =>
        simp only [if_true] at qI ⊢
        refine thnF (pe.run _ sI σ8 HI _ II hw8 qI) fun z sJ ⟨yv, HJ, IJ, rJ, acc, hL, hz, nx⟩ => ?_
        exact app_ok (X := X.blk sc Hc scope cv fp) IJ hL hz rJ fun sK IK => fin IK nx
  exact codeAny_compStart_list lp (TU.self X.A 0 _ _ _ st1 lp)
end
end DL

/-! lambdas as values: over data -/
namespace DL
open PySem PySem.Spec PyProof.Rows L2
abbrev TFn := Nat → Option Addr → FnRec
def stZ : Stmt := .Pass ⟨0, 0, 0, 0⟩
def exZ : Expr := .Constant .none 0 ⟨0, 0, 0, 0⟩
def stB : Stmt → List Stmt
  | .For _ _ b _ _ => b
  | .If _ b _ _ => b
  | .While _ b _ _ => b
  | _ => []
def stE : Stmt → Expr
  | .Assign _ v _ => v
  | .Expr v _ => v
  | _ => exZ
def exL : Expr → List Expr
  | .List es _ => es
  | .Call _ as _ _ => as
  | _ => []
def lamRec (n : Nat) (e : Expr) (cl : List (Str × Addr)) (dT : Option Addr) : FnRec := match e with
  | .Lambda params body scope _ => ⟨n, params, body, scope, cloFrom cl scope.names [], dT⟩
  | _ => ⟨n, ⟨[], [], none, [], [], none, []⟩, exZ, default, [], dT⟩
def tfOf (L : List (Option Addr → FnRec)) : TFn := fun n => match L[n]? with
  | some f => f
  | none => fun dT => ⟨0, ⟨[], [], none, [], [], none, []⟩, exZ, default, [], dT⟩
def dLamV0 (TF : TFn) (n : Nat) : DE := fun δ P => P (.fn (TF n none)) δ
def dLamV1 (TF : TFn) (n : Nat) : DE := fun δ P => ∀ T, P (.fn (TF n (some T))) δ
theorem tabC_of {K : PySem.W.Frag} {da : Option Addr} {G H : Hp} (ex : Same G H) (dl : DealOk K da G H) (nz : lawT K ≠ 0) : TabC K H := by
  obtain ⟨ps, hP⟩ := dl.1.ex nz
  obtain ⟨h1, h2⟩ := dl.1.tab _ hP
  exact ⟨ps, hP, h1, fun pos cv hcv => (h2 pos cv hcv).imp fun c z => ⟨z.1, ex _ _ z.2⟩⟩
theorem rf_lamV0 {K : KW} {TF : TFn} {n : Nat} (nz : lawT K.K ≠ 0) (hT : ∀ dT, (TF n dT).dT = dT) : RfE K (tLamV0 K.K (TF n none)) (dLamV0 TF n) := by
  intro e da G δ σ H P Q R h k
  refine ⟨tabC_of R.ex R.dl nz, fun H1 c st f nf => ?_⟩
  obtain ⟨G1, T1, gc⟩ := lam_trn R.ex R.dl st nz
  have R1 := R.go T1
  have ncf : c ≠ f := fun z => by rw [← z, st.cd] at nf; cases nf
  refine k _ _ _ _ _ (R1.put (o := LamO (TF n none) f c) nf (by intro ps z; unfold LamO at z; cases z)) (T1.eg.trans (Same.new (R1.enone nf).2)) (.fn upd_same (by rw [upd_ne ncf]; exact gc) fun T eT => ?_) h
  rw [hT] at eT
  cases eT
theorem rf_lamV1 {K : KW} {TF : TFn} {n : Nat} (nz : lawT K.K ≠ 0) (hT : ∀ dT, (TF n dT).dT = dT) : RfE K (tLamV1 K.K (TF n)) (dLamV1 TF n) := by
  intro e da G δ σ H P Q R h k T nT
  have R0 := R.put (o := .tup [.int 0]) nT
  have e0 : Same G (upd G T (.tup [.int 0])) := Same.new (R.enone nT).2
  refine ⟨tabC_of R0.ex R0.dl nz, fun H1 c st f nf => ?_⟩
  obtain ⟨G1, T1, gc⟩ := lam_trn R0.ex R0.dl st nz
  have R1 := R0.go T1
  have ncf : c ≠ f := fun z => by rw [← z, st.cd] at nf; cases nf
  have gT : G1 T = some (.tup [.int 0]) := T1.eg _ _ upd_same
  have nTf : T ≠ f := fun z => by
    have := R1.ex _ _ gT
    rw [z, nf] at this; cases this
  refine k _ _ _ _ _ (R1.put (o := LamO (TF n (some T)) f c) nf (by intro ps z; unfold LamO at z; cases z)) ((e0.trans T1.eg).trans (Same.new (R1.enone nf).2)) (.fn upd_same (by rw [upd_ne ncf]; exact gc) fun T' eT => ?_) (h T)
  rw [hT] at eT
  cases eT
  rw [upd_ne nTf]
  exact gT
abbrev LamD := List (Nat × Bool × ((Addr → List (Str × D) → Prop) → DE))
def LamsD (K : PySem.W.Frag) (TF : TFn) (ts : LamT) (bs : LamD) : Prop := ∀ n b d, bs.lookup n = some (b, d) → (∀ dT, (TF n dT).dT = dT) ∧ ∃ t, ts.lookup n = some (b, t) ∧ ∀ (E : XK) (PX : Addr → List (Str × D) → Prop), RfE (kwE K E PX) (t E) (d PX)
theorem lamsD_nil {K : PySem.W.Frag} {TF : TFn} : LamsD K TF [] [] := fun _ _ _ h => by cases h
theorem lamsD_cons {K : PySem.W.Frag} {TF : TFn} {n : Nat} {b : Bool} {t : XK → TE} {d : (Addr → List (Str × D) → Prop) → DE} {ts : LamT} {bs : LamD} (hT : ∀ dT, (TF n dT).dT = dT) (h : ∀ (E : XK) (PX : Addr → List (Str × D) → Prop), RfE (kwE K E PX) (t E) (d PX)) (hs : LamsD K TF ts bs) :
    LamsD K TF ((n, b, t) :: ts) ((n, b, d) :: bs) := fun m b' d' e => by
  rw [List.lookup_cons] at e
  split at e
  · rename_i q
    have q' : m = n := by simpa using q
    subst q'
    cases e
    refine ⟨hT, t, ?_, h⟩
    simp
  · rename_i q
    obtain ⟨h1, t', h2, h3⟩ := hs m b' d' e
    exact ⟨h1, t', by rw [List.lookup_cons, q]; exact h2, h3⟩
def dWhyV (K : PySem.W.Frag) (l : WhyL) (vs : List Nat) (TF : TFn) (bs : LamD) (a : DE) : DE := fun δ P => a δ fun d δ1 => ∃ (n : Nat) (dT : Option Addr) (b : (Addr → List (Str × D) → Prop) → DE), d = .fn (TF n dT) ∧ bs.lookup n = some (dT.isSome, b) ∧
  b (fun C fs => whyX K l C fs fun d => P d δ1) (maskw δ1 vs) fun d _ => P (.tup [.str "told", d]) δ1
theorem rf_whyV {K : KW} {l : WhyL} {vs : List Nat} {TF : TFn} {ts : LamT} {bs : LamD} {ta : TE} {a : DE} (hl : LamsD K.K TF ts bs) (ha : RfE K ta a) : RfE K (tWhyV K.K l vs TF ts ta) (dWhyV K.K l vs TF bs a) := by
  intro e da G δ σ H P Q R h k
  refine ha e da G δ σ H _ _ R h fun d δ1 v G1 H1 R1 e1 r1 ⟨n, dT, b, ed, hb, hw⟩ => ?_
  subst ed
  obtain ⟨hT, t, ht, hrf⟩ := hl n _ b hb
  cases r1 with
  | fn g1 g2 g3 =>
  rename_i f c
  refine ⟨n, dT, f, c, t, rfl, ht, R1.ex _ _ g1, R1.ex _ _ g2, fun T eT => R1.ex _ _ (g3 T (by rw [hT]; exact eT)), ?_⟩
  have Rm : Rel0 K.K ⟨G1, H1⟩ da G1 (maskw δ1 vs) (wipe σ vs) H1 :=
    ⟨Trn.refl R1.ex R1.dl, by rw [maskw_len, wipe_len]; exact R1.ln, fun _ => [], fun i s q => maskw_rel R1 vs i s q, fun _ _ z => absurd z (by simp), fun _ _ _ _ z => absurd z (by simp)⟩
  have fin : ∀ {G2 H2 : Hp} {w v : V} {dw dv : D}, Trn K.K da G1 H1 G2 H2 → Rp K.K da G2 dw w → Rp K.K da G2 dv v → P (.tup [dw, dv]) δ1 → ∀ p, H2 p = none → Q (.ref p) (upd H2 p (.tup [w, v])) := by
    intro G2 H2 w v dw dv T2 rw' rv hp p np
    have R2 := R1.go T2
    have e2 : Same G2 (upd G2 p (.tup [w, v])) := Same.new (R2.enone np).2
    exact k _ _ _ _ _ (R2.put (o := .tup [w, v]) np) ((e1.trans T2.eg).trans e2) (.tup (.inl (.inl upd_same)) (.cons (rw'.up e2) (.cons (rv.up e2) .nil))) hp
  refine hrf (fun cls d H' => whyK K.K l cls d H' Q) (fun C fs => whyX K.K l C fs fun d => P d δ1) ⟨G1, H1⟩ da G1 (maskw δ1 vs) (wipe σ vs) H1 _ _ ⟨Rm, kwE_xo fun C dd fs gs G' H' T hd rF px => ?_⟩ hw fun d δ' v G' H' R' eg r p => ⟨by show 2 ≤ sizeLine; decide, fun q nq => fin R'.toTrn (.str _) r p q nq⟩
  obtain ⟨fo, w, v, hp, hw, hv, pp⟩ := px
  obtain ⟨w', hw', rw'⟩ := rF.get hw
  cases fo with
  | none =>
    have hv' : v = .non := hv
    subst hv'
    exact ⟨C, dd, gs, none, w', .non, rfl, rfl, hd, hp, hw', rfl, fin T rw' .non pp⟩
  | some f =>
    obtain ⟨v', hv', rv'⟩ := rF.get hv
    exact ⟨C, dd, gs, some f, w', v', rfl, rfl, hd, hp, hw', hv', fin T rw' rv' pp⟩
end DL

/-! a text turned about; a list of one's own lent -/
namespace DL
open PySem PySem.Spec PyProof.Rows L2
theorem range_down (n : Nat) : sliceRange ((n : Int) - 1) (-1) (-1) = (List.range n).map fun k => (n - 1 - k : Nat) := by
  unfold sliceRange
  have h1 : ¬ ((-1 : Int) > 0) := by omega
  simp only [h1, if_false]
  by_cases h0 : n = 0
  · simp [h0]
  · have h2 : ((n : Int) - 1) > -1 := by omega
    simp only [h2, if_true]
    have h3 : (((n : Int) - 1 - -1 - -1 - 1) / - -1).toNat = n := by
      have : ((n : Int) - 1 - -1 - -1 - 1) / - -1 = (n : Int) := by
        have e1 : (- -1 : Int) = 1 := rfl
        rw [e1, Int.ediv_one]
        omega
      rw [this]; rfl
    rw [h3]
    apply List.map_congr_left
    intro k hk
    have := List.mem_range.mp hk
    omega
theorem picks_down {α : Type} (a : Array α) : (sliceRange ((a.size : Int) - 1) (-1) (-1)).filterMap (a[·]?) = a.toList.reverse := by
  rw [range_down, List.filterMap_map]
  apply List.ext_getElem?
  intro i
  by_cases h0 : a.size = 0
  · have e : a = #[] := Array.eq_empty_of_size_eq_zero h0
    subst e
    rfl
  · have hd : 0 < a.size := Nat.pos_of_ne_zero h0
    rw [fm_map (g := fun k => a.toList.getD (a.size - 1 - k) a[0])]
    · rw [List.getElem?_map]
      by_cases hi : i < a.size
      · rw [List.getElem?_range hi, List.getElem?_reverse (by simpa using hi)]
        simp only [Option.map_some, Array.length_toList, List.getD_eq_getElem?_getD]
        rw [List.getElem?_eq_getElem (by simp; omega)]
        rfl
      · rw [List.getElem?_eq_none (by simpa using hi), List.getElem?_eq_none (by simpa using hi)]
        rfl
    · intro k hk
      have := List.mem_range.mp hk
      show a[a.size - 1 - k]? = _
      rw [List.getD_eq_getElem?_getD, ← Array.getElem?_toList, List.getElem?_eq_getElem (by simp; omega)]
      rfl
def revS (z : Str) : Str := ⟨z.cps.toList.reverse.toArray⟩
def tRevS (te : TE) (tst : TO) : TE := fun σ H Q => te σ H fun x H1 => tst σ H1 fun o H2 => o = some (-1) ∧ ∃ z, x = .str z ∧ z.length ≤ sizeLine ∧ Q (.str (revS z)) H2
section
variable {X : Cx} {e est : Expr} {te : TE} {tst : TO} {pos p2 : Pos}
theorem pe_revS (he : PE X e te) (hs : PO X (some est) tst) : PE X (.Subscript e (.Slice none none (some est) p2) pos) (tRevS te tst) := by
  refine ⟨fun pins s σ H Q I h => ?_⟩
  refine Subscript_ (thn (he.run pins s σ H _ I h) fun v s1 ⟨x, H1, I1, r1, q1⟩ => ?_)
  refine wpAny_Slice ?_
  refine wpAny_pure (wpAny_pure (thn (hs.run pins s1 σ H1 _ I1 q1) fun vs s3 ⟨o, H3, I3, po, ho, q3⟩ => ?_))
  subst ho
  have I4 : Inv X pins σ H3 { s3 with heap := s3.heap.push { cls := .type "slice", data := .fields #[.none, .none, vs] } } := I3.kept (t' := s3.toks) fun b ob q => Heap.get?_push_of_some _ q
  obtain ⟨z, rfl, hz, q3⟩ := q3
  obtain ⟨t, rfl⟩ := r1
  show wpAny (model X.prog X.w) X.A (subscriptTail e (.Slice none none (some est) p2) (.str z t) (.ref s3.heap.objs.size)) (EP X pins σ Q) X.xe { s3 with heap := s3.heap.push { cls := .type "slice", data := .fields #[.none, .none, vs] } }
  cases po with
  | int i t2 =>
    refine tail_any (ops := [.str z t, .ref s3.heap.objs.size]) (typeIs_str _ _ _) F.slot_str_getitem.lookup (wpAny_getItem_str_slice (l := none) (u := none) (st := some (-1, t2)) ⟨_, Heap.get?_push_size _ rfl, rfl, rfl⟩ rfl ?_) (by with_unfolding_all rfl)
    show Made.post (if ((-1 : Int) == 1 && _) = true then _ else Made.str ⟨((Builtin.Str.strSliceIndices none none (-1) z.length).filterMap (z.cps[·]?)).toArray⟩) (EP X pins σ Q) _
    rw [if_neg (by rw [show ((-1 : Int) == 1) = false from rfl, Bool.false_and]; decide)]
    have e2 : ((Builtin.Str.strSliceIndices none none (-1) z.length).filterMap (z.cps[·]?)) = z.cps.toList.reverse := picks_down z.cps
    rw [e2]
    exact ⟨by show (revS z).length ≤ sizeLine; show z.cps.toList.reverse.toArray.size ≤ sizeLine; rw [List.size_toArray, List.length_reverse, Array.length_toList]; exact hz, .str (revS z), H3, I4.tok _, ⟨_, rfl⟩, q3⟩
end
def dRevS (a : DE) (p : DOp) : DE := fun δ P => a δ fun x δ1 => p δ1 fun o δ2 => o = some (-1) ∧ ∃ z, x = .str z ∧ z.length ≤ 1000000 ∧ P (.str (revS z)) δ2
theorem rf_revS {K : KW} {te : TE} {tst : TO} {a : DE} {p : DOp} (ha : RfE K te a) (hp : RfP K tst p) : RfE K (tRevS te tst) (dRevS a p) := by
  intro e da G δ σ H P Q R h k
  refine ha e da G δ σ H _ _ R h fun x δ1 v G1 H1 R1 e1 r1 h1 => ?_
  refine hp e da G1 δ1 σ H1 _ _ R1 h1 fun o δ2 G2 H2 R2 e2 ⟨ho, z, ez, hz, h2⟩ => ⟨ho, ?_⟩
  subst ez
  cases r1
  exact ⟨z, rfl, Nat.le_trans hz (by decide), k _ _ _ _ _ R2 (e1.trans e2) (.str _) h2⟩
theorem revS_tx (l : List Nat) : revS (tx l) = tx l.reverse := rfl
end DL

/-! a list of one's own lent to an expression that tells a truth value and does not draw -/
namespace DL
open PySem PySem.Spec PyProof.Rows L2
def noDl : Nat → D → Prop
  | _, .non => True
  | _, .bl _ => True
  | _, .int _ => True
  | _, .str _ => True
  | n + 1, .lst l => ∀ d ∈ l, noDl n d
  | n + 1, .tup l => ∀ d ∈ l, noDl n d
  | n + 1, .obj _ fs => ∀ p ∈ fs, noDl n p.2
  | _, _ => False
section
variable {K : PySem.W.Frag} {da : Option Addr} {G : Hp}
theorem noDlA (n : Nat) (ih : ∀ (d : D) (v : V), noDl n d → Rp K da G d v → Rp K none G d v) : ∀ {ds : List D} {vs : List V}, (∀ d ∈ ds, noDl n d) → RpA K da G ds vs → RpA K none G ds vs
  | _, _, _, .nil => .nil
  | _, _, h, .cons r rr => .cons (ih _ _ (h _ List.mem_cons_self) r) (noDlA n ih (fun d hd => h d (List.mem_cons_of_mem _ hd)) rr)
theorem noDlF (n : Nat) (ih : ∀ (d : D) (v : V), noDl n d → Rp K da G d v → Rp K none G d v) : ∀ {ds : List (Str × D)} {vs : List (Str × V)}, (∀ p ∈ ds, noDl n p.2) → RpF K da G ds vs → RpF K none G ds vs
  | [], _, _, .nil => .nil
  | (f, d) :: ds, _, h, .cons r rr => .cons (ih _ _ (h (f, d) List.mem_cons_self) r) (noDlF n ih (fun p hp => h p (List.mem_cons_of_mem _ hp)) rr)
theorem noDl_rp : ∀ (n : Nat) (d : D) (v : V), noDl n d → Rp K da G d v → Rp K none G d v := by
  intro n
  induction n with
  | zero =>
    intro d v h r
    cases r <;> first | exact h.elim | constructor
  | succ n ih =>
    intro d v h r
    cases r with
    | non => exact .non
    | bl b => exact .bl b
    | int i => exact .int i
    | str s => exact .str s
    | lst hg ra => exact .lst hg (noDlA n ih h ra)
    | tup hg ra => exact .tup hg (noDlA n ih h ra)
    | obj hg ra => exact .obj hg (noDlF n ih h ra)
    | deal _ => exact h.elim
    | ty _ => exact h.elim
    | cl _ => exact h.elim
    | unk _ => exact h.elim
    | scr _ => exact h.elim
    | fn _ _ _ => exact h.elim
end
def keepw (ks : List Nat) : Nat → DL.Env → DL.Env
  | _, [] => []
  | k, s :: r => (if ks.contains k = true then maskS s else .no) :: keepw ks (k + 1) r
theorem keepw_len (ks : List Nat) : ∀ (k : Nat) (δ : DL.Env), (keepw ks k δ).length = δ.length
  | _, [] => rfl
  | k, _ :: r => congrArg (· + 1) (keepw_len ks (k + 1) r)
theorem keepw_get {ks : List Nat} : ∀ {δ : DL.Env} {k j : Nat} {s : SD}, (keepw ks k δ)[j]? = some s → s = .no ∨ ∃ d, s = .val d ∧ δ[j]? = some (.val d)
  | [], _, _, _, h => by cases h
  | x :: r, k, 0, s, h => by
    have h' : (if ks.contains k = true then maskS x else .no) = s := Option.some.inj h
    subst h'
    split
    · cases x with
      | val d => exact .inr ⟨d, rfl, rfl⟩
      | _ => exact .inl rfl
    · exact .inl rfl
  | x :: r, k, j + 1, s, h => keepw_get (δ := r) (k := k + 1) (j := j) h
def dLendB (i : Nat) (ks : List Nat) (x : DE) : DE := fun δ P => ∃ ds n, δ[i]? = some (.own ds) ∧ (∀ d ∈ ds, noDl n d) ∧ (∀ s ∈ keepw ks 0 δ, s = .no ∨ ∃ d m, s = .val d ∧ noDl m d) ∧ x ((keepw ks 0 δ).set i (.val (.lst ds))) fun d _ => (∃ b, d = .bl b) ∧ P d δ
theorem rf_lendB {K : PySem.W.Frag} {te : TE} {x : DE} {i : Nat} {ks : List Nat} (hx : RfE (kw0 K) te x) : RfE (kw0 K) te (dLendB i ks x) := by
  intro e da G δ σ H P Q R ⟨ds, n, hi, hp, hk, h⟩ k
  obtain ⟨a, xs, s1, ha, rx, z1, z2, z3⟩ := R.toRel0.own_at hi
  have eg : Same G (upd G a (.lst xs)) := Same.new z3
  have ex : Same (upd G a (.lst xs)) H := fun b o q => by
    by_cases hb : b = a
    · subst hb; rw [upd_same] at q; rw [ha]; exact q
    · rw [upd_ne hb] at q; exact R.ex b o q
  have dl0 : DealOk K none (upd G a (.lst xs)) H := ⟨R.dl.1.updG (by intro ps z; cases z) z3, fun b eb => by cases eb⟩
  have Rx : Rel0 K ⟨upd G a (.lst xs), H⟩ none (upd G a (.lst xs)) ((keepw ks 0 δ).set i (.val (.lst ds))) σ H := by
    refine ⟨Trn.refl ex dl0, by rw [List.length_set, keepw_len]; exact R.ln, fun _ => [], fun j s q => ?_, fun _ _ z => absurd z (by simp), fun _ _ _ _ z => absurd z (by simp)⟩
    rcases get_set q with ⟨rfl, _, rfl⟩ | ⟨_, q⟩
    · exact ⟨rfl, .ref a, s1, .lst upd_same (noDlA n (noDl_rp n) hp (rx.up eg))⟩
    · rcases keepw_get q with rfl | ⟨d, rfl, hd⟩
      · rfl
      · obtain ⟨A, ⟨_, v, hv, r⟩, _⟩ := R.toRel0.at hd
        rcases hk _ (List.mem_of_getElem? q) with z | ⟨d', m, z, nd⟩
        · cases z
        · cases z
          exact ⟨rfl, v, hv, noDl_rp m _ _ nd (r.up eg)⟩
  refine hx ⟨upd G a (.lst xs), H⟩ none _ _ σ H _ Q ⟨Rx, fun _ _ _ _ _ _ _ _ _ _ _ z => z.elim⟩ h fun d δ' v G' H' R' eg' r ⟨⟨b, ed⟩, p⟩ => ?_
  have T : Trn K none (upd G a (.lst xs)) H G' H' := R'.toTrn
  subst ed
  cases r
  have ga : ∀ b o, G' b = some o → b ≠ a → G b = some o ∨ H b = none := fun b o q hb => by
    rcases T.fr b o q with z | z
    · rw [upd_ne hb] at z; exact .inl z
    · exact .inr z
  have T' : Trn K da G H (fun b => if b = a then none else G' b) H' := by
    have same1 : Same G (fun b => if b = a then none else G' b) := fun b o q => by
      have hb : b ≠ a := fun z => by rw [z, z3] at q; cases q
      show (if b = a then none else G' b) = some o
      rw [if_neg hb]
      exact T.eg b o (by rw [upd_ne hb]; exact q)
    refine ⟨fun b o q => ?_, same1, fun b o q _ => T.kp b o q (by simp), fun b o q => ?_, ?_⟩
    · have q' : (if b = a then none else G' b) = some o := q
      by_cases hb : b = a
      · rw [if_pos hb] at q'; cases q'
      · rw [if_neg hb] at q'; exact T.ex b o q'
    · have q' : (if b = a then none else G' b) = some o := q
      by_cases hb : b = a
      · rw [if_pos hb] at q'; cases q'
      · rw [if_neg hb] at q'; exact ga b o q' hb
    · have tabs : TabOk K (fun b => if b = a then none else G' b) H' := by
        refine ⟨fun ps h => ?_, T.dl.1.ex, fun b ps h => ?_⟩
        · obtain ⟨h1, h2⟩ := T.dl.1.tab ps h
          refine ⟨h1, fun pos cv hcv => ?_⟩
          obtain ⟨c, e1, e2⟩ := h2 pos cv hcv
          have hc : c ≠ a := fun z => by
            have q : G' a = some (.lst xs) := T.eg a _ upd_same
            rw [z, q] at e2
            unfold LamX.CodeO at e2
            cases e2
          exact ⟨c, e1, (if_neg hc).trans e2⟩
        · have h' : (if b = a then none else G' b) = some (.tbl ps) := h
          by_cases hb : b = a
          · rw [if_pos hb] at h'; cases h'
          · rw [if_neg hb] at h'; exact T.dl.1.noG b ps h'
      refine R.dl.up same1 (fun _ => tabs) fun b eb => ?_
      obtain ⟨g0, b', ns, p, q, mm, t, hb1, _⟩ := R.dl.2 b eb
      have hba : b ≠ a := fun z => z2 (by rw [← z]; exact eb)
      refine ⟨?_, ?_⟩
      · show (if b = a then none else G' b) = none
        rw [if_neg hba]
        cases q2 : G' b with
        | none => rfl
        | some o =>
          rcases ga b o q2 hba with z | z
          · rw [g0] at z; cases z
          · rw [hb1] at z; cases z
      · rw [(T.kp b _ hb1 (by simp)).nt (by intro ps z; cases z), hb1]
  exact k (.bl b) _ _ _ _ (R.go T') T'.eg (.bl b) p
end DL

namespace SF
open PySem PySem.Spec PyProof.Rows L2 DL RZ
abbrev a_is_whole (K : PySem.W.Frag) : Addr := He.fAd K ("is_whole", none)
abbrev a_Scale_init (K : PySem.W.Frag) : Addr := He.fAd K ("Scale", some "__init__")
abbrev a_Scale_look (K : PySem.W.Frag) : Addr := He.fAd K ("Scale", some "look")
abbrev a_Scale_many (K : PySem.W.Frag) : Addr := He.fAd K ("Scale", some "many")
abbrev a_Scale_weight (K : PySem.W.Frag) : Addr := He.fAd K ("Scale", some "weight")
abbrev a_Scale_rank (K : PySem.W.Frag) : Addr := He.fAd K ("Scale", some "rank")
abbrev a_Scale_less (K : PySem.W.Frag) : Addr := He.fAd K ("Scale", some "less")
abbrev a_need_short (K : PySem.W.Frag) : Addr := He.fAd K ("need_short", none)
abbrev a_standing (K : PySem.W.Frag) : Addr := He.fAd K ("standing", none)
abbrev a_is_rule (K : PySem.W.Frag) : Addr := He.fAd K ("is_rule", none)
abbrev a_Rules_init (K : PySem.W.Frag) : Addr := He.fAd K ("Rules", some "__init__")
abbrev a_Rules_side (K : PySem.W.Frag) : Addr := He.fAd K ("Rules", some "side")
abbrev a_Rules_places (K : PySem.W.Frag) : Addr := He.fAd K ("Rules", some "places")
abbrev a_Rules_is_end (K : PySem.W.Frag) : Addr := He.fAd K ("Rules", some "is_end")
abbrev a_Rules_turned (K : PySem.W.Frag) : Addr := He.fAd K ("Rules", some "turned")
abbrev a_law_deal (K : PySem.W.Frag) : Addr := He.fAd K ("_law_deal", none)
abbrev a_law_pick (K : PySem.W.Frag) : Addr := He.fAd K ("_law_pick", none)
abbrev a_law_of (K : PySem.W.Frag) : Addr := He.fAd K ("_law_of", none)
abbrev a_law_like (K : PySem.W.Frag) : Addr := He.fAd K ("_law_like", none)
abbrev a_law_letters (K : PySem.W.Frag) : Addr := He.fAd K ("_law_letters", none)
abbrev a_law_weights (K : PySem.W.Frag) : Addr := He.fAd K ("_law_weights", none)
abbrev a_law_word (K : PySem.W.Frag) : Addr := He.fAd K ("_law_word", none)
abbrev a_law_rank (K : PySem.W.Frag) : Addr := He.fAd K ("_law_rank", none)
abbrev a_law_oriented (K : PySem.W.Frag) : Addr := He.fAd K ("_law_oriented", none)
abbrev a_law_any_list (K : PySem.W.Frag) : Addr := He.fAd K ("_law_any_list", none)
abbrev a_law_scale_of (K : PySem.W.Frag) : Addr := He.fAd K ("_law_scale_of", none)
abbrev a_law_rules_of (K : PySem.W.Frag) : Addr := He.fAd K ("_law_rules_of", none)
abbrev a_law_standing (K : PySem.W.Frag) : Addr := He.fAd K ("_law_standing", none)
abbrev a_law_turned (K : PySem.W.Frag) : Addr := He.fAd K ("_law_turned", none)
abbrev a_law_why (K : PySem.W.Frag) : Addr := He.fAd K ("_law_why", none)
abbrev a_law (K : PySem.W.Frag) : Addr := He.fAd K ("law", none)
abbrev c_Scale (K : PySem.W.Frag) : Addr := He.ga K "Scale"
abbrev c_Rules (K : PySem.W.Frag) : Addr := He.ga K "Rules"
theorem sc_BadLetters_init : FnScope ["self"] ["self"] (defScope s_BadLetters_init) := ⟨rfl, rfl, rfl, by decide +kernel, rfl, by decide +kernel, by decide +kernel⟩
theorem sc_BadWeights_init : FnScope ["self"] ["self"] (defScope s_BadWeights_init) := ⟨rfl, rfl, rfl, by decide +kernel, rfl, by decide +kernel, by decide +kernel⟩
theorem sc_BadWord_init : FnScope ["self", "at"] ["self", "at"] (defScope s_BadWord_init) := ⟨rfl, rfl, rfl, by decide +kernel, rfl, by decide +kernel, by decide +kernel⟩
theorem sc_BadRule_init : FnScope ["self", "at"] ["self", "at"] (defScope s_BadRule_init) := ⟨rfl, rfl, rfl, by decide +kernel, rfl, by decide +kernel, by decide +kernel⟩
theorem sc_TooMany_init : FnScope ["self", "most"] ["self", "most"] (defScope s_TooMany_init) := ⟨rfl, rfl, rfl, by decide +kernel, rfl, by decide +kernel, by decide +kernel⟩
theorem sc_TooLong_init : FnScope ["self", "most"] ["self", "most"] (defScope s_TooLong_init) := ⟨rfl, rfl, rfl, by decide +kernel, rfl, by decide +kernel, by decide +kernel⟩
theorem sc_NoStep_init : FnScope ["self", "place"] ["self", "place"] (defScope s_NoStep_init) := ⟨rfl, rfl, rfl, by decide +kernel, rfl, by decide +kernel, by decide +kernel⟩
theorem sc_NoRule_init : FnScope ["self", "number"] ["self", "number"] (defScope s_NoRule_init) := ⟨rfl, rfl, rfl, by decide +kernel, rfl, by decide +kernel, by decide +kernel⟩
theorem sc_is_whole : FnScope ["thing", "low", "high"] ["thing", "low", "high"] (defScope s_is_whole) := ⟨rfl, rfl, rfl, by decide +kernel, rfl, by decide +kernel, by decide +kernel⟩
theorem sc_Scale_init : FnScope ["self", "letters", "weights", "good", "some", "at", "sign", "one"] ["self", "letters", "weights"] (defScope s_Scale_init) := ⟨rfl, rfl, rfl, by decide +kernel, rfl, by decide +kernel, by decide +kernel⟩
theorem sc_Scale_look : FnScope ["self", "word", "at", "sign"] ["self", "word"] (defScope s_Scale_look) := ⟨rfl, rfl, rfl, by decide +kernel, rfl, by decide +kernel, by decide +kernel⟩
theorem sc_Scale_many : FnScope ["self", "word", "sign"] ["self", "word"] (defScope s_Scale_many) := ⟨rfl, rfl, rfl, by decide +kernel, rfl, by decide +kernel, by decide +kernel⟩
theorem sc_Scale_weight : FnScope ["self", "word", "many", "one"] ["self", "word"] (defScope s_Scale_weight) := ⟨rfl, rfl, rfl, by decide +kernel, rfl, by decide +kernel, by decide +kernel⟩
theorem sc_Scale_rank : FnScope ["self", "word", "sign"] ["self", "word"] (defScope s_Scale_rank) := ⟨rfl, rfl, rfl, by decide +kernel, rfl, by decide +kernel, by decide +kernel⟩
theorem sc_Scale_less : FnScope ["self", "one", "other"] ["self", "one", "other"] (defScope s_Scale_less) := ⟨rfl, rfl, rfl, by decide +kernel, rfl, by decide +kernel, by decide +kernel⟩
theorem sc_need_short : FnScope ["word"] ["word"] (defScope s_need_short) := ⟨rfl, rfl, rfl, by decide +kernel, rfl, by decide +kernel, by decide +kernel⟩
theorem sc_standing : FnScope ["pairs", "word", "found", "at", "number", "left", "right"] ["pairs", "word"] (defScope s_standing) := ⟨rfl, rfl, rfl, by decide +kernel, rfl, by decide +kernel, by decide +kernel⟩
theorem sc_is_rule : FnScope ["scale", "pair", "left", "right"] ["scale", "pair"] (defScope s_is_rule) := ⟨rfl, rfl, rfl, by decide +kernel, rfl, by decide +kernel, by decide +kernel⟩
theorem sc_Rules_init : FnScope ["self", "scale", "rules", "at", "pair", "left", "right"] ["self", "scale", "rules"] (defScope s_Rules_init) := ⟨rfl, rfl, rfl, by decide +kernel, rfl, by decide +kernel, by decide +kernel⟩
theorem sc_Rules_side : FnScope ["self", "number", "back", "left", "right"] ["self", "number", "back"] (defScope s_Rules_side) := ⟨rfl, rfl, rfl, by decide +kernel, rfl, by decide +kernel, by decide +kernel⟩
theorem sc_Rules_places : FnScope ["self", "word"] ["self", "word"] (defScope s_Rules_places) := ⟨rfl, rfl, rfl, by decide +kernel, rfl, by decide +kernel, by decide +kernel⟩
theorem sc_Rules_is_end : FnScope ["self", "word"] ["self", "word"] (defScope s_Rules_is_end) := ⟨rfl, rfl, rfl, by decide +kernel, rfl, by decide +kernel, by decide +kernel⟩
theorem sc_Rules_turned : FnScope ["self", "word", "place", "rule", "back", "taken", "put"] ["self", "word", "place", "rule", "back"] (defScope s_Rules_turned) := ⟨rfl, rfl, rfl, by decide +kernel, rfl, by decide +kernel, by decide +kernel⟩
theorem sc_law_deal : FnScope ["script", "mixed", "cell"] ["script"] (defScope s_law_deal) := ⟨rfl, rfl, rfl, by decide +kernel, rfl, by decide +kernel, by decide +kernel⟩
theorem sc_law_pick : FnScope ["deal", "many", "cell", "got", "seed"] ["deal", "many"] (defScope s_law_pick) := ⟨rfl, rfl, rfl, by decide +kernel, rfl, by decide +kernel, by decide +kernel⟩
theorem sc_law_of : FnScope ["deal", "some"] ["deal", "some"] (defScope s_law_of) := ⟨rfl, rfl, rfl, by decide +kernel, rfl, by decide +kernel, by decide +kernel⟩
theorem sc_law_like : FnScope ["found", "due", "k"] ["found", "due"] (defScope s_law_like) := ⟨rfl, rfl, rfl, by decide +kernel, rfl, by decide +kernel, by decide +kernel⟩
theorem sc_law_letters : FnScope ["deal", "many", "left", "found", "k"] ["deal", "many"] (defScope s_law_letters) := ⟨rfl, rfl, rfl, by decide +kernel, rfl, by decide +kernel, by decide +kernel⟩
theorem sc_law_weights : FnScope ["deal", "many", "way", "k"] ["deal", "many"] (defScope s_law_weights) := ⟨rfl, rfl, rfl, by decide +kernel, rfl, by decide +kernel, by decide +kernel⟩
theorem sc_law_word : FnScope ["deal", "letters", "most", "k"] ["deal", "letters", "most"] (defScope s_law_word) := ⟨rfl, rfl, rfl, by decide +kernel, rfl, by decide +kernel, by decide +kernel⟩
theorem sc_law_rank : FnScope ["m", "word", "spots", "sign", "spot"] ["m", "word"] (defScope s_law_rank) := ⟨rfl, rfl, rfl, by decide +kernel, rfl, by decide +kernel, by decide +kernel⟩
theorem sc_law_oriented : FnScope ["m", "one", "other"] ["m", "one", "other"] (defScope s_law_oriented) := ⟨rfl, rfl, rfl, by decide +kernel, rfl, by decide +kernel, by decide +kernel⟩
theorem sc_law_any_list : FnScope ["deal", "most", "many", "m", "size", "k", "one", "other"] ["deal", "most"] (defScope s_law_any_list) := ⟨rfl, rfl, rfl, by decide +kernel, rfl, by decide +kernel, by decide +kernel⟩
theorem sc_law_scale_of : FnScope ["m"] ["m"] (defScope s_law_scale_of) := ⟨rfl, rfl, rfl, by decide +kernel, rfl, by decide +kernel, by decide +kernel⟩
theorem sc_law_rules_of : FnScope ["m"] ["m"] (defScope s_law_rules_of) := ⟨rfl, rfl, rfl, by decide +kernel, rfl, by decide +kernel, by decide +kernel⟩
theorem sc_law_standing : FnScope ["pairs", "word", "found", "at", "number", "left", "right"] ["pairs", "word"] (defScope s_law_standing) := ⟨rfl, rfl, rfl, by decide +kernel, rfl, by decide +kernel, by decide +kernel⟩
theorem sc_law_turned : FnScope ["pairs", "word", "place", "rule", "back_z", "left", "right", "taken", "put", "later"] ["pairs", "word", "place", "rule", "back_z"] (defScope s_law_turned) := ⟨rfl, rfl, rfl, by decide +kernel, rfl, by decide +kernel, by decide +kernel⟩
theorem sc_law_why : FnScope ["ask", "e"] ["ask"] (defScope s_law_why) := ⟨rfl, rfl, rfl, by decide +kernel, rfl, by decide +kernel, by decide +kernel⟩
theorem sc_law : FnScope ["script", "deal", "turn", "m", "due", "again", "told", "step", "want", "found", "asks", "back_z", "place", "rule", "rules", "wide", "word", "ask"] ["script"] (defScope s_law) := ⟨rfl, rfl, rfl, by decide +kernel, rfl, by decide +kernel, by decide +kernel⟩
structure Txt (K : PySem.W.Frag) (mg : Str → Option Value) : Prop where
  g_is_whole : mg "is_whole" = some (.ref (a_is_whole K))
  g_need_short : mg "need_short" = some (.ref (a_need_short K))
  g_standing : mg "standing" = some (.ref (a_standing K))
  g_is_rule : mg "is_rule" = some (.ref (a_is_rule K))
  g_law_deal : mg "_law_deal" = some (.ref (a_law_deal K))
  g_law_pick : mg "_law_pick" = some (.ref (a_law_pick K))
  g_law_of : mg "_law_of" = some (.ref (a_law_of K))
  g_law_like : mg "_law_like" = some (.ref (a_law_like K))
  g_law_letters : mg "_law_letters" = some (.ref (a_law_letters K))
  g_law_weights : mg "_law_weights" = some (.ref (a_law_weights K))
  g_law_word : mg "_law_word" = some (.ref (a_law_word K))
  g_law_rank : mg "_law_rank" = some (.ref (a_law_rank K))
  g_law_oriented : mg "_law_oriented" = some (.ref (a_law_oriented K))
  g_law_any_list : mg "_law_any_list" = some (.ref (a_law_any_list K))
  g_law_scale_of : mg "_law_scale_of" = some (.ref (a_law_scale_of K))
  g_law_rules_of : mg "_law_rules_of" = some (.ref (a_law_rules_of K))
  g_law_standing : mg "_law_standing" = some (.ref (a_law_standing K))
  g_law_turned : mg "_law_turned" = some (.ref (a_law_turned K))
  g_law_why : mg "_law_why" = some (.ref (a_law_why K))
  g_law : mg "law" = some (.ref (a_law K))
  gc_Scale : mg "Scale" = some (.ref (c_Scale K))
  cl_Scale : Cls K (c_Scale K)
  mk_Scale : Mk K (c_Scale K) (a_Scale_init K)
  na_Scale_signs : NoAttr K (c_Scale K) "signs"
  na_Scale_worths : NoAttr K (c_Scale K) "worths"
  gc_Rules : mg "Rules" = some (.ref (c_Rules K))
  cl_Rules : Cls K (c_Rules K)
  mk_Rules : Mk K (c_Rules K) (a_Rules_init K)
  na_Rules_own_scale : NoAttr K (c_Rules K) "own_scale"
  na_Rules_pairs : NoAttr K (c_Rules K) "pairs"
  gc_BadLetters : mg "BadLetters" = some (.ref (c_BadLetters K))
  gc_BadWeights : mg "BadWeights" = some (.ref (c_BadWeights K))
  gc_BadWord : mg "BadWord" = some (.ref (c_BadWord K))
  gc_BadRule : mg "BadRule" = some (.ref (c_BadRule K))
  gc_TooMany : mg "TooMany" = some (.ref (c_TooMany K))
  gc_TooLong : mg "TooLong" = some (.ref (c_TooLong K))
  gc_NoStep : mg "NoStep" = some (.ref (c_NoStep K))
  gc_NoRule : mg "NoRule" = some (.ref (c_NoRule K))
  gc_Stray : mg "Stray" = some (.ref (c_Stray K))
  gc_BadText : mg "BadText" = some (.ref (c_BadText K))
  gc_BadDeed : mg "BadDeed" = some (.ref (c_BadDeed K))
  gc_Tired : mg "Tired" = some (.ref (c_Tired K))
  gc_Full : mg "Full" = some (.ref (c_Full K))
  gc_NotSettled : mg "NotSettled" = some (.ref (c_NotSettled K))
  gc_Unfair : mg "Unfair" = some (.ref (c_Unfair K))
  gc_BadName : mg "BadName" = some (.ref (c_BadName K))
  gc_Taken : mg "Taken" = some (.ref (c_Taken K))
  gc_NoName : mg "NoName" = some (.ref (c_NoName K))
  gc_Needed : mg "Needed" = some (.ref (c_Needed K))
  gc_NoSize : mg "NoSize" = some (.ref (c_NoSize K))
  gc_InUse : mg "InUse" = some (.ref (c_InUse K))
  gc_NoLetter : mg "NoLetter" = some (.ref (c_NoLetter K))
  gc_NotMade : mg "NotMade" = some (.ref (c_NotMade K))
  gc_FareError : mg "FareError" = some (.ref (c_FareError K))
  gc_NothingLeft : mg "NothingLeft" = some (.ref (c_NothingLeft K))
  m_Scale_look : Meth K (c_Scale K) "look" (a_Scale_look K)
  m_Scale_many : Meth K (c_Scale K) "many" (a_Scale_many K)
  m_Scale_weight : Meth K (c_Scale K) "weight" (a_Scale_weight K)
  m_Scale_rank : Meth K (c_Scale K) "rank" (a_Scale_rank K)
  m_Scale_less : Meth K (c_Scale K) "less" (a_Scale_less K)
  m_Rules_side : Meth K (c_Rules K) "side" (a_Rules_side K)
  m_Rules_places : Meth K (c_Rules K) "places" (a_Rules_places K)
  m_Rules_is_end : Meth K (c_Rules K) "is_end" (a_Rules_is_end K)
  m_Rules_turned : Meth K (c_Rules K) "turned" (a_Rules_turned K)
  n_isinstance : mg "isinstance" = none
  n_int : mg "int" = none
  n_bool : mg "bool" = none
  n_enumerate : mg "enumerate" = none
  c_SMALL : ∃ u, mg "SMALL" = some u ∧ RelV (.str "abcdefghijklmnopqrstuvwxyz") u
  n_len : mg "len" = none
  c_MOST_LETTERS : ∃ u, mg "MOST_LETTERS" = some u ∧ RelV (.int 8) u
  n_tuple : mg "tuple" = none
  n_all : mg "all" = none
  c_MOST_WEIGHT : ∃ u, mg "MOST_WEIGHT" = some u ∧ RelV (.int 99) u
  n_sum : mg "sum" = none
  n_zip : mg "zip" = none
  c_MOST_WORD : ∃ u, mg "MOST_WORD" = some u ∧ RelV (.int 400) u
  n_range : mg "range" = none
  c_MOST_SIDE : ∃ u, mg "MOST_SIDE" = some u ∧ RelV (.int 20) u
  c_MOST_RULES : ∃ u, mg "MOST_RULES" = some u ∧ RelV (.int 40) u
  n_list : mg "list" = none
  n_str : mg "str" = none
  F_BadLetters_init : FunD K "__init__" "BadLetters.__init__" (defArgs s_BadLetters_init) (defBody s_BadLetters_init) (defScope s_BadLetters_init) [] [] (a_BadLetters_init K) (fdOf K (a_BadLetters_init K))
  F_BadWeights_init : FunD K "__init__" "BadWeights.__init__" (defArgs s_BadWeights_init) (defBody s_BadWeights_init) (defScope s_BadWeights_init) [] [] (a_BadWeights_init K) (fdOf K (a_BadWeights_init K))
  F_BadWord_init : FunD K "__init__" "BadWord.__init__" (defArgs s_BadWord_init) (defBody s_BadWord_init) (defScope s_BadWord_init) [] [] (a_BadWord_init K) (fdOf K (a_BadWord_init K))
  F_BadRule_init : FunD K "__init__" "BadRule.__init__" (defArgs s_BadRule_init) (defBody s_BadRule_init) (defScope s_BadRule_init) [] [] (a_BadRule_init K) (fdOf K (a_BadRule_init K))
  F_TooMany_init : FunD K "__init__" "TooMany.__init__" (defArgs s_TooMany_init) (defBody s_TooMany_init) (defScope s_TooMany_init) [] [] (a_TooMany_init K) (fdOf K (a_TooMany_init K))
  F_TooLong_init : FunD K "__init__" "TooLong.__init__" (defArgs s_TooLong_init) (defBody s_TooLong_init) (defScope s_TooLong_init) [] [] (a_TooLong_init K) (fdOf K (a_TooLong_init K))
  F_NoStep_init : FunD K "__init__" "NoStep.__init__" (defArgs s_NoStep_init) (defBody s_NoStep_init) (defScope s_NoStep_init) [] [] (a_NoStep_init K) (fdOf K (a_NoStep_init K))
  F_NoRule_init : FunD K "__init__" "NoRule.__init__" (defArgs s_NoRule_init) (defBody s_NoRule_init) (defScope s_NoRule_init) [] [] (a_NoRule_init K) (fdOf K (a_NoRule_init K))
  F_is_whole : FunD K "is_whole" "is_whole" (defArgs s_is_whole) (defBody s_is_whole) (defScope s_is_whole) [] [] (a_is_whole K) (fdOf K (a_is_whole K))
  F_Scale_init : FunD K "__init__" "Scale.__init__" (defArgs s_Scale_init) (defBody s_Scale_init) (defScope s_Scale_init) [] [("weights", .ref (t_Scale_init_weights K))] (a_Scale_init K) (fdOf K (a_Scale_init K))
  F_Scale_look : FunD K "look" "Scale.look" (defArgs s_Scale_look) (defBody s_Scale_look) (defScope s_Scale_look) [] [] (a_Scale_look K) (fdOf K (a_Scale_look K))
  F_Scale_many : FunD K "many" "Scale.many" (defArgs s_Scale_many) (defBody s_Scale_many) (defScope s_Scale_many) [] [] (a_Scale_many K) (fdOf K (a_Scale_many K))
  F_Scale_weight : FunD K "weight" "Scale.weight" (defArgs s_Scale_weight) (defBody s_Scale_weight) (defScope s_Scale_weight) [] [] (a_Scale_weight K) (fdOf K (a_Scale_weight K))
  F_Scale_rank : FunD K "rank" "Scale.rank" (defArgs s_Scale_rank) (defBody s_Scale_rank) (defScope s_Scale_rank) [] [] (a_Scale_rank K) (fdOf K (a_Scale_rank K))
  F_Scale_less : FunD K "less" "Scale.less" (defArgs s_Scale_less) (defBody s_Scale_less) (defScope s_Scale_less) [] [] (a_Scale_less K) (fdOf K (a_Scale_less K))
  F_need_short : FunD K "need_short" "need_short" (defArgs s_need_short) (defBody s_need_short) (defScope s_need_short) [] [] (a_need_short K) (fdOf K (a_need_short K))
  F_standing : FunD K "standing" "standing" (defArgs s_standing) (defBody s_standing) (defScope s_standing) [] [] (a_standing K) (fdOf K (a_standing K))
  F_is_rule : FunD K "is_rule" "is_rule" (defArgs s_is_rule) (defBody s_is_rule) (defScope s_is_rule) [] [] (a_is_rule K) (fdOf K (a_is_rule K))
  F_Rules_init : FunD K "__init__" "Rules.__init__" (defArgs s_Rules_init) (defBody s_Rules_init) (defScope s_Rules_init) [.ref (t_Rules_init_rules K)] [] (a_Rules_init K) (fdOf K (a_Rules_init K))
  F_Rules_side : FunD K "side" "Rules.side" (defArgs s_Rules_side) (defBody s_Rules_side) (defScope s_Rules_side) [] [] (a_Rules_side K) (fdOf K (a_Rules_side K))
  F_Rules_places : FunD K "places" "Rules.places" (defArgs s_Rules_places) (defBody s_Rules_places) (defScope s_Rules_places) [] [] (a_Rules_places K) (fdOf K (a_Rules_places K))
  F_Rules_is_end : FunD K "is_end" "Rules.is_end" (defArgs s_Rules_is_end) (defBody s_Rules_is_end) (defScope s_Rules_is_end) [] [] (a_Rules_is_end K) (fdOf K (a_Rules_is_end K))
  F_Rules_turned : FunD K "turned" "Rules.turned" (defArgs s_Rules_turned) (defBody s_Rules_turned) (defScope s_Rules_turned) [] [("back", .bl false)] (a_Rules_turned K) (fdOf K (a_Rules_turned K))
  F_law_deal : FunD K "_law_deal" "_law_deal" (defArgs s_law_deal) (defBody s_law_deal) (defScope s_law_deal) [] [] (a_law_deal K) (fdOf K (a_law_deal K))
  F_law_pick : FunD K "_law_pick" "_law_pick" (defArgs s_law_pick) (defBody s_law_pick) (defScope s_law_pick) [] [] (a_law_pick K) (fdOf K (a_law_pick K))
  F_law_of : FunD K "_law_of" "_law_of" (defArgs s_law_of) (defBody s_law_of) (defScope s_law_of) [] [] (a_law_of K) (fdOf K (a_law_of K))
  F_law_like : FunD K "_law_like" "_law_like" (defArgs s_law_like) (defBody s_law_like) (defScope s_law_like) [] [] (a_law_like K) (fdOf K (a_law_like K))
  F_law_letters : FunD K "_law_letters" "_law_letters" (defArgs s_law_letters) (defBody s_law_letters) (defScope s_law_letters) [] [] (a_law_letters K) (fdOf K (a_law_letters K))
  F_law_weights : FunD K "_law_weights" "_law_weights" (defArgs s_law_weights) (defBody s_law_weights) (defScope s_law_weights) [] [] (a_law_weights K) (fdOf K (a_law_weights K))
  F_law_word : FunD K "_law_word" "_law_word" (defArgs s_law_word) (defBody s_law_word) (defScope s_law_word) [] [] (a_law_word K) (fdOf K (a_law_word K))
  F_law_rank : FunD K "_law_rank" "_law_rank" (defArgs s_law_rank) (defBody s_law_rank) (defScope s_law_rank) [] [] (a_law_rank K) (fdOf K (a_law_rank K))
  F_law_oriented : FunD K "_law_oriented" "_law_oriented" (defArgs s_law_oriented) (defBody s_law_oriented) (defScope s_law_oriented) [] [] (a_law_oriented K) (fdOf K (a_law_oriented K))
  F_law_any_list : FunD K "_law_any_list" "_law_any_list" (defArgs s_law_any_list) (defBody s_law_any_list) (defScope s_law_any_list) [] [] (a_law_any_list K) (fdOf K (a_law_any_list K))
  F_law_scale_of : FunD K "_law_scale_of" "_law_scale_of" (defArgs s_law_scale_of) (defBody s_law_scale_of) (defScope s_law_scale_of) [] [] (a_law_scale_of K) (fdOf K (a_law_scale_of K))
  F_law_rules_of : FunD K "_law_rules_of" "_law_rules_of" (defArgs s_law_rules_of) (defBody s_law_rules_of) (defScope s_law_rules_of) [] [] (a_law_rules_of K) (fdOf K (a_law_rules_of K))
  F_law_standing : FunD K "_law_standing" "_law_standing" (defArgs s_law_standing) (defBody s_law_standing) (defScope s_law_standing) [] [] (a_law_standing K) (fdOf K (a_law_standing K))
  F_law_turned : FunD K "_law_turned" "_law_turned" (defArgs s_law_turned) (defBody s_law_turned) (defScope s_law_turned) [] [] (a_law_turned K) (fdOf K (a_law_turned K))
  F_law_why : FunD K "_law_why" "_law_why" (defArgs s_law_why) (defBody s_law_why) (defScope s_law_why) [] [] (a_law_why K) (fdOf K (a_law_why K))
  F_law : FunD K "law" "law" (defArgs s_law) (defBody s_law) (defScope s_law) [] [] (a_law K) (fdOf K (a_law K))
  e_t_Scale_init_weights : tupE K (t_Scale_init_weights K) = true
  e_t_Rules_init_rules : tupE K (t_Rules_init_rules K) = true
  ob_BadLetters : oexB K (c_BadLetters K) = true
  oi_BadLetters : oexI K (c_BadLetters K) (a_BadLetters_init K) = true
  nw_BadLetters : noA K (c_BadLetters K) "word" = true
  ob_BadWeights : oexB K (c_BadWeights K) = true
  oi_BadWeights : oexI K (c_BadWeights K) (a_BadWeights_init K) = true
  nw_BadWeights : noA K (c_BadWeights K) "word" = true
  ob_BadWord : oexB K (c_BadWord K) = true
  oi_BadWord : oexI K (c_BadWord K) (a_BadWord_init K) = true
  nw_BadWord : noA K (c_BadWord K) "word" = true
  nf_BadWord : noA K (c_BadWord K) "at" = true
  ob_BadRule : oexB K (c_BadRule K) = true
  oi_BadRule : oexI K (c_BadRule K) (a_BadRule_init K) = true
  nw_BadRule : noA K (c_BadRule K) "word" = true
  nf_BadRule : noA K (c_BadRule K) "at" = true
  ob_TooMany : oexB K (c_TooMany K) = true
  oi_TooMany : oexI K (c_TooMany K) (a_TooMany_init K) = true
  nw_TooMany : noA K (c_TooMany K) "word" = true
  nf_TooMany : noA K (c_TooMany K) "most" = true
  ob_TooLong : oexB K (c_TooLong K) = true
  oi_TooLong : oexI K (c_TooLong K) (a_TooLong_init K) = true
  nw_TooLong : noA K (c_TooLong K) "word" = true
  nf_TooLong : noA K (c_TooLong K) "most" = true
  ob_NoStep : oexB K (c_NoStep K) = true
  oi_NoStep : oexI K (c_NoStep K) (a_NoStep_init K) = true
  nw_NoStep : noA K (c_NoStep K) "word" = true
  nf_NoStep : noA K (c_NoStep K) "place" = true
  ob_NoRule : oexB K (c_NoRule K) = true
  oi_NoRule : oexI K (c_NoRule K) (a_NoRule_init K) = true
  nw_NoRule : noA K (c_NoRule K) "word" = true
  nf_NoRule : noA K (c_NoRule K) "number" = true
  nz0 : decide (lawT K = 0) = false
  wp_BadWord : decide (whyPick K (c_BadWord K) (whyL K) = some (some ("at" : Str))) = true
  wp_TooLong : decide (whyPick K (c_TooLong K) (whyL K) = some (some ("most" : Str))) = true
  wp_NoStep : decide (whyPick K (c_NoStep K) (whyL K) = some (some ("place" : Str))) = true
  wp_NoRule : decide (whyPick K (c_NoRule K) (whyL K) = some (some ("number" : Str))) = true
  xm_BadWord_BadWord : decide (PySem.W.exmAny K (.ref (c_BadWord K)) [.ref (c_BadWord K)] = some true) = true
section
variable {K : PySem.W.Frag} {mg : Str → Option Value}
theorem Txt.b_BadLetters_init (T : Txt K mg) : Binds K (fdOf K (a_BadLetters_init K)) ["self"] [] := T.F_BadLetters_init.bindsN fun _ _ _ _ _ _ us hl => match us, hl with | [_], _ => rfl
theorem Txt.b_BadWeights_init (T : Txt K mg) : Binds K (fdOf K (a_BadWeights_init K)) ["self"] [] := T.F_BadWeights_init.bindsN fun _ _ _ _ _ _ us hl => match us, hl with | [_], _ => rfl
theorem Txt.b_BadWord_init (T : Txt K mg) : Binds K (fdOf K (a_BadWord_init K)) ["self", "at"] [] := T.F_BadWord_init.bindsN fun _ _ _ _ _ _ us hl => match us, hl with | [_, _], _ => rfl
theorem Txt.b_BadRule_init (T : Txt K mg) : Binds K (fdOf K (a_BadRule_init K)) ["self", "at"] [] := T.F_BadRule_init.bindsN fun _ _ _ _ _ _ us hl => match us, hl with | [_, _], _ => rfl
theorem Txt.b_TooMany_init (T : Txt K mg) : Binds K (fdOf K (a_TooMany_init K)) ["self", "most"] [] := T.F_TooMany_init.bindsN fun _ _ _ _ _ _ us hl => match us, hl with | [_, _], _ => rfl
theorem Txt.b_TooLong_init (T : Txt K mg) : Binds K (fdOf K (a_TooLong_init K)) ["self", "most"] [] := T.F_TooLong_init.bindsN fun _ _ _ _ _ _ us hl => match us, hl with | [_, _], _ => rfl
theorem Txt.b_NoStep_init (T : Txt K mg) : Binds K (fdOf K (a_NoStep_init K)) ["self", "place"] [] := T.F_NoStep_init.bindsN fun _ _ _ _ _ _ us hl => match us, hl with | [_, _], _ => rfl
theorem Txt.b_NoRule_init (T : Txt K mg) : Binds K (fdOf K (a_NoRule_init K)) ["self", "number"] [] := T.F_NoRule_init.bindsN fun _ _ _ _ _ _ us hl => match us, hl with | [_, _], _ => rfl
theorem Txt.b_is_whole (T : Txt K mg) : Binds K (fdOf K (a_is_whole K)) ["thing", "low", "high"] [] := T.F_is_whole.bindsN fun _ _ _ _ _ _ us hl => match us, hl with | [_, _, _], _ => rfl
theorem Txt.b_Scale_look (T : Txt K mg) : Binds K (fdOf K (a_Scale_look K)) ["self", "word"] [] := T.F_Scale_look.bindsN fun _ _ _ _ _ _ us hl => match us, hl with | [_, _], _ => rfl
theorem Txt.b_Scale_many (T : Txt K mg) : Binds K (fdOf K (a_Scale_many K)) ["self", "word"] [] := T.F_Scale_many.bindsN fun _ _ _ _ _ _ us hl => match us, hl with | [_, _], _ => rfl
theorem Txt.b_Scale_weight (T : Txt K mg) : Binds K (fdOf K (a_Scale_weight K)) ["self", "word"] [] := T.F_Scale_weight.bindsN fun _ _ _ _ _ _ us hl => match us, hl with | [_, _], _ => rfl
theorem Txt.b_Scale_rank (T : Txt K mg) : Binds K (fdOf K (a_Scale_rank K)) ["self", "word"] [] := T.F_Scale_rank.bindsN fun _ _ _ _ _ _ us hl => match us, hl with | [_, _], _ => rfl
theorem Txt.b_Scale_less (T : Txt K mg) : Binds K (fdOf K (a_Scale_less K)) ["self", "one", "other"] [] := T.F_Scale_less.bindsN fun _ _ _ _ _ _ us hl => match us, hl with | [_, _, _], _ => rfl
theorem Txt.b_need_short (T : Txt K mg) : Binds K (fdOf K (a_need_short K)) ["word"] [] := T.F_need_short.bindsN fun _ _ _ _ _ _ us hl => match us, hl with | [_], _ => rfl
theorem Txt.b_standing (T : Txt K mg) : Binds K (fdOf K (a_standing K)) ["pairs", "word"] [] := T.F_standing.bindsN fun _ _ _ _ _ _ us hl => match us, hl with | [_, _], _ => rfl
theorem Txt.b_is_rule (T : Txt K mg) : Binds K (fdOf K (a_is_rule K)) ["scale", "pair"] [] := T.F_is_rule.bindsN fun _ _ _ _ _ _ us hl => match us, hl with | [_, _], _ => rfl
theorem Txt.b_Rules_side (T : Txt K mg) : Binds K (fdOf K (a_Rules_side K)) ["self", "number", "back"] [] := T.F_Rules_side.bindsN fun _ _ _ _ _ _ us hl => match us, hl with | [_, _, _], _ => rfl
theorem Txt.b_Rules_places (T : Txt K mg) : Binds K (fdOf K (a_Rules_places K)) ["self", "word"] [] := T.F_Rules_places.bindsN fun _ _ _ _ _ _ us hl => match us, hl with | [_, _], _ => rfl
theorem Txt.b_Rules_is_end (T : Txt K mg) : Binds K (fdOf K (a_Rules_is_end K)) ["self", "word"] [] := T.F_Rules_is_end.bindsN fun _ _ _ _ _ _ us hl => match us, hl with | [_, _], _ => rfl
theorem Txt.b_law_deal (T : Txt K mg) : Binds K (fdOf K (a_law_deal K)) ["script"] [] := T.F_law_deal.bindsN fun _ _ _ _ _ _ us hl => match us, hl with | [_], _ => rfl
theorem Txt.b_law_pick (T : Txt K mg) : Binds K (fdOf K (a_law_pick K)) ["deal", "many"] [] := T.F_law_pick.bindsN fun _ _ _ _ _ _ us hl => match us, hl with | [_, _], _ => rfl
theorem Txt.b_law_of (T : Txt K mg) : Binds K (fdOf K (a_law_of K)) ["deal", "some"] [] := T.F_law_of.bindsN fun _ _ _ _ _ _ us hl => match us, hl with | [_, _], _ => rfl
theorem Txt.b_law_like (T : Txt K mg) : Binds K (fdOf K (a_law_like K)) ["found", "due"] [] := T.F_law_like.bindsN fun _ _ _ _ _ _ us hl => match us, hl with | [_, _], _ => rfl
theorem Txt.b_law_letters (T : Txt K mg) : Binds K (fdOf K (a_law_letters K)) ["deal", "many"] [] := T.F_law_letters.bindsN fun _ _ _ _ _ _ us hl => match us, hl with | [_, _], _ => rfl
theorem Txt.b_law_weights (T : Txt K mg) : Binds K (fdOf K (a_law_weights K)) ["deal", "many"] [] := T.F_law_weights.bindsN fun _ _ _ _ _ _ us hl => match us, hl with | [_, _], _ => rfl
theorem Txt.b_law_word (T : Txt K mg) : Binds K (fdOf K (a_law_word K)) ["deal", "letters", "most"] [] := T.F_law_word.bindsN fun _ _ _ _ _ _ us hl => match us, hl with | [_, _, _], _ => rfl
theorem Txt.b_law_rank (T : Txt K mg) : Binds K (fdOf K (a_law_rank K)) ["m", "word"] [] := T.F_law_rank.bindsN fun _ _ _ _ _ _ us hl => match us, hl with | [_, _], _ => rfl
theorem Txt.b_law_oriented (T : Txt K mg) : Binds K (fdOf K (a_law_oriented K)) ["m", "one", "other"] [] := T.F_law_oriented.bindsN fun _ _ _ _ _ _ us hl => match us, hl with | [_, _, _], _ => rfl
theorem Txt.b_law_any_list (T : Txt K mg) : Binds K (fdOf K (a_law_any_list K)) ["deal", "most"] [] := T.F_law_any_list.bindsN fun _ _ _ _ _ _ us hl => match us, hl with | [_, _], _ => rfl
theorem Txt.b_law_scale_of (T : Txt K mg) : Binds K (fdOf K (a_law_scale_of K)) ["m"] [] := T.F_law_scale_of.bindsN fun _ _ _ _ _ _ us hl => match us, hl with | [_], _ => rfl
theorem Txt.b_law_rules_of (T : Txt K mg) : Binds K (fdOf K (a_law_rules_of K)) ["m"] [] := T.F_law_rules_of.bindsN fun _ _ _ _ _ _ us hl => match us, hl with | [_], _ => rfl
theorem Txt.b_law_standing (T : Txt K mg) : Binds K (fdOf K (a_law_standing K)) ["pairs", "word"] [] := T.F_law_standing.bindsN fun _ _ _ _ _ _ us hl => match us, hl with | [_, _], _ => rfl
theorem Txt.b_law_turned (T : Txt K mg) : Binds K (fdOf K (a_law_turned K)) ["pairs", "word", "place", "rule", "back_z"] [] := T.F_law_turned.bindsN fun _ _ _ _ _ _ us hl => match us, hl with | [_, _, _, _, _], _ => rfl
theorem Txt.b_law_why (T : Txt K mg) : Binds K (fdOf K (a_law_why K)) ["ask"] [] := T.F_law_why.bindsN fun _ _ _ _ _ _ us hl => match us, hl with | [_], _ => rfl
theorem Txt.b_law (T : Txt K mg) : Binds K (fdOf K (a_law K)) ["script"] [] := T.F_law.bindsN fun _ _ _ _ _ _ us hl => match us, hl with | [_], _ => rfl
theorem Txt.bd_Scale_look_2 (T : Txt K mg) : Bd K (fdOf K (a_Scale_look K)) ["self", "word"] 2 [] (fun vs zs => vs ++ zs) := ⟨_, kbP T.F_Scale_look 2 [] (fun us ws => us ++ ws) (fun r s => r.append s) fun kV doc pm an cdv ct us ws h1 h2 => match us, ws, h1, h2 with | [_, _], [], _, _ => rfl⟩
theorem Txt.bd_Scale_many_2 (T : Txt K mg) : Bd K (fdOf K (a_Scale_many K)) ["self", "word"] 2 [] (fun vs zs => vs ++ zs) := ⟨_, kbP T.F_Scale_many 2 [] (fun us ws => us ++ ws) (fun r s => r.append s) fun kV doc pm an cdv ct us ws h1 h2 => match us, ws, h1, h2 with | [_, _], [], _, _ => rfl⟩
theorem Txt.bd_Scale_weight_2 (T : Txt K mg) : Bd K (fdOf K (a_Scale_weight K)) ["self", "word"] 2 [] (fun vs zs => vs ++ zs) := ⟨_, kbP T.F_Scale_weight 2 [] (fun us ws => us ++ ws) (fun r s => r.append s) fun kV doc pm an cdv ct us ws h1 h2 => match us, ws, h1, h2 with | [_, _], [], _, _ => rfl⟩
theorem Txt.bd_Scale_rank_2 (T : Txt K mg) : Bd K (fdOf K (a_Scale_rank K)) ["self", "word"] 2 [] (fun vs zs => vs ++ zs) := ⟨_, kbP T.F_Scale_rank 2 [] (fun us ws => us ++ ws) (fun r s => r.append s) fun kV doc pm an cdv ct us ws h1 h2 => match us, ws, h1, h2 with | [_, _], [], _, _ => rfl⟩
theorem Txt.bd_Scale_less_3 (T : Txt K mg) : Bd K (fdOf K (a_Scale_less K)) ["self", "one", "other"] 3 [] (fun vs zs => vs ++ zs) := ⟨_, kbP T.F_Scale_less 3 [] (fun us ws => us ++ ws) (fun r s => r.append s) fun kV doc pm an cdv ct us ws h1 h2 => match us, ws, h1, h2 with | [_, _, _], [], _, _ => rfl⟩
theorem Txt.bd_Rules_places_2 (T : Txt K mg) : Bd K (fdOf K (a_Rules_places K)) ["self", "word"] 2 [] (fun vs zs => vs ++ zs) := ⟨_, kbP T.F_Rules_places 2 [] (fun us ws => us ++ ws) (fun r s => r.append s) fun kV doc pm an cdv ct us ws h1 h2 => match us, ws, h1, h2 with | [_, _], [], _, _ => rfl⟩
theorem Txt.bd_Rules_side_3 (T : Txt K mg) : Bd K (fdOf K (a_Rules_side K)) ["self", "number", "back"] 3 [] (fun vs zs => vs ++ zs) := ⟨_, kbP T.F_Rules_side 3 [] (fun us ws => us ++ ws) (fun r s => r.append s) fun kV doc pm an cdv ct us ws h1 h2 => match us, ws, h1, h2 with | [_, _, _], [], _, _ => rfl⟩
theorem Txt.bd_need_short_1 (T : Txt K mg) : Bd K (fdOf K (a_need_short K)) ["word"] 1 [] (fun vs zs => vs ++ zs) := ⟨_, kbP T.F_need_short 1 [] (fun us ws => us ++ ws) (fun r s => r.append s) fun kV doc pm an cdv ct us ws h1 h2 => match us, ws, h1, h2 with | [_], [], _, _ => rfl⟩
theorem Txt.bd_Scale_init_2_weights (T : Txt K mg) : Bd K (fdOf K (a_Scale_init K)) ["self", "letters", "weights"] 2 ["weights"] (fun vs zs => vs ++ zs) := ⟨_, kbP T.F_Scale_init 2 ["weights"] (fun us ws => us ++ ws) (fun r s => r.append s) fun kV doc pm an cdv ct us ws h1 h2 => match us, ws, h1, h2 with | [_, _], [_], _, _ => rfl⟩
theorem Txt.bd_Rules_init_3 (T : Txt K mg) : Bd K (fdOf K (a_Rules_init K)) ["self", "scale", "rules"] 3 [] (fun vs _ => vs ++ []) := (FunD.kbindsD T.F_Rules_init 3 [] (fun us its ws => us ++ its.drop 1) (by simp) (fun h1 h2 h3 => h1.append (h2.drop 1)) fun T kV doc pm an cdv ct us its ws h1 h2 h3 => match us, its, ws, h1, h2, h3 with | [_, _, _], [_], [], _, _, _ => ⟨_, rfl, rfl⟩).elim fun mv h => ⟨_, h⟩
theorem Txt.bd_Rules_is_end_2 (T : Txt K mg) : Bd K (fdOf K (a_Rules_is_end K)) ["self", "word"] 2 [] (fun vs zs => vs ++ zs) := ⟨_, kbP T.F_Rules_is_end 2 [] (fun us ws => us ++ ws) (fun r s => r.append s) fun kV doc pm an cdv ct us ws h1 h2 => match us, ws, h1, h2 with | [_, _], [], _, _ => rfl⟩
theorem Txt.bd_Rules_turned_4_back (T : Txt K mg) : Bd K (fdOf K (a_Rules_turned K)) ["self", "word", "place", "rule", "back"] 4 ["back"] (fun vs zs => vs ++ zs) := ⟨_, kbP T.F_Rules_turned 4 ["back"] (fun us ws => us ++ ws) (fun r s => r.append s) fun kV doc pm an cdv ct us ws h1 h2 => match us, ws, h1, h2 with | [_, _, _, _], [_], _, _ => rfl⟩
theorem Txt.bd_Rules_turned_4 (T : Txt K mg) : Bd K (fdOf K (a_Rules_turned K)) ["self", "word", "place", "rule", "back"] 4 [] (fun vs _ => vs ++ [.bl false]) := (FunD.kbinds0 T.F_Rules_turned 4 [] [("back", .bl false)] (fun us mv ws => us ++ mv) (by simp) (by simp) (fun h1 h2 h3 => h1.append h2) fun D doc pm an cdv ct us mv ws h1 h2 h3 => match us, mv, ws, h1, h2, h3 with | [_, _, _, _], [_], [], _, _, _ => ⟨_, _, _, _, _, _, rfl, rfl, (by show _ = _; rfl)⟩).elim fun mv h => ⟨_, h⟩
theorem Txt.ox_BadLetters (T : Txt K mg) : OexI K (c_BadLetters K) (a_BadLetters_init K) := oexI_of T.ob_BadLetters T.oi_BadLetters
theorem Txt.ox_BadWeights (T : Txt K mg) : OexI K (c_BadWeights K) (a_BadWeights_init K) := oexI_of T.ob_BadWeights T.oi_BadWeights
theorem Txt.ox_BadWord (T : Txt K mg) : OexI K (c_BadWord K) (a_BadWord_init K) := oexI_of T.ob_BadWord T.oi_BadWord
theorem Txt.ox_BadRule (T : Txt K mg) : OexI K (c_BadRule K) (a_BadRule_init K) := oexI_of T.ob_BadRule T.oi_BadRule
theorem Txt.ox_TooMany (T : Txt K mg) : OexI K (c_TooMany K) (a_TooMany_init K) := oexI_of T.ob_TooMany T.oi_TooMany
theorem Txt.ox_TooLong (T : Txt K mg) : OexI K (c_TooLong K) (a_TooLong_init K) := oexI_of T.ob_TooLong T.oi_TooLong
theorem Txt.ox_NoStep (T : Txt K mg) : OexI K (c_NoStep K) (a_NoStep_init K) := oexI_of T.ob_NoStep T.oi_NoStep
theorem Txt.ox_NoRule (T : Txt K mg) : OexI K (c_NoRule K) (a_NoRule_init K) := oexI_of T.ob_NoRule T.oi_NoRule
theorem Txt.nz (T : Txt K mg) : lawT K ≠ 0 := of_decide_eq_false T.nz0
end
theorem txt_of {w : World} {h : Heap} {K : PySem.W.Frag} {mg : Str → Option Value} (X : K.In h) (G : h.Ns mainGlobals mg) (c : He.SaysX fas fns [] tfs exs w h K) : Txt K mg := by
  have cd := c.t.d
  have hx : exs K = true := c.more
  have hy : (exl K).all id = true := hx
  exact ⟨He.glo_ok X G (cd.fact 0 (f := .glo "is_whole") rfl), He.glo_ok X G (cd.fact 1 (f := .glo "need_short") rfl), He.glo_ok X G (cd.fact 2 (f := .glo "standing") rfl), He.glo_ok X G (cd.fact 3 (f := .glo "is_rule") rfl), He.glo_ok X G (cd.fact 4 (f := .glo "_law_deal") rfl), He.glo_ok X G (cd.fact 5 (f := .glo "_law_pick") rfl), He.glo_ok X G (cd.fact 6 (f := .glo "_law_of") rfl), He.glo_ok X G (cd.fact 7 (f := .glo "_law_like") rfl), He.glo_ok X G (cd.fact 8 (f := .glo "_law_letters") rfl), He.glo_ok X G (cd.fact 9 (f := .glo "_law_weights") rfl), He.glo_ok X G (cd.fact 10 (f := .glo "_law_word") rfl), He.glo_ok X G (cd.fact 11 (f := .glo "_law_rank") rfl), He.glo_ok X G (cd.fact 12 (f := .glo "_law_oriented") rfl), He.glo_ok X G (cd.fact 13 (f := .glo "_law_any_list") rfl), He.glo_ok X G (cd.fact 14 (f := .glo "_law_scale_of") rfl), He.glo_ok X G (cd.fact 15 (f := .glo "_law_rules_of") rfl), He.glo_ok X G (cd.fact 16 (f := .glo "_law_standing") rfl), He.glo_ok X G (cd.fact 17 (f := .glo "_law_turned") rfl), He.glo_ok X G (cd.fact 18 (f := .glo "_law_why") rfl), He.glo_ok X G (cd.fact 19 (f := .glo "law") rfl), He.glo_ok X G (cd.fact 20 (f := .glo "Scale") rfl), He.cls_ok (cd.fact 21 (f := .cls "Scale") rfl), He.mkr_ok (cd.fact 22 (f := .mkr "Scale") rfl), He.noat_ok (cd.fact 23 (f := .noat "Scale" "signs") rfl), He.noat_ok (cd.fact 24 (f := .noat "Scale" "worths") rfl), He.glo_ok X G (cd.fact 25 (f := .glo "Rules") rfl), He.cls_ok (cd.fact 26 (f := .cls "Rules") rfl), He.mkr_ok (cd.fact 27 (f := .mkr "Rules") rfl), He.noat_ok (cd.fact 28 (f := .noat "Rules" "own_scale") rfl), He.noat_ok (cd.fact 29 (f := .noat "Rules" "pairs") rfl), He.glo_ok X G (cd.fact 30 (f := .glo "BadLetters") rfl), He.glo_ok X G (cd.fact 31 (f := .glo "BadWeights") rfl), He.glo_ok X G (cd.fact 32 (f := .glo "BadWord") rfl), He.glo_ok X G (cd.fact 33 (f := .glo "BadRule") rfl), He.glo_ok X G (cd.fact 34 (f := .glo "TooMany") rfl), He.glo_ok X G (cd.fact 35 (f := .glo "TooLong") rfl), He.glo_ok X G (cd.fact 36 (f := .glo "NoStep") rfl), He.glo_ok X G (cd.fact 37 (f := .glo "NoRule") rfl), He.glo_ok X G (cd.fact 38 (f := .glo "Stray") rfl), He.glo_ok X G (cd.fact 39 (f := .glo "BadText") rfl), He.glo_ok X G (cd.fact 40 (f := .glo "BadDeed") rfl), He.glo_ok X G (cd.fact 41 (f := .glo "Tired") rfl), He.glo_ok X G (cd.fact 42 (f := .glo "Full") rfl), He.glo_ok X G (cd.fact 43 (f := .glo "NotSettled") rfl), He.glo_ok X G (cd.fact 44 (f := .glo "Unfair") rfl), He.glo_ok X G (cd.fact 45 (f := .glo "BadName") rfl), He.glo_ok X G (cd.fact 46 (f := .glo "Taken") rfl), He.glo_ok X G (cd.fact 47 (f := .glo "NoName") rfl), He.glo_ok X G (cd.fact 48 (f := .glo "Needed") rfl), He.glo_ok X G (cd.fact 49 (f := .glo "NoSize") rfl), He.glo_ok X G (cd.fact 50 (f := .glo "InUse") rfl), He.glo_ok X G (cd.fact 51 (f := .glo "NoLetter") rfl), He.glo_ok X G (cd.fact 52 (f := .glo "NotMade") rfl), He.glo_ok X G (cd.fact 53 (f := .glo "FareError") rfl), He.glo_ok X G (cd.fact 54 (f := .glo "NothingLeft") rfl), He.meth_ok (cd.fact 55 (f := .meth "Scale" "look") rfl), He.meth_ok (cd.fact 56 (f := .meth "Scale" "many") rfl), He.meth_ok (cd.fact 57 (f := .meth "Scale" "weight") rfl), He.meth_ok (cd.fact 58 (f := .meth "Scale" "rank") rfl), He.meth_ok (cd.fact 59 (f := .meth "Scale" "less") rfl), He.meth_ok (cd.fact 60 (f := .meth "Rules" "side") rfl), He.meth_ok (cd.fact 61 (f := .meth "Rules" "places") rfl), He.meth_ok (cd.fact 62 (f := .meth "Rules" "is_end") rfl), He.meth_ok (cd.fact 63 (f := .meth "Rules" "turned") rfl), He.free_ok X G (cd.fact 64 (f := .free "isinstance") rfl), He.free_ok X G (cd.fact 65 (f := .free "int") rfl), He.free_ok X G (cd.fact 66 (f := .free "bool") rfl), He.free_ok X G (cd.fact 67 (f := .free "enumerate") rfl), (let ⟨t, h⟩ := He.str_ok X G (cd.fact 68 (f := .str "SMALL" "abcdefghijklmnopqrstuvwxyz") rfl); ⟨_, h, t, rfl⟩), He.free_ok X G (cd.fact 69 (f := .free "len") rfl), (let ⟨t, h⟩ := He.int_ok X G (cd.fact 70 (f := .int "MOST_LETTERS" 8) rfl); ⟨_, h, t, rfl⟩), He.free_ok X G (cd.fact 71 (f := .free "tuple") rfl), He.free_ok X G (cd.fact 72 (f := .free "all") rfl), (let ⟨t, h⟩ := He.int_ok X G (cd.fact 73 (f := .int "MOST_WEIGHT" 99) rfl); ⟨_, h, t, rfl⟩), He.free_ok X G (cd.fact 74 (f := .free "sum") rfl), He.free_ok X G (cd.fact 75 (f := .free "zip") rfl), (let ⟨t, h⟩ := He.int_ok X G (cd.fact 76 (f := .int "MOST_WORD" 400) rfl); ⟨_, h, t, rfl⟩), He.free_ok X G (cd.fact 77 (f := .free "range") rfl), (let ⟨t, h⟩ := He.int_ok X G (cd.fact 78 (f := .int "MOST_SIDE" 20) rfl); ⟨_, h, t, rfl⟩), (let ⟨t, h⟩ := He.int_ok X G (cd.fact 79 (f := .int "MOST_RULES" 40) rfl); ⟨_, h, t, rfl⟩), He.free_ok X G (cd.fact 80 (f := .free "list") rfl), He.free_ok X G (cd.fact 81 (f := .free "str") rfl), fd_of (cd.def_ 0 (d := dd_BadLetters_init) rfl), fd_of (cd.def_ 1 (d := dd_BadWeights_init) rfl), fd_of (cd.def_ 2 (d := dd_BadWord_init) rfl), fd_of (cd.def_ 3 (d := dd_BadRule_init) rfl), fd_of (cd.def_ 4 (d := dd_TooMany_init) rfl), fd_of (cd.def_ 5 (d := dd_TooLong_init) rfl), fd_of (cd.def_ 6 (d := dd_NoStep_init) rfl), fd_of (cd.def_ 7 (d := dd_NoRule_init) rfl), fd_of (cd.def_ 8 (d := dd_is_whole) rfl), fd_of (cd.def_ 9 (d := dd_Scale_init) rfl), fd_of (cd.def_ 10 (d := dd_Scale_look) rfl), fd_of (cd.def_ 11 (d := dd_Scale_many) rfl), fd_of (cd.def_ 12 (d := dd_Scale_weight) rfl), fd_of (cd.def_ 13 (d := dd_Scale_rank) rfl), fd_of (cd.def_ 14 (d := dd_Scale_less) rfl), fd_of (cd.def_ 15 (d := dd_need_short) rfl), fd_of (cd.def_ 16 (d := dd_standing) rfl), fd_of (cd.def_ 17 (d := dd_is_rule) rfl), fd_of (cd.def_ 18 (d := dd_Rules_init) rfl), fd_of (cd.def_ 19 (d := dd_Rules_side) rfl), fd_of (cd.def_ 20 (d := dd_Rules_places) rfl), fd_of (cd.def_ 21 (d := dd_Rules_is_end) rfl), fd_of (cd.def_ 22 (d := dd_Rules_turned) rfl), fd_of (cd.def_ 23 (d := dd_law_deal) rfl), fd_of (cd.def_ 24 (d := dd_law_pick) rfl), fd_of (cd.def_ 25 (d := dd_law_of) rfl), fd_of (cd.def_ 26 (d := dd_law_like) rfl), fd_of (cd.def_ 27 (d := dd_law_letters) rfl), fd_of (cd.def_ 28 (d := dd_law_weights) rfl), fd_of (cd.def_ 29 (d := dd_law_word) rfl), fd_of (cd.def_ 30 (d := dd_law_rank) rfl), fd_of (cd.def_ 31 (d := dd_law_oriented) rfl), fd_of (cd.def_ 32 (d := dd_law_any_list) rfl), fd_of (cd.def_ 33 (d := dd_law_scale_of) rfl), fd_of (cd.def_ 34 (d := dd_law_rules_of) rfl), fd_of (cd.def_ 35 (d := dd_law_standing) rfl), fd_of (cd.def_ 36 (d := dd_law_turned) rfl), fd_of (cd.def_ 37 (d := dd_law_why) rfl), fd_of (cd.def_ 38 (d := dd_law) rfl), (all_at hy 0 rfl), (all_at hy 1 rfl), (all_at hy 2 rfl), (all_at hy 3 rfl), (all_at hy 4 rfl), (all_at hy 5 rfl), (all_at hy 6 rfl), (all_at hy 7 rfl), (all_at hy 8 rfl), (all_at hy 9 rfl), (all_at hy 10 rfl), (all_at hy 11 rfl), (all_at hy 12 rfl), (all_at hy 13 rfl), (all_at hy 14 rfl), (all_at hy 15 rfl), (all_at hy 16 rfl), (all_at hy 17 rfl), (all_at hy 18 rfl), (all_at hy 19 rfl), (all_at hy 20 rfl), (all_at hy 21 rfl), (all_at hy 22 rfl), (all_at hy 23 rfl), (all_at hy 24 rfl), (all_at hy 25 rfl), (all_at hy 26 rfl), (all_at hy 27 rfl), (all_at hy 28 rfl), (all_at hy 29 rfl), (all_at hy 30 rfl), (all_at hy 31 rfl), (by simpa using all_at hy 32 rfl), (all_at hy 33 rfl), (all_at hy 34 rfl), (all_at hy 35 rfl), (all_at hy 36 rfl), (all_at hy 37 rfl)⟩
theorem ob_eq (s : PySem.W.SharedT) : ob s = hk.obs s.abs := DL.obsS_eq (HandSHeadRun.getT_eq s)
end SF

namespace SF
open PySem PySem.Spec PyProof.Rows L2 DL RZ
end SF

namespace SF
open PySem PySem.Spec PyProof.Rows L2 DL RZ
/-! what each def tells -/
abbrev wd := List Nat
abbrev dW (l : wd) : D := .str (tx l)
abbrev dP (p : wd × wd) : D := .tup [dW p.1, dW p.2]
abbrev dI (l : List Int) : List D := l.map .int
abbrev scO (K : PySem.W.Frag) (L : wd) (W : List Int) : D := .obj (c_Scale K) [("signs", dW L), ("worths", .tup (dI W))]
abbrev ruO (K : PySem.W.Frag) (L : wd) (W : List Int) (ps : List (wd × wd)) : D := .obj (c_Rules K) [("own_scale", scO K L W), ("pairs", .lst (ps.map dP))]
abbrev dM (L : wd) (W : List Int) (x : D) : D := .tup [dW L, .tup (dI W), x]
def smalls : wd := ("abcdefghijklmnopqrstuvwxyz" : Str).cps.toList
def Sm (w : wd) : Prop := ∀ c ∈ w, c ∈ smalls
structure ScOk (L : wd) (W : List Int) : Prop where
  nd : L.Nodup
  sub : ∀ c ∈ L, c ∈ smalls
  l1 : 1 ≤ L.length
  l8 : L.length ≤ 8
  wl : W.length = L.length
  w1 : ∀ w ∈ W, 1 ≤ w ∧ w ≤ 99
def Ov (L w : wd) : Prop := ∀ c ∈ w, c ∈ L
def wt (L : wd) (W : List Int) (w : wd) : Int := (w.map fun c => W.getD (L.idxOf c) 0).sum
def dRank (L : wd) (W : List Int) (w : wd) : D := .tup [.int (wt L W w), .int (w.length : Nat), .lst (dI (w.map fun c => ((L.idxOf c : Nat) : Int)))]
def rlt (L : wd) (W : List Int) (a b : wd) : Bool := DLo.dlt (py (dRank L W a)) (py (dRank L W b))
structure RuOk (L : wd) (W : List Int) (p : wd × wd) : Prop where
  n1 : p.1.length ≤ 20
  n2 : p.2.length ≤ 20
  o1 : Ov L p.1
  o2 : Ov L p.2
  lt : rlt L W p.2 p.1 = true
def badAt (L w : wd) : Option Nat := w.findIdx? fun c => !decide (c ∈ L)
abbrev PXt := Addr → List (Str × D) → Prop
def xBW (K : PySem.W.Frag) (PX : PXt) (i : Nat) : Prop := PX (c_BadWord K) [("at", .int (i : Nat)), ("word", .str "BadWord")]
def lookW (K : PySem.W.Frag) (PX : PXt) (L w : wd) (Q : Prop) : Prop := (badAt L w = none → Q) ∧ ∀ i, badAt L w = some i → xBW K PX i
def S_Scale_look (K : PySem.W.Frag) : SpecX := fun ds P PX => ∃ L W w, ds = [scO K L W, dW w] ∧ w.length ≤ 1000 ∧ lookW K PX L w (P .non)
def S_Scale_many (K : PySem.W.Frag) : SpecX := fun ds P PX => ∃ L W w, ds = [scO K L W, dW w] ∧ L.length ≤ 8 ∧ w.length ≤ 1000 ∧ lookW K PX L w (P (.tup (L.map fun c => .int (w.count c : Nat))))
def S_Scale_weight (K : PySem.W.Frag) : SpecX := fun ds P PX => ∃ L W w, ds = [scO K L W, dW w] ∧ ScOk L W ∧ w.length ≤ 1000 ∧ lookW K PX L w (P (.int (wt L W w)))
def S_Scale_rank (K : PySem.W.Frag) : SpecX := fun ds P PX => ∃ L W w, ds = [scO K L W, dW w] ∧ ScOk L W ∧ w.length ≤ 1000 ∧ lookW K PX L w (P (dRank L W w))
def S_Scale_less (K : PySem.W.Frag) : SpecX := fun ds P PX => ∃ L W a b, ds = [scO K L W, dW a, dW b] ∧ ScOk L W ∧ a.length ≤ 1000 ∧ b.length ≤ 1000 ∧ lookW K PX L a (lookW K PX L b (P (.bl (rlt L W a b))))
def S_is_whole (K : PySem.W.Frag) : DL.Spec := fun ds P => ∃ x lo hi : Int, ds = [.int x, .int lo, .int hi] ∧ P (.bl (decide (lo ≤ x) && decide (x ≤ hi)))
def S_Scale_init (K : PySem.W.Frag) : SpecIX := fun ds P PX => ∃ L W ws, ds = [dW L, .tup (dI ws)] ∧ ((ws = [] ∧ W = List.replicate L.length 1) ∨ ws = W) ∧ ScOk L W ∧ P [("signs", dW L), ("worths", .tup (dI W))]
def S_is_rule (K : PySem.W.Frag) : DL.Spec := fun ds P => ∃ (L : wd) (W : List Int) (p : wd × wd), ds = [scO K L W, dP p] ∧ ScOk L W ∧ p.1.length ≤ 1000 ∧ p.2.length ≤ 1000 ∧ (RuOk L W p → P (.bl true)) ∧ (¬ RuOk L W p → P (.bl false))
def S_Rules_init (K : PySem.W.Frag) : SpecIX := fun ds P PX => ∃ (L : wd) (W : List Int) (ps : List (wd × wd)), (ds = [scO K L W, .lst (ps.map dP)] ∨ ds = [scO K L W, .tup (ps.map dP)]) ∧ ScOk L W ∧ ps.length ≤ 40 ∧ (∀ p ∈ ps, RuOk L W p) ∧ P [("own_scale", scO K L W), ("pairs", .lst (ps.map dP))]
/-! ### standing, runs -/
def stand (ls : List wd) (w : wd) : List (Nat × Nat) := (List.range w.length).flatMap fun a => (ls.zipIdx).flatMap fun b => if (w.drop a).take b.1.length = b.1 then [(a, b.2)] else []
abbrev dPr (x : Nat × Nat) : D := .tup [.int (x.1 : Nat), .int (x.2 : Nat)]
def dSpot : Option (Nat × Nat) → D
  | none => .non
  | some x => dPr x
abbrev lefts (ps : List (wd × wd)) : List wd := ps.map (·.1)
structure PsOk (ps : List (wd × wd)) : Prop where
  n : ps.length ≤ 100
  l : ∀ p ∈ ps, p.1.length ≤ 100 ∧ p.2.length ≤ 100 ∧ p.1 ≠ []
def spotAt (ls : List wd) (w : wd) (pk : List Int) (k : Nat) : Option (Nat × Nat) :=
  match pk[k]? with
  | none => (stand ls w).head?
  | some i => (stand ls w)[(i % ((stand ls w).length : Nat)).toNat]?
def stepOf (w : wd) (a : Nat) (p : wd × wd) : wd := w.take a ++ p.2 ++ w.drop (a + p.1.length)
abbrev Stp := Nat × Nat × wd
abbrev dStep (x : Stp) : D := .tup [.int (x.1 : Nat), .int (x.2.1 : Nat), dW x.2.2]
inductive RunR where
  | ok (t : List Stp) | tired | long
def RunR.cons (x : Stp) : RunR → RunR
  | .ok t => .ok (x :: t)
  | r => r
def runG (ps : List (wd × wd)) (pk : List Int) : Nat → wd → RunR
  | 0, w => match spotAt (lefts ps) w pk 2000 with
    | none => .ok []
    | some _ => .tired
  | f + 1, w => match spotAt (lefts ps) w pk (1999 - f) with
    | none => .ok []
    | some (a, n) => if 400 < (stepOf w a (ps.getD n ([], []))).length then .long else (runG ps pk f (stepOf w a (ps.getD n ([], [])))).cons (a, n, stepOf w a (ps.getD n ([], [])))
def isSeq (ds : List D) (x : D) : Prop := x = .lst ds ∨ x = .tup ds
def xLong (K : PySem.W.Frag) (PX : PXt) : Prop := PX (c_TooLong K) [("most", .int 400), ("word", .str "TooLong")]
def S_need_short (K : PySem.W.Frag) : SpecX := fun ds P PX => ∃ w, ds = [dW w] ∧ w.length ≤ 10000 ∧ (w.length ≤ 400 → P (dW w)) ∧ (400 < w.length → xLong K PX)
def S_standing (K : PySem.W.Frag) : SpecN := fun ds P => ∃ (ps : List (wd × wd)) (w : wd), ds = [.lst (ps.map dP), dW w] ∧ PsOk ps ∧ w.length ≤ 1000 ∧ P ((stand (lefts ps) w).map dPr)
def RsOk (L : wd) (W : List Int) (ps : List (wd × wd)) : Prop := ScOk L W ∧ ps.length ≤ 40 ∧ ∀ p ∈ ps, RuOk L W p
def S_Rules_places (K : PySem.W.Frag) : SpecNX := fun ds P PX => ∃ (L : wd) (W : List Int) (ps : List (wd × wd)) (w : wd), ds = [ruO K L W ps, dW w] ∧ RsOk L W ps ∧ w.length ≤ 1000 ∧ lookW K PX L w (P ((stand (lefts ps) w).map dPr))
def S_Rules_is_end (K : PySem.W.Frag) : SpecX := fun ds P PX => ∃ (L : wd) (W : List Int) (ps : List (wd × wd)) (w : wd), ds = [ruO K L W ps, dW w] ∧ RsOk L W ps ∧ w.length ≤ 1000 ∧ lookW K PX L w (P (.bl (decide (stand (lefts ps) w = []))))
def endW (w : wd) (t : List Stp) : wd := match t.getLast? with
  | none => w
  | some s => s.2.2
abbrev dTri (x : Nat × Nat × Int) : D := .tup [.int (x.1 : Nat), .int (x.2.1 : Nat), .int x.2.2]
def stands (p : wd × wd) (w : wd) (a : Nat) : Prop := a ≤ w.length ∧ (w.drop a).take p.1.length = p.1
def Chain (ps : List (wd × wd)) : wd → List Stp → Prop
  | _, [] => True
  | w, x :: t => (∃ p, ps[x.2.1]? = some p ∧ stands p w x.1 ∧ x.2.2 = stepOf w x.1 p ∧ x.2.2.length ≤ 400) ∧ Chain ps x.2.2 t
/-! ### walks -/
abbrev Tri := Int × Int × Int
abbrev dTr (x : Tri) : D := .tup [.int x.1, .int x.2.1, .int x.2.2]
inductive TR where
  | ok (w : wd) | noRule | noStep | long
def swapAt (w : wd) (a : Int) (t u : wd) : TR :=
  if 0 ≤ a ∧ a ≤ (w.length : Nat) ∧ (w.drop a.toNat).take t.length = t then (if (w.take a.toNat ++ u ++ w.drop (a.toNat + t.length)).length ≤ 400 then .ok (w.take a.toNat ++ u ++ w.drop (a.toNat + t.length)) else .long) else .noStep
def takenOf (ps : List (wd × wd)) (n : Int) (b : Bool) : wd := if b then (ps.getD n.toNat ([], [])).2 else (ps.getD n.toNat ([], [])).1
def putOf (ps : List (wd × wd)) (n : Int) (b : Bool) : wd := if b then (ps.getD n.toNat ([], [])).1 else (ps.getD n.toNat ([], [])).2
def turnG (ps : List (wd × wd)) (w : wd) (a n : Int) (b : Bool) : TR :=
  if 0 ≤ n ∧ n < (ps.length : Nat) then swapAt w a (takenOf ps n b) (putOf ps n b) else .noRule
def goG (ps : List (wd × wd)) (w : wd) (x : Tri) : TR := if x.2.2 = 1 ∨ x.2.2 = -1 then turnG ps w x.1 x.2.1 (decide (x.2.2 = -1)) else .noStep
inductive WR where
  | ok (l : List wd) | stray (i : Nat) | long
def WR.cons (w : wd) : WR → WR
  | .ok l => .ok (w :: l)
  | r => r
def walkG (ps : List (wd × wd)) : wd → Nat → List Tri → WR
  | _, _, [] => .ok []
  | w, i, x :: t => match goG ps w x with
    | .ok v => (walkG ps v (i + 1) t).cons v
    | .long => .long
    | _ => .stray i
def xNoRule (K : PySem.W.Frag) (PX : PXt) (n : Int) : Prop := PX (c_NoRule K) [("number", .int n), ("word", .str "NoRule")]
def xNoStep (K : PySem.W.Frag) (PX : PXt) (a : Int) : Prop := PX (c_NoStep K) [("place", .int a), ("word", .str "NoStep")]
def S_Rules_side (K : PySem.W.Frag) : SpecX := fun ds P PX => ∃ (L : wd) (W : List Int) (ps : List (wd × wd)) (n : Int) (b : Bool), ds = [ruO K L W ps, .int n, .bl b] ∧ ps.length ≤ 40 ∧ (0 ≤ n ∧ n < (ps.length : Nat) → P (dP (takenOf ps n b, putOf ps n b))) ∧ (¬ (0 ≤ n ∧ n < (ps.length : Nat)) → xNoRule K PX n)
def turnW (K : PySem.W.Frag) (PX : PXt) (Q : wd → Prop) (a n : Int) : TR → Prop
  | .ok w => Q w
  | .noRule => xNoRule K PX n
  | .noStep => xNoStep K PX a
  | .long => xLong K PX
def S_Rules_turned (K : PySem.W.Frag) : SpecX := fun ds P PX => ∃ (L : wd) (W : List Int) (ps : List (wd × wd)) (w : wd) (a n : Int) (b : Bool), ds = [ruO K L W ps, dW w, .int a, .int n, .bl b] ∧ RsOk L W ps ∧ w.length ≤ 1000 ∧ lookW K PX L w (turnW K PX (fun v => P (dW v)) a n (turnG ps w a n b))
def about (t : List Tri) : List Tri := t.reverse.map fun x => (x.1, x.2.1, 0 - x.2.2)
/-! ### the law's own -/
def S_law_pick (K : PySem.W.Frag) : DL.Spec := fun ds P => ∃ m : Int, ds = [.deal, .int m] ∧ 0 < m ∧ m ≤ 1000000000 ∧ ∀ r, 0 ≤ r → r < m → P (.int r)
def S_law_of (K : PySem.W.Frag) : DL.Spec := fun ds P => ∃ l : List D, (ds = [.deal, .lst l] ∨ ∃ w : wd, l = w.map sgn ∧ ds = [.deal, dW w]) ∧ l ≠ [] ∧ l.length ≤ 1000 ∧ ∀ y ∈ l, P y
def dep : Nat → D → Prop
  | _, .non => True
  | _, .int _ => True
  | _, .bl _ => True
  | _, .str z => PyData.strOk z = true
  | n + 1, .lst l => l.length ≤ 1000000 ∧ ∀ d ∈ l, dep n d
  | n + 1, .tup l => l.length ≤ 1000000 ∧ ∀ d ∈ l, dep n d
  | _, _ => False
def S_like : Nat → DL.Spec
  | 0 => fun _ _ => False
  | n + 1 => fun ds P => ∃ d, ds = [d, d] ∧ dep n d ∧ P (.bl true)
def S_law_like (K : PySem.W.Frag) : DL.Spec := S_like 4
def S_law_letters (K : PySem.W.Frag) : DL.Spec := fun ds P => ∃ m : Nat, ds = [.deal, .int m] ∧ m ≤ 8 ∧ ∀ L : wd, L.Nodup → (∀ c ∈ L, c ∈ smalls) → L.length = m → P (dW L)
def S_law_weights (K : PySem.W.Frag) : DL.Spec := fun ds P => ∃ m : Nat, ds = [.deal, .int m] ∧ 0 < m ∧ m ≤ 8 ∧ ∀ W : List Int, W.length = m → (∀ w ∈ W, 1 ≤ w ∧ w ≤ 99) → P (.tup (dI W))
def S_law_word (K : PySem.W.Frag) : DL.Spec := fun ds P => ∃ (L : wd) (m : Nat), ds = [.deal, dW L, .int m] ∧ L ≠ [] ∧ L.length ≤ 8 ∧ m ≤ 100 ∧ ∀ w, Ov L w → w.length ≤ m → P (dW w)
def S_law_rank (K : PySem.W.Frag) : DL.Spec := fun ds P => ∃ L W x w, ds = [dM L W x, dW w] ∧ ScOk L W ∧ Ov L w ∧ w.length ≤ 1000 ∧ P (dRank L W w)
def S_law_oriented (K : PySem.W.Frag) : DL.Spec := fun ds P => ∃ L W x a b, ds = [dM L W x, dW a, dW b] ∧ ScOk L W ∧ Ov L a ∧ Ov L b ∧ a.length ≤ 1000 ∧ b.length ≤ 1000 ∧ a ≠ b ∧ ∀ p, (p = (a, b) ∨ p = (b, a)) → rlt L W p.2 p.1 = true → P (dP p)
def S_law_scale_of (K : PySem.W.Frag) : DL.Spec := fun ds P => ∃ L W x, ds = [dM L W x] ∧ ScOk L W ∧ P (scO K L W)
def S_law_rules_of (K : PySem.W.Frag) : DL.Spec := fun ds P => ∃ L W ps, ds = [dM L W (.lst (ps.map dP))] ∧ RsOk L W ps ∧ P (ruO K L W ps)
def ShOk (L : wd) (W : List Int) (p : wd × wd) : Prop := p.1.length ≤ 4 ∧ p.2.length ≤ 4 ∧ Ov L p.1 ∧ Ov L p.2 ∧ rlt L W p.2 p.1 = true
def S_law_any_list (K : PySem.W.Frag) : DL.Spec := fun ds P => ∃ m : Nat, ds = [.deal, .int m] ∧ m ≤ 30 ∧ ∀ L W (ps : List (wd × wd)), ScOk L W → ps.length ≤ m → (∀ p ∈ ps, ShOk L W p) → P (dM L W (.lst (ps.map dP)))
def S_law_deal (K : PySem.W.Frag) : SpecN := fun ds P => ∃ ns : List Int, ds = [.scr ns] ∧ ns.length ≤ 63 ∧ ∀ m : Int, 0 ≤ m → m < 2147483563 → P [.lst (dI ns), .int 0, .int 0, .int m, .int 0]
def S_law_standing (K : PySem.W.Frag) : SpecN := fun ds P => ∃ (ps : List (wd × wd)) (w : wd), ds = [.lst (ps.map dP), dW w] ∧ PsOk ps ∧ w.length ≤ 1000 ∧ Sm w ∧ (∀ p ∈ ps, Sm p.1) ∧ P ((stand (lefts ps) w).map dPr)
def dTR (a n : Int) : TR → D
  | .ok w => .tup [.str "told", dW w]
  | .noRule => .tup [.str "NoRule", .int n]
  | .noStep => .tup [.str "NoStep", .int a]
  | .long => .tup [.str "TooLong", .int 400]
def PsSm (ps : List (wd × wd)) : Prop := ∀ p ∈ ps, Sm p.1 ∧ Sm p.2
def S_law_turned (K : PySem.W.Frag) : DL.Spec := fun ds P => ∃ (ps : List (wd × wd)) (w : wd) (a n : Int) (b : Bool), ds = [.lst (ps.map dP), dW w, .int a, .int n, .bl b] ∧ PsOk ps ∧ w.length ≤ 1000 ∧ Sm w ∧ PsSm ps ∧ P (dTR a n (turnG ps w a n b))

end SF

namespace SF
open PySem PySem.Spec PyProof.Rows L2 DL RZ
section
variable {P : Program} {w : World} {K : PySem.W.Frag} {mg : Str → Option Value} {base : Heap}
def TFl (cl : List (Str × Addr)) : TFn := tfOf [fun dT => lamRec 0 ((exL (stE ((stB ((defBody s_law).getD 1 stZ)).getD 5 stZ))).getD 0 exZ) cl dT, fun dT => lamRec 1 ((exL (stE ((stB ((defBody s_law).getD 1 stZ)).getD 5 stZ))).getD 1 exZ) cl dT, fun dT => lamRec 2 ((exL (stE ((stB ((defBody s_law).getD 1 stZ)).getD 6 stZ))).getD 0 exZ) cl dT]
theorem why_ok {X : Cx} (T : Txt X.K X.mg) (cdv : Value) : LamX.GivesTo X ["ask", "e"] "_law_why" (defScope s_law_why) (a_law_why X.K) cdv (defBody s_law_why) "ask" lamQ (TTwhy X.K (whyL X.K)) :=
  why_gives rfl (by decide) (fun _ => rfl) rfl rfl (fun s H => (ClsOk.cons (cl_tup5 ⟨rfl, by decide, .inl T.gc_BadRule⟩ ⟨rfl, by decide, .inl T.gc_BadWord⟩ ⟨rfl, by decide, .inl T.gc_Stray⟩ ⟨rfl, by decide, .inl T.gc_BadText⟩ ⟨rfl, by decide, .inl T.gc_BadDeed⟩) (fun a oe cls d pn hz hf => pss_one (ps_ret (pe_tup (pa_cons (pe_xfs hz hf (pv 1)) (pa_cons (pe_xfs hz hf (pv 1)) pa_nil))))) (ClsOk.cons (cl_tup4 ⟨rfl, by decide, .inl T.gc_Tired⟩ ⟨rfl, by decide, .inl T.gc_TooLong⟩ ⟨rfl, by decide, .inl T.gc_TooMany⟩ ⟨rfl, by decide, .inl T.gc_Full⟩) (fun a oe cls d pn hz hf => pss_one (ps_ret (pe_tup (pa_cons (pe_xfs hz hf (pv 1)) (pa_cons (pe_xfs hz hf (pv 1)) pa_nil))))) (ClsOk.cons (cl_tup2 ⟨rfl, by decide, .inl T.gc_NotSettled⟩ ⟨rfl, by decide, .inl T.gc_Unfair⟩) (fun a oe cls d pn hz hf => pss_one (ps_ret (pe_tup (pa_cons (pe_xfs hz hf (pv 1)) (pa_cons (pe_xfs hz hf (pv 1)) pa_nil))))) (ClsOk.cons (cl_tup3 ⟨rfl, by decide, .inl T.gc_BadName⟩ ⟨rfl, by decide, .inl T.gc_Taken⟩ ⟨rfl, by decide, .inl T.gc_NoName⟩) (fun a oe cls d pn hz hf => pss_one (ps_ret (pe_tup (pa_cons (pe_xfs hz hf (pv 1)) (pa_cons (pe_xfs hz hf (pv 1)) pa_nil))))) (ClsOk.cons (cl_tup3 ⟨rfl, by decide, .inl T.gc_Needed⟩ ⟨rfl, by decide, .inl T.gc_NoRule⟩ ⟨rfl, by decide, .inl T.gc_NoSize⟩) (fun a oe cls d pn hz hf => pss_one (ps_ret (pe_tup (pa_cons (pe_xfs hz hf (pv 1)) (pa_cons (pe_xfs hz hf (pv 1)) pa_nil))))) (ClsOk.cons (cl_tup2 ⟨rfl, by decide, .inl T.gc_InUse⟩ ⟨rfl, by decide, .inl T.gc_NoLetter⟩) (fun a oe cls d pn hz hf => pss_one (ps_ret (pe_tup (pa_cons (pe_xfs hz hf (pv 1)) (pa_cons (pe_xfs hz hf (pv 1)) pa_nil))))) (ClsOk.cons (cl_one ⟨rfl, by decide, .inl T.gc_NoStep⟩) (fun a oe cls d pn hz hf => pss_one (ps_ret (pe_tup (pa_cons (pe_xfs hz hf (pv 1)) (pa_cons (pe_xfs hz hf (pv 1)) pa_nil))))) (ClsOk.cons (cl_one ⟨rfl, by decide, .inl T.gc_NotMade⟩) (fun a oe cls d pn hz hf => pss_one (ps_ret (pe_tup (pa_cons (pe_xfs hz hf (pv 1)) (pa_cons (pe_xfs hz hf (pv 1)) pa_nil))))) (ClsOk.cons (cl_one ⟨rfl, by decide, .inl T.gc_FareError⟩) (fun a oe cls d pn hz hf => pss_one (ps_ret (pe_tup (pa_cons (pe_xfs hz hf (pv 1)) (pa_cons pe_non pa_nil))))) (ClsOk.cons (cl_one ⟨rfl, by decide, .inl T.gc_NothingLeft⟩) (fun a oe cls d pn hz hf => pss_one (ps_ret (pe_tup (pa_cons (pe_xfs hz hf (pv 1)) (pa_cons pe_non pa_nil))))) ClsOk.nil)))))))))))
theorem ok_BadLetters_init (T : Txt K mg) : FnOk P w K mg base CX0 1 (a_BadLetters_init K) (fdOf K (a_BadLetters_init K)) ["self"] (spEI K (c_BadLetters K) 0 fun _ => [("word", .str "BadLetters")]) := okE0 T.F_BadLetters_init sc_BadLetters_init T.ox_BadLetters.toOexG T.nw_BadLetters rfl fun cdv A outer s H E => ((pss_one (ps_ostG (pv 0) pe_str)) : PSs (cxOf CX0 P w K mg base ["self"] "BadLetters.__init__" (defScope s_BadLetters_init) (a_BadLetters_init K) cdv A outer s H E).nox (defBody s_BadLetters_init) (tOstG K "word" (tVar 0) (tC (.str "BadLetters"))))
theorem ok_BadWeights_init (T : Txt K mg) : FnOk P w K mg base CX0 1 (a_BadWeights_init K) (fdOf K (a_BadWeights_init K)) ["self"] (spEI K (c_BadWeights K) 0 fun _ => [("word", .str "BadWeights")]) := okE0 T.F_BadWeights_init sc_BadWeights_init T.ox_BadWeights.toOexG T.nw_BadWeights rfl fun cdv A outer s H E => ((pss_one (ps_ostG (pv 0) pe_str)) : PSs (cxOf CX0 P w K mg base ["self"] "BadWeights.__init__" (defScope s_BadWeights_init) (a_BadWeights_init K) cdv A outer s H E).nox (defBody s_BadWeights_init) (tOstG K "word" (tVar 0) (tC (.str "BadWeights"))))
theorem ok_BadWord_init (T : Txt K mg) : FnOk P w K mg base CX0 1 (a_BadWord_init K) (fdOf K (a_BadWord_init K)) ["self", "at"] (spEI K (c_BadWord K) 1 fun ws => [("at", ws.getD 0 .non), ("word", .str "BadWord")]) := okE1 T.F_BadWord_init sc_BadWord_init T.ox_BadWord.toOexG T.nw_BadWord T.nf_BadWord rfl fun cdv A outer s H E => ((pss_cons (ps_ostG (pv 0) pe_str) (pss_one (ps_ostG (pv 0) (pv 1)))) : PSs (cxOf CX0 P w K mg base ["self", "at"] "BadWord.__init__" (defScope s_BadWord_init) (a_BadWord_init K) cdv A outer s H E).nox (defBody s_BadWord_init) (tSeq (tOstG K "word" (tVar 0) (tC (.str "BadWord"))) (tOstG K "at" (tVar 0) (tVar 1))))
theorem ok_BadRule_init (T : Txt K mg) : FnOk P w K mg base CX0 1 (a_BadRule_init K) (fdOf K (a_BadRule_init K)) ["self", "at"] (spEI K (c_BadRule K) 1 fun ws => [("at", ws.getD 0 .non), ("word", .str "BadRule")]) := okE1 T.F_BadRule_init sc_BadRule_init T.ox_BadRule.toOexG T.nw_BadRule T.nf_BadRule rfl fun cdv A outer s H E => ((pss_cons (ps_ostG (pv 0) pe_str) (pss_one (ps_ostG (pv 0) (pv 1)))) : PSs (cxOf CX0 P w K mg base ["self", "at"] "BadRule.__init__" (defScope s_BadRule_init) (a_BadRule_init K) cdv A outer s H E).nox (defBody s_BadRule_init) (tSeq (tOstG K "word" (tVar 0) (tC (.str "BadRule"))) (tOstG K "at" (tVar 0) (tVar 1))))
theorem ok_TooMany_init (T : Txt K mg) : FnOk P w K mg base CX0 1 (a_TooMany_init K) (fdOf K (a_TooMany_init K)) ["self", "most"] (spEI K (c_TooMany K) 1 fun ws => [("most", ws.getD 0 .non), ("word", .str "TooMany")]) := okE1 T.F_TooMany_init sc_TooMany_init T.ox_TooMany.toOexG T.nw_TooMany T.nf_TooMany rfl fun cdv A outer s H E => ((pss_cons (ps_ostG (pv 0) pe_str) (pss_one (ps_ostG (pv 0) (pv 1)))) : PSs (cxOf CX0 P w K mg base ["self", "most"] "TooMany.__init__" (defScope s_TooMany_init) (a_TooMany_init K) cdv A outer s H E).nox (defBody s_TooMany_init) (tSeq (tOstG K "word" (tVar 0) (tC (.str "TooMany"))) (tOstG K "most" (tVar 0) (tVar 1))))
theorem ok_TooLong_init (T : Txt K mg) : FnOk P w K mg base CX0 1 (a_TooLong_init K) (fdOf K (a_TooLong_init K)) ["self", "most"] (spEI K (c_TooLong K) 1 fun ws => [("most", ws.getD 0 .non), ("word", .str "TooLong")]) := okE1 T.F_TooLong_init sc_TooLong_init T.ox_TooLong.toOexG T.nw_TooLong T.nf_TooLong rfl fun cdv A outer s H E => ((pss_cons (ps_ostG (pv 0) pe_str) (pss_one (ps_ostG (pv 0) (pv 1)))) : PSs (cxOf CX0 P w K mg base ["self", "most"] "TooLong.__init__" (defScope s_TooLong_init) (a_TooLong_init K) cdv A outer s H E).nox (defBody s_TooLong_init) (tSeq (tOstG K "word" (tVar 0) (tC (.str "TooLong"))) (tOstG K "most" (tVar 0) (tVar 1))))
theorem ok_NoStep_init (T : Txt K mg) : FnOk P w K mg base CX0 1 (a_NoStep_init K) (fdOf K (a_NoStep_init K)) ["self", "place"] (spEI K (c_NoStep K) 1 fun ws => [("place", ws.getD 0 .non), ("word", .str "NoStep")]) := okE1 T.F_NoStep_init sc_NoStep_init T.ox_NoStep.toOexG T.nw_NoStep T.nf_NoStep rfl fun cdv A outer s H E => ((pss_cons (ps_ostG (pv 0) pe_str) (pss_one (ps_ostG (pv 0) (pv 1)))) : PSs (cxOf CX0 P w K mg base ["self", "place"] "NoStep.__init__" (defScope s_NoStep_init) (a_NoStep_init K) cdv A outer s H E).nox (defBody s_NoStep_init) (tSeq (tOstG K "word" (tVar 0) (tC (.str "NoStep"))) (tOstG K "place" (tVar 0) (tVar 1))))
theorem ok_NoRule_init (T : Txt K mg) : FnOk P w K mg base CX0 1 (a_NoRule_init K) (fdOf K (a_NoRule_init K)) ["self", "number"] (spEI K (c_NoRule K) 1 fun ws => [("number", ws.getD 0 .non), ("word", .str "NoRule")]) := okE1 T.F_NoRule_init sc_NoRule_init T.ox_NoRule.toOexG T.nw_NoRule T.nf_NoRule rfl fun cdv A outer s H E => ((pss_cons (ps_ostG (pv 0) pe_str) (pss_one (ps_ostG (pv 0) (pv 1)))) : PSs (cxOf CX0 P w K mg base ["self", "number"] "NoRule.__init__" (defScope s_NoRule_init) (a_NoRule_init K) cdv A outer s H E).nox (defBody s_NoRule_init) (tSeq (tOstG K "word" (tVar 0) (tC (.str "NoRule"))) (tOstG K "number" (tVar 0) (tVar 1))))
def D_is_whole (K : PySem.W.Frag) : DS := (dRet (dAndV (dCB dIsi (dCons (dVar 0) (dCons (dC (.ty "int")) dNil))) (dAndV (dNotV (dCB dIsi (dCons (dVar 0) (dCons (dC (.ty "bool")) dNil)))) (dChain dLeI dLeI (dVar 1) (dVar 0) (dVar 2)))))
theorem rd_is_whole (T : Txt K mg) {cdv : Value} {A : Around} {outer : List PySem.Env} {s : Shared} {H : Hp} {E : XK} (hr : Room 0 (A.deeper (envOfC "is_whole" (defScope s_is_whole) s.heap.objs.size (a_is_whole K) cdv))) :
  ∃ t, PSs (cxOf CX0 P w K mg base ["thing", "low", "high"] "is_whole" (defScope s_is_whole) (a_is_whole K) cdv A outer s H E).nox (defBody s_is_whole) t ∧ RfS (kw0 K) t (D_is_whole K) :=
  ⟨_, (pss_one (ps_ret (pe_and (pe_callB call_isi (by rfl) T.n_isinstance boot_isinstance (pa_cons (pv 0) (pa_cons (pe_bltn rfl T.n_int boot_int (v := .ty "int") rfl) pa_nil))) (pe_and (pe_not (pe_callB call_isi (by rfl) T.n_isinstance boot_isinstance (pa_cons (pv 0) (pa_cons (pe_bltn rfl T.n_bool boot_bool (v := .ty "bool") rfl) pa_nil)))) (pe_one (pe_chain op_le op_le (pv 1) (pv 0) (pv 2))))))), (rf_ret (rf_andV (rf_cb rfc_isi (rf_cons rf_var (rf_cons rf_ty rf_nil))) (rf_andV (rf_notV (rf_cb rfc_isi (rf_cons rf_var (rf_cons rf_ty rf_nil)))) (rf_chain rfo_cmp rfo_cmp rf_var rf_var rf_var))))⟩
def D_Scale_init (K : PySem.W.Frag) (X0 : DXs) : DS := (dSeq (dAsgN 3 (dLc (dItES (dCons (dVar 1) dNil)) (dGTup 2 (dGCons (dName 5) (dGCons (dName 6) dGNil))) (dAnd (dTest (dOp dInC (dVar 6) (dC (.str "abcdefghijklmnopqrstuvwxyz")))) (dTest (dOp dNotInC (dVar 6) (dSl dSlU (dVar 1) dNoP (dPart (dVar 5)))))) (dVar 6) [5, 6]))
    (dSeq (dIfS (dOr (dNot (dChainT dLeI dLeI (dC (.int 1)) (dCB dLen (dCons (dVar 1) dNil)) (dC (.int 8)))) (dTest (dOp dNe (dCB dLen (dCons (dVar 3) dNil)) (dCB dLen (dCons (dVar 1) dNil))))) (dRaise0 (c_BadLetters K) "BadLetters" X0) dNext)
    (dSeq (dAsg 4 (dIf (dTest (dOp dEq (dCB dLen (dCons (dVar 2) dNil)) (dC (.int 0)))) (dOp dMul (dTup (dCons (dC (.int 1)) dNil)) (dCB dLen (dCons (dVar 1) dNil))) (dCB dTuple (dCons (dVar 2) dNil))))
    (dSeq (dIfS (dOr (dTest (dOp dNe (dCB dLen (dCons (dVar 4) dNil)) (dCB dLen (dCons (dVar 1) dNil)))) (dNot (dTest (dCB dAll (dCons (dN (dLc (dItT (dVar 4)) (dName 7) dYes (dCall (S_is_whole K) (dCons (dVar 7) (dCons (dC (.int 1)) (dCons (dC (.int 99)) dNil)))) [7])) dNil))))) (dRaise0 (c_BadWeights K) "BadWeights" X0) dNext)
    (dSeq (dIniF K 0 "signs" (dVar 1))
    (dIniF K 0 "worths" (dVar 4)))))))
theorem rd_Scale_init (T : Txt K mg) (G_BadLetters_init : FnOk P w K mg base CX0 1 (a_BadLetters_init K) (fdOf K (a_BadLetters_init K)) ["self"] (spEI K (c_BadLetters K) 0 fun _ => [("word", .str "BadLetters")])) (G_is_whole : FnOk P w K mg base CX0 1 (a_is_whole K) (fdOf K (a_is_whole K)) ["thing", "low", "high"] (spD K (S_is_whole K))) (G_BadWeights_init : FnOk P w K mg base CX0 1 (a_BadWeights_init K) (fdOf K (a_BadWeights_init K)) ["self"] (spEI K (c_BadWeights K) 0 fun _ => [("word", .str "BadWeights")])) {cdv : Value} {A : Around} {outer : List PySem.Env} {s : Shared} {H : Hp} {E : XK} (PX : Addr → List (Str × DL.D) → Prop) (hr : Room 2 (A.deeper (envOfC "Scale.__init__" (defScope s_Scale_init) s.heap.objs.size (a_Scale_init K) cdv))) :
  ∃ t, PSs (cxOf (L2N.CX P w) P w K mg base ["self", "letters", "weights", "good", "some", "at", "sign", "one"] "Scale.__init__" (defScope s_Scale_init) (a_Scale_init K) cdv A outer s H E) (defBody s_Scale_init) t ∧ RfS (kwE K E PX) t (D_Scale_init K fun C fs _ => PX C fs) :=
  have tk : L2N.Takes (cxOf (L2N.CX P w) P w K mg base ["self", "letters", "weights", "good", "some", "at", "sign", "one"] "Scale.__init__" (defScope s_Scale_init) (a_Scale_init K) cdv A outer s H E) (fun cls d _ H => E cls d H) := L2N.takes_of rfl rfl rfl rfl
  ⟨_, (pss_cons (ps_setLc (own := [("at", 5), ("sign", 6)]) (i := 3) rfl sc_Scale_init.nd rfl rfl (sw_true rfl rfl rfl (by decide +kernel)) (pi_enumS rfl T.n_enumerate (pa_cons (pv 1) pa_nil)) (blkOk_by (by show blkC ["self", "letters", "weights", "good", "some", "at", "sign", "one"] (defScope s_Scale_init) _ _ = true; decide +kernel)) (fun _ _ _ _ _ => (pg_tup rfl (pgs_cons (pg_name (i := 5) sc_Scale_init.nd rfl (Or.inl rfl)) (pgs_cons (pg_name (i := 6) sc_Scale_init.nd rfl (Or.inl rfl)) pgs_nil)))) (fun _ _ _ _ _ => (pts_one (PW.pt (pw_and (pt_cmpR op_inC (pv 6) (pe_glob rfl T.c_SMALL.choose_spec.1 T.c_SMALL.choose_spec.2) rfl) (pw_and1 (pt_cmpR op_notInC (pv 6) (pe_slice sl_any (pv 1) po_none (po_some (pv 5))) rfl)))))) (fun _ _ _ _ _ => (pv 6)))
    (pss_cons (ps_if (PW.pt (pw_or (pt_not (pt_chain op_le op_le pe_int (pe_callB call_lenA (by rfl) T.n_len PySem.boot_len (pa_cons (pv 1) pa_nil)) (pe_glob rfl T.c_MOST_LETTERS.choose_spec.1 T.c_MOST_LETTERS.choose_spec.2))) (pw_or1 (pt_cmpR (op_neD (hu64 hr)) (pe_callB call_lenA (by rfl) T.n_len PySem.boot_len (pa_cons (pv 3) pa_nil)) (pe_callB call_lenA (by rfl) T.n_len PySem.boot_len (pa_cons (pv 1) pa_nil)) (nomark _))))) (pss_one (L2N.ps_raise rfl tk (pmkN0 T.ox_BadLetters G_BadLetters_init (hr.mono (by decide)) T.b_BadLetters_init pass0 rfl T.gc_BadLetters))) pss_nil)
    (pss_cons (ps_set (i := 4) sc_Scale_init.nd rfl (Or.inl rfl) (pe_ifExp (pt_cmpR (op_eqD (hu64 hr)) (pe_callB call_lenA (by rfl) T.n_len PySem.boot_len (pa_cons (pv 2) pa_nil)) pe_int (nomark _)) (pe_op op_mulA (pe_tup (pa_cons pe_int pa_nil)) (pe_callB call_lenA (by rfl) T.n_len PySem.boot_len (pa_cons (pv 1) pa_nil))) (pe_callTy call_tupA (by rfl) T.n_tuple boot_tuple (pa_cons (pv 2) pa_nil))))
    (pss_cons (ps_if (PW.pt (pw_or (pt_cmpR (op_neD (hu64 hr)) (pe_callB call_lenA (by rfl) T.n_len PySem.boot_len (pa_cons (pv 4) pa_nil)) (pe_callB call_lenA (by rfl) T.n_len PySem.boot_len (pa_cons (pv 1) pa_nil)) (nomark _)) (pw_or1 (pt_not (pt_val (pe_callB (cr_all rfl) (by rfl) T.n_all (by decide +kernel) (pa_cons (pe_lc (own := [("one", 7)]) rfl sc_Scale_init.nd (pi_tup (pv 4)) (blkOk_by (by show blkC ["self", "letters", "weights", "good", "some", "at", "sign", "one"] (defScope s_Scale_init) _ _ = true; decide +kernel)) (fun _ _ _ _ _ => (pg_name (i := 7) sc_Scale_init.nd rfl (Or.inl rfl))) (fun _ _ _ _ _ => pts_nil) (fun _ _ _ _ _ => (pe_call G_is_whole (hr.mono (by decide)) rfl T.g_is_whole T.F_is_whole.kp T.b_is_whole .nil pass0 (pa_cons (pv 7) (pa_cons pe_int (pa_cons (pe_glob rfl T.c_MOST_WEIGHT.choose_spec.1 T.c_MOST_WEIGHT.choose_spec.2) pa_nil)))))) pa_nil))))))) (pss_one (L2N.ps_raise rfl tk (pmkN0 T.ox_BadWeights G_BadWeights_init (hr.mono (by decide)) T.b_BadWeights_init pass0 rfl T.gc_BadWeights))) pss_nil)
    (pss_cons (ps_fld (pv 0) (pv 1) rfl)
    (pss_one (ps_fld (pv 0) (pv 4) rfl))))))), (rf_seq (rf_asgN (rf_lc (rf_itES (rf_cons rf_var rf_nil)) (rf_gtupW (rf_gconsW (rf_nameW (by decide)) (rf_gconsW (rf_nameW (by decide)) rf_gnilW))) (rf_and (rf_test (rf_op rfo_inC rf_var rf_str)) (rf_test (rf_op rfo_notInC rf_var (rf_sl rfsl_any rf_var rf_noP (rf_part rf_var))))) rf_var))
    (rf_seq (rf_ifS (rf_or (rf_not (rf_chainT rfo_cmp rfo_cmp rf_int (rf_cb rfc_len (rf_cons rf_var rf_nil)) rf_int)) (rf_test (rf_op rfo_ne (rf_cb rfc_len (rf_cons rf_var rf_nil)) (rf_cb rfc_len (rf_cons rf_var rf_nil))))) (rf_raise0 T.ox_BadLetters.toOexG) rf_next)
    (rf_seq (rf_asg (rf_if (rf_test (rf_op rfo_eq (rf_cb rfc_len (rf_cons rf_var rf_nil)) rf_int)) (rf_op rfo_mul (rf_tup (rf_cons rf_int rf_nil)) (rf_cb rfc_len (rf_cons rf_var rf_nil))) (rf_cb rfc_tuple (rf_cons rf_var rf_nil))))
    (rf_seq (rf_ifS (rf_or (rf_test (rf_op rfo_ne (rf_cb rfc_len (rf_cons rf_var rf_nil)) (rf_cb rfc_len (rf_cons rf_var rf_nil)))) (rf_not (rf_B (rf_cb rfc_all (rf_cons (RfN.rfe (rf_lc (rf_itT rf_var) (rf_nameW (by decide)) rf_yes (rf_call (rf_cons rf_var (rf_cons rf_int (rf_cons rf_int rf_nil)))))) rf_nil))))) (rf_raise0 T.ox_BadWeights.toOexG) rf_next)
    (rf_seq (rf_iniF rf_var)
    (rf_iniF rf_var))))))⟩
def D_Scale_look (K : PySem.W.Frag) (X0 : DXs) : DS := (dFor (dItES (dCons (dVar 1) dNil)) (dGTup 2 (dGCons (dName 2) (dGCons (dName 3) dGNil))) (dIfS (dTest (dOp dNotInC (dVar 3) (dFld K (dVar 0) "signs"))) (dRaise1 (c_BadWord K) "BadWord" "at" X0 (dCons (dVar 2) dNil)) dNext))
theorem rd_Scale_look (T : Txt K mg) (G_BadWord_init : FnOk P w K mg base CX0 1 (a_BadWord_init K) (fdOf K (a_BadWord_init K)) ["self", "at"] (spEI K (c_BadWord K) 1 fun ws => [("at", ws.getD 0 .non), ("word", .str "BadWord")])) {cdv : Value} {A : Around} {outer : List PySem.Env} {s : Shared} {H : Hp} {E : XK} (PX : Addr → List (Str × DL.D) → Prop) (hr : Room 2 (A.deeper (envOfC "Scale.look" (defScope s_Scale_look) s.heap.objs.size (a_Scale_look K) cdv))) :
  ∃ t, PSs (cxOf (L2N.CX P w) P w K mg base ["self", "word", "at", "sign"] "Scale.look" (defScope s_Scale_look) (a_Scale_look K) cdv A outer s H E) (defBody s_Scale_look) t ∧ RfS (kwE K E PX) t (D_Scale_look K fun C fs _ => PX C fs) :=
  have tk : L2N.Takes (cxOf (L2N.CX P w) P w K mg base ["self", "word", "at", "sign"] "Scale.look" (defScope s_Scale_look) (a_Scale_look K) cdv A outer s H E) (fun cls d _ H => E cls d H) := L2N.takes_of rfl rfl rfl rfl
  ⟨_, (pss_one (ps_for PassesOwn.leaving rfl (pi_enumS rfl T.n_enumerate (pa_cons (pv 1) pa_nil)) (pg_tup rfl (pgs_cons (pg_name (i := 2) sc_Scale_look.nd rfl (Or.inl rfl)) (pgs_cons (pg_name (i := 3) sc_Scale_look.nd rfl (Or.inl rfl)) pgs_nil)))
      (pss_one (ps_if (pt_cmpR op_notInC (pv 3) (pe_fld (pv 0) rfl) rfl) (pss_one (L2N.ps_raise rfl tk (pmkN T.ox_BadWord G_BadWord_init (hr.mono (by decide)) T.b_BadWord_init pass0 rfl T.gc_BadWord (pa_cons (pv 2) pa_nil)))) pss_nil)))), (rf_for (rf_itES (rf_cons rf_var rf_nil)) (rf_gtup (rf_gcons rf_name (rf_gcons rf_name rf_gnil))) (rf_ifS (rf_test (rf_op rfo_notInC rf_var (rf_fld rf_var))) (rf_raise1 T.ox_BadWord.toOexG (rf_cons rf_var rf_nil)) rf_next))⟩
def D_Scale_many (K : PySem.W.Frag) (X0 : DXs) : DS := (dSeq (dDrop (dMethU (c_Scale K) "look" (S_Scale_look K) 2 0 (fun ds es => ds ++ es) X0 (dVar 0) (dCons (dVar 1) dNil) dNil))
    (dRet (dCB dTuple (dCons (dN (dLc (dItS (dFld K (dVar 0) "signs")) (dName 2) dYes (dBMS (dM1 fun a b => .int (Txt.count a b)) (dVar 1) (dCons (dVar 2) dNil)) [2])) dNil))))
theorem rd_Scale_many (T : Txt K mg) (G_Scale_look : FnOk P w K mg base (L2N.CX P w) 3 (a_Scale_look K) (fdOf K (a_Scale_look K)) ["self", "word"] (spX K (S_Scale_look K))) {cdv : Value} {A : Around} {outer : List PySem.Env} {s : Shared} {H : Hp} {E : XK} (PX : Addr → List (Str × DL.D) → Prop) (hr : Room 3 (A.deeper (envOfC "Scale.many" (defScope s_Scale_many) s.heap.objs.size (a_Scale_many K) cdv))) :
  ∃ t, PSs (cxOf (L2N.CX P w) P w K mg base ["self", "word", "sign"] "Scale.many" (defScope s_Scale_many) (a_Scale_many K) cdv A outer s H E) (defBody s_Scale_many) t ∧ RfS (kwE K E PX) t (D_Scale_many K fun C fs _ => PX C fs) :=
  have tk : L2N.Takes (cxOf (L2N.CX P w) P w K mg base ["self", "word", "sign"] "Scale.many" (defScope s_Scale_many) (a_Scale_many K) cdv A outer s H E) (fun cls d _ H => E cls d H) := L2N.takes_of rfl rfl rfl rfl
  ⟨_, (pss_cons (ps_expr (pe_methU (pv 0) T.cl_Scale T.m_Scale_look G_Scale_look (hr.mono (by decide)) T.bd_Scale_look_2 (fun σ => L2N.passAt tk σ) (pa_cons (pv 1) pa_nil) pk_nil))
    (pss_one (ps_ret (pe_callTy call_tupA (by rfl) T.n_tuple boot_tuple (pa_cons (pe_lc (own := [("sign", 2)]) rfl sc_Scale_many.nd (pi_str (pe_fld (pv 0) rfl)) (blkOk_by (by show blkC ["self", "word", "sign"] (defScope s_Scale_many) _ _ = true; decide +kernel)) (fun _ _ _ _ _ => (pg_name (i := 2) sc_Scale_many.nd rfl (Or.inl rfl))) (fun _ _ _ _ _ => pts_nil) (fun _ _ _ _ _ => (pe_bm PySem.F.plainAttrs_str PySem.F.slot_str_count PySem.F.type_str_count mt_count (pv 1) (pa_cons (pv 2) pa_nil)))) pa_nil))))), (rf_seq (rf_drop (rf_methU (GOk.app) rf_var (rf_cons rf_var rf_nil) rf_nil))
    (rf_ret (rf_cb rfc_tuple (rf_cons (RfN.rfe (rf_lc (rf_itS (rf_fld rf_var)) (rf_nameW (by decide)) rf_yes (rf_bmS rfm_count rf_var (rf_cons rf_var rf_nil)))) rf_nil))))⟩
def D_Scale_weight (K : PySem.W.Frag) (X0 : DXs) : DS := (dRet (dCB dSum (dCons (dN (dLc (dItZ4 (dCons (dMethU (c_Scale K) "many" (S_Scale_many K) 2 0 (fun ds es => ds ++ es) X0 (dVar 0) (dCons (dVar 1) dNil) dNil) (dCons (dFld K (dVar 0) "worths") dNil))) (dGTup 2 (dGCons (dName 2) (dGCons (dName 3) dGNil))) dYes (dOp dMul (dVar 2) (dVar 3)) [2, 3])) dNil)))
theorem rd_Scale_weight (T : Txt K mg) (G_Scale_many : FnOk P w K mg base (L2N.CX P w) 4 (a_Scale_many K) (fdOf K (a_Scale_many K)) ["self", "word"] (spX K (S_Scale_many K))) {cdv : Value} {A : Around} {outer : List PySem.Env} {s : Shared} {H : Hp} {E : XK} (PX : Addr → List (Str × DL.D) → Prop) (hr : Room 4 (A.deeper (envOfC "Scale.weight" (defScope s_Scale_weight) s.heap.objs.size (a_Scale_weight K) cdv))) :
  ∃ t, PSs (cxOf (L2N.CX P w) P w K mg base ["self", "word", "many", "one"] "Scale.weight" (defScope s_Scale_weight) (a_Scale_weight K) cdv A outer s H E) (defBody s_Scale_weight) t ∧ RfS (kwE K E PX) t (D_Scale_weight K fun C fs _ => PX C fs) :=
  have tk : L2N.Takes (cxOf (L2N.CX P w) P w K mg base ["self", "word", "many", "one"] "Scale.weight" (defScope s_Scale_weight) (a_Scale_weight K) cdv A outer s H E) (fun cls d _ H => E cls d H) := L2N.takes_of rfl rfl rfl rfl
  ⟨_, (pss_one (ps_ret (pe_callB (cr_sum rfl) (by rfl) T.n_sum (by decide +kernel) (pa_cons (pe_lc (own := [("many", 2), ("one", 3)]) rfl sc_Scale_weight.nd (ZM.pi_zip4 rfl T.n_zip (pa_cons (pe_methU (pv 0) T.cl_Scale T.m_Scale_many G_Scale_many (hr.mono (by decide)) T.bd_Scale_many_2 (fun σ => L2N.passAt tk σ) (pa_cons (pv 1) pa_nil) pk_nil) (pa_cons (pe_fld (pv 0) rfl) pa_nil))) (blkOk_by (by show blkC ["self", "word", "many", "one"] (defScope s_Scale_weight) _ _ = true; decide +kernel)) (fun _ _ _ _ _ => (pg_tup rfl (pgs_cons (pg_name (i := 2) sc_Scale_weight.nd rfl (Or.inl rfl)) (pgs_cons (pg_name (i := 3) sc_Scale_weight.nd rfl (Or.inl rfl)) pgs_nil)))) (fun _ _ _ _ _ => pts_nil) (fun _ _ _ _ _ => (pe_op op_mulA (pv 2) (pv 3)))) pa_nil)))), (rf_ret (rf_cb rfc_sum (rf_cons (RfN.rfe (rf_lc (rf_itZ4 (rf_cons (rf_methU (GOk.app) rf_var (rf_cons rf_var rf_nil) rf_nil) (rf_cons (rf_fld rf_var) rf_nil))) (rf_gtupW (rf_gconsW (rf_nameW (by decide)) (rf_gconsW (rf_nameW (by decide)) rf_gnilW))) rf_yes (rf_op rfo_mul rf_var rf_var))) rf_nil)))⟩
def D_Scale_rank (K : PySem.W.Frag) (X0 : DXs) : DS := (dRet (dTup (dCons (dMethU (c_Scale K) "weight" (S_Scale_weight K) 2 0 (fun ds es => ds ++ es) X0 (dVar 0) (dCons (dVar 1) dNil) dNil) (dCons (dCB dLen (dCons (dVar 1) dNil)) (dCons (dN (dLc (dItS (dVar 1)) (dName 2) dYes (dIndex (dFld K (dVar 0) "signs") (dCons (dVar 2) dNil)) [2])) dNil)))))
theorem rd_Scale_rank (T : Txt K mg) (G_Scale_weight : FnOk P w K mg base (L2N.CX P w) 5 (a_Scale_weight K) (fdOf K (a_Scale_weight K)) ["self", "word"] (spX K (S_Scale_weight K))) {cdv : Value} {A : Around} {outer : List PySem.Env} {s : Shared} {H : Hp} {E : XK} (PX : Addr → List (Str × DL.D) → Prop) (hr : Room 5 (A.deeper (envOfC "Scale.rank" (defScope s_Scale_rank) s.heap.objs.size (a_Scale_rank K) cdv))) :
  ∃ t, PSs (cxOf (L2N.CX P w) P w K mg base ["self", "word", "sign"] "Scale.rank" (defScope s_Scale_rank) (a_Scale_rank K) cdv A outer s H E) (defBody s_Scale_rank) t ∧ RfS (kwE K E PX) t (D_Scale_rank K fun C fs _ => PX C fs) :=
  have tk : L2N.Takes (cxOf (L2N.CX P w) P w K mg base ["self", "word", "sign"] "Scale.rank" (defScope s_Scale_rank) (a_Scale_rank K) cdv A outer s H E) (fun cls d _ H => E cls d H) := L2N.takes_of rfl rfl rfl rfl
  ⟨_, (pss_one (ps_ret (pe_tup (pa_cons (pe_methU (pv 0) T.cl_Scale T.m_Scale_weight G_Scale_weight (hr.mono (by decide)) T.bd_Scale_weight_2 (fun σ => L2N.passAt tk σ) (pa_cons (pv 1) pa_nil) pk_nil) (pa_cons (pe_callB call_lenA (by rfl) T.n_len PySem.boot_len (pa_cons (pv 1) pa_nil)) (pa_cons (pe_lc (own := [("sign", 2)]) rfl sc_Scale_rank.nd (pi_str (pv 1)) (blkOk_by (by show blkC ["self", "word", "sign"] (defScope s_Scale_rank) _ _ = true; decide +kernel)) (fun _ _ _ _ _ => (pg_name (i := 2) sc_Scale_rank.nd rfl (Or.inl rfl))) (fun _ _ _ _ _ => pts_nil) (fun _ _ _ _ _ => (pe_bmS PySem.F.plainAttrs_str PySem.F.slot_str_index PySem.F.type_str_index (mt_indexX rfl takesF) (pe_fld (pv 0) rfl) (pa_cons (pv 2) pa_nil)))) pa_nil)))))), (rf_ret (rf_tup (rf_cons (rf_methU (GOk.app) rf_var (rf_cons rf_var rf_nil) rf_nil) (rf_cons (rf_cb rfc_len (rf_cons rf_var rf_nil)) (rf_cons (RfN.rfe (rf_lc (rf_itS rf_var) (rf_nameW (by decide)) rf_yes (rf_index (rf_fld rf_var) (rf_cons rf_var rf_nil)))) rf_nil)))))⟩
def D_Scale_less (K : PySem.W.Frag) (X0 : DXs) : DS := (dRet (dOp dLtR (dMethU (c_Scale K) "rank" (S_Scale_rank K) 2 0 (fun ds es => ds ++ es) X0 (dVar 0) (dCons (dVar 1) dNil) dNil) (dMethU (c_Scale K) "rank" (S_Scale_rank K) 2 0 (fun ds es => ds ++ es) X0 (dVar 0) (dCons (dVar 2) dNil) dNil)))
theorem rd_Scale_less (T : Txt K mg) (G_Scale_rank : FnOk P w K mg base (L2N.CX P w) 6 (a_Scale_rank K) (fdOf K (a_Scale_rank K)) ["self", "word"] (spX K (S_Scale_rank K))) {cdv : Value} {A : Around} {outer : List PySem.Env} {s : Shared} {H : Hp} {E : XK} (PX : Addr → List (Str × DL.D) → Prop) (hr : Room 6 (A.deeper (envOfC "Scale.less" (defScope s_Scale_less) s.heap.objs.size (a_Scale_less K) cdv))) :
  ∃ t, PSs (cxOf (L2N.CX P w) P w K mg base ["self", "one", "other"] "Scale.less" (defScope s_Scale_less) (a_Scale_less K) cdv A outer s H E) (defBody s_Scale_less) t ∧ RfS (kwE K E PX) t (D_Scale_less K fun C fs _ => PX C fs) :=
  have tk : L2N.Takes (cxOf (L2N.CX P w) P w K mg base ["self", "one", "other"] "Scale.less" (defScope s_Scale_less) (a_Scale_less K) cdv A outer s H E) (fun cls d _ H => E cls d H) := L2N.takes_of rfl rfl rfl rfl
  ⟨_, (pss_one (ps_ret (pe_cmpR (op_ltR (hu64 hr)) (pe_methU (pv 0) T.cl_Scale T.m_Scale_rank G_Scale_rank (hr.mono (by decide)) T.bd_Scale_rank_2 (fun σ => L2N.passAt tk σ) (pa_cons (pv 1) pa_nil) pk_nil) (pe_methU (pv 0) T.cl_Scale T.m_Scale_rank G_Scale_rank (hr.mono (by decide)) T.bd_Scale_rank_2 (fun σ => L2N.passAt tk σ) (pa_cons (pv 2) pa_nil) pk_nil) (nomark _)))), (rf_ret (rf_op rfo_ltR (rf_methU (GOk.app) rf_var (rf_cons rf_var rf_nil) rf_nil) (rf_methU (GOk.app) rf_var (rf_cons rf_var rf_nil) rf_nil)))⟩
def D_need_short (K : PySem.W.Frag) (X0 : DXs) : DS := (dSeq (dIfS (dTest (dOp dGtI (dCB dLen (dCons (dVar 0) dNil)) (dC (.int 400)))) (dRaise1 (c_TooLong K) "TooLong" "most" X0 (dCons (dC (.int 400)) dNil)) dNext)
    (dRetV 0))
theorem rd_need_short (T : Txt K mg) (G_TooLong_init : FnOk P w K mg base CX0 1 (a_TooLong_init K) (fdOf K (a_TooLong_init K)) ["self", "most"] (spEI K (c_TooLong K) 1 fun ws => [("most", ws.getD 0 .non), ("word", .str "TooLong")])) {cdv : Value} {A : Around} {outer : List PySem.Env} {s : Shared} {H : Hp} {E : XK} (PX : Addr → List (Str × DL.D) → Prop) (hr : Room 2 (A.deeper (envOfC "need_short" (defScope s_need_short) s.heap.objs.size (a_need_short K) cdv))) :
  ∃ t, PSs (cxOf (L2N.CX P w) P w K mg base ["word"] "need_short" (defScope s_need_short) (a_need_short K) cdv A outer s H E) (defBody s_need_short) t ∧ RfS (kwE K E PX) t (D_need_short K fun C fs _ => PX C fs) :=
  have tk : L2N.Takes (cxOf (L2N.CX P w) P w K mg base ["word"] "need_short" (defScope s_need_short) (a_need_short K) cdv A outer s H E) (fun cls d _ H => E cls d H) := L2N.takes_of rfl rfl rfl rfl
  ⟨_, (pss_cons (ps_if (pt_cmpR op_gt (pe_callB call_lenA (by rfl) T.n_len PySem.boot_len (pa_cons (pv 0) pa_nil)) (pe_glob rfl T.c_MOST_WORD.choose_spec.1 T.c_MOST_WORD.choose_spec.2) (nomark _)) (pss_one (L2N.ps_raise rfl tk (pmkN T.ox_TooLong G_TooLong_init (hr.mono (by decide)) T.b_TooLong_init pass0 rfl T.gc_TooLong (pa_cons (pe_glob rfl T.c_MOST_WORD.choose_spec.1 T.c_MOST_WORD.choose_spec.2) pa_nil)))) pss_nil)
    (pss_one (ps_ret (pv 0)))), (rf_seq (rf_ifS (rf_test (rf_op rfo_cmp (rf_cb rfc_len (rf_cons rf_var rf_nil)) rf_int)) (rf_raise1 T.ox_TooLong.toOexG (rf_cons rf_int rf_nil)) rf_next)
    rf_retV)⟩
def D_standing (K : PySem.W.Frag) : DS := (dSeq (dAsgN 2 (dLst dNil))
    (dSeq (dFor (dItR1 (dCons (dCB dLen (dCons (dVar 1) dNil)) dNil)) (dName 3) (dExt 2 (dCons (dN (dLc (dItE (dCons (dVar 0) dNil)) (dGTup 2 (dGCons (dName 4) (dGCons (dGTup 2 (dGCons (dName 5) (dGCons (dName 6) dGNil))) dGNil))) (dTest (dBMS (dM2 fun a b i => .bl (Txt.startswith3 a b i)) (dVar 1) (dCons (dVar 5) (dCons (dVar 3) dNil)))) (dTup (dCons (dVar 3) (dCons (dVar 4) dNil))) [4, 5, 6])) dNil)))
    (dRetV 2)))
theorem rd_standing (T : Txt K mg) {cdv : Value} {A : Around} {outer : List PySem.Env} {s : Shared} {H : Hp} {E : XK} (hr : Room 0 (A.deeper (envOfC "standing" (defScope s_standing) s.heap.objs.size (a_standing K) cdv))) :
  ∃ t, PSs (cxOf CX0 P w K mg base ["pairs", "word", "found", "at", "number", "left", "right"] "standing" (defScope s_standing) (a_standing K) cdv A outer s H E).nox (defBody s_standing) t ∧ RfS (kw0 K) t (D_standing K) :=
  ⟨_, (pss_cons (ps_set (i := 2) sc_standing.nd rfl (Or.inl rfl) (pe_lst pa_nil))
    (pss_cons (ps_for PassesOwn.never rfl (pi_range1 rfl T.n_range (pa_cons (pe_callB call_lenA (by rfl) T.n_len PySem.boot_len (pa_cons (pv 1) pa_nil)) pa_nil)) (pg_name (i := 3) sc_standing.nd rfl (Or.inr rfl))
      (pss_one (ps_expr (pe_bm PySem.F.plainAttrs_list PySem.F.slot_list_extend PySem.F.type_list_extend mt_extend (pv 2) (pa_cons (pe_lc (own := [("number", 4), ("left", 5), ("right", 6)]) rfl sc_standing.nd (pi_enum rfl T.n_enumerate (pa_cons (pv 0) pa_nil)) (blkOk_by (by show blkC ["pairs", "word", "found", "at", "number", "left", "right"] (defScope s_standing) _ _ = true; decide +kernel)) (fun _ _ _ _ _ => (pg_tup rfl (pgs_cons (pg_name (i := 4) sc_standing.nd rfl (Or.inl rfl)) (pgs_cons (pg_tup rfl (pgs_cons (pg_name (i := 5) sc_standing.nd rfl (Or.inl rfl)) (pgs_cons (pg_name (i := 6) sc_standing.nd rfl (Or.inl rfl)) pgs_nil))) pgs_nil)))) (fun _ _ _ _ _ => (pts_one (pt_val (pe_bm PySem.F.plainAttrs_str PySem.F.slot_str_startswith PySem.F.type_str_startswith mt_startswith3 (pv 1) (pa_cons (pv 5) (pa_cons (pv 3) pa_nil)))))) (fun _ _ _ _ _ => (pe_tup (pa_cons (pv 3) (pa_cons (pv 4) pa_nil))))) pa_nil)))))
    (pss_one (ps_ret (pv 2))))), (rf_seq (rf_asgN (rf_lst rf_nil))
    (rf_seq (rf_for (rf_itR1 (rf_cons (rf_cb rfc_len (rf_cons rf_var rf_nil)) rf_nil)) rf_name (rf_ext (rf_cons (RfN.rfe (rf_lc (rf_itE (rf_cons rf_var rf_nil)) (rf_gtupW (rf_gconsW (rf_nameW (by decide)) (rf_gconsW (rf_gtupW (rf_gconsW (rf_nameW (by decide)) (rf_gconsW (rf_nameW (by decide)) rf_gnilW))) rf_gnilW))) (rf_B (rf_bmS rfm_startswith3 rf_var (rf_cons rf_var (rf_cons rf_var rf_nil)))) (rf_tup (rf_cons rf_var (rf_cons rf_var rf_nil))))) rf_nil)))
    rf_retV))⟩
def D_is_rule (K : PySem.W.Frag) : DS := (dSeq (dAsgG (dVar 1) (dGTup 2 (dGCons (dName 2) (dGCons (dName 3) dGNil))))
    (dSeq (dIfS (dOr (dTest (dOp dGtI (dCB dLen (dCons (dVar 2) dNil)) (dC (.int 20)))) (dTest (dOp dGtI (dCB dLen (dCons (dVar 3) dNil)) (dC (.int 20))))) (dRet (dC (.bl false))) dNext)
    (dTry0 K [.ref (c_BadWord K)] (fun x1 => (dRet (dMethU (c_Scale K) "less" (S_Scale_less K) 3 0 (fun ds es => ds ++ es) x1 (dVar 0) (dCons (dVar 3) (dCons (dVar 2) dNil)) dNil))) (dRet (dC (.bl false))) dXF)))
theorem rd_is_rule (T : Txt K mg) (G_Scale_less : FnOk P w K mg base (L2N.CX P w) 7 (a_Scale_less K) (fdOf K (a_Scale_less K)) ["self", "one", "other"] (spX K (S_Scale_less K))) {cdv : Value} {A : Around} {outer : List PySem.Env} {s : Shared} {H : Hp} {E : XK} (hr : Room 7 (A.deeper (envOfC "is_rule" (defScope s_is_rule) s.heap.objs.size (a_is_rule K) cdv))) :
  ∃ t, PSs (cxOf CX0 P w K mg base ["scale", "pair", "left", "right"] "is_rule" (defScope s_is_rule) (a_is_rule K) cdv A outer s H E).nox (defBody s_is_rule) t ∧ RfS (kw0 K) t (D_is_rule K) :=
  ⟨_, (pss_cons (ps_asg (pv 1) (pg_tup rfl (pgs_cons (pg_name (i := 2) sc_is_rule.nd rfl (Or.inl rfl)) (pgs_cons (pg_name (i := 3) sc_is_rule.nd rfl (Or.inl rfl)) pgs_nil))))
    (pss_cons (ps_if (PW.pt (pw_or (pt_cmpR op_gt (pe_callB call_lenA (by rfl) T.n_len PySem.boot_len (pa_cons (pv 2) pa_nil)) (pe_glob rfl T.c_MOST_SIDE.choose_spec.1 T.c_MOST_SIDE.choose_spec.2) (nomark _)) (pw_or1 (pt_cmpR op_gt (pe_callB call_lenA (by rfl) T.n_len PySem.boot_len (pa_cons (pv 3) pa_nil)) (pe_glob rfl T.c_MOST_SIDE.choose_spec.1 T.c_MOST_SIDE.choose_spec.2) (nomark _))))) (pss_one (ps_ret pe_bl)) pss_nil)
    (pss_one (ps_try_n1 rfl rfl takes0 (fun W pn xe tk hpo => (pss_one (ps_ret (pe_methU (pv 0) T.cl_Scale T.m_Scale_less G_Scale_less (hr.mono (by decide)) T.bd_Scale_less_3 (fun σ => passN tk σ) (pa_cons (pv 3) (pa_cons (pv 2) pa_nil)) pk_nil)))) (cl_one ⟨rfl, by decide, .inl T.gc_BadWord⟩) (fun a oe cls d pn hz hf => (pss_one (ps_ret pe_bl))))))), (rf_seq (rf_asgG rf_var (rf_gtup (rf_gcons rf_name (rf_gcons rf_name rf_gnil))))
    (rf_seq (rf_ifS (rf_or (rf_test (rf_op rfo_cmp (rf_cb rfc_len (rf_cons rf_var rf_nil)) rf_int)) (rf_test (rf_op rfo_cmp (rf_cb rfc_len (rf_cons rf_var rf_nil)) rf_int))) (rf_ret rf_bl) rf_next)
    (rf_try0 (fun W x1 => (rf_ret (rf_methU (GOk.app) rf_var (rf_cons rf_var (rf_cons rf_var rf_nil)) rf_nil))) (fun a cls d => (rf_ret rf_bl)))))⟩
def D_Rules_init (K : PySem.W.Frag) (X0 : DXs) : DS := (dSeq (dIfS (dTest (dOp dGtI (dCB dLen (dCons (dVar 2) dNil)) (dC (.int 40)))) (dRaise1 (c_TooMany K) "TooMany" "most" X0 (dCons (dC (.int 40)) dNil)) dNext)
    (dSeq (dFor (dItEA 2) (dGTup 2 (dGCons (dName 3) (dGCons (dName 4) dGNil))) (dIfS (dNot (dTest (dCall (S_is_rule K) (dCons (dVar 1) (dCons (dVar 4) dNil))))) (dRaise1 (c_BadRule K) "BadRule" "at" X0 (dCons (dVar 3) dNil)) dNext))
    (dSeq (dIniF K 0 "own_scale" (dVar 1))
    (dIniF K 0 "pairs" (dN (dLc (dItA 2) (dGTup 2 (dGCons (dName 5) (dGCons (dName 6) dGNil))) dYes (dTup (dCons (dVar 5) (dCons (dVar 6) dNil))) [5, 6]))))))
theorem rd_Rules_init (T : Txt K mg) (G_TooMany_init : FnOk P w K mg base CX0 1 (a_TooMany_init K) (fdOf K (a_TooMany_init K)) ["self", "most"] (spEI K (c_TooMany K) 1 fun ws => [("most", ws.getD 0 .non), ("word", .str "TooMany")])) (G_is_rule : FnOk P w K mg base CX0 8 (a_is_rule K) (fdOf K (a_is_rule K)) ["scale", "pair"] (spD K (S_is_rule K))) (G_BadRule_init : FnOk P w K mg base CX0 1 (a_BadRule_init K) (fdOf K (a_BadRule_init K)) ["self", "at"] (spEI K (c_BadRule K) 1 fun ws => [("at", ws.getD 0 .non), ("word", .str "BadRule")])) {cdv : Value} {A : Around} {outer : List PySem.Env} {s : Shared} {H : Hp} {E : XK} (PX : Addr → List (Str × DL.D) → Prop) (hr : Room 8 (A.deeper (envOfC "Rules.__init__" (defScope s_Rules_init) s.heap.objs.size (a_Rules_init K) cdv))) :
  ∃ t, PSs (cxOf (L2N.CX P w) P w K mg base ["self", "scale", "rules", "at", "pair", "left", "right"] "Rules.__init__" (defScope s_Rules_init) (a_Rules_init K) cdv A outer s H E) (defBody s_Rules_init) t ∧ RfS (kwE K E PX) t (D_Rules_init K fun C fs _ => PX C fs) :=
  have tk : L2N.Takes (cxOf (L2N.CX P w) P w K mg base ["self", "scale", "rules", "at", "pair", "left", "right"] "Rules.__init__" (defScope s_Rules_init) (a_Rules_init K) cdv A outer s H E) (fun cls d _ H => E cls d H) := L2N.takes_of rfl rfl rfl rfl
  ⟨_, (pss_cons (ps_if (pt_cmpR op_gt (pe_callB call_lenA (by rfl) T.n_len PySem.boot_len (pa_cons (pv 2) pa_nil)) (pe_glob rfl T.c_MOST_RULES.choose_spec.1 T.c_MOST_RULES.choose_spec.2) (nomark _)) (pss_one (L2N.ps_raise rfl tk (pmkN T.ox_TooMany G_TooMany_init (hr.mono (by decide)) T.b_TooMany_init pass0 rfl T.gc_TooMany (pa_cons (pe_glob rfl T.c_MOST_RULES.choose_spec.1 T.c_MOST_RULES.choose_spec.2) pa_nil)))) pss_nil)
    (pss_cons (ps_for PassesOwn.leaving rfl (pi_or (pi_enum rfl T.n_enumerate (pa_cons (pv 2) pa_nil)) (pi_enumT rfl T.n_enumerate (pa_cons (pv 2) pa_nil))) (pg_tup rfl (pgs_cons (pg_name (i := 3) sc_Rules_init.nd rfl (Or.inl rfl)) (pgs_cons (pg_name (i := 4) sc_Rules_init.nd rfl (Or.inl rfl)) pgs_nil)))
      (pss_one (ps_if (pt_not (pt_val (pe_call G_is_rule (hr.mono (by decide)) rfl T.g_is_rule T.F_is_rule.kp T.b_is_rule .nil pass0 (pa_cons (pv 1) (pa_cons (pv 4) pa_nil))))) (pss_one (L2N.ps_raise rfl tk (pmkN T.ox_BadRule G_BadRule_init (hr.mono (by decide)) T.b_BadRule_init pass0 rfl T.gc_BadRule (pa_cons (pv 3) pa_nil)))) pss_nil)))
    (pss_cons (ps_fld (pv 0) (pv 1) rfl)
    (pss_one (ps_fld (pv 0) (pe_lc (own := [("left", 5), ("right", 6)]) rfl sc_Rules_init.nd (pi_or (pi_list (pv 2)) (pi_tup (pv 2))) (blkOk_by (by show blkC ["self", "scale", "rules", "at", "pair", "left", "right"] (defScope s_Rules_init) _ _ = true; decide +kernel)) (fun _ _ _ _ _ => (pg_tup rfl (pgs_cons (pg_name (i := 5) sc_Rules_init.nd rfl (Or.inl rfl)) (pgs_cons (pg_name (i := 6) sc_Rules_init.nd rfl (Or.inl rfl)) pgs_nil)))) (fun _ _ _ _ _ => pts_nil) (fun _ _ _ _ _ => (pe_tup (pa_cons (pv 5) (pa_cons (pv 6) pa_nil))))) rfl))))), (rf_seq (rf_ifS (rf_test (rf_op rfo_cmp (rf_cb rfc_len (rf_cons rf_var rf_nil)) rf_int)) (rf_raise1 T.ox_TooMany.toOexG (rf_cons rf_int rf_nil)) rf_next)
    (rf_seq (rf_for rf_itEA (rf_gtup (rf_gcons rf_name (rf_gcons rf_name rf_gnil))) (rf_ifS (rf_not (rf_B (rf_call (rf_cons rf_var (rf_cons rf_var rf_nil))))) (rf_raise1 T.ox_BadRule.toOexG (rf_cons rf_var rf_nil)) rf_next))
    (rf_seq (rf_iniF rf_var)
    (rf_iniF (RfN.rfe (rf_lc rf_itA (rf_gtupW (rf_gconsW (rf_nameW (by decide)) (rf_gconsW (rf_nameW (by decide)) rf_gnilW))) rf_yes (rf_tup (rf_cons rf_var (rf_cons rf_var rf_nil)))))))))⟩
def D_Rules_side (K : PySem.W.Frag) (X0 : DXs) : DS := (dSeq (dIfS (dNot (dChainT dLeI dLtI (dC (.int 0)) (dVar 1) (dCB dLen (dCons (dFld K (dVar 0) "pairs") dNil)))) (dRaise1 (c_NoRule K) "NoRule" "number" X0 (dCons (dVar 1) dNil)) dNext)
    (dSeq (dAsgG (dOp dIx (dFld K (dVar 0) "pairs") (dVar 1)) (dGTup 2 (dGCons (dName 3) (dGCons (dName 4) dGNil))))
    (dRet (dIf (dTest (dVar 2)) (dTup (dCons (dVar 4) (dCons (dVar 3) dNil))) (dTup (dCons (dVar 3) (dCons (dVar 4) dNil)))))))
theorem rd_Rules_side (T : Txt K mg) (G_NoRule_init : FnOk P w K mg base CX0 1 (a_NoRule_init K) (fdOf K (a_NoRule_init K)) ["self", "number"] (spEI K (c_NoRule K) 1 fun ws => [("number", ws.getD 0 .non), ("word", .str "NoRule")])) {cdv : Value} {A : Around} {outer : List PySem.Env} {s : Shared} {H : Hp} {E : XK} (PX : Addr → List (Str × DL.D) → Prop) (hr : Room 2 (A.deeper (envOfC "Rules.side" (defScope s_Rules_side) s.heap.objs.size (a_Rules_side K) cdv))) :
  ∃ t, PSs (cxOf (L2N.CX P w) P w K mg base ["self", "number", "back", "left", "right"] "Rules.side" (defScope s_Rules_side) (a_Rules_side K) cdv A outer s H E) (defBody s_Rules_side) t ∧ RfS (kwE K E PX) t (D_Rules_side K fun C fs _ => PX C fs) :=
  have tk : L2N.Takes (cxOf (L2N.CX P w) P w K mg base ["self", "number", "back", "left", "right"] "Rules.side" (defScope s_Rules_side) (a_Rules_side K) cdv A outer s H E) (fun cls d _ H => E cls d H) := L2N.takes_of rfl rfl rfl rfl
  ⟨_, (pss_cons (ps_if (pt_not (pt_chain op_le op_lt pe_int (pv 1) (pe_callB call_lenA (by rfl) T.n_len PySem.boot_len (pa_cons (pe_fld (pv 0) rfl) pa_nil)))) (pss_one (L2N.ps_raise rfl tk (pmkN T.ox_NoRule G_NoRule_init (hr.mono (by decide)) T.b_NoRule_init pass0 rfl T.gc_NoRule (pa_cons (pv 1) pa_nil)))) pss_nil)
    (pss_cons (ps_asg (pe_ix ix_seq (pe_fld (pv 0) rfl) (pv 1) (fun _ _ => rfl)) (pg_tup rfl (pgs_cons (pg_name (i := 3) sc_Rules_side.nd rfl (Or.inl rfl)) (pgs_cons (pg_name (i := 4) sc_Rules_side.nd rfl (Or.inl rfl)) pgs_nil))))
    (pss_one (ps_ret (pe_ifExp (pt_val (pv 2)) (pe_tup (pa_cons (pv 4) (pa_cons (pv 3) pa_nil))) (pe_tup (pa_cons (pv 3) (pa_cons (pv 4) pa_nil)))))))), (rf_seq (rf_ifS (rf_not (rf_chainT rfo_cmp rfo_cmp rf_int rf_var (rf_cb rfc_len (rf_cons (rf_fld rf_var) rf_nil)))) (rf_raise1 T.ox_NoRule.toOexG (rf_cons rf_var rf_nil)) rf_next)
    (rf_seq (rf_asgG (rf_op rfo_ix (rf_fld rf_var) rf_var) (rf_gtup (rf_gcons rf_name (rf_gcons rf_name rf_gnil))))
    (rf_ret (rf_if (rf_B rf_var) (rf_tup (rf_cons rf_var (rf_cons rf_var rf_nil))) (rf_tup (rf_cons rf_var (rf_cons rf_var rf_nil)))))))⟩
def D_Rules_places (K : PySem.W.Frag) (X0 : DXs) : DS := (dSeq (dDrop (dMethU (c_Scale K) "look" (S_Scale_look K) 2 0 (fun ds es => ds ++ es) X0 (dFld K (dVar 0) "own_scale") (dCons (dVar 1) dNil) dNil))
    (dRetN (dCallN (S_standing K) (dCons (dFld K (dVar 0) "pairs") (dCons (dVar 1) dNil)))))
theorem rd_Rules_places (T : Txt K mg) (G_Scale_look : FnOk P w K mg base (L2N.CX P w) 3 (a_Scale_look K) (fdOf K (a_Scale_look K)) ["self", "word"] (spX K (S_Scale_look K))) (G_standing : FnOk P w K mg base CX0 1 (a_standing K) (fdOf K (a_standing K)) ["pairs", "word"] (spN K (S_standing K))) {cdv : Value} {A : Around} {outer : List PySem.Env} {s : Shared} {H : Hp} {E : XK} (PX : Addr → List (Str × DL.D) → Prop) (hr : Room 3 (A.deeper (envOfC "Rules.places" (defScope s_Rules_places) s.heap.objs.size (a_Rules_places K) cdv))) :
  ∃ t, PSs (cxOf (L2N.CX P w) P w K mg base ["self", "word"] "Rules.places" (defScope s_Rules_places) (a_Rules_places K) cdv A outer s H E) (defBody s_Rules_places) t ∧ RfS (kwE K E PX) t (D_Rules_places K fun C fs _ => PX C fs) :=
  have tk : L2N.Takes (cxOf (L2N.CX P w) P w K mg base ["self", "word"] "Rules.places" (defScope s_Rules_places) (a_Rules_places K) cdv A outer s H E) (fun cls d _ H => E cls d H) := L2N.takes_of rfl rfl rfl rfl
  ⟨_, (pss_cons (ps_expr (pe_methU (pe_fld (pv 0) rfl) T.cl_Scale T.m_Scale_look G_Scale_look (hr.mono (by decide)) T.bd_Scale_look_2 (fun σ => L2N.passAt tk σ) (pa_cons (pv 1) pa_nil) pk_nil))
    (pss_one (ps_ret (pe_call G_standing (hr.mono (by decide)) rfl T.g_standing T.F_standing.kp T.b_standing .nil pass0 (pa_cons (pe_fld (pv 0) rfl) (pa_cons (pv 1) pa_nil)))))), (rf_seq (rf_drop (rf_methU (GOk.app) (rf_fld rf_var) (rf_cons rf_var rf_nil) rf_nil))
    (rf_retN (rf_callN (rf_cons (rf_fld rf_var) (rf_cons rf_var rf_nil)))))⟩
def D_Rules_is_end (K : PySem.W.Frag) (X0 : DXs) : DS := (dRet (dOp dEq (dN (dMethUN (c_Rules K) "places" (S_Rules_places K) 2 0 (fun ds es => ds ++ es) X0 (dVar 0) (dCons (dVar 1) dNil) dNil)) (dN (dLst dNil))))
theorem rd_Rules_is_end (T : Txt K mg) (G_Rules_places : FnOk P w K mg base (L2N.CX P w) 4 (a_Rules_places K) (fdOf K (a_Rules_places K)) ["self", "word"] (spNX K (S_Rules_places K))) {cdv : Value} {A : Around} {outer : List PySem.Env} {s : Shared} {H : Hp} {E : XK} (PX : Addr → List (Str × DL.D) → Prop) (hr : Room 4 (A.deeper (envOfC "Rules.is_end" (defScope s_Rules_is_end) s.heap.objs.size (a_Rules_is_end K) cdv))) :
  ∃ t, PSs (cxOf (L2N.CX P w) P w K mg base ["self", "word"] "Rules.is_end" (defScope s_Rules_is_end) (a_Rules_is_end K) cdv A outer s H E) (defBody s_Rules_is_end) t ∧ RfS (kwE K E PX) t (D_Rules_is_end K fun C fs _ => PX C fs) :=
  have tk : L2N.Takes (cxOf (L2N.CX P w) P w K mg base ["self", "word"] "Rules.is_end" (defScope s_Rules_is_end) (a_Rules_is_end K) cdv A outer s H E) (fun cls d _ H => E cls d H) := L2N.takes_of rfl rfl rfl rfl
  ⟨_, (pss_one (ps_ret (pe_cmpR (op_eqD (hu64 hr)) (pe_methU (pv 0) T.cl_Rules T.m_Rules_places G_Rules_places (hr.mono (by decide)) T.bd_Rules_places_2 (fun σ => L2N.passAt tk σ) (pa_cons (pv 1) pa_nil) pk_nil) (pe_lst pa_nil) (nomark _)))), (rf_ret (rf_op rfo_eq (RfN.rfe (rf_methUN (GOk.app) rf_var (rf_cons rf_var rf_nil) rf_nil)) (RfN.rfe (rf_lst rf_nil))))⟩
def D_Rules_turned (K : PySem.W.Frag) (X0 : DXs) : DS := (dSeq (dDrop (dMethU (c_Scale K) "look" (S_Scale_look K) 2 0 (fun ds es => ds ++ es) X0 (dFld K (dVar 0) "own_scale") (dCons (dVar 1) dNil) dNil))
    (dSeq (dAsgG (dMethU (c_Rules K) "side" (S_Rules_side K) 3 0 (fun ds es => ds ++ es) X0 (dVar 0) (dCons (dVar 3) (dCons (dVar 4) dNil)) dNil) (dGTup 2 (dGCons (dName 5) (dGCons (dName 6) dGNil))))
    (dSeq (dIfS (dOr (dNot (dChainT dLeI dLeI (dC (.int 0)) (dVar 2) (dCB dLen (dCons (dVar 1) dNil)))) (dNot (dTest (dBMS (dM2 fun a b i => .bl (Txt.startswith3 a b i)) (dVar 1) (dCons (dVar 5) (dCons (dVar 2) dNil)))))) (dRaise1 (c_NoStep K) "NoStep" "place" X0 (dCons (dVar 2) dNil)) dNext)
    (dRet (dCallU (S_need_short K) 1 0 (fun ds es => ds ++ es) X0 (dCons (dOp dAdd (dOp dAdd (dSl dSlU (dVar 1) dNoP (dPart (dVar 2))) (dVar 6)) (dSl dSlU (dVar 1) (dPart (dOp dAdd (dVar 2) (dCB dLen (dCons (dVar 5) dNil)))) dNoP)) dNil) dNil)))))
theorem rd_Rules_turned (T : Txt K mg) (G_Scale_look : FnOk P w K mg base (L2N.CX P w) 3 (a_Scale_look K) (fdOf K (a_Scale_look K)) ["self", "word"] (spX K (S_Scale_look K))) (G_Rules_side : FnOk P w K mg base (L2N.CX P w) 3 (a_Rules_side K) (fdOf K (a_Rules_side K)) ["self", "number", "back"] (spX K (S_Rules_side K))) (G_NoStep_init : FnOk P w K mg base CX0 1 (a_NoStep_init K) (fdOf K (a_NoStep_init K)) ["self", "place"] (spEI K (c_NoStep K) 1 fun ws => [("place", ws.getD 0 .non), ("word", .str "NoStep")])) (G_need_short : FnOk P w K mg base (L2N.CX P w) 3 (a_need_short K) (fdOf K (a_need_short K)) ["word"] (spX K (S_need_short K))) {cdv : Value} {A : Around} {outer : List PySem.Env} {s : Shared} {H : Hp} {E : XK} (PX : Addr → List (Str × DL.D) → Prop) (hr : Room 3 (A.deeper (envOfC "Rules.turned" (defScope s_Rules_turned) s.heap.objs.size (a_Rules_turned K) cdv))) :
  ∃ t, PSs (cxOf (L2N.CX P w) P w K mg base ["self", "word", "place", "rule", "back", "taken", "put"] "Rules.turned" (defScope s_Rules_turned) (a_Rules_turned K) cdv A outer s H E) (defBody s_Rules_turned) t ∧ RfS (kwE K E PX) t (D_Rules_turned K fun C fs _ => PX C fs) :=
  have tk : L2N.Takes (cxOf (L2N.CX P w) P w K mg base ["self", "word", "place", "rule", "back", "taken", "put"] "Rules.turned" (defScope s_Rules_turned) (a_Rules_turned K) cdv A outer s H E) (fun cls d _ H => E cls d H) := L2N.takes_of rfl rfl rfl rfl
  ⟨_, (pss_cons (ps_expr (pe_methU (pe_fld (pv 0) rfl) T.cl_Scale T.m_Scale_look G_Scale_look (hr.mono (by decide)) T.bd_Scale_look_2 (fun σ => L2N.passAt tk σ) (pa_cons (pv 1) pa_nil) pk_nil))
    (pss_cons (ps_asg (pe_methU (pv 0) T.cl_Rules T.m_Rules_side G_Rules_side (hr.mono (by decide)) T.bd_Rules_side_3 (fun σ => L2N.passAt tk σ) (pa_cons (pv 3) (pa_cons (pv 4) pa_nil)) pk_nil) (pg_tup rfl (pgs_cons (pg_name (i := 5) sc_Rules_turned.nd rfl (Or.inl rfl)) (pgs_cons (pg_name (i := 6) sc_Rules_turned.nd rfl (Or.inl rfl)) pgs_nil))))
    (pss_cons (ps_if (PW.pt (pw_or (pt_not (pt_chain op_le op_le pe_int (pv 2) (pe_callB call_lenA (by rfl) T.n_len PySem.boot_len (pa_cons (pv 1) pa_nil)))) (pw_or1 (pt_not (pt_val (pe_bm PySem.F.plainAttrs_str PySem.F.slot_str_startswith PySem.F.type_str_startswith mt_startswith3 (pv 1) (pa_cons (pv 5) (pa_cons (pv 2) pa_nil)))))))) (pss_one (L2N.ps_raise rfl tk (pmkN T.ox_NoStep G_NoStep_init (hr.mono (by decide)) T.b_NoStep_init pass0 rfl T.gc_NoStep (pa_cons (pv 2) pa_nil)))) pss_nil)
    (pss_one (ps_ret (pe_callU G_need_short (hr.mono (by decide)) rfl T.g_need_short T.F_need_short.kp T.bd_need_short_1 (fun σ => L2N.passAt tk σ) (pa_cons (pe_op op_addA (pe_op op_addA (pe_slice sl_any (pv 1) po_none (po_some (pv 2))) (pv 6)) (pe_slice sl_any (pv 1) (po_some (pe_op op_addA (pv 2) (pe_callB call_lenA (by rfl) T.n_len PySem.boot_len (pa_cons (pv 5) pa_nil)))) po_none)) pa_nil) pk_nil)))))), (rf_seq (rf_drop (rf_methU (GOk.app) (rf_fld rf_var) (rf_cons rf_var rf_nil) rf_nil))
    (rf_seq (rf_asgG (rf_methU (GOk.app) rf_var (rf_cons rf_var (rf_cons rf_var rf_nil)) rf_nil) (rf_gtup (rf_gcons rf_name (rf_gcons rf_name rf_gnil))))
    (rf_seq (rf_ifS (rf_or (rf_not (rf_chainT rfo_cmp rfo_cmp rf_int rf_var (rf_cb rfc_len (rf_cons rf_var rf_nil)))) (rf_not (rf_B (rf_bmS rfm_startswith3 rf_var (rf_cons rf_var (rf_cons rf_var rf_nil)))))) (rf_raise1 T.ox_NoStep.toOexG (rf_cons rf_var rf_nil)) rf_next)
    (rf_ret (rf_callU (GOk.app) (rf_cons (rf_op rfo_add (rf_op rfo_add (rf_sl rfsl_any rf_var rf_noP (rf_part rf_var)) rf_var) (rf_sl rfsl_any rf_var (rf_part (rf_op rfo_add rf_var (rf_cb rfc_len (rf_cons rf_var rf_nil)))) rf_noP)) rf_nil) rf_nil)))))⟩
def D_law_deal (K : PySem.W.Frag) : DS := (dSeq (dAsg 1 (dOp dAdd (dC (.int 9461)) (dOp dMul (dC (.int 77)) (dCB dLen (dCons (dSl dSlU (dVar 0) dNoP (dPart (dC (.int 63)))) dNil)))))
    (dSeq (dFor (dItL (dSl dSlU (dVar 0) dNoP (dPart (dC (.int 63))))) (dName 2) (dAsg 1 (dOp dMod (dOp dAdd (dOp dAdd (dOp dMul (dVar 1) (dC (.int 39373))) (dOp dMul (dOp dMod (dVar 2) (dC (.int 2147483629))) (dC (.int 53)))) (dC (.int 11))) (dC (.int 2147483563)))))
    (dRetN (dLst (dCons (dN (dCBN dList (dCons (dSl dSlU (dVar 0) dNoP (dPart (dC (.int 63)))) dNil))) (dCons (dC (.int 0)) (dCons (dC (.int 0)) (dCons (dVar 1) (dCons (dC (.int 0)) dNil)))))))))
theorem rd_law_deal (T : Txt K mg) {cdv : Value} {A : Around} {outer : List PySem.Env} {s : Shared} {H : Hp} {E : XK} (hr : Room 0 (A.deeper (envOfC "_law_deal" (defScope s_law_deal) s.heap.objs.size (a_law_deal K) cdv))) :
  ∃ t, PSs (cxOf CX0 P w K mg base ["script", "mixed", "cell"] "_law_deal" (defScope s_law_deal) (a_law_deal K) cdv A outer s H E).nox (defBody s_law_deal) t ∧ RfS (kw0 K) t (D_law_deal K) :=
  ⟨_, (pss_cons (ps_set (i := 1) sc_law_deal.nd rfl (Or.inl rfl) (pe_op op_addA pe_int (pe_op op_mulA pe_int (pe_callB call_lenA (by rfl) T.n_len PySem.boot_len (pa_cons (pe_slice sl_any (pv 0) po_none (po_some pe_int)) pa_nil)))))
    (pss_cons (ps_for PassesOwn.never rfl (pi_list (pe_slice sl_any (pv 0) po_none (po_some pe_int))) (pg_name (i := 2) sc_law_deal.nd rfl (Or.inl rfl))
      (pss_one (ps_set (i := 1) sc_law_deal.nd rfl (Or.inl rfl) (pe_op op_mod (pe_op op_addA (pe_op op_addA (pe_op op_mulA (pv 1) pe_int) (pe_op op_mulA (pe_op op_mod (pv 2) pe_int) pe_int)) pe_int) pe_int))))
    (pss_one (ps_ret (pe_lst (pa_cons (pe_callTy (call_listA rfl) (by rfl) T.n_list boot_list (pa_cons (pe_slice sl_any (pv 0) po_none (po_some pe_int)) pa_nil)) (pa_cons pe_int (pa_cons pe_int (pa_cons (pv 1) (pa_cons pe_int pa_nil)))))))))), (rf_seq (rf_asg (rf_op rfo_add rf_int (rf_op rfo_mul rf_int (rf_cb rfc_len (rf_cons (rf_sl rfsl_any rf_var rf_noP (rf_part rf_int)) rf_nil)))))
    (rf_seq (rf_for (rf_itL (rf_sl rfsl_any rf_var rf_noP (rf_part rf_int))) rf_name (rf_asg (rf_op rfo_I (rf_op rfo_add (rf_op rfo_add (rf_op rfo_mul rf_var rf_int) (rf_op rfo_mul (rf_op rfo_I rf_var rf_int) rf_int)) rf_int) rf_int)))
    (rf_retN (rf_lst (rf_cons (RfN.rfe (rf_cbN rfc_list (rf_cons (rf_sl rfsl_any rf_var rf_noP (rf_part rf_int)) rf_nil))) (rf_cons rf_int (rf_cons rf_int (rf_cons rf_var (rf_cons rf_int rf_nil)))))))))⟩
def D_law_of (K : PySem.W.Frag) : DS := (dRet (dOp dIx (dVar 1) (dCall (S_law_pick K) (dCons (dVar 0) (dCons (dCB dLen (dCons (dVar 1) dNil)) dNil)))))
theorem rd_law_of (T : Txt K mg) (G_law_pick : FnOk P w K mg base CX0 1 (a_law_pick K) (fdOf K (a_law_pick K)) ["deal", "many"] (spD K (S_law_pick K))) {cdv : Value} {A : Around} {outer : List PySem.Env} {s : Shared} {H : Hp} {E : XK} (hr : Room 1 (A.deeper (envOfC "_law_of" (defScope s_law_of) s.heap.objs.size (a_law_of K) cdv))) :
  ∃ t, PSs (cxOf CX0 P w K mg base ["deal", "some"] "_law_of" (defScope s_law_of) (a_law_of K) cdv A outer s H E).nox (defBody s_law_of) t ∧ RfS (kw0 K) t (D_law_of K) :=
  ⟨_, (pss_one (ps_ret (pe_ix ix_seq (pv 1) (pe_call G_law_pick (hr.mono (by decide)) rfl T.g_law_pick T.F_law_pick.kp T.b_law_pick .nil pass0 (pa_cons (pv 0) (pa_cons (pe_callB call_lenA (by rfl) T.n_len PySem.boot_len (pa_cons (pv 1) pa_nil)) pa_nil))) (fun _ _ => rfl)))), (rf_ret (rf_op rfo_ix rf_var (rf_call (rf_cons rf_var (rf_cons (rf_cb rfc_len (rf_cons rf_var rf_nil)) rf_nil)))))⟩
def D_law_like (K : PySem.W.Frag) (S : DL.Spec) : DS := (dSeq (dIfS (dTest (dIs2 "list" "tuple" (dVar 1))) (dSeq (dIfS (dOr (dTest (dOp dNe (dCB dIsi (dCons (dVar 0) (dCons (dC (.ty "list")) dNil))) (dCB dIsi (dCons (dVar 1) (dCons (dC (.ty "list")) dNil))))) (dTest (dOp dNe (dCB dIsi (dCons (dVar 0) (dCons (dC (.ty "tuple")) dNil))) (dCB dIsi (dCons (dVar 1) (dCons (dC (.ty "tuple")) dNil)))))) (dRet (dC (.bl false))) dNext)
    (dRet (dAndV (dOp dEq (dCB dLen (dCons (dVar 0) dNil)) (dCB dLen (dCons (dVar 1) dNil))) (dCB dAll (dCons (dN (dLc (dItR1 (dCons (dCB dLen (dCons (dVar 1) dNil)) dNil)) (dName 2) dYes (dCall S (dCons (dOp dIx (dVar 0) (dVar 2)) (dCons (dOp dIx (dVar 1) (dVar 2)) dNil))) [2])) dNil))))) dNext)
    (dSeq (dIfS (dOr (dTest (dIsN (dVar 1))) (dTest (dIsN (dVar 0)))) (dRet (dAndV (dIsN (dVar 1)) (dIsN (dVar 0)))) dNext)
    (dSeq (dIfS (dOr (dTest (dOp dNe (dCB dIsi (dCons (dVar 0) (dCons (dC (.ty "bool")) dNil))) (dCB dIsi (dCons (dVar 1) (dCons (dC (.ty "bool")) dNil))))) (dTest (dOp dNe (dCB dIsi (dCons (dVar 0) (dCons (dC (.ty "int")) dNil))) (dCB dIsi (dCons (dVar 1) (dCons (dC (.ty "int")) dNil)))))) (dRet (dC (.bl false))) dNext)
    (dRet (dAndV (dOp dEq (dCB dIsi (dCons (dVar 0) (dCons (dC (.ty "str")) dNil))) (dCB dIsi (dCons (dVar 1) (dCons (dC (.ty "str")) dNil)))) (dOp dEq (dVar 0) (dVar 1)))))))
theorem rd_law_like (T : Txt K mg) (S : DL.Spec) {kk : Nat} (G_law_like : FnOk P w K mg base CX0 kk (a_law_like K) (fdOf K (a_law_like K)) ["found", "due"] (spD K S)) {rm : Nat} (hkk : kk ≤ rm) {cdv : Value} {A : Around} {outer : List PySem.Env} {s : Shared} {H : Hp} {E : XK} (hr : Room rm (A.deeper (envOfC "_law_like" (defScope s_law_like) s.heap.objs.size (a_law_like K) cdv))) :
  ∃ t, PSs (cxOf CX0 P w K mg base ["found", "due", "k"] "_law_like" (defScope s_law_like) (a_law_like K) cdv A outer s H E).nox (defBody s_law_like) t ∧ RfS (kw0 K) t (D_law_like K S) :=
  ⟨_, (pss_cons (ps_if (pt_val (pe_callB call_isiT (by rfl) T.n_isinstance boot_isinstance (pa_cons (pv 1) (pa_cons (pe_tup (pa_cons (pe_bltn rfl T.n_list boot_list (v := .ty "list") rfl) (pa_cons (pe_bltn rfl T.n_tuple boot_tuple (v := .ty "tuple") rfl) pa_nil))) pa_nil)))) (pss_cons (ps_if (PW.pt (pw_or (pt_cmpR (op_neD (hu64 hr)) (pe_callB call_isi (by rfl) T.n_isinstance boot_isinstance (pa_cons (pv 0) (pa_cons (pe_bltn rfl T.n_list boot_list (v := .ty "list") rfl) pa_nil))) (pe_callB call_isi (by rfl) T.n_isinstance boot_isinstance (pa_cons (pv 1) (pa_cons (pe_bltn rfl T.n_list boot_list (v := .ty "list") rfl) pa_nil))) (nomark _)) (pw_or1 (pt_cmpR (op_neD (hu64 hr)) (pe_callB call_isi (by rfl) T.n_isinstance boot_isinstance (pa_cons (pv 0) (pa_cons (pe_bltn rfl T.n_tuple boot_tuple (v := .ty "tuple") rfl) pa_nil))) (pe_callB call_isi (by rfl) T.n_isinstance boot_isinstance (pa_cons (pv 1) (pa_cons (pe_bltn rfl T.n_tuple boot_tuple (v := .ty "tuple") rfl) pa_nil))) (nomark _))))) (pss_one (ps_ret pe_bl)) pss_nil)
    (pss_one (ps_ret (pe_and (pe_cmpR (op_eqD (hu64 hr)) (pe_callB call_lenA (by rfl) T.n_len PySem.boot_len (pa_cons (pv 0) pa_nil)) (pe_callB call_lenA (by rfl) T.n_len PySem.boot_len (pa_cons (pv 1) pa_nil)) (nomark _)) (pe_one (pe_callB (cr_all rfl) (by rfl) T.n_all (by decide +kernel) (pa_cons (pe_lc (own := [("k", 2)]) rfl sc_law_like.nd (pi_range1 rfl T.n_range (pa_cons (pe_callB call_lenA (by rfl) T.n_len PySem.boot_len (pa_cons (pv 1) pa_nil)) pa_nil)) (blkOk_by (by show blkC ["found", "due", "k"] (defScope s_law_like) _ _ = true; decide +kernel)) (fun _ _ _ _ _ => (pg_name (i := 2) sc_law_like.nd rfl (Or.inl rfl))) (fun _ _ _ _ _ => pts_nil) (fun _ _ _ _ _ => (pe_call G_law_like (hr.mono hkk) rfl T.g_law_like T.F_law_like.kp T.b_law_like .nil pass0 (pa_cons (pe_ix ix_seq (pv 0) (pv 2) (fun _ _ => rfl)) (pa_cons (pe_ix ix_seq (pv 1) (pv 2) (fun _ _ => rfl)) pa_nil))))) pa_nil))))))) pss_nil)
    (pss_cons (ps_if (PW.pt (pw_or (pt_cmp (pc_isN (pv 1))) (pw_or1 (pt_cmp (pc_isN (pv 0)))))) (pss_one (ps_ret (pe_and (pe_cmp (pc_isN (pv 1))) (pe_one (pe_cmp (pc_isN (pv 0))))))) pss_nil)
    (pss_cons (ps_if (PW.pt (pw_or (pt_cmpR (op_neD (hu64 hr)) (pe_callB call_isi (by rfl) T.n_isinstance boot_isinstance (pa_cons (pv 0) (pa_cons (pe_bltn rfl T.n_bool boot_bool (v := .ty "bool") rfl) pa_nil))) (pe_callB call_isi (by rfl) T.n_isinstance boot_isinstance (pa_cons (pv 1) (pa_cons (pe_bltn rfl T.n_bool boot_bool (v := .ty "bool") rfl) pa_nil))) (nomark _)) (pw_or1 (pt_cmpR (op_neD (hu64 hr)) (pe_callB call_isi (by rfl) T.n_isinstance boot_isinstance (pa_cons (pv 0) (pa_cons (pe_bltn rfl T.n_int boot_int (v := .ty "int") rfl) pa_nil))) (pe_callB call_isi (by rfl) T.n_isinstance boot_isinstance (pa_cons (pv 1) (pa_cons (pe_bltn rfl T.n_int boot_int (v := .ty "int") rfl) pa_nil))) (nomark _))))) (pss_one (ps_ret pe_bl)) pss_nil)
    (pss_one (ps_ret (pe_and (pe_cmpR (op_eqD (hu64 hr)) (pe_callB call_isi (by rfl) T.n_isinstance boot_isinstance (pa_cons (pv 0) (pa_cons (pe_bltn rfl T.n_str boot_str (v := .ty "str") rfl) pa_nil))) (pe_callB call_isi (by rfl) T.n_isinstance boot_isinstance (pa_cons (pv 1) (pa_cons (pe_bltn rfl T.n_str boot_str (v := .ty "str") rfl) pa_nil))) (nomark _)) (pe_one (pe_cmpR (op_eqD (hu64 hr)) (pv 0) (pv 1) (nomark _))))))))), (rf_seq (rf_ifS (rf_B (rf_isi2 rf_var)) (rf_seq (rf_ifS (rf_or (rf_test (rf_op rfo_ne (rf_cb rfc_isi (rf_cons rf_var (rf_cons rf_ty rf_nil))) (rf_cb rfc_isi (rf_cons rf_var (rf_cons rf_ty rf_nil))))) (rf_test (rf_op rfo_ne (rf_cb rfc_isi (rf_cons rf_var (rf_cons rf_ty rf_nil))) (rf_cb rfc_isi (rf_cons rf_var (rf_cons rf_ty rf_nil)))))) (rf_ret rf_bl) rf_next)
    (rf_ret (rf_andV (rf_op rfo_eq (rf_cb rfc_len (rf_cons rf_var rf_nil)) (rf_cb rfc_len (rf_cons rf_var rf_nil))) (rf_cb rfc_all (rf_cons (RfN.rfe (rf_lc (rf_itR1 (rf_cons (rf_cb rfc_len (rf_cons rf_var rf_nil)) rf_nil)) (rf_nameW (by decide)) rf_yes (rf_call (rf_cons (rf_op rfo_ix rf_var rf_var) (rf_cons (rf_op rfo_ix rf_var rf_var) rf_nil))))) rf_nil))))) rf_next)
    (rf_seq (rf_ifS (rf_or (rf_B (rf_isN rf_var)) (rf_B (rf_isN rf_var))) (rf_ret (rf_andV (rf_isN rf_var) (rf_isN rf_var))) rf_next)
    (rf_seq (rf_ifS (rf_or (rf_test (rf_op rfo_ne (rf_cb rfc_isi (rf_cons rf_var (rf_cons rf_ty rf_nil))) (rf_cb rfc_isi (rf_cons rf_var (rf_cons rf_ty rf_nil))))) (rf_test (rf_op rfo_ne (rf_cb rfc_isi (rf_cons rf_var (rf_cons rf_ty rf_nil))) (rf_cb rfc_isi (rf_cons rf_var (rf_cons rf_ty rf_nil)))))) (rf_ret rf_bl) rf_next)
    (rf_ret (rf_andV (rf_op rfo_eq (rf_cb rfc_isi (rf_cons rf_var (rf_cons rf_ty rf_nil))) (rf_cb rfc_isi (rf_cons rf_var (rf_cons rf_ty rf_nil)))) (rf_op rfo_eq rf_var rf_var))))))⟩
def D_law_letters (K : PySem.W.Frag) : DS := (dSeq (dAsgN 2 (dCBN dList (dCons (dC (.str "abcdefghijklmnopqrstuvwxyz")) dNil)))
    (dSeq (dAsg 3 (dC (.str "")))
    (dSeq (dFor (dItR1 (dCons (dVar 1) dNil)) (dName 4) (dAsg 3 (dOp dAdd (dVar 3) (dPopAt 2 (dCons (dCall (S_law_pick K) (dCons (dVar 0) (dCons (dLenV 2) dNil))) dNil)))))
    (dRetV 3))))
theorem rd_law_letters (T : Txt K mg) (G_law_pick : FnOk P w K mg base CX0 1 (a_law_pick K) (fdOf K (a_law_pick K)) ["deal", "many"] (spD K (S_law_pick K))) {cdv : Value} {A : Around} {outer : List PySem.Env} {s : Shared} {H : Hp} {E : XK} (hr : Room 1 (A.deeper (envOfC "_law_letters" (defScope s_law_letters) s.heap.objs.size (a_law_letters K) cdv))) :
  ∃ t, PSs (cxOf CX0 P w K mg base ["deal", "many", "left", "found", "k"] "_law_letters" (defScope s_law_letters) (a_law_letters K) cdv A outer s H E).nox (defBody s_law_letters) t ∧ RfS (kw0 K) t (D_law_letters K) :=
  ⟨_, (pss_cons (ps_set (i := 2) sc_law_letters.nd rfl (Or.inl rfl) (pe_callTy (call_listA rfl) (by rfl) T.n_list boot_list (pa_cons pe_str pa_nil)))
    (pss_cons (ps_set (i := 3) sc_law_letters.nd rfl (Or.inl rfl) pe_str)
    (pss_cons (ps_for PassesOwn.never rfl (pi_range1 rfl T.n_range (pa_cons (pv 1) pa_nil)) (pg_name (i := 4) sc_law_letters.nd rfl (Or.inl rfl))
      (pss_one (ps_set (i := 3) sc_law_letters.nd rfl (Or.inl rfl) (pe_op op_addA (pv 3) (pe_bm PySem.F.plainAttrs_list PySem.F.slot_list_pop PySem.F.type_list_pop mt_popAt (pv 2) (pa_cons (pe_call G_law_pick (hr.mono (by decide)) rfl T.g_law_pick T.F_law_pick.kp T.b_law_pick .nil pass0 (pa_cons (pv 0) (pa_cons (pe_callB call_lenA (by rfl) T.n_len PySem.boot_len (pa_cons (pv 2) pa_nil)) pa_nil))) pa_nil))))))
    (pss_one (ps_ret (pv 3)))))), (rf_seq (rf_asgN (rf_cbN rfc_list (rf_cons rf_str rf_nil)))
    (rf_seq (rf_asg rf_str)
    (rf_seq (rf_for (rf_itR1 (rf_cons rf_var rf_nil)) rf_name (rf_asg (rf_op rfo_add rf_var (rf_popAt (rf_cons (rf_call (rf_cons rf_var (rf_cons rf_lenV rf_nil))) rf_nil)))))
    rf_retV)))⟩
def D_law_weights (K : PySem.W.Frag) : DS := (dSeq (dAsg 2 (dCall (S_law_pick K) (dCons (dVar 0) (dCons (dC (.int 4)) dNil))))
    (dSeq (dIfS (dTest (dOp dLtI (dVar 2) (dC (.int 2)))) (dRet (dOp dMul (dTup (dCons (dOp dAdd (dC (.int 1)) (dOp dMul (dVar 2) (dCall (S_law_pick K) (dCons (dVar 0) (dCons (dC (.int 99)) dNil))))) dNil)) (dVar 1))) dNext)
    (dRet (dCB dTuple (dCons (dN (dLc (dItR1 (dCons (dVar 1) dNil)) (dName 3) dYes (dOp dAdd (dC (.int 1)) (dCall (S_law_pick K) (dCons (dVar 0) (dCons (dOp dIx (dN (dLst (dCons (dC (.int 3)) (dCons (dC (.int 99)) dNil)))) (dOp dSub (dVar 2) (dC (.int 2)))) dNil)))) [3])) dNil)))))
theorem rd_law_weights (T : Txt K mg) (G_law_pick : FnOk P w K mg base CX0 1 (a_law_pick K) (fdOf K (a_law_pick K)) ["deal", "many"] (spD K (S_law_pick K))) {cdv : Value} {A : Around} {outer : List PySem.Env} {s : Shared} {H : Hp} {E : XK} (hr : Room 1 (A.deeper (envOfC "_law_weights" (defScope s_law_weights) s.heap.objs.size (a_law_weights K) cdv))) :
  ∃ t, PSs (cxOf CX0 P w K mg base ["deal", "many", "way", "k"] "_law_weights" (defScope s_law_weights) (a_law_weights K) cdv A outer s H E).nox (defBody s_law_weights) t ∧ RfS (kw0 K) t (D_law_weights K) :=
  ⟨_, (pss_cons (ps_set (i := 2) sc_law_weights.nd rfl (Or.inr rfl) (pe_call G_law_pick (hr.mono (by decide)) rfl T.g_law_pick T.F_law_pick.kp T.b_law_pick .nil pass0 (pa_cons (pv 0) (pa_cons pe_int pa_nil))))
    (pss_cons (ps_if (pt_cmpR op_lt (pv 2) pe_int (nomark _)) (pss_one (ps_ret (pe_op op_mulA (pe_tup (pa_cons (pe_op op_addA pe_int (pe_op op_mulA (pv 2) (pe_call G_law_pick (hr.mono (by decide)) rfl T.g_law_pick T.F_law_pick.kp T.b_law_pick .nil pass0 (pa_cons (pv 0) (pa_cons pe_int pa_nil))))) pa_nil)) (pv 1)))) pss_nil)
    (pss_one (ps_ret (pe_callTy call_tupA (by rfl) T.n_tuple boot_tuple (pa_cons (pe_lc (own := [("k", 3)]) rfl sc_law_weights.nd (pi_range1 rfl T.n_range (pa_cons (pv 1) pa_nil)) (blkOk_by (by show blkC ["deal", "many", "way", "k"] (defScope s_law_weights) _ _ = true; decide +kernel)) (fun _ _ _ _ _ => (pg_name (i := 3) sc_law_weights.nd rfl (Or.inl rfl))) (fun _ _ _ _ _ => pts_nil) (fun _ _ _ _ _ => (pe_op op_addA pe_int (pe_call G_law_pick (hr.mono (by decide)) rfl T.g_law_pick T.F_law_pick.kp T.b_law_pick .nil pass0 (pa_cons (pv 0) (pa_cons (pe_ix ix_seq (pe_lst (pa_cons pe_int (pa_cons pe_int pa_nil))) (pe_op op_sub (pv 2) pe_int) (fun _ _ => rfl)) pa_nil)))))) pa_nil)))))), (rf_seq (rf_asg (rf_call (rf_cons rf_var (rf_cons rf_int rf_nil))))
    (rf_seq (rf_ifS (rf_test (rf_op rfo_cmp rf_var rf_int)) (rf_ret (rf_op rfo_mul (rf_tup (rf_cons (rf_op rfo_add rf_int (rf_op rfo_mul rf_var (rf_call (rf_cons rf_var (rf_cons rf_int rf_nil))))) rf_nil)) rf_var)) rf_next)
    (rf_ret (rf_cb rfc_tuple (rf_cons (RfN.rfe (rf_lc (rf_itR1 (rf_cons rf_var rf_nil)) (rf_nameW (by decide)) rf_yes (rf_op rfo_add rf_int (rf_call (rf_cons rf_var (rf_cons (rf_op rfo_ix (RfN.rfe (rf_lst (rf_cons rf_int (rf_cons rf_int rf_nil)))) (rf_op rfo_I0 rf_var rf_int)) rf_nil)))))) rf_nil)))))⟩
def D_law_word (K : PySem.W.Frag) : DS := (dRet (dBMS dJoin (dC (.str "")) (dCons (dN (dLc (dItR1 (dCons (dCall (S_law_pick K) (dCons (dVar 0) (dCons (dOp dAdd (dVar 2) (dC (.int 1))) dNil))) dNil)) (dName 3) dYes (dCall (S_law_of K) (dCons (dVar 0) (dCons (dVar 1) dNil))) [3])) dNil)))
theorem rd_law_word (T : Txt K mg) (G_law_pick : FnOk P w K mg base CX0 1 (a_law_pick K) (fdOf K (a_law_pick K)) ["deal", "many"] (spD K (S_law_pick K))) (G_law_of : FnOk P w K mg base CX0 2 (a_law_of K) (fdOf K (a_law_of K)) ["deal", "some"] (spD K (S_law_of K))) {cdv : Value} {A : Around} {outer : List PySem.Env} {s : Shared} {H : Hp} {E : XK} (hr : Room 2 (A.deeper (envOfC "_law_word" (defScope s_law_word) s.heap.objs.size (a_law_word K) cdv))) :
  ∃ t, PSs (cxOf CX0 P w K mg base ["deal", "letters", "most", "k"] "_law_word" (defScope s_law_word) (a_law_word K) cdv A outer s H E).nox (defBody s_law_word) t ∧ RfS (kw0 K) t (D_law_word K) :=
  ⟨_, (pss_one (ps_ret (pe_bm PySem.F.plainAttrs_str PySem.F.slot_str_join PySem.F.type_str_join mt_join pe_str (pa_cons (pe_lc (own := [("k", 3)]) rfl sc_law_word.nd (pi_range1 rfl T.n_range (pa_cons (pe_call G_law_pick (hr.mono (by decide)) rfl T.g_law_pick T.F_law_pick.kp T.b_law_pick .nil pass0 (pa_cons (pv 0) (pa_cons (pe_op op_addA (pv 2) pe_int) pa_nil))) pa_nil)) (blkOk_by (by show blkC ["deal", "letters", "most", "k"] (defScope s_law_word) _ _ = true; decide +kernel)) (fun _ _ _ _ _ => (pg_name (i := 3) sc_law_word.nd rfl (Or.inl rfl))) (fun _ _ _ _ _ => pts_nil) (fun _ _ _ _ _ => (pe_call G_law_of (hr.mono (by decide)) rfl T.g_law_of T.F_law_of.kp T.b_law_of .nil pass0 (pa_cons (pv 0) (pa_cons (pv 1) pa_nil))))) pa_nil)))), (rf_ret (rf_bmS rfm_join rf_str (rf_cons (RfN.rfe (rf_lc (rf_itR1 (rf_cons (rf_call (rf_cons rf_var (rf_cons (rf_op rfo_add rf_var rf_int) rf_nil))) rf_nil)) (rf_nameW (by decide)) rf_yes (rf_call (rf_cons rf_var (rf_cons rf_var rf_nil))))) rf_nil)))⟩
def D_law_rank (K : PySem.W.Frag) : DS := (dSeq (dAsgN 2 (dLc (dItS (dVar 1)) (dName 3) dYes (dIndex (dOp dIx (dVar 0) (dC (.int 0))) (dCons (dVar 3) dNil)) [3]))
    (dRet (dTup (dCons (dCB dSum (dCons (dN (dLc (dItL (dVar 2)) (dName 4) dYes (dOp dIx (dOp dIx (dVar 0) (dC (.int 1))) (dVar 4)) [4])) dNil)) (dCons (dCB dLen (dCons (dVar 1) dNil)) (dCons (dVar 2) dNil))))))
theorem rd_law_rank (T : Txt K mg) {cdv : Value} {A : Around} {outer : List PySem.Env} {s : Shared} {H : Hp} {E : XK} (hr : Room 0 (A.deeper (envOfC "_law_rank" (defScope s_law_rank) s.heap.objs.size (a_law_rank K) cdv))) :
  ∃ t, PSs (cxOf CX0 P w K mg base ["m", "word", "spots", "sign", "spot"] "_law_rank" (defScope s_law_rank) (a_law_rank K) cdv A outer s H E).nox (defBody s_law_rank) t ∧ RfS (kw0 K) t (D_law_rank K) :=
  ⟨_, (pss_cons (ps_setLc (own := [("sign", 3)]) (i := 2) rfl sc_law_rank.nd rfl rfl (sw_true rfl rfl rfl (by decide +kernel)) (pi_str (pv 1)) (blkOk_by (by show blkC ["m", "word", "spots", "sign", "spot"] (defScope s_law_rank) _ _ = true; decide +kernel)) (fun _ _ _ _ _ => (pg_name (i := 3) sc_law_rank.nd rfl (Or.inl rfl))) (fun _ _ _ _ _ => pts_nil) (fun _ _ _ _ _ => (pe_bmS PySem.F.plainAttrs_str PySem.F.slot_str_index PySem.F.type_str_index (mt_indexX rfl takesF) (pe_ix ix_seq (pv 0) pe_int (fun _ _ => rfl)) (pa_cons (pv 3) pa_nil))))
    (pss_one (ps_ret (pe_tup (pa_cons (pe_callB (cr_sum rfl) (by rfl) T.n_sum (by decide +kernel) (pa_cons (pe_lc (own := [("spot", 4)]) rfl sc_law_rank.nd (pi_list (pv 2)) (blkOk_by (by show blkC ["m", "word", "spots", "sign", "spot"] (defScope s_law_rank) _ _ = true; decide +kernel)) (fun _ _ _ _ _ => (pg_name (i := 4) sc_law_rank.nd rfl (Or.inl rfl))) (fun _ _ _ _ _ => pts_nil) (fun _ _ _ _ _ => (pe_ix ix_seq (pe_ix ix_seq (pv 0) pe_int (fun _ _ => rfl)) (pv 4) (fun _ _ => rfl)))) pa_nil)) (pa_cons (pe_callB call_lenA (by rfl) T.n_len PySem.boot_len (pa_cons (pv 1) pa_nil)) (pa_cons (pv 2) pa_nil))))))), (rf_seq (rf_asgN (rf_lc (rf_itS rf_var) (rf_nameW (by decide)) rf_yes (rf_index (rf_op rfo_ix rf_var rf_int) (rf_cons rf_var rf_nil))))
    (rf_ret (rf_tup (rf_cons (rf_cb rfc_sum (rf_cons (RfN.rfe (rf_lc (rf_itL rf_var) (rf_nameW (by decide)) rf_yes (rf_op rfo_ix (rf_op rfo_ix rf_var rf_int) rf_var))) rf_nil)) (rf_cons (rf_cb rfc_len (rf_cons rf_var rf_nil)) (rf_cons rf_var rf_nil))))))⟩
def D_law_oriented (K : PySem.W.Frag) : DS := (dRet (dIf (dTest (dOp dGtR (dCall (S_law_rank K) (dCons (dVar 0) (dCons (dVar 1) dNil))) (dCall (S_law_rank K) (dCons (dVar 0) (dCons (dVar 2) dNil))))) (dTup (dCons (dVar 1) (dCons (dVar 2) dNil))) (dTup (dCons (dVar 2) (dCons (dVar 1) dNil)))))
theorem rd_law_oriented (T : Txt K mg) (G_law_rank : FnOk P w K mg base CX0 1 (a_law_rank K) (fdOf K (a_law_rank K)) ["m", "word"] (spD K (S_law_rank K))) {cdv : Value} {A : Around} {outer : List PySem.Env} {s : Shared} {H : Hp} {E : XK} (hr : Room 1 (A.deeper (envOfC "_law_oriented" (defScope s_law_oriented) s.heap.objs.size (a_law_oriented K) cdv))) :
  ∃ t, PSs (cxOf CX0 P w K mg base ["m", "one", "other"] "_law_oriented" (defScope s_law_oriented) (a_law_oriented K) cdv A outer s H E).nox (defBody s_law_oriented) t ∧ RfS (kw0 K) t (D_law_oriented K) :=
  ⟨_, (pss_one (ps_ret (pe_ifExp (pt_cmpR (op_gtR (hu64 hr)) (pe_call G_law_rank (hr.mono (by decide)) rfl T.g_law_rank T.F_law_rank.kp T.b_law_rank .nil pass0 (pa_cons (pv 0) (pa_cons (pv 1) pa_nil))) (pe_call G_law_rank (hr.mono (by decide)) rfl T.g_law_rank T.F_law_rank.kp T.b_law_rank .nil pass0 (pa_cons (pv 0) (pa_cons (pv 2) pa_nil))) (nomark _)) (pe_tup (pa_cons (pv 1) (pa_cons (pv 2) pa_nil))) (pe_tup (pa_cons (pv 2) (pa_cons (pv 1) pa_nil)))))), (rf_ret (rf_if (rf_test (rf_op rfo_gtR (rf_call (rf_cons rf_var (rf_cons rf_var rf_nil))) (rf_call (rf_cons rf_var (rf_cons rf_var rf_nil))))) (rf_tup (rf_cons rf_var (rf_cons rf_var rf_nil))) (rf_tup (rf_cons rf_var (rf_cons rf_var rf_nil)))))⟩
def D_law_any_list (K : PySem.W.Frag) : DS := (dSeq (dAsg 2 (dOp dAdd (dC (.int 1)) (dCall (S_law_pick K) (dCons (dVar 0) (dCons (dCall (S_law_of K) (dCons (dVar 0) (dCons (dN (dLst (dCons (dC (.int 2)) (dCons (dC (.int 3)) (dCons (dC (.int 8)) dNil))))) dNil))) dNil)))))
    (dSeq (dAsgBox 3 (dCall (S_law_letters K) (dCons (dVar 0) (dCons (dVar 2) dNil))) (dCall (S_law_weights K) (dCons (dVar 0) (dCons (dVar 2) dNil))))
    (dSeq (dAsg 4 (dCall (S_law_of K) (dCons (dVar 0) (dCons (dN (dLst (dCons (dC (.int 2)) (dCons (dC (.int 3)) (dCons (dC (.int 4)) dNil))))) dNil))))
    (dSeq (dFor (dItR1 (dCons (dCall (S_law_pick K) (dCons (dVar 0) (dCons (dOp dAdd (dVar 1) (dC (.int 1))) dNil))) dNil)) (dName 5) (dSeq (dPar 6 7 (dCons (dCall (S_law_word K) (dCons (dVar 0) (dCons (dOp dIx (dVar 3) (dC (.int 0))) (dCons (dVar 4) dNil)))) (dCons (dCall (S_law_word K) (dCons (dVar 0) (dCons (dOp dIx (dVar 3) (dC (.int 0))) (dCons (dVar 4) dNil)))) dNil)))
    (dIfS (dTest (dOp dNe (dVar 6) (dVar 7))) (dBoxApp 3 (dCall (S_law_oriented K) (dCons (dVar 3) (dCons (dVar 6) (dCons (dVar 7) dNil))))) dNext)))
    (dRetV 3)))))
theorem rd_law_any_list (T : Txt K mg) (G_law_pick : FnOk P w K mg base CX0 1 (a_law_pick K) (fdOf K (a_law_pick K)) ["deal", "many"] (spD K (S_law_pick K))) (G_law_of : FnOk P w K mg base CX0 2 (a_law_of K) (fdOf K (a_law_of K)) ["deal", "some"] (spD K (S_law_of K))) (G_law_letters : FnOk P w K mg base CX0 2 (a_law_letters K) (fdOf K (a_law_letters K)) ["deal", "many"] (spD K (S_law_letters K))) (G_law_weights : FnOk P w K mg base CX0 2 (a_law_weights K) (fdOf K (a_law_weights K)) ["deal", "many"] (spD K (S_law_weights K))) (G_law_word : FnOk P w K mg base CX0 3 (a_law_word K) (fdOf K (a_law_word K)) ["deal", "letters", "most"] (spD K (S_law_word K))) (G_law_oriented : FnOk P w K mg base CX0 2 (a_law_oriented K) (fdOf K (a_law_oriented K)) ["m", "one", "other"] (spD K (S_law_oriented K))) {cdv : Value} {A : Around} {outer : List PySem.Env} {s : Shared} {H : Hp} {E : XK} (hr : Room 3 (A.deeper (envOfC "_law_any_list" (defScope s_law_any_list) s.heap.objs.size (a_law_any_list K) cdv))) :
  ∃ t, PSs (cxOf CX0 P w K mg base ["deal", "most", "many", "m", "size", "k", "one", "other"] "_law_any_list" (defScope s_law_any_list) (a_law_any_list K) cdv A outer s H E).nox (defBody s_law_any_list) t ∧ RfS (kw0 K) t (D_law_any_list K) :=
  ⟨_, (pss_cons (ps_set (i := 2) sc_law_any_list.nd rfl (Or.inl rfl) (pe_op op_addA pe_int (pe_call G_law_pick (hr.mono (by decide)) rfl T.g_law_pick T.F_law_pick.kp T.b_law_pick .nil pass0 (pa_cons (pv 0) (pa_cons (pe_call G_law_of (hr.mono (by decide)) rfl T.g_law_of T.F_law_of.kp T.b_law_of .nil pass0 (pa_cons (pv 0) (pa_cons (pe_lst (pa_cons pe_int (pa_cons pe_int (pa_cons pe_int pa_nil)))) pa_nil))) pa_nil)))))
    (pss_cons (ps_set (i := 3) sc_law_any_list.nd rfl (Or.inl rfl) (pe_tup (pa_cons (pe_call G_law_letters (hr.mono (by decide)) rfl T.g_law_letters T.F_law_letters.kp T.b_law_letters .nil pass0 (pa_cons (pv 0) (pa_cons (pv 2) pa_nil))) (pa_cons (pe_call G_law_weights (hr.mono (by decide)) rfl T.g_law_weights T.F_law_weights.kp T.b_law_weights .nil pass0 (pa_cons (pv 0) (pa_cons (pv 2) pa_nil))) (pa_cons (pe_lst pa_nil) pa_nil)))))
    (pss_cons (ps_set (i := 4) sc_law_any_list.nd rfl (Or.inl rfl) (pe_call G_law_of (hr.mono (by decide)) rfl T.g_law_of T.F_law_of.kp T.b_law_of .nil pass0 (pa_cons (pv 0) (pa_cons (pe_lst (pa_cons pe_int (pa_cons pe_int (pa_cons pe_int pa_nil)))) pa_nil))))
    (pss_cons (ps_for PassesOwn.never rfl (pi_range1 rfl T.n_range (pa_cons (pe_call G_law_pick (hr.mono (by decide)) rfl T.g_law_pick T.F_law_pick.kp T.b_law_pick .nil pass0 (pa_cons (pv 0) (pa_cons (pe_op op_addA (pv 1) pe_int) pa_nil))) pa_nil)) (pg_name (i := 5) sc_law_any_list.nd rfl (Or.inl rfl))
      (pss_cons (ps_par (i := 6) (j := 7) rfl sc_law_any_list.nd rfl rfl (by decide) rfl rfl (pa_cons (pe_call G_law_word (hr.mono (by decide)) rfl T.g_law_word T.F_law_word.kp T.b_law_word .nil pass0 (pa_cons (pv 0) (pa_cons (pe_ix ix_seq (pv 3) pe_int (fun _ _ => rfl)) (pa_cons (pv 4) pa_nil)))) (pa_cons (pe_call G_law_word (hr.mono (by decide)) rfl T.g_law_word T.F_law_word.kp T.b_law_word .nil pass0 (pa_cons (pv 0) (pa_cons (pe_ix ix_seq (pv 3) pe_int (fun _ _ => rfl)) (pa_cons (pv 4) pa_nil)))) pa_nil)) (by first | rfl | kernel_rfl))
    (pss_one (ps_if (pt_cmpR (op_neD (hu64 hr)) (pv 6) (pv 7) (nomark _)) (pss_one (ps_expr (pe_bm PySem.F.plainAttrs_list PySem.F.slot_list_append PySem.F.type_list_append mt_append (pe_ix ix_seq (pv 3) pe_int (fun _ _ => rfl)) (pa_cons (pe_call G_law_oriented (hr.mono (by decide)) rfl T.g_law_oriented T.F_law_oriented.kp T.b_law_oriented .nil pass0 (pa_cons (pv 3) (pa_cons (pv 6) (pa_cons (pv 7) pa_nil)))) pa_nil)))) pss_nil))))
    (pss_one (ps_ret (pv 3))))))), (rf_seq (rf_asg (rf_op rfo_add rf_int (rf_call (rf_cons rf_var (rf_cons (rf_call (rf_cons rf_var (rf_cons (RfN.rfe (rf_lst (rf_cons rf_int (rf_cons rf_int (rf_cons rf_int rf_nil))))) rf_nil))) rf_nil)))))
    (rf_seq (rf_asgBox (rf_call (rf_cons rf_var (rf_cons rf_var rf_nil))) (rf_call (rf_cons rf_var (rf_cons rf_var rf_nil))))
    (rf_seq (rf_asg (rf_call (rf_cons rf_var (rf_cons (RfN.rfe (rf_lst (rf_cons rf_int (rf_cons rf_int (rf_cons rf_int rf_nil))))) rf_nil))))
    (rf_seq (rf_for (rf_itR1 (rf_cons (rf_call (rf_cons rf_var (rf_cons (rf_op rfo_add rf_var rf_int) rf_nil))) rf_nil)) rf_name (rf_seq (rf_par (rf_cons (rf_call (rf_cons rf_var (rf_cons (rf_op rfo_ix rf_var rf_int) (rf_cons rf_var rf_nil)))) (rf_cons (rf_call (rf_cons rf_var (rf_cons (rf_op rfo_ix rf_var rf_int) (rf_cons rf_var rf_nil)))) rf_nil)))
    (rf_ifS (rf_test (rf_op rfo_ne rf_var rf_var)) (rf_boxApp (rf_call (rf_cons rf_var (rf_cons rf_var (rf_cons rf_var rf_nil))))) rf_next)))
    rf_retV))))⟩
def D_law_scale_of (K : PySem.W.Frag) : DS := (dRet (dMakeU (c_Scale K) (S_Scale_init K) 2 1 (fun ds es => ds ++ es) dXF (dCons (dOp dIx (dVar 0) (dC (.int 0))) dNil) (dCons (dOp dIx (dVar 0) (dC (.int 1))) dNil)))
theorem rd_law_scale_of (T : Txt K mg) (G_Scale_init : FnOk P w K mg base (L2N.CX P w) 3 (a_Scale_init K) (fdOf K (a_Scale_init K)) ["self", "letters", "weights"] (spIX K (c_Scale K) (S_Scale_init K))) {cdv : Value} {A : Around} {outer : List PySem.Env} {s : Shared} {H : Hp} {E : XK} (hr : Room 4 (A.deeper (envOfC "_law_scale_of" (defScope s_law_scale_of) s.heap.objs.size (a_law_scale_of K) cdv))) :
  ∃ t, PSs (cxOf CX0 P w K mg base ["m"] "_law_scale_of" (defScope s_law_scale_of) (a_law_scale_of K) cdv A outer s H E).nox (defBody s_law_scale_of) t ∧ RfS (kw0 K) t (D_law_scale_of K) :=
  ⟨_, (pss_one (ps_ret (pe_makeU T.mk_Scale G_Scale_init (hr.mono (by decide)) rfl T.gc_Scale T.bd_Scale_init_2_weights (fun σ => passN takes0 σ) (pa_cons (pe_ix ix_seq (pv 0) pe_int (fun _ _ => rfl)) pa_nil) (pk_cons (pe_ix ix_seq (pv 0) pe_int (fun _ _ => rfl)) pk_nil)))), (rf_ret (rf_makeU (GOkI.app) (rf_cons (rf_op rfo_ix rf_var rf_int) rf_nil) (rf_cons (rf_op rfo_ix rf_var rf_int) rf_nil)))⟩
def D_law_rules_of (K : PySem.W.Frag) : DS := (dRet (dMakeU (c_Rules K) (S_Rules_init K) 3 0 (fun ds _ => ds ++ []) dXF (dCons (dCall (S_law_scale_of K) (dCons (dVar 0) dNil)) (dCons (dOp dIx (dVar 0) (dC (.int 2))) dNil)) dNil))
theorem rd_law_rules_of (T : Txt K mg) (G_Rules_init : FnOk P w K mg base (L2N.CX P w) 9 (a_Rules_init K) (fdOf K (a_Rules_init K)) ["self", "scale", "rules"] (spIX K (c_Rules K) (S_Rules_init K))) (G_law_scale_of : FnOk P w K mg base CX0 5 (a_law_scale_of K) (fdOf K (a_law_scale_of K)) ["m"] (spD K (S_law_scale_of K))) {cdv : Value} {A : Around} {outer : List PySem.Env} {s : Shared} {H : Hp} {E : XK} (hr : Room 10 (A.deeper (envOfC "_law_rules_of" (defScope s_law_rules_of) s.heap.objs.size (a_law_rules_of K) cdv))) :
  ∃ t, PSs (cxOf CX0 P w K mg base ["m"] "_law_rules_of" (defScope s_law_rules_of) (a_law_rules_of K) cdv A outer s H E).nox (defBody s_law_rules_of) t ∧ RfS (kw0 K) t (D_law_rules_of K) :=
  ⟨_, (pss_one (ps_ret (pe_makeU T.mk_Rules G_Rules_init (hr.mono (by decide)) rfl T.gc_Rules T.bd_Rules_init_3 (fun σ => passN takes0 σ) (pa_cons (pe_call G_law_scale_of (hr.mono (by decide)) rfl T.g_law_scale_of T.F_law_scale_of.kp T.b_law_scale_of .nil pass0 (pa_cons (pv 0) pa_nil)) (pa_cons (pe_ix ix_seq (pv 0) pe_int (fun _ _ => rfl)) pa_nil)) pk_nil))), (rf_ret (rf_makeU (GOkI.dfl (by intro da G; exact (.nil))) (rf_cons (rf_call (rf_cons rf_var rf_nil)) (rf_cons (rf_op rfo_ix rf_var rf_int) rf_nil)) rf_nil))⟩
def D_law_standing (K : PySem.W.Frag) : DS := (dSeq (dAsgN 2 (dLst dNil))
    (dSeq (dFor (dItR1 (dCons (dCB dLen (dCons (dVar 1) dNil)) dNil)) (dName 3) (dFor (dItE (dCons (dVar 0) dNil)) (dGTup 2 (dGCons (dName 4) (dGCons (dGTup 2 (dGCons (dName 5) (dGCons (dName 6) dGNil))) dGNil))) (dIfS (dTest (dOp dEq (dSl dSlU (dVar 1) (dPart (dVar 3)) (dPart (dOp dAdd (dVar 3) (dCB dLen (dCons (dVar 5) dNil))))) (dVar 5))) (dApp 2 (dCons (dTup (dCons (dVar 3) (dCons (dVar 4) dNil))) dNil)) dNext)))
    (dRetV 2)))
theorem rd_law_standing (T : Txt K mg) {cdv : Value} {A : Around} {outer : List PySem.Env} {s : Shared} {H : Hp} {E : XK} (hr : Room 0 (A.deeper (envOfC "_law_standing" (defScope s_law_standing) s.heap.objs.size (a_law_standing K) cdv))) :
  ∃ t, PSs (cxOf CX0 P w K mg base ["pairs", "word", "found", "at", "number", "left", "right"] "_law_standing" (defScope s_law_standing) (a_law_standing K) cdv A outer s H E).nox (defBody s_law_standing) t ∧ RfS (kw0 K) t (D_law_standing K) :=
  ⟨_, (pss_cons (ps_set (i := 2) sc_law_standing.nd rfl (Or.inl rfl) (pe_lst pa_nil))
    (pss_cons (ps_for PassesOwn.never rfl (pi_range1 rfl T.n_range (pa_cons (pe_callB call_lenA (by rfl) T.n_len PySem.boot_len (pa_cons (pv 1) pa_nil)) pa_nil)) (pg_name (i := 3) sc_law_standing.nd rfl (Or.inl rfl))
      (pss_one (ps_for PassesOwn.never rfl (pi_enum rfl T.n_enumerate (pa_cons (pv 0) pa_nil)) (pg_tup rfl (pgs_cons (pg_name (i := 4) sc_law_standing.nd rfl (Or.inl rfl)) (pgs_cons (pg_tup rfl (pgs_cons (pg_name (i := 5) sc_law_standing.nd rfl (Or.inl rfl)) (pgs_cons (pg_name (i := 6) sc_law_standing.nd rfl (Or.inl rfl)) pgs_nil))) pgs_nil)))
      (pss_one (ps_if (pt_cmpR (op_eqD (hu64 hr)) (pe_slice sl_any (pv 1) (po_some (pv 3)) (po_some (pe_op op_addA (pv 3) (pe_callB call_lenA (by rfl) T.n_len PySem.boot_len (pa_cons (pv 5) pa_nil))))) (pv 5) (nomark _)) (pss_one (ps_expr (pe_bm PySem.F.plainAttrs_list PySem.F.slot_list_append PySem.F.type_list_append mt_append (pv 2) (pa_cons (pe_tup (pa_cons (pv 3) (pa_cons (pv 4) pa_nil))) pa_nil)))) pss_nil)))))
    (pss_one (ps_ret (pv 2))))), (rf_seq (rf_asgN (rf_lst rf_nil))
    (rf_seq (rf_for (rf_itR1 (rf_cons (rf_cb rfc_len (rf_cons rf_var rf_nil)) rf_nil)) rf_name (rf_for (rf_itE (rf_cons rf_var rf_nil)) (rf_gtup (rf_gcons rf_name (rf_gcons (rf_gtup (rf_gcons rf_name (rf_gcons rf_name rf_gnil))) rf_gnil))) (rf_ifS (rf_test (rf_op rfo_eq (rf_sl rfsl_any rf_var (rf_part rf_var) (rf_part (rf_op rfo_add rf_var (rf_cb rfc_len (rf_cons rf_var rf_nil))))) rf_var)) (rf_app (rf_cons (rf_tup (rf_cons rf_var (rf_cons rf_var rf_nil))) rf_nil)) rf_next)))
    rf_retV))⟩
def D_law_turned (K : PySem.W.Frag) : DS := (dSeq (dIfS (dNot (dChainT dLeI dLtI (dC (.int 0)) (dVar 3) (dCB dLen (dCons (dVar 0) dNil)))) (dRet (dTup (dCons (dC (.str "NoRule")) (dCons (dVar 3) dNil)))) dNext)
    (dSeq (dAsgG (dOp dIx (dVar 0) (dVar 3)) (dGTup 2 (dGCons (dName 5) (dGCons (dName 6) dGNil))))
    (dSeq (dAsgG (dIf (dTest (dVar 4)) (dTup (dCons (dVar 6) (dCons (dVar 5) dNil))) (dTup (dCons (dVar 5) (dCons (dVar 6) dNil)))) (dGTup 2 (dGCons (dName 7) (dGCons (dName 8) dGNil))))
    (dSeq (dIfS (dOr (dNot (dChainT dLeI dLeI (dC (.int 0)) (dVar 2) (dCB dLen (dCons (dVar 1) dNil)))) (dTest (dOp dNe (dSl dSlU (dVar 1) (dPart (dVar 2)) (dPart (dOp dAdd (dVar 2) (dCB dLen (dCons (dVar 7) dNil))))) (dVar 7)))) (dRet (dTup (dCons (dC (.str "NoStep")) (dCons (dVar 2) dNil)))) dNext)
    (dSeq (dAsg 9 (dOp dAdd (dOp dAdd (dSl dSlU (dVar 1) dNoP (dPart (dVar 2))) (dVar 8)) (dSl dSlU (dVar 1) (dPart (dOp dAdd (dVar 2) (dCB dLen (dCons (dVar 7) dNil)))) dNoP)))
    (dRet (dIf (dTest (dOp dGtI (dCB dLen (dCons (dVar 9) dNil)) (dC (.int 400)))) (dTup (dCons (dC (.str "TooLong")) (dCons (dC (.int 400)) dNil))) (dTup (dCons (dC (.str "told")) (dCons (dVar 9) dNil))))))))))
theorem rd_law_turned (T : Txt K mg) {cdv : Value} {A : Around} {outer : List PySem.Env} {s : Shared} {H : Hp} {E : XK} (hr : Room 0 (A.deeper (envOfC "_law_turned" (defScope s_law_turned) s.heap.objs.size (a_law_turned K) cdv))) :
  ∃ t, PSs (cxOf CX0 P w K mg base ["pairs", "word", "place", "rule", "back_z", "left", "right", "taken", "put", "later"] "_law_turned" (defScope s_law_turned) (a_law_turned K) cdv A outer s H E).nox (defBody s_law_turned) t ∧ RfS (kw0 K) t (D_law_turned K) :=
  ⟨_, (pss_cons (ps_if (pt_not (pt_chain op_le op_lt pe_int (pv 3) (pe_callB call_lenA (by rfl) T.n_len PySem.boot_len (pa_cons (pv 0) pa_nil)))) (pss_one (ps_ret (pe_tup (pa_cons pe_str (pa_cons (pv 3) pa_nil))))) pss_nil)
    (pss_cons (ps_asg (pe_ix ix_seq (pv 0) (pv 3) (fun _ _ => rfl)) (pg_tup rfl (pgs_cons (pg_name (i := 5) sc_law_turned.nd rfl (Or.inl rfl)) (pgs_cons (pg_name (i := 6) sc_law_turned.nd rfl (Or.inl rfl)) pgs_nil))))
    (pss_cons (ps_asg (pe_ifExp (pt_val (pv 4)) (pe_tup (pa_cons (pv 6) (pa_cons (pv 5) pa_nil))) (pe_tup (pa_cons (pv 5) (pa_cons (pv 6) pa_nil)))) (pg_tup rfl (pgs_cons (pg_name (i := 7) sc_law_turned.nd rfl (Or.inl rfl)) (pgs_cons (pg_name (i := 8) sc_law_turned.nd rfl (Or.inl rfl)) pgs_nil))))
    (pss_cons (ps_if (PW.pt (pw_or (pt_not (pt_chain op_le op_le pe_int (pv 2) (pe_callB call_lenA (by rfl) T.n_len PySem.boot_len (pa_cons (pv 1) pa_nil)))) (pw_or1 (pt_cmpR (op_neD (hu64 hr)) (pe_slice sl_any (pv 1) (po_some (pv 2)) (po_some (pe_op op_addA (pv 2) (pe_callB call_lenA (by rfl) T.n_len PySem.boot_len (pa_cons (pv 7) pa_nil))))) (pv 7) (nomark _))))) (pss_one (ps_ret (pe_tup (pa_cons pe_str (pa_cons (pv 2) pa_nil))))) pss_nil)
    (pss_cons (ps_set (i := 9) sc_law_turned.nd rfl (Or.inl rfl) (pe_op op_addA (pe_op op_addA (pe_slice sl_any (pv 1) po_none (po_some (pv 2))) (pv 8)) (pe_slice sl_any (pv 1) (po_some (pe_op op_addA (pv 2) (pe_callB call_lenA (by rfl) T.n_len PySem.boot_len (pa_cons (pv 7) pa_nil)))) po_none)))
    (pss_one (ps_ret (pe_ifExp (pt_cmpR op_gt (pe_callB call_lenA (by rfl) T.n_len PySem.boot_len (pa_cons (pv 9) pa_nil)) pe_int (nomark _)) (pe_tup (pa_cons pe_str (pa_cons pe_int pa_nil))) (pe_tup (pa_cons pe_str (pa_cons (pv 9) pa_nil))))))))))), (rf_seq (rf_ifS (rf_not (rf_chainT rfo_cmp rfo_cmp rf_int rf_var (rf_cb rfc_len (rf_cons rf_var rf_nil)))) (rf_ret (rf_tup (rf_cons rf_str (rf_cons rf_var rf_nil)))) rf_next)
    (rf_seq (rf_asgG (rf_op rfo_ix rf_var rf_var) (rf_gtup (rf_gcons rf_name (rf_gcons rf_name rf_gnil))))
    (rf_seq (rf_asgG (rf_if (rf_B rf_var) (rf_tup (rf_cons rf_var (rf_cons rf_var rf_nil))) (rf_tup (rf_cons rf_var (rf_cons rf_var rf_nil)))) (rf_gtup (rf_gcons rf_name (rf_gcons rf_name rf_gnil))))
    (rf_seq (rf_ifS (rf_or (rf_not (rf_chainT rfo_cmp rfo_cmp rf_int rf_var (rf_cb rfc_len (rf_cons rf_var rf_nil)))) (rf_test (rf_op rfo_ne (rf_sl rfsl_any rf_var (rf_part rf_var) (rf_part (rf_op rfo_add rf_var (rf_cb rfc_len (rf_cons rf_var rf_nil))))) rf_var))) (rf_ret (rf_tup (rf_cons rf_str (rf_cons rf_var rf_nil)))) rf_next)
    (rf_seq (rf_asg (rf_op rfo_add (rf_op rfo_add (rf_sl rfsl_any rf_var rf_noP (rf_part rf_var)) rf_var) (rf_sl rfsl_any rf_var (rf_part (rf_op rfo_add rf_var (rf_cb rfc_len (rf_cons rf_var rf_nil)))) rf_noP)))
    (rf_ret (rf_if (rf_test (rf_op rfo_cmp (rf_cb rfc_len (rf_cons rf_var rf_nil)) rf_int)) (rf_tup (rf_cons rf_str (rf_cons rf_int rf_nil))) (rf_tup (rf_cons rf_str (rf_cons rf_var rf_nil))))))))))⟩
def D_law (K : PySem.W.Frag) (TF : TFn) : DS := (dSeq (dFor (dItR1 (dCons (dC (.int 4)) dNil)) (dName 2) (dSeq (dAsg 3 (dCall (S_law_any_list K) (dCons (dVar 1) (dCons (dC (.int 5)) dNil))))
    (dSeq (dAsgG (dTup (dCons (dCall (S_law_rules_of K) (dCons (dVar 3) dNil)) (dCons (dCall (S_law_word K) (dCons (dVar 1) (dCons (dOp dIx (dVar 3) (dC (.int 0))) (dCons (dC (.int 12)) dNil)))) dNil))) (dGTup 2 (dGCons (dName 14) (dGCons (dName 16) dGNil))))
    (dSeq (dAsg 4 (dN (dCallN (S_law_standing K) (dCons (dOp dIx (dVar 3) (dC (.int 2))) (dCons (dVar 16) dNil)))))
    (dSeq (dFor (dItR1 (dCons (dC (.int 2)) dNil)) (dName 5) (dSeq (dAsgN 6 (dMethUN (c_Rules K) "places" (S_Rules_places K) 2 0 (fun ds es => ds ++ es) dXF (dVar 14) (dCons (dVar 16) dNil) dNil))
    (dSeq (dIfS (dNot (dTest (dLendB 6 [14, 16, 4] (dCall (S_law_like K) (dCons (dN (dLst (dCons (dVar 6) (dCons (dMethU (c_Rules K) "is_end" (S_Rules_is_end K) 2 0 (fun ds es => ds ++ es) dXF (dVar 14) (dCons (dVar 16) dNil) dNil) dNil)))) (dCons (dN (dLst (dCons (dVar 4) (dCons (dOp dEq (dVar 4) (dN (dLst dNil))) dNil)))) dNil)))))) (dRet (dC (.bl false))) dNext)
    (dApp 6 (dCons (dTup (dCons (dC (.int 0)) (dCons (dC (.int 0)) dNil))) dNil)))))
    (dSeq (dFor (dItR1 (dCons (dC (.int 8)) dNil)) (dName 7) (dSeq (dAsg 12 (dCall (S_law_of K) (dCons (dVar 1) (dCons (dN (dLst (dCons (dCall (S_law_pick K) (dCons (dVar 1) (dCons (dOp dAdd (dCB dLen (dCons (dVar 16) dNil)) (dC (.int 1))) dNil))) (dCons (dOp dSub (dC (.int 0)) (dC (.int 1))) (dCons (dOp dAdd (dCB dLen (dCons (dVar 16) dNil)) (dC (.int 1))) (dCons (dOp dPow (dC (.int 10)) (dC (.int 17))) dNil)))))) dNil))))
    (dSeq (dAsgG (dTup (dCons (dOp dSub (dCall (S_law_pick K) (dCons (dVar 1) (dCons (dOp dAdd (dCB dLen (dCons (dOp dIx (dVar 3) (dC (.int 2))) dNil)) (dC (.int 2))) dNil))) (dC (.int 1))) (dCons (dOp dEq (dCall (S_law_pick K) (dCons (dVar 1) (dCons (dC (.int 2)) dNil))) (dC (.int 1))) dNil))) (dGTup 2 (dGCons (dName 13) (dGCons (dName 11) dGNil))))
    (dSeq (dAsg 8 (dCall (S_law_turned K) (dCons (dOp dIx (dVar 3) (dC (.int 2))) (dCons (dVar 16) (dCons (dVar 12) (dCons (dVar 13) (dCons (dVar 11) dNil)))))))
    (dSeq (dAsg 9 (dWhy K (whyL K) (fun PX => (dMethU (c_Rules K) "turned" (S_Rules_turned K) 4 1 (fun ds es => ds ++ es) (fun C fs _ => PX C fs) (dVar 14) (dCons (dVar 16) (dCons (dVar 12) (dCons (dVar 13) dNil))) (dCons (dVar 11) dNil)))))
    (dSeq (dIfS (dNot (dTest (dCall (S_law_like K) (dCons (dVar 9) (dCons (dVar 8) dNil))))) (dRet (dC (.bl false))) dNext)
    (dIfS (dAnd (dNot (dTest (dVar 11))) (dNot (dTest (dCall (S_law_like K) (dCons (dWhy K (whyL K) (fun PX => (dMethU (c_Rules K) "turned" (S_Rules_turned K) 4 0 (fun ds _ => ds ++ [.bl false]) (fun C fs _ => PX C fs) (dVar 14) (dCons (dVar 16) (dCons (dVar 12) (dCons (dVar 13) dNil))) dNil))) (dCons (dVar 8) dNil)))))) (dRet (dC (.bl false))) dNext)))))))
    (dSeq (dAsgN 10 (dLst (dCons (dLamV0 TF 0) (dCons (dLamV1 TF 1) dNil))))
    (dSeq (dApp 10 (dCons (dLamV0 TF 2) dNil))
    (dIfS (dNot (dTest (dCB dAll (dCons (dN (dLc (dItL (dVar 10)) (dName 17) dYes (dOp dEq (dWhyV K (whyL K) [17] TF [(0, false, fun PX => (dN (dMethUN (c_Rules K) "places" (S_Rules_places K) 2 0 (fun ds es => ds ++ es) (fun C fs _ => PX C fs) (dVar 14) (dCons (dOp dAdd (dC (.str "?")) (dVar 16)) dNil) dNil))), (1, true, fun PX => (dMethU (c_Rules K) "is_end" (S_Rules_is_end K) 2 0 (fun ds es => ds ++ es) (fun C fs _ => PX C fs) (dVar 14) (dCons (dOp dAdd (dC (.str "?")) (dVar 16)) dNil) dNil)), (2, false, fun PX => (dMethU (c_Rules K) "turned" (S_Rules_turned K) 4 0 (fun ds _ => ds ++ [.bl false]) (fun C fs _ => PX C fs) (dVar 14) (dCons (dOp dAdd (dC (.str "?")) (dVar 16)) (dCons (dOp dSub (dC (.int 0)) (dC (.int 1))) (dCons (dOp dSub (dC (.int 0)) (dC (.int 1))) dNil))) dNil))] (dVar 17)) (dTup (dCons (dC (.str "BadWord")) (dCons (dC (.int 0)) dNil)))) [17])) dNil)))) (dRet (dC (.bl false))) dNext)))))))))
    (dSeq (dAsg 15 (dMakeU (c_Rules K) (S_Rules_init K) 3 0 (fun ds _ => ds ++ []) dXF (dCons (dMakeU (c_Scale K) (S_Scale_init K) 2 1 (fun ds es => ds ++ es) dXF (dCons (dC (.str "ab")) dNil) (dCons (dTup (dCons (dC (.int 1)) (dCons (dC (.int 9)) dNil))) dNil)) (dCons (dN (dLst (dCons (dTup (dCons (dC (.str "b")) (dCons (dC (.str "aaa")) dNil))) (dCons (dTup (dCons (dC (.str "aa")) (dCons (dC (.str "a")) dNil))) (dCons (dTup (dCons (dC (.str "a")) (dCons (dC (.str "")) dNil))) dNil))))) dNil)) dNil))
    (dSeq (dAsgN 9 (dLst (dCons (dWhy K (whyL K) (fun PX => (dMethU (c_Rules K) "turned" (S_Rules_turned K) 4 0 (fun ds _ => ds ++ [.bl false]) (fun C fs _ => PX C fs) (dVar 15) (dCons (dOp dAdd (dOp dMul (dC (.str "b")) (dC (.int 200))) (dOp dMul (dC (.str "a")) (dC (.int 198)))) (dCons (dC (.int 7)) (dCons (dC (.int 0)) dNil))) dNil))) (dCons (dWhy K (whyL K) (fun PX => (dMethU (c_Rules K) "turned" (S_Rules_turned K) 4 0 (fun ds _ => ds ++ [.bl false]) (fun C fs _ => PX C fs) (dVar 15) (dCons (dOp dMul (dC (.str "b")) (dC (.int 399))) (dCons (dC (.int 398)) (dCons (dC (.int 0)) dNil))) dNil))) dNil))))
    (dSeq (dApp 9 (dCons (dWhy K (whyL K) (fun PX => (dMethU (c_Rules K) "turned" (S_Rules_turned K) 4 1 (fun ds es => ds ++ es) (fun C fs _ => PX C fs) (dVar 15) (dCons (dOp dMul (dC (.str "a")) (dC (.int 400))) (dCons (dC (.int 0)) (dCons (dC (.int 2)) dNil))) (dCons (dC (.bl true)) dNil)))) dNil))
    (dSeq (dAsgN 4 (dLst (dCons (dTup (dCons (dC (.str "told")) (dCons (dOp dAdd (dOp dAdd (dOp dAdd (dOp dMul (dC (.str "b")) (dC (.int 7))) (dC (.str "aaa"))) (dOp dMul (dC (.str "b")) (dC (.int 192)))) (dOp dMul (dC (.str "a")) (dC (.int 198)))) dNil))) (dCons (dTup (dCons (dC (.str "TooLong")) (dCons (dC (.int 400)) dNil))) (dCons (dTup (dCons (dC (.str "TooLong")) (dCons (dC (.int 400)) dNil))) dNil)))))
    (dRet (dAndV (dCall (S_law_like K) (dCons (dVar 9) (dCons (dVar 4) dNil))) (dOp dEq (dMethU (c_Rules K) "turned" (S_Rules_turned K) 4 1 (fun ds es => ds ++ es) dXF (dVar 15) (dCons (dC (.str "bb")) (dCons (dC (.int 2)) (dCons (dC (.int 2)) dNil))) (dCons (dC (.bl true)) dNil)) (dC (.str "bba"))))))))))
theorem rd_law (T : Txt K mg) (G_law_deal : FnOk P w K mg base CX0 1 (a_law_deal K) (fdOf K (a_law_deal K)) ["script"] (spN K (S_law_deal K))) (G_law_any_list : FnOk P w K mg base CX0 4 (a_law_any_list K) (fdOf K (a_law_any_list K)) ["deal", "most"] (spD K (S_law_any_list K))) (G_law_word : FnOk P w K mg base CX0 3 (a_law_word K) (fdOf K (a_law_word K)) ["deal", "letters", "most"] (spD K (S_law_word K))) (G_law_rules_of : FnOk P w K mg base CX0 11 (a_law_rules_of K) (fdOf K (a_law_rules_of K)) ["m"] (spD K (S_law_rules_of K))) (G_law_standing : FnOk P w K mg base CX0 1 (a_law_standing K) (fdOf K (a_law_standing K)) ["pairs", "word"] (spN K (S_law_standing K))) (G_Rules_places : FnOk P w K mg base (L2N.CX P w) 4 (a_Rules_places K) (fdOf K (a_Rules_places K)) ["self", "word"] (spNX K (S_Rules_places K))) (G_law_like : FnOk P w K mg base CX0 5 (a_law_like K) (fdOf K (a_law_like K)) ["found", "due"] (spD K (S_law_like K))) (G_Rules_is_end : FnOk P w K mg base (L2N.CX P w) 5 (a_Rules_is_end K) (fdOf K (a_Rules_is_end K)) ["self", "word"] (spX K (S_Rules_is_end K))) (G_law_of : FnOk P w K mg base CX0 2 (a_law_of K) (fdOf K (a_law_of K)) ["deal", "some"] (spD K (S_law_of K))) (G_law_pick : FnOk P w K mg base CX0 1 (a_law_pick K) (fdOf K (a_law_pick K)) ["deal", "many"] (spD K (S_law_pick K))) (G_law_turned : FnOk P w K mg base CX0 1 (a_law_turned K) (fdOf K (a_law_turned K)) ["pairs", "word", "place", "rule", "back_z"] (spD K (S_law_turned K))) (G_Rules_turned : FnOk P w K mg base (L2N.CX P w) 4 (a_Rules_turned K) (fdOf K (a_Rules_turned K)) ["self", "word", "place", "rule", "back"] (spX K (S_Rules_turned K))) (G_Rules_init : FnOk P w K mg base (L2N.CX P w) 9 (a_Rules_init K) (fdOf K (a_Rules_init K)) ["self", "scale", "rules"] (spIX K (c_Rules K) (S_Rules_init K))) (G_Scale_init : FnOk P w K mg base (L2N.CX P w) 3 (a_Scale_init K) (fdOf K (a_Scale_init K)) ["self", "letters", "weights"] (spIX K (c_Scale K) (S_Scale_init K))) {cd : Addr} (TB : LamX.TabB base mg cd (lawT K)) {A : Around} {outer : List PySem.Env} {s : Shared} {H : Hp} {E : XK} (hr : Room 13 (A.deeper (envOfC "law" (defScope s_law) s.heap.objs.size (a_law K) (.ref cd)))) :
  ∃ t TF, PSs (cxOf CX0 P w K mg base ["script", "deal", "turn", "m", "due", "again", "told", "step", "want", "found", "asks", "back_z", "place", "rule", "rules", "wide", "word", "ask"] "law" (defScope s_law) (a_law K) (.ref cd) A outer s H E).nox (defBody s_law) (tSeq (tAsg (tCall (spN K (S_law_deal K)) [] E0 (tCons (tVar 0) tNil)) (gName 1)) t) ∧ RfS (kw0 K) t (D_law K TF) := by
  have hcode : (cxOf CX0 P w K mg base ["script", "deal", "turn", "m", "due", "again", "told", "step", "want", "found", "asks", "back_z", "place", "rule", "rules", "wide", "word", "ask"] "law" (defScope s_law) (a_law K) (.ref cd) A outer s H E).nox.env.code = .ref cd := rfl
  exact ⟨_, TFl (cxOf CX0 P w K mg base ["script", "deal", "turn", "m", "due", "again", "told", "step", "want", "found", "asks", "back_z", "place", "rule", "rules", "wide", "word", "ask"] "law" (defScope s_law) (a_law K) (.ref cd) A outer s H E).nox.env.cells, pss_cons (ps_set (i := 1) sc_law.nd rfl (Or.inl rfl) (pe_call G_law_deal (hr.mono (by decide)) rfl T.g_law_deal T.F_law_deal.kp T.b_law_deal .nil pass0 (pa_cons (pv 0) pa_nil))) (pss_cons (ps_for PassesOwn.never rfl (pi_range1 rfl T.n_range (pa_cons pe_int pa_nil)) (pg_name (i := 2) sc_law.nd rfl (Or.inl rfl))
      (pss_cons (ps_set (i := 3) sc_law.nd rfl (Or.inl rfl) (pe_call G_law_any_list (hr.mono (by decide)) rfl T.g_law_any_list T.F_law_any_list.kp T.b_law_any_list .nil pass0 (pa_cons (pv 1) (pa_cons pe_int pa_nil))))
    (pss_cons (ps_asg (pe_tup (pa_cons (pe_call G_law_rules_of (hr.mono (by decide)) rfl T.g_law_rules_of T.F_law_rules_of.kp T.b_law_rules_of .nil pass0 (pa_cons (pv 3) pa_nil)) (pa_cons (pe_call G_law_word (hr.mono (by decide)) rfl T.g_law_word T.F_law_word.kp T.b_law_word .nil pass0 (pa_cons (pv 1) (pa_cons (pe_ix ix_seq (pv 3) pe_int (fun _ _ => rfl)) (pa_cons pe_int pa_nil)))) pa_nil))) (pg_tup rfl (pgs_cons (pg_name (i := 14) sc_law.nd rfl (Or.inr rfl)) (pgs_cons (pg_name (i := 16) sc_law.nd rfl (Or.inr rfl)) pgs_nil))))
    (pss_cons (ps_set (i := 4) sc_law.nd rfl (Or.inl rfl) (pe_call G_law_standing (hr.mono (by decide)) rfl T.g_law_standing T.F_law_standing.kp T.b_law_standing .nil pass0 (pa_cons (pe_ix ix_seq (pv 3) pe_int (fun _ _ => rfl)) (pa_cons (pv 16) pa_nil))))
    (pss_cons (ps_for PassesOwn.never rfl (pi_range1 rfl T.n_range (pa_cons pe_int pa_nil)) (pg_name (i := 5) sc_law.nd rfl (Or.inl rfl))
      (pss_cons (ps_set (i := 6) sc_law.nd rfl (Or.inl rfl) (pe_methU (pv 14) T.cl_Rules T.m_Rules_places G_Rules_places (hr.mono (by decide)) T.bd_Rules_places_2 (fun σ => passN takes0 σ) (pa_cons (pv 16) pa_nil) pk_nil))
    (pss_cons (ps_if (pt_not (pt_val (pe_call G_law_like (hr.mono (by decide)) rfl T.g_law_like T.F_law_like.kp T.b_law_like .nil pass0 (pa_cons (pe_lst (pa_cons (pv 6) (pa_cons (pe_methU (pv 14) T.cl_Rules T.m_Rules_is_end G_Rules_is_end (hr.mono (by decide)) T.bd_Rules_is_end_2 (fun σ => passN takes0 σ) (pa_cons (pv 16) pa_nil) pk_nil) pa_nil))) (pa_cons (pe_lst (pa_cons (pv 4) (pa_cons (pe_cmpR (op_eqD (hu64 hr)) (pv 4) (pe_lst pa_nil) (nomark _)) pa_nil))) pa_nil))))) (pss_one (ps_ret pe_bl)) pss_nil)
    (pss_one (ps_expr (pe_bm PySem.F.plainAttrs_list PySem.F.slot_list_append PySem.F.type_list_append mt_append (pv 6) (pa_cons (pe_tup (pa_cons pe_int (pa_cons pe_int pa_nil))) pa_nil)))))))
    (pss_cons (ps_for PassesOwn.never rfl (pi_range1 rfl T.n_range (pa_cons pe_int pa_nil)) (pg_name (i := 7) sc_law.nd rfl (Or.inl rfl))
      (pss_cons (ps_set (i := 12) sc_law.nd rfl (Or.inr rfl) (pe_call G_law_of (hr.mono (by decide)) rfl T.g_law_of T.F_law_of.kp T.b_law_of .nil pass0 (pa_cons (pv 1) (pa_cons (pe_lst (pa_cons (pe_call G_law_pick (hr.mono (by decide)) rfl T.g_law_pick T.F_law_pick.kp T.b_law_pick .nil pass0 (pa_cons (pv 1) (pa_cons (pe_op op_addA (pe_callB call_lenA (by rfl) T.n_len PySem.boot_len (pa_cons (pv 16) pa_nil)) pe_int) pa_nil))) (pa_cons (pe_op op_sub pe_int pe_int) (pa_cons (pe_op op_addA (pe_callB call_lenA (by rfl) T.n_len PySem.boot_len (pa_cons (pv 16) pa_nil)) pe_int) (pa_cons (pe_op op_pow pe_int pe_int) pa_nil))))) pa_nil))))
    (pss_cons (ps_asg (pe_tup (pa_cons (pe_op op_sub (pe_call G_law_pick (hr.mono (by decide)) rfl T.g_law_pick T.F_law_pick.kp T.b_law_pick .nil pass0 (pa_cons (pv 1) (pa_cons (pe_op op_addA (pe_callB call_lenA (by rfl) T.n_len PySem.boot_len (pa_cons (pe_ix ix_seq (pv 3) pe_int (fun _ _ => rfl)) pa_nil)) pe_int) pa_nil))) pe_int) (pa_cons (pe_cmpR (op_eqD (hu64 hr)) (pe_call G_law_pick (hr.mono (by decide)) rfl T.g_law_pick T.F_law_pick.kp T.b_law_pick .nil pass0 (pa_cons (pv 1) (pa_cons pe_int pa_nil))) pe_int (nomark _)) pa_nil))) (pg_tup rfl (pgs_cons (pg_name (i := 13) sc_law.nd rfl (Or.inr rfl)) (pgs_cons (pg_name (i := 11) sc_law.nd rfl (Or.inr rfl)) pgs_nil))))
    (pss_cons (ps_set (i := 8) sc_law.nd rfl (Or.inl rfl) (pe_call G_law_turned (hr.mono (by decide)) rfl T.g_law_turned T.F_law_turned.kp T.b_law_turned .nil pass0 (pa_cons (pe_ix ix_seq (pv 3) pe_int (fun _ _ => rfl)) (pa_cons (pv 16) (pa_cons (pv 12) (pa_cons (pv 13) (pa_cons (pv 11) pa_nil)))))))
    (pss_cons (ps_set (i := 9) sc_law.nd rfl (Or.inl rfl) (pe_lamF (k := 11) (ds := []) rfl T.g_law_why T.F_law_why T.b_law_why sc_law_why rfl (Or.inl rfl) (fun cdv => why_ok T cdv) TB hcode (by first | rfl | decide +kernel) (hr.mono (by decide)) (lamN_by (by show lamNB (defScope s_law) _ ["script", "deal", "turn", "m", "due", "again", "told", "step", "want", "found", "asks", "back_z", "place", "rule", "rules", "wide", "word", "ask"] _ = true; decide +kernel)) rfl (Or.inl ⟨rfl, rfl⟩) (fun _ _ _ _ _ _ => rfl) (by rintro d ⟨⟩) (fun A outer s H E f c' hr2 => lamTk (fun tk => (pe_methU (pv 14) T.cl_Rules T.m_Rules_turned G_Rules_turned (hr2.mono (by decide)) T.bd_Rules_turned_4_back (fun σ => passN tk σ) (pa_cons (pv 16) (pa_cons (pv 12) (pa_cons (pv 13) pa_nil))) (pk_cons (pv 11) pk_nil))))))
    (pss_cons (ps_if (pt_not (pt_val (pe_call G_law_like (hr.mono (by decide)) rfl T.g_law_like T.F_law_like.kp T.b_law_like .nil pass0 (pa_cons (pv 9) (pa_cons (pv 8) pa_nil))))) (pss_one (ps_ret pe_bl)) pss_nil)
    (pss_one (ps_if (PW.pt (pw_and (pt_not (pt_val (pv 11))) (pw_and1 (pt_not (pt_val (pe_call G_law_like (hr.mono (by decide)) rfl T.g_law_like T.F_law_like.kp T.b_law_like .nil pass0 (pa_cons (pe_lamF (k := 11) (ds := []) rfl T.g_law_why T.F_law_why T.b_law_why sc_law_why rfl (Or.inl rfl) (fun cdv => why_ok T cdv) TB hcode (by first | rfl | decide +kernel) (hr.mono (by decide)) (lamN_by (by show lamNB (defScope s_law) _ ["script", "deal", "turn", "m", "due", "again", "told", "step", "want", "found", "asks", "back_z", "place", "rule", "rules", "wide", "word", "ask"] _ = true; decide +kernel)) rfl (Or.inl ⟨rfl, rfl⟩) (fun _ _ _ _ _ _ => rfl) (by rintro d ⟨⟩) (fun A outer s H E f c' hr2 => lamTk (fun tk => (pe_methU (pv 14) T.cl_Rules T.m_Rules_turned G_Rules_turned (hr2.mono (by decide)) T.bd_Rules_turned_4 (fun σ => passN tk σ) (pa_cons (pv 16) (pa_cons (pv 12) (pa_cons (pv 13) pa_nil))) pk_nil)))) (pa_cons (pv 8) pa_nil)))))))) (pss_one (ps_ret pe_bl)) pss_nil))))))))
    (pss_cons (ps_set (i := 10) sc_law.nd rfl (Or.inl rfl) (pe_lst (pa_cons (pe_lamV0 (F := TFl _ 0) (fun _ => rfl) TB hcode (by first | rfl | decide +kernel) (lamN_by (by show lamNB (defScope s_law) _ ["script", "deal", "turn", "m", "due", "again", "told", "step", "want", "found", "asks", "back_z", "place", "rule", "rules", "wide", "word", "ask"] _ = true; decide +kernel)) rfl rfl) (pa_cons (pe_lamV1 (d := "a") (F := TFl _ 1) (fun _ => rfl) TB hcode (by first | rfl | decide +kernel) (lamN_by (by show lamNB (defScope s_law) _ ["script", "deal", "turn", "m", "due", "again", "told", "step", "want", "found", "asks", "back_z", "place", "rule", "rules", "wide", "word", "ask"] _ = true; decide +kernel)) rfl rfl) pa_nil))))
    (pss_cons (ps_expr (pe_bm PySem.F.plainAttrs_list PySem.F.slot_list_append PySem.F.type_list_append mt_append (pv 10) (pa_cons (pe_lamV0 (F := TFl _ 2) (fun _ => rfl) TB hcode (by first | rfl | decide +kernel) (lamN_by (by show lamNB (defScope s_law) _ ["script", "deal", "turn", "m", "due", "again", "told", "step", "want", "found", "asks", "back_z", "place", "rule", "rules", "wide", "word", "ask"] _ = true; decide +kernel)) rfl rfl) pa_nil)))
    (pss_one (ps_if (pt_not (pt_val (pe_callB (cr_all rfl) (by rfl) T.n_all (by decide +kernel) (pa_cons (pe_lcW (own := [("ask", 17)]) rfl sc_law.nd (pi_list (pv 10)) (blkOk_by (by show blkC ["script", "deal", "turn", "m", "due", "again", "told", "step", "want", "found", "asks", "back_z", "place", "rule", "rules", "wide", "word", "ask"] (defScope s_law) _ _ = true; decide +kernel)) (fun _ _ _ _ _ => (pg_name (i := 17) sc_law.nd rfl (Or.inl rfl))) (fun pins σ s3 H3 C cl fp hX hfp => (pew_cmp (op_eqD (hu64 hr)) (pew_why (k := 11) hX hfp (by first | rfl | kernel_rfl) T.g_law_why T.F_law_why T.b_law_why sc_law_why rfl (Or.inl rfl) (fun cdv => why_ok T cdv) (by first | rfl | decide +kernel) (hr.mono (by decide)) (lamsOk_cons (n := 0) (lamOk0 (F := TFl _ 0) (fun _ => rfl) (lamN_by (by show lamNB (defScope s_law) _ ["script", "deal", "turn", "m", "due", "again", "told", "step", "want", "found", "asks", "back_z", "place", "rule", "rules", "wide", "word", "ask"] _ = true; decide +kernel)) (fun _ _ _ _ _ => rfl) (fun A outer s H E f c' hr2 => lamTk (fun tk => (pe_methU (pv 14) T.cl_Rules T.m_Rules_places G_Rules_places (hr2.mono (by decide)) T.bd_Rules_places_2 (fun σ => passN tk σ) (pa_cons (pe_op op_addA pe_str (pv 16)) pa_nil) pk_nil)))) (lamsOk_cons (n := 1) (lamOk1 (d := "a") (F := TFl _ 1) (fun _ => rfl) (lamN_by (by show lamNB (defScope s_law) _ ["script", "deal", "turn", "m", "due", "again", "told", "step", "want", "found", "asks", "back_z", "place", "rule", "rules", "wide", "word", "ask"] _ = true; decide +kernel)) (by exact fun T cl doc pm cv ctv => ⟨_, rfl, fun u => rfl⟩) (fun A outer s H E f c' hr2 => lamTk (fun tk => (pe_methU (pv 14) T.cl_Rules T.m_Rules_is_end G_Rules_is_end (hr2.mono (by decide)) T.bd_Rules_is_end_2 (fun σ => passN tk σ) (pa_cons (pe_op op_addA pe_str (pv 16)) pa_nil) pk_nil)))) (lamsOk_cons (n := 2) (lamOk0 (F := TFl _ 2) (fun _ => rfl) (lamN_by (by show lamNB (defScope s_law) _ ["script", "deal", "turn", "m", "due", "again", "told", "step", "want", "found", "asks", "back_z", "place", "rule", "rules", "wide", "word", "ask"] _ = true; decide +kernel)) (fun _ _ _ _ _ => rfl) (fun A outer s H E f c' hr2 => lamTk (fun tk => (pe_methU (pv 14) T.cl_Rules T.m_Rules_turned G_Rules_turned (hr2.mono (by decide)) T.bd_Rules_turned_4 (fun σ => passN tk σ) (pa_cons (pe_op op_addA pe_str (pv 16)) (pa_cons (pe_op op_sub pe_int pe_int) (pa_cons (pe_op op_sub pe_int pe_int) pa_nil))) pk_nil)))) lamsOk_nil))) (pv 17)) (pe_tup (pa_cons pe_str (pa_cons pe_int pa_nil))) (nomark _)))) pa_nil)))) (pss_one (ps_ret pe_bl)) pss_nil))))))))))
    (pss_cons (ps_set (i := 15) sc_law.nd rfl (Or.inr rfl) (pe_makeU T.mk_Rules G_Rules_init (hr.mono (by decide)) rfl T.gc_Rules T.bd_Rules_init_3 (fun σ => passN takes0 σ) (pa_cons (pe_makeU T.mk_Scale G_Scale_init (hr.mono (by decide)) rfl T.gc_Scale T.bd_Scale_init_2_weights (fun σ => passN takes0 σ) (pa_cons pe_str pa_nil) (pk_cons (pe_tup (pa_cons pe_int (pa_cons pe_int pa_nil))) pk_nil)) (pa_cons (pe_lst (pa_cons (pe_tup (pa_cons pe_str (pa_cons pe_str pa_nil))) (pa_cons (pe_tup (pa_cons pe_str (pa_cons pe_str pa_nil))) (pa_cons (pe_tup (pa_cons pe_str (pa_cons pe_str pa_nil))) pa_nil)))) pa_nil)) pk_nil))
    (pss_cons (ps_set (i := 9) sc_law.nd rfl (Or.inl rfl) (pe_lst (pa_cons (pe_lamF (k := 11) (ds := []) rfl T.g_law_why T.F_law_why T.b_law_why sc_law_why rfl (Or.inl rfl) (fun cdv => why_ok T cdv) TB hcode (by first | rfl | decide +kernel) (hr.mono (by decide)) (lamN_by (by show lamNB (defScope s_law) _ ["script", "deal", "turn", "m", "due", "again", "told", "step", "want", "found", "asks", "back_z", "place", "rule", "rules", "wide", "word", "ask"] _ = true; decide +kernel)) rfl (Or.inl ⟨rfl, rfl⟩) (fun _ _ _ _ _ _ => rfl) (by rintro d ⟨⟩) (fun A outer s H E f c' hr2 => lamTk (fun tk => (pe_methU (pv 15) T.cl_Rules T.m_Rules_turned G_Rules_turned (hr2.mono (by decide)) T.bd_Rules_turned_4 (fun σ => passN tk σ) (pa_cons (pe_op op_addA (pe_op op_mulA pe_str pe_int) (pe_op op_mulA pe_str pe_int)) (pa_cons pe_int (pa_cons pe_int pa_nil))) pk_nil)))) (pa_cons (pe_lamF (k := 11) (ds := ["a"]) rfl T.g_law_why T.F_law_why T.b_law_why sc_law_why rfl (Or.inl rfl) (fun cdv => why_ok T cdv) TB hcode (by first | rfl | decide +kernel) (hr.mono (by decide)) (lamN_by (by show lamNB (defScope s_law) _ ["script", "deal", "turn", "m", "due", "again", "told", "step", "want", "found", "asks", "back_z", "place", "rule", "rules", "wide", "word", "ask"] _ = true; decide +kernel)) rfl (Or.inr ⟨_, _, _, rfl, rfl⟩) (by intro h; cases h) (by rintro d ⟨⟩; exact fun _ _ _ _ _ _ => ⟨_, rfl, fun _ => rfl⟩) (fun A outer s H E f c' hr2 => lamTk (fun tk => (pe_methU (pv 15) T.cl_Rules T.m_Rules_turned G_Rules_turned (hr2.mono (by decide)) T.bd_Rules_turned_4 (fun σ => passN tk σ) (pa_cons (pe_op op_mulA pe_str pe_int) (pa_cons pe_int (pa_cons pe_int pa_nil))) pk_nil)))) pa_nil))))
    (pss_cons (ps_expr (pe_bm PySem.F.plainAttrs_list PySem.F.slot_list_append PySem.F.type_list_append mt_append (pv 9) (pa_cons (pe_lamF (k := 11) (ds := []) rfl T.g_law_why T.F_law_why T.b_law_why sc_law_why rfl (Or.inl rfl) (fun cdv => why_ok T cdv) TB hcode (by first | rfl | decide +kernel) (hr.mono (by decide)) (lamN_by (by show lamNB (defScope s_law) _ ["script", "deal", "turn", "m", "due", "again", "told", "step", "want", "found", "asks", "back_z", "place", "rule", "rules", "wide", "word", "ask"] _ = true; decide +kernel)) rfl (Or.inl ⟨rfl, rfl⟩) (fun _ _ _ _ _ _ => rfl) (by rintro d ⟨⟩) (fun A outer s H E f c' hr2 => lamTk (fun tk => (pe_methU (pv 15) T.cl_Rules T.m_Rules_turned G_Rules_turned (hr2.mono (by decide)) T.bd_Rules_turned_4_back (fun σ => passN tk σ) (pa_cons (pe_op op_mulA pe_str pe_int) (pa_cons pe_int (pa_cons pe_int pa_nil))) (pk_cons pe_bl pk_nil))))) pa_nil)))
    (pss_cons (ps_set (i := 4) sc_law.nd rfl (Or.inl rfl) (pe_lst (pa_cons (pe_tup (pa_cons pe_str (pa_cons (pe_op op_addA (pe_op op_addA (pe_op op_addA (pe_op op_mulA pe_str pe_int) pe_str) (pe_op op_mulA pe_str pe_int)) (pe_op op_mulA pe_str pe_int)) pa_nil))) (pa_cons (pe_tup (pa_cons pe_str (pa_cons pe_int pa_nil))) (pa_cons (pe_tup (pa_cons pe_str (pa_cons pe_int pa_nil))) pa_nil)))))
    (pss_one (ps_ret (pe_and (pe_call G_law_like (hr.mono (by decide)) rfl T.g_law_like T.F_law_like.kp T.b_law_like .nil pass0 (pa_cons (pv 9) (pa_cons (pv 4) pa_nil))) (pe_one (pe_cmpR (op_eqD (hu64 hr)) (pe_methU (pv 15) T.cl_Rules T.m_Rules_turned G_Rules_turned (hr.mono (by decide)) T.bd_Rules_turned_4_back (fun σ => passN takes0 σ) (pa_cons pe_str (pa_cons pe_int (pa_cons pe_int pa_nil))) (pk_cons pe_bl pk_nil)) pe_str (nomark _))))))))))), (rf_seq (rf_for (rf_itR1 (rf_cons rf_int rf_nil)) rf_name (rf_seq (rf_asg (rf_call (rf_cons rf_var (rf_cons rf_int rf_nil))))
    (rf_seq (rf_asgG (rf_tup (rf_cons (rf_call (rf_cons rf_var rf_nil)) (rf_cons (rf_call (rf_cons rf_var (rf_cons (rf_op rfo_ix rf_var rf_int) (rf_cons rf_int rf_nil)))) rf_nil))) (rf_gtup (rf_gcons rf_name (rf_gcons rf_name rf_gnil))))
    (rf_seq (rf_asg (RfN.rfe (rf_callN (rf_cons (rf_op rfo_ix rf_var rf_int) (rf_cons rf_var rf_nil)))))
    (rf_seq (rf_for (rf_itR1 (rf_cons rf_int rf_nil)) rf_name (rf_seq (rf_asgN (rf_methUN (GOk.app) rf_var (rf_cons rf_var rf_nil) rf_nil))
    (rf_seq (rf_ifS (rf_not (rf_B (rf_lendB (rf_call (rf_cons (RfN.rfe (rf_lst (rf_cons rf_var (rf_cons (rf_methU (GOk.app) rf_var (rf_cons rf_var rf_nil) rf_nil) rf_nil)))) (rf_cons (RfN.rfe (rf_lst (rf_cons rf_var (rf_cons (rf_op rfo_eq rf_var (RfN.rfe (rf_lst rf_nil))) rf_nil)))) rf_nil)))))) (rf_ret rf_bl) rf_next)
    (rf_app (rf_cons (rf_tup (rf_cons rf_int (rf_cons rf_int rf_nil))) rf_nil)))))
    (rf_seq (rf_for (rf_itR1 (rf_cons rf_int rf_nil)) rf_name (rf_seq (rf_asg (rf_call (rf_cons rf_var (rf_cons (RfN.rfe (rf_lst (rf_cons (rf_call (rf_cons rf_var (rf_cons (rf_op rfo_add (rf_cb rfc_len (rf_cons rf_var rf_nil)) rf_int) rf_nil))) (rf_cons (rf_op rfo_I0 rf_int rf_int) (rf_cons (rf_op rfo_add (rf_cb rfc_len (rf_cons rf_var rf_nil)) rf_int) (rf_cons (rf_op rfo_I rf_int rf_int) rf_nil)))))) rf_nil))))
    (rf_seq (rf_asgG (rf_tup (rf_cons (rf_op rfo_I0 (rf_call (rf_cons rf_var (rf_cons (rf_op rfo_add (rf_cb rfc_len (rf_cons (rf_op rfo_ix rf_var rf_int) rf_nil)) rf_int) rf_nil))) rf_int) (rf_cons (rf_op rfo_eq (rf_call (rf_cons rf_var (rf_cons rf_int rf_nil))) rf_int) rf_nil))) (rf_gtup (rf_gcons rf_name (rf_gcons rf_name rf_gnil))))
    (rf_seq (rf_asg (rf_call (rf_cons (rf_op rfo_ix rf_var rf_int) (rf_cons rf_var (rf_cons rf_var (rf_cons rf_var (rf_cons rf_var rf_nil)))))))
    (rf_seq (rf_asg (rf_why T.nz (fun E PX => (rf_methU (GOk.app) rf_var (rf_cons rf_var (rf_cons rf_var (rf_cons rf_var rf_nil))) (rf_cons rf_var rf_nil)))))
    (rf_seq (rf_ifS (rf_not (rf_B (rf_call (rf_cons rf_var (rf_cons rf_var rf_nil))))) (rf_ret rf_bl) rf_next)
    (rf_ifS (rf_and (rf_not (rf_B rf_var)) (rf_not (rf_B (rf_call (rf_cons (rf_why T.nz (fun E PX => (rf_methU (GOk.dfl (by intro da G; exact (.cons (.bl _) (.nil)))) rf_var (rf_cons rf_var (rf_cons rf_var (rf_cons rf_var rf_nil))) rf_nil))) (rf_cons rf_var rf_nil)))))) (rf_ret rf_bl) rf_next)))))))
    (rf_seq (rf_asgN (rf_lst (rf_cons (rf_lamV0 T.nz (fun _ => rfl)) (rf_cons (rf_lamV1 T.nz (fun _ => rfl)) rf_nil))))
    (rf_seq (rf_app (rf_cons (rf_lamV0 T.nz (fun _ => rfl)) rf_nil))
    (rf_ifS (rf_not (rf_B (rf_cb rfc_all (rf_cons (RfN.rfe (rf_lc (rf_itL rf_var) (rf_nameW (by decide)) rf_yes (rf_op rfo_eq (rf_whyV (lamsD_cons (n := 0) (fun _ => rfl) (fun E PX => (RfN.rfe (rf_methUN (GOk.app) rf_var (rf_cons (rf_op (rfo_add (K := K)) rf_str rf_var) rf_nil) rf_nil))) (lamsD_cons (n := 1) (fun _ => rfl) (fun E PX => (rf_methU (GOk.app) rf_var (rf_cons (rf_op (rfo_add (K := K)) rf_str rf_var) rf_nil) rf_nil)) (lamsD_cons (n := 2) (fun _ => rfl) (fun E PX => (rf_methU (GOk.dfl (by intro da G; exact (.cons (.bl _) (.nil)))) rf_var (rf_cons (rf_op (rfo_add (K := K)) rf_str rf_var) (rf_cons (rf_op rfo_I0 rf_int rf_int) (rf_cons (rf_op rfo_I0 rf_int rf_int) rf_nil))) rf_nil)) lamsD_nil))) rf_var) (rf_tup (rf_cons rf_str (rf_cons rf_int rf_nil)))))) rf_nil)))) (rf_ret rf_bl) rf_next)))))))))
    (rf_seq (rf_asg (rf_makeU (GOkI.dfl (by intro da G; exact (.nil))) (rf_cons (rf_makeU (GOkI.app) (rf_cons rf_str rf_nil) (rf_cons (rf_tup (rf_cons rf_int (rf_cons rf_int rf_nil))) rf_nil)) (rf_cons (RfN.rfe (rf_lst (rf_cons (rf_tup (rf_cons rf_str (rf_cons rf_str rf_nil))) (rf_cons (rf_tup (rf_cons rf_str (rf_cons rf_str rf_nil))) (rf_cons (rf_tup (rf_cons rf_str (rf_cons rf_str rf_nil))) rf_nil))))) rf_nil)) rf_nil))
    (rf_seq (rf_asgN (rf_lst (rf_cons (rf_why T.nz (fun E PX => (rf_methU (GOk.dfl (by intro da G; exact (.cons (.bl _) (.nil)))) rf_var (rf_cons (rf_op (rfo_add (K := K)) (rf_op (rfo_mul (K := K)) rf_str rf_int) (rf_op (rfo_mul (K := K)) rf_str rf_int)) (rf_cons rf_int (rf_cons rf_int rf_nil))) rf_nil))) (rf_cons (rf_why T.nz (fun E PX => (rf_methU (GOk.dfl (by intro da G; exact (.cons (.bl _) (.nil)))) rf_var (rf_cons (rf_op (rfo_mul (K := K)) rf_str rf_int) (rf_cons rf_int (rf_cons rf_int rf_nil))) rf_nil))) rf_nil))))
    (rf_seq (rf_app (rf_cons (rf_why T.nz (fun E PX => (rf_methU (GOk.app) rf_var (rf_cons (rf_op (rfo_mul (K := K)) rf_str rf_int) (rf_cons rf_int (rf_cons rf_int rf_nil))) (rf_cons rf_bl rf_nil)))) rf_nil))
    (rf_seq (rf_asgN (rf_lst (rf_cons (rf_tup (rf_cons rf_str (rf_cons (rf_op rfo_add (rf_op rfo_add (rf_op rfo_add (rf_op rfo_mul rf_str rf_int) rf_str) (rf_op rfo_mul rf_str rf_int)) (rf_op rfo_mul rf_str rf_int)) rf_nil))) (rf_cons (rf_tup (rf_cons rf_str (rf_cons rf_int rf_nil))) (rf_cons (rf_tup (rf_cons rf_str (rf_cons rf_int rf_nil))) rf_nil)))))
    (rf_ret (rf_andV (rf_call (rf_cons rf_var (rf_cons rf_var rf_nil))) (rf_op rfo_eq (rf_methU (GOk.app) rf_var (rf_cons rf_str (rf_cons rf_int (rf_cons rf_int rf_nil))) (rf_cons rf_bl rf_nil)) rf_str))))))))⟩
end
end SF

set_option pp.maxSteps 1200
namespace SF
open PySem PySem.Spec PyProof.Rows L2 DL RZ DLo
/-! strange signs -/
theorem badAt_none {L w : wd} : badAt L w = none ↔ Ov L w := by
  unfold badAt Ov
  rw [List.findIdx?_eq_none_iff]
  constructor
  · intro h c hc
    have := h c hc
    simpa using this
  · intro h c hc
    simp [h c hc]
theorem badAt_some {L w : wd} {i : Nat} {c : Nat} (h : ∀ c ∈ w.take i, c ∈ L) (hc : w[i]? = some c) (hn : c ∉ L) : badAt L w = some i := by
  unfold badAt
  rw [List.findIdx?_eq_some_iff_getElem]
  obtain ⟨hi, rfl⟩ := List.getElem?_eq_some_iff.mp hc
  refine ⟨hi, by simpa using hn, fun j hj => ?_⟩
  have : w[j] ∈ L := h _ (by
    rw [List.mem_take_iff_getElem]
    exact ⟨j, by omega, rfl⟩)
  simpa using this
theorem lookW_ok {K : PySem.W.Frag} {PX : PXt} {L w : wd} {Q : Prop} (h : Ov L w) (q : Q) : lookW K PX L w Q := ⟨fun _ => q, fun i hi => by rw [badAt_none.mpr h] at hi; cases hi⟩
theorem lookW.mono {K : PySem.W.Frag} {PX PX' : PXt} {L w : wd} {Q Q' : Prop} (h : lookW K PX L w Q) (hq : Ov L w → Q → Q') (hx : ∀ i, xBW K PX i → xBW K PX' i) : lookW K PX' L w Q' :=
  ⟨fun e => hq (badAt_none.mp e) (h.1 e), fun i e => hx i (h.2 i e)⟩
section
variable {K : PySem.W.Frag} {mg : Str → Option Value}
theorem law_Scale_look (T : Txt K mg) (PX : PXt) : ∀ ds P, S_Scale_look K ds P PX → D_Scale_look K (fun C fs _ => PX C fs) (endsD P) (env0 ["self", "word", "at", "sign"] ds) := by
  rintro ds P ⟨L, W, w, rfl, hl, hP⟩
  refine ⟨tx w, rfl, loop_inv (fun i δ => (∀ c ∈ w.take i, c ∈ L) ∧ ∃ x y, δ = [.val (scO K L W), .val (dW w), x, y]) ⟨by simp, _, _, rfl⟩ ?_ ?_⟩
  · rintro δ ⟨ho, x, y, rfl⟩
    refine hP.1 (badAt_none.mpr fun c hc => ho c ?_)
    rw [numbered_len]
    rw [tx_signs, List.length_map, List.take_length]
    exact hc
  rintro i d δ N hd ⟨ho, x, y, rfl⟩ hN
  obtain ⟨z, hz, rfl⟩ := numbered_get hd
  rw [tx_signs, List.getElem?_map] at hz
  obtain ⟨c, hc, rfl⟩ := Option.map_eq_some_iff.mp hz
  refine ⟨_, rfl, rfl, _, _, rfl, _, _, rfl, rfl, ?_⟩
  refine ⟨_, _, _, rfl, T.cl_Scale, T.na_Scale_signs, rfl, c, _, rfl, rfl, _, rfl, ite_b (fun h => ?_) (fun h => ?_)⟩
  · have hn : c ∉ L := by simpa using h
    refine ⟨rfl, by show 1 ≤ 1000; decide, ?_⟩
    exact hP.2 i (badAt_some ho hc hn)
  · have hm : c ∈ L := by simpa using h
    refine hN _ ⟨fun e he => ?_, _, _, rfl⟩
    rw [List.take_add_one, hc] at he
    rcases List.mem_append.mp he with he | he
    · exact ho e he
    · obtain rfl : e = c := by simpa using he
      exact hm
def cntD (w : wd) : D → D
  | .str z => .int (Txt.count (tx w) z)
  | d => d
theorem law_Scale_many (T : Txt K mg) (PX : PXt) : ∀ ds P, S_Scale_many K ds P PX → D_Scale_many K (fun C fs _ => PX C fs) (endsD P) (env0 ["self", "word", "sign"] ds) := by
  rintro ds P ⟨L, W, w, rfl, h8, hl, hP⟩
  refine ⟨_, rfl, by rfl, rfl, rfl, L, W, w, rfl, hl, hP.mono (fun ho hP => ?_) fun _ h => h⟩
  refine ⟨_, _, _, rfl, T.cl_Scale, T.na_Scale_signs, rfl, _, rfl, ?_⟩
  refine comp_map (cntD w) (by simp; omega) (fun d hd Q hq => ?_) ⟨_, .inl rfl, ?_⟩
  · obtain ⟨c, hc, rfl⟩ := List.mem_map.mp hd
    refine ⟨⟨_, rfl⟩, _, _, rfl, rfl, ?_⟩
    exact hq _
  · show P _
    have e : (DL.signs (tx L)).map (cntD w) = L.map fun c => D.int (w.count c : Nat) := by
      rw [tx_signs, List.map_map]
      refine List.map_congr_left fun c hc => ?_
      show D.int (Txt.count (tx w) (tx [c])) = _
      rw [tx_count]
    rw [e]
    exact hP
/-! the weight of a word -/
theorem zipWith_sum_add (c : Nat) : ∀ (L : wd) (W : List Int) (f : Nat → Nat), L.Nodup → W.length = L.length →
    (List.zipWith (fun (x : Nat) (y : Int) => (x : Int) * y) (L.map fun d => f d + if d = c then 1 else 0) W).sum = (List.zipWith (fun (x : Nat) (y : Int) => (x : Int) * y) (L.map f) W).sum + if c ∈ L then W.getD (L.idxOf c) 0 else 0
  | [], W, f, _, _ => by simp
  | d :: L, [], f, _, h => by simp at h
  | d :: L, v :: W, f, hn, h => by
    have hn' := List.nodup_cons.mp hn
    have ih := zipWith_sum_add c L W f hn'.2 (by simpa using h)
    simp only [List.map_cons, List.zipWith_cons_cons, List.sum_cons, ih]
    by_cases e : d = c
    · subst e
      rw [if_pos rfl, if_neg hn'.1, if_pos List.mem_cons_self]
      simp [Int.add_mul]
      omega
    · rw [if_neg e]
      have e2 : (c ∈ d :: L) ↔ c ∈ L := by simp [Ne.symm e]
      simp only [e2]
      have e3 : (d :: L).idxOf c = L.idxOf c + 1 := by rw [List.idxOf_cons, beq_false_of_ne e]; rfl
      rw [e3]
      simp
      omega
theorem weigh (L : wd) (W : List Int) (hn : L.Nodup) (h : W.length = L.length) : ∀ w : wd, Ov L w → (List.zipWith (fun (x : Nat) (y : Int) => (x : Int) * y) (L.map fun c => w.count c) W).sum = wt L W w
  | [], _ => by
    have : ∀ (L : wd) (W : List Int), (List.zipWith (fun (x : Nat) (y : Int) => (x : Int) * y) (L.map fun _ => 0) W).sum = 0 := by
      intro L
      induction L with
      | nil => intro W; simp
      | cons d L ih => intro W; cases W with
        | nil => simp
        | cons v W => simp [ih]
    simpa [wt] using this L W
  | c :: w, ho => by
    have ih := weigh L W hn h w fun d hd => ho d (List.mem_cons_of_mem _ hd)
    have e : (L.map fun d => (c :: w).count d) = L.map fun d => w.count d + if d = c then 1 else 0 := by
      refine List.map_congr_left fun d _ => ?_
      rw [List.count_cons]
      by_cases q : d = c
      · subst q; simp
      · have : (c == d) = false := by simpa using fun z => q z.symm
        rw [this]; simp [q]
    rw [e, zipWith_sum_add c L W _ hn h, ih, if_pos (ho c List.mem_cons_self)]
    simp [wt]
    omega
def mulD : D → D
  | .tup [.int i, .int j] => .int (i * j)
  | d => d
theorem zip_mul : ∀ (xs : List Nat) (ys : List Int), (zipped (xs.map fun x => D.int (x : Nat)) (dI ys)).map mulD = (List.zipWith (fun (x : Nat) (y : Int) => (x : Int) * y) xs ys).map D.int
  | [], ys => by simp [zipped]
  | x :: xs, [] => by simp [zipped, dI]
  | x :: xs, y :: ys => by
    have ih := zip_mul xs ys
    unfold zipped dI at ih ⊢
    simp only [List.map_cons, List.zipWith_cons_cons]
    rw [ih]
    rfl
theorem law_Scale_weight (T : Txt K mg) (PX : PXt) : ∀ ds P, S_Scale_weight K ds P PX → D_Scale_weight K (fun C fs _ => PX C fs) (endsD P) (env0 ["self", "word", "many", "one"] ds) := by
  rintro ds P ⟨L, W, w, rfl, hS, hl, hP⟩
  refine ⟨_, rfl, by rfl, rfl, rfl, L, W, w, rfl, hS.l8, hl, hP.mono (fun ho hP => ?_) fun _ h => h⟩
  refine ⟨_, _, _, rfl, T.cl_Scale, T.na_Scale_worths, by rfl, ?_⟩
  refine ⟨_, _, _, _, rfl, rfl, rfl, ?_⟩
  have h8 := hS.l8
  refine comp_map mulD (by simp [zipped]; omega) (fun d hd Q hq => ?_) ⟨List.zipWith (fun (x : Nat) (y : Int) => (x : Int) * y) (L.map fun c => w.count c) W, ?_, ?_⟩
  · obtain ⟨i, hi⟩ := List.getElem?_of_mem hd
    obtain ⟨x, y, hx, hy, rfl⟩ := zipped_get hi
    rw [List.getElem?_map] at hx hy
    obtain ⟨c, hc, rfl⟩ := Option.map_eq_some_iff.mp hx
    obtain ⟨v, hv, rfl⟩ := Option.map_eq_some_iff.mp hy
    refine ⟨_, rfl, rfl, _, _, rfl, _, _, rfl, rfl, ?_⟩
    refine ⟨.inl ⟨?_, ?_⟩, hq _⟩
    · have := List.count_le_length (a := c) (l := w); omega
    · have := List.count_le_length (a := c) (l := w); omega
  · have := zip_mul (L.map fun c => w.count c) W
    rw [List.map_map] at this
    exact congrArg (fun z => [D.lst z]) this
  · rw [weigh L W hS.nd hS.wl w ho]
    exact hP
def idxD (L : wd) : D → D
  | .str z => .int (L.idxOf (z.cps.toList.headD 0) : Nat)
  | d => d
theorem idx_map (L w : wd) : (DL.signs (tx w)).map (idxD L) = dI (w.map fun c => ((L.idxOf c : Nat) : Int)) := by
  rw [tx_signs, List.map_map]
  unfold dI
  rw [List.map_map]
  rfl
theorem law_Scale_rank (T : Txt K mg) (PX : PXt) : ∀ ds P, S_Scale_rank K ds P PX → D_Scale_rank K (fun C fs _ => PX C fs) (endsD P) (env0 ["self", "word", "sign"] ds) := by
  rintro ds P ⟨L, W, w, rfl, hS, hl, hP⟩
  refine ⟨_, rfl, by rfl, rfl, rfl, L, W, w, rfl, hS, hl, hP.mono (fun ho hP => ?_) fun _ h => h⟩
  refine ⟨_, _, rfl, rfl, by simp; omega, ?_⟩
  refine ⟨_, rfl, ?_⟩
  refine comp_map (idxD L) (by simp; omega) (fun d hd Q hq => ?_) ⟨(by show 3 ≤ 1000000; decide), ?_⟩
  · obtain ⟨c, hc, rfl⟩ := List.mem_map.mp hd
    refine ⟨_, _, _, rfl, T.cl_Scale, T.na_Scale_signs, by rfl, ⟨_, rfl⟩, _, _, _, rfl, rfl, tx_index L c (ho c (by simpa using hc)), ?_⟩
    exact hq _
  · rw [idx_map, tx_len]
    exact hP
end
/-! ranks -/
theorem pys_dI (l : List Int) : pys (dI l) = l.map PyData.int := by
  unfold dI
  rw [pys_map, List.map_map]
  rfl
theorem lay_ints : ∀ l : List Int, PyData.canLayAll0 (l.map PyData.int) = true
  | [] => by simp [PyData.canLayAll0]
  | i :: l => by simp [PyData.canLayAll0, PyData.canLay0, lay_ints l]
theorem dep_ints : ∀ l : List Int, PyData.depthAll (l.map PyData.int) ≤ 1
  | [] => by simp [PyData.depthAll]
  | i :: l => by
    have := dep_ints l
    simp only [List.map_cons, PyData.depthAll, PyData.depth]
    omega
theorem cmp_ints : ∀ l m : List Int, cmpAll (l.map PyData.int) (m.map PyData.int) = true
  | [], m => by simp [cmpAll]
  | i :: l, [] => by simp [cmpAll]
  | i :: l, j :: m => by simp [cmpAll, cmpOk, cmp_ints l m]
theorem py_rank (L : wd) (W : List Int) (w : wd) : py (dRank L W w) = .tuple [.int (wt L W w), .int (w.length : Nat), .list ((w.map fun c => ((L.idxOf c : Nat) : Int)).map PyData.int)] := by
  show PyData.tuple [_, _, .list (pys (dI _))] = _
  rw [pys_dI]
  rfl
theorem rank_lay (L : wd) (W : List Int) (w : wd) : (py (dRank L W w)).canLay0 = true := by
  rw [py_rank]
  simp only [PyData.canLay0, PyData.canLayAll0, lay_ints, Bool.and_self]
theorem rank_dep (L : wd) (W : List Int) (w : wd) : (py (dRank L W w)).depth ≤ 60 := by
  rw [py_rank]
  have := dep_ints (w.map fun c => ((L.idxOf c : Nat) : Int))
  simp only [PyData.depth, PyData.depthAll]
  omega
theorem rank_cmp (L : wd) (W : List Int) (a b : wd) : cmpOk (py (dRank L W a)) (py (dRank L W b)) = true := by
  rw [py_rank, py_rank]
  simp only [cmpOk, cmpAll, cmp_ints, Bool.and_self]
theorem eqv_lst : ∀ l m : List Int, PyData.eqvAll (l.map PyData.int) (m.map PyData.int) = decide (l = m)
  | [], [] => by simp [PyData.eqvAll]
  | [], j :: m => by simp [PyData.eqvAll]
  | i :: l, [] => by simp [PyData.eqvAll]
  | i :: l, j :: m => by
    simp only [List.map_cons, PyData.eqvAll, eqv_lst l m, eqv_int]
    by_cases h : i = j <;> simp [h]
theorem rlt_iff (L : wd) (W : List Int) (a b : wd) : rlt L W a b = if wt L W a = wt L W b then (if a.length = b.length then (if (a.map fun c => ((L.idxOf c : Nat) : Int)) = (b.map fun c => ((L.idxOf c : Nat) : Int)) then false else dlts ((a.map fun c => ((L.idxOf c : Nat) : Int)).map PyData.int) ((b.map fun c => ((L.idxOf c : Nat) : Int)).map PyData.int)) else decide (a.length < b.length)) else decide (wt L W a < wt L W b) := by
  unfold rlt
  rw [py_rank, py_rank]
  simp only [dlt, dlts, eqv_int]
  have e3 : PyData.eqv (.list ((a.map fun c => ((L.idxOf c : Nat) : Int)).map PyData.int)) (.list ((b.map fun c => ((L.idxOf c : Nat) : Int)).map PyData.int)) = decide ((a.map fun c => ((L.idxOf c : Nat) : Int)) = (b.map fun c => ((L.idxOf c : Nat) : Int))) := by
    show PyData.eqvAll _ _ = _
    exact eqv_lst _ _
  rw [e3]
  by_cases h1 : wt L W a = wt L W b
  · simp only [h1, decide_true, if_true]
    by_cases h2 : a.length = b.length
    · simp only [h2, decide_true, if_true]
      by_cases h3 : (a.map fun c => ((L.idxOf c : Nat) : Int)) = (b.map fun c => ((L.idxOf c : Nat) : Int))
      · simp [h3]
      · simp [h3]
    · have : ¬ ((a.length : Int) = (b.length : Int)) := by omega
      simp [h2, this]
  · simp [h1]
theorem dlts_anti : ∀ l m : List Int, dlts (l.map PyData.int) (m.map PyData.int) = false → dlts (m.map PyData.int) (l.map PyData.int) = false → l = m
  | [], [], _, _ => rfl
  | [], j :: m, h, _ => by simp [dlts] at h
  | i :: l, [], _, h => by simp [dlts] at h
  | i :: l, j :: m, h1, h2 => by
    simp only [List.map_cons, dlts, eqv_int, dlt] at h1 h2
    by_cases h : i = j
    · subst h
      simp at h1 h2
      rw [dlts_anti l m h1 h2]
    · have h' : ¬ j = i := fun z => h z.symm
      simp [h] at h1
      simp [h'] at h2
      omega
theorem idx_inj {L : wd} : ∀ {a b : wd}, Ov L a → Ov L b → (a.map fun c => ((L.idxOf c : Nat) : Int)) = (b.map fun c => ((L.idxOf c : Nat) : Int)) → a = b
  | [], [], _, _, _ => rfl
  | [], d :: b, _, _, h => by simp at h
  | c :: a, [], _, _, h => by simp at h
  | c :: a, d :: b, h1, h2, h => by
    simp only [List.map_cons, List.cons.injEq] at h
    have e1 : L.idxOf c = L.idxOf d := by omega
    have hc := List.idxOf_lt_length_of_mem (h1 c List.mem_cons_self)
    have hd := List.idxOf_lt_length_of_mem (h2 d List.mem_cons_self)
    have e2 : c = d := by
      have q1 := List.getElem_idxOf hc
      have q2 := List.getElem_idxOf hd
      rw [← q1, ← q2]
      congr 1
    rw [e2, idx_inj (fun x hx => h1 x (List.mem_cons_of_mem _ hx)) (fun x hx => h2 x (List.mem_cons_of_mem _ hx)) h.2]
theorem rlt_total {L : wd} {W : List Int} {a b : wd} (ha : Ov L a) (hb : Ov L b) (ne : a ≠ b) (h : rlt L W b a = false) : rlt L W a b = true := by
  rw [rlt_iff] at h ⊢
  by_cases h1 : wt L W a = wt L W b
  · rw [if_pos h1.symm] at h
    rw [if_pos h1]
    by_cases h2 : a.length = b.length
    · rw [if_pos h2.symm] at h
      rw [if_pos h2]
      have h3 : ¬ (a.map fun c => ((L.idxOf c : Nat) : Int)) = (b.map fun c => ((L.idxOf c : Nat) : Int)) := fun z => ne (idx_inj ha hb z)
      rw [if_neg (fun z => h3 z.symm)] at h
      rw [if_neg h3]
      cases q : dlts ((a.map fun c => ((L.idxOf c : Nat) : Int)).map PyData.int) ((b.map fun c => ((L.idxOf c : Nat) : Int)).map PyData.int) with
      | true => rfl
      | false => exact absurd (dlts_anti _ _ q h) h3
    · rw [if_neg (fun z => h2 z.symm)] at h
      rw [if_neg h2]
      simp at h ⊢
      omega
  · rw [if_neg (fun z => h1 z.symm)] at h
    rw [if_neg h1]
    simp at h ⊢
    omega
theorem wt_app (L : wd) (W : List Int) (a b : wd) : wt L W (a ++ b) = wt L W a + wt L W b := by simp [wt]
theorem wt_one {L : wd} {W : List Int} (hS : ScOk L W) {c : Nat} (hc : c ∈ L) : 1 ≤ W.getD (L.idxOf c) 0 := by
  have h1 := List.idxOf_lt_length_of_mem hc
  have h2 : L.idxOf c < W.length := by rw [hS.wl]; exact h1
  rw [List.getD_eq_getElem?_getD, List.getElem?_eq_getElem h2]
  exact (hS.w1 _ (List.getElem_mem h2)).1
theorem wt_len {L : wd} {W : List Int} (hS : ScOk L W) : ∀ {w : wd}, Ov L w → (w.length : Int) ≤ wt L W w
  | [], _ => by simp [wt]
  | c :: w, h => by
    have ih := wt_len hS (w := w) fun d hd => h d (List.mem_cons_of_mem _ hd)
    have h1 := wt_one hS (h c List.mem_cons_self)
    have e : wt L W (c :: w) = W.getD (L.idxOf c) 0 + wt L W w := by simp [wt]
    rw [e]
    simp only [List.length_cons]
    omega
theorem rlt_wt {L : wd} {W : List Int} {a b : wd} (h : wt L W a < wt L W b) : rlt L W a b = true := by
  rw [rlt_iff, if_neg (by omega)]
  simpa using h
theorem rlt_ne {L : wd} {W : List Int} (hS : ScOk L W) {a b : wd} (ha : Ov L a) (h : rlt L W a b = true) : b ≠ [] := by
  rintro rfl
  have h1 := wt_len hS ha
  have e : wt L W [] = 0 := by simp [wt]
  rw [rlt_iff, e] at h
  by_cases h2 : wt L W a = 0
  · rw [if_pos h2] at h
    have h3 : a = [] := List.eq_nil_of_length_eq_zero (by omega)
    subst h3
    simp at h
  · rw [if_neg h2] at h
    simp at h
    omega
section
variable {K : PySem.W.Frag} {mg : Str → Option Value}
theorem law_Scale_less (T : Txt K mg) (PX : PXt) : ∀ ds P, S_Scale_less K ds P PX → D_Scale_less K (fun C fs _ => PX C fs) (endsD P) (env0 ["self", "one", "other"] ds) := by
  rintro ds P ⟨L, W, a, b, rfl, hS, la, lb, hP⟩
  refine ⟨_, rfl, by rfl, rfl, rfl, L, W, a, rfl, hS, la, hP.mono (fun ha hP => ?_) fun _ h => h⟩
  refine ⟨_, rfl, by rfl, rfl, rfl, L, W, b, rfl, hS, lb, hP.mono (fun hb hP => ?_) fun _ h => h⟩
  exact ⟨rank_lay _ _ _, rank_lay _ _ _, rank_cmp _ _ _ _, rank_dep _ _ _, hP⟩
theorem law_is_whole (T : Txt K mg) : ∀ ds P, S_is_whole K ds P → D_is_whole K (endsD P) (env0 ["thing", "low", "high"] ds) := by
  rintro ds P ⟨x, lo, hi, rfl, hP⟩
  refine ⟨_, _, _, true, rfl, rfl, by rfl, _, rfl, ite_t rfl ?_⟩
  refine ⟨_, _, _, false, rfl, rfl, by rfl, _, rfl, _, rfl, ite_t rfl ?_⟩
  refine ⟨_, _, rfl, rfl, _, rfl, ite_b (fun h => ?_) (fun h => ?_)⟩
  · refine ⟨_, _, rfl, rfl, ?_⟩
    have h' : decide (lo ≤ x) = true := h
    rw [h'] at hP
    exact hP
  · have h' : decide (lo ≤ x) = false := h
    rw [h'] at hP
    exact hP
end


end SF

set_option pp.maxSteps 1200
namespace SF
open PySem PySem.Spec PyProof.Rows L2 DL RZ
section
variable {K : PySem.W.Frag} {mg : Str → Option Value}
def sndD : D → D
  | .tup [_, y] => y
  | d => d
theorem nodup_take {L : wd} (h : L.Nodup) {i : Nat} {c : Nat} (hc : L[i]? = some c) : c ∉ L.take i := by
  intro hm
  obtain ⟨j, hj⟩ := List.getElem?_of_mem hm
  rw [List.getElem?_take] at hj
  split at hj
  · rename_i lt
    have h1 := (List.getElem?_eq_some_iff.mp hc)
    have h2 := (List.getElem?_eq_some_iff.mp hj)
    obtain ⟨l1, e1⟩ := h1
    obtain ⟨l2, e2⟩ := h2
    exact List.pairwise_iff_getElem.mp h j i l2 l1 lt (e2.trans e1.symm)
  · cases hj
theorem bl_one : ∀ (W : List Int), (∀ w ∈ W, 1 ≤ w ∧ w ≤ 99) → (W.map fun w => D.bl (decide ((1:Int) ≤ w) && decide (w ≤ 99))) = (W.map fun w => decide ((1:Int) ≤ w) && decide (w ≤ 99)).map D.bl ∧ (W.map fun w => decide ((1:Int) ≤ w) && decide (w ≤ 99)).all id = true := by
  intro W h
  refine ⟨by rw [List.map_map]; rfl, ?_⟩
  rw [List.all_map, List.all_eq_true]
  intro w hw
  have := h w hw
  simp [this.1, this.2]
def wholeD : D → D
  | .int w => .bl (decide ((1:Int) ≤ w) && decide (w ≤ 99))
  | d => d
theorem law_Scale_init (T : Txt K mg) (PX : PXt) : ∀ x dx ds P, S_Scale_init K ds P PX → D_Scale_init K (fun C fs _ => PX C fs) (endsI x dx (c_Scale K) P) (.ini x dx (c_Scale K) [] :: (ds.map .val ++ List.replicate (8 - (ds.length + 1)) .no)) := by
  rintro x dx ds P ⟨L, W, ws, rfl, hw, hS, hP⟩
  have h1 := hS.l1
  have h8 := hS.l8
  refine ⟨tx L, rfl, ?_⟩
  refine comp_filt sndD (fun _ => true) (by rw [numbered_len]; simp; omega) (fun d hd Q N hq _ => ?_) ?_
  · obtain ⟨i, hi⟩ := List.getElem?_of_mem hd
    obtain ⟨z, hz, rfl⟩ := numbered_get hi
    rw [tx_signs, List.getElem?_map] at hz
    obtain ⟨c, hc, rfl⟩ := Option.map_eq_some_iff.mp hz
    refine ⟨_, rfl, rfl, _, _, rfl, _, _, rfl, rfl, ?_⟩
    refine ⟨c, _, rfl, rfl, _, rfl, ite_t (decide_eq_true (hS.sub c (List.mem_of_getElem? hc))) ?_⟩
    refine ⟨_, rfl, (by simp; omega), c, _, rfl, rfl, _, rfl, ite_t ?_ (hq rfl _)⟩
    rw [tx_cut, cut_to (by omega)]
    simpa using nodup_take hS.nd hc
  · have hlen : ((List.filter (fun _ => true) (DL.numbered (DL.signs (tx L)))).map sndD).length = L.length := by
      rw [List.length_map, List.filter_eq_self.mpr (by simp), numbered_len]
      simp
    generalize ((List.filter (fun _ => true) (DL.numbered (DL.signs (tx L)))).map sndD) = good at hlen ⊢
    refine ⟨_, _, rfl, rfl, (by simp; omega), _, _, rfl, rfl, _, rfl, ite_t (by simp; omega) ?_⟩
    refine ⟨_, _, rfl, rfl, _, rfl, ite_f (by simp; omega) ?_⟩
    refine ⟨_, _, rfl, rfl, (by omega), _, _, rfl, rfl, (by simp; omega), rfl, rfl, _, rfl, ite_f (by simp [hlen, py]) ?_⟩
    have key : ∀ P' : DL.Env → Prop, P' ([.ini x dx (c_Scale K) [], .val (dW L), .val (.tup (dI ws)), .val (.lst good), .val (.tup (dI W)), .no, .no, .no]) → (dAsg 4 (dIf (dTest (dOp dEq (dCB dLen (dCons (dVar 2) dNil)) (dC (.int 0)))) (dOp dMul (dTup (dCons (dC (.int 1)) dNil)) (dCB dLen (dCons (dVar 1) dNil))) (dCB dTuple (dCons (dVar 2) dNil)))) { (endsI x dx (c_Scale K) P) with nx := P' } [.ini x dx (c_Scale K) [], .val (dW L), .val (.tup (dI ws)), .val (.lst good), .no, .no, .no, .no] := by
      intro P' hp
      have hW1 : W.length = L.length := hS.wl
      rcases hw with ⟨rfl, hW⟩ | rfl
      · refine ⟨_, _, rfl, rfl, by decide, rfl, rfl, _, rfl, ite_t (by rfl) ?_⟩
        refine ⟨by decide, _, _, rfl, rfl, (by simp; omega), ?_⟩
        refine ⟨by simp; omega, by decide, by simp; omega, ?_⟩
        have e : (List.replicate ((tx L).length : Int).toNat [D.int 1]).flatten = dI W := by
          rw [hW, tx_len]
          unfold dI
          rw [List.map_replicate]
          simp
        rw [e]
        exact hp
      · refine ⟨_, _, rfl, rfl, (by simp [dI]; omega), rfl, rfl, _, rfl, ite_f ?_ ?_⟩
        · have : (dI ws).length = ws.length := by simp [dI]
          simp [py, this]
          intro z
          simp [z] at hW1
          omega
        · exact ⟨_, .inr rfl, hp⟩
    refine key _ ?_
    have hWl : (dI W).length = L.length := by simp [dI, hS.wl]
    refine ⟨_, _, rfl, rfl, (by omega), _, _, rfl, rfl, (by simp; omega), rfl, rfl, _, rfl, ite_f (by simp [hWl, py]) ?_⟩
    refine ⟨_, rfl, ?_⟩
    refine comp_map wholeD (by omega) (fun d hd Q hq => ?_) ⟨W.map fun w => decide ((1:Int) ≤ w) && decide (w ≤ 99), ?_, _, rfl, ?_⟩
    · obtain ⟨v, hv, rfl⟩ := List.mem_map.mp hd
      exact ⟨v, 1, 99, rfl, hq _⟩
    · have := (bl_one W hS.w1).1
      have e : (dI W).map wholeD = W.map fun w => D.bl (decide ((1:Int) ≤ w) && decide (w ≤ 99)) := by
        unfold dI
        rw [List.map_map]
        rfl
      rw [e, this]
    · refine ite_f (by rw [(bl_one W hS.w1).2]; rfl) ?_
      refine ⟨x, dx, c_Scale K, _, rfl, T.cl_Scale, T.na_Scale_signs, by decide, rfl, ?_⟩
      refine ⟨x, dx, c_Scale K, _, rfl, T.cl_Scale, T.na_Scale_worths, by simp, by rfl, ?_⟩
      exact ⟨_, rfl, hP⟩
theorem law_is_rule (T : Txt K mg) : ∀ ds P, S_is_rule K ds P → D_is_rule K (endsD P) (env0 ["scale", "pair", "left", "right"] ds) := by
  rintro ds P ⟨L, W, p, rfl, hS, m1, m2, hT, hF⟩
  refine ⟨_, rfl, rfl, _, _, rfl, _, _, rfl, rfl, ?_⟩
  refine ⟨_, _, rfl, rfl, (by simp; omega), _, _, rfl, rfl, _, rfl, ite_b (fun h => ?_) (fun h1 => ?_)⟩
  · exact hF fun hR => by
      have := hR.n1
      simp at h
      omega
  have n1 : p.1.length ≤ 20 := by
    simp at h1
    omega
  refine ⟨_, _, rfl, rfl, (by simp; omega), _, _, rfl, rfl, _, rfl, ite_b (fun h => ?_) (fun h2 => ?_)⟩
  · exact hF fun hR => by
      have := hR.n2
      simp at h
      omega
  have n2 : p.2.length ≤ 20 := by
    simp at h2
    omega
  have hx : ∀ i, ¬ (Ov L p.1 ∧ Ov L p.2) → xBW K (fun C fs => ∃ b, PySem.W.exmAny K (.ref C) [.ref (c_BadWord K)] = some b ∧ (b = true → P (.bl false)) ∧ (b = false → False)) i := fun i h => by
    have e := T.xm_BadWord_BadWord
    exact ⟨true, of_decide_eq_true e, fun _ => hF fun hR => h ⟨hR.o1, hR.o2⟩, fun z => nomatch z⟩
  refine ⟨_, rfl, by rfl, rfl, rfl, L, W, p.2, p.1, rfl, hS, by omega, by omega, fun e2 => ⟨fun e1 => ?_, fun i e1 => hx i fun h => ?_⟩, fun i e2 => hx i fun h => ?_⟩
  · have o1 := badAt_none.mp e1
    have o2 := badAt_none.mp e2
    show P _
    cases hb : rlt L W p.2 p.1 with
    | true => exact hT ⟨n1, n2, o1, o2, hb⟩
    | false => exact hF fun hR => Bool.noConfusion (hb.symm.trans hR.lt)
  · rw [badAt_none.mpr h.1] at e1
    cases e1
  · rw [badAt_none.mpr h.2] at e2
    cases e2
theorem law_Rules_init (T : Txt K mg) (PX : PXt) : ∀ x dx ds P, S_Rules_init K ds P PX → D_Rules_init K (fun C fs _ => PX C fs) (endsI x dx (c_Rules K) P) (.ini x dx (c_Rules K) [] :: (ds.map .val ++ List.replicate (7 - (ds.length + 1)) .no)) := by
  rintro x dx ds P ⟨L, W, ps, hd, hS, hl, hR, hP⟩
  have main : ∀ v : D, (v = .lst (ps.map dP) ∨ v = .tup (ps.map dP)) → D_Rules_init K (fun C fs _ => PX C fs) (endsI x dx (c_Rules K) P) [.ini x dx (c_Rules K) [], .val (scO K L W), .val v, .no, .no, .no, .no] := by
    intro v hv
    have hlen : lenD v = some ps.length := by rcases hv with rfl | rfl <;> simp [lenD]
    refine ⟨v, _, rfl, hlen, by omega, _, _, rfl, rfl, _, rfl, ite_f (by simp; omega) ?_⟩
    refine ⟨ps.map dP, (by rcases hv with rfl | rfl; exact .inl rfl; exact .inr rfl), ?_⟩
    refine loop_inv (fun i δ => ∃ a b, δ = [.ini x dx (c_Rules K) [], .val (scO K L W), .val v, a, b, .no, .no]) ⟨_, _, rfl⟩ ?_ ?_
    · rintro δ ⟨a, b, rfl⟩
      refine ⟨x, dx, c_Rules K, _, rfl, T.cl_Rules, T.na_Rules_own_scale, by decide, rfl, ?_⟩
      refine ⟨ps.map dP, (by rcases hv with rfl | rfl; exact .inl rfl; exact .inr rfl), ?_⟩
      refine comp_map (fun d => d) (by simp; omega) (fun d hd Q hq => ?_) ?_
      · obtain ⟨p, hp, rfl⟩ := List.mem_map.mp hd
        exact ⟨_, rfl, rfl, _, _, rfl, _, _, rfl, rfl, (by show 2 ≤ 1000000; decide), hq _⟩
      · rw [List.map_id']
        refine ⟨x, dx, c_Rules K, _, rfl, T.cl_Rules, T.na_Rules_pairs, by simp, by rfl, ?_⟩
        exact ⟨_, rfl, hP⟩
    · rintro i d δ N hi ⟨a, b, rfl⟩ hN
      obtain ⟨z, hz, rfl⟩ := numbered_get hi
      rw [List.getElem?_map] at hz
      obtain ⟨p, hp, rfl⟩ := Option.map_eq_some_iff.mp hz
      refine ⟨_, rfl, rfl, _, _, rfl, _, _, rfl, rfl, ?_⟩
      have hRp := hR p (List.mem_of_getElem? hp)
      have q1 := hRp.n1
      have q2 := hRp.n2
      refine ⟨L, W, p, rfl, hS, by omega, by omega, fun _ => ⟨_, rfl, ite_f rfl ?_⟩, fun h => (h hRp).elim⟩
      exact hN _ ⟨_, _, rfl⟩
  rcases hd with rfl | rfl
  · exact main _ (.inl rfl)
  · exact main _ (.inr rfl)
end


end SF

set_option pp.maxSteps 1200
namespace SF
open PySem PySem.Spec PyProof.Rows L2 DL RZ
theorem fm_le {α β : Type} {f : α → List β} {m : Nat} (h : ∀ x, (f x).length ≤ m) : ∀ l : List α, (l.flatMap f).length ≤ l.length * m
  | [] => by simp
  | x :: l => by
    have ih := fm_le h l
    have hx := h x
    rw [List.flatMap_cons, List.length_append, List.length_cons, Nat.add_mul]
    omega
theorem fm_r0 {β : Type} (f : Nat → List β) (k : Nat) : (List.range (k + 1)).flatMap f = (List.range k).flatMap f ++ f k := by
  rw [List.range_succ, List.flatMap_append]
  simp
theorem strOk_sm {w : wd} (h : Sm w) : PyData.strOk (tx w) = true := by
  have hs : ∀ c ∈ smalls, c < 1114112 := by decide +kernel
  unfold PyData.strOk
  rw [← Array.all_toList, List.all_eq_true]
  intro c hc
  exact decide_eq_true (hs c (h c hc))
theorem shp_str {w : wd} (h : Sm w) : shp (dW w) = true := by simp [shp, SeqAt.shaped, py, PyData.canLay0, PyData.depth, strOk_sm h]
theorem rngD_len (lo : Int) (n : Nat) : (rngD lo n).length = n := by unfold rngD; simp
/-! data without marks -/
theorem dep_go : ∀ (n : Nat) (d : D), dep n d → (py d).canLay0 = true ∧ (py d).depth ≤ n := by
  intro n
  induction n with
  | zero =>
    intro d h
    cases d <;> simp [dep] at h <;> simp [py, PyData.canLay0, PyData.depth, h]
  | succ n ih =>
    intro d h
    have all : ∀ l : List D, (∀ d ∈ l, dep n d) → PyData.canLayAll0 (pys l) = true ∧ PyData.depthAll (pys l) ≤ n := by
      intro l
      induction l with
      | nil => intro _; simp [pys, PyData.canLayAll0, PyData.depthAll]
      | cons d l ihl =>
        intro h
        obtain ⟨h1, h2⟩ := ih d (h d List.mem_cons_self)
        obtain ⟨h3, h4⟩ := ihl fun e he => h e (List.mem_cons_of_mem _ he)
        simp only [pys, PyData.canLayAll0, PyData.depthAll, h1, h3, Bool.and_self, true_and]
        omega
    cases d with
    | non => simp [py, PyData.canLay0, PyData.depth]
    | int i => simp [py, PyData.canLay0, PyData.depth]
    | bl b => simp [py, PyData.canLay0, PyData.depth]
    | str z =>
      have : PyData.strOk z = true := h
      simp [py, PyData.canLay0, PyData.depth, this]
    | lst l =>
      obtain ⟨_, h⟩ := h
      obtain ⟨h1, h2⟩ := all l h
      simp only [py, PyData.canLay0, PyData.depth, h1, true_and]
      omega
    | tup l =>
      obtain ⟨_, h⟩ := h
      obtain ⟨h1, h2⟩ := all l h
      simp only [py, PyData.canLay0, PyData.depth, h1, true_and]
      omega
    | _ => exact h.elim
theorem dep_shp {n : Nat} {d : D} (hn : n ≤ 60) (h : dep n d) : shp d = true := by
  obtain ⟨h1, h2⟩ := dep_go n d h
  show (_ && decide _) = true
  rw [h1, decide_eq_true (by omega)]
  rfl
theorem dep_dPr (x : Nat × Nat) : dep 1 (dPr x) := ⟨by show 2 ≤ 1000000; decide, fun d hd => by
  simp at hd
  rcases hd with rfl | rfl <;> trivial⟩
theorem dep_prs (l : List (Nat × Nat)) (h : l.length ≤ 1000000) : dep 2 (.lst (l.map dPr)) := ⟨by rw [List.length_map]; exact h, fun d hd => by
  obtain ⟨x, _, rfl⟩ := List.mem_map.mp hd
  exact dep_dPr x⟩
theorem dep_dP {p : wd × wd} (h1 : Sm p.1) (h2 : Sm p.2) (n : Nat) : dep (n + 1) (dP p) := ⟨by show 2 ≤ 1000000; decide, fun d hd => by
  simp at hd
  rcases hd with rfl | rfl
  · cases n <;> exact strOk_sm h1
  · cases n <;> exact strOk_sm h2⟩
theorem dep_dPs {ps : List (wd × wd)} (h : ∀ p ∈ ps, Sm p.1 ∧ Sm p.2) (hl : ps.length ≤ 1000000) : dep 2 (.lst (ps.map dP)) := ⟨by rw [List.length_map]; exact hl, fun d hd => by
  obtain ⟨p, hp, rfl⟩ := List.mem_map.mp hd
  exact dep_dP (h p hp).1 (h p hp).2 0⟩
theorem at_nat {α : Type} {xs : List α} {r : Int} (h0 : 0 ≤ r) (h1 : r < xs.length) : ∃ (k : Nat) (x : α), r = (k : Nat) ∧ xs[k]? = some x ∧ atI xs r = some x := by
  obtain ⟨k, rfl⟩ := Int.eq_ofNat_of_zero_le h0
  have hk : k < xs.length := by omega
  exact ⟨k, xs[k], rfl, List.getElem?_eq_getElem hk, atI_nat (List.getElem?_eq_getElem hk)⟩
section
variable {K : PySem.W.Frag} {mg : Str → Option Value}
theorem law_law_of (T : Txt K mg) : ∀ ds P, S_law_of K ds P → D_law_of K (endsD P) (env0 ["deal", "some"] ds) := by
  rintro ds P ⟨l, hd, hne, hl, hP⟩
  have hpos : 0 < l.length := List.length_pos_iff.mpr hne
  rcases hd with rfl | ⟨w, rfl, rfl⟩
  · refine ⟨_, _, rfl, rfl, by omega, _, rfl, by omega, by omega, fun r h0 h1 => ⟨r, rfl, ?_⟩⟩
    obtain ⟨k, x, _, hx, ha⟩ := at_nat (xs := l) h0 h1
    exact ⟨x, ha, hP x (List.mem_of_getElem? hx)⟩
  · rw [List.length_map] at hl hpos
    refine ⟨_, _, rfl, rfl, by simp; omega, _, rfl, by simp; omega, by simp; omega, fun r h0 h1 => ⟨r, rfl, by simp; omega, ?_⟩⟩
    obtain ⟨k, x, _, hx, ha⟩ := at_nat (xs := w) h0 (by simpa using h1)
    exact ⟨x, ha, hP _ (List.mem_map.mpr ⟨x, List.mem_of_getElem? hx, rfl⟩)⟩
theorem ins_perm {α : Type} (es : List α) (d : α) (k : Nat) : (es.take k ++ [d] ++ es.drop k).Perm (es ++ [d]) := by
  have h1 : (es.take k ++ [d] ++ es.drop k).Perm (es.take k ++ es.drop k ++ [d]) := by
    rw [List.append_assoc, List.append_assoc]
    exact List.Perm.append_left _ List.perm_append_comm
  rwa [List.take_append_drop] at h1
/-! _law_like -/
theorem law_like_scalar (S : DL.Spec) {d : D} {P : D → Prop} (hd : (∃ b, d = .bl b) ∨ (∃ i, d = .int i) ∨ ∃ z, d = .str z ∧ PyData.strOk z = true) (hP : P (.bl true)) : D_law_like K S (endsD P) (env0 ["found", "due", "k"] [d, d]) := by
  have hs : shp d = true := by
    rcases hd with ⟨b, rfl⟩ | ⟨i, rfl⟩ | ⟨z, rfl, h⟩
    · rfl
    · rfl
    · simp [shp, SeqAt.shaped, py, PyData.canLay0, PyData.depth, h]
  have he : PyData.eqv (py d) (py d) = true := by
    rcases hd with ⟨b, rfl⟩ | ⟨i, rfl⟩ | ⟨z, rfl, h⟩
    · exact SeqAt.eqv_refl _ rfl
    · simp [py]
    · simp [py]
  rcases hd with ⟨b, rfl⟩ | ⟨i, rfl⟩ | ⟨z, rfl, h⟩
  · refine ⟨"bool", false, false, by rfl, by rfl, by rfl, _, rfl, ite_f rfl ?_⟩
    refine ⟨fun h => (nomatch h), fun _ => ⟨_, rfl, ite_f rfl ⟨fun h => (nomatch h), fun _ => ⟨_, rfl, ite_f rfl ?_⟩, fun h => (nomatch h)⟩⟩, fun h => (nomatch h)⟩
    refine ⟨_, _, _, true, rfl, by rfl, by rfl, _, _, _, true, rfl, by rfl, by rfl, rfl, rfl, _, rfl, ite_f (by rfl) ?_⟩
    refine ⟨_, _, _, true, rfl, by rfl, by rfl, _, _, _, true, rfl, by rfl, by rfl, rfl, rfl, _, rfl, ite_f (by rfl) ?_⟩
    refine ⟨_, _, _, false, rfl, by rfl, by rfl, _, _, _, false, rfl, by rfl, by rfl, rfl, rfl, _, rfl, ite_t (by rfl) ?_⟩
    refine ⟨hs, hs, ?_⟩
    rw [he]
    exact hP
  · refine ⟨"int", false, false, by rfl, by rfl, by rfl, _, rfl, ite_f rfl ?_⟩
    refine ⟨fun h => (nomatch h), fun _ => ⟨_, rfl, ite_f rfl ⟨fun h => (nomatch h), fun _ => ⟨_, rfl, ite_f rfl ?_⟩, fun h => (nomatch h)⟩⟩, fun h => (nomatch h)⟩
    refine ⟨_, _, _, false, rfl, by rfl, by rfl, _, _, _, false, rfl, by rfl, by rfl, rfl, rfl, _, rfl, ite_f (by rfl) ?_⟩
    refine ⟨_, _, _, true, rfl, by rfl, by rfl, _, _, _, true, rfl, by rfl, by rfl, rfl, rfl, _, rfl, ite_f (by rfl) ?_⟩
    refine ⟨_, _, _, false, rfl, by rfl, by rfl, _, _, _, false, rfl, by rfl, by rfl, rfl, rfl, _, rfl, ite_t (by rfl) ?_⟩
    refine ⟨hs, hs, ?_⟩
    rw [he]
    exact hP
  · refine ⟨"str", false, false, by rfl, by rfl, by rfl, _, rfl, ite_f rfl ?_⟩
    refine ⟨fun h => (nomatch h), fun _ => ⟨_, rfl, ite_f rfl ⟨fun h => (nomatch h), fun _ => ⟨_, rfl, ite_f rfl ?_⟩, fun h => (nomatch h)⟩⟩, fun h => (nomatch h)⟩
    refine ⟨_, _, _, false, rfl, by rfl, by rfl, _, _, _, false, rfl, by rfl, by rfl, rfl, rfl, _, rfl, ite_f (by rfl) ?_⟩
    refine ⟨_, _, _, false, rfl, by rfl, by rfl, _, _, _, false, rfl, by rfl, by rfl, rfl, rfl, _, rfl, ite_f (by rfl) ?_⟩
    refine ⟨_, _, _, true, rfl, by rfl, by rfl, _, _, _, true, rfl, by rfl, by rfl, rfl, rfl, _, rfl, ite_t (by rfl) ?_⟩
    refine ⟨hs, hs, ?_⟩
    rw [he]
    exact hP
theorem law_like_none (S : DL.Spec) {P : D → Prop} (hP : P (.bl true)) : D_law_like K S (endsD P) (env0 ["found", "due", "k"] [.non, .non]) := by
  refine ⟨"NoneType", false, false, by rfl, by rfl, by rfl, _, rfl, ite_f rfl ?_⟩
  refine ⟨fun _ => ⟨_, rfl, ite_t rfl ?_⟩, fun h => absurd rfl h, (by intro h; cases h)⟩
  exact ⟨fun _ => ⟨true, rfl, ite_t rfl ⟨fun _ => hP, fun h => absurd rfl h, (by intro h; cases h)⟩⟩, fun h => absurd rfl h, (by intro h; cases h)⟩
theorem all_true : ∀ n : Nat, (List.replicate n (D.bl true)) = (List.replicate n true).map D.bl ∧ (List.replicate n true).all id = true := fun n => ⟨by simp, by simp⟩
theorem law_law_like (T : Txt K mg) (n : Nat) : ∀ ds P, S_like (n + 1) ds P → D_law_like K (S_like n) (endsD P) (env0 ["found", "due", "k"] ds) := by
  rintro ds P ⟨d, rfl, hd, hP⟩
  have fin : ∀ (l : List D) (x : D), (x = .lst l ∨ x = .tup l) → l.length ≤ 1000000 → (∀ (k : Nat) (e : D), l[k]? = some e → ∀ Q : D → Prop, Q (.bl true) → S_like n [e, e] Q) →
      (dRet (dAndV (dOp dEq (dCB dLen (dCons (dVar 0) dNil)) (dCB dLen (dCons (dVar 1) dNil))) (dCB dAll (dCons (dN (dLc (dItR1 (dCons (dCB dLen (dCons (dVar 1) dNil)) dNil)) (dName 2) dYes (dCall (S_like n) (dCons (dOp dIx (dVar 0) (dVar 2)) (dCons (dOp dIx (dVar 1) (dVar 2)) dNil))) [2])) dNil)))) (endsD P) [.val x, .val x, .no] := by
    intro l x hx hl hS
    have hlen : lenD x = some l.length := by rcases hx with rfl | rfl <;> rfl
    refine ⟨x, _, rfl, hlen, hl, x, _, rfl, hlen, hl, rfl, rfl, _, rfl, ite_t (by simp [py]) ?_⟩
    refine ⟨x, _, rfl, hlen, hl, _, rfl, by omega, by omega, ?_⟩
    rw [Int.toNat_natCast]
    refine comp_map (fun _ => .bl true) (by rw [rngD_len]; exact hl) (fun d hd Q hq => ?_) ⟨List.replicate l.length true, ?_, ?_⟩
    · obtain ⟨k, hk⟩ := List.getElem?_of_mem hd
      obtain ⟨hkl, rfl⟩ := rngD_get hk
      have e0 : (0 : Int) + (k : Nat) = ((k : Nat) : Int) := by omega
      rw [e0]
      have hx2 : l[k]? = some l[k] := List.getElem?_eq_getElem hkl
      rcases hx with rfl | rfl
      · exact ⟨_, rfl, _, atI_nat hx2, _, rfl, _, atI_nat hx2, hS k _ hx2 _ (hq _)⟩
      · exact ⟨_, rfl, _, atI_nat hx2, _, rfl, _, atI_nat hx2, hS k _ hx2 _ (hq _)⟩
    · have : (rngD 0 l.length).map (fun _ => D.bl true) = List.replicate l.length (D.bl true) := by
        rw [List.map_const', rngD_len]
      rw [this, (all_true _).1]
    · rw [(all_true _).2]
      exact hP
  cases d with
  | non => exact law_like_none _ hP
  | bl b => exact law_like_scalar _ (.inl ⟨b, rfl⟩) hP
  | int i => exact law_like_scalar _ (.inr (.inl ⟨i, rfl⟩)) hP
  | str z => exact law_like_scalar _ (.inr (.inr ⟨z, rfl, by cases n <;> exact hd⟩)) hP
  | lst l =>
    cases n with
    | zero => exact hd.elim
    | succ n =>
      refine ⟨"list", true, false, by rfl, by rfl, by rfl, _, rfl, ite_t rfl ?_⟩
      refine ⟨_, _, _, true, rfl, by rfl, by rfl, _, _, _, true, rfl, by rfl, by rfl, rfl, rfl, _, rfl, ite_f (by rfl) ?_⟩
      refine ⟨_, _, _, false, rfl, by rfl, by rfl, _, _, _, false, rfl, by rfl, by rfl, rfl, rfl, _, rfl, ite_f (by rfl) ?_⟩
      exact fin l _ (.inl rfl) hd.1 fun k e he Q hQ => ⟨e, rfl, hd.2 e (List.mem_of_getElem? he), hQ⟩
  | tup l =>
    cases n with
    | zero => exact hd.elim
    | succ n =>
      refine ⟨"tuple", false, true, by rfl, by rfl, by rfl, _, rfl, ite_t rfl ?_⟩
      refine ⟨_, _, _, false, rfl, by rfl, by rfl, _, _, _, false, rfl, by rfl, by rfl, rfl, rfl, _, rfl, ite_f (by rfl) ?_⟩
      refine ⟨_, _, _, true, rfl, by rfl, by rfl, _, _, _, true, rfl, by rfl, by rfl, rfl, rfl, _, rfl, ite_f (by rfl) ?_⟩
      exact fin l _ (.inr rfl) hd.1 fun k e he Q hQ => ⟨e, rfl, hd.2 e (List.mem_of_getElem? he), hQ⟩
  | _ => cases n <;> exact hd.elim
end
theorem erase_perm {α : Type} : ∀ {l : List α} {k : Nat} {c : α}, l[k]? = some c → (c :: l.eraseIdx k).Perm l
  | [], k, c, h => by simp at h
  | x :: l, 0, c, h => by
    obtain rfl : x = c := by simpa using h
    exact .refl _
  | x :: l, k + 1, c, h => by
    have ih := erase_perm (l := l) (k := k) (c := c) (by simpa using h)
    rw [List.eraseIdx_cons_succ]
    exact (List.Perm.swap x c _).trans (ih.cons x)
theorem erase_map {α β : Type} (f : α → β) : ∀ (l : List α) (k : Nat), (l.map f).eraseIdx k = (l.eraseIdx k).map f
  | [], k => by simp
  | x :: l, 0 => rfl
  | x :: l, k + 1 => by rw [List.map_cons, List.eraseIdx_cons_succ, List.eraseIdx_cons_succ, List.map_cons, erase_map f l k]
theorem smalls_nd : smalls.Nodup := by decide +kernel
theorem smalls_len : smalls.length = 26 := by decide +kernel
section
variable {K : PySem.W.Frag} {mg : Str → Option Value}
theorem law_law_letters (T : Txt K mg) : ∀ ds P, S_law_letters K ds P → D_law_letters K (endsD P) (env0 ["deal", "many", "left", "found", "k"] ds) := by
  rintro ds P ⟨m, rfl, hm, hP⟩
  refine ⟨.str "abcdefghijklmnopqrstuvwxyz", smalls.map sgn, rfl, ?_, ?_⟩
  · have : (("abcdefghijklmnopqrstuvwxyz" : Str)).length ≤ 1000000 := by decide +kernel
    have e : itemsD (.str "abcdefghijklmnopqrstuvwxyz") = if (("abcdefghijklmnopqrstuvwxyz" : Str)).length ≤ 1000000 then some (DL.signs "abcdefghijklmnopqrstuvwxyz") else none := rfl
    rw [e, if_pos this]
    rfl
  refine ⟨m, rfl, by omega, by omega, ?_⟩
  rw [Int.toNat_natCast]
  refine loop_inv (fun i δ => ∃ f rest a, (f ++ rest).Perm smalls ∧ f.length = i ∧ i ≤ m ∧ δ = [.val .deal, .val (.int m), .own (rest.map sgn), .val (dW f), a]) ⟨[], smalls, _, by simp, rfl, by omega, rfl⟩ ?_ ?_
  · rintro δ ⟨f, rest, a, hp, hf, _, rfl⟩
    rw [rngD_len] at hf
    refine hP f ?_ (fun c hc => hp.mem_iff.mp (List.mem_append_left _ hc)) hf
    have := hp.nodup_iff.mpr smalls_nd
    exact (List.nodup_append.mp this).1
  · rintro i d δ N hd ⟨f, rest, a, hp, hf, hi, rfl⟩ hN
    obtain ⟨hi2, rfl⟩ := rngD_get hd
    have hl : f.length + rest.length = 26 := by
      have := hp.length_eq
      rw [List.length_append, smalls_len] at this
      exact this
    refine ⟨⟨_, rfl⟩, _, _, rfl, rfl, by simp; omega, _, rfl, by simp; omega, by simp; omega, fun r h0 h1 => ?_⟩
    have h1' : r < rest.length := by simpa using h1
    obtain ⟨k, c, rfl, hc, _⟩ := at_nat (xs := rest) h0 h1'
    have hk : k < rest.length := (List.getElem?_eq_some_iff.mp hc).1
    refine ⟨k, sgn c, rest.map sgn, rfl, rfl, by omega, by rw [List.getElem?_map, hc]; rfl, by simp; omega, ?_⟩
    have e : tx f ++ (⟨#[c]⟩ : Str) = tx (f ++ [c]) := tx_app f [c]
    show N [.val .deal, .val (.int m), .own ((rest.map sgn).eraseIdx k), .val (.str (tx f ++ ⟨#[c]⟩)), _]
    rw [e]
    refine hN _ ⟨f ++ [c], rest.eraseIdx k, .val (.int (0 + (i : Nat))), ?_, by simp [hf], by omega, ?_⟩
    · refine List.Perm.trans ?_ hp
      rw [List.append_assoc]
      refine List.Perm.append_left _ ?_
      exact erase_perm hc
    · rw [erase_map]
theorem law_law_weights (T : Txt K mg) : ∀ ds P, S_law_weights K ds P → D_law_weights K (endsD P) (env0 ["deal", "many", "way", "k"] ds) := by
  rintro ds P ⟨m, rfl, h0, hm, hP⟩
  refine ⟨4, rfl, by omega, by omega, fun w w0 w4 => ?_⟩
  refine ⟨_, _, rfl, rfl, _, rfl, ite_b (fun h => ?_) (fun h => ?_)⟩
  · have hw2 : w < 2 := by simpa using h
    refine ⟨99, rfl, by omega, by omega, fun r r0 r1 => ?_⟩
    refine ⟨.inl ⟨by omega, by omega⟩, by show 1 ≤ 1000000; decide, ?_⟩
    refine ⟨by omega, by show 1 ≤ 1000; decide, by omega, ?_⟩
    have e : (List.replicate ((m : Nat) : Int).toNat [D.int (1 + w * r)]).flatten = dI (List.replicate m (1 + w * r)) := by
      unfold dI
      rw [List.map_replicate, Int.toNat_natCast]
      simp
    rw [e]
    refine hP _ (by simp) fun v hv => ?_
    rw [List.mem_replicate] at hv
    obtain ⟨_, rfl⟩ := hv
    have : w = 0 ∨ w = 1 := by omega
    rcases this with rfl | rfl <;> omega
  · have hw2 : ¬ w < 2 := by simpa using h
    refine ⟨m, rfl, by omega, by omega, ?_⟩
    rw [Int.toNat_natCast]
    refine comp_rel (fun _ y => ∃ v : Int, y = .int v ∧ 1 ≤ v ∧ v ≤ 99) (by rw [rngD_len]; omega) (fun d hd Q hq => ?_) fun ys hy => ⟨_, .inl rfl, ?_⟩
    · refine ⟨by show 2 ≤ 1000000; decide, _, _, rfl, rfl, trivial, w - 2, rfl, ?_⟩
      have : w = 2 ∨ w = 3 := by omega
      rcases this with rfl | rfl
      · refine ⟨.int 3, by rfl, 3, rfl, by omega, by omega, fun r r0 r1 => ?_⟩
        exact hq _ _ ⟨_, rfl, by omega, by omega⟩
      · refine ⟨.int 99, by rfl, 99, rfl, by omega, by omega, fun r r0 r1 => ?_⟩
        exact hq _ _ ⟨_, rfl, by omega, by omega⟩
    · have : ∀ {xs ys : List D}, All2 (fun _ y => ∃ v : Int, y = .int v ∧ 1 ≤ v ∧ v ≤ 99) xs ys → ∃ W : List Int, ys = dI W ∧ W.length = xs.length ∧ ∀ w ∈ W, 1 ≤ w ∧ w ≤ 99 := by
        intro xs ys h
        induction h with
        | nil => exact ⟨[], rfl, rfl, by simp⟩
        | cons r _ ih =>
          obtain ⟨v, rfl, h1⟩ := r
          obtain ⟨W, e1, e2, e3⟩ := ih
          refine ⟨v :: W, by rw [e1]; rfl, by simp [e2], fun w hw => ?_⟩
          rcases List.mem_cons.mp hw with rfl | hw
          · exact h1
          · exact e3 w hw
      obtain ⟨W, e1, e2, e3⟩ := this hy
      rw [rngD_len] at e2
      rw [e1]
      exact hP W e2 e3
theorem law_law_word (T : Txt K mg) : ∀ ds P, S_law_word K ds P → D_law_word K (endsD P) (env0 ["deal", "letters", "most", "k"] ds) := by
  rintro ds P ⟨L, m, rfl, hL, h8, hm, hP⟩
  refine ⟨⟨_, rfl⟩, (m : Int) + 1, rfl, by omega, by omega, fun r r0 r1 => ⟨r, rfl, by omega, by omega, ?_⟩⟩
  refine comp_rel (fun _ y => ∃ c ∈ L, y = sgn c) (by rw [rngD_len]; omega) (fun d hd Q hq => ?_) fun ys hy => ?_
  · refine ⟨L.map sgn, .inr ⟨L, rfl, rfl⟩, by simp [hL], by rw [List.length_map]; omega, fun y hy => ?_⟩
    obtain ⟨c, hc, rfl⟩ := List.mem_map.mp hy
    exact hq _ _ ⟨c, hc, rfl⟩
  · have : ∀ {xs ys : List D}, All2 (fun _ y => ∃ c ∈ L, y = sgn c) xs ys → ∃ w : wd, ys = w.map sgn ∧ w.length = xs.length ∧ Ov L w := by
      intro xs ys h
      induction h with
      | nil => exact ⟨[], rfl, rfl, by simp [Ov]⟩
      | cons r _ ih =>
        obtain ⟨c, hc, rfl⟩ := r
        obtain ⟨w, e1, e2, e3⟩ := ih
        refine ⟨c :: w, by rw [e1]; rfl, by simp [e2], fun d hd => ?_⟩
        rcases List.mem_cons.mp hd with rfl | hd
        · exact hc
        · exact e3 d hd
    obtain ⟨w, e1, e2, e3⟩ := this hy
    rw [rngD_len] at e2
    have es : (w.map fun c => tx [c]).map D.str = w.map sgn := by rw [List.map_map]; rfl
    refine ⟨tx [], w.map fun c => tx [c], rfl, .inl (by rw [e1, es]), ?_, ?_⟩
    · rw [List.map_map]
      have e4 : (w.map ((fun s : Str => s.length) ∘ fun c => tx [c])).sum = w.length := by
        clear es e1 e2 e3
        induction w with
        | nil => rfl
        | cons c w ih => simp only [List.map_cons, List.sum_cons, ih, List.length_cons, Function.comp, tx_len, List.length_nil]; omega
      have e5 : (tx []).length = 0 := rfl
      rw [e4, e5]
      omega
    · have e6 : (w.map fun c => tx [c]) = (w.map fun c => [c]).map tx := by rw [List.map_map]; rfl
      rw [e6, tx_join]
      have e7 : (w.map fun c => [c]).flatten = w := by
        clear es e1 e2 e3 e6
        induction w with
        | nil => rfl
        | cons c w ih => rw [List.map_cons, List.flatten_cons, ih]; rfl
      rw [e7]
      exact hP w e3 (by omega)
def atD (W : List Int) : D → D
  | .int i => .int (W.getD i.toNat 0)
  | d => d
theorem law_law_rank (T : Txt K mg) : ∀ ds P, S_law_rank K ds P → D_law_rank K (endsD P) (env0 ["m", "word", "spots", "sign", "spot"] ds) := by
  rintro ds P ⟨L, W, x, w, rfl, hS, ho, hl, hP⟩
  refine ⟨_, rfl, ?_⟩
  refine comp_map (idxD L) (by simp; omega) (fun d hd Q hq => ?_) ?_
  · obtain ⟨c, hc, rfl⟩ := List.mem_map.mp hd
    refine ⟨0, rfl, dW L, by rfl, ⟨_, rfl⟩, _, _, _, rfl, rfl, tx_index L c (ho c (by simpa using hc)), ?_⟩
    exact hq _
  rw [idx_map]
  refine ⟨_, rfl, ?_⟩
  have hW : ∀ c ∈ w, L.idxOf c < W.length := fun c hc => by
    rw [hS.wl]
    exact List.idxOf_lt_length_of_mem (ho c hc)
  refine comp_map (atD W) (by simp [dI]; omega) (fun d hd Q hq => ?_) ⟨w.map fun c => W.getD (L.idxOf c) 0, ?_, ?_⟩
  · obtain ⟨i, hi, rfl⟩ := List.mem_map.mp hd
    obtain ⟨c, hc, rfl⟩ := List.mem_map.mp hi
    have h1 := hW c hc
    refine ⟨1, rfl, .tup (dI W), by rfl, ((L.idxOf c : Nat) : Int), rfl, .int (W.getD (L.idxOf c) 0), ?_, ?_⟩
    · refine atI_nat ?_
      unfold dI
      rw [List.getElem?_map, List.getD_eq_getElem?_getD, List.getElem?_eq_getElem h1]
      rfl
    · have := hq
      exact hq _
  · show [D.lst ((dI _).map (atD W))] = _
    unfold dI
    rw [List.map_map, List.map_map, List.map_map]
    rfl
  · refine ⟨_, _, rfl, rfl, by simp; omega, by show 3 ≤ 1000000; decide, ?_⟩
    rw [tx_len]
    exact hP
theorem law_law_oriented (T : Txt K mg) : ∀ ds P, S_law_oriented K ds P → D_law_oriented K (endsD P) (env0 ["m", "one", "other"] ds) := by
  rintro ds P ⟨L, W, x, a, b, rfl, hS, ha, hb, la, lb, hne, hP⟩
  refine ⟨L, W, x, a, rfl, hS, ha, la, L, W, x, b, rfl, hS, hb, lb, ?_⟩
  refine ⟨rank_lay _ _ _, rank_lay _ _ _, rank_cmp _ _ _ _, rank_dep _ _ _, _, rfl, ite_b (fun h => ?_) (fun h => ?_)⟩
  · exact ⟨by show 2 ≤ 1000000; decide, hP (a, b) (.inl rfl) h⟩
  · exact ⟨by show 2 ≤ 1000000; decide, hP (b, a) (.inr rfl) (rlt_total ha hb hne h)⟩
theorem law_law_scale_of (T : Txt K mg) : ∀ ds P, S_law_scale_of K ds P → D_law_scale_of K (endsD P) (env0 ["m"] ds) := by
  rintro ds P ⟨L, W, x, rfl, hS, hP⟩
  exact ⟨0, rfl, dW L, by rfl, 1, rfl, .tup (dI W), by rfl, rfl, rfl, L, W, W, rfl, .inr rfl, hS, hP⟩
theorem law_law_rules_of (T : Txt K mg) : ∀ ds P, S_law_rules_of K ds P → D_law_rules_of K (endsD P) (env0 ["m"] ds) := by
  rintro ds P ⟨L, W, ps, rfl, hS, hP⟩
  exact ⟨L, W, _, rfl, hS.1, 2, rfl, .lst (ps.map dP), by rfl, rfl, rfl, L, W, ps, .inl rfl, hS.1, hS.2.1, hS.2.2, hP⟩
theorem law_law_any_list (T : Txt K mg) : ∀ ds P, S_law_any_list K ds P → D_law_any_list K (endsD P) (env0 ["deal", "most", "many", "m", "size", "k", "one", "other"] ds) := by
  rintro ds P ⟨m, rfl, hm, hP⟩
  refine ⟨by show 3 ≤ 1000000; decide, [.int 2, .int 3, .int 8], .inl rfl, by simp, by show 3 ≤ 1000; decide, fun y hy => ?_⟩
  obtain ⟨v, rfl, hv1, hv2⟩ : ∃ v : Int, y = .int v ∧ 2 ≤ v ∧ v ≤ 8 := by
    simp at hy
    rcases hy with rfl | rfl | rfl
    · exact ⟨2, rfl, by omega, by omega⟩
    · exact ⟨3, rfl, by omega, by omega⟩
    · exact ⟨8, rfl, by omega, by omega⟩
  refine ⟨v, rfl, by omega, by omega, fun r r0 r1 => ?_⟩
  obtain ⟨q, hq⟩ := Int.eq_ofNat_of_zero_le (show 0 ≤ 1 + r by omega)
  refine ⟨q, by rw [← hq], by omega, fun L hnd hsub hlen => ?_⟩
  refine ⟨q, by rw [← hq], by omega, by omega, fun W hwl hw1 => ?_⟩
  have hS : ScOk L W := ⟨hnd, hsub, by omega, by omega, by omega, hw1⟩
  intro p
  refine ⟨by show 3 ≤ 1000000; decide, [.int 2, .int 3, .int 4], .inl rfl, by simp, by show 3 ≤ 1000; decide, fun y hy => ?_⟩
  obtain ⟨z, rfl, hz⟩ : ∃ z : Nat, y = .int z ∧ z ≤ 4 := by
    simp at hy
    rcases hy with rfl | rfl | rfl
    · exact ⟨2, rfl, by omega⟩
    · exact ⟨3, rfl, by omega⟩
    · exact ⟨4, rfl, by omega⟩
  refine ⟨(m : Int) + 1, rfl, by omega, by omega, fun n n0 n1 => ⟨n, rfl, by omega, by omega, ?_⟩⟩
  refine loop_inv (fun i δ => ∃ ps a b c, ps.length ≤ i ∧ i ≤ m ∧ (∀ p ∈ ps, ShOk L W p) ∧ δ = [.val .deal, .val (.int m), .val (.int (1 + r)), .box p [dW L, .tup (dI W)] (ps.map dP), .val (.int z), a, b, c]) ⟨[], _, _, _, by simp, by omega, by simp, rfl⟩ ?_ ?_
  · rintro δ ⟨ps, a, b, c, h1, h2, h3, rfl⟩
    exact hP L W ps hS (by omega) h3
  · rintro i d δ N hd ⟨ps, a, b, c, h1, h2, h3, rfl⟩ hN
    obtain ⟨hi, rfl⟩ := rngD_get hd
    have hLne : L ≠ [] := fun h => by rw [h] at hlen; simp at hlen; omega
    refine ⟨0, rfl, dW L, by rfl, L, z, rfl, hLne, by omega, by omega, fun w1 o1 l1 => ?_⟩
    refine ⟨0, rfl, dW L, by rfl, L, z, rfl, hLne, by omega, by omega, fun w2 o2 l2 => ?_⟩
    refine ⟨_, _, rfl, ?_⟩
    have sm : ∀ w, Ov L w → Sm w := fun w h c hc => hsub c (h c hc)
    refine ⟨shp_str (sm _ o1), shp_str (sm _ o2), _, rfl, ite_b (fun h => ?_) (fun h => ?_)⟩
    · have hne : w1 ≠ w2 := by simpa [py, tx_eq] using h
      refine ⟨p, _, _, rfl, rfl, L, W, .unk, w1, w2, rfl, hS, o1, o2, by omega, by omega, hne, fun pr hpr hlt => ?_⟩
      refine ⟨_, _, rfl, by rw [List.length_map]; omega, ?_⟩
      refine hN _ ⟨ps ++ [pr], _, _, _, by simp; omega, by omega, fun x hx => ?_, by rw [List.map_append]; rfl⟩
      rcases List.mem_append.mp hx with hx | hx
      · exact h3 x hx
      · obtain rfl : x = pr := by simpa using hx
        rcases hpr with rfl | rfl
        · exact ⟨by show w1.length ≤ 4; omega, by show w2.length ≤ 4; omega, o1, o2, hlt⟩
        · exact ⟨by show w2.length ≤ 4; omega, by show w1.length ≤ 4; omega, o2, o1, hlt⟩
    · exact hN _ ⟨ps, _, _, _, by omega, by omega, h3, rfl⟩
theorem law_law_deal (T : Txt K mg) : ∀ ds P, S_law_deal K ds P → D_law_deal K (endsN P) (env0 ["script", "mixed", "cell"] ds) := by
  rintro ds P ⟨ns, rfl, hl, hP⟩
  have hc : cut (ns.map D.int) none (some 63) = dI ns := by
    rw [cut_to (by decide), List.take_of_length_le (by rw [List.length_map]; exact hl)]
  have hll : (cut (ns.map D.int) none (some 63)).length = ns.length := by rw [hc]; simp [dI]
  refine ⟨63, rfl, _, _, rfl, rfl, by omega, .inl ⟨by decide, by decide⟩, ?_⟩
  refine ⟨63, rfl, _, rfl, ?_⟩
  refine loop_inv (fun _ δ => ∃ (m : Int) (a : SD), 0 ≤ m ∧ m < 2147483563 ∧ δ = [.val (.scr ns), .val (.int m), a]) ⟨9461 + 77 * ((cut (ns.map D.int) none (some 63)).length : Nat), _, by omega, by omega, rfl⟩ ?_ ?_
  · rintro δ ⟨m, a, m0, m1, rfl⟩
    have h2 := hP m m0 m1
    rw [← hc] at h2
    exact ⟨63, rfl, _, _, rfl, rfl, by show 5 ≤ 1000000; decide, h2⟩
  · rintro i d δ N hd ⟨m, a, m0, m1, rfl⟩ hN
    rw [hc] at hd
    unfold dI at hd
    rw [List.getElem?_map] at hd
    obtain ⟨c, _, rfl⟩ := Option.map_eq_some_iff.mp hd
    refine ⟨.inl ⟨by omega, by omega⟩, _, _, rfl, rfl, (by show (0 : Int) < _; decide), .inr ⟨by decide, by decide⟩, _, _, rfl, rfl, (by show (0 : Int) < _; decide), ?_⟩
    exact hN _ ⟨_, _, Int.emod_nonneg _ (by decide), Int.emod_lt_of_pos _ (by decide), rfl⟩
end


end SF

set_option pp.maxSteps 1200
namespace SF
open PySem PySem.Spec PyProof.Rows L2 DL RZ
theorem fm_take {α β : Type} (f : α → List β) {zs : List α} {i : Nat} {z : α} (h : zs[i]? = some z) : (zs.take (i + 1)).flatMap f = (zs.take i).flatMap f ++ f z := by
  rw [List.take_add_one, h, List.flatMap_append]
  simp
theorem zi_get {α : Type} {ls : List α} {i : Nat} {l : α} (h : ls[i]? = some l) : (ls.zipIdx)[i]? = some (l, i) := by
  rw [List.getElem?_zipIdx, h]
  simp
theorem sm_take {w : wd} (h : Sm w) (n : Nat) : Sm (w.take n) := fun c hc => h c (List.mem_of_mem_take hc)
theorem sm_drop {w : wd} (h : Sm w) (n : Nat) : Sm (w.drop n) := fun c hc => h c (List.mem_of_mem_drop hc)
def st1 (w : wd) (a : Nat) (b : wd × Nat) : List (Nat × Nat) := if (w.drop a).take b.1.length = b.1 then [(a, b.2)] else []
theorem st1_len (w : wd) (a : Nat) (b : wd × Nat) : (st1 w a b).length ≤ 1 := by unfold st1; split <;> simp
theorem row_len {ls : List wd} {m : Nat} (w : wd) (a : Nat) (hl : ls.length ≤ m) (k : Nat) : ((ls.zipIdx.take k).flatMap (st1 w a)).length ≤ m := by
  have h1 := fm_le (f := st1 w a) (m := 1) (fun b => st1_len w a b) (ls.zipIdx.take k)
  have h2 : (ls.zipIdx.take k).length ≤ m := by
    rw [List.length_take, List.length_zipIdx]
    omega
  omega
def stO (ls : List wd) (w : wd) (k : Nat) : List (Nat × Nat) := (List.range k).flatMap fun a => ls.zipIdx.flatMap (st1 w a)
theorem stO_len {ls : List wd} {m : Nat} (w : wd) (hl : ls.length ≤ m) (k : Nat) : (stO ls w k).length ≤ k * m := by
  have := fm_le (f := fun a => ls.zipIdx.flatMap (st1 w a)) (m := m) (fun a => by
    have := row_len (ls := ls) w a hl ls.length
    rwa [List.take_of_length_le (by rw [List.length_zipIdx]; exact Nat.le_refl _)] at this) (List.range k)
  rwa [List.length_range] at this
theorem stand_eq (ls : List wd) (w : wd) : stand ls w = stO ls w w.length := rfl
theorem stO_succ (ls : List wd) (w : wd) (k : Nat) : stO ls w (k + 1) = stO ls w k ++ ls.zipIdx.flatMap (st1 w k) := fm_r0 _ _
theorem stand_lim {ps : List (wd × wd)} (h : PsOk ps) {w : wd} (hw : w.length ≤ 1000) : (stand (lefts ps) w).length ≤ 100000 := by
  have := stO_len (ls := lefts ps) (m := 100) w (by rw [List.length_map]; exact h.n) w.length
  rw [stand_eq]
  omega
theorem cutS_mid {w : wd} {a n : Nat} (h : a ≤ w.length) : cutS (tx w) (some ((a : Nat) : Int)) (some (((a : Nat) : Int) + ((n : Nat) : Int))) = tx ((w.drop a).take n) := by
  rw [tx_cut, cut_mid (by omega) (by omega) (by omega)]
  congr 3
  omega
theorem stand_mem {ls : List wd} {w s : wd} {p j : Nat} (hj : ls[j]? = some s) (hp : p < w.length) (h : (w.drop p).take s.length = s) : (p, j) ∈ stand ls w := by
  unfold stand
  refine List.mem_flatMap.mpr ⟨p, List.mem_range.mpr hp, List.mem_flatMap.mpr ⟨(s, j), List.mem_zipIdx_iff_getElem?.mpr hj, ?_⟩⟩
  rw [if_pos h]
  exact List.mem_cons_self
theorem mem_stand {ls : List wd} {w : wd} {p j : Nat} (h : (p, j) ∈ stand ls w) : ∃ s, ls[j]? = some s ∧ p < w.length ∧ (w.drop p).take s.length = s := by
  unfold stand at h
  obtain ⟨a, ha, h⟩ := List.mem_flatMap.mp h
  obtain ⟨b, hb, h⟩ := List.mem_flatMap.mp h
  split at h
  · rename_i e
    have e2 : (p, j) = (a, b.2) := by simpa using h
    cases e2
    exact ⟨b.1, List.mem_zipIdx_iff_getElem?.mp hb, List.mem_range.mp ha, e⟩
  · cases h
theorem eqv_pr (a b c d : Int) : PyData.eqv (.tuple [.int a, .int b]) (.tuple [.int c, .int d]) = (decide (a = c) && decide (b = d)) := by
  simp [PyData.eqv, PyData.eqvAll]
  by_cases h1 : a = c <;> by_cases h2 : b = d <;> simp [h1, h2]
theorem pfx_iff (l w : wd) : l.isPrefixOf w = decide (w.take l.length = l) := by
  rw [← take_beq]
  by_cases h : w.take l.length = l
  · rw [decide_eq_true h]; simp [h]
  · rw [decide_eq_false h]; simpa using h
theorem row_filt (ps : List (wd × wd)) (w : wd) (k : Nat) (f : D → D) (p : D → Bool) (hf : ∀ (m : Nat) (x : wd × wd), f (.tup [.int (m : Nat), dP x]) = dPr (k, m)) (hp : ∀ (m : Nat) (x : wd × wd), p (.tup [.int (m : Nat), dP x]) = decide ((w.drop k).take x.1.length = x.1)) (n : Nat) :
    List.map f (List.filter p (((ps.map dP).zipIdx n).map fun z => D.tup [.int (z.2 : Nat), z.1])) = ((((lefts ps).zipIdx n).flatMap (st1 w k)).map dPr) := by
  induction ps generalizing n with
  | nil => rfl
  | cons x ps ih =>
    have ih := ih (n + 1)
    simp only [List.map_cons, List.zipIdx_cons, List.flatMap_cons, List.map_append] at ih ⊢
    rw [← ih]
    by_cases h : (w.drop k).take x.1.length = x.1
    · rw [List.filter_cons_of_pos (by rw [hp]; exact decide_eq_true h), List.map_cons, hf]
      unfold st1
      rw [if_pos h]
      rfl
    · rw [List.filter_cons_of_neg (by rw [hp, decide_eq_false h]; exact Bool.false_ne_true)]
      unfold st1
      rw [if_neg h]
      rfl
theorem numbered_zip (ds : List D) : DL.numbered ds = (ds.zipIdx).map fun z => D.tup [.int (z.2 : Nat), z.1] := by
  unfold DL.numbered
  rw [List.mapIdx_eq_zipIdx_map]
section
variable {K : PySem.W.Frag} {mg : Str → Option Value}
def pairD (k : Nat) : D → D
  | .tup [.int m, _] => .tup [.int (k : Nat), .int m]
  | d => d
def standsD (w : wd) (k : Nat) : D → Bool
  | .tup [_, .tup [.str z, _]] => z.cps.toList.isPrefixOf (w.drop k)
  | _ => false
theorem law_need_short (T : Txt K mg) (PX : PXt) : ∀ ds P, S_need_short K ds P PX → D_need_short K (fun C fs _ => PX C fs) (endsD P) (env0 ["word"] ds) := by
  rintro ds P ⟨w, rfl, hw, h1, h2⟩
  refine ⟨_, _, rfl, rfl, by simp; omega, _, _, rfl, rfl, _, rfl, ite_b (fun h => ?_) (fun h => ?_)⟩
  · refine ⟨rfl, by show 1 ≤ 1000; decide, h2 ?_⟩
    simp at h
    omega
  · refine h1 ?_
    simp at h
    omega
theorem law_standing (T : Txt K mg) : ∀ ds P, S_standing K ds P → D_standing K (endsN P) (env0 ["pairs", "word", "found", "at", "number", "left", "right"] ds) := by
  rintro ds P ⟨ps, w, rfl, hp, hw, hP⟩
  refine ⟨by show 0 ≤ 1000000; decide, ?_⟩
  have hn : (lefts ps).length ≤ 100 := by rw [List.length_map]; exact hp.n
  refine ⟨_, _, rfl, rfl, by simp; omega, _, rfl, by omega, by simp; omega, ?_⟩
  have hr2 : (((tx w).length : Nat) : Int).toNat = w.length := by simp
  rw [hr2]
  refine loop_inv (fun k δ => ∃ a b c d, δ = [.val (.lst (ps.map dP)), .val (dW w), .own ((stO (lefts ps) w k).map dPr), a, b, c, d]) ⟨_, _, _, _, rfl⟩ ?_ ?_
  · rintro δ ⟨a, b, c, d, rfl⟩
    rw [rngD_len]
    exact hP
  · rintro k d δ N hd ⟨a, b, c, d', rfl⟩ hN
    obtain ⟨hk, rfl⟩ := rngD_get hd
    have eq0 : (0 : Int) + (k : Nat) = ((k : Nat) : Int) := by omega
    rw [eq0]
    have hOl : (stO (lefts ps) w k).length ≤ k * 100 := stO_len w hn k
    refine ⟨⟨_, rfl⟩, ps.map dP, rfl, ?_⟩
    refine comp_filt (pairD k) (standsD w k) (by rw [numbered_len, List.length_map]; have := hp.n; omega) (fun d hd Q N hq hn' => ?_) ?_
    · obtain ⟨i, hi⟩ := List.getElem?_of_mem hd
      obtain ⟨z, hz, rfl⟩ := numbered_get hi
      rw [List.getElem?_map] at hz
      obtain ⟨x, hx, rfl⟩ := Option.map_eq_some_iff.mp hz
      refine ⟨_, rfl, rfl, _, _, rfl, _, _, rfl, ⟨_, rfl, rfl, _, _, rfl, _, _, rfl, rfl, rfl, ?_⟩⟩
      refine ⟨⟨_, rfl⟩, _, _, _, rfl, rfl, ?_⟩
      have es := tx_starts3 w x.1 (k : Int) (by omega) (by omega)
      refine ⟨_, rfl, ite_b (fun h => ?_) (fun h => ?_)⟩
      · exact ⟨by show 2 ≤ 1000000; decide, hq (es.symm.trans h) _⟩
      · exact hn' (es.symm.trans h)
    · have e := row_filt ps w k (pairD k) (standsD w k) (fun _ _ => rfl) (fun m x => pfx_iff _ _) 0
      rw [← numbered_zip] at e
      rw [e]
      have hr : (((lefts ps).zipIdx.flatMap (st1 w k)).map dPr).length ≤ 100 := by
        have := row_len (ls := lefts ps) w k hn (lefts ps).length
        rw [List.take_of_length_le (by rw [List.length_zipIdx]; exact Nat.le_refl _)] at this
        rw [List.length_map]
        exact this
      refine ⟨_, _, rfl, rfl, ?_, ?_⟩
      · have : ((stO (lefts ps) w k).map dPr).length = (stO (lefts ps) w k).length := List.length_map _
        omega
      · rw [← List.map_append, ← stO_succ]
        exact hN _ ⟨_, _, _, _, rfl⟩
end
theorem stO_pre (ls : List wd) (w : wd) (k : Nat) : ∀ n, ∃ r, stO ls w (k + n) = stO ls w k ++ r
  | 0 => ⟨[], by simp⟩
  | n + 1 => by
    obtain ⟨r, e⟩ := stO_pre ls w k n
    exact ⟨r ++ ls.zipIdx.flatMap (st1 w (k + n)), by rw [← List.append_assoc, ← e]; exact stO_succ ls w (k + n)⟩
theorem first_head {ls : List wd} {w s : wd} {k m : Nat} (hk : k < w.length) (h0 : stO ls w k = []) (h1 : (ls.zipIdx.take m).flatMap (st1 w k) = []) (hs : ls[m]? = some s) (h : (w.drop k).take s.length = s) : (stand ls w).head? = some (k, m) := by
  obtain ⟨r, e⟩ := stO_pre ls w (k + 1) (w.length - (k + 1))
  rw [show k + 1 + (w.length - (k + 1)) = w.length by omega] at e
  rw [stand_eq, e, stO_succ, h0]
  have e2 : ls.zipIdx.flatMap (st1 w k) = (ls.zipIdx.take (m + 1)).flatMap (st1 w k) ++ (ls.zipIdx.drop (m + 1)).flatMap (st1 w k) := by
    rw [← List.flatMap_append, List.take_append_drop]
  rw [e2, fm_take _ (zi_get hs), h1]
  unfold st1
  rw [if_pos h]
  rfl
section
variable {K : PySem.W.Frag} {mg : Str → Option Value}
theorem stand_shp (ls : List wd) (w : wd) (h : (stand ls w).length ≤ 1000000) : shp (.lst ((stand ls w).map dPr)) = true := dep_shp (n := 2) (by omega) (dep_prs _ h)
theorem eqv_nil (l : List D) : PyData.eqv (py (.lst l)) (py (.lst [])) = decide (l = []) := by
  cases l <;> simp [py, pys, PyData.eqv, PyData.eqvAll]
end


end SF

set_option pp.maxSteps 1200
namespace SF
open PySem PySem.Spec PyProof.Rows L2 DL RZ
theorem cutS_to (w : wd) (a : Nat) : cutS (tx w) none (some ((a : Nat) : Int)) = tx (w.take a) := by
  rw [tx_cut, cut_to (by omega), Int.toNat_natCast]
theorem cutS_from (w : wd) (a n : Nat) : cutS (tx w) (some (((a : Nat) : Int) + ((n : Nat) : Int))) none = tx (w.drop (a + n)) := by
  rw [tx_cut, cut_from (by omega)]
  congr 2
theorem step_str (w : wd) (a : Nat) (l r : wd) : (cutS (tx w) none (some ((a : Nat) : Int)) ++ tx r) ++ cutS (tx w) (some (((a : Nat) : Int) + (((tx l).length : Nat) : Int))) none = tx (stepOf w a (l, r)) := by
  rw [cutS_to, tx_len, cutS_from, tx_app, tx_app]
  rfl
theorem cutS_to_len (w : wd) (a : Nat) : (cutS (tx w) none (some ((a : Nat) : Int))).length ≤ w.length := by
  rw [cutS_to, tx_len, List.length_take]
  omega
theorem cutS_from_len (w : wd) (a : Nat) (l : wd) : (cutS (tx w) (some (((a : Nat) : Int) + (((tx l).length : Nat) : Int))) none).length ≤ w.length := by
  rw [tx_len, cutS_from, tx_len, List.length_drop]
  omega
theorem fst_len (w : wd) (a : Nat) (r : wd) : (cutS (tx w) none (some ((a : Nat) : Int)) ++ tx r).length ≤ w.length + r.length := by
  rw [cutS_to, tx_app, tx_len, List.length_append, List.length_take]
  omega
theorem step_strE (w : wd) (a : Nat) (p : wd × wd) : D.str ((cutS (tx w) none (some ((a : Nat) : Int)) ++ tx p.2) ++ cutS (tx w) (some (((a : Nat) : Int) + (((tx p.1).length : Nat) : Int))) none) = dW (stepOf w a p) := congrArg D.str (step_str w a p.1 p.2)
theorem step_len (w : wd) (a : Nat) (p : wd × wd) : (stepOf w a p).length ≤ w.length + p.2.length + w.length := by
  unfold stepOf
  simp only [List.length_append, List.length_take, List.length_drop]
  omega
theorem sm_step {w : wd} {a : Nat} {p : wd × wd} (h : Sm w) (h2 : Sm p.2) : Sm (stepOf w a p) := fun c hc => by
  unfold stepOf at hc
  rcases List.mem_append.mp hc with hc | hc
  · rcases List.mem_append.mp hc with hc | hc
    · exact h c (List.mem_of_mem_take hc)
    · exact h2 c hc
  · exact h c (List.mem_of_mem_drop hc)
theorem ov_step {L w : wd} {a : Nat} {p : wd × wd} (h : Ov L w) (h2 : Ov L p.2) : Ov L (stepOf w a p) := fun c hc => by
  unfold stepOf at hc
  rcases List.mem_append.mp hc with hc | hc
  · rcases List.mem_append.mp hc with hc | hc
    · exact h c (List.mem_of_mem_take hc)
    · exact h2 c hc
  · exact h c (List.mem_of_mem_drop hc)
theorem spot_mem {ls : List wd} {w : wd} {pk : List Int} {k : Nat} {x : Nat × Nat} (h : spotAt ls w pk k = some x) : x ∈ stand ls w := by
  unfold spotAt at h
  split at h
  · exact List.mem_of_mem_head? h
  · exact List.mem_of_getElem? h
theorem spot_none {ls : List wd} {w : wd} {pk : List Int} {k : Nat} (h : spotAt ls w pk k = none) : stand ls w = [] := by
  unfold spotAt at h
  split at h
  · cases e : stand ls w with
    | nil => rfl
    | cons x l => rw [e] at h; cases h
  · rename_i i hi
    by_cases z : stand ls w = []
    · exact z
    · have hpos : 0 < (stand ls w).length := List.length_pos_iff.mpr z
      have m0 : 0 ≤ i % ((stand ls w).length : Nat) := Int.emod_nonneg _ (by omega)
      have m1 : i % ((stand ls w).length : Nat) < ((stand ls w).length : Nat) := Int.emod_lt_of_pos _ (by omega)
      rw [List.getElem?_eq_getElem (by omega)] at h
      cases h
theorem spot_facts {ps : List (wd × wd)} {w : wd} {pk : List Int} {k a n : Nat} (h : spotAt (lefts ps) w pk k = some (a, n)) : ∃ p, ps[n]? = some p ∧ a < w.length ∧ (w.drop a).take p.1.length = p.1 := by
  obtain ⟨s, h1, h2, h3⟩ := mem_stand (spot_mem h)
  rw [List.getElem?_map] at h1
  obtain ⟨p, hp, rfl⟩ := Option.map_eq_some_iff.mp h1
  exact ⟨p, hp, h2, h3⟩
section
variable {K : PySem.W.Frag} {mg : Str → Option Value}
theorem law_law_standing (T : Txt K mg) : ∀ ds P, S_law_standing K ds P → D_law_standing K (endsN P) (env0 ["pairs", "word", "found", "at", "number", "left", "right"] ds) := by
  rintro ds P ⟨ps, w, rfl, hp, hwl, hwS, hpS, hP⟩
  refine ⟨by decide, ?_⟩
  have hn : (lefts ps).length ≤ 100 := by rw [List.length_map]; exact hp.n
  have hls : ∀ (k : Nat) (p : wd × wd), ps[k]? = some p → (lefts ps)[k]? = some p.1 := fun k p h => by rw [List.getElem?_map, h]; rfl
  refine ⟨_, _, rfl, rfl, by simp; omega, _, rfl, by omega, by simp; omega, ?_⟩
  have hr2 : (((tx w).length : Nat) : Int).toNat = w.length := by simp
  rw [hr2]
  refine loop_inv (fun k δ => ∃ a b c d, δ = [.val (.lst (ps.map dP)), .val (dW w), .own ((stO (lefts ps) w k).map dPr), a, b, c, d]) ⟨_, _, _, _, rfl⟩ ?_ ?_
  · rintro δ ⟨a, b, c, d, rfl⟩
    rw [rngD_len]
    exact hP
  · rintro k d δ N hd ⟨a, b, c, d', rfl⟩ hN
    obtain ⟨hk, rfl⟩ := rngD_get hd
    have eq0 : (0 : Int) + (k : Nat) = ((k : Nat) : Int) := by omega
    rw [eq0]
    have hOl : (stO (lefts ps) w k).length ≤ k * 100 := stO_len w hn k
    refine ⟨ps.map dP, rfl, ?_⟩
    refine loop_inv (fun m δ => ∃ b c d, δ = [.val (.lst (ps.map dP)), .val (dW w), .own ((stO (lefts ps) w k ++ ((lefts ps).zipIdx.take m).flatMap (st1 w k)).map dPr), .val (.int (k : Nat)), b, c, d]) ⟨b, c, d', ?_⟩ ?_ ?_
    · show _ = [_, _, SD.own ((stO (lefts ps) w k ++ []).map dPr), _, _, _, _]
      rw [List.append_nil]
      rfl
    · rintro δ ⟨b, c, d, rfl⟩
      rw [numbered_len, List.length_map, List.take_of_length_le (by rw [List.length_zipIdx, List.length_map]; exact Nat.le_refl _), ← stO_succ]
      exact hN _ ⟨_, _, _, _, rfl⟩
    · rintro m d3 δ N2 hd3 ⟨b, c, d, rfl⟩ hN2
      obtain ⟨z, hz, rfl⟩ := numbered_get hd3
      rw [List.getElem?_map] at hz
      obtain ⟨x, hx, rfl⟩ := Option.map_eq_some_iff.mp hz
      have hxl := (hp.l x (List.mem_of_getElem? hx)).1
      have hxS := hpS x (List.mem_of_getElem? hx)
      have hBl := row_len (ls := lefts ps) w k hn m
      have hN3 : ∀ (xs : List (Nat × Nat)), st1 w k (x.1, m) = xs → N2 [.val (.lst (ps.map dP)), .val (dW w), .own ((stO (lefts ps) w k ++ ((lefts ps).zipIdx.take m).flatMap (st1 w k)).map dPr ++ xs.map dPr), .val (.int (k : Nat)), .val (.int (m : Nat)), .val (dW x.1), .val (dW x.2)] := by
        intro xs ex
        have e : (stO (lefts ps) w k ++ ((lefts ps).zipIdx.take m).flatMap (st1 w k)).map dPr ++ xs.map dPr = (stO (lefts ps) w k ++ ((lefts ps).zipIdx.take (m + 1)).flatMap (st1 w k)).map dPr := by
          rw [fm_take _ (zi_get (hls m x hx)), ex]
          simp only [List.map_append, List.append_assoc]
        rw [e]
        exact hN2 _ ⟨_, _, _, rfl⟩
      refine ⟨_, rfl, rfl, _, _, rfl, _, _, rfl, ⟨_, rfl, rfl, _, _, rfl, _, _, rfl, rfl, rfl, ?_⟩⟩
      refine ⟨_, rfl, _, _, rfl, rfl, by simp; omega, _, rfl, by simp; omega, ?_⟩
      rw [cutS_mid (by omega), tx_len]
      refine ⟨shp_str (sm_take (sm_drop hwS k) _), shp_str hxS, _, rfl, ite_b (fun h1 => ?_) (fun h1 => ?_)⟩
      · have h1' : (w.drop k).take x.1.length = x.1 := by simpa [py, tx_eq] using h1
        have hk40 : k * 100 ≤ 100000 := by omega
        refine ⟨⟨_, rfl⟩, by show 2 ≤ 1000000; decide, _, _, rfl, rfl, by rw [List.length_map, List.length_append]; omega, ?_⟩
        exact hN3 [(k, m)] (by unfold st1; rw [if_pos h1'])
      · have h1' : ¬ (w.drop k).take x.1.length = x.1 := by simpa [py, tx_eq] using h1
        have := hN3 [] (by unfold st1; rw [if_neg h1'])
        rw [List.map_nil, List.append_nil] at this
        exact this
end


end SF

set_option pp.maxSteps 1200
namespace SF
open PySem PySem.Spec PyProof.Rows L2 DL RZ
theorem ps_ok {L : wd} {W : List Int} {ps : List (wd × wd)} (h : RsOk L W ps) : PsOk ps := by
  obtain ⟨hS, hn, hR⟩ := h
  refine ⟨by omega, fun p hp => ?_⟩
  have q := hR p hp
  have q1 := q.n1
  have q2 := q.n2
  exact ⟨by omega, by omega, rlt_ne hS q.o2 q.lt⟩
section
variable {K : PySem.W.Frag} {mg : Str → Option Value}
end

section
variable {K : PySem.W.Frag} {mg : Str → Option Value}
theorem law_Rules_places (T : Txt K mg) (PX : PXt) : ∀ ds P, S_Rules_places K ds P PX → D_Rules_places K (fun C fs _ => PX C fs) (endsN P) (env0 ["self", "word"] ds) := by
  rintro ds P ⟨L, W, ps, w, rfl, hR, hw, hP⟩
  refine ⟨_, _, _, rfl, T.cl_Rules, T.na_Rules_own_scale, by rfl, _, rfl, by rfl, rfl, rfl, L, W, w, rfl, hw, hP.mono (fun ho hP => ?_) fun _ h => h⟩
  exact ⟨_, _, _, rfl, T.cl_Rules, T.na_Rules_pairs, by rfl, ps, w, rfl, ps_ok hR, hw, hP⟩
theorem law_Rules_is_end (T : Txt K mg) (PX : PXt) : ∀ ds P, S_Rules_is_end K ds P PX → D_Rules_is_end K (fun C fs _ => PX C fs) (endsD P) (env0 ["self", "word"] ds) := by
  rintro ds P ⟨L, W, ps, w, rfl, hR, hw, hP⟩
  refine ⟨_, rfl, by rfl, rfl, rfl, L, W, ps, w, rfl, hR, hw, hP.mono (fun ho hP => ?_) fun _ h => h⟩
  have hl := stand_lim (ps_ok hR) hw
  refine ⟨by show 0 ≤ 1000000; decide, stand_shp _ _ (by omega), rfl, ?_⟩
  rw [eqv_nil]
  have e : decide ((stand (lefts ps) w).map dPr = []) = decide (stand (lefts ps) w = []) := by
    congr 1
    simp
  rw [e]
  exact hP
end


end SF

set_option pp.maxSteps 1200
namespace SF
open PySem PySem.Spec PyProof.Rows L2 DL RZ
theorem eqv_nat (i j : Nat) : PyData.eqv (py (.int (i : Nat))) (py (.int (j : Nat))) = decide (i = j) := by
  show PyData.eqv (.int _) (.int _) = _
  rw [eqv_int]
  congr 1
  apply propext
  omega
theorem side1 {w : wd} {a : Nat} {r : wd} (h : w.length ≤ 1000) (h2 : r.length ≤ 100) : (cutS (tx w) none (some ((a : Nat) : Int))).length + (tx r).length ≤ 1000000 := by
  have l1 := cutS_to_len w a
  have l2 := tx_len r
  omega
theorem side2 {w : wd} {a : Nat} {l r : wd} (h : w.length ≤ 1000) (h2 : r.length ≤ 100) : (cutS (tx w) none (some ((a : Nat) : Int)) ++ tx r).length + (cutS (tx w) (some (((a : Nat) : Int) + (((tx l).length : Nat) : Int))) none).length ≤ 1000000 := by
  have l1 := fst_len w a r
  have l2 := cutS_from_len w a l
  omega
section
variable {K : PySem.W.Frag} {mg : Str → Option Value}
theorem getD_get {α : Type} {l : List α} {n : Int} {d : α} (h0 : 0 ≤ n) (h1 : n < (l.length : Nat)) : l[n.toNat]? = some (l.getD n.toNat d) := by
  rw [List.getD_eq_getElem?_getD, List.getElem?_eq_getElem (by omega)]
  rfl
theorem atI_map {α : Type} {f : α → D} {l : List α} {n : Int} {d : α} (h0 : 0 ≤ n) (h1 : n < (l.length : Nat)) : atI (l.map f) n = some (f (l.getD n.toNat d)) := by
  obtain ⟨k, rfl⟩ := Int.eq_ofNat_of_zero_le h0
  refine atI_nat ?_
  rw [List.getElem?_map]
  have := getD_get (d := d) h0 h1
  rw [Int.toNat_natCast] at this ⊢
  rw [this]
  rfl
theorem law_Rules_side (T : Txt K mg) (PX : PXt) : ∀ ds P, S_Rules_side K ds P PX → D_Rules_side K (fun C fs _ => PX C fs) (endsD P) (env0 ["self", "number", "back", "left", "right"] ds) := by
  rintro ds P ⟨L, W, ps, n, b, rfl, hn, h1, h2⟩
  have b1 : ∀ x : Int, decide (0 ≤ x) = true ↔ 0 ≤ x := fun x => decide_eq_true_iff
  (repeat (first | refine ⟨rfl, ?_⟩ | refine ⟨_, rfl, ?_⟩ | refine ⟨_, _, rfl, rfl, ?_⟩ | refine ⟨_, _, rfl, ?_⟩ | refine ⟨_, _, _, rfl, ?_⟩ | refine ⟨_, _, _, rfl, rfl, ?_⟩ | refine ⟨_, _, _, rfl, rfl, rfl, ?_⟩ | refine ⟨_, _, _, _, rfl, ?_⟩ | refine ⟨_, _, _, _, _, rfl, ?_⟩ | refine ⟨_, _, _, _, _, _, rfl, ?_⟩ | refine ⟨_, _, _, _, _, _, _, rfl, ?_⟩ | refine ⟨_, _, _, _, _, _, _, _, rfl, ?_⟩ | refine ⟨_, _, _, _, rfl, rfl, ?_⟩ | refine And.intro (Nat.le_of_ble_eq_true rfl) ?_ | refine And.intro True.intro ?_ | refine ⟨_, _, _, rfl, (by first | exact T.cl_Scale | exact T.cl_Rules), (by first | exact T.na_Scale_signs | exact T.na_Scale_worths | exact T.na_Rules_own_scale | exact T.na_Rules_pairs), by rfl, ?_⟩ | refine ite_t rfl ?_ | refine ite_f rfl ?_ | refine And.intro (by decide) ?_ | refine And.intro (by omega) ?_ | refine And.intro (by (simp only [List.length_map, tx_len, List.length_cons, List.length_append, List.length_nil, List.length_replicate, List.length_take, List.length_drop, List.length_reverse]; omega)) ?_ | refine And.intro (by assumption) ?_ | refine And.intro ⟨_, rfl⟩ ?_ | refine ⟨_, Or.inl rfl, ?_⟩ | refine And.intro (Or.inl rfl) ?_ | refine ⟨_, Or.inr rfl, ?_⟩ | refine And.intro (Or.inr rfl) ?_))
  refine ite_b (fun h => ?_) (fun h => ?_)
  · (repeat (first | refine ⟨rfl, ?_⟩ | refine ⟨_, rfl, ?_⟩ | refine ⟨_, _, rfl, rfl, ?_⟩ | refine ⟨_, _, rfl, ?_⟩ | refine ⟨_, _, _, rfl, ?_⟩ | refine ⟨_, _, _, rfl, rfl, ?_⟩ | refine ⟨_, _, _, rfl, rfl, rfl, ?_⟩ | refine ⟨_, _, _, _, rfl, ?_⟩ | refine ⟨_, _, _, _, _, rfl, ?_⟩ | refine ⟨_, _, _, _, _, _, rfl, ?_⟩ | refine ⟨_, _, _, _, _, _, _, rfl, ?_⟩ | refine ⟨_, _, _, _, _, _, _, _, rfl, ?_⟩ | refine ⟨_, _, _, _, rfl, rfl, ?_⟩ | refine And.intro (Nat.le_of_ble_eq_true rfl) ?_ | refine And.intro True.intro ?_ | refine ⟨_, _, _, rfl, (by first | exact T.cl_Scale | exact T.cl_Rules), (by first | exact T.na_Scale_signs | exact T.na_Scale_worths | exact T.na_Rules_own_scale | exact T.na_Rules_pairs), by rfl, ?_⟩ | refine ite_t rfl ?_ | refine ite_f rfl ?_ | refine And.intro (by decide) ?_ | refine And.intro (by omega) ?_ | refine And.intro (by (simp only [List.length_map, tx_len, List.length_cons, List.length_append, List.length_nil, List.length_replicate, List.length_take, List.length_drop, List.length_reverse]; omega)) ?_ | refine And.intro (by assumption) ?_ | refine And.intro ⟨_, rfl⟩ ?_ | refine ⟨_, Or.inl rfl, ?_⟩ | refine And.intro (Or.inl rfl) ?_ | refine ⟨_, Or.inr rfl, ?_⟩ | refine And.intro (Or.inr rfl) ?_))
    refine ite_b (fun h' => ?_) (fun h' => ?_)
    · (repeat (first | refine ⟨rfl, ?_⟩ | refine ⟨_, rfl, ?_⟩ | refine ⟨_, _, rfl, rfl, ?_⟩ | refine ⟨_, _, rfl, ?_⟩ | refine ⟨_, _, _, rfl, ?_⟩ | refine ⟨_, _, _, rfl, rfl, ?_⟩ | refine ⟨_, _, _, rfl, rfl, rfl, ?_⟩ | refine ⟨_, _, _, _, rfl, ?_⟩ | refine ⟨_, _, _, _, _, rfl, ?_⟩ | refine ⟨_, _, _, _, _, _, rfl, ?_⟩ | refine ⟨_, _, _, _, _, _, _, rfl, ?_⟩ | refine ⟨_, _, _, _, _, _, _, _, rfl, ?_⟩ | refine ⟨_, _, _, _, rfl, rfl, ?_⟩ | refine And.intro (Nat.le_of_ble_eq_true rfl) ?_ | refine And.intro True.intro ?_ | refine ⟨_, _, _, rfl, (by first | exact T.cl_Scale | exact T.cl_Rules), (by first | exact T.na_Scale_signs | exact T.na_Scale_worths | exact T.na_Rules_own_scale | exact T.na_Rules_pairs), by rfl, ?_⟩ | refine ite_t rfl ?_ | refine ite_f rfl ?_ | refine And.intro (by decide) ?_ | refine And.intro (by omega) ?_ | refine And.intro (by (simp only [List.length_map, tx_len, List.length_cons, List.length_append, List.length_nil, List.length_replicate, List.length_take, List.length_drop, List.length_reverse]; omega)) ?_ | refine And.intro (by assumption) ?_ | refine And.intro ⟨_, rfl⟩ ?_ | refine ⟨_, Or.inl rfl, ?_⟩ | refine And.intro (Or.inl rfl) ?_ | refine ⟨_, Or.inr rfl, ?_⟩ | refine And.intro (Or.inr rfl) ?_))
      exact h2 (by simp at h h'; omega)
    · simp at h h'
      have h0 : 0 ≤ n ∧ n < (ps.length : Nat) := by omega
      have hat := atI_map (f := dP) (d := ([], [])) h0.1 h0.2
      have hP := h1 h0
      (repeat (first | refine ⟨rfl, ?_⟩ | refine ⟨_, rfl, ?_⟩ | refine ⟨_, _, rfl, rfl, ?_⟩ | refine ⟨_, _, rfl, ?_⟩ | refine ⟨_, _, _, rfl, ?_⟩ | refine ⟨_, _, _, rfl, rfl, ?_⟩ | refine ⟨_, _, _, rfl, rfl, rfl, ?_⟩ | refine ⟨_, _, _, _, rfl, ?_⟩ | refine ⟨_, _, _, _, _, rfl, ?_⟩ | refine ⟨_, _, _, _, _, _, rfl, ?_⟩ | refine ⟨_, _, _, _, _, _, _, rfl, ?_⟩ | refine ⟨_, _, _, _, _, _, _, _, rfl, ?_⟩ | refine ⟨_, _, _, _, rfl, rfl, ?_⟩ | refine And.intro (Nat.le_of_ble_eq_true rfl) ?_ | refine And.intro True.intro ?_ | refine ⟨_, _, _, rfl, (by first | exact T.cl_Scale | exact T.cl_Rules), (by first | exact T.na_Scale_signs | exact T.na_Scale_worths | exact T.na_Rules_own_scale | exact T.na_Rules_pairs), by rfl, ?_⟩ | refine ite_t rfl ?_ | refine ite_f rfl ?_ | refine And.intro (by decide) ?_ | refine And.intro (by omega) ?_ | refine And.intro (by (simp only [List.length_map, tx_len, List.length_cons, List.length_append, List.length_nil, List.length_replicate, List.length_take, List.length_drop, List.length_reverse]; omega)) ?_ | refine And.intro (by assumption) ?_ | refine And.intro ⟨_, rfl⟩ ?_ | refine ⟨_, Or.inl rfl, ?_⟩ | refine And.intro (Or.inl rfl) ?_ | refine ⟨_, Or.inr rfl, ?_⟩ | refine And.intro (Or.inr rfl) ?_))
      refine ⟨_, hat, ?_⟩
      (repeat (first | refine ⟨rfl, ?_⟩ | refine ⟨_, rfl, ?_⟩ | refine ⟨_, _, rfl, rfl, ?_⟩ | refine ⟨_, _, rfl, ?_⟩ | refine ⟨_, _, _, rfl, ?_⟩ | refine ⟨_, _, _, rfl, rfl, ?_⟩ | refine ⟨_, _, _, rfl, rfl, rfl, ?_⟩ | refine ⟨_, _, _, _, rfl, ?_⟩ | refine ⟨_, _, _, _, _, rfl, ?_⟩ | refine ⟨_, _, _, _, _, _, rfl, ?_⟩ | refine ⟨_, _, _, _, _, _, _, rfl, ?_⟩ | refine ⟨_, _, _, _, _, _, _, _, rfl, ?_⟩ | refine ⟨_, _, _, _, rfl, rfl, ?_⟩ | refine And.intro (Nat.le_of_ble_eq_true rfl) ?_ | refine And.intro True.intro ?_ | refine ⟨_, _, _, rfl, (by first | exact T.cl_Scale | exact T.cl_Rules), (by first | exact T.na_Scale_signs | exact T.na_Scale_worths | exact T.na_Rules_own_scale | exact T.na_Rules_pairs), by rfl, ?_⟩ | refine ite_t rfl ?_ | refine ite_f rfl ?_ | refine And.intro (by decide) ?_ | refine And.intro (by omega) ?_ | refine And.intro (by (simp only [List.length_map, tx_len, List.length_cons, List.length_append, List.length_nil, List.length_replicate, List.length_take, List.length_drop, List.length_reverse]; omega)) ?_ | refine And.intro (by assumption) ?_ | refine And.intro ⟨_, rfl⟩ ?_ | refine ⟨_, Or.inl rfl, ?_⟩ | refine And.intro (Or.inl rfl) ?_ | refine ⟨_, Or.inr rfl, ?_⟩ | refine And.intro (Or.inr rfl) ?_))
      cases b with
      | true => (repeat (first | refine ⟨rfl, ?_⟩ | refine ⟨_, rfl, ?_⟩ | refine ⟨_, _, rfl, rfl, ?_⟩ | refine ⟨_, _, rfl, ?_⟩ | refine ⟨_, _, _, rfl, ?_⟩ | refine ⟨_, _, _, rfl, rfl, ?_⟩ | refine ⟨_, _, _, rfl, rfl, rfl, ?_⟩ | refine ⟨_, _, _, _, rfl, ?_⟩ | refine ⟨_, _, _, _, _, rfl, ?_⟩ | refine ⟨_, _, _, _, _, _, rfl, ?_⟩ | refine ⟨_, _, _, _, _, _, _, rfl, ?_⟩ | refine ⟨_, _, _, _, _, _, _, _, rfl, ?_⟩ | refine ⟨_, _, _, _, rfl, rfl, ?_⟩ | refine And.intro (Nat.le_of_ble_eq_true rfl) ?_ | refine And.intro True.intro ?_ | refine ⟨_, _, _, rfl, (by first | exact T.cl_Scale | exact T.cl_Rules), (by first | exact T.na_Scale_signs | exact T.na_Scale_worths | exact T.na_Rules_own_scale | exact T.na_Rules_pairs), by rfl, ?_⟩ | refine ite_t rfl ?_ | refine ite_f rfl ?_ | refine And.intro (by decide) ?_ | refine And.intro (by omega) ?_ | refine And.intro (by (simp only [List.length_map, tx_len, List.length_cons, List.length_append, List.length_nil, List.length_replicate, List.length_take, List.length_drop, List.length_reverse]; omega)) ?_ | refine And.intro (by assumption) ?_ | refine And.intro ⟨_, rfl⟩ ?_ | refine ⟨_, Or.inl rfl, ?_⟩ | refine And.intro (Or.inl rfl) ?_ | refine ⟨_, Or.inr rfl, ?_⟩ | refine And.intro (Or.inr rfl) ?_)); exact hP
      | false => (repeat (first | refine ⟨rfl, ?_⟩ | refine ⟨_, rfl, ?_⟩ | refine ⟨_, _, rfl, rfl, ?_⟩ | refine ⟨_, _, rfl, ?_⟩ | refine ⟨_, _, _, rfl, ?_⟩ | refine ⟨_, _, _, rfl, rfl, ?_⟩ | refine ⟨_, _, _, rfl, rfl, rfl, ?_⟩ | refine ⟨_, _, _, _, rfl, ?_⟩ | refine ⟨_, _, _, _, _, rfl, ?_⟩ | refine ⟨_, _, _, _, _, _, rfl, ?_⟩ | refine ⟨_, _, _, _, _, _, _, rfl, ?_⟩ | refine ⟨_, _, _, _, _, _, _, _, rfl, ?_⟩ | refine ⟨_, _, _, _, rfl, rfl, ?_⟩ | refine And.intro (Nat.le_of_ble_eq_true rfl) ?_ | refine And.intro True.intro ?_ | refine ⟨_, _, _, rfl, (by first | exact T.cl_Scale | exact T.cl_Rules), (by first | exact T.na_Scale_signs | exact T.na_Scale_worths | exact T.na_Rules_own_scale | exact T.na_Rules_pairs), by rfl, ?_⟩ | refine ite_t rfl ?_ | refine ite_f rfl ?_ | refine And.intro (by decide) ?_ | refine And.intro (by omega) ?_ | refine And.intro (by (simp only [List.length_map, tx_len, List.length_cons, List.length_append, List.length_nil, List.length_replicate, List.length_take, List.length_drop, List.length_reverse]; omega)) ?_ | refine And.intro (by assumption) ?_ | refine And.intro ⟨_, rfl⟩ ?_ | refine ⟨_, Or.inl rfl, ?_⟩ | refine And.intro (Or.inl rfl) ?_ | refine ⟨_, Or.inr rfl, ?_⟩ | refine And.intro (Or.inr rfl) ?_)); exact hP
  · (repeat (first | refine ⟨rfl, ?_⟩ | refine ⟨_, rfl, ?_⟩ | refine ⟨_, _, rfl, rfl, ?_⟩ | refine ⟨_, _, rfl, ?_⟩ | refine ⟨_, _, _, rfl, ?_⟩ | refine ⟨_, _, _, rfl, rfl, ?_⟩ | refine ⟨_, _, _, rfl, rfl, rfl, ?_⟩ | refine ⟨_, _, _, _, rfl, ?_⟩ | refine ⟨_, _, _, _, _, rfl, ?_⟩ | refine ⟨_, _, _, _, _, _, rfl, ?_⟩ | refine ⟨_, _, _, _, _, _, _, rfl, ?_⟩ | refine ⟨_, _, _, _, _, _, _, _, rfl, ?_⟩ | refine ⟨_, _, _, _, rfl, rfl, ?_⟩ | refine And.intro (Nat.le_of_ble_eq_true rfl) ?_ | refine And.intro True.intro ?_ | refine ⟨_, _, _, rfl, (by first | exact T.cl_Scale | exact T.cl_Rules), (by first | exact T.na_Scale_signs | exact T.na_Scale_worths | exact T.na_Rules_own_scale | exact T.na_Rules_pairs), by rfl, ?_⟩ | refine ite_t rfl ?_ | refine ite_f rfl ?_ | refine And.intro (by decide) ?_ | refine And.intro (by omega) ?_ | refine And.intro (by (simp only [List.length_map, tx_len, List.length_cons, List.length_append, List.length_nil, List.length_replicate, List.length_take, List.length_drop, List.length_reverse]; omega)) ?_ | refine And.intro (by assumption) ?_ | refine And.intro ⟨_, rfl⟩ ?_ | refine ⟨_, Or.inl rfl, ?_⟩ | refine And.intro (Or.inl rfl) ?_ | refine ⟨_, Or.inr rfl, ?_⟩ | refine And.intro (Or.inr rfl) ?_))
    exact h2 (by simp at h; omega)
theorem tk_len {ps : List (wd × wd)} {n : Int} (h : PsOk ps) (b : Bool) (h0 : 0 ≤ n ∧ n < (ps.length : Nat)) : (takenOf ps n b).length ≤ 100 ∧ (putOf ps n b).length ≤ 100 := by
  have hm : ps.getD n.toNat ([], []) ∈ ps := List.mem_of_getElem? (getD_get h0.1 h0.2)
  have := h.l _ hm
  unfold takenOf putOf
  cases b
  · exact ⟨this.1, this.2.1⟩
  · exact ⟨this.2.1, this.1⟩
theorem cut_toI {w : wd} {a : Int} (h0 : 0 ≤ a) : cutS (tx w) none (some a) = tx (w.take a.toNat) := by
  obtain ⟨k, rfl⟩ := Int.eq_ofNat_of_zero_le h0
  exact cutS_to w k
theorem cut_fromI {w t : wd} {a : Int} (h0 : 0 ≤ a) : cutS (tx w) (some (a + ((tx t).length : Nat))) none = tx (w.drop (a.toNat + t.length)) := by
  obtain ⟨k, rfl⟩ := Int.eq_ofNat_of_zero_le h0
  rw [tx_len]
  exact cutS_from w k t.length
theorem cut_midI {w t : wd} {a : Int} (h0 : 0 ≤ a) (h1 : a ≤ (w.length : Nat)) : cutS (tx w) (some a) (some (a + ((tx t).length : Nat))) = tx ((w.drop a.toNat).take t.length) := by
  obtain ⟨k, rfl⟩ := Int.eq_ofNat_of_zero_le h0
  rw [tx_len]
  exact cutS_mid (by omega)
theorem swap_str {w t u : wd} {a : Int} (h0 : 0 ≤ a) : (cutS (tx w) none (some a) ++ tx u) ++ cutS (tx w) (some (a + ((tx t).length : Nat))) none = tx (w.take a.toNat ++ u ++ w.drop (a.toNat + t.length)) := by
  rw [cut_toI h0, cut_fromI h0, tx_app, tx_app]
theorem swap_len (w t u : wd) (a : Nat) : (w.take a ++ u ++ w.drop (a + t.length)).length ≤ w.length + u.length + w.length := by
  simp only [List.length_append, List.length_take, List.length_drop]
  omega
theorem swap_b1 {w u : wd} {a : Int} (h0 : 0 ≤ a) (hw : w.length ≤ 1000) (hu : u.length ≤ 100) : (cutS (tx w) none (some a)).length + (tx u).length ≤ 1000000 := by
  rw [cut_toI h0]
  simp only [tx_len, List.length_take]
  omega
theorem swap_b2 {w t u : wd} {a : Int} (h0 : 0 ≤ a) (hw : w.length ≤ 1000) (hu : u.length ≤ 100) : (cutS (tx w) none (some a) ++ tx u).length + (cutS (tx w) (some (a + ((tx t).length : Nat))) none).length ≤ 1000000 := by
  rw [cut_toI h0, cut_fromI h0, tx_app]
  simp only [tx_len, List.length_take, List.length_append, List.length_drop]
  omega
theorem law_Rules_turned (T : Txt K mg) (PX : PXt) : ∀ ds P, S_Rules_turned K ds P PX → D_Rules_turned K (fun C fs _ => PX C fs) (endsD P) (env0 ["self", "word", "place", "rule", "back", "taken", "put"] ds) := by
  rintro ds P ⟨L, W, ps, w, a, n, b, rfl, hR, hw, hP⟩
  have hPs := ps_ok hR
  have h40 := hR.2.1
  (repeat (first | refine ⟨rfl, ?_⟩ | refine ⟨_, rfl, ?_⟩ | refine ⟨_, _, rfl, rfl, ?_⟩ | refine ⟨_, _, rfl, ?_⟩ | refine ⟨_, _, _, rfl, ?_⟩ | refine ⟨_, _, _, rfl, rfl, ?_⟩ | refine ⟨_, _, _, rfl, rfl, rfl, ?_⟩ | refine ⟨_, _, _, _, rfl, ?_⟩ | refine ⟨_, _, _, _, _, rfl, ?_⟩ | refine ⟨_, _, _, _, _, _, rfl, ?_⟩ | refine ⟨_, _, _, _, _, _, _, rfl, ?_⟩ | refine ⟨_, _, _, _, _, _, _, _, rfl, ?_⟩ | refine ⟨_, _, _, _, rfl, rfl, ?_⟩ | refine And.intro (Nat.le_of_ble_eq_true rfl) ?_ | refine And.intro True.intro ?_ | refine ⟨_, _, _, rfl, (by first | exact T.cl_Scale | exact T.cl_Rules), (by first | exact T.na_Scale_signs | exact T.na_Scale_worths | exact T.na_Rules_own_scale | exact T.na_Rules_pairs), by rfl, ?_⟩ | refine ite_t rfl ?_ | refine ite_f rfl ?_ | refine And.intro (by decide) ?_ | refine And.intro (by omega) ?_ | refine And.intro (by (simp only [List.length_map, tx_len, List.length_cons, List.length_append, List.length_nil, List.length_replicate, List.length_take, List.length_drop, List.length_reverse]; omega)) ?_ | refine And.intro (by assumption) ?_ | refine And.intro ⟨_, rfl⟩ ?_ | refine ⟨_, Or.inl rfl, ?_⟩ | refine And.intro (Or.inl rfl) ?_ | refine ⟨_, Or.inr rfl, ?_⟩ | refine And.intro (Or.inr rfl) ?_))
  refine hP.mono (fun ho hP => ?_) fun _ h => h
  (repeat (first | refine ⟨rfl, ?_⟩ | refine ⟨_, rfl, ?_⟩ | refine ⟨_, _, rfl, rfl, ?_⟩ | refine ⟨_, _, rfl, ?_⟩ | refine ⟨_, _, _, rfl, ?_⟩ | refine ⟨_, _, _, rfl, rfl, ?_⟩ | refine ⟨_, _, _, rfl, rfl, rfl, ?_⟩ | refine ⟨_, _, _, _, rfl, ?_⟩ | refine ⟨_, _, _, _, _, rfl, ?_⟩ | refine ⟨_, _, _, _, _, _, rfl, ?_⟩ | refine ⟨_, _, _, _, _, _, _, rfl, ?_⟩ | refine ⟨_, _, _, _, _, _, _, _, rfl, ?_⟩ | refine ⟨_, _, _, _, rfl, rfl, ?_⟩ | refine And.intro (Nat.le_of_ble_eq_true rfl) ?_ | refine And.intro True.intro ?_ | refine ⟨_, _, _, rfl, (by first | exact T.cl_Scale | exact T.cl_Rules), (by first | exact T.na_Scale_signs | exact T.na_Scale_worths | exact T.na_Rules_own_scale | exact T.na_Rules_pairs), by rfl, ?_⟩ | refine ite_t rfl ?_ | refine ite_f rfl ?_ | refine And.intro (by decide) ?_ | refine And.intro (by omega) ?_ | refine And.intro (by (simp only [List.length_map, tx_len, List.length_cons, List.length_append, List.length_nil, List.length_replicate, List.length_take, List.length_drop, List.length_reverse]; omega)) ?_ | refine And.intro (by assumption) ?_ | refine And.intro ⟨_, rfl⟩ ?_ | refine ⟨_, Or.inl rfl, ?_⟩ | refine And.intro (Or.inl rfl) ?_ | refine ⟨_, Or.inr rfl, ?_⟩ | refine And.intro (Or.inr rfl) ?_))
  refine ⟨fun h0 => ?_, fun h0 => ?_⟩
  · unfold turnG at hP
    rw [if_pos h0] at hP
    have hb := tk_len hPs b h0
    generalize takenOf ps n b = t at *
    generalize putOf ps n b = u at *
    unfold swapAt at hP
    (repeat (first | refine ⟨rfl, ?_⟩ | refine ⟨_, rfl, ?_⟩ | refine ⟨_, _, rfl, rfl, ?_⟩ | refine ⟨_, _, rfl, ?_⟩ | refine ⟨_, _, _, rfl, ?_⟩ | refine ⟨_, _, _, rfl, rfl, ?_⟩ | refine ⟨_, _, _, rfl, rfl, rfl, ?_⟩ | refine ⟨_, _, _, _, rfl, ?_⟩ | refine ⟨_, _, _, _, _, rfl, ?_⟩ | refine ⟨_, _, _, _, _, _, rfl, ?_⟩ | refine ⟨_, _, _, _, _, _, _, rfl, ?_⟩ | refine ⟨_, _, _, _, _, _, _, _, rfl, ?_⟩ | refine ⟨_, _, _, _, rfl, rfl, ?_⟩ | refine And.intro (Nat.le_of_ble_eq_true rfl) ?_ | refine And.intro True.intro ?_ | refine ⟨_, _, _, rfl, (by first | exact T.cl_Scale | exact T.cl_Rules), (by first | exact T.na_Scale_signs | exact T.na_Scale_worths | exact T.na_Rules_own_scale | exact T.na_Rules_pairs), by rfl, ?_⟩ | refine ite_t rfl ?_ | refine ite_f rfl ?_ | refine And.intro (by decide) ?_ | refine And.intro (by omega) ?_ | refine And.intro (by (simp only [List.length_map, tx_len, List.length_cons, List.length_append, List.length_nil, List.length_replicate, List.length_take, List.length_drop, List.length_reverse]; omega)) ?_ | refine And.intro (by assumption) ?_ | refine And.intro ⟨_, rfl⟩ ?_ | refine ⟨_, Or.inl rfl, ?_⟩ | refine And.intro (Or.inl rfl) ?_ | refine ⟨_, Or.inr rfl, ?_⟩ | refine And.intro (Or.inr rfl) ?_))
    have bad : ¬ (0 ≤ a ∧ a ≤ (w.length : Nat) ∧ (w.drop a.toNat).take t.length = t) → xNoStep K PX a := fun h => by
      rw [if_neg h] at hP
      exact hP
    refine ite_b (fun h => ?_) (fun h => ?_)
    · (repeat (first | refine ⟨rfl, ?_⟩ | refine ⟨_, rfl, ?_⟩ | refine ⟨_, _, rfl, rfl, ?_⟩ | refine ⟨_, _, rfl, ?_⟩ | refine ⟨_, _, _, rfl, ?_⟩ | refine ⟨_, _, _, rfl, rfl, ?_⟩ | refine ⟨_, _, _, rfl, rfl, rfl, ?_⟩ | refine ⟨_, _, _, _, rfl, ?_⟩ | refine ⟨_, _, _, _, _, rfl, ?_⟩ | refine ⟨_, _, _, _, _, _, rfl, ?_⟩ | refine ⟨_, _, _, _, _, _, _, rfl, ?_⟩ | refine ⟨_, _, _, _, _, _, _, _, rfl, ?_⟩ | refine ⟨_, _, _, _, rfl, rfl, ?_⟩ | refine And.intro (Nat.le_of_ble_eq_true rfl) ?_ | refine And.intro True.intro ?_ | refine ⟨_, _, _, rfl, (by first | exact T.cl_Scale | exact T.cl_Rules), (by first | exact T.na_Scale_signs | exact T.na_Scale_worths | exact T.na_Rules_own_scale | exact T.na_Rules_pairs), by rfl, ?_⟩ | refine ite_t rfl ?_ | refine ite_f rfl ?_ | refine And.intro (by decide) ?_ | refine And.intro (by omega) ?_ | refine And.intro (by (simp only [List.length_map, tx_len, List.length_cons, List.length_append, List.length_nil, List.length_replicate, List.length_take, List.length_drop, List.length_reverse]; omega)) ?_ | refine And.intro (by assumption) ?_ | refine And.intro ⟨_, rfl⟩ ?_ | refine ⟨_, Or.inl rfl, ?_⟩ | refine And.intro (Or.inl rfl) ?_ | refine ⟨_, Or.inr rfl, ?_⟩ | refine And.intro (Or.inr rfl) ?_))
      simp at h
      refine ite_b (fun h' => ?_) (fun h' => ?_)
      · (repeat (first | refine ⟨rfl, ?_⟩ | refine ⟨_, rfl, ?_⟩ | refine ⟨_, _, rfl, rfl, ?_⟩ | refine ⟨_, _, rfl, ?_⟩ | refine ⟨_, _, _, rfl, ?_⟩ | refine ⟨_, _, _, rfl, rfl, ?_⟩ | refine ⟨_, _, _, rfl, rfl, rfl, ?_⟩ | refine ⟨_, _, _, _, rfl, ?_⟩ | refine ⟨_, _, _, _, _, rfl, ?_⟩ | refine ⟨_, _, _, _, _, _, rfl, ?_⟩ | refine ⟨_, _, _, _, _, _, _, rfl, ?_⟩ | refine ⟨_, _, _, _, _, _, _, _, rfl, ?_⟩ | refine ⟨_, _, _, _, rfl, rfl, ?_⟩ | refine And.intro (Nat.le_of_ble_eq_true rfl) ?_ | refine And.intro True.intro ?_ | refine ⟨_, _, _, rfl, (by first | exact T.cl_Scale | exact T.cl_Rules), (by first | exact T.na_Scale_signs | exact T.na_Scale_worths | exact T.na_Rules_own_scale | exact T.na_Rules_pairs), by rfl, ?_⟩ | refine ite_t rfl ?_ | refine ite_f rfl ?_ | refine And.intro (by decide) ?_ | refine And.intro (by omega) ?_ | refine And.intro (by (simp only [List.length_map, tx_len, List.length_cons, List.length_append, List.length_nil, List.length_replicate, List.length_take, List.length_drop, List.length_reverse]; omega)) ?_ | refine And.intro (by assumption) ?_ | refine And.intro ⟨_, rfl⟩ ?_ | refine ⟨_, Or.inl rfl, ?_⟩ | refine And.intro (Or.inl rfl) ?_ | refine ⟨_, Or.inr rfl, ?_⟩ | refine And.intro (Or.inr rfl) ?_))
        exact bad (by simp at h'; omega)
      · simp at h'
        have es := tx_starts3 w t a h h'
        (repeat (first | refine ⟨rfl, ?_⟩ | refine ⟨_, rfl, ?_⟩ | refine ⟨_, _, rfl, rfl, ?_⟩ | refine ⟨_, _, rfl, ?_⟩ | refine ⟨_, _, _, rfl, ?_⟩ | refine ⟨_, _, _, rfl, rfl, ?_⟩ | refine ⟨_, _, _, rfl, rfl, rfl, ?_⟩ | refine ⟨_, _, _, _, rfl, ?_⟩ | refine ⟨_, _, _, _, _, rfl, ?_⟩ | refine ⟨_, _, _, _, _, _, rfl, ?_⟩ | refine ⟨_, _, _, _, _, _, _, rfl, ?_⟩ | refine ⟨_, _, _, _, _, _, _, _, rfl, ?_⟩ | refine ⟨_, _, _, _, rfl, rfl, ?_⟩ | refine And.intro (Nat.le_of_ble_eq_true rfl) ?_ | refine And.intro True.intro ?_ | refine ⟨_, _, _, rfl, (by first | exact T.cl_Scale | exact T.cl_Rules), (by first | exact T.na_Scale_signs | exact T.na_Scale_worths | exact T.na_Rules_own_scale | exact T.na_Rules_pairs), by rfl, ?_⟩ | refine ite_t rfl ?_ | refine ite_f rfl ?_ | refine And.intro (by decide) ?_ | refine And.intro (by omega) ?_ | refine And.intro (by (simp only [List.length_map, tx_len, List.length_cons, List.length_append, List.length_nil, List.length_replicate, List.length_take, List.length_drop, List.length_reverse]; omega)) ?_ | refine And.intro (by assumption) ?_ | refine And.intro ⟨_, rfl⟩ ?_ | refine ⟨_, Or.inl rfl, ?_⟩ | refine And.intro (Or.inl rfl) ?_ | refine ⟨_, Or.inr rfl, ?_⟩ | refine And.intro (Or.inr rfl) ?_))
        refine ite_b (fun h2 => ?_) (fun h2 => ?_)
        · (repeat (first | refine ⟨rfl, ?_⟩ | refine ⟨_, rfl, ?_⟩ | refine ⟨_, _, rfl, rfl, ?_⟩ | refine ⟨_, _, rfl, ?_⟩ | refine ⟨_, _, _, rfl, ?_⟩ | refine ⟨_, _, _, rfl, rfl, ?_⟩ | refine ⟨_, _, _, rfl, rfl, rfl, ?_⟩ | refine ⟨_, _, _, _, rfl, ?_⟩ | refine ⟨_, _, _, _, _, rfl, ?_⟩ | refine ⟨_, _, _, _, _, _, rfl, ?_⟩ | refine ⟨_, _, _, _, _, _, _, rfl, ?_⟩ | refine ⟨_, _, _, _, _, _, _, _, rfl, ?_⟩ | refine ⟨_, _, _, _, rfl, rfl, ?_⟩ | refine And.intro (Nat.le_of_ble_eq_true rfl) ?_ | refine And.intro True.intro ?_ | refine ⟨_, _, _, rfl, (by first | exact T.cl_Scale | exact T.cl_Rules), (by first | exact T.na_Scale_signs | exact T.na_Scale_worths | exact T.na_Rules_own_scale | exact T.na_Rules_pairs), by rfl, ?_⟩ | refine ite_t rfl ?_ | refine ite_f rfl ?_ | refine And.intro (by decide) ?_ | refine And.intro (by omega) ?_ | refine And.intro (by (simp only [List.length_map, tx_len, List.length_cons, List.length_append, List.length_nil, List.length_replicate, List.length_take, List.length_drop, List.length_reverse]; omega)) ?_ | refine And.intro (by assumption) ?_ | refine And.intro ⟨_, rfl⟩ ?_ | refine ⟨_, Or.inl rfl, ?_⟩ | refine And.intro (Or.inl rfl) ?_ | refine ⟨_, Or.inr rfl, ?_⟩ | refine And.intro (Or.inr rfl) ?_))
          refine bad fun h3 => ?_
          have h4 := es.trans (pfx_iff t (w.drop a.toNat))
          rw [decide_eq_true h3.2.2] at h4
          rw [h4] at h2
          cases h2
        · have h3 : 0 ≤ a ∧ a ≤ (w.length : Nat) ∧ (w.drop a.toNat).take t.length = t := by
            refine ⟨h, h', ?_⟩
            have h4 := es.trans (pfx_iff t (w.drop a.toNat))
            by_cases z : (w.drop a.toNat).take t.length = t
            · exact z
            · rw [decide_eq_false z] at h4
              rw [h4] at h2
              cases h2
          rw [if_pos h3] at hP
          (repeat (first | refine ⟨rfl, ?_⟩ | refine ⟨_, rfl, ?_⟩ | refine ⟨_, _, rfl, rfl, ?_⟩ | refine ⟨_, _, rfl, ?_⟩ | refine ⟨_, _, _, rfl, ?_⟩ | refine ⟨_, _, _, rfl, rfl, ?_⟩ | refine ⟨_, _, _, rfl, rfl, rfl, ?_⟩ | refine ⟨_, _, _, _, rfl, ?_⟩ | refine ⟨_, _, _, _, _, rfl, ?_⟩ | refine ⟨_, _, _, _, _, _, rfl, ?_⟩ | refine ⟨_, _, _, _, _, _, _, rfl, ?_⟩ | refine ⟨_, _, _, _, _, _, _, _, rfl, ?_⟩ | refine ⟨_, _, _, _, rfl, rfl, ?_⟩ | refine And.intro (Nat.le_of_ble_eq_true rfl) ?_ | refine And.intro True.intro ?_ | refine ⟨_, _, _, rfl, (by first | exact T.cl_Scale | exact T.cl_Rules), (by first | exact T.na_Scale_signs | exact T.na_Scale_worths | exact T.na_Rules_own_scale | exact T.na_Rules_pairs), by rfl, ?_⟩ | refine ite_t rfl ?_ | refine ite_f rfl ?_ | refine And.intro (by decide) ?_ | refine And.intro (by omega) ?_ | refine And.intro (by (simp only [List.length_map, tx_len, List.length_cons, List.length_append, List.length_nil, List.length_replicate, List.length_take, List.length_drop, List.length_reverse]; omega)) ?_ | refine And.intro (by assumption) ?_ | refine And.intro ⟨_, rfl⟩ ?_ | refine ⟨_, Or.inl rfl, ?_⟩ | refine And.intro (Or.inl rfl) ?_ | refine ⟨_, Or.inr rfl, ?_⟩ | refine And.intro (Or.inr rfl) ?_))
          refine And.intro (swap_b1 h hw hb.2) ?_
          (repeat (first | refine ⟨rfl, ?_⟩ | refine ⟨_, rfl, ?_⟩ | refine ⟨_, _, rfl, rfl, ?_⟩ | refine ⟨_, _, rfl, ?_⟩ | refine ⟨_, _, _, rfl, ?_⟩ | refine ⟨_, _, _, rfl, rfl, ?_⟩ | refine ⟨_, _, _, rfl, rfl, rfl, ?_⟩ | refine ⟨_, _, _, _, rfl, ?_⟩ | refine ⟨_, _, _, _, _, rfl, ?_⟩ | refine ⟨_, _, _, _, _, _, rfl, ?_⟩ | refine ⟨_, _, _, _, _, _, _, rfl, ?_⟩ | refine ⟨_, _, _, _, _, _, _, _, rfl, ?_⟩ | refine ⟨_, _, _, _, rfl, rfl, ?_⟩ | refine And.intro (Nat.le_of_ble_eq_true rfl) ?_ | refine And.intro True.intro ?_ | refine ⟨_, _, _, rfl, (by first | exact T.cl_Scale | exact T.cl_Rules), (by first | exact T.na_Scale_signs | exact T.na_Scale_worths | exact T.na_Rules_own_scale | exact T.na_Rules_pairs), by rfl, ?_⟩ | refine ite_t rfl ?_ | refine ite_f rfl ?_ | refine And.intro (by decide) ?_ | refine And.intro (by omega) ?_ | refine And.intro (by (simp only [List.length_map, tx_len, List.length_cons, List.length_append, List.length_nil, List.length_replicate, List.length_take, List.length_drop, List.length_reverse]; omega)) ?_ | refine And.intro (by assumption) ?_ | refine And.intro ⟨_, rfl⟩ ?_ | refine ⟨_, Or.inl rfl, ?_⟩ | refine And.intro (Or.inl rfl) ?_ | refine ⟨_, Or.inr rfl, ?_⟩ | refine And.intro (Or.inr rfl) ?_))
          refine And.intro (swap_b2 h hw hb.2) ?_
          have hl := swap_len w t u a.toNat
          refine ⟨rfl, rfl, w.take a.toNat ++ u ++ w.drop (a.toNat + t.length), congrArg (fun z => [D.str z]) (swap_str h), by omega, fun h5 => ?_, fun h5 => ?_⟩
          · rw [if_pos h5] at hP
            exact hP
          · rw [if_neg (by omega)] at hP
            exact hP
    · (repeat (first | refine ⟨rfl, ?_⟩ | refine ⟨_, rfl, ?_⟩ | refine ⟨_, _, rfl, rfl, ?_⟩ | refine ⟨_, _, rfl, ?_⟩ | refine ⟨_, _, _, rfl, ?_⟩ | refine ⟨_, _, _, rfl, rfl, ?_⟩ | refine ⟨_, _, _, rfl, rfl, rfl, ?_⟩ | refine ⟨_, _, _, _, rfl, ?_⟩ | refine ⟨_, _, _, _, _, rfl, ?_⟩ | refine ⟨_, _, _, _, _, _, rfl, ?_⟩ | refine ⟨_, _, _, _, _, _, _, rfl, ?_⟩ | refine ⟨_, _, _, _, _, _, _, _, rfl, ?_⟩ | refine ⟨_, _, _, _, rfl, rfl, ?_⟩ | refine And.intro (Nat.le_of_ble_eq_true rfl) ?_ | refine And.intro True.intro ?_ | refine ⟨_, _, _, rfl, (by first | exact T.cl_Scale | exact T.cl_Rules), (by first | exact T.na_Scale_signs | exact T.na_Scale_worths | exact T.na_Rules_own_scale | exact T.na_Rules_pairs), by rfl, ?_⟩ | refine ite_t rfl ?_ | refine ite_f rfl ?_ | refine And.intro (by decide) ?_ | refine And.intro (by omega) ?_ | refine And.intro (by (simp only [List.length_map, tx_len, List.length_cons, List.length_append, List.length_nil, List.length_replicate, List.length_take, List.length_drop, List.length_reverse]; omega)) ?_ | refine And.intro (by assumption) ?_ | refine And.intro ⟨_, rfl⟩ ?_ | refine ⟨_, Or.inl rfl, ?_⟩ | refine And.intro (Or.inl rfl) ?_ | refine ⟨_, Or.inr rfl, ?_⟩ | refine And.intro (Or.inr rfl) ?_))
      exact bad (by simp at h; omega)
  · unfold turnG at hP
    rw [if_neg h0] at hP
    exact hP
end


end SF

set_option pp.maxSteps 1200
namespace SF
open PySem PySem.Spec PyProof.Rows L2 DL RZ
/-! walks, plain -/
theorem swap_ok {w t u v : wd} {a : Int} (h : swapAt w a t u = .ok v) : 0 ≤ a ∧ a ≤ (w.length : Nat) ∧ (w.drop a.toNat).take t.length = t ∧ v = w.take a.toNat ++ u ++ w.drop (a.toNat + t.length) ∧ v.length ≤ 400 := by
  unfold swapAt at h
  split at h
  · rename_i h1
    split at h
    · rename_i h2
      cases h
      exact ⟨h1.1, h1.2.1, h1.2.2, rfl, h2⟩
    · cases h
  · cases h
theorem eqv_int2 (i j : Int) : PyData.eqv (py (.int i)) (py (.int j)) = decide (i = j) := eqv_int i j
section
variable {K : PySem.W.Frag} {mg : Str → Option Value}
theorem rs_ov {L : wd} {W : List Int} {ps : List (wd × wd)} (hR : RsOk L W ps) : ∀ p ∈ ps, Ov L p.1 ∧ Ov L p.2 := fun p hp => ⟨(hR.2.2 p hp).o1, (hR.2.2 p hp).o2⟩
/-! the law's own -/
theorem strOk_told : PyData.strOk ("told" : Str) = true := by decide +kernel
theorem shp_c {z : Str} (h : PyData.strOk z = true) : shp (.str z) = true := dep_shp (n := 0) (by omega) h
theorem eqv_strT (w v : wd) : PyData.eqv (py (dW w)) (py (dW v)) = decide (w = v) := by
  show PyData.eqv (.str (tx w)) (.str (tx v)) = _
  rw [eqv_str]
  congr 1
  exact propext tx_eq
theorem tk_sm {ps : List (wd × wd)} (h : PsSm ps) {n : Int} (b : Bool) (h0 : 0 ≤ n ∧ n < (ps.length : Nat)) : Sm (takenOf ps n b) ∧ Sm (putOf ps n b) := by
  have hm : ps.getD n.toNat ([], []) ∈ ps := List.mem_of_getElem? (getD_get h0.1 h0.2)
  have := h _ hm
  unfold takenOf putOf
  cases b
  · exact this
  · exact ⟨this.2, this.1⟩
def D_turned2 (K : PySem.W.Frag) : DS := (dSeq (dIfS (dOr (dNot (dChainT dLeI dLeI (dC (.int 0)) (dVar 2) (dCB dLen (dCons (dVar 1) dNil)))) (dTest (dOp dNe (dSl dSlU (dVar 1) (dPart (dVar 2)) (dPart (dOp dAdd (dVar 2) (dCB dLen (dCons (dVar 7) dNil))))) (dVar 7)))) (dRet (dTup (dCons (dC (.str "NoStep")) (dCons (dVar 2) dNil)))) dNext)
    (dSeq (dAsg 9 (dOp dAdd (dOp dAdd (dSl dSlU (dVar 1) dNoP (dPart (dVar 2))) (dVar 8)) (dSl dSlU (dVar 1) (dPart (dOp dAdd (dVar 2) (dCB dLen (dCons (dVar 7) dNil)))) dNoP)))
    (dRet (dIf (dTest (dOp dGtI (dCB dLen (dCons (dVar 9) dNil)) (dC (.int 400)))) (dTup (dCons (dC (.str "TooLong")) (dCons (dC (.int 400)) dNil))) (dTup (dCons (dC (.str "told")) (dCons (dVar 9) dNil)))))))
theorem law_turned2 {P : D → Prop} {w : wd} {a n : Int} (hw : w.length ≤ 1000) (hsm : Sm w) (t u : wd) (x0 x3 x4 x5 x6 : SD) (ht : Sm t) (h1 : t.length ≤ 100) (h2' : u.length ≤ 100) (hP : P (dTR a n (swapAt w a t u))) : D_turned2 K (endsD P) [x0, .val (dW w), .val (.int a), x3, x4, x5, x6, .val (dW t), .val (dW u), .no] := by
  (repeat (first | refine ⟨rfl, ?_⟩ | refine ⟨_, rfl, ?_⟩ | refine ⟨_, _, rfl, rfl, ?_⟩ | refine ⟨_, _, rfl, ?_⟩ | refine ⟨_, _, _, rfl, ?_⟩ | refine ⟨_, _, _, rfl, rfl, ?_⟩ | refine ⟨_, _, _, rfl, rfl, rfl, ?_⟩ | refine ⟨_, _, _, _, rfl, ?_⟩ | refine ⟨_, _, _, _, _, rfl, ?_⟩ | refine ⟨_, _, _, _, _, _, rfl, ?_⟩ | refine ⟨_, _, _, _, _, _, _, rfl, ?_⟩ | refine ⟨_, _, _, _, _, _, _, _, rfl, ?_⟩ | refine ⟨_, _, _, _, rfl, rfl, ?_⟩ | refine And.intro (Nat.le_of_ble_eq_true rfl) ?_ | refine And.intro True.intro ?_ | refine ⟨_, _, _, rfl, (by first | exact T.cl_Scale | exact T.cl_Rules), (by first | exact T.na_Scale_signs | exact T.na_Scale_worths | exact T.na_Rules_own_scale | exact T.na_Rules_pairs), by rfl, ?_⟩ | refine ite_t rfl ?_ | refine ite_f rfl ?_ | refine And.intro (by decide) ?_ | refine And.intro (by omega) ?_ | refine And.intro (by (simp only [List.length_map, tx_len, List.length_cons, List.length_append, List.length_nil, List.length_replicate, List.length_take, List.length_drop, List.length_reverse]; omega)) ?_ | refine And.intro (by assumption) ?_ | refine And.intro ⟨_, rfl⟩ ?_ | refine ⟨_, Or.inl rfl, ?_⟩ | refine And.intro (Or.inl rfl) ?_ | refine ⟨_, Or.inr rfl, ?_⟩ | refine And.intro (Or.inr rfl) ?_))
  unfold swapAt at hP
  refine ite_b (fun h => ?_) (fun h => ?_)
  · (repeat (first | refine ⟨rfl, ?_⟩ | refine ⟨_, rfl, ?_⟩ | refine ⟨_, _, rfl, rfl, ?_⟩ | refine ⟨_, _, rfl, ?_⟩ | refine ⟨_, _, _, rfl, ?_⟩ | refine ⟨_, _, _, rfl, rfl, ?_⟩ | refine ⟨_, _, _, rfl, rfl, rfl, ?_⟩ | refine ⟨_, _, _, _, rfl, ?_⟩ | refine ⟨_, _, _, _, _, rfl, ?_⟩ | refine ⟨_, _, _, _, _, _, rfl, ?_⟩ | refine ⟨_, _, _, _, _, _, _, rfl, ?_⟩ | refine ⟨_, _, _, _, _, _, _, _, rfl, ?_⟩ | refine ⟨_, _, _, _, rfl, rfl, ?_⟩ | refine And.intro (Nat.le_of_ble_eq_true rfl) ?_ | refine And.intro True.intro ?_ | refine ⟨_, _, _, rfl, (by first | exact T.cl_Scale | exact T.cl_Rules), (by first | exact T.na_Scale_signs | exact T.na_Scale_worths | exact T.na_Rules_own_scale | exact T.na_Rules_pairs), by rfl, ?_⟩ | refine ite_t rfl ?_ | refine ite_f rfl ?_ | refine And.intro (by decide) ?_ | refine And.intro (by omega) ?_ | refine And.intro (by (simp only [List.length_map, tx_len, List.length_cons, List.length_append, List.length_nil, List.length_replicate, List.length_take, List.length_drop, List.length_reverse]; omega)) ?_ | refine And.intro (by assumption) ?_ | refine And.intro ⟨_, rfl⟩ ?_ | refine ⟨_, Or.inl rfl, ?_⟩ | refine And.intro (Or.inl rfl) ?_ | refine ⟨_, Or.inr rfl, ?_⟩ | refine And.intro (Or.inr rfl) ?_))
    simp at h
    refine ite_b (fun h' => ?_) (fun h' => ?_)
    · (repeat (first | refine ⟨rfl, ?_⟩ | refine ⟨_, rfl, ?_⟩ | refine ⟨_, _, rfl, rfl, ?_⟩ | refine ⟨_, _, rfl, ?_⟩ | refine ⟨_, _, _, rfl, ?_⟩ | refine ⟨_, _, _, rfl, rfl, ?_⟩ | refine ⟨_, _, _, rfl, rfl, rfl, ?_⟩ | refine ⟨_, _, _, _, rfl, ?_⟩ | refine ⟨_, _, _, _, _, rfl, ?_⟩ | refine ⟨_, _, _, _, _, _, rfl, ?_⟩ | refine ⟨_, _, _, _, _, _, _, rfl, ?_⟩ | refine ⟨_, _, _, _, _, _, _, _, rfl, ?_⟩ | refine ⟨_, _, _, _, rfl, rfl, ?_⟩ | refine And.intro (Nat.le_of_ble_eq_true rfl) ?_ | refine And.intro True.intro ?_ | refine ⟨_, _, _, rfl, (by first | exact T.cl_Scale | exact T.cl_Rules), (by first | exact T.na_Scale_signs | exact T.na_Scale_worths | exact T.na_Rules_own_scale | exact T.na_Rules_pairs), by rfl, ?_⟩ | refine ite_t rfl ?_ | refine ite_f rfl ?_ | refine And.intro (by decide) ?_ | refine And.intro (by omega) ?_ | refine And.intro (by (simp only [List.length_map, tx_len, List.length_cons, List.length_append, List.length_nil, List.length_replicate, List.length_take, List.length_drop, List.length_reverse]; omega)) ?_ | refine And.intro (by assumption) ?_ | refine And.intro ⟨_, rfl⟩ ?_ | refine ⟨_, Or.inl rfl, ?_⟩ | refine And.intro (Or.inl rfl) ?_ | refine ⟨_, Or.inr rfl, ?_⟩ | refine And.intro (Or.inr rfl) ?_))
      rw [if_neg (by simp at h'; omega)] at hP
      exact hP
    · simp at h'
      have em := cut_midI (t := t) h h'
      have sm1 : shp (D.str (cutS (tx w) (some a) (some (a + ((tx t).length : Nat))))) = true := by
        rw [em]
        exact shp_str (sm_take (sm_drop hsm _) _)
      have sm2 := shp_str ht
      (repeat (first | refine ⟨rfl, ?_⟩ | refine ⟨_, rfl, ?_⟩ | refine ⟨_, _, rfl, rfl, ?_⟩ | refine ⟨_, _, rfl, ?_⟩ | refine ⟨_, _, _, rfl, ?_⟩ | refine ⟨_, _, _, rfl, rfl, ?_⟩ | refine ⟨_, _, _, rfl, rfl, rfl, ?_⟩ | refine ⟨_, _, _, _, rfl, ?_⟩ | refine ⟨_, _, _, _, _, rfl, ?_⟩ | refine ⟨_, _, _, _, _, _, rfl, ?_⟩ | refine ⟨_, _, _, _, _, _, _, rfl, ?_⟩ | refine ⟨_, _, _, _, _, _, _, _, rfl, ?_⟩ | refine ⟨_, _, _, _, rfl, rfl, ?_⟩ | refine And.intro (Nat.le_of_ble_eq_true rfl) ?_ | refine And.intro True.intro ?_ | refine ⟨_, _, _, rfl, (by first | exact T.cl_Scale | exact T.cl_Rules), (by first | exact T.na_Scale_signs | exact T.na_Scale_worths | exact T.na_Rules_own_scale | exact T.na_Rules_pairs), by rfl, ?_⟩ | refine ite_t rfl ?_ | refine ite_f rfl ?_ | refine And.intro (by decide) ?_ | refine And.intro (by omega) ?_ | refine And.intro (by (simp only [List.length_map, tx_len, List.length_cons, List.length_append, List.length_nil, List.length_replicate, List.length_take, List.length_drop, List.length_reverse]; omega)) ?_ | refine And.intro (by assumption) ?_ | refine And.intro ⟨_, rfl⟩ ?_ | refine ⟨_, Or.inl rfl, ?_⟩ | refine And.intro (Or.inl rfl) ?_ | refine ⟨_, Or.inr rfl, ?_⟩ | refine And.intro (Or.inr rfl) ?_))
      rw [em, eqv_strT]
      refine ite_b (fun h2 => ?_) (fun h2 => ?_)
      · (repeat (first | refine ⟨rfl, ?_⟩ | refine ⟨_, rfl, ?_⟩ | refine ⟨_, _, rfl, rfl, ?_⟩ | refine ⟨_, _, rfl, ?_⟩ | refine ⟨_, _, _, rfl, ?_⟩ | refine ⟨_, _, _, rfl, rfl, ?_⟩ | refine ⟨_, _, _, rfl, rfl, rfl, ?_⟩ | refine ⟨_, _, _, _, rfl, ?_⟩ | refine ⟨_, _, _, _, _, rfl, ?_⟩ | refine ⟨_, _, _, _, _, _, rfl, ?_⟩ | refine ⟨_, _, _, _, _, _, _, rfl, ?_⟩ | refine ⟨_, _, _, _, _, _, _, _, rfl, ?_⟩ | refine ⟨_, _, _, _, rfl, rfl, ?_⟩ | refine And.intro (Nat.le_of_ble_eq_true rfl) ?_ | refine And.intro True.intro ?_ | refine ⟨_, _, _, rfl, (by first | exact T.cl_Scale | exact T.cl_Rules), (by first | exact T.na_Scale_signs | exact T.na_Scale_worths | exact T.na_Rules_own_scale | exact T.na_Rules_pairs), by rfl, ?_⟩ | refine ite_t rfl ?_ | refine ite_f rfl ?_ | refine And.intro (by decide) ?_ | refine And.intro (by omega) ?_ | refine And.intro (by (simp only [List.length_map, tx_len, List.length_cons, List.length_append, List.length_nil, List.length_replicate, List.length_take, List.length_drop, List.length_reverse]; omega)) ?_ | refine And.intro (by assumption) ?_ | refine And.intro ⟨_, rfl⟩ ?_ | refine ⟨_, Or.inl rfl, ?_⟩ | refine And.intro (Or.inl rfl) ?_ | refine ⟨_, Or.inr rfl, ?_⟩ | refine And.intro (Or.inr rfl) ?_))
        rw [if_neg (fun z => by rw [decide_eq_true z.2.2] at h2; cases h2)] at hP
        exact hP
      · have h3 : (w.drop a.toNat).take t.length = t := by simpa using h2
        rw [if_pos ⟨h, h', h3⟩] at hP
        (repeat (first | refine ⟨rfl, ?_⟩ | refine ⟨_, rfl, ?_⟩ | refine ⟨_, _, rfl, rfl, ?_⟩ | refine ⟨_, _, rfl, ?_⟩ | refine ⟨_, _, _, rfl, ?_⟩ | refine ⟨_, _, _, rfl, rfl, ?_⟩ | refine ⟨_, _, _, rfl, rfl, rfl, ?_⟩ | refine ⟨_, _, _, _, rfl, ?_⟩ | refine ⟨_, _, _, _, _, rfl, ?_⟩ | refine ⟨_, _, _, _, _, _, rfl, ?_⟩ | refine ⟨_, _, _, _, _, _, _, rfl, ?_⟩ | refine ⟨_, _, _, _, _, _, _, _, rfl, ?_⟩ | refine ⟨_, _, _, _, rfl, rfl, ?_⟩ | refine And.intro (Nat.le_of_ble_eq_true rfl) ?_ | refine And.intro True.intro ?_ | refine ⟨_, _, _, rfl, (by first | exact T.cl_Scale | exact T.cl_Rules), (by first | exact T.na_Scale_signs | exact T.na_Scale_worths | exact T.na_Rules_own_scale | exact T.na_Rules_pairs), by rfl, ?_⟩ | refine ite_t rfl ?_ | refine ite_f rfl ?_ | refine And.intro (by decide) ?_ | refine And.intro (by omega) ?_ | refine And.intro (by (simp only [List.length_map, tx_len, List.length_cons, List.length_append, List.length_nil, List.length_replicate, List.length_take, List.length_drop, List.length_reverse]; omega)) ?_ | refine And.intro (by assumption) ?_ | refine And.intro ⟨_, rfl⟩ ?_ | refine ⟨_, Or.inl rfl, ?_⟩ | refine And.intro (Or.inl rfl) ?_ | refine ⟨_, Or.inr rfl, ?_⟩ | refine And.intro (Or.inr rfl) ?_))
        refine And.intro (swap_b1 h hw h2') ?_
        (repeat (first | refine ⟨rfl, ?_⟩ | refine ⟨_, rfl, ?_⟩ | refine ⟨_, _, rfl, rfl, ?_⟩ | refine ⟨_, _, rfl, ?_⟩ | refine ⟨_, _, _, rfl, ?_⟩ | refine ⟨_, _, _, rfl, rfl, ?_⟩ | refine ⟨_, _, _, rfl, rfl, rfl, ?_⟩ | refine ⟨_, _, _, _, rfl, ?_⟩ | refine ⟨_, _, _, _, _, rfl, ?_⟩ | refine ⟨_, _, _, _, _, _, rfl, ?_⟩ | refine ⟨_, _, _, _, _, _, _, rfl, ?_⟩ | refine ⟨_, _, _, _, _, _, _, _, rfl, ?_⟩ | refine ⟨_, _, _, _, rfl, rfl, ?_⟩ | refine And.intro (Nat.le_of_ble_eq_true rfl) ?_ | refine And.intro True.intro ?_ | refine ⟨_, _, _, rfl, (by first | exact T.cl_Scale | exact T.cl_Rules), (by first | exact T.na_Scale_signs | exact T.na_Scale_worths | exact T.na_Rules_own_scale | exact T.na_Rules_pairs), by rfl, ?_⟩ | refine ite_t rfl ?_ | refine ite_f rfl ?_ | refine And.intro (by decide) ?_ | refine And.intro (by omega) ?_ | refine And.intro (by (simp only [List.length_map, tx_len, List.length_cons, List.length_append, List.length_nil, List.length_replicate, List.length_take, List.length_drop, List.length_reverse]; omega)) ?_ | refine And.intro (by assumption) ?_ | refine And.intro ⟨_, rfl⟩ ?_ | refine ⟨_, Or.inl rfl, ?_⟩ | refine And.intro (Or.inl rfl) ?_ | refine ⟨_, Or.inr rfl, ?_⟩ | refine And.intro (Or.inr rfl) ?_))
        refine And.intro (swap_b2 h hw h2') ?_
        have hl := swap_len w t u a.toNat
        rw [swap_str h]
        (repeat (first | refine ⟨rfl, ?_⟩ | refine ⟨_, rfl, ?_⟩ | refine ⟨_, _, rfl, rfl, ?_⟩ | refine ⟨_, _, rfl, ?_⟩ | refine ⟨_, _, _, rfl, ?_⟩ | refine ⟨_, _, _, rfl, rfl, ?_⟩ | refine ⟨_, _, _, rfl, rfl, rfl, ?_⟩ | refine ⟨_, _, _, _, rfl, ?_⟩ | refine ⟨_, _, _, _, _, rfl, ?_⟩ | refine ⟨_, _, _, _, _, _, rfl, ?_⟩ | refine ⟨_, _, _, _, _, _, _, rfl, ?_⟩ | refine ⟨_, _, _, _, _, _, _, _, rfl, ?_⟩ | refine ⟨_, _, _, _, rfl, rfl, ?_⟩ | refine And.intro (Nat.le_of_ble_eq_true rfl) ?_ | refine And.intro True.intro ?_ | refine ⟨_, _, _, rfl, (by first | exact T.cl_Scale | exact T.cl_Rules), (by first | exact T.na_Scale_signs | exact T.na_Scale_worths | exact T.na_Rules_own_scale | exact T.na_Rules_pairs), by rfl, ?_⟩ | refine ite_t rfl ?_ | refine ite_f rfl ?_ | refine And.intro (by decide) ?_ | refine And.intro (by omega) ?_ | refine And.intro (by (simp only [List.length_map, tx_len, List.length_cons, List.length_append, List.length_nil, List.length_replicate, List.length_take, List.length_drop, List.length_reverse]; omega)) ?_ | refine And.intro (by assumption) ?_ | refine And.intro ⟨_, rfl⟩ ?_ | refine ⟨_, Or.inl rfl, ?_⟩ | refine And.intro (Or.inl rfl) ?_ | refine ⟨_, Or.inr rfl, ?_⟩ | refine And.intro (Or.inr rfl) ?_))
        refine ite_b (fun h4 => ?_) (fun h4 => ?_)
        · rw [if_neg (by simp at h4 ⊢; omega)] at hP
          (repeat (first | refine ⟨rfl, ?_⟩ | refine ⟨_, rfl, ?_⟩ | refine ⟨_, _, rfl, rfl, ?_⟩ | refine ⟨_, _, rfl, ?_⟩ | refine ⟨_, _, _, rfl, ?_⟩ | refine ⟨_, _, _, rfl, rfl, ?_⟩ | refine ⟨_, _, _, rfl, rfl, rfl, ?_⟩ | refine ⟨_, _, _, _, rfl, ?_⟩ | refine ⟨_, _, _, _, _, rfl, ?_⟩ | refine ⟨_, _, _, _, _, _, rfl, ?_⟩ | refine ⟨_, _, _, _, _, _, _, rfl, ?_⟩ | refine ⟨_, _, _, _, _, _, _, _, rfl, ?_⟩ | refine ⟨_, _, _, _, rfl, rfl, ?_⟩ | refine And.intro (Nat.le_of_ble_eq_true rfl) ?_ | refine And.intro True.intro ?_ | refine ⟨_, _, _, rfl, (by first | exact T.cl_Scale | exact T.cl_Rules), (by first | exact T.na_Scale_signs | exact T.na_Scale_worths | exact T.na_Rules_own_scale | exact T.na_Rules_pairs), by rfl, ?_⟩ | refine ite_t rfl ?_ | refine ite_f rfl ?_ | refine And.intro (by decide) ?_ | refine And.intro (by omega) ?_ | refine And.intro (by (simp only [List.length_map, tx_len, List.length_cons, List.length_append, List.length_nil, List.length_replicate, List.length_take, List.length_drop, List.length_reverse]; omega)) ?_ | refine And.intro (by assumption) ?_ | refine And.intro ⟨_, rfl⟩ ?_ | refine ⟨_, Or.inl rfl, ?_⟩ | refine And.intro (Or.inl rfl) ?_ | refine ⟨_, Or.inr rfl, ?_⟩ | refine And.intro (Or.inr rfl) ?_))
          exact hP
        · rw [if_pos (by simp at h4 ⊢; omega)] at hP
          (repeat (first | refine ⟨rfl, ?_⟩ | refine ⟨_, rfl, ?_⟩ | refine ⟨_, _, rfl, rfl, ?_⟩ | refine ⟨_, _, rfl, ?_⟩ | refine ⟨_, _, _, rfl, ?_⟩ | refine ⟨_, _, _, rfl, rfl, ?_⟩ | refine ⟨_, _, _, rfl, rfl, rfl, ?_⟩ | refine ⟨_, _, _, _, rfl, ?_⟩ | refine ⟨_, _, _, _, _, rfl, ?_⟩ | refine ⟨_, _, _, _, _, _, rfl, ?_⟩ | refine ⟨_, _, _, _, _, _, _, rfl, ?_⟩ | refine ⟨_, _, _, _, _, _, _, _, rfl, ?_⟩ | refine ⟨_, _, _, _, rfl, rfl, ?_⟩ | refine And.intro (Nat.le_of_ble_eq_true rfl) ?_ | refine And.intro True.intro ?_ | refine ⟨_, _, _, rfl, (by first | exact T.cl_Scale | exact T.cl_Rules), (by first | exact T.na_Scale_signs | exact T.na_Scale_worths | exact T.na_Rules_own_scale | exact T.na_Rules_pairs), by rfl, ?_⟩ | refine ite_t rfl ?_ | refine ite_f rfl ?_ | refine And.intro (by decide) ?_ | refine And.intro (by omega) ?_ | refine And.intro (by (simp only [List.length_map, tx_len, List.length_cons, List.length_append, List.length_nil, List.length_replicate, List.length_take, List.length_drop, List.length_reverse]; omega)) ?_ | refine And.intro (by assumption) ?_ | refine And.intro ⟨_, rfl⟩ ?_ | refine ⟨_, Or.inl rfl, ?_⟩ | refine And.intro (Or.inl rfl) ?_ | refine ⟨_, Or.inr rfl, ?_⟩ | refine And.intro (Or.inr rfl) ?_))
          exact hP
  · (repeat (first | refine ⟨rfl, ?_⟩ | refine ⟨_, rfl, ?_⟩ | refine ⟨_, _, rfl, rfl, ?_⟩ | refine ⟨_, _, rfl, ?_⟩ | refine ⟨_, _, _, rfl, ?_⟩ | refine ⟨_, _, _, rfl, rfl, ?_⟩ | refine ⟨_, _, _, rfl, rfl, rfl, ?_⟩ | refine ⟨_, _, _, _, rfl, ?_⟩ | refine ⟨_, _, _, _, _, rfl, ?_⟩ | refine ⟨_, _, _, _, _, _, rfl, ?_⟩ | refine ⟨_, _, _, _, _, _, _, rfl, ?_⟩ | refine ⟨_, _, _, _, _, _, _, _, rfl, ?_⟩ | refine ⟨_, _, _, _, rfl, rfl, ?_⟩ | refine And.intro (Nat.le_of_ble_eq_true rfl) ?_ | refine And.intro True.intro ?_ | refine ⟨_, _, _, rfl, (by first | exact T.cl_Scale | exact T.cl_Rules), (by first | exact T.na_Scale_signs | exact T.na_Scale_worths | exact T.na_Rules_own_scale | exact T.na_Rules_pairs), by rfl, ?_⟩ | refine ite_t rfl ?_ | refine ite_f rfl ?_ | refine And.intro (by decide) ?_ | refine And.intro (by omega) ?_ | refine And.intro (by (simp only [List.length_map, tx_len, List.length_cons, List.length_append, List.length_nil, List.length_replicate, List.length_take, List.length_drop, List.length_reverse]; omega)) ?_ | refine And.intro (by assumption) ?_ | refine And.intro ⟨_, rfl⟩ ?_ | refine ⟨_, Or.inl rfl, ?_⟩ | refine And.intro (Or.inl rfl) ?_ | refine ⟨_, Or.inr rfl, ?_⟩ | refine And.intro (Or.inr rfl) ?_))
    rw [if_neg (by simp at h; omega)] at hP
    exact hP
theorem law_law_turned (T : Txt K mg) : ∀ ds P, S_law_turned K ds P → D_law_turned K (endsD P) (env0 ["pairs", "word", "place", "rule", "back", "left", "right", "taken", "put", "later"] ds) := by
  rintro ds P ⟨ps, w, a, n, b, rfl, hPs, hw, hsm, hps, hP⟩
  have hpn := hPs.n
  (repeat (first | refine ⟨rfl, ?_⟩ | refine ⟨_, rfl, ?_⟩ | refine ⟨_, _, rfl, rfl, ?_⟩ | refine ⟨_, _, rfl, ?_⟩ | refine ⟨_, _, _, rfl, ?_⟩ | refine ⟨_, _, _, rfl, rfl, ?_⟩ | refine ⟨_, _, _, rfl, rfl, rfl, ?_⟩ | refine ⟨_, _, _, _, rfl, ?_⟩ | refine ⟨_, _, _, _, _, rfl, ?_⟩ | refine ⟨_, _, _, _, _, _, rfl, ?_⟩ | refine ⟨_, _, _, _, _, _, _, rfl, ?_⟩ | refine ⟨_, _, _, _, _, _, _, _, rfl, ?_⟩ | refine ⟨_, _, _, _, rfl, rfl, ?_⟩ | refine And.intro (Nat.le_of_ble_eq_true rfl) ?_ | refine And.intro True.intro ?_ | refine ⟨_, _, _, rfl, (by first | exact T.cl_Scale | exact T.cl_Rules), (by first | exact T.na_Scale_signs | exact T.na_Scale_worths | exact T.na_Rules_own_scale | exact T.na_Rules_pairs), by rfl, ?_⟩ | refine ite_t rfl ?_ | refine ite_f rfl ?_ | refine And.intro (by decide) ?_ | refine And.intro (by omega) ?_ | refine And.intro (by (simp only [List.length_map, tx_len, List.length_cons, List.length_append, List.length_nil, List.length_replicate, List.length_take, List.length_drop, List.length_reverse]; omega)) ?_ | refine And.intro (by assumption) ?_ | refine And.intro ⟨_, rfl⟩ ?_ | refine ⟨_, Or.inl rfl, ?_⟩ | refine And.intro (Or.inl rfl) ?_ | refine ⟨_, Or.inr rfl, ?_⟩ | refine And.intro (Or.inr rfl) ?_))
  refine ite_b (fun h => ?_) (fun h => ?_)
  · (repeat (first | refine ⟨rfl, ?_⟩ | refine ⟨_, rfl, ?_⟩ | refine ⟨_, _, rfl, rfl, ?_⟩ | refine ⟨_, _, rfl, ?_⟩ | refine ⟨_, _, _, rfl, ?_⟩ | refine ⟨_, _, _, rfl, rfl, ?_⟩ | refine ⟨_, _, _, rfl, rfl, rfl, ?_⟩ | refine ⟨_, _, _, _, rfl, ?_⟩ | refine ⟨_, _, _, _, _, rfl, ?_⟩ | refine ⟨_, _, _, _, _, _, rfl, ?_⟩ | refine ⟨_, _, _, _, _, _, _, rfl, ?_⟩ | refine ⟨_, _, _, _, _, _, _, _, rfl, ?_⟩ | refine ⟨_, _, _, _, rfl, rfl, ?_⟩ | refine And.intro (Nat.le_of_ble_eq_true rfl) ?_ | refine And.intro True.intro ?_ | refine ⟨_, _, _, rfl, (by first | exact T.cl_Scale | exact T.cl_Rules), (by first | exact T.na_Scale_signs | exact T.na_Scale_worths | exact T.na_Rules_own_scale | exact T.na_Rules_pairs), by rfl, ?_⟩ | refine ite_t rfl ?_ | refine ite_f rfl ?_ | refine And.intro (by decide) ?_ | refine And.intro (by omega) ?_ | refine And.intro (by (simp only [List.length_map, tx_len, List.length_cons, List.length_append, List.length_nil, List.length_replicate, List.length_take, List.length_drop, List.length_reverse]; omega)) ?_ | refine And.intro (by assumption) ?_ | refine And.intro ⟨_, rfl⟩ ?_ | refine ⟨_, Or.inl rfl, ?_⟩ | refine And.intro (Or.inl rfl) ?_ | refine ⟨_, Or.inr rfl, ?_⟩ | refine And.intro (Or.inr rfl) ?_))
    simp at h
    refine ite_b (fun h' => ?_) (fun h' => ?_)
    · (repeat (first | refine ⟨rfl, ?_⟩ | refine ⟨_, rfl, ?_⟩ | refine ⟨_, _, rfl, rfl, ?_⟩ | refine ⟨_, _, rfl, ?_⟩ | refine ⟨_, _, _, rfl, ?_⟩ | refine ⟨_, _, _, rfl, rfl, ?_⟩ | refine ⟨_, _, _, rfl, rfl, rfl, ?_⟩ | refine ⟨_, _, _, _, rfl, ?_⟩ | refine ⟨_, _, _, _, _, rfl, ?_⟩ | refine ⟨_, _, _, _, _, _, rfl, ?_⟩ | refine ⟨_, _, _, _, _, _, _, rfl, ?_⟩ | refine ⟨_, _, _, _, _, _, _, _, rfl, ?_⟩ | refine ⟨_, _, _, _, rfl, rfl, ?_⟩ | refine And.intro (Nat.le_of_ble_eq_true rfl) ?_ | refine And.intro True.intro ?_ | refine ⟨_, _, _, rfl, (by first | exact T.cl_Scale | exact T.cl_Rules), (by first | exact T.na_Scale_signs | exact T.na_Scale_worths | exact T.na_Rules_own_scale | exact T.na_Rules_pairs), by rfl, ?_⟩ | refine ite_t rfl ?_ | refine ite_f rfl ?_ | refine And.intro (by decide) ?_ | refine And.intro (by omega) ?_ | refine And.intro (by (simp only [List.length_map, tx_len, List.length_cons, List.length_append, List.length_nil, List.length_replicate, List.length_take, List.length_drop, List.length_reverse]; omega)) ?_ | refine And.intro (by assumption) ?_ | refine And.intro ⟨_, rfl⟩ ?_ | refine ⟨_, Or.inl rfl, ?_⟩ | refine And.intro (Or.inl rfl) ?_ | refine ⟨_, Or.inr rfl, ?_⟩ | refine And.intro (Or.inr rfl) ?_))
      unfold turnG at hP
      rw [if_neg (by simp at h'; omega)] at hP
      exact hP
    · simp at h'
      have h0 : 0 ≤ n ∧ n < (ps.length : Nat) := by omega
      have hat := atI_map (f := dP) (d := ([], [])) h0.1 h0.2
      have hs := tk_sm hps b h0
      have hb := tk_len hPs b h0
      (repeat (first | refine ⟨rfl, ?_⟩ | refine ⟨_, rfl, ?_⟩ | refine ⟨_, _, rfl, rfl, ?_⟩ | refine ⟨_, _, rfl, ?_⟩ | refine ⟨_, _, _, rfl, ?_⟩ | refine ⟨_, _, _, rfl, rfl, ?_⟩ | refine ⟨_, _, _, rfl, rfl, rfl, ?_⟩ | refine ⟨_, _, _, _, rfl, ?_⟩ | refine ⟨_, _, _, _, _, rfl, ?_⟩ | refine ⟨_, _, _, _, _, _, rfl, ?_⟩ | refine ⟨_, _, _, _, _, _, _, rfl, ?_⟩ | refine ⟨_, _, _, _, _, _, _, _, rfl, ?_⟩ | refine ⟨_, _, _, _, rfl, rfl, ?_⟩ | refine And.intro (Nat.le_of_ble_eq_true rfl) ?_ | refine And.intro True.intro ?_ | refine ⟨_, _, _, rfl, (by first | exact T.cl_Scale | exact T.cl_Rules), (by first | exact T.na_Scale_signs | exact T.na_Scale_worths | exact T.na_Rules_own_scale | exact T.na_Rules_pairs), by rfl, ?_⟩ | refine ite_t rfl ?_ | refine ite_f rfl ?_ | refine And.intro (by decide) ?_ | refine And.intro (by omega) ?_ | refine And.intro (by (simp only [List.length_map, tx_len, List.length_cons, List.length_append, List.length_nil, List.length_replicate, List.length_take, List.length_drop, List.length_reverse]; omega)) ?_ | refine And.intro (by assumption) ?_ | refine And.intro ⟨_, rfl⟩ ?_ | refine ⟨_, Or.inl rfl, ?_⟩ | refine And.intro (Or.inl rfl) ?_ | refine ⟨_, Or.inr rfl, ?_⟩ | refine And.intro (Or.inr rfl) ?_))
      refine ⟨_, hat, ?_⟩
      (repeat (first | refine ⟨rfl, ?_⟩ | refine ⟨_, rfl, ?_⟩ | refine ⟨_, _, rfl, rfl, ?_⟩ | refine ⟨_, _, rfl, ?_⟩ | refine ⟨_, _, _, rfl, ?_⟩ | refine ⟨_, _, _, rfl, rfl, ?_⟩ | refine ⟨_, _, _, rfl, rfl, rfl, ?_⟩ | refine ⟨_, _, _, _, rfl, ?_⟩ | refine ⟨_, _, _, _, _, rfl, ?_⟩ | refine ⟨_, _, _, _, _, _, rfl, ?_⟩ | refine ⟨_, _, _, _, _, _, _, rfl, ?_⟩ | refine ⟨_, _, _, _, _, _, _, _, rfl, ?_⟩ | refine ⟨_, _, _, _, rfl, rfl, ?_⟩ | refine And.intro (Nat.le_of_ble_eq_true rfl) ?_ | refine And.intro True.intro ?_ | refine ⟨_, _, _, rfl, (by first | exact T.cl_Scale | exact T.cl_Rules), (by first | exact T.na_Scale_signs | exact T.na_Scale_worths | exact T.na_Rules_own_scale | exact T.na_Rules_pairs), by rfl, ?_⟩ | refine ite_t rfl ?_ | refine ite_f rfl ?_ | refine And.intro (by decide) ?_ | refine And.intro (by omega) ?_ | refine And.intro (by (simp only [List.length_map, tx_len, List.length_cons, List.length_append, List.length_nil, List.length_replicate, List.length_take, List.length_drop, List.length_reverse]; omega)) ?_ | refine And.intro (by assumption) ?_ | refine And.intro ⟨_, rfl⟩ ?_ | refine ⟨_, Or.inl rfl, ?_⟩ | refine And.intro (Or.inl rfl) ?_ | refine ⟨_, Or.inr rfl, ?_⟩ | refine And.intro (Or.inr rfl) ?_))
      unfold turnG at hP
      rw [if_pos h0] at hP
      cases b with
      | true =>
        exact ite_t rfl ⟨by show 2 ≤ 1000000; decide, _, rfl, rfl, _, _, rfl, _, _, rfl, rfl, law_turned2 (K := K) hw hsm (takenOf ps n true) (putOf ps n true) _ _ _ _ _ hs.1 hb.1 hb.2 hP⟩
      | false =>
        exact ite_f rfl ⟨by show 2 ≤ 1000000; decide, _, rfl, rfl, _, _, rfl, _, _, rfl, rfl, law_turned2 (K := K) hw hsm (takenOf ps n false) (putOf ps n false) _ _ _ _ _ hs.1 hb.1 hb.2 hP⟩
  · (repeat (first | refine ⟨rfl, ?_⟩ | refine ⟨_, rfl, ?_⟩ | refine ⟨_, _, rfl, rfl, ?_⟩ | refine ⟨_, _, rfl, ?_⟩ | refine ⟨_, _, _, rfl, ?_⟩ | refine ⟨_, _, _, rfl, rfl, ?_⟩ | refine ⟨_, _, _, rfl, rfl, rfl, ?_⟩ | refine ⟨_, _, _, _, rfl, ?_⟩ | refine ⟨_, _, _, _, _, rfl, ?_⟩ | refine ⟨_, _, _, _, _, _, rfl, ?_⟩ | refine ⟨_, _, _, _, _, _, _, rfl, ?_⟩ | refine ⟨_, _, _, _, _, _, _, _, rfl, ?_⟩ | refine ⟨_, _, _, _, rfl, rfl, ?_⟩ | refine And.intro (Nat.le_of_ble_eq_true rfl) ?_ | refine And.intro True.intro ?_ | refine ⟨_, _, _, rfl, (by first | exact T.cl_Scale | exact T.cl_Rules), (by first | exact T.na_Scale_signs | exact T.na_Scale_worths | exact T.na_Rules_own_scale | exact T.na_Rules_pairs), by rfl, ?_⟩ | refine ite_t rfl ?_ | refine ite_f rfl ?_ | refine And.intro (by decide) ?_ | refine And.intro (by omega) ?_ | refine And.intro (by (simp only [List.length_map, tx_len, List.length_cons, List.length_append, List.length_nil, List.length_replicate, List.length_take, List.length_drop, List.length_reverse]; omega)) ?_ | refine And.intro (by assumption) ?_ | refine And.intro ⟨_, rfl⟩ ?_ | refine ⟨_, Or.inl rfl, ?_⟩ | refine And.intro (Or.inl rfl) ?_ | refine ⟨_, Or.inr rfl, ?_⟩ | refine And.intro (Or.inr rfl) ?_))
    unfold turnG at hP
    rw [if_neg (by simp at h; omega)] at hP
    exact hP
end

theorem PsSm_of {L : wd} {ps : List (wd × wd)} (h : ∀ c ∈ L, c ∈ smalls) (ho : ∀ p ∈ ps, Ov L p.1 ∧ Ov L p.2) : PsSm ps := fun p hp => ⟨fun c hc => h c ((ho p hp).1 c hc), fun c hc => h c ((ho p hp).2 c hc)⟩
theorem sm_put {w t u v : wd} {a : Int} (hw : Sm w) (hu : Sm u) (h : swapAt w a t u = .ok v) : Sm v := by
  obtain ⟨_, _, _, rfl, _⟩ := swap_ok h
  intro c hc
  rcases List.mem_append.mp hc with hc | hc
  · rcases List.mem_append.mp hc with hc | hc
    · exact hw c (List.mem_of_mem_take hc)
    · exact hu c hc
  · exact hw c (List.mem_of_mem_drop hc)
theorem sm_turn {ps : List (wd × wd)} (h : PsSm ps) {w v : wd} {a n : Int} {b : Bool} (hw : Sm w) (hg : turnG ps w a n b = .ok v) : Sm v ∧ v.length ≤ 400 := by
  unfold turnG at hg
  split at hg
  · rename_i hn
    exact ⟨sm_put hw (tk_sm h b hn).2 hg, (swap_ok hg).2.2.2.2⟩
  · cases hg
theorem strs_ne {z y : Str} (h : z ≠ y) : PyData.eqv (py (.str z)) (py (.str y)) = false := by
  show PyData.eqv (.str z) (.str y) = _
  rw [eqv_str]
  exact decide_eq_false h
theorem strs_eq (z : Str) : PyData.eqv (py (.str z)) (py (.str z)) = true := by
  show PyData.eqv (.str z) (.str z) = _
  rw [eqv_str]
  exact decide_eq_true rfl
section
variable {K : PySem.W.Frag} {mg : Str → Option Value}
/-! a drawn walk -/
end


end SF

namespace SF
open PySem PySem.Spec PyProof.Rows L2 DL RZ
@[irreducible] def D_c_b3f (K : PySem.W.Frag) (TF : TFn) : DS := (dSeq (dAsgN 6 (dMethUN (c_Rules K) "places" (S_Rules_places K) 2 0 (fun ds es => ds ++ es) dXF (dVar 14) (dCons (dVar 16) dNil) dNil))
    (dSeq (dIfS (dNot (dTest (dLendB 6 [14, 16, 4] (dCall (S_law_like K) (dCons (dN (dLst (dCons (dVar 6) (dCons (dMethU (c_Rules K) "is_end" (S_Rules_is_end K) 2 0 (fun ds es => ds ++ es) dXF (dVar 14) (dCons (dVar 16) dNil) dNil) dNil)))) (dCons (dN (dLst (dCons (dVar 4) (dCons (dOp dEq (dVar 4) (dN (dLst dNil))) dNil)))) dNil)))))) (dRet (dC (.bl false))) dNext)
    (dApp 6 (dCons (dTup (dCons (dC (.int 0)) (dCons (dC (.int 0)) dNil))) dNil))))
@[irreducible] def D_c_b4f_4 (K : PySem.W.Frag) (TF : TFn) : DS := (dSeq (dIfS (dNot (dTest (dCall (S_law_like K) (dCons (dVar 9) (dCons (dVar 8) dNil))))) (dRet (dC (.bl false))) dNext)
    (dIfS (dAnd (dNot (dTest (dVar 11))) (dNot (dTest (dCall (S_law_like K) (dCons (dWhy K (whyL K) (fun PX => (dMethU (c_Rules K) "turned" (S_Rules_turned K) 4 0 (fun ds _ => ds ++ [.bl false]) (fun C fs _ => PX C fs) (dVar 14) (dCons (dVar 16) (dCons (dVar 12) (dCons (dVar 13) dNil))) dNil))) (dCons (dVar 8) dNil)))))) (dRet (dC (.bl false))) dNext))
@[irreducible] def D_c_b4f_2 (K : PySem.W.Frag) (TF : TFn) : DS := (dSeq (dAsg 8 (dCall (S_law_turned K) (dCons (dOp dIx (dVar 3) (dC (.int 2))) (dCons (dVar 16) (dCons (dVar 12) (dCons (dVar 13) (dCons (dVar 11) dNil)))))))
    (dSeq (dAsg 9 (dWhy K (whyL K) (fun PX => (dMethU (c_Rules K) "turned" (S_Rules_turned K) 4 1 (fun ds es => ds ++ es) (fun C fs _ => PX C fs) (dVar 14) (dCons (dVar 16) (dCons (dVar 12) (dCons (dVar 13) dNil))) (dCons (dVar 11) dNil)))))
    (D_c_b4f_4 K TF)))
@[irreducible] def D_c_b4f (K : PySem.W.Frag) (TF : TFn) : DS := (dSeq (dAsg 12 (dCall (S_law_of K) (dCons (dVar 1) (dCons (dN (dLst (dCons (dCall (S_law_pick K) (dCons (dVar 1) (dCons (dOp dAdd (dCB dLen (dCons (dVar 16) dNil)) (dC (.int 1))) dNil))) (dCons (dOp dSub (dC (.int 0)) (dC (.int 1))) (dCons (dOp dAdd (dCB dLen (dCons (dVar 16) dNil)) (dC (.int 1))) (dCons (dOp dPow (dC (.int 10)) (dC (.int 17))) dNil)))))) dNil))))
    (dSeq (dAsgG (dTup (dCons (dOp dSub (dCall (S_law_pick K) (dCons (dVar 1) (dCons (dOp dAdd (dCB dLen (dCons (dOp dIx (dVar 3) (dC (.int 2))) dNil)) (dC (.int 2))) dNil))) (dC (.int 1))) (dCons (dOp dEq (dCall (S_law_pick K) (dCons (dVar 1) (dCons (dC (.int 2)) dNil))) (dC (.int 1))) dNil))) (dGTup 2 (dGCons (dName 13) (dGCons (dName 11) dGNil))))
    (D_c_b4f_2 K TF)))
@[irreducible] def D_c_b5 (K : PySem.W.Frag) (TF : TFn) : DS := (dSeq (dAsgN 10 (dLst (dCons (dLamV0 TF 0) (dCons (dLamV1 TF 1) dNil))))
    (dSeq (dApp 10 (dCons (dLamV0 TF 2) dNil))
    (dIfS (dNot (dTest (dCB dAll (dCons (dN (dLc (dItL (dVar 10)) (dName 17) dYes (dOp dEq (dWhyV K (whyL K) [17] TF [(0, false, fun PX => (dN (dMethUN (c_Rules K) "places" (S_Rules_places K) 2 0 (fun ds es => ds ++ es) (fun C fs _ => PX C fs) (dVar 14) (dCons (dOp dAdd (dC (.str "?")) (dVar 16)) dNil) dNil))), (1, true, fun PX => (dMethU (c_Rules K) "is_end" (S_Rules_is_end K) 2 0 (fun ds es => ds ++ es) (fun C fs _ => PX C fs) (dVar 14) (dCons (dOp dAdd (dC (.str "?")) (dVar 16)) dNil) dNil)), (2, false, fun PX => (dMethU (c_Rules K) "turned" (S_Rules_turned K) 4 0 (fun ds _ => ds ++ [.bl false]) (fun C fs _ => PX C fs) (dVar 14) (dCons (dOp dAdd (dC (.str "?")) (dVar 16)) (dCons (dOp dSub (dC (.int 0)) (dC (.int 1))) (dCons (dOp dSub (dC (.int 0)) (dC (.int 1))) dNil))) dNil))] (dVar 17)) (dTup (dCons (dC (.str "BadWord")) (dCons (dC (.int 0)) dNil)))) [17])) dNil)))) (dRet (dC (.bl false))) dNext)))
@[irreducible] def D_c_b4 (K : PySem.W.Frag) (TF : TFn) : DS := (dSeq (dFor (dItR1 (dCons (dC (.int 8)) dNil)) (dName 7) (D_c_b4f K TF))
    (D_c_b5 K TF))
@[irreducible] def D_c_b3 (K : PySem.W.Frag) (TF : TFn) : DS := (dSeq (dFor (dItR1 (dCons (dC (.int 2)) dNil)) (dName 5) (D_c_b3f K TF))
    (D_c_b4 K TF))
@[irreducible] def D_c_b2 (K : PySem.W.Frag) (TF : TFn) : DS := (dSeq (dAsg 4 (dN (dCallN (S_law_standing K) (dCons (dOp dIx (dVar 3) (dC (.int 2))) (dCons (dVar 16) dNil)))))
    (D_c_b3 K TF))
@[irreducible] def D_c_b0 (K : PySem.W.Frag) (TF : TFn) : DS := (dSeq (dAsg 3 (dCall (S_law_any_list K) (dCons (dVar 1) (dCons (dC (.int 5)) dNil))))
    (dSeq (dAsgG (dTup (dCons (dCall (S_law_rules_of K) (dCons (dVar 3) dNil)) (dCons (dCall (S_law_word K) (dCons (dVar 1) (dCons (dOp dIx (dVar 3) (dC (.int 0))) (dCons (dC (.int 12)) dNil)))) dNil))) (dGTup 2 (dGCons (dName 14) (dGCons (dName 16) dGNil))))
    (D_c_b2 K TF)))
@[irreducible] def D_c_t4 (K : PySem.W.Frag) (TF : TFn) : DS := (dSeq (dAsgN 4 (dLst (dCons (dTup (dCons (dC (.str "told")) (dCons (dOp dAdd (dOp dAdd (dOp dAdd (dOp dMul (dC (.str "b")) (dC (.int 7))) (dC (.str "aaa"))) (dOp dMul (dC (.str "b")) (dC (.int 192)))) (dOp dMul (dC (.str "a")) (dC (.int 198)))) dNil))) (dCons (dTup (dCons (dC (.str "TooLong")) (dCons (dC (.int 400)) dNil))) (dCons (dTup (dCons (dC (.str "TooLong")) (dCons (dC (.int 400)) dNil))) dNil)))))
    (dRet (dAndV (dCall (S_law_like K) (dCons (dVar 9) (dCons (dVar 4) dNil))) (dOp dEq (dMethU (c_Rules K) "turned" (S_Rules_turned K) 4 1 (fun ds es => ds ++ es) dXF (dVar 15) (dCons (dC (.str "bb")) (dCons (dC (.int 2)) (dCons (dC (.int 2)) dNil))) (dCons (dC (.bl true)) dNil)) (dC (.str "bba"))))))
@[irreducible] def D_c_t3 (K : PySem.W.Frag) (TF : TFn) : DS := (dSeq (dApp 9 (dCons (dWhy K (whyL K) (fun PX => (dMethU (c_Rules K) "turned" (S_Rules_turned K) 4 1 (fun ds es => ds ++ es) (fun C fs _ => PX C fs) (dVar 15) (dCons (dOp dMul (dC (.str "a")) (dC (.int 400))) (dCons (dC (.int 0)) (dCons (dC (.int 2)) dNil))) (dCons (dC (.bl true)) dNil)))) dNil))
    (D_c_t4 K TF))
@[irreducible] def D_c_t2 (K : PySem.W.Frag) (TF : TFn) : DS := (dSeq (dAsgN 9 (dLst (dCons (dWhy K (whyL K) (fun PX => (dMethU (c_Rules K) "turned" (S_Rules_turned K) 4 0 (fun ds _ => ds ++ [.bl false]) (fun C fs _ => PX C fs) (dVar 15) (dCons (dOp dAdd (dOp dMul (dC (.str "b")) (dC (.int 200))) (dOp dMul (dC (.str "a")) (dC (.int 198)))) (dCons (dC (.int 7)) (dCons (dC (.int 0)) dNil))) dNil))) (dCons (dWhy K (whyL K) (fun PX => (dMethU (c_Rules K) "turned" (S_Rules_turned K) 4 0 (fun ds _ => ds ++ [.bl false]) (fun C fs _ => PX C fs) (dVar 15) (dCons (dOp dMul (dC (.str "b")) (dC (.int 399))) (dCons (dC (.int 398)) (dCons (dC (.int 0)) dNil))) dNil))) dNil))))
    (D_c_t3 K TF))
@[irreducible] def D_c_t1 (K : PySem.W.Frag) (TF : TFn) : DS := (dSeq (dAsg 15 (dMakeU (c_Rules K) (S_Rules_init K) 3 0 (fun ds _ => ds ++ []) dXF (dCons (dMakeU (c_Scale K) (S_Scale_init K) 2 1 (fun ds es => ds ++ es) dXF (dCons (dC (.str "ab")) dNil) (dCons (dTup (dCons (dC (.int 1)) (dCons (dC (.int 9)) dNil))) dNil)) (dCons (dN (dLst (dCons (dTup (dCons (dC (.str "b")) (dCons (dC (.str "aaa")) dNil))) (dCons (dTup (dCons (dC (.str "aa")) (dCons (dC (.str "a")) dNil))) (dCons (dTup (dCons (dC (.str "a")) (dCons (dC (.str "")) dNil))) dNil))))) dNil)) dNil))
    (D_c_t2 K TF))
def D_lawC (K : PySem.W.Frag) (TF : TFn) : DS := (dSeq (dFor (dItR1 (dCons (dC (.int 4)) dNil)) (dName 2) (D_c_b0 K TF))
    (D_c_t1 K TF))
theorem D_lawC_eq (K : PySem.W.Frag) (TF : TFn) : D_law K TF = D_lawC K TF := by
  delta D_law D_lawC D_c_b3f D_c_b4f_4 D_c_b4f_2 D_c_b4f D_c_b5 D_c_b4 D_c_b3 D_c_b2 D_c_b0 D_c_t4 D_c_t3 D_c_t2 D_c_t1
  rfl
end SF

set_option pp.maxSteps 1200
namespace SF
open PySem PySem.Spec PyProof.Rows L2 DL RZ
theorem eqv_me {d : D} (h : shp d = true) : PyData.eqv (py d) (py d) = true := SeqAt.eqv_refl _ (Bool.and_eq_true_iff.mp (show (_ && _) = true from h)).1
def endsT : DEnds := ⟨fun _ => False, fun d => d = .bl true, fun _ => False, fun _ => False, fun _ => False, fun _ _ => False⟩
theorem dep_two {n : Nat} {z : Str} {d : D} (hz : PyData.strOk z = true) (h : dep n d) : dep (n + 1) (.tup [.str z, d]) := ⟨by show 2 ≤ 1000000; decide, fun e he => by
  simp only [List.mem_cons, List.not_mem_nil, or_false] at he
  rcases he with rfl | rfl
  · cases n <;> exact hz
  · exact h⟩
theorem dep_int (n : Nat) (i : Int) : dep n (.int i) := by cases n <;> trivial
structure Ctx (L : wd) (W : List Int) (ps : List (wd × wd)) : Prop where
  hR : RsOk L W ps
  hl : ps.length ≤ 5
theorem rs_pss {L : wd} {W : List Int} {ps : List (wd × wd)} (hR : RsOk L W ps) : PsSm ps := PsSm_of hR.1.sub (rs_ov hR)
theorem sh_ru {L : wd} {W : List Int} {p : wd × wd} (h : ShOk L W p) : RuOk L W p := by
  obtain ⟨h1, h2, h3, h4, h5⟩ := h
  exact ⟨by omega, by omega, h3, h4, h5⟩
theorem no63 {L : wd} {W : List Int} (hS : ScOk L W) : (63 : Nat) ∉ L := fun h => by
  have := hS.sub 63 h
  revert this
  decide +kernel
theorem lookW_bad {K : PySem.W.Frag} {PX : PXt} {L w : wd} {Q : Prop} {i : Nat} (hb : badAt L w = some i) (h : xBW K PX i) : lookW K PX L w Q := ⟨fun e => (by rw [hb] at e; cases e), fun j hj => by
  rw [hb] at hj
  cases hj
  exact h⟩
theorem asked_bad {K : PySem.W.Frag} {mg : Str → Option Value} (T : Txt K mg) {P : D → Prop} {n : Nat} (h : P (.tup [.str "BadWord", .int (n : Nat)])) : xBW K (fun C fs => whyX K (whyL K) C fs P) n :=
  ⟨_, .str "BadWord", .int (n : Nat), of_decide_eq_true T.wp_BadWord, rfl, rfl, h⟩
theorem bad_first {L r : wd} {c : Nat} (hc : c ∉ L) : badAt L (c :: r) = some 0 := badAt_some (by simp) (by rfl) hc
theorem str_pre (w : wd) {z : Str} {r : wd} (h : z = tx r) : D.str (z ++ tx w) = dW (r ++ w) := by rw [h, tx_app]
theorem comp_nil {dg : DG} {t : DT} {a : DE} {δm : DL.Env} {acc : List D} {P : List D → Prop} : dComp dg t a δm [] acc P = P acc := rfl
theorem asked_turn {K : PySem.W.Frag} {mg : Str → Option Value} (T : Txt K mg) {P : D → Prop} {a n : Int} {r : TR} (h : P (dTR a n r)) : turnW K (fun C fs => whyX K (whyL K) C fs P) (fun v => P (.tup [.str "told", dW v])) a n r := by
  cases r with
  | ok w => exact h
  | noRule => exact ⟨_, .str "NoRule", .int n, of_decide_eq_true T.wp_NoRule, rfl, rfl, h⟩
  | noStep => exact ⟨_, .str "NoStep", .int a, of_decide_eq_true T.wp_NoStep, rfl, rfl, h⟩
  | long => exact ⟨_, .str "TooLong", .int 400, of_decide_eq_true T.wp_TooLong, rfl, rfl, h⟩
theorem dep_TR {a n : Int} {r : TR} (h : ∀ w, r = .ok w → Sm w) {k : Nat} : dep (k + 1) (dTR a n r) := by
  cases r with
  | ok w => exact dep_two strOk_told (by
      have := strOk_sm (h w rfl)
      cases k <;> exact this)
  | noRule => exact dep_two (by decide +kernel) (dep_int _ _)
  | noStep => exact dep_two (by decide +kernel) (dep_int _ _)
  | long => exact dep_two (by decide +kernel) (dep_int _ _)
def wideP : List (wd × wd) := [([98], [97, 97, 97]), ([97, 97], [97]), ([97], [])]
theorem wide_sc : ScOk [97, 98] [1, 9] := ⟨by decide, by decide +kernel, by decide, by decide, rfl, by decide⟩
theorem wide_ru : ∀ p ∈ wideP, RuOk [97, 98] [1, 9] p := fun p hp => by
  simp only [wideP, List.mem_cons, List.not_mem_nil, or_false] at hp
  rcases hp with rfl | rfl | rfl
  · exact ⟨by decide, by decide, by unfold Ov; decide, by unfold Ov; decide, by decide +kernel⟩
  · exact ⟨by decide, by decide, by unfold Ov; decide, by unfold Ov; decide, by decide +kernel⟩
  · exact ⟨by decide, by decide, by unfold Ov; decide, by unfold Ov; decide, by decide +kernel⟩
theorem wide1 : turnG wideP (List.replicate 200 98 ++ List.replicate 198 97) 7 0 false = .ok (List.replicate 7 98 ++ [97, 97, 97] ++ List.replicate 192 98 ++ List.replicate 198 97) := by kernel_rfl
theorem wide2 : turnG wideP (List.replicate 399 98) 398 0 false = .long := by kernel_rfl
theorem wide3 : turnG wideP (List.replicate 400 97) 0 2 true = .long := by kernel_rfl
theorem wide4 : turnG wideP [98, 98] 2 2 true = .ok [98, 98, 97] := by kernel_rfl
theorem noDl_ints (l : List Int) {n : Nat} : ∀ d ∈ dI l, noDl n d := fun d hd => by
  obtain ⟨i, _, rfl⟩ := List.mem_map.mp hd
  cases n <;> trivial
theorem noDl_ru {K : PySem.W.Frag} {L : wd} {W : List Int} {ps : List (wd × wd)} : noDl 4 (ruO K L W ps) := fun p hp => by
  simp only [List.mem_cons, List.not_mem_nil, or_false] at hp
  rcases hp with rfl | rfl
  · intro q hq
    simp only [List.mem_cons, List.not_mem_nil, or_false] at hq
    rcases hq with rfl | rfl
    · trivial
    · exact noDl_ints W
  · intro d hd
    obtain ⟨x, _, rfl⟩ := List.mem_map.mp hd
    intro e he
    simp only [List.mem_cons, List.not_mem_nil, or_false] at he
    rcases he with rfl | rfl <;> trivial
theorem noDl_prs (l : List (Nat × Nat)) {n : Nat} : ∀ d ∈ l.map dPr, noDl (n + 1) d := fun d hd => by
  obtain ⟨x, _, rfl⟩ := List.mem_map.mp hd
  intro e he
  simp only [List.mem_cons, List.not_mem_nil, or_false] at he
  rcases he with rfl | rfl <;> (cases n <;> trivial)
def wideR : wd := List.replicate 7 98 ++ [97, 97, 97] ++ List.replicate 192 98 ++ List.replicate 198 97
theorem wide_rs : RsOk [97, 98] [1, 9] wideP := ⟨wide_sc, by decide, wide_ru⟩
theorem rep_flat {α : Type} (n : Nat) (a : α) : (List.replicate n [a]).flatten = List.replicate n a := by
  induction n with
  | zero => rfl
  | succ n ih => rw [List.replicate_succ, List.flatten_cons, ih, List.replicate_succ]; rfl
theorem rep_chr (n c : Nat) : rep n (tx [c]) = tx (List.replicate n c) := by
  show tx (List.replicate n [c]).flatten = _
  rw [rep_flat]
theorem rep_b (n : Nat) : D.str (rep (Int.toNat (n : Nat)) "b") = dW (List.replicate n 98) := congrArg D.str (rep_chr n 98)
theorem rep_a (n : Nat) : D.str (rep (Int.toNat (n : Nat)) "a") = dW (List.replicate n 97) := congrArg D.str (rep_chr n 97)
theorem ov_b (n : Nat) : Ov [97, 98] (List.replicate n 98) := fun c hc => by rw [List.eq_of_mem_replicate hc]; decide
theorem ov_a (n : Nat) : Ov [97, 98] (List.replicate n 97) := fun c hc => by rw [List.eq_of_mem_replicate hc]; decide
theorem ov_two {L u v : wd} (h1 : Ov L u) (h2 : Ov L v) : Ov L (u ++ v) := fun c hc => (List.mem_append.mp hc).elim (h1 c) (h2 c)
theorem wide_turn {K : PySem.W.Frag} {mg : Str → Option Value} (T : Txt K mg) {P : D → Prop} {w : wd} {a n : Int} {b : Bool} {r : TR} (hw : w.length ≤ 1000) (ov : Ov [97, 98] w) (e : turnG wideP w a n b = r) (h : P (dTR a n r)) :
    S_Rules_turned K [ruO K [97, 98] [1, 9] wideP, dW w, .int a, .int n, .bl b] (fun d => P (.tup [.str "told", d])) (fun C fs => whyX K (whyL K) C fs P) :=
  ⟨_, _, _, _, _, _, _, rfl, wide_rs, hw, lookW_ok ov (asked_turn T (by rw [e]; exact h))⟩
theorem rb200 : rep (Int.toNat 200) "b" = tx (List.replicate 200 98) := rep_chr 200 98
theorem rb399 : rep (Int.toNat 399) "b" = tx (List.replicate 399 98) := rep_chr 399 98
theorem rb7 : rep (Int.toNat 7) "b" = tx (List.replicate 7 98) := rep_chr 7 98
theorem rb192 : rep (Int.toNat 192) "b" = tx (List.replicate 192 98) := rep_chr 192 98
theorem ra198 : rep (Int.toNat 198) "a" = tx (List.replicate 198 97) := rep_chr 198 97
theorem ra400 : rep (Int.toNat 400) "a" = tx (List.replicate 400 97) := rep_chr 400 97
theorem aaa : ("aaa" : Str) = tx [97, 97, 97] := rfl
def AnyE (E : DEnds) : Prop := (∀ x2 x3 x4 x5 x6 x7 x8 x9 x10 x11 x12 x13 x14 x15 x16 x17, E.nx [.val .unk, .val .deal, x2, x3, x4, x5, x6, x7, x8, x9, x10, x11, x12, x13, x14, x15, x16, x17]) ∧ ∀ x2 x3 x4 x5 x6 x7 x8 x9 x10 x11 x12 x13 x14 x15 x16 x17, E.ct [.val .unk, .val .deal, x2, x3, x4, x5, x6, x7, x8, x9, x10, x11, x12, x13, x14, x15, x16, x17]
section
variable {K : PySem.W.Frag} {mg : Str → Option Value} {L : wd} {W : List Int} {ps : List (wd × wd)}
theorem law_t4 (T : Txt K mg) (TF : TFn) (E : DEnds) (hN : E.rt (.bl true)) (x2 x3 x4 x5 x6 x7 x8 x10 x11 x12 x13 x14 x16 x17 : SD) : D_c_t4 K TF E [.val .unk, .val .deal, x2, x3, x4, x5, x6, x7, x8, .own ([.tup [.str "told", dW wideR], .tup [.str "TooLong", .int 400]] ++ [.tup [.str "TooLong", .int 400]]), x10, x11, x12, x13, x14, .val (ruO K [97, 98] [1, 9] wideP), x16, x17] := by
  unfold D_c_t4
  refine ⟨by decide, by decide, by decide, ?_⟩
  rw [rb7]
  refine ⟨by rw [tx_len, List.length_replicate]; decide, ?_⟩
  refine ⟨by decide, by decide, by decide, ?_⟩
  rw [rb192]
  rw [aaa, tx_app]
  refine ⟨by rw [tx_len, tx_len]; simp only [List.length_append, List.length_replicate, List.length_cons, List.length_nil]; decide, ?_⟩
  refine ⟨by decide, by decide, by decide, ?_⟩
  rw [ra198, tx_app]
  refine ⟨by rw [tx_len, tx_len]; simp only [List.length_append, List.length_replicate, List.length_cons, List.length_nil]; decide, ?_⟩
  rw [tx_app]
  iterate 5 (first | refine ⟨rfl, ?_⟩ | refine ⟨_, rfl, ?_⟩ | refine ⟨_, _, rfl, rfl, ?_⟩ | refine ⟨_, _, rfl, ?_⟩ | refine ⟨_, _, _, rfl, ?_⟩ | refine ⟨_, _, _, rfl, rfl, ?_⟩ | refine ⟨_, _, _, rfl, rfl, rfl, ?_⟩ | refine ⟨_, _, _, _, rfl, ?_⟩ | refine ⟨_, _, _, _, _, rfl, ?_⟩ | refine ⟨_, _, _, _, _, _, rfl, ?_⟩ | refine ⟨_, _, _, _, _, _, _, rfl, ?_⟩ | refine ⟨_, _, _, _, _, _, _, _, rfl, ?_⟩ | refine ⟨_, _, _, _, rfl, rfl, ?_⟩ | refine And.intro (Nat.le_of_ble_eq_true rfl) ?_ | refine And.intro True.intro ?_ | refine ⟨_, _, _, rfl, (by first | exact T.cl_Scale | exact T.cl_Rules), (by first | exact T.na_Scale_signs | exact T.na_Scale_worths | exact T.na_Rules_own_scale | exact T.na_Rules_pairs), by rfl, ?_⟩ | refine ite_t rfl ?_ | refine ite_f rfl ?_ | refine And.intro (by decide) ?_ | refine And.intro (by omega) ?_ | refine And.intro (by (simp only [List.length_map, tx_len, List.length_cons, List.length_append, List.length_nil, List.length_replicate, List.length_take, List.length_drop, List.length_reverse]; omega)) ?_ | refine And.intro (by assumption) ?_ | refine And.intro ⟨_, rfl⟩ ?_ | refine ⟨_, Or.inl rfl, ?_⟩ | refine And.intro (Or.inl rfl) ?_ | refine ⟨_, Or.inr rfl, ?_⟩ | refine And.intro (Or.inr rfl) ?_)
  have hsm : Sm wideR := fun c hc => by
    unfold wideR at hc
    simp only [List.mem_append, List.mem_replicate, List.mem_cons, List.not_mem_nil, or_false] at hc
    have hc2 : c = 98 ∨ c = 97 := by omega
    rcases hc2 with rfl | rfl <;> decide +kernel
  refine ⟨⟨by show 3 ≤ 1000000; decide, fun d hd => ?_⟩, ?_⟩
  · simp only [List.cons_append, List.nil_append, List.mem_cons, List.not_mem_nil, or_false] at hd
    rcases hd with rfl | rfl | rfl
    · exact dep_two strOk_told (strOk_sm hsm)
    · exact dep_two (by decide +kernel) trivial
    · exact dep_two (by decide +kernel) trivial
  (first | refine ⟨rfl, ?_⟩ | refine ⟨_, rfl, ?_⟩ | refine ⟨_, _, rfl, rfl, ?_⟩ | refine ⟨_, _, rfl, ?_⟩ | refine ⟨_, _, _, rfl, ?_⟩ | refine ⟨_, _, _, rfl, rfl, ?_⟩ | refine ⟨_, _, _, rfl, rfl, rfl, ?_⟩ | refine ⟨_, _, _, _, rfl, ?_⟩ | refine ⟨_, _, _, _, _, rfl, ?_⟩ | refine ⟨_, _, _, _, _, _, rfl, ?_⟩ | refine ⟨_, _, _, _, _, _, _, rfl, ?_⟩ | refine ⟨_, _, _, _, _, _, _, _, rfl, ?_⟩ | refine ⟨_, _, _, _, rfl, rfl, ?_⟩ | refine And.intro (Nat.le_of_ble_eq_true rfl) ?_ | refine And.intro True.intro ?_ | refine ⟨_, _, _, rfl, (by first | exact T.cl_Scale | exact T.cl_Rules), (by first | exact T.na_Scale_signs | exact T.na_Scale_worths | exact T.na_Rules_own_scale | exact T.na_Rules_pairs), by rfl, ?_⟩ | refine ite_t rfl ?_ | refine ite_f rfl ?_ | refine And.intro (by decide) ?_ | refine And.intro (by omega) ?_ | refine And.intro (by (simp only [List.length_map, tx_len, List.length_cons, List.length_append, List.length_nil, List.length_replicate, List.length_take, List.length_drop, List.length_reverse]; omega)) ?_ | refine And.intro (by assumption) ?_ | refine And.intro ⟨_, rfl⟩ ?_ | refine ⟨_, Or.inl rfl, ?_⟩ | refine And.intro (Or.inl rfl) ?_ | refine ⟨_, Or.inr rfl, ?_⟩ | refine And.intro (Or.inr rfl) ?_)
  rw [if_pos rfl]
  iterate 2 (first | refine ⟨rfl, ?_⟩ | refine ⟨_, rfl, ?_⟩ | refine ⟨_, _, rfl, rfl, ?_⟩ | refine ⟨_, _, rfl, ?_⟩ | refine ⟨_, _, _, rfl, ?_⟩ | refine ⟨_, _, _, rfl, rfl, ?_⟩ | refine ⟨_, _, _, rfl, rfl, rfl, ?_⟩ | refine ⟨_, _, _, _, rfl, ?_⟩ | refine ⟨_, _, _, _, _, rfl, ?_⟩ | refine ⟨_, _, _, _, _, _, rfl, ?_⟩ | refine ⟨_, _, _, _, _, _, _, rfl, ?_⟩ | refine ⟨_, _, _, _, _, _, _, _, rfl, ?_⟩ | refine ⟨_, _, _, _, rfl, rfl, ?_⟩ | refine And.intro (Nat.le_of_ble_eq_true rfl) ?_ | refine And.intro True.intro ?_ | refine ⟨_, _, _, rfl, (by first | exact T.cl_Scale | exact T.cl_Rules), (by first | exact T.na_Scale_signs | exact T.na_Scale_worths | exact T.na_Rules_own_scale | exact T.na_Rules_pairs), by rfl, ?_⟩ | refine ite_t rfl ?_ | refine ite_f rfl ?_ | refine And.intro (by decide) ?_ | refine And.intro (by omega) ?_ | refine And.intro (by (simp only [List.length_map, tx_len, List.length_cons, List.length_append, List.length_nil, List.length_replicate, List.length_take, List.length_drop, List.length_reverse]; omega)) ?_ | refine And.intro (by assumption) ?_ | refine And.intro ⟨_, rfl⟩ ?_ | refine ⟨_, Or.inl rfl, ?_⟩ | refine And.intro (Or.inl rfl) ?_ | refine ⟨_, Or.inr rfl, ?_⟩ | refine And.intro (Or.inr rfl) ?_)
  refine ⟨rfl, rfl, [97, 98], [1, 9], wideP, [98, 98], 2, 2, true, rfl, wide_rs, by decide, lookW_ok (ov_b 2) ?_⟩
  rw [wide4]
  have sbb : shp (dW [98, 98, 97]) = true := shp_str fun c hc => by
    simp only [List.mem_cons, List.not_mem_nil, or_false] at hc
    rcases hc with rfl | rfl | rfl <;> decide +kernel
  iterate 2 (first | refine ⟨rfl, ?_⟩ | refine ⟨_, rfl, ?_⟩ | refine ⟨_, _, rfl, rfl, ?_⟩ | refine ⟨_, _, rfl, ?_⟩ | refine ⟨_, _, _, rfl, ?_⟩ | refine ⟨_, _, _, rfl, rfl, ?_⟩ | refine ⟨_, _, _, rfl, rfl, rfl, ?_⟩ | refine ⟨_, _, _, _, rfl, ?_⟩ | refine ⟨_, _, _, _, _, rfl, ?_⟩ | refine ⟨_, _, _, _, _, _, rfl, ?_⟩ | refine ⟨_, _, _, _, _, _, _, rfl, ?_⟩ | refine ⟨_, _, _, _, _, _, _, _, rfl, ?_⟩ | refine ⟨_, _, _, _, rfl, rfl, ?_⟩ | refine And.intro (Nat.le_of_ble_eq_true rfl) ?_ | refine And.intro True.intro ?_ | refine ⟨_, _, _, rfl, (by first | exact T.cl_Scale | exact T.cl_Rules), (by first | exact T.na_Scale_signs | exact T.na_Scale_worths | exact T.na_Rules_own_scale | exact T.na_Rules_pairs), by rfl, ?_⟩ | refine ite_t rfl ?_ | refine ite_f rfl ?_ | refine And.intro (by decide) ?_ | refine And.intro (by omega) ?_ | refine And.intro (by (simp only [List.length_map, tx_len, List.length_cons, List.length_append, List.length_nil, List.length_replicate, List.length_take, List.length_drop, List.length_reverse]; omega)) ?_ | refine And.intro (by assumption) ?_ | refine And.intro ⟨_, rfl⟩ ?_ | refine ⟨_, Or.inl rfl, ?_⟩ | refine And.intro (Or.inl rfl) ?_ | refine ⟨_, Or.inr rfl, ?_⟩ | refine And.intro (Or.inr rfl) ?_)
  rw [show D.str "bba" = dW [98, 98, 97] from rfl, eqv_me sbb]
  exact hN
theorem law_t3 (T : Txt K mg) (TF : TFn) (E : DEnds) (hN : E.rt (.bl true)) (x2 x3 x4 x5 x6 x7 x8 x10 x11 x12 x13 x14 x16 x17 : SD) : D_c_t3 K TF E [.val .unk, .val .deal, x2, x3, x4, x5, x6, x7, x8, .own (.tup [.str "told", dW wideR] :: [.tup [.str "TooLong", .int 400]]), x10, x11, x12, x13, x14, .val (ruO K [97, 98] [1, 9] wideP), x16, x17] := by
  unfold D_c_t3
  (first | refine ⟨rfl, ?_⟩ | refine ⟨_, rfl, ?_⟩ | refine ⟨_, _, rfl, rfl, ?_⟩ | refine ⟨_, _, rfl, ?_⟩ | refine ⟨_, _, _, rfl, ?_⟩ | refine ⟨_, _, _, rfl, rfl, ?_⟩ | refine ⟨_, _, _, rfl, rfl, rfl, ?_⟩ | refine ⟨_, _, _, _, rfl, ?_⟩ | refine ⟨_, _, _, _, _, rfl, ?_⟩ | refine ⟨_, _, _, _, _, _, rfl, ?_⟩ | refine ⟨_, _, _, _, _, _, _, rfl, ?_⟩ | refine ⟨_, _, _, _, _, _, _, _, rfl, ?_⟩ | refine ⟨_, _, _, _, rfl, rfl, ?_⟩ | refine And.intro (Nat.le_of_ble_eq_true rfl) ?_ | refine And.intro True.intro ?_ | refine ⟨_, _, _, rfl, (by first | exact T.cl_Scale | exact T.cl_Rules), (by first | exact T.na_Scale_signs | exact T.na_Scale_worths | exact T.na_Rules_own_scale | exact T.na_Rules_pairs), by rfl, ?_⟩ | refine ite_t rfl ?_ | refine ite_f rfl ?_ | refine And.intro (by decide) ?_ | refine And.intro (by omega) ?_ | refine And.intro (by (simp only [List.length_map, tx_len, List.length_cons, List.length_append, List.length_nil, List.length_replicate, List.length_take, List.length_drop, List.length_reverse]; omega)) ?_ | refine And.intro (by assumption) ?_ | refine And.intro ⟨_, rfl⟩ ?_ | refine ⟨_, Or.inl rfl, ?_⟩ | refine And.intro (Or.inl rfl) ?_ | refine ⟨_, Or.inr rfl, ?_⟩ | refine And.intro (Or.inr rfl) ?_)
  (first | refine ⟨rfl, ?_⟩ | refine ⟨_, rfl, ?_⟩ | refine ⟨_, _, rfl, rfl, ?_⟩ | refine ⟨_, _, rfl, ?_⟩ | refine ⟨_, _, _, rfl, ?_⟩ | refine ⟨_, _, _, rfl, rfl, ?_⟩ | refine ⟨_, _, _, rfl, rfl, rfl, ?_⟩ | refine ⟨_, _, _, _, rfl, ?_⟩ | refine ⟨_, _, _, _, _, rfl, ?_⟩ | refine ⟨_, _, _, _, _, _, rfl, ?_⟩ | refine ⟨_, _, _, _, _, _, _, rfl, ?_⟩ | refine ⟨_, _, _, _, _, _, _, _, rfl, ?_⟩ | refine ⟨_, _, _, _, rfl, rfl, ?_⟩ | refine And.intro (Nat.le_of_ble_eq_true rfl) ?_ | refine And.intro True.intro ?_ | refine ⟨_, _, _, rfl, (by first | exact T.cl_Scale | exact T.cl_Rules), (by first | exact T.na_Scale_signs | exact T.na_Scale_worths | exact T.na_Rules_own_scale | exact T.na_Rules_pairs), by rfl, ?_⟩ | refine ite_t rfl ?_ | refine ite_f rfl ?_ | refine And.intro (by decide) ?_ | refine And.intro (by omega) ?_ | refine And.intro (by (simp only [List.length_map, tx_len, List.length_cons, List.length_append, List.length_nil, List.length_replicate, List.length_take, List.length_drop, List.length_reverse]; omega)) ?_ | refine And.intro (by assumption) ?_ | refine And.intro ⟨_, rfl⟩ ?_ | refine ⟨_, Or.inl rfl, ?_⟩ | refine And.intro (Or.inl rfl) ?_ | refine ⟨_, Or.inr rfl, ?_⟩ | refine And.intro (Or.inr rfl) ?_)
  refine ⟨rfl, by decide, by decide, by decide, ?_⟩
  rw [ra400]
  refine ⟨rfl, rfl, wide_turn T (by rw [List.length_replicate]; decide) (ov_a 400) wide3 ?_⟩
  (first | refine ⟨rfl, ?_⟩ | refine ⟨_, rfl, ?_⟩ | refine ⟨_, _, rfl, rfl, ?_⟩ | refine ⟨_, _, rfl, ?_⟩ | refine ⟨_, _, _, rfl, ?_⟩ | refine ⟨_, _, _, rfl, rfl, ?_⟩ | refine ⟨_, _, _, rfl, rfl, rfl, ?_⟩ | refine ⟨_, _, _, _, rfl, ?_⟩ | refine ⟨_, _, _, _, _, rfl, ?_⟩ | refine ⟨_, _, _, _, _, _, rfl, ?_⟩ | refine ⟨_, _, _, _, _, _, _, rfl, ?_⟩ | refine ⟨_, _, _, _, _, _, _, _, rfl, ?_⟩ | refine ⟨_, _, _, _, rfl, rfl, ?_⟩ | refine And.intro (Nat.le_of_ble_eq_true rfl) ?_ | refine And.intro True.intro ?_ | refine ⟨_, _, _, rfl, (by first | exact T.cl_Scale | exact T.cl_Rules), (by first | exact T.na_Scale_signs | exact T.na_Scale_worths | exact T.na_Rules_own_scale | exact T.na_Rules_pairs), by rfl, ?_⟩ | refine ite_t rfl ?_ | refine ite_f rfl ?_ | refine And.intro (by decide) ?_ | refine And.intro (by omega) ?_ | refine And.intro (by (simp only [List.length_map, tx_len, List.length_cons, List.length_append, List.length_nil, List.length_replicate, List.length_take, List.length_drop, List.length_reverse]; omega)) ?_ | refine And.intro (by assumption) ?_ | refine And.intro ⟨_, rfl⟩ ?_ | refine ⟨_, Or.inl rfl, ?_⟩ | refine And.intro (Or.inl rfl) ?_ | refine ⟨_, Or.inr rfl, ?_⟩ | refine And.intro (Or.inr rfl) ?_)
  (first | refine ⟨rfl, ?_⟩ | refine ⟨_, rfl, ?_⟩ | refine ⟨_, _, rfl, rfl, ?_⟩ | refine ⟨_, _, rfl, ?_⟩ | refine ⟨_, _, _, rfl, ?_⟩ | refine ⟨_, _, _, rfl, rfl, ?_⟩ | refine ⟨_, _, _, rfl, rfl, rfl, ?_⟩ | refine ⟨_, _, _, _, rfl, ?_⟩ | refine ⟨_, _, _, _, _, rfl, ?_⟩ | refine ⟨_, _, _, _, _, _, rfl, ?_⟩ | refine ⟨_, _, _, _, _, _, _, rfl, ?_⟩ | refine ⟨_, _, _, _, _, _, _, _, rfl, ?_⟩ | refine ⟨_, _, _, _, rfl, rfl, ?_⟩ | refine And.intro (Nat.le_of_ble_eq_true rfl) ?_ | refine And.intro True.intro ?_ | refine ⟨_, _, _, rfl, (by first | exact T.cl_Scale | exact T.cl_Rules), (by first | exact T.na_Scale_signs | exact T.na_Scale_worths | exact T.na_Rules_own_scale | exact T.na_Rules_pairs), by rfl, ?_⟩ | refine ite_t rfl ?_ | refine ite_f rfl ?_ | refine And.intro (by decide) ?_ | refine And.intro (by omega) ?_ | refine And.intro (by (simp only [List.length_map, tx_len, List.length_cons, List.length_append, List.length_nil, List.length_replicate, List.length_take, List.length_drop, List.length_reverse]; omega)) ?_ | refine And.intro (by assumption) ?_ | refine And.intro ⟨_, rfl⟩ ?_ | refine ⟨_, Or.inl rfl, ?_⟩ | refine And.intro (Or.inl rfl) ?_ | refine ⟨_, Or.inr rfl, ?_⟩ | refine And.intro (Or.inr rfl) ?_)
  exact law_t4 T TF E hN _ _ _ _ _ _ _ _ _ _ _ _ _ _
theorem law_t2 (T : Txt K mg) (TF : TFn) (E : DEnds) (hN : E.rt (.bl true)) (x2 x3 x4 x5 x6 x7 x8 x9 x10 x11 x12 x13 x14 x16 x17 : SD) : D_c_t2 K TF E [.val .unk, .val .deal, x2, x3, x4, x5, x6, x7, x8, x9, x10, x11, x12, x13, x14, .val (ruO K [97, 98] [1, 9] wideP), x16, x17] := by
  unfold D_c_t2
  (first | refine ⟨rfl, ?_⟩ | refine ⟨_, rfl, ?_⟩ | refine ⟨_, _, rfl, rfl, ?_⟩ | refine ⟨_, _, rfl, ?_⟩ | refine ⟨_, _, _, rfl, ?_⟩ | refine ⟨_, _, _, rfl, rfl, ?_⟩ | refine ⟨_, _, _, rfl, rfl, rfl, ?_⟩ | refine ⟨_, _, _, _, rfl, ?_⟩ | refine ⟨_, _, _, _, _, rfl, ?_⟩ | refine ⟨_, _, _, _, _, _, rfl, ?_⟩ | refine ⟨_, _, _, _, _, _, _, rfl, ?_⟩ | refine ⟨_, _, _, _, _, _, _, _, rfl, ?_⟩ | refine ⟨_, _, _, _, rfl, rfl, ?_⟩ | refine And.intro (Nat.le_of_ble_eq_true rfl) ?_ | refine And.intro True.intro ?_ | refine ⟨_, _, _, rfl, (by first | exact T.cl_Scale | exact T.cl_Rules), (by first | exact T.na_Scale_signs | exact T.na_Scale_worths | exact T.na_Rules_own_scale | exact T.na_Rules_pairs), by rfl, ?_⟩ | refine ite_t rfl ?_ | refine ite_f rfl ?_ | refine And.intro (by decide) ?_ | refine And.intro (by omega) ?_ | refine And.intro (by (simp only [List.length_map, tx_len, List.length_cons, List.length_append, List.length_nil, List.length_replicate, List.length_take, List.length_drop, List.length_reverse]; omega)) ?_ | refine And.intro (by assumption) ?_ | refine And.intro ⟨_, rfl⟩ ?_ | refine ⟨_, Or.inl rfl, ?_⟩ | refine And.intro (Or.inl rfl) ?_ | refine ⟨_, Or.inr rfl, ?_⟩ | refine And.intro (Or.inr rfl) ?_)
  (first | refine ⟨rfl, ?_⟩ | refine ⟨_, rfl, ?_⟩ | refine ⟨_, _, rfl, rfl, ?_⟩ | refine ⟨_, _, rfl, ?_⟩ | refine ⟨_, _, _, rfl, ?_⟩ | refine ⟨_, _, _, rfl, rfl, ?_⟩ | refine ⟨_, _, _, rfl, rfl, rfl, ?_⟩ | refine ⟨_, _, _, _, rfl, ?_⟩ | refine ⟨_, _, _, _, _, rfl, ?_⟩ | refine ⟨_, _, _, _, _, _, rfl, ?_⟩ | refine ⟨_, _, _, _, _, _, _, rfl, ?_⟩ | refine ⟨_, _, _, _, _, _, _, _, rfl, ?_⟩ | refine ⟨_, _, _, _, rfl, rfl, ?_⟩ | refine And.intro (Nat.le_of_ble_eq_true rfl) ?_ | refine And.intro True.intro ?_ | refine ⟨_, _, _, rfl, (by first | exact T.cl_Scale | exact T.cl_Rules), (by first | exact T.na_Scale_signs | exact T.na_Scale_worths | exact T.na_Rules_own_scale | exact T.na_Rules_pairs), by rfl, ?_⟩ | refine ite_t rfl ?_ | refine ite_f rfl ?_ | refine And.intro (by decide) ?_ | refine And.intro (by omega) ?_ | refine And.intro (by (simp only [List.length_map, tx_len, List.length_cons, List.length_append, List.length_nil, List.length_replicate, List.length_take, List.length_drop, List.length_reverse]; omega)) ?_ | refine And.intro (by assumption) ?_ | refine And.intro ⟨_, rfl⟩ ?_ | refine ⟨_, Or.inl rfl, ?_⟩ | refine And.intro (Or.inl rfl) ?_ | refine ⟨_, Or.inr rfl, ?_⟩ | refine And.intro (Or.inr rfl) ?_)
  refine ⟨by decide, by decide, by decide, by decide, by decide, by decide, ?_⟩
  rw [rb200, ra198]
  refine ⟨by rw [tx_len, tx_len, List.length_replicate, List.length_replicate]; decide, ?_⟩
  rw [tx_app]
  refine ⟨rfl, rfl, wide_turn T (by rw [List.length_append, List.length_replicate, List.length_replicate]; decide) (ov_two (ov_b 200) (ov_a 198)) wide1 ?_⟩
  (first | refine ⟨rfl, ?_⟩ | refine ⟨_, rfl, ?_⟩ | refine ⟨_, _, rfl, rfl, ?_⟩ | refine ⟨_, _, rfl, ?_⟩ | refine ⟨_, _, _, rfl, ?_⟩ | refine ⟨_, _, _, rfl, rfl, ?_⟩ | refine ⟨_, _, _, rfl, rfl, rfl, ?_⟩ | refine ⟨_, _, _, _, rfl, ?_⟩ | refine ⟨_, _, _, _, _, rfl, ?_⟩ | refine ⟨_, _, _, _, _, _, rfl, ?_⟩ | refine ⟨_, _, _, _, _, _, _, rfl, ?_⟩ | refine ⟨_, _, _, _, _, _, _, _, rfl, ?_⟩ | refine ⟨_, _, _, _, rfl, rfl, ?_⟩ | refine And.intro (Nat.le_of_ble_eq_true rfl) ?_ | refine And.intro True.intro ?_ | refine ⟨_, _, _, rfl, (by first | exact T.cl_Scale | exact T.cl_Rules), (by first | exact T.na_Scale_signs | exact T.na_Scale_worths | exact T.na_Rules_own_scale | exact T.na_Rules_pairs), by rfl, ?_⟩ | refine ite_t rfl ?_ | refine ite_f rfl ?_ | refine And.intro (by decide) ?_ | refine And.intro (by omega) ?_ | refine And.intro (by (simp only [List.length_map, tx_len, List.length_cons, List.length_append, List.length_nil, List.length_replicate, List.length_take, List.length_drop, List.length_reverse]; omega)) ?_ | refine And.intro (by assumption) ?_ | refine And.intro ⟨_, rfl⟩ ?_ | refine ⟨_, Or.inl rfl, ?_⟩ | refine And.intro (Or.inl rfl) ?_ | refine ⟨_, Or.inr rfl, ?_⟩ | refine And.intro (Or.inr rfl) ?_)
  (first | refine ⟨rfl, ?_⟩ | refine ⟨_, rfl, ?_⟩ | refine ⟨_, _, rfl, rfl, ?_⟩ | refine ⟨_, _, rfl, ?_⟩ | refine ⟨_, _, _, rfl, ?_⟩ | refine ⟨_, _, _, rfl, rfl, ?_⟩ | refine ⟨_, _, _, rfl, rfl, rfl, ?_⟩ | refine ⟨_, _, _, _, rfl, ?_⟩ | refine ⟨_, _, _, _, _, rfl, ?_⟩ | refine ⟨_, _, _, _, _, _, rfl, ?_⟩ | refine ⟨_, _, _, _, _, _, _, rfl, ?_⟩ | refine ⟨_, _, _, _, _, _, _, _, rfl, ?_⟩ | refine ⟨_, _, _, _, rfl, rfl, ?_⟩ | refine And.intro (Nat.le_of_ble_eq_true rfl) ?_ | refine And.intro True.intro ?_ | refine ⟨_, _, _, rfl, (by first | exact T.cl_Scale | exact T.cl_Rules), (by first | exact T.na_Scale_signs | exact T.na_Scale_worths | exact T.na_Rules_own_scale | exact T.na_Rules_pairs), by rfl, ?_⟩ | refine ite_t rfl ?_ | refine ite_f rfl ?_ | refine And.intro (by decide) ?_ | refine And.intro (by omega) ?_ | refine And.intro (by (simp only [List.length_map, tx_len, List.length_cons, List.length_append, List.length_nil, List.length_replicate, List.length_take, List.length_drop, List.length_reverse]; omega)) ?_ | refine And.intro (by assumption) ?_ | refine And.intro ⟨_, rfl⟩ ?_ | refine ⟨_, Or.inl rfl, ?_⟩ | refine And.intro (Or.inl rfl) ?_ | refine ⟨_, Or.inr rfl, ?_⟩ | refine And.intro (Or.inr rfl) ?_)
  refine ⟨by decide, by decide, by decide, ?_⟩
  rw [rb399]
  refine ⟨rfl, rfl, wide_turn T (by rw [List.length_replicate]; decide) (ov_b 399) wide2 ?_⟩
  (first | refine ⟨rfl, ?_⟩ | refine ⟨_, rfl, ?_⟩ | refine ⟨_, _, rfl, rfl, ?_⟩ | refine ⟨_, _, rfl, ?_⟩ | refine ⟨_, _, _, rfl, ?_⟩ | refine ⟨_, _, _, rfl, rfl, ?_⟩ | refine ⟨_, _, _, rfl, rfl, rfl, ?_⟩ | refine ⟨_, _, _, _, rfl, ?_⟩ | refine ⟨_, _, _, _, _, rfl, ?_⟩ | refine ⟨_, _, _, _, _, _, rfl, ?_⟩ | refine ⟨_, _, _, _, _, _, _, rfl, ?_⟩ | refine ⟨_, _, _, _, _, _, _, _, rfl, ?_⟩ | refine ⟨_, _, _, _, rfl, rfl, ?_⟩ | refine And.intro (Nat.le_of_ble_eq_true rfl) ?_ | refine And.intro True.intro ?_ | refine ⟨_, _, _, rfl, (by first | exact T.cl_Scale | exact T.cl_Rules), (by first | exact T.na_Scale_signs | exact T.na_Scale_worths | exact T.na_Rules_own_scale | exact T.na_Rules_pairs), by rfl, ?_⟩ | refine ite_t rfl ?_ | refine ite_f rfl ?_ | refine And.intro (by decide) ?_ | refine And.intro (by omega) ?_ | refine And.intro (by (simp only [List.length_map, tx_len, List.length_cons, List.length_append, List.length_nil, List.length_replicate, List.length_take, List.length_drop, List.length_reverse]; omega)) ?_ | refine And.intro (by assumption) ?_ | refine And.intro ⟨_, rfl⟩ ?_ | refine ⟨_, Or.inl rfl, ?_⟩ | refine And.intro (Or.inl rfl) ?_ | refine ⟨_, Or.inr rfl, ?_⟩ | refine And.intro (Or.inr rfl) ?_)
  exact law_t3 T TF E hN _ _ _ _ _ _ _ _ _ _ _ _ _ _
theorem law_t1 (T : Txt K mg) (TF : TFn) (E : DEnds) (hN : E.rt (.bl true)) (x2 x3 x4 x5 x6 x7 x8 x9 x10 x11 x12 x13 x14 x15 x16 x17 : SD) : D_c_t1 K TF E [.val .unk, .val .deal, x2, x3, x4, x5, x6, x7, x8, x9, x10, x11, x12, x13, x14, x15, x16, x17] := by
  unfold D_c_t1
  (repeat (first | refine ⟨rfl, ?_⟩ | refine ⟨_, rfl, ?_⟩ | refine ⟨_, _, rfl, rfl, ?_⟩ | refine ⟨_, _, rfl, ?_⟩ | refine ⟨_, _, _, rfl, ?_⟩ | refine ⟨_, _, _, rfl, rfl, ?_⟩ | refine ⟨_, _, _, rfl, rfl, rfl, ?_⟩ | refine ⟨_, _, _, _, rfl, ?_⟩ | refine ⟨_, _, _, _, _, rfl, ?_⟩ | refine ⟨_, _, _, _, _, _, rfl, ?_⟩ | refine ⟨_, _, _, _, _, _, _, rfl, ?_⟩ | refine ⟨_, _, _, _, _, _, _, _, rfl, ?_⟩ | refine ⟨_, _, _, _, rfl, rfl, ?_⟩ | refine And.intro (Nat.le_of_ble_eq_true rfl) ?_ | refine And.intro True.intro ?_ | refine ⟨_, _, _, rfl, (by first | exact T.cl_Scale | exact T.cl_Rules), (by first | exact T.na_Scale_signs | exact T.na_Scale_worths | exact T.na_Rules_own_scale | exact T.na_Rules_pairs), by rfl, ?_⟩ | refine ite_t rfl ?_ | refine ite_f rfl ?_ | refine And.intro (by decide) ?_ | refine And.intro (by omega) ?_ | refine And.intro (by (simp only [List.length_map, tx_len, List.length_cons, List.length_append, List.length_nil, List.length_replicate, List.length_take, List.length_drop, List.length_reverse]; omega)) ?_ | refine And.intro (by assumption) ?_ | refine And.intro ⟨_, rfl⟩ ?_ | refine ⟨_, Or.inl rfl, ?_⟩ | refine And.intro (Or.inl rfl) ?_ | refine ⟨_, Or.inr rfl, ?_⟩ | refine And.intro (Or.inr rfl) ?_))
  refine ⟨[97, 98], [1, 9], [1, 9], rfl, .inr rfl, wide_sc, ?_⟩
  (repeat (first | refine ⟨rfl, ?_⟩ | refine ⟨_, rfl, ?_⟩ | refine ⟨_, _, rfl, rfl, ?_⟩ | refine ⟨_, _, rfl, ?_⟩ | refine ⟨_, _, _, rfl, ?_⟩ | refine ⟨_, _, _, rfl, rfl, ?_⟩ | refine ⟨_, _, _, rfl, rfl, rfl, ?_⟩ | refine ⟨_, _, _, _, rfl, ?_⟩ | refine ⟨_, _, _, _, _, rfl, ?_⟩ | refine ⟨_, _, _, _, _, _, rfl, ?_⟩ | refine ⟨_, _, _, _, _, _, _, rfl, ?_⟩ | refine ⟨_, _, _, _, _, _, _, _, rfl, ?_⟩ | refine ⟨_, _, _, _, rfl, rfl, ?_⟩ | refine And.intro (Nat.le_of_ble_eq_true rfl) ?_ | refine And.intro True.intro ?_ | refine ⟨_, _, _, rfl, (by first | exact T.cl_Scale | exact T.cl_Rules), (by first | exact T.na_Scale_signs | exact T.na_Scale_worths | exact T.na_Rules_own_scale | exact T.na_Rules_pairs), by rfl, ?_⟩ | refine ite_t rfl ?_ | refine ite_f rfl ?_ | refine And.intro (by decide) ?_ | refine And.intro (by omega) ?_ | refine And.intro (by (simp only [List.length_map, tx_len, List.length_cons, List.length_append, List.length_nil, List.length_replicate, List.length_take, List.length_drop, List.length_reverse]; omega)) ?_ | refine And.intro (by assumption) ?_ | refine And.intro ⟨_, rfl⟩ ?_ | refine ⟨_, Or.inl rfl, ?_⟩ | refine And.intro (Or.inl rfl) ?_ | refine ⟨_, Or.inr rfl, ?_⟩ | refine And.intro (Or.inr rfl) ?_))
  refine ⟨[97, 98], [1, 9], wideP, .inl rfl, wide_sc, by decide, wide_ru, ?_⟩
  (repeat (first | refine ⟨rfl, ?_⟩ | refine ⟨_, rfl, ?_⟩ | refine ⟨_, _, rfl, rfl, ?_⟩ | refine ⟨_, _, rfl, ?_⟩ | refine ⟨_, _, _, rfl, ?_⟩ | refine ⟨_, _, _, rfl, rfl, ?_⟩ | refine ⟨_, _, _, rfl, rfl, rfl, ?_⟩ | refine ⟨_, _, _, _, rfl, ?_⟩ | refine ⟨_, _, _, _, _, rfl, ?_⟩ | refine ⟨_, _, _, _, _, _, rfl, ?_⟩ | refine ⟨_, _, _, _, _, _, _, rfl, ?_⟩ | refine ⟨_, _, _, _, _, _, _, _, rfl, ?_⟩ | refine ⟨_, _, _, _, rfl, rfl, ?_⟩ | refine And.intro (Nat.le_of_ble_eq_true rfl) ?_ | refine And.intro True.intro ?_ | refine ⟨_, _, _, rfl, (by first | exact T.cl_Scale | exact T.cl_Rules), (by first | exact T.na_Scale_signs | exact T.na_Scale_worths | exact T.na_Rules_own_scale | exact T.na_Rules_pairs), by rfl, ?_⟩ | refine ite_t rfl ?_ | refine ite_f rfl ?_ | refine And.intro (by decide) ?_ | refine And.intro (by omega) ?_ | refine And.intro (by (simp only [List.length_map, tx_len, List.length_cons, List.length_append, List.length_nil, List.length_replicate, List.length_take, List.length_drop, List.length_reverse]; omega)) ?_ | refine And.intro (by assumption) ?_ | refine And.intro ⟨_, rfl⟩ ?_ | refine ⟨_, Or.inl rfl, ?_⟩ | refine And.intro (Or.inl rfl) ?_ | refine ⟨_, Or.inr rfl, ?_⟩ | refine And.intro (Or.inr rfl) ?_))
  exact law_t2 T TF E hN _ _ _ _ _ _ _ _ _ _ _ _ _ _ _
theorem law_b5 (T : Txt K mg) (TF : TFn) (c : Ctx L W ps) {u : wd} (hu : u.length ≤ 12) (ou : Ov L u) (E : DEnds) (hN : AnyE E) (x2 x4 x5 x6 x7 x8 x9 x10 x11 x12 x13 x15 x17 : SD) : D_c_b5 K TF E [.val .unk, .val .deal, x2, .val (dM L W (.lst (ps.map dP))), x4, x5, x6, x7, x8, x9, x10, x11, x12, x13, .val (ruO K L W ps), x15, .val (dW u), x17] := by
  have hR := c.hR
  have sb : shp (.tup [.str "BadWord", .int 0]) = true := dep_shp (n := 1) (by omega) (dep_two (by decide +kernel) trivial)
  have hl : (63 :: u).length ≤ 1000 := by simp; omega
  have e1 : D.str ("?" ++ tx u) = dW (63 :: u) := str_pre u (r := [63]) rfl
  have eb : PyData.eqv (py (.tup [.str "BadWord", .int 0])) (py (.tup [.str "BadWord", .int 0])) = true := eqv_me sb
  unfold D_c_b5
  (repeat (first | refine ⟨rfl, ?_⟩ | refine ⟨_, rfl, ?_⟩ | refine ⟨_, _, rfl, rfl, ?_⟩ | refine ⟨_, _, rfl, ?_⟩ | refine ⟨_, _, _, rfl, ?_⟩ | refine ⟨_, _, _, rfl, rfl, ?_⟩ | refine ⟨_, _, _, rfl, rfl, rfl, ?_⟩ | refine ⟨_, _, _, _, rfl, ?_⟩ | refine ⟨_, _, _, _, _, rfl, ?_⟩ | refine ⟨_, _, _, _, _, _, rfl, ?_⟩ | refine ⟨_, _, _, _, _, _, _, rfl, ?_⟩ | refine ⟨_, _, _, _, _, _, _, _, rfl, ?_⟩ | refine ⟨_, _, _, _, rfl, rfl, ?_⟩ | refine And.intro (Nat.le_of_ble_eq_true rfl) ?_ | refine And.intro True.intro ?_ | refine ⟨_, _, _, rfl, (by first | exact T.cl_Scale | exact T.cl_Rules), (by first | exact T.na_Scale_signs | exact T.na_Scale_worths | exact T.na_Rules_own_scale | exact T.na_Rules_pairs), by rfl, ?_⟩ | refine ite_t rfl ?_ | refine ite_f rfl ?_ | refine And.intro (by decide) ?_ | refine And.intro (by omega) ?_ | refine And.intro (by (simp only [List.length_map, tx_len, List.length_cons, List.length_append, List.length_nil, List.length_replicate, List.length_take, List.length_drop, List.length_reverse]; omega)) ?_ | refine And.intro (by assumption) ?_ | refine And.intro ⟨_, rfl⟩ ?_ | refine ⟨_, Or.inl rfl, ?_⟩ | refine And.intro (Or.inl rfl) ?_ | refine ⟨_, Or.inr rfl, ?_⟩ | refine And.intro (Or.inr rfl) ?_))
  intro T1
  iterate 4 (first | refine ⟨rfl, ?_⟩ | refine ⟨_, rfl, ?_⟩ | refine ⟨_, _, rfl, rfl, ?_⟩ | refine ⟨_, _, rfl, ?_⟩ | refine ⟨_, _, _, rfl, ?_⟩ | refine ⟨_, _, _, rfl, rfl, ?_⟩ | refine ⟨_, _, _, rfl, rfl, rfl, ?_⟩ | refine ⟨_, _, _, _, rfl, ?_⟩ | refine ⟨_, _, _, _, _, rfl, ?_⟩ | refine ⟨_, _, _, _, _, _, rfl, ?_⟩ | refine ⟨_, _, _, _, _, _, _, rfl, ?_⟩ | refine ⟨_, _, _, _, _, _, _, _, rfl, ?_⟩ | refine ⟨_, _, _, _, rfl, rfl, ?_⟩ | refine And.intro (Nat.le_of_ble_eq_true rfl) ?_ | refine And.intro True.intro ?_ | refine ⟨_, _, _, rfl, (by first | exact T.cl_Scale | exact T.cl_Rules), (by first | exact T.na_Scale_signs | exact T.na_Scale_worths | exact T.na_Rules_own_scale | exact T.na_Rules_pairs), by rfl, ?_⟩ | refine ite_t rfl ?_ | refine ite_f rfl ?_ | refine And.intro (by decide) ?_ | refine And.intro (by omega) ?_ | refine And.intro (by (simp only [List.length_map, tx_len, List.length_cons, List.length_append, List.length_nil, List.length_replicate, List.length_take, List.length_drop, List.length_reverse]; omega)) ?_ | refine And.intro (by assumption) ?_ | refine And.intro ⟨_, rfl⟩ ?_ | refine ⟨_, Or.inl rfl, ?_⟩ | refine And.intro (Or.inl rfl) ?_ | refine ⟨_, Or.inr rfl, ?_⟩ | refine And.intro (Or.inr rfl) ?_)
  refine ⟨_, rfl, ?_⟩
  show dComp _ _ _ [.val .unk, .val .deal, maskS x2, .val (dM L W (.lst (ps.map dP))), maskS x4, maskS x5, maskS x6, maskS x7, maskS x8, maskS x9, .val (.lst [.fn (TF 0 none), .fn (TF 1 (some T1)), .fn (TF 2 none)]), maskS x11, maskS x12, maskS x13, .val (ruO K L W ps), maskS x15, .val (dW u), .no] _ _ _
  have eb0 : PyData.eqv (py (.tup [.str "BadWord", .int ((0 : Nat) : Int)])) (py (.tup [.str "BadWord", .int 0])) = true := eb
  (repeat (first | refine ⟨rfl, ?_⟩ | refine ⟨_, rfl, ?_⟩ | refine ⟨_, _, rfl, rfl, ?_⟩ | refine ⟨_, _, rfl, ?_⟩ | refine ⟨_, _, _, rfl, ?_⟩ | refine ⟨_, _, _, rfl, rfl, ?_⟩ | refine ⟨_, _, _, rfl, rfl, rfl, ?_⟩ | refine ⟨_, _, _, _, rfl, ?_⟩ | refine ⟨_, _, _, _, _, rfl, ?_⟩ | refine ⟨_, _, _, _, _, _, rfl, ?_⟩ | refine ⟨_, _, _, _, _, _, _, rfl, ?_⟩ | refine ⟨_, _, _, _, _, _, _, _, rfl, ?_⟩ | refine ⟨_, _, _, _, rfl, rfl, ?_⟩ | refine And.intro (Nat.le_of_ble_eq_true rfl) ?_ | refine And.intro True.intro ?_ | refine ⟨_, _, _, rfl, (by first | exact T.cl_Scale | exact T.cl_Rules), (by first | exact T.na_Scale_signs | exact T.na_Scale_worths | exact T.na_Rules_own_scale | exact T.na_Rules_pairs), by rfl, ?_⟩ | refine ite_t rfl ?_ | refine ite_f rfl ?_ | refine And.intro (by decide) ?_ | refine And.intro (by omega) ?_ | refine And.intro (by (simp only [List.length_map, tx_len, List.length_cons, List.length_append, List.length_nil, List.length_replicate, List.length_take, List.length_drop, List.length_reverse]; omega)) ?_ | refine And.intro (by assumption) ?_ | refine And.intro ⟨_, rfl⟩ ?_ | refine ⟨_, Or.inl rfl, ?_⟩ | refine And.intro (Or.inl rfl) ?_ | refine ⟨_, Or.inr rfl, ?_⟩ | refine And.intro (Or.inr rfl) ?_))
  refine ⟨by show (tx [63]).length + (tx u).length ≤ 1000000; simp; omega, ?_⟩
  rw [e1]
  refine ⟨rfl, rfl, L, W, ps, 63 :: u, rfl, hR, hl, lookW_bad (bad_first (no63 hR.1)) (asked_bad T ?_)⟩
  (repeat (first | refine ⟨rfl, ?_⟩ | refine ⟨_, rfl, ?_⟩ | refine ⟨_, _, rfl, rfl, ?_⟩ | refine ⟨_, _, rfl, ?_⟩ | refine ⟨_, _, _, rfl, ?_⟩ | refine ⟨_, _, _, rfl, rfl, ?_⟩ | refine ⟨_, _, _, rfl, rfl, rfl, ?_⟩ | refine ⟨_, _, _, _, rfl, ?_⟩ | refine ⟨_, _, _, _, _, rfl, ?_⟩ | refine ⟨_, _, _, _, _, _, rfl, ?_⟩ | refine ⟨_, _, _, _, _, _, _, rfl, ?_⟩ | refine ⟨_, _, _, _, _, _, _, _, rfl, ?_⟩ | refine ⟨_, _, _, _, rfl, rfl, ?_⟩ | refine And.intro (Nat.le_of_ble_eq_true rfl) ?_ | refine And.intro True.intro ?_ | refine ⟨_, _, _, rfl, (by first | exact T.cl_Scale | exact T.cl_Rules), (by first | exact T.na_Scale_signs | exact T.na_Scale_worths | exact T.na_Rules_own_scale | exact T.na_Rules_pairs), by rfl, ?_⟩ | refine ite_t rfl ?_ | refine ite_f rfl ?_ | refine And.intro (by decide) ?_ | refine And.intro (by omega) ?_ | refine And.intro (by (simp only [List.length_map, tx_len, List.length_cons, List.length_append, List.length_nil, List.length_replicate, List.length_take, List.length_drop, List.length_reverse]; omega)) ?_ | refine And.intro (by assumption) ?_ | refine And.intro ⟨_, rfl⟩ ?_ | refine ⟨_, Or.inl rfl, ?_⟩ | refine And.intro (Or.inl rfl) ?_ | refine ⟨_, Or.inr rfl, ?_⟩ | refine And.intro (Or.inr rfl) ?_))
  rw [eb0]
  (repeat (first | refine ⟨rfl, ?_⟩ | refine ⟨_, rfl, ?_⟩ | refine ⟨_, _, rfl, rfl, ?_⟩ | refine ⟨_, _, rfl, ?_⟩ | refine ⟨_, _, _, rfl, ?_⟩ | refine ⟨_, _, _, rfl, rfl, ?_⟩ | refine ⟨_, _, _, rfl, rfl, rfl, ?_⟩ | refine ⟨_, _, _, _, rfl, ?_⟩ | refine ⟨_, _, _, _, _, rfl, ?_⟩ | refine ⟨_, _, _, _, _, _, rfl, ?_⟩ | refine ⟨_, _, _, _, _, _, _, rfl, ?_⟩ | refine ⟨_, _, _, _, _, _, _, _, rfl, ?_⟩ | refine ⟨_, _, _, _, rfl, rfl, ?_⟩ | refine And.intro (Nat.le_of_ble_eq_true rfl) ?_ | refine And.intro True.intro ?_ | refine ⟨_, _, _, rfl, (by first | exact T.cl_Scale | exact T.cl_Rules), (by first | exact T.na_Scale_signs | exact T.na_Scale_worths | exact T.na_Rules_own_scale | exact T.na_Rules_pairs), by rfl, ?_⟩ | refine ite_t rfl ?_ | refine ite_f rfl ?_ | refine And.intro (by decide) ?_ | refine And.intro (by omega) ?_ | refine And.intro (by (simp only [List.length_map, tx_len, List.length_cons, List.length_append, List.length_nil, List.length_replicate, List.length_take, List.length_drop, List.length_reverse]; omega)) ?_ | refine And.intro (by assumption) ?_ | refine And.intro ⟨_, rfl⟩ ?_ | refine ⟨_, Or.inl rfl, ?_⟩ | refine And.intro (Or.inl rfl) ?_ | refine ⟨_, Or.inr rfl, ?_⟩ | refine And.intro (Or.inr rfl) ?_))
  refine ⟨by show (tx [63]).length + (tx u).length ≤ 1000000; simp; omega, ?_⟩
  rw [e1]
  refine ⟨rfl, rfl, L, W, ps, 63 :: u, rfl, hR, hl, lookW_bad (bad_first (no63 hR.1)) (asked_bad T ?_)⟩
  (repeat (first | refine ⟨rfl, ?_⟩ | refine ⟨_, rfl, ?_⟩ | refine ⟨_, _, rfl, rfl, ?_⟩ | refine ⟨_, _, rfl, ?_⟩ | refine ⟨_, _, _, rfl, ?_⟩ | refine ⟨_, _, _, rfl, rfl, ?_⟩ | refine ⟨_, _, _, rfl, rfl, rfl, ?_⟩ | refine ⟨_, _, _, _, rfl, ?_⟩ | refine ⟨_, _, _, _, _, rfl, ?_⟩ | refine ⟨_, _, _, _, _, _, rfl, ?_⟩ | refine ⟨_, _, _, _, _, _, _, rfl, ?_⟩ | refine ⟨_, _, _, _, _, _, _, _, rfl, ?_⟩ | refine ⟨_, _, _, _, rfl, rfl, ?_⟩ | refine And.intro (Nat.le_of_ble_eq_true rfl) ?_ | refine And.intro True.intro ?_ | refine ⟨_, _, _, rfl, (by first | exact T.cl_Scale | exact T.cl_Rules), (by first | exact T.na_Scale_signs | exact T.na_Scale_worths | exact T.na_Rules_own_scale | exact T.na_Rules_pairs), by rfl, ?_⟩ | refine ite_t rfl ?_ | refine ite_f rfl ?_ | refine And.intro (by decide) ?_ | refine And.intro (by omega) ?_ | refine And.intro (by (simp only [List.length_map, tx_len, List.length_cons, List.length_append, List.length_nil, List.length_replicate, List.length_take, List.length_drop, List.length_reverse]; omega)) ?_ | refine And.intro (by assumption) ?_ | refine And.intro ⟨_, rfl⟩ ?_ | refine ⟨_, Or.inl rfl, ?_⟩ | refine And.intro (Or.inl rfl) ?_ | refine ⟨_, Or.inr rfl, ?_⟩ | refine And.intro (Or.inr rfl) ?_))
  rw [eb0]
  (repeat (first | refine ⟨rfl, ?_⟩ | refine ⟨_, rfl, ?_⟩ | refine ⟨_, _, rfl, rfl, ?_⟩ | refine ⟨_, _, rfl, ?_⟩ | refine ⟨_, _, _, rfl, ?_⟩ | refine ⟨_, _, _, rfl, rfl, ?_⟩ | refine ⟨_, _, _, rfl, rfl, rfl, ?_⟩ | refine ⟨_, _, _, _, rfl, ?_⟩ | refine ⟨_, _, _, _, _, rfl, ?_⟩ | refine ⟨_, _, _, _, _, _, rfl, ?_⟩ | refine ⟨_, _, _, _, _, _, _, rfl, ?_⟩ | refine ⟨_, _, _, _, _, _, _, _, rfl, ?_⟩ | refine ⟨_, _, _, _, rfl, rfl, ?_⟩ | refine And.intro (Nat.le_of_ble_eq_true rfl) ?_ | refine And.intro True.intro ?_ | refine ⟨_, _, _, rfl, (by first | exact T.cl_Scale | exact T.cl_Rules), (by first | exact T.na_Scale_signs | exact T.na_Scale_worths | exact T.na_Rules_own_scale | exact T.na_Rules_pairs), by rfl, ?_⟩ | refine ite_t rfl ?_ | refine ite_f rfl ?_ | refine And.intro (by decide) ?_ | refine And.intro (by omega) ?_ | refine And.intro (by (simp only [List.length_map, tx_len, List.length_cons, List.length_append, List.length_nil, List.length_replicate, List.length_take, List.length_drop, List.length_reverse]; omega)) ?_ | refine And.intro (by assumption) ?_ | refine And.intro ⟨_, rfl⟩ ?_ | refine ⟨_, Or.inl rfl, ?_⟩ | refine And.intro (Or.inl rfl) ?_ | refine ⟨_, Or.inr rfl, ?_⟩ | refine And.intro (Or.inr rfl) ?_))
  refine ⟨by show (tx [63]).length + (tx u).length ≤ 1000000; simp; omega, ?_⟩
  rw [e1]
  (repeat (first | refine ⟨rfl, ?_⟩ | refine ⟨_, rfl, ?_⟩ | refine ⟨_, _, rfl, rfl, ?_⟩ | refine ⟨_, _, rfl, ?_⟩ | refine ⟨_, _, _, rfl, ?_⟩ | refine ⟨_, _, _, rfl, rfl, ?_⟩ | refine ⟨_, _, _, rfl, rfl, rfl, ?_⟩ | refine ⟨_, _, _, _, rfl, ?_⟩ | refine ⟨_, _, _, _, _, rfl, ?_⟩ | refine ⟨_, _, _, _, _, _, rfl, ?_⟩ | refine ⟨_, _, _, _, _, _, _, rfl, ?_⟩ | refine ⟨_, _, _, _, _, _, _, _, rfl, ?_⟩ | refine ⟨_, _, _, _, rfl, rfl, ?_⟩ | refine And.intro (Nat.le_of_ble_eq_true rfl) ?_ | refine And.intro True.intro ?_ | refine ⟨_, _, _, rfl, (by first | exact T.cl_Scale | exact T.cl_Rules), (by first | exact T.na_Scale_signs | exact T.na_Scale_worths | exact T.na_Rules_own_scale | exact T.na_Rules_pairs), by rfl, ?_⟩ | refine ite_t rfl ?_ | refine ite_f rfl ?_ | refine And.intro (by decide) ?_ | refine And.intro (by omega) ?_ | refine And.intro (by (simp only [List.length_map, tx_len, List.length_cons, List.length_append, List.length_nil, List.length_replicate, List.length_take, List.length_drop, List.length_reverse]; omega)) ?_ | refine And.intro (by assumption) ?_ | refine And.intro ⟨_, rfl⟩ ?_ | refine ⟨_, Or.inl rfl, ?_⟩ | refine And.intro (Or.inl rfl) ?_ | refine ⟨_, Or.inr rfl, ?_⟩ | refine And.intro (Or.inr rfl) ?_))
  refine lookW_bad (bad_first (no63 hR.1)) (asked_bad T ?_)
  (repeat (first | refine ⟨rfl, ?_⟩ | refine ⟨_, rfl, ?_⟩ | refine ⟨_, _, rfl, rfl, ?_⟩ | refine ⟨_, _, rfl, ?_⟩ | refine ⟨_, _, _, rfl, ?_⟩ | refine ⟨_, _, _, rfl, rfl, ?_⟩ | refine ⟨_, _, _, rfl, rfl, rfl, ?_⟩ | refine ⟨_, _, _, _, rfl, ?_⟩ | refine ⟨_, _, _, _, _, rfl, ?_⟩ | refine ⟨_, _, _, _, _, _, rfl, ?_⟩ | refine ⟨_, _, _, _, _, _, _, rfl, ?_⟩ | refine ⟨_, _, _, _, _, _, _, _, rfl, ?_⟩ | refine ⟨_, _, _, _, rfl, rfl, ?_⟩ | refine And.intro (Nat.le_of_ble_eq_true rfl) ?_ | refine And.intro True.intro ?_ | refine ⟨_, _, _, rfl, (by first | exact T.cl_Scale | exact T.cl_Rules), (by first | exact T.na_Scale_signs | exact T.na_Scale_worths | exact T.na_Rules_own_scale | exact T.na_Rules_pairs), by rfl, ?_⟩ | refine ite_t rfl ?_ | refine ite_f rfl ?_ | refine And.intro (by decide) ?_ | refine And.intro (by omega) ?_ | refine And.intro (by (simp only [List.length_map, tx_len, List.length_cons, List.length_append, List.length_nil, List.length_replicate, List.length_take, List.length_drop, List.length_reverse]; omega)) ?_ | refine And.intro (by assumption) ?_ | refine And.intro ⟨_, rfl⟩ ?_ | refine ⟨_, Or.inl rfl, ?_⟩ | refine And.intro (Or.inl rfl) ?_ | refine ⟨_, Or.inr rfl, ?_⟩ | refine And.intro (Or.inr rfl) ?_))
  rw [eb0]
  (repeat (first | refine ⟨rfl, ?_⟩ | refine ⟨_, rfl, ?_⟩ | refine ⟨_, _, rfl, rfl, ?_⟩ | refine ⟨_, _, rfl, ?_⟩ | refine ⟨_, _, _, rfl, ?_⟩ | refine ⟨_, _, _, rfl, rfl, ?_⟩ | refine ⟨_, _, _, rfl, rfl, rfl, ?_⟩ | refine ⟨_, _, _, _, rfl, ?_⟩ | refine ⟨_, _, _, _, _, rfl, ?_⟩ | refine ⟨_, _, _, _, _, _, rfl, ?_⟩ | refine ⟨_, _, _, _, _, _, _, rfl, ?_⟩ | refine ⟨_, _, _, _, _, _, _, _, rfl, ?_⟩ | refine ⟨_, _, _, _, rfl, rfl, ?_⟩ | refine And.intro (Nat.le_of_ble_eq_true rfl) ?_ | refine And.intro True.intro ?_ | refine ⟨_, _, _, rfl, (by first | exact T.cl_Scale | exact T.cl_Rules), (by first | exact T.na_Scale_signs | exact T.na_Scale_worths | exact T.na_Rules_own_scale | exact T.na_Rules_pairs), by rfl, ?_⟩ | refine ite_t rfl ?_ | refine ite_f rfl ?_ | refine And.intro (by decide) ?_ | refine And.intro (by omega) ?_ | refine And.intro (by (simp only [List.length_map, tx_len, List.length_cons, List.length_append, List.length_nil, List.length_replicate, List.length_take, List.length_drop, List.length_reverse]; omega)) ?_ | refine And.intro (by assumption) ?_ | refine And.intro ⟨_, rfl⟩ ?_ | refine ⟨_, Or.inl rfl, ?_⟩ | refine And.intro (Or.inl rfl) ?_ | refine ⟨_, Or.inr rfl, ?_⟩ | refine And.intro (Or.inr rfl) ?_))
  rw [comp_nil]
  refine ⟨[true, true, true], rfl, ?_⟩
  (repeat (first | refine ⟨rfl, ?_⟩ | refine ⟨_, rfl, ?_⟩ | refine ⟨_, _, rfl, rfl, ?_⟩ | refine ⟨_, _, rfl, ?_⟩ | refine ⟨_, _, _, rfl, ?_⟩ | refine ⟨_, _, _, rfl, rfl, ?_⟩ | refine ⟨_, _, _, rfl, rfl, rfl, ?_⟩ | refine ⟨_, _, _, _, rfl, ?_⟩ | refine ⟨_, _, _, _, _, rfl, ?_⟩ | refine ⟨_, _, _, _, _, _, rfl, ?_⟩ | refine ⟨_, _, _, _, _, _, _, rfl, ?_⟩ | refine ⟨_, _, _, _, _, _, _, _, rfl, ?_⟩ | refine ⟨_, _, _, _, rfl, rfl, ?_⟩ | refine And.intro (Nat.le_of_ble_eq_true rfl) ?_ | refine And.intro True.intro ?_ | refine ⟨_, _, _, rfl, (by first | exact T.cl_Scale | exact T.cl_Rules), (by first | exact T.na_Scale_signs | exact T.na_Scale_worths | exact T.na_Rules_own_scale | exact T.na_Rules_pairs), by rfl, ?_⟩ | refine ite_t rfl ?_ | refine ite_f rfl ?_ | refine And.intro (by decide) ?_ | refine And.intro (by omega) ?_ | refine And.intro (by (simp only [List.length_map, tx_len, List.length_cons, List.length_append, List.length_nil, List.length_replicate, List.length_take, List.length_drop, List.length_reverse]; omega)) ?_ | refine And.intro (by assumption) ?_ | refine And.intro ⟨_, rfl⟩ ?_ | refine ⟨_, Or.inl rfl, ?_⟩ | refine And.intro (Or.inl rfl) ?_ | refine ⟨_, Or.inr rfl, ?_⟩ | refine And.intro (Or.inr rfl) ?_))
  exact hN.1 _ _ _ _ _ _ _ _ _ _ _ _ _ _ _ _
theorem law_b4f_4 (T : Txt K mg) (TF : TFn) (c : Ctx L W ps) {u : wd} (hu : u.length ≤ 12) (ou : Ov L u) {a n : Int} {b : Bool} (E : DEnds) (hN : (∀ x2 x4 x5 x6 x7 x8 x9 x10 x11 x12 x13 x15 x17 : SD, E.nx [.val .unk, .val .deal, x2, .val (dM L W (.lst (ps.map dP))), x4, x5, x6, x7, x8, x9, x10, x11, x12, x13, .val (ruO K L W ps), x15, .val (dW u), x17]) ∧ ∀ x2 x4 x5 x6 x7 x8 x9 x10 x11 x12 x13 x15 x17 : SD, E.ct [.val .unk, .val .deal, x2, .val (dM L W (.lst (ps.map dP))), x4, x5, x6, x7, x8, x9, x10, x11, x12, x13, .val (ruO K L W ps), x15, .val (dW u), x17]) (x2 x4 x5 x6 x7 x10 x15 x17 : SD) : D_c_b4f_4 K TF E [.val .unk, .val .deal, x2, .val (dM L W (.lst (ps.map dP))), x4, x5, x6, x7, .val (dTR a n (turnG ps u a n b)), .val (dTR a n (turnG ps u a n b)), x10, .val (.bl b), .val (.int a), .val (.int n), .val (ruO K L W ps), x15, .val (dW u), x17] := by
  have hR := c.hR
  have hsm : ∀ w, turnG ps u a n b = .ok w → Sm w := fun w hg => (sm_turn (rs_pss hR) (fun d hd => hR.1.sub d (ou d hd)) hg).1
  unfold D_c_b4f_4
  (repeat (first | refine ⟨rfl, ?_⟩ | refine ⟨_, rfl, ?_⟩ | refine ⟨_, _, rfl, rfl, ?_⟩ | refine ⟨_, _, rfl, ?_⟩ | refine ⟨_, _, _, rfl, ?_⟩ | refine ⟨_, _, _, rfl, rfl, ?_⟩ | refine ⟨_, _, _, rfl, rfl, rfl, ?_⟩ | refine ⟨_, _, _, _, rfl, ?_⟩ | refine ⟨_, _, _, _, _, rfl, ?_⟩ | refine ⟨_, _, _, _, _, _, rfl, ?_⟩ | refine ⟨_, _, _, _, _, _, _, rfl, ?_⟩ | refine ⟨_, _, _, _, _, _, _, _, rfl, ?_⟩ | refine ⟨_, _, _, _, rfl, rfl, ?_⟩ | refine And.intro (Nat.le_of_ble_eq_true rfl) ?_ | refine And.intro True.intro ?_ | refine ⟨_, _, _, rfl, (by first | exact T.cl_Scale | exact T.cl_Rules), (by first | exact T.na_Scale_signs | exact T.na_Scale_worths | exact T.na_Rules_own_scale | exact T.na_Rules_pairs), by rfl, ?_⟩ | refine ite_t rfl ?_ | refine ite_f rfl ?_ | refine And.intro (by decide) ?_ | refine And.intro (by omega) ?_ | refine And.intro (by (simp only [List.length_map, tx_len, List.length_cons, List.length_append, List.length_nil, List.length_replicate, List.length_take, List.length_drop, List.length_reverse]; omega)) ?_ | refine And.intro (by assumption) ?_ | refine And.intro ⟨_, rfl⟩ ?_ | refine ⟨_, Or.inl rfl, ?_⟩ | refine And.intro (Or.inl rfl) ?_ | refine ⟨_, Or.inr rfl, ?_⟩ | refine And.intro (Or.inr rfl) ?_))
  refine ⟨dep_TR hsm, ?_⟩
  (repeat (first | refine ⟨rfl, ?_⟩ | refine ⟨_, rfl, ?_⟩ | refine ⟨_, _, rfl, rfl, ?_⟩ | refine ⟨_, _, rfl, ?_⟩ | refine ⟨_, _, _, rfl, ?_⟩ | refine ⟨_, _, _, rfl, rfl, ?_⟩ | refine ⟨_, _, _, rfl, rfl, rfl, ?_⟩ | refine ⟨_, _, _, _, rfl, ?_⟩ | refine ⟨_, _, _, _, _, rfl, ?_⟩ | refine ⟨_, _, _, _, _, _, rfl, ?_⟩ | refine ⟨_, _, _, _, _, _, _, rfl, ?_⟩ | refine ⟨_, _, _, _, _, _, _, _, rfl, ?_⟩ | refine ⟨_, _, _, _, rfl, rfl, ?_⟩ | refine And.intro (Nat.le_of_ble_eq_true rfl) ?_ | refine And.intro True.intro ?_ | refine ⟨_, _, _, rfl, (by first | exact T.cl_Scale | exact T.cl_Rules), (by first | exact T.na_Scale_signs | exact T.na_Scale_worths | exact T.na_Rules_own_scale | exact T.na_Rules_pairs), by rfl, ?_⟩ | refine ite_t rfl ?_ | refine ite_f rfl ?_ | refine And.intro (by decide) ?_ | refine And.intro (by omega) ?_ | refine And.intro (by (simp only [List.length_map, tx_len, List.length_cons, List.length_append, List.length_nil, List.length_replicate, List.length_take, List.length_drop, List.length_reverse]; omega)) ?_ | refine And.intro (by assumption) ?_ | refine And.intro ⟨_, rfl⟩ ?_ | refine ⟨_, Or.inl rfl, ?_⟩ | refine And.intro (Or.inl rfl) ?_ | refine ⟨_, Or.inr rfl, ?_⟩ | refine And.intro (Or.inr rfl) ?_))
  cases b with
  | true =>
    (repeat (first | refine ⟨rfl, ?_⟩ | refine ⟨_, rfl, ?_⟩ | refine ⟨_, _, rfl, rfl, ?_⟩ | refine ⟨_, _, rfl, ?_⟩ | refine ⟨_, _, _, rfl, ?_⟩ | refine ⟨_, _, _, rfl, rfl, ?_⟩ | refine ⟨_, _, _, rfl, rfl, rfl, ?_⟩ | refine ⟨_, _, _, _, rfl, ?_⟩ | refine ⟨_, _, _, _, _, rfl, ?_⟩ | refine ⟨_, _, _, _, _, _, rfl, ?_⟩ | refine ⟨_, _, _, _, _, _, _, rfl, ?_⟩ | refine ⟨_, _, _, _, _, _, _, _, rfl, ?_⟩ | refine ⟨_, _, _, _, rfl, rfl, ?_⟩ | refine And.intro (Nat.le_of_ble_eq_true rfl) ?_ | refine And.intro True.intro ?_ | refine ⟨_, _, _, rfl, (by first | exact T.cl_Scale | exact T.cl_Rules), (by first | exact T.na_Scale_signs | exact T.na_Scale_worths | exact T.na_Rules_own_scale | exact T.na_Rules_pairs), by rfl, ?_⟩ | refine ite_t rfl ?_ | refine ite_f rfl ?_ | refine And.intro (by decide) ?_ | refine And.intro (by omega) ?_ | refine And.intro (by (simp only [List.length_map, tx_len, List.length_cons, List.length_append, List.length_nil, List.length_replicate, List.length_take, List.length_drop, List.length_reverse]; omega)) ?_ | refine And.intro (by assumption) ?_ | refine And.intro ⟨_, rfl⟩ ?_ | refine ⟨_, Or.inl rfl, ?_⟩ | refine And.intro (Or.inl rfl) ?_ | refine ⟨_, Or.inr rfl, ?_⟩ | refine And.intro (Or.inr rfl) ?_))
    exact hN.1 _ _ _ _ _ _ _ _ _ _ _ _ _
  | false =>
    (repeat (first | refine ⟨rfl, ?_⟩ | refine ⟨_, rfl, ?_⟩ | refine ⟨_, _, rfl, rfl, ?_⟩ | refine ⟨_, _, rfl, ?_⟩ | refine ⟨_, _, _, rfl, ?_⟩ | refine ⟨_, _, _, rfl, rfl, ?_⟩ | refine ⟨_, _, _, rfl, rfl, rfl, ?_⟩ | refine ⟨_, _, _, _, rfl, ?_⟩ | refine ⟨_, _, _, _, _, rfl, ?_⟩ | refine ⟨_, _, _, _, _, _, rfl, ?_⟩ | refine ⟨_, _, _, _, _, _, _, rfl, ?_⟩ | refine ⟨_, _, _, _, _, _, _, _, rfl, ?_⟩ | refine ⟨_, _, _, _, rfl, rfl, ?_⟩ | refine And.intro (Nat.le_of_ble_eq_true rfl) ?_ | refine And.intro True.intro ?_ | refine ⟨_, _, _, rfl, (by first | exact T.cl_Scale | exact T.cl_Rules), (by first | exact T.na_Scale_signs | exact T.na_Scale_worths | exact T.na_Rules_own_scale | exact T.na_Rules_pairs), by rfl, ?_⟩ | refine ite_t rfl ?_ | refine ite_f rfl ?_ | refine And.intro (by decide) ?_ | refine And.intro (by omega) ?_ | refine And.intro (by (simp only [List.length_map, tx_len, List.length_cons, List.length_append, List.length_nil, List.length_replicate, List.length_take, List.length_drop, List.length_reverse]; omega)) ?_ | refine And.intro (by assumption) ?_ | refine And.intro ⟨_, rfl⟩ ?_ | refine ⟨_, Or.inl rfl, ?_⟩ | refine And.intro (Or.inl rfl) ?_ | refine ⟨_, Or.inr rfl, ?_⟩ | refine And.intro (Or.inr rfl) ?_))
    refine lookW_ok ou (asked_turn T ?_)
    (repeat (first | refine ⟨rfl, ?_⟩ | refine ⟨_, rfl, ?_⟩ | refine ⟨_, _, rfl, rfl, ?_⟩ | refine ⟨_, _, rfl, ?_⟩ | refine ⟨_, _, _, rfl, ?_⟩ | refine ⟨_, _, _, rfl, rfl, ?_⟩ | refine ⟨_, _, _, rfl, rfl, rfl, ?_⟩ | refine ⟨_, _, _, _, rfl, ?_⟩ | refine ⟨_, _, _, _, _, rfl, ?_⟩ | refine ⟨_, _, _, _, _, _, rfl, ?_⟩ | refine ⟨_, _, _, _, _, _, _, rfl, ?_⟩ | refine ⟨_, _, _, _, _, _, _, _, rfl, ?_⟩ | refine ⟨_, _, _, _, rfl, rfl, ?_⟩ | refine And.intro (Nat.le_of_ble_eq_true rfl) ?_ | refine And.intro True.intro ?_ | refine ⟨_, _, _, rfl, (by first | exact T.cl_Scale | exact T.cl_Rules), (by first | exact T.na_Scale_signs | exact T.na_Scale_worths | exact T.na_Rules_own_scale | exact T.na_Rules_pairs), by rfl, ?_⟩ | refine ite_t rfl ?_ | refine ite_f rfl ?_ | refine And.intro (by decide) ?_ | refine And.intro (by omega) ?_ | refine And.intro (by (simp only [List.length_map, tx_len, List.length_cons, List.length_append, List.length_nil, List.length_replicate, List.length_take, List.length_drop, List.length_reverse]; omega)) ?_ | refine And.intro (by assumption) ?_ | refine And.intro ⟨_, rfl⟩ ?_ | refine ⟨_, Or.inl rfl, ?_⟩ | refine And.intro (Or.inl rfl) ?_ | refine ⟨_, Or.inr rfl, ?_⟩ | refine And.intro (Or.inr rfl) ?_))
    refine ⟨dep_TR hsm, ?_⟩
    (repeat (first | refine ⟨rfl, ?_⟩ | refine ⟨_, rfl, ?_⟩ | refine ⟨_, _, rfl, rfl, ?_⟩ | refine ⟨_, _, rfl, ?_⟩ | refine ⟨_, _, _, rfl, ?_⟩ | refine ⟨_, _, _, rfl, rfl, ?_⟩ | refine ⟨_, _, _, rfl, rfl, rfl, ?_⟩ | refine ⟨_, _, _, _, rfl, ?_⟩ | refine ⟨_, _, _, _, _, rfl, ?_⟩ | refine ⟨_, _, _, _, _, _, rfl, ?_⟩ | refine ⟨_, _, _, _, _, _, _, rfl, ?_⟩ | refine ⟨_, _, _, _, _, _, _, _, rfl, ?_⟩ | refine ⟨_, _, _, _, rfl, rfl, ?_⟩ | refine And.intro (Nat.le_of_ble_eq_true rfl) ?_ | refine And.intro True.intro ?_ | refine ⟨_, _, _, rfl, (by first | exact T.cl_Scale | exact T.cl_Rules), (by first | exact T.na_Scale_signs | exact T.na_Scale_worths | exact T.na_Rules_own_scale | exact T.na_Rules_pairs), by rfl, ?_⟩ | refine ite_t rfl ?_ | refine ite_f rfl ?_ | refine And.intro (by decide) ?_ | refine And.intro (by omega) ?_ | refine And.intro (by (simp only [List.length_map, tx_len, List.length_cons, List.length_append, List.length_nil, List.length_replicate, List.length_take, List.length_drop, List.length_reverse]; omega)) ?_ | refine And.intro (by assumption) ?_ | refine And.intro ⟨_, rfl⟩ ?_ | refine ⟨_, Or.inl rfl, ?_⟩ | refine And.intro (Or.inl rfl) ?_ | refine ⟨_, Or.inr rfl, ?_⟩ | refine And.intro (Or.inr rfl) ?_))
    exact hN.1 _ _ _ _ _ _ _ _ _ _ _ _ _
theorem law_b4f_2 (T : Txt K mg) (TF : TFn) (c : Ctx L W ps) {u : wd} (hu : u.length ≤ 12) (ou : Ov L u) {a n : Int} {b : Bool} (E : DEnds) (hN : (∀ x2 x4 x5 x6 x7 x8 x9 x10 x11 x12 x13 x15 x17 : SD, E.nx [.val .unk, .val .deal, x2, .val (dM L W (.lst (ps.map dP))), x4, x5, x6, x7, x8, x9, x10, x11, x12, x13, .val (ruO K L W ps), x15, .val (dW u), x17]) ∧ ∀ x2 x4 x5 x6 x7 x8 x9 x10 x11 x12 x13 x15 x17 : SD, E.ct [.val .unk, .val .deal, x2, .val (dM L W (.lst (ps.map dP))), x4, x5, x6, x7, x8, x9, x10, x11, x12, x13, .val (ruO K L W ps), x15, .val (dW u), x17]) (x2 x4 x5 x6 x7 x8 x9 x10 x15 x17 : SD) : D_c_b4f_2 K TF E [.val .unk, .val .deal, x2, .val (dM L W (.lst (ps.map dP))), x4, x5, x6, x7, x8, x9, x10, .val (.bl b), .val (.int a), .val (.int n), .val (ruO K L W ps), x15, .val (dW u), x17] := by
  have hR := c.hR
  have sm : ∀ {w : wd}, Ov L w → Sm w := fun h d hd => hR.1.sub d (h d hd)
  unfold D_c_b4f_2
  (repeat (first | refine ⟨rfl, ?_⟩ | refine ⟨_, rfl, ?_⟩ | refine ⟨_, _, rfl, rfl, ?_⟩ | refine ⟨_, _, rfl, ?_⟩ | refine ⟨_, _, _, rfl, ?_⟩ | refine ⟨_, _, _, rfl, rfl, ?_⟩ | refine ⟨_, _, _, rfl, rfl, rfl, ?_⟩ | refine ⟨_, _, _, _, rfl, ?_⟩ | refine ⟨_, _, _, _, _, rfl, ?_⟩ | refine ⟨_, _, _, _, _, _, rfl, ?_⟩ | refine ⟨_, _, _, _, _, _, _, rfl, ?_⟩ | refine ⟨_, _, _, _, _, _, _, _, rfl, ?_⟩ | refine ⟨_, _, _, _, rfl, rfl, ?_⟩ | refine And.intro (Nat.le_of_ble_eq_true rfl) ?_ | refine And.intro True.intro ?_ | refine ⟨_, _, _, rfl, (by first | exact T.cl_Scale | exact T.cl_Rules), (by first | exact T.na_Scale_signs | exact T.na_Scale_worths | exact T.na_Rules_own_scale | exact T.na_Rules_pairs), by rfl, ?_⟩ | refine ite_t rfl ?_ | refine ite_f rfl ?_ | refine And.intro (by decide) ?_ | refine And.intro (by omega) ?_ | refine And.intro (by (simp only [List.length_map, tx_len, List.length_cons, List.length_append, List.length_nil, List.length_replicate, List.length_take, List.length_drop, List.length_reverse]; omega)) ?_ | refine And.intro (by assumption) ?_ | refine And.intro ⟨_, rfl⟩ ?_ | refine ⟨_, Or.inl rfl, ?_⟩ | refine And.intro (Or.inl rfl) ?_ | refine ⟨_, Or.inr rfl, ?_⟩ | refine And.intro (Or.inr rfl) ?_))
  refine ⟨ps_ok hR, by omega, sm ou, rs_pss hR, ?_⟩
  (repeat (first | refine ⟨rfl, ?_⟩ | refine ⟨_, rfl, ?_⟩ | refine ⟨_, _, rfl, rfl, ?_⟩ | refine ⟨_, _, rfl, ?_⟩ | refine ⟨_, _, _, rfl, ?_⟩ | refine ⟨_, _, _, rfl, rfl, ?_⟩ | refine ⟨_, _, _, rfl, rfl, rfl, ?_⟩ | refine ⟨_, _, _, _, rfl, ?_⟩ | refine ⟨_, _, _, _, _, rfl, ?_⟩ | refine ⟨_, _, _, _, _, _, rfl, ?_⟩ | refine ⟨_, _, _, _, _, _, _, rfl, ?_⟩ | refine ⟨_, _, _, _, _, _, _, _, rfl, ?_⟩ | refine ⟨_, _, _, _, rfl, rfl, ?_⟩ | refine And.intro (Nat.le_of_ble_eq_true rfl) ?_ | refine And.intro True.intro ?_ | refine ⟨_, _, _, rfl, (by first | exact T.cl_Scale | exact T.cl_Rules), (by first | exact T.na_Scale_signs | exact T.na_Scale_worths | exact T.na_Rules_own_scale | exact T.na_Rules_pairs), by rfl, ?_⟩ | refine ite_t rfl ?_ | refine ite_f rfl ?_ | refine And.intro (by decide) ?_ | refine And.intro (by omega) ?_ | refine And.intro (by (simp only [List.length_map, tx_len, List.length_cons, List.length_append, List.length_nil, List.length_replicate, List.length_take, List.length_drop, List.length_reverse]; omega)) ?_ | refine And.intro (by assumption) ?_ | refine And.intro ⟨_, rfl⟩ ?_ | refine ⟨_, Or.inl rfl, ?_⟩ | refine And.intro (Or.inl rfl) ?_ | refine ⟨_, Or.inr rfl, ?_⟩ | refine And.intro (Or.inr rfl) ?_))
  refine lookW_ok ou (asked_turn T ?_)
  exact law_b4f_4 T TF c hu ou E hN _ _ _ _ _ _ _ _
theorem law_b4f (T : Txt K mg) (TF : TFn) (c : Ctx L W ps) {u : wd} (hu : u.length ≤ 12) (ou : Ov L u) (E : DEnds) (hN : (∀ x2 x4 x5 x6 x7 x8 x9 x10 x11 x12 x13 x15 x17 : SD, E.nx [.val .unk, .val .deal, x2, .val (dM L W (.lst (ps.map dP))), x4, x5, x6, x7, x8, x9, x10, x11, x12, x13, .val (ruO K L W ps), x15, .val (dW u), x17]) ∧ ∀ x2 x4 x5 x6 x7 x8 x9 x10 x11 x12 x13 x15 x17 : SD, E.ct [.val .unk, .val .deal, x2, .val (dM L W (.lst (ps.map dP))), x4, x5, x6, x7, x8, x9, x10, x11, x12, x13, .val (ruO K L W ps), x15, .val (dW u), x17]) (x2 x4 x5 x6 x7 x8 x9 x10 x11 x12 x13 x15 x17 : SD) : D_c_b4f K TF E [.val .unk, .val .deal, x2, .val (dM L W (.lst (ps.map dP))), x4, x5, x6, x7, x8, x9, x10, x11, x12, x13, .val (ruO K L W ps), x15, .val (dW u), x17] := by
  have hR := c.hR
  have hl := c.hl
  unfold D_c_b4f
  (repeat (first | refine ⟨rfl, ?_⟩ | refine ⟨_, rfl, ?_⟩ | refine ⟨_, _, rfl, rfl, ?_⟩ | refine ⟨_, _, rfl, ?_⟩ | refine ⟨_, _, _, rfl, ?_⟩ | refine ⟨_, _, _, rfl, rfl, ?_⟩ | refine ⟨_, _, _, rfl, rfl, rfl, ?_⟩ | refine ⟨_, _, _, _, rfl, ?_⟩ | refine ⟨_, _, _, _, _, rfl, ?_⟩ | refine ⟨_, _, _, _, _, _, rfl, ?_⟩ | refine ⟨_, _, _, _, _, _, _, rfl, ?_⟩ | refine ⟨_, _, _, _, _, _, _, _, rfl, ?_⟩ | refine ⟨_, _, _, _, rfl, rfl, ?_⟩ | refine And.intro (Nat.le_of_ble_eq_true rfl) ?_ | refine And.intro True.intro ?_ | refine ⟨_, _, _, rfl, (by first | exact T.cl_Scale | exact T.cl_Rules), (by first | exact T.na_Scale_signs | exact T.na_Scale_worths | exact T.na_Rules_own_scale | exact T.na_Rules_pairs), by rfl, ?_⟩ | refine ite_t rfl ?_ | refine ite_f rfl ?_ | refine And.intro (by decide) ?_ | refine And.intro (by omega) ?_ | refine And.intro (by (simp only [List.length_map, tx_len, List.length_cons, List.length_append, List.length_nil, List.length_replicate, List.length_take, List.length_drop, List.length_reverse]; omega)) ?_ | refine And.intro (by assumption) ?_ | refine And.intro ⟨_, rfl⟩ ?_ | refine ⟨_, Or.inl rfl, ?_⟩ | refine And.intro (Or.inl rfl) ?_ | refine ⟨_, Or.inr rfl, ?_⟩ | refine And.intro (Or.inr rfl) ?_))
  intro r r0 r1
  (repeat (first | refine ⟨rfl, ?_⟩ | refine ⟨_, rfl, ?_⟩ | refine ⟨_, _, rfl, rfl, ?_⟩ | refine ⟨_, _, rfl, ?_⟩ | refine ⟨_, _, _, rfl, ?_⟩ | refine ⟨_, _, _, rfl, rfl, ?_⟩ | refine ⟨_, _, _, rfl, rfl, rfl, ?_⟩ | refine ⟨_, _, _, _, rfl, ?_⟩ | refine ⟨_, _, _, _, _, rfl, ?_⟩ | refine ⟨_, _, _, _, _, _, rfl, ?_⟩ | refine ⟨_, _, _, _, _, _, _, rfl, ?_⟩ | refine ⟨_, _, _, _, _, _, _, _, rfl, ?_⟩ | refine ⟨_, _, _, _, rfl, rfl, ?_⟩ | refine And.intro (Nat.le_of_ble_eq_true rfl) ?_ | refine And.intro True.intro ?_ | refine ⟨_, _, _, rfl, (by first | exact T.cl_Scale | exact T.cl_Rules), (by first | exact T.na_Scale_signs | exact T.na_Scale_worths | exact T.na_Rules_own_scale | exact T.na_Rules_pairs), by rfl, ?_⟩ | refine ite_t rfl ?_ | refine ite_f rfl ?_ | refine And.intro (by decide) ?_ | refine And.intro (by omega) ?_ | refine And.intro (by (simp only [List.length_map, tx_len, List.length_cons, List.length_append, List.length_nil, List.length_replicate, List.length_take, List.length_drop, List.length_reverse]; omega)) ?_ | refine And.intro (by assumption) ?_ | refine And.intro ⟨_, rfl⟩ ?_ | refine ⟨_, Or.inl rfl, ?_⟩ | refine And.intro (Or.inl rfl) ?_ | refine ⟨_, Or.inr rfl, ?_⟩ | refine And.intro (Or.inr rfl) ?_))
  refine And.intro ⟨by decide, by decide, by decide⟩ ?_
  (repeat (first | refine ⟨rfl, ?_⟩ | refine ⟨_, rfl, ?_⟩ | refine ⟨_, _, rfl, rfl, ?_⟩ | refine ⟨_, _, rfl, ?_⟩ | refine ⟨_, _, _, rfl, ?_⟩ | refine ⟨_, _, _, rfl, rfl, ?_⟩ | refine ⟨_, _, _, rfl, rfl, rfl, ?_⟩ | refine ⟨_, _, _, _, rfl, ?_⟩ | refine ⟨_, _, _, _, _, rfl, ?_⟩ | refine ⟨_, _, _, _, _, _, rfl, ?_⟩ | refine ⟨_, _, _, _, _, _, _, rfl, ?_⟩ | refine ⟨_, _, _, _, _, _, _, _, rfl, ?_⟩ | refine ⟨_, _, _, _, rfl, rfl, ?_⟩ | refine And.intro (Nat.le_of_ble_eq_true rfl) ?_ | refine And.intro True.intro ?_ | refine ⟨_, _, _, rfl, (by first | exact T.cl_Scale | exact T.cl_Rules), (by first | exact T.na_Scale_signs | exact T.na_Scale_worths | exact T.na_Rules_own_scale | exact T.na_Rules_pairs), by rfl, ?_⟩ | refine ite_t rfl ?_ | refine ite_f rfl ?_ | refine And.intro (by decide) ?_ | refine And.intro (by omega) ?_ | refine And.intro (by (simp only [List.length_map, tx_len, List.length_cons, List.length_append, List.length_nil, List.length_replicate, List.length_take, List.length_drop, List.length_reverse]; omega)) ?_ | refine And.intro (by assumption) ?_ | refine And.intro ⟨_, rfl⟩ ?_ | refine ⟨_, Or.inl rfl, ?_⟩ | refine And.intro (Or.inl rfl) ?_ | refine ⟨_, Or.inr rfl, ?_⟩ | refine And.intro (Or.inr rfl) ?_))
  refine ⟨by simp, by show 4 ≤ 1000; decide, fun y hy => ?_⟩
  have hy2 : ∃ a : Int, y = .int a := by
    simp only [List.mem_cons, List.not_mem_nil, or_false] at hy
    rcases hy with rfl | rfl | rfl | rfl <;> exact ⟨_, rfl⟩
  obtain ⟨a, rfl⟩ := hy2
  (repeat (first | refine ⟨rfl, ?_⟩ | refine ⟨_, rfl, ?_⟩ | refine ⟨_, _, rfl, rfl, ?_⟩ | refine ⟨_, _, rfl, ?_⟩ | refine ⟨_, _, _, rfl, ?_⟩ | refine ⟨_, _, _, rfl, rfl, ?_⟩ | refine ⟨_, _, _, rfl, rfl, rfl, ?_⟩ | refine ⟨_, _, _, _, rfl, ?_⟩ | refine ⟨_, _, _, _, _, rfl, ?_⟩ | refine ⟨_, _, _, _, _, _, rfl, ?_⟩ | refine ⟨_, _, _, _, _, _, _, rfl, ?_⟩ | refine ⟨_, _, _, _, _, _, _, _, rfl, ?_⟩ | refine ⟨_, _, _, _, rfl, rfl, ?_⟩ | refine And.intro (Nat.le_of_ble_eq_true rfl) ?_ | refine And.intro True.intro ?_ | refine ⟨_, _, _, rfl, (by first | exact T.cl_Scale | exact T.cl_Rules), (by first | exact T.na_Scale_signs | exact T.na_Scale_worths | exact T.na_Rules_own_scale | exact T.na_Rules_pairs), by rfl, ?_⟩ | refine ite_t rfl ?_ | refine ite_f rfl ?_ | refine And.intro (by decide) ?_ | refine And.intro (by omega) ?_ | refine And.intro (by (simp only [List.length_map, tx_len, List.length_cons, List.length_append, List.length_nil, List.length_replicate, List.length_take, List.length_drop, List.length_reverse]; omega)) ?_ | refine And.intro (by assumption) ?_ | refine And.intro ⟨_, rfl⟩ ?_ | refine ⟨_, Or.inl rfl, ?_⟩ | refine And.intro (Or.inl rfl) ?_ | refine ⟨_, Or.inr rfl, ?_⟩ | refine And.intro (Or.inr rfl) ?_))
  intro q q0 q1
  (repeat (first | refine ⟨rfl, ?_⟩ | refine ⟨_, rfl, ?_⟩ | refine ⟨_, _, rfl, rfl, ?_⟩ | refine ⟨_, _, rfl, ?_⟩ | refine ⟨_, _, _, rfl, ?_⟩ | refine ⟨_, _, _, rfl, rfl, ?_⟩ | refine ⟨_, _, _, rfl, rfl, rfl, ?_⟩ | refine ⟨_, _, _, _, rfl, ?_⟩ | refine ⟨_, _, _, _, _, rfl, ?_⟩ | refine ⟨_, _, _, _, _, _, rfl, ?_⟩ | refine ⟨_, _, _, _, _, _, _, rfl, ?_⟩ | refine ⟨_, _, _, _, _, _, _, _, rfl, ?_⟩ | refine ⟨_, _, _, _, rfl, rfl, ?_⟩ | refine And.intro (Nat.le_of_ble_eq_true rfl) ?_ | refine And.intro True.intro ?_ | refine ⟨_, _, _, rfl, (by first | exact T.cl_Scale | exact T.cl_Rules), (by first | exact T.na_Scale_signs | exact T.na_Scale_worths | exact T.na_Rules_own_scale | exact T.na_Rules_pairs), by rfl, ?_⟩ | refine ite_t rfl ?_ | refine ite_f rfl ?_ | refine And.intro (by decide) ?_ | refine And.intro (by omega) ?_ | refine And.intro (by (simp only [List.length_map, tx_len, List.length_cons, List.length_append, List.length_nil, List.length_replicate, List.length_take, List.length_drop, List.length_reverse]; omega)) ?_ | refine And.intro (by assumption) ?_ | refine And.intro ⟨_, rfl⟩ ?_ | refine ⟨_, Or.inl rfl, ?_⟩ | refine And.intro (Or.inl rfl) ?_ | refine ⟨_, Or.inr rfl, ?_⟩ | refine And.intro (Or.inr rfl) ?_))
  intro z z0 z1
  (repeat (first | refine ⟨rfl, ?_⟩ | refine ⟨_, rfl, ?_⟩ | refine ⟨_, _, rfl, rfl, ?_⟩ | refine ⟨_, _, rfl, ?_⟩ | refine ⟨_, _, _, rfl, ?_⟩ | refine ⟨_, _, _, rfl, rfl, ?_⟩ | refine ⟨_, _, _, rfl, rfl, rfl, ?_⟩ | refine ⟨_, _, _, _, rfl, ?_⟩ | refine ⟨_, _, _, _, _, rfl, ?_⟩ | refine ⟨_, _, _, _, _, _, rfl, ?_⟩ | refine ⟨_, _, _, _, _, _, _, rfl, ?_⟩ | refine ⟨_, _, _, _, _, _, _, _, rfl, ?_⟩ | refine ⟨_, _, _, _, rfl, rfl, ?_⟩ | refine And.intro (Nat.le_of_ble_eq_true rfl) ?_ | refine And.intro True.intro ?_ | refine ⟨_, _, _, rfl, (by first | exact T.cl_Scale | exact T.cl_Rules), (by first | exact T.na_Scale_signs | exact T.na_Scale_worths | exact T.na_Rules_own_scale | exact T.na_Rules_pairs), by rfl, ?_⟩ | refine ite_t rfl ?_ | refine ite_f rfl ?_ | refine And.intro (by decide) ?_ | refine And.intro (by omega) ?_ | refine And.intro (by (simp only [List.length_map, tx_len, List.length_cons, List.length_append, List.length_nil, List.length_replicate, List.length_take, List.length_drop, List.length_reverse]; omega)) ?_ | refine And.intro (by assumption) ?_ | refine And.intro ⟨_, rfl⟩ ?_ | refine ⟨_, Or.inl rfl, ?_⟩ | refine And.intro (Or.inl rfl) ?_ | refine ⟨_, Or.inr rfl, ?_⟩ | refine And.intro (Or.inr rfl) ?_))
  exact law_b4f_2 T TF c hu ou _ hN _ _ _ _ _ _ _ _ _ _
theorem law_b4 (T : Txt K mg) (TF : TFn) (c : Ctx L W ps) {u : wd} (hu : u.length ≤ 12) (ou : Ov L u) (E : DEnds) (hN : AnyE E) (x2 x4 x5 x6 x7 x8 x9 x10 x11 x12 x13 x15 x17 : SD) : D_c_b4 K TF E [.val .unk, .val .deal, x2, .val (dM L W (.lst (ps.map dP))), x4, x5, x6, x7, x8, x9, x10, x11, x12, x13, .val (ruO K L W ps), x15, .val (dW u), x17] := by
  have hR := c.hR
  unfold D_c_b4
  (repeat (first | refine ⟨rfl, ?_⟩ | refine ⟨_, rfl, ?_⟩ | refine ⟨_, _, rfl, rfl, ?_⟩ | refine ⟨_, _, rfl, ?_⟩ | refine ⟨_, _, _, rfl, ?_⟩ | refine ⟨_, _, _, rfl, rfl, ?_⟩ | refine ⟨_, _, _, rfl, rfl, rfl, ?_⟩ | refine ⟨_, _, _, _, rfl, ?_⟩ | refine ⟨_, _, _, _, _, rfl, ?_⟩ | refine ⟨_, _, _, _, _, _, rfl, ?_⟩ | refine ⟨_, _, _, _, _, _, _, rfl, ?_⟩ | refine ⟨_, _, _, _, _, _, _, _, rfl, ?_⟩ | refine ⟨_, _, _, _, rfl, rfl, ?_⟩ | refine And.intro (Nat.le_of_ble_eq_true rfl) ?_ | refine And.intro True.intro ?_ | refine ⟨_, _, _, rfl, (by first | exact T.cl_Scale | exact T.cl_Rules), (by first | exact T.na_Scale_signs | exact T.na_Scale_worths | exact T.na_Rules_own_scale | exact T.na_Rules_pairs), by rfl, ?_⟩ | refine ite_t rfl ?_ | refine ite_f rfl ?_ | refine And.intro (by decide) ?_ | refine And.intro (by omega) ?_ | refine And.intro (by (simp only [List.length_map, tx_len, List.length_cons, List.length_append, List.length_nil, List.length_replicate, List.length_take, List.length_drop, List.length_reverse]; omega)) ?_ | refine And.intro (by assumption) ?_ | refine And.intro ⟨_, rfl⟩ ?_ | refine ⟨_, Or.inl rfl, ?_⟩ | refine And.intro (Or.inl rfl) ?_ | refine ⟨_, Or.inr rfl, ?_⟩ | refine And.intro (Or.inr rfl) ?_))
  refine loop_inv (fun _ δ => ∃ x2 x4 x5 x6 x7 x8 x9 x10 x11 x12 x13 x15 x17, δ = [.val .unk, .val .deal, x2, .val (dM L W (.lst (ps.map dP))), x4, x5, x6, x7, x8, x9, x10, x11, x12, x13, .val (ruO K L W ps), x15, .val (dW u), x17]) ⟨_, _, _, _, _, _, _, _, _, _, _, _, _, rfl⟩ ?_ ?_
  · rintro δ ⟨x2, x4, x5, x6, x7, x8, x9, x10, x11, x12, x13, x15, x17, rfl⟩
    exact law_b5 T TF c hu ou E hN _ _ _ _ _ _ _ _ _ _ _ _ _
  · rintro i d δ N hd ⟨x2, x4, x5, x6, x7, x8, x9, x10, x11, x12, x13, x15, x17, rfl⟩ hM
    exact law_b4f T TF c hu ou _ ⟨fun _ _ _ _ _ _ _ _ _ _ _ _ _ => hM _ ⟨_, _, _, _, _, _, _, _, _, _, _, _, _, rfl⟩, fun _ _ _ _ _ _ _ _ _ _ _ _ _ => hM _ ⟨_, _, _, _, _, _, _, _, _, _, _, _, _, rfl⟩⟩ _ _ _ _ _ _ _ _ _ _ _ _ _
theorem law_b3f (T : Txt K mg) (TF : TFn) (c : Ctx L W ps) {u : wd} (hu : u.length ≤ 12) (ou : Ov L u) (E : DEnds) (hN : (∀ x2 x5 x6 x7 x8 x9 x10 x11 x12 x13 x15 x17 : SD, E.nx [.val .unk, .val .deal, x2, .val (dM L W (.lst (ps.map dP))), .val (.lst ((stand (lefts ps) u).map dPr)), x5, x6, x7, x8, x9, x10, x11, x12, x13, .val (ruO K L W ps), x15, .val (dW u), x17]) ∧ ∀ x2 x5 x6 x7 x8 x9 x10 x11 x12 x13 x15 x17 : SD, E.ct [.val .unk, .val .deal, x2, .val (dM L W (.lst (ps.map dP))), .val (.lst ((stand (lefts ps) u).map dPr)), x5, x6, x7, x8, x9, x10, x11, x12, x13, .val (ruO K L W ps), x15, .val (dW u), x17]) (x2 x5 x6 x7 x8 x9 x10 x11 x12 x13 x15 x17 : SD) : D_c_b3f K TF E [.val .unk, .val .deal, x2, .val (dM L W (.lst (ps.map dP))), .val (.lst ((stand (lefts ps) u).map dPr)), x5, x6, x7, x8, x9, x10, x11, x12, x13, .val (ruO K L W ps), x15, .val (dW u), x17] := by
  have hR := c.hR
  unfold D_c_b3f
  (repeat (first | refine ⟨rfl, ?_⟩ | refine ⟨_, rfl, ?_⟩ | refine ⟨_, _, rfl, rfl, ?_⟩ | refine ⟨_, _, rfl, ?_⟩ | refine ⟨_, _, _, rfl, ?_⟩ | refine ⟨_, _, _, rfl, rfl, ?_⟩ | refine ⟨_, _, _, rfl, rfl, rfl, ?_⟩ | refine ⟨_, _, _, _, rfl, ?_⟩ | refine ⟨_, _, _, _, _, rfl, ?_⟩ | refine ⟨_, _, _, _, _, _, rfl, ?_⟩ | refine ⟨_, _, _, _, _, _, _, rfl, ?_⟩ | refine ⟨_, _, _, _, _, _, _, _, rfl, ?_⟩ | refine ⟨_, _, _, _, rfl, rfl, ?_⟩ | refine And.intro (Nat.le_of_ble_eq_true rfl) ?_ | refine And.intro True.intro ?_ | refine ⟨_, _, _, rfl, (by first | exact T.cl_Scale | exact T.cl_Rules), (by first | exact T.na_Scale_signs | exact T.na_Scale_worths | exact T.na_Rules_own_scale | exact T.na_Rules_pairs), by rfl, ?_⟩ | refine ite_t rfl ?_ | refine ite_f rfl ?_ | refine And.intro (by decide) ?_ | refine And.intro (by omega) ?_ | refine And.intro (by (simp only [List.length_map, tx_len, List.length_cons, List.length_append, List.length_nil, List.length_replicate, List.length_take, List.length_drop, List.length_reverse]; omega)) ?_ | refine And.intro (by assumption) ?_ | refine And.intro ⟨_, rfl⟩ ?_ | refine ⟨_, Or.inl rfl, ?_⟩ | refine And.intro (Or.inl rfl) ?_ | refine ⟨_, Or.inr rfl, ?_⟩ | refine And.intro (Or.inr rfl) ?_))
  refine lookW_ok ou ?_
  (repeat (first | refine ⟨rfl, ?_⟩ | refine ⟨_, rfl, ?_⟩ | refine ⟨_, _, rfl, rfl, ?_⟩ | refine ⟨_, _, rfl, ?_⟩ | refine ⟨_, _, _, rfl, ?_⟩ | refine ⟨_, _, _, rfl, rfl, ?_⟩ | refine ⟨_, _, _, rfl, rfl, rfl, ?_⟩ | refine ⟨_, _, _, _, rfl, ?_⟩ | refine ⟨_, _, _, _, _, rfl, ?_⟩ | refine ⟨_, _, _, _, _, _, rfl, ?_⟩ | refine ⟨_, _, _, _, _, _, _, rfl, ?_⟩ | refine ⟨_, _, _, _, _, _, _, _, rfl, ?_⟩ | refine ⟨_, _, _, _, rfl, rfl, ?_⟩ | refine And.intro (Nat.le_of_ble_eq_true rfl) ?_ | refine And.intro True.intro ?_ | refine ⟨_, _, _, rfl, (by first | exact T.cl_Scale | exact T.cl_Rules), (by first | exact T.na_Scale_signs | exact T.na_Scale_worths | exact T.na_Rules_own_scale | exact T.na_Rules_pairs), by rfl, ?_⟩ | refine ite_t rfl ?_ | refine ite_f rfl ?_ | refine And.intro (by decide) ?_ | refine And.intro (by omega) ?_ | refine And.intro (by (simp only [List.length_map, tx_len, List.length_cons, List.length_append, List.length_nil, List.length_replicate, List.length_take, List.length_drop, List.length_reverse]; omega)) ?_ | refine And.intro (by assumption) ?_ | refine And.intro ⟨_, rfl⟩ ?_ | refine ⟨_, Or.inl rfl, ?_⟩ | refine And.intro (Or.inl rfl) ?_ | refine ⟨_, Or.inr rfl, ?_⟩ | refine And.intro (Or.inr rfl) ?_))
  refine ⟨(stand (lefts ps) u).map dPr, 1, rfl, noDl_prs _, fun s hs => ?_, ?_⟩
  · have hs : s ∈ ([.no, .no, .no, .no, .val (.lst ((stand (lefts ps) u).map dPr)), .no, .no, .no, .no, .no, .no, .no, .no, .no, .val (ruO K L W ps), .no, .val (dW u), .no] : List SD) := hs
    simp only [List.mem_cons, List.not_mem_nil, or_false] at hs
    rcases hs with h | h | h | h | h | h | h | h | h | h | h | h | h | h | h | h | h | h
    all_goals first | exact .inl h | exact .inr ⟨_, 4, h, noDl_ru⟩ | exact .inr ⟨_, 0, h, trivial⟩ | exact .inr ⟨_, 2, h, noDl_prs _⟩
  (repeat (first | refine ⟨rfl, ?_⟩ | refine ⟨_, rfl, ?_⟩ | refine ⟨_, _, rfl, rfl, ?_⟩ | refine ⟨_, _, rfl, ?_⟩ | refine ⟨_, _, _, rfl, ?_⟩ | refine ⟨_, _, _, rfl, rfl, ?_⟩ | refine ⟨_, _, _, rfl, rfl, rfl, ?_⟩ | refine ⟨_, _, _, _, rfl, ?_⟩ | refine ⟨_, _, _, _, _, rfl, ?_⟩ | refine ⟨_, _, _, _, _, _, rfl, ?_⟩ | refine ⟨_, _, _, _, _, _, _, rfl, ?_⟩ | refine ⟨_, _, _, _, _, _, _, _, rfl, ?_⟩ | refine ⟨_, _, _, _, rfl, rfl, ?_⟩ | refine And.intro (Nat.le_of_ble_eq_true rfl) ?_ | refine And.intro True.intro ?_ | refine ⟨_, _, _, rfl, (by first | exact T.cl_Scale | exact T.cl_Rules), (by first | exact T.na_Scale_signs | exact T.na_Scale_worths | exact T.na_Rules_own_scale | exact T.na_Rules_pairs), by rfl, ?_⟩ | refine ite_t rfl ?_ | refine ite_f rfl ?_ | refine And.intro (by decide) ?_ | refine And.intro (by omega) ?_ | refine And.intro (by (simp only [List.length_map, tx_len, List.length_cons, List.length_append, List.length_nil, List.length_replicate, List.length_take, List.length_drop, List.length_reverse]; omega)) ?_ | refine And.intro (by assumption) ?_ | refine And.intro ⟨_, rfl⟩ ?_ | refine ⟨_, Or.inl rfl, ?_⟩ | refine And.intro (Or.inl rfl) ?_ | refine ⟨_, Or.inr rfl, ?_⟩ | refine And.intro (Or.inr rfl) ?_))
  refine lookW_ok ou ?_
  have ee : decide ((stand (lefts ps) u).map dPr = []) = decide (stand (lefts ps) u = []) := by simp
  have hsl := stand_lim (ps_ok hR) (w := u) (by omega)
  have sP : shp (.lst ((stand (lefts ps) u).map dPr)) = true := stand_shp _ _ (by omega)
  have s0 : shp (.lst []) = true := rfl
  (repeat (first | refine ⟨rfl, ?_⟩ | refine ⟨_, rfl, ?_⟩ | refine ⟨_, _, rfl, rfl, ?_⟩ | refine ⟨_, _, rfl, ?_⟩ | refine ⟨_, _, _, rfl, ?_⟩ | refine ⟨_, _, _, rfl, rfl, ?_⟩ | refine ⟨_, _, _, rfl, rfl, rfl, ?_⟩ | refine ⟨_, _, _, _, rfl, ?_⟩ | refine ⟨_, _, _, _, _, rfl, ?_⟩ | refine ⟨_, _, _, _, _, _, rfl, ?_⟩ | refine ⟨_, _, _, _, _, _, _, rfl, ?_⟩ | refine ⟨_, _, _, _, _, _, _, _, rfl, ?_⟩ | refine ⟨_, _, _, _, rfl, rfl, ?_⟩ | refine And.intro (Nat.le_of_ble_eq_true rfl) ?_ | refine And.intro True.intro ?_ | refine ⟨_, _, _, rfl, (by first | exact T.cl_Scale | exact T.cl_Rules), (by first | exact T.na_Scale_signs | exact T.na_Scale_worths | exact T.na_Rules_own_scale | exact T.na_Rules_pairs), by rfl, ?_⟩ | refine ite_t rfl ?_ | refine ite_f rfl ?_ | refine And.intro (by decide) ?_ | refine And.intro (by omega) ?_ | refine And.intro (by (simp only [List.length_map, tx_len, List.length_cons, List.length_append, List.length_nil, List.length_replicate, List.length_take, List.length_drop, List.length_reverse]; omega)) ?_ | refine And.intro (by assumption) ?_ | refine And.intro ⟨_, rfl⟩ ?_ | refine ⟨_, Or.inl rfl, ?_⟩ | refine And.intro (Or.inl rfl) ?_ | refine ⟨_, Or.inr rfl, ?_⟩ | refine And.intro (Or.inr rfl) ?_))
  rw [eqv_nil, ee]
  (repeat (first | refine ⟨rfl, ?_⟩ | refine ⟨_, rfl, ?_⟩ | refine ⟨_, _, rfl, rfl, ?_⟩ | refine ⟨_, _, rfl, ?_⟩ | refine ⟨_, _, _, rfl, ?_⟩ | refine ⟨_, _, _, rfl, rfl, ?_⟩ | refine ⟨_, _, _, rfl, rfl, rfl, ?_⟩ | refine ⟨_, _, _, _, rfl, ?_⟩ | refine ⟨_, _, _, _, _, rfl, ?_⟩ | refine ⟨_, _, _, _, _, _, rfl, ?_⟩ | refine ⟨_, _, _, _, _, _, _, rfl, ?_⟩ | refine ⟨_, _, _, _, _, _, _, _, rfl, ?_⟩ | refine ⟨_, _, _, _, rfl, rfl, ?_⟩ | refine And.intro (Nat.le_of_ble_eq_true rfl) ?_ | refine And.intro True.intro ?_ | refine ⟨_, _, _, rfl, (by first | exact T.cl_Scale | exact T.cl_Rules), (by first | exact T.na_Scale_signs | exact T.na_Scale_worths | exact T.na_Rules_own_scale | exact T.na_Rules_pairs), by rfl, ?_⟩ | refine ite_t rfl ?_ | refine ite_f rfl ?_ | refine And.intro (by decide) ?_ | refine And.intro (by omega) ?_ | refine And.intro (by (simp only [List.length_map, tx_len, List.length_cons, List.length_append, List.length_nil, List.length_replicate, List.length_take, List.length_drop, List.length_reverse]; omega)) ?_ | refine And.intro (by assumption) ?_ | refine And.intro ⟨_, rfl⟩ ?_ | refine ⟨_, Or.inl rfl, ?_⟩ | refine And.intro (Or.inl rfl) ?_ | refine ⟨_, Or.inr rfl, ?_⟩ | refine And.intro (Or.inr rfl) ?_))
  refine ⟨⟨by show 2 ≤ 1000000; decide, fun d hd => ?_⟩, ?_⟩
  · simp only [List.mem_cons, List.not_mem_nil, or_false] at hd
    rcases hd with rfl | rfl
    · exact dep_prs _ (by omega)
    · trivial
  refine ⟨⟨_, rfl⟩, ?_⟩
  (repeat (first | refine ⟨rfl, ?_⟩ | refine ⟨_, rfl, ?_⟩ | refine ⟨_, _, rfl, rfl, ?_⟩ | refine ⟨_, _, rfl, ?_⟩ | refine ⟨_, _, _, rfl, ?_⟩ | refine ⟨_, _, _, rfl, rfl, ?_⟩ | refine ⟨_, _, _, rfl, rfl, rfl, ?_⟩ | refine ⟨_, _, _, _, rfl, ?_⟩ | refine ⟨_, _, _, _, _, rfl, ?_⟩ | refine ⟨_, _, _, _, _, _, rfl, ?_⟩ | refine ⟨_, _, _, _, _, _, _, rfl, ?_⟩ | refine ⟨_, _, _, _, _, _, _, _, rfl, ?_⟩ | refine ⟨_, _, _, _, rfl, rfl, ?_⟩ | refine And.intro (Nat.le_of_ble_eq_true rfl) ?_ | refine And.intro True.intro ?_ | refine ⟨_, _, _, rfl, (by first | exact T.cl_Scale | exact T.cl_Rules), (by first | exact T.na_Scale_signs | exact T.na_Scale_worths | exact T.na_Rules_own_scale | exact T.na_Rules_pairs), by rfl, ?_⟩ | refine ite_t rfl ?_ | refine ite_f rfl ?_ | refine And.intro (by decide) ?_ | refine And.intro (by omega) ?_ | refine And.intro (by (simp only [List.length_map, tx_len, List.length_cons, List.length_append, List.length_nil, List.length_replicate, List.length_take, List.length_drop, List.length_reverse]; omega)) ?_ | refine And.intro (by assumption) ?_ | refine And.intro ⟨_, rfl⟩ ?_ | refine ⟨_, Or.inl rfl, ?_⟩ | refine And.intro (Or.inl rfl) ?_ | refine ⟨_, Or.inr rfl, ?_⟩ | refine And.intro (Or.inr rfl) ?_))
  exact hN.1 _ _ _ _ _ _ _ _ _ _ _ _
theorem law_b3 (T : Txt K mg) (TF : TFn) (c : Ctx L W ps) {u : wd} (hu : u.length ≤ 12) (ou : Ov L u) (E : DEnds) (hN : AnyE E) (x2 x5 x6 x7 x8 x9 x10 x11 x12 x13 x15 x17 : SD) : D_c_b3 K TF E [.val .unk, .val .deal, x2, .val (dM L W (.lst (ps.map dP))), .val (.lst ((stand (lefts ps) u).map dPr)), x5, x6, x7, x8, x9, x10, x11, x12, x13, .val (ruO K L W ps), x15, .val (dW u), x17] := by
  have hR := c.hR
  unfold D_c_b3
  (repeat (first | refine ⟨rfl, ?_⟩ | refine ⟨_, rfl, ?_⟩ | refine ⟨_, _, rfl, rfl, ?_⟩ | refine ⟨_, _, rfl, ?_⟩ | refine ⟨_, _, _, rfl, ?_⟩ | refine ⟨_, _, _, rfl, rfl, ?_⟩ | refine ⟨_, _, _, rfl, rfl, rfl, ?_⟩ | refine ⟨_, _, _, _, rfl, ?_⟩ | refine ⟨_, _, _, _, _, rfl, ?_⟩ | refine ⟨_, _, _, _, _, _, rfl, ?_⟩ | refine ⟨_, _, _, _, _, _, _, rfl, ?_⟩ | refine ⟨_, _, _, _, _, _, _, _, rfl, ?_⟩ | refine ⟨_, _, _, _, rfl, rfl, ?_⟩ | refine And.intro (Nat.le_of_ble_eq_true rfl) ?_ | refine And.intro True.intro ?_ | refine ⟨_, _, _, rfl, (by first | exact T.cl_Scale | exact T.cl_Rules), (by first | exact T.na_Scale_signs | exact T.na_Scale_worths | exact T.na_Rules_own_scale | exact T.na_Rules_pairs), by rfl, ?_⟩ | refine ite_t rfl ?_ | refine ite_f rfl ?_ | refine And.intro (by decide) ?_ | refine And.intro (by omega) ?_ | refine And.intro (by (simp only [List.length_map, tx_len, List.length_cons, List.length_append, List.length_nil, List.length_replicate, List.length_take, List.length_drop, List.length_reverse]; omega)) ?_ | refine And.intro (by assumption) ?_ | refine And.intro ⟨_, rfl⟩ ?_ | refine ⟨_, Or.inl rfl, ?_⟩ | refine And.intro (Or.inl rfl) ?_ | refine ⟨_, Or.inr rfl, ?_⟩ | refine And.intro (Or.inr rfl) ?_))
  refine loop_inv (fun _ δ => ∃ x2 x5 x6 x7 x8 x9 x10 x11 x12 x13 x15 x17, δ = [.val .unk, .val .deal, x2, .val (dM L W (.lst (ps.map dP))), .val (.lst ((stand (lefts ps) u).map dPr)), x5, x6, x7, x8, x9, x10, x11, x12, x13, .val (ruO K L W ps), x15, .val (dW u), x17]) ⟨_, _, _, _, _, _, _, _, _, _, _, _, rfl⟩ ?_ ?_
  · rintro δ ⟨x2, x5, x6, x7, x8, x9, x10, x11, x12, x13, x15, x17, rfl⟩
    exact law_b4 T TF c hu ou E hN _ _ _ _ _ _ _ _ _ _ _ _ _
  · rintro i d δ N hd ⟨x2, x5, x6, x7, x8, x9, x10, x11, x12, x13, x15, x17, rfl⟩ hM
    exact law_b3f T TF c hu ou _ ⟨fun _ _ _ _ _ _ _ _ _ _ _ _ => hM _ ⟨_, _, _, _, _, _, _, _, _, _, _, _, rfl⟩, fun _ _ _ _ _ _ _ _ _ _ _ _ => hM _ ⟨_, _, _, _, _, _, _, _, _, _, _, _, rfl⟩⟩ _ _ _ _ _ _ _ _ _ _ _ _
theorem law_b2 (T : Txt K mg) (TF : TFn) (c : Ctx L W ps) {u : wd} (hu : u.length ≤ 12) (ou : Ov L u) (E : DEnds) (hN : AnyE E) (x2 x4 x5 x6 x7 x8 x9 x10 x11 x12 x13 x15 x17 : SD) : D_c_b2 K TF E [.val .unk, .val .deal, x2, .val (dM L W (.lst (ps.map dP))), x4, x5, x6, x7, x8, x9, x10, x11, x12, x13, .val (ruO K L W ps), x15, .val (dW u), x17] := by
  have hR := c.hR
  have sm : ∀ {w : wd}, Ov L w → Sm w := fun h d hd => hR.1.sub d (h d hd)
  unfold D_c_b2
  (repeat (first | refine ⟨rfl, ?_⟩ | refine ⟨_, rfl, ?_⟩ | refine ⟨_, _, rfl, rfl, ?_⟩ | refine ⟨_, _, rfl, ?_⟩ | refine ⟨_, _, _, rfl, ?_⟩ | refine ⟨_, _, _, rfl, rfl, ?_⟩ | refine ⟨_, _, _, rfl, rfl, rfl, ?_⟩ | refine ⟨_, _, _, _, rfl, ?_⟩ | refine ⟨_, _, _, _, _, rfl, ?_⟩ | refine ⟨_, _, _, _, _, _, rfl, ?_⟩ | refine ⟨_, _, _, _, _, _, _, rfl, ?_⟩ | refine ⟨_, _, _, _, _, _, _, _, rfl, ?_⟩ | refine ⟨_, _, _, _, rfl, rfl, ?_⟩ | refine And.intro (Nat.le_of_ble_eq_true rfl) ?_ | refine And.intro True.intro ?_ | refine ⟨_, _, _, rfl, (by first | exact T.cl_Scale | exact T.cl_Rules), (by first | exact T.na_Scale_signs | exact T.na_Scale_worths | exact T.na_Rules_own_scale | exact T.na_Rules_pairs), by rfl, ?_⟩ | refine ite_t rfl ?_ | refine ite_f rfl ?_ | refine And.intro (by decide) ?_ | refine And.intro (by omega) ?_ | refine And.intro (by (simp only [List.length_map, tx_len, List.length_cons, List.length_append, List.length_nil, List.length_replicate, List.length_take, List.length_drop, List.length_reverse]; omega)) ?_ | refine And.intro (by assumption) ?_ | refine And.intro ⟨_, rfl⟩ ?_ | refine ⟨_, Or.inl rfl, ?_⟩ | refine And.intro (Or.inl rfl) ?_ | refine ⟨_, Or.inr rfl, ?_⟩ | refine And.intro (Or.inr rfl) ?_))
  refine ⟨ps_ok hR, by omega, sm ou, fun p hp => (rs_pss hR p hp).1, ?_⟩
  exact law_b3 T TF c hu ou E hN _ _ _ _ _ _ _ _ _ _ _ _
theorem law_b0 (T : Txt K mg) (TF : TFn) (E : DEnds) (hN : AnyE E) (x2 x3 x4 x5 x6 x7 x8 x9 x10 x11 x12 x13 x14 x15 x16 x17 : SD) : D_c_b0 K TF E [.val .unk, .val .deal, x2, x3, x4, x5, x6, x7, x8, x9, x10, x11, x12, x13, x14, x15, x16, x17] := by
  unfold D_c_b0
  (repeat (first | refine ⟨rfl, ?_⟩ | refine ⟨_, rfl, ?_⟩ | refine ⟨_, _, rfl, rfl, ?_⟩ | refine ⟨_, _, rfl, ?_⟩ | refine ⟨_, _, _, rfl, ?_⟩ | refine ⟨_, _, _, rfl, rfl, ?_⟩ | refine ⟨_, _, _, rfl, rfl, rfl, ?_⟩ | refine ⟨_, _, _, _, rfl, ?_⟩ | refine ⟨_, _, _, _, _, rfl, ?_⟩ | refine ⟨_, _, _, _, _, _, rfl, ?_⟩ | refine ⟨_, _, _, _, _, _, _, rfl, ?_⟩ | refine ⟨_, _, _, _, _, _, _, _, rfl, ?_⟩ | refine ⟨_, _, _, _, rfl, rfl, ?_⟩ | refine And.intro (Nat.le_of_ble_eq_true rfl) ?_ | refine And.intro True.intro ?_ | refine ⟨_, _, _, rfl, (by first | exact T.cl_Scale | exact T.cl_Rules), (by first | exact T.na_Scale_signs | exact T.na_Scale_worths | exact T.na_Rules_own_scale | exact T.na_Rules_pairs), by rfl, ?_⟩ | refine ite_t rfl ?_ | refine ite_f rfl ?_ | refine And.intro (by decide) ?_ | refine And.intro (by omega) ?_ | refine And.intro (by (simp only [List.length_map, tx_len, List.length_cons, List.length_append, List.length_nil, List.length_replicate, List.length_take, List.length_drop, List.length_reverse]; omega)) ?_ | refine And.intro (by assumption) ?_ | refine And.intro ⟨_, rfl⟩ ?_ | refine ⟨_, Or.inl rfl, ?_⟩ | refine And.intro (Or.inl rfl) ?_ | refine ⟨_, Or.inr rfl, ?_⟩ | refine And.intro (Or.inr rfl) ?_))
  intro L W ps hS hl hp
  have hl : ps.length ≤ 5 := hl
  have hR : RsOk L W ps := ⟨hS, by omega, fun p hp' => sh_ru (hp p hp')⟩
  have hL : L ≠ [] := fun e => by
    have := hS.l1
    rw [e] at this
    exact absurd this (by decide)
  (repeat (first | refine ⟨rfl, ?_⟩ | refine ⟨_, rfl, ?_⟩ | refine ⟨_, _, rfl, rfl, ?_⟩ | refine ⟨_, _, rfl, ?_⟩ | refine ⟨_, _, _, rfl, ?_⟩ | refine ⟨_, _, _, rfl, rfl, ?_⟩ | refine ⟨_, _, _, rfl, rfl, rfl, ?_⟩ | refine ⟨_, _, _, _, rfl, ?_⟩ | refine ⟨_, _, _, _, _, rfl, ?_⟩ | refine ⟨_, _, _, _, _, _, rfl, ?_⟩ | refine ⟨_, _, _, _, _, _, _, rfl, ?_⟩ | refine ⟨_, _, _, _, _, _, _, _, rfl, ?_⟩ | refine ⟨_, _, _, _, rfl, rfl, ?_⟩ | refine And.intro (Nat.le_of_ble_eq_true rfl) ?_ | refine And.intro True.intro ?_ | refine ⟨_, _, _, rfl, (by first | exact T.cl_Scale | exact T.cl_Rules), (by first | exact T.na_Scale_signs | exact T.na_Scale_worths | exact T.na_Rules_own_scale | exact T.na_Rules_pairs), by rfl, ?_⟩ | refine ite_t rfl ?_ | refine ite_f rfl ?_ | refine And.intro (by decide) ?_ | refine And.intro (by omega) ?_ | refine And.intro (by (simp only [List.length_map, tx_len, List.length_cons, List.length_append, List.length_nil, List.length_replicate, List.length_take, List.length_drop, List.length_reverse]; omega)) ?_ | refine And.intro (by assumption) ?_ | refine And.intro ⟨_, rfl⟩ ?_ | refine ⟨_, Or.inl rfl, ?_⟩ | refine And.intro (Or.inl rfl) ?_ | refine ⟨_, Or.inr rfl, ?_⟩ | refine And.intro (Or.inr rfl) ?_))
  refine ⟨hS.l8, by decide, fun x ox hx => ?_⟩
  (repeat (first | refine ⟨rfl, ?_⟩ | refine ⟨_, rfl, ?_⟩ | refine ⟨_, _, rfl, rfl, ?_⟩ | refine ⟨_, _, rfl, ?_⟩ | refine ⟨_, _, _, rfl, ?_⟩ | refine ⟨_, _, _, rfl, rfl, ?_⟩ | refine ⟨_, _, _, rfl, rfl, rfl, ?_⟩ | refine ⟨_, _, _, _, rfl, ?_⟩ | refine ⟨_, _, _, _, _, rfl, ?_⟩ | refine ⟨_, _, _, _, _, _, rfl, ?_⟩ | refine ⟨_, _, _, _, _, _, _, rfl, ?_⟩ | refine ⟨_, _, _, _, _, _, _, _, rfl, ?_⟩ | refine ⟨_, _, _, _, rfl, rfl, ?_⟩ | refine And.intro (Nat.le_of_ble_eq_true rfl) ?_ | refine And.intro True.intro ?_ | refine ⟨_, _, _, rfl, (by first | exact T.cl_Scale | exact T.cl_Rules), (by first | exact T.na_Scale_signs | exact T.na_Scale_worths | exact T.na_Rules_own_scale | exact T.na_Rules_pairs), by rfl, ?_⟩ | refine ite_t rfl ?_ | refine ite_f rfl ?_ | refine And.intro (by decide) ?_ | refine And.intro (by omega) ?_ | refine And.intro (by (simp only [List.length_map, tx_len, List.length_cons, List.length_append, List.length_nil, List.length_replicate, List.length_take, List.length_drop, List.length_reverse]; omega)) ?_ | refine And.intro (by assumption) ?_ | refine And.intro ⟨_, rfl⟩ ?_ | refine ⟨_, Or.inl rfl, ?_⟩ | refine And.intro (Or.inl rfl) ?_ | refine ⟨_, Or.inr rfl, ?_⟩ | refine And.intro (Or.inr rfl) ?_))
  exact law_b2 T TF ⟨hR, hl⟩ hx ox E hN _ _ _ _ _ _ _ _ _ _ _ _ _
theorem law_law (T : Txt K mg) (TF : TFn) : D_law K TF endsT [.val .unk, .val .deal, .no, .no, .no, .no, .no, .no, .no, .no, .no, .no, .no, .no, .no, .no, .no, .no] := by
  rw [D_lawC_eq]
  refine ⟨4, rfl, by decide, by decide, ?_⟩
  refine loop_inv (fun _ δ => ∃ x2 x3 x4 x5 x6 x7 x8 x9 x10 x11 x12 x13 x14 x15 x16 x17, δ = [.val .unk, .val .deal, x2, x3, x4, x5, x6, x7, x8, x9, x10, x11, x12, x13, x14, x15, x16, x17]) ⟨_, _, _, _, _, _, _, _, _, _, _, _, _, _, _, _, rfl⟩ ?_ ?_
  · rintro δ ⟨x2, x3, x4, x5, x6, x7, x8, x9, x10, x11, x12, x13, x14, x15, x16, x17, rfl⟩
    exact law_t1 T TF _ rfl _ _ _ _ _ _ _ _ _ _ _ _ _ _ _ _
  · rintro i d δ N hd ⟨x2, x3, x4, x5, x6, x7, x8, x9, x10, x11, x12, x13, x14, x15, x16, x17, rfl⟩ hN
    exact law_b0 T TF _ ⟨fun _ _ _ _ _ _ _ _ _ _ _ _ _ _ _ _ => hN _ ⟨_, _, _, _, _, _, _, _, _, _, _, _, _, _, _, _, rfl⟩, fun _ _ _ _ _ _ _ _ _ _ _ _ _ _ _ _ => hN _ ⟨_, _, _, _, _, _, _, _, _, _, _, _, _, _, _, _, rfl⟩⟩ _ _ _ _ _ _ _ _ _ _ _ _ _ _ _ _
end
end SF

namespace SF
open PySem PySem.Spec PyProof.Rows L2 DL RZ
theorem PSt.set {H H1 : Hp} {a : Addr} {xs : List V} (st : H1 a = some (.lst xs) ∧ ∀ x, x ≠ a → H1 x = H x) {j : Nat} {v : V} : upd H1 a (.lst (xs.set j v)) a = some (.lst (xs.set j v)) ∧ ∀ x, x ≠ a → upd H1 a (.lst (xs.set j v)) x = H x :=
  ⟨upd_same, fun x hx => (upd_ne hx).trans (st.2 x hx)⟩
section
variable {P : Program} {w : World} {K : PySem.W.Frag} {mg : Str → Option Value} {base : Heap}
theorem ok_law_pick (T : Txt K mg) : FnOk P w K mg base CX0 1 (a_law_pick K) (fdOf K (a_law_pick K)) ["deal", "many"] (spD K (S_law_pick K)) := by
  refine T.F_law_pick.ok sc_law_pick (fun vs H Q E h => ?_) (fun cdv A outer s H vs Q E hr h => ?_)
  · obtain ⟨G, da, ds, P', ex, dl, ra, ⟨many, rfl, _⟩, _⟩ := h
    rw [← ra.length]
    rfl
  · obtain ⟨G, da, ds, P', ex, dl, ra, ⟨many, rfl, m0, m1, hP⟩, k⟩ := h
    cases ra with
    | cons r1 r2 =>
      cases r2 with
      | cons r2 r3 =>
        cases r3
        cases r2
        cases r1 with
        | deal ea =>
          rename_i a
          obtain ⟨ga, b, ns, p, q, mm, t, ha, hb, hn, p0, q0, mm0, mm1⟩ := dl.2 _ ea
          have nba : b ≠ a := fun z => by rw [z, ga] at hb; cases hb
          have fin : ∀ (H2 : Hp) (p q mm t r : Int), (H2 a = some (.lst [.ref b, .int p, .int q, .int mm, .int t]) ∧ ∀ x, x ≠ a → H2 x = H x) → 0 ≤ p → 0 ≤ q → 0 ≤ mm → mm < 2147483563 → 0 ≤ r → r < many → Q (.int r) H2 := by
            intro H2 p q mm t r st p0 q0 mm0 mm1 r0 r1
            have T2 : Trn K da G H G H2 := ⟨fun x o e => by
                have hx : x ≠ a := fun z => by rw [z, ga] at e; cases e
                rw [st.2 x hx]
                exact ex x o e, Same.refl _, fun x o e hx => by
                have hx' : x ≠ a := fun z => hx (by rw [ea, z])
                rw [st.2 x hx']
                exact .inl e, fun x o e => .inl e, dl.1.up (Same.refl _) (fun b => by
                by_cases z : b = a
                · rw [z]
                  exact .inr ⟨NTb.lst ha, NTb.lst st.1⟩
                · exact .inl (st.2 b z)) (fun _ _ z => z), fun c ec => by
                rw [ea] at ec
                cases ec
                exact ⟨ga, b, ns, p, q, mm, t, st.1, hb, hn, p0, q0, mm0, mm1⟩⟩
            exact k (.int r) _ G H2 T2 (.int r) (hP r r0 r1)
          have st0 : H a = some (.lst [.ref b, .int p, .int q, .int mm, .int t]) ∧ ∀ x, x ≠ a → H x = H x := ⟨ha, fun _ _ => rfl⟩
          refine ⟨_, PSs.nox ((pss_cons (ps_asg (pe_op op_add (pe_ix ix_list (pv 0) pe_int (fun _ _ => rfl)) pe_int) (pg_sub (pv 0) pe_int set_list))
    (pss_cons (ps_if (PW.pt (pw_and (pt_cmpR op_eq (pe_ix ix_list (pv 0) pe_int (fun _ _ => rfl)) pe_int (nomark _)) (pw_and1 (pt_cmpR op_lt (pe_ix ix_list (pv 0) pe_int (fun _ _ => rfl)) (pe_callB call_len_seq (by rfl) T.n_len PySem.boot_len (pa_cons (pe_ix ix_list (pv 0) pe_int (fun _ _ => rfl)) pa_nil)) (nomark _))))) (pss_cons (ps_set (i := 2) sc_law_pick.nd rfl (Or.inl rfl) (pe_ix ix_list (pe_ix ix_list (pv 0) pe_int (fun _ _ => rfl)) (pe_ix ix_list (pv 0) pe_int (fun _ _ => rfl)) (fun _ _ => rfl)))
    (pss_cons (ps_asg (pe_op op_add (pe_ix ix_list (pv 0) pe_int (fun _ _ => rfl)) pe_int) (pg_sub (pv 0) pe_int set_list))
    (pss_one (ps_if (pt_cmpR op_ge (pv 2) (pe_op op_pow pe_int pe_int) (nomark _)) (pss_one (ps_asg (pv 2) (pg_sub (pv 0) pe_int set_list))) (pss_one (ps_asg (pe_op op_mod (pe_op op_add (pe_op op_add (pe_op op_mul (pe_ix ix_list (pv 0) pe_int (fun _ _ => rfl)) pe_int) (pe_op op_mul (pe_op op_mod (pv 2) pe_int) pe_int)) (pe_ix ix_list (pv 0) pe_int (fun _ _ => rfl))) pe_int) (pg_sub (pv 0) pe_int set_list))))))) pss_nil)
    (pss_cons (ps_if (pt_cmpR op_gt (pe_ix ix_list (pv 0) pe_int (fun _ _ => rfl)) pe_int (nomark _)) (pss_cons (ps_set (i := 3) sc_law_pick.nd rfl (Or.inl rfl) (pe_op op_mod (pe_ix ix_list (pv 0) pe_int (fun _ _ => rfl)) (pv 1)))
    (pss_cons (ps_asg (pe_op op_fdiv (pe_ix ix_list (pv 0) pe_int (fun _ _ => rfl)) (pv 1)) (pg_sub (pv 0) pe_int set_list))
    (pss_one (ps_ret (pv 3))))) pss_nil)
    (pss_cons (ps_set (i := 4) sc_law_pick.nd rfl (Or.inl rfl) (pe_ix ix_list (pv 0) pe_int (fun _ _ => rfl)))
    (pss_cons (ps_asg (pe_op op_mod (pe_op op_add (pe_op op_add (pe_op op_add (pe_op op_mul (pe_op op_mod (pe_op op_mul (pv 4) (pv 4)) pe_int) pe_int) (pe_op op_mul (pv 4) pe_int)) (pe_op op_mul pe_int (pe_ix ix_list (pv 0) pe_int (fun _ _ => rfl)))) pe_int) pe_int) (pg_sub (pv 0) pe_int set_list))
    (pss_one (ps_ret (pe_op op_mod (pe_op op_add (pe_op op_fdiv (pe_ix ix_list (pv 0) pe_int (fun _ _ => rfl)) pe_int) (pe_op op_mul (pe_op op_mod (pe_ix ix_list (pv 0) pe_int (fun _ _ => rfl)) pe_int) pe_int)) (pv 1)))))))))), ?_⟩
          have hbx : ∀ H1 : Hp, (∀ x, x ≠ a → H1 x = H x) → H1 b = some (.lst (ns.map V.int)) := fun H1 h => by rw [h b nba]; exact ex _ _ hb
          refine ⟨_, rfl, a, _, 4, _, rfl, rfl, SqL.of st0.1, rfl, _, _, rfl, rfl, _, rfl, a, _, 4, 4, rfl, rfl, st0.1, rfl, ?_⟩
          have st1 := PSt.set st0 (j := 4) (v := .int (t + 1))
          have hb1 := hbx _ st1.2
          refine ⟨_, rfl, a, _, 2, _, rfl, rfl, SqL.of st1.1, rfl, rfl, _, rfl, ite_b (fun h1 => ?_) (fun h1 => ite_f rfl ?_)⟩
          · refine ⟨_, rfl, a, _, 1, _, rfl, rfl, SqL.of st1.1, rfl, _, rfl, a, _, 0, _, rfl, rfl, SqL.of st1.1, rfl, b, _, rfl, .inl (SqL.of hb1), _, _, rfl, rfl, _, rfl, ite_b (fun h2 => ?_) (fun h2 => ?_)⟩
            · have hlt : p < ((ns.map V.int).length : Nat) := of_decide_eq_true h2
              rw [List.length_map] at hlt
              obtain ⟨i, cell, _, hcell, _⟩ := at_nat (xs := ns) p0 hlt
              obtain rfl : p = (i : Nat) := by assumption
              have hat : atI (ns.map V.int) ((i : Nat) : Int) = some (.int cell) := atI_nat (by rw [List.getElem?_map, hcell]; rfl)
              refine ⟨_, rfl, a, _, 0, _, rfl, rfl, SqL.of st1.1, rfl, _, rfl, a, _, 1, _, rfl, rfl, SqL.of st1.1, rfl, b, _, _, _, rfl, rfl, SqL.of hb1, hat, ?_⟩
              refine ⟨_, rfl, a, _, 1, _, rfl, rfl, SqL.of st1.1, rfl, _, _, rfl, rfl, _, rfl, a, _, 1, 1, rfl, rfl, st1.1, rfl, ?_⟩
              have st2 := PSt.set st1 (j := 1) (v := .int ((i : Nat) + 1))
              refine ⟨_, rfl, _, _, rfl, rfl, ⟨by decide, by decide, by decide⟩, _, _, rfl, rfl, _, rfl, ite_b (fun h3 => ?_) (fun h3 => ?_)⟩
              · have h3' : (10 : Int) ^ (18 : Int).toNat ≤ cell := of_decide_eq_true h3
                have e18 : (10 : Int) ^ (18 : Int).toNat = 1000000000000000000 := by decide
                rw [e18] at h3'
                refine ⟨_, rfl, _, rfl, a, _, 2, 2, rfl, rfl, st2.1, rfl, ?_⟩
                have st3 := PSt.set st2 (j := 2) (v := .int cell)
                refine ⟨_, rfl, a, _, 2, _, rfl, rfl, SqL.of st3.1, rfl, _, _, rfl, rfl, _, rfl, ite_b (fun hq => ?_) (fun hq => ?_)⟩
                · have hq' : 0 < cell := of_decide_eq_true hq
                  refine ⟨_, rfl, a, _, 2, _, rfl, rfl, SqL.of st3.1, rfl, _, rfl, _, _, rfl, rfl, m0, ?_⟩
                  refine ⟨_, rfl, a, _, 2, _, rfl, rfl, SqL.of st3.1, rfl, _, rfl, _, _, rfl, rfl, ⟨m0, by omega⟩, _, rfl, a, _, 2, 2, rfl, rfl, st3.1, rfl, _, rfl, ?_⟩
                  exact fin _ (((i : Nat) + 1 : Int)) ((cell) / many) (mm) (t + 1) _ (PSt.set st3) (by omega) (Int.ediv_nonneg (by omega) (by omega)) (by omega) (by omega) (Int.emod_nonneg _ (by omega)) (Int.emod_lt_of_pos _ m0)
                · refine ⟨_, rfl, a, _, 3, _, rfl, rfl, SqL.of st3.1, rfl, ?_⟩
                  refine ⟨_, rfl, _, rfl, _, _, rfl, rfl, .inl ⟨by omega, by omega⟩, _, _, rfl, rfl, (by show (0 : Int) < _; decide), _, _, rfl, rfl, .inr ⟨by decide, by decide⟩, _, rfl, _, _, rfl, rfl, .inr ⟨by decide, by decide⟩, _, _, rfl, rfl, _, rfl, a, _, 4, _, rfl, rfl, SqL.of st3.1, rfl, _, _, rfl, rfl, .inl ⟨by decide, by decide⟩, _, _, rfl, rfl, _, _, rfl, rfl, _, _, rfl, rfl, (by show (0 : Int) < _; decide), _, rfl, a, _, 3, 3, rfl, rfl, st3.1, rfl, ?_⟩
                  have st9 := PSt.set st3 (j := 3) (v := .int (((mm) * (mm) % 2147483629 * 16807 + (mm) * 69621 + 97 * (t + 1) + 5) % 2147483563))
                  have z1 := Int.emod_nonneg ((mm) * (mm) % 2147483629 * 16807 + (mm) * 69621 + 97 * (t + 1) + 5) (show (2147483563 : Int) ≠ 0 by decide)
                  have z2 := Int.emod_lt_of_pos ((mm) * (mm) % 2147483629 * 16807 + (mm) * 69621 + 97 * (t + 1) + 5) (show (0 : Int) < 2147483563 by decide)
                  refine ⟨_, rfl, a, _, 3, _, rfl, rfl, SqL.of st9.1, rfl, _, _, rfl, rfl, ⟨by decide, by decide⟩, _, rfl, a, _, 3, _, rfl, rfl, SqL.of st9.1, rfl, _, _, rfl, rfl, (by show (0 : Int) < _; decide), _, _, rfl, rfl, .inr ⟨by decide, by decide⟩, _, _, rfl, rfl, _, rfl, _, _, rfl, rfl, m0, ?_⟩
                  exact fin _ (((i : Nat) + 1 : Int)) (cell) _ (t + 1) _ st9 (by omega) (by omega) z1 z2 (Int.emod_nonneg _ (by omega)) (Int.emod_lt_of_pos _ m0)
              · refine ⟨_, rfl, a, _, 3, _, rfl, rfl, SqL.of st2.1, rfl, _, _, rfl, rfl, .inr ⟨by decide, by decide⟩, _, rfl, _, _, rfl, rfl, (by show (0 : Int) < _; decide), _, _, rfl, rfl, .inr ⟨by decide, by decide⟩, _, _, rfl, rfl, _, rfl, a, _, 1, _, rfl, rfl, SqL.of st2.1, rfl, _, _, rfl, rfl, _, _, rfl, rfl, (by show (0 : Int) < _; decide), _, rfl, a, _, 3, 3, rfl, rfl, st2.1, rfl, ?_⟩
                have y1 := Int.emod_nonneg (mm * 40014 + cell % 2147483629 * 48271 + ((i : Nat) + 1)) (show (2147483563 : Int) ≠ 0 by decide)
                have y2 := Int.emod_lt_of_pos (mm * 40014 + cell % 2147483629 * 48271 + ((i : Nat) + 1)) (show (0 : Int) < 2147483563 by decide)
                have st3 := PSt.set st2 (j := 3) (v := .int ((mm * 40014 + cell % 2147483629 * 48271 + ((i : Nat) + 1)) % 2147483563))
                refine ⟨_, rfl, a, _, 2, _, rfl, rfl, SqL.of st3.1, rfl, _, _, rfl, rfl, _, rfl, ite_b (fun hq => ?_) (fun hq => ?_)⟩
                · have hq' : 0 < q := of_decide_eq_true hq
                  refine ⟨_, rfl, a, _, 2, _, rfl, rfl, SqL.of st3.1, rfl, _, rfl, _, _, rfl, rfl, m0, ?_⟩
                  refine ⟨_, rfl, a, _, 2, _, rfl, rfl, SqL.of st3.1, rfl, _, rfl, _, _, rfl, rfl, ⟨m0, by omega⟩, _, rfl, a, _, 2, 2, rfl, rfl, st3.1, rfl, _, rfl, ?_⟩
                  exact fin _ (((i : Nat) + 1 : Int)) ((q) / many) (((mm * 40014 + cell % 2147483629 * 48271 + ((i : Nat) + 1)) % 2147483563 : Int)) (t + 1) _ (PSt.set st3) (by omega) (Int.ediv_nonneg (by omega) (by omega)) (by omega) (by omega) (Int.emod_nonneg _ (by omega)) (Int.emod_lt_of_pos _ m0)
                · refine ⟨_, rfl, a, _, 3, _, rfl, rfl, SqL.of st3.1, rfl, ?_⟩
                  refine ⟨_, rfl, _, rfl, _, _, rfl, rfl, .inl ⟨by omega, by omega⟩, _, _, rfl, rfl, (by show (0 : Int) < _; decide), _, _, rfl, rfl, .inr ⟨by decide, by decide⟩, _, rfl, _, _, rfl, rfl, .inr ⟨by decide, by decide⟩, _, _, rfl, rfl, _, rfl, a, _, 4, _, rfl, rfl, SqL.of st3.1, rfl, _, _, rfl, rfl, .inl ⟨by decide, by decide⟩, _, _, rfl, rfl, _, _, rfl, rfl, _, _, rfl, rfl, (by show (0 : Int) < _; decide), _, rfl, a, _, 3, 3, rfl, rfl, st3.1, rfl, ?_⟩
                  have st9 := PSt.set st3 (j := 3) (v := .int (((((mm * 40014 + cell % 2147483629 * 48271 + ((i : Nat) + 1)) % 2147483563 : Int)) * (((mm * 40014 + cell % 2147483629 * 48271 + ((i : Nat) + 1)) % 2147483563 : Int)) % 2147483629 * 16807 + (((mm * 40014 + cell % 2147483629 * 48271 + ((i : Nat) + 1)) % 2147483563 : Int)) * 69621 + 97 * (t + 1) + 5) % 2147483563))
                  have z1 := Int.emod_nonneg ((((mm * 40014 + cell % 2147483629 * 48271 + ((i : Nat) + 1)) % 2147483563 : Int)) * (((mm * 40014 + cell % 2147483629 * 48271 + ((i : Nat) + 1)) % 2147483563 : Int)) % 2147483629 * 16807 + (((mm * 40014 + cell % 2147483629 * 48271 + ((i : Nat) + 1)) % 2147483563 : Int)) * 69621 + 97 * (t + 1) + 5) (show (2147483563 : Int) ≠ 0 by decide)
                  have z2 := Int.emod_lt_of_pos ((((mm * 40014 + cell % 2147483629 * 48271 + ((i : Nat) + 1)) % 2147483563 : Int)) * (((mm * 40014 + cell % 2147483629 * 48271 + ((i : Nat) + 1)) % 2147483563 : Int)) % 2147483629 * 16807 + (((mm * 40014 + cell % 2147483629 * 48271 + ((i : Nat) + 1)) % 2147483563 : Int)) * 69621 + 97 * (t + 1) + 5) (show (0 : Int) < 2147483563 by decide)
                  refine ⟨_, rfl, a, _, 3, _, rfl, rfl, SqL.of st9.1, rfl, _, _, rfl, rfl, ⟨by decide, by decide⟩, _, rfl, a, _, 3, _, rfl, rfl, SqL.of st9.1, rfl, _, _, rfl, rfl, (by show (0 : Int) < _; decide), _, _, rfl, rfl, .inr ⟨by decide, by decide⟩, _, _, rfl, rfl, _, rfl, _, _, rfl, rfl, m0, ?_⟩
                  exact fin _ (((i : Nat) + 1 : Int)) (q) _ (t + 1) _ st9 (by omega) (by omega) z1 z2 (Int.emod_nonneg _ (by omega)) (Int.emod_lt_of_pos _ m0)
            · skip
              refine ⟨_, rfl, a, _, 2, _, rfl, rfl, SqL.of st1.1, rfl, _, _, rfl, rfl, _, rfl, ite_b (fun hq => ?_) (fun hq => ?_)⟩
              · have hq' : 0 < q := of_decide_eq_true hq
                refine ⟨_, rfl, a, _, 2, _, rfl, rfl, SqL.of st1.1, rfl, _, rfl, _, _, rfl, rfl, m0, ?_⟩
                refine ⟨_, rfl, a, _, 2, _, rfl, rfl, SqL.of st1.1, rfl, _, rfl, _, _, rfl, rfl, ⟨m0, by omega⟩, _, rfl, a, _, 2, 2, rfl, rfl, st1.1, rfl, _, rfl, ?_⟩
                exact fin _ (p) ((q) / many) (mm) (t + 1) _ (PSt.set st1) (by omega) (Int.ediv_nonneg (by omega) (by omega)) (by omega) (by omega) (Int.emod_nonneg _ (by omega)) (Int.emod_lt_of_pos _ m0)
              · refine ⟨_, rfl, a, _, 3, _, rfl, rfl, SqL.of st1.1, rfl, ?_⟩
                refine ⟨_, rfl, _, rfl, _, _, rfl, rfl, .inl ⟨by omega, by omega⟩, _, _, rfl, rfl, (by show (0 : Int) < _; decide), _, _, rfl, rfl, .inr ⟨by decide, by decide⟩, _, rfl, _, _, rfl, rfl, .inr ⟨by decide, by decide⟩, _, _, rfl, rfl, _, rfl, a, _, 4, _, rfl, rfl, SqL.of st1.1, rfl, _, _, rfl, rfl, .inl ⟨by decide, by decide⟩, _, _, rfl, rfl, _, _, rfl, rfl, _, _, rfl, rfl, (by show (0 : Int) < _; decide), _, rfl, a, _, 3, 3, rfl, rfl, st1.1, rfl, ?_⟩
                have st9 := PSt.set st1 (j := 3) (v := .int (((mm) * (mm) % 2147483629 * 16807 + (mm) * 69621 + 97 * (t + 1) + 5) % 2147483563))
                have z1 := Int.emod_nonneg ((mm) * (mm) % 2147483629 * 16807 + (mm) * 69621 + 97 * (t + 1) + 5) (show (2147483563 : Int) ≠ 0 by decide)
                have z2 := Int.emod_lt_of_pos ((mm) * (mm) % 2147483629 * 16807 + (mm) * 69621 + 97 * (t + 1) + 5) (show (0 : Int) < 2147483563 by decide)
                refine ⟨_, rfl, a, _, 3, _, rfl, rfl, SqL.of st9.1, rfl, _, _, rfl, rfl, ⟨by decide, by decide⟩, _, rfl, a, _, 3, _, rfl, rfl, SqL.of st9.1, rfl, _, _, rfl, rfl, (by show (0 : Int) < _; decide), _, _, rfl, rfl, .inr ⟨by decide, by decide⟩, _, _, rfl, rfl, _, rfl, _, _, rfl, rfl, m0, ?_⟩
                exact fin _ (p) (q) _ (t + 1) _ st9 (by omega) (by omega) z1 z2 (Int.emod_nonneg _ (by omega)) (Int.emod_lt_of_pos _ m0)
          · skip
            refine ⟨_, rfl, a, _, 2, _, rfl, rfl, SqL.of st1.1, rfl, _, _, rfl, rfl, _, rfl, ite_b (fun hq => ?_) (fun hq => ?_)⟩
            · have hq' : 0 < q := of_decide_eq_true hq
              refine ⟨_, rfl, a, _, 2, _, rfl, rfl, SqL.of st1.1, rfl, _, rfl, _, _, rfl, rfl, m0, ?_⟩
              refine ⟨_, rfl, a, _, 2, _, rfl, rfl, SqL.of st1.1, rfl, _, rfl, _, _, rfl, rfl, ⟨m0, by omega⟩, _, rfl, a, _, 2, 2, rfl, rfl, st1.1, rfl, _, rfl, ?_⟩
              exact fin _ (p) ((q) / many) (mm) (t + 1) _ (PSt.set st1) (by omega) (Int.ediv_nonneg (by omega) (by omega)) (by omega) (by omega) (Int.emod_nonneg _ (by omega)) (Int.emod_lt_of_pos _ m0)
            · refine ⟨_, rfl, a, _, 3, _, rfl, rfl, SqL.of st1.1, rfl, ?_⟩
              refine ⟨_, rfl, _, rfl, _, _, rfl, rfl, .inl ⟨by omega, by omega⟩, _, _, rfl, rfl, (by show (0 : Int) < _; decide), _, _, rfl, rfl, .inr ⟨by decide, by decide⟩, _, rfl, _, _, rfl, rfl, .inr ⟨by decide, by decide⟩, _, _, rfl, rfl, _, rfl, a, _, 4, _, rfl, rfl, SqL.of st1.1, rfl, _, _, rfl, rfl, .inl ⟨by decide, by decide⟩, _, _, rfl, rfl, _, _, rfl, rfl, _, _, rfl, rfl, (by show (0 : Int) < _; decide), _, rfl, a, _, 3, 3, rfl, rfl, st1.1, rfl, ?_⟩
              have st9 := PSt.set st1 (j := 3) (v := .int (((mm) * (mm) % 2147483629 * 16807 + (mm) * 69621 + 97 * (t + 1) + 5) % 2147483563))
              have z1 := Int.emod_nonneg ((mm) * (mm) % 2147483629 * 16807 + (mm) * 69621 + 97 * (t + 1) + 5) (show (2147483563 : Int) ≠ 0 by decide)
              have z2 := Int.emod_lt_of_pos ((mm) * (mm) % 2147483629 * 16807 + (mm) * 69621 + 97 * (t + 1) + 5) (show (0 : Int) < 2147483563 by decide)
              refine ⟨_, rfl, a, _, 3, _, rfl, rfl, SqL.of st9.1, rfl, _, _, rfl, rfl, ⟨by decide, by decide⟩, _, rfl, a, _, 3, _, rfl, rfl, SqL.of st9.1, rfl, _, _, rfl, rfl, (by show (0 : Int) < _; decide), _, _, rfl, rfl, .inr ⟨by decide, by decide⟩, _, _, rfl, rfl, _, rfl, _, _, rfl, rfl, m0, ?_⟩
              exact fin _ (p) (q) _ (t + 1) _ st9 (by omega) (by omega) z1 z2 (Int.emod_nonneg _ (by omega)) (Int.emod_lt_of_pos _ m0)
end
end SF

namespace SF
open PySem PySem.Spec PyProof.Rows L2 DL RZ
section
variable {P : Program} {w : World} {K : PySem.W.Frag} {mg : Str → Option Value} {base : Heap}
theorem len_is_whole : ∀ ds P, S_is_whole K ds P → ds.length = ["thing", "low", "high"].length := by
  intro ds P h
  unfold S_is_whole at h
  repeat (obtain ⟨_, h⟩ := h)
  subst_vars
  rfl
theorem ok_is_whole (T : Txt K mg) : FnOk P w K mg base CX0 1 (a_is_whole K) (fdOf K (a_is_whole K)) ["thing", "low", "high"] (spD K (S_is_whole K)) := okD T.F_is_whole sc_is_whole len_is_whole fun cdv A outer s H E hr => let ⟨t, h1, h2⟩ := rd_is_whole T  hr; ⟨t, _, h1, h2, law_is_whole T⟩
theorem len_Scale_init : ∀ ds P PX, S_Scale_init K ds P PX → ds.length + 1 = ["self", "letters", "weights"].length := by
  intro ds P PX h
  unfold S_Scale_init at h
  repeat (obtain ⟨_, h⟩ := h)
  subst_vars
  rfl
theorem ok_Scale_init (T : Txt K mg) : FnOk P w K mg base (L2N.CX P w) 3 (a_Scale_init K) (fdOf K (a_Scale_init K)) ["self", "letters", "weights"] (spIX K (c_Scale K) (S_Scale_init K)) := okIXc T.F_Scale_init sc_Scale_init len_Scale_init fun cdv A outer s H E PX hr => let ⟨t, h1, h2⟩ := rd_Scale_init T (ok_BadLetters_init T) (ok_is_whole T) (ok_BadWeights_init T) PX hr; ⟨t, _, h1, h2, fun x dx ds P h => law_Scale_init T PX x dx ds P h⟩
theorem len_Scale_look : ∀ ds P PX, S_Scale_look K ds P PX → ds.length = ["self", "word"].length := by
  intro ds P PX h
  unfold S_Scale_look at h
  repeat (obtain ⟨_, h⟩ := h)
  subst_vars
  rfl
theorem ok_Scale_look (T : Txt K mg) : FnOk P w K mg base (L2N.CX P w) 3 (a_Scale_look K) (fdOf K (a_Scale_look K)) ["self", "word"] (spX K (S_Scale_look K)) := okXc T.F_Scale_look sc_Scale_look len_Scale_look fun cdv A outer s H E PX hr => let ⟨t, h1, h2⟩ := rd_Scale_look T (ok_BadWord_init T) PX hr; ⟨t, _, h1, h2, fun ds P h => law_Scale_look T PX ds P h⟩
theorem len_Scale_many : ∀ ds P PX, S_Scale_many K ds P PX → ds.length = ["self", "word"].length := by
  intro ds P PX h
  unfold S_Scale_many at h
  repeat (obtain ⟨_, h⟩ := h)
  subst_vars
  rfl
theorem ok_Scale_many (T : Txt K mg) : FnOk P w K mg base (L2N.CX P w) 4 (a_Scale_many K) (fdOf K (a_Scale_many K)) ["self", "word"] (spX K (S_Scale_many K)) := okXc T.F_Scale_many sc_Scale_many len_Scale_many fun cdv A outer s H E PX hr => let ⟨t, h1, h2⟩ := rd_Scale_many T (ok_Scale_look T) PX hr; ⟨t, _, h1, h2, fun ds P h => law_Scale_many T PX ds P h⟩
theorem len_Scale_weight : ∀ ds P PX, S_Scale_weight K ds P PX → ds.length = ["self", "word"].length := by
  intro ds P PX h
  unfold S_Scale_weight at h
  repeat (obtain ⟨_, h⟩ := h)
  subst_vars
  rfl
theorem ok_Scale_weight (T : Txt K mg) : FnOk P w K mg base (L2N.CX P w) 5 (a_Scale_weight K) (fdOf K (a_Scale_weight K)) ["self", "word"] (spX K (S_Scale_weight K)) := okXc T.F_Scale_weight sc_Scale_weight len_Scale_weight fun cdv A outer s H E PX hr => let ⟨t, h1, h2⟩ := rd_Scale_weight T (ok_Scale_many T) PX hr; ⟨t, _, h1, h2, fun ds P h => law_Scale_weight T PX ds P h⟩
theorem len_Scale_rank : ∀ ds P PX, S_Scale_rank K ds P PX → ds.length = ["self", "word"].length := by
  intro ds P PX h
  unfold S_Scale_rank at h
  repeat (obtain ⟨_, h⟩ := h)
  subst_vars
  rfl
theorem ok_Scale_rank (T : Txt K mg) : FnOk P w K mg base (L2N.CX P w) 6 (a_Scale_rank K) (fdOf K (a_Scale_rank K)) ["self", "word"] (spX K (S_Scale_rank K)) := okXc T.F_Scale_rank sc_Scale_rank len_Scale_rank fun cdv A outer s H E PX hr => let ⟨t, h1, h2⟩ := rd_Scale_rank T (ok_Scale_weight T) PX hr; ⟨t, _, h1, h2, fun ds P h => law_Scale_rank T PX ds P h⟩
theorem len_Scale_less : ∀ ds P PX, S_Scale_less K ds P PX → ds.length = ["self", "one", "other"].length := by
  intro ds P PX h
  unfold S_Scale_less at h
  repeat (obtain ⟨_, h⟩ := h)
  subst_vars
  rfl
theorem ok_Scale_less (T : Txt K mg) : FnOk P w K mg base (L2N.CX P w) 7 (a_Scale_less K) (fdOf K (a_Scale_less K)) ["self", "one", "other"] (spX K (S_Scale_less K)) := okXc T.F_Scale_less sc_Scale_less len_Scale_less fun cdv A outer s H E PX hr => let ⟨t, h1, h2⟩ := rd_Scale_less T (ok_Scale_rank T) PX hr; ⟨t, _, h1, h2, fun ds P h => law_Scale_less T PX ds P h⟩
theorem len_need_short : ∀ ds P PX, S_need_short K ds P PX → ds.length = ["word"].length := by
  intro ds P PX h
  unfold S_need_short at h
  repeat (obtain ⟨_, h⟩ := h)
  subst_vars
  rfl
theorem ok_need_short (T : Txt K mg) : FnOk P w K mg base (L2N.CX P w) 3 (a_need_short K) (fdOf K (a_need_short K)) ["word"] (spX K (S_need_short K)) := okXc T.F_need_short sc_need_short len_need_short fun cdv A outer s H E PX hr => let ⟨t, h1, h2⟩ := rd_need_short T (ok_TooLong_init T) PX hr; ⟨t, _, h1, h2, fun ds P h => law_need_short T PX ds P h⟩
theorem len_standing : ∀ ds P, S_standing K ds P → ds.length = ["pairs", "word"].length := by
  intro ds P h
  unfold S_standing at h
  repeat (obtain ⟨_, h⟩ := h)
  subst_vars
  rfl
theorem ok_standing (T : Txt K mg) : FnOk P w K mg base CX0 1 (a_standing K) (fdOf K (a_standing K)) ["pairs", "word"] (spN K (S_standing K)) := okN T.F_standing sc_standing len_standing fun cdv A outer s H E hr => let ⟨t, h1, h2⟩ := rd_standing T  hr; ⟨t, _, h1, h2, law_standing T⟩
theorem len_is_rule : ∀ ds P, S_is_rule K ds P → ds.length = ["scale", "pair"].length := by
  intro ds P h
  unfold S_is_rule at h
  repeat (obtain ⟨_, h⟩ := h)
  subst_vars
  rfl
theorem ok_is_rule (T : Txt K mg) : FnOk P w K mg base CX0 8 (a_is_rule K) (fdOf K (a_is_rule K)) ["scale", "pair"] (spD K (S_is_rule K)) := okD T.F_is_rule sc_is_rule len_is_rule fun cdv A outer s H E hr => let ⟨t, h1, h2⟩ := rd_is_rule T (ok_Scale_less T) hr; ⟨t, _, h1, h2, law_is_rule T⟩
theorem len_Rules_init : ∀ ds P PX, S_Rules_init K ds P PX → ds.length + 1 = ["self", "scale", "rules"].length := by
  rintro ds P PX ⟨_, _, _, h | h, _⟩ <;> rw [h] <;> rfl
theorem ok_Rules_init (T : Txt K mg) : FnOk P w K mg base (L2N.CX P w) 9 (a_Rules_init K) (fdOf K (a_Rules_init K)) ["self", "scale", "rules"] (spIX K (c_Rules K) (S_Rules_init K)) := okIXc T.F_Rules_init sc_Rules_init len_Rules_init fun cdv A outer s H E PX hr => let ⟨t, h1, h2⟩ := rd_Rules_init T (ok_TooMany_init T) (ok_is_rule T) (ok_BadRule_init T) PX hr; ⟨t, _, h1, h2, fun x dx ds P h => law_Rules_init T PX x dx ds P h⟩
theorem len_Rules_side : ∀ ds P PX, S_Rules_side K ds P PX → ds.length = ["self", "number", "back"].length := by
  intro ds P PX h
  unfold S_Rules_side at h
  repeat (obtain ⟨_, h⟩ := h)
  subst_vars
  rfl
theorem ok_Rules_side (T : Txt K mg) : FnOk P w K mg base (L2N.CX P w) 3 (a_Rules_side K) (fdOf K (a_Rules_side K)) ["self", "number", "back"] (spX K (S_Rules_side K)) := okXc T.F_Rules_side sc_Rules_side len_Rules_side fun cdv A outer s H E PX hr => let ⟨t, h1, h2⟩ := rd_Rules_side T (ok_NoRule_init T) PX hr; ⟨t, _, h1, h2, fun ds P h => law_Rules_side T PX ds P h⟩
theorem len_Rules_places : ∀ ds P PX, S_Rules_places K ds P PX → ds.length = ["self", "word"].length := by
  intro ds P PX h
  unfold S_Rules_places at h
  repeat (obtain ⟨_, h⟩ := h)
  subst_vars
  rfl
theorem ok_Rules_places (T : Txt K mg) : FnOk P w K mg base (L2N.CX P w) 4 (a_Rules_places K) (fdOf K (a_Rules_places K)) ["self", "word"] (spNX K (S_Rules_places K)) := okNXc T.F_Rules_places sc_Rules_places len_Rules_places fun cdv A outer s H E PX hr => let ⟨t, h1, h2⟩ := rd_Rules_places T (ok_Scale_look T) (ok_standing T) PX hr; ⟨t, _, h1, h2, fun ds P h => law_Rules_places T PX ds P h⟩
theorem len_Rules_is_end : ∀ ds P PX, S_Rules_is_end K ds P PX → ds.length = ["self", "word"].length := by
  intro ds P PX h
  unfold S_Rules_is_end at h
  repeat (obtain ⟨_, h⟩ := h)
  subst_vars
  rfl
theorem ok_Rules_is_end (T : Txt K mg) : FnOk P w K mg base (L2N.CX P w) 5 (a_Rules_is_end K) (fdOf K (a_Rules_is_end K)) ["self", "word"] (spX K (S_Rules_is_end K)) := okXc T.F_Rules_is_end sc_Rules_is_end len_Rules_is_end fun cdv A outer s H E PX hr => let ⟨t, h1, h2⟩ := rd_Rules_is_end T (ok_Rules_places T) PX hr; ⟨t, _, h1, h2, fun ds P h => law_Rules_is_end T PX ds P h⟩
theorem len_Rules_turned : ∀ ds P PX, S_Rules_turned K ds P PX → ds.length = ["self", "word", "place", "rule", "back"].length := by
  intro ds P PX h
  unfold S_Rules_turned at h
  repeat (obtain ⟨_, h⟩ := h)
  subst_vars
  rfl
theorem ok_Rules_turned (T : Txt K mg) : FnOk P w K mg base (L2N.CX P w) 4 (a_Rules_turned K) (fdOf K (a_Rules_turned K)) ["self", "word", "place", "rule", "back"] (spX K (S_Rules_turned K)) := okXc T.F_Rules_turned sc_Rules_turned len_Rules_turned fun cdv A outer s H E PX hr => let ⟨t, h1, h2⟩ := rd_Rules_turned T (ok_Scale_look T) (ok_Rules_side T) (ok_NoStep_init T) (ok_need_short T) PX hr; ⟨t, _, h1, h2, fun ds P h => law_Rules_turned T PX ds P h⟩
theorem len_law_deal : ∀ ds P, S_law_deal K ds P → ds.length = ["script"].length := by
  intro ds P h
  unfold S_law_deal at h
  repeat (obtain ⟨_, h⟩ := h)
  subst_vars
  rfl
theorem ok_law_deal (T : Txt K mg) : FnOk P w K mg base CX0 1 (a_law_deal K) (fdOf K (a_law_deal K)) ["script"] (spN K (S_law_deal K)) := okN T.F_law_deal sc_law_deal len_law_deal fun cdv A outer s H E hr => let ⟨t, h1, h2⟩ := rd_law_deal T  hr; ⟨t, _, h1, h2, law_law_deal T⟩
theorem len_law_of : ∀ ds P, S_law_of K ds P → ds.length = ["deal", "some"].length := by
  rintro ds P ⟨_, h, _⟩
  rcases h with h | ⟨_, _, h⟩ <;> rw [h] <;> rfl
theorem ok_law_of (T : Txt K mg) : FnOk P w K mg base CX0 2 (a_law_of K) (fdOf K (a_law_of K)) ["deal", "some"] (spD K (S_law_of K)) := okD T.F_law_of sc_law_of len_law_of fun cdv A outer s H E hr => let ⟨t, h1, h2⟩ := rd_law_of T (ok_law_pick T) hr; ⟨t, _, h1, h2, law_law_of T⟩
theorem ok_like0 (T : Txt K mg) : FnOk P w K mg base CX0 1 (a_law_like K) (fdOf K (a_law_like K)) ["found", "due"] (spD K (S_like 0)) := by
  refine T.F_law_like.ok sc_law_like (fun vs H Q E h => ?_) (fun cdv A outer s H vs Q E hr h => ?_)
  · obtain ⟨_, _, _, _, _, _, _, hf, _⟩ := h
    exact hf.elim
  · obtain ⟨_, _, _, _, _, _, _, hf, _⟩ := h
    exact hf.elim
theorem ok_like_go (T : Txt K mg) (n : Nat) : FnOk P w K mg base CX0 (n + 1) (a_law_like K) (fdOf K (a_law_like K)) ["found", "due"] (spD K (S_like n)) := by
  induction n with
  | zero => exact ok_like0 T
  | succ n ih =>
    exact okD T.F_law_like sc_law_like (fun ds P h => by obtain ⟨_, rfl, _⟩ := h; rfl) fun cdv A outer s H E hr => let ⟨t, h1, h2⟩ := rd_law_like T (S_like n) ih (Nat.le_refl _) hr; ⟨t, _, h1, h2, law_law_like T n⟩
theorem ok_law_like (T : Txt K mg) : FnOk P w K mg base CX0 5 (a_law_like K) (fdOf K (a_law_like K)) ["found", "due"] (spD K (S_law_like K)) := ok_like_go T 4
theorem len_law_letters : ∀ ds P, S_law_letters K ds P → ds.length = ["deal", "many"].length := by
  intro ds P h
  unfold S_law_letters at h
  repeat (obtain ⟨_, h⟩ := h)
  subst_vars
  rfl
theorem ok_law_letters (T : Txt K mg) : FnOk P w K mg base CX0 2 (a_law_letters K) (fdOf K (a_law_letters K)) ["deal", "many"] (spD K (S_law_letters K)) := okD T.F_law_letters sc_law_letters len_law_letters fun cdv A outer s H E hr => let ⟨t, h1, h2⟩ := rd_law_letters T (ok_law_pick T) hr; ⟨t, _, h1, h2, law_law_letters T⟩
theorem len_law_weights : ∀ ds P, S_law_weights K ds P → ds.length = ["deal", "many"].length := by
  intro ds P h
  unfold S_law_weights at h
  repeat (obtain ⟨_, h⟩ := h)
  subst_vars
  rfl
theorem ok_law_weights (T : Txt K mg) : FnOk P w K mg base CX0 2 (a_law_weights K) (fdOf K (a_law_weights K)) ["deal", "many"] (spD K (S_law_weights K)) := okD T.F_law_weights sc_law_weights len_law_weights fun cdv A outer s H E hr => let ⟨t, h1, h2⟩ := rd_law_weights T (ok_law_pick T) hr; ⟨t, _, h1, h2, law_law_weights T⟩
theorem len_law_word : ∀ ds P, S_law_word K ds P → ds.length = ["deal", "letters", "most"].length := by
  intro ds P h
  unfold S_law_word at h
  repeat (obtain ⟨_, h⟩ := h)
  subst_vars
  rfl
theorem ok_law_word (T : Txt K mg) : FnOk P w K mg base CX0 3 (a_law_word K) (fdOf K (a_law_word K)) ["deal", "letters", "most"] (spD K (S_law_word K)) := okD T.F_law_word sc_law_word len_law_word fun cdv A outer s H E hr => let ⟨t, h1, h2⟩ := rd_law_word T (ok_law_pick T) (ok_law_of T) hr; ⟨t, _, h1, h2, law_law_word T⟩
theorem len_law_rank : ∀ ds P, S_law_rank K ds P → ds.length = ["m", "word"].length := by
  intro ds P h
  unfold S_law_rank at h
  repeat (obtain ⟨_, h⟩ := h)
  subst_vars
  rfl
theorem ok_law_rank (T : Txt K mg) : FnOk P w K mg base CX0 1 (a_law_rank K) (fdOf K (a_law_rank K)) ["m", "word"] (spD K (S_law_rank K)) := okD T.F_law_rank sc_law_rank len_law_rank fun cdv A outer s H E hr => let ⟨t, h1, h2⟩ := rd_law_rank T  hr; ⟨t, _, h1, h2, law_law_rank T⟩
theorem len_law_oriented : ∀ ds P, S_law_oriented K ds P → ds.length = ["m", "one", "other"].length := by
  intro ds P h
  unfold S_law_oriented at h
  repeat (obtain ⟨_, h⟩ := h)
  subst_vars
  rfl
theorem ok_law_oriented (T : Txt K mg) : FnOk P w K mg base CX0 2 (a_law_oriented K) (fdOf K (a_law_oriented K)) ["m", "one", "other"] (spD K (S_law_oriented K)) := okD T.F_law_oriented sc_law_oriented len_law_oriented fun cdv A outer s H E hr => let ⟨t, h1, h2⟩ := rd_law_oriented T (ok_law_rank T) hr; ⟨t, _, h1, h2, law_law_oriented T⟩
theorem len_law_any_list : ∀ ds P, S_law_any_list K ds P → ds.length = ["deal", "most"].length := by
  intro ds P h
  unfold S_law_any_list at h
  repeat (obtain ⟨_, h⟩ := h)
  subst_vars
  rfl
theorem ok_law_any_list (T : Txt K mg) : FnOk P w K mg base CX0 4 (a_law_any_list K) (fdOf K (a_law_any_list K)) ["deal", "most"] (spD K (S_law_any_list K)) := okD T.F_law_any_list sc_law_any_list len_law_any_list fun cdv A outer s H E hr => let ⟨t, h1, h2⟩ := rd_law_any_list T (ok_law_pick T) (ok_law_of T) (ok_law_letters T) (ok_law_weights T) (ok_law_word T) (ok_law_oriented T) hr; ⟨t, _, h1, h2, law_law_any_list T⟩
theorem len_law_scale_of : ∀ ds P, S_law_scale_of K ds P → ds.length = ["m"].length := by
  intro ds P h
  unfold S_law_scale_of at h
  repeat (obtain ⟨_, h⟩ := h)
  subst_vars
  rfl
theorem ok_law_scale_of (T : Txt K mg) : FnOk P w K mg base CX0 5 (a_law_scale_of K) (fdOf K (a_law_scale_of K)) ["m"] (spD K (S_law_scale_of K)) := okD T.F_law_scale_of sc_law_scale_of len_law_scale_of fun cdv A outer s H E hr => let ⟨t, h1, h2⟩ := rd_law_scale_of T (ok_Scale_init T) hr; ⟨t, _, h1, h2, law_law_scale_of T⟩
theorem len_law_rules_of : ∀ ds P, S_law_rules_of K ds P → ds.length = ["m"].length := by
  intro ds P h
  unfold S_law_rules_of at h
  repeat (obtain ⟨_, h⟩ := h)
  subst_vars
  rfl
theorem ok_law_rules_of (T : Txt K mg) : FnOk P w K mg base CX0 11 (a_law_rules_of K) (fdOf K (a_law_rules_of K)) ["m"] (spD K (S_law_rules_of K)) := okD T.F_law_rules_of sc_law_rules_of len_law_rules_of fun cdv A outer s H E hr => let ⟨t, h1, h2⟩ := rd_law_rules_of T (ok_Rules_init T) (ok_law_scale_of T) hr; ⟨t, _, h1, h2, law_law_rules_of T⟩
theorem len_law_standing : ∀ ds P, S_law_standing K ds P → ds.length = ["pairs", "word"].length := by
  intro ds P h
  unfold S_law_standing at h
  repeat (obtain ⟨_, h⟩ := h)
  subst_vars
  rfl
theorem ok_law_standing (T : Txt K mg) : FnOk P w K mg base CX0 1 (a_law_standing K) (fdOf K (a_law_standing K)) ["pairs", "word"] (spN K (S_law_standing K)) := okN T.F_law_standing sc_law_standing len_law_standing fun cdv A outer s H E hr => let ⟨t, h1, h2⟩ := rd_law_standing T  hr; ⟨t, _, h1, h2, law_law_standing T⟩
theorem len_law_turned : ∀ ds P, S_law_turned K ds P → ds.length = ["pairs", "word", "place", "rule", "back_z"].length := by
  intro ds P h
  unfold S_law_turned at h
  repeat (obtain ⟨_, h⟩ := h)
  subst_vars
  rfl
theorem ok_law_turned (T : Txt K mg) : FnOk P w K mg base CX0 1 (a_law_turned K) (fdOf K (a_law_turned K)) ["pairs", "word", "place", "rule", "back_z"] (spD K (S_law_turned K)) := okD T.F_law_turned sc_law_turned len_law_turned fun cdv A outer s H E hr => let ⟨t, h1, h2⟩ := rd_law_turned T  hr; ⟨t, _, h1, h2, law_law_turned T⟩
end
section
variable {P : Program} {w : World} {K : PySem.W.Frag} {mg : Str → Option Value} {base : Heap}
def spLaw (K : PySem.W.Frag) : Sp := fun vs H Q _ => ∃ (a : Addr) (ns : List Int), vs = [.ref a] ∧ SqL K H a (ns.map V.int) ∧ ns.length ≤ 63 ∧ H (lawT K) = some (.tbl #[]) ∧ ∀ H', Q (.bl true) H'
theorem ints_back {da : Option Addr} {G : Hp} : ∀ {ns : List Int} {xs : List V}, RpA K da G (dI ns) xs → xs = ns.map V.int
  | [], _, .nil => rfl
  | _ :: ns, _, .cons (.int _) r => by rw [List.map_cons, ints_back r]
def noTb (H : Hp) : Hp := fun c => match H c with
  | some (.tbl _) => none
  | x => x
theorem noTb_same (H : Hp) : Same (noTb H) H := fun c o q => by
  unfold noTb at q
  split at q
  · cases q
  · exact q
theorem noTb_no (H : Hp) (b : Addr) (ps : Array Value) : noTb H b ≠ some (.tbl ps) := fun q => by
  unfold noTb at q
  split at q
  · cases q
  · rename_i h
    exact h _ q
theorem noTb_at {H : Hp} {c : Addr} {o : HO} (h : H c = some o) (n : ∀ ps, o ≠ .tbl ps) : noTb H c = some o := by
  unfold noTb
  split
  · rename_i ps q
    rw [h] at q
    exact absurd (Option.some.inj q) (n ps)
  · exact h
theorem noTb_seq {H : Hp} {a : Addr} {xs : List V} (h : SqL K H a xs) : SqL K (noTb H) a xs := by
  rcases h with (h | ⟨o, h⟩) | h
  · exact .inl (.inl (noTb_at h fun _ z => nomatch z))
  · exact .inl (.inr ⟨o, noTb_at h fun _ z => nomatch z⟩)
  · exact .inr h
theorem ok_law (T : Txt K mg) (TB : LamX.TabB base mg (He.cT K ("law", none)).1 (lawT K)) : FnOk P w K mg base CX0 14 (a_law K) (fdOf K (a_law K)) ["script"] (spLaw K) := by
  obtain ⟨oc, od, dV, kV, doc, pm, an, cdv, ct, osl, efd, lk, hcd, _, _⟩ := T.F_law.ex
  obtain ⟨c, ec⟩ := He.codeIn_ref hcd
  have hc1 : (He.cT K ("law", none)).1 = c := by
    have := He.codeOf_eq (c := c) lk (by rw [efd]; exact ec)
    exact this
  rw [hc1] at TB
  subst ec
  have key := fn_of (P := P) (w := w) (mg := mg) (base := base) (CX := CX0) (k := 14 - 1) (sp := spLaw K) (efd ▸ lk) hcd sc_law (fun vs H Q E h => by
    obtain ⟨a, ns, rfl, _⟩ := h
    rfl) (fun A outer s H vs Q E hr h => by
    obtain ⟨a, ns, rfl, hS, hl, hTb, hQ⟩ := h
    obtain ⟨t, TF, h1, h2⟩ := rd_law (P := P) (w := w) (base := base) (outer := outer) (H := H) (E := E) T (ok_law_deal T) (ok_law_any_list T) (ok_law_word T) (ok_law_rules_of T) (ok_law_standing T) (ok_Rules_places T) (ok_law_like T) (ok_Rules_is_end T) (ok_law_of T) (ok_law_pick T) (ok_law_turned T) (ok_Rules_turned T) (ok_Rules_init T) (ok_Scale_init T) TB hr
    refine ⟨_, h1.nox, ?_⟩
    have dl0 : DealOk K none (noTb H) H := ⟨⟨fun ps hp => by
      rw [hTb] at hp
      cases hp
      exact ⟨by simp [TriplesOk], fun pos cv q => by simp [codeAmong] at q⟩, fun _ => ⟨_, hTb⟩, noTb_no H⟩, fun c ec => nomatch ec⟩
    refine ⟨_, rfl, noTb H, none, [.scr ns], fun ds => ∃ m : Int, 0 ≤ m ∧ m < 2147483563 ∧ ds = [.lst (dI ns), .int 0, .int 0, .int m, .int 0], noTb_same H, dl0, .cons (.scr (noTb_seq hS)) .nil, ⟨ns, rfl, hl, fun m m0 m1 => ⟨m, m0, m1, rfl⟩⟩, fun ds a' xs G' H' T1 ha' ga' ha0 hna rx p => ?_⟩
    obtain ⟨m, m0, m1, rfl⟩ := p
    cases rx with
    | cons r1 rx =>
    cases rx with
    | cons r2 rx =>
    cases rx with
    | cons r3 rx =>
    cases rx with
    | cons r4 rx =>
    cases rx with
    | cons r5 rx =>
    cases rx
    cases r2; cases r3; cases r4; cases r5
    cases r1 with
    | lst hb rb =>
    rename_i b xs
    obtain rfl := ints_back rb
    have dl : DealOk K (some a') G' H' := ⟨T1.dl.1, fun c ec => by
      cases ec
      exact ⟨ga', b, ns, 0, 0, m, 0, ha', hb, hl, by decide, by decide, m0, m1⟩⟩
    have R0 := start_rel (K := K) (N := ["script", "deal", "turn", "m", "due", "again", "told", "step", "want", "found", "asks", "back_z", "place", "rule", "rules", "wide", "word", "ask"]) (ds := [.unk, .deal]) (vs := [.ref a, .ref a']) T1.ex dl (.cons (.unk _) (.cons (.deal rfl) .nil))
    refine h2 ⟨G', H'⟩ (some a') G' _ _ H' _ endsT ⟨fun _ _ _ _ _ p => p.elim, fun _ _ _ _ _ p => p.elim, fun _ _ _ _ _ p => p.elim, fun d v G1 H1 T2 r p => ?_, fun _ _ _ _ _ _ _ _ _ _ _ p => p.elim, fun _ _ _ _ _ _ _ _ _ _ _ _ _ _ _ _ p => p.elim⟩ ⟨R0, fun _ _ _ _ _ _ _ _ _ _ _ z => z.elim⟩ (law_law T TF)
    have p' : d = .bl true := p
    subst p'
    cases r
    exact hQ _)
  rw [efd]
  exact key
theorem facts {h : Heap} (X : K.In h) (G : h.Ns mainGlobals mg) {fa : Addr} (hfa : mg "law" = some (.ref fa)) (c : He.SaysX fas fns [] tfs exs w h K) :
    ∃ fd : FuncData, (∀ (s : Shared) (v : Value), BindsTo s fd ⟨[v], []⟩ [("script", v)]) ∧ ∀ base : Heap, K.In base → base.Ns mainGlobals mg → (∀ p ∈ [He.cT K ("law", none)], LamX.TabB base mg p.1 p.2) → FnOk P w K mg base CX0 14 fa fd ["script"] (spLaw K) := by
  have T := txt_of X G c
  have e := hfa.symm.trans T.g_law
  cases e
  have b := FunD.bindsA (ps := ["script"]) T.F_law fun _ _ _ _ _ _ us hl => match us, hl with | [_], _ => rfl
  exact ⟨_, fun s v => b s [v] rfl, fun base _ _ TB => ok_law T (TB _ List.mem_cons_self)⟩
end

end SF

open PySem PySem.W PySem.Calls PyProof.Rows
theorem SF.one {α : Type} {P : α → Prop} {a : α} (h : P a) : ∀ p ∈ [a], P p := fun p hp => by
  obtain rfl := List.mem_singleton.mp hp
  exact h
open SF in
theorem PySem.Challenge.cw_samefare_k04_steps_and_places_holds : PySem.Challenge.rw_samefare_k04_steps_and_places.Holds := by
  w_on; o_law
  refine HandSHeadRun.head_any (r := OpenLaw.row PySem.Challenge.rw_samefare_k04_steps_and_places) (q := view (OpenLaw.row PySem.Challenge.rw_samefare_k04_steps_and_places).prog [62]) (H := SF.hk) (ob := SF.ob) (M := 20000) (loose := SF.names) (d := HandSHeadRun.topDef (OpenLaw.row PySem.Challenge.rw_samefare_k04_steps_and_places).prog 62) (kwd := []) SF.ob_eq
    (by kernel_rfl) (fun s => by kernel_rfl) SF.run (by kernel_rfl) (by kernel_rfl) (by kernel_rfl) (by rfl) (by first | assumption | decide +kernel) (by decide +kernel) ⟨rfl, rfl, rfl, rfl, rfl, by decide +kernel⟩ ?hw ?hc
  case hw => w_witness2
  case hc =>
    refine LamX.walk_ofTsE (l := PySem.Challenge.rw_samefare_k04_steps_and_places) (n := 63) (k := 14) (x := "script") (CX := fun _ => L2.CX0) rfl (by decide) (by kernel_rfl) ⟨rfl, by decide, by decide⟩ ?F (fun _ _ _ _ _ z => z)
    intro w mg fa h Y G hmg0
    obtain ⟨K, KX, c⟩ := Y
    have hmg : mg ("law" : PySem.Str) = some (.ref fa) := by
      have e : (HandSHeadRun.topDef (OpenLaw.row PySem.Challenge.rw_samefare_k04_steps_and_places).prog 62).name = ("law" : PySem.Str) := by kernel_rfl
      rw [← e]
      exact hmg0
    obtain ⟨fd, hb, hF⟩ := SF.facts (P := (PySem.Challenge.rw_samefare_k04_steps_and_places).prog) (w := w) KX G hmg c
    refine ⟨K, KX, fd, [He.cT K ("law", none)], SF.spLaw K, one (c.empty _ List.mem_cons_self), one (c.out _ List.mem_cons_self), one (PySem.W.codeHd_of_K KX (c.hd _ List.mem_cons_self)), hb, fun H a ns hl _ hT hS => ⟨a, ns, rfl, hS, hl, hT _ List.mem_cons_self, fun _ => rfl⟩, hF⟩
#print axioms PySem.Challenge.cw_samefare_k04_steps_and_places_holds
