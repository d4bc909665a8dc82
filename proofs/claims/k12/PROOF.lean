import PyProof.Rows.All
import Wide.All
import OpenK.AllK
import Wide.FinOn
import HandS.ForMost
import HandS.ForExc
import HandS.Exc
import HandS.TryOnly
import HandS.ExcOwn
import HandS.Defaults
import HandS.IsInst
import HandS.Flow
import HandS.Wide
import HandS.Lambda
import HandS.HeadHook4
import HandS.ExcCtx
import HandS.MakeKwOnly
import HandS.Small
import HandS.SortInts
import HandS.Conv
import HandS.SetFor
import KE.GoesEnum
import KE.KDictZip
import KE.KDictItemsList
import KE.KUnpackStar
import HandS.Ends
import HandS.HeadEnd
import HandS.Head0
import HandS.Head1
import HandS.Head2
import HandS.HeadHook1
import HandS.HeadHook2
import HandS.DictComp
import HandS.Deep
import HandS.OwnEq
import HandS.Style
import HandS.Text
import HandS.FStr
import PyProof.StrOps2
import HandS.ExcIs
import HandS.TryMany
import HandS.EndTab
import KE.DataMinMax
import KE.SortData
import HandS.NoneIn
import HandS.ClsMeth
import KE.GoesSet
import KE.GoesMore
import PyProof.InstNe
import HandS.Zip
import HandS.TupMul
import HandS.More
import HandS.HeadHook3
import KE.KDictCopyH
import HandS.HotCalls
import KE.KDictKeyed
import HandS.ExcInit
import HandS.ExcField
import KE.KExcIs
import PyProof.Rows.StrMeet
import HandS.WideMore
import KE.KCallOwn
import PySem.Challenge.RW_reachyard_k12_rows_refused_in_turn
import PyProof.StrLawsTight
import PyProof.Rows.StrDigitsNeg
import KE.KIntText
import KE.IntTextLaws
set_option Elab.async false
set_option maxRecDepth 100000
set_option maxHeartbeats 0
set_option linter.all false
namespace DL
open PySem L2

/-- data: what a value is worth; oid: an object of the store -/
inductive D where
  | non | bl (b : Bool) | int (i : Int) | str (x : Str) | ty (n : String)
  | cls (c : Str) | tup (xs : List D) | lst (xs : List D) | scr (xs : List D) | dic (kvs : List (Key × D)) | ins (C : Str) (fs : List (Str × D)) | oid (n : Nat) | exc (C : Str) (fs : List (Str × D))
end DL

namespace DL
open PySem L2

end DL

namespace DL
open PySem L2

end DL

namespace DL
open PySem L2

end DL

namespace DL
open PySem L2

end DL

namespace DL
open PySem L2

end DL

namespace DL
open PySem L2

end DL

namespace DL
open PySem L2

end DL

namespace DL
open PySem L2

section
variable {X : Cx} {W : WX} {k : Nat} {a b c e : Expr} {es : List Expr} {fa fb fc fe : FE} {pos : Pos}
def valD (ks : List (Key × D)) (k : Key) : Option D := (ks.find? fun q => decide (q.1 = k)).map (·.2)
end
end DL

namespace DL
open PySem L2

end DL

namespace PySem
open PySem.Spec PyProof.Rows L2
end PySem
namespace DL
open PySem L2
end DL

namespace PySem
open PySem.Spec PySem.Calls PyProof.Rows PySem.W L2
namespace F
end F
end PySem

namespace DL
open PySem L2
end DL

namespace PySem
open PySem.Spec PySem.Calls PyProof.Rows PySem.W L2
end PySem
namespace DL
open PySem L2
end DL

namespace DL
open PySem PySem.Spec PyProof.Rows L2

end DL

namespace DL
open PySem PySem.Spec PyProof.Rows L2
end DL

namespace DL
open PySem PySem.Spec PyProof.Rows L2
end DL

namespace DL
open PySem PySem.Spec PyProof.Rows L2
end DL

namespace DL
open PySem PySem.Spec PyProof.Rows L2
end DL

namespace DL
open PySem PySem.Spec PyProof.Rows L2
end DL

namespace DL
open PySem PySem.Spec PyProof.Rows L2
end DL

namespace DL
open PySem PySem.Spec PyProof.Rows L2
end DL

namespace DL
open PySem PySem.Spec PyProof.Rows L2
end DL

namespace DL
open PySem PySem.Spec PyProof.Rows L2
end DL

namespace DL
open PySem PySem.Spec PyProof.Rows L2
end DL

namespace DL
open PySem PySem.Spec PyProof.Rows L2
end DL

namespace PySem
open PySem.Spec PySem.Calls PyProof.Rows PySem.W L2
namespace F
end F
end PySem

namespace DL
open PySem PySem.Spec PyProof.Rows L2
end DL

namespace HT
open PySem PySem.Spec PyProof.Rows
end HT
namespace L2
open PySem PySem.Spec PyProof.Rows
end L2
namespace DL
open PySem PySem.Spec PyProof.Rows L2
end DL

namespace DL
open PySem PySem.Spec PyProof.Rows L2
end DL

namespace DL
open PySem PySem.Spec PyProof.Rows L2
end DL

namespace DL
open PySem PySem.Spec PyProof.Rows L2
end DL

namespace DL
open PySem PySem.Spec PyProof.Rows L2
end DL

namespace DL
open PySem PySem.Spec PyProof.Rows L2
end DL

namespace DL
open PySem PySem.Spec PyProof.Rows L2

end DL

namespace DL
open PySem PySem.Spec PyProof.Rows L2

end DL

namespace DL
open PySem PySem.Spec PyProof.Rows L2

end DL

namespace DL
open PySem PySem.Spec PyProof.Rows L2

abbrev bmV : List Value := [.type "ValueError", .type "Exception", .type "BaseException", .type "object"]
def raiB (K : PySem.W.Frag) (c : Str) : Bool := PySem.W.excIn K (He.ga K c) bmV "ValueError.__new__" && (PySem.W.keepIn K (.ref (He.ga K c)) && (decide (PySem.W.subIn K (.ref (He.ga K c)) (.type "BaseException") = some true) && (PySem.W.typeIn K (.ref (He.ga K c)) == some (Value.type "type"))))
/-- what isinstance asks of an exception's class -/
def iseB (K : PySem.W.Frag) (c : Str) : Bool := He.eqO (PySem.W.findIn K (.ref (He.ga K c)) "__getattribute__") (some (some (.builtin "BaseException.__getattribute__"))) && (He.eqO (PySem.W.findIn K (.ref (He.ga K c)) "__getattr__") (some none) && (decide (PySem.W.subIn K (.ref (He.ga K c)) (.type "BaseException") = some true) &&
  (PySem.W.hasDictIn K (He.ga K c) && (He.eqO (PySem.W.findIn K (.ref (He.ga K c)) "__class__") (some (some (.builtin "object.__class__"))) && (He.eqO (PySem.W.specialIn K (.builtin "object.__class__") "__get__") (some (some (.builtin "getset_descriptor.__get__"))) &&
    (decide (PySem.W.takesIn K (.builtin "object.__class__") = some true) && decide (PySem.W.mroIn K (He.ga K c) (.type "object") = some true)))))))
/-- a table: which classes an except clause, isinstance takes -/
def exmT (K : PySem.W.Frag) (c : Value) (t : List (Str × Bool)) : Bool := t.all fun q => decide (PySem.W.exmOne K (.ref (He.ga K q.1)) c = some q.2)
def kitT (K : PySem.W.Frag) (c : Value) (t : List (Str × Bool)) : Bool := t.all fun q => decide (PySem.W.kitOne K (.ref (He.ga K q.1)) c = some q.2)
end DL

namespace DL
open PySem L2
end DL

namespace DL
open PySem PySem.Spec PyProof.Rows L2
end DL

namespace DL
open PySem PySem.Spec PyProof.Rows L2
end DL

namespace PySem.W
open PySem PySem.SeqAt PyProof.Rows
end PySem.W
namespace DL
open PySem PySem.Spec PySem.W PySem.SeqAt PyProof.Rows L2
end DL

namespace DL
open PySem PySem.Spec PyProof.Rows L2
end DL

namespace DL
open PySem PySem.Spec PyProof.Rows L2
end DL

namespace DL
open PySem PySem.Spec PyProof.Rows L2
end DL

namespace DL
open PySem PySem.Spec PyProof.Rows L2
end DL

namespace DL
open PySem PySem.Spec PyProof.Rows L2
end DL

namespace DL
open PySem PySem.Spec PyProof.Rows L2
end DL

namespace DL
open PySem PySem.Spec PyProof.Rows L2
end DL

namespace DL
open PySem PySem.Spec PyProof.Rows L2
end DL

namespace DL
open PySem PySem.Spec PyProof.Rows L2
end DL

namespace DL
open PySem PySem.Spec PyProof.Rows L2
def hasBit (m a : Nat) : Bool := Nat.beq (Nat.land (Nat.shiftRight m a) 1) 1
/-- what is new of some: the bits of all seen, the new ones, the last one first -/
def newB : List Addr → Nat → List Addr → Nat × List Addr
  | [], m, acc => (m, acc)
  | a :: as, m, acc => match hasBit m a with
    | true => newB as m acc
    | false => newB as (Nat.lor m (Nat.shiftLeft 1 a)) (a :: acc)
def refsB (g : Addr → Option Obj) : List Addr → List Addr
  | [] => []
  | a :: as => (match g a with
    | some o => He.refsD o
    | none => []) ++ refsB g as
def asBn (g : Addr → Option Obj) : Nat → Nat → List Addr → List Addr → List Addr
  | 0, _, _, all => all
  | n + 1, m, fr, all => match newB (refsB g fr) m [] with
    | (m', new) => asBn g n m' new (all ++ new)
def asB (g : Addr → Option Obj) (n : Nat) : List Addr := PySem.cStatics :: asBn g n (Nat.lor (Nat.shiftLeft 1 mainGlobals) (Nat.shiftLeft 1 PySem.cStatics)) [mainGlobals] [mainGlobals]
def obsOb (n : Nat) (fa : List He.Fa) (fn : List He.DefD) (ex : PySem.W.Frag → Bool) (g : Addr → Option Obj) : He.AlD × Bool := (He.obsD fa fn (He.frG g (asB g n)), ex (He.frG g (asB g n)))
def hookOb (n : Nat) (fa : List He.Fa) (fn : List He.DefD) (ex : PySem.W.Frag → Bool) : PySem.W.Hook where
  α := He.AlD × Bool
  obs := fun s => obsOb n fa fn ex s.heap.get?
  val := fun _ => (He.valD fn, true)
  says := fun _ h => ∃ K : PySem.W.Frag, K.In h ∧ He.SaysD fa fn K ∧ ex K = true
  of := fun _ _ e => ⟨_, He.frG_in, congrArg Prod.fst e, congrArg Prod.snd e⟩
  keeps := fun _ _ _ ⟨K, hK, c⟩ k => ⟨K, PySem.W.Frag.In.keeps hK k, c⟩
theorem obsOb_eq {n : Nat} {fa : List He.Fa} {fn : List He.DefD} {ex : PySem.W.Frag → Bool} {g : Addr → Option Obj} {s : Shared} (h : ∀ a, g a = s.heap.get? a) : obsOb n fa fn ex g = (hookOb n fa fn ex).obs s := by
  have e : g = s.heap.get? := funext h
  rw [e] <;> rfl
end DL

namespace DL
open PySem L2
end DL

namespace DL
open PySem L2
end DL

namespace DL
open PySem PySem.Spec PyProof.Rows L2
end DL
namespace SrtO
open PySem PyProof.Rows Srt
end SrtO
namespace DL
open PySem PySem.Spec PyProof.Rows L2
end DL

namespace DL
open PySem PySem.Spec PyProof.Rows L2
end DL

namespace L2
open PySem PySem.Spec PyProof.Rows
end L2
namespace DL
open PySem PySem.Spec PyProof.Rows L2
end DL

namespace DL
open PySem PySem.Spec PyProof.Rows L2
end DL

namespace DL
open PySem PySem.Spec PyProof.Rows L2
end DL

namespace DL
open PySem PySem.Spec PyProof.Rows L2
end DL

namespace L2
open PySem PySem.Spec PyProof.Rows
end L2
namespace DL
open PySem PySem.Spec PyProof.Rows L2
end DL

namespace L2
open PySem PySem.Spec PyProof.Rows
end L2
namespace DL
open PySem PySem.Spec PyProof.Rows L2
end DL

namespace L2
open PySem PySem.Spec PyProof.Rows
end L2
namespace DL
open PySem PySem.Spec PyProof.Rows L2
end DL

namespace DL
open PySem PySem.Spec PyProof.Rows L2
end DL

namespace PySem
open PySem.Spec PySem.Calls PyProof.Rows PySem.W L2
end PySem
namespace DL
open PySem L2
end DL

namespace DL
open PySem PySem.Spec PyProof.Rows L2
end DL

namespace DL
open PySem PySem.Spec PyProof.Rows L2
end DL

namespace DL
open PySem PySem.Spec PyProof.Rows L2
end DL

namespace DL
open PySem PySem.Spec PyProof.Rows L2
end DL

namespace DL
open PySem PySem.Spec PyProof.Rows L2
end DL

namespace DL
open PySem PySem.Spec PyProof.Rows L2
end DL

namespace DL
open PySem PySem.Spec PyProof.Rows L2
end DL

namespace DL
open PySem PySem.Spec PyProof.Rows L2
end DL

namespace DL
open PySem PySem.Spec PyProof.Rows L2
end DL

namespace DL
open PySem PySem.Spec PyProof.Rows L2
end DL

namespace DL
open PySem PySem.Spec PyProof.Rows L2
end DL

namespace DL
open PySem PySem.Spec PyProof.Rows L2
end DL

namespace DL
open PySem PySem.Spec PyProof.Rows L2
def oexB (K : PySem.W.Frag) (C : Addr) : Bool := (match K.lookup C with
  | some ⟨.type "type", _, .cls cd, sl⟩ => (match cd.mro, sl.toList with
    | .ref C' :: bm, [_, _, _, _, some (.builtin n), _] => C' == C && n == "ValueError.__new__" && !cd.hasDel && cd.hasDict && PySem.HandSPX.refsVE bm
    | _, _ => false)
  | _ => false) && (He.eqO (PySem.W.findIn K (.ref C) "__setattr__") (some (some (.builtin "object.__setattr__"))) && (decide (PySem.W.subIn K (.ref C) (.type "BaseException") = some true) && ((PySem.W.typeIn K (.ref C) == some (Value.type "type")) && PySem.W.keepIn K (.ref C))))
def xiB (K : PySem.W.Frag) (c b : Str) (fs : List Str) : Bool := oexB K (He.ga K c) && (PySem.W.readsIn K (He.ga K b) (.type "type") && (He.eqO (PySem.W.specialIn K (.ref (He.ga K b)) "__getattribute__") (some (some (.builtin "type.__getattribute__"))) &&
  ((match PySem.W.findCls K (.ref (He.ga K b)) (.type "type") "__init__" with
    | some (.val (.builtin n)) => n == "ValueError.__init__"
    | _ => false) && (fs.all (fun f => He.eqO (PySem.W.findIn K (.ref (He.ga K c)) f) (some none)) && (He.eqO (PySem.W.findIn K (.ref (He.ga K c)) "__init__") (some (some (.ref (He.ma K (He.ga K c) "__init__")))) &&
    ((PySem.W.typeIn K (.ref (He.ma K (He.ga K c) "__init__")) == some (Value.type "function")) && xfB K (He.ga K c)))))))
end DL

namespace DL
open PySem PySem.Spec PyProof.Rows L2
end DL

namespace DL
open PySem PySem.Spec PyProof.Rows L2
end DL

namespace DL
open PySem PySem.Spec PyProof.Rows L2
end DL

namespace DL
open PySem PySem.Spec PyProof.Rows L2
end DL

namespace DL
open PySem PySem.Spec PyProof.Rows L2
end DL

namespace DL
open PySem PySem.Spec PyProof.Rows L2
end DL

namespace DL
open PySem PySem.Spec PyProof.Rows L2
end DL

namespace DL
open PySem PySem.Spec PyProof.Rows L2
end DL

namespace L2
open PySem PySem.Spec PyProof.Rows
end L2
namespace DL
open PySem PySem.Spec PyProof.Rows L2
end DL

namespace DL
open PySem PySem.Spec PyProof.Rows L2
end DL

namespace DL
open PySem PySem.Spec PyProof.Rows L2
end DL

namespace DL
open PySem PySem.Spec PyProof.Rows L2
end DL

namespace DL
open PySem PySem.Spec PyProof.Rows L2
end DL

namespace DL
open PySem PySem.Spec PyProof.Rows L2
end DL

namespace DL
open PySem PySem.Spec PyProof.Rows L2
end DL

namespace DL
open PySem PySem.Spec PyProof.Rows L2
end DL

namespace DL
open PySem PySem.Spec PyProof.Rows L2
end DL

namespace K03
open PySem PySem.Spec PyProof.Rows L2 DL
def top (i : Nat) : Stmt := PySem.Challenge.pw_reachyard_k12_rows_refused_in_turn.main.body.getD i (.Pass ⟨0, 0, 0, 0⟩)
abbrev tb_BadGround : List (Str × Bool) := [("BadText", false), ("BadWeb", false)]
abbrev tb_BadName : List (Str × Bool) := [("BadText", false), ("BadWeb", false)]
abbrev tb_BadNumber : List (Str × Bool) := [("BadText", false), ("BadWeb", false)]
abbrev tb_BadPicture : List (Str × Bool) := [("BadText", false), ("BadWeb", false)]
abbrev tb_BadProgram : List (Str × Bool) := [("BadText", false), ("BadWeb", false)]
abbrev tb_BadText : List (Str × Bool) := [("BadText", true), ("BadWeb", false)]
abbrev tb_BadWeaving : List (Str × Bool) := [("BadText", false), ("BadWeb", false)]
abbrev tb_BadWeb : List (Str × Bool) := [("BadText", false), ("BadWeb", true)]
abbrev tb_NoCell : List (Str × Bool) := [("BadText", false), ("BadWeb", false)]
abbrev tb_NoDeed : List (Str × Bool) := [("BadText", false), ("BadWeb", false)]
abbrev tb_NoField : List (Str × Bool) := [("BadText", false), ("BadWeb", false)]
abbrev tb_NoHand : List (Str × Bool) := [("BadText", false), ("BadWeb", false)]
abbrev tb_NoName : List (Str × Bool) := [("BadText", false), ("BadWeb", false)]
abbrev tb_NoPeg : List (Str × Bool) := [("BadText", false), ("BadWeb", false)]
abbrev tb_NoRoom : List (Str × Bool) := [("BadText", false), ("BadWeb", false)]
abbrev tb_NoTurn : List (Str × Bool) := [("BadText", false), ("BadWeb", false)]
abbrev tb_TooMany : List (Str × Bool) := [("BadText", false), ("BadWeb", false)]
abbrev tb_Unlawful : List (Str × Bool) := [("BadText", false), ("BadWeb", false)]
abbrev tb_ValueError : List (Str × Bool) := [("BadText", true), ("BadWeb", true)]
abbrev tb_YardError : List (Str × Bool) := [("BadText", true), ("BadWeb", true)]
abbrev s_p_law_state : Stmt := top 43
def d_p_law_state : He.DefD := ⟨("_law_state", none), "_law_state", "_law_state", defArgs s_p_law_state, defBody s_p_law_state, defScope s_p_law_state, [], []⟩
abbrev s_p_law_next : Stmt := top 44
def d_p_law_next : He.DefD := ⟨("_law_next", none), "_law_next", "_law_next", defArgs s_p_law_next, defBody s_p_law_next, defScope s_p_law_next, [], []⟩
abbrev s_p_law_piece : Stmt := top 59
def d_p_law_piece : He.DefD := ⟨("_law_piece", none), "_law_piece", "_law_piece", defArgs s_p_law_piece, defBody s_p_law_piece, defScope s_p_law_piece, [], []⟩
abbrev s_p_law_value : Stmt := top 52
def d_p_law_value : He.DefD := ⟨("_law_value", none), "_law_value", "_law_value", defArgs s_p_law_value, defBody s_p_law_value, defScope s_p_law_value, [], []⟩
abbrev s_p_law_cell : Stmt := top 53
def d_p_law_cell : He.DefD := ⟨("_law_cell", none), "_law_cell", "_law_cell", defArgs s_p_law_cell, defBody s_p_law_cell, defScope s_p_law_cell, [], []⟩
abbrev s_p_law_web : Stmt := top 54
def d_p_law_web : He.DefD := ⟨("_law_web", none), "_law_web", "_law_web", defArgs s_p_law_web, defBody s_p_law_web, defScope s_p_law_web, [], []⟩
abbrev s_p_law_value_text : Stmt := top 55
def d_p_law_value_text : He.DefD := ⟨("_law_value_text", none), "_law_value_text", "_law_value_text", defArgs s_p_law_value_text, defBody s_p_law_value_text, defScope s_p_law_value_text, [], []⟩
abbrev s_p_law_rows : Stmt := top 56
def d_p_law_rows : He.DefD := ⟨("_law_rows", none), "_law_rows", "_law_rows", defArgs s_p_law_rows, defBody s_p_law_rows, defScope s_p_law_rows, [], []⟩
abbrev s_p_law_sign : Stmt := top 57
def d_p_law_sign : He.DefD := ⟨("_law_sign", none), "_law_sign", "_law_sign", defArgs s_p_law_sign, defBody s_p_law_sign, defScope s_p_law_sign, [], []⟩
abbrev s_p_law_spoilt : Stmt := top 58
def d_p_law_spoilt : He.DefD := ⟨("_law_spoilt", none), "_law_spoilt", "_law_spoilt", defArgs s_p_law_spoilt, defBody s_p_law_spoilt, defScope s_p_law_spoilt, [], []⟩
abbrev s_BadText_init : Stmt := inClass (top 16) 0
def d_BadText_init : He.DefD := ⟨("BadText", some "__init__"), "__init__", "BadText.__init__", defArgs s_BadText_init, defBody s_BadText_init, defScope s_BadText_init, [], []⟩
abbrev s_rows_of : Stmt := top 36
def d_rows_of : He.DefD := ⟨("rows_of", none), "rows_of", "rows_of", defArgs s_rows_of, defBody s_rows_of, defScope s_rows_of, [], []⟩
abbrev s_is_whole : Stmt := top 23
def d_is_whole : He.DefD := ⟨("is_whole", none), "is_whole", "is_whole", defArgs s_is_whole, defBody s_is_whole, defScope s_is_whole, [], []⟩
abbrev s_is_number : Stmt := top 24
def d_is_number : He.DefD := ⟨("is_number", none), "is_number", "is_number", defArgs s_is_number, defBody s_is_number, defScope s_is_number, [], []⟩
abbrev s_number_in : Stmt := top 37
def d_number_in : He.DefD := ⟨("number_in", none), "number_in", "number_in", defArgs s_number_in, defBody s_number_in, defScope s_number_in, [], []⟩
abbrev s_values_told : Stmt := top 38
def d_values_told : He.DefD := ⟨("values_told", none), "values_told", "values_told", defArgs s_values_told, defBody s_values_told, defScope s_values_told, [], []⟩
abbrev s_told_row : Stmt := top 39
def d_told_row : He.DefD := ⟨("told_row", none), "told_row", "told_row", defArgs s_told_row, defBody s_told_row, defScope s_told_row, [], []⟩
abbrev s_told_rows : Stmt := top 40
def d_told_rows : He.DefD := ⟨("told_rows", none), "told_rows", "told_rows", defArgs s_told_rows, defBody s_told_rows, defScope s_told_rows, [], []⟩
abbrev s_led_to : Stmt := top 31
def d_led_to : He.DefD := ⟨("led_to", none), "led_to", "led_to", defArgs s_led_to, defBody s_led_to, defScope s_led_to, [], []⟩
abbrev s_is_row : Stmt := top 25
def d_is_row : He.DefD := ⟨("is_row", none), "is_row", "is_row", defArgs s_is_row, defBody s_is_row, defScope s_is_row, [], []⟩
abbrev s_is_at : Stmt := top 27
def d_is_at : He.DefD := ⟨("is_at", none), "is_at", "is_at", defArgs s_is_at, defBody s_is_at, defScope s_is_at, [], []⟩
abbrev s_is_value : Stmt := top 28
def d_is_value : He.DefD := ⟨("is_value", none), "is_value", "is_value", defArgs s_is_value, defBody s_is_value, defScope s_is_value, [], []⟩
abbrev s_is_cell : Stmt := top 29
def d_is_cell : He.DefD := ⟨("is_cell", none), "is_cell", "is_cell", defArgs s_is_cell, defBody s_is_cell, defScope s_is_cell, [], []⟩
abbrev s_is_web : Stmt := top 30
def d_is_web : He.DefD := ⟨("is_web", none), "is_web", "is_web", defArgs s_is_web, defBody s_is_web, defScope s_is_web, [], []⟩
abbrev s_Web_init : Stmt := inClass (top 32) 0
def d_Web_init : He.DefD := ⟨("Web", some "__init__"), "__init__", "Web.__init__", defArgs s_Web_init, defBody s_Web_init, defScope s_Web_init, [], []⟩
abbrev s_read_web : Stmt := top 41
def d_read_web : He.DefD := ⟨("read_web", none), "read_web", "read_web", defArgs s_read_web, defBody s_read_web, defScope s_read_web, [], []⟩
abbrev s_Web_cells : Stmt := inClass (top 32) 3
def d_Web_cells : He.DefD := ⟨("Web", some "cells"), "cells", "Web.cells", defArgs s_Web_cells, defBody s_Web_cells, defScope s_Web_cells, [], []⟩
abbrev s_Web_pegs : Stmt := inClass (top 32) 4
def d_Web_pegs : He.DefD := ⟨("Web", some "pegs"), "pegs", "Web.pegs", defArgs s_Web_pegs, defBody s_Web_pegs, defScope s_Web_pegs, [], []⟩
abbrev s_p_law_classes : Stmt := top 46
def d_p_law_classes : He.DefD := ⟨("_law_classes", none), "_law_classes", "_law_classes", defArgs s_p_law_classes, defBody s_p_law_classes, defScope s_p_law_classes, [], []⟩
abbrev s_p_law_said : Stmt := top 51
def d_p_law_said : He.DefD := ⟨("_law_said", none), "_law_said", "_law_said", defArgs s_p_law_said, defBody s_p_law_said, defScope s_p_law_said, [], []⟩
abbrev s_p_law_number : Stmt := top 47
def d_p_law_number : He.DefD := ⟨("_law_number", none), "_law_number", "_law_number", defArgs s_p_law_number, defBody s_p_law_number, defScope s_p_law_number, [], []⟩
abbrev s_p_law_word_value : Stmt := top 48
def d_p_law_word_value : He.DefD := ⟨("_law_word_value", none), "_law_word_value", "_law_word_value", defArgs s_p_law_word_value, defBody s_p_law_word_value, defScope s_p_law_word_value, [], []⟩
abbrev s_p_law_row : Stmt := top 49
def d_p_law_row : He.DefD := ⟨("_law_row", none), "_law_row", "_law_row", defArgs s_p_law_row, defBody s_p_law_row, defScope s_p_law_row, [], []⟩
abbrev s_p_law_read : Stmt := top 50
def d_p_law_read : He.DefD := ⟨("_law_read", none), "_law_read", "_law_read", defArgs s_p_law_read, defBody s_p_law_read, defScope s_p_law_read, [], []⟩
abbrev s_p_law_odd : Stmt := top 45
def d_p_law_odd : He.DefD := ⟨("_law_odd", none), "_law_odd", "_law_odd", defArgs s_p_law_odd, defBody s_p_law_odd, defScope s_p_law_odd, [], []⟩
abbrev s_law : Stmt := top 60
def d_law : He.DefD := ⟨("law", none), "law", "law", defArgs s_law, defBody s_law, defScope s_law, [], []⟩
def fn : List He.DefD := [d_p_law_state, d_p_law_next, d_p_law_piece, d_p_law_value, d_p_law_cell, d_p_law_web, d_p_law_value_text, d_p_law_rows, d_p_law_sign, d_p_law_spoilt, d_BadText_init, d_rows_of, d_is_whole, d_is_number, d_number_in, d_values_told, d_told_row, d_told_rows, d_led_to, d_is_row, d_is_at, d_is_value, d_is_cell, d_is_web, d_Web_init, d_read_web, d_Web_cells, d_Web_pegs, d_p_law_classes, d_p_law_said, d_p_law_number, d_p_law_word_value, d_p_law_row, d_p_law_read, d_p_law_odd, d_law]
def fa : List He.Fa := [.glo "_law_state", .glo "_law_next", .glo "_law_piece", .glo "_law_value", .glo "_law_cell", .glo "_law_web", .glo "_law_value_text", .glo "_law_rows", .glo "_law_sign", .glo "_law_spoilt", .glo "rows_of", .glo "is_whole", .glo "is_number", .glo "number_in", .glo "values_told", .glo "told_row", .glo "told_rows", .glo "led_to", .glo "is_row", .glo "is_at", .glo "is_value", .glo "is_cell", .glo "is_web", .glo "read_web", .glo "_law_classes", .glo "_law_said", .glo "_law_number", .glo "_law_word_value", .glo "_law_row", .glo "_law_read", .glo "_law_odd", .glo "law", .free "ValueError", .free "abs", .free "all", .free "any", .free "bool", .free "enumerate", .free "int", .free "isinstance", .free "len", .free "list", .free "max", .free "range", .free "repr", .free "str", .free "tuple", .int "GREATEST" (1000000000), .int "MOST_FIELDS" (6), .int "MOST_SIGNS" (11), .str "FIGURES" "0123456789", .glo "BadGround", .glo "BadName", .glo "BadNumber", .glo "BadPicture", .glo "BadProgram", .glo "BadText", .glo "BadWeaving", .glo "BadWeb", .glo "NoCell", .glo "NoDeed", .glo "NoField", .glo "NoHand", .glo "NoName", .glo "NoPeg", .glo "NoRoom", .glo "NoTurn", .glo "TooMany", .glo "Unlawful", .glo "YardError", .glo "Web", .cls "Web", .mkr "Web", .meth "Web" "cells", .meth "Web" "pegs", .noat "Web" "all_cells", .noat "Web" "all_pegs"]
def exB (K : PySem.W.Frag) : Bool := raiB K "BadWeb" && (xiB K "BadText" "YardError" ["row"] && (iseB K "BadText" && (iseB K "BadWeb" && (exmT K (.ref (He.ga K "YardError")) tb_YardError && (kitT K (.ref (He.ga K "BadGround")) tb_BadGround && (kitT K (.ref (He.ga K "BadName")) tb_BadName && (kitT K (.ref (He.ga K "BadNumber")) tb_BadNumber && (kitT K (.ref (He.ga K "BadPicture")) tb_BadPicture && (kitT K (.ref (He.ga K "BadProgram")) tb_BadProgram && (kitT K (.ref (He.ga K "BadText")) tb_BadText && (kitT K (.ref (He.ga K "BadWeaving")) tb_BadWeaving && (kitT K (.ref (He.ga K "BadWeb")) tb_BadWeb && (kitT K (.ref (He.ga K "NoCell")) tb_NoCell && (kitT K (.ref (He.ga K "NoDeed")) tb_NoDeed && (kitT K (.ref (He.ga K "NoField")) tb_NoField && (kitT K (.ref (He.ga K "NoHand")) tb_NoHand && (kitT K (.ref (He.ga K "NoName")) tb_NoName && (kitT K (.ref (He.ga K "NoPeg")) tb_NoPeg && (kitT K (.ref (He.ga K "NoRoom")) tb_NoRoom && (kitT K (.ref (He.ga K "NoTurn")) tb_NoTurn && (kitT K (.ref (He.ga K "TooMany")) tb_TooMany && (kitT K (.ref (He.ga K "Unlawful")) tb_Unlawful && (kitT K (.type "ValueError") tb_ValueError && (true))))))))))))))))))))))))
end K03

namespace K03
open PySem PySem.Spec PyProof.Rows L2 DL
def loose0 : List Str := ["YardError", "BadWeb", "BadGround", "BadNumber", "NoPeg", "NoCell", "NoField", "NoHand", "NoTurn", "NoRoom", "NoDeed", "TooMany", "BadProgram", "BadWeaving", "BadPicture", "BadText"]
def loose1 : List Str := ["BadName", "NoName", "Unlawful", "MOST_FIELDS", "GREATEST", "is_whole", "is_number", "is_row", "is_at", "is_value", "is_cell", "is_web", "led_to", "Web", "FIGURES", "MOST_SIGNS"]
def loose2 : List Str := ["rows_of", "number_in", "values_told", "told_row", "told_rows", "read_web", "_law_state", "_law_next", "_law_odd", "_law_classes", "_law_number", "_law_word_value", "_law_row", "_law_read", "_law_said", "_law_value"]
def loose3 : List Str := ["_law_cell", "_law_web", "_law_value_text", "_law_rows", "_law_sign", "_law_spoilt", "_law_piece"]
def loose : List Str := loose0 ++ loose1 ++ loose2 ++ loose3
abbrev R : PySem.W.OpenRow := PySem.W.OpenLaw.row PySem.Challenge.rw_reachyard_k12_rows_refused_in_turn
abbrev hk : PySem.W.Hook := hookOb 5 fa fn exB
def ob (s : PySem.W.SharedT) : He.AlD × Bool := obsOb 5 fa fn exB (HandSHeadRun.getT s)
theorem ob_eq (s : PySem.W.SharedT) : ob s = hk.obs s.abs := obsOb_eq (HandSHeadRun.getT_eq s)
theorem runf (w : World) : HandSHeadRun.RunEq R (PySem.W.view R.prog [60]) hk ob 40000 loose (w.withFollow "special-get-raises" false) := by
  intro os
  kernel_rfl
theorem runt (w : World) : HandSHeadRun.RunEq R (PySem.W.view R.prog [60]) hk ob 40000 loose (w.withFollow "special-get-raises" true) := by
  intro os
  kernel_rfl
theorem run (w : World) : HandSHeadRun.RunEq R (PySem.W.view R.prog [60]) hk ob 40000 loose w :=
  PySem.W.byRow2 "special-get-raises" (P := fun w => HandSHeadRun.RunEq R (PySem.W.view R.prog [60]) hk ob 40000 loose w) runf runt w

end K03
set_option Elab.async false
set_option maxRecDepth 100000
set_option maxHeartbeats 0
set_option linter.all false
/-! The data layer, part 1: data, stores, the relation to the abstract heap, the judgements. -/
namespace DL
open PySem L2

/-- objects that may change; frz: one that changes no more -/
inductive SO where
  | lst (ds : List D) | dic (ks : List (Key × D)) | ins (C : Str) (fs : List (Str × D)) | frz (d : D) | tbl (p : Str × Option Str) (q : Str) | dkt (ks : List (List Int × D))
def SO.live : SO → Bool
  | .frz _ => false
  | _ => true
abbrev Store := List SO
/-- an entry of a dict whose keys are tuples of whole numbers (truths count as numbers) -/
def entN (x : List Int × Addr × Value) : DictEntry := { hash := reduceHash (Builtin.Tuple.tupleHashOf (x.1.map hashInt)), key := .ref x.2.1, val := x.2.2 }
/-- such a dict, by what lies at its address -/
def DktO (a : Addr) (xs : List (List Int × Addr × Value)) : HO := .ext fun hp => (a == sysModules) = false ∧ xs.length ≤ sizeLine ∧ ∃ (o : Obj) (es : Array DictEntry) (ep : Nat), hp.get? a = some o ∧ o.ExactDict ∧ o.data = .dict es ep ∧ es.toList = xs.map entN ∧ (xs.map (·.1)).Nodup
def numV : V → Option Int
  | .int i => some i
  | .bl b => some (if b = true then 1 else 0)
  | _ => none
def numsV : List V → Option (List Int)
  | [] => some []
  | v :: vs => (numV v).bind fun i => (numsV vs).map fun is => i :: is
/-- a caught exception: of the class cls, its dict dd -/
def ExcV (cls : Value) (dd : Option Addr) (a : Addr) : HO := .ext fun hp => ∃ (ob : Obj) (fs : Array Value), hp.get? a = some ob ∧ L2N.Zn cls dd ob ∧ ob.data = .fields fs

section
variable (K : PySem.W.Frag) (mg : Str → Option Value) (φ : List Addr) (G : Hp)
mutual
def Dat : D → V → Prop
  | .non, v => v = .non
  | .bl b, v => v = .bl b
  | .int i, v => v = .int i
  | .str x, v => v = .str x
  | .ty n, v => v = .ty n
  | .tup ds, v => ∃ a vs, v = .ref a ∧ SqT K G a vs ∧ DatL ds vs
  | .lst ds, v => ∃ a vs, v = .ref a ∧ G a = some (.lst vs) ∧ DatL ds vs
  | .scr ds, v => ∃ a vs, v = .ref a ∧ SqL K G a vs ∧ DatL ds vs
  | .cls c, v => ∃ A, v = .ref A ∧ mg c = some (.ref A)
  | .dic ks, v => ∃ a kvs, v = .ref a ∧ G a = some (.dK kvs) ∧ DatK ks kvs
  | .ins C fs, v => ∃ a A dx fvs, v = .ref a ∧ mg C = some (.ref A) ∧ G a = some (.ins A dx fvs) ∧ DatF fs fvs
  | .oid n, v => ∃ a, v = .ref a ∧ φ[n]? = some a
  | .exc C fs, v => ∃ a A dx, v = .ref a ∧ mg C = some (.ref A) ∧ G a = some (ExcV (.ref A) dx a) ∧ ((fs = [] ∧ dx = none) ∨ fs ≠ [] ∧ ∃ b fvs, dx = some b ∧ G b = some (.xd fvs) ∧ DatF fs fvs)
def DatL : List D → List V → Prop
  | [], vs => vs = []
  | d :: ds, vs => ∃ v r, vs = v :: r ∧ Dat d v ∧ DatL ds r
def DatK : List (Key × D) → List (Key × V) → Prop
  | [], vs => vs = []
  | (k, d) :: ds, vs => ∃ v r, vs = (k, v) :: r ∧ Dat d v ∧ DatK ds r
def DatF : List (Str × D) → List (Str × V) → Prop
  | [], vs => vs = []
  | (k, d) :: ds, vs => ∃ v r, vs = (k, v) :: r ∧ Dat d v ∧ DatF ds r
end
def DatT : List (List Int × D) → List (List Int × Addr × Value) → Prop
  | [], xs => xs = []
  | (k, d) :: ds, xs => ∃ b u r v vs, xs = (k, b, u) :: r ∧ SqT K G b vs ∧ numsV vs = some k ∧ Dat K mg φ G d v ∧ RelV v u ∧ DatT ds r
end

theorem sqt_mono {K : PySem.W.Frag} {G G' : Hp} (e : Same G G') {a : Addr} {xs : List V} (h : SqT K G a xs) : SqT K G' a xs :=
  h.imp (fun r => r.imp (e _ _) fun ⟨o, q⟩ => ⟨o, e _ _ q⟩) id
section
variable {K : PySem.W.Frag} {mg : Str → Option Value} {φ φ' : List Addr} {G G' : Hp}
theorem pre_get {φ φ' : List Addr} (p : φ <+: φ') {n : Nat} {a : Addr} (h : φ[n]? = some a) : φ'[n]? = some a := by
  obtain ⟨t, rfl⟩ := p
  rw [List.getElem?_append_left (List.getElem?_eq_some_iff.mp h).1]
  exact h
mutual
theorem Dat.mono (p : φ <+: φ') (e : Same G G') : ∀ (d : D) (v : V), Dat K mg φ G d v → Dat K mg φ' G' d v
  | .non, _, h => h
  | .bl _, _, h => h
  | .int _, _, h => h
  | .str _, _, h => h
  | .ty _, _, h => h
  | .tup ds, _, h => by
    unfold Dat at h ⊢
    obtain ⟨a, vs, rfl, h1, h2⟩ := h
    exact ⟨a, vs, rfl, sqt_mono e h1, DatL.mono p e ds vs h2⟩
  | .lst ds, _, h => by
    unfold Dat at h ⊢
    obtain ⟨a, vs, rfl, h1, h2⟩ := h
    exact ⟨a, vs, rfl, e _ _ h1, DatL.mono p e ds vs h2⟩
  | .scr ds, _, h => by
    unfold Dat at h ⊢
    obtain ⟨a, vs, rfl, h1, h2⟩ := h
    exact ⟨a, vs, rfl, Same.seq e h1, DatL.mono p e ds vs h2⟩
  | .cls c, _, h => by
    unfold Dat at h ⊢
    exact h
  | .dic ks, _, h => by
    unfold Dat at h ⊢
    obtain ⟨a, vs, rfl, h1, h2⟩ := h
    exact ⟨a, vs, rfl, e _ _ h1, DatK.mono p e ks vs h2⟩
  | .ins C fs, _, h => by
    unfold Dat at h ⊢
    obtain ⟨a, A, dx, fvs, rfl, h0, h1, h2⟩ := h
    exact ⟨a, A, dx, fvs, rfl, h0, e _ _ h1, DatF.mono p e fs fvs h2⟩
  | .oid n, _, h => by
    unfold Dat at h ⊢
    obtain ⟨a, rfl, h⟩ := h
    exact ⟨a, rfl, pre_get p h⟩
  | .exc C fs, _, h => by
    unfold Dat at h ⊢
    obtain ⟨a, A, dx, rfl, h0, h1, h2⟩ := h
    exact ⟨a, A, dx, rfl, h0, e _ _ h1, h2.imp id fun ⟨z, b, fvs, q0, q1, q2⟩ => ⟨z, b, fvs, q0, e _ _ q1, DatF.mono p e fs fvs q2⟩⟩
theorem DatL.mono (p : φ <+: φ') (e : Same G G') : ∀ (ds : List D) (vs : List V), DatL K mg φ G ds vs → DatL K mg φ' G' ds vs
  | [], _, h => by
    unfold DatL at h ⊢
    exact h
  | d :: ds, _, h => by
    unfold DatL at h ⊢
    obtain ⟨v, r, rfl, h1, h2⟩ := h
    exact ⟨v, r, rfl, Dat.mono p e d v h1, DatL.mono p e ds r h2⟩
theorem DatK.mono (p : φ <+: φ') (e : Same G G') : ∀ (ds : List (Key × D)) (vs : List (Key × V)), DatK K mg φ G ds vs → DatK K mg φ' G' ds vs
  | [], _, h => by
    unfold DatK at h ⊢
    exact h
  | (k, d) :: ds, _, h => by
    unfold DatK at h ⊢
    obtain ⟨v, r, rfl, h1, h2⟩ := h
    exact ⟨v, r, rfl, Dat.mono p e d v h1, DatK.mono p e ds r h2⟩
theorem DatF.mono (p : φ <+: φ') (e : Same G G') : ∀ (ds : List (Str × D)) (vs : List (Str × V)), DatF K mg φ G ds vs → DatF K mg φ' G' ds vs
  | [], _, h => by
    unfold DatF at h ⊢
    exact h
  | (k, d) :: ds, _, h => by
    unfold DatF at h ⊢
    obtain ⟨v, r, rfl, h1, h2⟩ := h
    exact ⟨v, r, rfl, Dat.mono p e d v h1, DatF.mono p e ds r h2⟩
end
theorem DatT.mono (p : φ <+: φ') (e : Same G G') : ∀ (ds : List (List Int × D)) (xs : List (List Int × Addr × Value)), DatT K mg φ G ds xs → DatT K mg φ' G' ds xs
  | [], _, h => by
    unfold DatT at h ⊢
    exact h
  | (k, d) :: ds, _, h => by
    unfold DatT at h ⊢
    obtain ⟨b, u, r, v, vs, rfl, h1, h2, h3, h4, h5⟩ := h
    exact ⟨b, u, r, v, vs, rfl, sqt_mono e h1, h2, Dat.mono p e d v h3, h4, DatT.mono p e ds r h5⟩
theorem DatL.length : ∀ {ds : List D} {vs : List V}, DatL K mg φ G ds vs → vs.length = ds.length
  | [], _, h => by unfold DatL at h; rw [h]; rfl
  | d :: ds, _, h => by
    unfold DatL at h
    obtain ⟨v, r, rfl, _, h2⟩ := h
    rw [List.length_cons, List.length_cons, DatL.length h2]
theorem DatL.get : ∀ {ds : List D} {vs : List V} {i : Nat} {d : D}, DatL K mg φ G ds vs → ds[i]? = some d → ∃ v, vs[i]? = some v ∧ Dat K mg φ G d v
  | [], _, _, _, _, e => by cases e
  | d :: ds, _, 0, _, h, e => by
    unfold DatL at h
    obtain ⟨v, r, rfl, h1, _⟩ := h
    cases e
    exact ⟨v, rfl, h1⟩
  | d :: ds, _, i + 1, _, h, e => by
    unfold DatL at h
    obtain ⟨v, r, rfl, _, h2⟩ := h
    obtain ⟨w, a, b⟩ := DatL.get (i := i) h2 e
    exact ⟨w, a, b⟩
theorem DatL.nil : DatL K mg φ G [] [] := by unfold DatL; rfl
theorem DatL.cons {d : D} {v : V} {ds : List D} {vs : List V} (h : Dat K mg φ G d v) (t : DatL K mg φ G ds vs) : DatL K mg φ G (d :: ds) (v :: vs) := by
  unfold DatL
  exact ⟨v, vs, rfl, h, t⟩
theorem DatL.uncons {d : D} {ds : List D} {vs : List V} (h : DatL K mg φ G (d :: ds) vs) : ∃ v r, vs = v :: r ∧ Dat K mg φ G d v ∧ DatL K mg φ G ds r := by
  unfold DatL at h
  exact h
theorem DatL.append : ∀ {ds es : List D} {vs us : List V}, DatL K mg φ G ds vs → DatL K mg φ G es us → DatL K mg φ G (ds ++ es) (vs ++ us)
  | [], _, _, _, h, t => by
    unfold DatL at h
    subst h
    exact t
  | d :: ds, _, _, _, h, t => by
    obtain ⟨v, r, rfl, h1, h2⟩ := h.uncons
    exact .cons h1 (DatL.append h2 t)
theorem DatL.set : ∀ {ds : List D} {vs : List V} {d : D} {v : V} (i : Nat), DatL K mg φ G ds vs → Dat K mg φ G d v → DatL K mg φ G (ds.set i d) (vs.set i v)
  | [], _, _, _, _, h, _ => by
    unfold DatL at h
    subst h
    exact DatL.nil
  | e :: ds, _, _, _, 0, h, q => by
    obtain ⟨w, r, rfl, _, h2⟩ := h.uncons
    exact .cons q h2
  | e :: ds, _, _, _, i + 1, h, q => by
    obtain ⟨w, r, rfl, h1, h2⟩ := h.uncons
    exact .cons h1 (DatL.set i h2 q)
theorem DatL.map {α : Type} {f : α → D} {g : α → V} : ∀ {l : List α}, (∀ x ∈ l, Dat K mg φ G (f x) (g x)) → DatL K mg φ G (l.map f) (l.map g)
  | [], _ => DatL.nil
  | x :: l, h => .cons (h x List.mem_cons_self) (DatL.map fun y hy => h y (List.mem_cons_of_mem _ hy))
theorem DatL.take : ∀ {ds : List D} {vs : List V} (n : Nat), DatL K mg φ G ds vs → DatL K mg φ G (ds.take n) (vs.take n)
  | _, _, 0, _ => by rw [List.take_zero, List.take_zero]; exact DatL.nil
  | [], _, n + 1, h => by
    unfold DatL at h
    subst h
    exact DatL.nil
  | d :: ds, _, n + 1, h => by
    obtain ⟨v, r, rfl, h1, h2⟩ := h.uncons
    exact .cons h1 (DatL.take n h2)
theorem DatL.drop : ∀ {ds : List D} {vs : List V} (n : Nat), DatL K mg φ G ds vs → DatL K mg φ G (ds.drop n) (vs.drop n)
  | _, _, 0, h => h
  | [], _, n + 1, h => by
    unfold DatL at h
    subst h
    exact DatL.nil
  | d :: ds, _, n + 1, h => by
    obtain ⟨v, r, rfl, h1, h2⟩ := h.uncons
    exact DatL.drop n h2
end

/-! ### the store over the abstract heap -/
def liveA : List Addr → Store → List Addr
  | a :: φ, o :: S => if o.live then a :: liveA φ S else liveA φ S
  | _, _ => []
/-- H without the addresses of l -/
def without (l : List Addr) (H : Hp) : Hp := fun a => if a ∈ l then none else H a
/-- the ground: what changes no more; Z: hidden addresses -/
def gnd (Z : List Addr) (φ : List Addr) (S : Store) (H : Hp) : Hp := without (Z ++ liveA φ S) H
theorem without_some {l : List Addr} {H : Hp} {a : Addr} {o : HO} : without l H a = some o ↔ a ∉ l ∧ H a = some o := by
  unfold without
  by_cases h : a ∈ l
  · rw [if_pos h]
    exact ⟨fun z => (nomatch z), fun z => absurd h z.1⟩
  · rw [if_neg h]
    exact ⟨fun z => ⟨h, z⟩, fun z => z.2⟩
theorem liveA_mem : ∀ {φ : List Addr} {S : Store} {a : Addr}, a ∈ liveA φ S → ∃ (n : Nat) (o : SO), φ[n]? = some a ∧ S[n]? = some o ∧ o.live = true
  | [], _, _, h => by simp [liveA] at h
  | _ :: _, [], _, h => by simp [liveA] at h
  | b :: φ, o :: S, a, h => by
    unfold liveA at h
    have step : a ∈ liveA φ S → ∃ (n : Nat) (o' : SO), (b :: φ)[n]? = some a ∧ (o :: S)[n]? = some o' ∧ o'.live = true := fun q => by
      obtain ⟨n, u, h1, h2, h3⟩ := liveA_mem q
      exact ⟨n + 1, u, h1, h2, h3⟩
    cases hl : o.live with
    | false =>
      rw [hl] at h
      exact step h
    | true =>
      rw [hl] at h
      rcases List.mem_cons.mp h with rfl | q
      · exact ⟨0, o, rfl, rfl, hl⟩
      · exact step q
theorem mem_liveA : ∀ {φ : List Addr} {S : Store} {a : Addr} {n : Nat} {o : SO}, φ[n]? = some a → S[n]? = some o → o.live = true → a ∈ liveA φ S
  | [], _, _, _, _, h, _, _ => by cases h
  | _ :: _, [], _, _, _, _, h, _ => by cases h
  | b :: φ, u :: S, a, 0, o, h1, h2, h3 => by
    cases h1
    cases h2
    unfold liveA
    rw [h3]
    exact List.mem_cons_self
  | b :: φ, u :: S, a, n + 1, o, h1, h2, h3 => by
    have q := mem_liveA (n := n) (φ := φ) (S := S) h1 h2 h3
    unfold liveA
    split
    · exact List.mem_cons_of_mem _ q
    · exact q
theorem liveA_sub {φ : List Addr} {S : Store} {a : Addr} (h : a ∈ liveA φ S) : a ∈ φ := by
  obtain ⟨n, o, h1, _⟩ := liveA_mem h
  exact List.mem_of_getElem? h1
theorem liveA_snoc : ∀ {φ : List Addr} {S : Store} {p : Addr} {o : SO}, φ.length = S.length → liveA (φ ++ [p]) (S ++ [o]) = liveA φ S ++ (if o.live then [p] else [])
  | [], [], p, o, _ => by cases h : o.live <;> simp [liveA, h]
  | a :: φ, u :: S, p, o, h => by
    have q := liveA_snoc (φ := φ) (S := S) (p := p) (o := o) (by simpa using h)
    simp only [List.cons_append, liveA, q]
    split <;> rfl
theorem liveA_set : ∀ {φ : List Addr} {S : Store} {n : Nat} {o u : SO}, S[n]? = some o → u.live = o.live → liveA φ (S.set n u) = liveA φ S
  | [], _, _, _, _, _, _ => by simp [liveA]
  | _ :: _, [], _, _, _, h, _ => by cases h
  | a :: φ, x :: S, 0, o, u, h, e => by
    cases h
    simp only [List.set_cons_zero, liveA, e]
  | a :: φ, x :: S, n + 1, o, u, h, e => by
    have q := liveA_set (φ := φ) (S := S) (n := n) h e
    simp only [List.set_cons_succ, liveA, q]

section
variable (K : PySem.W.Frag) (mg : Str → Option Value)
def SOk (φ : List Addr) (G H : Hp) (a : Addr) : SO → Prop
  | .lst ds => ∃ vs, H a = some (.lst vs) ∧ DatL K mg φ G ds vs
  | .dic ks => ∃ kvs, H a = some (.dK kvs) ∧ DatK K mg φ G ks kvs
  | .ins C fs => ∃ A dx fvs, mg C = some (.ref A) ∧ H a = some (.ins A dx fvs) ∧ DatF K mg φ G fs fvs
  | .frz d => Dat K mg φ G d (.ref a)
  | .dkt ks => ∃ xs, H a = some (DktO a xs) ∧ DatT K mg φ G ks xs
  | .tbl p q => a = (He.cT K p).2 ∧ ∃ ps, H a = some (.tbl ps) ∧ TriplesOk ps.toList ∧ ∀ (pos : Pos) (cv : Value), codeAmong pos ps.toList = some cv → ∃ c, cv = .ref c ∧ G c = some (LamX.CodeO c q)
structure Rel (Z : List Addr) (φ : List Addr) (S : Store) (H : Hp) : Prop where
  len : φ.length = S.length
  nd : φ.Nodup
  zd : ∀ a ∈ φ, a ∉ Z
  zh : ∀ a ∈ Z, H a ≠ none
  ph : ∀ a ∈ φ, H a ≠ none
  ob : ∀ (n : Nat) (a : Addr) (o : SO), φ[n]? = some a → S[n]? = some o → SOk K mg φ (gnd Z φ S H) H a o
end
/-- how a state goes on -/
structure Evo (Z : List Addr) (φ : List Addr) (S : Store) (H : Hp) (φ' : List Addr) (S' : Store) (H' : Hp) : Prop where
  pre : φ <+: φ'
  ext : Same (gnd Z φ S H) (gnd Z φ' S' H')
  out : ∀ a o, H a = some o → a ∉ liveA φ S → H' a = some o
  lv : ∀ a ∈ liveA φ' S', H a ≠ none → a ∈ liveA φ S
theorem Evo.refl {Z φ : List Addr} {S : Store} {H : Hp} : Evo Z φ S H φ S H := ⟨List.prefix_refl _, Same.refl _, fun _ _ h _ => h, fun _ h _ => h⟩
theorem Evo.trans {Z φ φ1 φ2 : List Addr} {S S1 S2 : Store} {H H1 H2 : Hp} (a : Evo Z φ S H φ1 S1 H1) (b : Evo Z φ1 S1 H1 φ2 S2 H2) : Evo Z φ S H φ2 S2 H2 := by
  refine ⟨a.pre.trans b.pre, a.ext.trans b.ext, fun c o h n => ?_, fun c h hn => ?_⟩
  · exact b.out c o (a.out c o h n) fun q => n (a.lv c q (by rw [h]; exact fun z => nomatch z))
  · by_cases q : c ∈ liveA φ S
    · exact q
    · obtain ⟨o, ho⟩ := Option.ne_none_iff_exists'.mp hn
      exact a.lv c (b.lv c h (by rw [a.out c o ho q]; exact fun z => nomatch z)) hn
end DL

/-! The data layer, part 2: how stores change; results; the judgements. -/
namespace DL
open PySem L2

section
variable {K : PySem.W.Frag} {mg : Str → Option Value} {Z φ φ' : List Addr} {S S' : Store} {H H' : Hp}
theorem gnd_same (e : Same H H') : Same (gnd Z φ S H) (gnd Z φ S H') := fun a o h => by
  obtain ⟨h1, h2⟩ := without_some.mp h
  exact without_some.mpr ⟨h1, e a o h2⟩
theorem SOk.mono {φ φ' : List Addr} {G G' H H' : Hp} {a : Addr} (p : φ <+: φ') (e : Same G G') (hl : ∀ o : HO, H a = some o → H' a = some o) : ∀ {o : SO}, SOk K mg φ G H a o → SOk K mg φ' G' H' a o
  | .lst ds, ⟨vs, h1, h2⟩ => ⟨vs, hl _ h1, h2.mono p e⟩
  | .dic ks, ⟨vs, h1, h2⟩ => ⟨vs, hl _ h1, h2.mono p e⟩
  | .ins C fs, ⟨A, dx, fvs, h0, h1, h2⟩ => ⟨A, dx, fvs, h0, hl _ h1, h2.mono p e⟩
  | .frz d, h => Dat.mono p e d _ h
  | .dkt ks, ⟨xs, h1, h2⟩ => ⟨xs, hl _ h1, h2.mono p e⟩
  | .tbl _ _, ⟨h0, ps, h1, h2, h3⟩ => ⟨h0, ps, hl _ h1, h2, fun pos cv hc => by
    obtain ⟨c, q1, q2⟩ := h3 pos cv hc
    exact ⟨c, q1, e _ _ q2⟩⟩
/-- all that stood stands -/
theorem Rel.same (R : Rel K mg Z φ S H) (e : Same H H') : Rel K mg Z φ S H' ∧ Evo Z φ S H φ S H' := by
  have some_of : ∀ a, H a ≠ none → H' a ≠ none := fun a h => by
    obtain ⟨o, ho⟩ := Option.ne_none_iff_exists'.mp h
    rw [e a o ho]
    exact fun z => nomatch z
  exact ⟨⟨R.len, R.nd, R.zd, fun a h => some_of a (R.zh a h), fun a h => some_of a (R.ph a h), fun n a o h1 h2 => (R.ob n a o h1 h2).mono (List.prefix_refl _) (gnd_same e) (e a)⟩,
    ⟨List.prefix_refl _, gnd_same e, fun a o h _ => e a o h, fun a h _ => h⟩⟩
theorem Rel.out_gnd (R : Rel K mg Z φ S H) {p : Addr} (hp : H p = none) : p ∉ Z ++ liveA φ S := fun q => by
  rcases List.mem_append.mp q with z | z
  · exact R.zh p z hp
  · exact R.ph p (liveA_sub z) hp
theorem same_upd {p : Addr} {o : HO} (hp : H p = none) : Same H (upd H p o) := fun b u e => by
  rw [upd_ne (ne_of_none e hp)]
  exact e
/-- a new object that changes no more -/
theorem Rel.fresh (R : Rel K mg Z φ S H) {p : Addr} {o : HO} (hp : H p = none) : Rel K mg Z φ S (upd H p o) ∧ Evo Z φ S H φ S (upd H p o) ∧ gnd Z φ S (upd H p o) p = some o := by
  obtain ⟨a, b⟩ := R.same (same_upd (o := o) hp)
  exact ⟨a, b, without_some.mpr ⟨R.out_gnd hp, upd_same⟩⟩
/-- a new object that may change -/
theorem Rel.newOid (R : Rel K mg Z φ S H) {p : Addr} {so : SO} (e : Same H H') (hp : H p = none) (hp' : H' p ≠ none) (hl : so.live = true) (ok : SOk K mg (φ ++ [p]) (gnd Z (φ ++ [p]) (S ++ [so]) H') H' p so) :
    Rel K mg Z (φ ++ [p]) (S ++ [so]) H' ∧ Evo Z φ S H (φ ++ [p]) (S ++ [so]) H' := by
  have hn := R.out_gnd hp
  have pφ : p ∉ φ := fun q => R.ph p q hp
  have lv : liveA (φ ++ [p]) (S ++ [so]) = liveA φ S ++ [p] := by rw [liveA_snoc R.len, hl]; rfl
  have ext : Same (gnd Z φ S H) (gnd Z (φ ++ [p]) (S ++ [so]) H') := fun a o h => by
    obtain ⟨h1, h2⟩ := without_some.mp h
    refine without_some.mpr ⟨fun q => h1 ?_, e a o h2⟩
    rw [lv] at q
    rcases List.mem_append.mp q with z | z
    · exact List.mem_append_left _ z
    · rcases List.mem_append.mp z with z | z
      · exact List.mem_append_right _ z
      · rw [List.mem_singleton.mp z, hp] at h2
        cases h2
  have some_of : ∀ a, H a ≠ none → H' a ≠ none := fun a h => by
    obtain ⟨o, ho⟩ := Option.ne_none_iff_exists'.mp h
    rw [e a o ho]
    exact fun z => nomatch z
  refine ⟨⟨by rw [List.length_append, List.length_append, R.len]; rfl, List.nodup_append.mpr ⟨R.nd, by simp, fun a ha b hb => ?_⟩, fun a ha => ?_, fun a h => some_of a (R.zh a h), fun a ha => ?_, fun n a o h1 h2 => ?_⟩,
    ⟨⟨[p], rfl⟩, ext, fun a o h _ => e a o h, fun a h hn => ?_⟩⟩
  · rw [List.mem_singleton.mp hb]
    intro z
    rw [z] at ha
    exact pφ ha
  · rcases List.mem_append.mp ha with z | z
    · exact R.zd a z
    · rw [List.mem_singleton.mp z]
      exact fun q => hn (List.mem_append_left _ q)
  · rcases List.mem_append.mp ha with z | z
    · exact some_of a (R.ph a z)
    · rw [List.mem_singleton.mp z]
      exact hp'
  · by_cases hlt : n < φ.length
    · rw [List.getElem?_append_left hlt] at h1
      rw [List.getElem?_append_left (by rw [← R.len]; exact hlt)] at h2
      exact (R.ob n a o h1 h2).mono ⟨[p], rfl⟩ ext (e a)
    · have hlt' : φ.length ≤ n := Nat.le_of_not_lt hlt
      rw [List.getElem?_append_right hlt'] at h1
      rw [List.getElem?_append_right (by rw [← R.len]; exact hlt')] at h2
      have e0 : n - φ.length = 0 := by
        have := (List.getElem?_eq_some_iff.mp h1).1
        simp only [List.length_singleton] at this
        omega
      rw [← R.len] at h2
      rw [e0] at h1 h2
      cases h1
      cases h2
      exact ok
  · rw [lv] at h
    rcases List.mem_append.mp h with z | z
    · exact z
    · rw [List.mem_singleton.mp z] at hn
      exact absurd hp hn
theorem gnd_mut {n : Nat} {a : Addr} {o u : SO} {ho : HO} (h1 : φ[n]? = some a) (h2 : S[n]? = some o) (l1 : o.live = true) (l2 : u.live = true) : gnd Z φ (S.set n u) (upd H a ho) = gnd Z φ S H := by
  funext b
  unfold gnd without
  rw [liveA_set h2 (l2.trans l1.symm)]
  by_cases hb : b = a
  · subst hb
    rw [if_pos (List.mem_append_right _ (mem_liveA h1 h2 l1)), if_pos (List.mem_append_right _ (mem_liveA h1 h2 l1))]
  · rw [upd_ne hb]
/-- an object changes -/
theorem Rel.mutate (R : Rel K mg Z φ S H) {n : Nat} {a : Addr} {o u : SO} {ho : HO} (h1 : φ[n]? = some a) (h2 : S[n]? = some o) (l1 : o.live = true) (l2 : u.live = true) (ok : SOk K mg φ (gnd Z φ S H) (upd H a ho) a u) :
    Rel K mg Z φ (S.set n u) (upd H a ho) ∧ Evo Z φ S H φ (S.set n u) (upd H a ho) := by
  have eg := gnd_mut (Z := Z) (H := H) (ho := ho) h1 h2 l1 l2
  have lv : liveA φ (S.set n u) = liveA φ S := liveA_set h2 (l2.trans l1.symm)
  have some_of : ∀ b, H b ≠ none → upd H a ho b ≠ none := fun b h => by
    by_cases hb : b = a
    · subst hb
      rw [upd_same]
      exact fun z => nomatch z
    · rw [upd_ne hb]
      exact h
  refine ⟨⟨by rw [List.length_set, R.len], R.nd, R.zd, fun b h => some_of b (R.zh b h), fun b h => some_of b (R.ph b h), fun m b w q1 q2 => ?_⟩,
    ⟨List.prefix_refl _, by rw [eg]; exact Same.refl _, fun b w h hn => ?_, fun b h _ => by rw [lv] at h; exact h⟩⟩
  · rw [eg]
    by_cases hm : m = n
    · subst hm
      rw [h1] at q1
      cases q1
      rw [List.getElem?_set_self (List.getElem?_eq_some_iff.mp h2).1] at q2
      cases q2
      exact ok
    · rw [List.getElem?_set_ne (fun z => hm z.symm)] at q2
      refine (R.ob m b w q1 q2).mono (List.prefix_refl _) (Same.refl _) fun ob hb => ?_
      rw [upd_ne]
      · exact hb
      · intro z
        subst z
        exact hm (nd_ix R.nd q1 h1)
  · rw [upd_ne]
    · exact h
    · intro z
      subst z
      exact hn (mem_liveA h1 h2 l1)
theorem liveA_set_sub : ∀ {φ : List Addr} {S : Store} {n : Nat} {u : SO} {a : Addr}, u.live = false → a ∈ liveA φ (S.set n u) → a ∈ liveA φ S
  | [], _, _, _, _, _, h => by simp [liveA] at h
  | _ :: _, [], _, _, _, _, h => by simp [liveA] at h
  | b :: φ, x :: S, 0, u, a, e, h => by
    simp only [List.set_cons_zero, liveA, e] at h
    unfold liveA
    split
    · exact List.mem_cons_of_mem _ h
    · exact h
  | b :: φ, x :: S, n + 1, u, a, e, h => by
    simp only [List.set_cons_succ, liveA] at h
    unfold liveA
    split at h
    · rename_i hx
      rw [if_pos hx]
      rcases List.mem_cons.mp h with rfl | q
      · exact List.mem_cons_self
      · exact List.mem_cons_of_mem _ (liveA_set_sub e q)
    · rename_i hx
      rw [if_neg hx]
      exact liveA_set_sub e h
theorem live_set_not {φ : List Addr} {S : Store} (nd : φ.Nodup) {n : Nat} {u : SO} {a : Addr} (h1 : φ[n]? = some a) (e : u.live = false) : a ∉ liveA φ (S.set n u) := fun q => by
  obtain ⟨m, o, q1, q2, q3⟩ := liveA_mem q
  have hm : m = n := nd_ix nd q1 h1
  subst hm
  have hl := (List.getElem?_eq_some_iff.mp q2).1
  rw [List.getElem?_set_self (by rw [List.length_set] at hl; exact hl)] at q2
  cases q2
  rw [e] at q3
  cases q3
/-- an object changes no more -/
theorem Rel.freeze (R : Rel K mg Z φ S H) {n : Nat} {a : Addr} {d : D} (h1 : φ[n]? = some a) (ok : Dat K mg φ (gnd Z φ (S.set n (.frz d)) H) d (.ref a)) :
    Rel K mg Z φ (S.set n (.frz d)) H ∧ Evo Z φ S H φ (S.set n (.frz d)) H := by
  have ext : Same (gnd Z φ S H) (gnd Z φ (S.set n (.frz d)) H) := fun b o h => by
    obtain ⟨q1, q2⟩ := without_some.mp h
    refine without_some.mpr ⟨fun q => q1 ?_, q2⟩
    rcases List.mem_append.mp q with z | z
    · exact List.mem_append_left _ z
    · exact List.mem_append_right _ (liveA_set_sub rfl z)
  refine ⟨⟨by rw [List.length_set, R.len], R.nd, R.zd, R.zh, R.ph, fun m b w q1 q2 => ?_⟩, ⟨List.prefix_refl _, ext, fun b w h _ => h, fun b h _ => liveA_set_sub rfl h⟩⟩
  by_cases hm : m = n
  · subst hm
    rw [h1] at q1
    cases q1
    have hl := (List.getElem?_eq_some_iff.mp q2).1
    rw [List.getElem?_set_self (by rw [List.length_set] at hl; exact hl)] at q2
    cases q2
    exact ok
  · rw [List.getElem?_set_ne (fun z => hm z.symm)] at q2
    exact (R.ob m b w q1 q2).mono (List.prefix_refl _) ext fun _ z => z
theorem gnd_frz (R : Rel K mg Z φ S H) {n : Nat} {a : Addr} {d : D} (h1 : φ[n]? = some a) {o : HO} (ho : H a = some o) : gnd Z φ (S.set n (.frz d)) H a = some o :=
  without_some.mpr ⟨fun q => (List.mem_append.mp q).elim (R.zd a (List.mem_of_getElem? h1)) (live_set_not R.nd h1 rfl), ho⟩
theorem evo_frz {n : Nat} {d : D} : Same (gnd Z φ S H) (gnd Z φ (S.set n (.frz d)) H) := fun b o h => by
  obtain ⟨q1, q2⟩ := without_some.mp h
  refine without_some.mpr ⟨fun q => q1 ?_, q2⟩
  rcases List.mem_append.mp q with z | z
  · exact List.mem_append_left _ z
  · exact List.mem_append_right _ (liveA_set_sub rfl z)
theorem Dat.evo {d : D} {v : V} (E : Evo Z φ S H φ' S' H') (h : Dat K mg φ (gnd Z φ S H) d v) : Dat K mg φ' (gnd Z φ' S' H') d v := Dat.mono E.pre E.ext d v h
theorem DatL.evo {d : List D} {v : List V} (E : Evo Z φ S H φ' S' H') (h : DatL K mg φ (gnd Z φ S H) d v) : DatL K mg φ' (gnd Z φ' S' H') d v := DatL.mono E.pre E.ext d v h
end

/-! ### results -/
inductive Res (α : Type) where
  | ok (a : α) (S : Store) | ex (C : Str) (fs : List (Str × D)) (S : Store) | stuck
def Res.bind {α β : Type} (r : Res α) (k : α → Store → Res β) : Res β := match r with
  | .ok a S => k a S
  | .ex C fs S => .ex C fs S
  | .stuck => .stuck
@[simp] theorem Res.bind_ok {α β : Type} (a : α) (S : Store) (k : α → Store → Res β) : (Res.ok a S).bind k = k a S := rfl
@[simp] theorem Res.bind_ex {α β : Type} (C : Str) (fs : List (Str × D)) (S : Store) (k : α → Store → Res β) : (Res.ex C fs S).bind k = .ex C fs S := rfl
@[simp] theorem Res.bind_stuck {α β : Type} (k : α → Store → Res β) : (Res.stuck : Res α).bind k = .stuck := rfl
abbrev EnvD := List (Option D)

section
variable (K : PySem.W.Frag) (mg : Str → Option Value)
def ExD (φ : List Addr) (G : Hp) (fs : List (Str × D)) (dx : Option Addr) : Prop := (fs = [] ∧ dx = none) ∨ fs ≠ [] ∧ ∃ a fvs, dx = some a ∧ G a = some (.xd fvs) ∧ DatF K mg φ G fs fvs
/-- what is wanted behind a result -/
def Want {α β : Type} (R : List Addr → Hp → α → β → Prop) (Z φ : List Addr) (S : Store) (H : Hp) (r : Res α) (Q : β → Hp → Prop) (E : XK) : Prop := match r with
  | .ok a S' => ∀ b φ' H', Rel K mg Z φ' S' H' → Evo Z φ S H φ' S' H' → R φ' (gnd Z φ' S' H') a b → Q b H'
  | .ex C fs S' => ∀ A dx φ' H', mg C = some (.ref A) → Rel K mg Z φ' S' H' → Evo Z φ S H φ' S' H' → ExD K mg φ' (gnd Z φ' S' H') fs dx → E (.ref A) dx H'
  | .stuck => False
abbrev RDat : List Addr → Hp → D → V → Prop := fun φ G d v => Dat K mg φ G d v
abbrev RLst : List Addr → Hp → List D → List V → Prop := fun φ G d v => DatL K mg φ G d v
abbrev REq {α : Type} : List Addr → Hp → α → α → Prop := fun _ _ a b => a = b
def Slots (φ : List Addr) (G : Hp) (ρ : EnvD) (σ : L2.St) : Prop := ρ.length = σ.length ∧ ∀ (i : Nat) (d : D), ρ[i]? = some (some d) → ∃ v, σ[i]? = some (some v) ∧ Dat K mg φ G d v
end
section
variable {K : PySem.W.Frag} {mg : Str → Option Value} {Z φ φ' : List Addr} {S S' : Store} {H H' : Hp} {α β γ δ : Type}
theorem Want.go {R : List Addr → Hp → α → β → Prop} {r : Res α} {Q : β → Hp → Prop} {E : XK} (e : Evo Z φ S H φ' S' H') (h : Want K mg R Z φ S H r Q E) : Want K mg R Z φ' S' H' r Q E := by
  cases r with
  | ok a S1 => exact fun b φ1 H1 r1 e1 d => h b φ1 H1 r1 (e.trans e1) d
  | ex C fs S1 => exact fun A dx φ1 H1 m r1 e1 d => h A dx φ1 H1 m r1 (e.trans e1) d
  | stuck => exact h
theorem Want.bind {R : List Addr → Hp → α → β → Prop} {R' : List Addr → Hp → γ → δ → Prop} {r : Res α} {k : α → Store → Res γ} {Q : δ → Hp → Prop} {Q1 : β → Hp → Prop} {E : XK} (h : Want K mg R' Z φ S H (r.bind k) Q E)
    (f : ∀ a S1 b φ1 H1, Rel K mg Z φ1 S1 H1 → Evo Z φ S H φ1 S1 H1 → R φ1 (gnd Z φ1 S1 H1) a b → Want K mg R' Z φ1 S1 H1 (k a S1) Q E → Q1 b H1) : Want K mg R Z φ S H r Q1 E := by
  cases r with
  | ok a S1 => exact fun b φ1 H1 r1 e1 d => f a S1 b φ1 H1 r1 e1 d (h.go e1)
  | ex C fs S1 => exact h
  | stuck => exact h
theorem Want.imp {R : List Addr → Hp → α → β → Prop} {r : Res α} {Q Q1 : β → Hp → Prop} {E : XK} (h : Want K mg R Z φ S H r Q E) (f : ∀ b H', Q b H' → Q1 b H') : Want K mg R Z φ S H r Q1 E := by
  cases r with
  | ok a S1 => exact fun b φ1 H1 r1 e1 d => f _ _ (h b φ1 H1 r1 e1 d)
  | ex C fs S1 => exact h
  | stuck => exact h
/-- the result stands -/
theorem Want.now {R : List Addr → Hp → α → β → Prop} {a : α} {b : β} {Q : β → Hp → Prop} {E : XK} (h : Want K mg R Z φ S H (.ok a S) Q E) (r : Rel K mg Z φ S H) (d : R φ (gnd Z φ S H) a b) : Q b H := h b φ H r Evo.refl d
theorem Slots.evo {ρ : EnvD} {σ : L2.St} (e : Evo Z φ S H φ' S' H') (h : Slots K mg φ (gnd Z φ S H) ρ σ) : Slots K mg φ' (gnd Z φ' S' H') ρ σ := ⟨h.1, fun i d q => by
  obtain ⟨v, a, b⟩ := h.2 i d q
  exact ⟨v, a, b.evo e⟩⟩
theorem Slots.set {G : Hp} {ρ : EnvD} {σ : L2.St} {i : Nat} {d : D} {v : V} (h : Slots K mg φ G ρ σ) (hd : Dat K mg φ G d v) : Slots K mg φ G (ρ.set i (some d)) (σ.set i (some v)) := by
  refine ⟨by rw [List.length_set, List.length_set, h.1], fun j e q => ?_⟩
  by_cases hj : j = i
  · subst hj
    have hl := (List.getElem?_eq_some_iff.mp q).1
    rw [List.length_set] at hl
    rw [List.getElem?_set_self hl] at q
    cases q
    exact ⟨v, by rw [List.getElem?_set_self (by rw [← h.1]; exact hl)], hd⟩
  · rw [List.getElem?_set_ne (fun z => hj z.symm)] at q
    obtain ⟨w, a, b⟩ := h.2 j e q
    exact ⟨w, by rw [List.getElem?_set_ne (fun z => hj z.symm)]; exact a, b⟩
end

/-! ### the judgements -/
section
variable (X : Cx) (W : WX)
abbrev FE := EnvD → Store → Res D
abbrev FT := EnvD → Store → Res Bool
abbrev FA := EnvD → Store → Res (List D)
variable {X W}
/-- the canonical readings of mirrors -/
def tD (K : PySem.W.Frag) (mg : Str → Option Value) (W : WX) (f : FE) : TE := fun σ H Q => ∃ Z φ S ρ, Rel K mg Z φ S H ∧ Slots K mg φ (gnd Z φ S H) ρ σ ∧ Want K mg (RDat K mg) Z φ S H (f ρ S) Q (WE W σ)
def tDT (K : PySem.W.Frag) (mg : Str → Option Value) (W : WX) (f : FT) : TT := fun σ H Q => ∃ Z φ S ρ, Rel K mg Z φ S H ∧ Slots K mg φ (gnd Z φ S H) ρ σ ∧ Want K mg REq Z φ S H (f ρ S) Q (WE W σ)
def tDA (K : PySem.W.Frag) (mg : Str → Option Value) (W : WX) (f : FA) : TA := fun σ H Q => ∃ Z φ S ρ, Rel K mg Z φ S H ∧ Slots K mg φ (gnd Z φ S H) ρ σ ∧ Want K mg (RLst K mg) Z φ S H (f ρ S) Q (WE W σ)
theorem PE.weak {e : Expr} {t t' : TE} (h : PE X e t) (i : ∀ σ H Q, t' σ H Q → t σ H Q) : PE X e t' := ⟨fun pins s σ H Q I q => h.run pins s σ H Q I (i _ _ _ q)⟩
theorem PT.weak {e : Expr} {t t' : TT} (h : PT X e t) (i : ∀ σ H Q, t' σ H Q → t σ H Q) : PT X e t' := ⟨fun pins s σ H Q I q => h.run pins s σ H Q I (i _ _ _ q)⟩
theorem PW.weak {e : Expr} {t t' : TT} (h : L2.PW X e t) (i : ∀ σ H Q, t' σ H Q → t σ H Q) : L2.PW X e t' := ⟨fun wh pins s σ H Q I q => h.run wh pins s σ H Q I (i _ _ _ q)⟩
theorem PA.weak {e : List Expr} {t t' : TA} (h : PA X e t) (i : ∀ σ H Q, t' σ H Q → t σ H Q) : PA X e t' := ⟨fun po pins s σ H Q I q => h.run po pins s σ H Q I (i _ _ _ q)⟩
theorem PK.weak {e : List Keyword} {t t' : TA} (h : L2.PK X e t) (i : ∀ σ H Q, t' σ H Q → t σ H Q) : L2.PK X e t' := ⟨fun po pins s σ H Q I q => h.run po pins s σ H Q I (i _ _ _ q)⟩
theorem PS.weak {e : Stmt} {t t' : TS} (h : PS X e t) (i : ∀ D σ H, t' D σ H → t D σ H) : PS X e t' := ⟨fun pins s σ H D I q => h.run pins s σ H D I (i _ _ _ q)⟩
theorem PSs.weak {e : List Stmt} {t t' : TS} (h : PSs X e t) (i : ∀ D σ H, t' D σ H → t D σ H) : PSs X e t' := ⟨fun pins s σ H D I q => h.run pins s σ H D I (i _ _ _ q)⟩
variable (X W)
abbrev IsE (t : TE) (f : FE) : Prop := ∀ Z φ S ρ σ H (Q : VK), Rel X.K X.mg Z φ S H → Slots X.K X.mg φ (gnd Z φ S H) ρ σ → Want X.K X.mg (RDat X.K X.mg) Z φ S H (f ρ S) Q (WE W σ) → t σ H Q
abbrev IsT (t : TT) (f : FT) : Prop := ∀ Z φ S ρ σ H (Q : Bool → Hp → Prop), Rel X.K X.mg Z φ S H → Slots X.K X.mg φ (gnd Z φ S H) ρ σ → Want X.K X.mg REq Z φ S H (f ρ S) Q (WE W σ) → t σ H Q
abbrev IsA (t : TA) (f : FA) : Prop := ∀ Z φ S ρ σ H (Q : List V → Hp → Prop), Rel X.K X.mg Z φ S H → Slots X.K X.mg φ (gnd Z φ S H) ρ σ → Want X.K X.mg (RLst X.K X.mg) Z φ S H (f ρ S) Q (WE W σ) → t σ H Q
def DE (e : Expr) (f : FE) : Prop := PE X e (tD X.K X.mg W f)
def DT (e : Expr) (f : FT) : Prop := PT X e (tDT X.K X.mg W f)
def DW (e : Expr) (f : FT) : Prop := L2.PW X e (tDT X.K X.mg W f)
def DA (es : List Expr) (f : FA) : Prop := PA X es (tDA X.K X.mg W f)
def DKw (ks : List Keyword) (f : FA) : Prop := L2.PK X ks (tDA X.K X.mg W f)
variable {X W}
theorem DE.mk {e : Expr} {f : FE} {t : TE} (p : PE X e t) (h : IsE X W t f) : DE X W e f := PE.weak p fun σ H Q ⟨Z, φ, S, ρ, R, sl, w⟩ => h Z φ S ρ σ H Q R sl w
theorem DE.ex {e : Expr} {f : FE} (h : DE X W e f) : ∃ t : TE, PE X e t ∧ IsE X W t f := ⟨_, h, fun Z φ S ρ σ H Q R sl w => ⟨Z, φ, S, ρ, R, sl, w⟩⟩
theorem DT.mk {e : Expr} {f : FT} {t : TT} (p : PT X e t) (h : IsT X W t f) : DT X W e f := PT.weak p fun σ H Q ⟨Z, φ, S, ρ, R, sl, w⟩ => h Z φ S ρ σ H Q R sl w
theorem DT.ex {e : Expr} {f : FT} (h : DT X W e f) : ∃ t : TT, PT X e t ∧ IsT X W t f := ⟨_, h, fun Z φ S ρ σ H Q R sl w => ⟨Z, φ, S, ρ, R, sl, w⟩⟩
theorem DW.mk {e : Expr} {f : FT} {t : TT} (p : L2.PW X e t) (h : IsT X W t f) : DW X W e f := PW.weak p fun σ H Q ⟨Z, φ, S, ρ, R, sl, w⟩ => h Z φ S ρ σ H Q R sl w
theorem DW.ex {e : Expr} {f : FT} (h : DW X W e f) : ∃ t : TT, L2.PW X e t ∧ IsT X W t f := ⟨_, h, fun Z φ S ρ σ H Q R sl w => ⟨Z, φ, S, ρ, R, sl, w⟩⟩
theorem DA.mk {e : List Expr} {f : FA} {t : TA} (p : PA X e t) (h : IsA X W t f) : DA X W e f := PA.weak p fun σ H Q ⟨Z, φ, S, ρ, R, sl, w⟩ => h Z φ S ρ σ H Q R sl w
theorem DA.ex {e : List Expr} {f : FA} (h : DA X W e f) : ∃ t : TA, PA X e t ∧ IsA X W t f := ⟨_, h, fun Z φ S ρ σ H Q R sl w => ⟨Z, φ, S, ρ, R, sl, w⟩⟩
theorem DKw.mk {e : List Keyword} {f : FA} {t : TA} (p : L2.PK X e t) (h : IsA X W t f) : DKw X W e f := PK.weak p fun σ H Q ⟨Z, φ, S, ρ, R, sl, w⟩ => h Z φ S ρ σ H Q R sl w
theorem DKw.ex {e : List Keyword} {f : FA} (h : DKw X W e f) : ∃ t : TA, L2.PK X e t ∧ IsA X W t f := ⟨_, h, fun Z φ S ρ σ H Q R sl w => ⟨Z, φ, S, ρ, R, sl, w⟩⟩
variable (X W)
/-- a statement's result -/
inductive Out where
  | nx (ρ : EnvD) (S : Store) | rt (d : D) (S : Store) | bk (ρ : EnvD) (S : Store) | ct (ρ : EnvD) (S : Store) | ex (C : Str) (fs : List (Str × D)) (ρ : EnvD) (S : Store) | stuck
abbrev FS := EnvD → Store → Out
def WantS (Z φ : List Addr) (S : Store) (H : Hp) (o : Out) (Dd : Ends) : Prop := match o with
  | .nx ρ S' => ∀ σ φ' H', Rel X.K X.mg Z φ' S' H' → Evo Z φ S H φ' S' H' → Slots X.K X.mg φ' (gnd Z φ' S' H') ρ σ → Dd.nx σ H'
  | .rt d S' => ∀ v φ' H', Rel X.K X.mg Z φ' S' H' → Evo Z φ S H φ' S' H' → Dat X.K X.mg φ' (gnd Z φ' S' H') d v → Dd.rt v H'
  | .bk ρ S' => ∀ σ φ' H', Rel X.K X.mg Z φ' S' H' → Evo Z φ S H φ' S' H' → Slots X.K X.mg φ' (gnd Z φ' S' H') ρ σ → Dd.bk σ H'
  | .ct ρ S' => ∀ σ φ' H', Rel X.K X.mg Z φ' S' H' → Evo Z φ S H φ' S' H' → Slots X.K X.mg φ' (gnd Z φ' S' H') ρ σ → Dd.ct σ H'
  | .ex C fs ρ S' => ∀ A dx σ φ' H', X.mg C = some (.ref A) → Rel X.K X.mg Z φ' S' H' → Evo Z φ S H φ' S' H' → Slots X.K X.mg φ' (gnd Z φ' S' H') ρ σ → ExD X.K X.mg φ' (gnd Z φ' S' H') fs dx → W (.ref A) dx σ H'
  | .stuck => False
def tDS (g : FS) : TS := fun Dd σ H => ∃ Z φ S ρ, Rel X.K X.mg Z φ S H ∧ Slots X.K X.mg φ (gnd Z φ S H) ρ σ ∧ WantS X W Z φ S H (g ρ S) Dd
abbrev IsS (t : TS) (g : FS) : Prop := ∀ Z φ S ρ σ H Dd, Rel X.K X.mg Z φ S H → Slots X.K X.mg φ (gnd Z φ S H) ρ σ → WantS X W Z φ S H (g ρ S) Dd → t Dd σ H
def DS (st : Stmt) (g : FS) : Prop := PS X st (tDS X W g)
def DSs (sts : List Stmt) (g : FS) : Prop := PSs X sts (tDS X W g)
variable {X W}
theorem DS.mk {e : Stmt} {f : FS} {t : TS} (p : PS X e t) (h : IsS X W t f) : DS X W e f := PS.weak p fun D σ H ⟨Z, φ, S, ρ, R, sl, w⟩ => h Z φ S ρ σ H D R sl w
theorem DS.ex {e : Stmt} {f : FS} (h : DS X W e f) : ∃ t : TS, PS X e t ∧ IsS X W t f := ⟨_, h, fun Z φ S ρ σ H D R sl w => ⟨Z, φ, S, ρ, R, sl, w⟩⟩
theorem DSs.mk {e : List Stmt} {f : FS} {t : TS} (p : PSs X e t) (h : IsS X W t f) : DSs X W e f := PSs.weak p fun D σ H ⟨Z, φ, S, ρ, R, sl, w⟩ => h Z φ S ρ σ H D R sl w
theorem DSs.ex {e : List Stmt} {f : FS} (h : DSs X W e f) : ∃ t : TS, PSs X e t ∧ IsS X W t f := ⟨_, h, fun Z φ S ρ σ H D R sl w => ⟨Z, φ, S, ρ, R, sl, w⟩⟩
end
section
variable {X : Cx} {W : WX} {Z φ φ' : List Addr} {S S' : Store} {H H' : Hp} {Dd : Ends}
theorem WantS.go {o : Out} (e : Evo Z φ S H φ' S' H') (h : WantS X W Z φ S H o Dd) : WantS X W Z φ' S' H' o Dd := by
  cases o with
  | nx ρ S1 => exact fun σ φ1 H1 r1 e1 d => h σ φ1 H1 r1 (e.trans e1) d
  | rt d S1 => exact fun σ φ1 H1 r1 e1 d => h σ φ1 H1 r1 (e.trans e1) d
  | bk ρ S1 => exact fun σ φ1 H1 r1 e1 d => h σ φ1 H1 r1 (e.trans e1) d
  | ct ρ S1 => exact fun σ φ1 H1 r1 e1 d => h σ φ1 H1 r1 (e.trans e1) d
  | ex C fs ρ S1 => exact fun A dx σ φ1 H1 m r1 e1 sl d => h A dx σ φ1 H1 m r1 (e.trans e1) sl d
  | stuck => exact h
/-- an expression's result within a statement -/
def Res.into {α : Type} (r : Res α) (ρ : EnvD) (k : α → Store → Out) : Out := match r with
  | .ok a S => k a S
  | .ex C fs S => .ex C fs ρ S
  | .stuck => .stuck
@[simp] theorem Res.into_ok {α : Type} (a : α) (S : Store) (ρ : EnvD) (k : α → Store → Out) : (Res.ok a S).into ρ k = k a S := rfl
@[simp] theorem Res.into_ex {α : Type} (C : Str) (fs : List (Str × D)) (S : Store) (ρ : EnvD) (k : α → Store → Out) : (Res.ex C fs S).into ρ k = .ex C fs ρ S := rfl
@[simp] theorem Res.into_stuck {α : Type} (ρ : EnvD) (k : α → Store → Out) : (Res.stuck : Res α).into ρ k = .stuck := rfl
theorem WantS.into {α β : Type} {R : List Addr → Hp → α → β → Prop} {r : Res α} {ρ : EnvD} {σ : L2.St} {k : α → Store → Out} {Q1 : β → Hp → Prop} (sl : Slots X.K X.mg φ (gnd Z φ S H) ρ σ) (h : WantS X W Z φ S H (r.into ρ k) Dd)
    (f : ∀ a S1 b φ1 H1, Rel X.K X.mg Z φ1 S1 H1 → Evo Z φ S H φ1 S1 H1 → R φ1 (gnd Z φ1 S1 H1) a b → WantS X W Z φ1 S1 H1 (k a S1) Dd → Q1 b H1) : Want X.K X.mg R Z φ S H r Q1 (WE W σ) := by
  cases r with
  | ok a S1 => exact fun b φ1 H1 r1 e1 d => f a S1 b φ1 H1 r1 e1 d (h.go e1)
  | ex C fs S1 => exact fun A dx φ1 H1 m r1 e1 d => h A dx σ φ1 H1 m r1 e1 (sl.evo e1) d
  | stuck => exact h
end
end DL

/-! The data layer, part 3: names, constants, operators, tests, displays, items, built-ins. -/
namespace DL
open PySem L2

section
variable {K : PySem.W.Frag} {mg : Str → Option Value} {Z φ : List Addr} {S : Store} {H : Hp}
theorem gnd_sub : Same (gnd Z φ S H) H := fun a o h => (without_some.mp h).2
/-- the items of a list, wherever it lies -/
def asL (S : Store) : D → Option (List D)
  | .lst ds => some ds
  | .scr ds => some ds
  | .oid n => match S[n]? with
    | some (.lst ds) => some ds
    | some (.frz (.lst ds)) => some ds
    | _ => none
  | _ => none
/-- the items of a list or a tuple -/
def asQ (S : Store) : D → Option (List D)
  | .tup ds => some ds
  | d => asL S d
theorem asL_ok (R : Rel K mg Z φ S H) {d : D} {v : V} {ds : List D} (h : Dat K mg φ (gnd Z φ S H) d v) (e : asL S d = some ds) : ∃ a vs, v = .ref a ∧ SqL K H a vs ∧ DatL K mg φ (gnd Z φ S H) ds vs := by
  cases d with
  | lst es =>
    cases e
    unfold Dat at h
    obtain ⟨a, vs, rfl, h1, h2⟩ := h
    exact ⟨a, vs, rfl, .of (gnd_sub _ _ h1), h2⟩
  | scr es =>
    cases e
    unfold Dat at h
    obtain ⟨a, vs, rfl, h1, h2⟩ := h
    exact ⟨a, vs, rfl, Same.seq gnd_sub h1, h2⟩
  | oid n =>
    unfold Dat at h
    obtain ⟨a, rfl, h1⟩ := h
    cases q : S[n]? with
    | none => simp [asL, q] at e
    | some o =>
      simp only [asL, q] at e
      have ok := R.ob n a o h1 q
      cases o with
      | lst es =>
        cases e
        obtain ⟨vs, q1, q2⟩ := ok
        exact ⟨a, vs, rfl, .of q1, q2⟩
      | frz d =>
        cases d with
        | lst es =>
          cases e
          have ok' : Dat K mg φ (gnd Z φ S H) (.lst _) (.ref a) := ok
          unfold Dat at ok'
          obtain ⟨b, vs, e1, q1, q2⟩ := ok'
          cases e1
          exact ⟨a, vs, rfl, .of (gnd_sub _ _ q1), q2⟩
        | _ => cases e
      | _ => cases e
  | _ => cases e
theorem asQ_ok (R : Rel K mg Z φ S H) {d : D} {v : V} {ds : List D} (h : Dat K mg φ (gnd Z φ S H) d v) (e : asQ S d = some ds) : ∃ a vs, v = .ref a ∧ (SqL K H a vs ∨ SqT K H a vs) ∧ DatL K mg φ (gnd Z φ S H) ds vs := by
  cases d with
  | tup es =>
    cases e
    unfold Dat at h
    obtain ⟨a, vs, rfl, h1, h2⟩ := h
    exact ⟨a, vs, rfl, .inr (sqt_mono gnd_sub h1), h2⟩
  | _ =>
    obtain ⟨a, vs, e1, h1, h2⟩ := asL_ok R h e
    exact ⟨a, vs, e1, .inl h1, h2⟩
end

section
variable {X : Cx} {W : WX} {a b c e : Expr} {es : List Expr} {fa fb fc fe : FE} {pos : Pos}

/-! ### names and constants -/
def fVar (i : Nat) : FE := fun ρ S => match ρ[i]? with
  | some (some d) => .ok d S
  | _ => .stuck
def fC (d : D) : FE := fun _ S => .ok d S
theorem de_var {i : Nat} {x : Str} (p : PE X (.Name x pos) (tVar i)) : DE X W (.Name x pos) (fVar i) :=
  .mk p (fun Z φ S ρ σ H Q R sl w => by
    unfold fVar at w
    cases h : ρ[i]? with
    | none => rw [h] at w; exact w.elim
    | some o =>
      cases o with
      | none => rw [h] at w; exact w.elim
      | some d =>
        rw [h] at w
        obtain ⟨v, h1, h2⟩ := sl.2 i d h
        exact ⟨v, h1, w.now R h2⟩)
theorem de_c {t : TE} {v : V} {d : D} (p : PE X e t) (ht : t = tC v) (hd : ∀ φ G, Dat X.K X.mg φ G d v) : DE X W e (fC d) := by
  subst ht
  exact .mk p (fun Z φ S ρ σ H Q R sl w => w.now R (hd _ _))
theorem de_int {i : Int} {j} : DE X W (.Constant (.int i) j pos) (fC (.int i)) := de_c pe_int rfl fun _ _ => by unfold Dat; rfl
theorem de_bl {i : Bool} {j} : DE X W (.Constant (.bool i) j pos) (fC (.bl i)) := de_c pe_bl rfl fun _ _ => by unfold Dat; rfl
theorem de_non {j} : DE X W (.Constant .none j pos) (fC .non) := de_c pe_non rfl fun _ _ => by unfold Dat; rfl
theorem de_str {i : Str} {j} : DE X W (.Constant (.str i) j pos) (fC (.str i)) := de_c pe_str rfl fun _ _ => by unfold Dat; rfl
/-- a module's int -/
theorem de_globI {x : Str} {i : Int} {t : Tok} (hg : Gl X x) (hm : X.mg x = some (.int i t)) (hd : (x == ("__debug__" : Str)) = false := by decide) : DE X W (.Name x pos) (fC (.int i)) :=
  de_c (pe_glob (v := .int i) hg hm ⟨t, rfl⟩ hd) rfl fun _ _ => by unfold Dat; rfl
/-- a module's text -/
theorem de_globS {x y : Str} {t : Tok} (hg : Gl X x) (hm : X.mg x = some (.str y t)) (hd : (x == ("__debug__" : Str)) = false := by decide) : DE X W (.Name x pos) (fC (.str y)) :=
  de_c (pe_glob (v := .str y) hg hm ⟨t, rfl⟩ hd) rfl fun _ _ => by unfold Dat; rfl
/-- a built-in class as a value -/
theorem de_ty {x : Str} {n : String} (hg : Gl X x) (hm : X.mg x = none) (hv : bootBuiltins x = some (.type n)) (hn : x ≠ "__name__" := by decide) (hd : (x == ("__debug__" : Str)) = false := by decide) : DE X W (.Name x pos) (fC (.ty n)) :=
  de_c (pe_bltn (v := .ty n) hg hm hv rfl hn hd) rfl fun _ _ => by unfold Dat; rfl

/-! ### operators -/
abbrev G2 := D → D → Store → Res D
def OpD (X : Cx) (r : R2) (g : G2) : Prop := ∀ (Z φ : List Addr) (S : Store) (H : Hp) (x y : D) (u v : V) (Q : VK) (E : XK), Rel X.K X.mg Z φ S H → Dat X.K X.mg φ (gnd Z φ S H) x u → Dat X.K X.mg φ (gnd Z φ S H) y v →
  Want X.K X.mg (RDat X.K X.mg) Z φ S H (g x y S) Q E → r u v H Q
def fBin (g : G2) (fa fb : FE) : FE := fun ρ S => (fa ρ S).bind fun x S => (fb ρ S).bind fun y S => g x y S
theorem dbin {ta tb : TE} {r : R2} {g : G2} (hg : OpD X r g)
    (ha : ∀ Z φ S ρ σ H (Q : VK), Rel X.K X.mg Z φ S H → Slots X.K X.mg φ (gnd Z φ S H) ρ σ → Want X.K X.mg (RDat X.K X.mg) Z φ S H (fa ρ S) Q (WE W σ) → ta σ H Q)
    (hb : ∀ Z φ S ρ σ H (Q : VK), Rel X.K X.mg Z φ S H → Slots X.K X.mg φ (gnd Z φ S H) ρ σ → Want X.K X.mg (RDat X.K X.mg) Z φ S H (fb ρ S) Q (WE W σ) → tb σ H Q)
    (Z φ S ρ σ H) (Q : VK) (R : Rel X.K X.mg Z φ S H) (sl : Slots X.K X.mg φ (gnd Z φ S H) ρ σ) (w : Want X.K X.mg (RDat X.K X.mg) Z φ S H (fBin g fa fb ρ S) Q (WE W σ)) : tOp r ta tb σ H Q :=
  ha Z φ S ρ σ H _ R sl (w.bind fun x S1 u φ1 H1 R1 E1 d1 w1 => hb Z φ1 S1 ρ σ H1 _ R1 (sl.evo E1) (w1.bind fun y S2 v φ2 H2 R2 E2 d2 w2 => hg Z φ2 S2 H2 x y u v Q _ R2 (Dat.evo E2 d1) d2 w2))
theorem de_bin {op : Operator} {r : R2} {g : G2} (ho : OpR X (binaryOp op) r) (hg : OpD X r g) (ha : DE X W a fa) (hb : DE X W b fb) : DE X W (.BinOp a op b pos) (fBin g fa fb) := by
  obtain ⟨ta, pa, qa⟩ := (ha).ex
  obtain ⟨tb, pb, qb⟩ := (hb).ex
  exact .mk (pe_op ho pa pb) (dbin hg qa qb)
theorem de_cmp {op : CmpOp} {r : R2} {g : G2} (ho : OpR X (compareOp op) r) (hg : OpD X r g) (ha : DE X W a fa) (hb : DE X W b fb) (hm : behindInMarks op b = false) : DE X W (.Compare a [op] [b] pos) (fBin g fa fb) := by
  obtain ⟨ta, pa, qa⟩ := (ha).ex
  obtain ⟨tb, pb, qb⟩ := (hb).ex
  exact .mk (pe_cmpR ho pa pb hm) (dbin hg qa qb)
theorem de_ix {r : R2} {g : G2} (ho : IxR X r) (hg : OpD X r g) (ha : DE X W a fa) (hb : DE X W b fb) (hs : PlainIx b) : DE X W (.Subscript a b pos) (fBin g fa fb) := by
  obtain ⟨ta, pa, qa⟩ := (ha).ex
  obtain ⟨tb, pb, qb⟩ := (hb).ex
  exact .mk (pe_ix ho pa pb hs) (dbin hg qa qb)
/-- the answer as a test -/
def toB (f : FE) : FT := fun ρ S => (f ρ S).bind fun d S => match d with
  | .bl k => .ok k S
  | _ => .stuck
theorem toB_ok {t : TE} {f : FE}
    (ha : ∀ Z φ S ρ σ H (Q : VK), Rel X.K X.mg Z φ S H → Slots X.K X.mg φ (gnd Z φ S H) ρ σ → Want X.K X.mg (RDat X.K X.mg) Z φ S H (f ρ S) Q (WE W σ) → t σ H Q)
    (Z φ S ρ σ H) (Q : Bool → Hp → Prop) (R : Rel X.K X.mg Z φ S H) (sl : Slots X.K X.mg φ (gnd Z φ S H) ρ σ) (w : Want X.K X.mg REq Z φ S H (toB f ρ S) Q (WE W σ)) : t σ H fun x H' => ∃ k, x = .bl k ∧ Q k H' :=
  ha Z φ S ρ σ H _ R sl (w.bind fun x S1 u φ1 H1 R1 E1 d1 w1 => by
    cases x with
    | bl k =>
      unfold RDat Dat at d1
      exact ⟨k, d1, w1.now R1 rfl⟩
    | _ => exact w1.elim)
theorem dt_cmp {op : CmpOp} {r : R2} {g : G2} (ho : OpR X (compareOp op) r) (hg : OpD X r g) (ha : DE X W a fa) (hb : DE X W b fb) (hm : behindInMarks op b = false) : DT X W (.Compare a [op] [b] pos) (toB (fBin g fa fb)) := by
  obtain ⟨ta, pa, qa⟩ := (ha).ex
  obtain ⟨tb, pb, qb⟩ := (hb).ex
  exact .mk (pt_cmpR ho pa pb hm) (toB_ok (dbin hg qa qb))
theorem dt_val (ha : DE X W a fa) (he : ∀ whole, isTrue a X.env whole = (do let v ← whole; standAt a.pos; holding [v] (truthy v)) := by intro _; rfl) : DT X W a (toB fa) := by
  obtain ⟨ta, pa, qa⟩ := (ha).ex
  exact .mk (pt_val pa he) (toB_ok qa)
def fUn (g : D → Store → Res D) (fa : FE) : FE := fun ρ S => (fa ρ S).bind g
def UnD (X : Cx) (r : V → Hp → VK → Prop) (g : D → Store → Res D) : Prop := ∀ (Z φ : List Addr) (S : Store) (H : Hp) (x : D) (u : V) (Q : VK) (E : XK), Rel X.K X.mg Z φ S H → Dat X.K X.mg φ (gnd Z φ S H) x u →
  Want X.K X.mg (RDat X.K X.mg) Z φ S H (g x S) Q E → r u H Q
theorem de_un {op : UnaryOp} {r : V → Hp → VK → Prop} {g : D → Store → Res D} (ho : UnR X (unaryOp op) r) (hg : UnD X r g) (ha : DE X W a fa) : DE X W (.UnaryOp op a pos) (fUn g fa) := by
  obtain ⟨ta, pa, qa⟩ := (ha).ex
  exact .mk (pe_un ho pa) (fun Z φ S ρ σ H Q R sl w => qa Z φ S ρ σ H _ R sl (w.bind fun x S1 u φ1 H1 R1 E1 d1 w1 => hg Z φ1 S1 H1 x u Q _ R1 d1 w1))
theorem OpD.or {r r' : R2} {g g' : G2} (p : D → D → Store → Bool) (h : OpD X r g) (h' : OpD X r' g') : OpD X (fun x y H Q => r x y H Q ∨ r' x y H Q) (fun x y S => if p x y S then g x y S else g' x y S) := fun Z φ S H x y u v Q E R dx dy w => by
  by_cases q : p x y S = true
  · exact .inl (h Z φ S H x y u v Q E R dx dy (by simpa only [q, if_true] using w))
  · exact .inr (h' Z φ S H x y u v Q E R dx dy (by simpa [q] using w))

/-! ints -/
def gI (C : Int → Int → Bool) (f : Int → Int → D) : G2 := fun x y S => match x, y with
  | .int i, .int j => if C i j then .ok (f i j) S else .stuck
  | _, _ => .stuck
theorem gI_inv {C : Int → Int → Bool} {f : Int → Int → D} {x y : D} {S : Store} {Z φ : List Addr} {H : Hp} {Q : VK} {E : XK} (w : Want X.K X.mg (RDat X.K X.mg) Z φ S H (gI C f x y S) Q E) :
    ∃ i j, x = .int i ∧ y = .int j ∧ C i j = true ∧ Want X.K X.mg (RDat X.K X.mg) Z φ S H (.ok (f i j) S) Q E := by
  unfold gI at w
  cases x with
  | int i =>
    cases y with
    | int j =>
      by_cases q : C i j = true
      · simp only [q, if_true] at w
        exact ⟨i, j, rfl, rfl, q, w⟩
      · simp only [q] at w
        exact w.elim
    | _ => exact w.elim
  | _ => exact w.elim
theorem opd_I {C : Int → Int → Prop} {c : Int → Int → Bool} {g : Int → Int → V} {f : Int → Int → D} (hc : ∀ i j, c i j = true → C i j) (hf : ∀ i j φ G, Dat X.K X.mg φ G (f i j) (g i j)) : OpD X (rI C g) (gI c f) :=
  fun Z φ S H x y u v Q E R dx dy w => by
    obtain ⟨i, j, rfl, rfl, q, w⟩ := gI_inv w
    unfold Dat at dx dy
    exact ⟨i, j, dx, dy, hc i j q, w.now R (hf i j _ _)⟩
theorem opd_I0 {g : Int → Int → V} {f : Int → Int → D} (hf : ∀ i j φ G, Dat X.K X.mg φ G (f i j) (g i j)) : OpD X (rI0 g) (gI (fun _ _ => true) f) :=
  fun Z φ S H x y u v Q E R dx dy w => by
    obtain ⟨i, j, rfl, rfl, q, w⟩ := gI_inv w
    unfold Dat at dx dy
    exact ⟨i, j, dx, dy, w.now R (hf i j _ _)⟩
theorem dat_int {φ : List Addr} {G : Hp} (i : Int) : Dat X.K X.mg φ G (.int i) (.int i) := by unfold Dat; rfl
theorem dat_bl {φ : List Addr} {G : Hp} (i : Bool) : Dat X.K X.mg φ G (.bl i) (.bl i) := by unfold Dat; rfl
theorem dat_str {φ : List Addr} {G : Hp} (i : Str) : Dat X.K X.mg φ G (.str i) (.str i) := by unfold Dat; rfl
theorem dat_non {φ : List Addr} {G : Hp} : Dat X.K X.mg φ G .non .non := by unfold Dat; rfl
def gSub : G2 := gI (fun _ _ => true) fun i j => .int (i - j)
noncomputable def cMul (i j : Int) : Bool := @decide ((-18446744073709551616 < i ∧ i < 18446744073709551616) ∨ (-18446744073709551616 < j ∧ j < 18446744073709551616)) (Classical.propDecidable _)
noncomputable def gMul : G2 := gI cMul fun i j => .int (i * j)
def gMod : G2 := gI (fun _ j => decide (0 < j)) fun i j => .int (i % j)
noncomputable def cDiv (_ j : Int) : Bool := @decide (0 < j ∧ j < 1073741824) (Classical.propDecidable _)
noncomputable def gDiv : G2 := gI cDiv fun i j => .int (i / j)
noncomputable def cPow (i j : Int) : Bool := @decide (0 ≤ j ∧ j ≤ 1000000 ∧ i.natAbs < 18446744073709551616) (Classical.propDecidable _)
noncomputable def gPow : G2 := gI cPow fun i j => .int (i ^ j.toNat)
theorem de_sub (ha : DE X W a fa) (hb : DE X W b fb) : DE X W (.BinOp a .Sub b pos) (fBin gSub fa fb) := de_bin op_sub (opd_I0 fun _ _ _ _ => dat_int _) ha hb
theorem de_mul (ha : DE X W a fa) (hb : DE X W b fb) : DE X W (.BinOp a .Mult b pos) (fBin gMul fa fb) :=
  de_bin op_mul (opd_I (fun i j h => by simpa [cMul, CMul] using h) fun _ _ _ _ => dat_int _) ha hb
theorem de_mod (ha : DE X W a fa) (hb : DE X W b fb) : DE X W (.BinOp a .Mod b pos) (fBin gMod fa fb) := de_bin op_mod (opd_I (fun i j h => by simpa using h) fun _ _ _ _ => dat_int _) ha hb
theorem de_fdiv (ha : DE X W a fa) (hb : DE X W b fb) : DE X W (.BinOp a .FloorDiv b pos) (fBin gDiv fa fb) := de_bin op_fdiv (opd_I (fun i j h => by simpa [cDiv, CDiv] using h) fun _ _ _ _ => dat_int _) ha hb
theorem de_pow (ha : DE X W a fa) (hb : DE X W b fb) : DE X W (.BinOp a .Pow b pos) (fBin gPow fa fb) := de_bin op_pow (opd_I (fun i j h => by simpa [cPow, CPow, and_assoc] using h) fun _ _ _ _ => dat_int _) ha hb
def gNeg : D → Store → Res D := fun x S => match x with
  | .int i => .ok (.int (-i)) S
  | _ => .stuck
theorem de_neg (ha : DE X W a fa) : DE X W (.UnaryOp .USub a pos) (fUn gNeg fa) := de_un un_neg (fun Z φ S H x u Q E R dx w => by
  cases x with
  | int i =>
    unfold Dat at dx
    exact ⟨i, dx, w.now R (dat_int _)⟩
  | _ => exact w.elim) ha
def gLt : G2 := gI (fun _ _ => true) fun i j => .bl (decide (i < j))
def gLe : G2 := gI (fun _ _ => true) fun i j => .bl (decide (i ≤ j))
def gGt : G2 := gI (fun _ _ => true) fun i j => .bl (decide (j < i))
def gGe : G2 := gI (fun _ _ => true) fun i j => .bl (decide (j ≤ i))
theorem opd_lt : OpD X (rI0 fun i j => .bl (decide (i < j))) gLt := opd_I0 fun _ _ _ _ => dat_bl _
theorem opd_le : OpD X (rI0 fun i j => .bl (decide (i ≤ j))) gLe := opd_I0 fun _ _ _ _ => dat_bl _
theorem opd_gt : OpD X (rI0 fun i j => .bl (decide (j < i))) gGt := opd_I0 fun _ _ _ _ => dat_bl _
theorem opd_ge : OpD X (rI0 fun i j => .bl (decide (j ≤ i))) gGe := opd_I0 fun _ _ _ _ => dat_bl _
/-! is None -/
def D.isNon : D → Bool
  | .non => true
  | _ => false
theorem isNon_V {φ : List Addr} {G : Hp} {K : PySem.W.Frag} {mg : Str → Option Value} {d : D} {v : V} (h : Dat K mg φ G d v) : decide (v = .non) = d.isNon := by
  cases d <;> unfold Dat at h <;> first
    | (subst h; rfl)
    | (obtain ⟨_, _, rfl, _⟩ := h; rfl)
    | (obtain ⟨_, rfl, _⟩ := h; rfl)
    | (obtain ⟨_, _, _, _, rfl, _⟩ := h; rfl)
    | (obtain ⟨_, _, _, rfl, _⟩ := h; rfl)
def gIs : G2 := fun x y S => if y.isNon then .ok (.bl x.isNon) S else .stuck
def gIsNot : G2 := fun x y S => if y.isNon then .ok (.bl (!x.isNon)) S else .stuck
theorem opd_is : OpD X (fun x y H Q => y = .non ∧ Q (.bl (decide (x = .non))) H) gIs := fun Z φ S H x y u v Q E R dx dy w => by
  unfold gIs at w
  by_cases q : y.isNon = true
  · rw [if_pos q] at w
    have e := isNon_V dy
    rw [q] at e
    refine ⟨of_decide_eq_true e, ?_⟩
    rw [isNon_V dx]
    exact w.now R (dat_bl _)
  · rw [if_neg q] at w
    exact w.elim
theorem opd_isnot : OpD X (fun x y H Q => y = .non ∧ Q (.bl (!decide (x = .non))) H) gIsNot := fun Z φ S H x y u v Q E R dx dy w => by
  unfold gIsNot at w
  by_cases q : y.isNon = true
  · rw [if_pos q] at w
    have e := isNon_V dy
    rw [q] at e
    refine ⟨of_decide_eq_true e, ?_⟩
    rw [isNon_V dx]
    exact w.now R (dat_bl _)
  · rw [if_neg q] at w
    exact w.elim

/-! ### and, or, not, if -/
def fAndT (ta tb : FT) : FT := fun ρ S => (ta ρ S).bind fun k S => if k then tb ρ S else .ok false S
def fOrT (ta tb : FT) : FT := fun ρ S => (ta ρ S).bind fun k S => if k then .ok true S else tb ρ S
def fNotT (ta : FT) : FT := fun ρ S => (ta ρ S).bind fun k S => .ok (!k) S
variable {ga gb : FT} {rest : List Expr}
theorem dw_and1 (ha : DT X W a ga) : DW X W (.BoolOp .And [a] pos) ga := by
  obtain ⟨t, p, q⟩ := (ha).ex
  exact .mk (pw_and1 p) q
theorem dw_or1 (ha : DT X W a ga) : DW X W (.BoolOp .Or [a] pos) ga := by
  obtain ⟨t, p, q⟩ := (ha).ex
  exact .mk (pw_or1 p) q
theorem dw_and (ha : DT X W a ga) (hb : DW X W (.BoolOp .And (b :: rest) pos) gb) : DW X W (.BoolOp .And (a :: b :: rest) pos) (fAndT ga gb) := by
  obtain ⟨t, p, q⟩ := (ha).ex
  obtain ⟨u, p', q'⟩ := (hb).ex
  refine .mk (pw_and p p') (fun Z φ S ρ σ H Q R sl w => q Z φ S ρ σ H _ R sl (w.bind fun k S1 k' φ1 H1 R1 E1 e w1 => ?_))
  cases e
  cases k with
  | true => exact iteT (q' Z φ1 S1 ρ σ H1 Q R1 (sl.evo E1) w1)
  | false => exact iteF (w1.now R1 rfl)
theorem dw_or (ha : DT X W a ga) (hb : DW X W (.BoolOp .Or (b :: rest) pos) gb) : DW X W (.BoolOp .Or (a :: b :: rest) pos) (fOrT ga gb) := by
  obtain ⟨t, p, q⟩ := (ha).ex
  obtain ⟨u, p', q'⟩ := (hb).ex
  refine .mk (pw_or p p') (fun Z φ S ρ σ H Q R sl w => q Z φ S ρ σ H _ R sl (w.bind fun k S1 k' φ1 H1 R1 E1 e w1 => ?_))
  cases e
  cases k with
  | true => exact iteT (w1.now R1 rfl)
  | false => exact iteF (q' Z φ1 S1 ρ σ H1 Q R1 (sl.evo E1) w1)
theorem DW.dt (h : DW X W a ga) : DT X W a ga := by
  obtain ⟨t, p, q⟩ := (h).ex
  exact .mk (p.pt) q
theorem dt_not (h : DT X W a ga) : DT X W (.UnaryOp .Not a pos) (fNotT ga) := by
  obtain ⟨t, p, q⟩ := (h).ex
  refine .mk (pt_not p) (fun Z φ S ρ σ H Q R sl w => q Z φ S ρ σ H _ R sl (w.bind fun k S1 k' φ1 H1 R1 E1 e w1 => ?_))
  cases e
  exact w1.now R1 rfl
/-- and, or as values, all but the last a truth -/
def fAndV (fa fb : FE) : FE := fun ρ S => (fa ρ S).bind fun d S => match d with
  | .bl true => fb ρ S
  | .bl false => .ok (.bl false) S
  | _ => .stuck
def fOrV (fa fb : FE) : FE := fun ρ S => (fa ρ S).bind fun d S => match d with
  | .bl true => .ok (.bl true) S
  | .bl false => fb ρ S
  | _ => .stuck
theorem de_one {op} (h : DE X W a fa) : DE X W (.BoolOp op [a] pos) fa := by
  obtain ⟨t, p, q⟩ := (h).ex
  exact .mk (pe_one p) q
theorem de_and (ha : DE X W a fa) (hb : DE X W (.BoolOp .And (b :: rest) pos) fb) : DE X W (.BoolOp .And (a :: b :: rest) pos) (fAndV fa fb) := by
  obtain ⟨t, p, q⟩ := (ha).ex
  obtain ⟨u, p', q'⟩ := (hb).ex
  refine .mk (pe_and p p') (fun Z φ S ρ σ H Q R sl w => q Z φ S ρ σ H _ R sl (w.bind fun x S1 v φ1 H1 R1 E1 d w1 => ?_))
  cases x with
  | bl k =>
    unfold RDat Dat at d
    refine ⟨k, d, ?_⟩
    cases k with
    | true => exact iteT (q' Z φ1 S1 ρ σ H1 Q R1 (sl.evo E1) w1)
    | false => exact iteF (w1.now R1 (dat_bl _))
  | _ => exact w1.elim
theorem de_or (ha : DE X W a fa) (hb : DE X W (.BoolOp .Or (b :: rest) pos) fb) : DE X W (.BoolOp .Or (a :: b :: rest) pos) (fOrV fa fb) := by
  obtain ⟨t, p, q⟩ := (ha).ex
  obtain ⟨u, p', q'⟩ := (hb).ex
  refine .mk (pe_or p p') (fun Z φ S ρ σ H Q R sl w => q Z φ S ρ σ H _ R sl (w.bind fun x S1 v φ1 H1 R1 E1 d w1 => ?_))
  cases x with
  | bl k =>
    unfold RDat Dat at d
    refine ⟨k, d, ?_⟩
    cases k with
    | true => exact iteT (w1.now R1 (dat_bl _))
    | false => exact iteF (q' Z φ1 S1 ρ σ H1 Q R1 (sl.evo E1) w1)
  | _ => exact w1.elim
def fNotV (fa : FE) : FE := fun ρ S => (fa ρ S).bind fun d S => match d with
  | .bl k => .ok (.bl (!k)) S
  | _ => .stuck
theorem de_not (ha : DE X W a fa) : DE X W (.UnaryOp .Not a pos) (fNotV fa) := by
  obtain ⟨t, p, q⟩ := (ha).ex
  refine .mk (pe_not p) (fun Z φ S ρ σ H Q R sl w => q Z φ S ρ σ H _ R sl (w.bind fun x S1 v φ1 H1 R1 E1 d w1 => ?_))
  cases x with
  | bl k =>
    unfold RDat Dat at d
    exact ⟨k, d, w1.now R1 (dat_bl _)⟩
  | _ => exact w1.elim
def fIf (t : FT) (fa fb : FE) : FE := fun ρ S => (t ρ S).bind fun k S => if k then fa ρ S else fb ρ S
theorem de_ifExp (hc : DT X W c ga) (ha : DE X W a fa) (hb : DE X W b fb) : DE X W (.IfExp c a b pos) (fIf ga fa fb) := by
  obtain ⟨tc, pc, qc⟩ := (hc).ex
  obtain ⟨t, p, q⟩ := (ha).ex
  obtain ⟨u, p', q'⟩ := (hb).ex
  refine .mk (pe_ifExp pc p p') (fun Z φ S ρ σ H Q R sl w => qc Z φ S ρ σ H _ R sl (w.bind fun k S1 k' φ1 H1 R1 E1 e w1 => ?_))
  cases e
  cases k with
  | true => exact iteT (q Z φ1 S1 ρ σ H1 Q R1 (sl.evo E1) w1)
  | false => exact iteF (q' Z φ1 S1 ρ σ H1 Q R1 (sl.evo E1) w1)
/-- a < b < c -/
def fChain (g g' : G2) (fa fb fc : FE) : FE := fun ρ S => (fa ρ S).bind fun x S => (fb ρ S).bind fun y S => (g x y S).bind fun z S => match z with
  | .bl true => (fc ρ S).bind fun u S => g' y u S
  | .bl false => .ok (.bl false) S
  | _ => .stuck

/-! ### displays -/
theorem da_nil : DA X W [] (fun _ S => .ok [] S) := .mk pa_nil (fun Z φ S ρ σ H Q R sl w => w.now R DatL.nil)
def fCons (fa : FE) (fr : FA) : FA := fun ρ S => (fa ρ S).bind fun x S => (fr ρ S).bind fun xs S => .ok (x :: xs) S
theorem da_cons {fr : FA} (ha : DE X W e fe) (hr : DA X W es fr) (hs : starEach (e :: es) X.env = (false, eval e X.env) :: starEach es X.env := by rfl) : DA X W (e :: es) (fCons fe fr) := by
  obtain ⟨t, p, q⟩ := (ha).ex
  obtain ⟨u, p', q'⟩ := (hr).ex
  refine .mk (pa_cons p p' hs) (fun Z φ S ρ σ H Q R sl w => q Z φ S ρ σ H _ R sl (w.bind fun x S1 v φ1 H1 R1 E1 d w1 => ?_))
  exact q' Z φ1 S1 ρ σ H1 _ R1 (sl.evo E1) (w1.bind fun xs S2 vs φ2 H2 R2 E2 d2 w2 => w2.now R2 (.cons (Dat.evo E2 d) d2))
def short (n : Nat) : Bool := decide (n ≤ sizeLine)
def fTup (fa : FA) : FE := fun ρ S => (fa ρ S).bind fun xs S => if short xs.length then .ok (.tup xs) S else .stuck
def fLst (fa : FA) : FE := fun ρ S => (fa ρ S).bind fun xs S => if short xs.length then .ok (.lst xs) S else .stuck
def fLstO (fa : FA) : FE := fun ρ S => (fa ρ S).bind fun xs S => if short xs.length then .ok (.oid S.length) (S ++ [.lst xs]) else .stuck
section
variable {K : PySem.W.Frag} {mg : Str → Option Value} {Z φ : List Addr} {S : Store} {H : Hp}
theorem dat_newL (R : Rel K mg Z φ S H) {ds : List D} {vs : List V} (h : DatL K mg φ (gnd Z φ S H) ds vs) {p : Addr} (hp : H p = none) :
    Rel K mg Z φ S (upd H p (.lst vs)) ∧ Evo Z φ S H φ S (upd H p (.lst vs)) ∧ Dat K mg φ (gnd Z φ S (upd H p (.lst vs))) (.lst ds) (.ref p) := by
  obtain ⟨r, e, g⟩ := R.fresh (o := .lst vs) hp
  refine ⟨r, e, ?_⟩
  unfold Dat
  exact ⟨p, vs, rfl, g, DatL.evo e h⟩
theorem dat_newT (R : Rel K mg Z φ S H) {ds : List D} {vs : List V} (h : DatL K mg φ (gnd Z φ S H) ds vs) {p : Addr} (hp : H p = none) :
    Rel K mg Z φ S (upd H p (.tup vs)) ∧ Evo Z φ S H φ S (upd H p (.tup vs)) ∧ Dat K mg φ (gnd Z φ S (upd H p (.tup vs))) (.tup ds) (.ref p) := by
  obtain ⟨r, e, g⟩ := R.fresh (o := .tup vs) hp
  refine ⟨r, e, ?_⟩
  unfold Dat
  exact ⟨p, vs, rfl, .of g, DatL.evo e h⟩
theorem dat_newO (R : Rel K mg Z φ S H) {ds : List D} {vs : List V} (h : DatL K mg φ (gnd Z φ S H) ds vs) {p : Addr} (hp : H p = none) :
    Rel K mg Z (φ ++ [p]) (S ++ [.lst ds]) (upd H p (.lst vs)) ∧ Evo Z φ S H (φ ++ [p]) (S ++ [.lst ds]) (upd H p (.lst vs)) ∧ Dat K mg (φ ++ [p]) (gnd Z (φ ++ [p]) (S ++ [.lst ds]) (upd H p (.lst vs))) (.oid S.length) (.ref p) := by
  have lv : liveA (φ ++ [p]) (S ++ [.lst ds]) = liveA φ S ++ [p] := by rw [liveA_snoc R.len]; rfl
  have ext : Same (gnd Z φ S H) (gnd Z (φ ++ [p]) (S ++ [.lst ds]) (upd H p (.lst vs))) := fun a o h => by
    obtain ⟨h1, h2⟩ := without_some.mp h
    refine without_some.mpr ⟨fun q => h1 ?_, same_upd hp a o h2⟩
    rw [lv] at q
    rcases List.mem_append.mp q with z | z
    · exact List.mem_append_left _ z
    · rcases List.mem_append.mp z with z | z
      · exact List.mem_append_right _ z
      · rw [List.mem_singleton.mp z, hp] at h2
        cases h2
  obtain ⟨r, e⟩ := R.newOid (so := .lst ds) (same_upd (o := .lst vs) hp) hp (by rw [upd_same]; exact fun z => nomatch z) rfl ⟨vs, upd_same, DatL.mono ⟨[p], rfl⟩ ext _ _ h⟩
  refine ⟨r, e, ?_⟩
  unfold Dat
  exact ⟨p, rfl, by rw [List.getElem?_append_right (by rw [R.len]; exact Nat.le_refl _), ← R.len, Nat.sub_self]; rfl⟩
end
theorem de_tup {x1} {fr : FA} (h : DA X W es fr) : DE X W (.Tuple es x1 pos) (fTup fr) := by
  obtain ⟨t, p, q⟩ := (h).ex
  refine .mk (pe_tup p) (fun Z φ S ρ σ H Q R sl w => q Z φ S ρ σ H _ R sl (w.bind fun xs S1 vs φ1 H1 R1 E1 d w1 => ?_))
  by_cases hs : short xs.length = true
  · rw [if_pos hs] at w1
    refine ⟨by rw [DatL.length d]; exact of_decide_eq_true hs, fun p hp => ?_⟩
    obtain ⟨r, e, g⟩ := dat_newT R1 d hp
    exact w1 _ _ _ r e g
  · rw [if_neg hs] at w1
    exact w1.elim
theorem de_lst {fr : FA} (h : DA X W es fr) : DE X W (.List es pos) (fLst fr) := by
  obtain ⟨t, p, q⟩ := (h).ex
  refine .mk (pe_lst p) (fun Z φ S ρ σ H Q R sl w => q Z φ S ρ σ H _ R sl (w.bind fun xs S1 vs φ1 H1 R1 E1 d w1 => ?_))
  by_cases hs : short xs.length = true
  · rw [if_pos hs] at w1
    refine ⟨by rw [DatL.length d]; exact of_decide_eq_true hs, fun p hp => ?_⟩
    obtain ⟨r, e, g⟩ := dat_newL R1 d hp
    exact w1 _ _ _ r e g
  · rw [if_neg hs] at w1
    exact w1.elim
theorem de_lstO {fr : FA} (h : DA X W es fr) : DE X W (.List es pos) (fLstO fr) := by
  obtain ⟨t, p, q⟩ := (h).ex
  refine .mk (pe_lst p) (fun Z φ S ρ σ H Q R sl w => q Z φ S ρ σ H _ R sl (w.bind fun xs S1 vs φ1 H1 R1 E1 d w1 => ?_))
  by_cases hs : short xs.length = true
  · rw [if_pos hs] at w1
    refine ⟨by rw [DatL.length d]; exact of_decide_eq_true hs, fun p hp => ?_⟩
    obtain ⟨r, e, g⟩ := dat_newO R1 d hp
    exact w1 _ _ _ r e g
  · rw [if_neg hs] at w1
    exact w1.elim
end
end DL

/-! The data layer, part 4: targets, what is walked, statements, comprehensions. -/
namespace DL
open PySem L2

/-! ### targets -/
abbrev FG := D → EnvD → Store → Option EnvD
def tG (K : PySem.W.Frag) (mg : Str → Option Value) (is : List Nat) (m : FG) : TG := fun v σ H Q => ∃ Z φ S ρ d ρ', Rel K mg Z φ S H ∧ Slots K mg φ (gnd Z φ S H) ρ σ ∧ Dat K mg φ (gnd Z φ S H) d v ∧ m d ρ S = some ρ' ∧
  ∀ σ', Slots K mg φ (gnd Z φ S H) ρ' σ' → (∀ vs : List Nat, (∀ i ∈ is, i ∈ vs) → wipe σ' vs = wipe σ vs) → Q σ' H
def tGs (K : PySem.W.Frag) (mg : Str → Option Value) (is : List Nat) (m : List D → EnvD → Store → Option EnvD) : TGs := fun vs σ H Q => ∃ Z φ S ρ ds ρ', Rel K mg Z φ S H ∧ Slots K mg φ (gnd Z φ S H) ρ σ ∧ DatL K mg φ (gnd Z φ S H) ds vs ∧ m ds ρ S = some ρ' ∧
  ∀ σ', Slots K mg φ (gnd Z φ S H) ρ' σ' → (∀ vs : List Nat, (∀ i ∈ is, i ∈ vs) → wipe σ' vs = wipe σ vs) → Q σ' H
def DG (X : Cx) (tg : Expr) (is : List Nat) (m : FG) : Prop := PG X tg (tG X.K X.mg is m)
def DGs (X : Cx) (tgs : List Expr) (is : List Nat) (m : List D → EnvD → Store → Option EnvD) : Prop := PGs X tgs (tGs X.K X.mg is m)
theorem PG.weak {X : Cx} {e : Expr} {t t' : TG} (h : PG X e t) (i : ∀ v σ H Q, t' v σ H Q → t v σ H Q) : PG X e t' := ⟨fun pins s σ H v u Q I r q => h.run pins s σ H v u Q I r (i _ _ _ _ q)⟩
theorem PGs.weak {X : Cx} {e : List Expr} {t t' : TGs} (h : PGs X e t) (i : ∀ v σ H Q, t' v σ H Q → t v σ H Q) : PGs X e t' := ⟨fun pins s σ H v u Q I r q => h.run pins s σ H v u Q I r (i _ _ _ _ q)⟩
theorem wipe_set {σ : L2.St} {x : Option V} {i : Nat} : ∀ {vs : List Nat}, i ∈ vs → wipe (σ.set i x) vs = wipe σ vs
  | [], h => absurd h (by simp)
  | v :: vs, h => by
    unfold wipe
    by_cases q : i ∈ vs
    · rw [wipe_set q]
    · have e : i = v := by
        rcases List.mem_cons.mp h with z | z
        · exact z
        · exact absurd z q
      subst e
      have aux : ∀ {vs : List Nat}, i ∉ vs → wipe (σ.set i x) vs = (wipe σ vs).set i x := by
        intro vs
        induction vs with
        | nil => intro _; rfl
        | cons w ws ih =>
          intro hn
          simp only [List.mem_cons, not_or] at hn
          unfold wipe
          rw [ih hn.2, List.set_comm _ _ (fun z => hn.1 z)]
      rw [aux q, List.set_set]
section
variable {X : Cx} {pos : Pos}
def mName (i : Nat) : FG := fun d ρ _ => some (ρ.set i (some d))
theorem dg_name {i : Nat} {x : Str} (p : PG X (.Name x pos) (gName i)) : DG X (.Name x pos) [i] (mName i) :=
  PG.weak p fun v σ H Q ⟨Z, φ, S, ρ, d, ρ', R, sl, hd, hm, q⟩ => by
    cases hm
    exact q _ (sl.set hd) fun vs h => wipe_set (h i (by simp))
theorem dgs_nil : DGs X [] [] (fun ds ρ _ => match ds with | [] => some ρ | _ => none) :=
  PGs.weak pgs_nil fun v σ H Q ⟨Z, φ, S, ρ, ds, ρ', R, sl, hd, hm, q⟩ => by
    cases ds with
    | nil =>
      cases hm
      unfold DatL at hd
      exact ⟨hd, q _ sl fun _ _ => rfl⟩
    | cons _ _ => cases hm
def mCons (m : FG) (ms : List D → EnvD → Store → Option EnvD) : List D → EnvD → Store → Option EnvD := fun ds ρ S => match ds with
  | d :: ds => (m d ρ S).bind fun ρ => ms ds ρ S
  | [] => none
theorem dgs_cons {e : Expr} {es : List Expr} {is js : List Nat} {m : FG} {ms : List D → EnvD → Store → Option EnvD} (h : DG X e is m) (r : DGs X es js ms)
    (hs : (assignEach (e :: es) X.env).map (·.2) = assign e X.env :: (assignEach es X.env).map (·.2) := by rfl) : DGs X (e :: es) (is ++ js) (mCons m ms) :=
  PGs.weak (pgs_cons h r hs) fun v σ H Q ⟨Z, φ, S, ρ, ds, ρ', R, sl, hd, hm, q⟩ => by
    cases ds with
    | nil => cases hm
    | cons d ds =>
      obtain ⟨u, us, rfl, h1, h2⟩ := hd.uncons
      unfold mCons at hm
      obtain ⟨ρ1, e1, e2⟩ := Option.bind_eq_some_iff.mp hm
      refine ⟨u, us, rfl, Z, φ, S, ρ, d, ρ1, R, sl, h1, e1, fun σ1 sl1 w1 => ?_⟩
      refine ⟨Z, φ, S, ρ1, ds, ρ', R, sl1, h2, e2, fun σ2 sl2 w2 => ?_⟩
      exact q σ2 sl2 fun vs hv => (w2 vs fun i hi => hv i (List.mem_append_right _ hi)).trans (w1 vs fun i hi => hv i (List.mem_append_left _ hi))
def mTup (n : Nat) (ms : List D → EnvD → Store → Option EnvD) : FG := fun d ρ S => match d with
  | .tup ds => if ds.length = n then ms ds ρ S else none
  | _ => none
theorem dg_tup {es : List Expr} {k n : Nat} {is : List Nat} {ms : List D → EnvD → Store → Option EnvD} (hc : X.calm = true) (h : DGs X es is ms)
    (hn : (assignEach es X.env).length = n := by rfl) (hst : (assignEach es X.env).findIdx? (·.1) = none := by rfl) : DG X (.Tuple es k pos) is (mTup n ms) :=
  PG.weak (pg_tup hc h hn hst) fun v σ H Q ⟨Z, φ, S, ρ, d, ρ', R, sl, hd, hm, q⟩ => by
    unfold mTup at hm
    cases d with
    | tup ds =>
      unfold Dat at hd
      obtain ⟨a, vs, rfl, h1, h2⟩ := hd
      by_cases hl : ds.length = n
      · simp only [hl, if_true] at hm
        exact ⟨a, vs, rfl, sqt_mono gnd_sub h1, h2.length.trans hl, Z, φ, S, ρ, ds, ρ', R, sl, h2, hm, q⟩
      · simp only [hl, if_false] at hm
        cases hm
    | _ => cases hm
end

/-! ### what is walked -/
/-- the items; of what may change: that it stays as it was -/
structure ItD where
  items : List D
  chk : Option (D × List D) := none
def okC : Option (D × List D) → Store → Prop
  | none, _ => True
  | some (d, ds), S => asL S d = some ds
section
variable (K : PySem.W.Frag) (mg : Str → Option Value)
def RI (Z φ : List Addr) (S : Store) (H : Hp) (it : ItD) (J : It) : Prop := ∀ (i : Nat) (Z' φ' : List Addr) (S' : Store) (H' : Hp), (∀ a ∈ Z, a ∈ Z') → Rel K mg Z' φ' S' H' → (φ <+: φ') → Same (gnd Z φ S H) (gnd Z' φ' S' H') → okC it.chk S' →
  (∀ d, it.items[i]? = some d → J.go i H' ∧ ∀ x H'', J.yld i H' x H'' → Rel K mg Z' φ' S' H'' ∧ Evo Z' φ' S' H' φ' S' H'' ∧ Dat K mg φ' (gnd Z' φ' S' H'') d x) ∧ (it.items.length ≤ i → J.stop i H')
def WantI (Z φ : List Addr) (S : Store) (H : Hp) (r : Res ItD) (Q : It → Hp → Prop) (E : XK) : Prop := match r with
  | .ok it S' => ∀ J φ' H', Rel K mg Z φ' S' H' → Evo Z φ S H φ' S' H' → RI K mg Z φ' S' H' it J → Q J H'
  | .ex C fs S' => ∀ A dx φ' H', mg C = some (.ref A) → Rel K mg Z φ' S' H' → Evo Z φ S H φ' S' H' → ExD K mg φ' (gnd Z φ' S' H') fs dx → E (.ref A) dx H'
  | .stuck => False
end
theorem WantI.go {K : PySem.W.Frag} {mg : Str → Option Value} {Z φ φ' : List Addr} {S S' : Store} {H H' : Hp} {r : Res ItD} {Q : It → Hp → Prop} {E : XK} (e : Evo Z φ S H φ' S' H') (h : WantI K mg Z φ S H r Q E) : WantI K mg Z φ' S' H' r Q E := by
  cases r with
  | ok a S1 => exact fun b φ1 H1 r1 e1 d => h b φ1 H1 r1 (e.trans e1) d
  | ex C fs S1 => exact fun A dx φ1 H1 m r1 e1 d => h A dx φ1 H1 m r1 (e.trans e1) d
  | stuck => exact h
theorem WantI.bind {α β : Type} {K : PySem.W.Frag} {mg : Str → Option Value} {Z φ : List Addr} {S : Store} {H : Hp} {R : List Addr → Hp → α → β → Prop} {r : Res α} {k : α → Store → Res ItD} {Q : It → Hp → Prop} {Q1 : β → Hp → Prop} {E : XK} (h : WantI K mg Z φ S H (r.bind k) Q E)
    (f : ∀ a S1 b φ1 H1, Rel K mg Z φ1 S1 H1 → Evo Z φ S H φ1 S1 H1 → R φ1 (gnd Z φ1 S1 H1) a b → WantI K mg Z φ1 S1 H1 (k a S1) Q E → Q1 b H1) : Want K mg R Z φ S H r Q1 E := by
  cases r with
  | ok a S1 => exact fun b φ1 H1 r1 e1 d => f a S1 b φ1 H1 r1 e1 d (h.go e1)
  | ex C fs S1 => exact h
  | stuck => exact h
abbrev FI := EnvD → Store → Res ItD
def tDI (K : PySem.W.Frag) (mg : Str → Option Value) (W : WX) (f : FI) : TI := fun σ H R => ∃ Z φ S ρ, Rel K mg Z φ S H ∧ Slots K mg φ (gnd Z φ S H) ρ σ ∧ WantI K mg Z φ S H (f ρ S) R (WE W σ)
def DI (X : Cx) (W : WX) (tg e : Expr) (f : FI) : Prop := PI X tg e (tDI X.K X.mg W f)
abbrev IsI (X : Cx) (W : WX) (t : TI) (f : FI) : Prop := ∀ Z φ S ρ σ H (Q : It → Hp → Prop), Rel X.K X.mg Z φ S H → Slots X.K X.mg φ (gnd Z φ S H) ρ σ → WantI X.K X.mg Z φ S H (f ρ S) Q (WE W σ) → t σ H Q
theorem PI.weak {X : Cx} {tg e : Expr} {t t' : TI} (h : PI X tg e t) (i : ∀ σ H R, t' σ H R → t σ H R) : PI X tg e t' := ⟨fun pins s σ H R I q => h.run pins s σ H R I (i _ _ _ q)⟩
theorem PI.or {X : Cx} {tg e : Expr} {t t' : TI} (h : PI X tg e t) (h' : PI X tg e t') : PI X tg e (fun σ H R => t σ H R ∨ t' σ H R) := ⟨fun pins s σ H R I q => q.elim (fun z => h.run pins s σ H R I z) fun z => h'.run pins s σ H R I z⟩
theorem DI.mk {X : Cx} {W : WX} {tg e : Expr} {f : FI} {t : TI} (p : PI X tg e t) (h : IsI X W t f) : DI X W tg e f := PI.weak p fun σ H Q ⟨Z, φ, S, ρ, R, sl, w⟩ => h Z φ S ρ σ H Q R sl w
theorem DI.is {X : Cx} {W : WX} {f : FI} : IsI X W (tDI X.K X.mg W f) f := fun Z φ S ρ σ H Q R sl w => ⟨Z, φ, S, ρ, R, sl, w⟩
section
variable {X : Cx} {W : WX} {tg e : Expr} {fe : FE} {pos p : Pos}
/-- over a list or a tuple -/
def fSeq (fe : FE) : FI := fun ρ S => (fe ρ S).bind fun d S => match d with
  | .tup ds => .ok ⟨ds, none⟩ S
  | .lst ds => .ok ⟨ds, none⟩ S
  | .scr ds => .ok ⟨ds, none⟩ S
  | d => match asL S d with
    | some ds => .ok ⟨ds, some (d, ds)⟩ S
    | none => .stuck
theorem ri_list {Z φ : List Addr} {S : Store} {H : Hp} {d : D} {a : Addr} {ds : List D} {c : Option (D × List D)} (hd : Dat X.K X.mg φ (gnd Z φ S H) d (.ref a)) (hc : ∀ S', okC c S' → asL S' d = some ds) : RI X.K X.mg Z φ S H ⟨ds, c⟩ (Itl X.K a) :=
  fun i Z' φ' S' H' hZ R hp hs ok => by
    have hd' := Dat.mono hp hs d _ hd
    obtain ⟨b, vs, e, h1, h2⟩ := asL_ok R hd' (hc S' ok)
    cases e
    refine ⟨fun x hx => ?_, fun hl => ⟨vs, h1, by rw [h2.length]; exact hl⟩⟩
    obtain ⟨u, hu, du⟩ := h2.get hx
    refine ⟨⟨vs, u, h1, hu⟩, fun y H'' yl => ?_⟩
    obtain ⟨rfl, q⟩ := yl
    have z := q vs h1
    rw [hu] at z
    cases z
    exact ⟨R, Evo.refl, du⟩
theorem ri_tup {Z φ : List Addr} {S : Store} {H : Hp} {a : Addr} {ds : List D} (hd : Dat X.K X.mg φ (gnd Z φ S H) (.tup ds) (.ref a)) : RI X.K X.mg Z φ S H ⟨ds, none⟩ (Itt X.K a) :=
  fun i Z' φ' S' H' hZ R hp hs ok => by
    have hd' := Dat.mono hp hs _ _ hd
    unfold Dat at hd'
    obtain ⟨b, vs, e, h1, h2⟩ := hd'
    cases e
    have h1' := sqt_mono gnd_sub h1
    refine ⟨fun x hx => ?_, fun hl => ⟨vs, h1', by rw [h2.length]; exact hl⟩⟩
    obtain ⟨u, hu, du⟩ := h2.get hx
    refine ⟨⟨vs, u, h1', hu⟩, fun y H'' yl => ?_⟩
    obtain ⟨rfl, q⟩ := yl
    have z := q vs h1'
    rw [hu] at z
    cases z
    exact ⟨R, Evo.refl, du⟩
theorem RI.evo {Z φ φ' : List Addr} {S S' : Store} {H H' : Hp} {it : ItD} {J : It} (e : Evo Z φ S H φ' S' H') (h : RI X.K X.mg Z φ S H it J) : RI X.K X.mg Z φ' S' H' it J := fun i Z1 φ1 S1 H1 hZ R hp hs ok =>
  h i Z1 φ1 S1 H1 hZ R (e.pre.trans hp) (e.ext.trans hs) ok
/-- the result of an expression, known -/
theorem Want.cases {α β : Type} {K : PySem.W.Frag} {mg : Str → Option Value} {Z φ : List Addr} {S : Store} {H : Hp} {R : List Addr → Hp → α → β → Prop} {r : Res α} {P : Prop} {Q : β → Hp → Prop} {E : XK}
    (hok : ∀ a S1, r = .ok a S1 → P) (hx : ∀ C fs S1, r = .ex C fs S1 → P) (hs : r = .stuck → P) : P := by
  cases r with
  | ok a S1 => exact hok a S1 rfl
  | ex C fs S1 => exact hx C fs S1 rfl
  | stuck => exact hs rfl
theorem di_seq (he : DE X W e fe) : DI X W tg e (fSeq fe) := by
  refine PI.weak (PI.or (pi_list he) (pi_tup he)) fun σ H R ⟨Z, φ, S, ρ, R0, sl, w⟩ => ?_
  have run : ∀ {Q1 : VK}, (∀ d S1 v φ1 H1, Rel X.K X.mg Z φ1 S1 H1 → Evo Z φ S H φ1 S1 H1 → Dat X.K X.mg φ1 (gnd Z φ1 S1 H1) d v → fe ρ S = .ok d S1 → Q1 v H1) → (∀ r, r = fe ρ S → r ≠ .stuck) → Want X.K X.mg (RDat X.K X.mg) Z φ S H (fe ρ S) Q1 (WE W σ) := fun f hns => by
    unfold fSeq at w
    cases hr : fe ρ S with
    | ok d S1 => exact fun v φ1 H1 r1 e1 dd => f d S1 v φ1 H1 r1 e1 dd hr
    | ex C fs S1 => rw [hr] at w; exact w
    | stuck => exact absurd rfl (hns _ hr.symm)
  have ns : ∀ r, r = fe ρ S → r ≠ .stuck := fun r h z => by
    unfold fSeq at w
    rw [← h, z] at w
    exact w
  by_cases ht : ∃ ds S1, fe ρ S = .ok (.tup ds) S1
  · obtain ⟨ds, S1, ht⟩ := ht
    refine .inr ⟨Z, φ, S, ρ, R0, sl, run (fun d S2 v φ1 H1 r1 e1 dd hr => ?_) ns⟩
    rw [ht] at hr
    cases hr
    unfold fSeq at w
    rw [ht] at w
    have dd0 := dd
    unfold Dat at dd
    obtain ⟨a, vs, rfl, h1, h2⟩ := dd
    exact ⟨a, rfl, ⟨vs, sqt_mono gnd_sub h1⟩, w _ _ _ r1 e1 (ri_tup dd0)⟩
  · refine .inl ⟨Z, φ, S, ρ, R0, sl, run (fun d S1 v φ1 H1 r1 e1 dd hr => ?_) ns⟩
    unfold fSeq at w
    rw [hr] at w
    simp only [Res.bind_ok] at w
    cases d with
    | tup ds => exact absurd ⟨ds, S1, hr⟩ ht
    | lst ds =>
      obtain ⟨a, vs, rfl, h1, h2⟩ := asL_ok r1 dd rfl
      exact ⟨a, rfl, ⟨vs, h1⟩, w _ _ _ r1 e1 (ri_list (d := .lst ds) dd fun _ _ => rfl)⟩
    | scr ds =>
      obtain ⟨a, vs, rfl, h1, h2⟩ := asL_ok r1 dd rfl
      exact ⟨a, rfl, ⟨vs, h1⟩, w _ _ _ r1 e1 (ri_list (d := .scr ds) dd fun _ _ => rfl)⟩
    | oid n =>
      simp only at w
      cases hq : asL S1 (.oid n) with
      | none => rw [hq] at w; exact w.elim
      | some ds =>
        rw [hq] at w
        obtain ⟨a, vs, rfl, h1, h2⟩ := asL_ok r1 dd hq
        exact ⟨a, rfl, ⟨vs, h1⟩, w _ _ _ r1 e1 (ri_list (d := .oid n) dd fun _ ok => ok)⟩
    | _ => exact w.elim
/-- range(a), range(a, b) -/
def rng (lo hi : Int) : List D := (List.range (hi - lo).toNat).map fun i => .int (lo + (i : Nat))
noncomputable def cRng (i : Int) : Bool := @decide (-4611686018427387904 ≤ i ∧ i < 4611686018427387904) (Classical.propDecidable _)
noncomputable def fRng1 (fa : FA) : FI := fun ρ S => (fa ρ S).bind fun ds S => match ds with
  | [.int j] => if cRng j then .ok ⟨rng 0 j, none⟩ S else .stuck
  | _ => .stuck
theorem ri_rng {Z φ : List Addr} {S : Store} {H : Hp} {lo hi : Int} : RI X.K X.mg Z φ S H ⟨rng lo hi, none⟩ (Itr lo (hi - lo).toNat) := fun i Z' φ' S' H' hZ R hp hs ok => by
  refine ⟨fun d hd => ?_, fun hl => ?_⟩
  · unfold rng at hd
    rw [List.getElem?_map] at hd
    have hi' : i < (hi - lo).toNat := by
      cases q : (List.range (hi - lo).toNat)[i]? with
      | none => rw [q] at hd; cases hd
      | some j => have := (List.getElem?_eq_some_iff.mp q).1; simpa using this
    rw [List.getElem?_range hi'] at hd
    cases hd
    refine ⟨hi', fun x H'' y => ?_⟩
    obtain ⟨rfl, rfl⟩ := y
    exact ⟨R, Evo.refl, dat_int _⟩
  · show (hi - lo).toNat ≤ i
    simpa [rng] using hl
theorem datL1 {φ : List Addr} {G : Hp} {d : D} {vs : List V} (h : DatL X.K X.mg φ G [d] vs) : ∃ v, vs = [v] ∧ Dat X.K X.mg φ G d v := by
  obtain ⟨v, r, rfl, h1, h2⟩ := h.uncons
  unfold DatL at h2
  subst h2
  exact ⟨v, rfl, h1⟩
theorem datL2 {φ : List Addr} {G : Hp} {d e : D} {vs : List V} (h : DatL X.K X.mg φ G [d, e] vs) : ∃ v u, vs = [v, u] ∧ Dat X.K X.mg φ G d v ∧ Dat X.K X.mg φ G e u := by
  obtain ⟨v, r, rfl, h1, h2⟩ := h.uncons
  obtain ⟨u, rfl, h3⟩ := datL1 h2
  exact ⟨v, u, rfl, h1, h3⟩
theorem dInt {φ : List Addr} {G : Hp} {i : Int} {v : V} (h : Dat X.K X.mg φ G (.int i) v) : v = .int i := by
  unfold Dat at h
  exact h
theorem dStr {φ : List Addr} {G : Hp} {i : Str} {v : V} (h : Dat X.K X.mg φ G (.str i) v) : v = .str i := by
  unfold Dat at h
  exact h
theorem di_range1 {a : Expr} {fa : FA} (hg : Gl X "range") (hm : X.mg "range" = none) (ha : DA X W [a] fa) (hs : starEach [a] X.env = [(false, eval a X.env)] := by rfl) : DI X W tg (.Call (.Name "range" p) [a] [] pos) (fRng1 fa) := by
  obtain ⟨t, p, q⟩ := ha.ex
  refine .mk (pi_range1 hg hm p hs) fun Z φ S ρ σ H R R0 sl w => q Z φ S ρ σ H _ R0 sl (w.bind fun ds S1 vs φ1 H1 R1 E1 d w1 => ?_)
  split at w1
  · rename_i j
    obtain ⟨v, rfl, h1⟩ := datL1 d
    cases dInt h1
    by_cases hc : cRng j = true
    · simp only [hc, if_true] at w1
      unfold cRng at hc
      simp only [Bool.and_eq_true, decide_eq_true_eq] at hc
      refine ⟨j, rfl, hc.1, hc.2, w1 _ _ _ R1 Evo.refl ?_⟩
      have z := ri_rng (X := X) (Z := Z) (φ := φ1) (S := S1) (H := H1) (lo := 0) (hi := j)
      rw [Int.sub_zero] at z
      exact z
    · simp only [hc] at w1
      exact w1.elim
  · exact w1.elim
/-- enumerate(list) -/
def enumD : Nat → List D → List D
  | _, [] => []
  | n, d :: ds => .tup [.int (n : Nat), d] :: enumD (n + 1) ds
theorem enumD_get : ∀ {ds : List D} {n i : Nat}, (enumD n ds)[i]? = (ds[i]?).map fun d => .tup [.int ((n + i : Nat) : Int), d]
  | [], _, _ => rfl
  | d :: ds, n, 0 => rfl
  | d :: ds, n, i + 1 => by
    unfold enumD
    rw [List.getElem?_cons_succ, List.getElem?_cons_succ, enumD_get, Nat.add_right_comm, Nat.add_assoc]
theorem enumD_length : ∀ {ds : List D} {n : Nat}, (enumD n ds).length = ds.length
  | [], _ => rfl
  | d :: ds, n => by unfold enumD; rw [List.length_cons, List.length_cons, enumD_length]
def fEnum (fa : FA) : FI := fun ρ S => (fa ρ S).bind fun ds S => match ds with
  | [.lst ds] => .ok ⟨enumD 0 ds, none⟩ S
  | [d] => match asL S d with
    | some ds => .ok ⟨enumD 0 ds, some (d, ds)⟩ S
    | none => .stuck
  | _ => .stuck
theorem ri_enum {Z φ : List Addr} {S : Store} {H : Hp} {d : D} {a : Addr} {ds : List D} {c : Option (D × List D)} (hd : Dat X.K X.mg φ (gnd Z φ S H) d (.ref a)) (hc : ∀ S', okC c S' → asL S' d = some ds) : RI X.K X.mg Z φ S H ⟨enumD 0 ds, c⟩ (Ite X.K a) :=
  fun i Z' φ' S' H' hZ R hp hs ok => by
    have hd' := Dat.mono hp hs d _ hd
    obtain ⟨b, vs, e, h1, h2⟩ := asL_ok R hd' (hc S' ok)
    cases e
    refine ⟨fun x hx => ?_, fun hl => ⟨vs, h1, by rw [h2.length]; rw [enumD_length] at hl; exact hl⟩⟩
    have hx : (enumD 0 ds)[i]? = some x := hx
    rw [enumD_get] at hx
    cases q : ds[i]? with
    | none => rw [q] at hx; cases hx
    | some y =>
      rw [q] at hx
      cases hx
      obtain ⟨u, hu, du⟩ := h2.get q
      refine ⟨⟨vs, u, h1, hu⟩, fun y' H'' yl => ?_⟩
      obtain ⟨T, x', rfl, hT, rfl, q'⟩ := yl
      have z := q' vs h1
      rw [hu] at z
      cases z
      rw [Nat.zero_add]
      exact dat_newT R (.cons (dat_int _) (.cons du DatL.nil)) hT
theorem di_enum {a : Expr} {fa : FA} {elts : List Expr} {kk : Nat} {tpos : Pos} (hg : Gl X "enumerate") (hm : X.mg "enumerate" = none) (ha : DA X W [a] fa) (hs : starEach [a] X.env = [(false, eval a X.env)] := by rfl) :
    DI X W (.Tuple elts kk tpos) (.Call (.Name "enumerate" p) [a] [] pos) (fEnum fa) := by
  obtain ⟨t, p, q⟩ := ha.ex
  refine .mk (pi_enum hg hm p hs) fun Z φ S ρ σ H R R0 sl w => q Z φ S ρ σ H _ R0 sl (w.bind fun ds S1 vs φ1 H1 R1 E1 d w1 => ?_)
  split at w1
  · rename_i es
    obtain ⟨v, rfl, h1⟩ := datL1 d
    obtain ⟨a, us, rfl, h2, h3⟩ := asL_ok R1 h1 rfl
    exact ⟨a, us, rfl, h2, w1 _ _ _ R1 Evo.refl (ri_enum (d := .lst es) h1 fun _ _ => rfl)⟩
  · rename_i x _
    obtain ⟨v, rfl, h1⟩ := datL1 d
    cases hq : asL S1 x with
    | none => rw [hq] at w1; exact w1.elim
    | some es =>
      rw [hq] at w1
      obtain ⟨a, us, rfl, h2, h3⟩ := asL_ok R1 h1 hq
      exact ⟨a, us, rfl, h2, w1 _ _ _ R1 Evo.refl (ri_enum (d := x) h1 fun _ ok => ok)⟩
  · exact w1.elim
end

/-! ### the context of a body -/
structure Cn (X : Cx) (W : WX) (k : Nat) : Prop where
  room : Room k X.A
  gd : X.A.guards = some []
  calm : X.calm = true
  nd : X.N.Nodup
  po : PassesOwn (model X.prog X.w) X.A X.env X.xe
  tk : L2N.Takes X W
abbrev W0 : WX := fun _ _ _ _ => False
theorem takes0N {X : Cx} : L2N.Takes X W0 := fun _ _ ⟨_, _, _, _, _, _, _, _, _, _, _, _, _, _, _, _, h⟩ => h.elim

/-! ### statements -/
section
variable {X : Cx} {W : WX} {pos : Pos} {st : Stmt} {sts : List Stmt} {g g' : FS} {e : Expr} {fe : FE} {k : Nat}
def gNil : FS := fun ρ S => .nx ρ S
def Out.seq (o : Out) (k : EnvD → Store → Out) : Out := match o with
  | .nx ρ S => k ρ S
  | o => o
@[simp] theorem Out.seq_nx (ρ : EnvD) (S : Store) (k : EnvD → Store → Out) : (Out.nx ρ S).seq k = k ρ S := rfl
@[simp] theorem Out.seq_rt (d : D) (S : Store) (k : EnvD → Store → Out) : (Out.rt d S).seq k = .rt d S := rfl
@[simp] theorem Out.seq_bk (ρ : EnvD) (S : Store) (k : EnvD → Store → Out) : (Out.bk ρ S).seq k = .bk ρ S := rfl
@[simp] theorem Out.seq_ct (ρ : EnvD) (S : Store) (k : EnvD → Store → Out) : (Out.ct ρ S).seq k = .ct ρ S := rfl
@[simp] theorem Out.seq_ex (C fs) (ρ : EnvD) (S : Store) (k : EnvD → Store → Out) : (Out.ex C fs ρ S).seq k = .ex C fs ρ S := rfl
@[simp] theorem Out.seq_stuck (k : EnvD → Store → Out) : (Out.stuck).seq k = .stuck := rfl
def gSeq (g g' : FS) : FS := fun ρ S => (g ρ S).seq g'
theorem dss_nil : DSs X W [] gNil := .mk pss_nil fun Z φ S ρ σ H Dd R sl w => w σ φ H R Evo.refl sl
theorem dss_one (h : DS X W st g) : DSs X W [st] g := by
  obtain ⟨t, p, q⟩ := h.ex
  exact .mk (pss_one p) q
theorem dss_cons (h : DS X W st g) (r : DSs X W sts g') : DSs X W (st :: sts) (gSeq g g') := by
  obtain ⟨t, p, q⟩ := h.ex
  obtain ⟨u, p', q'⟩ := r.ex
  refine .mk (pss_cons p p') fun Z φ S ρ σ H Dd R sl w => q Z φ S ρ σ H _ R sl ?_
  unfold gSeq at w
  cases hr : g ρ S with
  | nx ρ1 S1 =>
    rw [hr] at w
    exact fun σ1 φ1 H1 R1 E1 sl1 => q' Z φ1 S1 ρ1 σ1 H1 Dd R1 sl1 (w.go E1)
  | _ => rw [hr] at w; exact w
def gExpr (fe : FE) : FS := fun ρ S => (fe ρ S).into ρ fun _ S => .nx ρ S
theorem ds_expr (he : DE X W e fe) (hs : swapsWith e none pos.line X.env = pure false := by rfl) : DS X W (.Expr e pos) (gExpr fe) := by
  obtain ⟨t, p, q⟩ := he.ex
  exact .mk (ps_expr p hs) fun Z φ S ρ σ H Dd R sl w => q Z φ S ρ σ H _ R sl (w.into sl fun d S1 v φ1 H1 R1 E1 dd w1 => w1 σ φ1 H1 R1 Evo.refl (sl.evo E1))
def gRet (fe : FE) : FS := fun ρ S => (fe ρ S).into ρ fun d S => .rt d S
theorem ds_ret (he : DE X W e fe) : DS X W (.Return (some e) pos) (gRet fe) := by
  obtain ⟨t, p, q⟩ := he.ex
  exact .mk (ps_ret p) fun Z φ S ρ σ H Dd R sl w => q Z φ S ρ σ H _ R sl (w.into sl fun d S1 v φ1 H1 R1 E1 dd w1 => w1 v φ1 H1 R1 Evo.refl dd)
def gIf (c : FT) (g g' : FS) : FS := fun ρ S => (c ρ S).into ρ fun k S => if k then g ρ S else g' ρ S
theorem ds_if {c : Expr} {fc : FT} {a b : List Stmt} (hc : DT X W c fc) (ha : DSs X W a g) (hb : DSs X W b g') : DS X W (.If c a b pos) (gIf fc g g') := by
  obtain ⟨t, p, q⟩ := hc.ex
  obtain ⟨ta, pa, qa⟩ := ha.ex
  obtain ⟨tb, pb, qb⟩ := hb.ex
  refine .mk (ps_if p pa pb) fun Z φ S ρ σ H Dd R sl w => q Z φ S ρ σ H _ R sl (w.into sl fun k S1 k' φ1 H1 R1 E1 e w1 => ?_)
  cases e
  cases k with
  | true => exact iteT (qa Z φ1 S1 ρ σ H1 Dd R1 (sl.evo E1) w1)
  | false => exact iteF (qb Z φ1 S1 ρ σ H1 Dd R1 (sl.evo E1) w1)
/-- name = value -/
def gSet (i : Nat) (fe : FE) : FS := fun ρ S => (fe ρ S).into ρ fun d S => .nx (ρ.set i (some d)) S
theorem ds_setP {i : Nat} {x : Str} {pos' : Pos} (hp : ∀ t, PE X e t → PS X (.Assign [.Name x pos'] e pos) (tAsg t (L2.gName i))) (he : DE X W e fe) : DS X W (.Assign [.Name x pos'] e pos) (gSet i fe) := by
  obtain ⟨t, p, q⟩ := he.ex
  exact .mk (hp _ p) fun Z φ S ρ σ H Dd R sl w => q Z φ S ρ σ H _ R sl (w.into sl fun d S1 v φ1 H1 R1 E1 dd w1 => w1 _ φ1 H1 R1 Evo.refl ((sl.evo E1).set dd))
theorem ds_set (C : Cn X W k) {i : Nat} {x : Str} {pos' : Pos} (hi : X.N[i]? = some x) (hx : Loc X.env.scope x) (he : DE X W e fe) (hs : swapsWith e (some (.Name x pos')) pos.line X.env = pure false := by rfl)
    (hf : X.fn x = true ∨ X.env.scope.names.lookup x = some .local := by first | exact .inl rfl | exact .inr rfl) : DS X W (.Assign [.Name x pos'] e pos) (gSet i fe) :=
  ds_setP (fun _ p => ps_set C.nd hi hx p hs hf) he
/-- target = value -/
def gAsg (m : FG) (fe : FE) : FS := fun ρ S => (fe ρ S).into ρ fun d S => match m d ρ S with
  | some ρ => .nx ρ S
  | none => .stuck
theorem ds_asg {tg : Expr} {is : List Nat} {m : FG} (he : DE X W e fe) (hg : DG X tg is m) (hs : swapsWithSole [tg] e pos.line X.env = pure false := by rfl) (hw : swappedStores [tg] e X.env = pure none := by rfl)
    (h1 : (assignEach [tg] X.env).map (·.2) = [assign tg X.env] := by rfl) : DS X W (.Assign [tg] e pos) (gAsg m fe) := by
  obtain ⟨t, p, q⟩ := he.ex
  refine .mk (ps_asg p hg hs hw h1) fun Z φ S ρ σ H Dd R sl w => q Z φ S ρ σ H _ R sl (w.into sl fun d S1 v φ1 H1 R1 E1 dd w1 => ?_)
  cases hm : m d ρ S1 with
  | none => rw [hm] at w1; exact w1.elim
  | some ρ1 =>
    rw [hm] at w1
    exact ⟨Z, φ1, S1, ρ, d, ρ1, R1, sl.evo E1, dd, hm, fun σ1 sl1 _ => w1 σ1 φ1 H1 R1 Evo.refl sl1⟩

/-! loops -/
open Classical in
noncomputable def loopF (c : Option (D × List D)) (m : FG) (body : FS) : List D → EnvD → Store → Out
  | [], ρ, S => if okC c S then .nx ρ S else .stuck
  | d :: ds, ρ, S => if okC c S then (match m d ρ S with
    | some ρ => (match body ρ S with
      | .nx ρ S => loopF c m body ds ρ S
      | .ct ρ S => loopF c m body ds ρ S
      | .bk ρ S => .nx ρ S
      | o => o)
    | none => .stuck) else .stuck
noncomputable def gFor (fi : FI) (m : FG) (body : FS) : FS := fun ρ S => (fi ρ S).into ρ fun it S => loopF it.chk m body it.items ρ S
theorem WantS.intoI {Z φ : List Addr} {S : Store} {H : Hp} {Dd : Ends} {r : Res ItD} {ρ : EnvD} {σ : L2.St} {k : ItD → Store → Out} {Q1 : It → Hp → Prop} (sl : Slots X.K X.mg φ (gnd Z φ S H) ρ σ) (h : WantS X W Z φ S H (r.into ρ k) Dd)
    (f : ∀ it S1 J φ1 H1, Rel X.K X.mg Z φ1 S1 H1 → Evo Z φ S H φ1 S1 H1 → RI X.K X.mg Z φ1 S1 H1 it J → WantS X W Z φ1 S1 H1 (k it S1) Dd → Q1 J H1) : WantI X.K X.mg Z φ S H r Q1 (WE W σ) := by
  cases r with
  | ok a S1 => exact fun b φ1 H1 r1 e1 d => f a S1 b φ1 H1 r1 e1 d (h.go e1)
  | ex C fs S1 => exact fun A dx φ1 H1 m r1 e1 d => h A dx σ φ1 H1 m r1 e1 (sl.evo e1) d
  | stuck => exact h
theorem ds_for (C : Cn X W k) {tg iter : Expr} {body : List Stmt} {fi : FI} {is : List Nat} {m : FG} (hi : DI X W tg iter fi) (hg : DG X tg is m) (hb : DSs X W body g) (hs : ∀ x, foldedSetIterable iter X.env x = pure x := by intro _; rfl) :
    DS X W (.For tg iter body [] pos) (gFor fi m g) := by
  obtain ⟨tb, pb, qb⟩ := hb.ex
  refine .mk (ps_for C.po C.calm hi hg pb hs) fun Z φ S ρ σ H Dd R sl w => DI.is Z φ S ρ σ H _ R sl (w.intoI sl fun it S1 J φ1 H1 R1 E1 rj w1 => ?_)
  refine ⟨fun i n σ' H' => n = it.items.length - i ∧ i ≤ it.items.length ∧ ∃ φ' S' ρ', Rel X.K X.mg Z φ' S' H' ∧ Evo Z φ1 S1 H1 φ' S' H' ∧ Slots X.K X.mg φ' (gnd Z φ' S' H') ρ' σ' ∧ WantS X W Z φ' S' H' (loopF it.chk m g (it.items.drop i) ρ' S') Dd,
    ⟨_, rfl, Nat.zero_le _, φ1, S1, ρ, R1, Evo.refl, sl.evo E1, w1⟩, ?_⟩
  rintro i n σ2 H2 ⟨rfl, hle, φ2, S2, ρ2, R2, E2, sl2, w2⟩
  by_cases hlt : i < it.items.length
  · obtain ⟨d, hd⟩ : ∃ d, it.items[i]? = some d := ⟨_, List.getElem?_eq_getElem hlt⟩
    have hdr : it.items.drop i = d :: it.items.drop (i + 1) := by
      rw [List.drop_eq_getElem_cons hlt]
      congr 1
      rw [List.getElem?_eq_getElem hlt] at hd
      exact Option.some.inj hd
    rw [hdr] at w2
    unfold loopF at w2
    by_cases hc : okC it.chk S2
    · rw [if_pos hc] at w2
      have rr := (rj i Z φ2 S2 H2 (fun _ h => h) R2 E2.pre E2.ext hc).1 d hd
      refine .inr ⟨rr.1, fun σ' H' => ∃ φ' S' ρ', Rel X.K X.mg Z φ' S' H' ∧ Evo Z φ1 S1 H1 φ' S' H' ∧ Slots X.K X.mg φ' (gnd Z φ' S' H') ρ' σ' ∧ WantS X W Z φ' S' H' (loopF it.chk m g (it.items.drop (i + 1)) ρ' S') Dd, fun σ' H' hN => ⟨_, by omega, rfl, hlt, hN⟩, fun x H3 y => ?_⟩
      obtain ⟨R3, E3, d3⟩ := rr.2 x H3 y
      cases hm : m d ρ2 S2 with
      | none => rw [hm] at w2; exact w2.elim
      | some ρ3 =>
        rw [hm] at w2
        refine ⟨Z, φ2, S2, ρ2, d, ρ3, R3, sl2.evo E3, d3, hm, fun σ3 sl3 _ => qb Z φ2 S2 ρ3 σ3 H3 _ R3 sl3 ?_⟩
        have w3 := w2.go E3
        cases hr : g ρ3 S2 with
        | nx ρ4 S4 =>
          simp only [hr] at w3
          exact fun σ4 φ4 H4 R4 E4 sl4 => ⟨φ4, S4, ρ4, R4, (E2.trans E3).trans E4, sl4, w3.go E4⟩
        | ct ρ4 S4 =>
          simp only [hr] at w3
          exact fun σ4 φ4 H4 R4 E4 sl4 => ⟨φ4, S4, ρ4, R4, (E2.trans E3).trans E4, sl4, w3.go E4⟩
        | bk ρ4 S4 =>
          simp only [hr] at w3
          exact w3
        | rt d4 S4 =>
          simp only [hr] at w3
          exact w3
        | ex C4 fs4 ρ4 S4 =>
          simp only [hr] at w3
          exact w3
        | stuck =>
          simp only [hr] at w3
          exact w3.elim
    · rw [if_neg hc] at w2
      exact w2.elim
  · have e : i = it.items.length := by omega
    subst e
    rw [List.drop_length] at w2
    unfold loopF at w2
    by_cases hc : okC it.chk S2
    · rw [if_pos hc] at w2
      exact .inl ⟨(rj _ Z φ2 S2 H2 (fun _ h => h) R2 E2.pre E2.ext hc).2 (Nat.le_refl _), w2 σ2 φ2 H2 R2 Evo.refl sl2⟩
    · rw [if_neg hc] at w2
      exact w2.elim
end
end DL

/-! The data layer, part 5: comprehensions; defs, their calls; the law's end. -/
namespace DL
open PySem L2

def Res.noEx {α : Type} (r : Res α) : Res α := match r with
  | .ok a S => .ok a S
  | _ => .stuck
@[simp] theorem Res.noEx_ok {α : Type} (a : α) (S : Store) : (Res.ok a S).noEx = .ok a S := rfl
section
variable {K : PySem.W.Frag} {mg : Str → Option Value} {Z φ φ1 φ' φ2 : List Addr} {S S1 S' S2 : Store} {H H1 H' H2 : Hp} {p : Addr}
/-! hidden addresses -/
theorem gnd_hide : Same (gnd (p :: Z) φ S H) (gnd Z φ S H) := fun a o h => by
  obtain ⟨h1, h2⟩ := without_some.mp h
  exact without_some.mpr ⟨fun q => h1 (List.mem_cons_of_mem _ q), h2⟩
theorem Evo.hideExt (e : Evo Z φ1 S1 H1 φ S H) (hp : H1 p = none) : Same (gnd Z φ1 S1 H1) (gnd (p :: Z) φ S H) := fun a o h => by
  have q := (without_some.mp h).2
  obtain ⟨h1, h2⟩ := without_some.mp (e.ext a o h)
  refine without_some.mpr ⟨fun z => ?_, h2⟩
  rcases List.mem_cons.mp z with z | z
  · rw [z, hp] at q
    cases q
  · exact h1 z
theorem Evo.hide (e : Evo Z φ1 S1 H1 φ S H) (hp : H1 p = none) (f : Evo (p :: Z) φ S H φ2 S2 H2) : Evo Z φ1 S1 H1 φ2 S2 H2 := by
  refine ⟨e.pre.trans f.pre, ((e.hideExt hp).trans f.ext).trans gnd_hide, fun c o h n => ?_, fun c h hn => ?_⟩
  · exact f.out c o (e.out c o h n) fun q => n (e.lv c q (by rw [h]; exact fun z => nomatch z))
  · by_cases q : c ∈ liveA φ1 S1
    · exact q
    · obtain ⟨o, ho⟩ := Option.ne_none_iff_exists'.mp hn
      exact e.lv c (f.lv c h (by rw [e.out c o ho q]; exact fun z => nomatch z)) hn
theorem Rel.unhide (R : Rel K mg (p :: Z) φ S H) : Rel K mg Z φ S H :=
  ⟨R.len, R.nd, fun a h q => R.zd a h (List.mem_cons_of_mem _ q), fun a h => R.zh a (List.mem_cons_of_mem _ h), R.ph, fun n a o h1 h2 => (R.ob n a o h1 h2).mono (List.prefix_refl _) gnd_hide fun _ z => z⟩
/-- a new object is hidden -/
theorem Rel.hidden (R : Rel K mg Z φ S H) (hp : H p = none) {o : HO} : Rel K mg (p :: Z) φ S (upd H p o) := by
  obtain ⟨r, e, g⟩ := R.fresh (o := o) hp
  have pφ : p ∉ φ := fun q => R.ph p q hp
  have eg : gnd (p :: Z) φ S (upd H p o) = gnd Z φ S H := by
    funext a
    by_cases ha : a = p
    · subst ha
      have h1 : gnd (a :: Z) φ S (upd H a o) a = none := by
        unfold gnd without
        rw [if_pos (List.mem_append_left _ List.mem_cons_self)]
      have h2 : gnd Z φ S H a = none := by
        unfold gnd without
        rw [hp]
        split <;> rfl
      rw [h1, h2]
    · unfold gnd without
      rw [upd_ne ha]
      by_cases hq : a ∈ Z ++ liveA φ S
      · rw [if_pos hq, if_pos (by rw [List.cons_append]; exact List.mem_cons_of_mem _ hq)]
      · rw [if_neg hq, if_neg (by rw [List.cons_append]; exact fun z => (List.mem_cons.mp z).elim ha hq)]
  refine ⟨R.len, R.nd, fun a h q => ?_, fun a h => ?_, r.ph, fun n a u h1 h2 => ?_⟩
  · rcases List.mem_cons.mp q with z | z
    · rw [z] at h
      exact pφ h
    · exact R.zd a h z
  · rcases List.mem_cons.mp h with z | z
    · rw [z, upd_same]
      exact fun q => nomatch q
    · exact r.zh a z
  · rw [eg]
    refine (R.ob n a u h1 h2).mono (List.prefix_refl _) (Same.refl _) fun ob z => ?_
    rw [upd_ne (ne_of_none z hp)]
    exact z
/-- a hidden object changes -/
theorem Rel.hidMut (R : Rel K mg (p :: Z) φ S H) {o : HO} : Rel K mg (p :: Z) φ S (upd H p o) ∧ gnd (p :: Z) φ S (upd H p o) = gnd (p :: Z) φ S H := by
  have eg : gnd (p :: Z) φ S (upd H p o) = gnd (p :: Z) φ S H := by
    funext a
    unfold gnd without
    by_cases ha : a = p
    · rw [ha, if_pos (List.mem_append_left _ List.mem_cons_self), if_pos (List.mem_append_left _ List.mem_cons_self)]
    · rw [upd_ne ha]
  have some_of : ∀ b, H b ≠ none → upd H p o b ≠ none := fun b h => by
    by_cases hb : b = p
    · subst hb
      rw [upd_same]
      exact fun z => nomatch z
    · rw [upd_ne hb]
      exact h
  refine ⟨⟨R.len, R.nd, R.zd, fun b h => some_of b (R.zh b h), fun b h => some_of b (R.ph b h), fun n a u h1 h2 => ?_⟩, eg⟩
  rw [eg]
  refine (R.ob n a u h1 h2).mono (List.prefix_refl _) (Same.refl _) fun ob z => ?_
  rw [upd_ne]
  · exact z
  · intro q
    rw [q] at h1
    exact R.zd p (List.mem_of_getElem? h1) List.mem_cons_self
theorem Evo.hidMut (e : Evo Z φ1 S1 H1 φ S H) (hp : H1 p = none) {o : HO} : Evo Z φ1 S1 H1 φ S (upd H p o) := by
  refine ⟨e.pre, fun a u h => ?_, fun a u h n => ?_, e.lv⟩
  · have q := (without_some.mp h).2
    obtain ⟨h1, h2⟩ := without_some.mp (e.ext a u h)
    refine without_some.mpr ⟨h1, ?_⟩
    rw [upd_ne (ne_of_none q hp)]
    exact h2
  · rw [upd_ne (ne_of_none h hp)]
    exact e.out a u h n
/-- the hidden list becomes an object of the store -/
theorem Rel.shown (R : Rel K mg (p :: Z) φ S H) (pZ : p ∉ Z) {ds : List D} {vs : List V} (hp : H p = some (.lst vs)) (hd : DatL K mg φ (gnd (p :: Z) φ S H) ds vs) :
    Rel K mg Z (φ ++ [p]) (S ++ [.lst ds]) H ∧ gnd Z (φ ++ [p]) (S ++ [.lst ds]) H = gnd (p :: Z) φ S H := by
  have pφ : p ∉ φ := fun q => R.zd p q List.mem_cons_self
  have lv : liveA (φ ++ [p]) (S ++ [.lst ds]) = liveA φ S ++ [p] := by rw [liveA_snoc R.len]; rfl
  have eg : gnd Z (φ ++ [p]) (S ++ [.lst ds]) H = gnd (p :: Z) φ S H := by
    funext a
    unfold gnd without
    rw [lv]
    by_cases q : a ∈ p :: Z ++ liveA φ S
    · rw [if_pos q, if_pos]
      rw [List.cons_append] at q
      rcases List.mem_cons.mp q with z | z
      · exact List.mem_append_right _ (List.mem_append_right _ (by rw [z]; exact List.mem_singleton.mpr rfl))
      · rcases List.mem_append.mp z with z | z
        · exact List.mem_append_left _ z
        · exact List.mem_append_right _ (List.mem_append_left _ z)
    · rw [if_neg q, if_neg]
      intro z
      refine q ?_
      rw [List.cons_append]
      rcases List.mem_append.mp z with z | z
      · exact List.mem_cons_of_mem _ (List.mem_append_left _ z)
      · rcases List.mem_append.mp z with z | z
        · exact List.mem_cons_of_mem _ (List.mem_append_right _ z)
        · rw [List.mem_singleton.mp z]
          exact List.mem_cons_self
  refine ⟨⟨by rw [List.length_append, List.length_append, R.len]; rfl, List.nodup_append.mpr ⟨R.nd, by simp, fun a ha b hb => ?_⟩, fun a ha q => ?_, fun a h => R.zh a (List.mem_cons_of_mem _ h), fun a ha => ?_, fun n a o h1 h2 => ?_⟩, eg⟩
  · rw [List.mem_singleton.mp hb]
    intro z
    rw [z] at ha
    exact pφ ha
  · rcases List.mem_append.mp ha with z | z
    · exact R.zd a z (List.mem_cons_of_mem _ q)
    · rw [List.mem_singleton.mp z] at q
      exact pZ q
  · rcases List.mem_append.mp ha with z | z
    · exact R.ph a z
    · rw [List.mem_singleton.mp z, hp]
      exact fun q => nomatch q
  · rw [eg]
    by_cases hlt : n < φ.length
    · rw [List.getElem?_append_left hlt] at h1
      rw [List.getElem?_append_left (by rw [← R.len]; exact hlt)] at h2
      exact (R.ob n a o h1 h2).mono ⟨[p], rfl⟩ (Same.refl _) fun _ z => z
    · have hlt' : φ.length ≤ n := Nat.le_of_not_lt hlt
      rw [List.getElem?_append_right hlt'] at h1
      rw [List.getElem?_append_right (by rw [← R.len]; exact hlt')] at h2
      have e0 : n - φ.length = 0 := by
        have := (List.getElem?_eq_some_iff.mp h1).1
        simp only [List.length_singleton] at this
        omega
      rw [← R.len] at h2
      rw [e0] at h1 h2
      cases h1
      cases h2
      exact ⟨vs, hp, DatL.mono ⟨[p], rfl⟩ (Same.refl _) _ _ hd⟩
end

/-! ### comprehensions -/
open Classical in
noncomputable def compF (c : Option (D × List D)) (m : FG) (ft : FT) (fe : FE) : List D → EnvD → Store → Res (List D)
  | [], _, S => if okC c S then .ok [] S else .stuck
  | d :: ds, ρ, S => if okC c S then (match m d ρ S with
    | some ρ1 => (ft ρ1 S).noEx.bind fun b S => if b then (fe ρ1 S).noEx.bind fun y S => (compF c m ft fe ds ρ S).bind fun ys S => .ok (y :: ys) S else compF c m ft fe ds ρ S
    | none => .stuck) else .stuck
def wipeD (ρ : EnvD) : List Nat → EnvD
  | [] => ρ
  | v :: vs => (wipeD ρ vs).set v none
theorem slots_wipe {K : PySem.W.Frag} {mg : Str → Option Value} {φ : List Addr} {G : Hp} {ρ : EnvD} {σ : L2.St} (h : Slots K mg φ G ρ σ) : ∀ vs : List Nat, Slots K mg φ G (wipeD ρ vs) (wipe σ vs)
  | [] => h
  | v :: vs => by
    obtain ⟨a, b⟩ := slots_wipe h vs
    unfold wipeD wipe
    refine ⟨by rw [List.length_set, List.length_set, a], fun i d q => ?_⟩
    by_cases hi : v = i
    · subst hi
      have hl := (List.getElem?_eq_some_iff.mp q).1
      rw [List.length_set] at hl
      rw [List.getElem?_set_self hl] at q
      cases q
    · rw [List.getElem?_set_ne hi] at q
      obtain ⟨u, h1, h2⟩ := b i d q
      exact ⟨u, by rw [List.getElem?_set_ne hi]; exact h1, h2⟩
abbrev Fin' := List D → Store → Res D
noncomputable def fComp (fi : FI) (m : FG) (ft : FT) (fe : FE) (own : List Nat) (fin : Fin') : FE := fun ρ S => (fi ρ S).bind fun it S => (compF it.chk m ft fe it.items (wipeD ρ own) S).bind fin
def finL : Fin' := fun ds S => if short ds.length then .ok (.lst ds) S else .stuck
/-- what an end must be -/
def FinOk (fin : Fin') : Prop := (∀ ds S, fin ds S ≠ .stuck → ds.length ≤ sizeLine) ∧ ∀ (K : PySem.W.Frag) (mg : Str → Option Value) (Z φ1 φ : List Addr) (S1 S : Store) (H1 H : Hp) (p : Addr) (ds : List D) (vs : List V) (Q : VK) (E : XK),
  Rel K mg (p :: Z) φ S H → Evo Z φ1 S1 H1 φ S H → H1 p = none → p ∉ Z → H p = some (.lst vs) → DatL K mg φ (gnd (p :: Z) φ S H) ds vs → Want K mg (RDat K mg) Z φ1 S1 H1 (fin ds S) Q E → Q (.ref p) H
theorem finL_ok : FinOk finL := by
  refine ⟨fun ds S h => ?_, fun K mg Z φ1 φ S1 S H1 H p ds vs Q E R e hp pZ hH hd w => ?_⟩
  · unfold finL at h
    by_cases q : short ds.length = true
    · exact of_decide_eq_true q
    · rw [if_neg q] at h
      exact absurd rfl h
  · unfold finL at w
    by_cases q : short ds.length = true
    · rw [if_pos q] at w
      refine w _ φ H R.unhide e ?_
      unfold RDat Dat
      refine ⟨p, vs, rfl, without_some.mpr ⟨fun z => ?_, hH⟩, DatL.mono (List.prefix_refl _) gnd_hide _ _ hd⟩
      rcases List.mem_append.mp z with z | z
      · exact pZ z
      · exact R.zd p (liveA_sub z) List.mem_cons_self
    · rw [if_neg q] at w
      exact w.elim
section
variable {X : Cx} {W : WX} {k : Nat}
theorem Want.noEx {α β : Type} {Z φ : List Addr} {S : Store} {H : Hp} {R : List Addr → Hp → α → β → Prop} {r : Res α} {Q : β → Hp → Prop} {E : XK} (hn : r.noEx ≠ .stuck)
    (f : ∀ a S1 b φ1 H1, r = .ok a S1 → Rel X.K X.mg Z φ1 S1 H1 → Evo Z φ S H φ1 S1 H1 → R φ1 (gnd Z φ1 S1 H1) a b → Q b H1) : Want X.K X.mg R Z φ S H r Q E := by
  cases r with
  | ok a S1 => exact fun b φ1 H1 r1 e1 d => f a S1 b φ1 H1 rfl r1 e1 d
  | _ => exact absurd rfl hn
theorem isE_lc {fi : FI} {is : List Nat} {m : FG} {ft : FT} {fe : FE} {own : List Nat} {fin : Fin'} (hf : FinOk fin) (hio : ∀ i ∈ is, i ∈ own) :
    IsE X W (tLc (tDI X.K X.mg W fi) (tG X.K X.mg is m) (tDT X.K X.mg W0 ft) (tD X.K X.mg W0 fe) own) (fComp fi m ft fe own fin) := fun Z φ S ρ σ H Q R sl w => by
  have wi : WantI X.K X.mg Z φ S H (fi ρ S) (fun J H1 => ∀ D, H1 D = none → ∃ W : Nat → Nat → Hp → Prop, (∃ m, W 0 m (upd H1 D (.lst []))) ∧ ∀ i mm H, W i mm H →
      (J.stop i H ∧ Q (.ref D) H) ∨ (J.go i H ∧ ∃ Nx : Hp → Prop, (∀ H', Nx H' → ∃ m', m' < mm ∧ W (i + 1) m' H') ∧ ∀ x H', J.yld i H x H' → tG X.K X.mg is m x (wipe σ own) H' fun σ2 H2 => wipe σ2 own = wipe σ own ∧ tDT X.K X.mg W0 ft σ2 H2 fun b H3 =>
        if b = true then tD X.K X.mg W0 fe σ2 H3 fun y H4 => ∃ acc, H4 D = some (.lst acc) ∧ acc.length < sizeLine ∧ Nx (upd H4 D (.lst (acc ++ [y]))) else Nx H3)) (WE W σ) := by
    have aux : ∀ it S1 J φ1 H1, Rel X.K X.mg Z φ1 S1 H1 → Evo Z φ S H φ1 S1 H1 → RI X.K X.mg Z φ1 S1 H1 it J → Want X.K X.mg (RDat X.K X.mg) Z φ1 S1 H1 ((compF it.chk m ft fe it.items (wipeD ρ own) S1).bind fin) Q (WE W σ) →
        ∀ D, H1 D = none → ∃ W : Nat → Nat → Hp → Prop, (∃ m, W 0 m (upd H1 D (.lst []))) ∧ ∀ i mm H, W i mm H →
      (J.stop i H ∧ Q (.ref D) H) ∨ (J.go i H ∧ ∃ Nx : Hp → Prop, (∀ H', Nx H' → ∃ m', m' < mm ∧ W (i + 1) m' H') ∧ ∀ x H', J.yld i H x H' → tG X.K X.mg is m x (wipe σ own) H' fun σ2 H2 => wipe σ2 own = wipe σ own ∧ tDT X.K X.mg W0 ft σ2 H2 fun b H3 =>
        if b = true then tD X.K X.mg W0 fe σ2 H3 fun y H4 => ∃ acc, H4 D = some (.lst acc) ∧ acc.length < sizeLine ∧ Nx (upd H4 D (.lst (acc ++ [y]))) else Nx H3) := by
      intro it S1 J φ1 H1 R1 E1 rj w1 p hp
      have pZ : p ∉ Z := fun q => R1.zh p q hp
      let Inv' : Nat → Hp → Prop := fun i H' => ∃ φ' S' acc vs, Rel X.K X.mg (p :: Z) φ' S' H' ∧ Evo Z φ1 S1 H1 φ' S' H' ∧ H' p = some (.lst vs) ∧ DatL X.K X.mg φ' (gnd (p :: Z) φ' S' H') acc vs ∧
        Want X.K X.mg (RDat X.K X.mg) Z φ1 S1 H1 ((compF it.chk m ft fe (it.items.drop i) (wipeD ρ own) S').bind fun ys S => fin (acc ++ ys) S) Q (WE W σ)
      refine ⟨fun i n H' => n = it.items.length - i ∧ i ≤ it.items.length ∧ Inv' i H', ⟨_, rfl, Nat.zero_le _, φ1, S1, [], [], R1.hidden hp, ?_, upd_same, DatL.nil, w1⟩, ?_⟩
      · exact (Evo.refl (Z := Z) (φ := φ1) (S := S1) (H := H1)).hidMut hp
      rintro i n H2 ⟨rfl, hle, φ2, S2, acc, vs, R2, E2, hH2, dv, w2⟩
      have slw : Slots X.K X.mg φ2 (gnd (p :: Z) φ2 S2 H2) (wipeD ρ own) (wipe σ own) := by
        refine slots_wipe ⟨sl.1, fun j d q => ?_⟩ own
        obtain ⟨u, h1, h2⟩ := sl.2 j d q
        exact ⟨u, h1, Dat.mono (E1.pre.trans E2.pre) (E1.ext.trans (E2.hideExt hp)) _ _ h2⟩
      by_cases hlt : i < it.items.length
      · obtain ⟨d, hd⟩ : ∃ d, it.items[i]? = some d := ⟨_, List.getElem?_eq_getElem hlt⟩
        have hdr : it.items.drop i = d :: it.items.drop (i + 1) := by
          rw [List.drop_eq_getElem_cons hlt]
          congr 1
          rw [List.getElem?_eq_getElem hlt] at hd
          exact Option.some.inj hd
        rw [hdr] at w2
        unfold compF at w2
        by_cases hc : okC it.chk S2
        · rw [if_pos hc] at w2
          have rr := (rj i (p :: Z) φ2 S2 H2 (fun _ h => List.mem_cons_of_mem _ h) R2 E2.pre (E2.hideExt hp) hc).1 d hd
          refine .inr ⟨rr.1, Inv' (i + 1), fun H' hN => ⟨_, by omega, rfl, hlt, hN⟩, fun x H3 y => ?_⟩
          obtain ⟨R3, E3, d3⟩ := rr.2 x H3 y
          cases hm : m d (wipeD ρ own) S2 with
          | none => rw [hm] at w2; exact w2.elim
          | some ρ3 =>
            simp only [hm] at w2
            refine ⟨p :: Z, φ2, S2, wipeD ρ own, d, ρ3, R3, slw.evo E3, d3, hm, fun σ3 sl3 hw => ⟨?_, p :: Z, φ2, S2, ρ3, R3, sl3, ?_⟩⟩
            · rw [hw own hio]
              have ww : ∀ vs : List Nat, (∀ i ∈ vs, i ∈ own) → wipe (wipe σ own) vs = wipe σ own := by
                intro vs
                induction vs with
                | nil => intro _; rfl
                | cons v vs ih =>
                  intro hv
                  show (wipe (wipe σ own) vs).set v none = wipe σ own
                  rw [ih fun i hi => hv i (List.mem_cons_of_mem _ hi)]
                  have hv' := hv v List.mem_cons_self
                  have gen : ∀ own : List Nat, v ∈ own → (wipe σ own).set v none = wipe σ own := by
                    intro own
                    induction own with
                    | nil => intro h; simp at h
                    | cons u us ih2 =>
                      intro h
                      unfold wipe
                      by_cases hu : v = u
                      · subst hu
                        rw [List.set_set]
                      · rw [List.set_comm _ _ (fun z => hu z.symm), ih2 ((List.mem_cons.mp h).resolve_left hu)]
                  exact gen own hv'
              exact ww own fun _ h => h
            have ev2 : Evo Z φ1 S1 H1 φ2 S2 H3 := E2.hide hp E3
            have stuckT : (ft ρ3 S2).noEx ≠ .stuck := fun z => by
              rw [z] at w2
              exact w2
            refine Want.noEx stuckT fun b S4 b' φ4 H4 hb R4 E4 eb => ?_
            cases eb
            rw [hb] at w2
            simp only [Res.noEx_ok, Res.bind_ok] at w2
            have ev4 := ev2.hide hp E4
            have hp3 : H3 p = some (.lst vs) := E3.out p _ hH2 fun q => R2.zd p (liveA_sub q) List.mem_cons_self
            have hp4 : H4 p = some (.lst vs) := E4.out p _ hp3 fun q => R3.zd p (liveA_sub q) List.mem_cons_self
            have dv4 := DatL.evo E4 (DatL.evo E3 dv)
            cases b with
            | false =>
              exact iteF ⟨φ4, S4, acc, vs, R4, ev4, hp4, dv4, w2⟩
            | true =>
              simp only [if_true] at w2
              refine iteT ⟨p :: Z, φ4, S4, ρ3, R4, sl3.evo E4, ?_⟩
              have stuckE : (fe ρ3 S4).noEx ≠ .stuck := fun z => by
                rw [z] at w2
                exact w2
              refine Want.noEx stuckE fun yd S5 yv φ5 H5 hy R5 E5 dy => ?_
              rw [hy] at w2
              simp only [Res.noEx_ok, Res.bind_ok] at w2
              have hp5 : H5 p = some (.lst vs) := E5.out p _ hp4 fun q => R4.zd p (liveA_sub q) List.mem_cons_self
              have dv5 := DatL.evo E5 dv4
              obtain ⟨R6, eg⟩ := R5.hidMut (o := .lst (vs ++ [yv]))
              have w3 : Want X.K X.mg (RDat X.K X.mg) Z φ1 S1 H1 ((compF it.chk m ft fe (it.items.drop (i + 1)) (wipeD ρ own) S5).bind fun ys S => fin ((acc ++ [yd]) ++ ys) S) Q (WE W σ) := by
                cases hq : compF it.chk m ft fe (it.items.drop (i + 1)) (wipeD ρ own) S5 with
                | ok ys S7 =>
                  rw [hq] at w2
                  simp only [Res.bind_ok] at w2 ⊢
                  rw [List.append_assoc]
                  exact w2
                | _ => rw [hq] at w2; exact w2
              refine ⟨vs, hp5, ?_, φ5, S5, acc ++ [yd], vs ++ [yv], R6, (ev4.hide hp E5).hidMut hp, upd_same, by rw [eg]; exact dv5.append (.cons dy DatL.nil), w3⟩
              cases hq : compF it.chk m ft fe (it.items.drop (i + 1)) (wipeD ρ own) S5 with
              | ok ys S7 =>
                rw [hq] at w3
                have ns : fin ((acc ++ [yd]) ++ ys) S7 ≠ .stuck := fun z => by
                  simp only [Res.bind_ok, z] at w3
                  exact w3
                have hl := hf.1 _ _ ns
                rw [dv5.length]
                simp only [List.length_append, List.length_singleton] at hl
                omega
              | ex C fs S7 =>
                exfalso
                have : ∀ (ds : List D) (ρ : EnvD) (S : Store) C fs S', compF it.chk m ft fe ds ρ S ≠ .ex C fs S' := by
                  intro ds
                  induction ds with
                  | nil =>
                    intro ρ S C fs S' z
                    unfold compF at z
                    split at z <;> cases z
                  | cons d ds ih =>
                    intro ρ S C fs S' z
                    unfold compF at z
                    split at z
                    · split at z
                      · rename_i ρ1 _
                        cases h1 : ft ρ1 S with
                        | ok b S2 =>
                          rw [h1] at z
                          simp only [Res.noEx_ok, Res.bind_ok] at z
                          cases b with
                          | false => exact ih _ _ _ _ _ z
                          | true =>
                            simp only [if_true] at z
                            cases h2 : fe ρ1 S2 with
                            | ok y S3 =>
                              rw [h2] at z
                              simp only [Res.noEx_ok, Res.bind_ok] at z
                              cases h3 : compF it.chk m ft fe ds ρ S3 with
                              | ex _ _ _ => exact ih _ _ _ _ _ h3
                              | _ => rw [h3] at z; cases z
                            | _ => rw [h2] at z; cases z
                        | _ => rw [h1] at z; cases z
                      · cases z
                    · cases z
                exact this _ _ _ _ _ _ hq
              | stuck =>
                rw [hq] at w3
                exact w3.elim
        · rw [if_neg hc] at w2
          exact w2.elim
      · have e : i = it.items.length := by omega
        subst e
        rw [List.drop_length] at w2
        unfold compF at w2
        by_cases hc : okC it.chk S2
        · rw [if_pos hc] at w2
          simp only [Res.bind_ok, List.append_nil] at w2
          exact .inl ⟨(rj _ (p :: Z) φ2 S2 H2 (fun _ h => List.mem_cons_of_mem _ h) R2 E2.pre (E2.hideExt hp) hc).2 (Nat.le_refl _), hf.2 X.K X.mg Z φ1 φ2 S1 S2 H1 H2 p acc vs Q _ R2 E2 hp pZ hH2 dv w2⟩
        · rw [if_neg hc] at w2
          exact w2.elim
    unfold fComp at w
    cases hr : fi ρ S with
    | ok it S1 =>
      rw [hr] at w
      exact fun J φ1 H1 R1 E1 rj => aux it S1 J φ1 H1 R1 E1 rj (w.go E1)
    | ex C fs S1 => rw [hr] at w; exact w
    | stuck => rw [hr] at w; exact w
  exact ⟨Z, φ, S, ρ, R, sl, wi⟩

/-! tests of a comprehension -/
def DTs (X : Cx) (W : WX) (ifs : List Expr) (ft : FT) : Prop := PTs X ifs (tDT X.K X.mg W ft)
def fYes : FT := fun _ S => .ok true S
theorem dts_nil : DTs X W [] fYes := ⟨fun pins s σ H Q I h => by
  obtain ⟨Z, φ, S, ρ, R, sl, w⟩ := h
  exact pts_nil.run pins s σ H Q I (w.now R rfl)⟩
theorem dts_one {c : Expr} {ft : FT} (h : DT X W c ft) : DTs X W [c] ft := pts_one h
theorem Cn.blk (C : Cn X W k) {s : Shared} {H : Hp} {scope : Scope} {ce : Env} {fp : List Addr} : Cn (X.blk s H scope ce fp) W0 k :=
  ⟨C.room, C.gd, C.calm, C.nd, PassesOwn.never, takes0N⟩
theorem de_lc (C : Cn X W k) {fin : Fin'} (hf : FinOk fin) {elt tg iter : Expr} {ifs : List Expr} {scope : Scope} {own : List (Str × Nat)} {pos : Pos} {fi : FI} {is : List Nat} {m : FG} {ft : FT} {fe : FE} (hi : DI X W tg iter fi) (ok : BlkOk X.N X.env.scope scope own)
    (hg : ∀ (s : Shared) (H : Hp) (C : Addr) (cl : List (Str × Addr)) (fp : List Addr), DG (X.blk s H scope (compEnvC scope cl C X.env) fp) tg is m) (ht : ∀ (s : Shared) (H : Hp) (C : Addr) (cl : List (Str × Addr)) (fp : List Addr), DTs (X.blk s H scope (compEnvC scope cl C X.env) fp) W0 ifs ft)
    (he : ∀ (s : Shared) (H : Hp) (C : Addr) (cl : List (Str × Addr)) (fp : List Addr), DE (X.blk s H scope (compEnvC scope cl C X.env) fp) W0 elt fe) (hio : ∀ i ∈ is, i ∈ own.map (·.2) := by decide) (hs : ∀ x, foldedSetIterable iter X.env x = pure x := by intro _; rfl) :
    DE X W (.ListComp elt [⟨tg, iter, ifs, 0⟩] scope pos) (fComp fi m ft fe (own.map (·.2)) fin) :=
  .mk (pe_lc (g := tG X.K X.mg is m) (tt := tDT X.K X.mg W0 ft) (te := tD X.K X.mg W0 fe) C.calm C.nd hi ok hg ht he hs) (isE_lc hf hio)
theorem ds_setOf {t : TE} {fe : FE} {e : Expr} {x : Str} {i : Nat} {pos pos' : Pos} (p : PS X (.Assign [.Name x pos'] e pos) (tAsg t (L2.gName i))) (q : IsE X W t fe) : DS X W (.Assign [.Name x pos'] e pos) (gSet i fe) :=
  .mk p fun Z φ S ρ σ H Dd R sl w => q Z φ S ρ σ H _ R sl (w.into sl fun d S1 v φ1 H1 R1 E1 dd w1 => w1 _ φ1 H1 R1 Evo.refl ((sl.evo E1).set dd))
theorem ds_setLc (C : Cn X W k) {fin : Fin'} (hf : FinOk fin) {i : Nat} {y : Str} {py spos : Pos} {elt tg iter : Expr} {ifs : List Expr} {scope : Scope} {own : List (Str × Nat)} {pos : Pos} {fi : FI} {is : List Nat} {m : FG} {ft : FT} {fe : FE} (hy : X.N[i]? = some y) (hyl : X.env.scope.names.lookup y = some .local)
    (hsw : swapsWith (.ListComp elt [⟨tg, iter, ifs, 0⟩] scope pos) (some (.Name y py)) spos.line X.env = pure true) (hi : DI X W tg iter fi) (ok : BlkOk X.N X.env.scope scope own)
    (hg : ∀ (s : Shared) (H : Hp) (C : Addr) (cl : List (Str × Addr)) (fp : List Addr), DG (X.blk s H scope (compEnvC scope cl C X.env) fp) tg is m) (ht : ∀ (s : Shared) (H : Hp) (C : Addr) (cl : List (Str × Addr)) (fp : List Addr), DTs (X.blk s H scope (compEnvC scope cl C X.env) fp) W0 ifs ft)
    (he : ∀ (s : Shared) (H : Hp) (C : Addr) (cl : List (Str × Addr)) (fp : List Addr), DE (X.blk s H scope (compEnvC scope cl C X.env) fp) W0 elt fe) (hio : ∀ i ∈ is, i ∈ own.map (·.2) := by decide) (hs : ∀ x, foldedSetIterable iter X.env x = pure x := by intro _; rfl) :
    DS X W (.Assign [.Name y py] (.ListComp elt [⟨tg, iter, ifs, 0⟩] scope pos) spos) (gSet i (fComp fi m ft fe (own.map (·.2)) fin)) :=
  ds_setOf (ps_setLc (g := tG X.K X.mg is m) (tt := tDT X.K X.mg W0 ft) (te := tD X.K X.mg W0 fe) C.calm C.nd hy hyl hsw hi ok hg ht he hs) (isE_lc hf hio)
end

/-! ### defs -/
/-- a def's promise; what is under way around it is known -/
structure FnG (P : Program) (w : World) (K : PySem.W.Frag) (mg : Str → Option Value) (base : Heap) (k : Nat) (f : Addr) (fd : FuncData) (ps : List Str) (sp : Sp) : Prop where
  len : ∀ vs H Q E, sp vs H Q E → vs.length = ps.length
  run : ∀ (A : Around) (outer : List Env) (s : Shared) (H : Hp) (args : Args) (us : List Value) (vs : List V) (Q : VK) (E : XK), Room k A → A.guards = some [] → Env0 P w K mg base A outer s H → BindsTo s fd args (ps.zip us) → Vals vs us → sp vs H Q E →
    codeAny (model P w) A (.call (.ref f) args) (CR (L2N.CX P w) outer P w H s Q E) s
abbrev Sem' := List D → Store → Res D
def spD (K : PySem.W.Frag) (mg : Str → Option Value) (n : Nat) (sem : Sem') : Sp := fun vs H Q E => vs.length = n ∧ ∃ Z φ S ds, Rel K mg Z φ S H ∧ DatL K mg φ (gnd Z φ S H) ds vs ∧ Want K mg (RDat K mg) Z φ S H (sem ds S) Q E
def startD (n : Nat) (ds : List D) : EnvD := ds.map some ++ List.replicate (n - ds.length) none
def Out.res (o : Out) : Res D := match o with
  | .nx _ S => .ok .non S
  | .rt d S => .ok d S
  | .ex C fs _ S => .ex C fs S
  | _ => .stuck
def semOf (n : Nat) (g : FS) : Sem' := fun ds S => (g (startD n ds) S).res
theorem slots_start {K : PySem.W.Frag} {mg : Str → Option Value} {φ : List Addr} {G : Hp} {N : List Str} {ds : List D} {vs : List V} (h : DatL K mg φ G ds vs) : Slots K mg φ G (startD N.length ds) (L2.start N vs) := by
  have hl := h.length
  unfold startD L2.start
  rw [hl]
  refine ⟨by simp [hl], fun i d q => ?_⟩
  by_cases hi : i < ds.length
  · rw [List.getElem?_append_left (by simpa using hi), List.getElem?_map] at q
    cases hq : ds[i]? with
    | none => rw [hq] at q; cases q
    | some e =>
      rw [hq] at q
      cases q
      obtain ⟨v, h1, h2⟩ := h.get hq
      exact ⟨v, by rw [List.getElem?_append_left (by simpa [hl] using hi), List.getElem?_map, h1]; rfl, h2⟩
  · rw [List.getElem?_append_right (by simpa using hi), List.getElem?_replicate] at q
    split at q <;> cases q
/-- THE RULE: a def by its body's mirror -/
theorem fnG {P : Program} {w : World} {K : PySem.W.Frag} {mg : Str → Option Value} {base : Heap} {x qual : Str} {params : Arguments} {body : List Stmt} {scope : Scope} {dvs : List V} {kws : List (Str × V)} {f : Addr} {fd : FuncData} {N ps : List Str} {k : Nat} {g : FS}
    (F : FunD K x qual params body scope dvs kws f fd) (S : FnScope N ps scope)
    (hb : ∀ (cdv : Value) (A : Around) (outer : List Env) (s : Shared) (H : Hp) (E : XK), Cn (cxOf (L2N.CX P w) P w K mg base N qual scope f cdv A outer s H E) (fun c d _ H' => E c d H') k →
      DSs (cxOf (L2N.CX P w) P w K mg base N qual scope f cdv A outer s H E) (fun c d _ H' => E c d H') body g) : FnG P w K mg base (k + 1) f fd ps (spD K mg ps.length (semOf N.length g)) := by
  obtain ⟨oc, od, dV, kV, doc, pm, an, cdv, ct, osl, rfl, lk, hcd, _, _⟩ := F.ex
  refine ⟨fun vs H Q E h => h.1, fun A outer s H args us vs Q E hr hgd e0 hbd r hsp => ?_⟩
  have hl : us.length = ps.length := r.length.symm.trans hsp.1
  have keep : ∀ b o, base.get? b = some o → s.heap.get? b = some o := fun b o e => (e0.bs b o e).1
  have inK : K.In s.heap := e0.mod.kin.keeps keep
  have par : ∀ y ∈ ps.zip us, scope.names.lookup y.1 = some .local ∨
      (scope.names.lookup y.1 = some .cell ∧ ((cellsFrom (s.heap.objs.size + 1) scope.names []).lookup y.1).isSome = true) := by
    rintro ⟨n, v⟩ hy
    exact (S.par n (List.of_mem_zip hy).1).imp id fun q => ⟨q, PySem.W.cellsFrom_some _ _ _ (.inl q)⟩
  refine codeAny_call_function hr.depth (inK _ _ lk) rfl S.co S.gen rfl
    (PySem.W.codeRec_of inK hcd) (hbd _ _ _ _ ?_)
  refine wpAny_newFunctionEnv_cells S.kind par fun env he s1 entered => ?_
  subst he
  refine ⟨(e0.mod.nolimit.keeps keep).keeps entered.toInCall.keep, codeAny_func ?_⟩
  -- the body's own context
  have body' := hb cdv A outer s H E ⟨hr.deeper _, hgd, rfl, S.nd, passes_of rfl, L2N.takes_of rfl rfl rfl rfl⟩
  obtain ⟨hlen, Z, φ, S0, ds, R, dl, w0⟩ := hsp
  have I0 := inv_start (CX := L2N.CX P w) (mg := mg) (base := base) (cd := cdv) (qual := qual) (f := f) (E := E) S hr.hd e0 hlen r entered
  have q0 : tDS (cxOf (L2N.CX P w) P w K mg base N qual scope f cdv A outer s H E) (fun c d _ H' => E c d H') g { nx := fun _ H' => Q .non H', rt := Q } (L2.start N vs) H := by
    refine ⟨Z, φ, S0, startD N.length ds, R, slots_start dl, ?_⟩
    unfold semOf at w0
    cases hg : g (startD N.length ds) S0 with
    | nx ρ S1 =>
      rw [hg] at w0
      exact fun σ φ1 H1 R1 E1 _ => w0 .non φ1 H1 R1 E1 (by unfold RDat Dat; rfl)
    | rt d S1 =>
      rw [hg] at w0
      exact w0
    | ex C fs ρ S1 =>
      rw [hg] at w0
      exact fun A1 dx σ φ1 H1 m R1 E1 _ x => w0 A1 dx φ1 H1 m R1 E1 x
    | _ =>
      rw [hg] at w0
      exact w0.elim
  refine wpAny_mono (PSs.run body' [] s1 (L2.start N vs) H _ I0 q0) (fun fl s' hs => ?_) fun _ _ z => z
  have fin : ∀ {σ' : L2.St} {H' : Hp} {v : V} {u : Value}, Inv (cxOf (L2N.CX P w) P w K mg base N qual scope f cdv A outer s H E) [] σ' H' s' → RelV v u →
      Q v H' → CE outer P w H s Q u s' := fun J rv q => ⟨_, _, J.os, J.bare, J.base, J.hok, rv, q⟩
  cases fl with
  | ret u =>
    obtain ⟨v, σ', H', J, rv, q⟩ := hs
    exact fin J rv q
  | next =>
    obtain ⟨σ', H', J, q⟩ := hs
    exact fin (v := .non) J rfl q
  | brk => exact hs.choose_spec.choose_spec.2.elim
  | cont => exact hs.choose_spec.choose_spec.2.elim
end DL

/-! The data layer, part 6: calls. -/
namespace DL
open PySem L2

/-! ### data without objects of the store -/
mutual
def D.pure : D → Bool
  | .oid _ => false
  | .tup ds => pureL ds
  | .lst ds => pureL ds
  | .scr ds => pureL ds
  | .dic ks => pureK ks
  | .ins _ fs => pureF fs
  | .exc _ fs => pureF fs
  | _ => true
def pureL : List D → Bool
  | [] => true
  | d :: ds => d.pure && pureL ds
def pureK : List (Key × D) → Bool
  | [] => true
  | (_, d) :: ds => d.pure && pureK ds
def pureF : List (Str × D) → Bool
  | [] => true
  | (_, d) :: ds => d.pure && pureF ds
end
section
variable {K : PySem.W.Frag} {mg : Str → Option Value} {φ φ' : List Addr} {G : Hp}
mutual
theorem Dat.pure : ∀ {d : D} {v : V}, d.pure = true → Dat K mg φ G d v → Dat K mg φ' G d v
  | .non, _, _, h => h
  | .bl _, _, _, h => h
  | .int _, _, _, h => h
  | .str _, _, _, h => h
  | .ty _, _, _, h => h
  | .tup ds, _, p, h => by
    unfold Dat at h ⊢
    unfold D.pure at p
    obtain ⟨a, vs, rfl, h1, h2⟩ := h
    exact ⟨a, vs, rfl, h1, DatL.pure p h2⟩
  | .lst ds, _, p, h => by
    unfold Dat at h ⊢
    unfold D.pure at p
    obtain ⟨a, vs, rfl, h1, h2⟩ := h
    exact ⟨a, vs, rfl, h1, DatL.pure p h2⟩
  | .scr ds, _, p, h => by
    unfold Dat at h ⊢
    unfold D.pure at p
    obtain ⟨a, vs, rfl, h1, h2⟩ := h
    exact ⟨a, vs, rfl, h1, DatL.pure p h2⟩
  | .cls c, _, _, h => by
    unfold Dat at h ⊢
    exact h
  | .dic ks, _, p, h => by
    unfold Dat at h ⊢
    unfold D.pure at p
    obtain ⟨a, vs, rfl, h1, h2⟩ := h
    exact ⟨a, vs, rfl, h1, DatK.pure p h2⟩
  | .ins C fs, _, p, h => by
    unfold Dat at h ⊢
    unfold D.pure at p
    obtain ⟨a, A, dx, fvs, rfl, h0, h1, h2⟩ := h
    exact ⟨a, A, dx, fvs, rfl, h0, h1, DatF.pure p h2⟩
  | .oid n, _, p, h => by
    unfold D.pure at p
    cases p
  | .exc C fs, _, p, h => by
    unfold Dat at h ⊢
    unfold D.pure at p
    obtain ⟨a, A, dx, rfl, h0, h1, h2⟩ := h
    exact ⟨a, A, dx, rfl, h0, h1, h2.imp id fun ⟨z, b, fvs, q0, q1, q2⟩ => ⟨z, b, fvs, q0, q1, DatF.pure p q2⟩⟩
theorem DatL.pure : ∀ {ds : List D} {vs : List V}, pureL ds = true → DatL K mg φ G ds vs → DatL K mg φ' G ds vs
  | [], _, _, h => by
    unfold DatL at h ⊢
    exact h
  | d :: ds, _, p, h => by
    unfold DatL at h ⊢
    unfold pureL at p
    rw [Bool.and_eq_true] at p
    obtain ⟨v, r, rfl, h1, h2⟩ := h
    exact ⟨v, r, rfl, Dat.pure p.1 h1, DatL.pure p.2 h2⟩
theorem DatK.pure : ∀ {ds : List (Key × D)} {vs : List (Key × V)}, pureK ds = true → DatK K mg φ G ds vs → DatK K mg φ' G ds vs
  | [], _, _, h => by
    unfold DatK at h ⊢
    exact h
  | (k, d) :: ds, _, p, h => by
    unfold DatK at h ⊢
    unfold pureK at p
    rw [Bool.and_eq_true] at p
    obtain ⟨v, r, rfl, h1, h2⟩ := h
    exact ⟨v, r, rfl, Dat.pure p.1 h1, DatK.pure p.2 h2⟩
theorem DatF.pure : ∀ {ds : List (Str × D)} {vs : List (Str × V)}, pureF ds = true → DatF K mg φ G ds vs → DatF K mg φ' G ds vs
  | [], _, _, h => by
    unfold DatF at h ⊢
    exact h
  | (k, d) :: ds, _, p, h => by
    unfold DatF at h ⊢
    unfold pureF at p
    rw [Bool.and_eq_true] at p
    obtain ⟨v, r, rfl, h1, h2⟩ := h
    exact ⟨v, r, rfl, Dat.pure p.1 h1, DatF.pure p.2 h2⟩
end
end
def SO.pure : SO → Bool
  | .lst ds => pureL ds
  | .dic ks => pureK ks
  | .ins _ fs => pureF fs
  | .frz d => d.pure
  | .tbl _ _ => false
  | .dkt _ => false
theorem SOk.pure {K : PySem.W.Frag} {mg : Str → Option Value} {φ φ' : List Addr} {G H : Hp} {a : Addr} : ∀ {o : SO}, o.pure = true → SOk K mg φ G H a o → SOk K mg φ' G H a o
  | .lst ds, p, ⟨vs, h1, h2⟩ => ⟨vs, h1, h2.pure p⟩
  | .dic ks, p, ⟨vs, h1, h2⟩ => ⟨vs, h1, h2.pure p⟩
  | .ins C fs, p, ⟨A, dx, fvs, h0, h1, h2⟩ => ⟨A, dx, fvs, h0, h1, h2.pure p⟩
  | .frz d, p, h => Dat.pure p h
  | .tbl _ _, p, _ => nomatch p
  | .dkt _, p, _ => nomatch p

/-! ### a call with the objects that it is handed, and no others -/
def subArgs (S : Store) : List D → Nat → Option (List D × List Nat)
  | [], _ => some ([], [])
  | .oid k :: ds, n => match S[k]? with
    | some (.frz d) => if d.pure then (subArgs S ds n).map fun q => (d :: q.1, q.2) else none
    | some o => if o.pure then (subArgs S ds (n + 1)).map fun q => (.oid n :: q.1, k :: q.2) else none
    | none => none
  | d :: ds, n => if d.pure then (subArgs S ds n).map fun q => (d :: q.1, q.2) else none
def putBack (S : Store) : List Nat → Store → Store
  | k :: ks, o :: Sc => putBack (S.set k o) ks Sc
  | _, _ => S
def subOf (S : Store) (ks : List Nat) : Store := ks.map fun k => S.getD k (.frz .non)
def callSub (sem : Sem') : Sem' := fun args S => match subArgs S args 0 with
  | some (args', ks) => if ks.Nodup then (match sem args' (subOf S ks) with
    | .ok d Sc => if d.pure && ((Sc.take ks.length).all SO.pure && decide (ks.length ≤ Sc.length)) then .ok d (putBack S ks Sc) else .stuck
    | .ex C fs Sc => if pureF fs && ((Sc.take ks.length).all SO.pure && decide (ks.length ≤ Sc.length)) then .ex C fs (putBack S ks Sc) else .stuck
    | .stuck => .stuck) else .stuck
  | none => .stuck
theorem putBack_length : ∀ (ks : List Nat) (S Sc : Store), (putBack S ks Sc).length = S.length
  | [], _, _ => by simp [putBack]
  | k :: ks, S, [] => rfl
  | k :: ks, S, o :: Sc => by unfold putBack; rw [putBack_length, List.length_set]
theorem putBack_out : ∀ (ks : List Nat) (S Sc : Store) (n : Nat), n ∉ ks → (putBack S ks Sc)[n]? = S[n]?
  | [], _, _, _, _ => by simp [putBack]
  | k :: ks, S, [], _, _ => rfl
  | k :: ks, S, o :: Sc, n, h => by
    simp only [List.mem_cons, not_or] at h
    unfold putBack
    rw [putBack_out ks _ _ n h.2, List.getElem?_set_ne (fun z => h.1 z.symm)]
theorem putBack_in : ∀ (ks : List Nat) (S Sc : Store) (j n : Nat) (o : SO), ks.Nodup → ks[j]? = some n → n < S.length → Sc[j]? = some o → (putBack S ks Sc)[n]? = some o
  | [], _, _, _, _, _, _, h, _, _ => by cases h
  | k :: ks, S, [], _, _, _, _, _, _, h => by cases h
  | k :: ks, S, u :: Sc, 0, n, o, nd, h1, h2, h3 => by
    cases h1
    cases h3
    unfold putBack
    rw [putBack_out ks _ _ _ (List.nodup_cons.mp nd).1, List.getElem?_set_self h2]
  | k :: ks, S, u :: Sc, j + 1, n, o, nd, h1, h2, h3 => by
    unfold putBack
    exact putBack_in ks _ _ j n o (List.nodup_cons.mp nd).2 h1 (by rw [List.length_set]; exact h2) h3
section
variable {K : PySem.W.Frag} {mg : Str → Option Value} {Z φ : List Addr} {S : Store} {H : Hp}
def phiOf (φ : List Addr) (ks : List Nat) : List Addr := ks.map fun k => φ.getD k 0
theorem subArgs_ok (R : Rel K mg Z φ S H) : ∀ (ds : List D) (vs : List V) (n : Nat) (ds' : List D) (ks : List Nat) (pre : List Addr), pre.length = n → subArgs S ds n = some (ds', ks) → DatL K mg φ (gnd Z φ S H) ds vs →
    DatL K mg (pre ++ phiOf φ ks) (gnd Z φ S H) ds' vs ∧ ∀ k ∈ ks, ∃ o, S[k]? = some o ∧ o.pure = true ∧ o.live = true
  | [], vs, n, ds', ks, pre, hp, e, h => by
    cases e
    unfold DatL at h
    subst h
    exact ⟨DatL.nil, fun k hk => by simp at hk⟩
  | d :: ds, vs, n, ds', ks, pre, hp, e, h => by
    obtain ⟨v, r, rfl, h1, h2⟩ := h.uncons
    have plain : ∀ d' : D, d'.pure = true → Dat K mg φ (gnd Z φ S H) d' v → (subArgs S ds n).map (fun q => (d' :: q.1, q.2)) = some (ds', ks) →
        DatL K mg (pre ++ phiOf φ ks) (gnd Z φ S H) ds' (v :: r) ∧ ∀ k ∈ ks, ∃ o, S[k]? = some o ∧ o.pure = true ∧ o.live = true := fun d' p hd q => by
      cases hq : subArgs S ds n with
      | none => rw [hq] at q; cases q
      | some t =>
        rw [hq] at q
        cases q
        obtain ⟨a, b⟩ := subArgs_ok R ds r n t.1 t.2 pre hp hq h2
        exact ⟨.cons (Dat.pure p hd) a, b⟩
    cases d with
    | oid k =>
      unfold subArgs at e
      unfold Dat at h1
      obtain ⟨a, rfl, ha⟩ := h1
      cases hS : S[k]? with
      | none => simp [hS] at e
      | some o =>
        have ok := R.ob k a o ha hS
        have live : o.live = true → (if o.pure then (subArgs S ds (n + 1)).map (fun q => (D.oid n :: q.1, k :: q.2)) else none) = some (ds', ks) →
            DatL K mg (pre ++ phiOf φ ks) (gnd Z φ S H) ds' (.ref a :: r) ∧ ∀ k ∈ ks, ∃ o, S[k]? = some o ∧ o.pure = true ∧ o.live = true := fun hl q => by
          by_cases hp' : o.pure = true
          · rw [if_pos hp'] at q
            cases hq : subArgs S ds (n + 1) with
            | none => rw [hq] at q; cases q
            | some t =>
              rw [hq] at q
              cases q
              obtain ⟨A, B⟩ := subArgs_ok R ds r (n + 1) t.1 t.2 (pre ++ [a]) (by simp [hp]) hq h2
              have ea : φ.getD k 0 = a := by rw [List.getD_eq_getElem?_getD, ha]; rfl
              have ep : pre ++ phiOf φ (k :: t.2) = (pre ++ [a]) ++ phiOf φ t.2 := by
                unfold phiOf
                rw [List.map_cons, ea, List.append_assoc]
                rfl
              rw [ep]
              refine ⟨.cons ?_ A, fun j hj => ?_⟩
              · unfold Dat
                refine ⟨a, rfl, ?_⟩
                rw [List.append_assoc, List.getElem?_append_right (by omega), hp, Nat.sub_self]
                rfl
              · rcases List.mem_cons.mp hj with z | z
                · rw [z]
                  exact ⟨o, hS, hp', hl⟩
                · exact B j z
          · rw [if_neg hp'] at q
            cases q
        rw [hS] at e
        cases o with
        | frz d' =>
          simp only at e
          by_cases p : d'.pure = true
          · rw [if_pos p] at e
            exact plain d' p ok e
          · rw [if_neg p] at e
            cases e
        | _ => exact live rfl e
    | _ =>
      unfold subArgs at e
      split at e
      · rename_i p
        exact plain _ p h1 e
      · cases e

theorem rel_get (R : Rel K mg Z φ S H) {k : Nat} {o : SO} (h : S[k]? = some o) : ∃ a, φ[k]? = some a ∧ φ.getD k 0 = a := by
  have hl := (List.getElem?_eq_some_iff.mp h).1
  refine ⟨φ[k]'(by rw [R.len]; exact hl), List.getElem?_eq_getElem _, ?_⟩
  rw [List.getD_eq_getElem?_getD, List.getElem?_eq_getElem (by rw [R.len]; exact hl)]
  rfl
/-- the hidden ones of a call -/
def hidOf (Z φ : List Addr) (S : Store) (ks : List Nat) : List Addr := Z ++ (liveA φ S).filter fun a => decide (a ∉ phiOf φ ks)
theorem phiOf_get {ks : List Nat} {j k : Nat} (h : ks[j]? = some k) : (phiOf φ ks)[j]? = some (φ.getD k 0) := by
  unfold phiOf
  rw [List.getElem?_map, h]
  rfl
theorem subOf_get {ks : List Nat} {j k : Nat} {o : SO} (h : ks[j]? = some k) (hS : S[k]? = some o) : (subOf S ks)[j]? = some o := by
  unfold subOf
  rw [List.getElem?_map, h, Option.map_some, List.getD_eq_getElem?_getD, hS]
  rfl
theorem sub_mem (R : Rel K mg Z φ S H) {ks : List Nat} (nd : ks.Nodup) (hk : ∀ k ∈ ks, ∃ o, S[k]? = some o ∧ o.pure = true ∧ o.live = true) (a : Addr) : a ∈ hidOf Z φ S ks ++ liveA (phiOf φ ks) (subOf S ks) ↔ a ∈ Z ++ liveA φ S := by
  have live_of : ∀ b, b ∈ phiOf φ ks → b ∈ liveA φ S ∧ b ∈ liveA (phiOf φ ks) (subOf S ks) := fun b hb => by
    obtain ⟨j, hj⟩ := List.getElem?_of_mem hb
    unfold phiOf at hj
    rw [List.getElem?_map] at hj
    cases hq : ks[j]? with
    | none => rw [hq] at hj; cases hj
    | some k =>
      rw [hq] at hj
      cases hj
      obtain ⟨o, h1, h2, h3⟩ := hk k (List.mem_of_getElem? hq)
      obtain ⟨a, q1, q2⟩ := rel_get R h1
      show φ.getD k 0 ∈ liveA φ S ∧ φ.getD k 0 ∈ liveA (phiOf φ ks) (subOf S ks)
      rw [q2]
      refine ⟨mem_liveA q1 h1 h3, ?_⟩
      have := phiOf_get (φ := φ) hq
      rw [q2] at this
      exact mem_liveA this (subOf_get hq h1) h3
  unfold hidOf
  constructor
  · intro h
    rcases List.mem_append.mp h with z | z
    · rcases List.mem_append.mp z with z | z
      · exact List.mem_append_left _ z
      · exact List.mem_append_right _ (List.mem_filter.mp z).1
    · exact List.mem_append_right _ (live_of a (liveA_sub z)).1
  · intro h
    rcases List.mem_append.mp h with z | z
    · exact List.mem_append_left _ (List.mem_append_left _ z)
    · by_cases q : a ∈ phiOf φ ks
      · exact List.mem_append_right _ (live_of a q).2
      · exact List.mem_append_left _ (List.mem_append_right _ (List.mem_filter.mpr ⟨z, decide_eq_true q⟩))
theorem without_congr {l l' : List Addr} (h : ∀ a, a ∈ l ↔ a ∈ l') : without l H = without l' H := by
  funext a
  unfold without
  by_cases q : a ∈ l
  · rw [if_pos q, if_pos ((h a).mp q)]
  · rw [if_neg q, if_neg fun z => q ((h a).mpr z)]
theorem nodup_map_of {α β : Type} {f : α → β} : ∀ {l : List α}, l.Nodup → (∀ x ∈ l, ∀ y ∈ l, f x = f y → x = y) → (l.map f).Nodup
  | [], _, _ => List.nodup_nil
  | a :: l, nd, h => by
    rw [List.nodup_cons] at nd
    rw [List.map_cons, List.nodup_cons]
    refine ⟨fun q => ?_, nodup_map_of nd.2 fun x hx y hy => h x (List.mem_cons_of_mem _ hx) y (List.mem_cons_of_mem _ hy)⟩
    obtain ⟨b, hb, e⟩ := List.mem_map.mp q
    have := h b (List.mem_cons_of_mem _ hb) a List.mem_cons_self e
    rw [this] at hb
    exact nd.1 hb
theorem sub_rel (R : Rel K mg Z φ S H) {ks : List Nat} (nd : ks.Nodup) (hk : ∀ k ∈ ks, ∃ o, S[k]? = some o ∧ o.pure = true ∧ o.live = true) :
    Rel K mg (hidOf Z φ S ks) (phiOf φ ks) (subOf S ks) H ∧ gnd (hidOf Z φ S ks) (phiOf φ ks) (subOf S ks) H = gnd Z φ S H := by
  have eg : gnd (hidOf Z φ S ks) (phiOf φ ks) (subOf S ks) H = gnd Z φ S H := without_congr (sub_mem R nd hk)
  have at_ : ∀ k ∈ ks, ∃ a, φ[k]? = some a ∧ φ.getD k 0 = a := fun k h => by
    obtain ⟨o, h1, _⟩ := hk k h
    exact rel_get R h1
  refine ⟨⟨by unfold phiOf subOf; rw [List.length_map, List.length_map], ?_, fun a ha => ?_, fun a ha => ?_, fun a ha => ?_, fun n a o h1 h2 => ?_⟩, eg⟩
  · unfold phiOf
    refine nodup_map_of nd fun x hx y hy e => ?_
    obtain ⟨a, q1, q2⟩ := at_ x hx
    obtain ⟨b, q3, q4⟩ := at_ y hy
    rw [q2, q4] at e
    rw [e] at q1
    exact nd_ix R.nd q1 q3
  · unfold hidOf
    intro q
    rcases List.mem_append.mp q with z | z
    · unfold phiOf at ha
      obtain ⟨k, h1, h2⟩ := List.mem_map.mp ha
      obtain ⟨b, q1, q2⟩ := at_ k h1
      rw [q2] at h2
      rw [h2] at q1
      exact R.zd a (List.mem_of_getElem? q1) z
    · exact (of_decide_eq_true (List.mem_filter.mp z).2) ha
  · unfold hidOf at ha
    rcases List.mem_append.mp ha with z | z
    · exact R.zh a z
    · exact R.ph a (liveA_sub (List.mem_filter.mp z).1)
  · unfold phiOf at ha
    obtain ⟨k, h1, h2⟩ := List.mem_map.mp ha
    obtain ⟨b, q1, q2⟩ := at_ k h1
    rw [q2] at h2
    rw [h2] at q1
    exact R.ph a (List.mem_of_getElem? q1)
  · rw [eg]
    unfold phiOf at h1
    unfold subOf at h2
    rw [List.getElem?_map] at h1 h2
    cases hq : ks[n]? with
    | none => rw [hq] at h1; cases h1
    | some k =>
      rw [hq] at h1 h2
      cases h1
      cases h2
      obtain ⟨u, e1, e2, e3⟩ := hk k (List.mem_of_getElem? hq)
      obtain ⟨b, q1, q2⟩ := rel_get R e1
      show SOk K mg (phiOf φ ks) (gnd Z φ S H) H (φ.getD k 0) (S.getD k (.frz .non))
      rw [q2, List.getD_eq_getElem?_getD, e1]
      exact (R.ob k b u q1 e1).pure e2
/-- behind the call -/
theorem sub_back (R : Rel K mg Z φ S H) {ks : List Nat} (nd : ks.Nodup) (hk : ∀ k ∈ ks, ∃ o, S[k]? = some o ∧ o.pure = true ∧ o.live = true) {φ' : List Addr} {Sc : Store} {H' : Hp}
    (R' : Rel K mg (hidOf Z φ S ks) φ' Sc H') (E : Evo (hidOf Z φ S ks) (phiOf φ ks) (subOf S ks) H φ' Sc H') (pu : (Sc.take ks.length).all SO.pure = true) (hl : ks.length ≤ Sc.length) :
    Rel K mg Z φ (putBack S ks Sc) H' ∧ Evo Z φ S H φ (putBack S ks Sc) H' ∧ Same (gnd (hidOf Z φ S ks) φ' Sc H') (gnd Z φ (putBack S ks Sc) H') := by
  obtain ⟨Rc, eg⟩ := sub_rel R nd hk
  have lenP : (phiOf φ ks).length = ks.length := by unfold phiOf; rw [List.length_map]
  have phi' : ∀ j k, ks[j]? = some k → φ'[j]? = some (φ.getD k 0) := fun j k h => pre_get E.pre (phiOf_get h)
  -- what lives in the caller's store behind the call
  have liveB : ∀ a, a ∈ liveA φ (putBack S ks Sc) → a ∈ hidOf Z φ S ks ++ liveA φ' Sc := fun a ha => by
    obtain ⟨n, o, h1, h2, h3⟩ := liveA_mem ha
    by_cases q : n ∈ ks
    · obtain ⟨j, hj⟩ := List.getElem?_of_mem q
      have hjl := (List.getElem?_eq_some_iff.mp hj).1
      have hSc : Sc[j]? = some Sc[j] := List.getElem?_eq_getElem (by omega)
      have hn : n < S.length := by
        have := (List.getElem?_eq_some_iff.mp h2).1
        rw [putBack_length] at this
        exact this
      rw [putBack_in ks S Sc j n _ nd hj hn hSc] at h2
      cases h2
      have := phi' j n hj
      rw [List.getD_eq_getElem?_getD, h1] at this
      exact List.mem_append_right _ (mem_liveA this hSc h3)
    · rw [putBack_out ks S Sc n q] at h2
      refine List.mem_append_left _ ?_
      unfold hidOf
      refine List.mem_append_right _ (List.mem_filter.mpr ⟨mem_liveA h1 h2 h3, decide_eq_true fun z => q ?_⟩)
      unfold phiOf at z
      obtain ⟨k, e1, e2⟩ := List.mem_map.mp z
      obtain ⟨u, e3, _⟩ := hk k e1
      obtain ⟨b, q1, q2⟩ := rel_get R e3
      rw [q2] at e2
      rw [e2] at q1
      have := nd_ix R.nd q1 h1
      rw [← this]
      exact e1
  have sub : Same (gnd (hidOf Z φ S ks) φ' Sc H') (gnd Z φ (putBack S ks Sc) H') := fun a o h => by
    obtain ⟨h1, h2⟩ := without_some.mp h
    refine without_some.mpr ⟨fun q => h1 ?_, h2⟩
    rcases List.mem_append.mp q with z | z
    · exact List.mem_append_left _ (List.mem_append_left _ z)
    · exact liveB a z
  have ext : Same (gnd Z φ S H) (gnd Z φ (putBack S ks Sc) H') := by
    rw [← eg]
    exact E.ext.trans sub
  have out : ∀ a o, H a = some o → a ∉ liveA φ S → H' a = some o := fun a o h n => E.out a o h fun q => n (by
    have := (sub_mem R nd hk a).mp (List.mem_append_right _ q)
    rcases List.mem_append.mp this with z | z
    · exact (Rc.zd a (liveA_sub q) (by unfold hidOf; exact List.mem_append_left _ z)).elim
    · exact z)
  have nn : ∀ a, H a ≠ none → H' a ≠ none := fun a h => by
    by_cases q : a ∈ liveA (phiOf φ ks) (subOf S ks)
    · have := liveA_sub q
      obtain ⟨t, ht⟩ := E.pre
      exact R'.ph a (by rw [← ht]; exact List.mem_append_left _ this)
    · obtain ⟨o, ho⟩ := Option.ne_none_iff_exists'.mp h
      rw [E.out a o ho q]
      exact fun z => nomatch z
  refine ⟨⟨by rw [putBack_length, R.len], R.nd, R.zd, fun a h => nn a (R.zh a h), fun a h => nn a (R.ph a h), fun n a o h1 h2 => ?_⟩,
    ⟨List.prefix_refl _, ext, out, fun a ha hn => ?_⟩, sub⟩
  · by_cases q : n ∈ ks
    · obtain ⟨j, hj⟩ := List.getElem?_of_mem q
      have hjl := (List.getElem?_eq_some_iff.mp hj).1
      have hSc : Sc[j]? = some Sc[j] := List.getElem?_eq_getElem (by omega)
      have hn : n < S.length := by
        have := (List.getElem?_eq_some_iff.mp h2).1
        rw [putBack_length] at this
        exact this
      rw [putBack_in ks S Sc j n _ nd hj hn hSc] at h2
      cases h2
      have hp := phi' j n hj
      rw [List.getD_eq_getElem?_getD, h1] at hp
      have pj : Sc[j].pure = true := List.all_eq_true.mp pu _ (by
        rw [List.mem_iff_getElem?]
        exact ⟨j, by rw [List.getElem?_take_of_lt hjl]; exact hSc⟩)
      exact ((R'.ob j a _ hp hSc).pure (φ' := φ) pj).mono (List.prefix_refl _) sub fun _ z => z
    · rw [putBack_out ks S Sc n q] at h2
      have ok := R.ob n a o h1 h2
      cases hlv : o.live with
      | false =>
        cases o with
        | frz d => exact Dat.mono (List.prefix_refl _) ext _ _ ok
        | _ => cases hlv
      | true =>
        refine ok.mono (List.prefix_refl _) ext fun ob hb => E.out a ob hb fun z => ?_
        have z' := liveA_sub z
        unfold phiOf at z'
        obtain ⟨k, e1, e2⟩ := List.mem_map.mp z'
        obtain ⟨u, e3, _⟩ := hk k e1
        obtain ⟨b, q1, q2⟩ := rel_get R e3
        rw [q2] at e2
        rw [e2] at q1
        have := nd_ix R.nd q1 h1
        rw [← this] at q
        exact q e1
  · rcases List.mem_append.mp (liveB a ha) with z | z
    · unfold hidOf at z
      rcases List.mem_append.mp z with z | z
      · exact absurd z (R.zd a (liveA_sub ha))
      · exact (List.mem_filter.mp z).1
    · have := E.lv a z hn
      have := (sub_mem R nd hk a).mp (List.mem_append_right _ this)
      rcases List.mem_append.mp this with z | z
      · exact absurd z (R.zd a (liveA_sub ha))
      · exact z
end

/-- how a call may be reckoned -/
def CallOk (K : PySem.W.Frag) (mg : Str → Option Value) (n : Nat) (sem cs : Sem') : Prop := ∀ Z φ S H ds vs (Q : VK) (E : XK), vs.length = n → Rel K mg Z φ S H → DatL K mg φ (gnd Z φ S H) ds vs → Want K mg (RDat K mg) Z φ S H (cs ds S) Q E → spD K mg n sem vs H Q E
theorem callOk_share {K : PySem.W.Frag} {mg : Str → Option Value} {n : Nat} {sem : Sem'} : CallOk K mg n sem sem := fun Z φ S H ds vs Q E hl R d w => ⟨hl, Z, φ, S, ds, R, d, w⟩
theorem callOk_sub {K : PySem.W.Frag} {mg : Str → Option Value} {n : Nat} {sem : Sem'} : CallOk K mg n sem (callSub sem) := fun Z φ S H ds vs Q E hl R d w => by
  unfold callSub at w
  cases hs : subArgs S ds 0 with
  | none => rw [hs] at w; exact w.elim
  | some t =>
    obtain ⟨ds', ks⟩ := t
    rw [hs] at w
    simp only at w
    by_cases nd : ks.Nodup
    · rw [if_pos nd] at w
      obtain ⟨d', hk⟩ := subArgs_ok R ds vs 0 ds' ks [] rfl hs d
      rw [List.nil_append] at d'
      obtain ⟨Rc, eg⟩ := sub_rel R nd hk
      refine ⟨hl, hidOf Z φ S ks, phiOf φ ks, subOf S ks, ds', Rc, by rw [eg]; exact d', ?_⟩
      cases hr : sem ds' (subOf S ks) with
      | ok r Sc =>
        rw [hr] at w
        simp only at w
        by_cases c : (r.pure && ((Sc.take ks.length).all SO.pure && decide (ks.length ≤ Sc.length))) = true
        · rw [if_pos c] at w
          simp only [Bool.and_eq_true, decide_eq_true_eq] at c
          intro v φ' H' R' E' dv
          obtain ⟨a, b, s⟩ := sub_back R nd hk R' E' c.2.1 c.2.2
          exact w v φ H' a b (Dat.mono (List.prefix_refl _) s _ _ (Dat.pure c.1 dv))
        · rw [if_neg c] at w
          exact w.elim
      | ex C fs Sc =>
        rw [hr] at w
        simp only at w
        by_cases c : (pureF fs && ((Sc.take ks.length).all SO.pure && decide (ks.length ≤ Sc.length))) = true
        · rw [if_pos c] at w
          simp only [Bool.and_eq_true, decide_eq_true_eq] at c
          intro A dx φ' H' m R' E' x
          obtain ⟨a, b, s⟩ := sub_back R nd hk R' E' c.2.1 c.2.2
          refine w A dx φ H' m a b ?_
          rcases x with x | ⟨x0, e, fvs, x1, x2, x3⟩
          · exact .inl x
          · exact .inr ⟨x0, e, fvs, x1, s _ _ x2, DatF.mono (List.prefix_refl _) s _ _ (DatF.pure c.1 x3)⟩
        · rw [if_neg c] at w
          exact w.elim
      | stuck =>
        rw [hr] at w
        exact w.elim
    · rw [if_neg nd] at w
      exact w.elim
end DL

/-! The data layer, part 7: bindings, calls of defs, methods, classes, attributes, raise, the law's end. -/
namespace DL
open PySem L2

/-! ### how arguments come to parameters -/
def src {α : Type} (a : Nat) (us ws ms : List α) : List α := match a with
  | 0 => us
  | 1 => ws
  | _ => ms
def pick {α : Type} (sel : List (Nat × Nat)) (us ws ms : List α) : List α := sel.filterMap fun s => (src s.1 us ws ms)[s.2]?
theorem pick_vals {vs zs ms : List V} {us ws mv : List Value} (h1 : Vals vs us) (h2 : Vals zs ws) (h3 : Vals ms mv) : ∀ {sel : List (Nat × Nat)}, Vals (pick sel vs zs ms) (pick sel us ws mv)
  | [] => .nil
  | (a, i) :: sel => by
    have r := pick_vals h1 h2 h3 (sel := sel)
    have q : Vals (src a vs zs ms) (src a us ws mv) := by
      unfold src
      split
      · exact h1
      · exact h2
      · exact h3
    unfold pick
    rw [List.filterMap_cons, List.filterMap_cons]
    cases hx : (src a vs zs ms)[i]? with
    | none =>
      rw [q.none_of hx]
      exact r
    | some v =>
      obtain ⟨u, e1, e2⟩ := q.get hx
      rw [e1]
      exact .cons e2 r
theorem pick_dat {K : PySem.W.Frag} {mg : Str → Option Value} {φ : List Addr} {G : Hp} {ds es ms : List D} {vs zs mv : List V} (h1 : DatL K mg φ G ds vs) (h2 : DatL K mg φ G es zs) (h3 : DatL K mg φ G ms mv) : ∀ {sel : List (Nat × Nat)}, DatL K mg φ G (pick sel ds es ms) (pick sel vs zs mv)
  | [] => DatL.nil
  | (a, i) :: sel => by
    have r := pick_dat h1 h2 h3 (sel := sel)
    have q : DatL K mg φ G (src a ds es ms) (src a vs zs mv) := by
      unfold src
      split
      · exact h1
      · exact h2
      · exact h3
    unfold pick
    rw [List.filterMap_cons, List.filterMap_cons]
    cases hx : (src a ds es ms)[i]? with
    | none =>
      have e : (src a vs zs mv)[i]? = none := by
        rw [List.getElem?_eq_none_iff] at hx ⊢
        rw [q.length]
        exact hx
      rw [e]
      exact r
    | some v =>
      obtain ⟨u, e1, e2⟩ := q.get hx
      rw [e1]
      exact .cons e2 r
structure KB (K : PySem.W.Frag) (fd : FuncData) (ps : List Str) (n : Nat) (ks : List Str) (gD : List D → List D → List D) : Prop where
  ex : ∃ (g : List Value → List Value → List Value) (gV : List V → List V → List V), KBn K fd ps n ks g gV ∧
    ∀ (K' : PySem.W.Frag), K' = K → ∀ (mg : Str → Option Value) (φ : List Addr) (G : Hp) (ds es : List D) (vs zs : List V), DatL K' mg φ G ds vs → DatL K' mg φ G es zs → DatL K' mg φ G (gD ds es) (gV vs zs)
section
variable {K : PySem.W.Frag} {x qual : Str} {params : Arguments} {body : List Stmt} {scope : Scope} {kws : List (Str × V)} {f : Addr} {fd : FuncData} {ps : List Str}
/-- no defaults are taken -/
theorem kb_all {dvs : List V} (F : FunD K x qual params body scope dvs kws f fd) (hd : dvs = []) (n : Nat) (ks : List Str) (sel : List (Nat × Nat))
    (h : ∀ (kV doc pm : Value) (an : Option Addr) (cdv ct : Value) (us ws : List Value), us.length = n → ws.length = ks.length → bindArgs (PySem.W.fnOf x qual params body scope .none kV doc pm an cdv ct) ⟨us, ks.zip ws⟩ = pure (ps.zip (pick sel us ws []))) :
    KB K fd ps n ks (fun ds es => pick sel ds es []) := by
  obtain ⟨oc, od, dV, kV, doc, pm, an, cdv, ct, osl, rfl, lk, hcd, hD, hK⟩ := F.ex
  rcases hD with ⟨_, rfl⟩ | ⟨e, _⟩
  · exact ⟨fun us ws => pick sel us ws [], fun vs zs => pick sel vs zs [], ⟨fun s us ws X l1 l2 => .of_eq (h kV doc pm an cdv ct us ws l1 l2), fun r1 r2 => pick_vals r1 r2 .nil⟩, fun K' _ mg φ G ds es vs zs h1 h2 => pick_dat h1 h2 DatL.nil⟩
  · exact absurd hd e
end

/-! ### calls -/
section
variable {X : Cx} {W : WX} {k k' n np : Nat} {f C : Addr} {fd : FuncData} {ps ks : List Str} {sp : Sp} {sem cs : Sem'} {x m : Str} {p pos apos : Pos} {e o : Expr} {es : List Expr} {kws : List Keyword} {fa fk : FA} {fo : FE} {gD : List D → List D → List D}
theorem run_fnG {pins : List (Addr × Obj)} {σ : L2.St} {H : Hp} {s : Shared} {Q : VK} {us ws : List Value} {bs : List Value} {vs : List V} (F : FnG X.prog X.w X.K X.mg X.base k f fd ps sp) (C : Cn X W k') (hk : k ≤ k') (I : L2.Inv X pins σ H s)
    (hb : BindsTo s fd ⟨us, ks.zip ws⟩ (ps.zip bs)) (r : Vals vs bs) (h : sp vs H Q (WE W σ)) : wpAny (model X.prog X.w) X.A (call (.ref f) us (ks.zip ws)) (EP X pins σ Q) X.xe s := by
  refine wpAny_call (codeAny_mono (F.run X.A X.stack s H _ bs vs Q (WE W σ) (C.room.mono hk) C.gd I.env0 hb r h) fun res s' hq => ?_)
  cases res with
  | error e => exact L2N.passAt C.tk σ pins H s e s' I hq
  | ok fl => cases fl with
    | ret u => exact I.after hq
    | _ => exact hq.elim
def fCall (cs : Sem') (gD : List D → List D → List D) (np nk n : Nat) (fa fk : FA) : FE := fun ρ S => (fa ρ S).bind fun ds S => (fk ρ S).bind fun es S => if ds.length = np ∧ es.length = nk ∧ (gD ds es).length = n then cs (gD ds es) S else .stuck
theorem dkw_nil : DKw X W [] (fun _ S => .ok [] S) := .mk pk_nil (fun Z φ S ρ σ H Q R sl w => w.now R DatL.nil)
theorem dkw_cons {nm : Option Str} {kpos : Pos} {fe : FE} {fr : FA} (ha : DE X W e fe) (hr : DKw X W kws fr) : DKw X W (⟨nm, e, kpos⟩ :: kws) (fCons fe fr) := by
  obtain ⟨t, p, q⟩ := ha.ex
  obtain ⟨u, p', q'⟩ := hr.ex
  refine .mk (pk_cons p p') (fun Z φ S ρ σ H Q R sl w => q Z φ S ρ σ H _ R sl (w.bind fun x S1 v φ1 H1 R1 E1 d w1 => ?_))
  exact q' Z φ1 S1 ρ σ H1 _ R1 (sl.evo E1) (w1.bind fun xs S2 vs φ2 H2 R2 E2 d2 w2 => w2.now R2 (.cons (Dat.evo E2 d) d2))
/-- arguments, then keywords, then what follows -/
theorem args_run {ta tk : TA} (qa : IsA X W ta fa) (qk : IsA X W tk fk) {cont : List D → List D → Store → Res D} {Z φ : List Addr} {S : Store} {ρ : EnvD} {σ : L2.St} {H : Hp} {Q : VK} {P : List V → List V → Hp → Prop}
    (R : Rel X.K X.mg Z φ S H) (sl : Slots X.K X.mg φ (gnd Z φ S H) ρ σ) (w : Want X.K X.mg (RDat X.K X.mg) Z φ S H ((fa ρ S).bind fun ds S => (fk ρ S).bind fun es S => cont ds es S) Q (WE W σ))
    (h : ∀ ds es S2 vs zs φ2 H2, Rel X.K X.mg Z φ2 S2 H2 → Evo Z φ S H φ2 S2 H2 → DatL X.K X.mg φ2 (gnd Z φ2 S2 H2) ds vs → DatL X.K X.mg φ2 (gnd Z φ2 S2 H2) es zs → Want X.K X.mg (RDat X.K X.mg) Z φ2 S2 H2 (cont ds es S2) Q (WE W σ) → P vs zs H2) :
    ta σ H fun vs H1 => tk σ H1 fun zs H2 => P vs zs H2 :=
  qa Z φ S ρ σ H _ R sl (w.bind fun ds S1 vs φ1 H1 R1 E1 d1 w1 => qk Z φ1 S1 ρ σ H1 _ R1 (sl.evo E1) (w1.bind fun es S2 zs φ2 H2 R2 E2 d2 w2 => h ds es S2 vs zs φ2 H2 R2 (E1.trans E2) (DatL.evo E2 d1) d2 w2))
theorem want_if {P : Prop} [Decidable P] {α β : Type} {Rr : List Addr → Hp → α → β → Prop} {Z φ : List Addr} {S : Store} {H : Hp} {r : Res α} {Q : β → Hp → Prop} {E : XK} (w : Want X.K X.mg Rr Z φ S H (if P then r else .stuck) Q E) : P ∧ Want X.K X.mg Rr Z φ S H r Q E := by
  by_cases h : P
  · rw [if_pos h] at w
    exact ⟨h, w⟩
  · rw [if_neg h] at w
    exact w.elim
/-- the callee's wish, from the caller's -/
theorem args_sp {gV : List V → List V → List V} (hcs : CallOk X.K X.mg n sem cs) (hN : ∀ (K' : PySem.W.Frag), K' = X.K → ∀ (mg : Str → Option Value) (φ : List Addr) (G : Hp) (ds es : List D) (vs zs : List V), DatL K' mg φ G ds vs → DatL K' mg φ G es zs → DatL K' mg φ G (gD ds es) (gV vs zs))
    {nk : Nat} {Z φ : List Addr} {S : Store} {H : Hp} {ds es : List D} {vs zs : List V} {Q : VK} {E : XK} (R : Rel X.K X.mg Z φ S H) (d1 : DatL X.K X.mg φ (gnd Z φ S H) ds vs) (d2 : DatL X.K X.mg φ (gnd Z φ S H) es zs)
    (w : Want X.K X.mg (RDat X.K X.mg) Z φ S H (if ds.length = np ∧ es.length = nk ∧ (gD ds es).length = n then cs (gD ds es) S else .stuck) Q E) : vs.length = np ∧ zs.length = nk ∧ spD X.K X.mg n sem (gV vs zs) H Q E := by
  obtain ⟨⟨l1, l2, l3⟩, w3⟩ := want_if w
  have d3 := hN _ rfl _ _ _ _ _ _ _ d1 d2
  exact ⟨by rw [d1.length, l1], by rw [d2.length, l2], hcs Z φ S H _ _ Q E (by rw [d3.length, l3]) R d3 w3⟩
theorem de_call (F : FnG X.prog X.w X.K X.mg X.base k f fd ps (spD X.K X.mg ps.length sem)) (hcs : CallOk X.K X.mg ps.length sem cs) (C : Cn X W k') (hg : Gl X x) (hm : X.mg x = some (.ref f)) (hk : PySem.W.keepIn X.K (.ref f) = true) (hb : KB X.K fd ps np ks gD)
    (ha : DA X W (e :: es) fa) (hkw : DKw X W kws fk) (hle : k ≤ k' := by decide) (hall : (backToKw pos (keywordEach kws X.env)).all (·.1.isSome) = true := by rfl) (hks : (backToKw pos (keywordEach kws X.env)).filterMap (·.1) = ks := by rfl)
    (hdb : (x == ("__debug__" : Str)) = false := by decide) (he : starEach (e :: es) X.env = (false, eval e X.env) :: starEach es X.env := by rfl)
    (hpl : ((backTo pos (starEach (e :: es) X.env)).any (·.1) || (backToKw pos (keywordEach kws X.env)).any (·.1.isNone)) = false := by rfl) :
    DE X W (.Call (.Name x p) (e :: es) kws pos) (fCall cs gD np ks.length ps.length fa fk) := by
  obtain ⟨ta, pa, qa⟩ := ha.ex
  obtain ⟨tk, pk, qk⟩ := hkw.ex
  obtain ⟨g, gV, hB, hN⟩ := hb.ex
  refine .mk (t := fun σ H Q => ta σ H fun vs H1 => tk σ H1 fun zs H2 => vs.length = np ∧ zs.length = ks.length ∧ spD X.K X.mg ps.length sem (gV vs zs) H2 Q (WE W σ)) ⟨fun pins s σ H Q I h => ?_⟩
    (fun Z φ S ρ σ H Q R sl w => args_run qa qk R sl w fun ds es' S2 vs zs φ2 H2 R2 E2 d1 d2 w2 => args_sp hcs hN R2 d1 d2 w2)
  refine wpAny_Call_Name_kw (ld_glob I hg hm ?_ hdb)
  refine PySem.W.callWith_KW (h₀ := X.base) I.ok.mod.kin hk hall (thn (pa.run pos pins s σ H _ I h) fun us s1 ⟨vs, H1, I1, r, q⟩ => ?_) hpl he
  refine thn (pk.run pos pins s1 σ H1 _ I1 q) fun ws s2 ⟨zs, H2, I2, rz, l1, l2, q2⟩ => ⟨I2.kIn, ?_⟩
  rw [hks]
  exact run_fnG F C hle I2 (hB.to s2 us ws I2.kIn (r.length.symm.trans l1) (rz.length.symm.trans l2)) (hB.rel r rz) q2
/-! instances -/
def asI (S : Store) : D → Option (Str × List (Str × D))
  | .ins C fs => some (C, fs)
  | .oid n => match S[n]? with
    | some (.ins C fs) => some (C, fs)
    | some (.frz (.ins C fs)) => some (C, fs)
    | _ => none
  | _ => none
theorem asI_ok {K : PySem.W.Frag} {mg : Str → Option Value} {Z φ : List Addr} {S : Store} {H : Hp} (R : Rel K mg Z φ S H) {d : D} {v : V} {c : Str} {fs : List (Str × D)} (h : Dat K mg φ (gnd Z φ S H) d v) (e : asI S d = some (c, fs)) :
    ∃ a A dx fvs, v = .ref a ∧ mg c = some (.ref A) ∧ H a = some (.ins A dx fvs) ∧ DatF K mg φ (gnd Z φ S H) fs fvs := by
  cases d with
  | ins C gs =>
    cases e
    unfold Dat at h
    obtain ⟨a, A, dx, fvs, rfl, h0, h1, h2⟩ := h
    exact ⟨a, A, dx, fvs, rfl, h0, gnd_sub _ _ h1, h2⟩
  | oid n =>
    unfold Dat at h
    obtain ⟨a, rfl, h1⟩ := h
    cases q : S[n]? with
    | none => simp [asI, q] at e
    | some o =>
      simp only [asI, q] at e
      have ok := R.ob n a o h1 q
      cases o with
      | ins C gs =>
        cases e
        obtain ⟨A, dx, fvs, q0, q1, q2⟩ := ok
        exact ⟨a, A, dx, fvs, rfl, q0, q1, q2⟩
      | frz d =>
        cases d with
        | ins C gs =>
          cases e
          have ok' : Dat K mg φ (gnd Z φ S H) (.ins _ _) (.ref a) := ok
          unfold Dat at ok'
          obtain ⟨b, A, dx, fvs, e1, q0, q1, q2⟩ := ok'
          cases e1
          exact ⟨a, A, dx, fvs, rfl, q0, gnd_sub _ _ q1, q2⟩
        | _ => cases e
      | _ => cases e
  | _ => cases e
theorem datF_lookup {K : PySem.W.Frag} {mg : Str → Option Value} {φ : List Addr} {G : Hp} {m : Str} : ∀ {fs : List (Str × D)} {fvs : List (Str × V)}, DatF K mg φ G fs fvs → (∀ d, fs.lookup m = some d → ∃ v, fvs.lookup m = some v ∧ Dat K mg φ G d v) ∧ (fs.lookup m = none → fvs.lookup m = none)
  | [], _, h => by
    unfold DatF at h
    subst h
    exact ⟨fun d q => (by cases q), fun _ => rfl⟩
  | (k, d) :: fs, _, h => by
    unfold DatF at h
    obtain ⟨v, r, rfl, h1, h2⟩ := h
    obtain ⟨a, b⟩ := datF_lookup (m := m) h2
    rw [List.lookup_cons, List.lookup_cons]
    cases (m == k) with
    | true => exact ⟨fun e q => by cases q; exact ⟨v, rfl, h1⟩, fun q => by cases q⟩
    | false => exact ⟨a, b⟩
/-- what the text has of a class -/
structure ClsI (X : Cx) (c : Str) (C : Addr) : Prop where
  mg : X.mg c = some (.ref C)
  cls : Cls X.K C
/-- o.m(e, .., k = v, ..) -/
def fMeth (cs : Sem') (gD : List D → List D → List D) (c m : Str) (np nk n : Nat) (fo : FE) (fa fk : FA) : FE := fun ρ S => (fo ρ S).bind fun o S => match asI S o with
  | some (c', fs) => if c' = c ∧ (fs.lookup m).isNone then (fa ρ S).bind fun ds S => (fk ρ S).bind fun es S => if (o :: ds).length = np ∧ es.length = nk ∧ (gD (o :: ds) es).length = n then cs (gD (o :: ds) es) S else .stuck else .stuck
  | none => .stuck
theorem meth_at {c : Str} {Z φ : List Addr} {S : Store} {H : Hp} {od : D} {ov : V} {α : Type} {r : Res α} {β : Type} {Rr : List Addr → Hp → α → β → Prop} {Q : β → Hp → Prop} {E : XK} (cl : ClsI X c C) (R : Rel X.K X.mg Z φ S H) (d : Dat X.K X.mg φ (gnd Z φ S H) od ov)
    (w : Want X.K X.mg Rr Z φ S H (match asI S od with | some (c', fs) => if c' = c ∧ (fs.lookup m).isNone then r else .stuck | none => .stuck) Q E) :
    ∃ a dx fvs, ov = .ref a ∧ H a = some (.ins C dx fvs) ∧ fvs.lookup m = none ∧ Want X.K X.mg Rr Z φ S H r Q E := by
  cases hi : asI S od with
  | none => rw [hi] at w; exact w.elim
  | some t =>
    obtain ⟨c', fs⟩ := t
    rw [hi] at w
    obtain ⟨⟨rfl, hl⟩, w1⟩ := want_if w
    obtain ⟨a, A, dx, fvs, rfl, q0, q1, q2⟩ := asI_ok R d hi
    rw [cl.mg] at q0
    cases q0
    exact ⟨a, dx, fvs, rfl, q1, (datF_lookup q2).2 (Option.isNone_iff_eq_none.mp hl), w1⟩
theorem de_meth0 {pl : Sem Bool} {c : Str} (ho : DE X W o fo) (cl : ClsI X c C) (hm : Meth X.K C m f) (F : FnG X.prog X.w X.K X.mg X.base k f fd ps (spD X.K X.mg ps.length sem)) (hcs : CallOk X.K X.mg ps.length sem cs) (Cc : Cn X W k') (hb : KB X.K fd ps 1 ks gD)
    (hkw : DKw X W kws fk) (hle : k ≤ k' := by decide) (hall : (backToKw pos (keywordEach kws X.env)).all (·.1.isSome) = true := by rfl) (hks : (backToKw pos (keywordEach kws X.env)).filterMap (·.1) = ks := by rfl)
    (hpl : ((backTo pos (starEach [] X.env)).any (·.1) || (backToKw pos (keywordEach kws X.env)).any (·.1.isNone)) = false := by rfl)
    (ht : eval (.Call (.Attribute o m apos) [] kws pos) X.env = (do
      let ov ← eval o X.env
      standAt apos.atName
      let (f, first) ← holding [ov] (getMethod ov m pl)
      callWith pos f first (backTo pos (starEach [] X.env)) (backToKw pos (keywordEach kws X.env))) := by rfl) :
    DE X W (.Call (.Attribute o m apos) [] kws pos) (fMeth cs gD c m 1 ks.length ps.length fo (fun _ S => .ok [] S) fk) := by
  obtain ⟨to, po, qo⟩ := ho.ex
  obtain ⟨tk, pk, qk⟩ := hkw.ex
  obtain ⟨g, gV, hB, hN⟩ := hb.ex
  refine .mk (t := fun σ H Q => to σ H fun ov H0 => ∃ a dx fvs, ov = .ref a ∧ H0 a = some (.ins C dx fvs) ∧ fvs.lookup m = none ∧ tk σ H0 fun zs H2 => zs.length = ks.length ∧ spD X.K X.mg ps.length sem (gV [.ref a] zs) H2 Q (WE W σ)) ⟨fun pins s σ H Q I h => ?_⟩
    (fun Z φ S ρ σ H Q R sl w => qo Z φ S ρ σ H _ R sl (w.bind fun od S1 ov φ1 H1 R1 E1 d w1 => ?_))
  · refine PySem.W.methodCall_KW (pl := pl) (thn (po.run pins s σ H _ I h) fun u s1 ⟨x, H1, I1, rx, a, dx, fvs, ex, ea, l, q⟩ => ?_) ht
    subst ex
    obtain rfl : u = Value.ref a := rx
    refine getmeth_ok I1 ea cl.cls hm l ?_
    refine PySem.W.callWith_KW0 (first := [.ref a]) (h₀ := X.base) I.ok.mod.kin hm.kp hall ?_ hpl
    refine thn (pk.run pos pins s1 σ H1 _ I1 q) fun ws s3 ⟨zs, H3, I3, rz, l2, q3⟩ => ⟨I3.kIn, ?_⟩
    have r1 : Vals [V.ref a] [Value.ref a] := .cons rfl .nil
    rw [hks]
    exact run_fnG (us := [.ref a]) F Cc hle I3 (hB.to s3 _ ws I3.kIn rfl (rz.length.symm.trans l2)) (hB.rel r1 rz) q3
  · obtain ⟨a, dx, fvs, rfl, h1, h2, w2⟩ := meth_at cl R1 d w1
    refine ⟨a, dx, fvs, rfl, h1, h2, qk Z φ1 S1 ρ σ H1 _ R1 (sl.evo E1) (Want.bind (k := fun es S => if [od].length = 1 ∧ es.length = ks.length ∧ (gD [od] es).length = ps.length then cs (gD [od] es) S else .stuck) w2 fun es S2 zs φ2 H2 R2 E2 d2 w3 => ?_)⟩
    exact (args_sp hcs hN R2 (.cons (Dat.evo E2 d) DatL.nil) d2 w3).2
/-- o.f -/
def fFld (cs : List Str) (f : Str) (fo : FE) : FE := fun ρ S => (fo ρ S).bind fun o S => match asI S o with
  | some (c, fs) => if c ∈ cs then (match fs.lookup f with
    | some d => .ok d S
    | none => .stuck) else .stuck
  | none => .stuck
theorem de_fld {fn : Str} {cs : List Str} (ho : DE X W o fo) (hc : ∀ c ∈ cs, ∃ C, ClsI X c C ∧ NoAttr X.K C fn) (hb : attributeBase o fn X.env (eval o X.env) = eval o X.env := by rfl) : DE X W (.Attribute o fn pos) (fFld cs fn fo) := by
  obtain ⟨to, po, qo⟩ := ho.ex
  refine .mk (pe_fld po hb) (fun Z φ S ρ σ H Q R sl w => qo Z φ S ρ σ H _ R sl (w.bind fun od S1 ov φ1 H1 R1 E1 d w1 => ?_))
  cases hi : asI S1 od with
  | none => rw [hi] at w1; exact w1.elim
  | some t =>
    obtain ⟨c, fs⟩ := t
    rw [hi] at w1
    obtain ⟨hm, w2⟩ := want_if w1
    obtain ⟨a, A, dx, fvs, rfl, q0, q1, q2⟩ := asI_ok R1 d hi
    obtain ⟨C, cl, na⟩ := hc c hm
    rw [cl.mg] at q0
    cases q0
    cases hl : fs.lookup fn with
    | none => rw [hl] at w2; exact w2.elim
    | some e =>
      rw [hl] at w2
      obtain ⟨v, h1, h2⟩ := (datF_lookup q2).1 e hl
      exact ⟨a, A, dx, fvs, v, rfl, q1, cl.cls, na, h1, w2.now R1 h2⟩
/-- o.f = e -/
def putFD (f : Str) (d : D) : List (Str × D) → List (Str × D)
  | [] => [(f, d)]
  | (g, e) :: r => if g = f then (g, d) :: r else (g, e) :: putFD f d r
theorem datF_length {K : PySem.W.Frag} {mg : Str → Option Value} {φ : List Addr} {G : Hp} : ∀ {fs : List (Str × D)} {fvs : List (Str × V)}, DatF K mg φ G fs fvs → fvs.length = fs.length
  | [], _, h => by
    unfold DatF at h
    subst h
    rfl
  | (k, d) :: fs, _, h => by
    unfold DatF at h
    obtain ⟨v, r, rfl, _, h2⟩ := h
    rw [List.length_cons, List.length_cons, datF_length h2]
theorem datF_put {K : PySem.W.Frag} {mg : Str → Option Value} {φ : List Addr} {G : Hp} {f : Str} {d : D} {v : V} (hd : Dat K mg φ G d v) : ∀ {fs : List (Str × D)} {fvs : List (Str × V)}, DatF K mg φ G fs fvs → DatF K mg φ G (putFD f d fs) (putF f v fvs)
  | [], _, h => by
    unfold DatF at h
    subst h
    show DatF K mg φ G [(f, d)] [(f, v)]
    unfold DatF
    exact ⟨v, [], rfl, hd, by unfold DatF; rfl⟩
  | (g, e) :: fs, _, h => by
    unfold DatF at h
    obtain ⟨u, r, rfl, h1, h2⟩ := h
    have eq : putF f v ((g, u) :: r) = if g = f then (g, v) :: r else (g, u) :: putF f v r := by rw [putF]
    rw [eq]
    unfold putFD
    by_cases hg : g = f
    · rw [if_pos hg, if_pos hg]
      unfold DatF
      exact ⟨v, r, rfl, hd, h2⟩
    · rw [if_neg hg, if_neg hg]
      unfold DatF
      exact ⟨u, _, rfl, h1, datF_put hd h2⟩
def gFld (cs : List Str) (f : Str) (fo fe : FE) : FS := fun ρ S => (fe ρ S).into ρ fun d S => (fo ρ S).into ρ fun o S => match o with
  | .oid n => (match S[n]? with
    | some (.ins c fs) => if c ∈ cs ∧ fs.length < 1000 then .nx ρ (S.set n (.ins c (putFD f d fs))) else .stuck
    | _ => .stuck)
  | _ => .stuck
theorem wantS_if {P : Prop} [Decidable P] {Z φ : List Addr} {S : Store} {H : Hp} {r : Out} {Dd : Ends} (w : WantS X W Z φ S H (if P then r else .stuck) Dd) : P ∧ WantS X W Z φ S H r Dd := by
  by_cases h : P
  · rw [if_pos h] at w
    exact ⟨h, w⟩
  · rw [if_neg h] at w
    exact w.elim
theorem ds_fld {fn : Str} {cs : List Str} {value : Expr} {fe : FE} {pos' : Pos} (ho : DE X W o fo) (hv : DE X W value fe) (hc : ∀ c ∈ cs, ∃ C, ClsI X c C ∧ NoAttr X.K C fn) (hs : swapsWith value (some (.Attribute o fn pos')) pos.line X.env = pure false := by rfl) :
    DS X W (.Assign [.Attribute o fn pos'] value pos) (gFld cs fn fo fe) := by
  obtain ⟨to, po, qo⟩ := ho.ex
  obtain ⟨tv, pv, qv⟩ := hv.ex
  refine .mk (ps_fld po pv hs) fun Z φ S ρ σ H Dd R sl w => qv Z φ S ρ σ H _ R sl (w.into sl fun d S1 v φ1 H1 R1 E1 dd w1 => qo Z φ1 S1 ρ σ H1 _ R1 (sl.evo E1) (w1.into (sl.evo E1) fun od S2 ov φ2 H2 R2 E2 d2 w2 => ?_))
  cases od with
  | oid n =>
    simp only at w2
    unfold RDat Dat at d2
    obtain ⟨a, rfl, ha⟩ := d2
    cases hS : S2[n]? with
    | none => rw [hS] at w2; exact w2.elim
    | some so =>
      rw [hS] at w2
      cases so with
      | ins c fs =>
        obtain ⟨⟨hm, hlt⟩, w3⟩ := wantS_if w2
        obtain ⟨A, dx, fvs, q0, q1, q2⟩ := R2.ob n a _ ha hS
        obtain ⟨C, cl, na⟩ := hc c hm
        rw [cl.mg] at q0
        cases q0
        refine ⟨a, A, dx, fvs, rfl, q1, cl.cls, na, by rw [datF_length q2]; exact hlt, ?_⟩
        obtain ⟨R3, E3⟩ := R2.mutate (u := .ins c (putFD fn d fs)) (ho := .ins A dx (putF fn v fvs)) ha hS rfl rfl ⟨A, dx, _, cl.mg, upd_same, datF_put (Dat.evo E2 dd) q2⟩
        exact w3 σ φ2 _ R3 E3 (((sl.evo E1).evo E2).evo E3)
      | _ => exact w2.elim
  | _ => exact w2.elim
end
end DL

/-! The data layer, part 8: classes made, raise, what is frozen, dicts, lists. -/
namespace DL
open PySem L2

section
variable {X : Cx} {W : WX} {k k' n np : Nat} {f C : Addr} {fd : FuncData} {ps ks : List Str} {sp : Sp} {sem cs : Sem'} {x m : Str} {p pos apos : Pos} {e o : Expr} {es : List Expr} {kws : List Keyword} {fa fk : FA} {fo fe : FE} {gD : List D → List D → List D}
theorem guards_make {A : Around} (h : A.guards = some []) (C : Addr) (us : List Value) (kw : List (Str × Value)) : (A.under (.builtin "type.__call__" ⟨.ref C :: us, kw⟩)).guards = some [] := by
  have e : (Code.builtin "type.__call__" ⟨.ref C :: us, kw⟩).guards = [] := rfl
  show pushGuards (Code.builtin "type.__call__" ⟨.ref C :: us, kw⟩).guards A.guards = some []
  rw [e]
  exact h
theorem run_makeG {pins : List (Addr × Obj)} {σ : L2.St} {H : Hp} {s : Shared} {Q : VK} {us ws : List Value} {vs zs : List V} {g : List Value → List Value → List Value} {gV : List V → List V → List V} (M : Mk X.K C f) (F : FnG X.prog X.w X.K X.mg X.base k f fd ps sp) (Cc : Cn X W k') (hk : k + 1 ≤ k')
    (hb : KBn X.K fd ps (np + 1) ks g gV) (I : L2.Inv X pins σ H s) (r : Vals vs us) (rz : Vals zs ws) (l1 : vs.length = np) (l2 : zs.length = ks.length)
    (h : ∀ x dx, H x = none → H dx = none → dx ≠ x → sp (gV (.ref x :: vs) zs) (upd (upd H dx (.own x)) x (.ins C dx [])) (fun v H2 => v = .non ∧ Q (.ref x) H2) (WE W σ)) :
    wpAny (model X.prog X.w) X.A (call (.ref C) us (ks.zip ws)) (EP X pins σ Q) X.xe s := by
  have hq := h (s.heap.objs.size + 1) s.heap.objs.size (I.hok.fresh (Nat.le_succ _)) (I.hok.fresh (Nat.le_refl _)) (Nat.ne_of_lt (Nat.lt_succ_self _))
  have J := Inv.made (C := C) I
  have r1 : Vals (V.ref (s.heap.objs.size + 1) :: vs) (Value.ref (s.heap.objs.size + 1) :: us) := .cons rfl r
  have rr := hb.rel r1 rz
  have ln : (Value.ref (s.heap.objs.size + 1) :: us).length = np + 1 := by rw [List.length_cons, ← r.length, l1]
  refine wpAny_call (make_map (f := f) I.kIn M.makes M.init (beq_iff_eq.mp M.fn) (codeAny_mono
    (F.run _ X.stack _ _ _ _ _ _ (WE W σ) ((Cc.room.mono hk).make C us (ks.zip ws)) (guards_make Cc.gd C us (ks.zip ws)) (J.env0.make C us (ks.zip ws)) (hb.to _ _ ws J.kIn ln (rz.length.symm.trans l2)) rr hq) fun res s' hq' => ?_))
  cases res with
  | error e => exact L2N.passAt Cc.tk σ pins _ _ e s' J hq'
  | ok fl => cases fl with
    | ret u =>
      obtain ⟨v, H', I3, rv, ev, q3⟩ := J.after hq'
      subst ev
      exact ⟨rv, V.ref (s.heap.objs.size + 1), H', I3, rfl, q3⟩
    | _ => exact hq'.elim
/-- a new instance, kept as data -/
def makeF (sem : Sem') (gD : List D → List D → List D) (c : Str) (n : Nat) (ds es : List D) (S : Store) : Res D :=
  if pureL ds && pureL es && decide ((gD (.oid 0 :: ds) es).length = n) then (match sem (gD (.oid 0 :: ds) es) [.ins c []] with
    | .ok .non (.ins c' fs :: _) => if pureF fs then .ok (.ins c' fs) S else .stuck
    | .ex C fs _ => if pureF fs then .ex C fs S else .stuck
    | _ => .stuck) else .stuck
abbrev MakeT := List D → List D → Store → Res D
def MakeOk (X : Cx) (c : Str) (n : Nat) (sem : Sem') (gD : List D → List D → List D) (mk : MakeT) : Prop := ∀ (C : Addr) (gV : List V → List V → List V) Z φ S H ds es vs zs (Q : VK) (E : XK), X.mg c = some (.ref C) →
  (∀ (K' : PySem.W.Frag), K' = X.K → ∀ (mg : Str → Option Value) (φ : List Addr) (G : Hp) (ds es : List D) (vs zs : List V), DatL K' mg φ G ds vs → DatL K' mg φ G es zs → DatL K' mg φ G (gD ds es) (gV vs zs)) → Rel X.K X.mg Z φ S H →
  DatL X.K X.mg φ (gnd Z φ S H) ds vs → DatL X.K X.mg φ (gnd Z φ S H) es zs → Want X.K X.mg (RDat X.K X.mg) Z φ S H (mk ds es S) Q E →
  ∀ x dx, H x = none → H dx = none → dx ≠ x → spD X.K X.mg n sem (gV (.ref x :: vs) zs) (upd (upd H dx (.own x)) x (.ins C dx [])) (fun v H2 => v = .non ∧ Q (.ref x) H2) E
theorem made_same {H : Hp} {x dx C : Addr} (hx : H x = none) (hd : H dx = none) : Same H (upd (upd H dx (.own x)) x (.ins C dx [])) := fun a o h => by
  rw [upd_ne (ne_of_none h hx), upd_ne (ne_of_none h hd)]
  exact h
theorem makeF_ok {c : Str} : MakeOk X c n sem gD (makeF sem gD c n) := fun C gV Z φ S H ds es vs zs Q E hm hN R d1 d2 w x dx hx hd hne => by
  unfold makeF at w
  obtain ⟨hp, w1⟩ := want_if w
  simp only [Bool.and_eq_true, decide_eq_true_eq] at hp
  have sm := made_same (C := C) hx hd
  have R0 : Rel X.K X.mg (Z ++ liveA φ S) [] [] H := ⟨rfl, List.nodup_nil, fun a h => by simp at h, fun a h => (List.mem_append.mp h).elim (R.zh a) fun z => R.ph a (liveA_sub z), fun a h => by simp at h, fun m a o h => by simp at h⟩
  have g0 : gnd (Z ++ liveA φ S) [] [] H = gnd Z φ S H := without_congr fun a => by simp [liveA]
  obtain ⟨R1, E1⟩ := R0.newOid (so := .ins c []) sm hx (by rw [upd_same]; exact fun z => nomatch z) rfl ⟨C, dx, [], hm, upd_same, by unfold DatF; rfl⟩
  have dx1 : Dat X.K X.mg [x] (gnd (Z ++ liveA φ S) [x] [.ins c []] (upd (upd H dx (.own x)) x (.ins C dx []))) (.oid 0) (.ref x) := by
    unfold Dat
    exact ⟨x, rfl, rfl⟩
  have tr : ∀ {ds : List D} {vs : List V}, pureL ds = true → DatL X.K X.mg φ (gnd Z φ S H) ds vs → DatL X.K X.mg [x] (gnd (Z ++ liveA φ S) [x] [.ins c []] (upd (upd H dx (.own x)) x (.ins C dx []))) ds vs := fun p q => by
    rw [← g0] at q
    exact DatL.evo E1 (q.pure (φ' := []) p)
  have dd := hN X.K rfl X.mg _ _ _ _ _ _ (.cons dx1 (tr hp.1.1 d1)) (tr hp.1.2 d2)
  have back : ∀ {φ' : List Addr} {Sc : Store} {H' : Hp}, Evo (Z ++ liveA φ S) [x] [.ins c []] (upd (upd H dx (.own x)) x (.ins C dx [])) φ' Sc H' → Rel X.K X.mg Z φ S H' ∧ Evo Z φ S H φ S H' ∧ Same (gnd (Z ++ liveA φ S) φ' Sc H') (gnd Z φ S H') := fun {φ' Sc H'} E' => by
    have s2 : Same H H' := fun a o h => E'.out a o (sm a o h) fun q => by
      have := liveA_sub q
      rw [List.mem_singleton.mp this, hx] at h
      cases h
    obtain ⟨a, b⟩ := R.same s2
    refine ⟨a, b, fun y o h => ?_⟩
    obtain ⟨h1, h2⟩ := without_some.mp h
    exact without_some.mpr ⟨fun q => h1 (List.mem_append_left _ q), h2⟩
  refine ⟨by rw [dd.length, hp.2], Z ++ liveA φ S, [x], [.ins c []], _, R1, dd, ?_⟩
  cases hr : sem (gD (.oid 0 :: ds) es) [.ins c []] with
  | ok d S' =>
    rw [hr] at w1
    cases d with
    | non =>
      cases S' with
      | nil => exact w1.elim
      | cons o S' =>
        cases o with
        | ins c' fs =>
          simp only at w1
          obtain ⟨pf, w2⟩ := want_if w1
          intro v φ' H' R' E' dv
          obtain ⟨a, b, s⟩ := back E'
          unfold RDat Dat at dv
          have h0 : φ'[0]? = some x := pre_get E'.pre rfl
          obtain ⟨A, dx', fvs, q0, q1, q2⟩ := R'.ob 0 x _ h0 rfl
          refine ⟨dv, w2 _ φ H' a b ?_⟩
          unfold RDat Dat
          exact ⟨x, A, dx', fvs, rfl, q0, without_some.mpr ⟨R.out_gnd hx, q1⟩, DatF.mono (List.prefix_refl _) s _ _ (DatF.pure pf q2)⟩
        | _ => exact w1.elim
    | _ => exact w1.elim
  | ex C' fs S' =>
    rw [hr] at w1
    simp only at w1
    obtain ⟨pf, w2⟩ := want_if w1
    intro A dx' φ' H' m R' E' z
    obtain ⟨a, b, s⟩ := back E'
    refine w2 A dx' φ H' m a b ?_
    rcases z with z | ⟨x0, e, fvs, x1, x2, x3⟩
    · exact .inl z
    · exact .inr ⟨x0, e, fvs, x1, s _ _ x2, DatF.mono (List.prefix_refl _) s _ _ (DatF.pure pf x3)⟩
  | stuck =>
    rw [hr] at w1
    exact w1.elim
def fMake (mk : MakeT) (np nk : Nat) (fa fk : FA) : FE := fun ρ S => (fa ρ S).bind fun ds S => (fk ρ S).bind fun es S => if ds.length = np ∧ es.length = nk then mk ds es S else .stuck
theorem de_make {c : Str} {mk : MakeT} (M : Mk X.K C f) (F : FnG X.prog X.w X.K X.mg X.base k f fd ps (spD X.K X.mg ps.length sem)) (hmk : MakeOk X c ps.length sem gD mk) (Cc : Cn X W k') (hg : Gl X c) (hm : X.mg c = some (.ref C)) (hb : KB X.K fd ps (np + 1) ks gD)
    (ha : DA X W (e :: es) fa) (hkw : DKw X W kws fk) (hle : k + 1 ≤ k' := by decide) (hall : (backToKw pos (keywordEach kws X.env)).all (·.1.isSome) = true := by rfl) (hks : (backToKw pos (keywordEach kws X.env)).filterMap (·.1) = ks := by rfl)
    (hdb : (c == ("__debug__" : Str)) = false := by decide) (he : starEach (e :: es) X.env = (false, eval e X.env) :: starEach es X.env := by rfl)
    (hpl : ((backTo pos (starEach (e :: es) X.env)).any (·.1) || (backToKw pos (keywordEach kws X.env)).any (·.1.isNone)) = false := by rfl) :
    DE X W (.Call (.Name c p) (e :: es) kws pos) (fMake mk np ks.length fa fk) := by
  obtain ⟨ta, pa, qa⟩ := ha.ex
  obtain ⟨tk, pk, qk⟩ := hkw.ex
  obtain ⟨g, gV, hB, hN⟩ := hb.ex
  refine .mk (t := fun σ H Q => ta σ H fun vs H1 => tk σ H1 fun zs H2 => vs.length = np ∧ zs.length = ks.length ∧ ∀ x dx, H2 x = none → H2 dx = none → dx ≠ x → spD X.K X.mg ps.length sem (gV (.ref x :: vs) zs) (upd (upd H2 dx (.own x)) x (.ins C dx [])) (fun v H2 => v = .non ∧ Q (.ref x) H2) (WE W σ)) ⟨fun pins s σ H Q I h => ?_⟩
    (fun Z φ S ρ σ H Q R sl w => args_run qa qk R sl w fun ds es' S2 vs zs φ2 H2 R2 E2 d1 d2 w2 => ?_)
  · refine wpAny_Call_Name_kw (ld_glob I hg hm ?_ hdb)
    refine PySem.W.callWith_KW (h₀ := X.base) I.ok.mod.kin M.kp hall (thn (pa.run pos pins s σ H _ I h) fun us s1 ⟨vs, H1, I1, r, q⟩ => ?_) hpl he
    refine thn (pk.run pos pins s1 σ H1 _ I1 q) fun ws s2 ⟨zs, H2, I2, rz, l1, l2, q2⟩ => ⟨I2.kIn, ?_⟩
    rw [hks]
    exact run_makeG M F Cc hle hB I2 r rz l1 l2 q2
  · obtain ⟨⟨l1, l2⟩, w3⟩ := want_if w2
    exact ⟨by rw [d1.length, l1], by rw [d2.length, l2], fun x dx hx hd hne => hmk C gV Z φ2 S2 H2 ds es' vs zs Q _ hm hN R2 d1 d2 w3 x dx hx hd hne⟩

/-! ### freezing -/
def fFrz (f : FE) : FE := fun ρ S => (f ρ S).bind fun d S => match d with
  | .oid n => (match S[n]? with
    | some (.lst ds) => .ok (.lst ds) (S.set n (.frz (.lst ds)))
    | some (.dic ks) => .ok (.dic ks) (S.set n (.frz (.dic ks)))
    | some (.ins c fs) => .ok (.ins c fs) (S.set n (.frz (.ins c fs)))
    | some (.frz d) => .ok d S
    | some (.tbl _ _) => .stuck
    | some (.dkt _) => .stuck
    | none => .stuck)
  | d => .ok d S
theorem de_frz (h : DE X W e fe) : DE X W e (fFrz fe) := by
  obtain ⟨t, p, q⟩ := h.ex
  refine .mk p (fun Z φ S ρ σ H Q R sl w => q Z φ S ρ σ H _ R sl (w.bind fun d S1 v φ1 H1 R1 E1 dd w1 => ?_))
  cases d with
  | oid n =>
    simp only at w1
    have dd0 := dd
    unfold RDat Dat at dd
    obtain ⟨a, rfl, ha⟩ := dd
    cases hS : S1[n]? with
    | none => rw [hS] at w1; exact w1.elim
    | some so =>
      rw [hS] at w1
      have ok := R1.ob n a so ha hS
      cases so with
      | lst ds =>
        obtain ⟨vs, h1, h2⟩ := ok
        have dn : Dat X.K X.mg φ1 (gnd Z φ1 (S1.set n (.frz (.lst ds))) H1) (.lst ds) (.ref a) := by
          unfold Dat
          exact ⟨a, vs, rfl, gnd_frz R1 ha h1, DatL.mono (List.prefix_refl _) evo_frz _ _ h2⟩
        obtain ⟨R2, E2⟩ := R1.freeze ha dn
        exact w1 _ φ1 H1 R2 E2 dn
      | dic ds =>
        obtain ⟨vs, h1, h2⟩ := ok
        have dn : Dat X.K X.mg φ1 (gnd Z φ1 (S1.set n (.frz (.dic ds))) H1) (.dic ds) (.ref a) := by
          unfold Dat
          exact ⟨a, vs, rfl, gnd_frz R1 ha h1, DatK.mono (List.prefix_refl _) evo_frz _ _ h2⟩
        obtain ⟨R2, E2⟩ := R1.freeze ha dn
        exact w1 _ φ1 H1 R2 E2 dn
      | ins c fs =>
        obtain ⟨A, dx, fvs, h0, h1, h2⟩ := ok
        have dn : Dat X.K X.mg φ1 (gnd Z φ1 (S1.set n (.frz (.ins c fs))) H1) (.ins c fs) (.ref a) := by
          unfold Dat
          exact ⟨a, A, dx, fvs, rfl, h0, gnd_frz R1 ha h1, DatF.mono (List.prefix_refl _) evo_frz _ _ h2⟩
        obtain ⟨R2, E2⟩ := R1.freeze ha dn
        exact w1 _ φ1 H1 R2 E2 dn
      | frz d => exact w1.now R1 ok
      | tbl _ _ => exact w1.elim
      | dkt _ => exact w1.elim
  | _ => exact w1.now R1 dd

/-! ### raise -/
/-- raise X('..'): an own class without an own __init__ -/
theorem ds_raise {bmB : List Value} {B newId initId : String} {msg : Str} {j : Nat} {p2 : Pos} (Cc : Cn X W k) (F : ExcBaseFacts B newId initId bmB) (q : PySem.W.excIn X.K C bmB newId = true) (gC : X.mg x = some (.ref C)) (kC : PySem.W.keepIn X.K (.ref C) = true) (r : Raises X (.ref C)) (hg : Gl X x)
    (hdb : (x == ("__debug__" : Str)) = false := by decide) : DS X W (.Raise (some (.Call (.Name x p) [.Constant (.str msg) j p2] [] apos)) none pos) (fun ρ S => .ex x [] ρ S) :=
  .mk (L2N.ps_raise Cc.calm Cc.tk (L2N.pmk_own F q gC kC r hg hdb)) fun Z φ S ρ σ H Dd R sl w => w C none σ φ H gC R Evo.refl sl (.inl ⟨rfl, rfl⟩)
end
end DL

/-! The data layer, part 9: operators on data, items, stores, built-ins. -/
namespace DL
open PySem L2

section
variable {X : Cx} {W : WX} {k : Nat} {a b c e : Expr} {es : List Expr} {fa fb fc fe : FE} {pos : Pos}
/-! tracked lists -/
def asLt (S : Store) : D → Option (List D)
  | .lst ds => some ds
  | .oid n => match S[n]? with
    | some (.lst ds) => some ds
    | some (.frz (.lst ds)) => some ds
    | _ => none
  | _ => none
theorem asLt_ok {K : PySem.W.Frag} {mg : Str → Option Value} {Z φ : List Addr} {S : Store} {H : Hp} (R : Rel K mg Z φ S H) {d : D} {v : V} {ds : List D} (h : Dat K mg φ (gnd Z φ S H) d v) (e : asLt S d = some ds) : ∃ a vs, v = .ref a ∧ H a = some (.lst vs) ∧ DatL K mg φ (gnd Z φ S H) ds vs := by
  cases d with
  | lst es =>
    cases e
    unfold Dat at h
    obtain ⟨a, vs, rfl, h1, h2⟩ := h
    exact ⟨a, vs, rfl, gnd_sub _ _ h1, h2⟩
  | oid n =>
    unfold Dat at h
    obtain ⟨a, rfl, h1⟩ := h
    cases q : S[n]? with
    | none => simp [asLt, q] at e
    | some o =>
      simp only [asLt, q] at e
      have ok := R.ob n a o h1 q
      cases o with
      | lst es =>
        cases e
        obtain ⟨vs, q1, q2⟩ := ok
        exact ⟨a, vs, rfl, q1, q2⟩
      | frz d =>
        cases d with
        | lst es =>
          cases e
          have ok' : Dat K mg φ (gnd Z φ S H) (.lst _) (.ref a) := ok
          unfold Dat at ok'
          obtain ⟨b, vs, e1, q1, q2⟩ := ok'
          cases e1
          exact ⟨a, vs, rfl, gnd_sub _ _ q1, q2⟩
        | _ => cases e
      | _ => cases e
  | _ => cases e
def D.tupOf : D → Option (List D)
  | .tup ds => some ds
  | _ => none
theorem tupOf_ok {K : PySem.W.Frag} {mg : Str → Option Value} {Z φ : List Addr} {S : Store} {H : Hp} {d : D} {v : V} {ds : List D} (h : Dat K mg φ (gnd Z φ S H) d v) (e : d.tupOf = some ds) : ∃ a vs, v = .ref a ∧ SqT K H a vs ∧ DatL K mg φ (gnd Z φ S H) ds vs := by
  cases d with
  | tup es =>
    cases e
    unfold Dat at h
    obtain ⟨a, vs, rfl, h1, h2⟩ := h
    exact ⟨a, vs, rfl, sqt_mono gnd_sub h1, h2⟩
  | _ => cases e

/-! ### + -/
def gAddI : G2 := gI (fun _ _ => true) fun i j => .int (i + j)
def gAddS : G2 := fun x y S => match x, y with
  | .str s, .str t => if short (s.length + t.length) then .ok (.str (s ++ t)) S else .stuck
  | _, _ => .stuck
def gAddT : G2 := fun x y S => match x, y with
  | .tup xs, .tup ys => if !xs.isEmpty && short (xs.length + ys.length) then .ok (.tup (xs ++ ys)) S else .stuck
  | _, _ => .stuck
def gAddL : G2 := fun x y S => match asLt S x, asLt S y with
  | some xs, some ys => if short (xs.length + ys.length) then .ok (.lst (xs ++ ys)) S else .stuck
  | _, _ => .stuck
def isI (x _ : D) (_ : Store) : Bool := match x with
  | .int _ => true
  | _ => false
def isS (x _ : D) (_ : Store) : Bool := match x with
  | .str _ => true
  | _ => false
def isT (x _ : D) (_ : Store) : Bool := match x with
  | .tup _ => true
  | _ => false
def gAdd : G2 := fun x y S => if isI x y S then gAddI x y S else if isS x y S then gAddS x y S else if isT x y S then gAddT x y S else gAddL x y S
theorem opd_addS : OpD X (fun x y H Q => ∃ i j, x = .str i ∧ y = .str j ∧ i.length + j.length ≤ sizeLine ∧ Q (.str (i ++ j)) H) gAddS := fun Z φ S H x y u v Q E R dx dy w => by
  unfold gAddS at w
  split at w
  · cases dStr dx
    cases dStr dy
    obtain ⟨h, w1⟩ := want_if w
    exact ⟨_, _, rfl, rfl, of_decide_eq_true h, w1.now R (dat_str _)⟩
  · exact w.elim
theorem opd_addT : OpD X (rCatT X.K) gAddT := fun Z φ S H x y u v Q E R dx dy w => by
  unfold gAddT at w
  split at w
  · rename_i xs ys
    obtain ⟨h, w1⟩ := want_if w
    simp only [Bool.and_eq_true, Bool.not_eq_true'] at h
    obtain ⟨p, vs, rfl, h1, h2⟩ := tupOf_ok dx rfl
    obtain ⟨q, us, rfl, h3, h4⟩ := tupOf_ok dy rfl
    refine ⟨p, q, vs, us, rfl, rfl, h1, h3, fun z => ?_, by rw [h2.length, h4.length]; exact of_decide_eq_true h.2, ?_⟩
    · rw [z] at h2
      have := h2.length
      cases xs with
      | nil => cases h.1
      | cons _ _ => cases this
    · by_cases hu : us = []
      · subst hu
        have hy : ys = [] := List.length_eq_zero_iff.mp (h4.length.symm)
        subst hy
        refine ⟨fun _ => ?_, fun z => absurd rfl z⟩
        rw [List.append_nil] at w1
        exact w1.now R dx
      · refine ⟨fun z => absurd z hu, fun _ t ht => ?_⟩
        obtain ⟨r, e, g⟩ := dat_newT R (h2.append h4) ht
        exact w1 _ _ _ r e g
  · exact w.elim
theorem opd_addL : OpD X rCat gAddL := fun Z φ S H x y u v Q E R dx dy w => by
  unfold gAddL at w
  split at w
  · rename_i xs ys e1 e2
    obtain ⟨h, w1⟩ := want_if w
    obtain ⟨p, vs, rfl, h1, h2⟩ := asLt_ok R dx e1
    obtain ⟨q, us, rfl, h3, h4⟩ := asLt_ok R dy e2
    refine ⟨p, q, vs, us, rfl, rfl, h1, h3, by rw [h2.length, h4.length]; exact of_decide_eq_true h, fun t ht => ?_⟩
    obtain ⟨r, e, g⟩ := dat_newL R (h2.append h4) ht
    exact w1 _ _ _ r e g
  · exact w.elim
theorem de_add (ha : DE X W a fa) (hb : DE X W b fb) : DE X W (.BinOp a .Add b pos) (fBin gAdd fa fb) :=
  de_bin (op_add.or (op_add_str.or (op_catT.or op_cat))) (OpD.or isI (opd_I0 fun _ _ _ _ => dat_int _) (OpD.or isS opd_addS (OpD.or isT opd_addT opd_addL))) ha hb

/-! ### == -/
mutual
def toPy : D → Option PyData
  | .non => some .none
  | .bl b => some (.bool b)
  | .int i => some (.int i)
  | .str x => some (.str x)
  | .tup ds => (toPyL ds).map .tuple
  | .lst ds => (toPyL ds).map .list
  | .scr ds => (toPyL ds).map .list
  | _ => none
def toPyL : List D → Option (List PyData)
  | [] => some []
  | d :: ds => (toPy d).bind fun p => (toPyL ds).map fun ps => p :: ps
end
mutual
theorem toPy_ok {K : PySem.W.Frag} {mg : Str → Option Value} {φ : List Addr} {G H : Hp} (e : Same G H) : ∀ (d : D) (v : V) (p : PyData), Dat K mg φ G d v → toPy d = some p → Dp K H v p
  | .non, v, p, h, q => by
    unfold toPy at q
    unfold Dat at h
    cases q
    subst h
    exact .non
  | .bl b, v, p, h, q => by
    unfold toPy at q
    unfold Dat at h
    cases q
    subst h
    exact .bl b
  | .int b, v, p, h, q => by
    unfold toPy at q
    unfold Dat at h
    cases q
    subst h
    exact .int b
  | .str b, v, p, h, q => by
    unfold toPy at q
    unfold Dat at h
    cases q
    subst h
    exact .str b
  | .ty n, v, p, h, q => by unfold toPy at q; cases q
  | .oid n, v, p, h, q => by unfold toPy at q; cases q
  | .dic n, v, p, h, q => by unfold toPy at q; cases q
  | .ins n m, v, p, h, q => by unfold toPy at q; cases q
  | .tup ds, v, p, h, q => by
    unfold toPy at q
    unfold Dat at h
    obtain ⟨a, vs, rfl, h1, h2⟩ := h
    cases r : toPyL ds with
    | none => rw [r] at q; cases q
    | some ps =>
      rw [r] at q
      cases q
      exact .tup (sqt_mono e h1) (toPyL_ok e ds vs ps h2 r)
  | .lst ds, v, p, h, q => by
    unfold toPy at q
    unfold Dat at h
    obtain ⟨a, vs, rfl, h1, h2⟩ := h
    cases r : toPyL ds with
    | none => rw [r] at q; cases q
    | some ps =>
      rw [r] at q
      cases q
      exact .lst (.of (e _ _ h1)) (toPyL_ok e ds vs ps h2 r)
  | .scr ds, v, p, h, q => by
    unfold toPy at q
    unfold Dat at h
    obtain ⟨a, vs, rfl, h1, h2⟩ := h
    cases r : toPyL ds with
    | none => rw [r] at q; cases q
    | some ps =>
      rw [r] at q
      cases q
      exact .lst (Same.seq e h1) (toPyL_ok e ds vs ps h2 r)
theorem toPyL_ok {K : PySem.W.Frag} {mg : Str → Option Value} {φ : List Addr} {G H : Hp} (e : Same G H) : ∀ (ds : List D) (vs : List V) (ps : List PyData), DatL K mg φ G ds vs → toPyL ds = some ps → DpAll K H vs ps
  | [], vs, ps, h, q => by
    unfold toPyL at q
    unfold DatL at h
    cases q
    subst h
    exact .nil
  | d :: ds, vs, ps, h, q => by
    unfold toPyL at q
    unfold DatL at h
    obtain ⟨v, r, rfl, h1, h2⟩ := h
    obtain ⟨p, q1, q2⟩ := Option.bind_eq_some_iff.mp q
    cases rr : toPyL ds with
    | none => rw [rr] at q2; cases q2
    | some ps' =>
      rw [rr] at q2
      cases q2
      exact .cons (toPy_ok e d v p h1 q1) (toPyL_ok e ds r ps' h2 rr)
end
/-- as data, a list of the store by its items -/
def pyOf (S : Store) (d : D) : Option PyData := match d with
  | .oid n => (match asL S (.oid n) with
    | some ds => (toPyL ds).map .list
    | none => match S[n]? with
      | some (.frz d) => toPy d
      | _ => none)
  | d => toPy d
theorem pyOf_ok {Z φ : List Addr} {S : Store} {H : Hp} (R : Rel X.K X.mg Z φ S H) {d : D} {v : V} {p : PyData} (h : Dat X.K X.mg φ (gnd Z φ S H) d v) (q : pyOf S d = some p) : Dp X.K H v p := by
  unfold pyOf at q
  split at q
  · rename_i n
    cases hl : asL S (.oid n) with
    | some ds =>
      rw [hl] at q
      obtain ⟨a, vs, rfl, h1, h2⟩ := asL_ok R h hl
      cases r : toPyL ds with
      | none => simp [r] at q
      | some ps =>
        simp only [r, Option.map_some, Option.some.injEq] at q
        subst q
        exact .lst h1 (toPyL_ok gnd_sub ds vs ps h2 r)
    | none =>
      rw [hl] at q
      simp only at q
      split at q
      · rename_i d hd
        unfold Dat at h
        obtain ⟨a, rfl, ha⟩ := h
        exact toPy_ok gnd_sub d _ p (R.ob n a _ ha hd) q
      · cases q
  · exact toPy_ok gnd_sub d v p h q
def scalD : D → D → Bool
  | .non, .non => true | .non, .int _ => true | .int _, .non => true | .non, .bl _ => true | .bl _, .non => true | .non, .str _ => true | .str _, .non => true
  | .int _, .int _ => true | .bl _, .bl _ => true | .str _, .str _ => true
  | .int _, .str _ => true | .str _, .int _ => true | .bl _, .str _ => true | .str _, .bl _ => true
  | _, _ => false
def eqS : D → D → Bool
  | .non, .non => true
  | .int i, .int j => decide (i = j)
  | .bl i, .bl j => decide (i = j)
  | .str i, .str j => decide (i = j)
  | _, _ => false
def gEqS (neg : Bool) : G2 := fun x y S => if scalD x y then .ok (.bl (if neg then !eqS x y else eqS x y)) S else .stuck
def gEqD (neg : Bool) : G2 := fun x y S => match pyOf S x, pyOf S y with
  | some p, some q => if SeqAt.shaped p && SeqAt.shaped q then .ok (.bl (if neg then !PyData.eqv p q else PyData.eqv p q)) S else .stuck
  | _, _ => .stuck
theorem eqS_ok {φ : List Addr} {G : Hp} {x y : D} {u v : V} (h : scalD x y = true) (dx : Dat X.K X.mg φ G x u) (dy : Dat X.K X.mg φ G y v) : scal u v = true ∧ decide (u = v) = eqS x y := by
  cases x <;> cases y <;> first
    | (cases h; done)
    | (unfold Dat at dx dy; subst dx; subst dy; refine ⟨rfl, ?_⟩; simp [eqS])
theorem opd_eqS : OpD X rEq (gEqS false) := fun Z φ S H x y u v Q E R dx dy w => by
  obtain ⟨h, w1⟩ := want_if w
  obtain ⟨a, b⟩ := eqS_ok h dx dy
  refine ⟨a, ?_⟩
  rw [b]
  exact w1.now R (dat_bl _)
theorem opd_neS : OpD X rNe (gEqS true) := fun Z φ S H x y u v Q E R dx dy w => by
  obtain ⟨h, w1⟩ := want_if w
  obtain ⟨a, b⟩ := eqS_ok h dx dy
  refine ⟨a, ?_⟩
  rw [b]
  exact w1.now R (dat_bl _)
theorem opd_eqD : OpD X (rEqD X.K) (gEqD false) := fun Z φ S H x y u v Q E R dx dy w => by
  unfold gEqD at w
  split at w
  · rename_i p q e1 e2
    obtain ⟨h, w1⟩ := want_if w
    rw [Bool.and_eq_true] at h
    exact ⟨p, q, pyOf_ok R dx e1, pyOf_ok R dy e2, h.1, h.2, w1.now R (dat_bl _)⟩
  · exact w.elim
theorem opd_neD : OpD X (rNeD X.K) (gEqD true) := fun Z φ S H x y u v Q E R dx dy w => by
  unfold gEqD at w
  split at w
  · rename_i p q e1 e2
    obtain ⟨h, w1⟩ := want_if w
    rw [Bool.and_eq_true] at h
    exact ⟨p, q, pyOf_ok R dx e1, pyOf_ok R dy e2, h.1, h.2, w1.now R (dat_bl _)⟩
  · exact w.elim
def pScal (x y : D) (_ : Store) : Bool := scalD x y
def gEq : G2 := fun x y S => if pScal x y S then gEqS false x y S else gEqD false x y S
def gNe : G2 := fun x y S => if pScal x y S then gEqS true x y S else gEqD true x y S
theorem Cn.u64 (C : Cn X W k) : X.A.units + 64 < cLine := C.room.units
theorem Cn.u1 (C : Cn X W k) : X.A.units + 1 < cLine := Nat.lt_of_le_of_lt (by omega) C.u64
theorem opr_eq (C : Cn X W k) : OpR X (compareOp .Eq) (fun x y H Q => rEq x y H Q ∨ rEqD X.K x y H Q) := op_eq.or (op_eqD C.u64)
theorem opr_ne (C : Cn X W k) : OpR X (compareOp .NotEq) (fun x y H Q => rNe x y H Q ∨ rNeD X.K x y H Q) := op_ne.or (op_neD C.u64)
theorem opd_eq : OpD X (fun x y H Q => rEq x y H Q ∨ rEqD X.K x y H Q) gEq := OpD.or pScal opd_eqS opd_eqD
theorem opd_ne : OpD X (fun x y H Q => rNe x y H Q ∨ rNeD X.K x y H Q) gNe := OpD.or pScal opd_neS opd_neD

/-! ### in -/
def D.flat : D → Bool
  | .non => true
  | .bl _ => true
  | .int _ => true
  | .str _ => true
  | _ => false
def eqF : D → D → Bool
  | .non, .non => true
  | .bl a, .bl b => a == b
  | .bl a, .int b => (if a then 1 else 0) == b
  | .int a, .bl b => a == (if b then 1 else 0)
  | .int a, .int b => a == b
  | .str a, .str b => a == b
  | _, _ => false
theorem flat_V {φ : List Addr} {G : Hp} {d : D} {v : V} (h : Dat X.K X.mg φ G d v) (f : d.flat = true) : flatV v = true := by
  cases d <;> first
    | (cases f; done)
    | (unfold Dat at h; subst h; rfl)
theorem eqF_V {φ : List Addr} {G : Hp} {x y : D} {u v : V} (dx : Dat X.K X.mg φ G x u) (dy : Dat X.K X.mg φ G y v) (fx : x.flat = true) (fy : y.flat = true) : eqV u v = eqF x y := by
  cases x <;> cases y <;> first
    | (cases fx; done)
    | (cases fy; done)
    | (unfold Dat at dx dy; subst dx; subst dy; rfl)
theorem all_flat {φ : List Addr} {G : Hp} : ∀ {ds : List D} {vs : List V}, DatL X.K X.mg φ G ds vs → ds.all D.flat = true → vs.all flatV = true
  | [], _, h, _ => by
    unfold DatL at h
    subst h
    rfl
  | d :: ds, _, h, f => by
    obtain ⟨v, r, rfl, h1, h2⟩ := h.uncons
    rw [List.all_cons, Bool.and_eq_true] at f ⊢
    exact ⟨flat_V h1 f.1, all_flat h2 f.2⟩
def inF (x : D) (ds : List D) : Bool := ds.any fun y => eqF y x
theorem inF_V {φ : List Addr} {G : Hp} {x : D} {u : V} (dx : Dat X.K X.mg φ G x u) (fx : x.flat = true) : ∀ {ds : List D} {vs : List V}, DatL X.K X.mg φ G ds vs → ds.all D.flat = true → inV u vs = inF x ds
  | [], _, h, _ => by
    unfold DatL at h
    subst h
    rfl
  | d :: ds, _, h, f => by
    obtain ⟨v, r, rfl, h1, h2⟩ := h.uncons
    rw [List.all_cons, Bool.and_eq_true] at f
    have q := inF_V dx fx h2 f.2
    unfold inV inF at q ⊢
    rw [List.any_cons, List.any_cons, q, eqF_V h1 dx f.1 fx]
def gInQ (neg : Bool) : G2 := fun x y S => match asQ S y with
  | some ds => if x.flat && ds.all D.flat then .ok (.bl (if neg then !inF x ds else inF x ds)) S else .stuck
  | none => .stuck
theorem opd_inQ {neg : Bool} : OpD X (rIn X.K neg) (gInQ neg) := fun Z φ S H x y u v Q E R dx dy w => by
  unfold gInQ at w
  split at w
  · rename_i ds e1
    obtain ⟨h, w1⟩ := want_if w
    rw [Bool.and_eq_true] at h
    obtain ⟨p, vs, rfl, h1, h2⟩ := asQ_ok R dy e1
    refine ⟨p, vs, rfl, h1, flat_V dx h.1, all_flat h2 h.2, ?_⟩
    rw [inF_V dx h.1 h2 h.2]
    exact w1.now R (dat_bl _)
  · exact w.elim
/-! dicts -/
def asD (S : Store) : D → Option (List (Key × D))
  | .dic ks => some ks
  | .oid n => match S[n]? with
    | some (.dic ks) => some ks
    | some (.frz (.dic ks)) => some ks
    | _ => none
  | _ => none
theorem asD_ok {K : PySem.W.Frag} {mg : Str → Option Value} {Z φ : List Addr} {S : Store} {H : Hp} (R : Rel K mg Z φ S H) {d : D} {v : V} {ks : List (Key × D)} (h : Dat K mg φ (gnd Z φ S H) d v) (e : asD S d = some ks) : ∃ a kvs, v = .ref a ∧ H a = some (.dK kvs) ∧ DatK K mg φ (gnd Z φ S H) ks kvs := by
  cases d with
  | dic es =>
    cases e
    unfold Dat at h
    obtain ⟨a, vs, rfl, h1, h2⟩ := h
    exact ⟨a, vs, rfl, gnd_sub _ _ h1, h2⟩
  | oid n =>
    unfold Dat at h
    obtain ⟨a, rfl, h1⟩ := h
    cases q : S[n]? with
    | none => simp [asD, q] at e
    | some o =>
      simp only [asD, q] at e
      have ok := R.ob n a o h1 q
      cases o with
      | dic es =>
        cases e
        obtain ⟨vs, q1, q2⟩ := ok
        exact ⟨a, vs, rfl, q1, q2⟩
      | frz d =>
        cases d with
        | dic es =>
          cases e
          have ok' : Dat K mg φ (gnd Z φ S H) (.dic _) (.ref a) := ok
          unfold Dat at ok'
          obtain ⟨b, vs, e1, q1, q2⟩ := ok'
          cases e1
          exact ⟨a, vs, rfl, gnd_sub _ _ q1, q2⟩
        | _ => cases e
      | _ => cases e
  | _ => cases e
def keyD : D → Option Key
  | .int i => some (.inl i)
  | .str x => some (.inr x)
  | _ => none
theorem keyD_ok {φ : List Addr} {G : Hp} {d : D} {v : V} {k : Key} (h : Dat X.K X.mg φ G d v) (e : keyD d = some k) : v = kV k := by
  cases d with
  | int i => cases e; exact dInt h
  | str i => cases e; exact dStr h
  | _ => cases e
theorem valD_ok {K : PySem.W.Frag} {mg : Str → Option Value} {φ : List Addr} {G : Hp} {k : Key} : ∀ {ks : List (Key × D)} {kvs : List (Key × V)}, DatK K mg φ G ks kvs → (∀ d, valD ks k = some d → ∃ v, valV kvs k = some v ∧ Dat K mg φ G d v) ∧ (valD ks k = none → valV kvs k = none)
  | [], _, h => by
    unfold DatK at h
    subst h
    exact ⟨fun d q => (by cases q), fun _ => rfl⟩
  | (j, d) :: ks, _, h => by
    unfold DatK at h
    obtain ⟨v, r, rfl, h1, h2⟩ := h
    obtain ⟨A, B⟩ := valD_ok (k := k) h2
    unfold valD valV at A B ⊢
    rw [List.find?_cons, List.find?_cons]
    by_cases hj : j = k
    · simp only [hj, decide_true]
      exact ⟨fun e q => (by cases q; exact ⟨v, rfl, h1⟩), fun q => (by cases q)⟩
    · simp only [hj, decide_false]
      exact ⟨A, B⟩
theorem valD_some {K : PySem.W.Frag} {mg : Str → Option Value} {φ : List Addr} {G : Hp} {k : Key} {ks : List (Key × D)} {kvs : List (Key × V)} (h : DatK K mg φ G ks kvs) : (valV kvs k).isSome = (valD ks k).isSome := by
  obtain ⟨A, B⟩ := valD_ok (k := k) h
  cases q : valD ks k with
  | none => rw [B q]; rfl
  | some d =>
    obtain ⟨v, e, _⟩ := A d q
    rw [e]
    rfl
def rInD : R2 := fun y x H Q => ∃ a o, x = .ref a ∧ DGet H a y o ∧ Q (.bl o.isSome) H
def rNotInD : R2 := fun y x H Q => ∃ a o, x = .ref a ∧ DGet H a y o ∧ Q (.bl (!o.isSome)) H
theorem opr_inD (C : Cn X W k) : OpR X (compareOp .In) rInD := fun pins s σ H x y v u Q I rx ry h => by
  obtain ⟨p, o, rfl, g, q⟩ := h
  cases (show u = Value.ref p from ry)
  exact d_in C.u1 I g rx fun s' I' => ⟨.bl o.isSome, H, I', rfl, q⟩
theorem opr_notInD (C : Cn X W k) : OpR X (compareOp .NotIn) rNotInD := fun pins s σ H x y v u Q I rx ry h => by
  obtain ⟨p, o, rfl, g, q⟩ := h
  cases (show u = Value.ref p from ry)
  exact d_notIn C.u1 I g rx fun s' I' => ⟨.bl (!o.isSome), H, I', rfl, q⟩
def gInD (neg : Bool) : G2 := fun x y S => match asD S y, keyD x with
  | some ks, some j => .ok (.bl (if neg then !(valD ks j).isSome else (valD ks j).isSome)) S
  | _, _ => .stuck
theorem opd_inD : OpD X rInD (gInD false) := fun Z φ S H x y u v Q E R dx dy w => by
  unfold gInD at w
  split at w
  · rename_i ks j e1 e2
    obtain ⟨p, kvs, rfl, h1, h2⟩ := asD_ok R dy e1
    refine ⟨p, valV kvs j, rfl, .inl ⟨kvs, j, .inl h1, keyD_ok dx e2, rfl⟩, ?_⟩
    rw [valD_some h2]
    exact w.now R (dat_bl _)
  · exact w.elim
theorem opd_notInD : OpD X rNotInD (gInD true) := fun Z φ S H x y u v Q E R dx dy w => by
  unfold gInD at w
  split at w
  · rename_i ks j e1 e2
    obtain ⟨p, kvs, rfl, h1, h2⟩ := asD_ok R dy e1
    refine ⟨p, valV kvs j, rfl, .inl ⟨kvs, j, .inl h1, keyD_ok dx e2, rfl⟩, ?_⟩
    rw [valD_some h2]
    exact w.now R (dat_bl _)
  · exact w.elim
def pDic (_ y : D) (S : Store) : Bool := (asD S y).isSome
def gIn : G2 := fun x y S => if pDic x y S then gInD false x y S else gInQ false x y S
def gNotIn : G2 := fun x y S => if pDic x y S then gInD true x y S else gInQ true x y S
theorem opr_in (C : Cn X W k) : OpR X (compareOp .In) (fun x y H Q => rInD x y H Q ∨ rIn X.K false x y H Q) := (opr_inD C).or op_in_seq
theorem opr_notIn (C : Cn X W k) : OpR X (compareOp .NotIn) (fun x y H Q => rNotInD x y H Q ∨ rIn X.K true x y H Q) := (opr_notInD C).or op_notIn_seq
theorem opd_in : OpD X (fun x y H Q => rInD x y H Q ∨ rIn X.K false x y H Q) gIn := OpD.or pDic opd_inD opd_inQ
theorem opd_notIn : OpD X (fun x y H Q => rNotInD x y H Q ∨ rIn X.K true x y H Q) gNotIn := OpD.or pDic opd_notInD opd_inQ

/-! ### items -/
def gIxQ : G2 := fun x y S => match asQ S x, y with
  | some ds, .int i => (match atI ds i with
    | some d => .ok d S
    | none => .stuck)
  | _, _ => .stuck
theorem atI_dat {φ : List Addr} {G : Hp} {ds : List D} {vs : List V} (h : DatL X.K X.mg φ G ds vs) {i : Int} {d : D} (e : atI ds i = some d) : ∃ v, atI vs i = some v ∧ Dat X.K X.mg φ G d v := by
  unfold atI at e ⊢
  rw [h.length]
  obtain ⟨j, h1, h2⟩ := Option.bind_eq_some_iff.mp e
  obtain ⟨v, h3, h4⟩ := h.get h2
  exact ⟨v, by rw [h1, Option.bind_some, h3], h4⟩
theorem opd_ixQ : OpD X (fun x y H Q => rIxL X.K x y H Q ∨ rIxT X.K x y H Q) gIxQ := fun Z φ S H x y u v Q E R dx dy w => by
  unfold gIxQ at w
  split at w
  · rename_i ds i e1
    cases dInt dy
    obtain ⟨p, vs, rfl, h1, h2⟩ := asQ_ok R dx e1
    cases q : atI ds i with
    | none => rw [q] at w; exact w.elim
    | some d =>
      rw [q] at w
      obtain ⟨z, h3, h4⟩ := atI_dat h2 q
      rcases h1 with h1 | h1
      · exact .inl ⟨p, vs, i, z, rfl, rfl, h1, h3, w.now R h4⟩
      · exact .inr ⟨p, vs, i, z, rfl, rfl, h1, h3, w.now R h4⟩
  · exact w.elim
def rIxD : R2 := fun x y H Q => ∃ a v, x = .ref a ∧ DGet H a y (some v) ∧ Q v H
theorem ix_dict (C : Cn X W k) : IxR X rIxD := fun value slice pins s σ H x y v u Q I rx ry h hs => by
  obtain ⟨p, z, rfl, g, q⟩ := h
  cases (show v = Value.ref p from rx)
  exact PyProof.Rows.tail_any (dict_typeIs I g) PySem.F.slot_dict_getitem.lookup (d_getItem C.u1 I g ry fun w' s3 I3 rw' => ⟨z, H, I3, rw', q⟩) hs
def gIxD : G2 := fun x y S => match asD S x, keyD y with
  | some ks, some j => (match valD ks j with
    | some d => .ok d S
    | none => .stuck)
  | _, _ => .stuck
theorem opd_ixD : OpD X rIxD gIxD := fun Z φ S H x y u v Q E R dx dy w => by
  unfold gIxD at w
  split at w
  · rename_i ks j e1 e2
    obtain ⟨p, kvs, rfl, h1, h2⟩ := asD_ok R dx e1
    cases q : valD ks j with
    | none => rw [q] at w; exact w.elim
    | some d =>
      rw [q] at w
      obtain ⟨z, h3, h4⟩ := (valD_ok h2).1 d q
      exact ⟨p, z, rfl, .inl ⟨kvs, j, .inl h1, keyD_ok dy e2, h3.symm⟩, w.now R h4⟩
  · exact w.elim
def gIxS : G2 := fun x y S => match x, y with
  | .str z, .int i => if short z.length then (match atI z.cps.toList i with
    | some c => .ok (.str ⟨#[c]⟩) S
    | none => .stuck) else .stuck
  | _, _ => .stuck
theorem opd_ixS : OpD X rIxS gIxS := fun Z φ S H x y u v Q E R dx dy w => by
  unfold gIxS at w
  split at w
  · rename_i z i
    cases dInt dy
    cases dStr dx
    obtain ⟨h, w1⟩ := want_if w
    cases q : atI z.cps.toList i with
    | none => rw [q] at w1; exact w1.elim
    | some c =>
      rw [q] at w1
      exact ⟨z, i, c, rfl, rfl, of_decide_eq_true h, q, w1.now R (dat_str _)⟩
  · exact w.elim
def pDic1 (x _ : D) (S : Store) : Bool := (asD S x).isSome
def gIx : G2 := fun x y S => if pDic1 x y S then gIxD x y S else if isS x y S then gIxS x y S else gIxQ x y S
theorem de_sub1 (C : Cn X W k) (ha : DE X W a fa) (hb : DE X W b fb) (hs : PlainIx b := by intro _ _; rfl) : DE X W (.Subscript a b pos) (fBin gIx fa fb) :=
  de_ix ((ix_dict C).or (ix_str.or (ix_list.or ix_tup))) (OpD.or pDic1 opd_ixD (OpD.or isS opd_ixS opd_ixQ)) ha hb hs
end
end DL

/-! The data layer, part 10: chains of comparisons, calls of built-in functions. -/
namespace DL
open PySem L2

section
variable {X : Cx} {W : WX} {k : Nat} {a b c e : Expr} {es : List Expr} {fa fb fc fe : FE} {pos p : Pos}
/-! ### chains -/
theorem chain_ok {ta tb tc : TE} {r r' : R2} {g g' : G2} (hg : OpD X r g) (hg' : OpD X r' g') (qa : IsE X W ta fa) (qb : IsE X W tb fb) (qc : IsE X W tc fc) : IsE X W (tChain r r' ta tb tc) (fChain g g' fa fb fc) := fun Z φ S ρ σ H Q R sl w =>
  qa Z φ S ρ σ H _ R sl (w.bind fun x S1 u φ1 H1 R1 E1 d1 w1 => qb Z φ1 S1 ρ σ H1 _ R1 (sl.evo E1) (w1.bind fun y S2 v φ2 H2 R2 E2 d2 w2 =>
    hg Z φ2 S2 H2 x y u v _ _ R2 (Dat.evo E2 d1) d2 (w2.bind fun z S3 t φ3 H3 R3 E3 d3 w3 => by
      cases z with
      | bl k =>
        unfold RDat Dat at d3
        refine ⟨k, d3, ?_⟩
        cases k with
        | true => exact iteT (qc Z φ3 S3 ρ σ H3 _ R3 (((sl.evo E1).evo E2).evo E3) (w3.bind fun s S4 q φ4 H4 R4 E4 d4 w4 => hg' Z φ4 S4 H4 y s v q _ _ R4 (Dat.evo E4 (Dat.evo E3 d2)) d4 w4))
        | false => exact iteF (w3.now R3 (dat_bl _))
      | _ => exact w3.elim)))
theorem de_chain {op op' : CmpOp} {r r' : R2} {g g' : G2} (ho : OpR X (compareOp op) r) (ho' : OpR X (compareOp op') r') (hg : OpD X r g) (hg' : OpD X r' g') (ha : DE X W a fa) (hb : DE X W b fb) (hc : DE X W c fc)
    (hm : lastMarks [op, op'] [b, c] = false := by with_unfolding_all rfl) : DE X W (.Compare a [op, op'] [b, c] pos) (fChain g g' fa fb fc) := by
  obtain ⟨ta, pa, qa⟩ := ha.ex
  obtain ⟨tb, pb, qb⟩ := hb.ex
  obtain ⟨tc, pc, qc⟩ := hc.ex
  exact .mk (pe_chain ho ho' pa pb pc hm) (chain_ok hg hg' qa qb qc)
/-! ### calls of what is built in -/
abbrev GC := List D → Store → Res D
def CallD (X : Cx) (r : List V → Hp → VK → Prop) (g : GC) : Prop := ∀ (Z φ : List Addr) (S : Store) (H : Hp) (ds : List D) (vs : List V) (Q : VK) (E : XK), Rel X.K X.mg Z φ S H → DatL X.K X.mg φ (gnd Z φ S H) ds vs → Want X.K X.mg (RDat X.K X.mg) Z φ S H (g ds S) Q E → r vs H Q
def fCB (g : GC) (fa : FA) : FE := fun ρ S => (fa ρ S).bind g
theorem isE_cb {r : List V → Hp → VK → Prop} {g : GC} {t : TA} {fa : FA} (hg : CallD X r g) (q : IsA X W t fa) : IsE X W (tCB r t) (fCB g fa) := fun Z φ S ρ σ H Q R sl w =>
  q Z φ S ρ σ H _ R sl (w.bind fun ds S1 vs φ1 H1 R1 E1 d w1 => hg Z φ1 S1 H1 ds vs Q _ R1 d w1)
theorem de_callB {x : Str} {id : String} {r : List V → Hp → VK → Prop} {g : GC} {fa : FA} (hc : CallR X (.builtin id) r) (hd : CallD X r g) (hg : Gl X x) (hm : X.mg x = none) (hv : bootBuiltins x = some (.builtin id)) (ha : DA X W (e :: es) fa) (hn : x ≠ "__name__" := by decide) (hdb : (x == ("__debug__" : Str)) = false := by decide)
    (he : starEach (e :: es) X.env = (false, eval e X.env) :: starEach es X.env := by rfl) (hpl : (backTo pos (starEach es X.env)).any (·.1) = false := by rfl) : DE X W (.Call (.Name x p) (e :: es) [] pos) (fCB g fa) := by
  obtain ⟨t, p, q⟩ := ha.ex
  exact .mk (pe_callB hc hg hm hv p hn hdb he hpl) (isE_cb hd q)
theorem de_callTy {x : Str} {id : String} {r : List V → Hp → VK → Prop} {g : GC} {fa : FA} (hc : CallR X (.type id) r) (hd : CallD X r g) (hg : Gl X x) (hm : X.mg x = none) (hv : bootBuiltins x = some (.type id)) (ha : DA X W (e :: es) fa) (hn : x ≠ "__name__" := by decide) (hdb : (x == ("__debug__" : Str)) = false := by decide)
    (he : starEach (e :: es) X.env = (false, eval e X.env) :: starEach es X.env := by rfl) (hpl : (backTo pos (starEach es X.env)).any (·.1) = false := by rfl) : DE X W (.Call (.Name x p) (e :: es) [] pos) (fCB g fa) := by
  obtain ⟨t, p, q⟩ := ha.ex
  exact .mk (pe_callTy hc hg hm hv p hn hdb he hpl) (isE_cb hd q)
theorem callR_or {f : Value} {r r' : List V → Hp → VK → Prop} (h : CallR X f r) (h' : CallR X f r') : CallR X f (fun xs H Q => r xs H Q ∨ r' xs H Q) := fun pins s σ H xs us Q I rx q => q.elim (h pins s σ H xs us Q I rx) (h' pins s σ H xs us Q I rx)
theorem callD_or {r r' : List V → Hp → VK → Prop} {g g' : GC} (t : List D → Store → Bool) (h : CallD X r g) (h' : CallD X r' g') : CallD X (fun xs H Q => r xs H Q ∨ r' xs H Q) (fun ds S => if t ds S then g ds S else g' ds S) := fun Z φ S H ds vs Q E R d w => by
  by_cases q : t ds S = true
  · exact .inl (h Z φ S H ds vs Q E R d (by simpa only [q, if_true] using w))
  · exact .inr (h' Z φ S H ds vs Q E R d (by simpa [q] using w))

/-! len -/
def gLenQ : GC := fun ds S => match ds with
  | [d] => match asQ S d with
    | some xs => .ok (.int (xs.length : Nat)) S
    | none => .stuck
  | _ => .stuck
def gLenS : GC := fun ds S => match ds with
  | [.str z] => if short z.length then .ok (.int (z.length : Nat)) S else .stuck
  | _ => .stuck
def gLenD : GC := fun ds S => match ds with
  | [d] => match asD S d with
    | some ks => .ok (.int (ks.length : Nat)) S
    | none => .stuck
  | _ => .stuck
theorem datK_length {K : PySem.W.Frag} {mg : Str → Option Value} {φ : List Addr} {G : Hp} : ∀ {ks : List (Key × D)} {kvs : List (Key × V)}, DatK K mg φ G ks kvs → kvs.length = ks.length
  | [], _, h => by
    unfold DatK at h
    subst h
    rfl
  | (k, d) :: ks, _, h => by
    unfold DatK at h
    obtain ⟨v, r, rfl, _, h2⟩ := h
    rw [List.length_cons, List.length_cons, datK_length h2]
theorem cd_lenQ : CallD X (fun xs H Q => ∃ p ys, xs = [.ref p] ∧ (SqL X.K H p ys ∨ SqT X.K H p ys) ∧ Q (.int ys.length) H) gLenQ := fun Z φ S H ds vs Q E R d w => by
  unfold gLenQ at w
  split at w
  · obtain ⟨v, rfl, h1⟩ := datL1 d
    split at w
    · rename_i xs e1
      obtain ⟨a, us, rfl, h2, h3⟩ := asQ_ok R h1 e1
      refine ⟨a, us, rfl, h2, ?_⟩
      rw [h3.length]
      exact w.now R (dat_int _)
    · exact w.elim
  · exact w.elim
theorem cd_lenS : CallD X (fun xs H Q => ∃ z, xs = [.str z] ∧ z.length ≤ sizeLine ∧ Q (.int z.length) H) gLenS := fun Z φ S H ds vs Q E R d w => by
  unfold gLenS at w
  split at w
  · obtain ⟨v, rfl, h1⟩ := datL1 d
    obtain ⟨h, w1⟩ := want_if w
    cases dStr h1
    exact ⟨_, rfl, of_decide_eq_true h, w1.now R (dat_int _)⟩
  · exact w.elim
theorem cd_lenD : CallD X (fun xs H Q => ∃ a kvs, xs = [V.ref a] ∧ H a = some (.dK kvs) ∧ Q (.int kvs.length) H) gLenD := fun Z φ S H ds vs Q E R d w => by
  unfold gLenD at w
  split at w
  · obtain ⟨v, rfl, h1⟩ := datL1 d
    split at w
    · rename_i xs e1
      obtain ⟨a, us, rfl, h2, h3⟩ := asD_ok R h1 e1
      refine ⟨a, us, rfl, h2, ?_⟩
      rw [datK_length h3]
      exact w.now R (dat_int _)
    · exact w.elim
  · exact w.elim
def isDic1 (ds : List D) (S : Store) : Bool := match ds with
  | [d] => (asD S d).isSome
  | _ => false
def isStr1 (ds : List D) (_ : Store) : Bool := match ds with
  | [.str _] => true
  | _ => false
def gLen : GC := fun ds S => if isDic1 ds S then gLenD ds S else if isStr1 ds S then gLenS ds S else gLenQ ds S
theorem de_len {fa : FA} (hg : Gl X "len") (hm : X.mg "len" = none) (ha : DA X W [e] fa) (he : starEach [e] X.env = (false, eval e X.env) :: starEach [] X.env := by rfl) (hpl : (backTo pos (starEach [] X.env)).any (·.1) = false := by rfl) :
    DE X W (.Call (.Name "len" p) [e] [] pos) (fCB gLen fa) :=
  de_callB (callR_or call_lenD (callR_or call_len_str call_len_seq)) (callD_or isDic1 cd_lenD (callD_or isStr1 cd_lenS cd_lenQ)) hg hm (by rfl) ha (by decide) (by decide) he hpl

/-! abs, max, min -/
def gAbs : GC := fun ds S => match ds with
  | [.int i] => .ok (.int (if i < 0 then -i else i)) S
  | _ => .stuck
theorem de_abs {fa : FA} (hg : Gl X "abs") (hm : X.mg "abs" = none) (ha : DA X W [e] fa) (he : starEach [e] X.env = (false, eval e X.env) :: starEach [] X.env := by rfl) (hpl : (backTo pos (starEach [] X.env)).any (·.1) = false := by rfl) :
    DE X W (.Call (.Name "abs" p) [e] [] pos) (fCB gAbs fa) :=
  de_callB call_abs (fun Z φ S H ds vs Q E R d w => by
    unfold gAbs at w
    split at w
    · obtain ⟨v, rfl, h1⟩ := datL1 d
      cases dInt h1
      exact ⟨_, rfl, w.now R (dat_int _)⟩
    · exact w.elim) hg hm (by rfl) ha (by decide) (by decide) he hpl
def intsOf : List D → Option (List Int)
  | [] => some []
  | .int i :: ds => (intsOf ds).map (i :: ·)
  | _ => none
theorem intsOf_ok {K : PySem.W.Frag} {mg : Str → Option Value} {φ : List Addr} {G : Hp} : ∀ {ds : List D} {vs : List V} {ns : List Int}, DatL K mg φ G ds vs → intsOf ds = some ns → vs = ns.map V.int
  | [], _, _, h, e => by
    cases e
    unfold DatL at h
    exact h
  | d :: ds, _, ns, h, e => by
    obtain ⟨v, r, rfl, h1, h2⟩ := h.uncons
    cases d with
    | int i =>
      unfold intsOf at e
      cases q : intsOf ds with
      | none => rw [q] at e; cases e
      | some ms =>
        rw [q] at e
        cases e
        unfold Dat at h1
        subst h1
        rw [intsOf_ok h2 q]
        rfl
    | _ => cases e
theorem dat_ints {K : PySem.W.Frag} {mg : Str → Option Value} {φ : List Addr} {G : Hp} : ∀ (ns : List Int), DatL K mg φ G (ns.map D.int) (ns.map V.int)
  | [] => DatL.nil
  | n :: ns => .cons (by unfold Dat; rfl) (dat_ints ns)
def seqInts (S : Store) (d : D) : Option (List Int) := (asL S d).bind intsOf
theorem seqInts_ok {Z φ : List Addr} {S : Store} {H : Hp} {d : D} {v : V} {ns : List Int} (R : Rel X.K X.mg Z φ S H) (h : Dat X.K X.mg φ (gnd Z φ S H) d v) (e : seqInts S d = some ns) : ∃ a, v = .ref a ∧ SqL X.K H a (ns.map V.int) := by
  obtain ⟨ds, e1, e2⟩ := Option.bind_eq_some_iff.mp e
  obtain ⟨a, us, rfl, h2, h3⟩ := asL_ok R h e1
  refine ⟨a, rfl, ?_⟩
  rw [← intsOf_ok h3 e2]
  exact h2
def maxI : Int → List Int → Int
  | m, [] => m
  | m, n :: ns => maxI (if n > m then n else m) ns
def minI : Int → List Int → Int
  | m, [] => m
  | m, n :: ns => minI (if n < m then n else m) ns
theorem maxI_spec : ∀ (ns : List Int) (m : Int), maxI m ns ∈ m :: ns ∧ ∀ y ∈ m :: ns, y ≤ maxI m ns
  | [], m => ⟨by simp [maxI], fun y h => by simp at h; simp [maxI, h]⟩
  | n :: ns, m => by
    obtain ⟨a, b⟩ := maxI_spec ns (if n > m then n else m)
    have e : maxI m (n :: ns) = maxI (if n > m then n else m) ns := rfl
    rw [e]
    refine ⟨?_, fun y hy => ?_⟩
    · rcases List.mem_cons.mp a with h | h
      · rw [h]
        split
        · simp
        · simp
      · exact List.mem_cons_of_mem _ (List.mem_cons_of_mem _ h)
    · have top := b _ List.mem_cons_self
      have u1 : m ≤ (if n > m then n else m) := by split <;> omega
      have u2 : n ≤ (if n > m then n else m) := by split <;> omega
      rcases List.mem_cons.mp hy with h | h
      · rw [h]
        exact Int.le_trans u1 top
      · rcases List.mem_cons.mp h with h | h
        · rw [h]
          exact Int.le_trans u2 top
        · exact b y (List.mem_cons_of_mem _ h)
def gMax2 : GC := fun ds S => match ds with
  | [.int i, .int j] => .ok (.int (if j > i then j else i)) S
  | _ => .stuck
def gMin2 : GC := fun ds S => match ds with
  | [.int i, .int j] => .ok (.int (if j < i then j else i)) S
  | _ => .stuck
def gMaxL : GC := fun ds S => match ds with
  | [d] => match seqInts S d with
    | some (n :: ns) => .ok (.int (maxI n ns)) S
    | _ => .stuck
  | _ => .stuck
def gMinL : GC := fun ds S => match ds with
  | [d] => match seqInts S d with
    | some (n :: ns) => .ok (.int (minI n ns)) S
    | _ => .stuck
  | _ => .stuck
def two (ds : List D) (_ : Store) : Bool := decide (ds.length = 2)
def gMax : GC := fun ds S => if two ds S then gMax2 ds S else gMaxL ds S
def gMin : GC := fun ds S => if two ds S then gMin2 ds S else gMinL ds S
theorem cd_max2 : CallD X (fun xs H Q => ∃ i j, xs = [.int i, .int j] ∧ Q (.int (if j > i then j else i)) H) gMax2 := fun Z φ S H ds vs Q E R d w => by
  unfold gMax2 at w
  split at w
  · obtain ⟨v, u, rfl, h1, h2⟩ := datL2 d
    cases dInt h1
    cases dInt h2
    exact ⟨_, _, rfl, w.now R (dat_int _)⟩
  · exact w.elim
theorem cd_maxL : CallD X (rMax X.K) gMaxL := fun Z φ S H ds vs Q E R d w => by
  unfold gMaxL at w
  split at w
  · obtain ⟨v, rfl, h1⟩ := datL1 d
    split at w
    · rename_i n ns e1
      obtain ⟨a, rfl, h2⟩ := seqInts_ok R h1 e1
      refine ⟨a, n :: ns, rfl, h2, by simp, fun m hm hb => ?_⟩
      obtain ⟨q1, q2⟩ := maxI_spec ns n
      rw [Int.le_antisymm (q2 m hm) (hb _ q1)]
      exact w.now R (dat_int _)
    · exact w.elim
  · exact w.elim
theorem de_max (C : Cn X W k) {fa : FA} (hg : Gl X "max") (hm : X.mg "max" = none) (ha : DA X W (e :: es) fa) (he : starEach (e :: es) X.env = (false, eval e X.env) :: starEach es X.env := by rfl) (hpl : (backTo pos (starEach es X.env)).any (·.1) = false := by rfl) :
    DE X W (.Call (.Name "max" p) (e :: es) [] pos) (fCB gMax fa) :=
  de_callB (callR_or (call_max2 C.calm) (cr_max C.calm)) (callD_or two cd_max2 cd_maxL) hg hm (by rfl) ha (by decide) (by decide) he hpl
/-! sum, sorted -/
/-! all, any -/
def bsOf : List D → Option (List Bool)
  | [] => some []
  | .bl b :: ds => (bsOf ds).map (b :: ·)
  | _ => none
theorem bsOf_ok {K : PySem.W.Frag} {mg : Str → Option Value} {φ : List Addr} {G : Hp} : ∀ {ds : List D} {vs : List V} {ns : List Bool}, DatL K mg φ G ds vs → bsOf ds = some ns → vs = ns.map V.bl
  | [], _, _, h, e => by
    cases e
    unfold DatL at h
    exact h
  | d :: ds, _, ns, h, e => by
    obtain ⟨v, r, rfl, h1, h2⟩ := h.uncons
    cases d with
    | bl i =>
      unfold bsOf at e
      cases q : bsOf ds with
      | none => rw [q] at e; cases e
      | some ms =>
        rw [q] at e
        cases e
        unfold Dat at h1
        subst h1
        rw [bsOf_ok h2 q]
        rfl
    | _ => cases e
def gAllAny (all : Bool) : GC := fun ds S => match ds with
  | [d] => match (asL S d).bind bsOf with
    | some bs => .ok (.bl (if all then bs.all id else bs.any id)) S
    | none => .stuck
  | _ => .stuck
theorem de_all (C : Cn X W k) {fa : FA} (hg : Gl X "all") (hm : X.mg "all" = none) (ha : DA X W [e] fa) (he : starEach [e] X.env = (false, eval e X.env) :: starEach [] X.env := by rfl) (hpl : (backTo pos (starEach [] X.env)).any (·.1) = false := by rfl) :
    DE X W (.Call (.Name "all" p) [e] [] pos) (fCB (gAllAny true) fa) :=
  de_callB (cr_all C.calm) (fun Z φ S H ds vs Q E R d w => by
    unfold gAllAny at w
    split at w
    · obtain ⟨v, rfl, h1⟩ := datL1 d
      split at w
      · rename_i bs e1
        obtain ⟨xs, e1, e2⟩ := Option.bind_eq_some_iff.mp e1
        obtain ⟨a, us, rfl, h2, h3⟩ := asL_ok R h1 e1
        rw [bsOf_ok h3 e2] at h2
        exact ⟨a, bs, rfl, h2, w.now R (dat_bl _)⟩
      · exact w.elim
    · exact w.elim) hg hm (by rfl) ha (by decide) (by decide) he hpl
theorem de_any (C : Cn X W k) {fa : FA} (hg : Gl X "any") (hm : X.mg "any" = none) (ha : DA X W [e] fa) (he : starEach [e] X.env = (false, eval e X.env) :: starEach [] X.env := by rfl) (hpl : (backTo pos (starEach [] X.env)).any (·.1) = false := by rfl) :
    DE X W (.Call (.Name "any" p) [e] [] pos) (fCB (gAllAny false) fa) :=
  de_callB (cr_any C.calm) (fun Z φ S H ds vs Q E R d w => by
    unfold gAllAny at w
    split at w
    · obtain ⟨v, rfl, h1⟩ := datL1 d
      split at w
      · rename_i bs e1
        obtain ⟨xs, e1, e2⟩ := Option.bind_eq_some_iff.mp e1
        obtain ⟨a, us, rfl, h2, h3⟩ := asL_ok R h1 e1
        rw [bsOf_ok h3 e2] at h2
        exact ⟨a, bs, rfl, h2, w.now R (dat_bl _)⟩
      · exact w.elim
    · exact w.elim) hg hm (by rfl) ha (by decide) (by decide) he hpl

/-! list, tuple -/
def gToL : GC := fun ds S => match ds with
  | [d] => match asQ S d with
    | some xs => .ok (.lst xs) S
    | none => .stuck
  | _ => .stuck
def keyV : Key → D
  | .inl i => .int i
  | .inr x => .str x
def gKeysL : GC := fun ds S => match ds with
  | [d] => match asD S d with
    | some ks => .ok (.lst (ks.map fun q => keyV q.1)) S
    | none => .stuck
  | _ => .stuck
theorem datK_keys {K : PySem.W.Frag} {mg : Str → Option Value} {φ φ' : List Addr} {G G' : Hp} : ∀ {ks : List (Key × D)} {kvs : List (Key × V)}, DatK K mg φ G ks kvs → DatL K mg φ' G' (ks.map fun q => keyV q.1) (kvs.map fun kv => kV kv.1)
  | [], _, h => by
    unfold DatK at h
    subst h
    exact DatL.nil
  | (k, d) :: ks, _, h => by
    unfold DatK at h
    obtain ⟨v, r, rfl, _, h2⟩ := h
    refine .cons ?_ (datK_keys h2)
    cases k <;> unfold keyV Dat <;> rfl
abbrev rListOf (K : PySem.W.Frag) : List V → Hp → VK → Prop := fun xs H Q => ∃ p ys, xs = [.ref p] ∧ (SqL K H p ys ∨ SqT K H p ys) ∧ ∀ l, H l = none → Q (.ref l) (upd H l (.lst ys))
theorem cd_toL : CallD X (rListOf X.K) gToL := fun Z φ S H ds vs Q E R d w => by
  unfold gToL at w
  split at w
  · obtain ⟨v, rfl, h1⟩ := datL1 d
    split at w
    · rename_i xs e1
      obtain ⟨a, us, rfl, h2, h3⟩ := asQ_ok R h1 e1
      refine ⟨a, us, rfl, h2, fun p hn => ?_⟩
      obtain ⟨r, e, g⟩ := dat_newL R h3 hn
      exact w _ _ _ r e g
    · exact w.elim
  · exact w.elim
theorem cd_keysL : CallD X rListD gKeysL := fun Z φ S H ds vs Q E R d w => by
  unfold gKeysL at w
  split at w
  · obtain ⟨v, rfl, h1⟩ := datL1 d
    split at w
    · rename_i xs e1
      obtain ⟨a, us, rfl, h2, h3⟩ := asD_ok R h1 e1
      refine ⟨a, us, rfl, h2, fun p hn => ?_⟩
      obtain ⟨r, e, g⟩ := dat_newL R (datK_keys h3) hn
      exact w _ _ _ r e g
    · exact w.elim
  · exact w.elim
def gList : GC := fun ds S => if isDic1 ds S then gKeysL ds S else gToL ds S
theorem de_list (C : Cn X W k) {fa : FA} (hg : Gl X "list") (hm : X.mg "list" = none) (ha : DA X W [e] fa) (he : starEach [e] X.env = (false, eval e X.env) :: starEach [] X.env := by rfl) (hpl : (backTo pos (starEach [] X.env)).any (·.1) = false := by rfl) :
    DE X W (.Call (.Name "list" p) [e] [] pos) (fCB gList fa) := de_callTy (callR_or (call_list_dK C.calm) call_list_of) (callD_or isDic1 cd_keysL cd_toL) hg hm (by rfl) ha (by decide) (by decide) he hpl
def gTuple : GC := fun ds S => match ds with
  | [.tup xs] => .ok (.tup xs) S
  | [d] => match asL S d with
    | some xs => .ok (.tup xs) S
    | none => .stuck
  | _ => .stuck
theorem cd_tuple : CallD X (fun xs H Q => ∃ p ys, xs = [.ref p] ∧ ((SqL X.K H p ys ∧ ∀ l, H l = none → Q (.ref l) (upd H l (.tup ys))) ∨ (SqT X.K H p ys ∧ Q (.ref p) H))) gTuple := fun Z φ S H ds vs Q E R d w => by
  unfold gTuple at w
  split at w
  · obtain ⟨v, rfl, h1⟩ := datL1 d
    have h1' := h1
    unfold Dat at h1
    obtain ⟨a, us, rfl, h2, h3⟩ := h1
    exact ⟨a, us, rfl, .inr ⟨sqt_mono gnd_sub h2, w.now R h1'⟩⟩
  · obtain ⟨v, rfl, h1⟩ := datL1 d
    split at w
    · rename_i xs e1
      obtain ⟨a, us, rfl, h2, h3⟩ := asL_ok R h1 e1
      refine ⟨a, us, rfl, .inl ⟨h2, fun p hn => ?_⟩⟩
      obtain ⟨r, e, g⟩ := dat_newT R h3 hn
      exact w _ _ _ r e g
    · exact w.elim
  · exact w.elim
theorem de_tuple {fa : FA} (hg : Gl X "tuple") (hm : X.mg "tuple" = none) (ha : DA X W [e] fa) (he : starEach [e] X.env = (false, eval e X.env) :: starEach [] X.env := by rfl) (hpl : (backTo pos (starEach [] X.env)).any (·.1) = false := by rfl) :
    DE X W (.Call (.Name "tuple" p) [e] [] pos) (fCB gTuple fa) := de_callTy call_tuple_of cd_tuple hg hm (by rfl) ha (by decide) (by decide) he hpl

/-! repr -/
def rRepr (K : PySem.W.Frag) : List V → Hp → VK → Prop := fun xs H Q => ∃ x d, xs = [x] ∧ Dp K H x d ∧ d.showable = true ∧ d.hasDict = false ∧ d.depth ≤ 50 ∧ d.shown.length ≤ sizeLine ∧ Q (.str d.shown) H
theorem call_repr (C : Cn X W k) : CallR X (.builtin "repr") (rRepr X.K) := fun pins s σ H xs us Q I r h => by
  obtain ⟨x, d, rfl, hd, h1, h2, h3, h4, q⟩ := h
  obtain ⟨u, rfl, ru⟩ := vals1 r
  have fin : ∀ tk, EP X pins σ Q (.str d.shown s.toks) { s with toks := tk } := fun tk => ⟨.str d.shown, H, I.tok tk, ⟨_, rfl⟩, q⟩
  have big : ∀ a, u = .ref a → wpAny (model X.prog X.w) X.A (call (.builtin "repr") [u]) (EP X pins σ Q) X.xe s := fun a e => by
    obtain ⟨as, rd⟩ := Dp.reads I d x u hd ru
    subst e
    exact repr_of_reads' rd h1 (PyData.noDict_hsm h2) C.gd (by have := C.u64; omega) (fun _ _ z => z) (fun h' t tk hk => ⟨.str d.shown, H, I.kept (t' := tk) hk, ⟨_, rfl⟩, q⟩) h4
  cases hd with
  | non =>
    cases (show u = Value.none from ru)
    simp only [PyData.shown] at fin
    exact PySem.P.repr_of_none (fin _)
  | bl b =>
    cases (show u = Value.bool b from ru)
    simp only [PyData.shown] at fin
    exact PySem.P.repr_of_bool (fin _)
  | int i =>
    obtain ⟨t, rfl⟩ := (show ∃ t, u = Value.int i t from ru)
    simp only [PyData.shown] at fin
    simp only [PyData.showable, decide_eq_true_eq] at h1
    exact PySem.P.repr_of_int h1 (fin _)
  | str y =>
    obtain ⟨t, rfl⟩ := (show ∃ t, u = Value.str y t from ru)
    simp only [PyData.shown] at fin h4
    exact PySem.P.repr_of_str (fin _) h4
  | lst _ _ => exact big _ ru
  | tup _ _ => exact big _ ru
def gRepr : GC := fun ds S => match ds with
  | [d] => match pyOf S d with
    | some q => if q.showable = true ∧ q.hasDict = false ∧ q.depth ≤ 50 ∧ q.shown.length ≤ sizeLine then .ok (.str q.shown) S else .stuck
    | none => .stuck
  | _ => .stuck
theorem de_repr (C : Cn X W k) {fa : FA} (hg : Gl X "repr") (hm : X.mg "repr" = none) (ha : DA X W [e] fa) (he : starEach [e] X.env = (false, eval e X.env) :: starEach [] X.env := by rfl) (hpl : (backTo pos (starEach [] X.env)).any (·.1) = false := by rfl) :
    DE X W (.Call (.Name "repr" p) [e] [] pos) (fCB gRepr fa) :=
  de_callB (call_repr C) (fun Z φ S H ds vs Q E R d w => by
    unfold gRepr at w
    split at w
    · obtain ⟨v, rfl, h1⟩ := datL1 d
      split at w
      · rename_i q e1
        obtain ⟨⟨a1, a2, a3, a4⟩, w1⟩ := want_if w
        exact ⟨v, q, rfl, pyOf_ok R h1 e1, a1, a2, a3, a4, w1.now R (dat_str _)⟩
      · exact w.elim
    · exact w.elim) hg hm (by rfl) ha (by decide) (by decide) he hpl
end
end DL

/-! The data layer, part 11: set(xs) of a list of ints, sorted(set(xs)). -/
namespace PySem
open PySem.Spec PyProof.Rows L2
section
variable {P : Program} {w : World} {A : Around} {E : Value → Shared → Prop} {s : Shared}
end
end PySem
namespace DL
open PySem L2
section
variable {X : Cx} {W : WX} {k : Nat} {a b c e : Expr} {es : List Expr} {fa fb fc fe : FE} {pos p p2 q2 : Pos}
end
end DL

/-! The data layer, part 12: list(enumerate(xs)). -/
namespace PySem
open PySem.Spec PySem.Calls PyProof.Rows PySem.W L2
namespace F
end F
section
variable {prog : Program} {w : World} {A : Around} {E : Value → Shared → Prop} {s : Shared}
/-- the state of the enumerate object between two nexts -/
def EnAt (e it : Addr) (i : Nat) (h : Heap) : Prop := (∃ old, IsEnum h e it i old) ∨ ∃ old T f oT, IsEnumHeld h e it i old T f ∧ h.get? T = some oT ∧ T ≠ e ∧ T ≠ it
theorem EnAt.keep {e it : Addr} {i : Nat} {h h' : Heap} {S : Addr} (x : EnAt e it i h) (hS : e ≠ S) (hk : ∀ b o, b ≠ S → h.get? b = some o → h'.get? b = some o) (hl : ∀ o, h.get? S = some o → ∃ o', h'.get? S = some o') : EnAt e it i h' := by
  rcases x with ⟨old, q⟩ | ⟨old, T, f, oT, q, q2, q3, q4⟩
  · exact .inl ⟨old, hk _ _ hS q⟩
  · by_cases hT : T = S
    · subst hT
      obtain ⟨o', ho⟩ := hl _ q2
      exact .inr ⟨old, T, f, o', hk _ _ hS q, ho, q3, q4⟩
    · exact .inr ⟨old, T, f, oT, hk _ _ hS q, hk _ _ hT q2, q3, q4⟩
theorem EnAt.ty {e it : Addr} {i : Nat} (x : EnAt e it i s.heap) : s.TypeIs (.ref e) "enumerate" := by
  rcases x with ⟨old, q⟩ | ⟨old, T, f, oT, q, _⟩ <;> exact ⟨_, q, rfl⟩
theorem EnAt.lt {e it : Addr} {i : Nat} {h : Heap} (x : EnAt e it i h) : e < h.objs.size := by
  rcases x with ⟨old, q⟩ | ⟨old, T, f, oT, q, _⟩ <;> exact Heap.lt_size q
/-- the pairs laid so far -/
structure EnG (items : Array Value) (lo : Addr) (h : Heap) (as : List Addr) : Prop where
  above : ∀ a ∈ as, lo < a
  pair : ∀ (j : Nat) (a : Addr), as[j]? = some a → ∃ x tk, items[j]? = some x ∧ h.get? a = some { cls := .type "tuple", data := .seq #[.int (j : Nat) tk, x] }
end
end PySem

/-! The data layer, part 13: list(enumerate(xs)) on data; a, *b = xs. -/
namespace DL
open PySem L2
section
variable {P : Program} {w : World} {H H' : Hp} {h h' : Heap}
end
/-! the pairs of enumerate -/
section
variable {K : PySem.W.Frag} {mg : Str → Option Value} {Z φ : List Addr} {S : Store}
end
section
variable {X : Cx} {W : WX} {k : Nat} {a b c e : Expr} {es : List Expr} {fa fb fc fe : FE} {pos p p2 q2 : Pos}
def gLEnum : GC := fun ds S => match ds with
  | [d] => match asQ S d with
    | some xs => .ok (.lst (enumD 0 xs)) S
    | none => .stuck
  | _ => .stuck
end
end DL

/-! The data layer, part 14: a, *b = xs; isinstance; methods of what is built in; stores by a subscript. -/
namespace PySem
open PySem.Spec PySem.Calls PyProof.Rows PySem.W L2
section
variable {prog : Program} {w : World} {A : Around} {E : Value → Shared → Prop} {s : Shared}
theorem unpack_one_star {l : Addr} {items : Array Value} {u : Value} {us : List Value} {Q : List Value → Shared → Prop} (hh : A.handled = none) (hl : s.heap.IsList l items) (hi : items.toList = u :: us) (hz : items.size ≤ sizeLine)
    (hQ : ∀ (h' : Heap) (tk : Nat), (∀ b o, s.heap.get? b = some o → h'.get? b = some o) → Q [u, .ref h'.objs.size] { s with heap := h'.push { cls := .type "list", data := .seq us.toArray }, toks := tk }) :
    wpAny (model prog w) A (unpackItems (.ref l) 2 (some 1)) Q E s := by
  have lt1 : l < s.heap.objs.size := by obtain ⟨o, ho, _⟩ := hl; exact Heap.lt_size ho
  have ne1 : l ≠ s.heap.objs.size := Nat.ne_of_lt lt1
  have sz : items.size = us.length + 1 := by rw [← Array.length_toList, hi]; rfl
  unfold unpackItems
  refine wpAny_bind ?_
  unfold notIterableAtAll
  refine wpAny_bind (wpAny_specialOf hl.typeIs slot_list_iter.lookup (wpAny_pure ?_))
  simp only [Bool.false_eq_true, if_false]
  refine wpAny_bind (wpAny_holding (wpAny_pyIter_list hl (wpAny_bind (wpAny_holding (kun_draw ne1 1 0 _ _ ⟨_, Heap.get?_push_size _ rfl, rfl, rfl⟩ (hl.push _) (by omega) fun h1 it1 sb1 => ?_)))))
  have l1 : h1.IsList l items := (hl.push _).extBut sb1.extBut ne1
  have q1 : (items.toList.drop 0).take 1 = [u] := by rw [hi]; rfl
  rw [q1]
  show wpAny _ _ (if [u].length < 1 then _ else _) _ _ _
  rw [if_neg (by simp)]
  have ltI : s.heap.objs.size < h1.objs.size := by obtain ⟨o, ho, _⟩ := it1; exact Heap.lt_size ho
  have ltl : l < h1.objs.size := by obtain ⟨o, ho, _⟩ := l1; exact Heap.lt_size ho
  refine wpAny_bind (wpAny_holding (kun_collect (s := { s with heap := h1 }) (T := "list_iterator") (.inr (.inr (.inl rfl))) (Walks.list (A := A.in1) hh s.heap.objs.size l ne1 items) (fun j t st => st.1.typeIs) (k := 1) (by omega) ⟨it1, l1⟩ ltI ltl (fun h2 tk kp => ?_) hz))
  have q2 : items.toList.drop 1 = us := by rw [hi]; rfl
  rw [q2]
  show wpAny _ _ (if us.length < 2 - 1 - 1 then _ else _) _ _ _
  rw [if_neg (by omega)]
  show wpAny _ _ (newList (us.take (us.length - (2 - 1 - 1))) >>= fun d => pure ([u] ++ [d] ++ us.drop (us.length - (2 - 1 - 1)))) _ _ _
  have q3 : us.take (us.length - (2 - 1 - 1)) = us := List.take_of_length_le (by omega)
  have q4 : us.drop (us.length - (2 - 1 - 1)) = [] := List.drop_eq_nil_of_le (by omega)
  rw [q3, q4]
  refine wpAny_bind (wpAny_newObj_type (wpAny_pure ?_) (by show us.length ≤ sizeLine; omega))
  exact hQ h2 tk fun b o e => kp b o (Nat.ne_of_lt (Heap.lt_size e)) (sb1.extBut b o (Nat.ne_of_lt (Heap.lt_size e)) (Heap.get?_push_of_some _ e))
end
end PySem
namespace DL
open PySem L2
section
variable {X : Cx} {W : WX} {k : Nat} {a b c e o : Expr} {es : List Expr} {fa fb fc fe fo : FE} {pos p p2 q2 apos cpos : Pos}
/-! ### a, *b = xs -/
def gStarT (K : PySem.W.Frag) (i j : Nat) : TG := fun v σ H Q => ∃ l x xs, v = .ref l ∧ SqL K H l (x :: xs) ∧ ∀ D, H D = none → Q ((σ.set i (some x)).set j (some (.ref D))) (upd H D (.lst xs))
theorem pg_star (C : Cn X W k) {i j : Nat} {x y : Str} {n : Nat} {p1 p2 p3 : Pos} (hi : X.N[i]? = some x) (hx : Loc X.env.scope x) (hj : X.N[j]? = some y) (hy : Loc X.env.scope y)
    (hf : X.fn x = true ∨ X.env.scope.names.lookup x = some .local := by first | exact .inl rfl | exact .inr rfl) (hf2 : X.fn y = true ∨ X.env.scope.names.lookup y = some .local := by first | exact .inl rfl | exact .inr rfl) :
    PG X (.Tuple [.Name x p1, .Starred (.Name y p2) p3] n pos) (gStarT X.K i j) := by
  refine ⟨fun pins s σ H v u Q I r h => ?_⟩
  obtain ⟨l, z, zs, rfl, hq, q⟩ := h
  cases r
  obtain ⟨its, rv, pl, hz⟩ := I.list hq
  cases rv with
  | cons r1 r2 =>
    rename_i u us
    rw [PyProof.Rows.assign_Tuple]
    refine wpAny_bind (wpAny_standAt ?_)
    show wpAny _ _ (holding [_] (unpackItems _ 2 (some 1)) >>= fun vs => assignInOrder [assign (.Name x p1) X.env, assign (.Name y p2) X.env] vs) _ _ _
    refine wpAny_bind (wpAny_holding (unpack_one_star (u := u) (us := us) (I.ok.hd C.calm) pl.isList (by simp) (by simpa [r2.length] using hz) fun h' tk hk => ?_))
    have I1 : L2.Inv X pins σ H { s with heap := h' } := I.kept (t' := s.toks) hk
    have I2 := I1.lnew (t' := tk) r2 (by simp at hz; omega)
    have hn := I1.fresh
    refine PyProof.Rows.assignInOrder_cons (wpAny_assign_Name (store_ok I2 C.nd hi hx r1 (fun s2 I3 => ?_) hf))
    refine PyProof.Rows.assignInOrder_cons (wpAny_assign_Name (store_ok I3 C.nd hj hy (v := .ref h'.objs.size) rfl (fun s3 I4 => PyProof.Rows.assignInOrder_nil ⟨_, _, I4, q _ hn⟩) hf2))
def gStar (i j : Nat) (fe : FE) : FS := fun ρ S => (fe ρ S).into ρ fun d S => match asL S d with
  | some (x :: xs) => .nx ((ρ.set i (some x)).set j (some (.oid S.length))) (S ++ [.lst xs])
  | _ => .stuck
theorem ds_star (C : Cn X W k) {i j : Nat} {x y : Str} {n : Nat} {p1 p2 p3 tpos : Pos} (hi : X.N[i]? = some x) (hx : Loc X.env.scope x) (hj : X.N[j]? = some y) (hy : Loc X.env.scope y) (he : DE X W e fe)
    (hf : X.fn x = true ∨ X.env.scope.names.lookup x = some .local := by first | exact .inl rfl | exact .inr rfl) (hf2 : X.fn y = true ∨ X.env.scope.names.lookup y = some .local := by first | exact .inl rfl | exact .inr rfl)
    (hs : swapsWithSole [.Tuple [.Name x p1, .Starred (.Name y p2) p3] n tpos] e pos.line X.env = pure false := by rfl) (hw : swappedStores [.Tuple [.Name x p1, .Starred (.Name y p2) p3] n tpos] e X.env = pure none := by rfl)
    (h1 : (assignEach [.Tuple [.Name x p1, .Starred (.Name y p2) p3] n tpos] X.env).map (·.2) = [assign (.Tuple [.Name x p1, .Starred (.Name y p2) p3] n tpos) X.env] := by rfl) :
    DS X W (.Assign [.Tuple [.Name x p1, .Starred (.Name y p2) p3] n tpos] e pos) (gStar i j fe) := by
  obtain ⟨t, pp, q⟩ := he.ex
  refine .mk (ps_asg pp (pg_star C hi hx hj hy hf hf2) hs hw h1) fun Z φ S ρ σ H Dd R sl w => q Z φ S ρ σ H _ R sl (w.into sl fun d S1 v φ1 H1 R1 E1 dd w1 => ?_)
  split at w1
  · rename_i z zs hq
    obtain ⟨l, vs, rfl, h2, h3⟩ := asL_ok R1 dd hq
    obtain ⟨u, us, rfl, h4, h5⟩ := h3.uncons
    refine ⟨l, u, us, rfl, h2, fun D hD => ?_⟩
    obtain ⟨R2, E2, g2⟩ := dat_newO R1 h5 hD
    exact w1 _ _ _ R2 E2 ((((sl.evo E1).evo E2).set (Dat.evo E2 h4)).set g2)
  · exact w1.elim

/-! ### isinstance -/
def tyS (S : Store) : D → Option String
  | .non => some "NoneType"
  | .bl _ => some "bool"
  | .int _ => some "int"
  | .str _ => some "str"
  | .tup _ => some "tuple"
  | .lst _ => some "list"
  | .scr _ => some "list"
  | .dic _ => some "dict"
  | .oid n => match S[n]? with
    | some (.lst _) => some "list"
    | some (.dic _) => some "dict"
    | some (.frz (.lst _)) => some "list"
    | some (.frz (.dic _)) => some "dict"
    | _ => none
  | _ => none
theorem tyx_L {K : PySem.W.Frag} {H : Hp} {a : Addr} {xs : List V} (h : SqL K H a xs) : TyX K H (.ref a) (.type "list") := by
  rcases h with (h | ⟨u, h⟩) | ⟨o, its, n, hk, hc, _⟩
  · exact .base (.lst h)
  · exact .base (.frz h)
  · exact .kList hk hc
theorem tyx_T {K : PySem.W.Frag} {H : Hp} {a : Addr} {xs : List V} (h : SqT K H a xs) : TyX K H (.ref a) (.type "tuple") := by
  rcases h with (h | ⟨u, h⟩) | ⟨o, its, n, hk, hc, _⟩
  · exact .base (.tup h)
  · exact .fTuple h
  · exact .kTuple hk hc
theorem tyS_ok {Z φ : List Addr} {S : Store} {H : Hp} (R : Rel X.K X.mg Z φ S H) {d : D} {v : V} {T : String} (h : Dat X.K X.mg φ (gnd Z φ S H) d v) (e : tyS S d = some T) : TyX X.K H v (.type T) := by
  cases d with
  | non => cases e; unfold Dat at h; subst h; exact .base .non
  | bl b => cases e; unfold Dat at h; subst h; exact .base (.bl b)
  | int b => cases e; unfold Dat at h; subst h; exact .base (.int b)
  | str b => cases e; unfold Dat at h; subst h; exact .base (.str b)
  | tup ds =>
    cases e
    unfold Dat at h
    obtain ⟨a, vs, rfl, h1, _⟩ := h
    exact tyx_T (sqt_mono gnd_sub h1)
  | lst ds =>
    cases e
    obtain ⟨a, vs, rfl, h1, _⟩ := asL_ok R h rfl
    exact tyx_L h1
  | scr ds =>
    cases e
    obtain ⟨a, vs, rfl, h1, _⟩ := asL_ok R h rfl
    exact tyx_L h1
  | dic ds =>
    cases e
    obtain ⟨a, vs, rfl, h1, _⟩ := asD_ok R h rfl
    exact .base (.dK h1)
  | oid n =>
    cases hS : S[n]? with
    | none => simp [tyS, hS] at e
    | some so =>
      have L : ∀ ds, asL S (.oid n) = some ds → TyX X.K H v (.type "list") := fun ds q => by
        obtain ⟨a, vs, rfl, h1, _⟩ := asL_ok R h q
        exact tyx_L h1
      have M : ∀ ds, asD S (.oid n) = some ds → TyX X.K H v (.type "dict") := fun ds q => by
        obtain ⟨a, vs, rfl, h1, _⟩ := asD_ok R h q
        exact .base (.dK h1)
      cases so with
      | lst ds =>
        simp only [tyS, hS, Option.some.injEq] at e
        subst e
        exact L ds (by simp [asL, hS])
      | dic ds =>
        simp only [tyS, hS, Option.some.injEq] at e
        subst e
        exact M ds (by simp [asD, hS])
      | frz d =>
        cases d with
        | lst ds =>
          simp only [tyS, hS, Option.some.injEq] at e
          subst e
          exact L ds (by simp [asL, hS])
        | dic ds =>
          simp only [tyS, hS, Option.some.injEq] at e
          subst e
          exact M ds (by simp [asD, hS])
        | _ => simp [tyS, hS] at e
      | ins _ _ => simp [tyS, hS] at e
      | tbl _ _ => simp [tyS, hS] at e
      | dkt _ => simp [tyS, hS] at e
  | _ => cases e
/-- one built-in class under another -/
def isiT : String → String → Option Bool
  | "NoneType", n => if n ∈ ["bool", "int", "str", "tuple", "list", "dict"] then some false else none
  | "bool", n => if n ∈ ["bool", "int"] then some true else if n ∈ ["str", "tuple", "list", "dict"] then some false else none
  | "int", n => if n = "int" then some true else if n ∈ ["bool", "str", "tuple", "list", "dict"] then some false else none
  | "str", n => if n = "str" then some true else if n ∈ ["bool", "int", "tuple", "list", "dict"] then some false else none
  | "tuple", n => if n = "tuple" then some true else if n ∈ ["bool", "int", "str", "list", "dict"] then some false else none
  | "list", n => if n = "list" then some true else if n ∈ ["bool", "int", "str", "tuple", "dict"] then some false else none
  | "dict", n => if n = "dict" then some true else if n ∈ ["bool", "int", "str", "tuple", "list"] then some false else none
  | _, _ => none
theorem isiT_ok {K : PySem.W.Frag} {T n : String} {b : Bool} (h : isiT T n = some b) : PySem.W.kitOne K (.type T) (.type n) = some b := by
  have all : ∀ T ∈ ["NoneType", "bool", "int", "str", "tuple", "list", "dict"], ∀ n ∈ ["bool", "int", "str", "tuple", "list", "dict"], isiT T n = kitB T n := by decide +kernel
  have hT : T ∈ ["NoneType", "bool", "int", "str", "tuple", "list", "dict"] := by
    unfold isiT at h
    split at h <;> first | (simp; done) | (cases h; done)
  have hn : n ∈ ["bool", "int", "str", "tuple", "list", "dict"] := by
    unfold isiT at h
    split at h
    · split at h
      · rename_i q; exact q
      · cases h
    · split at h
      · rename_i q; simp at q ⊢; rcases q with q | q <;> simp [q]
      · split at h
        · rename_i q; simp at q ⊢; rcases q with q | q | q | q <;> simp [q]
        · cases h
    all_goals first
      | (cases h; done)
      | (split at h
         · rename_i q; simp [q]
         · split at h
           · rename_i q; simp at q ⊢; rcases q with q | q | q | q | q <;> simp [q]
           · cases h)
  exact kit_ty (by rw [← all T hT n hn]; exact h)
def isiA (T : String) : List String → Option Bool
  | [] => some false
  | n :: ns => match isiT T n with
    | some true => some true
    | some false => isiA T ns
    | none => none
theorem isiA_ok {K : PySem.W.Frag} {T : String} : ∀ {ns : List String} {b : Bool}, isiA T ns = some b → PySem.W.kitAny K (.type T) (ns.map Value.type) = some b
  | [], _, h => by cases h; exact kitAny_nil
  | n :: ns, b, h => by
    unfold isiA at h
    split at h
    · rename_i q
      cases h
      exact kitAny_cons (isiT_ok q) (fun z => nomatch z) fun _ => rfl
    · rename_i q
      exact kitAny_cons (isiT_ok q) (fun _ => isiA_ok h) fun z => nomatch z
    · cases h
def rIsiQ (K : PySem.W.Frag) : List V → Hp → VK → Prop := fun xs H Q => ∃ (x : V) (tp : Addr) (cs : List V) (t : Value) (us : List Value) (b : Bool), xs = [x, .ref tp] ∧ SqT K H tp cs ∧ Paired ClsV cs us ∧ TyX K H x t ∧ PySem.W.kitAny K t us = some b ∧ Q (.bl b) H
theorem call_isiQ : CallR X (.builtin "isinstance") (rIsiQ X.K) := fun pins s σ H xs us Q I r h => by
  obtain ⟨x, tp, cs, t, ws, b, rfl, hT, kk, ty, ee, q⟩ := h
  obtain ⟨u1, u2, rfl, r1, r2⟩ := vals2 r
  cases (show u2 = Value.ref tp from r2)
  obtain ⟨P, Zk, pz, hx⟩ := kit_of I r1 ty
  obtain ⟨its, rv, ⟨ob, h1, h2, n, h3⟩, _⟩ := I.tuple hT
  have e3 := ClsV.all kk rv
  subst e3
  obtain ⟨oc, od, dt, sl⟩ := ob
  simp only at h2 h3
  subst h2 h3
  exact PySem.W.kia_tup Zk I.kIn pz h1 ee hx fun tk => ⟨.bl b, H, I.tok tk, rfl, q⟩
def tysOf : List D → Option (List String)
  | [] => some []
  | .ty n :: ds => (tysOf ds).map (n :: ·)
  | _ => none
theorem tysOf_ok {φ : List Addr} {G : Hp} : ∀ {ds : List D} {vs : List V} {ns : List String}, DatL X.K X.mg φ G ds vs → tysOf ds = some ns → Paired ClsV vs (ns.map Value.type)
  | [], _, _, h, e => by
    cases e
    unfold DatL at h
    subst h
    exact .nil
  | d :: ds, _, ns, h, e => by
    obtain ⟨v, r, rfl, h1, h2⟩ := h.uncons
    cases d with
    | ty i =>
      unfold tysOf at e
      cases q : tysOf ds with
      | none => rw [q] at e; cases e
      | some ms =>
        rw [q] at e
        cases e
        unfold Dat at h1
        subst h1
        exact .cons (.ty i) (tysOf_ok h2 q)
    | _ => cases e
def gIsi1 : GC := fun ds S => match ds with
  | [x, .ty n] => match (tyS S x).bind fun T => isiT T n with
    | some b => .ok (.bl b) S
    | none => .stuck
  | _ => .stuck
def gIsiN : GC := fun ds S => match ds with
  | [x, .tup cs] => match (tyS S x).bind fun T => (tysOf cs).bind fun ns => isiA T ns with
    | some b => .ok (.bl b) S
    | none => .stuck
  | _ => .stuck
def isTy2 (ds : List D) (_ : Store) : Bool := match ds with
  | [_, .ty _] => true
  | _ => false
def gIsi : GC := fun ds S => if isTy2 ds S then gIsi1 ds S else gIsiN ds S
theorem cd_isi1 : CallD X (rIsi X.K) gIsi1 := fun Z φ S H ds vs Q E R d w => by
  unfold gIsi1 at w
  split at w
  · obtain ⟨v, u, rfl, h1, h2⟩ := datL2 d
    split at w
    · rename_i b q
      obtain ⟨T, q1, q2⟩ := Option.bind_eq_some_iff.mp q
      unfold Dat at h2
      subst h2
      exact ⟨v, _, _, _, b, rfl, .ty _, tyS_ok R h1 q1, isiT_ok q2, w.now R (dat_bl _)⟩
    · exact w.elim
  · exact w.elim
theorem cd_isiN : CallD X (rIsiQ X.K) gIsiN := fun Z φ S H ds vs Q E R d w => by
  unfold gIsiN at w
  split at w
  · obtain ⟨v, u, rfl, h1, h2⟩ := datL2 d
    split at w
    · rename_i b q
      obtain ⟨T, q1, q2⟩ := Option.bind_eq_some_iff.mp q
      obtain ⟨ns, q3, q4⟩ := Option.bind_eq_some_iff.mp q2
      unfold Dat at h2
      obtain ⟨a, us, rfl, h3, h4⟩ := h2
      exact ⟨v, a, us, _, _, b, rfl, sqt_mono gnd_sub h3, tysOf_ok h4 q3, tyS_ok R h1 q1, isiA_ok q4, w.now R (dat_bl _)⟩
    · exact w.elim
  · exact w.elim
theorem de_isi {fa : FA} (hg : Gl X "isinstance") (hm : X.mg "isinstance" = none) (ha : DA X W [e, b] fa) (he : starEach [e, b] X.env = (false, eval e X.env) :: starEach [b] X.env := by rfl) (hpl : (backTo pos (starEach [b] X.env)).any (·.1) = false := by rfl) :
    DE X W (.Call (.Name "isinstance" p) [e, b] [] pos) (fCB gIsi fa) := de_callB (callR_or call_isi call_isiQ) (callD_or isTy2 cd_isi1 cd_isiN) hg hm (by rfl) ha (by decide) (by decide) he hpl

/-! ### methods of what is built in -/
abbrev GM := D → List D → Store → Res D
def MethD (X : Cx) (r : V → List V → Hp → VK → Prop) (g : GM) : Prop := ∀ (Z φ : List Addr) (S : Store) (H : Hp) (x : D) (u : V) (ds : List D) (vs : List V) (Q : VK) (E : XK), Rel X.K X.mg Z φ S H → Dat X.K X.mg φ (gnd Z φ S H) x u → DatL X.K X.mg φ (gnd Z φ S H) ds vs →
  Want X.K X.mg (RDat X.K X.mg) Z φ S H (g x ds S) Q E → r u vs H Q
def fBM (T : String) (g : GM) (fo : FE) (fa : FA) : FE := fun ρ S => (fo ρ S).bind fun x S => if tyS S x = some T ∧ T ≠ "tuple" then (fa ρ S).bind fun ds S => g x ds S else .stuck
theorem tyV_ok {Z φ : List Addr} {S : Store} {H : Hp} (R : Rel X.K X.mg Z φ S H) {d : D} {v : V} {T : String} (h : Dat X.K X.mg φ (gnd Z φ S H) d v) (e : tyS S d = some T) (ht : T = "list" ∨ T = "dict" ∨ T = "str") : tyV X.K T v H := by
  have L : ∀ ds, asL S d = some ds → tyV X.K "list" v H := fun ds q => by
    obtain ⟨a, vs, rfl, h1, _⟩ := asL_ok R h q
    exact .inl ⟨rfl, vs, h1⟩
  have M : ∀ ds, asD S d = some ds → tyV X.K "dict" v H := fun ds q => by
    obtain ⟨a, vs, rfl, h1, _⟩ := asD_ok R h q
    exact .inr (.inr (.inl ⟨rfl, .inl ⟨vs, h1⟩⟩))
  cases d with
  | str z => cases e; unfold Dat at h; subst h; rfl
  | lst ds => cases e; exact L ds rfl
  | scr ds => cases e; exact L ds rfl
  | dic ds => cases e; exact M ds rfl
  | oid n =>
    cases hS : S[n]? with
    | none => simp [tyS, hS] at e
    | some so =>
      cases so with
      | lst ds =>
        simp only [tyS, hS, Option.some.injEq] at e
        subst e
        exact L ds (by simp [asL, hS])
      | dic ds =>
        simp only [tyS, hS, Option.some.injEq] at e
        subst e
        exact M ds (by simp [asD, hS])
      | frz d =>
        cases d with
        | lst ds =>
          simp only [tyS, hS, Option.some.injEq] at e
          subst e
          exact L ds (by simp [asL, hS])
        | dic ds =>
          simp only [tyS, hS, Option.some.injEq] at e
          subst e
          exact M ds (by simp [asD, hS])
        | _ => simp [tyS, hS] at e
      | ins _ _ => simp [tyS, hS] at e
      | tbl _ _ => simp [tyS, hS] at e
      | dkt _ => simp [tyS, hS] at e
  | non => cases e; simp at ht
  | bl _ => cases e; simp at ht
  | int _ => cases e; simp at ht
  | tup _ => cases e; simp at ht
  | _ => cases e
theorem de_bm {T id : String} {name : Str} {r : V → List V → Hp → VK → Prop} {g : GM} {fa : FA} (pa : PlainAttrs T) (slot : Slot T name id) (hty : typeOf (.builtin id) = pure (.type "method_descriptor")) (hm : MtR X id r) (hd : MethD X r g) (hT : T = "list" ∨ T = "dict" ∨ T = "str") (ho : DE X W o fo) (ha : DA X W (e :: es) fa)
    (hbase : attributeBase o name X.env (eval o X.env) = eval o X.env := by rfl)
    (hfew : ((backTo cpos (starEach (e :: es) X.env)).all (fun x => !x.1) && (backToKw cpos (keywordEach [] X.env)).all (fun x => x.1.isSome) && decide ((e :: es).length + ([] : List Keyword).length + (if ([] : List Keyword).isEmpty then 0 else 1) < 30)) = true := by rfl)
    (hline : (apos.endLine == cpos.line) = true := by rfl) (hs : starEach (e :: es) X.env = (false, eval e X.env) :: starEach es X.env := by rfl) (hplain : (backTo cpos (starEach es X.env)).any (·.1) = false := by rfl) :
    DE X W (.Call (.Attribute o name apos) (e :: es) [] cpos) (fBM T g fo fa) := by
  obtain ⟨to, po, qo⟩ := ho.ex
  obtain ⟨ta, ppa, qa⟩ := ha.ex
  refine .mk (pe_bm pa slot hty hm po ppa hbase hfew hline hs hplain) fun Z φ S ρ σ H Q R sl w => qo Z φ S ρ σ H _ R sl (w.bind fun x S1 u φ1 H1 R1 E1 d w1 => ?_)
  obtain ⟨⟨h1, h2⟩, w2⟩ := want_if w1
  exact ⟨tyV_ok R1 d h1 hT, qa Z φ1 S1 ρ σ H1 _ R1 (sl.evo E1) (w2.bind fun ds S2 vs φ2 H2 R2 E2 d2 w3 => hd Z φ2 S2 H2 x u ds vs Q _ R2 (Dat.evo E2 d) d2 w3)⟩
theorem de_bm0 {T id : String} {name : Str} {r : V → List V → Hp → VK → Prop} {g : GM} (pa : PlainAttrs T) (slot : Slot T name id) (hty : typeOf (.builtin id) = pure (.type "method_descriptor")) (hm : MtR X id r) (hd : MethD X r g) (hT : T = "list" ∨ T = "dict" ∨ T = "str") (ho : DE X W o fo)
    (hbase : attributeBase o name X.env (eval o X.env) = eval o X.env := by rfl) (hline : (apos.endLine == cpos.line) = true := by rfl) :
    DE X W (.Call (.Attribute o name apos) [] [] cpos) (fBM T g fo (fun _ S => .ok [] S)) := by
  obtain ⟨to, po, qo⟩ := ho.ex
  refine .mk (pe_bm0 pa slot hty hm po hbase hline) fun Z φ S ρ σ H Q R sl w => qo Z φ S ρ σ H _ R sl (w.bind fun x S1 u φ1 H1 R1 E1 d w1 => ?_)
  obtain ⟨⟨h1, h2⟩, w2⟩ := want_if w1
  exact ⟨tyV_ok R1 d h1 hT, hd Z φ1 S1 H1 x u [] [] Q _ R1 d DatL.nil w2⟩
/-- xs.append(x) -/
def gApp : GM := fun x ds S => match x, ds with
  | .oid n, [d] => (match S[n]? with
    | some (.lst xs) => if xs.length < sizeLine then .ok .non (S.set n (.lst (xs ++ [d]))) else .stuck
    | _ => .stuck)
  | _, _ => .stuck
/-- a list of the store is written -/
theorem want_lst {Z φ : List Addr} {S : Store} {H : Hp} {n : Nat} {u : V} {xs ys : List D} {d : D} {E : XK} {Q : VK} (R : Rel X.K X.mg Z φ S H) (dx : Dat X.K X.mg φ (gnd Z φ S H) (.oid n) u) (hS : S[n]? = some (.lst xs)) :
    ∃ l vs, u = .ref l ∧ H l = some (.lst vs) ∧ DatL X.K X.mg φ (gnd Z φ S H) xs vs ∧ ∀ ws x, DatL X.K X.mg φ (gnd Z φ S H) ys ws → Dat X.K X.mg φ (gnd Z φ S H) d x → Want X.K X.mg (RDat X.K X.mg) Z φ S H (.ok d (S.set n (.lst ys))) Q E → Q x (upd H l (.lst ws)) := by
  unfold Dat at dx
  obtain ⟨a, rfl, ha⟩ := dx
  obtain ⟨vs, h1, h2⟩ := R.ob n a _ ha hS
  refine ⟨a, vs, rfl, h1, h2, fun ws x hw hx w => ?_⟩
  obtain ⟨R3, E3⟩ := R.mutate (u := .lst ys) (ho := .lst ws) ha hS rfl rfl ⟨ws, upd_same, hw⟩
  exact w x φ _ R3 E3 (Dat.evo E3 hx)
theorem md_app : MethD X rAppend gApp := fun Z φ S H x u ds vs Q E R dx d w => by
  unfold gApp at w
  split at w
  · obtain ⟨v, rfl, h1⟩ := datL1 d
    split at w
    · rename_i xs hS
      obtain ⟨hl, w1⟩ := want_if w
      obtain ⟨l, us, rfl, h2, h3, fin⟩ := want_lst (Q := Q) (E := E) R dx hS
      exact ⟨l, us, v, rfl, rfl, h2, by rw [h3.length]; exact hl, fin _ _ (h3.append (.cons h1 DatL.nil)) dat_non w1⟩
    · exact w.elim
  · exact w.elim
theorem de_append {fa : FA} (ho : DE X W o fo) (ha : DA X W [e] fa) (hbase : attributeBase o "append" X.env (eval o X.env) = eval o X.env := by rfl)
    (hfew : ((backTo cpos (starEach [e] X.env)).all (fun x => !x.1) && (backToKw cpos (keywordEach [] X.env)).all (fun x => x.1.isSome) && decide ([e].length + ([] : List Keyword).length + (if ([] : List Keyword).isEmpty then 0 else 1) < 30)) = true := by rfl)
    (hline : (apos.endLine == cpos.line) = true := by rfl) (hs : starEach [e] X.env = (false, eval e X.env) :: starEach [] X.env := by rfl) (hplain : (backTo cpos (starEach [] X.env)).any (·.1) = false := by rfl) :
    DE X W (.Call (.Attribute o "append" apos) [e] [] cpos) (fBM "list" gApp fo fa) := de_bm PySem.F.plainAttrs_list PySem.F.slot_list_append PySem.F.type_list_append mt_append md_app (.inl rfl) ho ha hbase hfew hline hs hplain

/-! ### o[i] = e -/
def putKD (ks : List (Key × D)) (k : Key) (d : D) : List (Key × D) := if (ks.any fun q => decide (q.1 = k)) = true then ks.map (fun q => if q.1 = k then (q.1, d) else q) else ks ++ [(k, d)]
theorem datK_append {K : PySem.W.Frag} {mg : Str → Option Value} {φ : List Addr} {G : Hp} {k : Key} {d : D} {v : V} (hd : Dat K mg φ G d v) : ∀ {ks : List (Key × D)} {kvs : List (Key × V)}, DatK K mg φ G ks kvs → DatK K mg φ G (ks ++ [(k, d)]) (kvs ++ [(k, v)])
  | [], _, h => by
    unfold DatK at h
    subst h
    show DatK K mg φ G [(k, d)] [(k, v)]
    unfold DatK
    exact ⟨v, [], rfl, hd, by unfold DatK; rfl⟩
  | (j, e) :: ks, _, h => by
    unfold DatK at h
    obtain ⟨u, r, rfl, h1, h2⟩ := h
    show DatK K mg φ G ((j, e) :: (ks ++ [(k, d)])) ((j, u) :: (r ++ [(k, v)]))
    unfold DatK
    exact ⟨u, _, rfl, h1, datK_append hd h2⟩
theorem datK_put {K : PySem.W.Frag} {mg : Str → Option Value} {φ : List Addr} {G : Hp} {k : Key} {d : D} {v : V} (hd : Dat K mg φ G d v) {ks : List (Key × D)} {kvs : List (Key × V)} (h : DatK K mg φ G ks kvs) : DatK K mg φ G (putKD ks k d) (putK kvs k v) := by
  have any_eq : ∀ {ks : List (Key × D)} {kvs : List (Key × V)}, DatK K mg φ G ks kvs → (ks.any fun q => decide (q.1 = k)) = (kvs.any fun q => decide (q.1 = k)) := by
    intro ks
    induction ks with
    | nil =>
      intro kvs h
      unfold DatK at h
      subst h
      rfl
    | cons q ks ih =>
      intro kvs h
      obtain ⟨j, e⟩ := q
      unfold DatK at h
      obtain ⟨u, r, rfl, h1, h2⟩ := h
      rw [List.any_cons, List.any_cons, ih h2]
  have map_ok : ∀ {ks : List (Key × D)} {kvs : List (Key × V)}, DatK K mg φ G ks kvs → DatK K mg φ G (ks.map fun q => if q.1 = k then (q.1, d) else q) (kvs.map fun q => if q.1 = k then (q.1, v) else q) := by
    intro ks
    induction ks with
    | nil =>
      intro kvs h
      unfold DatK at h
      subst h
      unfold DatK
      rfl
    | cons q ks ih =>
      intro kvs h
      obtain ⟨j, e⟩ := q
      unfold DatK at h
      obtain ⟨u, r, rfl, h1, h2⟩ := h
      rw [List.map_cons, List.map_cons]
      by_cases hj : j = k
      · simp only [hj, if_true]
        unfold DatK
        exact ⟨v, _, rfl, hd, ih h2⟩
      · simp only [hj, if_false]
        unfold DatK
        exact ⟨u, _, rfl, h1, ih h2⟩
  unfold putKD putK
  rw [any_eq h]
  split
  · exact map_ok h
  · exact datK_append hd h
def rSetX (C : Prop) : TSet := fun o i v H Q => rSetL o i v H Q ∨ rSetD o i v H Q
theorem set_any (C : Cn X W k) : PSet X (rSetX True) := fun pins s σ H o i v ov iv u Q I ro ri rv h => h.elim (set_list pins s σ H o i v ov iv u Q I ro ri rv) (set_dict C.u1 pins s σ H o i v ov iv u Q I ro ri rv)
def storeAt (x y d : D) (S : Store) : Option Store := match x with
  | .oid n => match S[n]? with
    | some (.lst ds) => (match y with
      | .int i => (ixN ds.length i).map fun j => S.set n (.lst (ds.set j d))
      | _ => none)
    | some (.dic ks) => (match keyD y with
      | some q => if ks.length < sizeLine then some (S.set n (.dic (putKD ks q d))) else none
      | none => none)
    | _ => none
  | _ => none
theorem storeAt_ok {Z φ : List Addr} {S S' : Store} {H : Hp} {x y d : D} {o i v : V} {Q : Hp → Prop} (R : Rel X.K X.mg Z φ S H) (dx : Dat X.K X.mg φ (gnd Z φ S H) x o) (dy : Dat X.K X.mg φ (gnd Z φ S H) y i) (dd : Dat X.K X.mg φ (gnd Z φ S H) d v) (e : storeAt x y d S = some S')
    (hQ : ∀ H', Rel X.K X.mg Z φ S' H' → Evo Z φ S H φ S' H' → Q H') : rSetX True o i v H Q := by
  unfold storeAt at e
  split at e
  · rename_i n
    unfold Dat at dx
    obtain ⟨a, rfl, ha⟩ := dx
    split at e
    · rename_i ds hS
      split at e
      · rename_i j
        cases dInt dy
        obtain ⟨q, hq, e⟩ := Option.map_eq_some_iff.mp e
        subst e
        obtain ⟨vs, h1, h2⟩ := R.ob n a _ ha hS
        obtain ⟨R3, E3⟩ := R.mutate (u := .lst (ds.set q d)) (ho := .lst (vs.set q v)) ha hS rfl rfl ⟨_, upd_same, h2.set q dd⟩
        exact .inl ⟨a, vs, j, q, rfl, rfl, h1, by rw [h2.length]; exact hq, hQ _ R3 E3⟩
      · cases e
    · rename_i ks hS
      split at e
      · rename_i q hq
        split at e
        · rename_i hl
          cases e
          obtain ⟨kvs, h1, h2⟩ := R.ob n a _ ha hS
          obtain ⟨R3, E3⟩ := R.mutate (u := .dic (putKD ks q d)) (ho := .dK (putK kvs q v)) ha hS rfl rfl ⟨_, upd_same, datK_put dd h2⟩
          exact .inr ⟨a, _, rfl, .inl ⟨kvs, q, h1, keyD_ok dy hq, by rw [datK_length h2]; exact hl, rfl⟩, hQ _ R3 E3⟩
        · cases e
      · cases e
    · cases e
  · cases e
def gPut (fo fi fe : FE) : FS := fun ρ S => (fe ρ S).into ρ fun d S => (fo ρ S).into ρ fun x S => (fi ρ S).into ρ fun y S => match storeAt x y d S with
  | some S => .nx ρ S
  | none => .stuck
theorem ds_put (C : Cn X W k) {fi : FE} {i : Expr} {tpos : Pos} (ho : DE X W o fo) (hi : DE X W i fi) (he : DE X W e fe)
    (ha : ∀ v, assign (.Subscript o i tpos) X.env v = (do
      let ov ← holding [v] (eval o X.env)
      let iv ← holding [v, ov] (eval i X.env)
      standAt tpos
      holding [v, ov, iv] (setItem ov iv v)
      release [v, ov, iv] []) := by intro _; rfl) (hs : swapsWithSole [.Subscript o i tpos] e pos.line X.env = pure false := by rfl) (hw : swappedStores [.Subscript o i tpos] e X.env = pure none := by rfl)
    (h1 : (assignEach [.Subscript o i tpos] X.env).map (·.2) = [assign (.Subscript o i tpos) X.env] := by rfl) : DS X W (.Assign [.Subscript o i tpos] e pos) (gPut fo fi fe) := by
  obtain ⟨to, po, qo⟩ := ho.ex
  obtain ⟨ti, pi, qi⟩ := hi.ex
  obtain ⟨te, pe, qe⟩ := he.ex
  refine .mk (ps_asg pe (pg_sub po pi (set_any C) ha) hs hw h1) fun Z φ S ρ σ H Dd R sl w => qe Z φ S ρ σ H _ R sl (w.into sl fun d S1 v φ1 H1 R1 E1 dd w1 => ?_)
  refine qo Z φ1 S1 ρ σ H1 _ R1 (sl.evo E1) (w1.into (sl.evo E1) fun x S2 ov φ2 H2 R2 E2 dx w2 => ?_)
  refine qi Z φ2 S2 ρ σ H2 _ R2 ((sl.evo E1).evo E2) (w2.into ((sl.evo E1).evo E2) fun y S3 iv φ3 H3 R3 E3 dy w3 => ?_)
  cases hst : storeAt x y d S3 with
  | none => rw [hst] at w3; exact w3.elim
  | some S4 =>
    rw [hst] at w3
    exact storeAt_ok R3 (Dat.evo E3 dx) dy (Dat.evo E3 (Dat.evo E2 dd)) hst fun H4 R4 E4 => w3 σ φ3 H4 R4 E4 ((((sl.evo E1).evo E2).evo E3).evo E4)
/-- {} -/
def fDict0 : FE := fun _ S => .ok (.oid S.length) (S ++ [.dic []])
end
end DL

/-! The data layer, part 15: the law's end. -/
namespace DL
open PySem PySem.Spec PyProof.Rows L2

theorem rel_nil {K : PySem.W.Frag} {mg : Str → Option Value} {H : Hp} : Rel K mg [] [] [] H := ⟨rfl, List.nodup_nil, fun a h => by simp at h, fun a h => by simp at h, fun a h => by simp at h, fun n a o h => by simp at h⟩
theorem gnd_nil {H : Hp} : gnd [] [] [] H = H := by
  funext a
  unfold gnd without
  rw [if_neg (by simp [liveA])]
/-- the law's call, from its mirror -/
theorem law_runs {P : Program} {w : World} {K : PySem.W.Frag} {mg mb : Str → Option Value} {k : Nat} {fa a : Addr} {fd : FuncData} {x : Str} {sem : Sem'} {s1 : Shared} {vs : List Value} {ns : List Int}
    (kin : K.In s1.heap) (hns : s1.heap.Ns mainGlobals mg) (hb : s1.heap.Ns builtinsNs mb) (hbb : ∀ x : Str, x ≠ "__name__" → mb x = bootBuiltins x) (hlim : s1.heap.NoLimit) (gens : s1.gens = #[])
    (ha : s1.heap.get? a = some { cls := .type "list", data := .seq vs.toArray }) (hi : IntsAre vs ns) (hl : ns.length ≤ sizeLine) (room : Room k callerA)
    (F : ∀ base : Heap, K.In base → base.Ns mainGlobals mg → FnG P w K mg base k fa fd [x] (spD K mg 1 sem)) (hbind : ∀ (s : Shared) (u : Value), BindsTo s fd ⟨[u], []⟩ [(x, u)])
    (good : ∃ S, sem [.scr (ns.map D.int)] [] = .ok (.bl true) S) :
    codeAny (model P w) callerA (.call (.ref fa) ⟨[.ref a], []⟩) (fun r s' => r = .ok (.ret (.bool true)) ∧ OldK s1.heap s'.heap ∧ s'.os = s1.os ∧ AllBare s'.gens) s1 := by
  have rv := vals_ints hi
  have spq : ∀ H : Hp, SqL K H a (ns.map V.int) → spD K mg 1 sem [.ref a] H (fun v _ => v = .bl true) fun _ _ _ => False := fun H hq => by
    refine ⟨rfl, [], [], [], [.scr (ns.map D.int)], rel_nil, .cons ?_ DatL.nil, ?_⟩
    · unfold Dat
      exact ⟨a, _, rfl, by rw [gnd_nil]; exact hq, dat_ints ns⟩
    · obtain ⟨S, e⟩ := good
      rw [e]
      intro v φ' H' _ _ d
      unfold RDat Dat at d
      exact d
  -- nothing but the script may be tracked
  have main : ∀ H : Hp, Only H → SqL K H a (ns.map V.int) → HOk P w H s1.heap → (∀ b, H b ≠ none → b = a) → (H a ≠ none → K.lookup a = none) →
      codeAny (model P w) callerA (.call (.ref fa) ⟨[.ref a], []⟩) (fun r s' => r = .ok (.ret (.bool true)) ∧ OldK s1.heap s'.heap ∧ s'.os = s1.os ∧ AllBare s'.gens) s1 := by
    intro H only hq hok alone free
    have dic : ∀ {b : Addr} {o : Obj} {es : Array DictEntry} {ep : Nat}, s1.heap.get? b = some o → o.data = .dict es ep → H b = none := fun {b o es ep} e d => by
      cases q : H b with
      | none => rfl
      | some u =>
        cases alone b (by rw [q]; exact fun z => nomatch z)
        rw [ha] at e
        cases e
        exact nomatch (show Data.seq vs.toArray _ = Data.dict es ep from d)
    have ns2 : ∀ {b : Addr} {m : Str → Option Value}, s1.heap.Ns b m → (hidT s1.heap H).Ns b m := fun {b m} ⟨o, es, ep, e, d, r⟩ => ⟨o, es, ep, hidT_get e (dic e d), d, r⟩
    have kin2 : K.In (hidT s1.heap H) := fun b o e => hidT_get (kin b o e) (by
      cases q : H b with
      | none => rfl
      | some u =>
        cases alone b (by rw [q]; exact fun z => nomatch z)
        rw [free (by rw [q]; exact fun z => nomatch z)] at e
        cases e)
    obtain ⟨mc, c1, c2⟩ := hlim
    have env0 : Env0 P w K mg (hidT s1.heap H) callerA [] s1 H := ⟨rfl, ⟨kin2, ns2 hns, ⟨mb, ns2 hb, hbb⟩, ⟨mc, ns2 c1, c2⟩⟩, fun b o e => of_hidT e, Nat.le_of_eq (hidT_size _ _), trivial, fun b z => absurd (show b ∈ ([] : List Addr) from z) (by simp), hok, .of_eq gens⟩
    refine codeAny_mono ((F _ kin2 (ns2 hns)).run callerA [] s1 H ⟨[.ref a], []⟩ [.ref a] [.ref a] _ _ room rfl env0 (hbind s1 (.ref a)) (.cons rfl .nil) (spq H hq)) fun r s' h => ?_
    match r, h with
    | .error e, ⟨_, _, _, _, _, _, _, _, _, _, _, _, z⟩ => exact z.elim
    | .ok (.ret u), ⟨v, H', os, bare, un, hok', rr, q⟩ =>
      cases (show v = .bl true from q)
      obtain rfl : u = Value.bool true := rr
      refine ⟨rfl, OldK.of_keep fun b o e => ?_, os, bare⟩
      rcases only b with z | ⟨ob, xs, z⟩
      · exact un.keep b o e z (fun y => absurd (show b ∈ ([] : List Addr) from y) (by simp)) (by simp)
      · obtain ⟨e1, _⟩ := hok b _ z
        obtain ⟨e2, _⟩ := hok' b _ (un.frzs b ob _ z)
        rw [e] at e1
        cases e1
        exact e2
  cases kl : K.lookup a with
  | some o =>
    have e := kin a o kl
    rw [ha] at e
    cases e
    exact main (fun _ => none) (fun _ => .inl rfl) (.inr ⟨_, vs.toArray, _, kl, rfl, rfl, rfl, by rw [List.size_toArray, hi.length]; exact hl, by simpa using rv⟩) (fun b u z => nomatch (show (none : Option HO) = some u from z)) (fun b z => absurd rfl z) fun z => absurd rfl z
  | none =>
    have at_a : (fun b => if b = a then some (HO.frz { cls := .type "list", data := .seq vs.toArray } (.lst (ns.map V.int))) else none) a = some (HO.frz { cls := .type "list", data := .seq vs.toArray } (.lst (ns.map V.int))) := if_pos rfl
    refine main (fun b => if b = a then some (.frz { cls := .type "list", data := .seq vs.toArray } (.lst (ns.map V.int))) else none) (fun b => ?_) (.inl (.inr ⟨_, at_a⟩)) (fun b u z => ?_) (fun b z => ?_) fun _ => kl
    · by_cases q : b = a
      · exact .inr ⟨_, _, if_pos q⟩
      · exact .inl (if_neg q)
    · by_cases q : b = a
      · have z' := (if_pos q).symm.trans z
        cases z'
        subst q
        exact ⟨ha, by rw [List.length_map]; exact hl, vs, _, rv, ha⟩
      · exact nomatch (if_neg q).symm.trans z
    · by_cases q : b = a
      · exact q
      · exact absurd (if_neg q) z
/-- a law over a head by facts -/
theorem walk_ofG {l : PySem.W.OpenLaw} {n k : Nat} {q : Program} {loose : List Str} {XP : (Str → Option Value) → Heap → Prop} {YP : World → Heap → Prop} {d : DefRec} {x : Str} {sem : Sem'}
    (hn : l.most = some n) (hn2 : n ≤ sizeLine) (hdf : d.params.defaults = []) (room : Room k callerA) (good : ∀ ns : List Int, ns.length ≤ n → ∃ S, sem [.scr (ns.map D.int)] [] = .ok (.bl true) S)
    (F : ∀ (w : World) (mg : Str → Option Value) (fa : Addr) (h : Heap), YP w h → h.Ns mainGlobals mg → mg d.name = some (.ref fa) →
      ∃ (K : PySem.W.Frag) (fd : FuncData), K.In h ∧ (∀ (s : Shared) (u : Value), BindsTo s fd ⟨[u], []⟩ [(x, u)]) ∧ ∀ base : Heap, K.In base → base.Ns mainGlobals mg → FnG l.prog w K mg base k fa fd [x] (spD K mg 1 sem)) :
    PySem.W.WalkO q loose XP YP l.row.toRowW d [] (fun f vs => PySem.call f vs) := by
  refine Att.attach_call hn hdf fun w s0 s1 mg mb fa o pm cd doc a vs ns G Y ho hd hcd hmg hob hints hlen gens => ?_
  obtain ⟨K, fd, kin, hb, hF⟩ := F w mg fa _ Y G.T.g hmg
  exact law_runs kin G.T.g G.T.b G.T.builtins G.T.nolimit gens hob hints (Nat.le_trans hlen hn2) room hF hb (good ns hlen)
section
variable {X : Cx} {W : WX} {k : Nat}
/-- a comprehension; the block's context is handed in -/
theorem de_lcB (C : Cn X W k) {fin : Fin'} (hf : FinOk fin) {elt tg iter : Expr} {ifs : List Expr} {scope : Scope} {own : List (Str × Nat)} {pos : Pos} {fi : FI} {is : List Nat} {m : FG} {ft : FT} {fe : FE} (hi : DI X W tg iter fi) (ok : BlkOk X.N X.env.scope scope own)
    (hg : ∀ (s : Shared) (H : Hp) (Ca : Addr) (cl : List (Str × Addr)) (fp : List Addr), Cn (X.blk s H scope (compEnvC scope cl Ca X.env) fp) W0 k → DG (X.blk s H scope (compEnvC scope cl Ca X.env) fp) tg is m)
    (ht : ∀ (s : Shared) (H : Hp) (Ca : Addr) (cl : List (Str × Addr)) (fp : List Addr), Cn (X.blk s H scope (compEnvC scope cl Ca X.env) fp) W0 k → DTs (X.blk s H scope (compEnvC scope cl Ca X.env) fp) W0 ifs ft)
    (he : ∀ (s : Shared) (H : Hp) (Ca : Addr) (cl : List (Str × Addr)) (fp : List Addr), Cn (X.blk s H scope (compEnvC scope cl Ca X.env) fp) W0 k → DE (X.blk s H scope (compEnvC scope cl Ca X.env) fp) W0 elt fe)
    (hio : ∀ i ∈ is, i ∈ own.map (·.2) := by decide) (hs : ∀ x, foldedSetIterable iter X.env x = pure x := by intro _; rfl) :
    DE X W (.ListComp elt [⟨tg, iter, ifs, 0⟩] scope pos) (fComp fi m ft fe (own.map (·.2)) fin) :=
  de_lc C hf hi ok (fun s H Ca cl fp => hg s H Ca cl fp C.blk) (fun s H Ca cl fp => ht s H Ca cl fp C.blk) (fun s H Ca cl fp => he s H Ca cl fp C.blk) hio hs
theorem ds_setLcB (C : Cn X W k) {fin : Fin'} (hf : FinOk fin) {i : Nat} {y : Str} {py spos : Pos} {elt tg iter : Expr} {ifs : List Expr} {scope : Scope} {own : List (Str × Nat)} {pos : Pos} {fi : FI} {is : List Nat} {m : FG} {ft : FT} {fe : FE} (hy : X.N[i]? = some y) (hyl : X.env.scope.names.lookup y = some .local)
    (hsw : swapsWith (.ListComp elt [⟨tg, iter, ifs, 0⟩] scope pos) (some (.Name y py)) spos.line X.env = pure true) (hi : DI X W tg iter fi) (ok : BlkOk X.N X.env.scope scope own)
    (hg : ∀ (s : Shared) (H : Hp) (Ca : Addr) (cl : List (Str × Addr)) (fp : List Addr), Cn (X.blk s H scope (compEnvC scope cl Ca X.env) fp) W0 k → DG (X.blk s H scope (compEnvC scope cl Ca X.env) fp) tg is m)
    (ht : ∀ (s : Shared) (H : Hp) (Ca : Addr) (cl : List (Str × Addr)) (fp : List Addr), Cn (X.blk s H scope (compEnvC scope cl Ca X.env) fp) W0 k → DTs (X.blk s H scope (compEnvC scope cl Ca X.env) fp) W0 ifs ft)
    (he : ∀ (s : Shared) (H : Hp) (Ca : Addr) (cl : List (Str × Addr)) (fp : List Addr), Cn (X.blk s H scope (compEnvC scope cl Ca X.env) fp) W0 k → DE (X.blk s H scope (compEnvC scope cl Ca X.env) fp) W0 elt fe)
    (hio : ∀ i ∈ is, i ∈ own.map (·.2) := by decide) (hs : ∀ x, foldedSetIterable iter X.env x = pure x := by intro _; rfl) :
    DS X W (.Assign [.Name y py] (.ListComp elt [⟨tg, iter, ifs, 0⟩] scope pos) spos) (gSet i (fComp fi m ft fe (own.map (·.2)) fin)) :=
  ds_setLc C hf hy hyl hsw hi ok (fun s H Ca cl fp => hg s H Ca cl fp C.blk) (fun s H Ca cl fp => ht s H Ca cl fp C.blk) (fun s H Ca cl fp => he s H Ca cl fp C.blk) hio hs
end
end DL

/-! The data layer, part 16: dict comprehensions, augmented assignment, list.index. -/
namespace DL
open PySem PySem.Spec PyProof.Rows L2
section
variable {X : Cx} {W : WX} {k : Nat}
end
end DL

/-! The data layer, part 17: list.index, name op= e. -/
namespace DL
open PySem PySem.Spec PyProof.Rows L2
section
variable {X : Cx} {W : WX} {k : Nat} {o e : Expr} {fo fe : FE} {pos apos cpos : Pos}
theorem Cn.u65 (C : Cn X W k) : X.A.units + 65 < cLine := by have := C.room.un; omega
/-! ### name op= e -/
def gIp (f : Int → Int → Int) : G2 := fun x y S => match x, y with
  | .int i, .int j => .ok (.int (f i j)) S
  | _, _ => .stuck
def gAug (i : Nat) (fe : FE) (g : G2) : FS := fun ρ S => match ρ[i]? with
  | some (some x) => (fe ρ S).into ρ fun y S => (g x y S).into ρ fun z S => .nx (ρ.set i (some z)) S
  | _ => .stuck
end
end DL

/-! The data layer, part 18: own classes as values, isinstance with them, == by an own __eq__, a head with more facts. -/
namespace DL
open PySem PySem.Spec PyProof.Rows L2
/-- what isinstance(x, C) asks of the text's own class C -/
structure IsiC (K : PySem.W.Frag) (C : Addr) : Prop where
  ha : PySem.W.findIn K (.ref C) "__class__" = some (some (.builtin "object.__class__"))
  hn : PySem.W.specialIn K (.builtin "object.__class__") "__get__" = some (some (.builtin "getset_descriptor.__get__"))
  htk : PySem.W.takesIn K (.builtin "object.__class__") = some true
  hm : PySem.W.mroIn K C (.type "object") = some true
section
variable {X : Cx} {W : WX} {k : Nat} {e b : Expr} {pos p : Pos}
/-- an own class as a value -/
theorem de_own {x : Str} {C : Addr} (hg : Gl X x) (hm : X.mg x = some (.ref C)) (hd : (x == ("__debug__" : Str)) = false := by decide) : DE X W (.Name x pos) (fC (.cls x)) :=
  de_c (pe_glob (v := .ref C) hg hm rfl hd) rfl fun _ _ => by unfold Dat; exact ⟨C, rfl, hm⟩
/-! ### == by an own __eq__ that answers True -/
end
/-! ### a head with more facts -/
end DL

/-! The data layer, part 19: freezing to the bottom. -/
namespace DL
open PySem PySem.Spec PyProof.Rows L2
section
variable {K : PySem.W.Frag} {mg : Str → Option Value} {Z φ : List Addr} {H : Hp}
end
section
variable {X : Cx} {W : WX} {k : Nat} {e : Expr} {fe : FE}
end
end DL

/-! The data layer, part 20: name = {k: v for ..}, the name a local that is not captured. -/
namespace DL
open PySem PySem.Spec PyProof.Rows L2
section
variable {X : Cx} {W : WX} {k : Nat}
end
end DL

/-! The data layer, part 21: a comprehension within a comprehension. -/
namespace DL
open PySem PySem.Spec PyProof.Rows L2
def relS (scope outer : Scope) : Scope := { scope with names := scope.names.map fun (n, k) => if (k == NameKind.free && outer.kind == .function && outer.names.lookup n == some .cell) then (n, NameKind.cell) else (n, k) }
theorem compScope {scope sc0 : Scope} {cl : List (Str × Addr)} {Ca : Addr} {env : Env} (h : env.scope = sc0) : (compEnvC scope cl Ca env).scope = relS scope sc0 := by
  subst h
  rfl
section
variable {X : Cx} {W : WX} {k : Nat}
theorem de_lcN (C : Cn X W k) {fin : Fin'} (hf : FinOk fin) {elt tg iter : Expr} {ifs : List Expr} {scope sc : Scope} {own : List (Str × Nat)} {pos : Pos} {fi : FI} {is : List Nat} {m : FG} {ft : FT} {fe : FE} (hsc : X.env.scope = sc) (hi : DI X W tg iter fi) (ok : BlkOk X.N sc scope own)
    (hg : ∀ (s : Shared) (H : Hp) (Ca : Addr) (cl : List (Str × Addr)) (fp : List Addr), Cn (X.blk s H scope (compEnvC scope cl Ca X.env) fp) W0 k → DG (X.blk s H scope (compEnvC scope cl Ca X.env) fp) tg is m)
    (ht : ∀ (s : Shared) (H : Hp) (Ca : Addr) (cl : List (Str × Addr)) (fp : List Addr), Cn (X.blk s H scope (compEnvC scope cl Ca X.env) fp) W0 k → DTs (X.blk s H scope (compEnvC scope cl Ca X.env) fp) W0 ifs ft)
    (he : ∀ (s : Shared) (H : Hp) (Ca : Addr) (cl : List (Str × Addr)) (fp : List Addr), Cn (X.blk s H scope (compEnvC scope cl Ca X.env) fp) W0 k → DE (X.blk s H scope (compEnvC scope cl Ca X.env) fp) W0 elt fe)
    (hio : ∀ i ∈ is, i ∈ own.map (·.2) := by decide) (hs : ∀ x, foldedSetIterable iter X.env x = pure x := by intro _; rfl) :
    DE X W (.ListComp elt [⟨tg, iter, ifs, 0⟩] scope pos) (fComp fi m ft fe (own.map (·.2)) fin) := by
  subst hsc
  exact de_lcB C hf hi ok hg ht he hio hs
end
end DL

/-! The data layer, part 22: list.pop, list(range(..)), zip, slices. -/
namespace DL
open PySem PySem.Spec PyProof.Rows L2
section
variable {X : Cx} {W : WX} {k : Nat} {o e : Expr} {fo fe : FE} {pos apos cpos p p2 : Pos}
/-! ### xs.pop(i), xs.pop() -/
def gPop0 : GM := fun x ds S => match x, ds with
  | .oid n, [] => (match S[n]? with
    | some (.lst xs) => (match xs[xs.length - 1]? with
      | some d => .ok d (S.set n (.lst xs.dropLast))
      | none => .stuck)
    | _ => .stuck)
  | _, _ => .stuck
theorem DatL.dropLast {K : PySem.W.Frag} {mg : Str → Option Value} {φ : List Addr} {G : Hp} {ds : List D} {vs : List V} (h : DatL K mg φ G ds vs) : DatL K mg φ G ds.dropLast vs.dropLast := by
  rw [List.dropLast_eq_take, List.dropLast_eq_take, h.length]
  exact h.take _
theorem md_pop0 : MethD X rPop gPop0 := fun Z φ S H x u ds vs Q E R dx d w => by
  unfold gPop0 at w
  split at w
  · unfold DatL at d
    subst d
    split at w
    · rename_i xs hS
      split at w
      · rename_i y hy
        unfold Dat at dx
        obtain ⟨a, rfl, ha⟩ := dx
        obtain ⟨us, h2, h3⟩ := R.ob _ a _ ha hS
        obtain ⟨z, hz, dz⟩ := h3.get hy
        refine ⟨a, us, z, rfl, rfl, h2, by rw [h3.length]; exact hz, ?_⟩
        obtain ⟨R3, E3⟩ := R.mutate (u := .lst xs.dropLast) (ho := .lst us.dropLast) ha hS rfl rfl ⟨_, upd_same, h3.dropLast⟩
        exact w z φ _ R3 E3 (Dat.evo E3 dz)
      · exact w.elim
    · exact w.elim
  · exact w.elim
theorem de_pop0 (ho : DE X W o fo) (hbase : attributeBase o "pop" X.env (eval o X.env) = eval o X.env := by rfl) (hline : (apos.endLine == cpos.line) = true := by rfl) :
    DE X W (.Call (.Attribute o "pop" apos) [] [] cpos) (fBM "list" gPop0 fo (fun _ S => .ok [] S)) := de_bm0 PySem.F.plainAttrs_list PySem.F.slot_list_pop PySem.F.type_list_pop mt_pop md_pop0 (.inl rfl) ho hbase hline
/-! ### list(range(n)) -/
/-! ### zip -/
def zipD : List D → List D → List D := List.zipWith fun x y => .tup [x, y]
theorem gnd_some {Z φ : List Addr} {S : Store} {H : Hp} {a : Addr} {u : HO} (h : gnd Z φ S H a = some u) : H a = some u := (without_some.mp h).2
/-! ### slices -/
def cutD (xs : List D) (lo hi : Option Int) : List D := (xs.drop (HT.sIx xs.length 0 lo)).take (HT.sIx xs.length xs.length hi - HT.sIx xs.length 0 lo)
def gSl (x : D) (lo hi : Option Int) (S : Store) : Res D := match x with
  | .tup xs => if HT.sIx xs.length 0 lo = 0 ∧ HT.sIx xs.length xs.length hi = xs.length then .stuck else .ok (.tup (cutD xs lo hi)) S
  | d => match asL S d with
    | some xs => .ok (.lst (cutD xs lo hi)) S
    | none => .stuck
abbrev FO := EnvD → Store → Res (Option Int)
def fPartN : FO := fun _ S => .ok none S
def fPart (f : FE) : FO := fun ρ S => (f ρ S).bind fun d S => match d with
  | .int i => .ok (some i) S
  | _ => .stuck
def tDO (K : PySem.W.Frag) (mg : Str → Option Value) (W : WX) (f : FO) : TO := fun σ H Q => ∃ Z φ S ρ, Rel K mg Z φ S H ∧ Slots K mg φ (gnd Z φ S H) ρ σ ∧ Want K mg REq Z φ S H (f ρ S) Q (WE W σ)
def DO (X : Cx) (W : WX) (e : Option Expr) (f : FO) : Prop := PO X e (tDO X.K X.mg W f)
theorem do_none : DO X W none fPartN := ⟨fun pins s σ H Q I h => (po_none (X := X)).run pins s σ H Q I (by
  obtain ⟨Z, φ, S, ρ, R, sl, w⟩ := h
  exact w.now R rfl)⟩
theorem do_some (he : DE X W e fe) : DO X W (some e) (fPart fe) := by
  obtain ⟨t, pe, q⟩ := he.ex
  refine ⟨fun pins s σ H Q I h => (po_some pe).run pins s σ H Q I ?_⟩
  obtain ⟨Z, φ, S, ρ, R, sl, w⟩ := h
  refine q Z φ S ρ σ H _ R sl (w.bind fun d S1 v φ1 H1 R1 E1 dd w1 => ?_)
  cases d with
  | int i =>
    cases dInt dd
    exact ⟨i, rfl, w1.now R1 rfl⟩
  | _ => exact w1.elim
def fSl (fx : FE) (fl fh : FO) : FE := fun ρ S => (fx ρ S).bind fun x S => (fl ρ S).bind fun l S => (fh ρ S).bind fun h S => gSl x l h S
theorem cut_dat {φ : List Addr} {G : Hp} {xs : List D} {vs : List V} (h : DatL X.K X.mg φ G xs vs) (lo hi : Option Int) : DatL X.K X.mg φ G (cutD xs lo hi) (cutV vs lo hi) := by
  unfold cutD cutV
  rw [h.length]
  exact (h.drop _).take _
theorem de_slice {lo hi : Option Expr} {fl fh : FO} (hx : DE X W e fe) (hl : DO X W lo fl) (hh : DO X W hi fh) : DE X W (.Subscript e (.Slice lo hi none p2) pos) (fSl fe fl fh) := by
  obtain ⟨t, pe, q⟩ := hx.ex
  refine .mk (pe_slice (sl_tup.or sl_list) pe hl hh) fun Z φ S ρ σ H Q R sl w => q Z φ S ρ σ H _ R sl (w.bind fun x S1 v φ1 H1 R1 E1 d w1 => ?_)
  refine ⟨Z, φ1, S1, ρ, R1, sl.evo E1, w1.bind fun l S2 l' φ2 H2 R2 E2 el w2 => ?_⟩
  cases el
  refine ⟨Z, φ2, S2, ρ, R2, (sl.evo E1).evo E2, w2.bind fun h S3 h' φ3 H3 R3 E3 eh w3 => ?_⟩
  cases eh
  have d3 : Dat X.K X.mg φ3 (gnd Z φ3 S3 H3) x v := Dat.evo E3 (Dat.evo E2 d)
  unfold gSl at w3
  split at w3
  · rename_i xs
    by_cases hc : HT.sIx xs.length 0 l = 0 ∧ HT.sIx xs.length xs.length h = xs.length
    · rw [if_pos hc] at w3
      exact w3.elim
    · rw [if_neg hc] at w3
      unfold Dat at d3
      obtain ⟨a, vs, rfl, q1, q2⟩ := d3
      refine .inl ⟨a, vs, rfl, sqt_mono (fun b u hb => gnd_some hb) q1, by rw [q2.length]; exact hc, fun p hp => ?_⟩
      obtain ⟨r, e, g⟩ := dat_newT R3 (cut_dat q2 l h) hp
      exact w3 _ _ _ r e g
  · split at w3
    · rename_i xs hq
      obtain ⟨a, vs, rfl, q1, q2⟩ := asL_ok R3 d3 hq
      refine .inr ⟨a, vs, rfl, q1, fun p hp => ?_⟩
      obtain ⟨r, e, g⟩ := dat_newL R3 (cut_dat q2 l h) hp
      exact w3 _ _ _ r e g
    · exact w3.elim
end
end DL

/-! The data layer, part 23: dict.get. -/
namespace DL
open PySem PySem.Spec PyProof.Rows L2
section
variable {X : Cx} {W : WX} {k : Nat} {o e f : Expr} {fo fe ff : FE} {pos apos cpos p p2 : Pos}
def gGet (x y z : D) (S : Store) : Res D := match asD S x, keyD y with
  | some ks, some j => .ok ((valD ks j).getD z) S
  | _, _ => .stuck
def fGet1 (fo fe : FE) : FE := fun ρ S => (fo ρ S).bind fun x S => if (asD S x).isSome then (fe ρ S).bind fun y S => gGet x y .non S else .stuck
def fGet2 (fo fe ff : FE) : FE := fun ρ S => (fo ρ S).bind fun x S => if (asD S x).isSome then (fe ρ S).bind fun y S => (ff ρ S).bind fun z S => gGet x y z S else .stuck
end
end DL

/-! The data layer, part 24: a, b = e, f and a, b, c = e, f, g, all names locals that are not captured. -/
namespace DL
open PySem PySem.Spec PyProof.Rows L2
section
variable {X : Cx} {W : WX} {k : Nat} {a b c : Expr} {pos : Pos}
def gPar (i j : Nat) (fa : FA) : FS := fun ρ S => (fa ρ S).into ρ fun ds S => match ds with
  | [x, y] => .nx ((ρ.set i (some x)).set j (some y)) S
  | _ => .stuck
theorem ds_par (C : Cn X W k) {i j : Nat} {x y : Str} {fa : FA} {px py pt : Pos} {kt k2 pt2} (hi : X.N[i]? = some x) (hj : X.N[j]? = some y) (hij : i ≠ j)
    (hx : X.env.scope.names.lookup x = some .local) (hy : X.env.scope.names.lookup y = some .local) (ha : DA X W [a, b] fa)
    (hw : swappedStores [.Tuple [.Name x px, .Name y py] kt pt] (.Tuple [a, b] k2 pt2) X.env = pure (some [x, y]))
    (hs : swapsWithSole [.Tuple [.Name x px, .Name y py] kt pt] (.Tuple [a, b] k2 pt2) pos.line X.env = pure false := by rfl) :
    DS X W (.Assign [.Tuple [.Name x px, .Name y py] kt pt] (.Tuple [a, b] k2 pt2) pos) (gPar i j fa) := by
  obtain ⟨t, p, q⟩ := ha.ex
  refine .mk (ps_par C.calm C.nd hi hj hij hx hy p hw hs) fun Z φ S ρ σ H Dd R sl w => q Z φ S ρ σ H _ R sl (w.into sl fun ds S1 vs φ1 H1 R1 E1 d w1 => ?_)
  split at w1
  · obtain ⟨u, v, rfl, h1, h2⟩ := datL2 d
    exact ⟨u, v, rfl, w1 _ φ1 H1 R1 Evo.refl (((sl.evo E1).set h1).set h2)⟩
  · exact w1.elim
end
end DL

/-! The data layer, part 25: () + t. -/
namespace DL
open PySem PySem.Spec PyProof.Rows L2
section
variable {X : Cx} {W : WX} {a b : Expr} {fa fb : FE} {pos : Pos}
end
end DL

/-! The data layer, part 26: len(x) by an own __len__. -/
namespace DL
open PySem PySem.Spec PyProof.Rows L2
section
variable {X : Cx} {W : WX} {k n : Nat} {e : Expr} {pos p : Pos} {C f : Addr} {fd : FuncData} {ps : List Str} {sem : Sem'}
end
end DL

/-! The data layer, part 27: list(zip(xs, ys)). -/
namespace PySem
open PySem.Spec PySem.Calls PyProof.Rows PySem.W L2
namespace F
end F
section
variable {prog : Program} {w : World} {A : Around} {E : Value → Shared → Prop} {s : Shared}
/-- an iterator that lays a new object at each turn -/
structure NewSrc (prog : Program) (w : World) (A : Around) (e : Addr) (wr fp : List Addr) (n : Nat) (PT : Nat → Obj → Prop) (St : Nat → Heap → Prop) : Prop where
  frame : ∀ i h h' S, St i h → S ∉ fp → (∀ b o, b ≠ S → h.get? b = some o → h'.get? b = some o) → (∀ o, h.get? S = some o → ∃ o', h'.get? S = some o') → St i h'
  item : ∀ i (s : Shared) (Q : Option Value → Shared → Prop) (E : Value → Shared → Prop), i < n → St i s.heap →
    (∀ h' tk o, PT i o → St (i + 1) h' → h'.get? s.heap.objs.size = some o → h'.objs.size = s.heap.objs.size + 1 → (∀ b o, b ∉ wr → s.heap.get? b = some o → h'.get? b = some o) → Q (some (.ref s.heap.objs.size)) { s with heap := h', toks := tk }) → wpAny (model prog w) A (pyNext (.ref e)) Q E s
  done : ∀ (s : Shared) (Q : Option Value → Shared → Prop) (E : Value → Shared → Prop), St n s.heap → (∀ h' tk, (∀ b o, b ∉ wr → s.heap.get? b = some o → h'.get? b = some o) → Q none { s with heap := h', toks := tk }) → wpAny (model prog w) A (pyNext (.ref e)) Q E s
  sub : ∀ b ∈ wr, b ∈ fp
/-- the objects laid so far -/
structure NwG (PT : Nat → Obj → Prop) (lo : Addr) (h : Heap) (as : List Addr) : Prop where
  asc : as.Pairwise (· < ·)
  above : ∀ a ∈ as, lo < a
  at_ : ∀ (j : Nat) (a : Addr), as[j]? = some a → ∃ o, PT j o ∧ h.get? a = some o
/-- a zip of two lists, at any turn -/
def ZpAt (z TI TO i1 i2 l1 l2 : Addr) (xs ys : Array Value) (i : Nat) (h : Heap) : Prop := IsPair h TI (.ref i1) (.ref i2) ∧ h.IsListIter i1 l1 i ∧ h.IsListIter i2 l2 i ∧ h.IsList l1 xs ∧ h.IsList l2 ys ∧
  ((IsZip h z TI TO .none ∧ ∃ a b, IsPair h TO a b) ∨ ∃ T f oT, IsZipHeld h z TI TO T f ∧ h.get? T = some oT ∧ T ≠ z ∧ T ≠ i1 ∧ T ≠ i2)
theorem ZpAt.type {z TI TO i1 i2 l1 l2 : Addr} {xs ys : Array Value} {i : Nat} (x : ZpAt z TI TO i1 i2 l1 l2 xs ys i s.heap) : s.TypeIs (.ref z) "zip" := by
  rcases x.2.2.2.2.2 with ⟨hz, _⟩ | ⟨T, f, oT, hz, _⟩ <;> exact ⟨_, hz, rfl⟩
end
end PySem

/-! The data layer, part 28: list(zip(xs, ys)) on data. -/
namespace DL
open PySem PySem.Spec PyProof.Rows L2
section
variable {K : PySem.W.Frag} {mg : Str → Option Value} {Z φ : List Addr} {S : Store}
end
section
variable {X : Cx} {W : WX} {k : Nat} {a b : Expr} {fa : FA} {pos p p2 q2 : Pos}
def gLZip : GC := fun ds S => match ds with
  | [.lst xs, .lst ys] => .ok (.lst (zipD xs ys)) S
  | _ => .stuck
@[simp] theorem e_gLZip (xs ys : List D) (S : Store) : gLZip [.lst xs, .lst ys] S = .ok (.lst (zipD xs ys)) S := rfl
end
end DL

/-! The data layer, part 29: the whole of a tuple as a slice; t[::-1]; int(truth). -/
namespace HT
open PySem PySem.Spec PyProof.Rows
section
variable {prog : Program} {w : World} {A : Around} {E : Value → Shared → Prop} {s : Shared}
end
end HT
namespace L2
open PySem PySem.Spec PyProof.Rows
section
variable {X : Cx}
end
end L2
namespace DL
open PySem PySem.Spec PyProof.Rows L2
section
variable {X : Cx} {W : WX} {k : Nat} {e : Expr} {fe : FE} {pos p p1 p2 p3 : Pos}
def gRevT (x : D) (S : Store) : Res D := match x with
  | .tup xs => .ok (.tup xs.reverse) S
  | _ => .stuck
/-- slices, the whole of a tuple too -/
def gSlW (x : D) (lo hi : Option Int) (S : Store) : Res D := match x with
  | .tup xs => if HT.sIx xs.length 0 lo = 0 ∧ HT.sIx xs.length xs.length hi = xs.length then .ok (.tup xs) S else .ok (.tup (cutD xs lo hi)) S
  | d => match asL S d with
    | some xs => .ok (.lst (cutD xs lo hi)) S
    | none => .stuck
def fSlW (fx : FE) (fl fh : FO) : FE := fun ρ S => (fx ρ S).bind fun x S => (fl ρ S).bind fun l S => (fh ρ S).bind fun h S => gSlW x l h S
/-- int(truth) -/
def gIntB : GC := fun ds S => match ds with
  | [.int i] => .ok (.int i) S
  | [.bl b] => .ok (.int (if b then 1 else 0)) S
  | _ => .stuck
theorem de_intB {fa : FA} (hg : Gl X "int") (hm : X.mg "int" = none) (ha : DA X W [e] fa) (he : starEach [e] X.env = (false, eval e X.env) :: starEach [] X.env := by rfl) (hpl : (backTo pos (starEach [] X.env)).any (·.1) = false := by rfl) :
    DE X W (.Call (.Name "int" p) [e] [] pos) (fCB gIntB fa) :=
  de_callTy call_int1 (fun Z φ S H ds vs Q E R d w => by
    unfold gIntB at w
    split at w
    · obtain ⟨v, rfl, h1⟩ := datL1 d
      cases dInt h1
      exact .inl ⟨_, rfl, w.now R (dat_int _)⟩
    · obtain ⟨v, rfl, h1⟩ := datL1 d
      unfold Dat at h1
      subst h1
      exact .inr ⟨_, rfl, w.now R (dat_int _)⟩
    · exact w.elim) hg hm (by rfl) ha (by decide) (by decide) he hpl
@[simp] theorem e_gRevT (xs : List D) (S : Store) : gRevT (.tup xs) S = .ok (.tup xs.reverse) S := rfl
@[simp] theorem e_fSlW (fx : FE) (fl fh : FO) (ρ : EnvD) (S : Store) : fSlW fx fl fh ρ S = (fx ρ S).bind fun x S => (fl ρ S).bind fun l S => (fh ρ S).bind fun h S => gSlW x l h S := rfl
@[simp] theorem e_gIntB_b (b : Bool) (S : Store) : gIntB [.bl b] S = .ok (.int (if b then 1 else 0)) S := rfl
end
end DL

/-! The data layer, part 30: x in l, deep. -/
namespace DL
open PySem PySem.Spec PyProof.Rows L2
section
variable {X : Cx} {W : WX} {k : Nat}
def gInP : G2 := fun x y S => match pyOf S x, pyOf S y with
  | some d, some (.list es) => if SeqAt.shaped d && SeqAt.shaped (.list es) then .ok (.bl (es.any fun z => PyData.eqv z d)) S else .stuck
  | _, _ => .stuck
theorem opd_inP : OpD X (L2.rInD X.K) gInP := fun Z φ S H x y u v Q E R dx dy w => by
  unfold gInP at w
  split at w
  · rename_i d es e1 e2
    obtain ⟨h, w1⟩ := want_if w
    rw [Bool.and_eq_true] at h
    exact ⟨d, es, pyOf_ok R dx e1, pyOf_ok R dy e2, h.1, h.2, w1.now R (dat_bl _)⟩
  · exact w.elim
end
end DL

/-! The data layer, part 31: texts: split, join, startswith, int(text), str(number), f'..', text[lo:hi]. -/
namespace DL
open PySem PySem.Spec PyProof.Rows L2
section
variable {X : Cx} {W : WX} {k : Nat} {o e : Expr} {fo fe : FE} {pos apos cpos p p2 : Pos}
theorem dat_strs {φ : List Addr} {G : Hp} : ∀ ys : List Str, DatL X.K X.mg φ G (ys.map D.str) (ys.map V.str)
  | [] => DatL.nil
  | y :: ys => .cons (dat_str _) (dat_strs ys)
noncomputable def gSplit : GM := fun x ds S => match x, ds with
  | .str a, [.str b] => @ite _ ((b.length == 0) = false ∧ a.length + 2 ≤ sizeLine) (Classical.propDecidable _) (.ok (.lst ((Txt.split a b).map D.str)) S) .stuck
  | _, _ => .stuck
theorem want_ifc {P : Prop} {α β : Type} {Rr : List Addr → Hp → α → β → Prop} {Z φ : List Addr} {S : Store} {H : Hp} {r : Res α} {Q : β → Hp → Prop} {E : XK} (w : Want X.K X.mg Rr Z φ S H (@ite _ P (Classical.propDecidable _) r .stuck) Q E) : P ∧ Want X.K X.mg Rr Z φ S H r Q E := by
  by_cases h : P
  · rw [if_pos h] at w
    exact ⟨h, w⟩
  · rw [if_neg h] at w
    exact w.elim
theorem md_split : MethD X (fun x xs H Q => ∃ a b, x = .str a ∧ xs = [.str b] ∧ (b.length == 0) = false ∧ a.length + 2 ≤ sizeLine ∧ rNewStrs (Txt.split a b) H Q) gSplit := fun Z φ S H x u ds vs Q E R dx d w => by
  unfold gSplit at w
  split at w
  · rename_i a b
    obtain ⟨h, w1⟩ := want_ifc w
    cases dStr dx
    obtain ⟨v, rfl, h1⟩ := datL1 d
    cases dStr h1
    refine ⟨a, b, rfl, rfl, h.1, h.2, fun p hp => ?_⟩
    obtain ⟨r, e, g⟩ := dat_newL R (dat_strs (Txt.split a b)) hp
    exact w1 _ _ _ r e g
  · exact w.elim
def strsOf : List D → Option (List Str)
  | [] => some []
  | .str i :: ds => (strsOf ds).map (i :: ·)
  | _ => none
theorem strsOf_ok {φ : List Addr} {G : Hp} : ∀ {ds : List D} {vs : List V} {ns : List Str}, DatL X.K X.mg φ G ds vs → strsOf ds = some ns → vs = ns.map V.str
  | [], vs, ns, d, e => by
    unfold DatL at d
    subst d
    cases e
    rfl
  | x :: ds, vs, ns, d, e => by
    obtain ⟨v, r, rfl, h1, h2⟩ := d.uncons
    cases x with
    | str i =>
      simp only [strsOf] at e
      cases q : strsOf ds with
      | none => rw [q] at e; cases e
      | some ms =>
        rw [q] at e
        cases e
        cases dStr h1
        rw [strsOf_ok h2 q]
        rfl
    | _ => cases e
noncomputable def gJoin : GM := fun x ds S => match x, ds with
  | .str a, [d] => (match (asQ S d).bind strsOf with
    | some ys => @ite _ ((ys.map (·.length)).sum + ys.length * a.length ≤ 16777216) (Classical.propDecidable _) (.ok (.str (Txt.join a ys)) S) .stuck
    | none => .stuck)
  | _, _ => .stuck
theorem md_join : MethD X (fun x xs H Q => ∃ a p, ∃ ys : List Str, x = .str a ∧ xs = [.ref p] ∧ (SqL X.K H p (ys.map V.str) ∨ SqT X.K H p (ys.map V.str)) ∧ (ys.map (·.length)).sum + ys.length * a.length ≤ 16777216 ∧ Q (.str (Txt.join a ys)) H) gJoin := fun Z φ S H x u ds vs Q E R dx d w => by
  unfold gJoin at w
  split at w
  · rename_i a d0
    cases dStr dx
    obtain ⟨v, rfl, h1⟩ := datL1 d
    split at w
    · rename_i ys e
      obtain ⟨xs, e1, e2⟩ := Option.bind_eq_some_iff.mp e
      obtain ⟨l, zs, rfl, h2, h3⟩ := asQ_ok R h1 e1
      obtain ⟨h, w1⟩ := want_ifc w
      rw [strsOf_ok h3 e2] at h2
      exact ⟨a, l, ys, rfl, rfl, h2, h, w1.now R (dat_str _)⟩
    · exact w.elim
  · exact w.elim
def gStarts : GM := fun x ds S => match x, ds with
  | .str a, [.str b] => .ok (.bl (Txt.startswith a b)) S
  | _, _ => .stuck
theorem md_starts : MethD X (fun x xs H Q => ∃ a b, x = .str a ∧ xs = [.str b] ∧ Q (.bl (Txt.startswith a b)) H) gStarts := fun Z φ S H x u ds vs Q E R dx d w => by
  unfold gStarts at w
  split at w
  · cases dStr dx
    obtain ⟨v, rfl, h1⟩ := datL1 d
    cases dStr h1
    exact ⟨_, _, rfl, rfl, w.now R (dat_bl _)⟩
  · exact w.elim
/-- str(number) -/
noncomputable def gStrI : GC := fun ds S => match ds with
  | [.int i] => @ite _ (i.natAbs.log2 < 1920) (Classical.propDecidable _) (.ok (.str (toString i)) S) .stuck
  | _ => .stuck
theorem cd_strI : CallD X (fun xs H Q => ∃ i, xs = [.int i] ∧ i.natAbs.log2 < 1920 ∧ Q (.str (toString i)) H) gStrI := fun Z φ S H ds vs Q E R d w => by
  unfold gStrI at w
  split at w
  · obtain ⟨h, w1⟩ := want_ifc w
    obtain ⟨v, rfl, h1⟩ := datL1 d
    cases dInt h1
    exact ⟨_, rfl, h, w1.now R (dat_str _)⟩
  · exact w.elim
theorem de_strI {fa : FA} (hg : Gl X "str") (hm : X.mg "str" = none) (ha : DA X W [e] fa) (he : starEach [e] X.env = (false, eval e X.env) :: starEach [] X.env := by rfl) (hpl : (backTo pos (starEach [] X.env)).any (·.1) = false := by rfl) :
    DE X W (.Call (.Name "str" p) [e] [] pos) (fCB gStrI fa) := de_callTy call_str_int cd_strI hg hm (by rfl) ha (by decide) (by decide) he hpl
/-- int(text) -/
noncomputable def gIntS : GC := fun ds S => match ds with
  | [.str a] => (match PySem.intText? a with
    | some n => @ite _ (a.length ≤ 640) (Classical.propDecidable _) (.ok (.int n) S) .stuck
    | none => .stuck)
  | _ => .stuck
theorem cd_intS : CallD X (fun xs H Q => ∃ a n, xs = [.str a] ∧ PySem.intText? a = some n ∧ a.length ≤ 640 ∧ Q (.int n) H) gIntS := fun Z φ S H ds vs Q E R d w => by
  unfold gIntS at w
  split at w
  · split at w
    · rename_i n hn
      obtain ⟨h, w1⟩ := want_ifc w
      obtain ⟨v, rfl, h1⟩ := datL1 d
      cases dStr h1
      exact ⟨_, n, rfl, hn, h, w1.now R (dat_int _)⟩
    · exact w.elim
  · exact w.elim
theorem de_intS {fa : FA} (hg : Gl X "int") (hm : X.mg "int" = none) (ha : DA X W [e] fa) (he : starEach [e] X.env = (false, eval e X.env) :: starEach [] X.env := by rfl) (hpl : (backTo pos (starEach [] X.env)).any (·.1) = false := by rfl) :
    DE X W (.Call (.Name "int" p) [e] [] pos) (fCB gIntS fa) := de_callTy call_int_str cd_intS hg hm (by rfl) ha (by decide) (by decide) he hpl
end
end DL

/-! The data layer, part 32: texts, the derivations. -/
namespace DL
open PySem PySem.Spec PyProof.Rows L2
section
variable {X : Cx} {W : WX} {k : Nat} {o e : Expr} {fo fe : FE} {pos apos cpos p p2 : Pos} {fa : FA}
theorem de_split (ho : DE X W o fo) (ha : DA X W [e] fa) (hbase : attributeBase o "split" X.env (eval o X.env) = eval o X.env := by rfl)
    (hfew : ((backTo cpos (starEach [e] X.env)).all (fun x => !x.1) && (backToKw cpos (keywordEach [] X.env)).all (fun x => x.1.isSome) && decide ([e].length + ([] : List Keyword).length + (if ([] : List Keyword).isEmpty then 0 else 1) < 30)) = true := by rfl)
    (hline : (apos.endLine == cpos.line) = true := by rfl) (hs : starEach [e] X.env = (false, eval e X.env) :: starEach [] X.env := by rfl) (hplain : (backTo cpos (starEach [] X.env)).any (·.1) = false := by rfl) :
    DE X W (.Call (.Attribute o "split" apos) [e] [] cpos) (fBM "str" gSplit fo fa) := de_bm PySem.F.plainAttrs_str PySem.F.slot_str_split PySem.F.type_str_split mt_split md_split (.inr (.inr rfl)) ho ha hbase hfew hline hs hplain
theorem de_join (ho : DE X W o fo) (ha : DA X W [e] fa) (hbase : attributeBase o "join" X.env (eval o X.env) = eval o X.env := by rfl)
    (hfew : ((backTo cpos (starEach [e] X.env)).all (fun x => !x.1) && (backToKw cpos (keywordEach [] X.env)).all (fun x => x.1.isSome) && decide ([e].length + ([] : List Keyword).length + (if ([] : List Keyword).isEmpty then 0 else 1) < 30)) = true := by rfl)
    (hline : (apos.endLine == cpos.line) = true := by rfl) (hs : starEach [e] X.env = (false, eval e X.env) :: starEach [] X.env := by rfl) (hplain : (backTo cpos (starEach [] X.env)).any (·.1) = false := by rfl) :
    DE X W (.Call (.Attribute o "join" apos) [e] [] cpos) (fBM "str" gJoin fo fa) := de_bm PySem.F.plainAttrs_str PySem.F.slot_str_join PySem.F.type_str_join mt_join md_join (.inr (.inr rfl)) ho ha hbase hfew hline hs hplain
theorem de_starts (ho : DE X W o fo) (ha : DA X W [e] fa) (hbase : attributeBase o "startswith" X.env (eval o X.env) = eval o X.env := by rfl)
    (hfew : ((backTo cpos (starEach [e] X.env)).all (fun x => !x.1) && (backToKw cpos (keywordEach [] X.env)).all (fun x => x.1.isSome) && decide ([e].length + ([] : List Keyword).length + (if ([] : List Keyword).isEmpty then 0 else 1) < 30)) = true := by rfl)
    (hline : (apos.endLine == cpos.line) = true := by rfl) (hs : starEach [e] X.env = (false, eval e X.env) :: starEach [] X.env := by rfl) (hplain : (backTo cpos (starEach [] X.env)).any (·.1) = false := by rfl) :
    DE X W (.Call (.Attribute o "startswith" apos) [e] [] cpos) (fBM "str" gStarts fo fa) := de_bm PySem.F.plainAttrs_str PySem.F.slot_str_startswith PySem.F.type_str_startswith mt_startswith md_starts (.inr (.inr rfl)) ho ha hbase hfew hline hs hplain
/-- text[lo:hi] -/
noncomputable def gSlS (x : D) (lo hi : Option Int) (S : Store) : Res D := match x with
  | .str z => @ite _ (z.length ≤ sizeLine) (Classical.propDecidable _) (.ok (.str (cutS z lo hi)) S) .stuck
  | _ => .stuck
noncomputable def fSlS (fx : FE) (fl fh : FO) : FE := fun ρ S => (fx ρ S).bind fun x S => (fl ρ S).bind fun l S => (fh ρ S).bind fun h S => gSlS x l h S
theorem de_sliceS {lo hi : Option Expr} {fl fh : FO} (hx : DE X W e fe) (hl : DO X W lo fl) (hh : DO X W hi fh) : DE X W (.Subscript e (.Slice lo hi none p2) pos) (fSlS fe fl fh) := by
  obtain ⟨t, pe, q⟩ := hx.ex
  refine .mk (pe_slice sl_str pe hl hh) fun Z φ S ρ σ H Q R sl w => q Z φ S ρ σ H _ R sl (w.bind fun x S1 v φ1 H1 R1 E1 d w1 => ?_)
  refine ⟨Z, φ1, S1, ρ, R1, sl.evo E1, w1.bind fun l S2 l' φ2 H2 R2 E2 el w2 => ?_⟩
  cases el
  refine ⟨Z, φ2, S2, ρ, R2, (sl.evo E1).evo E2, w2.bind fun h S3 h' φ3 H3 R3 E3 eh w3 => ?_⟩
  cases eh
  have d3 : Dat X.K X.mg φ3 (gnd Z φ3 S3 H3) x v := Dat.evo E3 (Dat.evo E2 d)
  unfold gSlS at w3
  split at w3
  · rename_i z
    obtain ⟨hz, w4⟩ := want_ifc w3
    cases dStr d3
    exact ⟨z, rfl, hz, w4.now R3 (dat_str _)⟩
  · exact w3.elim
/-- sign in text -/
def gInC (neg : Bool) : G2 := fun x y S => match x, y with
  | .str a, .str z => (match a.cps.toList with
    | [c] => if a = ⟨#[c]⟩ then .ok (.bl (if neg then !decide (c ∈ z.cps.toList) else decide (c ∈ z.cps.toList))) S else .stuck
    | _ => .stuck)
  | _, _ => .stuck
theorem opd_notInC : OpD X (fun x y H Q => ∃ (c : Nat) (z : Str), x = .str ⟨#[c]⟩ ∧ y = .str z ∧ Q (.bl (!decide (c ∈ z.cps.toList))) H) (gInC true) := fun Z φ S H x y u v Q E R dx dy w => by
  unfold gInC at w
  split at w
  · split at w
    · rename_i c hc
      obtain ⟨h, w1⟩ := want_if w
      cases dStr dx
      cases dStr dy
      exact ⟨c, _, by rw [← h], rfl, w1.now R (dat_bl _)⟩
    · exact w.elim
  · exact w.elim
end
end DL

/-! The data layer, part 33: text * number. -/
namespace DL
open PySem PySem.Spec PyProof.Rows L2
section
variable {X : Cx} {W : WX} {a b : Expr} {fa fb : FE} {pos : Pos}
end
end DL

/-! The data layer, part 34: the signs of a text walked over; split as a list that changes. -/
namespace DL
open PySem PySem.Spec PyProof.Rows L2
section
variable {X : Cx} {W : WX} {k : Nat} {o e tg : Expr} {fo fe : FE} {pos apos cpos p p2 : Pos} {fa : FA}
def signs (z : Str) : List D := z.cps.toList.map fun c => .str ⟨#[c]⟩
def signC : D → Store → Res ItD := fun d S => match d with
  | .str z => .ok ⟨signs z, none⟩ S
  | _ => .stuck
def fSigns (fe : FE) : FI := fun ρ S => (fe ρ S).bind signC
theorem ri_signs {Z φ : List Addr} {S : Store} {H : Hp} {z : Str} : RI X.K X.mg Z φ S H ⟨signs z, none⟩ (Its z) :=
  fun i Z' φ' S' H' hZ R hp hs ok => by
    refine ⟨fun d hd => ?_, fun hl => ?_⟩
    · have hd' : (signs z)[i]? = some d := hd
      unfold signs at hd'
      rw [List.getElem?_map] at hd'
      cases hc : z.cps.toList[i]? with
      | none => rw [hc] at hd'; cases hd'
      | some c =>
        rw [hc] at hd'
        cases hd'
        have hc' : z.cps[i]? = some c := by simpa using hc
        have hi : i < z.cps.size := (Array.getElem?_eq_some_iff.mp hc').1
        refine ⟨hi, fun y' H'' yl => ?_⟩
        obtain ⟨rfl, c', e1, rfl⟩ := yl
        rw [hc'] at e1
        cases e1
        exact ⟨R, Evo.refl, dat_str _⟩
    · have hl' : (signs z).length ≤ i := hl
      unfold signs at hl'
      show z.cps.size ≤ i
      simpa using hl'
theorem di_signs (he : DE X W e fe) : DI X W tg e (fSigns fe) := by
  obtain ⟨t, pe, q⟩ := he.ex
  refine .mk (pi_str pe) fun Z φ S ρ σ H R R0 sl w => q Z φ S ρ σ H _ R0 sl (w.bind fun d S1 v φ1 H1 R1 E1 dd w1 => ?_)
  unfold signC at w1
  split at w1
  · cases dStr dd
    exact ⟨_, rfl, w1 _ _ _ R1 Evo.refl ri_signs⟩
  · exact w1.elim
noncomputable def gSplitO : GM := fun x ds S => match x, ds with
  | .str a, [.str b] => @ite _ ((b.length == 0) = false ∧ a.length + 2 ≤ sizeLine) (Classical.propDecidable _) (.ok (.oid S.length) (S ++ [.lst ((Txt.split a b).map D.str)])) .stuck
  | _, _ => .stuck
theorem md_splitO : MethD X (fun x xs H Q => ∃ a b, x = .str a ∧ xs = [.str b] ∧ (b.length == 0) = false ∧ a.length + 2 ≤ sizeLine ∧ rNewStrs (Txt.split a b) H Q) gSplitO := fun Z φ S H x u ds vs Q E R dx d w => by
  unfold gSplitO at w
  split at w
  · rename_i a b
    obtain ⟨h, w1⟩ := want_ifc w
    cases dStr dx
    obtain ⟨v, rfl, h1⟩ := datL1 d
    cases dStr h1
    refine ⟨a, b, rfl, rfl, h.1, h.2, fun p hp => ?_⟩
    obtain ⟨r, e, g⟩ := dat_newO R (dat_strs (Txt.split a b)) hp
    exact w1 _ _ _ r e g
  · exact w.elim
theorem de_splitO (ho : DE X W o fo) (ha : DA X W [e] fa) (hbase : attributeBase o "split" X.env (eval o X.env) = eval o X.env := by rfl)
    (hfew : ((backTo cpos (starEach [e] X.env)).all (fun x => !x.1) && (backToKw cpos (keywordEach [] X.env)).all (fun x => x.1.isSome) && decide ([e].length + ([] : List Keyword).length + (if ([] : List Keyword).isEmpty then 0 else 1) < 30)) = true := by rfl)
    (hline : (apos.endLine == cpos.line) = true := by rfl) (hs : starEach [e] X.env = (false, eval e X.env) :: starEach [] X.env := by rfl) (hplain : (backTo cpos (starEach [] X.env)).any (·.1) = false := by rfl) :
    DE X W (.Call (.Attribute o "split" apos) [e] [] cpos) (fBM "str" gSplitO fo fa) := de_bm PySem.F.plainAttrs_str PySem.F.slot_str_split PySem.F.type_str_split mt_split md_splitO (.inr (.inr rfl)) ho ha hbase hfew hline hs hplain
end
end DL

/-! The data layer, part 35: exceptions caught and kept. -/
namespace DL
open PySem PySem.Spec PyProof.Rows L2

theorem excV_ok {P : Program} {w : World} {H : Hp} {hp : Heap} {a : Addr} {cls : Value} {dd : Option Addr} {ob : Obj} {fs : Array Value} (e : hp.get? a = some ob) (z : L2N.Zn cls dd ob) (d : ob.data = .fields fs) : ObjOk P w H hp a (ExcV cls dd a) :=
  ⟨⟨ob, fs, e, z, d⟩, ⟨ob, e⟩, fun _ _ ⟨o, v, q, r⟩ kp => ⟨o, v, kp o q, r⟩⟩
section
variable {X : Cx} {pins : List (Addr × Obj)} {σ : L2.St} {H : Hp} {s : Shared}
/-- an object that wasn't there at the entry is tracked from now on -/
theorem inv_track {a : Addr} {o : HO} (I : L2.Inv X pins σ H s) (n0 : X.s_0.heap.get? a = none) (na : H a = none) (nl : a ≠ X.env.locals) (nc : ∀ x c, X.env.cells.lookup x = some c → c ≠ a)
    (np : ∀ p ∈ X.pn ++ pins, p.1 ≠ a) (ok : ObjOk X.prog X.w (upd H a o) s.heap a o) : L2.Inv X pins σ (upd H a o) s := by
  have n00 : ∀ b ob, X.s_0.heap.get? b = some ob → b ≠ a := fun b ob e z => by
    rw [z, n0] at e
    cases e
  refine ⟨I.ok, I.os, I.bare, ⟨I.base.keep, I.base.slot, fun b ob e n hx => ?_, I.base.there, fun b xs e => ?_, fun b ob u e => ?_, fun b ps e => ?_⟩, I.loc, I.cell, ?_, fun x c e => ?_, fun p hp => ?_, fun b u e => ?_, I.len⟩
  · rw [upd_ne (n00 b ob e)]
    exact I.base.free b ob e n hx
  · have q := I.base.tups b xs e
    rw [upd_ne (ne_of_none q na)]
    exact q
  · have q := I.base.frzs b ob u e
    rw [upd_ne (ne_of_none q na)]
    exact q
  · obtain ⟨more, q⟩ := I.base.tbls b ps e
    exact ⟨more, by rw [upd_ne (ne_of_none q na)]; exact q⟩
  · rw [upd_ne (fun z => nl z.symm)]
    exact I.free
  · rw [upd_ne (nc x c e)]
    exact I.freeC x c e
  · obtain ⟨q1, q2, q3⟩ := I.pin p hp
    exact ⟨q1, by rw [upd_ne (np p hp)]; exact q2, q3⟩
  · by_cases hb : b = a
    · subst hb
      rw [upd_same] at e
      cases e
      exact ok
    · rw [upd_ne hb] at e
      exact (I.hok b u e).stay (fun c v _ q => q) (fun c q => by rw [upd_ne (ne_of_none q na)]; exact q) fun c xs q => by rw [upd_ne (ne_of_none q na)]; exact q
theorem inv_toSuite (I : L2.Inv X pins σ H s) (a : Addr) : L2.Inv (X.suite a (X.pn ++ pins)) [] σ H s :=
  ⟨I.ok.suite _ _, I.os, I.bare, I.base, I.loc, I.cell, I.free, I.freeC, fun p hp => I.pin p (List.append_nil (X.pn ++ pins) ▸ hp), I.hok, I.len⟩
theorem inv_ofSuite {a : Addr} {pn' : List (Addr × Obj)} (I : L2.Inv (X.suite a (X.pn ++ pins)) pn' σ H s) (ok : X.Ok) : L2.Inv X pins σ H s :=
  ⟨ok, I.os, I.bare, I.base, I.loc, I.cell, I.free, I.freeC, fun p hp => I.pin p (List.mem_append_left _ hp), I.hok, I.len⟩
end
/-! ### try with clauses, each perhaps with a name -/
structure Hd where
  c : Value
  nm : Option Nat
  ts : Addr → Value → Option Addr → TS
def endsAt (nm : Option Nat) (Dd : Ends) : Ends := match nm with
  | none => Dd
  | some i => { nx := fun σ' H' => Dd.nx (σ'.set i none) H', rt := Dd.rt, bk := fun σ' H' => Dd.bk (σ'.set i none) H', ct := fun σ' H' => Dd.ct (σ'.set i none) H' }
def slotAt (nm : Option Nat) (a : Addr) (σ : L2.St) : L2.St := match nm with
  | none => σ
  | some i => σ.set i (some (.ref a))
/-- what the clauses want of what the body raises -/
def wHds (K : PySem.W.Frag) (Wo : WX) (Dd : Ends) : List Hd → WX
  | [] => Wo
  | q :: r => fun cls d σ H => ∃ b, PySem.W.exmOne K cls q.c = some b ∧ (b = true → ∀ a, H a = none → q.ts a cls d (endsAt q.nm Dd) (slotAt q.nm a σ) (upd H a (ExcV cls d a))) ∧ (b = false → wHds K Wo Dd r cls d σ H)
inductive HdsT (X : Cx) : List ExceptHandler → List Hd → Prop
  | nil : HdsT X [] []
  | plain {x : Str} {c : Value} {ts : Addr → Value → Option Addr → TS} {b0 : Stmt} {bs : List Stmt} {np hp : Pos} {hds : List ExceptHandler} {l : List Hd} (hc : Names X x c)
      (hs : ∀ (a : Addr) (cls : Value) (d : Option Addr) (pn : List (Addr × Obj)), PSs (X.suite a pn) (b0 :: bs) (ts a cls d)) (r : HdsT X hds l) : HdsT X (.ExceptHandler (some (.Name x np)) none (b0 :: bs) hp :: hds) (⟨c, none, ts⟩ :: l)
  | named {x n : Str} {i : Nat} {c : Value} {ts : Addr → Value → Option Addr → TS} {b0 : Stmt} {bs : List Stmt} {np hp : Pos} {hds : List ExceptHandler} {l : List Hd} (hc : Names X x c) (hN : X.N.Nodup) (hi : X.N[i]? = some n) (hn : X.env.kindOf n = some .local)
      (hs : ∀ (a : Addr) (cls : Value) (d : Option Addr) (pn : List (Addr × Obj)), PSs (X.suite a pn) (b0 :: bs) (ts a cls d)) (r : HdsT X hds l) : HdsT X (.ExceptHandler (some (.Name x np)) (some n) (b0 :: bs) hp :: hds) (⟨c, some i, ts⟩ :: l)
section
variable {X : Cx} {body : List Stmt} {h0 : ExceptHandler} {hds : List ExceptHandler} {l : List Hd} {pos : Pos} {tb : WX → TS} {Wo : WX}
theorem ps_try_T (stk : X.stack = X.env :: X.outer) (frm : X.env.frame = some X.env.locals) (nex : X.ex = []) (tk : L2N.Takes X Wo)
    (hb : ∀ (Wn : WX) (pn : List (Addr × Obj)) (xe : Value → Shared → Prop), L2N.Takes (X.tr pn xe) Wn → PassesOwn (model X.prog X.w) X.A X.env xe → PSs (X.tr pn xe) body (tb Wn))
    (hh : HdsT X (h0 :: hds) l) : PS X (.Try body (h0 :: hds) [] [] pos) (fun Dd σ H => tb (wHds X.K Wo Dd l) Dd σ H) := by
  refine ⟨fun pins s σ H Dd I h => ?_⟩
  have ok := I.ok
  have frs0 : X.A.frames = some (X.env :: X.outer) := ok.frames.trans (congrArg some stk)
  refine wpAny_Try_except ?_
  refine wpAny_mono ((hb (wHds X.K Wo Dd l) (X.pn ++ pins) (fun err t1 => wpAny (model X.prog X.w) X.A (noteFrame err X.env) (fun _ t2 => wpAny (model X.prog X.w) X.A (setFlight err none) (fun _ t3 =>
    wpAny (model X.prog X.w) X.A (handleBy err X.env (h0 :: hds)) (SP X pins Dd) X.xe t3) X.xe t2) X.xe t1) (fun u s2 caught => ?_) PassesOwn.looking).run [] s σ H Dd (I.toTry _) h) (fun fl s1 hsp => ?_) (fun _ _ z => z)
  · obtain ⟨a, B, sI, pins1, σ1, H1, cls, d, rfl, J0, nb, up, sky, na, os, ag, want⟩ := caught
    have J : L2.Inv X pins σ1 H1 sI := J0.ofTry ok
    rw [show (X.tr (X.pn ++ pins) _).stack = X.env :: X.outer from stk] at sky
    show wpAny (model X.prog X.w) X.A (noteFrame (.ref a) X.env) _ _ _
    refine L2N.Sky.land L2N.Zn.steady frs0 frm sky fun hp3 fly3 up3 => ?_
    have J3 : L2.Inv X pins σ1 H1 { s2 with heap := hp3 } := J.landed nb fly3.1 (up.trans up3) os ag
    have unfr : ∀ {hp : Heap} {ob : Obj} {vs : Array Value}, hp.FunFrames B (X.env :: X.outer) → hp.get? a = some ob → ob.data = .fields vs → a ∉ frs (X.env :: X.outer) := fun {hp ob vs} ff e dd hm => by
      obtain ⟨_, ob', e1, hnf⟩ := ff.mem hm
      rw [e] at e1
      cases e1
      exact hnf _ dd
    obtain ⟨oe3, vs3, at3, z3, dt3⟩ := fly3.there
    have offStack := unfr fly3.2.2.1 at3 dt3
    have offLocals : a ≠ X.env.locals := fun z => offStack (List.mem_filterMap.mpr ⟨X.env, List.mem_cons_self, by rw [frm, z]⟩)
    have newI : sI.heap.get? a = none := by
      cases e : sI.heap.get? a with
      | none => rfl
      | some ob =>
        have q := nb a ob e (by rw [show (X.tr (X.pn ++ pins) _).stack = X.env :: X.outer from stk]; exact offStack)
        rw [fly3.2.1] at q
        cases q
    have new0 : X.s_0.heap.get? a = none := by
      cases e : X.s_0.heap.get? a with
      | none => rfl
      | some ob =>
        obtain ⟨ob', q⟩ := J.base.there a ob e (by rw [nex]; exact fun z => nomatch z)
        rw [newI] at q
        cases q
    have offPins : ∀ p ∈ X.pn ++ pins, p.1 ≠ a := fun p hp z => by
      have q := (J.pin p hp).1
      rw [z, newI] at q
      cases q
    have offCells : ∀ x c, X.env.cells.lookup x = some c → c ≠ a := fun x c e z => by
      obtain ⟨v, ob, q, _⟩ := J.cell x c e
      rw [z, newI] at q
      cases q
    -- the state of a suite
    have begun : ∀ {hp4 : Heap}, HandSPX.FlyingZ B (X.env :: X.outer) a (L2N.Zn cls d) hp4 → sI.heap.UpToSlots hp4 → L2.Inv X pins σ1 (upd H1 a (ExcV cls d a)) { s2 with heap := hp4 } := fun {hp4} fly4 up4 => by
      have J4 : L2.Inv X pins σ1 H1 { s2 with heap := hp4 } := J.landed nb fly4.1 up4 os ag
      obtain ⟨oe4, vs4, at4, z4, dt4⟩ := fly4.there
      exact inv_track J4 new0 na offLocals offCells offPins (excV_ok at4 z4 dt4)
    -- the class that a clause names
    have named : ∀ {x : Str} {c : Value} {np : Pos} {Q E : Value → Shared → Prop}, Names X x c → Q c { s2 with heap := hp3 } → wpAny (model X.prog X.w) (X.A.mark (some (.ref a))) (eval (.Name x np) X.env) Q E { s2 with heap := hp3 } := fun {x c np Q E} hc q => by
      obtain ⟨hg, hdbg, hm | ⟨hm, hv, hnn⟩⟩ := hc
      · exact ld_glob (X := X.suite a (X.pn ++ pins)) (inv_toSuite J3 a) hg hm q hdbg
      · exact ld_blt (X := X.suite a (X.pn ++ pins)) (inv_toSuite J3 a) hg hm hv q hnn hdbg
    have TY : PySem.W.Looks (model X.prog X.w) hp3 (typeOf (.ref a)) cls := fun A' Q E t kp q => wpAny_typeOf_ref (kp _ _ at3) (by rw [z3.1]; exact q)
    have go : ∀ {hs' : List ExceptHandler} {l' : List Hd}, HdsT X hs' l' → wHds X.K Wo Dd l' cls d σ1 H1 →
        wpAny (model X.prog X.w) X.A (handleBy (.ref a) X.env hs') (SP X pins Dd) X.xe { s2 with heap := hp3 } := by
      intro hs' l' ht
      induction ht with
      | nil =>
        intro want
        refine wpAny_handleBy_nil ?_
        obtain ⟨_, _, _, ob, vs, T, oT, ts', q1, _, q2, q3, _⟩ := id fly3
        unfold PySem.passOn
        refine wpAny_bind (wpAny_field q1 q2 q3 ?_)
        rw [if_neg (show ¬ ((Value.ref T == Value.none) = true) from by simp)]
        have thrown : wpAny (model X.prog X.w) X.A (setFlight (.ref a) X.env.frame) (fun _ t => wpAny (model X.prog X.w) X.A (throw (.ref a) : Sem Flow) (SP X pins Dd) X.xe t) X.xe { s2 with heap := hp3 } := by
          rw [frm]
          refine HandSPX.setFlight_upZ fly3 fun hp4 held up4 => wpAny_throw (tk _ _ ?_)
          exact ⟨a, B, sI, pins, σ1, H1, cls, d, rfl, J, nb, (up.trans up3).trans up4, .inr (.inr (by rw [stk]; exact held)), na, os, ag, want⟩
        first
          | exact wpAny_bind thrown
          | exact wpAny_bind (wpAny_pure (wpAny_bind thrown))
      | @plain x c ts b0 bs np hpos hs2 l2 hc hsu _ ih =>
        rintro ⟨b, hb1, yes, no⟩
        refine wpAny_handleBy_cons (codeAny_handlers_test (named hc ((PySem.W.exm_one (M := model X.prog X.w) J3.kIn TY hb1).here ?_))) (by intro q; cases q)
        cases b with
        | false =>
          show wpAny _ X.A (handleBy (.ref a) X.env hs2) _ _ _
          exact ih (no rfl)
        | true =>
          refine codeAny_handlers_suite (HandSPX.lands_againZ fly3 fun hp4 fly4 up4 => ?_)
          refine wpAny_mono ((hsu a cls d (X.pn ++ pins)).run [] _ _ _ _ (inv_toSuite (begun fly4 ((up.trans up3).trans up4)) a) (yes rfl a na)) (fun fl s6 hsp => ?_) (fun _ _ z => False.elim z)
          cases fl with
          | next =>
            obtain ⟨σ6, H6, S6, q6⟩ := hsp
            exact ⟨_, _, inv_ofSuite S6 ok, q6⟩
          | brk =>
            obtain ⟨σ6, H6, S6, q6⟩ := hsp
            exact ⟨_, _, inv_ofSuite S6 ok, q6⟩
          | cont =>
            obtain ⟨σ6, H6, S6, q6⟩ := hsp
            exact ⟨_, _, inv_ofSuite S6 ok, q6⟩
          | ret u =>
            obtain ⟨v6, σ6, H6, S6, r6, q6⟩ := hsp
            exact ⟨_, _, _, inv_ofSuite S6 ok, r6, q6⟩
      | @named x n i c ts b0 bs np hpos hs2 l2 hc hN hi hln hsu _ ih =>
        rintro ⟨b, hb1, yes, no⟩
        refine wpAny_handleBy_cons (codeAny_handlers_test (named hc ((PySem.W.exm_one (M := model X.prog X.w) J3.kIn TY hb1).here ?_))) (by intro q; cases q)
        cases b with
        | false =>
          show wpAny _ X.A (handleBy (.ref a) X.env hs2) _ _ _
          exact ih (no rfl)
        | true =>
          refine codeAny_handlers_suite_as (HandSPX.lands_againZ fly3 fun hp4 fly4 up4 => ?_)
          refine store_ok (X := X.suite a (X.pn ++ pins)) (v := .ref a) (inv_toSuite (begun fly4 ((up.trans up3).trans up4)) a) hN hi (show Loc X.env.scope n from .inl hln) rfl (fun s5 S5 => ?_) (.inr hln)
          refine wpAny_mono ((hsu a cls d (X.pn ++ pins)).run [] s5 _ _ _ S5 (yes rfl a na)) (fun fl s6 hsp => ?_) (fun _ _ z => False.elim z)
          have behind : ∀ {σ6 : L2.St} {H6 : Hp} {Q : Shared → Prop}, L2.Inv (X.suite a (X.pn ++ pins)) [] σ6 H6 s6 → (∀ s7, L2.Inv X pins (σ6.set i none) H6 s7 → Q s7) →
              wpAny (model X.prog X.w) X.A (do bindName X.env n .none; unbindBehindTheSuite X.env n hpos) (fun _ s7 => Q s7) X.xe s6 := fun {σ6 H6 Q} S6 hq => gone_ok (inv_ofSuite S6 ok) hN hi hln hq
          cases fl with
          | next =>
            obtain ⟨σ6, H6, S6, q6⟩ := hsp
            exact behind S6 fun s7 J7 => ⟨_, _, J7, q6⟩
          | brk =>
            obtain ⟨σ6, H6, S6, q6⟩ := hsp
            exact behind S6 fun s7 J7 => ⟨_, _, J7, q6⟩
          | cont =>
            obtain ⟨σ6, H6, S6, q6⟩ := hsp
            exact behind S6 fun s7 J7 => ⟨_, _, J7, q6⟩
          | ret u =>
            obtain ⟨v6, σ6, H6, S6, r6, q6⟩ := hsp
            exact behind S6 fun s7 J7 => ⟨_, _, _, J7, r6, q6⟩
    exact go hh want
  · cases fl with
    | next =>
      obtain ⟨σ2, H2, J2, q⟩ := hsp
      exact wpAny_execs_nil ⟨σ2, H2, J2.ofTry ok, q⟩
    | brk =>
      obtain ⟨σ2, H2, J2, q⟩ := hsp
      exact ⟨σ2, H2, J2.ofTry ok, q⟩
    | cont =>
      obtain ⟨σ2, H2, J2, q⟩ := hsp
      exact ⟨σ2, H2, J2.ofTry ok, q⟩
    | ret u =>
      obtain ⟨v, σ2, H2, J2, r, q⟩ := hsp
      exact ⟨v, σ2, H2, J2.ofTry ok, r, q⟩
end
end DL

/-! The data layer, part 36: try, isinstance of exceptions, raise. -/
namespace DL
open PySem PySem.Spec PyProof.Rows L2

/-! ### mirrors -/
structure HM where
  c : List (Str × Bool)
  nm : Option Nat
  g : FS
def Out.undo (i : Nat) : Out → Out
  | .nx ρ S => .nx (ρ.set i none) S
  | .bk ρ S => .bk (ρ.set i none) S
  | .ct ρ S => .ct (ρ.set i none) S
  | .ex _ _ _ _ => .stuck
  | o => o
def Out.calm : Out → Out
  | .ex _ _ _ _ => .stuck
  | o => o
def hdM : List HM → Str → List (Str × D) → EnvD → Store → Out
  | [], C, fs, ρ, S => .ex C fs ρ S
  | q :: r, C, fs, ρ, S => match q.c.lookup C with
    | some true => (match q.nm with
      | none => (q.g ρ S).calm
      | some i => (q.g (ρ.set i (some (.exc C fs))) S).undo i)
    | some false => hdM r C fs ρ S
    | none => .stuck
def gTry (gb : FS) (hs : List HM) : FS := fun ρ S => match gb ρ S with
  | .ex C fs ρ' S' => hdM hs C fs ρ' S'
  | o => o
section
variable {X : Cx} {W : WX} {k : Nat} {pos : Pos}
theorem slots_unset {K : PySem.W.Frag} {mg : Str → Option Value} {φ : List Addr} {G : Hp} {ρ : EnvD} {σ : L2.St} (i : Nat) (h : Slots K mg φ G ρ σ) : Slots K mg φ G (ρ.set i none) (σ.set i none) := by
  refine ⟨by rw [List.length_set, List.length_set]; exact h.1, fun j d e => ?_⟩
  by_cases hj : j = i
  · subst hj
    by_cases hl : j < ρ.length
    · rw [List.getElem?_set_self hl] at e
      cases e
    · rw [List.getElem?_eq_none (by rw [List.length_set]; omega)] at e
      cases e
  · rw [List.getElem?_set_ne (fun z => hj z.symm)] at e ⊢
    exact h.2 j d e
/-- clauses and their mirrors -/
inductive HdsD (X : Cx) : List ExceptHandler → List HM → List Hd → Prop
  | nil : HdsD X [] [] []
  | plain {x : Str} {c : Value} {t : List (Str × Bool)} {g : FS} {b0 : Stmt} {bs : List Stmt} {np hp : Pos} {hds : List ExceptHandler} {ms : List HM} {l : List Hd} (hc : Names X x c) (ht : ∀ C b A, t.lookup C = some b → X.mg C = some (.ref A) → PySem.W.exmOne X.K (.ref A) c = some b)
      (hs : ∀ (a : Addr) (pn : List (Addr × Obj)), DSs (X.suite a pn) W0 (b0 :: bs) g) (r : HdsD X hds ms l) : HdsD X (.ExceptHandler (some (.Name x np)) none (b0 :: bs) hp :: hds) (⟨t, none, g⟩ :: ms) (⟨c, none, fun _ _ _ => tDS X W0 g⟩ :: l)
  | named {x n : Str} {i : Nat} {c : Value} {t : List (Str × Bool)} {g : FS} {b0 : Stmt} {bs : List Stmt} {np hp : Pos} {hds : List ExceptHandler} {ms : List HM} {l : List Hd} (hc : Names X x c) (hN : X.N.Nodup) (hi : X.N[i]? = some n) (hn : X.env.kindOf n = some .local)
      (ht : ∀ C b A, t.lookup C = some b → X.mg C = some (.ref A) → PySem.W.exmOne X.K (.ref A) c = some b)
      (hs : ∀ (a : Addr) (pn : List (Addr × Obj)), DSs (X.suite a pn) W0 (b0 :: bs) g) (r : HdsD X hds ms l) : HdsD X (.ExceptHandler (some (.Name x np)) (some n) (b0 :: bs) hp :: hds) (⟨t, some i, g⟩ :: ms) (⟨c, some i, fun _ _ _ => tDS X W0 g⟩ :: l)
theorem HdsD.toT : ∀ {hds : List ExceptHandler} {ms : List HM} {l : List Hd}, HdsD X hds ms l → HdsT X hds l
  | _, _, _, .nil => .nil
  | _, _, _, .plain hc _ hs r => .plain hc (fun a _ _ pn => hs a pn) r.toT
  | _, _, _, .named hc hN hi hn _ hs r => .named hc hN hi hn (fun a _ _ pn => hs a pn) r.toT
theorem HdsD.want {Dd : Ends} {Z φ : List Addr} {S : Store} {H : Hp} {ρ : EnvD} {σ : L2.St} {C : Str} {fs : List (Str × D)} {A : Addr} {dx : Option Addr} (hA : X.mg C = some (.ref A)) (R : Rel X.K X.mg Z φ S H) (sl : Slots X.K X.mg φ (gnd Z φ S H) ρ σ) (xd : ExD X.K X.mg φ (gnd Z φ S H) fs dx) :
    ∀ {hds : List ExceptHandler} {ms : List HM} {l : List Hd}, HdsD X hds ms l → WantS X W Z φ S H (hdM ms C fs ρ S) Dd → wHds X.K W Dd l (.ref A) dx σ H
  | _, _, _, .nil, w => w A dx σ φ H hA R Evo.refl sl xd
  | _, _, _, .plain (c := c) (t := t) (g := g) hc ht hs r, w => by
    unfold hdM at w
    cases e : t.lookup C with
    | none => simp only [e] at w; exact w.elim
    | some b =>
      simp only [e] at w
      refine ⟨b, ht C b A e hA, fun hb a na => ?_, fun hb => ?_⟩
      · subst hb
        obtain ⟨R1, E1, _⟩ := R.fresh (o := ExcV (.ref A) dx a) na
        refine ⟨Z, φ, S, ρ, R1, sl.evo E1, ?_⟩
        have w1 : WantS X W Z φ S (upd H a (ExcV (.ref A) dx a)) (g ρ S).calm Dd := WantS.go E1 w
        revert w1
        cases g ρ S <;> intro w1
        · exact w1
        · exact w1
        · exact w1
        · exact w1
        · exact w1.elim
        · exact w1
      · subst hb
        exact r.want hA R sl xd w
  | _, _, _, .named (c := c) (t := t) (g := g) (i := i) hc hN hi hn ht hs r, w => by
    unfold hdM at w
    cases e : t.lookup C with
    | none => simp only [e] at w; exact w.elim
    | some b =>
      simp only [e] at w
      refine ⟨b, ht C b A e hA, fun hb a na => ?_, fun hb => ?_⟩
      · subst hb
        obtain ⟨R1, E1, at1⟩ := R.fresh (o := ExcV (.ref A) dx a) na
        have da : Dat X.K X.mg φ (gnd Z φ S (upd H a (ExcV (.ref A) dx a))) (.exc C fs) (.ref a) := by
          unfold Dat
          refine ⟨a, A, dx, rfl, hA, at1, xd.imp id fun ⟨z, b, fvs, q0, q1, q2⟩ => ⟨z, b, fvs, q0, E1.ext _ _ q1, DatF.mono (List.prefix_refl _) E1.ext _ _ q2⟩⟩
        refine ⟨Z, φ, S, ρ.set i (some (.exc C fs)), R1, (sl.evo E1).set da, ?_⟩
        have w1 : WantS X W Z φ S (upd H a (ExcV (.ref A) dx a)) ((g (ρ.set i (some (.exc C fs))) S).undo i) Dd := WantS.go E1 w
        revert w1
        cases g (ρ.set i (some (.exc C fs))) S <;> intro w1
        · exact fun σ' φ' H' r1 e1 d => w1 (σ'.set i none) φ' H' r1 e1 (slots_unset i d)
        · exact w1
        · exact fun σ' φ' H' r1 e1 d => w1 (σ'.set i none) φ' H' r1 e1 (slots_unset i d)
        · exact fun σ' φ' H' r1 e1 d => w1 (σ'.set i none) φ' H' r1 e1 (slots_unset i d)
        · exact w1.elim
        · exact w1
      · subst hb
        exact r.want hA R sl xd w
theorem isS_try {gb : FS} {hds : List ExceptHandler} {ms : List HM} {l : List Hd} (hh : HdsD X hds ms l) : IsS X W (fun Dd σ H => tDS X (wHds X.K W Dd l) gb Dd σ H) (gTry gb ms) := fun Z φ S ρ σ H Dd R sl w => by
  refine ⟨Z, φ, S, ρ, R, sl, ?_⟩
  unfold gTry at w
  cases e : gb ρ S with
  | ex C fs ρ1 S1 =>
    rw [e] at w
    exact fun A dx σ1 φ1 H1 m R1 E1 sl1 xd => hh.want m R1 sl1 xd (WantS.go E1 w)
  | nx ρ1 S1 => rw [e] at w; exact w
  | rt d S1 => rw [e] at w; exact w
  | bk ρ1 S1 => rw [e] at w; exact w
  | ct ρ1 S1 => rw [e] at w; exact w
  | stuck => rw [e] at w; exact w
theorem ds_try (C : Cn X W k) (stk : X.stack = X.env :: X.outer) (frm : X.env.frame = some X.env.locals) (nex : X.ex = []) {body : List Stmt} {h0 : ExceptHandler} {hds : List ExceptHandler} {gb : FS} {ms : List HM} {l : List Hd}
    (hb : ∀ (Wn : WX) (pn : List (Addr × Obj)) (xe : Value → Shared → Prop), Cn (X.tr pn xe) Wn k → DSs (X.tr pn xe) Wn body gb) (hh : HdsD X (h0 :: hds) ms l) : DS X W (.Try body (h0 :: hds) [] [] pos) (gTry gb ms) :=
  .mk (ps_try_T (tb := fun Wn => tDS X Wn gb) stk frm nex C.tk (fun Wn pn xe tk po => hb Wn pn xe ⟨C.room, C.gd, C.calm, C.nd, po, tk⟩) hh.toT) (isS_try hh)
/-- name = value, within a suite -/
theorem ds_setS {e : Expr} {fe : FE} (nd : X.N.Nodup) {i : Nat} {x : Str} {pos' : Pos} (hi : X.N[i]? = some x) (hx : Loc X.env.scope x) (he : DE X W e fe) (hs : swapsWith e (some (.Name x pos')) pos.line X.env = pure false := by rfl)
    (hf : X.fn x = true ∨ X.env.scope.names.lookup x = some .local := by first | exact .inl rfl | exact .inr rfl | assumption) : DS X W (.Assign [.Name x pos'] e pos) (gSet i fe) :=
  ds_setP (fun t p => ps_set nd hi hx p hs hf) he
end

/-! ### isinstance of an exception -/
section
variable {X : Cx} {W : WX} {k : Nat} {e b : Expr} {pos p : Pos}
/-- the second one: an own class, or a built-in one -/
def isArg : D → D → Bool
  | .cls c, .cls c' => decide (c = c')
  | .ty n, .ty m => decide (n = m)
  | _, _ => false
end
end DL

/-! The data layer, part 37: a lambda without parameters handed to a def that calls it once. -/
namespace DL
open PySem PySem.Spec PyProof.Rows L2

/-! ### the lambda is made -/
section
variable {X : Cx} {W : WX} {pins : List (Addr × Obj)} {σ : L2.St} {H : Hp} {s : Shared} {Z φ : List Addr} {S : Store}
end

/-! ### the context of a lambda's body; exceptions in the air have no context -/
/-! ### the lambda is called -/
section
variable {X : Cx} {pins : List (Addr × Obj)} {σ : L2.St} {H : Hp} {s : Shared}
end

/-! ### the def that calls it -/
/-- the lambda's call in the def -/
def Act (Y : Cx) (f c : Addr) (q : Str) (tl : XK → Hp → VK → Prop) (a : Str) : Prop := ∀ (Wt : WX) (pn : List (Addr × Obj)) (xe : Value → Shared → Prop) (p1 p2 : Pos), L2N.Takes (Y.tr pn xe) Wt →
  PE (Y.tr pn xe) (.Call (.Name a p1) [] [] p2) (fun σ1 H1 Q => σ1[0]? = some (some (.ref f)) ∧ H1 c = some (LamX.CodeO c q) ∧ tl (fun cls d H2 => Wt cls d σ1 H2) H1 Q)
section
variable {Y : Cx} {W : WX} {k : Nat} {f c : Addr} {q : Str} {tl : XK → Hp → VK → Prop} {a : Str} {sts : List Stmt} {m : (Store → Res D) → FS} {pos : Pos}
end

/-! ### its promise -/
structure FnT (P : Program) (w : World) (K : PySem.W.Frag) (mg : Str → Option Value) (base : Heap) (k : Nat) (x : Str) (sg : Scope) (g : Addr) (fd : FuncData) (a : Str) (Ng : List Str) (m : (Store → Res D) → FS) : Prop where
  slot : Ng[0]? = some a
  vis : Vis sg a
  run : ∀ (A : Around) (outer : List Env) (s : Shared) (H : Hp) (f c : Addr) (q : Str) (tl : XK → Hp → VK → Prop) (Q : VK) (E : XK) (th : Store → Res D) (Z φ : List Addr) (S : Store), Room (k + 1) A → A.guards = some [] → Env0 P w K mg base A outer s H →
    (∀ cdv : Value, Room k (A.deeper (envOfC x sg s.heap.objs.size g cdv)) → Act (cxOf (L2N.CX P w) P w K mg base Ng x sg g cdv A outer s H E) f c q tl a) → H c = some (LamX.CodeO c q) → Rel K mg Z φ S H →
    (∀ (Q : VK) (E : XK), Want K mg (RDat K mg) Z φ S H (th S) Q E → tl E H Q) → Want K mg (RDat K mg) Z φ S H (m th (List.replicate Ng.length none) S).res Q E →
    codeAny (model P w) A (.call (.ref g) ⟨[.ref f], []⟩) (CR (L2N.CX P w) outer P w H s Q E) s
/-! ### the caller -/
section
variable {X : Cx} {W : WX} {k k' : Nat}
end
end DL

/-! The data layer, part 38: the law's end where defs make lambdas. -/
namespace DL
open PySem PySem.Spec PyProof.Rows L2

/-- the tables of the defs that make lambdas -/
def tabA (K : PySem.W.Frag) (tq : List (He.Defn × Str)) : List Addr := tq.map fun p => (He.cT K p.1).2
/-! ### the head -/
structure SaysO (fa : List He.Fa) (fn : List He.DefD) (tq : List (He.Defn × Str)) (ex : PySem.W.Frag → Bool) (h : Heap) (K : PySem.W.Frag) : Prop where
  says : He.SaysD fa fn K
  ex : ex K = true
  nd : (tabA K tq).Nodup
  hd : ∀ p ∈ tq, PySem.W.codeHdIn K (He.cT K p.1).1 (He.cT K p.1).2 = true
  out : ∀ p ∈ tq, K.lookup (He.cT K p.1).2 = none
  tabs : ∀ p ∈ tq, h.get? (He.cT K p.1).2 = some { cls := .none, data := .fields #[] }
/-! ### facts of exception classes -/
/-- an own class over ValueError without an own __init__: what raise asks -/
structure RaiC (K : PySem.W.Frag) (C : Addr) : Prop where
  ex : PySem.W.excIn K C bmV "ValueError.__new__" = true
  kp : PySem.W.keepIn K (.ref C) = true
  sb : PySem.W.subIn K (.ref C) (.type "BaseException") = some true
  ty : PySem.W.typeIn K (.ref C) = some (.type "type")
theorem raiB_ok {K : PySem.W.Frag} {c : Str} (h : raiB K c = true) : RaiC K (He.ga K c) := by
  obtain ⟨h1, h⟩ := He.ba h
  obtain ⟨h2, h⟩ := He.ba h
  obtain ⟨h3, h4⟩ := He.ba h
  exact ⟨h1, h2, of_decide_eq_true h3, eq_of_beq h4⟩
theorem ds_raiseC {X : Cx} {W : WX} {k : Nat} {x : Str} {C : Addr} {msg : Str} {j : Nat} {p p2 apos pos : Pos} (Cc : Cn X W k) (q : RaiC X.K C) (gC : X.mg x = some (.ref C)) (hg : Gl X x) (hdb : (x == ("__debug__" : Str)) = false := by decide) :
    DS X W (.Raise (some (.Call (.Name x p) [.Constant (.str msg) j p2] [] apos)) none pos) (fun ρ S => .ex x [] ρ S) :=
  ds_raise Cc PySem.F.excBase_ValueError q.ex gC q.kp (raises_own q.sb q.ty) hg hdb
theorem iseB_ok {K : PySem.W.Frag} {c : Str} (h : iseB K c = true) : ExcC K (He.ga K c) := by
  obtain ⟨h1, h⟩ := He.ba h
  obtain ⟨h2, h⟩ := He.ba h
  obtain ⟨h3, h⟩ := He.ba h
  obtain ⟨h4, h⟩ := He.ba h
  obtain ⟨h5, h⟩ := He.ba h
  obtain ⟨h6, h⟩ := He.ba h
  obtain ⟨h7, h8⟩ := He.ba h
  exact ⟨He.eqO_ok h1, He.eqO_ok h2, of_decide_eq_true h3, h4, He.eqO_ok h5, He.eqO_ok h6, of_decide_eq_true h7, of_decide_eq_true h8⟩
theorem lookup_mem' {α : Type} {x : Str} {b : α} : ∀ {t : List (Str × α)}, t.lookup x = some b → (x, b) ∈ t
  | [], h => by cases h
  | (y, c) :: r, h => by
    rw [List.lookup_cons] at h
    cases e : x == y with
    | true =>
      rw [e] at h
      cases h
      rw [eq_of_beq e]
      exact List.mem_cons_self
    | false =>
      rw [e] at h
      exact List.mem_cons_of_mem _ (lookup_mem' h)
theorem exmT_ok {K : PySem.W.Frag} {mg : Str → Option Value} {c : Value} {t : List (Str × Bool)} (h : exmT K c t = true) (hg : ∀ q ∈ t, mg q.1 = some (.ref (He.ga K q.1))) : ∀ C b A, t.lookup C = some b → mg C = some (.ref A) → PySem.W.exmOne K (.ref A) c = some b := fun C b A e hA => by
  have m := lookup_mem' e
  have q := hg _ m
  rw [hA] at q
  cases q
  exact of_decide_eq_true (List.all_eq_true.mp h _ m)
theorem kitT_ok {K : PySem.W.Frag} {mg : Str → Option Value} {c : Value} {t : List (Str × Bool)} (h : kitT K c t = true) (hg : ∀ q ∈ t, mg q.1 = some (.ref (He.ga K q.1))) (hc : ∀ q ∈ t, ExcC K (He.ga K q.1)) : ∀ C b A, t.lookup C = some b → mg C = some (.ref A) → ExcC K A ∧ PySem.W.kitOne K (.ref A) c = some b := fun C b A e hA => by
  have m := lookup_mem' e
  have q := hg _ m
  rw [hA] at q
  cases q
  exact ⟨hc _ m, of_decide_eq_true (List.all_eq_true.mp h _ m)⟩
section
variable {X : Cx} {W : WX} {k : Nat} {e b : Expr} {pos p : Pos} {fa : FA}
end
end DL

/-! The data layer, part 39: // with a great divisor. -/
namespace DL
open PySem L2
section
variable {X : Cx} {W : WX} {a b : Expr} {fa fb : FE} {pos : Pos}
/-- an empty dict that changes no more -/
def fDictE : FE := fun _ S => .ok (.dic []) S
theorem de_dictE : DE X W (.Dict [] [] pos) fDictE := .mk pe_dnewK fun Z φ S ρ σ H Q R sl w => fun p hp => by
  obtain ⟨r, e, at_⟩ := R.fresh (o := .dK []) hp
  refine w _ _ _ r e ?_
  unfold RDat Dat
  exact ⟨p, [], rfl, at_, by unfold DatK; rfl⟩
end
end DL

/-! The data layer, part 40: for k in f(..), where f gives a new dict. -/
namespace DL
open PySem PySem.Spec PyProof.Rows L2
section
variable {X : Cx} {W : WX} {k k' np : Nat} {f : Addr} {fd : FuncData} {ps ks : List Str} {sem : Sem'} {x : Str} {p pos : Pos} {e : Expr} {es : List Expr} {kws : List Keyword} {fa fk : FA} {gD : List D → List D → List D} {tg : Expr}
end
end DL

/-! The data layer, part 41: dict displays with entries, as objects. -/
namespace DL
open PySem PySem.Spec PyProof.Rows L2
abbrev FP := EnvD → Store → Res (List (D × D))
abbrev RPr (K : PySem.W.Frag) (mg : Str → Option Value) : List Addr → Hp → List (D × D) → List (V × V) → Prop := fun φ G ds vs => DatL K mg φ G (ds.map (·.1)) (vs.map (·.1)) ∧ DatL K mg φ G (ds.map (·.2)) (vs.map (·.2))
def DPs (X : Cx) (W : WX) (pos : Pos) (keys : List (Option Expr)) (values : List Expr) (fp : FP) : Prop := ∃ trs, PPs X pos keys values trs ∧ keys.all (·.isSome) = true ∧ keys.length = values.length ∧
  ∀ Z φ S ρ σ H (Q : List (V × V) → Hp → Prop), Rel X.K X.mg Z φ S H → Slots X.K X.mg φ (gnd Z φ S H) ρ σ → Want X.K X.mg (RPr X.K X.mg) Z φ S H (fp ρ S) Q (WE W σ) → tPairs trs σ H Q
def fPs0 : FP := fun _ S => .ok [] S
def fPs (fk fv : FE) (fr : FP) : FP := fun ρ S => (fk ρ S).bind fun x S => (fv ρ S).bind fun y S => (fr ρ S).bind fun ps S => .ok ((x, y) :: ps) S
section
variable {X : Cx} {W : WX} {pos : Pos}
theorem dps_nil : DPs X W pos [] [] fPs0 := ⟨[], pps_nil, rfl, rfl, fun Z φ S ρ σ H Q R sl w => w.now R ⟨DatL.nil, DatL.nil⟩⟩
theorem dps_cons {k v : Expr} {ks : List (Option Expr)} {vs : List Expr} {fk fv : FE} {fr : FP} (hk : DE X W k fk) (hv : DE X W v fv) (hr : DPs X W pos ks vs fr) : DPs X W pos (some k :: ks) (v :: vs) (fPs fk fv fr) := by
  obtain ⟨tk, pk, qk⟩ := hk.ex
  obtain ⟨tv, pv, qv⟩ := hv.ex
  obtain ⟨trs, pr, ha, hl, qr⟩ := hr
  refine ⟨_, pps_cons pk pv pr, by simp [ha], by simp [hl], fun Z φ S ρ σ H Q R sl w => qk Z φ S ρ σ H _ R sl (w.bind fun x S1 u φ1 H1 R1 E1 dx w1 => ?_)⟩
  refine qv Z φ1 S1 ρ σ H1 _ R1 (sl.evo E1) (w1.bind fun y S2 u2 φ2 H2 R2 E2 dy w2 => ?_)
  refine qr Z φ2 S2 ρ σ H2 _ R2 ((sl.evo E1).evo E2) (w2.bind fun ps S3 us φ3 H3 R3 E3 dp w3 => ?_)
  exact w3.now R3 ⟨.cons (Dat.evo E3 (Dat.evo E2 dx)) dp.1, .cons (Dat.evo E3 dy) dp.2⟩
def keysK : List (D × D) → Option (List (Key × D))
  | [] => some []
  | (x, y) :: r => match keyD x, keysK r with
    | some k, some ks => some ((k, y) :: ks)
    | _, _ => none
def mergeD (ks more : List (Key × D)) : List (Key × D) := more.foldl (fun acc kv => putKD acc kv.1 kv.2) ks
theorem datK_merge {K : PySem.W.Frag} {mg : Str → Option Value} {φ : List Addr} {G : Hp} : ∀ {more : List (Key × D)} {mvs : List (Key × V)} {ks : List (Key × D)} {kvs : List (Key × V)}, DatK K mg φ G more mvs → DatK K mg φ G ks kvs → DatK K mg φ G (mergeD ks more) (mergeK kvs mvs)
  | [], _, ks, kvs, h, h0 => by
    unfold DatK at h
    subst h
    exact h0
  | (k, d) :: r, mvs, ks, kvs, h, h0 => by
    unfold DatK at h
    obtain ⟨v, ms, rfl, hd, hr⟩ := h
    have := datK_merge hr (datK_put (k := k) hd h0)
    exact this
theorem keysK_ok {φ : List Addr} {G : Hp} : ∀ {ps : List (D × D)} {us : List (V × V)} {kds : List (Key × D)}, RPr X.K X.mg φ G ps us → keysK ps = some kds → ∃ kvs : List (Key × V), us = kvs.map (fun kv => (kV kv.1, kv.2)) ∧ DatK X.K X.mg φ G kds kvs ∧ kvs.length = kds.length
  | [], us, kds, h, e => by
    cases e
    obtain ⟨h1, _⟩ := h
    have := DatL.length h1
    cases us with
    | nil => exact ⟨[], rfl, by unfold DatK; rfl, rfl⟩
    | cons _ _ => simp at this
  | (x, y) :: r, us, kds, h, e => by
    obtain ⟨h1, h2⟩ := h
    cases us with
    | nil => have := DatL.length h1; simp at this
    | cons u us =>
      obtain ⟨u1, u2⟩ := u
      unfold keysK at e
      split at e
      · rename_i k ks hk hks
        cases e
        simp only [List.map_cons] at h1 h2
        unfold DatL at h1 h2
        obtain ⟨_, _, e1, d1, r1⟩ := h1
        obtain ⟨_, _, e2, d2, r2⟩ := h2
        cases e1
        cases e2
        obtain ⟨kvs, rfl, dk, hl⟩ := keysK_ok ⟨r1, r2⟩ hks
        refine ⟨(k, u2) :: kvs, by rw [List.map_cons, keyD_ok d1 hk], ?_, by simp [hl]⟩
        unfold DatK
        exact ⟨_, _, rfl, d2, dk⟩
      · cases e
def dispAt (n : Nat) (ps : List (D × D)) (S : Store) : Res D := match keysK ps, S[n]? with
  | some kds, some (.dic []) => if kds.length ≤ 15 then .ok (.oid n) (S.set n (.dic (mergeD [] kds))) else .stuck
  | _, _ => .stuck
/-- {k: v, ..}, an object -/
def fDisp (fp : FP) : FE := fun ρ S => (fp ρ (S ++ [.dic []])).bind fun ps S' => dispAt S.length ps S'
theorem de_disp {keys : List (Option Expr)} {values : List Expr} {fp : FP} (h : DPs X W pos keys values fp) (h0 : keys ≠ [] := by intro h; cases h) (h15 : keys.length ≤ 15 := by decide) : DE X W (.Dict keys values pos) (fDisp fp) := by
  obtain ⟨trs, p, ha, hl, q⟩ := h
  refine .mk (pe_disp p ha hl h0 h15) fun Z φ S ρ σ H Q R sl w => fun a hp => ?_
  obtain ⟨R0, E0⟩ := R.newOid (so := .dic []) (same_upd (o := .dK []) hp) hp (by rw [upd_same]; exact fun z => nomatch z) rfl ⟨[], upd_same, by unfold DatK; rfl⟩
  refine q Z _ _ ρ σ _ _ R0 (sl.evo E0) ((w.go E0).bind fun ps S2 us φ2 H2 R2 E2 dp w2 => ?_)
  have h1 : (φ ++ [a])[S.length]? = some a := by rw [List.getElem?_append_right (by rw [R.len]; exact Nat.le_refl _), ← R.len, Nat.sub_self]; rfl
  have hφ : φ2[S.length]? = some a := by
    obtain ⟨t, rfl⟩ := E2.pre
    rw [List.getElem?_append_left (List.getElem?_eq_some_iff.mp h1).1]
    exact h1
  unfold dispAt at w2
  split at w2
  · rename_i kds hk hS
    by_cases hc : kds.length ≤ 15
    · rw [if_pos hc] at w2
      obtain ⟨kvs, rfl, dk, hlen⟩ := keysK_ok dp hk
      obtain ⟨k0, h3, h4⟩ := R2.ob S.length a _ hφ hS
      unfold DatK at h4
      subst h4
      refine ⟨h3, kvs, rfl, by rw [hlen]; exact hc, ?_⟩
      obtain ⟨R3, E3⟩ := R2.mutate (u := .dic (mergeD [] kds)) (ho := .dK (mergeK [] kvs)) hφ hS rfl rfl ⟨_, upd_same, datK_merge dk (by unfold DatK; rfl)⟩
      refine w2 _ _ _ R3 E3 ?_
      unfold RDat Dat
      exact ⟨a, rfl, hφ⟩
    · rw [if_neg hc] at w2
      exact w2.elim
  · exact w2.elim
end
end DL

/-! The data layer, part 42: the least of a list of pairs of numbers. -/
namespace PySem.W
open PySem PySem.SeqAt PyProof.Rows
section
variable {prog : Program} {w : World} {A : Around} {E : Value → Shared → Prop} {s : Shared}
end
end PySem.W
namespace DL
open PySem PySem.Spec PySem.W PySem.SeqAt PyProof.Rows L2
section
variable {X : Cx} {W : WX} {k : Nat} {pos : Pos}
end
end DL

/-! The data layer, part 43: d.get(None, x); dict(a list of pairs). -/
namespace DL
open PySem PySem.Spec PyProof.Rows L2
section
variable {X : Cx} {W : WX} {k : Nat} {o e f : Expr} {fo fe ff : FE} {p pos apos cpos : Pos} {td ty tx : TE}
/-! ### dict(pairs) -/
end
end DL

/-! The data layer, part 44: list * number, d[k] //= n, C.m(self, ..), constants that are tuples of texts. -/
namespace DL
open PySem PySem.Spec PyProof.Rows L2
/-! ### list * number -/
section
variable {X : Cx} {W : WX} {a b : Expr} {fa fb : FE} {pos : Pos}
end
/-! ### d[k] op= n -/
section
variable {X : Cx} {W : WX} {k : Nat} {o i e : Expr} {fo fi fe : FE} {pos tpos : Pos}
end
end DL

/-! The data layer, part 45: C.m(self, ..), constants that are tuples of texts. -/
namespace DL
open PySem PySem.Spec PyProof.Rows L2
/-! ### a def of a class, called by the class's name -/
structure CCl (K : PySem.W.Frag) (C : Addr) (m : Str) (f : Addr) : Prop where
  rd : ClX.CRead K C (.type "type")
  cv : ClX.CVal K C (.type "type") m (.ref f) (.ref f)
  kp : PySem.W.keepIn K (.ref f) = true
section
variable {X : Cx} {W : WX} {k k' np : Nat} {f C : Addr} {fd : FuncData} {ps ks : List Str} {sem cs : Sem'} {x m : Str} {p pos apos : Pos} {e : Expr} {es : List Expr} {kws : List Keyword} {fa fk : FA} {gD : List D → List D → List D}
end
/-! ### a module's tuple of texts -/
section
variable {X : Cx} {W : WX} {pos : Pos}
end
end DL

/-! The data layer, part 46: list.count. -/
namespace DL
open PySem PySem.Spec PyProof.Rows L2
section
variable {X : Cx} {W : WX} {k : Nat} {o e : Expr} {fo fe : FE} {pos apos cpos : Pos}
end
end DL

/-! The data layer, part 47: len({x for x in xs}) of a list of ints. -/
namespace DL
open PySem PySem.Spec PyProof.Rows L2
section
variable {prog : Program} {w : World} {A : Around} {E : Value → Shared → Prop} {env : Env} {s : Shared}
end
end DL

/-! The data layer, part 48: len({x for x in xs}), as a mirror. -/
namespace DL
open PySem PySem.Spec PyProof.Rows L2
section
variable {X : Cx} {W : WX} {k : Nat} {iter : Expr} {ta : TE} {fi : FE} {y : Str} {p pa pe cpos pos : Pos} {scope : Scope}
end
end DL

/-! The data layer, part 49: a head's facts with the statics in sight. -/
namespace DL
open PySem PySem.Spec PyProof.Rows L2
end DL

/-! The data layer, part 50: list.extend with a list. -/
namespace DL
open PySem PySem.Spec PyProof.Rows L2
section
variable {X : Cx} {W : WX} {k : Nat} {o e : Expr} {fo fe : FE} {pos apos cpos : Pos}
end
end DL

/-! The data layer, part 51: != by an own __eq__. -/
namespace DL
open PySem PySem.Spec PyProof.Rows L2
/-- what != asks of a class that has no __ne__ of its own -/
structure NeC (K : PySem.W.Frag) (C : Addr) : Prop where
  hn : PySem.W.findIn K (.ref C) "__ne__" = some (some (.builtin "object.__ne__"))
  hm : PySem.W.mroIn K C (.type "object") = some true
section
variable {prog : Program} {w : World} {A : Around} {E : Value → Shared → Prop} {s : Shared} {K : PySem.W.Frag} {x y C L f : Addr} {h₀ : Heap} {m : Str → Option Value} {ox oy : Obj} {od od' : Option Obj}
end
section
variable {X : Cx} {W : WX} {k : Nat}
end
end DL

/-! The data layer, part 52: what the module's names reach, told by a number's bits (no list is searched). -/
namespace DL
open PySem PySem.Spec PyProof.Rows L2
end DL

/-! The data layer, part 53: a, b = a list or a tuple. -/
namespace DL
open PySem L2
def mSeqT (n : Nat) (ms : List D → EnvD → Store → Option EnvD) : FG := fun d ρ S => match asQ S d with
  | some ds => if ds.length = n then ms ds ρ S else none
  | none => none
@[simp] theorem e_mSeqT (n : Nat) (ms : List D → EnvD → Store → Option EnvD) (ds : List D) (d : D) (ρ : EnvD) (S : Store) (h : asQ S d = some ds) : mSeqT n ms d ρ S = if ds.length = n then ms ds ρ S else none := by
  unfold mSeqT
  rw [h]
/-- a loop over what may change, by its invariant -/
theorem loop_invC {d0 : D} {es : List D} {m : FG} {b : FS} (I : Nat → EnvD → Store → Prop) (hI : ∀ i ρ S, I i ρ S → asL S d0 = some es) : ∀ (ds : List D) (i : Nat) (ρ : EnvD) (S : Store), I i ρ S →
    (∀ j d ρ S, ds[j]? = some d → I (i + j) ρ S → ∃ ρ1 ρ2 S2, m d ρ S = some ρ1 ∧ (b ρ1 S = .nx ρ2 S2 ∨ b ρ1 S = .ct ρ2 S2) ∧ I (i + j + 1) ρ2 S2) → ∃ ρ' S', loopF (some (d0, es)) m b ds ρ S = .nx ρ' S' ∧ I (i + ds.length) ρ' S'
  | [], i, ρ, S, h0, _ => ⟨ρ, S, by
      unfold loopF
      rw [if_pos (show okC (some (d0, es)) S from hI _ _ _ h0)], h0⟩
  | d :: ds, i, ρ, S, h0, step => by
    obtain ⟨ρ1, ρ2, S2, h1, h2, h3⟩ := step 0 d ρ S rfl h0
    obtain ⟨ρ', S', q1, q2⟩ := loop_invC I hI ds (i + 1) ρ2 S2 h3 fun j e ρ S hj hI => by
      have := step (j + 1) e ρ S hj (by rw [show i + (j + 1) = i + 1 + j by omega]; exact hI)
      rw [show i + (j + 1) = i + 1 + j by omega] at this
      exact this
    refine ⟨ρ', S', ?_, by rw [List.length_cons, show i + (ds.length + 1) = i + 1 + ds.length by omega]; exact q2⟩
    rw [loopF, if_pos (show okC (some (d0, es)) S from hI _ _ _ h0), h1]
    rcases h2 with h2 | h2 <;> (simp only [h2]; exact q1)
end DL

/-! The data layer, part 54: zip of two tuples, and of a list that may change with a list. -/
namespace DL
open PySem L2
def zipA : List D → Store → Res ItD := fun ds S => match ds with
  | [.lst xs, .lst ys] => .ok ⟨zipD xs ys, none⟩ S
  | [.tup xs, .tup ys] => .ok ⟨zipD xs ys, none⟩ S
  | [.oid n, .lst ys] => (match asL S (.oid n) with
    | some xs => .ok ⟨zipD xs ys, some (.oid n, xs)⟩ S
    | none => .stuck)
  | _ => .stuck
def fZipA (fa : FA) : FI := fun ρ S => (fa ρ S).bind zipA
section
variable {X : Cx} {W : WX} {k : Nat} {pos p : Pos}
@[simp] theorem e_fZipA (fa : FA) (ρ : EnvD) (S : Store) : fZipA fa ρ S = (fa ρ S).bind zipA := rfl
end
end DL

/-! The data layer, part 55: x is True, x is not True; sorted of a tuple of numbers. -/
namespace DL
open PySem PySem.Spec PyProof.Rows L2
/-! ### is a truth -/
section
variable {X : Cx}
def isBl : D → Bool → Bool
  | .bl c, b => c == b
  | _, _ => false
def gIsBl : G2 := fun x y S => match y with
  | .bl b => .ok (.bl (isBl x b)) S
  | _ => .stuck
def gNotBl : G2 := fun x y S => match y with
  | .bl b => .ok (.bl (!isBl x b)) S
  | _ => .stuck
@[simp] theorem e_gIsBl (b c : Bool) (S : Store) : gIsBl (.bl c) (.bl b) S = .ok (.bl (c == b)) S := rfl
@[simp] theorem e_gNotBl (b c : Bool) (S : Store) : gNotBl (.bl c) (.bl b) S = .ok (.bl (!(c == b))) S := rfl
/-! ### sorted of a tuple -/
end
end DL
namespace SrtO
open PySem PyProof.Rows Srt
section
variable {prog : Program} {w : World} {A : Around} {E : Value → Shared → Prop} {s : Shared}
end
end SrtO
namespace DL
open PySem PySem.Spec PyProof.Rows L2
section
variable {X : Cx} {W : WX} {k : Nat} {e : Expr} {pos p : Pos}
end
end DL

/-! The data layer, part 56: xs[::-1] of a list. -/
namespace DL
open PySem PySem.Spec PyProof.Rows L2
section
variable {X : Cx} {W : WX} {k : Nat} {e : Expr} {fe : FE} {pos p p1 p2 p3 : Pos}
def gRevL (x : D) (S : Store) : Res D := match asL S x with
  | some xs => .ok (.lst xs.reverse) S
  | none => .stuck
@[simp] theorem e_gRevL (xs : List D) (S : Store) : gRevL (.lst xs) S = .ok (.lst xs.reverse) S := rfl
end
end DL

/-! The data layer, part 57: tuple * number, nought and one too. -/
namespace L2
open PySem PySem.Spec PyProof.Rows
section
variable {X : Cx}
end
end L2
namespace DL
open PySem PySem.Spec PyProof.Rows L2
section
variable {X : Cx} {W : WX} {a b : Expr} {fa fb : FE} {pos : Pos}
end
end DL

/-! The data layer, part 58: isinstance(x, P) of an instance of a class under P. -/
namespace DL
open PySem PySem.Spec PyProof.Rows L2
structure IsuC (K : PySem.W.Frag) (C P : Addr) : Prop where
  isi : IsiC K C
  one : PySem.W.kitOne K (.ref C) (.ref P) = some true
section
variable {X : Cx} {W : WX} {k : Nat} {e b : Expr} {pos p : Pos}
end
end DL

/-! The data layer, part 59: tables of the top (dicts with text keys that stand in the written part): in, not in, t[k]. -/
namespace DL
open PySem PySem.Spec PyProof.Rows L2
def dVal (K : PySem.W.Frag) : D → V
  | .str x => .str x
  | .int i => .int i
  | .bl b => .bl b
  | .cls c => .ref (He.ga K c)
  | _ => .non
/-- what stands at a: a table -/
structure TabC (K : PySem.W.Frag) (mg : Str → Option Value) (w : World) (a : Addr) (tab : List (Str × D)) : Prop where
  kd : ∃ es n, KDict K w a es n
  at_ : ∀ z d, tab.lookup z = some d → ∃ u, PySem.W.nsIn K a z = some (some u) ∧ RelV (dVal K d) u ∧ ∀ (φ : List Addr) (G : Hp), Dat K mg φ G d (dVal K d)
  out : ∀ z, tab.lookup z = none → PySem.W.nsIn K a z = some none
section
variable {X : Cx} {W : WX} {a b : Expr} {fa fb : FE} {pos : Pos}
theorem TabC.ns {K : PySem.W.Frag} {mg : Str → Option Value} {w : World} {A : Addr} {tab : List (Str × D)} (T : TabC K mg w A tab) (z : Str) : ∃ r, PySem.W.nsIn K A z = some r ∧ r.isSome = (tab.lookup z).isSome := by
  cases h : tab.lookup z with
  | none => exact ⟨none, T.out z h, rfl⟩
  | some d =>
    obtain ⟨u, e, _⟩ := T.at_ z d h
    exact ⟨some u, e, rfl⟩
end
end DL

/-! The data layer, part 60: a head's hook with tables of the top. -/
namespace DL
open PySem PySem.Spec PyProof.Rows L2
end DL

/-! The data layer, part 61: o.f, o.g = a, b. -/
namespace L2
open PySem PySem.Spec PyProof.Rows
section
variable {X : Cx}
end
end L2
namespace DL
open PySem PySem.Spec PyProof.Rows L2
section
variable {X : Cx} {W : WX} {pos : Pos}
end
end DL

/-! The data layer, part 62: xs[::2], xs[1::2] of a list. -/
namespace L2
open PySem PySem.Spec PyProof.Rows
section
variable {X : Cx}
end
end L2
namespace DL
open PySem PySem.Spec PyProof.Rows L2
section
variable {X : Cx} {W : WX} {e : Expr} {fe : FE} {pos p1 p3 : Pos}
end
end DL

/-! The data layer, part 63: zip of a list and a text. -/
namespace L2
open PySem PySem.Spec PyProof.Rows
section
variable {prog : Program} {w : World} {A : Around}
end
end L2
namespace DL
open PySem PySem.Spec PyProof.Rows L2
def signsD (x : Str) : List D := x.cps.toList.map fun c => D.str ⟨#[c]⟩
def zipS : List D → Store → Res ItD := fun ds S => match ds with
  | [d, .str x] => (match asL S d with
    | some xs => .ok ⟨zipD xs (signsD x), some (d, xs)⟩ S
    | none => .stuck)
  | _ => .stuck
def fZipS (fa : FA) : FI := fun ρ S => (fa ρ S).bind zipS
section
variable {X : Cx} {W : WX} {k : Nat} {pos p : Pos}
@[simp] theorem e_fZipS (fa : FA) (ρ : EnvD) (S : Store) : fZipS fa ρ S = (fa ρ S).bind zipS := rfl
end
end DL

/-! The data layer, part 64: t.get(k) of tables of the top; a call of a name that holds one of several defs; xs[i] op= e; o.f op= e. -/
namespace DL
open PySem PySem.Spec PyProof.Rows L2
section
variable {X : Cx} {W : WX} {k k' : Nat} {o e f : Expr} {fo fe ff : FE} {apos cpos pos : Pos}
/-! ### a name that holds one of several defs -/
inductive DspT (X : Cx) (sel : List (Nat × Nat)) (np k' : Nat) : List (Str × Sem') → Prop
  | nil : DspT X sel np k' []
  | cons {c : Str} {sem : Sem'} {l : List (Str × Sem')} {k : Nat} {f : Addr} {fd : FuncData} {ps : List Str} (F : FnG X.prog X.w X.K X.mg X.base k f fd ps (spD X.K X.mg ps.length sem)) (hm : X.mg c = some (.ref f)) (hk : PySem.W.keepIn X.K (.ref f) = true)
      (hb : KB X.K fd ps np [] (fun ds es => pick sel ds es [])) (r : DspT X sel np k' l) (hle : k ≤ k' := by decide) (hl : ps.length = np := by rfl) : DspT X sel np k' ((c, sem) :: l)
theorem DspT.get {sel : List (Nat × Nat)} {np : Nat} {l : List (Str × Sem')} {c : Str} {sem : Sem'} {f : Addr} (h : DspT X sel np k' l) (e : l.lookup c = some sem) (hm : X.mg c = some (.ref f)) :
    ∃ (k : Nat) (fd : FuncData) (ps : List Str), FnG X.prog X.w X.K X.mg X.base k f fd ps (spD X.K X.mg ps.length sem) ∧ k ≤ k' ∧ PySem.W.keepIn X.K (.ref f) = true ∧ ps.length = np ∧ KB X.K fd ps np [] (fun ds es => pick sel ds es []) := by
  induction h with
  | nil => cases e
  | @cons c' sem' l k f' fd ps F hm' hk hb r hle hl ih =>
    rw [List.lookup_cons] at e
    by_cases q : (c == c') = true
    · rw [q] at e
      cases e
      obtain rfl : c = c' := beq_iff_eq.mp q
      rw [hm] at hm'
      cases hm'
      exact ⟨k, fd, ps, F, hle, hk, hl, hb⟩
    · have q : (c == c') = false := by simpa using q
      rw [q] at e
      exact ih e
/-! ### xs[i] op= e, o.f op= e -/
end
end DL

/-! The data layer, part 65: a, *b = t, of a tuple. -/
namespace PySem
open PySem.Spec PySem.Calls PyProof.Rows PySem.W L2
section
variable {prog : Program} {w : World} {A : Around} {E : Value → Shared → Prop} {s : Shared}
end
end PySem
namespace DL
open PySem L2
section
variable {X : Cx} {W : WX} {k : Nat} {e : Expr} {fe : FE} {pos : Pos}
end
end DL

/-! The data layer, part 66: a head's hook with tables of the top, where defs make lambdas. -/
namespace DL
open PySem PySem.Spec PyProof.Rows L2
end DL

/-! The data layer, part 67: {None: .., "x": ..}.get(e, f): a display of constants asked at once. -/
namespace DL
open PySem PySem.Spec PyProof.Rows L2
def lfV : Leaf → V
  | .none => .non
  | .num i => .int i
  | .text x => .str x
def mergeL (kvs more : List (Leaf × V)) : List (Leaf × V) := more.foldl (fun acc kv => putK acc kv.1 kv.2) kvs
theorem KV.mergeL : ∀ {more : List (Leaf × V)} {rs : List (Leaf × Value)} {kvs : List (Leaf × V)} {vs : List (Leaf × Value)}, KV more rs → KV kvs vs → KV (DL.mergeL kvs more) (merged vs rs) := by
  intro more rs kvs vs r
  unfold KV at r
  induction r generalizing kvs vs with
  | nil => intro q; exact q
  | @cons p q ps qs h t ih =>
    intro r0
    have e : KV (putK kvs p.1 p.2) (stored vs q.1 q.2) := by
      have := r0.put p.1 h.2
      rw [← h.1]; exact this
    exact ih e
section
variable {X : Cx} {W : WX} {pos apos cpos : Pos} {keys : List (Option Expr)} {values : List Expr} {kvs : List (Leaf × V)} {e f : Expr} {fe ff : FE} {k : Nat}
/-! ### constants -/
def cnV : D → Option V
  | .int i => some (.int i)
  | .str x => some (.str x)
  | _ => none
/-- the values of a table of constants -/
inductive CnT : List (Leaf × D) → List (Leaf × V) → Prop
  | nil : CnT [] []
  | cons {j : Leaf} {d : D} {v : V} {r : List (Leaf × D)} {s : List (Leaf × V)} (h : cnV d = some v) (t : CnT r s) : CnT ((j, d) :: r) ((j, v) :: s)
/-- the display's text: keys and values as the table has them -/
structure CDs (X : Cx) (pos : Pos) (keys : List (Option Expr)) (values : List Expr) (tab : List (Leaf × D)) : Prop where
  ex : ∃ kvs : List (Leaf × V), CnT tab kvs ∧ PPs X pos keys values (kvs.map fun kv => (tC (lfV kv.1), tC kv.2))
end
end DL

/-! The data layer, part 68: d["x"] += n. -/
namespace DL
open PySem PySem.Spec PyProof.Rows L2
end DL

/-! The data layer, part 69: within an except suite: iterators' ends, all(..). -/
namespace DL
open PySem PySem.Spec PyProof.Rows L2
/-! ### an iterator's end while an exception is handled -/
section
variable {prog : Program} {w : World} {A : Around} {E : Value → Shared → Prop} {s : Shared}
end
/-! ### where an exception is handled -/
/-- the handled exception's object p stands in every state, out of the reach of what is tracked -/
structure HotK (X : Cx) (p : Addr × Obj) : Prop where
  hot : L2H.Hot1 X.A p
  pin : ∀ {pins : List (Addr × Obj)} {σ : L2.St} {H : Hp} {s : Shared}, L2.Inv X pins σ H s → L2H.PinOk X.stack H s p
section
variable {X : Cx} {p : Addr × Obj} {pins : List (Addr × Obj)} {σ : L2.St} {H : Hp} {s : Shared}
theorem HotK.at (h : HotK X p) (J : L2.Inv X pins σ H s) : HotX.HotAt X.A p.1 s.heap := by
  obtain ⟨a, vs, b, c⟩ := h.hot
  exact ⟨a, p.2, vs, (h.pin J).get, b, c⟩
theorem HotK.of_pin (h : L2H.Hot1 X.A p) (hp : p ∈ X.pn) : HotK X p := ⟨h, fun J => by
  obtain ⟨a, b, c, d, e⟩ := J.pin p (List.mem_append_left _ hp)
  exact ⟨a, b, fun z => (List.mem_cons.mp (J.stkSub p.1 z)).elim c d, e⟩⟩
theorem HotK.blk (h : HotK X p) (J : L2.Inv X pins σ H s) {scope : Scope} {ce : Env} {fp : List Addr} (hf : p.1 ∉ fp) : HotK (X.blk s H scope ce fp) p := by
  have P := h.pin J
  refine ⟨h.hot, fun {pins' σ' H' s'} K => ⟨?_, ?_, P.nofs, P.nocell⟩⟩
  · exact K.base.keep p.1 p.2 P.get P.free P.nofs hf
  · exact K.base.free p.1 p.2 P.get P.free hf
end
end DL

/-! The data layer, part 70: loops and list comprehensions within an except suite. -/
namespace DL
open PySem PySem.Spec PyProof.Rows L2
/-- an iterator's turns while an exception is handled -/
structure TurnQ (P : Program) (w : World) (K : PySem.W.Frag) (tg : Expr) (J : It) (fp : List Addr) (it : Addr) (tn : Nat → Heap → Prop) : Prop where
  obj : ∀ i h, tn i h → ∀ b ∈ fp, ∃ o, h.get? b = some o ∧ ∀ v, o.data ≠ .cell v
  keep : ∀ i h h', tn i h → (∀ b ∈ fp, ∀ o, h.get? b = some o → h'.get? b = some o) → tn i h'
  item : ∀ (X : Cx), X.prog = P → X.w = w → X.K = K → ∀ (i : Nat) (pins : List (Addr × Obj)) (s : Shared) (σ : L2.St) (H : Hp) (E : Value → Shared → Prop), L2.Inv X pins σ H s → (∀ b ∈ fp, FpOk X pins H b) → tn i s.heap → J.go i H →
    wpAny (model P w) X.A (pyNext (.ref it)) (fun r t => ∃ u, r = some u ∧
      wpAny (model P w) X.A (letOwnedTupleGo tg (.ref it) u) (fun _ t' => ∃ x H', L2.Inv X pins σ H' t' ∧ RelV x u ∧ J.yld i H x H' ∧ tn (i + 1) t'.heap ∧ ∀ b ∈ fp, H' b = none) E t) E s
  done : ∀ (X : Cx), X.prog = P → X.w = w → X.K = K → ∀ (x1 : Addr), x1 ∉ fp → ∀ (i : Nat) (pins : List (Addr × Obj)) (s : Shared) (σ : L2.St) (H : Hp) (E : Value → Shared → Prop), HotX.HotAt X.A x1 s.heap → L2.Inv X pins σ H s → (∀ b ∈ fp, FpOk X pins H b) → tn i s.heap → J.stop i H →
    wpAny (model P w) X.A (pyNext (.ref it)) (fun r t => r = none ∧ L2.Inv X pins σ H t) E s
  self : ∀ (A : Around) (i : Nat) (s : Shared) (Q : Value → Shared → Prop) (E : Value → Shared → Prop), tn i s.heap → Q (.ref it) s → wpAny (model P w) A (pyIter (.ref it)) Q E s
section
variable {P : Program} {w : World} {K : PySem.W.Frag} {tg : Expr}
end
/-- an iterator has come, apart from p -/
def PIEQ (X : Cx) (pins : List (Addr × Obj)) (σ : L2.St) (tg : Expr) (p : Addr × Obj) (R : It → Hp → Prop) (itv : Value) (t : Shared) : Prop :=
  ∃ (it : Addr) (fp : List Addr) (tn : Nat → Heap → Prop) (J : It) (H' : Hp), itv = .ref it ∧ L2.Inv X pins σ H' t ∧ TurnQ X.prog X.w X.K tg J fp it tn ∧ tn 0 t.heap ∧ (∀ b ∈ fp, FpOk X pins H' b) ∧ p.1 ∉ fp ∧ R J H'
structure PIQ (X : Cx) (p : Addr × Obj) (tg iter : Expr) (wi : TI) : Prop where
  run : ∀ (pins : List (Addr × Obj)) (s : Shared) (σ : L2.St) (H : Hp) (R : It → Hp → Prop), L2.Inv X pins σ H s → wi σ H R →
    wpAny (model X.prog X.w) X.A (eval iter X.env) (fun v t => wpAny (model X.prog X.w) X.A (pyIter v) (PIEQ X pins σ tg p R) X.xe t) X.xe s
section
variable {X : Cx} {p : Addr × Obj} {tg : Expr}
theorem PIQ.weak {iter : Expr} {t t' : TI} (h : PIQ X p tg iter t) (i : ∀ σ H R, t' σ H R → t σ H R) : PIQ X p tg iter t' := ⟨fun pins s σ H R I q => h.run pins s σ H R I (i _ _ _ q)⟩
theorem PIQ.or {iter : Expr} {t t' : TI} (h : PIQ X p tg iter t) (h' : PIQ X p tg iter t') : PIQ X p tg iter (fun σ H R => t σ H R ∨ t' σ H R) := ⟨fun pins s σ H R I q => q.elim (h.run pins s σ H R I) (h'.run pins s σ H R I)⟩
end
end DL

/-! The data layer, part 71: within an except suite: the rules that ask what is under way around the code; calls; try with such suites. -/
namespace DL
open PySem PySem.Spec PyProof.Rows L2
/-- what is known of a context in which an exception is handled -/
structure CnQ (X : Cx) (W : WX) (k : Nat) : Prop where
  room : L2H.RoomH k X.A
  gd : X.A.guards = some []
  hot : ∃ p, HotK X p
  nd : X.N.Nodup
  po : PassesOwn (model X.prog X.w) X.A X.env X.xe
  tk : L2N.Takes X W
/-- a def's promise where an exception is handled -/
structure FnGQ (P : Program) (w : World) (K : PySem.W.Frag) (mg : Str → Option Value) (base : Heap) (k : Nat) (f : Addr) (fd : FuncData) (ps : List Str) (sp : Sp) : Prop where
  len : ∀ vs H Q E, sp vs H Q E → vs.length = ps.length
  run : ∀ (A : Around) (outer : List Env) (s : Shared) (H : Hp) (args : Args) (us : List Value) (vs : List V) (Q : VK) (E : XK) (p : Addr × Obj), L2H.RoomH k A → A.guards = some [] → L2H.Hot1 A p → L2H.PinOk outer H s p → Env0 P w K mg base A outer s H →
    BindsTo s fd args (ps.zip us) → Vals vs us → sp vs H Q E → codeAny (model P w) A (.call (.ref f) args) (CR (L2N.CX P w) outer P w H s Q E) s
section
variable {X : Cx} {W : WX} {k k' n np : Nat} {f C : Addr} {fd : FuncData} {ps ks : List Str} {sp : Sp} {sem cs : Sem'} {x m : Str} {p pos apos : Pos} {e o : Expr} {es : List Expr} {kws : List Keyword} {fa fk : FA} {fo fe : FE} {g : FS} {gD : List D → List D → List D}
/-! ### what is walked -/
end
end DL

/-! The data layer, part 72: within an except suite: loops; try whose suites hold calls. -/
namespace DL
open PySem PySem.Spec PyProof.Rows L2
section
variable {X : Cx} {W : WX} {k : Nat} {g : FS} {pos : Pos}
end
/-! ### clauses without names, whose suites know the handled exception -/
structure HdQ where
  c : Value
  ts : TS
def wHdsQ (K : PySem.W.Frag) (Wo : WX) (Dd : Ends) : List HdQ → WX
  | [] => Wo
  | q :: r => fun cls d σ H => ∃ b, PySem.W.exmOne K cls q.c = some b ∧ (b = true → q.ts Dd σ H) ∧ (b = false → wHdsQ K Wo Dd r cls d σ H)
inductive HdsQ (X : Cx) : List ExceptHandler → List HdQ → Prop
  | nil : HdsQ X [] []
  | plain {x : Str} {c : Value} {ts : TS} {b0 : Stmt} {bs : List Stmt} {np hp : Pos} {hds : List ExceptHandler} {l : List HdQ} (hc : Names X x c)
      (hs : ∀ (a : Addr) (ob : Obj) (pn : List (Addr × Obj)), L2H.Hot1 (X.suite a ((a, ob) :: pn)).A (a, ob) → PSs (X.suite a ((a, ob) :: pn)) (b0 :: bs) ts) (r : HdsQ X hds l) : HdsQ X (.ExceptHandler (some (.Name x np)) none (b0 :: bs) hp :: hds) (⟨c, ts⟩ :: l)
section
variable {X : Cx} {body : List Stmt} {h0 : ExceptHandler} {hds : List ExceptHandler} {l : List HdQ} {pos : Pos} {tb : WX → TS} {Wo : WX}
end
section
variable {X : Cx} {W : WX} {k : Nat} {pos : Pos}
/-- such clauses and their mirrors -/
inductive HdsDQ (X : Cx) (k : Nat) : List ExceptHandler → List HM → List HdQ → Prop
  | nil : HdsDQ X k [] [] []
  | plain {x : Str} {c : Value} {t : List (Str × Bool)} {g : FS} {b0 : Stmt} {bs : List Stmt} {np hp : Pos} {hds : List ExceptHandler} {ms : List HM} {l : List HdQ} (hc : Names X x c) (ht : ∀ C b A, t.lookup C = some b → X.mg C = some (.ref A) → PySem.W.exmOne X.K (.ref A) c = some b)
      (hs : ∀ (a : Addr) (pn : List (Addr × Obj)), CnQ (X.suite a pn) W0 k → DSs (X.suite a pn) W0 (b0 :: bs) g) (r : HdsDQ X k hds ms l) : HdsDQ X k (.ExceptHandler (some (.Name x np)) none (b0 :: bs) hp :: hds) (⟨t, none, g⟩ :: ms) (⟨c, tDS X W0 g⟩ :: l)
theorem Cn.hot (C : Cn X W k) {a : Addr} {ob : Obj} {pn : List (Addr × Obj)} (h : L2H.Hot1 (X.suite a ((a, ob) :: pn)).A (a, ob)) : CnQ (X.suite a ((a, ob) :: pn)) W0 k :=
  ⟨⟨C.room.dp, C.room.un⟩, C.gd, ⟨_, HotK.of_pin h List.mem_cons_self⟩, C.nd, PassesOwn.never, takes0N⟩
theorem HdsDQ.toT (C : Cn X W k) : ∀ {hds : List ExceptHandler} {ms : List HM} {l : List HdQ}, HdsDQ X k hds ms l → HdsQ X hds l
  | _, _, _, .nil => .nil
  | _, _, _, .plain hc _ hs r => .plain hc (fun a ob pn h => hs a ((a, ob) :: pn) (C.hot h)) (r.toT C)
theorem HdsDQ.want {Dd : Ends} {Z φ : List Addr} {S : Store} {H : Hp} {ρ : EnvD} {σ : L2.St} {Cl : Str} {fs : List (Str × D)} {A : Addr} {dx : Option Addr} (hA : X.mg Cl = some (.ref A)) (R : Rel X.K X.mg Z φ S H) (sl : Slots X.K X.mg φ (gnd Z φ S H) ρ σ) (xd : ExD X.K X.mg φ (gnd Z φ S H) fs dx) :
    ∀ {hds : List ExceptHandler} {ms : List HM} {l : List HdQ}, HdsDQ X k hds ms l → WantS X W Z φ S H (hdM ms Cl fs ρ S) Dd → wHdsQ X.K W Dd l (.ref A) dx σ H
  | _, _, _, .nil, w => w A dx σ φ H hA R Evo.refl sl xd
  | _, _, _, .plain (c := c) (t := t) (g := g) hc ht hs r, w => by
    unfold hdM at w
    cases e : t.lookup Cl with
    | none => simp only [e] at w; exact w.elim
    | some b =>
      simp only [e] at w
      refine ⟨b, ht Cl b A e hA, fun hb => ?_, fun hb => ?_⟩
      · subst hb
        refine ⟨Z, φ, S, ρ, R, sl, ?_⟩
        have w1 : WantS X W Z φ S H (g ρ S).calm Dd := w
        revert w1
        cases g ρ S <;> intro w1
        · exact w1
        · exact w1
        · exact w1
        · exact w1
        · exact w1.elim
        · exact w1
      · subst hb
        exact r.want hA R sl xd w
end
end DL

/-! The data layer, part 73: a sum of lists that is changed later. -/
namespace DL
open PySem PySem.Spec PyProof.Rows L2
section
variable {X : Cx} {W : WX} {a b : Expr} {fa fb : FE} {pos : Pos}
end
end DL

/-! The data layer, part 74: list.clear. -/
namespace DL
open PySem PySem.Spec PyProof.Rows L2
section
variable {X : Cx} {W : WX} {o : Expr} {fo : FE} {pos apos cpos : Pos}
end
end DL

/-! The data layer, part 75: a loop over the zip of two lists that are objects. -/
namespace DL
open PySem PySem.Spec PyProof.Rows L2
section
variable {X : Cx} {W : WX} {k : Nat} {g : FS} {pos p : Pos}
end
end DL

/-! The data layer, part 76: dicts whose keys are tuples of whole numbers and truths. -/
namespace DL
open PySem PySem.Spec PyProof.Rows L2
section
variable {X : Cx} {W : WX} {k0 : Nat} {pins : List (Addr × Obj)} {σ : L2.St} {H : Hp} {s : Shared}
/-! ### the layer -/
variable {φ : List Addr} {G : Hp} {Z : List Addr} {S : Store}
end
end DL

/-! The data layer, part 77: list(range(a, b)). -/
namespace DL
open PySem PySem.Spec PyProof.Rows L2
section
variable {X : Cx} {W : WX} {k : Nat} {a b : Expr} {fa fb : FE} {p p2 pos cpos : Pos}
end
end DL

/-! The data layer, part 78: own exceptions whose own __init__ keeps its arguments; e.f of a caught one. -/
namespace DL
open PySem PySem.Spec PyProof.Rows L2
/-! ### the class -/
theorem oexB_ok {K : PySem.W.Frag} {C : Addr} (h : oexB K C = true) : OexC K C := by
  obtain ⟨q, h⟩ := He.ba h
  obtain ⟨h1, h⟩ := He.ba h
  obtain ⟨h2, h⟩ := He.ba h
  obtain ⟨h3, h4⟩ := He.ba h
  refine ⟨?_, He.eqO_ok h1, of_decide_eq_true h2, eq_of_beq h3, h4⟩
  split at q
  · rename_i dd cd sl ho
    split at q
    · rename_i C' bm k0 k1 k2 k3 n k5 hm hs
      simp only [Bool.and_eq_true, beq_iff_eq, Bool.not_eq_true'] at q
      obtain ⟨⟨⟨⟨rfl, rfl⟩, hdel⟩, hdict⟩, ht⟩ := q
      obtain ⟨nm, bs, mro, ns, qn, hd, sn, sub, ab, col, del⟩ := cd
      dsimp only at hm hdel hdict
      subst hm hdel hdict
      have hsl : sl = #[k0, k1, k2, k3, some (.builtin "ValueError.__new__"), k5] := by
        obtain ⟨l⟩ := sl
        simp only at hs
        rw [hs]
      subst hsl
      exact ⟨nm, qn, ns, bs, bm, sn, sub, ab, col, dd, k0, k1, k2, k3, k5, ho, ht⟩
    · cases q
  · cases q
/-- C keeps its arguments as fs; B, over it, has no __init__ of its own -/
structure XiC (K : PySem.W.Frag) (C B fI : Addr) (fs : List Str) : Prop where
  oc : OexC K C
  rd : ClX.CRead K B (.type "type")
  iv : PySem.W.findCls K (.ref B) (.type "type") "__init__" = some (.val (.builtin "ValueError.__init__"))
  no : ∀ f ∈ fs, PySem.W.findIn K (.ref C) f = some none
  ini : PySem.W.findIn K (.ref C) "__init__" = some (some (.ref fI))
  tI : PySem.W.typeIn K (.ref fI) = some (.type "function")
  xf : XfC K C
theorem xiB_ok {K : PySem.W.Frag} {c b : Str} {fs : List Str} (h : xiB K c b fs = true) : XiC K (He.ga K c) (He.ga K b) (He.fAd K (c, some "__init__")) fs := by
  obtain ⟨h1, h⟩ := He.ba h
  obtain ⟨h2, h⟩ := He.ba h
  obtain ⟨h3, h⟩ := He.ba h
  obtain ⟨h4, h⟩ := He.ba h
  obtain ⟨h5, h⟩ := He.ba h
  obtain ⟨h6, h⟩ := He.ba h
  obtain ⟨h7, h8⟩ := He.ba h
  refine ⟨oexB_ok h1, ⟨h2, He.eqO_ok h3⟩, ?_, fun f hf => He.eqO_ok (List.all_eq_true.mp h5 f hf), He.eqO_ok h6, eq_of_beq h7, xfB_ok h8⟩
  split at h4
  · rename_i n e
    rw [e, eq_of_beq h4]
  · cases h4
/-! ### its __init__ -/
section
variable {X : Cx} {e : Expr} {es : List Expr} {ta : TA} {x : Str} {B : Addr} {p p1 p2 pos : Pos}
theorem pe_veinitC {pl : Sem Bool} (hg : Gl X x) (hm : X.mg x = some (.ref B)) (rd : ClX.CRead X.K B (.type "type")) (iv : PySem.W.findCls X.K (.ref B) (.type "type") "__init__" = some (.val (.builtin "ValueError.__init__"))) (ha : PA X (e :: es) ta)
    (hdb : (x == ("__debug__" : Str)) = false := by decide)
    (hc : eval (.Call (.Attribute (.Name x p1) "__init__" p2) (e :: es) [] pos) X.env = (do
      let ov ← eval (.Name x p1) X.env
      standAt p2.atName
      let (f, first) ← holding [ov] (getMethod ov "__init__" pl)
      callWith pos f first (backTo pos (starEach (e :: es) X.env)) (backToKw pos (keywordEach [] X.env))) := by rfl)
    (he : starEach (e :: es) X.env = (false, eval e X.env) :: starEach es X.env := by rfl) (hpl : (backTo pos (starEach es X.env)).any (·.1) = false := by rfl) :
    PE X (.Call (.Attribute (.Name x p1) "__init__" p2) (e :: es) [] pos) (tVeI X.K ta) := by
  refine ⟨fun pins s σ H Q I h => ?_⟩
  refine PySem.W.methodCall_KW (pl := pl) (ld_glob I hg hm ?_ hdb) hc
  refine PySem.W.method_cls I.kIn rd.ga (PySem.W.cls_value I.kIn rd.rd iv rfl ?_)
  show wpAny _ _ (callWith pos (Value.builtin "ValueError.__init__") [] (backTo pos (starEach (e :: es) X.env)) []) _ _ _
  refine PyProof.Rows.callWith_method1 (thn (ha.run pos pins _ σ H _ (I.tok _) h) fun us s1 ⟨vs, H1, I1, r1, a, C, ws, ev, hl, T, ea, q⟩ => ?_) he hpl
  subst ev
  cases r1 with
  | @cons _ u0 _ ur ra rw' =>
    obtain rfl : u0 = Value.ref a := ra
    have hlen : ur.length ≤ sizeLine := by
      rw [← Paired.length rw', sizeLine_eq]
      omega
    exact oinit_ok T I1 ea hlen fun s' J => ⟨.non, H1, J, rfl, q⟩
end
def tFlds (K : PySem.W.Frag) : List Str → Nat → TS
  | [], _ => tNext
  | f :: fs, i => tSeq (tOst K f (tVar 0) (tVar i)) (tFlds K fs (i + 1))
def tInit (K : PySem.W.Frag) (m : Str) (fs : List Str) : TS := tSeq (tDrop (tVeI K (tCons (tVar 0) (tCons (tC (.str m)) tNil)))) (tFlds K fs 1)
theorem flds_run {K : PySem.W.Frag} {a C dx : Addr} (T : OexC K C) (nd : dx ≠ a) {D : Ends} {σ : L2.St} (h0 : σ[0]? = some (some (.ref a))) : ∀ (fs : List Str) (ys : List V) (i : Nat) (fs0 : List (Str × V)) (H : Hp), ys.length = fs.length → (∀ f ∈ fs, PySem.W.findIn K (.ref C) f = some none) → (∀ (j : Nat) (y : V), ys[j]? = some y → σ[i + j]? = some (some y)) →
    H a = some (exo a C (some dx)) → H dx = some (exd dx fs0) → fs0.length + fs.length ≤ 900 → (∀ H', H' a = some (exo a C (some dx)) → H' dx = some (exd dx ((fs.zip ys).reverse ++ fs0)) → (∀ b, b ≠ dx → H' b = H b) → D.nx σ H') → tFlds K fs i D σ H
  | [], ys, i, fs0, H, l, _, _, ha, hd, _, q => by
    have : ys = [] := List.length_eq_zero_iff.mp l
    subst this
    exact q H ha hd fun _ _ => rfl
  | f :: fs, [], i, fs0, H, l, _, _, _, _, _, _ => by simp at l
  | f :: fs, y :: ys, i, fs0, H, l, no, hv, ha, hd, hl, q => by
    refine ⟨y, hv 0 y rfl, .ref a, h0, a, C, rfl, T, no f List.mem_cons_self, .inr ⟨dx, fs0, ha, hd, by simp at hl; omega, ?_⟩⟩
    refine flds_run T nd h0 fs ys (i + 1) ((f, y) :: fs0) _ (by simpa using l) (fun g hg => no g (List.mem_cons_of_mem _ hg)) (fun j z hz => by rw [show i + 1 + j = i + (j + 1) by omega]; exact hv (j + 1) z (by simpa using hz)) ?_ upd_same (by simp at hl ⊢; omega) fun H' q1 q2 q3 => q H' q1 ?_ fun b hb => ?_
    · rw [upd_ne (Ne.symm nd)]; exact ha
    · rw [q2]; simp
    · rw [q3 b hb, upd_ne hb]
/-- what such an __init__ keeps -/
def spX (K : PySem.W.Frag) (fs : List Str) : Sp := fun vs H Q _ => ∃ (a C : Addr) (ys : List V), vs = .ref a :: ys ∧ ys.length = fs.length ∧ OexC K C ∧ (∀ f ∈ fs, PySem.W.findIn K (.ref C) f = some none) ∧ H a = some (exo a C none) ∧
  ∀ dx H', H dx = none → dx ≠ a → H' a = some (exo a C (some dx)) → H' dx = some (exd dx (fs.zip ys).reverse) → (∀ b, b ≠ dx → b ≠ a → H' b = H b) → Q .non H'
theorem init_run {K : PySem.W.Frag} {m f : Str} {fs : List Str} (hf : fs.length ≤ 800) {N : List Str} {vs : List V} {H : Hp} {Q : VK} {E : XK} (hN : vs.length ≤ N.length) (h : spX K (f :: fs) vs H Q E) : tInit K m (f :: fs) { nx := fun _ H' => Q .non H', rt := Q } (L2.start N vs) H := by
  obtain ⟨a, C, ys, rfl, l, T, no, ha, q⟩ := h
  have at_ : ∀ (j : Nat) (y : V), (V.ref a :: ys)[j]? = some y → (L2.start N (V.ref a :: ys))[j]? = some (some y) := fun j y hy => by
    have hj := (List.getElem?_eq_some_iff.mp hy).1
    unfold L2.start
    rw [List.getElem?_append_left (by simpa using hj), List.getElem?_map, hy]
    rfl
  have h0 := at_ 0 (.ref a) rfl
  cases ys with
  | nil => simp at l
  | cons y ys =>
    refine ⟨.ref a, h0, a, C, [.str m], rfl, by simp, T, ha, ?_⟩
    refine ⟨y, at_ 1 y rfl, .ref a, h0, a, C, rfl, T, no f List.mem_cons_self, .inl ⟨ha, fun dx hdx hne => ?_⟩⟩
    refine flds_run T hne h0 fs ys (1 + 1) [(f, y)] _ (by simpa using l) (fun g hg => no g (List.mem_cons_of_mem _ hg)) (fun j z hz => by rw [show 1 + 1 + j = j + 2 by omega]; exact at_ (j + 2) z (by simpa using hz)) upd_same (by rw [upd_ne hne, upd_same]) (by simp; omega) fun H' q1 q2 q3 => q dx H' hdx hne q1 (by rw [q2]; simp) fun b hb hba => ?_
    rw [q3 b hb, upd_ne hba, upd_ne hb]
/-- THE RULE: such an __init__ -/
theorem fnX {P : Program} {w : World} {K : PySem.W.Frag} {mg : Str → Option Value} {base : Heap} {x qual : Str} {params : Arguments} {body : List Stmt} {scope : Scope} {dvs : List V} {kws : List (Str × V)} {f : Addr} {fd : FuncData} {N ps : List Str} {k : Nat} {m g : Str} {fs : List Str}
    (F : FunD K x qual params body scope dvs kws f fd) (S : FnScope N ps scope) (hps : ps.length = (g :: fs).length + 1) (hNl : ps.length ≤ N.length) (hf : fs.length ≤ 800)
    (hb : ∀ (cdv : Value) (A : Around) (outer : List Env) (s : Shared) (H : Hp) (E : XK), Cn (cxOf (L2N.CX P w) P w K mg base N qual scope f cdv A outer s H E) (fun c d _ H' => E c d H') k →
      PSs (cxOf (L2N.CX P w) P w K mg base N qual scope f cdv A outer s H E) body (tInit K m (g :: fs))) : FnG P w K mg base (k + 1) f fd ps (spX K (g :: fs)) := by
  obtain ⟨oc, od, dV, kV, doc, pm, an, cdv, ct, osl, rfl, lk, hcd, _, _⟩ := F.ex
  have len : ∀ vs H Q E, spX K (g :: fs) vs H Q E → vs.length = ps.length := fun vs H Q E ⟨a, C, ys, e, l, _⟩ => by rw [e, hps, ← l]; rfl
  refine ⟨len, fun A outer s H args us vs Q E hr hgd e0 hbd r hsp => ?_⟩
  have hlen := len _ _ _ _ hsp
  have hl : us.length = ps.length := r.length.symm.trans hlen
  have keep : ∀ b o, base.get? b = some o → s.heap.get? b = some o := fun b o e => (e0.bs b o e).1
  have inK : K.In s.heap := e0.mod.kin.keeps keep
  have par : ∀ y ∈ ps.zip us, scope.names.lookup y.1 = some .local ∨
      (scope.names.lookup y.1 = some .cell ∧ ((cellsFrom (s.heap.objs.size + 1) scope.names []).lookup y.1).isSome = true) := by
    rintro ⟨n, v⟩ hy
    exact (S.par n (List.of_mem_zip hy).1).imp id fun q => ⟨q, PySem.W.cellsFrom_some _ _ _ (.inl q)⟩
  refine codeAny_call_function hr.depth (inK _ _ lk) rfl S.co S.gen rfl
    (PySem.W.codeRec_of inK hcd) (hbd _ _ _ _ ?_)
  refine wpAny_newFunctionEnv_cells S.kind par fun env he s1 entered => ?_
  subst he
  refine ⟨(e0.mod.nolimit.keeps keep).keeps entered.toInCall.keep, codeAny_func ?_⟩
  have body' := hb cdv A outer s H E ⟨hr.deeper _, hgd, rfl, S.nd, passes_of rfl, L2N.takes_of rfl rfl rfl rfl⟩
  have I0 := inv_start (CX := L2N.CX P w) (mg := mg) (base := base) (cd := cdv) (qual := qual) (f := f) (E := E) S hr.hd e0 hlen r entered
  have q0 := init_run (m := m) hf (N := N) (by omega) hsp
  refine wpAny_mono (PSs.run body' [] s1 (L2.start N vs) H _ I0 q0) (fun fl s' hs => ?_) fun _ _ z => z
  have fin : ∀ {σ' : L2.St} {H' : Hp} {v : V} {u : Value}, Inv (cxOf (L2N.CX P w) P w K mg base N qual scope f cdv A outer s H E) [] σ' H' s' → RelV v u →
      Q v H' → CE outer P w H s Q u s' := fun J rv q => ⟨_, _, J.os, J.bare, J.base, J.hok, rv, q⟩
  cases fl with
  | ret u =>
    obtain ⟨v, σ', H', J, rv, q⟩ := hs
    exact fin J rv q
  | next =>
    obtain ⟨σ', H', J, q⟩ := hs
    exact fin (v := .non) J rfl q
  | brk => exact hs.choose_spec.choose_spec.2.elim
  | cont => exact hs.choose_spec.choose_spec.2.elim
/-! ### raise C(e, ..) -/
theorem bindX {K : PySem.W.Frag} {x qual : Str} {params : Arguments} {body : List Stmt} {scope : Scope} {dvs : List V} {kws : List (Str × V)} {f : Addr} {fd : FuncData} {ps : List Str} (F : FunD K x qual params body scope dvs kws f fd) (hd : dvs = [])
    (h : ∀ (kV doc pm : Value) (an : Option Addr) (cdv ct : Value) (us : List Value), us.length = ps.length → bindArgs (PySem.W.fnOf x qual params body scope .none kV doc pm an cdv ct) ⟨us, []⟩ = pure (ps.zip us)) (s : Shared) (us : List Value) (X : K.In s.heap) (l : us.length = ps.length) : BindsTo s fd ⟨us, []⟩ (ps.zip us) := by
  obtain ⟨oc, od, dV, kV, doc, pm, an, cdv, ct, osl, rfl, lk, hcd, hD, hK⟩ := F.ex
  rcases hD with ⟨_, rfl⟩ | ⟨e, _⟩
  · exact .of_eq (h kV doc pm an cdv ct us l)
  · exact absurd hd e
def gRaiX (x : Str) (fs : List Str) (fa : FA) : FS := fun ρ S => (fa ρ S).into ρ fun ds S => if ds.length = fs.length then .ex x (fs.zip ds).reverse ρ S else .stuck
section
variable {X : Cx} {W : WX} {k k' : Nat} {C B fI : Addr} {fs ps : List Str} {fd : FuncData} {x : Str} {e : Expr} {es : List Expr} {fa : FA} {p pos pos' : Pos}
theorem pmk_X {ta : TA} (T : XiC X.K C B fI fs) (F1 : FnG X.prog X.w X.K X.mg X.base k fI fd ps (spX X.K fs)) (hps : ps.length = fs.length + 1) (hbd : ∀ (s : Shared) (us : List Value), X.K.In s.heap → us.length = ps.length → BindsTo s fd ⟨us, []⟩ (ps.zip us)) (Cc : Cn X W k') (hk : k + 1 ≤ k') (hg : Gl X x) (hm : X.mg x = some (.ref C)) (ha : PA X (e :: es) ta)
    (hdb : (x == ("__debug__" : Str)) = false := by decide) (he : starEach (e :: es) X.env = (false, eval e X.env) :: starEach es X.env := by rfl) (hpl : (backTo pos (starEach es X.env)).any (·.1) = false := by rfl) :
    L2N.PMk X (.Call (.Name x p) (e :: es) [] pos) (fun σ H Q => ta σ H fun vs H1 => vs.length = fs.length ∧ vs.length ≤ 1000 ∧ ∀ d, H1 d = none → Q (.ref C) (some d) (upd H1 d (.xd (fs.zip vs).reverse))) := by
  intro pins s σ H Q I h
  obtain ⟨nm, q, N, bs, bm, sn, sub, ab, col, dd, k0, k1, k2, k3, k5, hC, hbm⟩ := T.oc.cls
  refine wpAny_Call_Name_kw (ld_glob I hg hm ?_ hdb)
  refine PySem.W.callWith_K (h₀ := X.base) I.ok.mod.kin T.oc.kC (thn (ha.run pos pins s σ H _ I h) fun us s1 ⟨vs, H1, I1, r1, hz, hz2, q1⟩ => ⟨I1.kIn, ?_⟩) he hpl
  show wpAny _ _ (call (.ref C) us) _ _ _
  obtain ⟨hp, g, dr, tk, os⟩ := s1
  have hsz : hp.objs.size ≤ hp.objs.size + 1 := Nat.le_succ _
  have hn : H1 (hp.objs.size + 1) = none := I1.hok.fresh hsz
  have kk : ∀ b o, hp.get? b = some o → ((hp.push (PySem.W.kdv_tup us)).push (PySem.HandSPX.excO C hp.objs.size)).get? b = some o := fun b o e => Heap.get?_push_of_some _ (Heap.get?_push_of_some _ e)
  have hget : ((hp.push (PySem.W.kdv_tup us)).push (PySem.HandSPX.excO C hp.objs.size)).get? (hp.objs.size + 1) = some (PySem.HandSPX.excO C hp.objs.size) := by heap_get
  have I2 : Inv X pins σ (upd H1 (hp.objs.size + 1) (exo (hp.objs.size + 1) C none)) ⟨(hp.push (PySem.W.kdv_tup us)).push (PySem.HandSPX.excO C hp.objs.size), g, dr, tk, os⟩ :=
    I1.laid (t' := tk) (a := hp.objs.size + 1) (o := exo (hp.objs.size + 1) C none) (h' := (hp.push (PySem.W.kdv_tup us)).push (PySem.HandSPX.excO C hp.objs.size)) kk hsz (exo_ok hget)
  have r2 : Vals (V.ref (hp.objs.size + 1) :: vs) (Value.ref (hp.objs.size + 1) :: us) := .cons rfl r1
  have hl : (Value.ref (hp.objs.size + 1) :: us).length = ps.length := by rw [hps, ← hz, ← r2.length]; rfl
  have hus : us.length ≤ sizeLine := by
    rw [← Paired.length r1, sizeLine_eq]
    omega
  have sp : spX X.K fs (V.ref (hp.objs.size + 1) :: vs) (upd H1 (hp.objs.size + 1) (exo (hp.objs.size + 1) C none)) (fun v H2 => v = .non ∧ ∃ (d : Addr), H2 (hp.objs.size + 1) = some (exo (hp.objs.size + 1) C (some d)) ∧ H2 d = some (exd d (fs.zip vs).reverse) ∧ H1 d = none ∧ d ≠ hp.objs.size + 1 ∧ (∀ b, b ≠ d → b ≠ hp.objs.size + 1 → H2 b = H1 b)) (fun _ _ _ => False) :=
    ⟨hp.objs.size + 1, C, vs, rfl, hz, T.oc, T.no, upd_same, fun dx H' n ne e1 e2 e3 => ⟨rfl, dx, e1, e2, by rw [upd_ne ne] at n; exact n, ne, fun b hb hba => by rw [e3 b hb hba, upd_ne hba]⟩⟩
  refine wpAny_call (PySem.HandSPX.call_own PySem.F.excBase_ValueError (fun Y => PySem.HandSPX.refsVE_contains Y bm hbm) (I1.kIn _ _ hC) (PySem.W.looks_findIn I1.kIn T.ini) (fun self => PySem.W.bind_fn I1.kIn self T.tI) hus
    (codeAny_mono (F1.run _ X.stack _ _ ⟨Value.ref (hp.objs.size + 1) :: us, []⟩ (Value.ref (hp.objs.size + 1) :: us) _ _ (fun _ _ _ => False) ((Cc.room.mono hk).make C us []) (guards_make Cc.gd C us []) (I2.env0.make C us []) (hbd _ _ I2.kIn hl) r2 sp) fun r s' hq' => ?_))
  cases r with
  | error er =>
    obtain ⟨_, _, _, _, _, _, _, _, _, _, _, _, hE⟩ := hq'
    exact hE.elim
  | ok fl =>
    cases fl with
    | ret u =>
      obtain ⟨v, H2, os2, bare2, un2, hok2, rv, ev, d, ea, ed, hd1, nd, oth⟩ := hq'
      subst ev
      obtain ⟨h2, g2, d2, t2, os'⟩ := s'
      obtain ⟨t0, G, J, kG, ge, hoe, na⟩ := mk_end0 (d2 := d2) (t2 := t2) I1 hsz kk un2 hok2 os2 bare2 ea ed hd1
      have e2 : upd (del H2 (hp.objs.size + 1)) d (.xd (fs.zip vs).reverse) = upd H1 d (.xd (fs.zip vs).reverse) := funext fun b => by
        by_cases hb : b = d
        · subst hb; rw [upd_same, upd_same]
        · rw [upd_ne hb, upd_ne hb]
          by_cases hba : b = hp.objs.size + 1
          · subst hba; rw [del_same, hn]
          · rw [del_ne hba, oth b hb hba]
      rw [e2] at J na
      exact ⟨rv, hp.objs.size + 1, _, _, ⟨G, g2, d2, t2, os'⟩, _, .ref C, some d, rfl, J, kG, ge, hoe, ⟨rfl, rfl, fun vs hv => by cases hv; rfl⟩, rfl, rfl, na, rfl, bare2, raises_own T.oc.exC T.oc.tyC, q1 d hd1⟩
    | next => exact False.elim hq'
    | brk => exact False.elim hq'
    | cont => exact False.elim hq'
theorem datF_zip {K : PySem.W.Frag} {mg : Str → Option Value} {φ : List Addr} {G : Hp} : ∀ {fs : List Str} {ds : List D} {vs : List V} {gs : List (Str × D)} {us : List (Str × V)}, DatL K mg φ G ds vs → DatF K mg φ G gs us → DatF K mg φ G ((fs.zip ds).reverse ++ gs) ((fs.zip vs).reverse ++ us)
  | [], ds, vs, gs, us, _, h => by simpa using h
  | f :: fs, ds, vs, gs, us, d, h => by
    cases ds with
    | nil =>
      unfold DatL at d
      subst d
      simpa using h
    | cons x ds =>
      obtain ⟨v, r, rfl, h1, h2⟩ := d.uncons
      have := datF_zip (fs := fs) h2 (gs := (f, x) :: gs) (us := (f, v) :: us) (by unfold DatF; exact ⟨v, us, rfl, h1, h⟩)
      simpa using this
theorem ds_raiseX (T : XiC X.K C B fI fs) (F1 : FnG X.prog X.w X.K X.mg X.base k fI fd ps (spX X.K fs)) (hps : ps.length = fs.length + 1) (hbd : ∀ (s : Shared) (us : List Value), X.K.In s.heap → us.length = ps.length → BindsTo s fd ⟨us, []⟩ (ps.zip us)) (Cc : Cn X W k') (hg : Gl X x) (hm : X.mg x = some (.ref C)) (ha : DA X W (e :: es) fa) (hfs : fs ≠ []) (hk : k + 1 ≤ k' := by decide)
    (hl : fs.length ≤ 800 := by decide) (hdb : (x == ("__debug__" : Str)) = false := by decide) (he : starEach (e :: es) X.env = (false, eval e X.env) :: starEach es X.env := by rfl) (hpl : (backTo pos (starEach es X.env)).any (·.1) = false := by rfl) :
    DS X W (.Raise (some (.Call (.Name x p) (e :: es) [] pos)) none pos') (gRaiX x fs fa) := by
  obtain ⟨t, pa, q⟩ := ha.ex
  refine .mk (L2N.ps_raise Cc.calm Cc.tk (pmk_X T F1 hps hbd Cc hk hg hm pa hdb he hpl)) fun Z φ S ρ σ H Dd R sl w => q Z φ S ρ σ H _ R sl (w.into sl fun ds S1 vs φ1 H1 R1 E1 d w1 => ?_)
  by_cases l : ds.length = fs.length
  · rw [if_pos l] at w1
    have lv : vs.length = fs.length := d.length.trans l
    refine ⟨lv, by omega, fun a ha => ?_⟩
    obtain ⟨R2, E2, g2⟩ := R1.fresh (o := HO.xd (fs.zip vs).reverse) ha
    have dz := datF_zip (fs := fs) (d.mono E2.pre E2.ext) (gs := []) (us := []) (by unfold DatF; rfl)
    rw [List.append_nil, List.append_nil] at dz
    refine w1 C (some a) σ φ1 _ hm R2 E2 ((sl.evo E1).evo E2) (.inr ⟨fun z => ?_, a, _, rfl, g2, dz⟩)
    have := congrArg List.length z
    simp [l] at this
    exact hfs this
  · rw [if_neg l] at w1
    exact w1.elim
end
/-! ### e.f of a caught one -/
def asX : D → Option (Str × List (Str × D))
  | .exc C fs => some (C, fs)
  | _ => none
def fFldX (cs : List Str) (f : Str) (fo : FE) : FE := fun ρ S => (fo ρ S).bind fun o S => match asX o with
  | some (c, fs) => if c ∈ cs then (match fs.lookup f with
    | some d => .ok d S
    | none => .stuck) else .stuck
  | none => .stuck
section
variable {X : Cx} {W : WX} {o : Expr} {fo : FE} {f : Str} {pos : Pos} {cs : List Str}
theorem pe_fldX {to : TE} (ho : PE X o to) (hb : attributeBase o f X.env (eval o X.env) = eval o X.env := by rfl) :
    PE X (.Attribute o f pos) (fun σ H Q => to σ H fun x H1 => ∃ (a A dd : Addr) (fs : List (Str × V)) (v : V), x = .ref a ∧ XfC X.K A ∧ PySem.W.findIn X.K (.ref A) f = some none ∧ H1 a = some (ExcV (.ref A) (some dd) a) ∧ H1 dd = some (.xd fs) ∧ fs.lookup f = some v ∧ Q v H1) := by
  refine ⟨fun pins s σ H Q I h => ?_⟩
  refine attr_of hb (thn (ho.run pins s σ H _ I h) fun u s1 hh => ?_)
  obtain ⟨x, H1, I1, rx, a, A, dd, fs, v, ex, T, hno, ea, ed, l, q⟩ := hh
  subst ex
  obtain rfl : u = Value.ref a := rx
  obtain ⟨oe, vs, ho, hz, hd⟩ : ∃ (ob : Obj) (fs : Array Value), s1.heap.get? a = some ob ∧ L2N.Zn (.ref A) (some dd) ob ∧ ob.data = .fields fs := by
    have y : ObjOk X.prog X.w H1 s1.heap a (ExcV (.ref A) (some dd) a) := I1.hok a _ ea
    exact y.1
  have hx : ObjOk X.prog X.w H1 s1.heap dd (.xd fs) := I1.hok dd _ ed
  obtain ⟨mA, hns, hr⟩ := hx
  obtain ⟨od, hod, hl⟩ := lookIn_ns hns
  obtain ⟨u, hu, ru⟩ := RelO.some_of (v := v) (o := mA f) (by rw [← l]; exact hr f)
  have J : PySem.W.InstAt s1.heap a oe A (some od) := ⟨ho, hz.1, by unfold PySem.W.notCls; rw [hd] <;> rfl, by rw [hz.2.1]; exact hod⟩
  exact HandSPX.exc_get I1.kIn J T.ga T.gg T.exC (PySem.W.findObj_own T.hdC hno rfl (by rw [hl, hu])) (handed_of ru) ⟨v, H1, I1.tok _, ru, q⟩
theorem de_fldX (ho : DE X W o fo) (hcs : ∀ c ∈ cs, ∃ A, X.mg c = some (.ref A) ∧ XfC X.K A ∧ PySem.W.findIn X.K (.ref A) f = some none) (hb : attributeBase o f X.env (eval o X.env) = eval o X.env := by rfl) : DE X W (.Attribute o f pos) (fFldX cs f fo) := by
  obtain ⟨t, p, q⟩ := ho.ex
  refine .mk (pe_fldX p hb) fun Z φ S ρ σ H Q R sl w => q Z φ S ρ σ H _ R sl (w.bind fun x S1 v φ1 H1 R1 E1 d w1 => ?_)
  cases x with
  | exc C fs =>
    simp only [asX] at w1
    by_cases hc : C ∈ cs
    · rw [if_pos hc] at w1
      obtain ⟨A, hA, T, no⟩ := hcs C hc
      unfold Dat at d
      obtain ⟨a, A', dx, rfl, hA', ea, hf⟩ := d
      rw [hA] at hA'
      injection hA' with hA'
      injection hA' with hA'
      subst hA'
      cases e : fs.lookup f with
      | none => rw [e] at w1; exact w1.elim
      | some y =>
        rw [e] at w1
        rcases hf with ⟨rfl, _⟩ | ⟨_, b, fvs, rfl, eb, df⟩
        · simp at e
        · obtain ⟨v, e2, dv⟩ := (datF_lookup (m := f) df).1 y e
          exact ⟨a, A, b, fvs, v, rfl, T, no, gnd_some ea, gnd_some eb, e2, w1.now R1 dv⟩
    · rw [if_neg hc] at w1
      exact w1.elim
  | _ => exact w1.elim
end
end DL

/-! The data layer, part 79: deep `not in`. -/
namespace DL
open PySem PySem.Spec PyProof.Rows L2
section
variable {X : Cx}
end
end DL

/-! The data layer, part 80: dict.update with a dict. -/
namespace DL
open PySem PySem.Spec PyProof.Rows L2
section
variable {X : Cx} {W : WX} {o e : Expr} {fo : FE} {pos apos cpos : Pos}
end
end DL

/-! The data layer, part 81: isinstance of own exceptions that have fields. -/
namespace DL
open PySem PySem.Spec PyProof.Rows L2
def rIsF (K : PySem.W.Frag) : List V → Hp → VK → Prop := fun xs H Q => ∃ (a A : Addr) (dx : Option Addr) (c : V) (cv : Value) (b : Bool), xs = [.ref a, c] ∧ H a = some (ExcV (.ref A) dx a) ∧ (dx = none ∨ ∃ d fvs, dx = some d ∧ H d = some (.xd fvs)) ∧ (∀ u, RelV c u → u = cv) ∧ ExcC K A ∧ PySem.W.kitOne K (.ref A) cv = some b ∧ Q (.bl b) H
theorem call_isF {X : Cx} : CallR X (.builtin "isinstance") (rIsF X.K) := by
  intro pins s σ H xs us Q I rel h
  obtain ⟨a, A, dx, c, cv, b, rfl, ha, hdx, hcv, EC, e, q⟩ := h
  cases rel with
  | cons r1 rest =>
    cases rest with
    | cons r2 rest =>
      cases rest
      cases r1
      cases hcv _ r2
      obtain ⟨⟨ob, vs, q1, q2, q3⟩, _, _⟩ := I.hok a _ ha
      have hcl : (PySem.W.clsIn X.K A).isSome = true := by
        obtain ⟨cd, hc, _⟩ := PySem.W.any_some EC.hd
        rw [hc]
        rfl
      have J : ∃ od, PySem.W.InstAt s.heap a ob A od := by
        rcases hdx with rfl | ⟨d, fvs, rfl, hd⟩
        · refine ⟨none, ?_⟩
          obtain ⟨oc, od, oda, osl⟩ := ob
          obtain ⟨z1, z2, _⟩ := q2
          dsimp only at z1 z2 q3
          subst z1 z2 q3
          exact ⟨q1, rfl, rfl, trivial⟩
        · obtain ⟨mA, ⟨od, es, ep, e2, _⟩, _⟩ := I.hok d _ hd
          refine ⟨some od, ?_⟩
          obtain ⟨oc, od', oda, osl⟩ := ob
          obtain ⟨z1, z2, _⟩ := q2
          dsimp only at z1 z2 q3
          subst z1 z2 q3
          exact ⟨q1, rfl, rfl, e2⟩
      obtain ⟨od, J⟩ := J
      exact PySem.W.kia_one (PySem.W.kitx_exc hcl EC.hg EC.hk EC.hs EC.ha EC.hn EC.ht EC.hm) I.kIn J e (fun z => nomatch z) fun tk => ⟨.bl b, H, I.kept (t' := tk) fun _ _ z => z, rfl, q⟩
section
variable {X : Cx} {W : WX} {k : Nat} {e b : Expr} {pos p : Pos}
def gIsF (t : List (Str × Bool)) (c : D) : GC := fun ds S => match ds with
  | [.exc C _, c'] => if isArg c c' then (match t.lookup C with
    | some b => .ok (.bl b) S
    | none => .stuck) else .stuck
  | _ => .stuck
theorem cd_isF {t : List (Str × Bool)} {c : D} {cv : Value} (hc : (∃ x A, c = .cls x ∧ X.mg x = some (.ref A) ∧ cv = .ref A) ∨ ∃ n, c = .ty n ∧ cv = .type n) (ht : ∀ C b A, t.lookup C = some b → X.mg C = some (.ref A) → ExcC X.K A ∧ PySem.W.kitOne X.K (.ref A) cv = some b) :
    CallD X (rIsF X.K) (gIsF t c) := fun Z φ S H ds vs Q E R d w => by
  unfold gIsF at w
  split at w
  · rename_i C fs c'
    obtain ⟨v, u, rfl, h1, h2⟩ := datL2 d
    obtain ⟨hi, w1⟩ := want_if w
    cases e : t.lookup C with
    | none => simp only [e] at w1; exact w1.elim
    | some b =>
      simp only [e] at w1
      unfold Dat at h1
      obtain ⟨a, A, dx, rfl, hA, ha, hx⟩ := h1
      obtain ⟨h3, h4⟩ := ht C b A e hA
      have ex : dx = none ∨ ∃ d fvs, dx = some d ∧ H d = some (.xd fvs) := hx.elim (fun z => .inl z.2) fun z => by
        obtain ⟨_, d, fvs, z1, z2, _⟩ := z
        exact .inr ⟨d, fvs, z1, gnd_sub _ _ z2⟩
      refine ⟨a, A, dx, u, cv, b, rfl, gnd_sub _ _ ha, ex, fun w' hw' => ?_, h3, h4, w1.now R (dat_bl _)⟩
      rcases hc with ⟨x, A', rfl, hm, rfl⟩ | ⟨n, rfl, rfl⟩
      · cases c' <;> simp only [isArg, Bool.false_eq_true, decide_eq_true_eq] at hi
        subst hi
        unfold Dat at h2
        obtain ⟨A2, rfl, q⟩ := h2
        rw [hm] at q
        cases q
        exact hw'
      · cases c' <;> simp only [isArg, Bool.false_eq_true, decide_eq_true_eq] at hi
        subst hi
        unfold Dat at h2
        subst h2
        exact hw'
  · exact w.elim
/-- isinstance(e, C) -/
theorem de_isF {c : Str} {A : Addr} {t : List (Str × Bool)} {fa : FA} (hg : Gl X "isinstance") (hm : X.mg "isinstance" = none) (hA : X.mg c = some (.ref A)) (ht : ∀ C b A', t.lookup C = some b → X.mg C = some (.ref A') → ExcC X.K A' ∧ PySem.W.kitOne X.K (.ref A') (.ref A) = some b) (ha : DA X W [e, b] fa)
    (he : starEach [e, b] X.env = (false, eval e X.env) :: starEach [b] X.env := by rfl) (hpl : (backTo pos (starEach [b] X.env)).any (·.1) = false := by rfl) : DE X W (.Call (.Name "isinstance" p) [e, b] [] pos) (fCB (gIsF t (.cls c)) fa) :=
  de_callB call_isF (cd_isF (.inl ⟨c, A, rfl, hA, rfl⟩) ht) hg hm (by rfl) ha (by decide) (by decide) he hpl
theorem de_isFT {n : String} {t : List (Str × Bool)} {fa : FA} (hg : Gl X "isinstance") (hm : X.mg "isinstance" = none) (ht : ∀ C b A', t.lookup C = some b → X.mg C = some (.ref A') → ExcC X.K A' ∧ PySem.W.kitOne X.K (.ref A') (.type n) = some b) (ha : DA X W [e, b] fa)
    (he : starEach [e, b] X.env = (false, eval e X.env) :: starEach [b] X.env := by rfl) (hpl : (backTo pos (starEach [b] X.env)).any (·.1) = false := by rfl) : DE X W (.Call (.Name "isinstance" p) [e, b] [] pos) (fCB (gIsF t (.ty n)) fa) :=
  de_callB call_isF (cd_isF (.inr ⟨n, rfl, rfl⟩) ht) hg hm (by rfl) ha (by decide) (by decide) he hpl
end
end DL

/-! The data layer, part 82: a head's run told in two parts (half of the defs' facts each): less memory a theorem. -/
namespace DL
open PySem PySem.Spec PyProof.Rows L2
end DL

/-! The data layer, part 83: list.insert. -/
namespace DL
open PySem PySem.Spec PyProof.Rows L2
section
variable {X : Cx} {W : WX} {o e : Expr} {es : List Expr} {fo : FE} {fa : FA} {pos apos cpos : Pos}
end
end DL

/-! The data layer, part 84: an instance made by keywords alone. -/
namespace DL
open PySem PySem.Spec PyProof.Rows L2
section
variable {X : Cx} {W : WX} {k k' : Nat} {ks ps : List Str} {kws : List Keyword} {fk : FA} {gD : List D → List D → List D} {sem : Sem'} {fd : FuncData} {f C : Addr} {pos p : Pos}
end
end DL

/-! The data layer, part 85: dict(d), sorted(d) of texts, d.pop(k). -/
namespace DL
open PySem PySem.Spec PyProof.Rows L2
section
variable {X : Cx} {W : WX} {k : Nat} {e o : Expr} {fo fe : FE} {p pos apos cpos : Pos}
/-! ### dict(d) -/
/-! ### sorted(d), d's keys texts -/
/-! ### d.pop(k) -/
end
end DL

/-! The data layer, part 86: o.f = p.g = e; o.f, p.g, q.h = a, b, c. -/
namespace DL
open PySem PySem.Spec PyProof.Rows L2
section
variable {X : Cx} {W : WX} {pos : Pos}
end
end DL

/-! The data layer, part 87: {k: v for k, v in d.items() if k != x}. -/
namespace L2
open PySem PySem.Spec PyProof.Rows
section
variable {X : Cx}
theorem wipe_set {σ : St} {i : Nat} {x : Option V} : ∀ {vs : List Nat}, i ∈ vs → wipe (σ.set i x) vs = wipe σ vs
  | [], h => by cases h
  | v :: vs, h => by
    unfold wipe
    by_cases hv : i ∈ vs
    · rw [wipe_set hv]
    · have e : i = v := (List.mem_cons.mp h).resolve_right hv
      subst e
      have gen : ∀ vs : List Nat, i ∉ vs → wipe (σ.set i x) vs = (wipe σ vs).set i x := by
        intro vs
        induction vs with
        | nil => intro _; rfl
        | cons u us ih =>
          intro h
          unfold wipe
          rw [ih fun z => h (List.mem_cons_of_mem _ z), List.set_comm _ _ (fun z => h (by rw [z]; exact List.mem_cons_self))]
      rw [gen vs hv, List.set_set]
end
end L2
namespace DL
open PySem PySem.Spec PyProof.Rows L2
section
variable {X : Cx} {W : WX} {k : Nat}
end
end DL

/-! The data layer, part 88: texts compared; sorted(d) as an object; a keyword's default that is the empty tuple. -/
namespace DL
open PySem PySem.Spec PyProof.Rows L2
section
variable {X : Cx} {W : WX} {k : Nat} {e : Expr} {p pos : Pos}
end
/-! ### a keyword's default that is the empty tuple -/
/-! ### bool(x) -/
section
variable {X : Cx} {W : WX} {k : Nat} {e : Expr} {p pos : Pos}
end
end DL

/-! The data layer, part 89: len(x) by an own __len__, x an object of the store. -/
namespace DL
open PySem PySem.Spec PyProof.Rows L2
section
variable {X : Cx} {W : WX} {k n : Nat} {e : Expr} {pos p : Pos} {C f : Addr} {fd : FuncData} {ps : List Str} {sem : Sem'}
end
end DL

/-! The data layer, part 90: calls, the lengths as numbers of their own. -/
namespace DL
open PySem PySem.Spec PyProof.Rows L2
section
variable {X : Cx} {W : WX} {k k' np : Nat} {f C : Addr} {fd : FuncData} {ps ks : List Str} {sem cs : Sem'} {x m : Str} {p pos apos : Pos} {o e : Expr} {es : List Expr} {kws : List Keyword} {fo : FE} {fa fk : FA} {gD : List D → List D → List D}
theorem de_callL {nk nn : Nat} (F : FnG X.prog X.w X.K X.mg X.base k f fd ps (spD X.K X.mg ps.length sem)) (hcs : CallOk X.K X.mg ps.length sem cs) (C : Cn X W k') (hg : Gl X x) (hm : X.mg x = some (.ref f)) (hk : PySem.W.keepIn X.K (.ref f) = true) (hb : KB X.K fd ps np ks gD)
    (ha : DA X W (e :: es) fa) (hkw : DKw X W kws fk) (hle : k ≤ k' := by decide) (hall : (backToKw pos (keywordEach kws X.env)).all (·.1.isSome) = true := by rfl) (hks : (backToKw pos (keywordEach kws X.env)).filterMap (·.1) = ks := by rfl)
    (hdb : (x == ("__debug__" : Str)) = false := by decide) (he : starEach (e :: es) X.env = (false, eval e X.env) :: starEach es X.env := by rfl)
    (hpl : ((backTo pos (starEach (e :: es) X.env)).any (·.1) || (backToKw pos (keywordEach kws X.env)).any (·.1.isNone)) = false := by rfl) (hnk : ks.length = nk := by rfl) (hnn : ps.length = nn := by rfl) :
    DE X W (.Call (.Name x p) (e :: es) kws pos) (fCall cs gD np nk nn fa fk) := by
  subst hnk
  subst hnn
  exact de_call F hcs C hg hm hk hb ha hkw hle hall hks hdb he hpl
theorem de_meth0L {nk nn : Nat} {pl : Sem Bool} {c : Str} (ho : DE X W o fo) (cl : ClsI X c C) (hm : Meth X.K C m f) (F : FnG X.prog X.w X.K X.mg X.base k f fd ps (spD X.K X.mg ps.length sem)) (hcs : CallOk X.K X.mg ps.length sem cs) (Cc : Cn X W k') (hb : KB X.K fd ps 1 ks gD)
    (hkw : DKw X W kws fk) (hle : k ≤ k' := by decide) (hall : (backToKw pos (keywordEach kws X.env)).all (·.1.isSome) = true := by rfl) (hks : (backToKw pos (keywordEach kws X.env)).filterMap (·.1) = ks := by rfl)
    (hpl : ((backTo pos (starEach [] X.env)).any (·.1) || (backToKw pos (keywordEach kws X.env)).any (·.1.isNone)) = false := by rfl)
    (ht : eval (.Call (.Attribute o m apos) [] kws pos) X.env = (do
      let ov ← eval o X.env
      standAt apos.atName
      let (f, first) ← holding [ov] (getMethod ov m pl)
      callWith pos f first (backTo pos (starEach [] X.env)) (backToKw pos (keywordEach kws X.env))) := by rfl) (hnk : ks.length = nk := by rfl) (hnn : ps.length = nn := by rfl) :
    DE X W (.Call (.Attribute o m apos) [] kws pos) (fMeth cs gD c m 1 nk nn fo (fun _ S => .ok [] S) fk) := by
  subst hnk
  subst hnn
  exact de_meth0 ho cl hm F hcs Cc hb hkw hle hall hks hpl ht
theorem de_makeL {nk : Nat} {c : Str} {mk : MakeT} (M : Mk X.K C f) (F : FnG X.prog X.w X.K X.mg X.base k f fd ps (spD X.K X.mg ps.length sem)) (hmk : MakeOk X c ps.length sem gD mk) (Cc : Cn X W k') (hg : Gl X c) (hm : X.mg c = some (.ref C)) (hb : KB X.K fd ps (np + 1) ks gD)
    (ha : DA X W (e :: es) fa) (hkw : DKw X W kws fk) (hle : k + 1 ≤ k' := by decide) (hall : (backToKw pos (keywordEach kws X.env)).all (·.1.isSome) = true := by rfl) (hks : (backToKw pos (keywordEach kws X.env)).filterMap (·.1) = ks := by rfl)
    (hdb : (c == ("__debug__" : Str)) = false := by decide) (he : starEach (e :: es) X.env = (false, eval e X.env) :: starEach es X.env := by rfl)
    (hpl : ((backTo pos (starEach (e :: es) X.env)).any (·.1) || (backToKw pos (keywordEach kws X.env)).any (·.1.isNone)) = false := by rfl) (hnk : ks.length = nk := by rfl) :
    DE X W (.Call (.Name c p) (e :: es) kws pos) (fMake mk np nk fa fk) := by
  subst hnk
  exact de_make M F hmk Cc hg hm hb ha hkw hle hall hks hdb he hpl
end
end DL

/-! The data layer, part 91: sorted(a list of texts). -/
namespace DL
open PySem PySem.Spec PyProof.Rows L2
section
variable {X : Cx} {W : WX} {k : Nat} {e : Expr} {pos p : Pos}
end
end DL

/-! The data layer, part 92: [e for x in d.values() if t], d an object of the store; test and element read x alone. -/
namespace DL
open PySem PySem.Spec PyProof.Rows L2
section
variable {X : Cx} {W : WX} {k : Nat}
end
end DL

/-! The data layer, part 93: for k in f(..), where f gives a dict, all objects are handed to it. -/
namespace DL
open PySem PySem.Spec PyProof.Rows L2
section
variable {X : Cx} {W : WX} {k k' np : Nat} {f : Addr} {fd : FuncData} {ps ks : List Str} {sem : Sem'} {x : Str} {p pos : Pos} {e : Expr} {es : List Expr} {kws : List Keyword} {fa fk : FA} {gD : List D → List D → List D} {tg : Expr}
end
end DL

/-! The data layer, part 94: str(x) by an own __str__. -/
namespace DL
open PySem PySem.Spec PyProof.Rows L2
section
variable {X : Cx} {W : WX} {k n : Nat} {e : Expr} {pos p : Pos} {C f : Addr} {fd : FuncData} {ps : List Str} {sem : Sem'}
end
end DL

/-! The data layer, part 95: x[i], y[j] = a, b. -/
namespace DL
open PySem PySem.Spec PyProof.Rows L2
section
variable {X : Cx} {W : WX} {k : Nat} {pos : Pos}
def gPut2 (fo fi fp fj fe : FE) : FS := fun ρ S => (fe ρ S).into ρ fun d S => match d with
  | .tup [d1, d2] => (fo ρ S).into ρ fun x S => (fi ρ S).into ρ fun y S => (match storeAt x y d1 S with
    | some S => (fp ρ S).into ρ fun x S => (fj ρ S).into ρ fun y S => (match storeAt x y d2 S with
      | some S => .nx ρ S
      | none => .stuck)
    | none => .stuck)
  | _ => .stuck
theorem ds_put2 (C : Cn X W k) {o i p j e : Expr} {fo fi fp fj fe : FE} {n : Nat} {p1 p2 pt : Pos} (ho : DE X W o fo) (hi : DE X W i fi) (hp : DE X W p fp) (hj : DE X W j fj) (he : DE X W e fe)
    (ha : ∀ v, assign (.Subscript o i p1) X.env v = (do
      let ov ← holding [v] (eval o X.env)
      let iv ← holding [v, ov] (eval i X.env)
      standAt p1
      holding [v, ov, iv] (setItem ov iv v)
      release [v, ov, iv] []) := by intro _; rfl)
    (hb : ∀ v, assign (.Subscript p j p2) X.env v = (do
      let ov ← holding [v] (eval p X.env)
      let iv ← holding [v, ov] (eval j X.env)
      standAt p2
      holding [v, ov, iv] (setItem ov iv v)
      release [v, ov, iv] []) := by intro _; rfl)
    (hs : swapsWithSole [.Tuple [.Subscript o i p1, .Subscript p j p2] n pt] e pos.line X.env = pure false := by rfl) (hw : swappedStores [.Tuple [.Subscript o i p1, .Subscript p j p2] n pt] e X.env = pure none := by rfl)
    (h1 : (assignEach [.Tuple [.Subscript o i p1, .Subscript p j p2] n pt] X.env).map (·.2) = [assign (.Tuple [.Subscript o i p1, .Subscript p j p2] n pt) X.env] := by rfl)
    (hn : (assignEach [.Subscript o i p1, .Subscript p j p2] X.env).length = 2 := by rfl) (hst : (assignEach [.Subscript o i p1, .Subscript p j p2] X.env).findIdx? (·.1) = none := by rfl)
    (e1 : (assignEach [.Subscript o i p1, .Subscript p j p2] X.env).map (·.2) = assign (.Subscript o i p1) X.env :: (assignEach [.Subscript p j p2] X.env).map (·.2) := by rfl)
    (e2 : (assignEach [.Subscript p j p2] X.env).map (·.2) = assign (.Subscript p j p2) X.env :: (assignEach [] X.env).map (·.2) := by rfl) :
    DS X W (.Assign [.Tuple [.Subscript o i p1, .Subscript p j p2] n pt] e pos) (gPut2 fo fi fp fj fe) := by
  obtain ⟨to, po, qo⟩ := ho.ex
  obtain ⟨ti, pi, qi⟩ := hi.ex
  obtain ⟨tp, pp, qp⟩ := hp.ex
  obtain ⟨tj, pj, qj⟩ := hj.ex
  obtain ⟨te, pe, qe⟩ := he.ex
  refine .mk (ps_asg pe (pg_tup C.calm (pgs_cons (pg_sub po pi (set_any C) ha) (pgs_cons (pg_sub pp pj (set_any C) hb) pgs_nil e2) e1) hn hst) hs hw h1) fun Z φ S ρ σ H Dd R sl w => qe Z φ S ρ σ H _ R sl (w.into sl fun d S1 v φ1 H1 R1 E1 dd w1 => ?_)
  split at w1
  · rename_i d1 d2
    unfold RDat Dat at dd
    obtain ⟨a, vs, rfl, s1, ds⟩ := dd
    obtain ⟨v1, r, rfl, dv1, ds⟩ := ds.uncons
    obtain ⟨v2, r, rfl, dv2, ds⟩ := ds.uncons
    unfold DatL at ds
    subst ds
    refine ⟨a, [v1, v2], rfl, sqt_mono (fun b u hb => gnd_some hb) s1, rfl, v1, [v2], rfl, ?_⟩
    refine qo Z φ1 S1 ρ σ H1 _ R1 (sl.evo E1) (w1.into (sl.evo E1) fun x S2 ov φ2 H2 R2 E2 dx w2 => ?_)
    refine qi Z φ2 S2 ρ σ H2 _ R2 ((sl.evo E1).evo E2) (w2.into ((sl.evo E1).evo E2) fun y S3 iv φ3 H3 R3 E3 dy w3 => ?_)
    cases hst : storeAt x y d1 S3 with
    | none => rw [hst] at w3; exact w3.elim
    | some S4 =>
      rw [hst] at w3
      simp only at w3
      refine storeAt_ok R3 (Dat.evo E3 dx) dy (Dat.evo E3 (Dat.evo E2 dv1)) hst fun H4 R4 E4 => ?_
      refine ⟨v2, [], rfl, ?_⟩
      have sl4 := (((sl.evo E1).evo E2).evo E3).evo E4
      refine qp Z φ3 S4 ρ σ H4 _ R4 sl4 ((w3.go E4).into sl4 fun x2 S5 ov2 φ5 H5 R5 E5 dx2 w5 => ?_)
      refine qj Z φ5 S5 ρ σ H5 _ R5 (sl4.evo E5) (w5.into (sl4.evo E5) fun y2 S6 iv2 φ6 H6 R6 E6 dy2 w6 => ?_)
      cases hst2 : storeAt x2 y2 d2 S6 with
      | none => rw [hst2] at w6; exact w6.elim
      | some S7 =>
        rw [hst2] at w6
        simp only at w6
        refine storeAt_ok R6 (Dat.evo E6 dx2) dy2 (Dat.evo E6 (Dat.evo E5 (Dat.evo E4 (Dat.evo E3 (Dat.evo E2 dv2))))) hst2 fun H7 R7 E7 => ⟨rfl, ?_⟩
        exact w6 σ φ6 H7 R7 E7 (((sl4.evo E5).evo E6).evo E7)
  · exact w1.elim
end
end DL

namespace K03
open PySem PySem.Spec PyProof.Rows L2 DL
/-! ### _law_state -/
abbrev N_p_law_state : List Str := ["_law_script", "_law_k", "_law_cell_here", "_law_primes", "_law_found", "_law_j", "_law_prime", "_law_one"]
noncomputable def m_p_law_state : FS := (gSeq (gSet 2 (fIf (toB (fBin gNe (fVar 0) (fLst (fun _ S => .ok [] S)))) (fCB gAbs (fCons (fBin gIx (fVar 0) (fBin gMod (fVar 1) (fCB gLen (fCons (fVar 0) (fun _ S => .ok [] S))))) (fun _ S => .ok [] S))) (fC (.int 0)))) (gSeq (gIf (fAndT (toB (fBin gGe (fVar 2) (fBin gPow (fC (.int 10)) (fC (.int 18))))) (toB (fBin gLt (fVar 1) (fCB gLen (fCons (fVar 0) (fun _ S => .ok [] S)))))) (gRet (fLstO (fCons (fBin gSub (fVar 2) (fBin gPow (fC (.int 10)) (fC (.int 18)))) (fun _ S => .ok [] S)))) gNil) (gSeq (gSet 3 (fLst (fCons (fC (.int 2147483629)) (fCons (fC (.int 2147483587)) (fCons (fC (.int 2147483579)) (fCons (fC (.int 2147483563)) (fCons (fC (.int 2147483549)) (fCons (fC (.int 2147483543)) (fCons (fC (.int 2147483497)) (fCons (fC (.int 2147483489)) (fun _ S => .ok [] S))))))))))) (gSeq (gSet 3 (fBin gAdd (fVar 3) (fLst (fCons (fC (.int 2147483477)) (fCons (fC (.int 2147483423)) (fCons (fC (.int 2147483399)) (fCons (fC (.int 2147483353)) (fCons (fC (.int 2147483323)) (fCons (fC (.int 2147483269)) (fCons (fC (.int 2147483249)) (fun _ S => .ok [] S))))))))))) (gSeq (gSet 4 (fC (.int 0))) (gSeq (gFor (fEnum (fCons (fVar 3) (fun _ S => .ok [] S))) (mTup 2 (mCons (mName 5) (mCons (mName 6) (fun ds ρ _ => match ds with | [] => some ρ | _ => none)))) (gSeq (gSet 7 (fBin gMod (fBin gAdd (fBin gAdd (fBin gAdd (fVar 2) (fBin gMul (fC (.int 104729)) (fVar 1))) (fBin gMul (fC (.int 1299709)) (fVar 5))) (fC (.int 17))) (fVar 6))) (gSet 4 (fBin gAdd (fBin gMul (fVar 4) (fC (.int 2147483647))) (fBin gMod (fBin gMul (fVar 7) (fBin gAdd (fBin gAdd (fBin gMul (fVar 7) (fVar 7)) (fBin gMul (fC (.int 2)) (fVar 5))) (fC (.int 3)))) (fVar 6)))))) (gRet (fLstO (fCons (fVar 4) (fun _ S => .ok [] S))))))))))
noncomputable def S_p_law_state : Sem' := semOf 8 m_p_law_state
/-! ### _law_next -/
abbrev N_p_law_next : List Str := ["_law_state_here", "_law_many", "_law_found"]
noncomputable def m_p_law_next : FS := (gSeq (gSet 2 (fBin gMod (fBin gIx (fVar 0) (fC (.int 0))) (fVar 1))) (gSeq (gPut (fVar 0) (fC (.int 0)) (fBin gDiv (fBin gIx (fVar 0) (fC (.int 0))) (fVar 1))) (gRet (fVar 2))))
noncomputable def S_p_law_next : Sem' := semOf 3 m_p_law_next
/-! ### _law_piece -/
abbrev N_p_law_piece : List Str := ["_law_state_here", "_law_way", "_law_good", "_law_other", "_law_bad", "_law_some"]
noncomputable def m_p_law_piece : FS := (gSeq (gSet 1 (fCall (callSub S_p_law_next) (fun ds es => pick [(0, 0), (0, 1)] ds es []) 2 0 2 (fCons (fVar 0) (fCons (fC (.int 3)) (fun _ S => .ok [] S))) (fun _ S => .ok [] S))) (gSeq (gSet 2 (fLst (fCons (fC (.str "cell")) (fCons (fC (.str "cell - 5")) (fCons (fC (.str "last @0 @1")) (fCons (fC (.str "tie @0")) (fCons (fC (.str "tie -")) (fCons (fC (.str "pegs")) (fCons (fC (.str "pegs @0 -7")) (fCons (fC (.str "cell @1 @1 @2")) (fCons (fC (.str "")) (fCons (fC (.str "   ")) (fun _ S => .ok [] S))))))))))))) (gSeq (gSet 2 (fBin gAdd (fVar 2) (fLst (fCons (fC (.str "cell 1000000000 -1000000000 0")) (fCons (fC (.str "last - - - - - -")) (fCons (fC (.str "  tie   @1 ")) (fCons (fC (.str "pegs @2 @0 - 3")) (fun _ S => .ok [] S)))))))) (gSeq (gSet 3 (fLst (fCons (fC (.str "cell @9")) (fCons (fC (.str "tie @12")) (fCons (fC (.str "pegs @8")) (fCons (fC (.str "last 0 @1000000000")) (fCons (fC (.str "cell @3 @4")) (fun _ S => .ok [] S)))))))) (gSeq (gSet 4 (fLst (fCons (fC (.str "cell - - - - - - -")) (fCons (fC (.str "tie")) (fCons (fC (.str "tie 3")) (fCons (fC (.str "tie @0 @1")) (fCons (fC (.str "cell 01")) (fCons (fC (.str "cell -0")) (fCons (fC (.str "cell 1000000001")) (fCons (fC (.str "cells")) (fCons (fC (.str "Cell")) (fun _ S => .ok [] S)))))))))))) (gSeq (gSet 4 (fBin gAdd (fVar 4) (fLst (fCons (fC (.str "cell @")) (fCons (fC (.str "cell @-1")) (fCons (fC (.str "cell @01")) (fCons (fC (.str "peg")) (fCons (fC (.str "pegs -0")) (fCons (fC (.str "last at")) (fCons (fC (.str "cell --")) (fCons (fC (.str "-")) (fun _ S => .ok [] S)))))))))))) (gSeq (gSet 4 (fBin gAdd (fVar 4) (fLst (fCons (fC (.str "cell 99999999999999999999")) (fCons (fC (.str "@0")) (fCons (fC (.str "cell last")) (fun _ S => .ok [] S))))))) (gSeq (gSet 4 (fBin gAdd (fVar 4) (fLst (fCons (fC (.str "cell @1000000001")) (fCons (fC (.str "pegs 5 - @ 1")) (fCons (fC (.str "tie --")) (fCons (fC (.str "cell +1")) (fCons (fC (.str "cell 1.5")) (fCons (fC (.str "pegs,")) (fCons (fC (.str "last @-0")) (fun _ S => .ok [] S))))))))))) (gSeq (gSet 5 (fBin gIx (fLst (fCons (fVar 2) (fCons (fBin gAdd (fVar 2) (fVar 3)) (fCons (fBin gAdd (fBin gAdd (fVar 2) (fVar 3)) (fVar 4)) (fun _ S => .ok [] S))))) (fVar 1))) (gRet (fBin gIx (fVar 5) (fCall (callSub S_p_law_next) (fun ds es => pick [(0, 0), (0, 1)] ds es []) 2 0 2 (fCons (fVar 0) (fCons (fCB gLen (fCons (fVar 5) (fun _ S => .ok [] S))) (fun _ S => .ok [] S))) (fun _ S => .ok [] S)))))))))))))
noncomputable def S_p_law_piece : Sem' := semOf 6 m_p_law_piece
/-! ### _law_value -/
abbrev N_p_law_value : List Str := ["_law_state_here", "_law_many", "_law_way", "_law_number_here", "_law_at"]
noncomputable def m_p_law_value : FS := (gSeq (gSet 2 (fCall (callSub S_p_law_next) (fun ds es => pick [(0, 0), (0, 1)] ds es []) 2 0 2 (fCons (fVar 0) (fCons (fC (.int 6)) (fun _ S => .ok [] S))) (fun _ S => .ok [] S))) (gSeq (gSet 3 (fBin gIx (fLst (fCons (fBin gSub (fCall (callSub S_p_law_next) (fun ds es => pick [(0, 0), (0, 1)] ds es []) 2 0 2 (fCons (fVar 0) (fCons (fC (.int 7)) (fun _ S => .ok [] S))) (fun _ S => .ok [] S)) (fC (.int 3))) (fCons (fBin gSub (fBin gPow (fC (.int 10)) (fC (.int 9))) (fCall (callSub S_p_law_next) (fun ds es => pick [(0, 0), (0, 1)] ds es []) 2 0 2 (fCons (fVar 0) (fCons (fC (.int 2)) (fun _ S => .ok [] S))) (fun _ S => .ok [] S))) (fCons (fUn gNeg (fBin gPow (fC (.int 10)) (fC (.int 9)))) (fCons (fC (.int 0)) (fun _ S => .ok [] S)))))) (fCall (callSub S_p_law_next) (fun ds es => pick [(0, 0), (0, 1)] ds es []) 2 0 2 (fCons (fVar 0) (fCons (fC (.int 4)) (fun _ S => .ok [] S))) (fun _ S => .ok [] S)))) (gSeq (gSet 4 (fCall (callSub S_p_law_next) (fun ds es => pick [(0, 0), (0, 1)] ds es []) 2 0 2 (fCons (fVar 0) (fCons (fCB gMax (fCons (fC (.int 1)) (fCons (fVar 1) (fun _ S => .ok [] S)))) (fun _ S => .ok [] S))) (fun _ S => .ok [] S))) (gSeq (gIf (fAndT (toB (fBin gGt (fVar 2) (fC (.int 2)))) (toB (fBin gGt (fVar 1) (fC (.int 0))))) (gRet (fTup (fCons (fC (.str "at")) (fCons (fVar 4) (fun _ S => .ok [] S))))) gNil) (gRet (fIf (toB (fBin gEq (fVar 2) (fC (.int 0)))) (fC .non) (fVar 3)))))))
noncomputable def S_p_law_value : Sem' := semOf 5 m_p_law_value
/-! ### _law_cell -/
abbrev N_p_law_cell : List Str := ["_law_state_here", "_law_many", "_law_sort", "_law_target", "_law_size", "_law_k"]
noncomputable def m_p_law_cell : FS := (gSeq (gSet 2 (fBin gIx (fLst (fCons (fC (.str "cell")) (fCons (fC (.str "cell")) (fCons (fC (.str "last")) (fCons (fC (.str "tie")) (fun _ S => .ok [] S)))))) (fCall (callSub S_p_law_next) (fun ds es => pick [(0, 0), (0, 1)] ds es []) 2 0 2 (fCons (fVar 0) (fCons (fC (.int 4)) (fun _ S => .ok [] S))) (fun _ S => .ok [] S)))) (gSeq (gIf (toB (fBin gEq (fVar 2) (fC (.str "tie")))) (gSeq (gSet 3 (fCall (callSub S_p_law_next) (fun ds es => pick [(0, 0), (0, 1)] ds es []) 2 0 2 (fCons (fVar 0) (fCons (fBin gAdd (fVar 1) (fC (.int 1))) (fun _ S => .ok [] S))) (fun _ S => .ok [] S))) (gRet (fTup (fCons (fVar 2) (fCons (fIf (toB (fBin gLt (fVar 3) (fVar 1))) (fVar 3) (fC .non)) (fun _ S => .ok [] S)))))) gNil) (gSeq (gSet 4 (fBin gIx (fLst (fCons (fC (.int 1)) (fCons (fC (.int 2)) (fCons (fC (.int 3)) (fCons (fC (.int 0)) (fCons (fC (.int 2)) (fCons (fC (.int 4)) (fCons (fC (.int 6)) (fCons (fC (.int 5)) (fun _ S => .ok [] S)))))))))) (fCall (callSub S_p_law_next) (fun ds es => pick [(0, 0), (0, 1)] ds es []) 2 0 2 (fCons (fVar 0) (fCons (fC (.int 8)) (fun _ S => .ok [] S))) (fun _ S => .ok [] S)))) (gRet (fTup (fCons (fVar 2) (fCons (fCB gTuple (fCons (fComp (fRng1 (fCons (fVar 4) (fun _ S => .ok [] S))) (mName 5) fYes (fCall (callSub S_p_law_value) (fun ds es => pick [(0, 0), (0, 1)] ds es []) 2 0 2 (fCons (fVar 0) (fCons (fVar 1) (fun _ S => .ok [] S))) (fun _ S => .ok [] S)) ([("_law_k", 5)].map (·.2)) finL) (fun _ S => .ok [] S))) (fun _ S => .ok [] S))))))))
noncomputable def S_p_law_cell : Sem' := semOf 6 m_p_law_cell
/-! ### _law_web -/
abbrev N_p_law_web : List Str := ["_law_state_here", "_law_most", "_law_many", "_law_cells", "_law_k"]
noncomputable def m_p_law_web : FS := (gSeq (gSet 2 (fBin gMod (fBin gAdd (fVar 1) (fCall (callSub S_p_law_next) (fun ds es => pick [(0, 0), (0, 1)] ds es []) 2 0 2 (fCons (fVar 0) (fCons (fBin gAdd (fVar 1) (fC (.int 1))) (fun _ S => .ok [] S))) (fun _ S => .ok [] S))) (fBin gAdd (fVar 1) (fC (.int 1))))) (gSeq (gSet 3 (fComp (fRng1 (fCons (fVar 2) (fun _ S => .ok [] S))) (mName 4) fYes (fCall (callSub S_p_law_cell) (fun ds es => pick [(0, 0), (0, 1)] ds es []) 2 0 2 (fCons (fVar 0) (fCons (fVar 2) (fun _ S => .ok [] S))) (fun _ S => .ok [] S)) ([("_law_k", 4)].map (·.2)) finL)) (gRet (fTup (fCons (fVar 3) (fCons (fComp (fRng1 (fCons (fBin gMod (fBin gAdd (fC (.int 2)) (fCall (callSub S_p_law_next) (fun ds es => pick [(0, 0), (0, 1)] ds es []) 2 0 2 (fCons (fVar 0) (fCons (fC (.int 5)) (fun _ S => .ok [] S))) (fun _ S => .ok [] S))) (fC (.int 5))) (fun _ S => .ok [] S))) (mName 4) fYes (fCall (callSub S_p_law_value) (fun ds es => pick [(0, 0), (0, 1)] ds es []) 2 0 2 (fCons (fVar 0) (fCons (fVar 2) (fun _ S => .ok [] S))) (fun _ S => .ok [] S)) ([("_law_k", 4)].map (·.2)) finL) (fun _ S => .ok [] S)))))))
noncomputable def S_p_law_web : Sem' := semOf 5 m_p_law_web
/-! ### _law_value_text -/
abbrev N_p_law_value_text : List Str := ["_law_value_here"]
noncomputable def m_p_law_value_text : FS := (gSeq (gIf (toB (fCB gIsi (fCons (fVar 0) (fCons (fC (.ty "tuple")) (fun _ S => .ok [] S))))) (gRet (fBin gAdd (fC (.str "@")) (fCB gStrI (fCons (fBin gIx (fVar 0) (fC (.int 1))) (fun _ S => .ok [] S))))) gNil) (gRet (fIf (toB (fBin gIs (fVar 0) (fC .non))) (fC (.str "-")) (fCB gStrI (fCons (fVar 0) (fun _ S => .ok [] S))))))
noncomputable def S_p_law_value_text : Sem' := semOf 1 m_p_law_value_text
/-! ### _law_rows -/
abbrev N_p_law_rows : List Str := ["_law_cells", "_law_pegs", "_law_found", "_law_sort", "_law_inner", "_law_values", "_law_value_here"]
noncomputable def m_p_law_rows : FS := (gSeq (gSet 2 (fLstO (fun _ S => .ok [] S))) (gSeq (gFor (fSeq (fVar 0)) (mTup 2 (mCons (mName 3) (mCons (mName 4) (fun ds ρ _ => match ds with | [] => some ρ | _ => none)))) (gSeq (gSet 5 (fVar 4)) (gSeq (gIf (toB (fBin gEq (fVar 3) (fC (.str "tie")))) (gSet 5 (fLst (fCons (fIf (toB (fBin gIs (fVar 4) (fC .non))) (fC .non) (fTup (fCons (fC (.str "at")) (fCons (fVar 4) (fun _ S => .ok [] S))))) (fun _ S => .ok [] S)))) gNil) (gExpr (fBM "list" gApp (fVar 2) (fCons (fBM "str" gJoin (fC (.str " ")) (fCons (fBin gAdd (fLst (fCons (fVar 3) (fun _ S => .ok [] S))) (fComp (fSeq (fVar 5)) (mName 6) fYes (fCall (callSub S_p_law_value_text) (fun ds es => pick [(0, 0)] ds es []) 1 0 1 (fCons (fVar 6) (fun _ S => .ok [] S)) (fun _ S => .ok [] S)) ([("_law_value_here", 6)].map (·.2)) finL)) (fun _ S => .ok [] S))) (fun _ S => .ok [] S))))))) (gRet (fBin gAdd (fVar 2) (fLst (fCons (fBM "str" gJoin (fC (.str " ")) (fCons (fBin gAdd (fLst (fCons (fC (.str "pegs")) (fun _ S => .ok [] S))) (fComp (fSeq (fVar 1)) (mName 6) fYes (fCall (callSub S_p_law_value_text) (fun ds es => pick [(0, 0)] ds es []) 1 0 1 (fCons (fVar 6) (fun _ S => .ok [] S)) (fun _ S => .ok [] S)) ([("_law_value_here", 6)].map (·.2)) finL)) (fun _ S => .ok [] S))) (fun _ S => .ok [] S)))))))
noncomputable def S_p_law_rows : Sem' := semOf 7 m_p_law_rows
/-! ### _law_sign -/
abbrev N_p_law_sign : List Str := ["_law_state_here", "_law_some", "_law_others"]
noncomputable def m_p_law_sign : FS := (gSeq (gSet 1 (fC (.str " @-0123456789acegiklpst\n"))) (gSeq (gSet 2 (fBin gAdd (fVar 1) (fC (.str "!\"#$&'()*+,./:;<=>?ABCDEFGHIJKLMNOPQRSTUVWXYZ[\\]^_`bdfhjmnoqruvwxyz{|}~")))) (gSeq (gIf (toB (fBin gGt (fCall (callSub S_p_law_next) (fun ds es => pick [(0, 0), (0, 1)] ds es []) 2 0 2 (fCons (fVar 0) (fCons (fC (.int 4)) (fun _ S => .ok [] S))) (fun _ S => .ok [] S)) (fC (.int 0)))) (gRet (fBin gIx (fVar 1) (fCall (callSub S_p_law_next) (fun ds es => pick [(0, 0), (0, 1)] ds es []) 2 0 2 (fCons (fVar 0) (fCons (fCB gLen (fCons (fVar 1) (fun _ S => .ok [] S))) (fun _ S => .ok [] S))) (fun _ S => .ok [] S)))) gNil) (gRet (fBin gIx (fVar 2) (fCall (callSub S_p_law_next) (fun ds es => pick [(0, 0), (0, 1)] ds es []) 2 0 2 (fCons (fVar 0) (fCons (fCB gLen (fCons (fVar 2) (fun _ S => .ok [] S))) (fun _ S => .ok [] S))) (fun _ S => .ok [] S)))))))
noncomputable def S_p_law_sign : Sem' := semOf 3 m_p_law_sign
/-! ### _law_spoilt -/
abbrev N_p_law_spoilt : List Str := ["_law_state_here", "_law_text", "_law_way", "_law_sign_here", "_law_at", "_law_rows_here", "_law_one", "_law_other"]
noncomputable def m_p_law_spoilt : FS := (gSeq (gSet 2 (fCall (callSub S_p_law_next) (fun ds es => pick [(0, 0), (0, 1)] ds es []) 2 0 2 (fCons (fVar 0) (fCons (fC (.int 8)) (fun _ S => .ok [] S))) (fun _ S => .ok [] S))) (gSeq (gSet 3 (fCall (callSub S_p_law_sign) (fun ds es => pick [(0, 0)] ds es []) 1 0 1 (fCons (fVar 0) (fun _ S => .ok [] S)) (fun _ S => .ok [] S))) (gSeq (gSet 4 (fCall (callSub S_p_law_next) (fun ds es => pick [(0, 0), (0, 1)] ds es []) 2 0 2 (fCons (fVar 0) (fCons (fBin gAdd (fCB gLen (fCons (fVar 1) (fun _ S => .ok [] S))) (fC (.int 1))) (fun _ S => .ok [] S))) (fun _ S => .ok [] S))) (gSeq (gSet 5 (fBM "str" gSplitO (fVar 1) (fCons (fC (.str "\n")) (fun _ S => .ok [] S)))) (gSeq (gPar 6 7 (fCons (fCall (callSub S_p_law_next) (fun ds es => pick [(0, 0), (0, 1)] ds es []) 2 0 2 (fCons (fVar 0) (fCons (fCB gLen (fCons (fVar 5) (fun _ S => .ok [] S))) (fun _ S => .ok [] S))) (fun _ S => .ok [] S)) (fCons (fCall (callSub S_p_law_next) (fun ds es => pick [(0, 0), (0, 1)] ds es []) 2 0 2 (fCons (fVar 0) (fCons (fCB gLen (fCons (fVar 5) (fun _ S => .ok [] S))) (fun _ S => .ok [] S))) (fun _ S => .ok [] S)) (fun _ S => .ok [] S)))) (gSeq (gIf (toB (fBin gEq (fVar 2) (fC (.int 0)))) (gRet (fSlS (fVar 1) fPartN (fPart (fVar 4)))) gNil) (gSeq (gIf (toB (fBin gEq (fVar 2) (fC (.int 1)))) (gSeq (gPut2 (fVar 5) (fVar 6) (fVar 5) (fVar 7) (fTup (fCons (fBin gIx (fVar 5) (fVar 7)) (fCons (fBin gIx (fVar 5) (fVar 6)) (fun _ S => .ok [] S))))) (gRet (fBM "str" gJoin (fC (.str "\n")) (fCons (fVar 5) (fun _ S => .ok [] S))))) gNil) (gSeq (gIf (toB (fBin gEq (fVar 2) (fC (.int 2)))) (gRet (fBM "str" gJoin (fC (.str "\n")) (fCons (fBin gAdd (fSl (fVar 5) fPartN (fPart (fVar 6))) (fSl (fVar 5) (fPart (fBin gAdd (fVar 6) (fC (.int 1)))) fPartN)) (fun _ S => .ok [] S)))) gNil) (gSeq (gIf (toB (fBin gEq (fVar 2) (fC (.int 3)))) (gRet (fBM "str" gJoin (fC (.str "\n")) (fCons (fBin gAdd (fBin gAdd (fSl (fVar 5) fPartN (fPart (fVar 6))) (fLst (fCons (fBin gIx (fVar 5) (fVar 7)) (fun _ S => .ok [] S)))) (fSl (fVar 5) (fPart (fVar 6)) fPartN)) (fun _ S => .ok [] S)))) gNil) (gSeq (gIf (toB (fBin gEq (fVar 2) (fC (.int 4)))) (gRet (fBin gAdd (fSlS (fVar 1) fPartN (fPart (fVar 4))) (fSlS (fVar 1) (fPart (fBin gAdd (fVar 4) (fC (.int 1)))) fPartN))) gNil) (gRet (fBin gAdd (fBin gAdd (fSlS (fVar 1) fPartN (fPart (fVar 4))) (fVar 3)) (fSlS (fVar 1) (fPart (fBin gAdd (fVar 4) (fBin gMod (fVar 2) (fC (.int 2))))) fPartN)))))))))))))
noncomputable def S_p_law_spoilt : Sem' := semOf 8 m_p_law_spoilt
/-! ### BadText.init -/
abbrev N_BadText_init : List Str := ["self", "row"]
/-! ### rows_of -/
abbrev N_rows_of : List Str := ["text", "rows", "word", "row"]
noncomputable def m_rows_of : FS := (gSeq (gIf (fNotT (toB (fCB gIsi (fCons (fVar 0) (fCons (fC (.ty "str")) (fun _ S => .ok [] S)))))) (gRaiX "BadText" ["row"] (fCons (fC (.int 0)) (fun _ S => .ok [] S))) gNil) (gSeq (gSet 1 (fBM "str" gSplitO (fVar 0) (fCons (fC (.str "\n")) (fun _ S => .ok [] S)))) (gSeq (gIf (toB (fBin gEq (fBin gIx (fVar 1) (fUn gNeg (fC (.int 1)))) (fC (.str "")))) (gExpr (fBM "list" gPop0 (fVar 1) (fun _ S => .ok [] S))) gNil) (gRet (fComp (fSeq (fVar 1)) (mName 3) fYes (fComp (fSeq (fBM "str" gSplit (fVar 3) (fCons (fC (.str " ")) (fun _ S => .ok [] S)))) (mName 2) (toB (fBin gNe (fVar 2) (fC (.str "")))) (fVar 2) ([("word", 2)].map (·.2)) finL) ([("row", 3)].map (·.2)) finL)))))
noncomputable def S_rows_of : Sem' := semOf 4 m_rows_of
/-! ### is_whole -/
abbrev N_is_whole : List Str := ["thing", "least", "most"]
noncomputable def m_is_whole : FS := (gRet (fAndV (fCB gIsi (fCons (fVar 0) (fCons (fC (.ty "int")) (fun _ S => .ok [] S)))) (fAndV (fNotV (fCB gIsi (fCons (fVar 0) (fCons (fC (.ty "bool")) (fun _ S => .ok [] S))))) (fChain gLe gLe (fVar 1) (fVar 0) (fVar 2)))))
noncomputable def S_is_whole : Sem' := semOf 3 m_is_whole
/-! ### is_number -/
abbrev N_is_number : List Str := ["thing"]
noncomputable def m_is_number : FS := (gRet (fCall (callSub S_is_whole) (fun ds es => pick [(0, 0), (0, 1), (0, 2)] ds es []) 3 0 3 (fCons (fVar 0) (fCons (fUn gNeg (fC (.int (1000000000)))) (fCons (fC (.int (1000000000))) (fun _ S => .ok [] S)))) (fun _ S => .ok [] S)))
noncomputable def S_is_number : Sem' := semOf 1 m_is_number
/-! ### number_in -/
abbrev N_number_in : List Str := ["word", "figures", "number", "sign"]
noncomputable def m_number_in : FS := (gSeq (gSet 1 (fIf (toB (fBM "str" gStarts (fVar 0) (fCons (fC (.str "-")) (fun _ S => .ok [] S)))) (fSlS (fVar 0) (fPart (fC (.int 1))) fPartN) (fVar 0))) (gSeq (gIf (fOrT (toB (fBin gEq (fVar 1) (fC (.str "")))) (fOrT (toB (fBin gGt (fCB gLen (fCons (fVar 0) (fun _ S => .ok [] S))) (fC (.int (11))))) (toB (fCB (gAllAny false) (fCons (fComp (fSigns (fVar 1)) (mName 3) fYes (fBin (gInC true) (fVar 3) (fC (.str "0123456789"))) ([("sign", 3)].map (·.2)) finL) (fun _ S => .ok [] S)))))) (gRet (fC .non)) gNil) (gSeq (gSet 2 (fCB gIntS (fCons (fVar 0) (fun _ S => .ok [] S)))) (gRet (fIf (fAndT (toB (fBin gEq (fCB gStrI (fCons (fVar 2) (fun _ S => .ok [] S))) (fVar 0))) (toB (fCall (callSub S_is_number) (fun ds es => pick [(0, 0)] ds es []) 1 0 1 (fCons (fVar 2) (fun _ S => .ok [] S)) (fun _ S => .ok [] S)))) (fVar 2) (fC .non))))))
noncomputable def S_number_in : Sem' := semOf 4 m_number_in
/-! ### values_told -/
abbrev N_values_told : List Str := ["words", "values", "word", "at", "number"]
noncomputable def m_values_told : FS := (gSeq (gSet 1 (fLstO (fun _ S => .ok [] S))) (gSeq (gFor (fSeq (fVar 0)) (mName 2) (gSeq (gSet 3 (fBM "str" gStarts (fVar 2) (fCons (fC (.str "@")) (fun _ S => .ok [] S)))) (gSeq (gSet 4 (fCall (callSub S_number_in) (fun ds es => pick [(0, 0)] ds es []) 1 0 1 (fCons (fIf (toB (fVar 3)) (fSlS (fVar 2) (fPart (fC (.int 1))) fPartN) (fVar 2)) (fun _ S => .ok [] S)) (fun _ S => .ok [] S))) (gIf (toB (fBin gEq (fVar 2) (fC (.str "-")))) (gExpr (fBM "list" gApp (fVar 1) (fCons (fC .non) (fun _ S => .ok [] S)))) (gIf (fOrT (toB (fBin gIs (fVar 4) (fC .non))) (fAndT (toB (fVar 3)) (toB (fBin gLt (fVar 4) (fC (.int 0)))))) (gRet (fC .non)) (gExpr (fBM "list" gApp (fVar 1) (fCons (fIf (toB (fVar 3)) (fTup (fCons (fC (.str "at")) (fCons (fVar 4) (fun _ S => .ok [] S)))) (fVar 4)) (fun _ S => .ok [] S))))))))) (gRet (fFrz (fVar 1)))))
noncomputable def S_values_told : Sem' := semOf 5 m_values_told
/-! ### told_row -/
abbrev N_told_row : List Str := ["words", "sort", "rest", "values"]
noncomputable def m_told_row : FS := (gSeq (gStar 1 2 (fVar 0)) (gSeq (gSet 3 (fCall (callSub S_values_told) (fun ds es => pick [(0, 0)] ds es []) 1 0 1 (fCons (fVar 2) (fun _ S => .ok [] S)) (fun _ S => .ok [] S))) (gSeq (gIf (fOrT (toB (fBin gIs (fVar 3) (fC .non))) (toB (fBin gNotIn (fVar 1) (fTup (fCons (fC (.str "cell")) (fCons (fC (.str "last")) (fCons (fC (.str "tie")) (fCons (fC (.str "pegs")) (fun _ S => .ok [] S))))))))) (gRet (fC .non)) gNil) (gSeq (gIf (fAndT (toB (fBin gIn (fVar 1) (fTup (fCons (fC (.str "cell")) (fCons (fC (.str "last")) (fun _ S => .ok [] S)))))) (toB (fBin gGt (fCB gLen (fCons (fVar 3) (fun _ S => .ok [] S))) (fC (.int (6)))))) (gRet (fC .non)) gNil) (gSeq (gIf (fAndT (toB (fBin gEq (fVar 1) (fC (.str "tie")))) (fOrT (toB (fBin gNe (fCB gLen (fCons (fVar 3) (fun _ S => .ok [] S))) (fC (.int 1)))) (toB (fCB gIsi (fCons (fBin gIx (fVar 3) (fC (.int 0))) (fCons (fC (.ty "int")) (fun _ S => .ok [] S))))))) (gRet (fC .non)) gNil) (gRet (fTup (fCons (fVar 1) (fCons (fVar 3) (fun _ S => .ok [] S))))))))))
noncomputable def S_told_row : Sem' := semOf 4 m_told_row
/-! ### told_rows -/
abbrev N_told_rows : List Str := ["rows", "found", "at", "words", "told", "sort", "values"]
noncomputable def m_told_rows : FS := (gSeq (gSet 1 (fLstO (fun _ S => .ok [] S))) (gSeq (gFor (fEnum (fCons (fVar 0) (fun _ S => .ok [] S))) (mTup 2 (mCons (mName 2) (mCons (mName 3) (fun ds ρ _ => match ds with | [] => some ρ | _ => none)))) (gIf (toB (fBin gNe (fVar 3) (fLst (fun _ S => .ok [] S)))) (gSeq (gSet 4 (fCall (callSub S_told_row) (fun ds es => pick [(0, 0)] ds es []) 1 0 1 (fCons (fVar 3) (fun _ S => .ok [] S)) (fun _ S => .ok [] S))) (gSeq (gIf (fOrT (toB (fBin gIs (fVar 4) (fC .non))) (fAndT (toB (fBin gNe (fVar 1) (fLst (fun _ S => .ok [] S)))) (toB (fBin gEq (fBin gIx (fBin gIx (fVar 1) (fUn gNeg (fC (.int 1)))) (fC (.int 1))) (fC (.str "pegs")))))) (gRaiX "BadText" ["row"] (fCons (fVar 2) (fun _ S => .ok [] S))) gNil) (gSeq (gAsg (mTup 2 (mCons (mName 5) (mCons (mName 6) (fun ds ρ _ => match ds with | [] => some ρ | _ => none)))) (fVar 4)) (gExpr (fBM "list" gApp (fVar 1) (fCons (fTup (fCons (fVar 2) (fCons (fVar 5) (fCons (fVar 6) (fun _ S => .ok [] S))))) (fun _ S => .ok [] S))))))) gNil)) (gRet (fFrz (fVar 1)))))
noncomputable def S_told_rows : Sem' := semOf 7 m_told_rows
/-! ### led_to -/
abbrev N_led_to : List Str := ["value"]
noncomputable def m_led_to : FS := (gRet (fIf (toB (fCB gIsi (fCons (fVar 0) (fCons (fC (.ty "tuple")) (fun _ S => .ok [] S))))) (fBin gIx (fVar 0) (fC (.int 1))) (fC .non)))
noncomputable def S_led_to : Sem' := semOf 1 m_led_to
/-! ### is_row -/
abbrev N_is_row : List Str := ["thing"]
noncomputable def m_is_row : FS := (gRet (fCB gIsi (fCons (fVar 0) (fCons (fTup (fCons (fC (.ty "list")) (fCons (fC (.ty "tuple")) (fun _ S => .ok [] S)))) (fun _ S => .ok [] S)))))
noncomputable def S_is_row : Sem' := semOf 1 m_is_row
/-! ### is_at -/
abbrev N_is_at : List Str := ["thing", "least"]
noncomputable def m_is_at : FS := (gSeq (gIf (fOrT (fNotT (toB (fCB gIsi (fCons (fVar 0) (fCons (fC (.ty "tuple")) (fun _ S => .ok [] S)))))) (fOrT (toB (fBin gNe (fCB gLen (fCons (fVar 0) (fun _ S => .ok [] S))) (fC (.int 2)))) (fOrT (fNotT (toB (fCB gIsi (fCons (fBin gIx (fVar 0) (fC (.int 0))) (fCons (fC (.ty "str")) (fun _ S => .ok [] S)))))) (toB (fBin gNe (fBin gIx (fVar 0) (fC (.int 0))) (fC (.str "at"))))))) (gRet (fC (.bl false))) gNil) (gRet (fAndV (fCB gIsi (fCons (fBin gIx (fVar 0) (fC (.int 1))) (fCons (fC (.ty "int")) (fun _ S => .ok [] S)))) (fAndV (fNotV (fCB gIsi (fCons (fBin gIx (fVar 0) (fC (.int 1))) (fCons (fC (.ty "bool")) (fun _ S => .ok [] S))))) (fBin gGe (fBin gIx (fVar 0) (fC (.int 1))) (fVar 1))))))
noncomputable def S_is_at : Sem' := semOf 2 m_is_at
/-! ### is_value -/
abbrev N_is_value : List Str := ["thing", "cells"]
noncomputable def m_is_value : FS := (gRet (fOrV (fBin gIs (fVar 0) (fC .non)) (fOrV (fCall (callSub S_is_number) (fun ds es => pick [(0, 0)] ds es []) 1 0 1 (fCons (fVar 0) (fun _ S => .ok [] S)) (fun _ S => .ok [] S)) (fAndV (fCall (callSub S_is_at) (fun ds es => pick [(0, 0), (0, 1)] ds es []) 2 0 2 (fCons (fVar 0) (fCons (fC (.int 0)) (fun _ S => .ok [] S))) (fun _ S => .ok [] S)) (fBin gLt (fBin gIx (fVar 0) (fC (.int 1))) (fVar 1))))))
noncomputable def S_is_value : Sem' := semOf 2 m_is_value
/-! ### is_cell -/
abbrev N_is_cell : List Str := ["thing", "cells", "one"]
noncomputable def m_is_cell : FS := (gSeq (gIf (fOrT (fNotT (toB (fCB gIsi (fCons (fVar 0) (fCons (fC (.ty "tuple")) (fun _ S => .ok [] S)))))) (fOrT (toB (fBin gNe (fCB gLen (fCons (fVar 0) (fun _ S => .ok [] S))) (fC (.int 2)))) (fNotT (toB (fCB gIsi (fCons (fBin gIx (fVar 0) (fC (.int 0))) (fCons (fC (.ty "str")) (fun _ S => .ok [] S)))))))) (gRet (fC (.bl false))) gNil) (gSeq (gIf (toB (fBin gEq (fBin gIx (fVar 0) (fC (.int 0))) (fC (.str "tie")))) (gRet (fOrV (fBin gIs (fBin gIx (fVar 0) (fC (.int 1))) (fC .non)) (fCall (callSub S_is_whole) (fun ds es => pick [(0, 0), (0, 1), (0, 2)] ds es []) 3 0 3 (fCons (fBin gIx (fVar 0) (fC (.int 1))) (fCons (fC (.int 0)) (fCons (fBin gSub (fVar 1) (fC (.int 1))) (fun _ S => .ok [] S)))) (fun _ S => .ok [] S)))) gNil) (gSeq (gIf (fOrT (toB (fBin gNotIn (fBin gIx (fVar 0) (fC (.int 0))) (fTup (fCons (fC (.str "cell")) (fCons (fC (.str "last")) (fun _ S => .ok [] S)))))) (fOrT (fNotT (toB (fCB gIsi (fCons (fBin gIx (fVar 0) (fC (.int 1))) (fCons (fC (.ty "tuple")) (fun _ S => .ok [] S)))))) (toB (fBin gGt (fCB gLen (fCons (fBin gIx (fVar 0) (fC (.int 1))) (fun _ S => .ok [] S))) (fC (.int (6))))))) (gRet (fC (.bl false))) gNil) (gRet (fCB (gAllAny true) (fCons (fComp (fSeq (fBin gIx (fVar 0) (fC (.int 1)))) (mName 2) fYes (fCall (callSub S_is_value) (fun ds es => pick [(0, 0), (1, 0)] ds es []) 1 1 2 (fCons (fVar 2) (fun _ S => .ok [] S)) (fCons (fVar 1) (fun _ S => .ok [] S))) ([("one", 2)].map (·.2)) finL) (fun _ S => .ok [] S)))))))
noncomputable def S_is_cell : Sem' := semOf 3 m_is_cell
/-! ### is_web -/
abbrev N_is_web : List Str := ["cells", "pegs", "many", "one"]
noncomputable def m_is_web : FS := (gSeq (gIf (fOrT (fNotT (toB (fCall (callSub S_is_row) (fun ds es => pick [(0, 0)] ds es []) 1 0 1 (fCons (fVar 0) (fun _ S => .ok [] S)) (fun _ S => .ok [] S)))) (fNotT (toB (fCall (callSub S_is_row) (fun ds es => pick [(0, 0)] ds es []) 1 0 1 (fCons (fVar 1) (fun _ S => .ok [] S)) (fun _ S => .ok [] S))))) (gRet (fC (.bl false))) gNil) (gSeq (gSet 2 (fCB gLen (fCons (fVar 0) (fun _ S => .ok [] S)))) (gRet (fAndV (fCB (gAllAny true) (fCons (fComp (fSeq (fVar 0)) (mName 3) fYes (fCall (callSub S_is_cell) (fun ds es => pick [(0, 0), (1, 0)] ds es []) 1 1 2 (fCons (fVar 3) (fun _ S => .ok [] S)) (fCons (fVar 2) (fun _ S => .ok [] S))) ([("one", 3)].map (·.2)) finL) (fun _ S => .ok [] S))) (fCB (gAllAny true) (fCons (fComp (fSeq (fVar 1)) (mName 3) fYes (fCall (callSub S_is_value) (fun ds es => pick [(0, 0), (1, 0)] ds es []) 1 1 2 (fCons (fVar 3) (fun _ S => .ok [] S)) (fCons (fVar 2) (fun _ S => .ok [] S))) ([("one", 3)].map (·.2)) finL) (fun _ S => .ok [] S)))))))
noncomputable def S_is_web : Sem' := semOf 4 m_is_web
/-! ### Web.init -/
abbrev N_Web_init : List Str := ["self", "cells", "pegs"]
noncomputable def m_Web_init : FS := (gSeq (gIf (fNotT (toB (fCall (callSub S_is_web) (fun ds es => pick [(0, 0), (0, 1)] ds es []) 2 0 2 (fCons (fVar 1) (fCons (fVar 2) (fun _ S => .ok [] S))) (fun _ S => .ok [] S)))) (fun ρ S => .ex "BadWeb" [] ρ S) gNil) (gSeq (gFld ["Web"] "all_cells" (fVar 0) (fCB gList (fCons (fVar 1) (fun _ S => .ok [] S)))) (gFld ["Web"] "all_pegs" (fVar 0) (fCB gList (fCons (fVar 2) (fun _ S => .ok [] S))))))
noncomputable def S_Web_init : Sem' := semOf 3 m_Web_init
/-! ### read_web -/
abbrev N_read_web : List Str := ["text", "rows", "found", "many", "at", "sort", "values", "cells", "value"]
noncomputable def m_read_web : FS := (gSeq (gSet 1 (fCall (callSub S_rows_of) (fun ds es => pick [(0, 0)] ds es []) 1 0 1 (fCons (fVar 0) (fun _ S => .ok [] S)) (fun _ S => .ok [] S))) (gSeq (gSet 2 (fCall (callSub S_told_rows) (fun ds es => pick [(0, 0)] ds es []) 1 0 1 (fCons (fVar 1) (fun _ S => .ok [] S)) (fun _ S => .ok [] S))) (gSeq (gSet 3 (fCB gLen (fCons (fComp (fSeq (fVar 2)) (mTup 3 (mCons (mName 4) (mCons (mName 5) (mCons (mName 6) (fun ds ρ _ => match ds with | [] => some ρ | _ => none))))) (toB (fBin gNe (fVar 5) (fC (.str "pegs")))) (fVar 4) ([("at", 4), ("sort", 5), ("values", 6)].map (·.2)) finL) (fun _ S => .ok [] S)))) (gSeq (gFor (fSeq (fVar 2)) (mTup 3 (mCons (mName 4) (mCons (mName 5) (mCons (mName 6) (fun ds ρ _ => match ds with | [] => some ρ | _ => none))))) (gIf (toB (fCB (gAllAny false) (fCons (fComp (fSeq (fVar 6)) (mName 8) fYes (fAndV (fBin gIsNot (fCall (callSub S_led_to) (fun ds es => pick [(0, 0)] ds es []) 1 0 1 (fCons (fVar 8) (fun _ S => .ok [] S)) (fun _ S => .ok [] S)) (fC .non)) (fBin gGe (fCall (callSub S_led_to) (fun ds es => pick [(0, 0)] ds es []) 1 0 1 (fCons (fVar 8) (fun _ S => .ok [] S)) (fun _ S => .ok [] S)) (fVar 3))) ([("value", 8)].map (·.2)) finL) (fun _ S => .ok [] S)))) (gRaiX "BadText" ["row"] (fCons (fVar 4) (fun _ S => .ok [] S))) gNil)) (gSeq (gIf (fOrT (toB (fBin gEq (fVar 2) (fLst (fun _ S => .ok [] S)))) (toB (fBin gNe (fBin gIx (fBin gIx (fVar 2) (fUn gNeg (fC (.int 1)))) (fC (.int 1))) (fC (.str "pegs"))))) (gRaiX "BadText" ["row"] (fCons (fCB gLen (fCons (fVar 1) (fun _ S => .ok [] S))) (fun _ S => .ok [] S))) gNil) (gSeq (gSet 7 (fComp (fSeq (fSl (fVar 2) fPartN (fPart (fUn gNeg (fC (.int 1)))))) (mTup 3 (mCons (mName 4) (mCons (mName 5) (mCons (mName 6) (fun ds ρ _ => match ds with | [] => some ρ | _ => none))))) fYes (fTup (fCons (fVar 5) (fCons (fIf (toB (fBin gEq (fVar 5) (fC (.str "tie")))) (fCall (callSub S_led_to) (fun ds es => pick [(0, 0)] ds es []) 1 0 1 (fCons (fBin gIx (fVar 6) (fC (.int 0))) (fun _ S => .ok [] S)) (fun _ S => .ok [] S)) (fCB gTuple (fCons (fVar 6) (fun _ S => .ok [] S)))) (fun _ S => .ok [] S)))) ([("at", 4), ("sort", 5), ("values", 6)].map (·.2)) finL)) (gRet (fMake (makeF S_Web_init (fun ds es => pick [(0, 0), (0, 1), (0, 2)] ds es []) "Web" 3) 2 0 (fCons (fVar 7) (fCons (fBin gIx (fBin gIx (fVar 2) (fUn gNeg (fC (.int 1)))) (fC (.int 2))) (fun _ S => .ok [] S))) (fun _ S => .ok [] S)))))))))
noncomputable def S_read_web : Sem' := semOf 9 m_read_web
/-! ### Web.cells -/
abbrev N_Web_cells : List Str := ["self"]
noncomputable def m_Web_cells : FS := (gRet (fCB gList (fCons (fFld ["Web"] "all_cells" (fVar 0)) (fun _ S => .ok [] S))))
noncomputable def S_Web_cells : Sem' := semOf 1 m_Web_cells
/-! ### Web.pegs -/
abbrev N_Web_pegs : List Str := ["self"]
noncomputable def m_Web_pegs : FS := (gRet (fCB gList (fCons (fFld ["Web"] "all_pegs" (fVar 0)) (fun _ S => .ok [] S))))
noncomputable def S_Web_pegs : Sem' := semOf 1 m_Web_pegs
/-! ### _law_classes -/
abbrev N_p_law_classes : List Str := ["_law_error", "_law_marks", "_law_name", "_law_there"]
noncomputable def m_p_law_classes : FS := (gSeq (gSet 1 (fLst (fCons (fTup (fCons (fC (.str "BadWeb")) (fCons (fCB (gIsF tb_BadWeb (.cls "BadWeb")) (fCons (fVar 0) (fCons (fC (.cls "BadWeb")) (fun _ S => .ok [] S)))) (fun _ S => .ok [] S)))) (fCons (fTup (fCons (fC (.str "BadGround")) (fCons (fCB (gIsF tb_BadGround (.cls "BadGround")) (fCons (fVar 0) (fCons (fC (.cls "BadGround")) (fun _ S => .ok [] S)))) (fun _ S => .ok [] S)))) (fCons (fTup (fCons (fC (.str "BadNumber")) (fCons (fCB (gIsF tb_BadNumber (.cls "BadNumber")) (fCons (fVar 0) (fCons (fC (.cls "BadNumber")) (fun _ S => .ok [] S)))) (fun _ S => .ok [] S)))) (fCons (fTup (fCons (fC (.str "NoPeg")) (fCons (fCB (gIsF tb_NoPeg (.cls "NoPeg")) (fCons (fVar 0) (fCons (fC (.cls "NoPeg")) (fun _ S => .ok [] S)))) (fun _ S => .ok [] S)))) (fCons (fTup (fCons (fC (.str "NoCell")) (fCons (fCB (gIsF tb_NoCell (.cls "NoCell")) (fCons (fVar 0) (fCons (fC (.cls "NoCell")) (fun _ S => .ok [] S)))) (fun _ S => .ok [] S)))) (fCons (fTup (fCons (fC (.str "NoField")) (fCons (fCB (gIsF tb_NoField (.cls "NoField")) (fCons (fVar 0) (fCons (fC (.cls "NoField")) (fun _ S => .ok [] S)))) (fun _ S => .ok [] S)))) (fCons (fTup (fCons (fC (.str "NoHand")) (fCons (fCB (gIsF tb_NoHand (.cls "NoHand")) (fCons (fVar 0) (fCons (fC (.cls "NoHand")) (fun _ S => .ok [] S)))) (fun _ S => .ok [] S)))) (fCons (fTup (fCons (fC (.str "NoTurn")) (fCons (fCB (gIsF tb_NoTurn (.cls "NoTurn")) (fCons (fVar 0) (fCons (fC (.cls "NoTurn")) (fun _ S => .ok [] S)))) (fun _ S => .ok [] S)))) (fCons (fTup (fCons (fC (.str "NoRoom")) (fCons (fCB (gIsF tb_NoRoom (.cls "NoRoom")) (fCons (fVar 0) (fCons (fC (.cls "NoRoom")) (fun _ S => .ok [] S)))) (fun _ S => .ok [] S)))) (fCons (fTup (fCons (fC (.str "NoDeed")) (fCons (fCB (gIsF tb_NoDeed (.cls "NoDeed")) (fCons (fVar 0) (fCons (fC (.cls "NoDeed")) (fun _ S => .ok [] S)))) (fun _ S => .ok [] S)))) (fCons (fTup (fCons (fC (.str "TooMany")) (fCons (fCB (gIsF tb_TooMany (.cls "TooMany")) (fCons (fVar 0) (fCons (fC (.cls "TooMany")) (fun _ S => .ok [] S)))) (fun _ S => .ok [] S)))) (fCons (fTup (fCons (fC (.str "BadProgram")) (fCons (fCB (gIsF tb_BadProgram (.cls "BadProgram")) (fCons (fVar 0) (fCons (fC (.cls "BadProgram")) (fun _ S => .ok [] S)))) (fun _ S => .ok [] S)))) (fCons (fTup (fCons (fC (.str "BadWeaving")) (fCons (fCB (gIsF tb_BadWeaving (.cls "BadWeaving")) (fCons (fVar 0) (fCons (fC (.cls "BadWeaving")) (fun _ S => .ok [] S)))) (fun _ S => .ok [] S)))) (fCons (fTup (fCons (fC (.str "BadPicture")) (fCons (fCB (gIsF tb_BadPicture (.cls "BadPicture")) (fCons (fVar 0) (fCons (fC (.cls "BadPicture")) (fun _ S => .ok [] S)))) (fun _ S => .ok [] S)))) (fCons (fTup (fCons (fC (.str "BadText")) (fCons (fCB (gIsF tb_BadText (.cls "BadText")) (fCons (fVar 0) (fCons (fC (.cls "BadText")) (fun _ S => .ok [] S)))) (fun _ S => .ok [] S)))) (fCons (fTup (fCons (fC (.str "BadName")) (fCons (fCB (gIsF tb_BadName (.cls "BadName")) (fCons (fVar 0) (fCons (fC (.cls "BadName")) (fun _ S => .ok [] S)))) (fun _ S => .ok [] S)))) (fCons (fTup (fCons (fC (.str "NoName")) (fCons (fCB (gIsF tb_NoName (.cls "NoName")) (fCons (fVar 0) (fCons (fC (.cls "NoName")) (fun _ S => .ok [] S)))) (fun _ S => .ok [] S)))) (fCons (fTup (fCons (fC (.str "Unlawful")) (fCons (fCB (gIsF tb_Unlawful (.cls "Unlawful")) (fCons (fVar 0) (fCons (fC (.cls "Unlawful")) (fun _ S => .ok [] S)))) (fun _ S => .ok [] S)))) (fun _ S => .ok [] S))))))))))))))))))))) (gRet (fIf (toB (fCB (gIsF tb_ValueError (.ty "ValueError")) (fCons (fVar 0) (fCons (fC (.ty "ValueError")) (fun _ S => .ok [] S))))) (fBM "str" gJoin (fC (.str " ")) (fCons (fComp (fSeq (fVar 1)) (mTup 2 (mCons (mName 2) (mCons (mName 3) (fun ds ρ _ => match ds with | [] => some ρ | _ => none)))) (toB (fVar 3)) (fVar 2) ([("_law_name", 2), ("_law_there", 3)].map (·.2)) finL) (fun _ S => .ok [] S))) (fC (.str "none")))))
noncomputable def S_p_law_classes : Sem' := semOf 4 m_p_law_classes
/-! ### _law_said -/
abbrev N_p_law_said : List Str := ["_law_text", "_law_found", "_law_error", "e"]
noncomputable def m_p_law_said : FS := (gSeq (gAsg (mTup 2 (mCons (mName 1) (mCons (mName 2) (fun ds ρ _ => match ds with | [] => some ρ | _ => none)))) (fTup (fCons (fC .non) (fCons (fC .non) (fun _ S => .ok [] S))))) (gSeq (gTry (gSet 1 (fCall (callSub S_read_web) (fun ds es => pick [(0, 0)] ds es []) 1 0 1 (fCons (fVar 0) (fun _ S => .ok [] S)) (fun _ S => .ok [] S))) (⟨tb_YardError, some 3, (gSet 2 (fVar 3))⟩ :: [])) (gSeq (gIf (toB (fBin gIs (fVar 2) (fC .non))) (gRet (fTup (fCons (fMeth (callSub S_Web_cells) (fun ds es => pick [(0, 0)] ds es []) "Web" "cells" 1 0 1 (fVar 1) (fun _ S => .ok [] S) (fun _ S => .ok [] S)) (fCons (fMeth (callSub S_Web_pegs) (fun ds es => pick [(0, 0)] ds es []) "Web" "pegs" 1 0 1 (fVar 1) (fun _ S => .ok [] S) (fun _ S => .ok [] S)) (fun _ S => .ok [] S))))) gNil) (gRet (fIf (toB (fBin gEq (fCall (callSub S_p_law_classes) (fun ds es => pick [(0, 0)] ds es []) 1 0 1 (fCons (fVar 2) (fun _ S => .ok [] S)) (fun _ S => .ok [] S)) (fC (.str "BadText")))) (fFldX ["BadText"] "row" (fVar 2)) (fC (.str "another")))))))
noncomputable def S_p_law_said : Sem' := semOf 4 m_p_law_said
/-! ### _law_number -/
abbrev N_p_law_number : List Str := ["_law_word", "_law_figures", "_law_sign_here"]
noncomputable def m_p_law_number : FS := (gSeq (gSet 1 (fSlS (fVar 0) (fPart (fCB gIntB (fCons (fBin gEq (fSlS (fVar 0) fPartN (fPart (fC (.int 1)))) (fC (.str "-"))) (fun _ S => .ok [] S)))) fPartN)) (gSeq (gIf (fOrT (toB (fBin gEq (fVar 1) (fC (.str "")))) (fOrT (toB (fBin gGt (fCB gLen (fCons (fVar 1) (fun _ S => .ok [] S))) (fC (.int 10)))) (toB (fBin gNe (fComp (fSigns (fVar 1)) (mName 2) (toB (fBin (gInC true) (fVar 2) (fC (.str "0123456789")))) (fVar 2) ([("_law_sign_here", 2)].map (·.2)) finL) (fLst (fun _ S => .ok [] S)))))) (gRet (fC .non)) gNil) (gSeq (gIf (fOrT (fAndT (toB (fBin gEq (fBin gIx (fVar 1) (fC (.int 0))) (fC (.str "0")))) (toB (fBin gNe (fVar 0) (fC (.str "0"))))) (toB (fBin gGt (fCB gIntS (fCons (fVar 1) (fun _ S => .ok [] S))) (fBin gPow (fC (.int 10)) (fC (.int 9)))))) (gRet (fC .non)) gNil) (gRet (fCB gIntS (fCons (fVar 0) (fun _ S => .ok [] S)))))))
noncomputable def S_p_law_number : Sem' := semOf 3 m_p_law_number
/-! ### _law_word_value -/
abbrev N_p_law_word_value : List Str := ["_law_word", "_law_number_here"]
noncomputable def m_p_law_word_value : FS := (gSeq (gIf (toB (fBin gEq (fVar 0) (fC (.str "-")))) (gRet (fLst (fCons (fC .non) (fun _ S => .ok [] S)))) gNil) (gSeq (gSet 1 (fCall (callSub S_p_law_number) (fun ds es => pick [(0, 0)] ds es []) 1 0 1 (fCons (fIf (toB (fBin gEq (fBin gIx (fVar 0) (fC (.int 0))) (fC (.str "@")))) (fSlS (fVar 0) (fPart (fC (.int 1))) fPartN) (fVar 0)) (fun _ S => .ok [] S)) (fun _ S => .ok [] S))) (gSeq (gIf (fOrT (toB (fBin gIs (fVar 1) (fC .non))) (fAndT (toB (fBin gEq (fBin gIx (fVar 0) (fC (.int 0))) (fC (.str "@")))) (toB (fBin gEq (fBin gIx (fVar 0) (fC (.int 1))) (fC (.str "-")))))) (gRet (fLst (fun _ S => .ok [] S))) gNil) (gRet (fLst (fCons (fIf (toB (fBin gEq (fBin gIx (fVar 0) (fC (.int 0))) (fC (.str "@")))) (fTup (fCons (fC (.str "at")) (fCons (fVar 1) (fun _ S => .ok [] S)))) (fVar 1)) (fun _ S => .ok [] S)))))))
noncomputable def S_p_law_word_value : Sem' := semOf 2 m_p_law_word_value
/-! ### _law_row -/
abbrev N_p_law_row : List Str := ["_law_words", "_law_told", "_law_values", "_law_word", "_law_one"]
noncomputable def m_p_law_row : FS := (gSeq (gSet 1 (fComp (fSeq (fSl (fVar 0) (fPart (fC (.int 1))) fPartN)) (mName 3) fYes (fCall (callSub S_p_law_word_value) (fun ds es => pick [(0, 0)] ds es []) 1 0 1 (fCons (fVar 3) (fun _ S => .ok [] S)) (fun _ S => .ok [] S)) ([("_law_word", 3)].map (·.2)) finL)) (gSeq (gIf (fOrT (toB (fBin gNotIn (fBin gIx (fVar 0) (fC (.int 0))) (fTup (fCons (fC (.str "cell")) (fCons (fC (.str "last")) (fCons (fC (.str "tie")) (fCons (fC (.str "pegs")) (fun _ S => .ok [] S)))))))) (toB (fBin gInP (fLst (fun _ S => .ok [] S)) (fVar 1)))) (gRet (fC .non)) gNil) (gSeq (gSet 2 (fComp (fSeq (fVar 1)) (mName 4) fYes (fBin gIx (fVar 4) (fC (.int 0))) ([("_law_one", 4)].map (·.2)) finL)) (gSeq (gIf (fAndT (toB (fBin gIn (fBin gIx (fVar 0) (fC (.int 0))) (fTup (fCons (fC (.str "cell")) (fCons (fC (.str "last")) (fun _ S => .ok [] S)))))) (toB (fBin gGt (fCB gLen (fCons (fVar 2) (fun _ S => .ok [] S))) (fC (.int 6))))) (gRet (fC .non)) gNil) (gSeq (gIf (fAndT (toB (fBin gEq (fBin gIx (fVar 0) (fC (.int 0))) (fC (.str "tie")))) (fOrT (toB (fBin gNe (fCB gLen (fCons (fVar 2) (fun _ S => .ok [] S))) (fC (.int 1)))) (toB (fCB gIsi (fCons (fBin gIx (fVar 2) (fC (.int 0))) (fCons (fC (.ty "int")) (fun _ S => .ok [] S))))))) (gRet (fC .non)) gNil) (gRet (fTup (fCons (fBin gIx (fVar 0) (fC (.int 0))) (fCons (fVar 2) (fun _ S => .ok [] S))))))))))
noncomputable def S_p_law_row : Sem' := semOf 5 m_p_law_row
/-! ### _law_read -/
abbrev N_p_law_read : List Str := ["_law_text", "_law_rows_here", "_law_told", "_law_at", "_law_row_here", "_law_words", "_law_one", "_law_cells", "_law_sort", "_law_values", "_law_found", "_law_word", "_law_number_here", "_law_there", "_law_value_here"]
noncomputable def m_p_law_read : FS := (gSeq (gSet 1 (fBM "str" gSplit (fVar 0) (fCons (fC (.str "\n")) (fun _ S => .ok [] S)))) (gSeq (gIf (toB (fBin gEq (fBin gIx (fVar 1) (fUn gNeg (fC (.int 1)))) (fC (.str "")))) (gSet 1 (fSl (fVar 1) fPartN (fPart (fUn gNeg (fC (.int 1)))))) gNil) (gSeq (gSet 2 (fLstO (fun _ S => .ok [] S))) (gSeq (gFor (fEnum (fCons (fVar 1) (fun _ S => .ok [] S))) (mTup 2 (mCons (mName 3) (mCons (mName 4) (fun ds ρ _ => match ds with | [] => some ρ | _ => none)))) (gSeq (gSet 5 (fComp (fSeq (fBM "str" gSplit (fVar 4) (fCons (fC (.str " ")) (fun _ S => .ok [] S)))) (mName 11) (toB (fBin gNe (fVar 11) (fC (.str "")))) (fVar 11) ([("_law_word", 11)].map (·.2)) finL)) (gIf (toB (fBin gNe (fVar 5) (fLst (fun _ S => .ok [] S)))) (gSeq (gSet 6 (fCall (callSub S_p_law_row) (fun ds es => pick [(0, 0)] ds es []) 1 0 1 (fCons (fVar 5) (fun _ S => .ok [] S)) (fun _ S => .ok [] S))) (gSeq (gIf (fOrT (toB (fBin gIs (fVar 6) (fC .non))) (toB (fBin gNe (fComp (fSeq (fVar 2)) (mTup 2 (mCons (mName 12) (mCons (mName 13) (fun ds ρ _ => match ds with | [] => some ρ | _ => none)))) (toB (fBin gEq (fBin gIx (fVar 13) (fC (.int 0))) (fC (.str "pegs")))) (fC (.int 1)) ([("_law_number_here", 12), ("_law_there", 13)].map (·.2)) finL) (fLst (fun _ S => .ok [] S))))) (gRet (fVar 3)) gNil) (gExpr (fBM "list" gApp (fVar 2) (fCons (fTup (fCons (fVar 3) (fCons (fVar 6) (fun _ S => .ok [] S)))) (fun _ S => .ok [] S)))))) gNil))) (gSeq (gSet 7 (fComp (fSeq (fVar 2)) (mTup 2 (mCons (mName 3) (mCons (mName 6) (fun ds ρ _ => match ds with | [] => some ρ | _ => none)))) (toB (fBin gNe (fBin gIx (fVar 6) (fC (.int 0))) (fC (.str "pegs")))) (fVar 6) ([("_law_at", 3), ("_law_one", 6)].map (·.2)) finL)) (gSeq (gFor (fSeq (fVar 2)) (mTup 2 (mCons (mName 3) (mCons (mTup 2 (mCons (mName 8) (mCons (mName 9) (fun ds ρ _ => match ds with | [] => some ρ | _ => none)))) (fun ds ρ _ => match ds with | [] => some ρ | _ => none)))) (gIf (toB (fBin gNe (fComp (fSeq (fVar 9)) (mName 14) (fAndT (toB (fCB gIsi (fCons (fVar 14) (fCons (fC (.ty "tuple")) (fun _ S => .ok [] S))))) (toB (fBin gGe (fBin gIx (fVar 14) (fC (.int 1))) (fCB gLen (fCons (fVar 7) (fun _ S => .ok [] S)))))) (fVar 14) ([("_law_value_here", 14)].map (·.2)) finL) (fLst (fun _ S => .ok [] S)))) (gRet (fVar 3)) gNil)) (gSeq (gIf (fOrT (toB (fBin gEq (fVar 2) (fLst (fun _ S => .ok [] S)))) (toB (fBin gNe (fBin gIx (fBin gIx (fBin gIx (fVar 2) (fUn gNeg (fC (.int 1)))) (fC (.int 1))) (fC (.int 0))) (fC (.str "pegs"))))) (gRet (fCB gLen (fCons (fVar 1) (fun _ S => .ok [] S)))) gNil) (gSeq (gSet 10 (fLstO (fun _ S => .ok [] S))) (gSeq (gFor (fSeq (fVar 7)) (mTup 2 (mCons (mName 8) (mCons (mName 9) (fun ds ρ _ => match ds with | [] => some ρ | _ => none)))) (gIf (toB (fBin gEq (fVar 8) (fC (.str "tie")))) (gExpr (fBM "list" gApp (fVar 10) (fCons (fTup (fCons (fVar 8) (fCons (fIf (toB (fBin gIs (fBin gIx (fVar 9) (fC (.int 0))) (fC .non))) (fC .non) (fBin gIx (fBin gIx (fVar 9) (fC (.int 0))) (fC (.int 1)))) (fun _ S => .ok [] S)))) (fun _ S => .ok [] S)))) (gExpr (fBM "list" gApp (fVar 10) (fCons (fTup (fCons (fVar 8) (fCons (fCB gTuple (fCons (fVar 9) (fun _ S => .ok [] S))) (fun _ S => .ok [] S)))) (fun _ S => .ok [] S)))))) (gRet (fTup (fCons (fFrz (fVar 10)) (fCons (fBin gIx (fBin gIx (fBin gIx (fVar 2) (fUn gNeg (fC (.int 1)))) (fC (.int 1))) (fC (.int 1))) (fun _ S => .ok [] S))))))))))))))
noncomputable def S_p_law_read : Sem' := semOf 15 m_p_law_read
/-! ### _law_odd -/
abbrev N_p_law_odd : List Str := ["_law_state_here", "_law_some"]
noncomputable def m_p_law_odd : FS := (gSeq (gSet 1 (fLst (fCons (fC (.bl true)) (fCons (fC (.bl false)) (fCons (fC .non) (fCons (fC (.str "1")) (fCons (fC (.str "")) (fCons (fTup (fCons (fC (.int 1)) (fun _ S => .ok [] S))) (fCons (fLst (fCons (fC (.int 0)) (fun _ S => .ok [] S))) (fCons fDictE (fCons (fTup (fCons (fC (.str "at")) (fCons (fC (.int 0)) (fun _ S => .ok [] S)))) (fCons (fBin gAdd (fBin gPow (fC (.int 10)) (fC (.int 12))) (fCall (callSub S_p_law_next) (fun ds es => pick [(0, 0), (0, 1)] ds es []) 2 0 2 (fCons (fVar 0) (fCons (fBin gPow (fC (.int 10)) (fC (.int 9))) (fun _ S => .ok [] S))) (fun _ S => .ok [] S))) (fCons (fUn gNeg (fC (.int 7))) (fCons (fC (.str "tie")) (fun _ S => .ok [] S))))))))))))))) (gRet (fBin gIx (fVar 1) (fCall (callSub S_p_law_next) (fun ds es => pick [(0, 0), (0, 1)] ds es []) 2 0 2 (fCons (fVar 0) (fCons (fC (.int 12)) (fun _ S => .ok [] S))) (fun _ S => .ok [] S)))))
noncomputable def S_p_law_odd : Sem' := semOf 2 m_p_law_odd
/-! ### law -/
abbrev N_law : List Str := ["_law_script", "_law_k", "_law_state_here", "_law_rows_here", "_law_ends", "_law_text", "_law_cells", "_law_pegs", "_law_other", "_law_turn", "_law_thing", "_law_due", "_law_j"]
noncomputable def m_law : FS := (gSeq (gFor (fRng1 (fCons (fCB gMax (fCons (fC (.int 1)) (fCons (fCB gLen (fCons (fVar 0) (fun _ S => .ok [] S))) (fun _ S => .ok [] S)))) (fun _ S => .ok [] S))) (mName 1) (gSeq (gSet 2 (fCall S_p_law_state (fun ds es => pick [(0, 0), (0, 1)] ds es []) 2 0 2 (fCons (fVar 0) (fCons (fVar 1) (fun _ S => .ok [] S))) (fun _ S => .ok [] S))) (gSeq (gSet 3 (fComp (fRng1 (fCons (fCall (callSub S_p_law_next) (fun ds es => pick [(0, 0), (0, 1)] ds es []) 2 0 2 (fCons (fVar 2) (fCons (fC (.int 8)) (fun _ S => .ok [] S))) (fun _ S => .ok [] S)) (fun _ S => .ok [] S))) (mName 12) fYes (fCall (callSub S_p_law_piece) (fun ds es => pick [(0, 0)] ds es []) 1 0 1 (fCons (fVar 2) (fun _ S => .ok [] S)) (fun _ S => .ok [] S)) ([("_law_j", 12)].map (·.2)) finL)) (gSeq (gSet 4 (fBin gIx (fLst (fCons (fLst (fun _ S => .ok [] S)) (fCons (fLst (fCons (fC (.str "pegs @0")) (fun _ S => .ok [] S))) (fCons (fLst (fCons (fC (.str "pegs")) (fun _ S => .ok [] S))) (fCons (fLst (fCons (fC (.str "pegs @1 @0")) (fCons (fC (.str "")) (fun _ S => .ok [] S)))) (fun _ S => .ok [] S)))))) (fCall (callSub S_p_law_next) (fun ds es => pick [(0, 0), (0, 1)] ds es []) 2 0 2 (fCons (fVar 2) (fCons (fC (.int 4)) (fun _ S => .ok [] S))) (fun _ S => .ok [] S)))) (gSeq (gSet 5 (fBin gAdd (fBM "str" gJoin (fC (.str "\n")) (fCons (fBin gAdd (fVar 3) (fVar 4)) (fun _ S => .ok [] S))) (fBin gIx (fLst (fCons (fC (.str "\n")) (fCons (fC (.str "")) (fCons (fC (.str "\n \n")) (fCons (fC (.str "\ncell")) (fun _ S => .ok [] S)))))) (fCall (callSub S_p_law_next) (fun ds es => pick [(0, 0), (0, 1)] ds es []) 2 0 2 (fCons (fVar 2) (fCons (fC (.int 4)) (fun _ S => .ok [] S))) (fun _ S => .ok [] S))))) (gSeq (gAsg (mTup 2 (mCons (mName 6) (mCons (mName 7) (fun ds ρ _ => match ds with | [] => some ρ | _ => none)))) (fCall (callSub S_p_law_web) (fun ds es => pick [(0, 0), (0, 1)] ds es []) 2 0 2 (fCons (fVar 2) (fCons (fC (.int 5)) (fun _ S => .ok [] S))) (fun _ S => .ok [] S))) (gSeq (gSet 8 (fBin gAdd (fBM "str" gJoin (fC (.str "\n")) (fCons (fCall (callSub S_p_law_rows) (fun ds es => pick [(0, 0), (0, 1)] ds es []) 2 0 2 (fCons (fVar 6) (fCons (fVar 7) (fun _ S => .ok [] S))) (fun _ S => .ok [] S)) (fun _ S => .ok [] S))) (fC (.str "\n")))) (gSeq (gFor (fRng1 (fCons (fBin gAdd (fC (.int 1)) (fCall (callSub S_p_law_next) (fun ds es => pick [(0, 0), (0, 1)] ds es []) 2 0 2 (fCons (fVar 2) (fCons (fC (.int 3)) (fun _ S => .ok [] S))) (fun _ S => .ok [] S))) (fun _ S => .ok [] S))) (mName 9) (gSet 8 (fCall (callSub S_p_law_spoilt) (fun ds es => pick [(0, 0), (0, 1)] ds es []) 2 0 2 (fCons (fVar 2) (fCons (fVar 8) (fun _ S => .ok [] S))) (fun _ S => .ok [] S)))) (gSeq (gIf (toB (fBin gNe (fCB gRepr (fCons (fLst (fCons (fCall (callSub S_p_law_said) (fun ds es => pick [(0, 0)] ds es []) 1 0 1 (fCons (fVar 5) (fun _ S => .ok [] S)) (fun _ S => .ok [] S)) (fCons (fCall (callSub S_p_law_said) (fun ds es => pick [(0, 0)] ds es []) 1 0 1 (fCons (fVar 8) (fun _ S => .ok [] S)) (fun _ S => .ok [] S)) (fun _ S => .ok [] S)))) (fun _ S => .ok [] S))) (fCB gRepr (fCons (fLst (fCons (fCall (callSub S_p_law_read) (fun ds es => pick [(0, 0)] ds es []) 1 0 1 (fCons (fVar 5) (fun _ S => .ok [] S)) (fun _ S => .ok [] S)) (fCons (fCall (callSub S_p_law_read) (fun ds es => pick [(0, 0)] ds es []) 1 0 1 (fCons (fVar 8) (fun _ S => .ok [] S)) (fun _ S => .ok [] S)) (fun _ S => .ok [] S)))) (fun _ S => .ok [] S))))) (gRet (fC (.bl false))) gNil) (gSeq (gSet 10 (fBin gIx (fLst (fCons (fCall (callSub S_p_law_odd) (fun ds es => pick [(0, 0)] ds es []) 1 0 1 (fCons (fVar 2) (fun _ S => .ok [] S)) (fun _ S => .ok [] S)) (fCons (fLst (fCons (fVar 5) (fun _ S => .ok [] S))) (fCons (fTup (fCons (fVar 5) (fun _ S => .ok [] S))) (fCons (fDisp (fPs (fVar 5) (fC (.int 1)) fPs0)) (fun _ S => .ok [] S)))))) (fCall (callSub S_p_law_next) (fun ds es => pick [(0, 0), (0, 1)] ds es []) 2 0 2 (fCons (fVar 2) (fCons (fC (.int 4)) (fun _ S => .ok [] S))) (fun _ S => .ok [] S)))) (gSeq (gSet 11 (fIf (toB (fCB gIsi (fCons (fVar 10) (fCons (fC (.ty "str")) (fun _ S => .ok [] S))))) (fCall (callSub S_p_law_read) (fun ds es => pick [(0, 0)] ds es []) 1 0 1 (fCons (fVar 10) (fun _ S => .ok [] S)) (fun _ S => .ok [] S)) (fC (.int 0)))) (gIf (toB (fBin gNe (fCB gRepr (fCons (fCall (callSub S_p_law_said) (fun ds es => pick [(0, 0)] ds es []) 1 0 1 (fCons (fVar 10) (fun _ S => .ok [] S)) (fun _ S => .ok [] S)) (fun _ S => .ok [] S))) (fCB gRepr (fCons (fVar 11) (fun _ S => .ok [] S))))) (gRet (fC (.bl false))) gNil)))))))))))) (gRet (fC (.bl true))))
noncomputable def S_law : Sem' := semOf 13 m_law
structure Txt (K : PySem.W.Frag) (mg : Str → Option Value) : Prop where
  says : He.SaysD fa fn K
  glo : ∀ {x : Str}, (He.Fa.glo x).ok K = true → mg x = some (.ref (He.ga K x))
  free : ∀ {x : Str}, (He.Fa.free x).ok K = true → mg x = none
  int : ∀ {x : Str} {i : Int}, (He.Fa.int x i).ok K = true → ∃ t, mg x = some (.int i t)
  str : ∀ {x z : Str}, (He.Fa.str x z).ok K = true → ∃ t, mg x = some (.str z t)
  ex : exB K = true
section
variable {K : PySem.W.Frag} {mg : Str → Option Value}
theorem txt_of {h : Heap} (X : K.In h) (G : h.Ns mainGlobals mg) (c : He.SaysD fa fn K) (cx : exB K = true) : Txt K mg := ⟨c, fun q => He.glo_ok X G q, fun q => He.free_ok X G q, fun q => He.int_ok X G q, fun q => He.str_ok X G q, cx⟩
theorem glo_p_law_state (T : Txt K mg) : mg "_law_state" = some (.ref (He.fAd K d_p_law_state.at_)) := T.glo (T.says.fact 0 (f := .glo "_law_state") rfl)
theorem glo_p_law_next (T : Txt K mg) : mg "_law_next" = some (.ref (He.fAd K d_p_law_next.at_)) := T.glo (T.says.fact 1 (f := .glo "_law_next") rfl)
theorem glo_p_law_piece (T : Txt K mg) : mg "_law_piece" = some (.ref (He.fAd K d_p_law_piece.at_)) := T.glo (T.says.fact 2 (f := .glo "_law_piece") rfl)
theorem glo_p_law_value (T : Txt K mg) : mg "_law_value" = some (.ref (He.fAd K d_p_law_value.at_)) := T.glo (T.says.fact 3 (f := .glo "_law_value") rfl)
theorem glo_p_law_cell (T : Txt K mg) : mg "_law_cell" = some (.ref (He.fAd K d_p_law_cell.at_)) := T.glo (T.says.fact 4 (f := .glo "_law_cell") rfl)
theorem glo_p_law_web (T : Txt K mg) : mg "_law_web" = some (.ref (He.fAd K d_p_law_web.at_)) := T.glo (T.says.fact 5 (f := .glo "_law_web") rfl)
theorem glo_p_law_value_text (T : Txt K mg) : mg "_law_value_text" = some (.ref (He.fAd K d_p_law_value_text.at_)) := T.glo (T.says.fact 6 (f := .glo "_law_value_text") rfl)
theorem glo_p_law_rows (T : Txt K mg) : mg "_law_rows" = some (.ref (He.fAd K d_p_law_rows.at_)) := T.glo (T.says.fact 7 (f := .glo "_law_rows") rfl)
theorem glo_p_law_sign (T : Txt K mg) : mg "_law_sign" = some (.ref (He.fAd K d_p_law_sign.at_)) := T.glo (T.says.fact 8 (f := .glo "_law_sign") rfl)
theorem glo_p_law_spoilt (T : Txt K mg) : mg "_law_spoilt" = some (.ref (He.fAd K d_p_law_spoilt.at_)) := T.glo (T.says.fact 9 (f := .glo "_law_spoilt") rfl)
theorem glo_rows_of (T : Txt K mg) : mg "rows_of" = some (.ref (He.fAd K d_rows_of.at_)) := T.glo (T.says.fact 10 (f := .glo "rows_of") rfl)
theorem glo_is_whole (T : Txt K mg) : mg "is_whole" = some (.ref (He.fAd K d_is_whole.at_)) := T.glo (T.says.fact 11 (f := .glo "is_whole") rfl)
theorem glo_is_number (T : Txt K mg) : mg "is_number" = some (.ref (He.fAd K d_is_number.at_)) := T.glo (T.says.fact 12 (f := .glo "is_number") rfl)
theorem glo_number_in (T : Txt K mg) : mg "number_in" = some (.ref (He.fAd K d_number_in.at_)) := T.glo (T.says.fact 13 (f := .glo "number_in") rfl)
theorem glo_values_told (T : Txt K mg) : mg "values_told" = some (.ref (He.fAd K d_values_told.at_)) := T.glo (T.says.fact 14 (f := .glo "values_told") rfl)
theorem glo_told_row (T : Txt K mg) : mg "told_row" = some (.ref (He.fAd K d_told_row.at_)) := T.glo (T.says.fact 15 (f := .glo "told_row") rfl)
theorem glo_told_rows (T : Txt K mg) : mg "told_rows" = some (.ref (He.fAd K d_told_rows.at_)) := T.glo (T.says.fact 16 (f := .glo "told_rows") rfl)
theorem glo_led_to (T : Txt K mg) : mg "led_to" = some (.ref (He.fAd K d_led_to.at_)) := T.glo (T.says.fact 17 (f := .glo "led_to") rfl)
theorem glo_is_row (T : Txt K mg) : mg "is_row" = some (.ref (He.fAd K d_is_row.at_)) := T.glo (T.says.fact 18 (f := .glo "is_row") rfl)
theorem glo_is_at (T : Txt K mg) : mg "is_at" = some (.ref (He.fAd K d_is_at.at_)) := T.glo (T.says.fact 19 (f := .glo "is_at") rfl)
theorem glo_is_value (T : Txt K mg) : mg "is_value" = some (.ref (He.fAd K d_is_value.at_)) := T.glo (T.says.fact 20 (f := .glo "is_value") rfl)
theorem glo_is_cell (T : Txt K mg) : mg "is_cell" = some (.ref (He.fAd K d_is_cell.at_)) := T.glo (T.says.fact 21 (f := .glo "is_cell") rfl)
theorem glo_is_web (T : Txt K mg) : mg "is_web" = some (.ref (He.fAd K d_is_web.at_)) := T.glo (T.says.fact 22 (f := .glo "is_web") rfl)
theorem glo_read_web (T : Txt K mg) : mg "read_web" = some (.ref (He.fAd K d_read_web.at_)) := T.glo (T.says.fact 23 (f := .glo "read_web") rfl)
theorem glo_p_law_classes (T : Txt K mg) : mg "_law_classes" = some (.ref (He.fAd K d_p_law_classes.at_)) := T.glo (T.says.fact 24 (f := .glo "_law_classes") rfl)
theorem glo_p_law_said (T : Txt K mg) : mg "_law_said" = some (.ref (He.fAd K d_p_law_said.at_)) := T.glo (T.says.fact 25 (f := .glo "_law_said") rfl)
theorem glo_p_law_number (T : Txt K mg) : mg "_law_number" = some (.ref (He.fAd K d_p_law_number.at_)) := T.glo (T.says.fact 26 (f := .glo "_law_number") rfl)
theorem glo_p_law_word_value (T : Txt K mg) : mg "_law_word_value" = some (.ref (He.fAd K d_p_law_word_value.at_)) := T.glo (T.says.fact 27 (f := .glo "_law_word_value") rfl)
theorem glo_p_law_row (T : Txt K mg) : mg "_law_row" = some (.ref (He.fAd K d_p_law_row.at_)) := T.glo (T.says.fact 28 (f := .glo "_law_row") rfl)
theorem glo_p_law_read (T : Txt K mg) : mg "_law_read" = some (.ref (He.fAd K d_p_law_read.at_)) := T.glo (T.says.fact 29 (f := .glo "_law_read") rfl)
theorem glo_p_law_odd (T : Txt K mg) : mg "_law_odd" = some (.ref (He.fAd K d_p_law_odd.at_)) := T.glo (T.says.fact 30 (f := .glo "_law_odd") rfl)
theorem glo_law (T : Txt K mg) : mg "law" = some (.ref (He.fAd K d_law.at_)) := T.glo (T.says.fact 31 (f := .glo "law") rfl)
theorem free_ValueError (T : Txt K mg) : mg "ValueError" = none := T.free (T.says.fact 32 (f := .free "ValueError") rfl)
theorem free_abs (T : Txt K mg) : mg "abs" = none := T.free (T.says.fact 33 (f := .free "abs") rfl)
theorem free_all (T : Txt K mg) : mg "all" = none := T.free (T.says.fact 34 (f := .free "all") rfl)
theorem free_any (T : Txt K mg) : mg "any" = none := T.free (T.says.fact 35 (f := .free "any") rfl)
theorem free_bool (T : Txt K mg) : mg "bool" = none := T.free (T.says.fact 36 (f := .free "bool") rfl)
theorem free_enumerate (T : Txt K mg) : mg "enumerate" = none := T.free (T.says.fact 37 (f := .free "enumerate") rfl)
theorem free_int (T : Txt K mg) : mg "int" = none := T.free (T.says.fact 38 (f := .free "int") rfl)
theorem free_isinstance (T : Txt K mg) : mg "isinstance" = none := T.free (T.says.fact 39 (f := .free "isinstance") rfl)
theorem free_len (T : Txt K mg) : mg "len" = none := T.free (T.says.fact 40 (f := .free "len") rfl)
theorem free_list (T : Txt K mg) : mg "list" = none := T.free (T.says.fact 41 (f := .free "list") rfl)
theorem free_max (T : Txt K mg) : mg "max" = none := T.free (T.says.fact 42 (f := .free "max") rfl)
theorem free_range (T : Txt K mg) : mg "range" = none := T.free (T.says.fact 43 (f := .free "range") rfl)
theorem free_repr (T : Txt K mg) : mg "repr" = none := T.free (T.says.fact 44 (f := .free "repr") rfl)
theorem free_str (T : Txt K mg) : mg "str" = none := T.free (T.says.fact 45 (f := .free "str") rfl)
theorem free_tuple (T : Txt K mg) : mg "tuple" = none := T.free (T.says.fact 46 (f := .free "tuple") rfl)
theorem int_GREATEST (T : Txt K mg) : ∃ t, mg "GREATEST" = some (.int (1000000000) t) := T.int (T.says.fact 47 (f := .int "GREATEST" (1000000000)) rfl)
theorem int_MOST_FIELDS (T : Txt K mg) : ∃ t, mg "MOST_FIELDS" = some (.int (6) t) := T.int (T.says.fact 48 (f := .int "MOST_FIELDS" (6)) rfl)
theorem int_MOST_SIGNS (T : Txt K mg) : ∃ t, mg "MOST_SIGNS" = some (.int (11) t) := T.int (T.says.fact 49 (f := .int "MOST_SIGNS" (11)) rfl)
theorem str_FIGURES (T : Txt K mg) : ∃ t, mg "FIGURES" = some (.str "0123456789" t) := T.str (T.says.fact 50 (f := .str "FIGURES" "0123456789") rfl)
theorem gloc_BadGround (T : Txt K mg) : mg "BadGround" = some (.ref (He.ga K "BadGround")) := T.glo (T.says.fact 51 (f := .glo "BadGround") rfl)
theorem gloc_BadName (T : Txt K mg) : mg "BadName" = some (.ref (He.ga K "BadName")) := T.glo (T.says.fact 52 (f := .glo "BadName") rfl)
theorem gloc_BadNumber (T : Txt K mg) : mg "BadNumber" = some (.ref (He.ga K "BadNumber")) := T.glo (T.says.fact 53 (f := .glo "BadNumber") rfl)
theorem gloc_BadPicture (T : Txt K mg) : mg "BadPicture" = some (.ref (He.ga K "BadPicture")) := T.glo (T.says.fact 54 (f := .glo "BadPicture") rfl)
theorem gloc_BadProgram (T : Txt K mg) : mg "BadProgram" = some (.ref (He.ga K "BadProgram")) := T.glo (T.says.fact 55 (f := .glo "BadProgram") rfl)
theorem gloc_BadText (T : Txt K mg) : mg "BadText" = some (.ref (He.ga K "BadText")) := T.glo (T.says.fact 56 (f := .glo "BadText") rfl)
theorem gloc_BadWeaving (T : Txt K mg) : mg "BadWeaving" = some (.ref (He.ga K "BadWeaving")) := T.glo (T.says.fact 57 (f := .glo "BadWeaving") rfl)
theorem gloc_BadWeb (T : Txt K mg) : mg "BadWeb" = some (.ref (He.ga K "BadWeb")) := T.glo (T.says.fact 58 (f := .glo "BadWeb") rfl)
theorem gloc_NoCell (T : Txt K mg) : mg "NoCell" = some (.ref (He.ga K "NoCell")) := T.glo (T.says.fact 59 (f := .glo "NoCell") rfl)
theorem gloc_NoDeed (T : Txt K mg) : mg "NoDeed" = some (.ref (He.ga K "NoDeed")) := T.glo (T.says.fact 60 (f := .glo "NoDeed") rfl)
theorem gloc_NoField (T : Txt K mg) : mg "NoField" = some (.ref (He.ga K "NoField")) := T.glo (T.says.fact 61 (f := .glo "NoField") rfl)
theorem gloc_NoHand (T : Txt K mg) : mg "NoHand" = some (.ref (He.ga K "NoHand")) := T.glo (T.says.fact 62 (f := .glo "NoHand") rfl)
theorem gloc_NoName (T : Txt K mg) : mg "NoName" = some (.ref (He.ga K "NoName")) := T.glo (T.says.fact 63 (f := .glo "NoName") rfl)
theorem gloc_NoPeg (T : Txt K mg) : mg "NoPeg" = some (.ref (He.ga K "NoPeg")) := T.glo (T.says.fact 64 (f := .glo "NoPeg") rfl)
theorem gloc_NoRoom (T : Txt K mg) : mg "NoRoom" = some (.ref (He.ga K "NoRoom")) := T.glo (T.says.fact 65 (f := .glo "NoRoom") rfl)
theorem gloc_NoTurn (T : Txt K mg) : mg "NoTurn" = some (.ref (He.ga K "NoTurn")) := T.glo (T.says.fact 66 (f := .glo "NoTurn") rfl)
theorem gloc_TooMany (T : Txt K mg) : mg "TooMany" = some (.ref (He.ga K "TooMany")) := T.glo (T.says.fact 67 (f := .glo "TooMany") rfl)
theorem gloc_Unlawful (T : Txt K mg) : mg "Unlawful" = some (.ref (He.ga K "Unlawful")) := T.glo (T.says.fact 68 (f := .glo "Unlawful") rfl)
theorem gloc_YardError (T : Txt K mg) : mg "YardError" = some (.ref (He.ga K "YardError")) := T.glo (T.says.fact 69 (f := .glo "YardError") rfl)
theorem gloc_Web (T : Txt K mg) : mg "Web" = some (.ref (He.ga K "Web")) := T.glo (T.says.fact 70 (f := .glo "Web") rfl)
theorem cls_Web (T : Txt K mg) : Cls K (He.ga K "Web") := He.cls_ok (T.says.fact 71 (f := .cls "Web") rfl)
theorem mkr_Web (T : Txt K mg) : Mk K (He.ga K "Web") (He.fAd K d_Web_init.at_) := He.mkr_ok (T.says.fact 72 (f := .mkr "Web") rfl)
theorem meth_Web_cells (T : Txt K mg) : Meth K (He.ga K "Web") "cells" (He.fAd K d_Web_cells.at_) := He.meth_ok (T.says.fact 73 (f := .meth "Web" "cells") rfl)
theorem meth_Web_pegs (T : Txt K mg) : Meth K (He.ga K "Web") "pegs" (He.fAd K d_Web_pegs.at_) := He.meth_ok (T.says.fact 74 (f := .meth "Web" "pegs") rfl)
theorem noat_Web_all_cells (T : Txt K mg) : NoAttr K (He.ga K "Web") "all_cells" := He.noat_ok (T.says.fact 75 (f := .noat "Web" "all_cells") rfl)
theorem noat_Web_all_pegs (T : Txt K mg) : NoAttr K (He.ga K "Web") "all_pegs" := He.noat_ok (T.says.fact 76 (f := .noat "Web" "all_pegs") rfl)
theorem raic_BadWeb (T : Txt K mg) : RaiC K (He.ga K "BadWeb") := raiB_ok (He.ba T.ex).1
theorem xic_BadText (T : Txt K mg) : XiC K (He.ga K "BadText") (He.ga K "YardError") (He.fAd K d_BadText_init.at_) ["row"] := xiB_ok (He.ba (He.ba T.ex).2).1
theorem isec_BadText (T : Txt K mg) : L2.ExcC K (He.ga K "BadText") := iseB_ok (He.ba (He.ba (He.ba T.ex).2).2).1
theorem isec_BadWeb (T : Txt K mg) : L2.ExcC K (He.ga K "BadWeb") := iseB_ok (He.ba (He.ba (He.ba (He.ba T.ex).2).2).2).1
theorem exm0_YardError (T : Txt K mg) : exmT K (.ref (He.ga K "YardError")) tb_YardError = true := id (He.ba (He.ba (He.ba (He.ba (He.ba T.ex).2).2).2).2).1
theorem kit0_BadGround (T : Txt K mg) : kitT K (.ref (He.ga K "BadGround")) tb_BadGround = true := id (He.ba (He.ba (He.ba (He.ba (He.ba (He.ba T.ex).2).2).2).2).2).1
theorem kit0_BadName (T : Txt K mg) : kitT K (.ref (He.ga K "BadName")) tb_BadName = true := id (He.ba (He.ba (He.ba (He.ba (He.ba (He.ba (He.ba T.ex).2).2).2).2).2).2).1
theorem kit0_BadNumber (T : Txt K mg) : kitT K (.ref (He.ga K "BadNumber")) tb_BadNumber = true := id (He.ba (He.ba (He.ba (He.ba (He.ba (He.ba (He.ba (He.ba T.ex).2).2).2).2).2).2).2).1
theorem kit0_BadPicture (T : Txt K mg) : kitT K (.ref (He.ga K "BadPicture")) tb_BadPicture = true := id (He.ba (He.ba (He.ba (He.ba (He.ba (He.ba (He.ba (He.ba (He.ba T.ex).2).2).2).2).2).2).2).2).1
theorem kit0_BadProgram (T : Txt K mg) : kitT K (.ref (He.ga K "BadProgram")) tb_BadProgram = true := id (He.ba (He.ba (He.ba (He.ba (He.ba (He.ba (He.ba (He.ba (He.ba (He.ba T.ex).2).2).2).2).2).2).2).2).2).1
theorem kit0_BadText (T : Txt K mg) : kitT K (.ref (He.ga K "BadText")) tb_BadText = true := id (He.ba (He.ba (He.ba (He.ba (He.ba (He.ba (He.ba (He.ba (He.ba (He.ba (He.ba T.ex).2).2).2).2).2).2).2).2).2).2).1
theorem kit0_BadWeaving (T : Txt K mg) : kitT K (.ref (He.ga K "BadWeaving")) tb_BadWeaving = true := id (He.ba (He.ba (He.ba (He.ba (He.ba (He.ba (He.ba (He.ba (He.ba (He.ba (He.ba (He.ba T.ex).2).2).2).2).2).2).2).2).2).2).2).1
theorem kit0_BadWeb (T : Txt K mg) : kitT K (.ref (He.ga K "BadWeb")) tb_BadWeb = true := id (He.ba (He.ba (He.ba (He.ba (He.ba (He.ba (He.ba (He.ba (He.ba (He.ba (He.ba (He.ba (He.ba T.ex).2).2).2).2).2).2).2).2).2).2).2).2).1
theorem kit0_NoCell (T : Txt K mg) : kitT K (.ref (He.ga K "NoCell")) tb_NoCell = true := id (He.ba (He.ba (He.ba (He.ba (He.ba (He.ba (He.ba (He.ba (He.ba (He.ba (He.ba (He.ba (He.ba (He.ba T.ex).2).2).2).2).2).2).2).2).2).2).2).2).2).1
theorem kit0_NoDeed (T : Txt K mg) : kitT K (.ref (He.ga K "NoDeed")) tb_NoDeed = true := id (He.ba (He.ba (He.ba (He.ba (He.ba (He.ba (He.ba (He.ba (He.ba (He.ba (He.ba (He.ba (He.ba (He.ba (He.ba T.ex).2).2).2).2).2).2).2).2).2).2).2).2).2).2).1
theorem kit0_NoField (T : Txt K mg) : kitT K (.ref (He.ga K "NoField")) tb_NoField = true := id (He.ba (He.ba (He.ba (He.ba (He.ba (He.ba (He.ba (He.ba (He.ba (He.ba (He.ba (He.ba (He.ba (He.ba (He.ba (He.ba T.ex).2).2).2).2).2).2).2).2).2).2).2).2).2).2).2).1
theorem kit0_NoHand (T : Txt K mg) : kitT K (.ref (He.ga K "NoHand")) tb_NoHand = true := id (He.ba (He.ba (He.ba (He.ba (He.ba (He.ba (He.ba (He.ba (He.ba (He.ba (He.ba (He.ba (He.ba (He.ba (He.ba (He.ba (He.ba T.ex).2).2).2).2).2).2).2).2).2).2).2).2).2).2).2).2).1
theorem kit0_NoName (T : Txt K mg) : kitT K (.ref (He.ga K "NoName")) tb_NoName = true := id (He.ba (He.ba (He.ba (He.ba (He.ba (He.ba (He.ba (He.ba (He.ba (He.ba (He.ba (He.ba (He.ba (He.ba (He.ba (He.ba (He.ba (He.ba T.ex).2).2).2).2).2).2).2).2).2).2).2).2).2).2).2).2).2).1
theorem kit0_NoPeg (T : Txt K mg) : kitT K (.ref (He.ga K "NoPeg")) tb_NoPeg = true := id (He.ba (He.ba (He.ba (He.ba (He.ba (He.ba (He.ba (He.ba (He.ba (He.ba (He.ba (He.ba (He.ba (He.ba (He.ba (He.ba (He.ba (He.ba (He.ba T.ex).2).2).2).2).2).2).2).2).2).2).2).2).2).2).2).2).2).2).1
theorem kit0_NoRoom (T : Txt K mg) : kitT K (.ref (He.ga K "NoRoom")) tb_NoRoom = true := id (He.ba (He.ba (He.ba (He.ba (He.ba (He.ba (He.ba (He.ba (He.ba (He.ba (He.ba (He.ba (He.ba (He.ba (He.ba (He.ba (He.ba (He.ba (He.ba (He.ba T.ex).2).2).2).2).2).2).2).2).2).2).2).2).2).2).2).2).2).2).2).1
theorem kit0_NoTurn (T : Txt K mg) : kitT K (.ref (He.ga K "NoTurn")) tb_NoTurn = true := id (He.ba (He.ba (He.ba (He.ba (He.ba (He.ba (He.ba (He.ba (He.ba (He.ba (He.ba (He.ba (He.ba (He.ba (He.ba (He.ba (He.ba (He.ba (He.ba (He.ba (He.ba T.ex).2).2).2).2).2).2).2).2).2).2).2).2).2).2).2).2).2).2).2).2).1
theorem kit0_TooMany (T : Txt K mg) : kitT K (.ref (He.ga K "TooMany")) tb_TooMany = true := id (He.ba (He.ba (He.ba (He.ba (He.ba (He.ba (He.ba (He.ba (He.ba (He.ba (He.ba (He.ba (He.ba (He.ba (He.ba (He.ba (He.ba (He.ba (He.ba (He.ba (He.ba (He.ba T.ex).2).2).2).2).2).2).2).2).2).2).2).2).2).2).2).2).2).2).2).2).2).1
theorem kit0_Unlawful (T : Txt K mg) : kitT K (.ref (He.ga K "Unlawful")) tb_Unlawful = true := id (He.ba (He.ba (He.ba (He.ba (He.ba (He.ba (He.ba (He.ba (He.ba (He.ba (He.ba (He.ba (He.ba (He.ba (He.ba (He.ba (He.ba (He.ba (He.ba (He.ba (He.ba (He.ba (He.ba T.ex).2).2).2).2).2).2).2).2).2).2).2).2).2).2).2).2).2).2).2).2).2).2).1
theorem kit0_ValueError (T : Txt K mg) : kitT K (.type "ValueError") tb_ValueError = true := id (He.ba (He.ba (He.ba (He.ba (He.ba (He.ba (He.ba (He.ba (He.ba (He.ba (He.ba (He.ba (He.ba (He.ba (He.ba (He.ba (He.ba (He.ba (He.ba (He.ba (He.ba (He.ba (He.ba (He.ba T.ex).2).2).2).2).2).2).2).2).2).2).2).2).2).2).2).2).2).2).2).2).2).2).2).1
theorem exmc_YardError (T : Txt K mg) : ∀ C b A, tb_YardError.lookup C = some b → mg C = some (.ref A) → PySem.W.exmOne K (.ref A) (.ref (He.ga K "YardError")) = some b := exmT_ok (exm0_YardError T) (by intro q hq; simp only [List.mem_cons, List.not_mem_nil, or_false] at hq; rcases hq with rfl | rfl <;> first | exact gloc_BadText T | exact gloc_BadWeb T)
theorem kitc_BadGround (T : Txt K mg) : ∀ C b A, tb_BadGround.lookup C = some b → mg C = some (.ref A) → L2.ExcC K A ∧ PySem.W.kitOne K (.ref A) (.ref (He.ga K "BadGround")) = some b := kitT_ok (kit0_BadGround T) (by intro q hq; simp only [List.mem_cons, List.not_mem_nil, or_false] at hq; rcases hq with rfl | rfl <;> first | exact gloc_BadText T | exact gloc_BadWeb T) (by intro q hq; simp only [List.mem_cons, List.not_mem_nil, or_false] at hq; rcases hq with rfl | rfl <;> first | exact isec_BadText T | exact isec_BadWeb T)
theorem kitc_BadName (T : Txt K mg) : ∀ C b A, tb_BadName.lookup C = some b → mg C = some (.ref A) → L2.ExcC K A ∧ PySem.W.kitOne K (.ref A) (.ref (He.ga K "BadName")) = some b := kitT_ok (kit0_BadName T) (by intro q hq; simp only [List.mem_cons, List.not_mem_nil, or_false] at hq; rcases hq with rfl | rfl <;> first | exact gloc_BadText T | exact gloc_BadWeb T) (by intro q hq; simp only [List.mem_cons, List.not_mem_nil, or_false] at hq; rcases hq with rfl | rfl <;> first | exact isec_BadText T | exact isec_BadWeb T)
theorem kitc_BadNumber (T : Txt K mg) : ∀ C b A, tb_BadNumber.lookup C = some b → mg C = some (.ref A) → L2.ExcC K A ∧ PySem.W.kitOne K (.ref A) (.ref (He.ga K "BadNumber")) = some b := kitT_ok (kit0_BadNumber T) (by intro q hq; simp only [List.mem_cons, List.not_mem_nil, or_false] at hq; rcases hq with rfl | rfl <;> first | exact gloc_BadText T | exact gloc_BadWeb T) (by intro q hq; simp only [List.mem_cons, List.not_mem_nil, or_false] at hq; rcases hq with rfl | rfl <;> first | exact isec_BadText T | exact isec_BadWeb T)
theorem kitc_BadPicture (T : Txt K mg) : ∀ C b A, tb_BadPicture.lookup C = some b → mg C = some (.ref A) → L2.ExcC K A ∧ PySem.W.kitOne K (.ref A) (.ref (He.ga K "BadPicture")) = some b := kitT_ok (kit0_BadPicture T) (by intro q hq; simp only [List.mem_cons, List.not_mem_nil, or_false] at hq; rcases hq with rfl | rfl <;> first | exact gloc_BadText T | exact gloc_BadWeb T) (by intro q hq; simp only [List.mem_cons, List.not_mem_nil, or_false] at hq; rcases hq with rfl | rfl <;> first | exact isec_BadText T | exact isec_BadWeb T)
theorem kitc_BadProgram (T : Txt K mg) : ∀ C b A, tb_BadProgram.lookup C = some b → mg C = some (.ref A) → L2.ExcC K A ∧ PySem.W.kitOne K (.ref A) (.ref (He.ga K "BadProgram")) = some b := kitT_ok (kit0_BadProgram T) (by intro q hq; simp only [List.mem_cons, List.not_mem_nil, or_false] at hq; rcases hq with rfl | rfl <;> first | exact gloc_BadText T | exact gloc_BadWeb T) (by intro q hq; simp only [List.mem_cons, List.not_mem_nil, or_false] at hq; rcases hq with rfl | rfl <;> first | exact isec_BadText T | exact isec_BadWeb T)
theorem kitc_BadText (T : Txt K mg) : ∀ C b A, tb_BadText.lookup C = some b → mg C = some (.ref A) → L2.ExcC K A ∧ PySem.W.kitOne K (.ref A) (.ref (He.ga K "BadText")) = some b := kitT_ok (kit0_BadText T) (by intro q hq; simp only [List.mem_cons, List.not_mem_nil, or_false] at hq; rcases hq with rfl | rfl <;> first | exact gloc_BadText T | exact gloc_BadWeb T) (by intro q hq; simp only [List.mem_cons, List.not_mem_nil, or_false] at hq; rcases hq with rfl | rfl <;> first | exact isec_BadText T | exact isec_BadWeb T)
theorem kitc_BadWeaving (T : Txt K mg) : ∀ C b A, tb_BadWeaving.lookup C = some b → mg C = some (.ref A) → L2.ExcC K A ∧ PySem.W.kitOne K (.ref A) (.ref (He.ga K "BadWeaving")) = some b := kitT_ok (kit0_BadWeaving T) (by intro q hq; simp only [List.mem_cons, List.not_mem_nil, or_false] at hq; rcases hq with rfl | rfl <;> first | exact gloc_BadText T | exact gloc_BadWeb T) (by intro q hq; simp only [List.mem_cons, List.not_mem_nil, or_false] at hq; rcases hq with rfl | rfl <;> first | exact isec_BadText T | exact isec_BadWeb T)
theorem kitc_BadWeb (T : Txt K mg) : ∀ C b A, tb_BadWeb.lookup C = some b → mg C = some (.ref A) → L2.ExcC K A ∧ PySem.W.kitOne K (.ref A) (.ref (He.ga K "BadWeb")) = some b := kitT_ok (kit0_BadWeb T) (by intro q hq; simp only [List.mem_cons, List.not_mem_nil, or_false] at hq; rcases hq with rfl | rfl <;> first | exact gloc_BadText T | exact gloc_BadWeb T) (by intro q hq; simp only [List.mem_cons, List.not_mem_nil, or_false] at hq; rcases hq with rfl | rfl <;> first | exact isec_BadText T | exact isec_BadWeb T)
theorem kitc_NoCell (T : Txt K mg) : ∀ C b A, tb_NoCell.lookup C = some b → mg C = some (.ref A) → L2.ExcC K A ∧ PySem.W.kitOne K (.ref A) (.ref (He.ga K "NoCell")) = some b := kitT_ok (kit0_NoCell T) (by intro q hq; simp only [List.mem_cons, List.not_mem_nil, or_false] at hq; rcases hq with rfl | rfl <;> first | exact gloc_BadText T | exact gloc_BadWeb T) (by intro q hq; simp only [List.mem_cons, List.not_mem_nil, or_false] at hq; rcases hq with rfl | rfl <;> first | exact isec_BadText T | exact isec_BadWeb T)
theorem kitc_NoDeed (T : Txt K mg) : ∀ C b A, tb_NoDeed.lookup C = some b → mg C = some (.ref A) → L2.ExcC K A ∧ PySem.W.kitOne K (.ref A) (.ref (He.ga K "NoDeed")) = some b := kitT_ok (kit0_NoDeed T) (by intro q hq; simp only [List.mem_cons, List.not_mem_nil, or_false] at hq; rcases hq with rfl | rfl <;> first | exact gloc_BadText T | exact gloc_BadWeb T) (by intro q hq; simp only [List.mem_cons, List.not_mem_nil, or_false] at hq; rcases hq with rfl | rfl <;> first | exact isec_BadText T | exact isec_BadWeb T)
theorem kitc_NoField (T : Txt K mg) : ∀ C b A, tb_NoField.lookup C = some b → mg C = some (.ref A) → L2.ExcC K A ∧ PySem.W.kitOne K (.ref A) (.ref (He.ga K "NoField")) = some b := kitT_ok (kit0_NoField T) (by intro q hq; simp only [List.mem_cons, List.not_mem_nil, or_false] at hq; rcases hq with rfl | rfl <;> first | exact gloc_BadText T | exact gloc_BadWeb T) (by intro q hq; simp only [List.mem_cons, List.not_mem_nil, or_false] at hq; rcases hq with rfl | rfl <;> first | exact isec_BadText T | exact isec_BadWeb T)
theorem kitc_NoHand (T : Txt K mg) : ∀ C b A, tb_NoHand.lookup C = some b → mg C = some (.ref A) → L2.ExcC K A ∧ PySem.W.kitOne K (.ref A) (.ref (He.ga K "NoHand")) = some b := kitT_ok (kit0_NoHand T) (by intro q hq; simp only [List.mem_cons, List.not_mem_nil, or_false] at hq; rcases hq with rfl | rfl <;> first | exact gloc_BadText T | exact gloc_BadWeb T) (by intro q hq; simp only [List.mem_cons, List.not_mem_nil, or_false] at hq; rcases hq with rfl | rfl <;> first | exact isec_BadText T | exact isec_BadWeb T)
theorem kitc_NoName (T : Txt K mg) : ∀ C b A, tb_NoName.lookup C = some b → mg C = some (.ref A) → L2.ExcC K A ∧ PySem.W.kitOne K (.ref A) (.ref (He.ga K "NoName")) = some b := kitT_ok (kit0_NoName T) (by intro q hq; simp only [List.mem_cons, List.not_mem_nil, or_false] at hq; rcases hq with rfl | rfl <;> first | exact gloc_BadText T | exact gloc_BadWeb T) (by intro q hq; simp only [List.mem_cons, List.not_mem_nil, or_false] at hq; rcases hq with rfl | rfl <;> first | exact isec_BadText T | exact isec_BadWeb T)
theorem kitc_NoPeg (T : Txt K mg) : ∀ C b A, tb_NoPeg.lookup C = some b → mg C = some (.ref A) → L2.ExcC K A ∧ PySem.W.kitOne K (.ref A) (.ref (He.ga K "NoPeg")) = some b := kitT_ok (kit0_NoPeg T) (by intro q hq; simp only [List.mem_cons, List.not_mem_nil, or_false] at hq; rcases hq with rfl | rfl <;> first | exact gloc_BadText T | exact gloc_BadWeb T) (by intro q hq; simp only [List.mem_cons, List.not_mem_nil, or_false] at hq; rcases hq with rfl | rfl <;> first | exact isec_BadText T | exact isec_BadWeb T)
theorem kitc_NoRoom (T : Txt K mg) : ∀ C b A, tb_NoRoom.lookup C = some b → mg C = some (.ref A) → L2.ExcC K A ∧ PySem.W.kitOne K (.ref A) (.ref (He.ga K "NoRoom")) = some b := kitT_ok (kit0_NoRoom T) (by intro q hq; simp only [List.mem_cons, List.not_mem_nil, or_false] at hq; rcases hq with rfl | rfl <;> first | exact gloc_BadText T | exact gloc_BadWeb T) (by intro q hq; simp only [List.mem_cons, List.not_mem_nil, or_false] at hq; rcases hq with rfl | rfl <;> first | exact isec_BadText T | exact isec_BadWeb T)
theorem kitc_NoTurn (T : Txt K mg) : ∀ C b A, tb_NoTurn.lookup C = some b → mg C = some (.ref A) → L2.ExcC K A ∧ PySem.W.kitOne K (.ref A) (.ref (He.ga K "NoTurn")) = some b := kitT_ok (kit0_NoTurn T) (by intro q hq; simp only [List.mem_cons, List.not_mem_nil, or_false] at hq; rcases hq with rfl | rfl <;> first | exact gloc_BadText T | exact gloc_BadWeb T) (by intro q hq; simp only [List.mem_cons, List.not_mem_nil, or_false] at hq; rcases hq with rfl | rfl <;> first | exact isec_BadText T | exact isec_BadWeb T)
theorem kitc_TooMany (T : Txt K mg) : ∀ C b A, tb_TooMany.lookup C = some b → mg C = some (.ref A) → L2.ExcC K A ∧ PySem.W.kitOne K (.ref A) (.ref (He.ga K "TooMany")) = some b := kitT_ok (kit0_TooMany T) (by intro q hq; simp only [List.mem_cons, List.not_mem_nil, or_false] at hq; rcases hq with rfl | rfl <;> first | exact gloc_BadText T | exact gloc_BadWeb T) (by intro q hq; simp only [List.mem_cons, List.not_mem_nil, or_false] at hq; rcases hq with rfl | rfl <;> first | exact isec_BadText T | exact isec_BadWeb T)
theorem kitc_Unlawful (T : Txt K mg) : ∀ C b A, tb_Unlawful.lookup C = some b → mg C = some (.ref A) → L2.ExcC K A ∧ PySem.W.kitOne K (.ref A) (.ref (He.ga K "Unlawful")) = some b := kitT_ok (kit0_Unlawful T) (by intro q hq; simp only [List.mem_cons, List.not_mem_nil, or_false] at hq; rcases hq with rfl | rfl <;> first | exact gloc_BadText T | exact gloc_BadWeb T) (by intro q hq; simp only [List.mem_cons, List.not_mem_nil, or_false] at hq; rcases hq with rfl | rfl <;> first | exact isec_BadText T | exact isec_BadWeb T)
theorem kitc_ValueError (T : Txt K mg) : ∀ C b A, tb_ValueError.lookup C = some b → mg C = some (.ref A) → L2.ExcC K A ∧ PySem.W.kitOne K (.ref A) (.type "ValueError") = some b := kitT_ok (kit0_ValueError T) (by intro q hq; simp only [List.mem_cons, List.not_mem_nil, or_false] at hq; rcases hq with rfl | rfl <;> first | exact gloc_BadText T | exact gloc_BadWeb T) (by intro q hq; simp only [List.mem_cons, List.not_mem_nil, or_false] at hq; rcases hq with rfl | rfl <;> first | exact isec_BadText T | exact isec_BadWeb T)
theorem fun_p_law_state (T : Txt K mg) : ∃ fd, FunD K d_p_law_state.name d_p_law_state.qual d_p_law_state.params d_p_law_state.body d_p_law_state.scope (d_p_law_state.dvs K) (d_p_law_state.kws K) (He.fAd K d_p_law_state.at_) fd := T.says.def_ 0 (d := d_p_law_state) rfl
theorem fun_p_law_next (T : Txt K mg) : ∃ fd, FunD K d_p_law_next.name d_p_law_next.qual d_p_law_next.params d_p_law_next.body d_p_law_next.scope (d_p_law_next.dvs K) (d_p_law_next.kws K) (He.fAd K d_p_law_next.at_) fd := T.says.def_ 1 (d := d_p_law_next) rfl
theorem fun_p_law_piece (T : Txt K mg) : ∃ fd, FunD K d_p_law_piece.name d_p_law_piece.qual d_p_law_piece.params d_p_law_piece.body d_p_law_piece.scope (d_p_law_piece.dvs K) (d_p_law_piece.kws K) (He.fAd K d_p_law_piece.at_) fd := T.says.def_ 2 (d := d_p_law_piece) rfl
theorem fun_p_law_value (T : Txt K mg) : ∃ fd, FunD K d_p_law_value.name d_p_law_value.qual d_p_law_value.params d_p_law_value.body d_p_law_value.scope (d_p_law_value.dvs K) (d_p_law_value.kws K) (He.fAd K d_p_law_value.at_) fd := T.says.def_ 3 (d := d_p_law_value) rfl
theorem fun_p_law_cell (T : Txt K mg) : ∃ fd, FunD K d_p_law_cell.name d_p_law_cell.qual d_p_law_cell.params d_p_law_cell.body d_p_law_cell.scope (d_p_law_cell.dvs K) (d_p_law_cell.kws K) (He.fAd K d_p_law_cell.at_) fd := T.says.def_ 4 (d := d_p_law_cell) rfl
theorem fun_p_law_web (T : Txt K mg) : ∃ fd, FunD K d_p_law_web.name d_p_law_web.qual d_p_law_web.params d_p_law_web.body d_p_law_web.scope (d_p_law_web.dvs K) (d_p_law_web.kws K) (He.fAd K d_p_law_web.at_) fd := T.says.def_ 5 (d := d_p_law_web) rfl
theorem fun_p_law_value_text (T : Txt K mg) : ∃ fd, FunD K d_p_law_value_text.name d_p_law_value_text.qual d_p_law_value_text.params d_p_law_value_text.body d_p_law_value_text.scope (d_p_law_value_text.dvs K) (d_p_law_value_text.kws K) (He.fAd K d_p_law_value_text.at_) fd := T.says.def_ 6 (d := d_p_law_value_text) rfl
theorem fun_p_law_rows (T : Txt K mg) : ∃ fd, FunD K d_p_law_rows.name d_p_law_rows.qual d_p_law_rows.params d_p_law_rows.body d_p_law_rows.scope (d_p_law_rows.dvs K) (d_p_law_rows.kws K) (He.fAd K d_p_law_rows.at_) fd := T.says.def_ 7 (d := d_p_law_rows) rfl
theorem fun_p_law_sign (T : Txt K mg) : ∃ fd, FunD K d_p_law_sign.name d_p_law_sign.qual d_p_law_sign.params d_p_law_sign.body d_p_law_sign.scope (d_p_law_sign.dvs K) (d_p_law_sign.kws K) (He.fAd K d_p_law_sign.at_) fd := T.says.def_ 8 (d := d_p_law_sign) rfl
theorem fun_p_law_spoilt (T : Txt K mg) : ∃ fd, FunD K d_p_law_spoilt.name d_p_law_spoilt.qual d_p_law_spoilt.params d_p_law_spoilt.body d_p_law_spoilt.scope (d_p_law_spoilt.dvs K) (d_p_law_spoilt.kws K) (He.fAd K d_p_law_spoilt.at_) fd := T.says.def_ 9 (d := d_p_law_spoilt) rfl
theorem fun_BadText_init (T : Txt K mg) : ∃ fd, FunD K d_BadText_init.name d_BadText_init.qual d_BadText_init.params d_BadText_init.body d_BadText_init.scope (d_BadText_init.dvs K) (d_BadText_init.kws K) (He.fAd K d_BadText_init.at_) fd := T.says.def_ 10 (d := d_BadText_init) rfl
theorem fun_rows_of (T : Txt K mg) : ∃ fd, FunD K d_rows_of.name d_rows_of.qual d_rows_of.params d_rows_of.body d_rows_of.scope (d_rows_of.dvs K) (d_rows_of.kws K) (He.fAd K d_rows_of.at_) fd := T.says.def_ 11 (d := d_rows_of) rfl
theorem fun_is_whole (T : Txt K mg) : ∃ fd, FunD K d_is_whole.name d_is_whole.qual d_is_whole.params d_is_whole.body d_is_whole.scope (d_is_whole.dvs K) (d_is_whole.kws K) (He.fAd K d_is_whole.at_) fd := T.says.def_ 12 (d := d_is_whole) rfl
theorem fun_is_number (T : Txt K mg) : ∃ fd, FunD K d_is_number.name d_is_number.qual d_is_number.params d_is_number.body d_is_number.scope (d_is_number.dvs K) (d_is_number.kws K) (He.fAd K d_is_number.at_) fd := T.says.def_ 13 (d := d_is_number) rfl
theorem fun_number_in (T : Txt K mg) : ∃ fd, FunD K d_number_in.name d_number_in.qual d_number_in.params d_number_in.body d_number_in.scope (d_number_in.dvs K) (d_number_in.kws K) (He.fAd K d_number_in.at_) fd := T.says.def_ 14 (d := d_number_in) rfl
theorem fun_values_told (T : Txt K mg) : ∃ fd, FunD K d_values_told.name d_values_told.qual d_values_told.params d_values_told.body d_values_told.scope (d_values_told.dvs K) (d_values_told.kws K) (He.fAd K d_values_told.at_) fd := T.says.def_ 15 (d := d_values_told) rfl
theorem fun_told_row (T : Txt K mg) : ∃ fd, FunD K d_told_row.name d_told_row.qual d_told_row.params d_told_row.body d_told_row.scope (d_told_row.dvs K) (d_told_row.kws K) (He.fAd K d_told_row.at_) fd := T.says.def_ 16 (d := d_told_row) rfl
theorem fun_told_rows (T : Txt K mg) : ∃ fd, FunD K d_told_rows.name d_told_rows.qual d_told_rows.params d_told_rows.body d_told_rows.scope (d_told_rows.dvs K) (d_told_rows.kws K) (He.fAd K d_told_rows.at_) fd := T.says.def_ 17 (d := d_told_rows) rfl
theorem fun_led_to (T : Txt K mg) : ∃ fd, FunD K d_led_to.name d_led_to.qual d_led_to.params d_led_to.body d_led_to.scope (d_led_to.dvs K) (d_led_to.kws K) (He.fAd K d_led_to.at_) fd := T.says.def_ 18 (d := d_led_to) rfl
theorem fun_is_row (T : Txt K mg) : ∃ fd, FunD K d_is_row.name d_is_row.qual d_is_row.params d_is_row.body d_is_row.scope (d_is_row.dvs K) (d_is_row.kws K) (He.fAd K d_is_row.at_) fd := T.says.def_ 19 (d := d_is_row) rfl
theorem fun_is_at (T : Txt K mg) : ∃ fd, FunD K d_is_at.name d_is_at.qual d_is_at.params d_is_at.body d_is_at.scope (d_is_at.dvs K) (d_is_at.kws K) (He.fAd K d_is_at.at_) fd := T.says.def_ 20 (d := d_is_at) rfl
theorem fun_is_value (T : Txt K mg) : ∃ fd, FunD K d_is_value.name d_is_value.qual d_is_value.params d_is_value.body d_is_value.scope (d_is_value.dvs K) (d_is_value.kws K) (He.fAd K d_is_value.at_) fd := T.says.def_ 21 (d := d_is_value) rfl
theorem fun_is_cell (T : Txt K mg) : ∃ fd, FunD K d_is_cell.name d_is_cell.qual d_is_cell.params d_is_cell.body d_is_cell.scope (d_is_cell.dvs K) (d_is_cell.kws K) (He.fAd K d_is_cell.at_) fd := T.says.def_ 22 (d := d_is_cell) rfl
theorem fun_is_web (T : Txt K mg) : ∃ fd, FunD K d_is_web.name d_is_web.qual d_is_web.params d_is_web.body d_is_web.scope (d_is_web.dvs K) (d_is_web.kws K) (He.fAd K d_is_web.at_) fd := T.says.def_ 23 (d := d_is_web) rfl
theorem fun_Web_init (T : Txt K mg) : ∃ fd, FunD K d_Web_init.name d_Web_init.qual d_Web_init.params d_Web_init.body d_Web_init.scope (d_Web_init.dvs K) (d_Web_init.kws K) (He.fAd K d_Web_init.at_) fd := T.says.def_ 24 (d := d_Web_init) rfl
theorem fun_read_web (T : Txt K mg) : ∃ fd, FunD K d_read_web.name d_read_web.qual d_read_web.params d_read_web.body d_read_web.scope (d_read_web.dvs K) (d_read_web.kws K) (He.fAd K d_read_web.at_) fd := T.says.def_ 25 (d := d_read_web) rfl
theorem fun_Web_cells (T : Txt K mg) : ∃ fd, FunD K d_Web_cells.name d_Web_cells.qual d_Web_cells.params d_Web_cells.body d_Web_cells.scope (d_Web_cells.dvs K) (d_Web_cells.kws K) (He.fAd K d_Web_cells.at_) fd := T.says.def_ 26 (d := d_Web_cells) rfl
theorem fun_Web_pegs (T : Txt K mg) : ∃ fd, FunD K d_Web_pegs.name d_Web_pegs.qual d_Web_pegs.params d_Web_pegs.body d_Web_pegs.scope (d_Web_pegs.dvs K) (d_Web_pegs.kws K) (He.fAd K d_Web_pegs.at_) fd := T.says.def_ 27 (d := d_Web_pegs) rfl
theorem fun_p_law_classes (T : Txt K mg) : ∃ fd, FunD K d_p_law_classes.name d_p_law_classes.qual d_p_law_classes.params d_p_law_classes.body d_p_law_classes.scope (d_p_law_classes.dvs K) (d_p_law_classes.kws K) (He.fAd K d_p_law_classes.at_) fd := T.says.def_ 28 (d := d_p_law_classes) rfl
theorem fun_p_law_said (T : Txt K mg) : ∃ fd, FunD K d_p_law_said.name d_p_law_said.qual d_p_law_said.params d_p_law_said.body d_p_law_said.scope (d_p_law_said.dvs K) (d_p_law_said.kws K) (He.fAd K d_p_law_said.at_) fd := T.says.def_ 29 (d := d_p_law_said) rfl
theorem fun_p_law_number (T : Txt K mg) : ∃ fd, FunD K d_p_law_number.name d_p_law_number.qual d_p_law_number.params d_p_law_number.body d_p_law_number.scope (d_p_law_number.dvs K) (d_p_law_number.kws K) (He.fAd K d_p_law_number.at_) fd := T.says.def_ 30 (d := d_p_law_number) rfl
theorem fun_p_law_word_value (T : Txt K mg) : ∃ fd, FunD K d_p_law_word_value.name d_p_law_word_value.qual d_p_law_word_value.params d_p_law_word_value.body d_p_law_word_value.scope (d_p_law_word_value.dvs K) (d_p_law_word_value.kws K) (He.fAd K d_p_law_word_value.at_) fd := T.says.def_ 31 (d := d_p_law_word_value) rfl
theorem fun_p_law_row (T : Txt K mg) : ∃ fd, FunD K d_p_law_row.name d_p_law_row.qual d_p_law_row.params d_p_law_row.body d_p_law_row.scope (d_p_law_row.dvs K) (d_p_law_row.kws K) (He.fAd K d_p_law_row.at_) fd := T.says.def_ 32 (d := d_p_law_row) rfl
theorem fun_p_law_read (T : Txt K mg) : ∃ fd, FunD K d_p_law_read.name d_p_law_read.qual d_p_law_read.params d_p_law_read.body d_p_law_read.scope (d_p_law_read.dvs K) (d_p_law_read.kws K) (He.fAd K d_p_law_read.at_) fd := T.says.def_ 33 (d := d_p_law_read) rfl
theorem fun_p_law_odd (T : Txt K mg) : ∃ fd, FunD K d_p_law_odd.name d_p_law_odd.qual d_p_law_odd.params d_p_law_odd.body d_p_law_odd.scope (d_p_law_odd.dvs K) (d_p_law_odd.kws K) (He.fAd K d_p_law_odd.at_) fd := T.says.def_ 34 (d := d_p_law_odd) rfl
theorem fun_law (T : Txt K mg) : ∃ fd, FunD K d_law.name d_law.qual d_law.params d_law.body d_law.scope (d_law.dvs K) (d_law.kws K) (He.fAd K d_law.at_) fd := T.says.def_ 35 (d := d_law) rfl
end
end K03

namespace K03
open PySem PySem.Spec PyProof.Rows L2 DL
/-! ### the head -/
end K03

namespace K03
open PySem PySem.Spec PyProof.Rows L2 DL
theorem kb0 {K : PySem.W.Frag} {fd : FuncData} (D_p_law_next : FunD K d_p_law_next.name d_p_law_next.qual d_p_law_next.params d_p_law_next.body d_p_law_next.scope (d_p_law_next.dvs K) (d_p_law_next.kws K) (He.fAd K d_p_law_next.at_) fd) : KB K fd ["_law_state_here", "_law_many"] 2 [] (fun ds es => pick [(0, 0), (0, 1)] ds es []) := kb_all D_p_law_next rfl 2 [] [(0, 0), (0, 1)] fun _ _ _ _ _ _ us ws l1 l2 => match us, ws, l1, l2 with | [_, _], [], _, _ => rfl
theorem kb1 {K : PySem.W.Frag} {fd : FuncData} (D_p_law_value : FunD K d_p_law_value.name d_p_law_value.qual d_p_law_value.params d_p_law_value.body d_p_law_value.scope (d_p_law_value.dvs K) (d_p_law_value.kws K) (He.fAd K d_p_law_value.at_) fd) : KB K fd ["_law_state_here", "_law_many"] 2 [] (fun ds es => pick [(0, 0), (0, 1)] ds es []) := kb_all D_p_law_value rfl 2 [] [(0, 0), (0, 1)] fun _ _ _ _ _ _ us ws l1 l2 => match us, ws, l1, l2 with | [_, _], [], _, _ => rfl
theorem kb2 {K : PySem.W.Frag} {fd : FuncData} (D_p_law_cell : FunD K d_p_law_cell.name d_p_law_cell.qual d_p_law_cell.params d_p_law_cell.body d_p_law_cell.scope (d_p_law_cell.dvs K) (d_p_law_cell.kws K) (He.fAd K d_p_law_cell.at_) fd) : KB K fd ["_law_state_here", "_law_many"] 2 [] (fun ds es => pick [(0, 0), (0, 1)] ds es []) := kb_all D_p_law_cell rfl 2 [] [(0, 0), (0, 1)] fun _ _ _ _ _ _ us ws l1 l2 => match us, ws, l1, l2 with | [_, _], [], _, _ => rfl
theorem kb3 {K : PySem.W.Frag} {fd : FuncData} (D_p_law_value_text : FunD K d_p_law_value_text.name d_p_law_value_text.qual d_p_law_value_text.params d_p_law_value_text.body d_p_law_value_text.scope (d_p_law_value_text.dvs K) (d_p_law_value_text.kws K) (He.fAd K d_p_law_value_text.at_) fd) : KB K fd ["_law_value_here"] 1 [] (fun ds es => pick [(0, 0)] ds es []) := kb_all D_p_law_value_text rfl 1 [] [(0, 0)] fun _ _ _ _ _ _ us ws l1 l2 => match us, ws, l1, l2 with | [_], [], _, _ => rfl
theorem kb4 {K : PySem.W.Frag} {fd : FuncData} (D_p_law_sign : FunD K d_p_law_sign.name d_p_law_sign.qual d_p_law_sign.params d_p_law_sign.body d_p_law_sign.scope (d_p_law_sign.dvs K) (d_p_law_sign.kws K) (He.fAd K d_p_law_sign.at_) fd) : KB K fd ["_law_state_here"] 1 [] (fun ds es => pick [(0, 0)] ds es []) := kb_all D_p_law_sign rfl 1 [] [(0, 0)] fun _ _ _ _ _ _ us ws l1 l2 => match us, ws, l1, l2 with | [_], [], _, _ => rfl
theorem kb5 {K : PySem.W.Frag} {fd : FuncData} (D_is_whole : FunD K d_is_whole.name d_is_whole.qual d_is_whole.params d_is_whole.body d_is_whole.scope (d_is_whole.dvs K) (d_is_whole.kws K) (He.fAd K d_is_whole.at_) fd) : KB K fd ["thing", "least", "most"] 3 [] (fun ds es => pick [(0, 0), (0, 1), (0, 2)] ds es []) := kb_all D_is_whole rfl 3 [] [(0, 0), (0, 1), (0, 2)] fun _ _ _ _ _ _ us ws l1 l2 => match us, ws, l1, l2 with | [_, _, _], [], _, _ => rfl
theorem kb6 {K : PySem.W.Frag} {fd : FuncData} (D_is_number : FunD K d_is_number.name d_is_number.qual d_is_number.params d_is_number.body d_is_number.scope (d_is_number.dvs K) (d_is_number.kws K) (He.fAd K d_is_number.at_) fd) : KB K fd ["thing"] 1 [] (fun ds es => pick [(0, 0)] ds es []) := kb_all D_is_number rfl 1 [] [(0, 0)] fun _ _ _ _ _ _ us ws l1 l2 => match us, ws, l1, l2 with | [_], [], _, _ => rfl
theorem kb7 {K : PySem.W.Frag} {fd : FuncData} (D_number_in : FunD K d_number_in.name d_number_in.qual d_number_in.params d_number_in.body d_number_in.scope (d_number_in.dvs K) (d_number_in.kws K) (He.fAd K d_number_in.at_) fd) : KB K fd ["word"] 1 [] (fun ds es => pick [(0, 0)] ds es []) := kb_all D_number_in rfl 1 [] [(0, 0)] fun _ _ _ _ _ _ us ws l1 l2 => match us, ws, l1, l2 with | [_], [], _, _ => rfl
theorem kb8 {K : PySem.W.Frag} {fd : FuncData} (D_values_told : FunD K d_values_told.name d_values_told.qual d_values_told.params d_values_told.body d_values_told.scope (d_values_told.dvs K) (d_values_told.kws K) (He.fAd K d_values_told.at_) fd) : KB K fd ["words"] 1 [] (fun ds es => pick [(0, 0)] ds es []) := kb_all D_values_told rfl 1 [] [(0, 0)] fun _ _ _ _ _ _ us ws l1 l2 => match us, ws, l1, l2 with | [_], [], _, _ => rfl
theorem kb9 {K : PySem.W.Frag} {fd : FuncData} (D_told_row : FunD K d_told_row.name d_told_row.qual d_told_row.params d_told_row.body d_told_row.scope (d_told_row.dvs K) (d_told_row.kws K) (He.fAd K d_told_row.at_) fd) : KB K fd ["words"] 1 [] (fun ds es => pick [(0, 0)] ds es []) := kb_all D_told_row rfl 1 [] [(0, 0)] fun _ _ _ _ _ _ us ws l1 l2 => match us, ws, l1, l2 with | [_], [], _, _ => rfl
theorem kb10 {K : PySem.W.Frag} {fd : FuncData} (D_is_at : FunD K d_is_at.name d_is_at.qual d_is_at.params d_is_at.body d_is_at.scope (d_is_at.dvs K) (d_is_at.kws K) (He.fAd K d_is_at.at_) fd) : KB K fd ["thing", "least"] 2 [] (fun ds es => pick [(0, 0), (0, 1)] ds es []) := kb_all D_is_at rfl 2 [] [(0, 0), (0, 1)] fun _ _ _ _ _ _ us ws l1 l2 => match us, ws, l1, l2 with | [_, _], [], _, _ => rfl
theorem kb11 {K : PySem.W.Frag} {fd : FuncData} (D_is_value : FunD K d_is_value.name d_is_value.qual d_is_value.params d_is_value.body d_is_value.scope (d_is_value.dvs K) (d_is_value.kws K) (He.fAd K d_is_value.at_) fd) : KB K fd ["thing", "cells"] 1 ["cells"] (fun ds es => pick [(0, 0), (1, 0)] ds es []) := kb_all D_is_value rfl 1 ["cells"] [(0, 0), (1, 0)] fun _ _ _ _ _ _ us ws l1 l2 => match us, ws, l1, l2 with | [_], [_], _, _ => rfl
theorem kb12 {K : PySem.W.Frag} {fd : FuncData} (D_is_row : FunD K d_is_row.name d_is_row.qual d_is_row.params d_is_row.body d_is_row.scope (d_is_row.dvs K) (d_is_row.kws K) (He.fAd K d_is_row.at_) fd) : KB K fd ["thing"] 1 [] (fun ds es => pick [(0, 0)] ds es []) := kb_all D_is_row rfl 1 [] [(0, 0)] fun _ _ _ _ _ _ us ws l1 l2 => match us, ws, l1, l2 with | [_], [], _, _ => rfl
theorem kb13 {K : PySem.W.Frag} {fd : FuncData} (D_is_cell : FunD K d_is_cell.name d_is_cell.qual d_is_cell.params d_is_cell.body d_is_cell.scope (d_is_cell.dvs K) (d_is_cell.kws K) (He.fAd K d_is_cell.at_) fd) : KB K fd ["thing", "cells"] 1 ["cells"] (fun ds es => pick [(0, 0), (1, 0)] ds es []) := kb_all D_is_cell rfl 1 ["cells"] [(0, 0), (1, 0)] fun _ _ _ _ _ _ us ws l1 l2 => match us, ws, l1, l2 with | [_], [_], _, _ => rfl
theorem kb14 {K : PySem.W.Frag} {fd : FuncData} (D_is_web : FunD K d_is_web.name d_is_web.qual d_is_web.params d_is_web.body d_is_web.scope (d_is_web.dvs K) (d_is_web.kws K) (He.fAd K d_is_web.at_) fd) : KB K fd ["cells", "pegs"] 2 [] (fun ds es => pick [(0, 0), (0, 1)] ds es []) := kb_all D_is_web rfl 2 [] [(0, 0), (0, 1)] fun _ _ _ _ _ _ us ws l1 l2 => match us, ws, l1, l2 with | [_, _], [], _, _ => rfl
theorem kb15 {K : PySem.W.Frag} {fd : FuncData} (D_rows_of : FunD K d_rows_of.name d_rows_of.qual d_rows_of.params d_rows_of.body d_rows_of.scope (d_rows_of.dvs K) (d_rows_of.kws K) (He.fAd K d_rows_of.at_) fd) : KB K fd ["text"] 1 [] (fun ds es => pick [(0, 0)] ds es []) := kb_all D_rows_of rfl 1 [] [(0, 0)] fun _ _ _ _ _ _ us ws l1 l2 => match us, ws, l1, l2 with | [_], [], _, _ => rfl
theorem kb16 {K : PySem.W.Frag} {fd : FuncData} (D_told_rows : FunD K d_told_rows.name d_told_rows.qual d_told_rows.params d_told_rows.body d_told_rows.scope (d_told_rows.dvs K) (d_told_rows.kws K) (He.fAd K d_told_rows.at_) fd) : KB K fd ["rows"] 1 [] (fun ds es => pick [(0, 0)] ds es []) := kb_all D_told_rows rfl 1 [] [(0, 0)] fun _ _ _ _ _ _ us ws l1 l2 => match us, ws, l1, l2 with | [_], [], _, _ => rfl
theorem kb17 {K : PySem.W.Frag} {fd : FuncData} (D_led_to : FunD K d_led_to.name d_led_to.qual d_led_to.params d_led_to.body d_led_to.scope (d_led_to.dvs K) (d_led_to.kws K) (He.fAd K d_led_to.at_) fd) : KB K fd ["value"] 1 [] (fun ds es => pick [(0, 0)] ds es []) := kb_all D_led_to rfl 1 [] [(0, 0)] fun _ _ _ _ _ _ us ws l1 l2 => match us, ws, l1, l2 with | [_], [], _, _ => rfl
theorem kb18 {K : PySem.W.Frag} {fd : FuncData} (D_Web_init : FunD K d_Web_init.name d_Web_init.qual d_Web_init.params d_Web_init.body d_Web_init.scope (d_Web_init.dvs K) (d_Web_init.kws K) (He.fAd K d_Web_init.at_) fd) : KB K fd ["self", "cells", "pegs"] 3 [] (fun ds es => pick [(0, 0), (0, 1), (0, 2)] ds es []) := kb_all D_Web_init rfl 3 [] [(0, 0), (0, 1), (0, 2)] fun _ _ _ _ _ _ us ws l1 l2 => match us, ws, l1, l2 with | [_, _, _], [], _, _ => rfl
theorem kb19 {K : PySem.W.Frag} {fd : FuncData} (D_read_web : FunD K d_read_web.name d_read_web.qual d_read_web.params d_read_web.body d_read_web.scope (d_read_web.dvs K) (d_read_web.kws K) (He.fAd K d_read_web.at_) fd) : KB K fd ["text"] 1 [] (fun ds es => pick [(0, 0)] ds es []) := kb_all D_read_web rfl 1 [] [(0, 0)] fun _ _ _ _ _ _ us ws l1 l2 => match us, ws, l1, l2 with | [_], [], _, _ => rfl
theorem kb20 {K : PySem.W.Frag} {fd : FuncData} (D_Web_cells : FunD K d_Web_cells.name d_Web_cells.qual d_Web_cells.params d_Web_cells.body d_Web_cells.scope (d_Web_cells.dvs K) (d_Web_cells.kws K) (He.fAd K d_Web_cells.at_) fd) : KB K fd ["self"] 1 [] (fun ds es => pick [(0, 0)] ds es []) := kb_all D_Web_cells rfl 1 [] [(0, 0)] fun _ _ _ _ _ _ us ws l1 l2 => match us, ws, l1, l2 with | [_], [], _, _ => rfl
theorem kb21 {K : PySem.W.Frag} {fd : FuncData} (D_Web_pegs : FunD K d_Web_pegs.name d_Web_pegs.qual d_Web_pegs.params d_Web_pegs.body d_Web_pegs.scope (d_Web_pegs.dvs K) (d_Web_pegs.kws K) (He.fAd K d_Web_pegs.at_) fd) : KB K fd ["self"] 1 [] (fun ds es => pick [(0, 0)] ds es []) := kb_all D_Web_pegs rfl 1 [] [(0, 0)] fun _ _ _ _ _ _ us ws l1 l2 => match us, ws, l1, l2 with | [_], [], _, _ => rfl
theorem kb22 {K : PySem.W.Frag} {fd : FuncData} (D_p_law_classes : FunD K d_p_law_classes.name d_p_law_classes.qual d_p_law_classes.params d_p_law_classes.body d_p_law_classes.scope (d_p_law_classes.dvs K) (d_p_law_classes.kws K) (He.fAd K d_p_law_classes.at_) fd) : KB K fd ["_law_error"] 1 [] (fun ds es => pick [(0, 0)] ds es []) := kb_all D_p_law_classes rfl 1 [] [(0, 0)] fun _ _ _ _ _ _ us ws l1 l2 => match us, ws, l1, l2 with | [_], [], _, _ => rfl
theorem kb23 {K : PySem.W.Frag} {fd : FuncData} (D_p_law_number : FunD K d_p_law_number.name d_p_law_number.qual d_p_law_number.params d_p_law_number.body d_p_law_number.scope (d_p_law_number.dvs K) (d_p_law_number.kws K) (He.fAd K d_p_law_number.at_) fd) : KB K fd ["_law_word"] 1 [] (fun ds es => pick [(0, 0)] ds es []) := kb_all D_p_law_number rfl 1 [] [(0, 0)] fun _ _ _ _ _ _ us ws l1 l2 => match us, ws, l1, l2 with | [_], [], _, _ => rfl
theorem kb24 {K : PySem.W.Frag} {fd : FuncData} (D_p_law_word_value : FunD K d_p_law_word_value.name d_p_law_word_value.qual d_p_law_word_value.params d_p_law_word_value.body d_p_law_word_value.scope (d_p_law_word_value.dvs K) (d_p_law_word_value.kws K) (He.fAd K d_p_law_word_value.at_) fd) : KB K fd ["_law_word"] 1 [] (fun ds es => pick [(0, 0)] ds es []) := kb_all D_p_law_word_value rfl 1 [] [(0, 0)] fun _ _ _ _ _ _ us ws l1 l2 => match us, ws, l1, l2 with | [_], [], _, _ => rfl
theorem kb25 {K : PySem.W.Frag} {fd : FuncData} (D_p_law_row : FunD K d_p_law_row.name d_p_law_row.qual d_p_law_row.params d_p_law_row.body d_p_law_row.scope (d_p_law_row.dvs K) (d_p_law_row.kws K) (He.fAd K d_p_law_row.at_) fd) : KB K fd ["_law_words"] 1 [] (fun ds es => pick [(0, 0)] ds es []) := kb_all D_p_law_row rfl 1 [] [(0, 0)] fun _ _ _ _ _ _ us ws l1 l2 => match us, ws, l1, l2 with | [_], [], _, _ => rfl
theorem kb26 {K : PySem.W.Frag} {fd : FuncData} (D_p_law_state : FunD K d_p_law_state.name d_p_law_state.qual d_p_law_state.params d_p_law_state.body d_p_law_state.scope (d_p_law_state.dvs K) (d_p_law_state.kws K) (He.fAd K d_p_law_state.at_) fd) : KB K fd ["_law_script", "_law_k"] 2 [] (fun ds es => pick [(0, 0), (0, 1)] ds es []) := kb_all D_p_law_state rfl 2 [] [(0, 0), (0, 1)] fun _ _ _ _ _ _ us ws l1 l2 => match us, ws, l1, l2 with | [_, _], [], _, _ => rfl
theorem kb27 {K : PySem.W.Frag} {fd : FuncData} (D_p_law_piece : FunD K d_p_law_piece.name d_p_law_piece.qual d_p_law_piece.params d_p_law_piece.body d_p_law_piece.scope (d_p_law_piece.dvs K) (d_p_law_piece.kws K) (He.fAd K d_p_law_piece.at_) fd) : KB K fd ["_law_state_here"] 1 [] (fun ds es => pick [(0, 0)] ds es []) := kb_all D_p_law_piece rfl 1 [] [(0, 0)] fun _ _ _ _ _ _ us ws l1 l2 => match us, ws, l1, l2 with | [_], [], _, _ => rfl
theorem kb28 {K : PySem.W.Frag} {fd : FuncData} (D_p_law_web : FunD K d_p_law_web.name d_p_law_web.qual d_p_law_web.params d_p_law_web.body d_p_law_web.scope (d_p_law_web.dvs K) (d_p_law_web.kws K) (He.fAd K d_p_law_web.at_) fd) : KB K fd ["_law_state_here", "_law_most"] 2 [] (fun ds es => pick [(0, 0), (0, 1)] ds es []) := kb_all D_p_law_web rfl 2 [] [(0, 0), (0, 1)] fun _ _ _ _ _ _ us ws l1 l2 => match us, ws, l1, l2 with | [_, _], [], _, _ => rfl
theorem kb29 {K : PySem.W.Frag} {fd : FuncData} (D_p_law_rows : FunD K d_p_law_rows.name d_p_law_rows.qual d_p_law_rows.params d_p_law_rows.body d_p_law_rows.scope (d_p_law_rows.dvs K) (d_p_law_rows.kws K) (He.fAd K d_p_law_rows.at_) fd) : KB K fd ["_law_cells", "_law_pegs"] 2 [] (fun ds es => pick [(0, 0), (0, 1)] ds es []) := kb_all D_p_law_rows rfl 2 [] [(0, 0), (0, 1)] fun _ _ _ _ _ _ us ws l1 l2 => match us, ws, l1, l2 with | [_, _], [], _, _ => rfl
theorem kb30 {K : PySem.W.Frag} {fd : FuncData} (D_p_law_spoilt : FunD K d_p_law_spoilt.name d_p_law_spoilt.qual d_p_law_spoilt.params d_p_law_spoilt.body d_p_law_spoilt.scope (d_p_law_spoilt.dvs K) (d_p_law_spoilt.kws K) (He.fAd K d_p_law_spoilt.at_) fd) : KB K fd ["_law_state_here", "_law_text"] 2 [] (fun ds es => pick [(0, 0), (0, 1)] ds es []) := kb_all D_p_law_spoilt rfl 2 [] [(0, 0), (0, 1)] fun _ _ _ _ _ _ us ws l1 l2 => match us, ws, l1, l2 with | [_, _], [], _, _ => rfl
theorem kb31 {K : PySem.W.Frag} {fd : FuncData} (D_p_law_said : FunD K d_p_law_said.name d_p_law_said.qual d_p_law_said.params d_p_law_said.body d_p_law_said.scope (d_p_law_said.dvs K) (d_p_law_said.kws K) (He.fAd K d_p_law_said.at_) fd) : KB K fd ["_law_text"] 1 [] (fun ds es => pick [(0, 0)] ds es []) := kb_all D_p_law_said rfl 1 [] [(0, 0)] fun _ _ _ _ _ _ us ws l1 l2 => match us, ws, l1, l2 with | [_], [], _, _ => rfl
theorem kb32 {K : PySem.W.Frag} {fd : FuncData} (D_p_law_read : FunD K d_p_law_read.name d_p_law_read.qual d_p_law_read.params d_p_law_read.body d_p_law_read.scope (d_p_law_read.dvs K) (d_p_law_read.kws K) (He.fAd K d_p_law_read.at_) fd) : KB K fd ["_law_text"] 1 [] (fun ds es => pick [(0, 0)] ds es []) := kb_all D_p_law_read rfl 1 [] [(0, 0)] fun _ _ _ _ _ _ us ws l1 l2 => match us, ws, l1, l2 with | [_], [], _, _ => rfl
theorem kb33 {K : PySem.W.Frag} {fd : FuncData} (D_p_law_odd : FunD K d_p_law_odd.name d_p_law_odd.qual d_p_law_odd.params d_p_law_odd.body d_p_law_odd.scope (d_p_law_odd.dvs K) (d_p_law_odd.kws K) (He.fAd K d_p_law_odd.at_) fd) : KB K fd ["_law_state_here"] 1 [] (fun ds es => pick [(0, 0)] ds es []) := kb_all D_p_law_odd rfl 1 [] [(0, 0)] fun _ _ _ _ _ _ us ws l1 l2 => match us, ws, l1, l2 with | [_], [], _, _ => rfl
theorem ok_p_law_state {P : Program} {w : World} {K : PySem.W.Frag} {mg : Str → Option Value} {base : Heap} (T : Txt K mg) : ∃ fd, FunD K d_p_law_state.name d_p_law_state.qual d_p_law_state.params d_p_law_state.body d_p_law_state.scope (d_p_law_state.dvs K) (d_p_law_state.kws K) (He.fAd K d_p_law_state.at_) fd ∧
    FnG P w K mg base 1 (He.fAd K d_p_law_state.at_) fd ["_law_script", "_law_k"] (spD K mg 2 S_p_law_state) := by
  have b_abs := free_abs T
  have b_enumerate := free_enumerate T
  have b_len := free_len T
  obtain ⟨fd, F⟩ := fun_p_law_state T
  refine ⟨fd, F, fnG (N := N_p_law_state) (ps := ["_law_script", "_law_k"]) (k := 0) (g := m_p_law_state) F ⟨rfl, rfl, rfl, by decide +kernel, rfl, by decide +kernel, by decide +kernel⟩ fun cdv A outer s H E C => ?_⟩
  refine dss_cons (ds_set C (i := 2) rfl (by first | exact Or.inl rfl | exact Or.inr rfl) (de_ifExp (dt_cmp (opr_ne C) opd_ne (de_var (pv 0)) (de_lst da_nil) (nomark _)) (de_abs rfl b_abs (da_cons (de_sub1 C (de_var (pv 0)) (de_mod (de_var (pv 1)) (de_len rfl b_len (da_cons (de_var (pv 0)) da_nil)))) da_nil)) de_int)) ?_
  refine dss_cons (ds_if (DW.dt (dw_and (dt_cmp op_ge opd_ge (de_var (pv 2)) (de_pow de_int de_int) (nomark _)) (dw_and1 (dt_cmp op_lt opd_lt (de_var (pv 1)) (de_len rfl b_len (da_cons (de_var (pv 0)) da_nil)) (nomark _))))) (dss_one (ds_ret (de_lstO (da_cons (de_sub (de_var (pv 2)) (de_pow de_int de_int)) da_nil)))) dss_nil) ?_
  refine dss_cons (ds_set C (i := 3) rfl (by first | exact Or.inl rfl | exact Or.inr rfl) (de_lst (da_cons de_int (da_cons de_int (da_cons de_int (da_cons de_int (da_cons de_int (da_cons de_int (da_cons de_int (da_cons de_int da_nil)))))))))) ?_
  exact (dss_cons (ds_set C (i := 3) rfl (by first | exact Or.inl rfl | exact Or.inr rfl) (de_add (de_var (pv 3)) (de_lst (da_cons de_int (da_cons de_int (da_cons de_int (da_cons de_int (da_cons de_int (da_cons de_int (da_cons de_int da_nil)))))))))) (dss_cons (ds_set C (i := 4) rfl (by first | exact Or.inl rfl | exact Or.inr rfl) de_int) (dss_cons (ds_for C (di_enum rfl b_enumerate (da_cons (de_var (pv 3)) da_nil)) (dg_tup C.calm (dgs_cons (dg_name (i := 5) (pg_name C.nd rfl (by first | exact Or.inl rfl | exact Or.inr rfl))) (dgs_cons (dg_name (i := 6) (pg_name C.nd rfl (by first | exact Or.inl rfl | exact Or.inr rfl))) dgs_nil))) (dss_cons (ds_set C (i := 7) rfl (by first | exact Or.inl rfl | exact Or.inr rfl) (de_mod (de_add (de_add (de_add (de_var (pv 2)) (de_mul de_int (de_var (pv 1)))) (de_mul de_int (de_var (pv 5)))) de_int) (de_var (pv 6)))) (dss_one (ds_set C (i := 4) rfl (by first | exact Or.inl rfl | exact Or.inr rfl) (de_add (de_mul (de_var (pv 4)) de_int) (de_mod (de_mul (de_var (pv 7)) (de_add (de_add (de_mul (de_var (pv 7)) (de_var (pv 7))) (de_mul de_int (de_var (pv 5)))) de_int)) (de_var (pv 6)))))))) (dss_one (ds_ret (de_lstO (da_cons (de_var (pv 4)) da_nil)))))))
theorem ok_p_law_next {P : Program} {w : World} {K : PySem.W.Frag} {mg : Str → Option Value} {base : Heap} (T : Txt K mg) : ∃ fd, FunD K d_p_law_next.name d_p_law_next.qual d_p_law_next.params d_p_law_next.body d_p_law_next.scope (d_p_law_next.dvs K) (d_p_law_next.kws K) (He.fAd K d_p_law_next.at_) fd ∧
    FnG P w K mg base 1 (He.fAd K d_p_law_next.at_) fd ["_law_state_here", "_law_many"] (spD K mg 2 S_p_law_next) := by
  obtain ⟨fd, F⟩ := fun_p_law_next T
  refine ⟨fd, F, fnG (N := N_p_law_next) (ps := ["_law_state_here", "_law_many"]) (k := 0) (g := m_p_law_next) F ⟨rfl, rfl, rfl, by decide +kernel, rfl, by decide +kernel, by decide +kernel⟩ fun cdv A outer s H E C => ?_⟩
  exact (dss_cons (ds_set C (i := 2) rfl (by first | exact Or.inl rfl | exact Or.inr rfl) (de_mod (de_sub1 C (de_var (pv 0)) de_int) (de_var (pv 1)))) (dss_cons (ds_put C (de_var (pv 0)) de_int (de_fdiv (de_sub1 C (de_var (pv 0)) de_int) (de_var (pv 1)))) (dss_one (ds_ret (de_var (pv 2))))))
theorem ok_p_law_piece {P : Program} {w : World} {K : PySem.W.Frag} {mg : Str → Option Value} {base : Heap} (T : Txt K mg) : ∃ fd, FunD K d_p_law_piece.name d_p_law_piece.qual d_p_law_piece.params d_p_law_piece.body d_p_law_piece.scope (d_p_law_piece.dvs K) (d_p_law_piece.kws K) (He.fAd K d_p_law_piece.at_) fd ∧
    FnG P w K mg base 2 (He.fAd K d_p_law_piece.at_) fd ["_law_state_here"] (spD K mg 1 S_p_law_piece) := by
  obtain ⟨fd_p_law_next, D_p_law_next, G_p_law_next⟩ := ok_p_law_next (P := P) (w := w) (base := base) T
  have m_p_law_next := glo_p_law_next T
  have b_len := free_len T
  obtain ⟨fd, F⟩ := fun_p_law_piece T
  refine ⟨fd, F, fnG (N := N_p_law_piece) (ps := ["_law_state_here"]) (k := 1) (g := m_p_law_piece) F ⟨rfl, rfl, rfl, by decide +kernel, rfl, by decide +kernel, by decide +kernel⟩ fun cdv A outer s H E C => ?_⟩
  refine dss_cons (ds_set C (i := 1) rfl (by first | exact Or.inl rfl | exact Or.inr rfl) (de_callL (x := "_law_next") G_p_law_next callOk_sub C rfl m_p_law_next D_p_law_next.kp (kb0 D_p_law_next) (da_cons (de_var (pv 0)) (da_cons de_int da_nil)) dkw_nil)) ?_
  refine dss_cons (ds_set C (i := 2) rfl (by first | exact Or.inl rfl | exact Or.inr rfl) (de_lst (da_cons de_str (da_cons de_str (da_cons de_str (da_cons de_str (da_cons de_str (da_cons de_str (da_cons de_str (da_cons de_str (da_cons de_str (da_cons de_str da_nil)))))))))))) ?_
  refine dss_cons (ds_set C (i := 2) rfl (by first | exact Or.inl rfl | exact Or.inr rfl) (de_add (de_var (pv 2)) (de_lst (da_cons de_str (da_cons de_str (da_cons de_str (da_cons de_str da_nil))))))) ?_
  refine dss_cons (ds_set C (i := 3) rfl (by first | exact Or.inl rfl | exact Or.inr rfl) (de_lst (da_cons de_str (da_cons de_str (da_cons de_str (da_cons de_str (da_cons de_str da_nil))))))) ?_
  refine dss_cons (ds_set C (i := 4) rfl (by first | exact Or.inl rfl | exact Or.inr rfl) (de_lst (da_cons de_str (da_cons de_str (da_cons de_str (da_cons de_str (da_cons de_str (da_cons de_str (da_cons de_str (da_cons de_str (da_cons de_str da_nil))))))))))) ?_
  refine dss_cons (ds_set C (i := 4) rfl (by first | exact Or.inl rfl | exact Or.inr rfl) (de_add (de_var (pv 4)) (de_lst (da_cons de_str (da_cons de_str (da_cons de_str (da_cons de_str (da_cons de_str (da_cons de_str (da_cons de_str (da_cons de_str da_nil))))))))))) ?_
  exact (dss_cons (ds_set C (i := 4) rfl (by first | exact Or.inl rfl | exact Or.inr rfl) (de_add (de_var (pv 4)) (de_lst (da_cons de_str (da_cons de_str (da_cons de_str da_nil)))))) (dss_cons (ds_set C (i := 4) rfl (by first | exact Or.inl rfl | exact Or.inr rfl) (de_add (de_var (pv 4)) (de_lst (da_cons de_str (da_cons de_str (da_cons de_str (da_cons de_str (da_cons de_str (da_cons de_str (da_cons de_str da_nil)))))))))) (dss_cons (ds_set C (i := 5) rfl (by first | exact Or.inl rfl | exact Or.inr rfl) (de_sub1 C (de_lst (da_cons (de_var (pv 2)) (da_cons (de_add (de_var (pv 2)) (de_var (pv 3))) (da_cons (de_add (de_add (de_var (pv 2)) (de_var (pv 3))) (de_var (pv 4))) da_nil)))) (de_var (pv 1)))) (dss_one (ds_ret (de_sub1 C (de_var (pv 5)) (de_callL (x := "_law_next") G_p_law_next callOk_sub C rfl m_p_law_next D_p_law_next.kp (kb0 D_p_law_next) (da_cons (de_var (pv 0)) (da_cons (de_len rfl b_len (da_cons (de_var (pv 5)) da_nil)) da_nil)) dkw_nil)))))))
theorem ok_p_law_value {P : Program} {w : World} {K : PySem.W.Frag} {mg : Str → Option Value} {base : Heap} (T : Txt K mg) : ∃ fd, FunD K d_p_law_value.name d_p_law_value.qual d_p_law_value.params d_p_law_value.body d_p_law_value.scope (d_p_law_value.dvs K) (d_p_law_value.kws K) (He.fAd K d_p_law_value.at_) fd ∧
    FnG P w K mg base 2 (He.fAd K d_p_law_value.at_) fd ["_law_state_here", "_law_many"] (spD K mg 2 S_p_law_value) := by
  obtain ⟨fd_p_law_next, D_p_law_next, G_p_law_next⟩ := ok_p_law_next (P := P) (w := w) (base := base) T
  have m_p_law_next := glo_p_law_next T
  have b_max := free_max T
  obtain ⟨fd, F⟩ := fun_p_law_value T
  refine ⟨fd, F, fnG (N := N_p_law_value) (ps := ["_law_state_here", "_law_many"]) (k := 1) (g := m_p_law_value) F ⟨rfl, rfl, rfl, by decide +kernel, rfl, by decide +kernel, by decide +kernel⟩ fun cdv A outer s H E C => ?_⟩
  refine dss_cons (ds_set C (i := 2) rfl (by first | exact Or.inl rfl | exact Or.inr rfl) (de_callL (x := "_law_next") G_p_law_next callOk_sub C rfl m_p_law_next D_p_law_next.kp (kb0 D_p_law_next) (da_cons (de_var (pv 0)) (da_cons de_int da_nil)) dkw_nil)) ?_
  refine dss_cons (ds_set C (i := 3) rfl (by first | exact Or.inl rfl | exact Or.inr rfl) (de_sub1 C (de_lst (da_cons (de_sub (de_callL (x := "_law_next") G_p_law_next callOk_sub C rfl m_p_law_next D_p_law_next.kp (kb0 D_p_law_next) (da_cons (de_var (pv 0)) (da_cons de_int da_nil)) dkw_nil) de_int) (da_cons (de_sub (de_pow de_int de_int) (de_callL (x := "_law_next") G_p_law_next callOk_sub C rfl m_p_law_next D_p_law_next.kp (kb0 D_p_law_next) (da_cons (de_var (pv 0)) (da_cons de_int da_nil)) dkw_nil)) (da_cons (de_neg (de_pow de_int de_int)) (da_cons de_int da_nil))))) (de_callL (x := "_law_next") G_p_law_next callOk_sub C rfl m_p_law_next D_p_law_next.kp (kb0 D_p_law_next) (da_cons (de_var (pv 0)) (da_cons de_int da_nil)) dkw_nil))) ?_
  exact (dss_cons (ds_set C (i := 4) rfl (by first | exact Or.inl rfl | exact Or.inr rfl) (de_callL (x := "_law_next") G_p_law_next callOk_sub C rfl m_p_law_next D_p_law_next.kp (kb0 D_p_law_next) (da_cons (de_var (pv 0)) (da_cons (de_max C rfl b_max (da_cons de_int (da_cons (de_var (pv 1)) da_nil))) da_nil)) dkw_nil)) (dss_cons (ds_if (DW.dt (dw_and (dt_cmp op_gt opd_gt (de_var (pv 2)) de_int (nomark _)) (dw_and1 (dt_cmp op_gt opd_gt (de_var (pv 1)) de_int (nomark _))))) (dss_one (ds_ret (de_tup (da_cons de_str (da_cons (de_var (pv 4)) da_nil))))) dss_nil) (dss_one (ds_ret (de_ifExp (dt_cmp (opr_eq C) opd_eq (de_var (pv 2)) de_int (nomark _)) de_non (de_var (pv 3)))))))
theorem ok_p_law_cell {P : Program} {w : World} {K : PySem.W.Frag} {mg : Str → Option Value} {base : Heap} (T : Txt K mg) : ∃ fd, FunD K d_p_law_cell.name d_p_law_cell.qual d_p_law_cell.params d_p_law_cell.body d_p_law_cell.scope (d_p_law_cell.dvs K) (d_p_law_cell.kws K) (He.fAd K d_p_law_cell.at_) fd ∧
    FnG P w K mg base 3 (He.fAd K d_p_law_cell.at_) fd ["_law_state_here", "_law_many"] (spD K mg 2 S_p_law_cell) := by
  obtain ⟨fd_p_law_next, D_p_law_next, G_p_law_next⟩ := ok_p_law_next (P := P) (w := w) (base := base) T
  have m_p_law_next := glo_p_law_next T
  obtain ⟨fd_p_law_value, D_p_law_value, G_p_law_value⟩ := ok_p_law_value (P := P) (w := w) (base := base) T
  have m_p_law_value := glo_p_law_value T
  have b_range := free_range T
  have b_tuple := free_tuple T
  obtain ⟨fd, F⟩ := fun_p_law_cell T
  refine ⟨fd, F, fnG (N := N_p_law_cell) (ps := ["_law_state_here", "_law_many"]) (k := 2) (g := m_p_law_cell) F ⟨rfl, rfl, rfl, by decide +kernel, rfl, by decide +kernel, by decide +kernel⟩ fun cdv A outer s H E C => ?_⟩
  refine dss_cons (ds_set C (i := 2) rfl (by first | exact Or.inl rfl | exact Or.inr rfl) (de_sub1 C (de_lst (da_cons de_str (da_cons de_str (da_cons de_str (da_cons de_str da_nil))))) (de_callL (x := "_law_next") G_p_law_next callOk_sub C rfl m_p_law_next D_p_law_next.kp (kb0 D_p_law_next) (da_cons (de_var (pv 0)) (da_cons de_int da_nil)) dkw_nil))) ?_
  refine dss_cons (ds_if (dt_cmp (opr_eq C) opd_eq (de_var (pv 2)) de_str (nomark _)) (dss_cons (ds_set C (i := 3) rfl (by first | exact Or.inl rfl | exact Or.inr rfl) (de_callL (x := "_law_next") G_p_law_next callOk_sub C rfl m_p_law_next D_p_law_next.kp (kb0 D_p_law_next) (da_cons (de_var (pv 0)) (da_cons (de_add (de_var (pv 1)) de_int) da_nil)) dkw_nil)) (dss_one (ds_ret (de_tup (da_cons (de_var (pv 2)) (da_cons (de_ifExp (dt_cmp op_lt opd_lt (de_var (pv 3)) (de_var (pv 1)) (nomark _)) (de_var (pv 3)) de_non) da_nil)))))) dss_nil) ?_
  refine dss_cons (ds_set C (i := 4) rfl (by first | exact Or.inl rfl | exact Or.inr rfl) (de_sub1 C (de_lst (da_cons de_int (da_cons de_int (da_cons de_int (da_cons de_int (da_cons de_int (da_cons de_int (da_cons de_int (da_cons de_int da_nil))))))))) (de_callL (x := "_law_next") G_p_law_next callOk_sub C rfl m_p_law_next D_p_law_next.kp (kb0 D_p_law_next) (da_cons (de_var (pv 0)) (da_cons de_int da_nil)) dkw_nil))) ?_
  exact (dss_one (ds_ret (de_tup (da_cons (de_var (pv 2)) (da_cons (de_tuple rfl b_tuple (da_cons (de_lcB C finL_ok (di_range1 rfl b_range (da_cons (de_var (pv 4)) da_nil)) (show BlkOk N_p_law_cell (defScope s_p_law_cell) _ [("_law_k", 5)] from ⟨rfl, by decide +kernel, by decide +kernel, by decide +kernel, by decide +kernel⟩) (fun _ _ _ _ _ C1 => (dg_name (i := 5) (pg_name C1.nd rfl (by first | exact Or.inl rfl | exact Or.inr rfl)))) (fun _ _ _ _ _ C1 => dts_nil) (fun _ _ _ _ _ C1 => (de_callL (x := "_law_value") G_p_law_value callOk_sub C1 rfl m_p_law_value D_p_law_value.kp (kb1 D_p_law_value) (da_cons (de_var (pv 0)) (da_cons (de_var (pv 1)) da_nil)) dkw_nil))) da_nil)) da_nil)))))
theorem ok_p_law_web {P : Program} {w : World} {K : PySem.W.Frag} {mg : Str → Option Value} {base : Heap} (T : Txt K mg) : ∃ fd, FunD K d_p_law_web.name d_p_law_web.qual d_p_law_web.params d_p_law_web.body d_p_law_web.scope (d_p_law_web.dvs K) (d_p_law_web.kws K) (He.fAd K d_p_law_web.at_) fd ∧
    FnG P w K mg base 4 (He.fAd K d_p_law_web.at_) fd ["_law_state_here", "_law_most"] (spD K mg 2 S_p_law_web) := by
  obtain ⟨fd_p_law_next, D_p_law_next, G_p_law_next⟩ := ok_p_law_next (P := P) (w := w) (base := base) T
  have m_p_law_next := glo_p_law_next T
  obtain ⟨fd_p_law_cell, D_p_law_cell, G_p_law_cell⟩ := ok_p_law_cell (P := P) (w := w) (base := base) T
  have m_p_law_cell := glo_p_law_cell T
  obtain ⟨fd_p_law_value, D_p_law_value, G_p_law_value⟩ := ok_p_law_value (P := P) (w := w) (base := base) T
  have m_p_law_value := glo_p_law_value T
  have b_range := free_range T
  obtain ⟨fd, F⟩ := fun_p_law_web T
  refine ⟨fd, F, fnG (N := N_p_law_web) (ps := ["_law_state_here", "_law_most"]) (k := 3) (g := m_p_law_web) F ⟨rfl, rfl, rfl, by decide +kernel, rfl, by decide +kernel, by decide +kernel⟩ fun cdv A outer s H E C => ?_⟩
  refine dss_cons (ds_set C (i := 2) rfl (by first | exact Or.inl rfl | exact Or.inr rfl) (de_mod (de_add (de_var (pv 1)) (de_callL (x := "_law_next") G_p_law_next callOk_sub C rfl m_p_law_next D_p_law_next.kp (kb0 D_p_law_next) (da_cons (de_var (pv 0)) (da_cons (de_add (de_var (pv 1)) de_int) da_nil)) dkw_nil)) (de_add (de_var (pv 1)) de_int))) ?_
  refine dss_cons (ds_setLcB C finL_ok (i := 3) rfl rfl (sw_true rfl rfl rfl (by decide +kernel)) (di_range1 rfl b_range (da_cons (de_var (pv 2)) da_nil)) (show BlkOk N_p_law_web (defScope s_p_law_web) _ [("_law_k", 4)] from ⟨rfl, by decide +kernel, by decide +kernel, by decide +kernel, by decide +kernel⟩) (fun _ _ _ _ _ C1 => (dg_name (i := 4) (pg_name C1.nd rfl (by first | exact Or.inl rfl | exact Or.inr rfl)))) (fun _ _ _ _ _ C1 => dts_nil) (fun _ _ _ _ _ C1 => (de_callL (x := "_law_cell") G_p_law_cell callOk_sub C1 rfl m_p_law_cell D_p_law_cell.kp (kb2 D_p_law_cell) (da_cons (de_var (pv 0)) (da_cons (de_var (pv 2)) da_nil)) dkw_nil))) ?_
  exact (dss_one (ds_ret (de_tup (da_cons (de_var (pv 3)) (da_cons (de_lcB C finL_ok (di_range1 rfl b_range (da_cons (de_mod (de_add de_int (de_callL (x := "_law_next") G_p_law_next callOk_sub C rfl m_p_law_next D_p_law_next.kp (kb0 D_p_law_next) (da_cons (de_var (pv 0)) (da_cons de_int da_nil)) dkw_nil)) de_int) da_nil)) (show BlkOk N_p_law_web (defScope s_p_law_web) _ [("_law_k", 4)] from ⟨rfl, by decide +kernel, by decide +kernel, by decide +kernel, by decide +kernel⟩) (fun _ _ _ _ _ C1 => (dg_name (i := 4) (pg_name C1.nd rfl (by first | exact Or.inl rfl | exact Or.inr rfl)))) (fun _ _ _ _ _ C1 => dts_nil) (fun _ _ _ _ _ C1 => (de_callL (x := "_law_value") G_p_law_value callOk_sub C1 rfl m_p_law_value D_p_law_value.kp (kb1 D_p_law_value) (da_cons (de_var (pv 0)) (da_cons (de_var (pv 2)) da_nil)) dkw_nil))) da_nil)))))
theorem ok_p_law_value_text {P : Program} {w : World} {K : PySem.W.Frag} {mg : Str → Option Value} {base : Heap} (T : Txt K mg) : ∃ fd, FunD K d_p_law_value_text.name d_p_law_value_text.qual d_p_law_value_text.params d_p_law_value_text.body d_p_law_value_text.scope (d_p_law_value_text.dvs K) (d_p_law_value_text.kws K) (He.fAd K d_p_law_value_text.at_) fd ∧
    FnG P w K mg base 1 (He.fAd K d_p_law_value_text.at_) fd ["_law_value_here"] (spD K mg 1 S_p_law_value_text) := by
  have b_isinstance := free_isinstance T
  have b_str := free_str T
  have b_tuple := free_tuple T
  obtain ⟨fd, F⟩ := fun_p_law_value_text T
  refine ⟨fd, F, fnG (N := N_p_law_value_text) (ps := ["_law_value_here"]) (k := 0) (g := m_p_law_value_text) F ⟨rfl, rfl, rfl, by decide +kernel, rfl, by decide +kernel, by decide +kernel⟩ fun cdv A outer s H E C => ?_⟩
  exact (dss_cons (ds_if (dt_val (de_isi rfl b_isinstance (da_cons (de_var (pv 0)) (da_cons (de_ty rfl b_tuple (by rfl)) da_nil)))) (dss_one (ds_ret (de_add de_str (de_strI rfl b_str (da_cons (de_sub1 C (de_var (pv 0)) de_int) da_nil))))) dss_nil) (dss_one (ds_ret (de_ifExp (dt_cmp op_isN opd_is (de_var (pv 0)) de_non (nomark _)) de_str (de_strI rfl b_str (da_cons (de_var (pv 0)) da_nil))))))
theorem ok_p_law_rows {P : Program} {w : World} {K : PySem.W.Frag} {mg : Str → Option Value} {base : Heap} (T : Txt K mg) : ∃ fd, FunD K d_p_law_rows.name d_p_law_rows.qual d_p_law_rows.params d_p_law_rows.body d_p_law_rows.scope (d_p_law_rows.dvs K) (d_p_law_rows.kws K) (He.fAd K d_p_law_rows.at_) fd ∧
    FnG P w K mg base 2 (He.fAd K d_p_law_rows.at_) fd ["_law_cells", "_law_pegs"] (spD K mg 2 S_p_law_rows) := by
  obtain ⟨fd_p_law_value_text, D_p_law_value_text, G_p_law_value_text⟩ := ok_p_law_value_text (P := P) (w := w) (base := base) T
  have m_p_law_value_text := glo_p_law_value_text T
  obtain ⟨fd, F⟩ := fun_p_law_rows T
  refine ⟨fd, F, fnG (N := N_p_law_rows) (ps := ["_law_cells", "_law_pegs"]) (k := 1) (g := m_p_law_rows) F ⟨rfl, rfl, rfl, by decide +kernel, rfl, by decide +kernel, by decide +kernel⟩ fun cdv A outer s H E C => ?_⟩
  refine dss_cons (ds_set C (i := 2) rfl (by first | exact Or.inl rfl | exact Or.inr rfl) (de_lstO da_nil)) ?_
  refine dss_cons ?_ ?_
  · refine ds_for C (di_seq (de_var (pv 0))) (dg_tup C.calm (dgs_cons (dg_name (i := 3) (pg_name C.nd rfl (by first | exact Or.inl rfl | exact Or.inr rfl))) (dgs_cons (dg_name (i := 4) (pg_name C.nd rfl (by first | exact Or.inl rfl | exact Or.inr rfl))) dgs_nil))) ?_
    refine dss_cons (ds_set C (i := 5) rfl (by first | exact Or.inl rfl | exact Or.inr rfl) (de_var (pv 4))) ?_
    exact (dss_cons (ds_if (dt_cmp (opr_eq C) opd_eq (de_var (pv 3)) de_str (nomark _)) (dss_one (ds_set C (i := 5) rfl (by first | exact Or.inl rfl | exact Or.inr rfl) (de_lst (da_cons (de_ifExp (dt_cmp op_isN opd_is (de_var (pv 4)) de_non (nomark _)) de_non (de_tup (da_cons de_str (da_cons (de_var (pv 4)) da_nil)))) da_nil)))) dss_nil) (dss_one (ds_expr (de_append (de_var (pv 2)) (da_cons (de_join de_str (da_cons (de_add (de_lst (da_cons (de_var (pv 3)) da_nil)) (de_lcB C finL_ok (di_seq (de_var (pv 5))) (show BlkOk N_p_law_rows (defScope s_p_law_rows) _ [("_law_value_here", 6)] from ⟨rfl, by decide +kernel, by decide +kernel, by decide +kernel, by decide +kernel⟩) (fun _ _ _ _ _ C1 => (dg_name (i := 6) (pg_name C1.nd rfl (by first | exact Or.inl rfl | exact Or.inr rfl)))) (fun _ _ _ _ _ C1 => dts_nil) (fun _ _ _ _ _ C1 => (de_callL (x := "_law_value_text") G_p_law_value_text callOk_sub C1 rfl m_p_law_value_text D_p_law_value_text.kp (kb3 D_p_law_value_text) (da_cons (de_var (pv 6)) da_nil) dkw_nil)))) da_nil)) da_nil)))))
  exact (dss_one (ds_ret (de_add (de_var (pv 2)) (de_lst (da_cons (de_join de_str (da_cons (de_add (de_lst (da_cons de_str da_nil)) (de_lcB C finL_ok (di_seq (de_var (pv 1))) (show BlkOk N_p_law_rows (defScope s_p_law_rows) _ [("_law_value_here", 6)] from ⟨rfl, by decide +kernel, by decide +kernel, by decide +kernel, by decide +kernel⟩) (fun _ _ _ _ _ C1 => (dg_name (i := 6) (pg_name C1.nd rfl (by first | exact Or.inl rfl | exact Or.inr rfl)))) (fun _ _ _ _ _ C1 => dts_nil) (fun _ _ _ _ _ C1 => (de_callL (x := "_law_value_text") G_p_law_value_text callOk_sub C1 rfl m_p_law_value_text D_p_law_value_text.kp (kb3 D_p_law_value_text) (da_cons (de_var (pv 6)) da_nil) dkw_nil)))) da_nil)) da_nil)))))
theorem ok_p_law_sign {P : Program} {w : World} {K : PySem.W.Frag} {mg : Str → Option Value} {base : Heap} (T : Txt K mg) : ∃ fd, FunD K d_p_law_sign.name d_p_law_sign.qual d_p_law_sign.params d_p_law_sign.body d_p_law_sign.scope (d_p_law_sign.dvs K) (d_p_law_sign.kws K) (He.fAd K d_p_law_sign.at_) fd ∧
    FnG P w K mg base 2 (He.fAd K d_p_law_sign.at_) fd ["_law_state_here"] (spD K mg 1 S_p_law_sign) := by
  obtain ⟨fd_p_law_next, D_p_law_next, G_p_law_next⟩ := ok_p_law_next (P := P) (w := w) (base := base) T
  have m_p_law_next := glo_p_law_next T
  have b_len := free_len T
  obtain ⟨fd, F⟩ := fun_p_law_sign T
  refine ⟨fd, F, fnG (N := N_p_law_sign) (ps := ["_law_state_here"]) (k := 1) (g := m_p_law_sign) F ⟨rfl, rfl, rfl, by decide +kernel, rfl, by decide +kernel, by decide +kernel⟩ fun cdv A outer s H E C => ?_⟩
  refine dss_cons (ds_set C (i := 1) rfl (by first | exact Or.inl rfl | exact Or.inr rfl) de_str) ?_
  exact (dss_cons (ds_set C (i := 2) rfl (by first | exact Or.inl rfl | exact Or.inr rfl) (de_add (de_var (pv 1)) de_str)) (dss_cons (ds_if (dt_cmp op_gt opd_gt (de_callL (x := "_law_next") G_p_law_next callOk_sub C rfl m_p_law_next D_p_law_next.kp (kb0 D_p_law_next) (da_cons (de_var (pv 0)) (da_cons de_int da_nil)) dkw_nil) de_int (nomark _)) (dss_one (ds_ret (de_sub1 C (de_var (pv 1)) (de_callL (x := "_law_next") G_p_law_next callOk_sub C rfl m_p_law_next D_p_law_next.kp (kb0 D_p_law_next) (da_cons (de_var (pv 0)) (da_cons (de_len rfl b_len (da_cons (de_var (pv 1)) da_nil)) da_nil)) dkw_nil)))) dss_nil) (dss_one (ds_ret (de_sub1 C (de_var (pv 2)) (de_callL (x := "_law_next") G_p_law_next callOk_sub C rfl m_p_law_next D_p_law_next.kp (kb0 D_p_law_next) (da_cons (de_var (pv 0)) (da_cons (de_len rfl b_len (da_cons (de_var (pv 2)) da_nil)) da_nil)) dkw_nil))))))
theorem ok_p_law_spoilt {P : Program} {w : World} {K : PySem.W.Frag} {mg : Str → Option Value} {base : Heap} (T : Txt K mg) : ∃ fd, FunD K d_p_law_spoilt.name d_p_law_spoilt.qual d_p_law_spoilt.params d_p_law_spoilt.body d_p_law_spoilt.scope (d_p_law_spoilt.dvs K) (d_p_law_spoilt.kws K) (He.fAd K d_p_law_spoilt.at_) fd ∧
    FnG P w K mg base 3 (He.fAd K d_p_law_spoilt.at_) fd ["_law_state_here", "_law_text"] (spD K mg 2 S_p_law_spoilt) := by
  obtain ⟨fd_p_law_next, D_p_law_next, G_p_law_next⟩ := ok_p_law_next (P := P) (w := w) (base := base) T
  have m_p_law_next := glo_p_law_next T
  obtain ⟨fd_p_law_sign, D_p_law_sign, G_p_law_sign⟩ := ok_p_law_sign (P := P) (w := w) (base := base) T
  have m_p_law_sign := glo_p_law_sign T
  have b_len := free_len T
  obtain ⟨fd, F⟩ := fun_p_law_spoilt T
  refine ⟨fd, F, fnG (N := N_p_law_spoilt) (ps := ["_law_state_here", "_law_text"]) (k := 2) (g := m_p_law_spoilt) F ⟨rfl, rfl, rfl, by decide +kernel, rfl, by decide +kernel, by decide +kernel⟩ fun cdv A outer s H E C => ?_⟩
  refine dss_cons (ds_set C (i := 2) rfl (by first | exact Or.inl rfl | exact Or.inr rfl) (de_callL (x := "_law_next") G_p_law_next callOk_sub C rfl m_p_law_next D_p_law_next.kp (kb0 D_p_law_next) (da_cons (de_var (pv 0)) (da_cons de_int da_nil)) dkw_nil)) ?_
  refine dss_cons (ds_set C (i := 3) rfl (by first | exact Or.inl rfl | exact Or.inr rfl) (de_callL (x := "_law_sign") G_p_law_sign callOk_sub C rfl m_p_law_sign D_p_law_sign.kp (kb4 D_p_law_sign) (da_cons (de_var (pv 0)) da_nil) dkw_nil)) ?_
  refine dss_cons (ds_set C (i := 4) rfl (by first | exact Or.inl rfl | exact Or.inr rfl) (de_callL (x := "_law_next") G_p_law_next callOk_sub C rfl m_p_law_next D_p_law_next.kp (kb0 D_p_law_next) (da_cons (de_var (pv 0)) (da_cons (de_add (de_len rfl b_len (da_cons (de_var (pv 1)) da_nil)) de_int) da_nil)) dkw_nil)) ?_
  refine dss_cons (ds_set C (i := 5) rfl (by first | exact Or.inl rfl | exact Or.inr rfl) (de_splitO (de_var (pv 1)) (da_cons de_str da_nil))) ?_
  refine dss_cons (ds_par C rfl rfl (by decide) rfl rfl (da_cons (de_callL (x := "_law_next") G_p_law_next callOk_sub C rfl m_p_law_next D_p_law_next.kp (kb0 D_p_law_next) (da_cons (de_var (pv 0)) (da_cons (de_len rfl b_len (da_cons (de_var (pv 5)) da_nil)) da_nil)) dkw_nil) (da_cons (de_callL (x := "_law_next") G_p_law_next callOk_sub C rfl m_p_law_next D_p_law_next.kp (kb0 D_p_law_next) (da_cons (de_var (pv 0)) (da_cons (de_len rfl b_len (da_cons (de_var (pv 5)) da_nil)) da_nil)) dkw_nil) da_nil)) (by rfl)) ?_
  refine dss_cons (ds_if (dt_cmp (opr_eq C) opd_eq (de_var (pv 2)) de_int (nomark _)) (dss_one (ds_ret (de_sliceS (de_var (pv 1)) do_none (do_some (de_var (pv 4)))))) dss_nil) ?_
  refine dss_cons (ds_if (dt_cmp (opr_eq C) opd_eq (de_var (pv 2)) de_int (nomark _)) (dss_cons (ds_put2 C (de_var (pv 5)) (de_var (pv 6)) (de_var (pv 5)) (de_var (pv 7)) (de_tup (da_cons (de_sub1 C (de_var (pv 5)) (de_var (pv 7))) (da_cons (de_sub1 C (de_var (pv 5)) (de_var (pv 6))) da_nil)))) (dss_one (ds_ret (de_join de_str (da_cons (de_var (pv 5)) da_nil))))) dss_nil) ?_
  exact (dss_cons (ds_if (dt_cmp (opr_eq C) opd_eq (de_var (pv 2)) de_int (nomark _)) (dss_one (ds_ret (de_join de_str (da_cons (de_add (de_slice (de_var (pv 5)) do_none (do_some (de_var (pv 6)))) (de_slice (de_var (pv 5)) (do_some (de_add (de_var (pv 6)) de_int)) do_none)) da_nil)))) dss_nil) (dss_cons (ds_if (dt_cmp (opr_eq C) opd_eq (de_var (pv 2)) de_int (nomark _)) (dss_one (ds_ret (de_join de_str (da_cons (de_add (de_add (de_slice (de_var (pv 5)) do_none (do_some (de_var (pv 6)))) (de_lst (da_cons (de_sub1 C (de_var (pv 5)) (de_var (pv 7))) da_nil))) (de_slice (de_var (pv 5)) (do_some (de_var (pv 6))) do_none)) da_nil)))) dss_nil) (dss_cons (ds_if (dt_cmp (opr_eq C) opd_eq (de_var (pv 2)) de_int (nomark _)) (dss_one (ds_ret (de_add (de_sliceS (de_var (pv 1)) do_none (do_some (de_var (pv 4)))) (de_sliceS (de_var (pv 1)) (do_some (de_add (de_var (pv 4)) de_int)) do_none)))) dss_nil) (dss_one (ds_ret (de_add (de_add (de_sliceS (de_var (pv 1)) do_none (do_some (de_var (pv 4)))) (de_var (pv 3))) (de_sliceS (de_var (pv 1)) (do_some (de_add (de_var (pv 4)) (de_mod (de_var (pv 2)) de_int))) do_none)))))))
theorem ok_BadText_init {P : Program} {w : World} {K : PySem.W.Frag} {mg : Str → Option Value} {base : Heap} (T : Txt K mg) : ∃ fd, FunD K d_BadText_init.name d_BadText_init.qual d_BadText_init.params d_BadText_init.body d_BadText_init.scope (d_BadText_init.dvs K) (d_BadText_init.kws K) (He.fAd K d_BadText_init.at_) fd ∧
    FnG P w K mg base 1 (He.fAd K d_BadText_init.at_) fd ["self", "row"] (spX K ["row"]) := by
  have gx_YardError := gloc_YardError T
  have xi_BadText := xic_BadText T
  obtain ⟨fd, F⟩ := fun_BadText_init T
  exact ⟨fd, F, fnX (N := N_BadText_init) (ps := ["self", "row"]) (k := 0) (m := "no such text") F ⟨rfl, rfl, rfl, by decide +kernel, rfl, by decide +kernel, by decide +kernel⟩ rfl (by decide) (by decide) fun cdv A outer s H E C => pss_cons (ps_expr (pe_veinitC rfl gx_YardError xi_BadText.rd xi_BadText.iv (pa_cons (pv 0) (pa_cons pe_str pa_nil)))) (pss_cons (ps_ost (pv 0) (pv 1)) pss_nil)⟩
theorem ok_rows_of {P : Program} {w : World} {K : PySem.W.Frag} {mg : Str → Option Value} {base : Heap} (T : Txt K mg) : ∃ fd, FunD K d_rows_of.name d_rows_of.qual d_rows_of.params d_rows_of.body d_rows_of.scope (d_rows_of.dvs K) (d_rows_of.kws K) (He.fAd K d_rows_of.at_) fd ∧
    FnG P w K mg base 3 (He.fAd K d_rows_of.at_) fd ["text"] (spD K mg 1 S_rows_of) := by
  obtain ⟨fd_BadText_init, D_BadText_init, G_BadText_init⟩ := ok_BadText_init (P := P) (w := w) (base := base) T
  have b_isinstance := free_isinstance T
  have b_str := free_str T
  have gx_BadText := gloc_BadText T
  have xi_BadText := xic_BadText T
  obtain ⟨fd, F⟩ := fun_rows_of T
  refine ⟨fd, F, fnG (N := N_rows_of) (ps := ["text"]) (k := 2) (g := m_rows_of) F ⟨rfl, rfl, rfl, by decide +kernel, rfl, by decide +kernel, by decide +kernel⟩ fun cdv A outer s H E C => ?_⟩
  refine dss_cons (ds_if (dt_not (dt_val (de_isi rfl b_isinstance (da_cons (de_var (pv 0)) (da_cons (de_ty rfl b_str (by rfl)) da_nil))))) (dss_one (ds_raiseX xi_BadText G_BadText_init rfl (bindX D_BadText_init rfl fun _ _ _ _ _ _ us hl => match us, hl with | [_, _], _ => rfl) C rfl gx_BadText (da_cons de_int da_nil) (by decide))) dss_nil) ?_
  exact (dss_cons (ds_set C (i := 1) rfl (by first | exact Or.inl rfl | exact Or.inr rfl) (de_splitO (de_var (pv 0)) (da_cons de_str da_nil))) (dss_cons (ds_if (dt_cmp (opr_eq C) opd_eq (de_sub1 C (de_var (pv 1)) (de_neg de_int)) de_str (nomark _)) (dss_one (ds_expr (de_pop0 (de_var (pv 1))))) dss_nil) (dss_one (ds_ret (de_lcB C finL_ok (di_seq (de_var (pv 1))) (show BlkOk N_rows_of (defScope s_rows_of) _ [("row", 3)] from ⟨rfl, by decide +kernel, by decide +kernel, by decide +kernel, by decide +kernel⟩) (fun _ _ _ _ _ C1 => (dg_name (i := 3) (pg_name C1.nd rfl (by first | exact Or.inl rfl | exact Or.inr rfl)))) (fun _ _ _ _ _ C1 => dts_nil) (fun _ _ _ _ _ C1 => (de_lcN C1 finL_ok (compScope (sc0 := defScope s_rows_of) rfl) (di_seq (de_split (de_var (pv 3)) (da_cons de_str da_nil))) (show BlkOk N_rows_of _ _ [("word", 2)] from ⟨by rfl, by decide +kernel, by decide +kernel, by decide +kernel, by decide +kernel⟩) (fun _ _ _ _ _ C2 => (dg_name (i := 2) (pg_name C2.nd rfl (by first | exact Or.inl rfl | exact Or.inr rfl)))) (fun _ _ _ _ _ C2 => (dts_one (dt_cmp (opr_ne C2) opd_ne (de_var (pv 2)) de_str (nomark _)))) (fun _ _ _ _ _ C2 => (de_var (pv 2))))))))))
theorem ok_is_whole {P : Program} {w : World} {K : PySem.W.Frag} {mg : Str → Option Value} {base : Heap} (T : Txt K mg) : ∃ fd, FunD K d_is_whole.name d_is_whole.qual d_is_whole.params d_is_whole.body d_is_whole.scope (d_is_whole.dvs K) (d_is_whole.kws K) (He.fAd K d_is_whole.at_) fd ∧
    FnG P w K mg base 1 (He.fAd K d_is_whole.at_) fd ["thing", "least", "most"] (spD K mg 3 S_is_whole) := by
  have b_bool := free_bool T
  have b_int := free_int T
  have b_isinstance := free_isinstance T
  obtain ⟨fd, F⟩ := fun_is_whole T
  refine ⟨fd, F, fnG (N := N_is_whole) (ps := ["thing", "least", "most"]) (k := 0) (g := m_is_whole) F ⟨rfl, rfl, rfl, by decide +kernel, rfl, by decide +kernel, by decide +kernel⟩ fun cdv A outer s H E C => ?_⟩
  exact (dss_one (ds_ret (de_and (de_isi rfl b_isinstance (da_cons (de_var (pv 0)) (da_cons (de_ty rfl b_int (by rfl)) da_nil))) (de_and (de_not (de_isi rfl b_isinstance (da_cons (de_var (pv 0)) (da_cons (de_ty rfl b_bool (by rfl)) da_nil)))) (de_one (de_chain op_le op_le opd_le opd_le (de_var (pv 1)) (de_var (pv 0)) (de_var (pv 2))))))))
theorem ok_is_number {P : Program} {w : World} {K : PySem.W.Frag} {mg : Str → Option Value} {base : Heap} (T : Txt K mg) : ∃ fd, FunD K d_is_number.name d_is_number.qual d_is_number.params d_is_number.body d_is_number.scope (d_is_number.dvs K) (d_is_number.kws K) (He.fAd K d_is_number.at_) fd ∧
    FnG P w K mg base 2 (He.fAd K d_is_number.at_) fd ["thing"] (spD K mg 1 S_is_number) := by
  obtain ⟨fd_is_whole, D_is_whole, G_is_whole⟩ := ok_is_whole (P := P) (w := w) (base := base) T
  have m_is_whole := glo_is_whole T
  obtain ⟨_, i_GREATEST⟩ := int_GREATEST T
  obtain ⟨fd, F⟩ := fun_is_number T
  refine ⟨fd, F, fnG (N := N_is_number) (ps := ["thing"]) (k := 1) (g := m_is_number) F ⟨rfl, rfl, rfl, by decide +kernel, rfl, by decide +kernel, by decide +kernel⟩ fun cdv A outer s H E C => ?_⟩
  exact (dss_one (ds_ret (de_callL (x := "is_whole") G_is_whole callOk_sub C rfl m_is_whole D_is_whole.kp (kb5 D_is_whole) (da_cons (de_var (pv 0)) (da_cons (de_neg (de_globI rfl i_GREATEST)) (da_cons (de_globI rfl i_GREATEST) da_nil))) dkw_nil)))
theorem ok_number_in {P : Program} {w : World} {K : PySem.W.Frag} {mg : Str → Option Value} {base : Heap} (T : Txt K mg) : ∃ fd, FunD K d_number_in.name d_number_in.qual d_number_in.params d_number_in.body d_number_in.scope (d_number_in.dvs K) (d_number_in.kws K) (He.fAd K d_number_in.at_) fd ∧
    FnG P w K mg base 3 (He.fAd K d_number_in.at_) fd ["word"] (spD K mg 1 S_number_in) := by
  obtain ⟨fd_is_number, D_is_number, G_is_number⟩ := ok_is_number (P := P) (w := w) (base := base) T
  have m_is_number := glo_is_number T
  have b_any := free_any T
  have b_int := free_int T
  have b_len := free_len T
  have b_str := free_str T
  obtain ⟨_, i_GREATEST⟩ := int_GREATEST T
  obtain ⟨_, i_MOST_SIGNS⟩ := int_MOST_SIGNS T
  obtain ⟨_, i_FIGURES⟩ := str_FIGURES T
  obtain ⟨fd, F⟩ := fun_number_in T
  refine ⟨fd, F, fnG (N := N_number_in) (ps := ["word"]) (k := 2) (g := m_number_in) F ⟨rfl, rfl, rfl, by decide +kernel, rfl, by decide +kernel, by decide +kernel⟩ fun cdv A outer s H E C => ?_⟩
  refine dss_cons (ds_set C (i := 1) rfl (by first | exact Or.inl rfl | exact Or.inr rfl) (de_ifExp (dt_val (de_starts (de_var (pv 0)) (da_cons de_str da_nil))) (de_sliceS (de_var (pv 0)) (do_some de_int) do_none) (de_var (pv 0)))) ?_
  refine dss_cons (ds_if (DW.dt (dw_or (dt_cmp (opr_eq C) opd_eq (de_var (pv 1)) de_str (nomark _)) (dw_or (dt_cmp op_gt opd_gt (de_len rfl b_len (da_cons (de_var (pv 0)) da_nil)) (de_globI rfl i_MOST_SIGNS) (nomark _)) (dw_or1 (dt_val (de_any C rfl b_any (da_cons (de_lcB C finL_ok (di_signs (de_var (pv 1))) (show BlkOk N_number_in (defScope s_number_in) _ [("sign", 3)] from ⟨rfl, by decide +kernel, by decide +kernel, by decide +kernel, by decide +kernel⟩) (fun _ _ _ _ _ C1 => (dg_name (i := 3) (pg_name C1.nd rfl (by first | exact Or.inl rfl | exact Or.inr rfl)))) (fun _ _ _ _ _ C1 => dts_nil) (fun _ _ _ _ _ C1 => (de_cmp op_notIn_sign opd_notInC (de_var (pv 3)) (de_globS rfl i_FIGURES) (by with_unfolding_all rfl)))) da_nil))))))) (dss_one (ds_ret de_non)) dss_nil) ?_
  exact (dss_cons (ds_set C (i := 2) rfl (by first | exact Or.inl rfl | exact Or.inr rfl) (de_intS rfl b_int (da_cons (de_var (pv 0)) da_nil))) (dss_one (ds_ret (de_ifExp (DW.dt (dw_and (dt_cmp (opr_eq C) opd_eq (de_strI rfl b_str (da_cons (de_var (pv 2)) da_nil)) (de_var (pv 0)) (nomark _)) (dw_and1 (dt_val (de_callL (x := "is_number") G_is_number callOk_sub C rfl m_is_number D_is_number.kp (kb6 D_is_number) (da_cons (de_var (pv 2)) da_nil) dkw_nil))))) (de_var (pv 2)) de_non))))
theorem ok_values_told {P : Program} {w : World} {K : PySem.W.Frag} {mg : Str → Option Value} {base : Heap} (T : Txt K mg) : ∃ fd, FunD K d_values_told.name d_values_told.qual d_values_told.params d_values_told.body d_values_told.scope (d_values_told.dvs K) (d_values_told.kws K) (He.fAd K d_values_told.at_) fd ∧
    FnG P w K mg base 4 (He.fAd K d_values_told.at_) fd ["words"] (spD K mg 1 S_values_told) := by
  obtain ⟨fd_number_in, D_number_in, G_number_in⟩ := ok_number_in (P := P) (w := w) (base := base) T
  have m_number_in := glo_number_in T
  obtain ⟨_, i_GREATEST⟩ := int_GREATEST T
  obtain ⟨_, i_MOST_SIGNS⟩ := int_MOST_SIGNS T
  obtain ⟨_, i_FIGURES⟩ := str_FIGURES T
  obtain ⟨fd, F⟩ := fun_values_told T
  refine ⟨fd, F, fnG (N := N_values_told) (ps := ["words"]) (k := 3) (g := m_values_told) F ⟨rfl, rfl, rfl, by decide +kernel, rfl, by decide +kernel, by decide +kernel⟩ fun cdv A outer s H E C => ?_⟩
  refine dss_cons (ds_set C (i := 1) rfl (by first | exact Or.inl rfl | exact Or.inr rfl) (de_lstO da_nil)) ?_
  refine dss_cons ?_ ?_
  · refine ds_for C (di_seq (de_var (pv 0))) (dg_name (i := 2) (pg_name C.nd rfl (by first | exact Or.inl rfl | exact Or.inr rfl))) ?_
    exact (dss_cons (ds_set C (i := 3) rfl (by first | exact Or.inl rfl | exact Or.inr rfl) (de_starts (de_var (pv 2)) (da_cons de_str da_nil))) (dss_cons (ds_set C (i := 4) rfl (by first | exact Or.inl rfl | exact Or.inr rfl) (de_callL (x := "number_in") G_number_in callOk_sub C rfl m_number_in D_number_in.kp (kb7 D_number_in) (da_cons (de_ifExp (dt_val (de_var (pv 3))) (de_sliceS (de_var (pv 2)) (do_some de_int) do_none) (de_var (pv 2))) da_nil) dkw_nil)) (dss_one (ds_if (dt_cmp (opr_eq C) opd_eq (de_var (pv 2)) de_str (nomark _)) (dss_one (ds_expr (de_append (de_var (pv 1)) (da_cons de_non da_nil)))) (dss_one (ds_if (DW.dt (dw_or (dt_cmp op_isN opd_is (de_var (pv 4)) de_non (nomark _)) (dw_or1 (DW.dt (dw_and (dt_val (de_var (pv 3))) (dw_and1 (dt_cmp op_lt opd_lt (de_var (pv 4)) de_int (nomark _)))))))) (dss_one (ds_ret de_non)) (dss_one (ds_expr (de_append (de_var (pv 1)) (da_cons (de_ifExp (dt_val (de_var (pv 3))) (de_tup (da_cons de_str (da_cons (de_var (pv 4)) da_nil))) (de_var (pv 4))) da_nil))))))))))
  exact (dss_one (ds_ret (de_frz (de_var (pv 1)))))
theorem ok_told_row {P : Program} {w : World} {K : PySem.W.Frag} {mg : Str → Option Value} {base : Heap} (T : Txt K mg) : ∃ fd, FunD K d_told_row.name d_told_row.qual d_told_row.params d_told_row.body d_told_row.scope (d_told_row.dvs K) (d_told_row.kws K) (He.fAd K d_told_row.at_) fd ∧
    FnG P w K mg base 5 (He.fAd K d_told_row.at_) fd ["words"] (spD K mg 1 S_told_row) := by
  obtain ⟨fd_values_told, D_values_told, G_values_told⟩ := ok_values_told (P := P) (w := w) (base := base) T
  have m_values_told := glo_values_told T
  have b_int := free_int T
  have b_isinstance := free_isinstance T
  have b_len := free_len T
  obtain ⟨_, i_GREATEST⟩ := int_GREATEST T
  obtain ⟨_, i_MOST_FIELDS⟩ := int_MOST_FIELDS T
  obtain ⟨_, i_MOST_SIGNS⟩ := int_MOST_SIGNS T
  obtain ⟨_, i_FIGURES⟩ := str_FIGURES T
  obtain ⟨fd, F⟩ := fun_told_row T
  refine ⟨fd, F, fnG (N := N_told_row) (ps := ["words"]) (k := 4) (g := m_told_row) F ⟨rfl, rfl, rfl, by decide +kernel, rfl, by decide +kernel, by decide +kernel⟩ fun cdv A outer s H E C => ?_⟩
  refine dss_cons (ds_star C (i := 1) (j := 2) rfl (by first | exact Or.inl rfl | exact Or.inr rfl) rfl (by first | exact Or.inl rfl | exact Or.inr rfl) (de_var (pv 0))) ?_
  refine dss_cons (ds_set C (i := 3) rfl (by first | exact Or.inl rfl | exact Or.inr rfl) (de_callL (x := "values_told") G_values_told callOk_sub C rfl m_values_told D_values_told.kp (kb8 D_values_told) (da_cons (de_var (pv 2)) da_nil) dkw_nil)) ?_
  exact (dss_cons (ds_if (DW.dt (dw_or (dt_cmp op_isN opd_is (de_var (pv 3)) de_non (nomark _)) (dw_or1 (dt_cmp (opr_notIn C) opd_notIn (de_var (pv 1)) (de_tup (da_cons de_str (da_cons de_str (da_cons de_str (da_cons de_str da_nil))))) (by with_unfolding_all rfl))))) (dss_one (ds_ret de_non)) dss_nil) (dss_cons (ds_if (DW.dt (dw_and (dt_cmp (opr_in C) opd_in (de_var (pv 1)) (de_tup (da_cons de_str (da_cons de_str da_nil))) (by with_unfolding_all rfl)) (dw_and1 (dt_cmp op_gt opd_gt (de_len rfl b_len (da_cons (de_var (pv 3)) da_nil)) (de_globI rfl i_MOST_FIELDS) (nomark _))))) (dss_one (ds_ret de_non)) dss_nil) (dss_cons (ds_if (DW.dt (dw_and (dt_cmp (opr_eq C) opd_eq (de_var (pv 1)) de_str (nomark _)) (dw_and1 (DW.dt (dw_or (dt_cmp (opr_ne C) opd_ne (de_len rfl b_len (da_cons (de_var (pv 3)) da_nil)) de_int (nomark _)) (dw_or1 (dt_val (de_isi rfl b_isinstance (da_cons (de_sub1 C (de_var (pv 3)) de_int) (da_cons (de_ty rfl b_int (by rfl)) da_nil)))))))))) (dss_one (ds_ret de_non)) dss_nil) (dss_one (ds_ret (de_tup (da_cons (de_var (pv 1)) (da_cons (de_var (pv 3)) da_nil))))))))
theorem ok_told_rows {P : Program} {w : World} {K : PySem.W.Frag} {mg : Str → Option Value} {base : Heap} (T : Txt K mg) : ∃ fd, FunD K d_told_rows.name d_told_rows.qual d_told_rows.params d_told_rows.body d_told_rows.scope (d_told_rows.dvs K) (d_told_rows.kws K) (He.fAd K d_told_rows.at_) fd ∧
    FnG P w K mg base 6 (He.fAd K d_told_rows.at_) fd ["rows"] (spD K mg 1 S_told_rows) := by
  obtain ⟨fd_told_row, D_told_row, G_told_row⟩ := ok_told_row (P := P) (w := w) (base := base) T
  have m_told_row := glo_told_row T
  obtain ⟨fd_BadText_init, D_BadText_init, G_BadText_init⟩ := ok_BadText_init (P := P) (w := w) (base := base) T
  have b_enumerate := free_enumerate T
  obtain ⟨_, i_GREATEST⟩ := int_GREATEST T
  obtain ⟨_, i_MOST_FIELDS⟩ := int_MOST_FIELDS T
  obtain ⟨_, i_MOST_SIGNS⟩ := int_MOST_SIGNS T
  obtain ⟨_, i_FIGURES⟩ := str_FIGURES T
  have gx_BadText := gloc_BadText T
  have xi_BadText := xic_BadText T
  obtain ⟨fd, F⟩ := fun_told_rows T
  refine ⟨fd, F, fnG (N := N_told_rows) (ps := ["rows"]) (k := 5) (g := m_told_rows) F ⟨rfl, rfl, rfl, by decide +kernel, rfl, by decide +kernel, by decide +kernel⟩ fun cdv A outer s H E C => ?_⟩
  refine dss_cons (ds_set C (i := 1) rfl (by first | exact Or.inl rfl | exact Or.inr rfl) (de_lstO da_nil)) ?_
  refine dss_cons ?_ ?_
  · refine ds_for C (di_enum rfl b_enumerate (da_cons (de_var (pv 0)) da_nil)) (dg_tup C.calm (dgs_cons (dg_name (i := 2) (pg_name C.nd rfl (by first | exact Or.inl rfl | exact Or.inr rfl))) (dgs_cons (dg_name (i := 3) (pg_name C.nd rfl (by first | exact Or.inl rfl | exact Or.inr rfl))) dgs_nil))) ?_
    refine dss_one ?_
    refine ds_if (dt_cmp (opr_ne C) opd_ne (de_var (pv 3)) (de_lst da_nil) (nomark _)) ?_ ?_
    · refine dss_cons (ds_set C (i := 4) rfl (by first | exact Or.inl rfl | exact Or.inr rfl) (de_callL (x := "told_row") G_told_row callOk_sub C rfl m_told_row D_told_row.kp (kb9 D_told_row) (da_cons (de_var (pv 3)) da_nil) dkw_nil)) ?_
      exact (dss_cons (ds_if (DW.dt (dw_or (dt_cmp op_isN opd_is (de_var (pv 4)) de_non (nomark _)) (dw_or1 (DW.dt (dw_and (dt_cmp (opr_ne C) opd_ne (de_var (pv 1)) (de_lst da_nil) (nomark _)) (dw_and1 (dt_cmp (opr_eq C) opd_eq (de_sub1 C (de_sub1 C (de_var (pv 1)) (de_neg de_int)) de_int) de_str (nomark _)))))))) (dss_one (ds_raiseX xi_BadText G_BadText_init rfl (bindX D_BadText_init rfl fun _ _ _ _ _ _ us hl => match us, hl with | [_, _], _ => rfl) C rfl gx_BadText (da_cons (de_var (pv 2)) da_nil) (by decide))) dss_nil) (dss_cons (ds_asg (de_var (pv 4)) (dg_tup C.calm (dgs_cons (dg_name (i := 5) (pg_name C.nd rfl (by first | exact Or.inl rfl | exact Or.inr rfl))) (dgs_cons (dg_name (i := 6) (pg_name C.nd rfl (by first | exact Or.inl rfl | exact Or.inr rfl))) dgs_nil)))) (dss_one (ds_expr (de_append (de_var (pv 1)) (da_cons (de_tup (da_cons (de_var (pv 2)) (da_cons (de_var (pv 5)) (da_cons (de_var (pv 6)) da_nil)))) da_nil))))))
    · exact dss_nil
  exact (dss_one (ds_ret (de_frz (de_var (pv 1)))))
theorem ok_led_to {P : Program} {w : World} {K : PySem.W.Frag} {mg : Str → Option Value} {base : Heap} (T : Txt K mg) : ∃ fd, FunD K d_led_to.name d_led_to.qual d_led_to.params d_led_to.body d_led_to.scope (d_led_to.dvs K) (d_led_to.kws K) (He.fAd K d_led_to.at_) fd ∧
    FnG P w K mg base 1 (He.fAd K d_led_to.at_) fd ["value"] (spD K mg 1 S_led_to) := by
  have b_isinstance := free_isinstance T
  have b_tuple := free_tuple T
  obtain ⟨_, i_GREATEST⟩ := int_GREATEST T
  obtain ⟨_, i_MOST_FIELDS⟩ := int_MOST_FIELDS T
  obtain ⟨_, i_MOST_SIGNS⟩ := int_MOST_SIGNS T
  obtain ⟨_, i_FIGURES⟩ := str_FIGURES T
  obtain ⟨fd, F⟩ := fun_led_to T
  refine ⟨fd, F, fnG (N := N_led_to) (ps := ["value"]) (k := 0) (g := m_led_to) F ⟨rfl, rfl, rfl, by decide +kernel, rfl, by decide +kernel, by decide +kernel⟩ fun cdv A outer s H E C => ?_⟩
  exact (dss_one (ds_ret (de_ifExp (dt_val (de_isi rfl b_isinstance (da_cons (de_var (pv 0)) (da_cons (de_ty rfl b_tuple (by rfl)) da_nil)))) (de_sub1 C (de_var (pv 0)) de_int) de_non)))
theorem ok_is_row {P : Program} {w : World} {K : PySem.W.Frag} {mg : Str → Option Value} {base : Heap} (T : Txt K mg) : ∃ fd, FunD K d_is_row.name d_is_row.qual d_is_row.params d_is_row.body d_is_row.scope (d_is_row.dvs K) (d_is_row.kws K) (He.fAd K d_is_row.at_) fd ∧
    FnG P w K mg base 1 (He.fAd K d_is_row.at_) fd ["thing"] (spD K mg 1 S_is_row) := by
  have b_isinstance := free_isinstance T
  have b_list := free_list T
  have b_tuple := free_tuple T
  obtain ⟨_, i_GREATEST⟩ := int_GREATEST T
  obtain ⟨_, i_MOST_FIELDS⟩ := int_MOST_FIELDS T
  obtain ⟨_, i_MOST_SIGNS⟩ := int_MOST_SIGNS T
  obtain ⟨_, i_FIGURES⟩ := str_FIGURES T
  obtain ⟨fd, F⟩ := fun_is_row T
  refine ⟨fd, F, fnG (N := N_is_row) (ps := ["thing"]) (k := 0) (g := m_is_row) F ⟨rfl, rfl, rfl, by decide +kernel, rfl, by decide +kernel, by decide +kernel⟩ fun cdv A outer s H E C => ?_⟩
  exact (dss_one (ds_ret (de_isi rfl b_isinstance (da_cons (de_var (pv 0)) (da_cons (de_tup (da_cons (de_ty rfl b_list (by rfl)) (da_cons (de_ty rfl b_tuple (by rfl)) da_nil))) da_nil)))))
theorem ok_is_at {P : Program} {w : World} {K : PySem.W.Frag} {mg : Str → Option Value} {base : Heap} (T : Txt K mg) : ∃ fd, FunD K d_is_at.name d_is_at.qual d_is_at.params d_is_at.body d_is_at.scope (d_is_at.dvs K) (d_is_at.kws K) (He.fAd K d_is_at.at_) fd ∧
    FnG P w K mg base 1 (He.fAd K d_is_at.at_) fd ["thing", "least"] (spD K mg 2 S_is_at) := by
  have b_bool := free_bool T
  have b_int := free_int T
  have b_isinstance := free_isinstance T
  have b_len := free_len T
  have b_str := free_str T
  have b_tuple := free_tuple T
  obtain ⟨_, i_GREATEST⟩ := int_GREATEST T
  obtain ⟨_, i_MOST_FIELDS⟩ := int_MOST_FIELDS T
  obtain ⟨_, i_MOST_SIGNS⟩ := int_MOST_SIGNS T
  obtain ⟨_, i_FIGURES⟩ := str_FIGURES T
  obtain ⟨fd, F⟩ := fun_is_at T
  refine ⟨fd, F, fnG (N := N_is_at) (ps := ["thing", "least"]) (k := 0) (g := m_is_at) F ⟨rfl, rfl, rfl, by decide +kernel, rfl, by decide +kernel, by decide +kernel⟩ fun cdv A outer s H E C => ?_⟩
  exact (dss_cons (ds_if (DW.dt (dw_or (dt_not (dt_val (de_isi rfl b_isinstance (da_cons (de_var (pv 0)) (da_cons (de_ty rfl b_tuple (by rfl)) da_nil))))) (dw_or (dt_cmp (opr_ne C) opd_ne (de_len rfl b_len (da_cons (de_var (pv 0)) da_nil)) de_int (nomark _)) (dw_or (dt_not (dt_val (de_isi rfl b_isinstance (da_cons (de_sub1 C (de_var (pv 0)) de_int) (da_cons (de_ty rfl b_str (by rfl)) da_nil))))) (dw_or1 (dt_cmp (opr_ne C) opd_ne (de_sub1 C (de_var (pv 0)) de_int) de_str (nomark _))))))) (dss_one (ds_ret de_bl)) dss_nil) (dss_one (ds_ret (de_and (de_isi rfl b_isinstance (da_cons (de_sub1 C (de_var (pv 0)) de_int) (da_cons (de_ty rfl b_int (by rfl)) da_nil))) (de_and (de_not (de_isi rfl b_isinstance (da_cons (de_sub1 C (de_var (pv 0)) de_int) (da_cons (de_ty rfl b_bool (by rfl)) da_nil)))) (de_one (de_cmp op_ge opd_ge (de_sub1 C (de_var (pv 0)) de_int) (de_var (pv 1)) (nomark _))))))))
theorem ok_is_value {P : Program} {w : World} {K : PySem.W.Frag} {mg : Str → Option Value} {base : Heap} (T : Txt K mg) : ∃ fd, FunD K d_is_value.name d_is_value.qual d_is_value.params d_is_value.body d_is_value.scope (d_is_value.dvs K) (d_is_value.kws K) (He.fAd K d_is_value.at_) fd ∧
    FnG P w K mg base 3 (He.fAd K d_is_value.at_) fd ["thing", "cells"] (spD K mg 2 S_is_value) := by
  obtain ⟨fd_is_number, D_is_number, G_is_number⟩ := ok_is_number (P := P) (w := w) (base := base) T
  have m_is_number := glo_is_number T
  obtain ⟨fd_is_at, D_is_at, G_is_at⟩ := ok_is_at (P := P) (w := w) (base := base) T
  have m_is_at := glo_is_at T
  obtain ⟨_, i_GREATEST⟩ := int_GREATEST T
  obtain ⟨_, i_MOST_FIELDS⟩ := int_MOST_FIELDS T
  obtain ⟨_, i_MOST_SIGNS⟩ := int_MOST_SIGNS T
  obtain ⟨_, i_FIGURES⟩ := str_FIGURES T
  obtain ⟨fd, F⟩ := fun_is_value T
  refine ⟨fd, F, fnG (N := N_is_value) (ps := ["thing", "cells"]) (k := 2) (g := m_is_value) F ⟨rfl, rfl, rfl, by decide +kernel, rfl, by decide +kernel, by decide +kernel⟩ fun cdv A outer s H E C => ?_⟩
  exact (dss_one (ds_ret (de_or (de_cmp op_isN opd_is (de_var (pv 0)) de_non (nomark _)) (de_or (de_callL (x := "is_number") G_is_number callOk_sub C rfl m_is_number D_is_number.kp (kb6 D_is_number) (da_cons (de_var (pv 0)) da_nil) dkw_nil) (de_one (de_and (de_callL (x := "is_at") G_is_at callOk_sub C rfl m_is_at D_is_at.kp (kb10 D_is_at) (da_cons (de_var (pv 0)) (da_cons de_int da_nil)) dkw_nil) (de_one (de_cmp op_lt opd_lt (de_sub1 C (de_var (pv 0)) de_int) (de_var (pv 1)) (nomark _)))))))))
theorem ok_is_cell {P : Program} {w : World} {K : PySem.W.Frag} {mg : Str → Option Value} {base : Heap} (T : Txt K mg) : ∃ fd, FunD K d_is_cell.name d_is_cell.qual d_is_cell.params d_is_cell.body d_is_cell.scope (d_is_cell.dvs K) (d_is_cell.kws K) (He.fAd K d_is_cell.at_) fd ∧
    FnG P w K mg base 4 (He.fAd K d_is_cell.at_) fd ["thing", "cells"] (spD K mg 2 S_is_cell) := by
  obtain ⟨fd_is_whole, D_is_whole, G_is_whole⟩ := ok_is_whole (P := P) (w := w) (base := base) T
  have m_is_whole := glo_is_whole T
  obtain ⟨fd_is_value, D_is_value, G_is_value⟩ := ok_is_value (P := P) (w := w) (base := base) T
  have m_is_value := glo_is_value T
  have b_all := free_all T
  have b_isinstance := free_isinstance T
  have b_len := free_len T
  have b_str := free_str T
  have b_tuple := free_tuple T
  obtain ⟨_, i_GREATEST⟩ := int_GREATEST T
  obtain ⟨_, i_MOST_FIELDS⟩ := int_MOST_FIELDS T
  obtain ⟨_, i_MOST_SIGNS⟩ := int_MOST_SIGNS T
  obtain ⟨_, i_FIGURES⟩ := str_FIGURES T
  obtain ⟨fd, F⟩ := fun_is_cell T
  refine ⟨fd, F, fnG (N := N_is_cell) (ps := ["thing", "cells"]) (k := 3) (g := m_is_cell) F ⟨rfl, rfl, rfl, by decide +kernel, rfl, by decide +kernel, by decide +kernel⟩ fun cdv A outer s H E C => ?_⟩
  refine dss_cons (ds_if (DW.dt (dw_or (dt_not (dt_val (de_isi rfl b_isinstance (da_cons (de_var (pv 0)) (da_cons (de_ty rfl b_tuple (by rfl)) da_nil))))) (dw_or (dt_cmp (opr_ne C) opd_ne (de_len rfl b_len (da_cons (de_var (pv 0)) da_nil)) de_int (nomark _)) (dw_or1 (dt_not (dt_val (de_isi rfl b_isinstance (da_cons (de_sub1 C (de_var (pv 0)) de_int) (da_cons (de_ty rfl b_str (by rfl)) da_nil))))))))) (dss_one (ds_ret de_bl)) dss_nil) ?_
  refine dss_cons (ds_if (dt_cmp (opr_eq C) opd_eq (de_sub1 C (de_var (pv 0)) de_int) de_str (nomark _)) (dss_one (ds_ret (de_or (de_cmp op_isN opd_is (de_sub1 C (de_var (pv 0)) de_int) de_non (nomark _)) (de_one (de_callL (x := "is_whole") G_is_whole callOk_sub C rfl m_is_whole D_is_whole.kp (kb5 D_is_whole) (da_cons (de_sub1 C (de_var (pv 0)) de_int) (da_cons de_int (da_cons (de_sub (de_var (pv 1)) de_int) da_nil))) dkw_nil))))) dss_nil) ?_
  refine dss_cons (ds_if (DW.dt (dw_or (dt_cmp (opr_notIn C) opd_notIn (de_sub1 C (de_var (pv 0)) de_int) (de_tup (da_cons de_str (da_cons de_str da_nil))) (by with_unfolding_all rfl)) (dw_or (dt_not (dt_val (de_isi rfl b_isinstance (da_cons (de_sub1 C (de_var (pv 0)) de_int) (da_cons (de_ty rfl b_tuple (by rfl)) da_nil))))) (dw_or1 (dt_cmp op_gt opd_gt (de_len rfl b_len (da_cons (de_sub1 C (de_var (pv 0)) de_int) da_nil)) (de_globI rfl i_MOST_FIELDS) (nomark _)))))) (dss_one (ds_ret de_bl)) dss_nil) ?_
  exact (dss_one (ds_ret (de_all C rfl b_all (da_cons (de_lcB C finL_ok (di_seq (de_sub1 C (de_var (pv 0)) de_int)) (show BlkOk N_is_cell (defScope s_is_cell) _ [("one", 2)] from ⟨rfl, by decide +kernel, by decide +kernel, by decide +kernel, by decide +kernel⟩) (fun _ _ _ _ _ C1 => (dg_name (i := 2) (pg_name C1.nd rfl (by first | exact Or.inl rfl | exact Or.inr rfl)))) (fun _ _ _ _ _ C1 => dts_nil) (fun _ _ _ _ _ C1 => (de_callL (x := "is_value") G_is_value callOk_sub C1 rfl m_is_value D_is_value.kp (kb11 D_is_value) (da_cons (de_var (pv 2)) da_nil) (dkw_cons (de_var (pv 1)) dkw_nil)))) da_nil))))
theorem ok_is_web {P : Program} {w : World} {K : PySem.W.Frag} {mg : Str → Option Value} {base : Heap} (T : Txt K mg) : ∃ fd, FunD K d_is_web.name d_is_web.qual d_is_web.params d_is_web.body d_is_web.scope (d_is_web.dvs K) (d_is_web.kws K) (He.fAd K d_is_web.at_) fd ∧
    FnG P w K mg base 5 (He.fAd K d_is_web.at_) fd ["cells", "pegs"] (spD K mg 2 S_is_web) := by
  obtain ⟨fd_is_row, D_is_row, G_is_row⟩ := ok_is_row (P := P) (w := w) (base := base) T
  have m_is_row := glo_is_row T
  obtain ⟨fd_is_cell, D_is_cell, G_is_cell⟩ := ok_is_cell (P := P) (w := w) (base := base) T
  have m_is_cell := glo_is_cell T
  obtain ⟨fd_is_value, D_is_value, G_is_value⟩ := ok_is_value (P := P) (w := w) (base := base) T
  have m_is_value := glo_is_value T
  have b_all := free_all T
  have b_len := free_len T
  obtain ⟨_, i_GREATEST⟩ := int_GREATEST T
  obtain ⟨_, i_MOST_FIELDS⟩ := int_MOST_FIELDS T
  obtain ⟨_, i_MOST_SIGNS⟩ := int_MOST_SIGNS T
  obtain ⟨_, i_FIGURES⟩ := str_FIGURES T
  obtain ⟨fd, F⟩ := fun_is_web T
  refine ⟨fd, F, fnG (N := N_is_web) (ps := ["cells", "pegs"]) (k := 4) (g := m_is_web) F ⟨rfl, rfl, rfl, by decide +kernel, rfl, by decide +kernel, by decide +kernel⟩ fun cdv A outer s H E C => ?_⟩
  refine dss_cons (ds_if (DW.dt (dw_or (dt_not (dt_val (de_callL (x := "is_row") G_is_row callOk_sub C rfl m_is_row D_is_row.kp (kb12 D_is_row) (da_cons (de_var (pv 0)) da_nil) dkw_nil))) (dw_or1 (dt_not (dt_val (de_callL (x := "is_row") G_is_row callOk_sub C rfl m_is_row D_is_row.kp (kb12 D_is_row) (da_cons (de_var (pv 1)) da_nil) dkw_nil)))))) (dss_one (ds_ret de_bl)) dss_nil) ?_
  refine dss_cons (ds_set C (i := 2) rfl (by first | exact Or.inl rfl | exact Or.inr rfl) (de_len rfl b_len (da_cons (de_var (pv 0)) da_nil))) ?_
  refine dss_one ?_
  exact (ds_ret (de_and (de_all C rfl b_all (da_cons (de_lcB C finL_ok (di_seq (de_var (pv 0))) (show BlkOk N_is_web (defScope s_is_web) _ [("one", 3)] from ⟨rfl, by decide +kernel, by decide +kernel, by decide +kernel, by decide +kernel⟩) (fun _ _ _ _ _ C1 => (dg_name (i := 3) (pg_name C1.nd rfl (by first | exact Or.inl rfl | exact Or.inr rfl)))) (fun _ _ _ _ _ C1 => dts_nil) (fun _ _ _ _ _ C1 => (de_callL (x := "is_cell") G_is_cell callOk_sub C1 rfl m_is_cell D_is_cell.kp (kb13 D_is_cell) (da_cons (de_var (pv 3)) da_nil) (dkw_cons (de_var (pv 2)) dkw_nil)))) da_nil)) (de_one (de_all C rfl b_all (da_cons (de_lcB C finL_ok (di_seq (de_var (pv 1))) (show BlkOk N_is_web (defScope s_is_web) _ [("one", 3)] from ⟨rfl, by decide +kernel, by decide +kernel, by decide +kernel, by decide +kernel⟩) (fun _ _ _ _ _ C1 => (dg_name (i := 3) (pg_name C1.nd rfl (by first | exact Or.inl rfl | exact Or.inr rfl)))) (fun _ _ _ _ _ C1 => dts_nil) (fun _ _ _ _ _ C1 => (de_callL (x := "is_value") G_is_value callOk_sub C1 rfl m_is_value D_is_value.kp (kb11 D_is_value) (da_cons (de_var (pv 3)) da_nil) (dkw_cons (de_var (pv 2)) dkw_nil)))) da_nil)))))
theorem ok_Web_init {P : Program} {w : World} {K : PySem.W.Frag} {mg : Str → Option Value} {base : Heap} (T : Txt K mg) : ∃ fd, FunD K d_Web_init.name d_Web_init.qual d_Web_init.params d_Web_init.body d_Web_init.scope (d_Web_init.dvs K) (d_Web_init.kws K) (He.fAd K d_Web_init.at_) fd ∧
    FnG P w K mg base 6 (He.fAd K d_Web_init.at_) fd ["self", "cells", "pegs"] (spD K mg 3 S_Web_init) := by
  obtain ⟨fd_is_web, D_is_web, G_is_web⟩ := ok_is_web (P := P) (w := w) (base := base) T
  have m_is_web := glo_is_web T
  have b_list := free_list T
  obtain ⟨_, i_GREATEST⟩ := int_GREATEST T
  obtain ⟨_, i_MOST_FIELDS⟩ := int_MOST_FIELDS T
  obtain ⟨_, i_MOST_SIGNS⟩ := int_MOST_SIGNS T
  obtain ⟨_, i_FIGURES⟩ := str_FIGURES T
  have gx_BadWeb := gloc_BadWeb T
  have rai_BadWeb := raic_BadWeb T
  have I_Web : ∀ {X : Cx}, X.K = K → X.mg = mg → ClsI X "Web" (He.ga K "Web") := fun h1 h2 => ⟨by rw [h2]; exact gloc_Web T, by rw [h1]; exact cls_Web T⟩
  have N_Web_all_cells := noat_Web_all_cells T
  have N_Web_all_pegs := noat_Web_all_pegs T
  obtain ⟨fd, F⟩ := fun_Web_init T
  refine ⟨fd, F, fnG (N := N_Web_init) (ps := ["self", "cells", "pegs"]) (k := 5) (g := m_Web_init) F ⟨rfl, rfl, rfl, by decide +kernel, rfl, by decide +kernel, by decide +kernel⟩ fun cdv A outer s H E C => ?_⟩
  exact (dss_cons (ds_if (dt_not (dt_val (de_callL (x := "is_web") G_is_web callOk_sub C rfl m_is_web D_is_web.kp (kb14 D_is_web) (da_cons (de_var (pv 1)) (da_cons (de_var (pv 2)) da_nil)) dkw_nil))) (dss_one (ds_raiseC C rai_BadWeb gx_BadWeb rfl)) dss_nil) (dss_cons (ds_fld (de_var (pv 0)) (de_list C rfl b_list (da_cons (de_var (pv 1)) da_nil)) (cs := ["Web"]) fun c hc => by rw [List.mem_singleton.mp hc]; exact ⟨_, I_Web rfl rfl, N_Web_all_cells⟩) (dss_one (ds_fld (de_var (pv 0)) (de_list C rfl b_list (da_cons (de_var (pv 2)) da_nil)) (cs := ["Web"]) fun c hc => by rw [List.mem_singleton.mp hc]; exact ⟨_, I_Web rfl rfl, N_Web_all_pegs⟩))))
theorem ok_read_web {P : Program} {w : World} {K : PySem.W.Frag} {mg : Str → Option Value} {base : Heap} (T : Txt K mg) : ∃ fd, FunD K d_read_web.name d_read_web.qual d_read_web.params d_read_web.body d_read_web.scope (d_read_web.dvs K) (d_read_web.kws K) (He.fAd K d_read_web.at_) fd ∧
    FnG P w K mg base 8 (He.fAd K d_read_web.at_) fd ["text"] (spD K mg 1 S_read_web) := by
  obtain ⟨fd_rows_of, D_rows_of, G_rows_of⟩ := ok_rows_of (P := P) (w := w) (base := base) T
  have m_rows_of := glo_rows_of T
  obtain ⟨fd_told_rows, D_told_rows, G_told_rows⟩ := ok_told_rows (P := P) (w := w) (base := base) T
  have m_told_rows := glo_told_rows T
  obtain ⟨fd_led_to, D_led_to, G_led_to⟩ := ok_led_to (P := P) (w := w) (base := base) T
  have m_led_to := glo_led_to T
  obtain ⟨fd_BadText_init, D_BadText_init, G_BadText_init⟩ := ok_BadText_init (P := P) (w := w) (base := base) T
  obtain ⟨fd_Web_init, D_Web_init, G_Web_init⟩ := ok_Web_init (P := P) (w := w) (base := base) T
  have b_any := free_any T
  have b_len := free_len T
  have b_tuple := free_tuple T
  obtain ⟨_, i_GREATEST⟩ := int_GREATEST T
  obtain ⟨_, i_MOST_FIELDS⟩ := int_MOST_FIELDS T
  obtain ⟨_, i_MOST_SIGNS⟩ := int_MOST_SIGNS T
  obtain ⟨_, i_FIGURES⟩ := str_FIGURES T
  have M_Web := mkr_Web T
  have c_Web := gloc_Web T
  have gx_BadText := gloc_BadText T
  have xi_BadText := xic_BadText T
  obtain ⟨fd, F⟩ := fun_read_web T
  refine ⟨fd, F, fnG (N := N_read_web) (ps := ["text"]) (k := 7) (g := m_read_web) F ⟨rfl, rfl, rfl, by decide +kernel, rfl, by decide +kernel, by decide +kernel⟩ fun cdv A outer s H E C => ?_⟩
  refine dss_cons (ds_set C (i := 1) rfl (by first | exact Or.inl rfl | exact Or.inr rfl) (de_callL (x := "rows_of") G_rows_of callOk_sub C rfl m_rows_of D_rows_of.kp (kb15 D_rows_of) (da_cons (de_var (pv 0)) da_nil) dkw_nil)) ?_
  refine dss_cons (ds_set C (i := 2) rfl (by first | exact Or.inl rfl | exact Or.inr rfl) (de_callL (x := "told_rows") G_told_rows callOk_sub C rfl m_told_rows D_told_rows.kp (kb16 D_told_rows) (da_cons (de_var (pv 1)) da_nil) dkw_nil)) ?_
  refine dss_cons (ds_set C (i := 3) rfl (by first | exact Or.inl rfl | exact Or.inr rfl) (de_len rfl b_len (da_cons (de_lcB C finL_ok (di_seq (de_var (pv 2))) (show BlkOk N_read_web (defScope s_read_web) _ [("at", 4), ("sort", 5), ("values", 6)] from ⟨rfl, by decide +kernel, by decide +kernel, by decide +kernel, by decide +kernel⟩) (fun _ _ _ _ _ C1 => (dg_tup C1.calm (dgs_cons (dg_name (i := 4) (pg_name C1.nd rfl (by first | exact Or.inl rfl | exact Or.inr rfl))) (dgs_cons (dg_name (i := 5) (pg_name C1.nd rfl (by first | exact Or.inl rfl | exact Or.inr rfl))) (dgs_cons (dg_name (i := 6) (pg_name C1.nd rfl (by first | exact Or.inl rfl | exact Or.inr rfl))) dgs_nil))))) (fun _ _ _ _ _ C1 => (dts_one (dt_cmp (opr_ne C1) opd_ne (de_var (pv 5)) de_str (nomark _)))) (fun _ _ _ _ _ C1 => (de_var (pv 4)))) da_nil))) ?_
  refine dss_cons ?_ ?_
  · refine ds_for C (di_seq (de_var (pv 2))) (dg_tup C.calm (dgs_cons (dg_name (i := 4) (pg_name C.nd rfl (by first | exact Or.inl rfl | exact Or.inr rfl))) (dgs_cons (dg_name (i := 5) (pg_name C.nd rfl (by first | exact Or.inl rfl | exact Or.inr rfl))) (dgs_cons (dg_name (i := 6) (pg_name C.nd rfl (by first | exact Or.inl rfl | exact Or.inr rfl))) dgs_nil)))) ?_
    refine dss_one ?_
    exact (ds_if (dt_val (de_any C rfl b_any (da_cons (de_lcB C finL_ok (di_seq (de_var (pv 6))) (show BlkOk N_read_web (defScope s_read_web) _ [("value", 8)] from ⟨rfl, by decide +kernel, by decide +kernel, by decide +kernel, by decide +kernel⟩) (fun _ _ _ _ _ C1 => (dg_name (i := 8) (pg_name C1.nd rfl (by first | exact Or.inl rfl | exact Or.inr rfl)))) (fun _ _ _ _ _ C1 => dts_nil) (fun _ _ _ _ _ C1 => (de_and (de_cmp op_notN opd_isnot (de_callL (x := "led_to") G_led_to callOk_sub C1 rfl m_led_to D_led_to.kp (kb17 D_led_to) (da_cons (de_var (pv 8)) da_nil) dkw_nil) de_non (nomark _)) (de_one (de_cmp op_ge opd_ge (de_callL (x := "led_to") G_led_to callOk_sub C1 rfl m_led_to D_led_to.kp (kb17 D_led_to) (da_cons (de_var (pv 8)) da_nil) dkw_nil) (de_var (pv 3)) (nomark _)))))) da_nil))) (dss_one (ds_raiseX xi_BadText G_BadText_init rfl (bindX D_BadText_init rfl fun _ _ _ _ _ _ us hl => match us, hl with | [_, _], _ => rfl) C rfl gx_BadText (da_cons (de_var (pv 4)) da_nil) (by decide))) dss_nil)
  refine dss_cons (ds_if (DW.dt (dw_or (dt_cmp (opr_eq C) opd_eq (de_var (pv 2)) (de_lst da_nil) (nomark _)) (dw_or1 (dt_cmp (opr_ne C) opd_ne (de_sub1 C (de_sub1 C (de_var (pv 2)) (de_neg de_int)) de_int) de_str (nomark _))))) (dss_one (ds_raiseX xi_BadText G_BadText_init rfl (bindX D_BadText_init rfl fun _ _ _ _ _ _ us hl => match us, hl with | [_, _], _ => rfl) C rfl gx_BadText (da_cons (de_len rfl b_len (da_cons (de_var (pv 1)) da_nil)) da_nil) (by decide))) dss_nil) ?_
  refine dss_cons (ds_setLcB C finL_ok (i := 7) rfl rfl (sw_true rfl rfl rfl (by decide +kernel)) (di_seq (de_slice (de_var (pv 2)) do_none (do_some (de_neg de_int)))) (show BlkOk N_read_web (defScope s_read_web) _ [("at", 4), ("sort", 5), ("values", 6)] from ⟨rfl, by decide +kernel, by decide +kernel, by decide +kernel, by decide +kernel⟩) (fun _ _ _ _ _ C1 => (dg_tup C1.calm (dgs_cons (dg_name (i := 4) (pg_name C1.nd rfl (by first | exact Or.inl rfl | exact Or.inr rfl))) (dgs_cons (dg_name (i := 5) (pg_name C1.nd rfl (by first | exact Or.inl rfl | exact Or.inr rfl))) (dgs_cons (dg_name (i := 6) (pg_name C1.nd rfl (by first | exact Or.inl rfl | exact Or.inr rfl))) dgs_nil))))) (fun _ _ _ _ _ C1 => dts_nil) (fun _ _ _ _ _ C1 => (de_tup (da_cons (de_var (pv 5)) (da_cons (de_ifExp (dt_cmp (opr_eq C1) opd_eq (de_var (pv 5)) de_str (nomark _)) (de_callL (x := "led_to") G_led_to callOk_sub C1 rfl m_led_to D_led_to.kp (kb17 D_led_to) (da_cons (de_sub1 C1 (de_var (pv 6)) de_int) da_nil) dkw_nil) (de_tuple rfl b_tuple (da_cons (de_var (pv 6)) da_nil))) da_nil))))) ?_
  exact (dss_one (ds_ret (de_makeL (c := "Web") M_Web G_Web_init makeF_ok C rfl c_Web (kb18 D_Web_init) (da_cons (de_var (pv 7)) (da_cons (de_sub1 C (de_sub1 C (de_var (pv 2)) (de_neg de_int)) de_int) da_nil)) dkw_nil)))
theorem ok_Web_cells {P : Program} {w : World} {K : PySem.W.Frag} {mg : Str → Option Value} {base : Heap} (T : Txt K mg) : ∃ fd, FunD K d_Web_cells.name d_Web_cells.qual d_Web_cells.params d_Web_cells.body d_Web_cells.scope (d_Web_cells.dvs K) (d_Web_cells.kws K) (He.fAd K d_Web_cells.at_) fd ∧
    FnG P w K mg base 1 (He.fAd K d_Web_cells.at_) fd ["self"] (spD K mg 1 S_Web_cells) := by
  have b_list := free_list T
  obtain ⟨_, i_GREATEST⟩ := int_GREATEST T
  obtain ⟨_, i_MOST_FIELDS⟩ := int_MOST_FIELDS T
  obtain ⟨_, i_MOST_SIGNS⟩ := int_MOST_SIGNS T
  obtain ⟨_, i_FIGURES⟩ := str_FIGURES T
  have I_Web : ∀ {X : Cx}, X.K = K → X.mg = mg → ClsI X "Web" (He.ga K "Web") := fun h1 h2 => ⟨by rw [h2]; exact gloc_Web T, by rw [h1]; exact cls_Web T⟩
  have N_Web_all_cells := noat_Web_all_cells T
  obtain ⟨fd, F⟩ := fun_Web_cells T
  refine ⟨fd, F, fnG (N := N_Web_cells) (ps := ["self"]) (k := 0) (g := m_Web_cells) F ⟨rfl, rfl, rfl, by decide +kernel, rfl, by decide +kernel, by decide +kernel⟩ fun cdv A outer s H E C => ?_⟩
  exact (dss_one (ds_ret (de_list C rfl b_list (da_cons (de_fld (de_var (pv 0)) (cs := ["Web"]) fun c hc => by rw [List.mem_singleton.mp hc]; exact ⟨_, I_Web rfl rfl, N_Web_all_cells⟩) da_nil))))
theorem ok_Web_pegs {P : Program} {w : World} {K : PySem.W.Frag} {mg : Str → Option Value} {base : Heap} (T : Txt K mg) : ∃ fd, FunD K d_Web_pegs.name d_Web_pegs.qual d_Web_pegs.params d_Web_pegs.body d_Web_pegs.scope (d_Web_pegs.dvs K) (d_Web_pegs.kws K) (He.fAd K d_Web_pegs.at_) fd ∧
    FnG P w K mg base 1 (He.fAd K d_Web_pegs.at_) fd ["self"] (spD K mg 1 S_Web_pegs) := by
  have b_list := free_list T
  obtain ⟨_, i_GREATEST⟩ := int_GREATEST T
  obtain ⟨_, i_MOST_FIELDS⟩ := int_MOST_FIELDS T
  obtain ⟨_, i_MOST_SIGNS⟩ := int_MOST_SIGNS T
  obtain ⟨_, i_FIGURES⟩ := str_FIGURES T
  have I_Web : ∀ {X : Cx}, X.K = K → X.mg = mg → ClsI X "Web" (He.ga K "Web") := fun h1 h2 => ⟨by rw [h2]; exact gloc_Web T, by rw [h1]; exact cls_Web T⟩
  have N_Web_all_pegs := noat_Web_all_pegs T
  obtain ⟨fd, F⟩ := fun_Web_pegs T
  refine ⟨fd, F, fnG (N := N_Web_pegs) (ps := ["self"]) (k := 0) (g := m_Web_pegs) F ⟨rfl, rfl, rfl, by decide +kernel, rfl, by decide +kernel, by decide +kernel⟩ fun cdv A outer s H E C => ?_⟩
  exact (dss_one (ds_ret (de_list C rfl b_list (da_cons (de_fld (de_var (pv 0)) (cs := ["Web"]) fun c hc => by rw [List.mem_singleton.mp hc]; exact ⟨_, I_Web rfl rfl, N_Web_all_pegs⟩) da_nil))))
theorem ok_p_law_classes {P : Program} {w : World} {K : PySem.W.Frag} {mg : Str → Option Value} {base : Heap} (T : Txt K mg) : ∃ fd, FunD K d_p_law_classes.name d_p_law_classes.qual d_p_law_classes.params d_p_law_classes.body d_p_law_classes.scope (d_p_law_classes.dvs K) (d_p_law_classes.kws K) (He.fAd K d_p_law_classes.at_) fd ∧
    FnG P w K mg base 1 (He.fAd K d_p_law_classes.at_) fd ["_law_error"] (spD K mg 1 S_p_law_classes) := by
  have b_ValueError := free_ValueError T
  have b_isinstance := free_isinstance T
  obtain ⟨_, i_GREATEST⟩ := int_GREATEST T
  obtain ⟨_, i_MOST_FIELDS⟩ := int_MOST_FIELDS T
  obtain ⟨_, i_MOST_SIGNS⟩ := int_MOST_SIGNS T
  obtain ⟨_, i_FIGURES⟩ := str_FIGURES T
  have c_BadGround := gloc_BadGround T
  have c_BadName := gloc_BadName T
  have c_BadNumber := gloc_BadNumber T
  have c_BadPicture := gloc_BadPicture T
  have c_BadProgram := gloc_BadProgram T
  have c_BadText := gloc_BadText T
  have c_BadWeaving := gloc_BadWeaving T
  have c_BadWeb := gloc_BadWeb T
  have c_NoCell := gloc_NoCell T
  have c_NoDeed := gloc_NoDeed T
  have c_NoField := gloc_NoField T
  have c_NoHand := gloc_NoHand T
  have c_NoName := gloc_NoName T
  have c_NoPeg := gloc_NoPeg T
  have c_NoRoom := gloc_NoRoom T
  have c_NoTurn := gloc_NoTurn T
  have c_TooMany := gloc_TooMany T
  have c_Unlawful := gloc_Unlawful T
  have gx_BadGround := gloc_BadGround T
  have gx_BadName := gloc_BadName T
  have gx_BadNumber := gloc_BadNumber T
  have gx_BadPicture := gloc_BadPicture T
  have gx_BadProgram := gloc_BadProgram T
  have gx_BadText := gloc_BadText T
  have gx_BadWeaving := gloc_BadWeaving T
  have gx_BadWeb := gloc_BadWeb T
  have gx_NoCell := gloc_NoCell T
  have gx_NoDeed := gloc_NoDeed T
  have gx_NoField := gloc_NoField T
  have gx_NoHand := gloc_NoHand T
  have gx_NoName := gloc_NoName T
  have gx_NoPeg := gloc_NoPeg T
  have gx_NoRoom := gloc_NoRoom T
  have gx_NoTurn := gloc_NoTurn T
  have gx_TooMany := gloc_TooMany T
  have gx_Unlawful := gloc_Unlawful T
  have kit_BadGround := kitc_BadGround T
  have kit_BadName := kitc_BadName T
  have kit_BadNumber := kitc_BadNumber T
  have kit_BadPicture := kitc_BadPicture T
  have kit_BadProgram := kitc_BadProgram T
  have kit_BadText := kitc_BadText T
  have kit_BadWeaving := kitc_BadWeaving T
  have kit_BadWeb := kitc_BadWeb T
  have kit_NoCell := kitc_NoCell T
  have kit_NoDeed := kitc_NoDeed T
  have kit_NoField := kitc_NoField T
  have kit_NoHand := kitc_NoHand T
  have kit_NoName := kitc_NoName T
  have kit_NoPeg := kitc_NoPeg T
  have kit_NoRoom := kitc_NoRoom T
  have kit_NoTurn := kitc_NoTurn T
  have kit_TooMany := kitc_TooMany T
  have kit_Unlawful := kitc_Unlawful T
  have kit_ValueError := kitc_ValueError T
  obtain ⟨fd, F⟩ := fun_p_law_classes T
  refine ⟨fd, F, fnG (N := N_p_law_classes) (ps := ["_law_error"]) (k := 0) (g := m_p_law_classes) F ⟨rfl, rfl, rfl, by decide +kernel, rfl, by decide +kernel, by decide +kernel⟩ fun cdv A outer s H E C => ?_⟩
  refine dss_cons ?_ ?_
  · exact (ds_set C (i := 1) rfl (by first | exact Or.inl rfl | exact Or.inr rfl) (de_lst (da_cons (de_tup (da_cons de_str (da_cons (de_isF rfl b_isinstance gx_BadWeb kit_BadWeb (da_cons (de_var (pv 0)) (da_cons (de_own rfl c_BadWeb) da_nil))) da_nil))) (da_cons (de_tup (da_cons de_str (da_cons (de_isF rfl b_isinstance gx_BadGround kit_BadGround (da_cons (de_var (pv 0)) (da_cons (de_own rfl c_BadGround) da_nil))) da_nil))) (da_cons (de_tup (da_cons de_str (da_cons (de_isF rfl b_isinstance gx_BadNumber kit_BadNumber (da_cons (de_var (pv 0)) (da_cons (de_own rfl c_BadNumber) da_nil))) da_nil))) (da_cons (de_tup (da_cons de_str (da_cons (de_isF rfl b_isinstance gx_NoPeg kit_NoPeg (da_cons (de_var (pv 0)) (da_cons (de_own rfl c_NoPeg) da_nil))) da_nil))) (da_cons (de_tup (da_cons de_str (da_cons (de_isF rfl b_isinstance gx_NoCell kit_NoCell (da_cons (de_var (pv 0)) (da_cons (de_own rfl c_NoCell) da_nil))) da_nil))) (da_cons (de_tup (da_cons de_str (da_cons (de_isF rfl b_isinstance gx_NoField kit_NoField (da_cons (de_var (pv 0)) (da_cons (de_own rfl c_NoField) da_nil))) da_nil))) (da_cons (de_tup (da_cons de_str (da_cons (de_isF rfl b_isinstance gx_NoHand kit_NoHand (da_cons (de_var (pv 0)) (da_cons (de_own rfl c_NoHand) da_nil))) da_nil))) (da_cons (de_tup (da_cons de_str (da_cons (de_isF rfl b_isinstance gx_NoTurn kit_NoTurn (da_cons (de_var (pv 0)) (da_cons (de_own rfl c_NoTurn) da_nil))) da_nil))) (da_cons (de_tup (da_cons de_str (da_cons (de_isF rfl b_isinstance gx_NoRoom kit_NoRoom (da_cons (de_var (pv 0)) (da_cons (de_own rfl c_NoRoom) da_nil))) da_nil))) (da_cons (de_tup (da_cons de_str (da_cons (de_isF rfl b_isinstance gx_NoDeed kit_NoDeed (da_cons (de_var (pv 0)) (da_cons (de_own rfl c_NoDeed) da_nil))) da_nil))) (da_cons (de_tup (da_cons de_str (da_cons (de_isF rfl b_isinstance gx_TooMany kit_TooMany (da_cons (de_var (pv 0)) (da_cons (de_own rfl c_TooMany) da_nil))) da_nil))) (da_cons (de_tup (da_cons de_str (da_cons (de_isF rfl b_isinstance gx_BadProgram kit_BadProgram (da_cons (de_var (pv 0)) (da_cons (de_own rfl c_BadProgram) da_nil))) da_nil))) (da_cons (de_tup (da_cons de_str (da_cons (de_isF rfl b_isinstance gx_BadWeaving kit_BadWeaving (da_cons (de_var (pv 0)) (da_cons (de_own rfl c_BadWeaving) da_nil))) da_nil))) (da_cons (de_tup (da_cons de_str (da_cons (de_isF rfl b_isinstance gx_BadPicture kit_BadPicture (da_cons (de_var (pv 0)) (da_cons (de_own rfl c_BadPicture) da_nil))) da_nil))) (da_cons (de_tup (da_cons de_str (da_cons (de_isF rfl b_isinstance gx_BadText kit_BadText (da_cons (de_var (pv 0)) (da_cons (de_own rfl c_BadText) da_nil))) da_nil))) (da_cons (de_tup (da_cons de_str (da_cons (de_isF rfl b_isinstance gx_BadName kit_BadName (da_cons (de_var (pv 0)) (da_cons (de_own rfl c_BadName) da_nil))) da_nil))) (da_cons (de_tup (da_cons de_str (da_cons (de_isF rfl b_isinstance gx_NoName kit_NoName (da_cons (de_var (pv 0)) (da_cons (de_own rfl c_NoName) da_nil))) da_nil))) (da_cons (de_tup (da_cons de_str (da_cons (de_isF rfl b_isinstance gx_Unlawful kit_Unlawful (da_cons (de_var (pv 0)) (da_cons (de_own rfl c_Unlawful) da_nil))) da_nil))) da_nil))))))))))))))))))))
  exact (dss_one (ds_ret (de_ifExp (dt_val (de_isFT rfl b_isinstance kit_ValueError (da_cons (de_var (pv 0)) (da_cons (de_ty rfl b_ValueError (by rfl)) da_nil)))) (de_join de_str (da_cons (de_lcB C finL_ok (di_seq (de_var (pv 1))) (show BlkOk N_p_law_classes (defScope s_p_law_classes) _ [("_law_name", 2), ("_law_there", 3)] from ⟨rfl, by decide +kernel, by decide +kernel, by decide +kernel, by decide +kernel⟩) (fun _ _ _ _ _ C1 => (dg_tup C1.calm (dgs_cons (dg_name (i := 2) (pg_name C1.nd rfl (by first | exact Or.inl rfl | exact Or.inr rfl))) (dgs_cons (dg_name (i := 3) (pg_name C1.nd rfl (by first | exact Or.inl rfl | exact Or.inr rfl))) dgs_nil)))) (fun _ _ _ _ _ C1 => (dts_one (dt_val (de_var (pv 3))))) (fun _ _ _ _ _ C1 => (de_var (pv 2)))) da_nil)) de_str)))
theorem ok_p_law_said {P : Program} {w : World} {K : PySem.W.Frag} {mg : Str → Option Value} {base : Heap} (T : Txt K mg) : ∃ fd, FunD K d_p_law_said.name d_p_law_said.qual d_p_law_said.params d_p_law_said.body d_p_law_said.scope (d_p_law_said.dvs K) (d_p_law_said.kws K) (He.fAd K d_p_law_said.at_) fd ∧
    FnG P w K mg base 9 (He.fAd K d_p_law_said.at_) fd ["_law_text"] (spD K mg 1 S_p_law_said) := by
  obtain ⟨fd_read_web, D_read_web, G_read_web⟩ := ok_read_web (P := P) (w := w) (base := base) T
  have m_read_web := glo_read_web T
  obtain ⟨fd_Web_cells, D_Web_cells, G_Web_cells⟩ := ok_Web_cells (P := P) (w := w) (base := base) T
  obtain ⟨fd_Web_pegs, D_Web_pegs, G_Web_pegs⟩ := ok_Web_pegs (P := P) (w := w) (base := base) T
  obtain ⟨fd_p_law_classes, D_p_law_classes, G_p_law_classes⟩ := ok_p_law_classes (P := P) (w := w) (base := base) T
  have m_p_law_classes := glo_p_law_classes T
  obtain ⟨_, i_GREATEST⟩ := int_GREATEST T
  obtain ⟨_, i_MOST_FIELDS⟩ := int_MOST_FIELDS T
  obtain ⟨_, i_MOST_SIGNS⟩ := int_MOST_SIGNS T
  obtain ⟨_, i_FIGURES⟩ := str_FIGURES T
  have gx_BadText := gloc_BadText T
  have gx_BadWeb := gloc_BadWeb T
  have gx_YardError := gloc_YardError T
  have xi_BadText := xic_BadText T
  have exm_YardError := exmc_YardError T
  have H_Web_cells := meth_Web_cells T
  have H_Web_pegs := meth_Web_pegs T
  have I_Web : ∀ {X : Cx}, X.K = K → X.mg = mg → ClsI X "Web" (He.ga K "Web") := fun h1 h2 => ⟨by rw [h2]; exact gloc_Web T, by rw [h1]; exact cls_Web T⟩
  obtain ⟨fd, F⟩ := fun_p_law_said T
  refine ⟨fd, F, fnG (N := N_p_law_said) (ps := ["_law_text"]) (k := 8) (g := m_p_law_said) F ⟨rfl, rfl, rfl, by decide +kernel, rfl, by decide +kernel, by decide +kernel⟩ fun cdv A outer s H E C => ?_⟩
  refine dss_cons (ds_asg (de_tup (da_cons de_non (da_cons de_non da_nil))) (dg_tup C.calm (dgs_cons (dg_name (i := 1) (pg_name C.nd rfl (by first | exact Or.inl rfl | exact Or.inr rfl))) (dgs_cons (dg_name (i := 2) (pg_name C.nd rfl (by first | exact Or.inl rfl | exact Or.inr rfl))) dgs_nil)))) ?_
  refine dss_cons (ds_try C rfl rfl rfl (fun Wn pn xe C => (dss_one (ds_set C (i := 1) rfl (by first | exact Or.inl rfl | exact Or.inr rfl) (de_callL (x := "read_web") G_read_web callOk_sub C rfl m_read_web D_read_web.kp (kb19 D_read_web) (da_cons (de_var (pv 0)) da_nil) dkw_nil)))) (.named ⟨rfl, by decide, .inl gx_YardError⟩ C.nd (i := 3) rfl rfl exm_YardError (fun a pn => (dss_one (ds_setS (by exact C.nd) (i := 2) rfl (by first | exact Or.inl rfl | exact Or.inr rfl) (de_var (pv 3))))) .nil)) ?_
  exact (dss_cons (ds_if (dt_cmp op_isN opd_is (de_var (pv 2)) de_non (nomark _)) (dss_one (ds_ret (de_tup (da_cons (de_meth0L (de_var (pv 1)) (I_Web rfl rfl) H_Web_cells G_Web_cells callOk_sub C (kb20 D_Web_cells) dkw_nil) (da_cons (de_meth0L (de_var (pv 1)) (I_Web rfl rfl) H_Web_pegs G_Web_pegs callOk_sub C (kb21 D_Web_pegs) dkw_nil) da_nil))))) dss_nil) (dss_one (ds_ret (de_ifExp (dt_cmp (opr_eq C) opd_eq (de_callL (x := "_law_classes") G_p_law_classes callOk_sub C rfl m_p_law_classes D_p_law_classes.kp (kb22 D_p_law_classes) (da_cons (de_var (pv 2)) da_nil) dkw_nil) de_str (nomark _)) (de_fldX (de_var (pv 2)) (cs := ["BadText"]) (fun c hc => by rw [List.mem_singleton.mp hc]; exact ⟨_, gx_BadText, xi_BadText.xf, xi_BadText.no _ (by decide +kernel)⟩)) de_str))))
theorem ok_p_law_number {P : Program} {w : World} {K : PySem.W.Frag} {mg : Str → Option Value} {base : Heap} (T : Txt K mg) : ∃ fd, FunD K d_p_law_number.name d_p_law_number.qual d_p_law_number.params d_p_law_number.body d_p_law_number.scope (d_p_law_number.dvs K) (d_p_law_number.kws K) (He.fAd K d_p_law_number.at_) fd ∧
    FnG P w K mg base 1 (He.fAd K d_p_law_number.at_) fd ["_law_word"] (spD K mg 1 S_p_law_number) := by
  have b_int := free_int T
  have b_len := free_len T
  obtain ⟨_, i_GREATEST⟩ := int_GREATEST T
  obtain ⟨_, i_MOST_FIELDS⟩ := int_MOST_FIELDS T
  obtain ⟨_, i_MOST_SIGNS⟩ := int_MOST_SIGNS T
  obtain ⟨_, i_FIGURES⟩ := str_FIGURES T
  obtain ⟨fd, F⟩ := fun_p_law_number T
  refine ⟨fd, F, fnG (N := N_p_law_number) (ps := ["_law_word"]) (k := 0) (g := m_p_law_number) F ⟨rfl, rfl, rfl, by decide +kernel, rfl, by decide +kernel, by decide +kernel⟩ fun cdv A outer s H E C => ?_⟩
  refine dss_cons (ds_set C (i := 1) rfl (by first | exact Or.inl rfl | exact Or.inr rfl) (de_sliceS (de_var (pv 0)) (do_some (de_intB rfl b_int (da_cons (de_cmp (opr_eq C) opd_eq (de_sliceS (de_var (pv 0)) do_none (do_some de_int)) de_str (nomark _)) da_nil))) do_none)) ?_
  exact (dss_cons (ds_if (DW.dt (dw_or (dt_cmp (opr_eq C) opd_eq (de_var (pv 1)) de_str (nomark _)) (dw_or (dt_cmp op_gt opd_gt (de_len rfl b_len (da_cons (de_var (pv 1)) da_nil)) de_int (nomark _)) (dw_or1 (dt_cmp (opr_ne C) opd_ne (de_lcB C finL_ok (di_signs (de_var (pv 1))) (show BlkOk N_p_law_number (defScope s_p_law_number) _ [("_law_sign_here", 2)] from ⟨rfl, by decide +kernel, by decide +kernel, by decide +kernel, by decide +kernel⟩) (fun _ _ _ _ _ C1 => (dg_name (i := 2) (pg_name C1.nd rfl (by first | exact Or.inl rfl | exact Or.inr rfl)))) (fun _ _ _ _ _ C1 => (dts_one (dt_cmp op_notIn_sign opd_notInC (de_var (pv 2)) de_str (by with_unfolding_all rfl)))) (fun _ _ _ _ _ C1 => (de_var (pv 2)))) (de_lst da_nil) (nomark _)))))) (dss_one (ds_ret de_non)) dss_nil) (dss_cons (ds_if (DW.dt (dw_or (DW.dt (dw_and (dt_cmp (opr_eq C) opd_eq (de_sub1 C (de_var (pv 1)) de_int) de_str (nomark _)) (dw_and1 (dt_cmp (opr_ne C) opd_ne (de_var (pv 0)) de_str (nomark _))))) (dw_or1 (dt_cmp op_gt opd_gt (de_intS rfl b_int (da_cons (de_var (pv 1)) da_nil)) (de_pow de_int de_int) (nomark _))))) (dss_one (ds_ret de_non)) dss_nil) (dss_one (ds_ret (de_intS rfl b_int (da_cons (de_var (pv 0)) da_nil))))))
theorem ok_p_law_word_value {P : Program} {w : World} {K : PySem.W.Frag} {mg : Str → Option Value} {base : Heap} (T : Txt K mg) : ∃ fd, FunD K d_p_law_word_value.name d_p_law_word_value.qual d_p_law_word_value.params d_p_law_word_value.body d_p_law_word_value.scope (d_p_law_word_value.dvs K) (d_p_law_word_value.kws K) (He.fAd K d_p_law_word_value.at_) fd ∧
    FnG P w K mg base 2 (He.fAd K d_p_law_word_value.at_) fd ["_law_word"] (spD K mg 1 S_p_law_word_value) := by
  obtain ⟨fd_p_law_number, D_p_law_number, G_p_law_number⟩ := ok_p_law_number (P := P) (w := w) (base := base) T
  have m_p_law_number := glo_p_law_number T
  obtain ⟨_, i_GREATEST⟩ := int_GREATEST T
  obtain ⟨_, i_MOST_FIELDS⟩ := int_MOST_FIELDS T
  obtain ⟨_, i_MOST_SIGNS⟩ := int_MOST_SIGNS T
  obtain ⟨_, i_FIGURES⟩ := str_FIGURES T
  obtain ⟨fd, F⟩ := fun_p_law_word_value T
  refine ⟨fd, F, fnG (N := N_p_law_word_value) (ps := ["_law_word"]) (k := 1) (g := m_p_law_word_value) F ⟨rfl, rfl, rfl, by decide +kernel, rfl, by decide +kernel, by decide +kernel⟩ fun cdv A outer s H E C => ?_⟩
  exact (dss_cons (ds_if (dt_cmp (opr_eq C) opd_eq (de_var (pv 0)) de_str (nomark _)) (dss_one (ds_ret (de_lst (da_cons de_non da_nil)))) dss_nil) (dss_cons (ds_set C (i := 1) rfl (by first | exact Or.inl rfl | exact Or.inr rfl) (de_callL (x := "_law_number") G_p_law_number callOk_sub C rfl m_p_law_number D_p_law_number.kp (kb23 D_p_law_number) (da_cons (de_ifExp (dt_cmp (opr_eq C) opd_eq (de_sub1 C (de_var (pv 0)) de_int) de_str (nomark _)) (de_sliceS (de_var (pv 0)) (do_some de_int) do_none) (de_var (pv 0))) da_nil) dkw_nil)) (dss_cons (ds_if (DW.dt (dw_or (dt_cmp op_isN opd_is (de_var (pv 1)) de_non (nomark _)) (dw_or1 (DW.dt (dw_and (dt_cmp (opr_eq C) opd_eq (de_sub1 C (de_var (pv 0)) de_int) de_str (nomark _)) (dw_and1 (dt_cmp (opr_eq C) opd_eq (de_sub1 C (de_var (pv 0)) de_int) de_str (nomark _)))))))) (dss_one (ds_ret (de_lst da_nil))) dss_nil) (dss_one (ds_ret (de_lst (da_cons (de_ifExp (dt_cmp (opr_eq C) opd_eq (de_sub1 C (de_var (pv 0)) de_int) de_str (nomark _)) (de_tup (da_cons de_str (da_cons (de_var (pv 1)) da_nil))) (de_var (pv 1))) da_nil)))))))
theorem ok_p_law_row {P : Program} {w : World} {K : PySem.W.Frag} {mg : Str → Option Value} {base : Heap} (T : Txt K mg) : ∃ fd, FunD K d_p_law_row.name d_p_law_row.qual d_p_law_row.params d_p_law_row.body d_p_law_row.scope (d_p_law_row.dvs K) (d_p_law_row.kws K) (He.fAd K d_p_law_row.at_) fd ∧
    FnG P w K mg base 3 (He.fAd K d_p_law_row.at_) fd ["_law_words"] (spD K mg 1 S_p_law_row) := by
  obtain ⟨fd_p_law_word_value, D_p_law_word_value, G_p_law_word_value⟩ := ok_p_law_word_value (P := P) (w := w) (base := base) T
  have m_p_law_word_value := glo_p_law_word_value T
  have b_int := free_int T
  have b_isinstance := free_isinstance T
  have b_len := free_len T
  obtain ⟨_, i_GREATEST⟩ := int_GREATEST T
  obtain ⟨_, i_MOST_FIELDS⟩ := int_MOST_FIELDS T
  obtain ⟨_, i_MOST_SIGNS⟩ := int_MOST_SIGNS T
  obtain ⟨_, i_FIGURES⟩ := str_FIGURES T
  obtain ⟨fd, F⟩ := fun_p_law_row T
  refine ⟨fd, F, fnG (N := N_p_law_row) (ps := ["_law_words"]) (k := 2) (g := m_p_law_row) F ⟨rfl, rfl, rfl, by decide +kernel, rfl, by decide +kernel, by decide +kernel⟩ fun cdv A outer s H E C => ?_⟩
  refine dss_cons (ds_setLcB C finL_ok (i := 1) rfl rfl (sw_true rfl rfl rfl (by decide +kernel)) (di_seq (de_slice (de_var (pv 0)) (do_some de_int) do_none)) (show BlkOk N_p_law_row (defScope s_p_law_row) _ [("_law_word", 3)] from ⟨rfl, by decide +kernel, by decide +kernel, by decide +kernel, by decide +kernel⟩) (fun _ _ _ _ _ C1 => (dg_name (i := 3) (pg_name C1.nd rfl (by first | exact Or.inl rfl | exact Or.inr rfl)))) (fun _ _ _ _ _ C1 => dts_nil) (fun _ _ _ _ _ C1 => (de_callL (x := "_law_word_value") G_p_law_word_value callOk_sub C1 rfl m_p_law_word_value D_p_law_word_value.kp (kb24 D_p_law_word_value) (da_cons (de_var (pv 3)) da_nil) dkw_nil))) ?_
  refine dss_cons (ds_if (DW.dt (dw_or (dt_cmp (opr_notIn C) opd_notIn (de_sub1 C (de_var (pv 0)) de_int) (de_tup (da_cons de_str (da_cons de_str (da_cons de_str (da_cons de_str da_nil))))) (by with_unfolding_all rfl)) (dw_or1 (dt_cmp (L2.op_inD C.u65) opd_inP (de_lst da_nil) (de_var (pv 1)) (by with_unfolding_all rfl))))) (dss_one (ds_ret de_non)) dss_nil) ?_
  refine dss_cons (ds_setLcB C finL_ok (i := 2) rfl rfl (sw_true rfl rfl rfl (by decide +kernel)) (di_seq (de_var (pv 1))) (show BlkOk N_p_law_row (defScope s_p_law_row) _ [("_law_one", 4)] from ⟨rfl, by decide +kernel, by decide +kernel, by decide +kernel, by decide +kernel⟩) (fun _ _ _ _ _ C1 => (dg_name (i := 4) (pg_name C1.nd rfl (by first | exact Or.inl rfl | exact Or.inr rfl)))) (fun _ _ _ _ _ C1 => dts_nil) (fun _ _ _ _ _ C1 => (de_sub1 C1 (de_var (pv 4)) de_int))) ?_
  exact (dss_cons (ds_if (DW.dt (dw_and (dt_cmp (opr_in C) opd_in (de_sub1 C (de_var (pv 0)) de_int) (de_tup (da_cons de_str (da_cons de_str da_nil))) (by with_unfolding_all rfl)) (dw_and1 (dt_cmp op_gt opd_gt (de_len rfl b_len (da_cons (de_var (pv 2)) da_nil)) de_int (nomark _))))) (dss_one (ds_ret de_non)) dss_nil) (dss_cons (ds_if (DW.dt (dw_and (dt_cmp (opr_eq C) opd_eq (de_sub1 C (de_var (pv 0)) de_int) de_str (nomark _)) (dw_and1 (DW.dt (dw_or (dt_cmp (opr_ne C) opd_ne (de_len rfl b_len (da_cons (de_var (pv 2)) da_nil)) de_int (nomark _)) (dw_or1 (dt_val (de_isi rfl b_isinstance (da_cons (de_sub1 C (de_var (pv 2)) de_int) (da_cons (de_ty rfl b_int (by rfl)) da_nil)))))))))) (dss_one (ds_ret de_non)) dss_nil) (dss_one (ds_ret (de_tup (da_cons (de_sub1 C (de_var (pv 0)) de_int) (da_cons (de_var (pv 2)) da_nil)))))))
theorem ok_p_law_read {P : Program} {w : World} {K : PySem.W.Frag} {mg : Str → Option Value} {base : Heap} (T : Txt K mg) : ∃ fd, FunD K d_p_law_read.name d_p_law_read.qual d_p_law_read.params d_p_law_read.body d_p_law_read.scope (d_p_law_read.dvs K) (d_p_law_read.kws K) (He.fAd K d_p_law_read.at_) fd ∧
    FnG P w K mg base 4 (He.fAd K d_p_law_read.at_) fd ["_law_text"] (spD K mg 1 S_p_law_read) := by
  obtain ⟨fd_p_law_row, D_p_law_row, G_p_law_row⟩ := ok_p_law_row (P := P) (w := w) (base := base) T
  have m_p_law_row := glo_p_law_row T
  have b_enumerate := free_enumerate T
  have b_isinstance := free_isinstance T
  have b_len := free_len T
  have b_tuple := free_tuple T
  obtain ⟨_, i_GREATEST⟩ := int_GREATEST T
  obtain ⟨_, i_MOST_FIELDS⟩ := int_MOST_FIELDS T
  obtain ⟨_, i_MOST_SIGNS⟩ := int_MOST_SIGNS T
  obtain ⟨_, i_FIGURES⟩ := str_FIGURES T
  obtain ⟨fd, F⟩ := fun_p_law_read T
  refine ⟨fd, F, fnG (N := N_p_law_read) (ps := ["_law_text"]) (k := 3) (g := m_p_law_read) F ⟨rfl, rfl, rfl, by decide +kernel, rfl, by decide +kernel, by decide +kernel⟩ fun cdv A outer s H E C => ?_⟩
  refine dss_cons (ds_set C (i := 1) rfl (by first | exact Or.inl rfl | exact Or.inr rfl) (de_split (de_var (pv 0)) (da_cons de_str da_nil))) ?_
  refine dss_cons (ds_if (dt_cmp (opr_eq C) opd_eq (de_sub1 C (de_var (pv 1)) (de_neg de_int)) de_str (nomark _)) (dss_one (ds_set C (i := 1) rfl (by first | exact Or.inl rfl | exact Or.inr rfl) (de_slice (de_var (pv 1)) do_none (do_some (de_neg de_int))))) dss_nil) ?_
  refine dss_cons (ds_set C (i := 2) rfl (by first | exact Or.inl rfl | exact Or.inr rfl) (de_lstO da_nil)) ?_
  refine dss_cons ?_ ?_
  · refine ds_for C (di_enum rfl b_enumerate (da_cons (de_var (pv 1)) da_nil)) (dg_tup C.calm (dgs_cons (dg_name (i := 3) (pg_name C.nd rfl (by first | exact Or.inl rfl | exact Or.inr rfl))) (dgs_cons (dg_name (i := 4) (pg_name C.nd rfl (by first | exact Or.inl rfl | exact Or.inr rfl))) dgs_nil))) ?_
    refine dss_cons (ds_setLcB C finL_ok (i := 5) rfl rfl (sw_true rfl rfl rfl (by decide +kernel)) (di_seq (de_split (de_var (pv 4)) (da_cons de_str da_nil))) (show BlkOk N_p_law_read (defScope s_p_law_read) _ [("_law_word", 11)] from ⟨rfl, by decide +kernel, by decide +kernel, by decide +kernel, by decide +kernel⟩) (fun _ _ _ _ _ C1 => (dg_name (i := 11) (pg_name C1.nd rfl (by first | exact Or.inl rfl | exact Or.inr rfl)))) (fun _ _ _ _ _ C1 => (dts_one (dt_cmp (opr_ne C1) opd_ne (de_var (pv 11)) de_str (nomark _)))) (fun _ _ _ _ _ C1 => (de_var (pv 11)))) ?_
    refine dss_one ?_
    refine ds_if (dt_cmp (opr_ne C) opd_ne (de_var (pv 5)) (de_lst da_nil) (nomark _)) ?_ ?_
    · refine dss_cons (ds_set C (i := 6) rfl (by first | exact Or.inl rfl | exact Or.inr rfl) (de_callL (x := "_law_row") G_p_law_row callOk_sub C rfl m_p_law_row D_p_law_row.kp (kb25 D_p_law_row) (da_cons (de_var (pv 5)) da_nil) dkw_nil)) ?_
      exact (dss_cons (ds_if (DW.dt (dw_or (dt_cmp op_isN opd_is (de_var (pv 6)) de_non (nomark _)) (dw_or1 (dt_cmp (opr_ne C) opd_ne (de_lcB C finL_ok (di_seq (de_var (pv 2))) (show BlkOk N_p_law_read (defScope s_p_law_read) _ [("_law_number_here", 12), ("_law_there", 13)] from ⟨rfl, by decide +kernel, by decide +kernel, by decide +kernel, by decide +kernel⟩) (fun _ _ _ _ _ C1 => (dg_tup C1.calm (dgs_cons (dg_name (i := 12) (pg_name C1.nd rfl (by first | exact Or.inl rfl | exact Or.inr rfl))) (dgs_cons (dg_name (i := 13) (pg_name C1.nd rfl (by first | exact Or.inl rfl | exact Or.inr rfl))) dgs_nil)))) (fun _ _ _ _ _ C1 => (dts_one (dt_cmp (opr_eq C1) opd_eq (de_sub1 C1 (de_var (pv 13)) de_int) de_str (nomark _)))) (fun _ _ _ _ _ C1 => de_int)) (de_lst da_nil) (nomark _))))) (dss_one (ds_ret (de_var (pv 3)))) dss_nil) (dss_one (ds_expr (de_append (de_var (pv 2)) (da_cons (de_tup (da_cons (de_var (pv 3)) (da_cons (de_var (pv 6)) da_nil))) da_nil)))))
    · exact dss_nil
  refine dss_cons (ds_set C (i := 7) rfl (by first | exact Or.inl rfl | exact Or.inr rfl) (de_lcB C finL_ok (di_seq (de_var (pv 2))) (show BlkOk N_p_law_read (defScope s_p_law_read) _ [("_law_at", 3), ("_law_one", 6)] from ⟨rfl, by decide +kernel, by decide +kernel, by decide +kernel, by decide +kernel⟩) (fun _ _ _ _ _ C1 => (dg_tup C1.calm (dgs_cons (dg_name (i := 3) (pg_name C1.nd rfl (by first | exact Or.inl rfl | exact Or.inr rfl))) (dgs_cons (dg_name (i := 6) (pg_name C1.nd rfl (by first | exact Or.inl rfl | exact Or.inr rfl))) dgs_nil)))) (fun _ _ _ _ _ C1 => (dts_one (dt_cmp (opr_ne C1) opd_ne (de_sub1 C1 (de_var (pv 6)) de_int) de_str (nomark _)))) (fun _ _ _ _ _ C1 => (de_var (pv 6))))) ?_
  refine dss_cons (ds_for C (di_seq (de_var (pv 2))) (dg_tup C.calm (dgs_cons (dg_name (i := 3) (pg_name C.nd rfl (by first | exact Or.inl rfl | exact Or.inr rfl))) (dgs_cons (dg_tup C.calm (dgs_cons (dg_name (i := 8) (pg_name C.nd rfl (by first | exact Or.inl rfl | exact Or.inr rfl))) (dgs_cons (dg_name (i := 9) (pg_name C.nd rfl (by first | exact Or.inl rfl | exact Or.inr rfl))) dgs_nil))) dgs_nil))) (dss_one (ds_if (dt_cmp (opr_ne C) opd_ne (de_lcB C finL_ok (di_seq (de_var (pv 9))) (show BlkOk N_p_law_read (defScope s_p_law_read) _ [("_law_value_here", 14)] from ⟨rfl, by decide +kernel, by decide +kernel, by decide +kernel, by decide +kernel⟩) (fun _ _ _ _ _ C1 => (dg_name (i := 14) (pg_name C1.nd rfl (by first | exact Or.inl rfl | exact Or.inr rfl)))) (fun _ _ _ _ _ C1 => (dts_one (DW.dt (dw_and (dt_val (de_isi rfl b_isinstance (da_cons (de_var (pv 14)) (da_cons (de_ty rfl b_tuple (by rfl)) da_nil)))) (dw_and1 (dt_cmp op_ge opd_ge (de_sub1 C1 (de_var (pv 14)) de_int) (de_len rfl b_len (da_cons (de_var (pv 7)) da_nil)) (nomark _))))))) (fun _ _ _ _ _ C1 => (de_var (pv 14)))) (de_lst da_nil) (nomark _)) (dss_one (ds_ret (de_var (pv 3)))) dss_nil))) ?_
  refine dss_cons (ds_if (DW.dt (dw_or (dt_cmp (opr_eq C) opd_eq (de_var (pv 2)) (de_lst da_nil) (nomark _)) (dw_or1 (dt_cmp (opr_ne C) opd_ne (de_sub1 C (de_sub1 C (de_sub1 C (de_var (pv 2)) (de_neg de_int)) de_int) de_int) de_str (nomark _))))) (dss_one (ds_ret (de_len rfl b_len (da_cons (de_var (pv 1)) da_nil)))) dss_nil) ?_
  exact (dss_cons (ds_set C (i := 10) rfl (by first | exact Or.inl rfl | exact Or.inr rfl) (de_lstO da_nil)) (dss_cons (ds_for C (di_seq (de_var (pv 7))) (dg_tup C.calm (dgs_cons (dg_name (i := 8) (pg_name C.nd rfl (by first | exact Or.inl rfl | exact Or.inr rfl))) (dgs_cons (dg_name (i := 9) (pg_name C.nd rfl (by first | exact Or.inl rfl | exact Or.inr rfl))) dgs_nil))) (dss_one (ds_if (dt_cmp (opr_eq C) opd_eq (de_var (pv 8)) de_str (nomark _)) (dss_one (ds_expr (de_append (de_var (pv 10)) (da_cons (de_tup (da_cons (de_var (pv 8)) (da_cons (de_ifExp (dt_cmp op_isN opd_is (de_sub1 C (de_var (pv 9)) de_int) de_non (nomark _)) de_non (de_sub1 C (de_sub1 C (de_var (pv 9)) de_int) de_int)) da_nil))) da_nil)))) (dss_one (ds_expr (de_append (de_var (pv 10)) (da_cons (de_tup (da_cons (de_var (pv 8)) (da_cons (de_tuple rfl b_tuple (da_cons (de_var (pv 9)) da_nil)) da_nil))) da_nil))))))) (dss_one (ds_ret (de_tup (da_cons (de_frz (de_var (pv 10))) (da_cons (de_sub1 C (de_sub1 C (de_sub1 C (de_var (pv 2)) (de_neg de_int)) de_int) de_int) da_nil)))))))
theorem ok_p_law_odd {P : Program} {w : World} {K : PySem.W.Frag} {mg : Str → Option Value} {base : Heap} (T : Txt K mg) : ∃ fd, FunD K d_p_law_odd.name d_p_law_odd.qual d_p_law_odd.params d_p_law_odd.body d_p_law_odd.scope (d_p_law_odd.dvs K) (d_p_law_odd.kws K) (He.fAd K d_p_law_odd.at_) fd ∧
    FnG P w K mg base 2 (He.fAd K d_p_law_odd.at_) fd ["_law_state_here"] (spD K mg 1 S_p_law_odd) := by
  obtain ⟨fd_p_law_next, D_p_law_next, G_p_law_next⟩ := ok_p_law_next (P := P) (w := w) (base := base) T
  have m_p_law_next := glo_p_law_next T
  obtain ⟨_, i_GREATEST⟩ := int_GREATEST T
  obtain ⟨_, i_MOST_FIELDS⟩ := int_MOST_FIELDS T
  obtain ⟨_, i_MOST_SIGNS⟩ := int_MOST_SIGNS T
  obtain ⟨_, i_FIGURES⟩ := str_FIGURES T
  obtain ⟨fd, F⟩ := fun_p_law_odd T
  refine ⟨fd, F, fnG (N := N_p_law_odd) (ps := ["_law_state_here"]) (k := 1) (g := m_p_law_odd) F ⟨rfl, rfl, rfl, by decide +kernel, rfl, by decide +kernel, by decide +kernel⟩ fun cdv A outer s H E C => ?_⟩
  exact (dss_cons (ds_set C (i := 1) rfl (by first | exact Or.inl rfl | exact Or.inr rfl) (de_lst (da_cons de_bl (da_cons de_bl (da_cons de_non (da_cons de_str (da_cons de_str (da_cons (de_tup (da_cons de_int da_nil)) (da_cons (de_lst (da_cons de_int da_nil)) (da_cons de_dictE (da_cons (de_tup (da_cons de_str (da_cons de_int da_nil))) (da_cons (de_add (de_pow de_int de_int) (de_callL (x := "_law_next") G_p_law_next callOk_sub C rfl m_p_law_next D_p_law_next.kp (kb0 D_p_law_next) (da_cons (de_var (pv 0)) (da_cons (de_pow de_int de_int) da_nil)) dkw_nil)) (da_cons (de_neg de_int) (da_cons de_str da_nil)))))))))))))) (dss_one (ds_ret (de_sub1 C (de_var (pv 1)) (de_callL (x := "_law_next") G_p_law_next callOk_sub C rfl m_p_law_next D_p_law_next.kp (kb0 D_p_law_next) (da_cons (de_var (pv 0)) (da_cons de_int da_nil)) dkw_nil)))))
theorem ok_law {P : Program} {w : World} {K : PySem.W.Frag} {mg : Str → Option Value} {base : Heap} (T : Txt K mg) : ∃ fd, FunD K d_law.name d_law.qual d_law.params d_law.body d_law.scope (d_law.dvs K) (d_law.kws K) (He.fAd K d_law.at_) fd ∧
    FnG P w K mg base 10 (He.fAd K d_law.at_) fd ["_law_script"] (spD K mg 1 S_law) := by
  obtain ⟨fd_p_law_state, D_p_law_state, G_p_law_state⟩ := ok_p_law_state (P := P) (w := w) (base := base) T
  have m_p_law_state := glo_p_law_state T
  obtain ⟨fd_p_law_next, D_p_law_next, G_p_law_next⟩ := ok_p_law_next (P := P) (w := w) (base := base) T
  have m_p_law_next := glo_p_law_next T
  obtain ⟨fd_p_law_piece, D_p_law_piece, G_p_law_piece⟩ := ok_p_law_piece (P := P) (w := w) (base := base) T
  have m_p_law_piece := glo_p_law_piece T
  obtain ⟨fd_p_law_web, D_p_law_web, G_p_law_web⟩ := ok_p_law_web (P := P) (w := w) (base := base) T
  have m_p_law_web := glo_p_law_web T
  obtain ⟨fd_p_law_rows, D_p_law_rows, G_p_law_rows⟩ := ok_p_law_rows (P := P) (w := w) (base := base) T
  have m_p_law_rows := glo_p_law_rows T
  obtain ⟨fd_p_law_spoilt, D_p_law_spoilt, G_p_law_spoilt⟩ := ok_p_law_spoilt (P := P) (w := w) (base := base) T
  have m_p_law_spoilt := glo_p_law_spoilt T
  obtain ⟨fd_p_law_said, D_p_law_said, G_p_law_said⟩ := ok_p_law_said (P := P) (w := w) (base := base) T
  have m_p_law_said := glo_p_law_said T
  obtain ⟨fd_p_law_read, D_p_law_read, G_p_law_read⟩ := ok_p_law_read (P := P) (w := w) (base := base) T
  have m_p_law_read := glo_p_law_read T
  obtain ⟨fd_p_law_odd, D_p_law_odd, G_p_law_odd⟩ := ok_p_law_odd (P := P) (w := w) (base := base) T
  have m_p_law_odd := glo_p_law_odd T
  have b_isinstance := free_isinstance T
  have b_len := free_len T
  have b_max := free_max T
  have b_range := free_range T
  have b_repr := free_repr T
  have b_str := free_str T
  obtain ⟨_, i_GREATEST⟩ := int_GREATEST T
  obtain ⟨_, i_MOST_FIELDS⟩ := int_MOST_FIELDS T
  obtain ⟨_, i_MOST_SIGNS⟩ := int_MOST_SIGNS T
  obtain ⟨_, i_FIGURES⟩ := str_FIGURES T
  obtain ⟨fd, F⟩ := fun_law T
  refine ⟨fd, F, fnG (N := N_law) (ps := ["_law_script"]) (k := 9) (g := m_law) F ⟨rfl, rfl, rfl, by decide +kernel, rfl, by decide +kernel, by decide +kernel⟩ fun cdv A outer s H E C => ?_⟩
  refine dss_cons ?_ ?_
  · refine ds_for C (di_range1 rfl b_range (da_cons (de_max C rfl b_max (da_cons de_int (da_cons (de_len rfl b_len (da_cons (de_var (pv 0)) da_nil)) da_nil))) da_nil)) (dg_name (i := 1) (pg_name C.nd rfl (by first | exact Or.inl rfl | exact Or.inr rfl))) ?_
    refine dss_cons (ds_set C (i := 2) rfl (by first | exact Or.inl rfl | exact Or.inr rfl) (de_callL (x := "_law_state") G_p_law_state callOk_share C rfl m_p_law_state D_p_law_state.kp (kb26 D_p_law_state) (da_cons (de_var (pv 0)) (da_cons (de_var (pv 1)) da_nil)) dkw_nil)) ?_
    refine dss_cons (ds_setLcB C finL_ok (i := 3) rfl rfl (sw_true rfl rfl rfl (by decide +kernel)) (di_range1 rfl b_range (da_cons (de_callL (x := "_law_next") G_p_law_next callOk_sub C rfl m_p_law_next D_p_law_next.kp (kb0 D_p_law_next) (da_cons (de_var (pv 2)) (da_cons de_int da_nil)) dkw_nil) da_nil)) (show BlkOk N_law (defScope s_law) _ [("_law_j", 12)] from ⟨rfl, by decide +kernel, by decide +kernel, by decide +kernel, by decide +kernel⟩) (fun _ _ _ _ _ C1 => (dg_name (i := 12) (pg_name C1.nd rfl (by first | exact Or.inl rfl | exact Or.inr rfl)))) (fun _ _ _ _ _ C1 => dts_nil) (fun _ _ _ _ _ C1 => (de_callL (x := "_law_piece") G_p_law_piece callOk_sub C1 rfl m_p_law_piece D_p_law_piece.kp (kb27 D_p_law_piece) (da_cons (de_var (pv 2)) da_nil) dkw_nil))) ?_
    refine dss_cons (ds_set C (i := 4) rfl (by first | exact Or.inl rfl | exact Or.inr rfl) (de_sub1 C (de_lst (da_cons (de_lst da_nil) (da_cons (de_lst (da_cons de_str da_nil)) (da_cons (de_lst (da_cons de_str da_nil)) (da_cons (de_lst (da_cons de_str (da_cons de_str da_nil))) da_nil))))) (de_callL (x := "_law_next") G_p_law_next callOk_sub C rfl m_p_law_next D_p_law_next.kp (kb0 D_p_law_next) (da_cons (de_var (pv 2)) (da_cons de_int da_nil)) dkw_nil))) ?_
    refine dss_cons (ds_set C (i := 5) rfl (by first | exact Or.inl rfl | exact Or.inr rfl) (de_add (de_join de_str (da_cons (de_add (de_var (pv 3)) (de_var (pv 4))) da_nil)) (de_sub1 C (de_lst (da_cons de_str (da_cons de_str (da_cons de_str (da_cons de_str da_nil))))) (de_callL (x := "_law_next") G_p_law_next callOk_sub C rfl m_p_law_next D_p_law_next.kp (kb0 D_p_law_next) (da_cons (de_var (pv 2)) (da_cons de_int da_nil)) dkw_nil)))) ?_
    refine dss_cons (ds_asg (de_callL (x := "_law_web") G_p_law_web callOk_sub C rfl m_p_law_web D_p_law_web.kp (kb28 D_p_law_web) (da_cons (de_var (pv 2)) (da_cons de_int da_nil)) dkw_nil) (dg_tup C.calm (dgs_cons (dg_name (i := 6) (pg_name C.nd rfl (by first | exact Or.inl rfl | exact Or.inr rfl))) (dgs_cons (dg_name (i := 7) (pg_name C.nd rfl (by first | exact Or.inl rfl | exact Or.inr rfl))) dgs_nil)))) ?_
    refine dss_cons (ds_set C (i := 8) rfl (by first | exact Or.inl rfl | exact Or.inr rfl) (de_add (de_join de_str (da_cons (de_callL (x := "_law_rows") G_p_law_rows callOk_sub C rfl m_p_law_rows D_p_law_rows.kp (kb29 D_p_law_rows) (da_cons (de_var (pv 6)) (da_cons (de_var (pv 7)) da_nil)) dkw_nil) da_nil)) de_str)) ?_
    refine dss_cons (ds_for C (di_range1 rfl b_range (da_cons (de_add de_int (de_callL (x := "_law_next") G_p_law_next callOk_sub C rfl m_p_law_next D_p_law_next.kp (kb0 D_p_law_next) (da_cons (de_var (pv 2)) (da_cons de_int da_nil)) dkw_nil)) da_nil)) (dg_name (i := 9) (pg_name C.nd rfl (by first | exact Or.inl rfl | exact Or.inr rfl))) (dss_one (ds_set C (i := 8) rfl (by first | exact Or.inl rfl | exact Or.inr rfl) (de_callL (x := "_law_spoilt") G_p_law_spoilt callOk_sub C rfl m_p_law_spoilt D_p_law_spoilt.kp (kb30 D_p_law_spoilt) (da_cons (de_var (pv 2)) (da_cons (de_var (pv 8)) da_nil)) dkw_nil)))) ?_
    refine dss_cons ?_ ?_
    · refine ds_if (dt_cmp (opr_ne C) opd_ne (de_repr C rfl b_repr (da_cons (de_lst (da_cons (de_callL (x := "_law_said") G_p_law_said callOk_sub C rfl m_p_law_said D_p_law_said.kp (kb31 D_p_law_said) (da_cons (de_var (pv 5)) da_nil) dkw_nil) (da_cons (de_callL (x := "_law_said") G_p_law_said callOk_sub C rfl m_p_law_said D_p_law_said.kp (kb31 D_p_law_said) (da_cons (de_var (pv 8)) da_nil) dkw_nil) da_nil))) da_nil)) (de_repr C rfl b_repr (da_cons (de_lst (da_cons (de_callL (x := "_law_read") G_p_law_read callOk_sub C rfl m_p_law_read D_p_law_read.kp (kb32 D_p_law_read) (da_cons (de_var (pv 5)) da_nil) dkw_nil) (da_cons (de_callL (x := "_law_read") G_p_law_read callOk_sub C rfl m_p_law_read D_p_law_read.kp (kb32 D_p_law_read) (da_cons (de_var (pv 8)) da_nil) dkw_nil) da_nil))) da_nil)) (nomark _)) ?_ ?_
      · exact (dss_one (ds_ret de_bl))
      · exact dss_nil
    refine dss_cons (ds_set C (i := 10) rfl (by first | exact Or.inl rfl | exact Or.inr rfl) (de_sub1 C (de_lst (da_cons (de_callL (x := "_law_odd") G_p_law_odd callOk_sub C rfl m_p_law_odd D_p_law_odd.kp (kb33 D_p_law_odd) (da_cons (de_var (pv 2)) da_nil) dkw_nil) (da_cons (de_lst (da_cons (de_var (pv 5)) da_nil)) (da_cons (de_tup (da_cons (de_var (pv 5)) da_nil)) (da_cons (de_disp (dps_cons (de_var (pv 5)) de_int dps_nil)) da_nil))))) (de_callL (x := "_law_next") G_p_law_next callOk_sub C rfl m_p_law_next D_p_law_next.kp (kb0 D_p_law_next) (da_cons (de_var (pv 2)) (da_cons de_int da_nil)) dkw_nil))) ?_
    exact (dss_cons (ds_set C (i := 11) rfl (by first | exact Or.inl rfl | exact Or.inr rfl) (de_ifExp (dt_val (de_isi rfl b_isinstance (da_cons (de_var (pv 10)) (da_cons (de_ty rfl b_str (by rfl)) da_nil)))) (de_callL (x := "_law_read") G_p_law_read callOk_sub C rfl m_p_law_read D_p_law_read.kp (kb32 D_p_law_read) (da_cons (de_var (pv 10)) da_nil) dkw_nil) de_int)) (dss_one (ds_if (dt_cmp (opr_ne C) opd_ne (de_repr C rfl b_repr (da_cons (de_callL (x := "_law_said") G_p_law_said callOk_sub C rfl m_p_law_said D_p_law_said.kp (kb31 D_p_law_said) (da_cons (de_var (pv 10)) da_nil) dkw_nil) da_nil)) (de_repr C rfl b_repr (da_cons (de_var (pv 11)) da_nil)) (nomark _)) (dss_one (ds_ret de_bl)) dss_nil)))
  exact (dss_one (ds_ret de_bl))
end K03

/-! Plain laws, part 1: what mirrors come to. -/
namespace DL
open PySem L2

/-! ### calls -/
theorem subArgs_pure {S : Store} : ∀ (ds : List D) (n : Nat), pureL ds = true → subArgs S ds n = some (ds, [])
  | [], _, _ => rfl
  | d :: ds, n, h => by
    unfold pureL at h
    rw [Bool.and_eq_true] at h
    have q := subArgs_pure (S := S) ds n h.2
    cases d with
    | oid k => exact absurd h.1 (by unfold D.pure; exact Bool.false_ne_true)
    | _ =>
      unfold subArgs
      rw [if_pos h.1, q]
      rfl
theorem callSub_ok {sem : Sem'} {args : List D} {d : D} {S S' : Store} (hp : pureL args = true) (h : sem args [] = .ok d S') (hd : d.pure = true) : callSub sem args S = .ok d S := by
  unfold callSub
  rw [subArgs_pure args 0 hp]
  simp only [List.nodup_nil, if_true, subOf, List.map_nil, h, hd, List.length_nil, List.take_zero, List.all_nil, Nat.zero_le, decide_true, Bool.and_true, Bool.and_self]
  rw [show putBack S [] S' = S by unfold putBack; rfl]
theorem callSub_st {sem : Sem'} {args : List D} {d : D} {S S' : Store} {n : Nat} {xs ys : List D} (hS : S[n]? = some (.lst xs)) (hx : pureL xs = true) (hp : pureL args = true) (h : sem (.oid 0 :: args) [.lst xs] = .ok d (.lst ys :: S')) (hd : d.pure = true) (hy : pureL ys = true) :
    callSub sem (.oid n :: args) S = .ok d (S.set n (.lst ys)) := by
  unfold callSub
  have e : subArgs S (.oid n :: args) 0 = some (.oid 0 :: args, [n]) := by
    unfold subArgs
    rw [hS]
    simp only
    rw [if_pos (show SO.pure (.lst xs) = true from hx), subArgs_pure args 1 hp]
    rfl
  have e2 : subOf S [n] = [.lst xs] := by
    unfold subOf
    simp [hS]
  rw [e]
  simp only [e2, h, hd]
  have nd : [n].Nodup := by simp
  rw [if_pos nd]
  have q : (List.all (List.take [n].length (SO.lst ys :: S')) SO.pure && decide ([n].length ≤ (SO.lst ys :: S').length)) = true := by
    simp [SO.pure, hy]
  rw [q]
  rw [if_pos (by rfl)]
  simp [putBack]
/-! ### loops -/
theorem loopF_nil {m : FG} {b : FS} {ρ : EnvD} {S : Store} : loopF none m b [] ρ S = .nx ρ S := by
  unfold loopF
  rw [if_pos (show okC none _ from trivial)]
theorem loopF_cons {m : FG} {b : FS} {d : D} {ds : List D} {ρ ρ1 : EnvD} {S : Store} (hm : m d ρ S = some ρ1) : loopF none m b (d :: ds) ρ S = (match b ρ1 S with
    | .nx ρ S => loopF none m b ds ρ S
    | .ct ρ S => loopF none m b ds ρ S
    | .bk ρ S => .nx ρ S
    | o => o) := by
  rw [loopF]
  rw [if_pos (show okC none _ from trivial), hm]
  all_goals rfl
theorem loopC_nil {d : D} {es : List D} {m : FG} {b : FS} {ρ : EnvD} {S : Store} (h : asL S d = some es) : loopF (some (d, es)) m b [] ρ S = .nx ρ S := by
  unfold loopF
  rw [if_pos (show okC (some (d, es)) _ from h)]
/-- a loop by its invariant -/
theorem loop_inv {m : FG} {b : FS} (I : Nat → EnvD → Store → Prop) : ∀ (ds : List D) (i : Nat) (ρ : EnvD) (S : Store), I i ρ S →
    (∀ j d ρ S, ds[j]? = some d → I (i + j) ρ S → ∃ ρ1 ρ2 S2, m d ρ S = some ρ1 ∧ (b ρ1 S = .nx ρ2 S2 ∨ b ρ1 S = .ct ρ2 S2) ∧ I (i + j + 1) ρ2 S2) → ∃ ρ' S', loopF none m b ds ρ S = .nx ρ' S' ∧ I (i + ds.length) ρ' S'
  | [], i, ρ, S, h0, _ => ⟨ρ, S, loopF_nil, h0⟩
  | d :: ds, i, ρ, S, h0, step => by
    obtain ⟨ρ1, ρ2, S2, h1, h2, h3⟩ := step 0 d ρ S rfl h0
    obtain ⟨ρ', S', q1, q2⟩ := loop_inv I ds (i + 1) ρ2 S2 h3 fun j e ρ S hj hI => by
      have := step (j + 1) e ρ S hj (by rw [show i + (j + 1) = i + 1 + j by omega]; exact hI)
      rw [show i + (j + 1) = i + 1 + j by omega] at this
      exact this
    refine ⟨ρ', S', ?_, by rw [List.length_cons, show i + (ds.length + 1) = i + 1 + ds.length by omega]; exact q2⟩
    rw [loopF_cons h1]
    rcases h2 with h2 | h2 <;> (rw [h2]; exact q1)
/-! ### comprehensions -/
theorem compF_nil {m : FG} {ft : FT} {fe : FE} {ρ : EnvD} {S : Store} : compF none m ft fe [] ρ S = .ok [] S := by
  unfold compF
  rw [if_pos (show okC none _ from trivial)]
theorem compF_cons {m : FG} {ft : FT} {fe : FE} {d : D} {ds : List D} {ρ ρ1 : EnvD} {S : Store} (hm : m d ρ S = some ρ1) :
    compF none m ft fe (d :: ds) ρ S = (ft ρ1 S).noEx.bind fun b S => if b then (fe ρ1 S).noEx.bind fun y S => (compF none m ft fe ds ρ S).bind fun ys S => .ok (y :: ys) S else compF none m ft fe ds ρ S := by
  rw [compF]
  rw [if_pos (show okC none _ from trivial), hm]
/-- no test, the store stays -/
theorem comp_map {m : FG} {fe : FE} {f : D → D} {ρ : EnvD} {S : Store} : ∀ (ds : List D), (∀ d ∈ ds, ∃ ρ1, m d ρ S = some ρ1 ∧ fe ρ1 S = .ok (f d) S) → compF none m fYes fe ds ρ S = .ok (ds.map f) S
  | [], _ => compF_nil
  | d :: ds, h => by
    obtain ⟨ρ1, h1, h2⟩ := h d List.mem_cons_self
    rw [compF_cons h1]
    have q := comp_map (m := m) (fe := fe) (f := f) (ρ := ρ) (S := S) ds fun e he => h e (List.mem_cons_of_mem _ he)
    simp only [fYes, Res.noEx_ok, Res.bind_ok, if_true, h2, q, List.map_cons]
/-- with a test, the store stays -/
theorem comp_filter {m : FG} {ft : FT} {fe : FE} {f : D → D} {p : D → Bool} {ρ : EnvD} {S : Store} : ∀ (ds : List D), (∀ d ∈ ds, ∃ ρ1, m d ρ S = some ρ1 ∧ ft ρ1 S = .ok (p d) S ∧ (p d = true → fe ρ1 S = .ok (f d) S)) → compF none m ft fe ds ρ S = .ok ((ds.filter p).map f) S
  | [], _ => compF_nil
  | d :: ds, h => by
    obtain ⟨ρ1, h1, h2, h3⟩ := h d List.mem_cons_self
    rw [compF_cons h1]
    have q := comp_filter (m := m) (ft := ft) (fe := fe) (f := f) (p := p) (ρ := ρ) (S := S) ds fun e he => h e (List.mem_cons_of_mem _ he)
    cases hp : p d with
    | true => simp [h2, hp, h3 hp, q, List.filter_cons]
    | false => simp [h2, hp, q, List.filter_cons]
/-- no test, the store goes on -/
theorem comp_inv {m : FG} {fe : FE} {ρ : EnvD} (I : Store → Prop) (A : D → Prop) : ∀ (ds : List D) (S : Store), I S → (∀ d ∈ ds, ∀ S, I S → ∃ ρ1 y S', m d ρ S = some ρ1 ∧ fe ρ1 S = .ok y S' ∧ A y ∧ I S') →
    ∃ ys S', compF none m fYes fe ds ρ S = .ok ys S' ∧ ys.length = ds.length ∧ (∀ y ∈ ys, A y) ∧ I S'
  | [], S, h0, _ => ⟨[], S, compF_nil, rfl, fun y hy => by simp at hy, h0⟩
  | d :: ds, S, h0, h => by
    obtain ⟨ρ1, y, S1, h1, h2, h3, h4⟩ := h d List.mem_cons_self S h0
    obtain ⟨ys, S', q1, q2, q3, q4⟩ := comp_inv (m := m) (fe := fe) (ρ := ρ) I A ds S1 h4 fun e he => h e (List.mem_cons_of_mem _ he)
    refine ⟨y :: ys, S', ?_, by simp [q2], fun z hz => ?_, q4⟩
    · rw [compF_cons h1]
      simp only [fYes, Res.noEx_ok, Res.bind_ok, if_true, h2, q1]
    · rcases List.mem_cons.mp hz with e | e
      · rw [e]; exact h3
      · exact q3 z e
theorem rng_length {lo hi : Int} : (rng lo hi).length = (hi - lo).toNat := by simp [rng]
theorem rng_get {lo hi : Int} {j : Nat} {d : D} (h : (rng lo hi)[j]? = some d) : d = .int (lo + j) ∧ j < (hi - lo).toNat := by
  unfold rng at h
  rw [List.getElem?_map] at h
  by_cases hj : j < (hi - lo).toNat
  · rw [List.getElem?_range hj] at h
    cases h
    exact ⟨rfl, hj⟩
  · rw [List.getElem?_eq_none (by simpa using hj)] at h
    cases h
theorem pureL_all {xs : List D} : pureL xs = true ↔ ∀ x ∈ xs, x.pure = true := by
  induction xs with
  | nil => simp [pureL]
  | cons x xs ih => simp [pureL, ih]
end DL

/-! Plain laws, part 2: the mirrors' equations, for simp. -/
namespace DL
open PySem L2
section
variable (ρ : EnvD) (S : Store) (fa fb fc fe : FE) (ta tb : FT) (g g' : FS) (x y : D)
@[simp] theorem e_semOf (n : Nat) (ds : List D) : semOf n g ds S = (g (startD n ds) S).res := rfl
@[simp] theorem e_startD (n : Nat) (ds : List D) : startD n ds = ds.map some ++ List.replicate (n - ds.length) none := rfl
@[simp] theorem e_gSeq : gSeq g g' ρ S = (g ρ S).seq g' := rfl
@[simp] theorem e_gNil : gNil ρ S = .nx ρ S := rfl
@[simp] theorem e_gRet : gRet fe ρ S = (fe ρ S).into ρ fun d S => .rt d S := rfl
@[simp] theorem e_gIf : gIf ta g g' ρ S = (ta ρ S).into ρ fun k S => if k then g ρ S else g' ρ S := rfl
@[simp] theorem e_gSet (i : Nat) : gSet i fe ρ S = (fe ρ S).into ρ fun d S => .nx (ρ.set i (some d)) S := rfl
@[simp] theorem e_gExpr : gExpr fe ρ S = (fe ρ S).into ρ fun _ S => .nx ρ S := rfl
@[simp] theorem e_gAsg (m : FG) : gAsg m fe ρ S = (fe ρ S).into ρ fun d S => match m d ρ S with | some ρ => .nx ρ S | none => .stuck := rfl
@[simp] theorem e_gPut : gPut fa fb fe ρ S = (fe ρ S).into ρ fun d S => (fa ρ S).into ρ fun x S => (fb ρ S).into ρ fun y S => match storeAt x y d S with | some S => .nx ρ S | none => .stuck := rfl
@[simp] theorem e_gStar (i j : Nat) : gStar i j fe ρ S = (fe ρ S).into ρ fun d S => match asL S d with | some (x :: xs) => .nx ((ρ.set i (some x)).set j (some (.oid S.length))) (S ++ [.lst xs]) | _ => .stuck := rfl
@[simp] theorem e_gFor (fi : FI) (m : FG) : gFor fi m g ρ S = (fi ρ S).into ρ fun it S => loopF it.chk m g it.items ρ S := rfl
@[simp] theorem e_gFld (cs : List Str) (f : Str) : gFld cs f fa fe ρ S = (fe ρ S).into ρ fun d S => (fa ρ S).into ρ fun o S => match o with
  | .oid n => (match S[n]? with
    | some (.ins c fs) => if c ∈ cs ∧ fs.length < 1000 then .nx ρ (S.set n (.ins c (putFD f d fs))) else .stuck
    | _ => .stuck)
  | _ => .stuck := rfl
@[simp] theorem e_res_nx : (Out.nx ρ S).res = .ok .non S := rfl
@[simp] theorem e_res_rt : (Out.rt x S).res = .ok x S := rfl
@[simp] theorem e_res_ex (C fs) : (Out.ex C fs ρ S).res = .ex C fs S := rfl
@[simp] theorem e_fVar (i : Nat) : fVar i ρ S = match ρ[i]? with | some (some d) => .ok d S | _ => .stuck := rfl
@[simp] theorem e_fC : fC x ρ S = .ok x S := rfl
@[simp] theorem e_fAndV : fAndV fa fb ρ S = (fa ρ S).bind fun d S => match d with | .bl true => fb ρ S | .bl false => .ok (.bl false) S | _ => .stuck := rfl
@[simp] theorem e_fOrV : fOrV fa fb ρ S = (fa ρ S).bind fun d S => match d with | .bl true => .ok (.bl true) S | .bl false => fb ρ S | _ => .stuck := rfl
@[simp] theorem e_fNotV : fNotV fa ρ S = (fa ρ S).bind fun d S => match d with | .bl k => .ok (.bl (!k)) S | _ => .stuck := rfl
@[simp] theorem e_fAndT : fAndT ta tb ρ S = (ta ρ S).bind fun k S => if k then tb ρ S else .ok false S := rfl
@[simp] theorem e_fOrT : fOrT ta tb ρ S = (ta ρ S).bind fun k S => if k then .ok true S else tb ρ S := rfl
@[simp] theorem e_fNotT : fNotT ta ρ S = (ta ρ S).bind fun k S => .ok (!k) S := rfl
@[simp] theorem e_toB : toB fa ρ S = (fa ρ S).bind fun d S => match d with | .bl k => .ok k S | _ => .stuck := rfl
@[simp] theorem e_fIf : fIf ta fa fb ρ S = (ta ρ S).bind fun k S => if k then fa ρ S else fb ρ S := rfl
@[simp] theorem e_fCons (fr : FA) : fCons fa fr ρ S = (fa ρ S).bind fun x S => (fr ρ S).bind fun xs S => .ok (x :: xs) S := rfl
@[simp] theorem e_fTup (fr : FA) : fTup fr ρ S = (fr ρ S).bind fun xs S => if short xs.length then .ok (.tup xs) S else .stuck := rfl
@[simp] theorem e_fLst (fr : FA) : fLst fr ρ S = (fr ρ S).bind fun xs S => if short xs.length then .ok (.lst xs) S else .stuck := rfl
@[simp] theorem e_fLstO (fr : FA) : fLstO fr ρ S = (fr ρ S).bind fun xs S => if short xs.length then .ok (.oid S.length) (S ++ [.lst xs]) else .stuck := rfl
@[simp] theorem e_fDict0 : fDict0 ρ S = .ok (.oid S.length) (S ++ [.dic []]) := rfl
@[simp] theorem e_fBin (h : G2) : fBin h fa fb ρ S = (fa ρ S).bind fun x S => (fb ρ S).bind fun y S => h x y S := rfl
@[simp] theorem e_fUn (h : D → Store → Res D) : fUn h fa ρ S = (fa ρ S).bind h := rfl
@[simp] theorem e_fChain (h h' : G2) : fChain h h' fa fb fc ρ S = (fa ρ S).bind fun x S => (fb ρ S).bind fun y S => (h x y S).bind fun z S => match z with
  | .bl true => (fc ρ S).bind fun u S => h' y u S
  | .bl false => .ok (.bl false) S
  | _ => .stuck := rfl
@[simp] theorem e_fCB (h : GC) (fr : FA) : fCB h fr ρ S = (fr ρ S).bind h := rfl
@[simp] theorem e_fBM (T : String) (h : GM) (fr : FA) : fBM T h fa fr ρ S = (fa ρ S).bind fun x S => if tyS S x = some T ∧ T ≠ "tuple" then (fr ρ S).bind fun ds S => h x ds S else .stuck := rfl
@[simp] theorem e_fCall (cs : Sem') (gD : List D → List D → List D) (np nk n : Nat) (fr fk : FA) : fCall cs gD np nk n fr fk ρ S = (fr ρ S).bind fun ds S => (fk ρ S).bind fun es S => if ds.length = np ∧ es.length = nk ∧ (gD ds es).length = n then cs (gD ds es) S else .stuck := rfl
@[simp] theorem e_fMeth (cs : Sem') (gD : List D → List D → List D) (c m : Str) (np nk n : Nat) (fr fk : FA) : fMeth cs gD c m np nk n fa fr fk ρ S = (fa ρ S).bind fun o S => match asI S o with
  | some (c', fs) => if c' = c ∧ (fs.lookup m).isNone then (fr ρ S).bind fun ds S => (fk ρ S).bind fun es S => if (o :: ds).length = np ∧ es.length = nk ∧ (gD (o :: ds) es).length = n then cs (gD (o :: ds) es) S else .stuck else .stuck
  | none => .stuck := rfl
@[simp] theorem e_fFld (cs : List Str) (f : Str) : fFld cs f fa ρ S = (fa ρ S).bind fun o S => match asI S o with
  | some (c, fs) => if c ∈ cs then (match fs.lookup f with | some d => .ok d S | none => .stuck) else .stuck
  | none => .stuck := rfl
@[simp] theorem e_fMake (mk : MakeT) (np nk : Nat) (fr fk : FA) : fMake mk np nk fr fk ρ S = (fr ρ S).bind fun ds S => (fk ρ S).bind fun es S => if ds.length = np ∧ es.length = nk then mk ds es S else .stuck := rfl
@[simp] theorem e_fSeq_tup (ds : List D) (h : fa ρ S = .ok (.tup ds) S) : fSeq fa ρ S = .ok ⟨ds, none⟩ S := by unfold fSeq; rw [h]; rfl
@[simp] theorem e_fSeq_lst (ds : List D) (h : fa ρ S = .ok (.lst ds) S) : fSeq fa ρ S = .ok ⟨ds, none⟩ S := by unfold fSeq; rw [h]; rfl
@[simp] theorem e_pick (sel : List (Nat × Nat)) (us ws ms : List D) : pick sel us ws ms = sel.filterMap fun s => (src s.1 us ws ms)[s.2]? := rfl
@[simp] theorem e_src0 {α : Type} (us ws ms : List α) : src 0 us ws ms = us := rfl
@[simp] theorem e_src1 {α : Type} (us ws ms : List α) : src 1 us ws ms = ws := rfl
@[simp] theorem e_src2 {α : Type} (us ws ms : List α) : src 2 us ws ms = ms := rfl
@[simp] theorem e_mName (i : Nat) : mName i x ρ S = some (ρ.set i (some x)) := rfl
@[simp] theorem e_mTup (n : Nat) (ms : List D → EnvD → Store → Option EnvD) (ds : List D) : mTup n ms (.tup ds) ρ S = if ds.length = n then ms ds ρ S else none := rfl
@[simp] theorem e_mCons (m : FG) (ms : List D → EnvD → Store → Option EnvD) (d : D) (ds : List D) : mCons m ms (d :: ds) ρ S = (m d ρ S).bind fun ρ => ms ds ρ S := rfl
@[simp] theorem e_isi1 (n : String) : gIsi [x, .ty n] S = gIsi1 [x, .ty n] S := rfl
@[simp] theorem e_isiN (cs : List D) : gIsi [x, .tup cs] S = gIsiN [x, .tup cs] S := rfl
@[simp] theorem e_gIsi1 (n : String) : gIsi1 [x, .ty n] S = match (tyS S x).bind fun T => isiT T n with | some b => .ok (.bl b) S | none => .stuck := rfl
@[simp] theorem e_gIsiN (cs : List D) : gIsiN [x, .tup cs] S = match (tyS S x).bind fun T => (tysOf cs).bind fun ns => isiA T ns with | some b => .ok (.bl b) S | none => .stuck := rfl
@[simp] theorem e_ty_non : tyS S .non = some "NoneType" := rfl
@[simp] theorem e_ty_bl (b) : tyS S (.bl b) = some "bool" := rfl
@[simp] theorem e_ty_int (b) : tyS S (.int b) = some "int" := rfl
@[simp] theorem e_ty_str (b) : tyS S (.str b) = some "str" := rfl
@[simp] theorem e_ty_tup (b) : tyS S (.tup b) = some "tuple" := rfl
@[simp] theorem e_ty_lst (b) : tyS S (.lst b) = some "list" := rfl
variable (i j : Int) (a b : Bool) (xs ys : List D) (p q : Str)
@[simp] theorem e_gNeg : gNeg (.int i) S = .ok (.int (-i)) S := rfl
@[simp] theorem e_gSub : gSub (.int i) (.int j) S = .ok (.int (i - j)) S := rfl
@[simp] theorem e_gAdd : gAdd (.int i) (.int j) S = .ok (.int (i + j)) S := rfl
@[simp] theorem e_gMul (h : cMul i j = true) : gMul (.int i) (.int j) S = .ok (.int (i * j)) S := by simp [gMul, gI, h]
@[simp] theorem e_gMod (h : 0 < j) : gMod (.int i) (.int j) S = .ok (.int (i % j)) S := by simp [gMod, gI, h]
@[simp] theorem e_gDiv (h : 0 < j) (h2 : j < 1073741824) : gDiv (.int i) (.int j) S = .ok (.int (i / j)) S := by simp [gDiv, gI, cDiv, h, h2]
@[simp] theorem e_gLt : gLt (.int i) (.int j) S = .ok (.bl (decide (i < j))) S := rfl
@[simp] theorem e_gLe : gLe (.int i) (.int j) S = .ok (.bl (decide (i ≤ j))) S := rfl
@[simp] theorem e_gGt : gGt (.int i) (.int j) S = .ok (.bl (decide (j < i))) S := rfl
@[simp] theorem e_gGe : gGe (.int i) (.int j) S = .ok (.bl (decide (j ≤ i))) S := rfl
@[simp] theorem e_gIs : gIs x .non S = .ok (.bl x.isNon) S := rfl
@[simp] theorem e_gIsNot : gIsNot x .non S = .ok (.bl (!x.isNon)) S := rfl
@[simp] theorem e_nn : D.non.isNon = true := rfl
@[simp] theorem e_ni : (D.int i).isNon = false := rfl
@[simp] theorem e_ns : (D.str p).isNon = false := rfl
@[simp] theorem e_nt : (D.tup xs).isNon = false := rfl
@[simp] theorem e_nb : (D.bl a).isNon = false := rfl
@[simp] theorem e_nl : (D.lst xs).isNon = false := rfl
@[simp] theorem e_eq_ss : gEq (.str p) (.str q) S = .ok (.bl (decide (p = q))) S := rfl
@[simp] theorem e_eq_ii : gEq (.int i) (.int j) S = .ok (.bl (decide (i = j))) S := rfl
@[simp] theorem e_ne_ss : gNe (.str p) (.str q) S = .ok (.bl (!decide (p = q))) S := rfl
@[simp] theorem e_ne_ii : gNe (.int i) (.int j) S = .ok (.bl (!decide (i = j))) S := rfl
@[simp] theorem e_len_t : gLen [.tup xs] S = .ok (.int xs.length) S := rfl
@[simp] theorem e_len_l : gLen [.lst xs] S = .ok (.int xs.length) S := rfl
@[simp] theorem e_len_s : gLen [.scr xs] S = .ok (.int xs.length) S := rfl
@[simp] theorem e_ix_t : gIx (.tup xs) (.int i) S = match atI xs i with | some d => .ok d S | none => .stuck := rfl
@[simp] theorem e_ix_l : gIx (.lst xs) (.int i) S = match atI xs i with | some d => .ok d S | none => .stuck := rfl
@[simp] theorem e_ix_s : gIx (.scr xs) (.int i) S = match atI xs i with | some d => .ok d S | none => .stuck := rfl
@[simp] theorem e_asL_l : asL S (.lst xs) = some xs := rfl
@[simp] theorem e_asL_s : asL S (.scr xs) = some xs := rfl
@[simp] theorem e_asQ_t : asQ S (.tup xs) = some xs := rfl
@[simp] theorem e_asQ_l : asQ S (.lst xs) = some xs := rfl
@[simp] theorem e_list_l : gList [.lst xs] S = .ok (.lst xs) S := rfl
@[simp] theorem e_list_t : gList [.tup xs] S = .ok (.lst xs) S := rfl
@[simp] theorem e_list_d (ks : List (Key × D)) : gList [.dic ks] S = .ok (.lst (ks.map fun q => keyV q.1)) S := rfl
@[simp] theorem e_tuple_l : gTuple [.lst xs] S = .ok (.tup xs) S := rfl
@[simp] theorem e_lenum_t : gLEnum [.tup xs] S = .ok (.lst (enumD 0 xs)) S := rfl
@[simp] theorem e_lenum_l : gLEnum [.lst xs] S = .ok (.lst (enumD 0 xs)) S := rfl
@[simp] theorem e_max2 : gMax [.int i, .int j] S = .ok (.int (if j > i then j else i)) S := rfl
@[simp] theorem e_min2 : gMin [.int i, .int j] S = .ok (.int (if j < i then j else i)) S := rfl
@[simp] theorem e_abs : gAbs [.int i] S = .ok (.int (if i < 0 then -i else i)) S := rfl
theorem at_nat {α : Type} (zs : List α) (n : Nat) (h : n < zs.length) : atI zs (n : Int) = zs[n]? := by
  have h2 : (n : Int) < zs.length := by omega
  simp [atI, ixN, h2]
@[simp] theorem e_at_c0 {α : Type} (z : α) (zs : List α) : atI (z :: zs) 0 = some z := by
  have := at_nat (z :: zs) 0 (by simp)
  exact this
@[simp] theorem e_at_c1 {α : Type} (z y : α) (zs : List α) : atI (z :: y :: zs) 1 = some y := by
  have := at_nat (z :: y :: zs) 1 (by simp)
  exact this
@[simp] theorem e_fComp (fi : FI) (m : FG) (own : List Nat) (fin : Fin') : fComp fi m ta fe own fin ρ S = (fi ρ S).bind fun it S => (compF it.chk m ta fe it.items (wipeD ρ own) S).bind fin := rfl
@[simp] theorem e_wipe0 : wipeD ρ [] = ρ := rfl
@[simp] theorem e_wipe1 (v : Nat) (vs : List Nat) : wipeD ρ (v :: vs) = (wipeD ρ vs).set v none := rfl
@[simp] theorem e_finL : finL xs S = if short xs.length then .ok (.lst xs) S else .stuck := rfl
@[simp] theorem e_fRng1 (fr : FA) : fRng1 fr ρ S = (fr ρ S).bind fun ds S => match ds with
  | [.int j] => if cRng j then .ok ⟨rng 0 j, none⟩ S else .stuck
  | _ => .stuck := rfl
theorem e_all_true {α : Type} (l : List α) : gAllAny true [.lst (l.map fun _ => D.bl true)] S = .ok (.bl true) S := by
  have h : bsOf (l.map fun _ => D.bl true) = some (l.map fun _ => true) := by
    induction l with
    | nil => rfl
    | cons z l ih => simp [bsOf, ih]
  simp [gAllAny, h]
@[simp] theorem e_all_true2 {α β : Type} (l : List α) (f : α → β) : gAllAny true [.lst (l.map ((fun _ => D.bl true) ∘ f))] S = .ok (.bl true) S := e_all_true S l
@[simp] theorem e_in_tup : gNotIn x (.tup ys) S = gInQ true x (.tup ys) S := rfl
@[simp] theorem e_in_tup2 : gIn x (.tup ys) S = gInQ false x (.tup ys) S := rfl
@[simp] theorem e_in_lst : gNotIn x (.lst ys) S = gInQ true x (.lst ys) S := rfl
@[simp] theorem e_in_lst2 : gIn x (.lst ys) S = gInQ false x (.lst ys) S := rfl
theorem short_le {n : Nat} (h : n ≤ 1000000) : short n = true := by
  have : (1000000 : Nat) ≤ sizeLine := by decide
  exact decide_eq_true (Nat.le_trans h this)
@[simp] theorem short0 : short 0 = true := short_le (by decide)
@[simp] theorem short1 : short 1 = true := short_le (by decide)
@[simp] theorem short2 : short 2 = true := short_le (by decide)
@[simp] theorem short3 : short 3 = true := short_le (by decide)
@[simp] theorem short4 : short 4 = true := short_le (by decide)
@[simp] theorem short8 : short 8 = true := short_le (by decide)
@[simp] theorem short7 : short 7 = true := short_le (by decide)
end
end DL

namespace K03
open PySem L2 DL
/-! ### numbers -/
theorem whole_int (i a b : Int) (S : Store) : S_is_whole [.int i, .int a, .int b] S = .ok (.bl (decide (a ≤ i) && decide (i ≤ b))) S := by
  unfold S_is_whole m_is_whole
  by_cases h1 : a ≤ i <;> by_cases h2 : i ≤ b <;> simp [isiT, h1, h2]
theorem whole_tup (xs : List D) (a b : Int) (S : Store) : S_is_whole [.tup xs, .int a, .int b] S = .ok (.bl false) S := by
  unfold S_is_whole m_is_whole
  simp [isiT]
theorem number_int (i : Int) (S : Store) : S_is_number [.int i] S = .ok (.bl (decide (-1000000000 ≤ i) && decide (i ≤ 1000000000))) S := by
  unfold S_is_number m_is_number
  have q := callSub_ok (S := S) (by rfl) (whole_int i (-1000000000) 1000000000 []) (by rfl)
  simp [q]
theorem number_tup (xs : List D) (h : pureL xs = true) (S : Store) : S_is_number [.tup xs] S = .ok (.bl false) S := by
  unfold S_is_number m_is_number
  have q := callSub_ok (S := S) (by simp [pureL, D.pure, h]) (whole_tup xs (-1000000000) 1000000000 []) (by rfl)
  simp [q]
/-! ### values -/
inductive Vl where
  | non | num (i : Int) | at_ (n : Nat)
def dV : Vl → D
  | .non => .non
  | .num i => .int i
  | .at_ n => .tup [.str "at", .int n]
def okV (many : Nat) : Vl → Prop
  | .non => True
  | .num i => -1000000000 ≤ i ∧ i ≤ 1000000000
  | .at_ n => n < many
theorem dV_pure (v : Vl) : (dV v).pure = true := by cases v <;> rfl
theorem at_ok (n : Nat) (S : Store) : S_is_at [.tup [.str "at", .int n], .int 0] S = .ok (.bl true) S := by
  unfold S_is_at m_is_at
  simp [isiT]
theorem value_ok {many : Nat} {v : Vl} (h : okV many v) (S : Store) : S_is_value [dV v, .int many] S = .ok (.bl true) S := by
  unfold S_is_value m_is_value
  cases v with
  | non => simp [dV]
  | num i =>
    have q := callSub_ok (S := S) (by rfl) (number_int i []) (by rfl)
    obtain ⟨h1, h2⟩ := h
    simp [dV, q, h1, h2]
  | at_ n =>
    have q := callSub_ok (S := S) (by rfl) (number_tup [.str "at", .int n] (by rfl) []) (by rfl)
    have q2 := callSub_ok (S := S) (by rfl) (at_ok n []) (by rfl)
    have h' : n < many := h
    simp [dV, q, q2, h']
end K03

namespace K03
open PySem L2 DL
/-! ### cells -/
inductive Ce where
  | flds (last : Bool) (vs : List Vl) | tie (t : Option Nat)
def sortOf (last : Bool) : Str := if last then "last" else "cell"
def dT : Option Nat → D
  | none => .non
  | some n => .int n
def dC : Ce → D
  | .flds l vs => .tup [.str (sortOf l), .tup (vs.map dV)]
  | .tie t => .tup [.str "tie", dT t]
def okC' (many : Nat) : Ce → Prop
  | .flds _ vs => vs.length ≤ 6 ∧ ∀ v ∈ vs, okV many v
  | .tie (some n) => n < many
  | .tie none => True
theorem dVs_pure (vs : List Vl) : pureL (vs.map dV) = true := pureL_all.mpr fun x hx => by
  obtain ⟨v, _, rfl⟩ := List.mem_map.mp hx
  exact dV_pure v
theorem dC_pure (c : Ce) : (dC c).pure = true := by
  cases c with
  | flds l vs => simp [dC, D.pure, pureL, dVs_pure]
  | tie t => cases t <;> rfl
theorem n1 : ¬ (("cell" : Str) = "tie") := by decide +kernel
theorem n2 : ¬ (("last" : Str) = "tie") := by decide +kernel
theorem n3 (l : Bool) : ¬ (sortOf l = "tie") := by cases l; exact n1; exact n2
theorem n4 (l : Bool) : inF (.str (sortOf l)) [.str "cell", .str "last"] = true := by cases l <;> decide +kernel
theorem cell_ok {many : Nat} {c : Ce} (h : okC' many c) (S : Store) : S_is_cell [dC c, .int many] S = .ok (.bl true) S := by
  unfold S_is_cell m_is_cell
  cases c with
  | tie t =>
    cases t with
    | none => simp [dC, dT, isiT]
    | some n =>
      have h' : n < many := h
      have q := callSub_ok (S := S) (by rfl) (whole_int n 0 (many - 1) []) (by rfl)
      have h2 : (n : Int) ≤ (many : Int) - 1 := by omega
      simp [dC, dT, isiT, q, h2]
  | flds l vs =>
    obtain ⟨h1, h2⟩ := h
    have hl : ¬ (6 : Int) < (vs.length : Int) := by omega
    have hs : short vs.length = true := short_le (by omega)
    simp [dC, isiT, n3, gInQ, D.flat, n4, hl]
    rw [comp_map (f := fun _ => .bl true)]
    · simp [hs]
    · intro d hd
      obtain ⟨v, hv, rfl⟩ := List.mem_map.mp hd
      have q := callSub_ok (S := S) (by simp [pureL, dV_pure, D.pure]) (value_ok (h2 v hv) []) (by rfl)
      exact ⟨_, rfl, by simp [q]⟩
theorem row_ok (xs : List D) (S : Store) : S_is_row [.lst xs] S = .ok (.bl true) S := by
  unfold S_is_row m_is_row
  simp [tysOf, isiA, isiT]
theorem dCs_pure (cs : List Ce) : pureL (cs.map dC) = true := pureL_all.mpr fun x hx => by
  obtain ⟨v, _, rfl⟩ := List.mem_map.mp hx
  exact dC_pure v
/-- a drawn web -/
structure Wb where
  cells : List Ce
  pegs : List Vl
def Wb.ok (w : Wb) : Prop := w.cells.length ≤ 1000 ∧ w.pegs.length ≤ 1000 ∧ (∀ c ∈ w.cells, okC' w.cells.length c) ∧ ∀ v ∈ w.pegs, okV w.cells.length v
theorem web_ok {w : Wb} (h : w.ok) (S : Store) : S_is_web [.lst (w.cells.map dC), .lst (w.pegs.map dV)] S = .ok (.bl true) S := by
  unfold S_is_web m_is_web
  obtain ⟨l1, l2, h1, h2⟩ := h
  have q1 := callSub_ok (S := S) (by simp [pureL, D.pure, dCs_pure]) (row_ok (w.cells.map dC) []) (by rfl)
  have q2 := callSub_ok (S := S) (by simp [pureL, D.pure, dVs_pure]) (row_ok (w.pegs.map dV) []) (by rfl)
  have s1 : short w.cells.length = true := short_le (by omega)
  have s2 : short w.pegs.length = true := short_le (by omega)
  simp [q1, q2]
  rw [comp_map (f := fun _ => .bl true)]
  · simp [s1]
    rw [comp_map (f := fun _ => .bl true)]
    · simp [s2]
    · intro d hd
      obtain ⟨v, hv, rfl⟩ := List.mem_map.mp hd
      have q := callSub_ok (S := S) (by simp [pureL, dV_pure, D.pure]) (value_ok (h2 v hv) []) (by rfl)
      exact ⟨_, rfl, by simp [q]⟩
  · intro d hd
    obtain ⟨v, hv, rfl⟩ := List.mem_map.mp hd
    have q := callSub_ok (S := S) (by simp [pureL, dC_pure, D.pure]) (cell_ok (h1 v hv) []) (by rfl)
    exact ⟨_, rfl, by simp [q]⟩
/-! ### a Web -/
def dW (w : Wb) : D := .ins "Web" [("all_cells", .lst (w.cells.map dC)), ("all_pegs", .lst (w.pegs.map dV))]
theorem dW_pure (w : Wb) : (dW w).pure = true := by simp [dW, D.pure, pureF, dCs_pure, dVs_pure]
theorem nf : ¬ (("all_cells" : Str) = "all_pegs") := by decide +kernel
theorem init_ok {w : Wb} (h : w.ok) : S_Web_init [.oid 0, .lst (w.cells.map dC), .lst (w.pegs.map dV)] [.ins "Web" []] = .ok .non [.ins "Web" [("all_cells", .lst (w.cells.map dC)), ("all_pegs", .lst (w.pegs.map dV))]] := by
  unfold S_Web_init m_Web_init
  have q := callSub_ok (S := [.ins "Web" []]) (by simp [pureL, D.pure, dCs_pure, dVs_pure]) (web_ok h []) (by rfl)
  simp [q, putFD, nf]
theorem make_ok {w : Wb} (h : w.ok) (gD : List D → List D → List D) (hg : ∀ o, gD [o, .lst (w.cells.map dC), .lst (w.pegs.map dV)] [] = [o, .lst (w.cells.map dC), .lst (w.pegs.map dV)]) (S : Store) :
    makeF S_Web_init gD "Web" 3 [.lst (w.cells.map dC), .lst (w.pegs.map dV)] [] S = .ok (dW w) S := by
  unfold makeF
  simp only [hg, init_ok h]
  simp [pureL, D.pure, dCs_pure, dVs_pure, pureF, dW]
theorem cells_ok (w : Wb) (S : Store) : S_Web_cells [dW w] S = .ok (.lst (w.cells.map dC)) S := by
  unfold S_Web_cells m_Web_cells
  simp [dW, asI]
theorem pegs_ok (w : Wb) (S : Store) : S_Web_pegs [dW w] S = .ok (.lst (w.pegs.map dV)) S := by
  unfold S_Web_pegs m_Web_pegs
  have e : (("all_pegs" : Str) == "all_cells") = false := by decide +kernel
  simp [dW, asI, List.lookup, e]
end K03

namespace K03
open PySem L2 DL
/-! ### what is drawn -/
theorem next_ok (v m : Int) (h : 0 < m) (h2 : m < 1073741824) : S_p_law_next [.oid 0, .int m] [.lst [.int v]] = .ok (.int (v % m)) [.lst [.int (v / m)]] := by
  unfold S_p_law_next m_p_law_next
  have e : ∀ S : Store, S = [.lst [.int v]] → gIx (.oid 0) (.int 0) S = .ok (.int v) S := by
    rintro S rfl
    rfl
  have e2 : storeAt (.oid 0) (.int 0) (.int (v / m)) [.lst [.int v]] = some [.lst [.int (v / m)]] := by rfl
  simp [e, e2, h, h2]
theorem c_next {S : Store} {n : Nat} {v : Int} (hS : S[n]? = some (.lst [.int v])) (m : Int) (h : 0 < m) (h2 : m < 1073741824) : callSub S_p_law_next [.oid n, .int m] S = .ok (.int (v % m)) (S.set n (.lst [.int (v / m)])) :=
  callSub_st hS (by rfl) (by rfl) (next_ok v m h h2) (by rfl) (by rfl)
theorem p109 (S : Store) : gPow (.int 10) (.int 9) S = .ok (.int 1000000000) S := by
  have : cPow 10 9 = true := by simp [cPow]
  simp [gPow, gI, this]
theorem p1018 (S : Store) : gPow (.int 10) (.int 18) S = .ok (.int 1000000000000000000) S := by
  have : cPow 10 18 = true := by simp [cPow]
  simp [gPow, gI, this]
theorem at4 {a b c d : D} (v : Int) : ∃ x, atI [a, b, c, d] (v % 4) = some x ∧ (x = a ∨ x = b ∨ x = c ∨ x = d) := by
  have h1 := Int.emod_nonneg v (b := 4) (by decide)
  have h2 := Int.emod_lt_of_pos v (b := 4) (by decide)
  have h : v % 4 = 0 ∨ v % 4 = 1 ∨ v % 4 = 2 ∨ v % 4 = 3 := by omega
  rcases h with h | h | h | h <;> rw [h]
  · exact ⟨a, rfl, by simp⟩
  · exact ⟨b, rfl, by simp⟩
  · exact ⟨c, rfl, by simp⟩
  · exact ⟨d, rfl, by simp⟩
theorem value_draw (v : Int) (many : Nat) (hm : many < 1000000) : ∃ x v', S_p_law_value [.oid 0, .int many] [.lst [.int v]] = .ok (dV x) [.lst [.int v']] ∧ okV many x := by
  unfold S_p_law_value m_p_law_value
  have nx : ∀ (v m : Int), 0 < m → m < 1073741824 → callSub S_p_law_next [.oid 0, .int m] [.lst [.int v]] = .ok (.int (v % m)) [.lst [.int (v / m)]] := fun v m h h2 => c_next (n := 0) (by rfl) m h h2
  have mx1 : (0 : Int) < (if 1 < (many : Int) then (many : Int) else 1) ∧ (if 1 < (many : Int) then (many : Int) else 1) < 1073741824 ∧ (0 < many → (if 1 < (many : Int) then (many : Int) else 1) ≤ many) := by
    refine ⟨?_, ?_, fun _ => ?_⟩ <;> split <;> omega
  obtain ⟨num, hnum, hc⟩ := at4 (a := .int (v / 6 % 7 - 3)) (b := .int (1000000000 - v / 6 / 7 % 2)) (c := .int (-1000000000)) (d := .int 0) (v / 6 / 7 / 2)
  have hn : ∃ i : Int, num = .int i ∧ -1000000000 ≤ i ∧ i ≤ 1000000000 := by
    rcases hc with rfl | rfl | rfl | rfl
    · exact ⟨_, rfl, by omega, by omega⟩
    · exact ⟨_, rfl, by omega, by omega⟩
    · exact ⟨_, rfl, by omega, by omega⟩
    · exact ⟨_, rfl, by omega, by omega⟩
  obtain ⟨i, rfl, i1, i2⟩ := hn
  by_cases hw : 2 < v % 6
  · by_cases hk : 0 < many
    · have hq := Int.emod_nonneg (v / 6 / 7 / 2 / 4) (b := (if 1 < (many : Int) then (many : Int) else 1)) (by omega)
      have hl := Int.emod_lt_of_pos (v / 6 / 7 / 2 / 4) mx1.1
      have hl2 := mx1.2.2 hk
      refine ⟨.at_ (v / 6 / 7 / 2 / 4 % (if 1 < (many : Int) then (many : Int) else 1)).toNat, v / 6 / 7 / 2 / 4 / (if 1 < (many : Int) then (many : Int) else 1), ?_, ?_⟩
      · simp [nx, p109, hnum, mx1.1, mx1.2.1, hw, hk, dV]
        omega
      · show _ < many
        omega
    · refine ⟨.num i, v / 6 / 7 / 2 / 4 / (if 1 < (many : Int) then (many : Int) else 1), ?_, ⟨i1, i2⟩⟩
      have h0 : ¬ v % 6 = 0 := by omega
      simp [nx, p109, hnum, mx1.1, mx1.2.1, hk, dV, h0]
  · by_cases h0 : v % 6 = 0
    · exact ⟨.non, v / 6 / 7 / 2 / 4 / (if 1 < (many : Int) then (many : Int) else 1), by simp [nx, p109, hnum, mx1.1, mx1.2.1, h0, dV], trivial⟩
    · exact ⟨.num i, v / 6 / 7 / 2 / 4 / (if 1 < (many : Int) then (many : Int) else 1), by simp [nx, p109, hnum, mx1.1, mx1.2.1, hw, h0, dV], ⟨i1, i2⟩⟩
end K03

namespace K03
open PySem L2 DL
theorem pick_list {α : Type} {f : α → D} {p : α → Prop} : ∀ (ys : List D), (∀ y ∈ ys, ∃ x, y = f x ∧ p x) → ∃ xs : List α, ys = xs.map f ∧ ∀ x ∈ xs, p x
  | [], _ => ⟨[], rfl, fun x hx => by simp at hx⟩
  | y :: ys, h => by
    obtain ⟨x, e, hx⟩ := h y List.mem_cons_self
    obtain ⟨xs, e2, h2⟩ := pick_list (f := f) (p := p) ys fun z hz => h z (List.mem_cons_of_mem _ hz)
    refine ⟨x :: xs, by rw [e, e2]; rfl, fun z hz => ?_⟩
    rcases List.mem_cons.mp hz with q | q
    · rw [q]; exact hx
    · exact h2 z q
theorem c_value (v : Int) (many : Nat) (hm : many < 1000000) : ∃ x v', callSub S_p_law_value [.oid 0, .int many] [.lst [.int v]] = .ok (dV x) [.lst [.int v']] ∧ okV many x := by
  obtain ⟨x, v', h1, h2⟩ := value_draw v many hm
  exact ⟨x, v', callSub_st (n := 0) (S := [.lst [.int v]]) (xs := [.int v]) (ys := [.int v']) (by rfl) (by rfl) (by rfl) h1 (dV_pure x) (by rfl), h2⟩
/-- values, one by one -/
theorem values_draw {fe : FE} {m : FG} {ρ : EnvD} (many n : Nat) (hm : many < 1000000) (v : Int) (hf : ∀ d S, ∃ ρ1, m d ρ S = some ρ1 ∧ fe ρ1 S = callSub S_p_law_value [.oid 0, .int many] S) :
    ∃ (vs : List Vl) (v' : Int), compF none m fYes fe (rng 0 n) ρ [.lst [.int v]] = .ok (vs.map dV) [.lst [.int v']] ∧ vs.length = n ∧ ∀ x ∈ vs, okV many x := by
  obtain ⟨ys, S', q1, q2, q3, v', rfl⟩ := comp_inv (m := m) (fe := fe) (ρ := ρ) (fun S => ∃ v, S = [.lst [.int v]]) (fun y => ∃ x, y = dV x ∧ okV many x) (rng 0 n) [.lst [.int v]] ⟨v, rfl⟩ fun d hd S ⟨u, hu⟩ => by
    obtain ⟨ρ1, h1, h2⟩ := hf d S
    obtain ⟨x, u', h3, h4⟩ := c_value u many hm
    subst hu
    exact ⟨ρ1, dV x, _, h1, h2.trans h3, ⟨x, rfl, h4⟩, u', rfl⟩
  obtain ⟨vs, rfl, h⟩ := pick_list ys q3
  refine ⟨vs, v', q1, ?_, h⟩
  rw [List.length_map, rng_length] at q2
  omega
theorem at8 (v : Int) : ∃ n : Nat, atI [D.int 1, .int 2, .int 3, .int 0, .int 2, .int 4, .int 6, .int 5] (v % 8) = some (.int n) ∧ n ≤ 6 := by
  have h1 := Int.emod_nonneg v (b := 8) (by decide)
  have h2 := Int.emod_lt_of_pos v (b := 8) (by decide)
  have h : v % 8 = 0 ∨ v % 8 = 1 ∨ v % 8 = 2 ∨ v % 8 = 3 ∨ v % 8 = 4 ∨ v % 8 = 5 ∨ v % 8 = 6 ∨ v % 8 = 7 := by omega
  rcases h with h | h | h | h | h | h | h | h <;> rw [h]
  · exact ⟨1, rfl, by decide⟩
  · exact ⟨2, rfl, by decide⟩
  · exact ⟨3, rfl, by decide⟩
  · exact ⟨0, rfl, by decide⟩
  · exact ⟨2, rfl, by decide⟩
  · exact ⟨4, rfl, by decide⟩
  · exact ⟨6, rfl, by decide⟩
  · exact ⟨5, rfl, by decide⟩
theorem cRng_nat {n : Nat} (h : n < 1000000) : cRng (n : Int) = true := by
  unfold cRng
  exact @decide_eq_true _ (Classical.propDecidable _) ⟨by omega, by omega⟩
theorem cell_draw (v : Int) (many : Nat) (hm : many < 1000000) : ∃ c v', S_p_law_cell [.oid 0, .int many] [.lst [.int v]] = .ok (dC c) [.lst [.int v']] ∧ okC' many c := by
  unfold S_p_law_cell m_p_law_cell
  have nx : ∀ (v m : Int), 0 < m → m < 1073741824 → callSub S_p_law_next [.oid 0, .int m] [.lst [.int v]] = .ok (.int (v % m)) [.lst [.int (v / m)]] := fun v m h h2 => c_next (n := 0) (by rfl) m h h2
  obtain ⟨so, hso, hc⟩ := at4 (a := D.str "cell") (b := .str "cell") (c := .str "last") (d := .str "tie") v
  have hs : so = .str "tie" ∨ ∃ l, so = .str (sortOf l) := by
    rcases hc with rfl | rfl | rfl | rfl
    · exact .inr ⟨false, rfl⟩
    · exact .inr ⟨false, rfl⟩
    · exact .inr ⟨true, rfl⟩
    · exact .inl rfl
  rcases hs with rfl | ⟨l, rfl⟩
  · have p1 : (0 : Int) < many + 1 := by omega
    have p2 : (many : Int) + 1 < 1073741824 := by omega
    have t1 := Int.emod_nonneg (v / 4) (b := (many : Int) + 1) (by omega)
    by_cases ht : v / 4 % ((many : Int) + 1) < many
    · refine ⟨.tie (some (v / 4 % ((many : Int) + 1)).toNat), v / 4 / ((many : Int) + 1), ?_, ?_⟩
      · simp [nx, hso, p1, p2, ht, dC, dT]
        omega
      · show _ < many
        omega
    · refine ⟨.tie none, v / 4 / ((many : Int) + 1), ?_, trivial⟩
      simp [nx, hso, p1, p2, ht, dC, dT]
  · obtain ⟨n, hn, hn6⟩ := at8 (v / 4)
    obtain ⟨vs, v', h1, h2, h3⟩ := values_draw (m := mName 5) (fe := fCall (callSub S_p_law_value) (fun ds es => List.filterMap (fun s => (src s.fst ds es [])[s.snd]?) [(0, 0), (0, 1)]) 2 0 2 (fCons (fVar 0) (fCons (fVar 1) (fun _ S => .ok [] S))) (fun _ S => .ok [] S))
      (ρ := [some (.oid 0), some (.int many), some (.str (sortOf l)), none, some (.int n), none]) many n hm (v / 4 / 8) fun d S => ⟨_, rfl, by simp⟩
    refine ⟨.flds l vs, v', ?_, by rw [h2]; exact hn6, h3⟩
    have s1 : short vs.length = true := short_le (by omega)
    simp [nx, hso, n3, hn, cRng_nat (show n < 1000000 by omega), h1, s1, dC]
end K03

/-! Texts: the parts of a join. -/
namespace TX
open PySem
def jn (c : Nat) : List (List Nat) → List Nat
  | [] => []
  | [p] => p
  | p :: q :: r => p ++ c :: jn c (q :: r)
theorem cut_inj {c : Nat} : ∀ {p q X Y : List Nat}, c ∉ p → c ∉ q → p ++ c :: X = q ++ c :: Y → p = q ∧ X = Y
  | [], [], X, Y, _, _, h => ⟨rfl, by simpa using h⟩
  | [], b :: q, X, Y, _, hq, h => by
    simp at h
    exact absurd (h.1 ▸ List.mem_cons_self) hq
  | a :: p, [], X, Y, hp, _, h => by
    simp at h
    exact absurd (h.1 ▸ List.mem_cons_self) hp
  | a :: p, b :: q, X, Y, hp, hq, h => by
    simp only [List.cons_append, List.cons.injEq] at h
    obtain ⟨e1, e2⟩ := cut_inj (fun z => hp (List.mem_cons_of_mem _ z)) (fun z => hq (List.mem_cons_of_mem _ z)) h.2
    exact ⟨by rw [h.1, e1], e2⟩
theorem jn_inj {c : Nat} : ∀ {ps qs : List (List Nat)}, ps ≠ [] → qs ≠ [] → (∀ p ∈ ps, c ∉ p) → (∀ q ∈ qs, c ∉ q) → jn c ps = jn c qs → ps = qs
  | [], _, h, _, _, _, _ => absurd rfl h
  | _, [], _, h, _, _, _ => absurd rfl h
  | [p], [q], _, _, _, _, h => by simpa [jn] using h
  | [p], q :: q' :: r, _, _, hp, _, h => by
    have : c ∈ p := by
      have e : p = q ++ c :: jn c (q' :: r) := h
      rw [e]
      simp
    exact absurd this (hp p List.mem_cons_self)
  | p :: p' :: r, [q], _, _, _, hq, h => by
    have : c ∈ q := by
      have e : p ++ c :: jn c (p' :: r) = q := h
      rw [← e]
      simp
    exact absurd this (hq q List.mem_cons_self)
  | p :: p' :: r, q :: q' :: r', _, _, hp, hq, h => by
    obtain ⟨e1, e2⟩ := cut_inj (hp p List.mem_cons_self) (hq q List.mem_cons_self) (show p ++ c :: jn c (p' :: r) = q ++ c :: jn c (q' :: r') from h)
    rw [e1, jn_inj (by simp) (by simp) (fun x hx => hp x (List.mem_cons_of_mem _ hx)) (fun x hx => hq x (List.mem_cons_of_mem _ hx)) e2]
theorem join_jn (c : Nat) : ∀ ps : List Str, (Str.join ⟨#[c]⟩ ps).cps.toList = jn c (ps.map fun p => p.cps.toList)
  | [] => rfl
  | [p] => rfl
  | p :: q :: r => by
    have ih := join_jn c (q :: r)
    show ((p ++ ⟨#[c]⟩ ++ Str.join ⟨#[c]⟩ (q :: r) : Str)).cps.toList = p.cps.toList ++ c :: jn c ((q :: r).map fun p => p.cps.toList)
    rw [← ih]
    show (p.cps ++ #[c] ++ (Str.join ⟨#[c]⟩ (q :: r)).cps).toList = _
    simp
theorem str_inj {a b : Str} (h : a.cps.toList = b.cps.toList) : a = b := by
  cases a
  cases b
  simp only at h
  rw [Array.toList_inj] at h
  rw [h]
theorem map_inj : ∀ {a b : List Str}, (a.map fun p => p.cps.toList) = (b.map fun p => p.cps.toList) → a = b
  | [], [], _ => rfl
  | [], _ :: _, h => by simp at h
  | _ :: _, [], h => by simp at h
  | x :: a, y :: b, h => by
    simp only [List.map_cons, List.cons.injEq] at h
    rw [str_inj h.1, map_inj h.2]
/-- the parts of a join are what was joined -/
theorem split_join {c : Nat} {ps : List Str} (hne : ps ≠ []) (hf : ∀ p ∈ ps, c ∉ p.cps.toList) : Txt.split (Str.join ⟨#[c]⟩ ps) ⟨#[c]⟩ = ps := by
  have j := PySem.StrLaws.join_split (Str.join ⟨#[c]⟩ ps) ⟨#[c]⟩
  have fr := PySem.StrLaws.split_free (Str.join ⟨#[c]⟩ ps) c
  have np := PyProof.Rows.split_pos (Str.join ⟨#[c]⟩ ps) ⟨#[c]⟩
  generalize Txt.split (Str.join ⟨#[c]⟩ ps) ⟨#[c]⟩ = qs at *
  refine map_inj (jn_inj (c := c) (fun h => by
      have e : qs = [] := List.map_eq_nil_iff.mp h
      rw [e] at np
      exact absurd np (by decide)) (by simpa using hne) (fun p hp => ?_) (fun p hp => ?_) ?_)
  · obtain ⟨x, hx, rfl⟩ := List.mem_map.mp hp
    exact fr x hx
  · obtain ⟨x, hx, rfl⟩ := List.mem_map.mp hp
    exact hf x hx
  · rw [← join_jn, ← join_jn, j]
end TX

/-! Plain laws, part 3: plain data shown and compared. -/
namespace DL
open PySem L2

/-! ### data that can be shown -/
mutual
def D.sim : D → Bool
  | .non => true
  | .bl _ => true
  | .int i => decide (-1000000000000 < i ∧ i < 1000000000000)
  | .str x => PyData.strOk x
  | .tup ds => simL ds
  | .lst ds => simL ds
  | _ => false
def simL : List D → Bool
  | [] => true
  | d :: ds => d.sim && simL ds
end
mutual
def D.dep : D → Nat
  | .tup ds => depL ds + 1
  | .lst ds => depL ds + 1
  | _ => 0
def depL : List D → Nat
  | [] => 0
  | d :: ds => max d.dep (depL ds)
end
mutual
def D.wt : D → Nat
  | .int _ => 64
  | .str x => x.cps.size
  | .tup ds => wtL ds
  | .lst ds => wtL ds
  | _ => 0
def wtL : List D → Nat
  | [] => 0
  | d :: ds => d.wt + 1 + wtL ds
end
mutual
def D.py : D → PyData
  | .non => .none
  | .bl b => .bool b
  | .int i => .int i
  | .str x => .str x
  | .tup ds => .tuple (pyL ds)
  | .lst ds => .list (pyL ds)
  | _ => .none
def pyL : List D → List PyData
  | [] => []
  | d :: ds => d.py :: pyL ds
end
structure Sh (d : D) (p : PyData) : Prop where
  py : toPy d = some p
  lay : p.canLay0 = true
  dep : p.depth = d.dep
  wt : p.weight ≤ d.wt
  sh : p.intsShort 13 = true
  shw : p.showable = true
  hd : p.hasDict = false
structure ShL (d : List D) (p : List PyData) : Prop where
  py : toPyL d = some p
  lay : PyData.canLayAll0 p = true
  dep : PyData.depthAll p = depL d
  wt : PyData.weightAll p ≤ wtL d
  sh : PyData.intsShortAll 13 p = true
  shw : PyData.showableAll p = true
  hd : PyData.hasDictAll p = false
theorem int_short {i : Int} (h1 : -1000000000000 < i) (h2 : i < 1000000000000) : (PyData.shown (.int i)).length ≤ 13 := by
  simp only [PyData.shown]
  by_cases h : 0 ≤ i
  · have q := PyProof.Rows.toString_length_le (v := i) h (k := 12) (by decide) (by show i < 10 ^ 12; omega)
    omega
  · have hn : i < 0 := by omega
    have q := PyProof.Rows.toString_length_le (v := 0 - i) (by omega) (k := 12) (by decide) (by show 0 - i < 10 ^ 12; omega)
    rw [PyProof.Rows.toString_neg hn, PyProof.Rows.ofString_len, String.length_append]
    rw [PyProof.Rows.ofString_len] at q
    have e : ("-" : String).length = 1 := rfl
    omega
theorem log_small {n : Nat} (h : n < 1000000000000) : n.log2 < 63 := by
  by_cases h0 : n = 0
  · subst h0; decide
  · have := Nat.log2_self_le h0
    exact Nat.lt_of_not_le fun q => by
      have : 2 ^ 63 ≤ 2 ^ n.log2 := Nat.pow_le_pow_right (by decide) q
      have e : (2 : Nat) ^ 63 = 9223372036854775808 := by decide
      omega
mutual
theorem D.sh : ∀ d : D, d.sim = true → Sh d d.py
  | .non, _ => ⟨rfl, by simp [D.py, PyData.canLay0], by simp [D.py, PyData.depth, D.dep], by simp [D.py, PyData.weight], by simp [D.py, PyData.intsShort], by simp [D.py, PyData.showable], by simp [D.py, PyData.hasDict]⟩
  | .bl _, _ => ⟨rfl, by simp [D.py, PyData.canLay0], by simp [D.py, PyData.depth, D.dep], by simp [D.py, PyData.weight], by simp [D.py, PyData.intsShort], by simp [D.py, PyData.showable], by simp [D.py, PyData.hasDict]⟩
  | .int i, h => by
    have h' : -1000000000000 < i ∧ i < 1000000000000 := by simpa [D.sim] using h
    have lg := log_small (n := i.natAbs) (by omega)
    refine ⟨rfl, by simp [D.py, PyData.canLay0], by simp [D.py, PyData.depth, D.dep], ?_, ?_, ?_, by simp [D.py, PyData.hasDict]⟩
    · simp only [D.py, PyData.weight, D.wt]
      split <;> omega
    · simp only [D.py, PyData.intsShort]
      exact decide_eq_true (int_short h'.1 h'.2)
    · simp only [D.py, PyData.showable]
      exact decide_eq_true (by omega)
  | .str x, h => by
    have h' : PyData.strOk x = true := by simpa [D.sim] using h
    exact ⟨rfl, by simpa [D.py, PyData.canLay0] using h', by simp [D.py, PyData.depth, D.dep], by simp [D.py, PyData.weight, D.wt], by simp [D.py, PyData.intsShort], by simp [D.py, PyData.showable], by simp [D.py, PyData.hasDict]⟩
  | .tup ds, h => by
    have q := simL_sh ds (by simpa [D.sim] using h)
    exact ⟨by simp [toPy, q.py, D.py], by simpa [D.py, PyData.canLay0] using q.lay, by simp [D.py, PyData.depth, D.dep, q.dep], by simpa [D.py, PyData.weight, D.wt] using q.wt, by simpa [D.py, PyData.intsShort] using q.sh, by simpa [D.py, PyData.showable] using q.shw, by simpa [D.py, PyData.hasDict] using q.hd⟩
  | .lst ds, h => by
    have q := simL_sh ds (by simpa [D.sim] using h)
    exact ⟨by simp [toPy, q.py, D.py], by simpa [D.py, PyData.canLay0] using q.lay, by simp [D.py, PyData.depth, D.dep, q.dep], by simpa [D.py, PyData.weight, D.wt] using q.wt, by simpa [D.py, PyData.intsShort] using q.sh, by simpa [D.py, PyData.showable] using q.shw, by simpa [D.py, PyData.hasDict] using q.hd⟩
  | .ty _, h => by simp [D.sim] at h
  | .cls _, h => by simp [D.sim] at h
  | .scr _, h => by simp [D.sim] at h
  | .dic _, h => by simp [D.sim] at h
  | .ins _ _, h => by simp [D.sim] at h
  | .oid _, h => by simp [D.sim] at h
  | .exc _ _, h => by simp [D.sim] at h
theorem simL_sh : ∀ ds : List D, simL ds = true → ShL ds (pyL ds)
  | [], _ => ⟨rfl, by simp [pyL, PyData.canLayAll0], by simp [pyL, PyData.depthAll, depL], by simp [pyL, PyData.weightAll], by simp [pyL, PyData.intsShortAll], by simp [pyL, PyData.showableAll], by simp [pyL, PyData.hasDictAll]⟩
  | d :: ds, h => by
    have h' : d.sim = true ∧ simL ds = true := by simpa [simL] using h
    have a := D.sh d h'.1
    have b := simL_sh ds h'.2
    have bw := b.wt
    have aw := a.wt
    exact ⟨by simp [toPyL, a.py, b.py, pyL], by simp [pyL, PyData.canLayAll0, a.lay, b.lay], by simp [pyL, PyData.depthAll, depL, a.dep, b.dep], by simp only [pyL, PyData.weightAll, wtL]; omega, by simp [pyL, PyData.intsShortAll, a.sh, b.sh], by simp [pyL, PyData.showableAll, a.shw, b.shw], by simp [pyL, PyData.hasDictAll, a.hd, b.hd]⟩
end
theorem toPy_pyOf {d : D} {p : PyData} (S : Store) (h : toPy d = some p) : pyOf S d = some p := by
  cases d <;> first
    | exact h
    | (simp [toPy] at h)
theorem pyOf_sim {d : D} (S : Store) (h : d.sim = true) : pyOf S d = some d.py := toPy_pyOf S (D.sh d h).py
/-- data that is small enough is shown, wherever -/
theorem repr_D {d : D} (h : d.sim = true) (hd : d.dep ≤ 50) (hw : d.wt ≤ 1048576) (S : Store) : gRepr [d] S = .ok (.str d.py.shown) S := by
  have q := D.sh d h
  have e : (2 : Nat) ^ 20 = 1048576 := by decide
  have lay : PyData.layable0 d.py = true := by
    unfold PyData.layable0
    rw [Bool.and_eq_true, Bool.and_eq_true, e]
    have := q.dep
    have := q.wt
    exact ⟨⟨q.lay, decide_eq_true (by omega)⟩, decide_eq_true (by omega)⟩
  have l := PyProof.Rows.shown_le13 lay q.sh
  have s : (15728653 : Nat) ≤ sizeLine := by decide
  have := q.dep
  simp only [gRepr, pyOf_sim S h]
  rw [if_pos ⟨q.shw, q.hd, by omega, by omega⟩]
/-! ### data that is equal -/
mutual
theorem eqv_refl : ∀ p : PyData, p.hasDict = false → p.eqv p = true
  | .none, _ => by simp [PyData.eqv]
  | .bool _, _ => by simp [PyData.eqv]
  | .int _, _ => by simp [PyData.eqv]
  | .str _, _ => by simp [PyData.eqv]
  | .list xs, h => by
    simp only [PyData.eqv]
    exact eqvAll_refl xs (by simpa [PyData.hasDict] using h)
  | .tuple xs, h => by
    simp only [PyData.eqv]
    exact eqvAll_refl xs (by simpa [PyData.hasDict] using h)
  | .dict _, h => by simp [PyData.hasDict] at h
theorem eqvAll_refl : ∀ p : List PyData, PyData.hasDictAll p = false → PyData.eqvAll p p = true
  | [], _ => by simp [PyData.eqvAll]
  | x :: xs, h => by
    have h' : x.hasDict = false ∧ PyData.hasDictAll xs = false := by simpa [PyData.hasDictAll] using h
    simp only [PyData.eqvAll, eqv_refl x h'.1, eqvAll_refl xs h'.2]
    rfl
end
mutual
/-- no truths in it -/
def D.nb : D → Bool
  | .bl _ => false
  | .tup ds => nbL ds
  | .lst ds => nbL ds
  | _ => true
def nbL : List D → Bool
  | [] => true
  | d :: ds => d.nb && nbL ds
end
mutual
theorem eqv_eq : ∀ d e : D, d.sim = true → e.sim = true → d.nb = true → e.nb = true → d.py.eqv e.py = true → d = e
  | .non, e, _, h, _, n, q => by cases e <;> simp_all [D.sim, D.nb, D.py, PyData.eqv]
  | .int i, e, _, h, _, n, q => by cases e <;> simp_all [D.sim, D.nb, D.py, PyData.eqv]
  | .str i, e, _, h, _, n, q => by cases e <;> simp_all [D.sim, D.nb, D.py, PyData.eqv]
  | .tup ds, e, hd, h, hn, n, q => by
    cases e with
    | tup es =>
      simp only [D.sim, D.nb, D.py, PyData.eqv] at hd h hn n q
      rw [eqvL_eq ds es hd h hn n q]
    | _ => simp_all [D.sim, D.nb, D.py, PyData.eqv]
  | .lst ds, e, hd, h, hn, n, q => by
    cases e with
    | lst es =>
      simp only [D.sim, D.nb, D.py, PyData.eqv] at hd h hn n q
      rw [eqvL_eq ds es hd h hn n q]
    | _ => simp_all [D.sim, D.nb, D.py, PyData.eqv]
  | .bl _, _, _, _, h, _, _ => by simp [D.nb] at h
  | .ty _, _, h, _, _, _, _ => by simp [D.sim] at h
  | .cls _, _, h, _, _, _, _ => by simp [D.sim] at h
  | .scr _, _, h, _, _, _, _ => by simp [D.sim] at h
  | .dic _, _, h, _, _, _, _ => by simp [D.sim] at h
  | .ins _ _, _, h, _, _, _, _ => by simp [D.sim] at h
  | .exc _ _, _, h, _, _, _, _ => by simp [D.sim] at h
  | .oid _, _, h, _, _, _, _ => by simp [D.sim] at h
theorem eqvL_eq : ∀ ds es : List D, simL ds = true → simL es = true → nbL ds = true → nbL es = true → PyData.eqvAll (pyL ds) (pyL es) = true → ds = es
  | [], [], _, _, _, _, _ => rfl
  | [], _ :: _, _, _, _, _, q => by simp [pyL, PyData.eqvAll] at q
  | _ :: _, [], _, _, _, _, q => by simp [pyL, PyData.eqvAll] at q
  | d :: ds, e :: es, hd, h, hn, n, q => by
    simp only [simL, nbL, pyL, PyData.eqvAll, Bool.and_eq_true] at hd h hn n q
    rw [eqv_eq d e hd.1 h.1 hn.1 n.1 q.1, eqvL_eq ds es hd.2 h.2 hn.2 n.2 q.2]
end
def seqD : D → Store → Res ItD := fun d S => match d with
  | .tup ds => .ok ⟨ds, none⟩ S
  | .lst ds => .ok ⟨ds, none⟩ S
  | .scr ds => .ok ⟨ds, none⟩ S
  | d => match asL S d with
    | some ds => .ok ⟨ds, some (d, ds)⟩ S
    | none => .stuck
@[simp] theorem e_fSeq (fe : FE) (ρ : EnvD) (S : Store) : fSeq fe ρ S = (fe ρ S).bind seqD := rfl
@[simp] theorem e_seqD_t (ds : List D) (S : Store) : seqD (.tup ds) S = .ok ⟨ds, none⟩ S := rfl
@[simp] theorem e_seqD_l (ds : List D) (S : Store) : seqD (.lst ds) S = .ok ⟨ds, none⟩ S := rfl
@[simp] theorem e_seqD_s (ds : List D) (S : Store) : seqD (.scr ds) S = .ok ⟨ds, none⟩ S := rfl
def enumC : List D → Store → Res ItD := fun ds S => match ds with
  | [.lst ds] => .ok ⟨enumD 0 ds, none⟩ S
  | [d] => match asL S d with
    | some ds => .ok ⟨enumD 0 ds, some (d, ds)⟩ S
    | none => .stuck
  | _ => .stuck
@[simp] theorem e_fEnum (fr : FA) (ρ : EnvD) (S : Store) : fEnum fr ρ S = (fr ρ S).bind enumC := rfl
@[simp] theorem e_enumC_l (ds : List D) (S : Store) : enumC [.lst ds] S = .ok ⟨enumD 0 ds, none⟩ S := rfl
@[simp] theorem e_gAug (i : Nat) (fe : FE) (g : G2) (ρ : EnvD) (S : Store) : gAug i fe g ρ S = match ρ[i]? with
  | some (some x) => (fe ρ S).into ρ fun y S => (g x y S).into ρ fun z S => .nx (ρ.set i (some z)) S
  | _ => .stuck := rfl
@[simp] theorem e_gIp (f : Int → Int → Int) (i j : Int) (S : Store) : gIp f (.int i) (.int j) S = .ok (.int (f i j)) S := rfl
theorem e_addl (xs ys : List D) (S : Store) (h : short (xs.length + ys.length) = true) : gAdd (.lst xs) (.lst ys) S = .ok (.lst (xs ++ ys)) S := by
  simp [gAdd, isI, isS, isT, gAddL, asLt, h]
theorem simL_all {ds : List D} : simL ds = true ↔ ∀ d ∈ ds, d.sim = true := by
  induction ds with
  | nil => simp [simL]
  | cons d ds ih => simp [simL, ih]
theorem depL_le {n : Nat} {ds : List D} : depL ds ≤ n ↔ ∀ d ∈ ds, d.dep ≤ n := by
  induction ds with
  | nil => simp [depL]
  | cons d ds ih => simp [depL, ← ih, Nat.max_le]
theorem nbL_all {ds : List D} : nbL ds = true ↔ ∀ d ∈ ds, d.nb = true := by
  induction ds with
  | nil => simp [nbL]
  | cons d ds ih => simp [nbL, ih]
theorem wtL_le {n : Nat} {ds : List D} (h : ∀ d ∈ ds, d.wt ≤ n) : wtL ds ≤ (n + 1) * ds.length := by
  induction ds with
  | nil => simp [wtL]
  | cons d ds ih =>
    have h1 := h d List.mem_cons_self
    have h2 := ih fun e he => h e (List.mem_cons_of_mem _ he)
    simp only [wtL, List.length_cons, Nat.mul_add, Nat.mul_one]
    omega
end DL

/-! Plain laws of dict displays, dicts of numbers, the least of a list. -/
namespace DL
open PySem L2
section
variable {ρ : EnvD} {S : Store}
@[simp] theorem e_fDisp (fp : FP) : fDisp fp ρ S = (fp ρ (S ++ [.dic []])).bind fun ps S' => dispAt S.length ps S' := rfl
@[simp] theorem e_fPs0 : fPs0 ρ S = .ok [] S := rfl
@[simp] theorem e_fPs (fk fv : FE) (fr : FP) : fPs fk fv fr ρ S = (fk ρ S).bind fun x S => (fv ρ S).bind fun y S => (fr ρ S).bind fun ps S => .ok ((x, y) :: ps) S := rfl
end
theorem toPyL_ints : ∀ ns : List Int, toPyL (ns.map D.int) = some (ns.map PyData.int)
  | [] => rfl
  | n :: ns => by
    have := toPyL_ints ns
    simp [toPyL, toPy, this]
theorem lay_ints : ∀ ns : List Int, PyData.canLayAll0 (ns.map PyData.int) = true
  | [] => rfl
  | n :: ns => by
    have := lay_ints ns
    simp only [List.map_cons, PyData.canLayAll0, PyData.canLay0, this]
    rfl
theorem depth_ints : ∀ ns : List Int, PyData.depthAll (ns.map PyData.int) = 0
  | [] => rfl
  | n :: ns => by
    have := depth_ints ns
    simp [PyData.depthAll, PyData.depth, this]
theorem shaped_ints (ns : List Int) : SeqAt.shaped (.list (ns.map PyData.int)) = true := by
  simp [SeqAt.shaped, PyData.canLay0, lay_ints, PyData.depth, depth_ints]
theorem eq_nilP {ds : List D} {ps : List PyData} {S : Store} (e1 : toPyL ds = some ps) (e3 : SeqAt.shaped (.list ps) = true) : gEq (.lst ds) (.lst []) S = .ok (.bl ds.isEmpty) S ∧ gNe (.lst ds) (.lst []) S = .ok (.bl (!ds.isEmpty)) S := by
  have e0 : pyOf S (.lst ds) = some (.list ps) := by simp [pyOf, toPy, e1]
  have e2 : pyOf S (.lst []) = some (.list []) := by simp [pyOf, toPy, toPyL]
  have e5 : SeqAt.shaped (.list []) = true := shaped_ints []
  have e4 : PyData.eqv (.list ps) (.list []) = ds.isEmpty := by
    cases ds with
    | nil => cases e1; simp [PyData.eqv, PyData.eqvAll]
    | cons d ds =>
      cases ps with
      | nil =>
        exfalso
        unfold toPyL at e1
        cases h1 : toPy d with
        | none => rw [h1] at e1; cases e1
        | some x =>
          rw [h1] at e1
          cases h2 : toPyL ds with
          | none => rw [h2] at e1; cases e1
          | some y => rw [h2] at e1; cases e1
      | cons p ps => simp [PyData.eqv, PyData.eqvAll]
  constructor
  · show (if pScal (.lst ds) (.lst []) S then _ else gEqD false (.lst ds) (.lst []) S) = _
    rw [if_neg (by simp [pScal, scalD])]
    simp [gEqD, e0, e2, e3, e5, e4]
  · show (if pScal (.lst ds) (.lst []) S then _ else gEqD true (.lst ds) (.lst []) S) = _
    rw [if_neg (by simp [pScal, scalD])]
    simp [gEqD, e0, e2, e3, e5, e4]
@[simp] theorem e_fGet2 {ρ : EnvD} {S : Store} (fo fe ff : FE) : fGet2 fo fe ff ρ S = (fo ρ S).bind fun x S => if (asD S x).isSome then (fe ρ S).bind fun y S => (ff ρ S).bind fun z S => gGet x y z S else .stuck := rfl
@[simp] theorem e_fGet1 {ρ : EnvD} {S : Store} (fo fe : FE) : fGet1 fo fe ρ S = (fo ρ S).bind fun x S => if (asD S x).isSome then (fe ρ S).bind fun y S => gGet x y .non S else .stuck := rfl
end DL

/-! Texts as lists of signs. -/
namespace TY
open PySem DL
def tx (l : List Nat) : Str := ⟨l.toArray⟩
theorem tx_cps (l : List Nat) : (tx l).cps.toList = l := by simp [tx]
theorem tx_len (l : List Nat) : (tx l).length = l.length := by
  show (l.toArray).size = _
  simp
theorem tx_inj {a b : List Nat} : tx a = tx b ↔ a = b := ⟨fun h => by rw [← tx_cps a, ← tx_cps b, h], fun h => by rw [h]⟩
theorem tx_app (a b : List Nat) : tx a ++ tx b = tx (a ++ b) := by
  apply TX.str_inj
  show (a.toArray ++ b.toArray).toList = _
  simp [tx]
theorem tx_of (x : Str) : tx x.cps.toList = x := TX.str_inj (tx_cps _)
/-! ### parting at a sign -/
def splitL (c : Nat) : List Nat → List (List Nat)
  | [] => [[]]
  | x :: xs => if x = c then [] :: splitL c xs else match splitL c xs with
    | p :: ps => (x :: p) :: ps
    | [] => [[x]]
theorem splitL_cons (c x : Nat) (xs : List Nat) (h : ¬ x = c) : ∃ p ps, splitL c xs = p :: ps ∧ splitL c (x :: xs) = (x :: p) :: ps := by
  cases xs with
  | nil => exact ⟨[], [], rfl, by simp [splitL, h]⟩
  | cons y ys =>
    have ne : splitL c (y :: ys) ≠ [] := by
      unfold splitL
      split
      · simp
      · split <;> simp
    obtain ⟨p, ps, e⟩ := List.exists_cons_of_ne_nil ne
    refine ⟨p, ps, e, ?_⟩
    rw [splitL, if_neg h, e]
theorem splitL_sep (c : Nat) (xs : List Nat) : splitL c (c :: xs) = [] :: splitL c xs := by rw [splitL, if_pos rfl]
theorem splitL_none {c : Nat} : ∀ {p : List Nat}, c ∉ p → splitL c p = [p]
  | [], _ => rfl
  | x :: p, h => by
    have h1 : ¬ x = c := fun z => h (by rw [z]; exact List.mem_cons_self)
    rw [splitL, if_neg h1, splitL_none fun z => h (List.mem_cons_of_mem _ z)]
theorem splitL_app {c : Nat} : ∀ (a b : List Nat), splitL c (a ++ c :: b) = splitL c a ++ splitL c b
  | [], b => by rw [List.nil_append, splitL_sep]; rfl
  | x :: a, b => by
    by_cases h : x = c
    · subst h
      rw [List.cons_append, splitL_sep, splitL_sep, splitL_app a b, List.cons_append]
    · obtain ⟨p, ps, e1, e2⟩ := splitL_cons c x a h
      obtain ⟨p', ps', e3, e4⟩ := splitL_cons c x (a ++ c :: b) h
      rw [List.cons_append, e4, e2]
      rw [splitL_app a b, e1] at e3
      simp only [List.cons_append, List.cons.injEq] at e3 ⊢
      rw [e3.1, e3.2]
      simp
theorem splitL_free {c : Nat} : ∀ (l : List Nat), ∀ p ∈ splitL c l, c ∉ p
  | [], p, h => by
    rw [splitL, List.mem_singleton] at h
    rw [h]
    simp
  | x :: l, p, h => by
    by_cases hx : x = c
    · subst hx
      rw [splitL_sep] at h
      rcases List.mem_cons.mp h with z | z
      · rw [z]; simp
      · exact splitL_free l p z
    · obtain ⟨q, qs, e1, e2⟩ := splitL_cons c x l hx
      have fr := splitL_free (c := c) l
      rw [e1] at fr
      rw [e2] at h
      rcases List.mem_cons.mp h with z | z
      · rw [z]
        intro k
        rcases List.mem_cons.mp k with k | k
        · exact hx k.symm
        · exact fr q List.mem_cons_self k
      · exact fr p (List.mem_cons_of_mem _ z)
theorem jn_cons {c : Nat} {p : List Nat} {ps : List (List Nat)} (h : ps ≠ []) : TX.jn c (p :: ps) = p ++ c :: TX.jn c ps := by
  cases ps with
  | nil => exact absurd rfl h
  | cons q r => rfl
theorem splitL_jn {c : Nat} : ∀ {ps : List (List Nat)}, ps ≠ [] → (∀ p ∈ ps, c ∉ p) → splitL c (TX.jn c ps) = ps
  | [], h, _ => absurd rfl h
  | [p], _, h => splitL_none (h p List.mem_cons_self)
  | p :: q :: r, _, h => by
    rw [jn_cons (by simp), splitL_app, splitL_none (h p List.mem_cons_self), splitL_jn (by simp) fun x hx => h x (List.mem_cons_of_mem _ hx)]
    rfl
theorem splitL_ne (c : Nat) (l : List Nat) : splitL c l ≠ [] := by
  cases l with
  | nil => simp [splitL]
  | cons x xs =>
    unfold splitL
    split
    · simp
    · split <;> simp
theorem jn_splitL {c : Nat} : ∀ (l : List Nat), TX.jn c (splitL c l) = l
  | [] => rfl
  | x :: l => by
    have ih := jn_splitL (c := c) l
    by_cases hx : x = c
    · subst hx
      rw [splitL_sep, jn_cons (splitL_ne _ _), ih]
      rfl
    · obtain ⟨q, qs, e1, e2⟩ := splitL_cons c x l hx
      rw [e1] at ih
      rw [e2]
      cases qs with
      | nil =>
        have : q = l := ih
        rw [← this]
        rfl
      | cons r rs =>
        rw [jn_cons (by simp)] at ih ⊢
        rw [← ih]
        rfl
theorem map_cps (ps : List (List Nat)) : (ps.map tx).map (fun p => p.cps.toList) = ps := by
  rw [List.map_map]
  conv => rhs; rw [← List.map_id ps]
  apply List.map_congr_left
  intro p _
  simp [tx_cps]
theorem sjoin_tx (c : Nat) (ps : List (List Nat)) : Str.join (tx [c]) (ps.map tx) = tx (TX.jn c ps) := by
  apply TX.str_inj
  have := TX.join_jn c (ps.map tx)
  rw [map_cps] at this
  rw [tx_cps]
  exact this
theorem join_tx (c : Nat) (ps : List (List Nat)) : Txt.join (tx [c]) (ps.map tx) = tx (TX.jn c ps) := by
  rw [← sjoin_tx]
  exact StrLaws.glued_eq_join _ _
theorem split_tx (c : Nat) (l : List Nat) : Txt.split (tx l) (tx [c]) = (splitL c l).map tx := by
  have h := TX.split_join (c := c) (ps := (splitL c l).map tx) (by simpa using splitL_ne c l) (fun p hp => by
    obtain ⟨x, hx, rfl⟩ := List.mem_map.mp hp
    rw [tx_cps]
    exact splitL_free l x hx)
  have e : Str.join ⟨#[c]⟩ ((splitL c l).map tx) = tx l := by
    have := sjoin_tx c (splitL c l)
    rw [jn_splitL] at this
    exact this
  rw [e] at h
  exact h
/-! ### words -/
def wordsL (l : List Nat) : List (List Nat) := (splitL 32 l).filter (fun p => !p.isEmpty)
/-- words with blanks between -/
def jnB (n : Nat) : List (List Nat) → List Nat
  | [] => []
  | [p] => p
  | p :: q :: r => p ++ List.replicate (n + 1) 32 ++ jnB n (q :: r)
theorem jn_jnB : ∀ ps : List (List Nat), TX.jn 32 ps = jnB 0 ps
  | [] => rfl
  | [p] => rfl
  | p :: q :: r => by
    rw [jn_cons (by simp), jn_jnB (q :: r)]
    simp [jnB]
/-! ### numbers -/
def numL (i : Int) : List Nat := (Str.ofString (toString i)).cps.toList
theorem tx_num (i : Int) : tx (numL i) = Str.ofString (toString i) := tx_of _
theorem numL_nat (n : Nat) : numL (n : Int) = (Nat.toDigits 10 n).map Char.toNat := PySem.W.KIN.signs_num n
theorem numL_neg (n : Nat) : numL (-((n : Int) + 1)) = 45 :: numL ((n + 1 : Nat) : Int) := by
  have e : (-((n : Int) + 1)) = Int.negSucc n := by omega
  unfold numL
  rw [e, PyProof.Rows.signs_ofString, PyProof.Rows.signs_ofString]
  show ("-" ++ toString (n + 1) : String).toList.map Char.toNat = _
  rw [String.toList_append, List.map_append]
  rfl
theorem numL_digits (n : Nat) : NumText.AllDigits (numL n) := by
  intro c hc
  rw [numL_nat] at hc
  obtain ⟨ch, hch, e⟩ := List.mem_map.mp hc
  have r := PyProof.Rows.digit_range (Nat.isDigit_of_mem_toDigits (by decide) (by decide) hch)
  rw [← e]
  exact r
theorem numL_ne (n : Nat) : numL n ≠ [] := by
  rw [numL_nat]
  intro e
  have h := PySem.toDigits_len_ge 10 n
  rw [List.map_eq_nil_iff.mp e] at h
  exact absurd h (by decide)
theorem numL_len {n : Nat} (h : n < 10 ^ 10) : (numL n).length ≤ 10 := by
  have := PySem.W.KT.len_num (n := (n : Int)) (by omega) (by exact_mod_cast h)
  have e : (Str.ofString (toString (n : Int))).length = (numL n).length := by
    show (Str.ofString (toString (n : Int))).cps.size = _
    unfold numL
    simp
  omega
theorem cases_int (i : Int) : (∃ n : Nat, i = n) ∨ ∃ n : Nat, i = -((n : Int) + 1) := by
  rcases Int.lt_or_le i 0 with h | h
  · exact .inr ⟨(-i - 1).toNat, by omega⟩
  · exact .inl ⟨i.toNat, by omega⟩
theorem figs (c : Nat) : c ∈ ("0123456789" : Str).cps.toList ↔ 48 ≤ c ∧ c ≤ 57 := by
  have e : ("0123456789" : Str).cps.toList = [48, 49, 50, 51, 52, 53, 54, 55, 56, 57] := by decide +kernel
  rw [e]
  simp only [List.mem_cons, List.not_mem_nil, or_false]
  omega
theorem starts_cons (x c : Nat) (l : List Nat) : Txt.startswith (tx (x :: l)) (tx [c]) = decide (x = c) := by
  unfold Txt.startswith
  have h1 : (tx [c]).length = 1 := tx_len _
  have h2 : (tx (x :: l)).length = l.length + 1 := tx_len _
  rw [h1, h2]
  have h3 : decide (0 + 1 ≤ l.length + 1) = true := by simp
  rw [h3, Bool.true_and]
  unfold Builtin.Str.subAt
  rw [h1]
  have e : (tx (x :: l)).cps.extract 0 (0 + 1) = (tx [x]).cps := by
    apply Array.toList_inj.mp
    simp [tx]
  rw [e]
  by_cases h : x = c
  · subst h
    simp
  · have : ¬ (tx [x]).cps = (tx [c]).cps := fun z => by
      have := congrArg Array.toList z
      rw [tx_cps, tx_cps] at this
      simp at this
      exact h this
    simp [h, this]
theorem cut1 (x : Nat) (l : List Nat) : L2.cutS (tx (x :: l)) (some 1) none = tx l := by
  unfold L2.cutS
  have e1 : HT.sIx (tx (x :: l)).length 0 (some 1) = 1 := by
    have h : HT.sIx (tx (x :: l)).length 0 (some 1) = min 1 (tx (x :: l)).length := HT.sIx_nat _ _ 1
    rw [h, tx_len, List.length_cons]
    omega
  rw [HT.sIx_none, e1, tx_cps, tx_len]
  simp [tx]
end TY

/-! Words: values written and read. -/
namespace K03
open PySem L2 DL TY
abbrev sD (l : List Nat) : D := .str (tx l)
theorem cl_if {α : Type} {P : Prop} (h : P) (a b : Res α) : @ite _ P (Classical.propDecidable _) a b = a := by rw [if_pos h]
section
variable (S : Store)
theorem add_s {a b : List Nat} (h : a.length + b.length ≤ 1000000) : gAdd (sD a) (sD b) S = .ok (sD (a ++ b)) S := by
  have : (1000000 : Nat) ≤ sizeLine := by decide
  have hs : short ((tx a).length + (tx b).length) = true := by
    rw [tx_len, tx_len]
    exact decide_eq_true (by omega)
  show (if short ((tx a).length + (tx b).length) then Res.ok (D.str (tx a ++ tx b)) S else .stuck) = _
  rw [if_pos hs, tx_app]
theorem strs_s : ∀ ps : List (List Nat), strsOf (ps.map sD) = some (ps.map tx)
  | [] => rfl
  | p :: ps => by
    show (strsOf (ps.map sD)).map (tx p :: ·) = _
    rw [strs_s ps]
    rfl
theorem sum_len (ps : List (List Nat)) : (ps.map tx).map (fun x => x.length) = ps.map List.length := by
  rw [List.map_map]
  apply List.map_congr_left
  intro p _
  exact tx_len p
theorem join_g {d : D} {sep : List Nat} {ps : List (List Nat)} (hd : asQ S d = some (ps.map sD)) (h : (ps.map List.length).sum + ps.length * sep.length ≤ 1000000) : gJoin (sD sep) [d] S = .ok (.str (Txt.join (tx sep) (ps.map tx))) S := by
  have e : (asQ S d).bind strsOf = some (ps.map tx) := by rw [hd]; exact strs_s ps
  unfold gJoin
  simp only [e]
  rw [cl_if]
  rw [sum_len, tx_len, List.length_map]
  omega
theorem join_s {d : D} {c : Nat} {ps : List (List Nat)} (hd : asQ S d = some (ps.map sD)) (h : (ps.map List.length).sum + ps.length ≤ 1000000) : gJoin (sD [c]) [d] S = .ok (sD (TX.jn c ps)) S := by
  rw [join_g S hd (by simpa using h), join_tx]
theorem split_s {c : Nat} {l : List Nat} (h : l.length ≤ 1000000) : gSplit (sD l) [sD [c]] S = .ok (.lst ((splitL c l).map sD)) S := by
  have : (1000002 : Nat) ≤ sizeLine := by decide
  unfold gSplit
  simp only
  rw [cl_if ⟨by rw [tx_len]; rfl, by rw [tx_len]; omega⟩, split_tx, List.map_map]
  rfl
theorem splitO_s {c : Nat} {l : List Nat} (h : l.length ≤ 1000000) : gSplitO (sD l) [sD [c]] S = .ok (.oid S.length) (S ++ [.lst ((splitL c l).map sD)]) := by
  have : (1000002 : Nat) ≤ sizeLine := by decide
  unfold gSplitO
  simp only
  rw [cl_if ⟨by rw [tx_len]; rfl, by rw [tx_len]; omega⟩, split_tx, List.map_map]
  rfl
theorem starts_s (x c : Nat) (l : List Nat) : gStarts (sD (x :: l)) [sD [c]] S = .ok (.bl (decide (x = c))) S := by
  unfold gStarts
  simp only [starts_cons]
theorem slice_s {x : Nat} {l : List Nat} (h : l.length ≤ 1000000) : gSlS (sD (x :: l)) (some 1) none S = .ok (sD l) S := by
  have : (1000002 : Nat) ≤ sizeLine := by decide
  unfold gSlS
  simp only
  rw [cl_if (by rw [tx_len, List.length_cons]; omega), cut1]
theorem log_ok {i : Int} (h1 : -1000000000 ≤ i) (h2 : i ≤ 1000000000) : i.natAbs.log2 < 1920 := by
  by_cases h : i.natAbs = 0
  · rw [h]
    decide
  · have h3 : i.natAbs < 2 ^ 31 := by
      have : (2 : Nat) ^ 31 = 2147483648 := by decide
      omega
    have := (Nat.log2_lt h).mpr h3
    omega
theorem str_i {i : Int} (h1 : -1000000000 ≤ i) (h2 : i ≤ 1000000000) : gStrI [.int i] S = .ok (sD (numL i)) S := by
  unfold gStrI
  simp only
  rw [cl_if (log_ok h1 h2)]
  exact congrArg (fun x => Res.ok (D.str x) S) (tx_num i).symm
theorem numL_len' {i : Int} (h1 : -1000000000 ≤ i) (h2 : i ≤ 1000000000) : (numL i).length ≤ 11 := by
  rcases cases_int i with ⟨n, rfl⟩ | ⟨n, rfl⟩
  · have := numL_len (n := n) (by omega)
    omega
  · have := numL_len (n := n + 1) (by omega)
    rw [numL_neg, List.length_cons]
    omega
theorem in_f (c : Nat) : gInC true (.str ⟨#[c]⟩) (.str "0123456789") S = .ok (.bl (!decide (48 ≤ c ∧ c ≤ 57))) S := by
  have e : decide (c ∈ ("0123456789" : Str).cps.toList) = decide (48 ≤ c ∧ c ≤ 57) := decide_eq_decide.mpr (figs c)
  rw [← e]
  simp [gInC]
theorem len_s {l : List Nat} (h : l.length ≤ 1000000) : gLen [sD l] S = .ok (.int l.length) S := by
  simp [gLen, isDic1, isStr1, gLenS, tx_len, asD, short_le h]
end
/-! ### literals -/
theorem t_minus : ("-" : Str) = tx [45] := by decide +kernel
theorem t_at : ("@" : Str) = tx [64] := by decide +kernel
theorem t_sp : (" " : Str) = tx [32] := by decide +kernel
theorem t_nl : ("\n" : Str) = tx [10] := by decide +kernel
theorem t_e : ("" : Str) = tx [] := by decide +kernel
/-! ### values -/
def valL : Vl → List Nat
  | .non => [45]
  | .num i => numL i
  | .at_ n => 64 :: numL n
def inB : Vl → Prop
  | .non => True
  | .num i => -1000000000 ≤ i ∧ i ≤ 1000000000
  | .at_ n => n ≤ 1000000
theorem okV.inB {m : Nat} {v : Vl} (hm : m ≤ 1000000) (h : okV m v) : inB v := by
  cases v with
  | non => trivial
  | num i => exact h
  | at_ n =>
    have : n < m := h
    show n ≤ 1000000
    omega
theorem lvalue_ok {v : Vl} (h : inB v) (S : Store) : S_p_law_value_text [dV v] S = .ok (sD (valL v)) S := by
  unfold S_p_law_value_text m_p_law_value_text
  cases v with
  | non => simp [dV, valL, isiT, tyS, t_minus]
  | num i => simp [dV, valL, isiT, tyS, str_i S h.1 h.2]
  | at_ n =>
    have hn : n ≤ 1000000 := h
    have hl := numL_len' (i := (n : Int)) (by omega) (by omega)
    have a := add_s S (a := [64]) (b := numL n) (by simp; omega)
    simp [dV, valL, isiT, tyS, ixN, str_i S (i := (n : Int)) (by omega) (by omega), t_at, a]
theorem c_lvalue {v : Vl} (h : inB v) (S : Store) : callSub S_p_law_value_text [dV v] S = .ok (sD (valL v)) S := callSub_ok (by simp [pureL, dV_pure]) (lvalue_ok h []) rfl
/-- where a value leads -/
def ld : Vl → D
  | .at_ n => .int n
  | _ => .non
theorem ld_ok (v : Vl) (S : Store) : S_led_to [dV v] S = .ok (ld v) S := by
  unfold S_led_to m_led_to
  cases v <;> simp [dV, ld, isiT]
theorem c_ld (v : Vl) (S : Store) : callSub S_led_to [dV v] S = .ok (ld v) S := callSub_ok (by simp [pureL, dV_pure]) (ld_ok v []) (by cases v <;> rfl)
/-! ### numbers read -/
end K03

/-! Texts of numbers: which ones are. -/
namespace K03
open PySem L2 DL TY NumText
theorem num_snoc {m d : Nat} (hm : 0 < m) (hd : d < 10) : numL ((m * 10 + d : Nat) : Int) = numL (m : Int) ++ [48 + d] := by
  have t : Nat.toDigits 10 m ++ Nat.toDigits 10 d = Nat.toDigits 10 (10 * m + d) := Nat.toDigits_append_toDigits (by decide) hm hd
  have e : m * 10 + d = 10 * m + d := by omega
  have g : ∀ d : Nat, d < 10 → (Nat.digitChar d).toNat = 48 + d := by decide
  rw [e, numL_nat, ← t, List.map_append, Nat.toDigits_of_lt_base hd, numL_nat]
  simp [g d hd]
theorem num_small {d : Nat} (hd : d < 10) : numL (d : Int) = [48 + d] := by
  have g : ∀ d : Nat, d < 10 → (Nat.digitChar d).toNat = 48 + d := by decide
  rw [numL_nat, Nat.toDigits_of_lt_base hd]
  simp [g d hd]
theorem val_snoc (f : List Nat) (c : Nat) : digitsVal (f ++ [c]) = digitsVal f * 10 + (c - 48) := by
  simp [digitsVal]
theorem val_num (n : Nat) : digitsVal (numL (n : Int)) = n := by
  rw [numL_nat]
  exact PySem.W.KIN.val_back n
/-- no nought ahead: the number's own text -/
theorem snoc_of {α : Type} {f : List α} (h : f ≠ []) : ∃ g c, f = g ++ [c] := by
  rcases List.eq_nil_or_concat f with e | ⟨g, c, e⟩
  · exact absurd e h
  · exact ⟨g, c, by rw [e, List.concat_eq_append]⟩
theorem num_of : ∀ (k : Nat) (f : List Nat), f.length ≤ k → AllDigits f → f ≠ [] → f.head? ≠ some 48 → 0 < digitsVal f ∧ numL (digitsVal f : Nat) = f
  | 0, f, hk, hd, hn, h0 => absurd (List.length_eq_zero_iff.mp (by omega)) hn
  | k + 1, f, hk, hd, hn, h0 => by
    obtain ⟨g, c, rfl⟩ := snoc_of hn
    have hc := hd c (by simp)
    have hg : AllDigits g := fun x hx => hd x (by simp [hx])
    by_cases e : g = []
    · subst e
      have c48 : c ≠ 48 := fun z => h0 (by simp [z])
      have v : digitsVal ([] ++ [c]) = c - 48 := by rw [val_snoc]; simp [digitsVal]
      rw [v]
      refine ⟨by omega, ?_⟩
      rw [num_small (by omega)]
      have : 48 + (c - 48) = c := by omega
      rw [this]
      rfl
    · have hh : g.head? ≠ some 48 := fun z => h0 (by
        cases g with
        | nil => exact absurd rfl e
        | cons x y => simpa using z)
      obtain ⟨p, q⟩ := num_of k g (by rw [List.length_append] at hk; simp at hk; omega) hg e hh
      rw [val_snoc]
      refine ⟨by omega, ?_⟩
      rw [num_snoc p (by omega), q]
      have : 48 + (c - 48) = c := by omega
      rw [this]
/-- a number's text has no nought ahead -/
theorem num_head : ∀ (n : Nat), 0 < n → (numL (n : Int)).head? ≠ some 48
  | n, h => by
    by_cases hn : n < 10
    · rw [num_small hn]
      simp
      omega
    · have e : n = (n / 10) * 10 + n % 10 := by omega
      rw [e, num_snoc (by omega) (by omega)]
      have ih := num_head (n / 10) (by omega)
      have ne := numL_ne (n / 10)
      cases q : numL ((n / 10 : Nat) : Int) with
      | nil => exact absurd q ne
      | cons a b =>
        rw [q] at ih
        simpa using ih
theorem num_zero : numL ((0 : Nat) : Int) = [48] := num_small (by decide)
def figsL : List Nat → List Nat
  | 45 :: r => r
  | w => w
theorem figs_other {x : Nat} (h : x ≠ 45) (r : List Nat) : figsL (x :: r) = x :: r := by
  unfold figsL
  split
  · rename_i r' e
    exact absurd (List.cons.inj e).1 h
  · rfl
def numB (i : Int) : Prop := -1000000000 ≤ i ∧ i ≤ 1000000000
/-- a word tells a number -/
def isN (w : List Nat) : Prop := ∃ i, numB i ∧ w = numL i
theorem numL_inj {i j : Int} (h : numL i = numL j) : i = j := by
  have hd : ∀ n : Nat, (numL (n : Int)).head? ≠ some 45 := fun n z => by
    cases q : numL (n : Int) with
    | nil => rw [q] at z; cases z
    | cons a b =>
      rw [q] at z
      have := numL_digits n a (by rw [q]; exact List.mem_cons_self)
      simp at z
      omega
  rcases cases_int i with ⟨n, rfl⟩ | ⟨n, rfl⟩ <;> rcases cases_int j with ⟨m, rfl⟩ | ⟨m, rfl⟩
  · rw [← val_num n, ← val_num m, h]
  · rw [numL_neg] at h
    exact absurd (by rw [h]; rfl) (hd n)
  · rw [numL_neg] at h
    exact absurd (by rw [← h]; rfl) (hd m)
  · rw [numL_neg, numL_neg] at h
    have := congrArg digitsVal (List.cons.inj h).2
    rw [val_num, val_num] at this
    omega
open Classical in
noncomputable def numR (w : List Nat) : Option Int := if h : isN w then some (choose h) else none
theorem numR_num {i : Int} (h : numB i) : numR (numL i) = some i := by
  have e : isN (numL i) := ⟨i, h, rfl⟩
  unfold numR
  rw [dif_pos e]
  exact congrArg some (numL_inj (Classical.choose_spec e).2).symm
theorem numR_none {w : List Nat} (h : ¬ isN w) : numR w = none := by
  unfold numR
  rw [dif_neg h]
theorem numR_some {w : List Nat} {i : Int} (h : numR w = some i) : numB i ∧ w = numL i := by
  unfold numR at h
  split at h
  · rename_i e
    cases h
    exact Classical.choose_spec e
  · cases h
/-- the worth of a word with figures alone -/
def worth (w : List Nat) : Int := if w.head? = some 45 then -((digitsVal (figsL w) : Nat) : Int) else ((digitsVal w : Nat) : Int)
theorem int_w {w : List Nat} (hd : AllDigits (figsL w)) (hn : figsL w ≠ []) (hl : w.length ≤ 600) (S : Store) : gIntS [sD w] S = .ok (.int (worth w)) S := by
  cases w with
  | nil => exact absurd rfl hn
  | cons x r =>
    by_cases hx : x = 45
    · subst hx
      have e := intText_neg (x := tx (45 :: r)) (cs := r) (by rw [tx_cps]) hd hn (by rw [tx_len]; omega)
      unfold gIntS
      simp only [e]
      rw [cl_if (by rw [tx_len]; omega)]
      rfl
    · rw [figs_other hx] at hd
      have e := intText_digits (x := tx (x :: r)) (by rw [tx_cps]; exact hd) (by rw [tx_cps]; simp) (by rw [tx_len]; omega)
      rw [tx_cps] at e
      unfold gIntS
      simp only [e]
      rw [cl_if (by rw [tx_len]; omega)]
      simp [worth, hx]
theorem val_bound : ∀ (k : Nat) (f : List Nat), f.length ≤ k → AllDigits f → digitsVal f < 10 ^ f.length
  | 0, f, hk, _ => by
    have : f = [] := List.length_eq_zero_iff.mp (by omega)
    rw [this]
    decide
  | k + 1, f, hk, hd => by
    by_cases e : f = []
    · rw [e]
      decide
    · obtain ⟨g, c, rfl⟩ := snoc_of e
      have a := val_bound k g (by rw [List.length_append] at hk; simp at hk; omega) fun x hx => hd x (by simp [hx])
      have b := hd c (by simp)
      rw [val_snoc, List.length_append, List.length_singleton, Nat.pow_succ]
      omega
end K03

/-! Numbers read: by the program and by the law. -/
namespace K03
open PySem L2 DL TY NumText
noncomputable def zni0 : FS := (gSet 1 (fIf (toB (fBM "str" gStarts (fVar 0) (fCons (fC (.str "-")) (fun _ S => .ok [] S)))) (fSlS (fVar 0) (fPart (fC (.int 1))) fPartN) (fVar 0)))
noncomputable def zni1 : FS := (gIf (fOrT (toB (fBin gEq (fVar 1) (fC (.str "")))) (fOrT (toB (fBin gGt (fCB gLen (fCons (fVar 0) (fun _ S => .ok [] S))) (fC (.int (11))))) (toB (fCB (gAllAny false) (fCons (fComp (fSigns (fVar 1)) (mName 3) fYes (fBin (gInC true) (fVar 3) (fC (.str "0123456789"))) ([("sign", 3)].map (·.2)) finL) (fun _ S => .ok [] S)))))) (gRet (fC .non)) gNil)
noncomputable def zni2 : FS := (gSet 2 (fCB gIntS (fCons (fVar 0) (fun _ S => .ok [] S))))
noncomputable def zni3 : FS := (gRet (fIf (fAndT (toB (fBin gEq (fCB gStrI (fCons (fVar 2) (fun _ S => .ok [] S))) (fVar 0))) (toB (fCall (callSub S_is_number) (fun ds es => pick [(0, 0)] ds es []) 1 0 1 (fCons (fVar 2) (fun _ S => .ok [] S)) (fun _ S => .ok [] S)))) (fVar 2) (fC .non)))
noncomputable def zni : FS := (gSeq zni0 (gSeq zni1 (gSeq zni2 zni3)))
theorem zni_eq : m_number_in = zni := rfl
noncomputable def zln0 : FS := (gSet 1 (fSlS (fVar 0) (fPart (fCB gIntB (fCons (fBin gEq (fSlS (fVar 0) fPartN (fPart (fC (.int 1)))) (fC (.str "-"))) (fun _ S => .ok [] S)))) fPartN))
noncomputable def zln1 : FS := (gIf (fOrT (toB (fBin gEq (fVar 1) (fC (.str "")))) (fOrT (toB (fBin gGt (fCB gLen (fCons (fVar 1) (fun _ S => .ok [] S))) (fC (.int 10)))) (toB (fBin gNe (fComp (fSigns (fVar 1)) (mName 2) (toB (fBin (gInC true) (fVar 2) (fC (.str "0123456789")))) (fVar 2) ([("_law_sign_here", 2)].map (·.2)) finL) (fLst (fun _ S => .ok [] S)))))) (gRet (fC .non)) gNil)
noncomputable def zln2 : FS := (gIf (fOrT (fAndT (toB (fBin gEq (fBin gIx (fVar 1) (fC (.int 0))) (fC (.str "0")))) (toB (fBin gNe (fVar 0) (fC (.str "0"))))) (toB (fBin gGt (fCB gIntS (fCons (fVar 1) (fun _ S => .ok [] S))) (fBin gPow (fC (.int 10)) (fC (.int 9)))))) (gRet (fC .non)) gNil)
noncomputable def zln3 : FS := (gRet (fCB gIntS (fCons (fVar 0) (fun _ S => .ok [] S))))
noncomputable def zln : FS := (gSeq zln0 (gSeq zln1 (gSeq zln2 zln3)))
theorem zln_eq : m_p_law_number = zln := rfl
theorem starts_any (w : List Nat) (c : Nat) (S : Store) : gStarts (sD w) [sD [c]] S = .ok (.bl (decide (w.head? = some c))) S := by
  cases w with
  | nil =>
    have e : Txt.startswith (tx []) (tx [c]) = false := by
      unfold Txt.startswith
      have h1 : (tx [c]).length = 1 := tx_len _
      have h2 : (tx []).length = 0 := tx_len _
      rw [h1, h2]
      rfl
    unfold gStarts
    simp only [e]
    rfl
  | cons x l =>
    rw [starts_s]
    simp
theorem figs_slice {w : List Nat} (h : w.head? = some 45) (hl : w.length ≤ 100000) (S : Store) : gSlS (sD w) (some 1) none S = .ok (sD (figsL w)) S := by
  cases w with
  | nil => cases h
  | cons x l =>
    have : x = 45 := by simpa using h
    subst this
    rw [List.length_cons] at hl
    exact slice_s S (by omega)
theorem figs_same {w : List Nat} (h : ¬ w.head? = some 45) : figsL w = w := by
  cases w with
  | nil => rfl
  | cons x l => exact figs_other (fun z => h (by simp [z])) l
theorem any_p (p : Nat → Bool) (ds : List Nat) (S : Store) : gAllAny false [.lst (ds.map fun c => D.bl (p c))] S = .ok (.bl (ds.any p)) S := by
  have : ∀ ds : List Nat, bsOf (ds.map fun c => D.bl (p c)) = some (ds.map p) := by
    intro ds
    induction ds with
    | nil => rfl
    | cons d ds ih =>
      show ((bsOf (ds.map fun c => D.bl (p c))).map (p d :: ·)) = _
      rw [ih]
      rfl
  simp only [gAllAny, asL, Option.bind_some, this]
  simp [List.any_map]
def badF (c : Nat) : Bool := !decide (48 ≤ c ∧ c ≤ 57)
theorem any_bad (ds : List Nat) : ds.any badF = true ↔ ¬ AllDigits ds := by
  rw [List.any_eq_true]
  constructor
  · rintro ⟨c, hc, h⟩ hd
    have := hd c hc
    simp [badF] at h
    omega
  · intro h
    apply Classical.byContradiction
    intro hn
    apply h
    intro c hc
    apply Classical.byContradiction
    intro hx
    exact hn ⟨c, hc, by simp [badF]; omega⟩
def nfD : D → D
  | .str s => .bl (s.cps.toList.any badF)
  | _ => .non
theorem sgn_gen (ds : List Nat) (S : Store) (ρ : EnvD) (m : FG) (fe : FE) (hm : ∀ c, ∃ ρ1, m (.str ⟨#[c]⟩) ρ S = some ρ1 ∧ fe ρ1 S = .ok (.bl (!decide (48 ≤ c ∧ c ≤ 57))) S) :
    compF none m fYes fe (signs (tx ds)) ρ S = .ok (ds.map fun c => D.bl (badF c)) S := by
  rw [comp_map (f := nfD)]
  · simp [signs, tx_cps, nfD, Function.comp_def]
  · intro d hd
    unfold signs at hd
    rw [tx_cps] at hd
    obtain ⟨c, hc, rfl⟩ := List.mem_map.mp hd
    obtain ⟨ρ1, a, b⟩ := hm c
    refine ⟨ρ1, a, ?_⟩
    rw [b]
    simp [nfD, badF]
def nD : Option Int → D
  | some i => .int i
  | none => .non
theorem worth_num (i : Int) : worth (numL i) = i := by
  rcases cases_int i with ⟨n, rfl⟩ | ⟨n, rfl⟩
  · have h : (numL (n : Int)).head? ≠ some 45 := fun z => by
      cases q : numL (n : Int) with
      | nil => rw [q] at z; cases z
      | cons a b =>
        rw [q] at z
        have := numL_digits n a (by rw [q]; exact List.mem_cons_self)
        simp at z
        omega
    unfold worth
    rw [if_neg h, val_num]
  · have e := numL_neg n
    unfold worth
    rw [e]
    show -((digitsVal (numL ((n + 1 : Nat) : Int)) : Nat) : Int) = _
    rw [val_num]
    omega
theorem num_figs (i : Int) : AllDigits (figsL (numL i)) ∧ figsL (numL i) ≠ [] ∧ figsL (numL i) = numL (i.natAbs : Nat) := by
  rcases cases_int i with ⟨n, rfl⟩ | ⟨n, rfl⟩
  · have e : figsL (numL (n : Int)) = numL (n : Int) := figs_same fun z => by
      cases q : numL (n : Int) with
      | nil => rw [q] at z; cases z
      | cons a b =>
        rw [q] at z
        have := numL_digits n a (by rw [q]; exact List.mem_cons_self)
        simp at z
        omega
    rw [e]
    exact ⟨numL_digits n, numL_ne n, rfl⟩
  · rw [numL_neg]
    refine ⟨numL_digits (n + 1), numL_ne (n + 1), ?_⟩
    show numL _ = numL _
    congr 1
theorem isN_figs {w : List Nat} (h : isN w) : AllDigits (figsL w) ∧ figsL w ≠ [] ∧ w.length ≤ 11 ∧ (figsL w).length ≤ 10 := by
  obtain ⟨i, hi, rfl⟩ := h
  obtain ⟨a, b, c⟩ := num_figs i
  refine ⟨a, b, numL_len' hi.1 hi.2, ?_⟩
  rw [c]
  exact numL_len (by have := hi.1; have := hi.2; omega)
theorem worth_bound {w : List Nat} (hd : AllDigits (figsL w)) (hl : w.length ≤ 11) : (worth w).natAbs < 10 ^ 11 := by
  unfold worth
  by_cases h : w.head? = some 45
  · rw [if_pos h]
    have b := val_bound _ (figsL w) (Nat.le_refl _) hd
    have l : (figsL w).length ≤ 11 := by
      cases w with
      | nil => cases h
      | cons x r =>
        have : x = 45 := by simpa using h
        subst this
        rw [List.length_cons] at hl
        show r.length ≤ 11
        omega
    have := Nat.pow_le_pow_right (n := 10) (by decide) l
    omega
  · rw [if_neg h]
    rw [figs_same h] at hd
    have b := val_bound _ w (Nat.le_refl _) hd
    have := Nat.pow_le_pow_right (n := 10) (by decide) hl
    omega
theorem str_big {i : Int} (h : i.natAbs < 10 ^ 11) (S : Store) : gStrI [.int i] S = .ok (sD (numL i)) S := by
  have l : i.natAbs.log2 < 1920 := by
    by_cases h0 : i.natAbs = 0
    · rw [h0]
      decide
    · have h3 : i.natAbs < 2 ^ 40 := by
        have : (2 : Nat) ^ 40 = 1099511627776 := by decide
        have : (10 : Nat) ^ 11 = 100000000000 := by decide
        omega
      have := (Nat.log2_lt h0).mpr h3
      omega
  unfold gStrI
  simp only
  rw [cl_if l]
  exact congrArg (fun x => Res.ok (D.str x) S) (tx_num i).symm
theorem ni0_ok {w : List Nat} (hl : w.length ≤ 100000) (x1 x2 x3 : Option D) (S : Store) : zni0 [some (sD w), x1, x2, x3] S = .nx [some (sD w), some (sD (figsL w)), x2, x3] S := by
  unfold zni0
  have st := starts_any w 45 S
  by_cases h : w.head? = some 45
  · have sl := figs_slice h hl S
    simp [t_minus, st, h, fSlS, fPart, fPartN, sl]
  · simp [t_minus, st, h, figs_same h]
open Classical in
theorem ni1_ok {w f : List Nat} (hl : w.length ≤ 100000) (hf : f.length ≤ 100000) (x2 x3 : Option D) (S : Store) : zni1 [some (sD w), some (sD f), x2, x3] S = if AllDigits f ∧ f ≠ [] ∧ w.length ≤ 11 then .nx [some (sD w), some (sD f), x2, x3] S else .rt .non S := by
  unfold zni1
  have ln := len_s S (l := w) (by omega)
  have s1 : short f.length = true := short_le (by omega)
  have af := any_p badF f S
  by_cases h0 : f = []
  · subst h0
    simp [t_e]
  · have ne : ¬ tx f = tx [] := fun z => h0 (tx_inj.mp z)
    by_cases h1 : w.length ≤ 11
    · have big : ¬ (11 < (w.length : Int)) := by omega
      simp [t_e, ne, ln, big, fSigns, signC]
      erw [sgn_gen f]
      · by_cases hd : AllDigits f
        · have nb : f.any badF = false := by
            have := mt (any_bad f).mp (fun z => z hd)
            simpa using this
          rw [nb] at af
          simp [finL, s1, tyS, af, hd, h0, h1, big]
        · have nb : f.any badF = true := (any_bad f).mpr hd
          rw [nb] at af
          simp [finL, s1, tyS, af, hd, big]
      · intro c
        exact ⟨_, rfl, by simp [in_f]⟩
    · have big : (11 < (w.length : Int)) := by omega
      simp [t_e, ne, ln, big, h1]
theorem numberin_any {w : List Nat} (hl : w.length ≤ 100000) (S : Store) : S_number_in [sD w] S = .ok (nD (numR w)) S := by
  have hf : (figsL w).length ≤ 100000 := by
    unfold figsL
    split
    · rw [List.length_cons] at hl
      omega
    · exact hl
  unfold S_number_in
  rw [zni_eq, e_semOf]
  unfold zni
  have st : startD 4 [sD w] = [some (sD w), none, none, none] := rfl
  rw [st, e_gSeq, ni0_ok hl, Out.seq_nx, e_gSeq, ni1_ok hl hf]
  by_cases h : AllDigits (figsL w) ∧ figsL w ≠ [] ∧ w.length ≤ 11
  · rw [if_pos h]
    have is := int_w h.1 h.2.1 (by omega) S
    have si := str_big (worth_bound h.1 h.2.2) S
    simp [zni2, zni3, is, si]
    by_cases e : numL (worth w) = w
    · have nu : callSub S_is_number [.int (worth w)] S = .ok (.bl (decide (-1000000000 ≤ worth w) && decide (worth w ≤ 1000000000))) S := callSub_ok (S' := []) rfl (by rw [number_int]) rfl
      by_cases b : numB (worth w)
      · have : numR w = some (worth w) := by
          have := numR_num b
          rwa [e] at this
        rw [this]
        simp [e, nu, b.1, b.2, nD]
      · have : numR w = none := numR_none fun ⟨i, hi, hw⟩ => b (by rw [hw, worth_num]; exact hi)
        rw [this]
        have nb : (decide (-1000000000 ≤ worth w) && decide (worth w ≤ 1000000000)) = false := by
          rw [Bool.and_eq_false_iff, decide_eq_false_iff_not, decide_eq_false_iff_not]
          unfold numB at b
          omega
        rw [nb] at nu
        simp [e, nu, nD]
    · have ne : ¬ tx (numL (worth w)) = tx w := fun z => e (tx_inj.mp z)
      have : numR w = none := numR_none fun ⟨i, hi, hw⟩ => e (by rw [hw, worth_num])
      rw [this]
      simp [ne, nD]
  · rw [if_neg h]
    have : numR w = none := numR_none fun z => h ⟨(isN_figs z).1, (isN_figs z).2.1, (isN_figs z).2.2.1⟩
    rw [this]
    rfl
end K03

/-! Rows of words read. -/
namespace K03
open PySem L2 DL TY
theorem app_o {S : Store} {L : Nat} {xs : List D} {x : D} (h : S[L]? = some (.lst xs)) (hl : xs.length ≤ 1000) : gApp (.oid L) [x] S = .ok .non (S.set L (.lst (xs ++ [x]))) := by
  have : (1000 : Nat) < sizeLine := by decide
  have hl' : xs.length < sizeLine := by omega
  simp [gApp, h, hl']
noncomputable def vbody : FS := (gSeq (gSet 3 (fBM "str" gStarts (fVar 2) (fCons (fC (.str "@")) (fun _ S => .ok [] S)))) (gSeq (gSet 4 (fCall (callSub S_number_in) (fun ds es => pick [(0, 0)] ds es []) 1 0 1 (fCons (fIf (toB (fVar 3)) (fSlS (fVar 2) (fPart (fC (.int 1))) fPartN) (fVar 2)) (fun _ S => .ok [] S)) (fun _ S => .ok [] S))) (gIf (toB (fBin gEq (fVar 2) (fC (.str "-")))) (gExpr (fBM "list" gApp (fVar 1) (fCons (fC .non) (fun _ S => .ok [] S)))) (gIf (fOrT (toB (fBin gIs (fVar 4) (fC .non))) (fAndT (toB (fVar 3)) (toB (fBin gLt (fVar 4) (fC (.int 0)))))) (gRet (fC .non)) (gExpr (fBM "list" gApp (fVar 1) (fCons (fIf (toB (fVar 3)) (fTup (fCons (fC (.str "at")) (fCons (fVar 4) (fun _ S => .ok [] S)))) (fVar 4)) (fun _ S => .ok [] S))))))))
theorem m_vt_eq : m_values_told = gSeq (gSet 1 (fLstO (fun _ S => .ok [] S))) (gSeq (gFor (fSeq (fVar 0)) (mName 2) vbody) (gRet (fFrz (fVar 1)))) := rfl
theorem loopC_cons {e : D} {es : List D} {m : FG} {b : FS} {d : D} {ds : List D} {ρ ρ1 : EnvD} {S : Store} (hS : asL S e = some es) (hm : m d ρ S = some ρ1) : loopF (some (e, es)) m b (d :: ds) ρ S = (match b ρ1 S with
    | .nx ρ S => loopF (some (e, es)) m b ds ρ S
    | .ct ρ S => loopF (some (e, es)) m b ds ρ S
    | .bk ρ S => .nx ρ S
    | o => o) := by
  rw [loopF]
  rw [if_pos (show okC (some (e, es)) _ from hS), hm]
  all_goals rfl
theorem loop_invC {e : D} {es : List D} {m : FG} {b : FS} (I : Nat → EnvD → Store → Prop) (hI : ∀ j ρ S, I j ρ S → asL S e = some es) : ∀ (ds : List D) (i : Nat) (ρ : EnvD) (S : Store), I i ρ S →
    (∀ j d ρ S, ds[j]? = some d → I (i + j) ρ S → ∃ ρ1 ρ2 S2, m d ρ S = some ρ1 ∧ (b ρ1 S = .nx ρ2 S2 ∨ b ρ1 S = .ct ρ2 S2) ∧ I (i + j + 1) ρ2 S2) → ∃ ρ' S', loopF (some (e, es)) m b ds ρ S = .nx ρ' S' ∧ I (i + ds.length) ρ' S'
  | [], i, ρ, S, h0, _ => ⟨ρ, S, loopC_nil (hI _ _ _ h0), h0⟩
  | d :: ds, i, ρ, S, h0, step => by
    obtain ⟨ρ1, ρ2, S2, h1, h2, h3⟩ := step 0 d ρ S rfl h0
    obtain ⟨ρ', S', q1, q2⟩ := loop_invC I hI ds (i + 1) ρ2 S2 h3 (fun j d ρ S hd hi => by
      have e1 : i + (j + 1) = i + 1 + j := by omega
      have := step (j + 1) d ρ S (by simpa using hd) (by rw [e1]; exact hi)
      rw [e1] at this
      exact this)
    refine ⟨ρ', S', ?_, ?_⟩
    · rw [loopC_cons (hI _ _ _ h0) h1]
      rcases h2 with h2 | h2 <;> rw [h2] <;> exact q1
    · have : i + (d :: ds).length = i + 1 + ds.length := by simp; omega
      rw [this]
      exact q2
/-! ### a row -/
/-- a row's sort, and its values -/
inductive RowOk : Str → List Vl → Prop
  | flds (l : Bool) (vs : List Vl) : vs.length ≤ 6 → RowOk (sortOf l) vs
  | tie0 : RowOk "tie" [.non]
  | tie (n : Nat) : RowOk "tie" [.at_ n]
  | pegs (vs : List Vl) : RowOk "pegs" vs
abbrev wordsD (s : Str) (vs : List Vl) : List D := .str s :: vs.map fun v => sD (valL v)
theorem w1 (l : Bool) : inF (.str (sortOf l)) [.str "cell", .str "last", .str "tie", .str "pegs"] = true := by cases l <;> decide +kernel
theorem w2 : inF (.str "tie") [.str "cell", .str "last", .str "tie", .str "pegs"] = true := by decide +kernel
theorem w3 : inF (.str "pegs") [.str "cell", .str "last", .str "tie", .str "pegs"] = true := by decide +kernel
theorem w4 : inF (.str "tie") [.str "cell", .str "last"] = false := by decide +kernel
theorem w5 : inF (.str "pegs") [.str "cell", .str "last"] = false := by decide +kernel
theorem w6 : ¬ (("pegs" : Str) = "tie") := by decide +kernel
end K03

/-! told_rows. -/
namespace K03
open PySem L2 DL TY
theorem tx_strOk {l : List Nat} (h : ∀ c ∈ l, c < 1114112) : PyData.strOk (tx l) = true := by
  unfold PyData.strOk
  rw [Array.all_eq_true']
  intro c hc
  have : c ∈ l := by
    have := Array.mem_toList_iff.mpr hc
    rwa [tx_cps] at this
  exact decide_eq_true (h c this)
theorem shaped_sim {ds : List D} (h : simL ds = true) (hd : depL ds ≤ 50) : SeqAt.shaped (.list (pyL ds)) = true := by
  have q := simL_sh ds h
  have h1 := q.lay
  have h2 := q.dep
  unfold SeqAt.shaped
  simp only [PyData.canLay0, h1, PyData.depth, h2, Bool.true_and]
  exact decide_eq_true (by omega)
theorem ne_sim {ds : List D} (h : simL ds = true) (hd : depL ds ≤ 50) (S : Store) : gEq (.lst ds) (.lst []) S = .ok (.bl ds.isEmpty) S ∧ gNe (.lst ds) (.lst []) S = .ok (.bl (!ds.isEmpty)) S := eq_nilP (simL_sh ds h).py (shaped_sim h hd)
theorem ne_simO {ds : List D} {n : Nat} {S : Store} (hS : S[n]? = some (.lst ds)) (h : simL ds = true) (hd : depL ds ≤ 50) : gNe (.oid n) (.lst []) S = .ok (.bl (!ds.isEmpty)) S := by
  have e1 : pyOf S (.oid n) = some (.list (pyL ds)) := by simp [pyOf, asL, hS, (simL_sh ds h).py]
  have e2 : pyOf S (.lst []) = some (.list []) := by simp [pyOf, toPy, toPyL]
  have e3 : SeqAt.shaped (.list []) = true := shaped_ints []
  have e5 := shaped_sim h hd
  have e4 : PyData.eqv (.list (pyL ds)) (.list []) = ds.isEmpty := by
    cases ds <;> simp [pyL, PyData.eqv, PyData.eqvAll]
  show (if pScal (.oid n) (.lst []) S then _ else gEqD true (.oid n) (.lst []) S) = _
  rw [if_neg (by simp [pScal, scalD])]
  simp [gEqD, e1, e2, e3, e5, e4]
theorem simL_allK {ds : List D} : simL ds = true ↔ ∀ d ∈ ds, d.sim = true := by
  induction ds with
  | nil => simp [simL]
  | cons d ds ih => simp [simL, ih]
theorem depL_leK {ds : List D} {k : Nat} (h : ∀ d ∈ ds, d.dep ≤ k) : depL ds ≤ k := by
  induction ds with
  | nil => simp [depL]
  | cons d ds ih =>
    have h1 := h d List.mem_cons_self
    have h2 := ih fun x hx => h x (List.mem_cons_of_mem _ hx)
    simp only [depL]
    omega
theorem numL_signs (i : Int) : ∀ c ∈ numL i, c < 128 := by
  intro c hc
  rcases cases_int i with ⟨n, rfl⟩ | ⟨n, rfl⟩
  · have := numL_digits n c hc
    omega
  · rw [numL_neg] at hc
    rcases List.mem_cons.mp hc with z | z
    · omega
    · have := numL_digits _ c z
      omega
theorem valL_signs (v : Vl) : ∀ c ∈ valL v, c < 128 := by
  intro c hc
  cases v with
  | non => simp [valL] at hc; omega
  | num i => exact numL_signs i c hc
  | at_ n =>
    rcases List.mem_cons.mp hc with z | z
    · omega
    · exact numL_signs _ c z
theorem sort_ok {s : Str} {vs : List Vl} (h : RowOk s vs) : PyData.strOk s = true := by
  cases h with
  | flds l => cases l <;> decide +kernel
  | tie0 => decide +kernel
  | tie n => decide +kernel
  | pegs => decide +kernel
/-! ### lines -/
def entD (e : Nat × Str × List Vl) : D := .tup [.int e.1, .str e.2.1, .lst (e.2.2.map dV)]
theorem atI_last {α : Type} (xs : List α) (x : α) : atI (xs ++ [x]) (-1) = some x := by
  have h : ixN (xs ++ [x]).length (-1) = some xs.length := by
    unfold ixN
    rw [if_neg (by decide), List.length_append, List.length_singleton, if_pos (by omega)]
    congr 1
    omega
  unfold atI
  rw [h]
  simp
theorem ix_o {S : Store} {n : Nat} {xs : List D} {x : D} {i : Int} (h : S[n]? = some (.lst xs)) (hx : atI xs i = some x) : gIx (.oid n) (.int i) S = .ok x S := by
  simp [gIx, pDic1, asD, h, isS, gIxQ, asQ, asL, hx]
noncomputable abbrev tgt (i j : Nat) : FG := mTup 2 (mCons (mName i) (mCons (mName j) (fun ds ρ _ => match ds with | [] => some ρ | _ => none)))
end K03

/-! rows_of. -/
namespace K03
open PySem L2 DL TY
theorem compC_nil {e : D} {es : List D} {m : FG} {ft : FT} {fe : FE} {ρ : EnvD} {S : Store} (hS : asL S e = some es) : compF (some (e, es)) m ft fe [] ρ S = .ok [] S := by
  unfold compF
  rw [if_pos (show okC (some (e, es)) S from hS)]
theorem compC_map {e : D} {es : List D} {m : FG} {fe : FE} {f : D → D} {ρ : EnvD} {S : Store} (hS : asL S e = some es) : ∀ (ds : List D), (∀ d ∈ ds, ∃ ρ1, m d ρ S = some ρ1 ∧ fe ρ1 S = .ok (f d) S) → compF (some (e, es)) m fYes fe ds ρ S = .ok (ds.map f) S
  | [], _ => compC_nil hS
  | d :: ds, h => by
    obtain ⟨ρ1, h1, h2⟩ := h d List.mem_cons_self
    have ih := compC_map hS ds (fun x hx => h x (List.mem_cons_of_mem _ hx))
    rw [compF, if_pos (show okC (some (e, es)) S from hS), h1]
    simp only [fYes, Res.noEx_ok, Res.bind_ok, if_true, h2, ih, List.map_cons]
def rowD (r : List Nat) : D := .lst ((wordsL r).map sD)
/-- the rows, without an empty one at the end -/
def cutRows (t : List Nat) : List (List Nat) := match (splitL 10 t).reverse with
  | [] :: r => r.reverse
  | _ => splitL 10 t
theorem wordsL_len (l : List Nat) : (wordsL l).length ≤ l.length + 1 := by
  have : ∀ l : List Nat, (splitL 32 l).length ≤ l.length + 1 := by
    intro l
    induction l with
    | nil => simp [splitL]
    | cons x l ih =>
      by_cases hx : x = 32
      · subst hx
        rw [splitL_sep]
        simp
        omega
      · obtain ⟨q, qs, e1, e2⟩ := splitL_cons 32 x l hx
        rw [e2]
        rw [e1] at ih
        simp at ih ⊢
        omega
  exact Nat.le_trans (List.length_filter_le _ _) (this l)
theorem splitL_len (c : Nat) (l : List Nat) : (splitL c l).length ≤ l.length + 1 := by
  induction l with
  | nil => simp [splitL]
  | cons x l ih =>
    by_cases hx : x = c
    · subst hx
      rw [splitL_sep]
      simp
      omega
    · obtain ⟨q, qs, e1, e2⟩ := splitL_cons c x l hx
      rw [e2]
      rw [e1] at ih
      simp at ih ⊢
      omega
theorem splitL_part {c : Nat} : ∀ (l : List Nat), ∀ p ∈ splitL c l, p.length ≤ l.length
  | [], p, h => by
    rw [splitL, List.mem_singleton] at h
    rw [h]
    simp
  | x :: l, p, h => by
    have ih := splitL_part (c := c) l
    by_cases hx : x = c
    · subst hx
      rw [splitL_sep] at h
      rcases List.mem_cons.mp h with z | z
      · rw [z]; simp
      · have := ih p z
        simp
        omega
    · obtain ⟨q, qs, e1, e2⟩ := splitL_cons c x l hx
      rw [e1] at ih
      rw [e2] at h
      rcases List.mem_cons.mp h with z | z
      · have := ih q List.mem_cons_self
        rw [z]
        simp
        omega
      · have := ih p (List.mem_cons_of_mem _ z)
        simp
        omega
/-- the words of a row -/
theorem words_comp {r : List Nat} (hl : r.length ≤ 100000) (S : Store) (ρ : EnvD) (m : FG) (ft : FT) (fe : FE) (hm : ∀ p : List Nat, ∃ ρ1, m (sD p) ρ S = some ρ1 ∧ ft ρ1 S = .ok (!p.isEmpty) S ∧ fe ρ1 S = .ok (sD p) S) :
    compF none m ft fe ((splitL 32 r).map sD) ρ S = .ok ((wordsL r).map sD) S := by
  let p : D → Bool := fun d => match d with
    | .str x => !x.cps.toList.isEmpty
    | _ => false
  have hp : ∀ q : List Nat, p (sD q) = !q.isEmpty := fun q => by
    show (!(tx q).cps.toList.isEmpty) = _
    rw [tx_cps]
  rw [comp_filter (p := p) (f := fun d => d)]
  · congr 1
    rw [List.map_id', List.filter_map]
    unfold wordsL
    have e : (splitL 32 r).filter (p ∘ sD) = (splitL 32 r).filter (fun p => !p.isEmpty) := List.filter_congr fun q _ => hp q
    rw [e]
  · intro d hd
    obtain ⟨q, _, rfl⟩ := List.mem_map.mp hd
    obtain ⟨ρ1, a, b, c⟩ := hm q
    exact ⟨ρ1, a, by rw [b, hp], fun _ => c⟩
noncomputable def ro3 : FE := (fComp (fSeq (fVar 1)) (mName 3) fYes (fComp (fSeq (fBM "str" gSplit (fVar 3) (fCons (fC (.str " ")) (fun _ S => .ok [] S)))) (mName 2) (toB (fBin gNe (fVar 2) (fC (.str "")))) (fVar 2) ([("word", 2)].map (·.2)) finL) ([("row", 3)].map (·.2)) finL)
theorem m_ro_eq : m_rows_of = gSeq (gIf (fNotT (toB (fCB gIsi (fCons (fVar 0) (fCons (fC (.ty "str")) (fun _ S => .ok [] S)))))) (gRaiX "BadText" ["row"] (fCons (fC (.int 0)) (fun _ S => .ok [] S))) gNil) (gSeq (gSet 1 (fBM "str" gSplitO (fVar 0) (fCons (fC (.str "\n")) (fun _ S => .ok [] S)))) (gSeq (gIf (toB (fBin gEq (fBin gIx (fVar 1) (fUn gNeg (fC (.int 1)))) (fC (.str "")))) (gExpr (fBM "list" gPop0 (fVar 1) (fun _ S => .ok [] S))) gNil) (gRet ro3))) := rfl
theorem ro3_ok {rs : List (List Nat)} (hn : rs.length ≤ 100000) (hl : ∀ r ∈ rs, r.length ≤ 90000) (x0 x2 x3 : Option D) : ro3 [x0, some (.oid 0), x2, x3] [.lst (rs.map sD)] = .ok (.lst (rs.map rowD)) [.lst (rs.map sD)] := by
  let f : D → D := fun d => match d with
    | .str x => rowD x.cps.toList
    | _ => .non
  have hf : ∀ q : List Nat, f (sD q) = rowD q := fun q => by
    show rowD (tx q).cps.toList = _
    rw [tx_cps]
  have sh : short (rs.map sD).length = true := short_le (by simp; omega)
  have hmap : (rs.map sD).map f = rs.map rowD := by
    rw [List.map_map]
    apply List.map_congr_left
    intro q _
    exact hf q
  unfold ro3
  simp [seqD, asL]
  erw [compC_map (f := f) (by rfl)]
  · rw [hmap]
    have : short (rs.map rowD).length = true := short_le (by simp; omega)
    simp only [Res.bind_ok, finL, this, if_true]
  · intro d hd
    obtain ⟨r, hr, rfl⟩ := List.mem_map.mp hd
    refine ⟨_, rfl, ?_⟩
    rw [hf]
    have hlr := hl r hr
    have sp := split_s [.lst (rs.map sD)] (c := 32) (l := r) (by omega)
    simp [t_sp, sp, seqD, asL]
    erw [words_comp (by omega)]
    · have : short ((wordsL r).map sD).length = true := short_le (by have := wordsL_len r; simp; omega)
      simp only [Res.bind_ok, finL, this, if_true, rowD]
    · intro p
      refine ⟨_, rfl, ?_, ?_⟩
      · have : decide (tx p = tx []) = p.isEmpty := by
          cases p with
          | nil => simp
          | cons a b =>
            have : ¬ tx (a :: b) = tx [] := fun z => by have := tx_inj.mp z; simp at this
            simp [this]
        simp [t_e, this]
        done
      · simp
theorem cut_end {t : List Nat} {A : List (List Nat)} (h : splitL 10 t = A ++ [[]]) : cutRows t = A := by
  unfold cutRows
  rw [h, List.reverse_append]
  simp
theorem cut_more {t : List Nat} {A : List (List Nat)} {x : List Nat} (h : splitL 10 t = A ++ [x]) (hx : x ≠ []) : cutRows t = A ++ [x] := by
  unfold cutRows
  rw [h, List.reverse_append]
  cases x with
  | nil => exact absurd rfl hx
  | cons a b => simp
theorem rows_of_ok {t : List Nat} (hl : t.length ≤ 90000) : ∃ S', S_rows_of [sD t] [] = .ok (.lst ((cutRows t).map rowD)) S' := by
  have sp := splitO_s [] (c := 10) (l := t) (by omega)
  obtain ⟨A, x, e⟩ : ∃ A x, splitL 10 t = A ++ [x] := by
    rcases List.eq_nil_or_concat (splitL 10 t) with h | ⟨A, x, h⟩
    · exact absurd h (splitL_ne _ _)
    · exact ⟨A, x, by rw [h, List.concat_eq_append]⟩
  have hn := splitL_len 10 t
  have hp := splitL_part (c := 10) t
  rw [e] at hn hp sp
  have hn' : A.length + 1 ≤ t.length + 1 := by simpa using hn
  have gl : gIx (.oid 0) (.int (-1)) [.lst ((A ++ [x]).map sD)] = .ok (sD x) [.lst ((A ++ [x]).map sD)] := ix_o rfl (by rw [List.map_append]; exact atI_last _ _)
  by_cases hx : x = []
  · subst hx
    rw [cut_end e]
    refine ⟨[.lst (A.map sD)], ?_⟩
    have r3 := ro3_ok (rs := A) (by omega) (fun r hr => Nat.le_trans (hp r (List.mem_append_left _ hr)) (by omega)) (some (sD t)) none none
    have gp : gPop0 (.oid 0) [] [.lst ((A ++ [[]]).map sD)] = .ok (sD []) [.lst (A.map sD)] := by
      have e1 : ((A ++ [[]]).map sD)[((A ++ [[]]).map sD).length - 1]? = some (sD []) := by simp
      simp only [gPop0, List.getElem?_cons_zero, e1, List.set_cons_zero]
      simp
    unfold S_rows_of
    rw [m_ro_eq]
    simp only [List.map_append, List.map_cons, List.map_nil] at sp gl gp
    simp [List.replicate, isiT, t_nl, sp, gl, t_e, tyS, gp]
    erw [r3]
    rfl
  · rw [cut_more e hx]
    refine ⟨[.lst ((A ++ [x]).map sD)], ?_⟩
    have r3 := ro3_ok (rs := A ++ [x]) (by simp; omega) (fun r hr => Nat.le_trans (hp r hr) (by omega)) (some (sD t)) none none
    have ne : ¬ tx x = tx [] := fun z => hx (tx_inj.mp z)
    unfold S_rows_of
    rw [m_ro_eq]
    simp only [List.map_append, List.map_cons, List.map_nil] at sp gl r3
    simp [List.replicate, isiT, t_nl, sp, gl, t_e, tyS, ne]
    erw [r3]
    rfl
end K03

/-! read_web. -/
namespace K03
open PySem L2 DL TY
def cRow : Ce → Str × List Vl
  | .flds l vs => (sortOf l, vs)
  | .tie none => ("tie", [.non])
  | .tie (some n) => ("tie", [.at_ n])
def wrows (w : Wb) : List (Str × List Vl) := w.cells.map cRow ++ [(("pegs" : Str), w.pegs)]
theorem np1 (l : Bool) : ¬ (sortOf l = "pegs") := by cases l <;> decide +kernel
theorem cRow_ok {m : Nat} (hm : m ≤ 1000000) {c : Ce} (h : okC' m c) : RowOk (cRow c).1 (cRow c).2 ∧ (∀ v ∈ (cRow c).2, okV m v) ∧ (cRow c).2.length ≤ 6 := by
  cases c with
  | flds l vs =>
    obtain ⟨h1, h2⟩ := h
    exact ⟨.flds l vs h1, h2, h1⟩
  | tie t =>
    cases t with
    | none => exact ⟨.tie0, fun v hv => by rw [List.mem_singleton.mp hv]; trivial, by simp [cRow]⟩
    | some n => exact ⟨.tie n, fun v hv => by rw [List.mem_singleton.mp hv]; exact h, by simp [cRow]⟩
/-- of an entry: is it no row of pegs; its number; its cell -/
def npD : D → Bool
  | .tup [_, .str s, _] => decide (¬ s = "pegs")
  | _ => false
def noD : D → D
  | .tup [k, _, _] => k
  | _ => .non
def ceD : D → D
  | .tup [_, .str s, .lst vs] => if s = "tie" then (match vs with
    | [.tup [_, n]] => .tup [.str s, n]
    | _ => .tup [.str s, .non]) else .tup [.str s, .tup vs]
  | _ => .non
theorem ceD_ok (k : Nat) (c : Ce) : ceD (entD (k, (cRow c).1, (cRow c).2)) = dC c := by
  cases c with
  | flds l vs => simp [ceD, entD, cRow, n3, dC]
  | tie t =>
    cases t with
    | none => simp [ceD, entD, cRow, dV, dC, dT]
    | some n => simp [ceD, entD, cRow, dV, dC, dT]
theorem slL_l (xs : List D) (x : D) (S : Store) : gSl (.lst (xs ++ [x])) none (some (-1)) S = .ok (.lst xs) S := by
  have e1 : HT.sIx (xs ++ [x]).length (xs ++ [x]).length (some (-1)) = xs.length := by
    simp [HT.sIx]
    omega
  unfold gSl
  simp only [asL]
  unfold cutD
  rw [HT.sIx_none, e1]
  simp
section
variable {w : Wb} (ok : w.ok) (hm : w.cells.length ≤ 60) (hp : w.pegs.length ≤ 40)
include ok hm hp
theorem row_of {q : Str × List Vl} (h : q ∈ wrows w) : RowOk q.1 q.2 ∧ (∀ v ∈ q.2, okV w.cells.length v) ∧ q.2.length ≤ 100 := by
  rcases List.mem_append.mp h with z | z
  · obtain ⟨c, hc, rfl⟩ := List.mem_map.mp z
    obtain ⟨a, b, d⟩ := cRow_ok (m := w.cells.length) (by omega) (ok.2.2.1 c hc)
    exact ⟨a, b, by omega⟩
  · rw [List.mem_singleton.mp z]
    exact ⟨.pegs _, ok.2.2.2, by show w.pegs.length ≤ 100; omega⟩
end
end K03

/-! Numbers read by the law. -/
namespace K03
open PySem L2 DL TY NumText
theorem cut_take (w : List Nat) (n : Nat) : L2.cutS (tx w) none (some (n : Int)) = tx (w.take n) := by
  unfold L2.cutS
  rw [HT.sIx_none, HT.sIx_nat, tx_cps, tx_len]
  apply TX.str_inj
  rw [tx_cps]
  rcases Nat.le_total n w.length with h | h
  · rw [Nat.min_eq_left h]
    simp
  · rw [Nat.min_eq_right h, List.take_of_length_le h]
    simp
theorem cut_drop (w : List Nat) (n : Nat) : L2.cutS (tx w) (some (n : Int)) none = tx (w.drop n) := by
  unfold L2.cutS
  rw [HT.sIx_none, HT.sIx_nat, tx_cps, tx_len]
  apply TX.str_inj
  rw [tx_cps]
  rcases Nat.le_total n w.length with h | h
  · rw [Nat.min_eq_left h]
    simp
    rw [List.take_of_length_le (by simp)]
  · rw [Nat.min_eq_right h, List.drop_of_length_le h]
    simp
theorem slT {w : List Nat} (n : Nat) (h : w.length ≤ 1000000) (S : Store) : gSlS (sD w) none (some (n : Int)) S = .ok (sD (w.take n)) S := by
  have : (1000002 : Nat) ≤ sizeLine := by decide
  unfold gSlS
  simp only
  rw [cl_if (by rw [tx_len]; omega), cut_take]
theorem slD {w : List Nat} (n : Nat) (h : w.length ≤ 1000000) (S : Store) : gSlS (sD w) (some (n : Int)) none S = .ok (sD (w.drop n)) S := by
  have : (1000002 : Nat) ≤ sizeLine := by decide
  unfold gSlS
  simp only
  rw [cl_if (by rw [tx_len]; omega), cut_drop]
theorem take1 (w : List Nat) (c : Nat) : (w.take 1 = [c]) ↔ w.head? = some c := by
  cases w <;> simp
theorem ln0_ok {w : List Nat} (hl : w.length ≤ 100000) (x1 x2 : Option D) (S : Store) : zln0 [some (sD w), x1, x2] S = .nx [some (sD w), some (sD (figsL w)), x2] S := by
  unfold zln0
  have t := slT (w := w) 1 (by omega) S
  have d1 := slD (w := w) 1 (by omega) S
  have d0 := slD (w := w) 0 (by omega) S
  simp only [Int.natCast_one, Int.natCast_zero] at t d1 d0
  by_cases h : w.head? = some 45
  · have e : w.take 1 = [45] := (take1 w 45).mpr h
    have f : w.drop 1 = figsL w := by
      cases w with
      | nil => cases h
      | cons x r =>
        have : x = 45 := by simpa using h
        subst this
        rfl
    rw [e] at t
    rw [f] at d1
    simp [t_minus, fSlS, fPart, fPartN, t, d1]
  · have e : ¬ tx (w.take 1) = tx [45] := fun z => h ((take1 w 45).mp (tx_inj.mp z))
    have d0' : gSlS (sD w) (some 0) none S = .ok (sD (figsL w)) S := by
      rw [figs_same h]
      exact d0
    simp [t_minus, fSlS, fPart, fPartN, t, e, d0']
def sgD : D → Bool
  | .str s => s.cps.toList.any badF
  | _ => false
theorem sgn_fil (ds : List Nat) (S : Store) (ρ : EnvD) (m : FG) (ft : FT) (fe : FE) (hm : ∀ c, ∃ ρ1, m (.str ⟨#[c]⟩) ρ S = some ρ1 ∧ ft ρ1 S = .ok (!decide (48 ≤ c ∧ c ≤ 57)) S ∧ fe ρ1 S = .ok (.str ⟨#[c]⟩) S) :
    compF none m ft fe (signs (tx ds)) ρ S = .ok ((signs (tx ds)).filter sgD) S := by
  rw [comp_filter (p := sgD) (f := id)]
  · rw [List.map_id]
  · intro d hd
    unfold signs at hd
    rw [tx_cps] at hd
    obtain ⟨c, hc, rfl⟩ := List.mem_map.mp hd
    obtain ⟨ρ1, a, b, e⟩ := hm c
    refine ⟨ρ1, a, ?_, fun _ => e⟩
    rw [b]
    simp [sgD, badF]
theorem signs_sim {w : List Nat} (h : ∀ c ∈ w, c < 128) : simL ((signs (tx w)).filter sgD) = true ∧ depL ((signs (tx w)).filter sgD) ≤ 50 := by
  have m : ∀ d ∈ (signs (tx w)).filter sgD, ∃ c ∈ w, d = .str ⟨#[c]⟩ := fun d hd => by
    have hd := (List.mem_filter.mp hd).1
    unfold signs at hd
    rw [tx_cps] at hd
    obtain ⟨c, hc, rfl⟩ := List.mem_map.mp hd
    exact ⟨c, hc, rfl⟩
  refine ⟨simL_allK.mpr fun d hd => ?_, depL_leK fun d hd => ?_⟩
  · obtain ⟨c, hc, rfl⟩ := m d hd
    show PyData.strOk (tx [c]) = true
    exact tx_strOk fun x hx => by
      have : x = c := by simpa using hx
      have := h c hc
      omega
  · obtain ⟨c, hc, rfl⟩ := m d hd
    simp [D.dep]
theorem signs_bad (w : List Nat) : ((signs (tx w)).filter sgD).isEmpty = true ↔ AllDigits w := by
  rw [List.isEmpty_iff, List.filter_eq_nil_iff]
  constructor
  · intro h c hc
    have := h (.str ⟨#[c]⟩) (by unfold signs; rw [tx_cps]; exact List.mem_map.mpr ⟨c, hc, rfl⟩)
    simp [sgD, badF] at this
    exact this
  · intro h d hd
    unfold signs at hd
    rw [tx_cps] at hd
    obtain ⟨c, hc, rfl⟩ := List.mem_map.mp hd
    have := h c hc
    simp [sgD, badF]
    exact this
open Classical in
theorem ln1_ok {w f : List Nat} (hf : f.length ≤ 100000) (h8 : ∀ c ∈ f, c < 128) (x2 : Option D) (S : Store) : zln1 [some (sD w), some (sD f), x2] S = if AllDigits f ∧ f ≠ [] ∧ f.length ≤ 10 then .nx [some (sD w), some (sD f), x2] S else .rt .non S := by
  unfold zln1
  have ln := len_s S (l := f) (by omega)
  have s1 : ∀ n : Nat, n ≤ 100000 → short n = true := fun n h => short_le (by omega)
  by_cases h0 : f = []
  · subst h0
    simp [t_e]
  · have ne : ¬ tx f = tx [] := fun z => h0 (tx_inj.mp z)
    by_cases h1 : f.length ≤ 10
    · have big : ¬ (10 < (f.length : Int)) := by omega
      have fl : ((signs (tx f)).filter sgD).length ≤ 100000 := by
        refine Nat.le_trans (List.length_filter_le _ _) ?_
        simpa [signs, tx_cps] using hf
      obtain ⟨q1, q2⟩ := signs_sim h8
      have nq := (ne_sim q1 q2 S).2
      simp [t_e, ne, ln, big, fSigns, signC]
      erw [sgn_fil f]
      · by_cases hd : AllDigits f
        · have nb := (signs_bad f).mpr hd
          rw [nb] at nq
          simp [finL, s1 _ fl, nq, hd, h0, h1, big]
        · have nb : ((signs (tx f)).filter sgD).isEmpty = false := by
            have := mt (signs_bad f).mp hd
            simpa using this
          rw [nb] at nq
          simp [finL, s1 _ fl, nq, hd, big]
      · intro c
        exact ⟨_, rfl, by simp [in_f]⟩
    · have big : (10 < (f.length : Int)) := by omega
      simp [t_e, ne, ln, big, h1]
end K03

/-! Words and rows read by the program. -/
namespace K03
open PySem L2 DL TY NumText
def inC : Vl → Prop
  | .non => True
  | .num i => numB i
  | .at_ n => n ≤ 1000000000
/-- what a word tells -/
noncomputable def wV (w : List Nat) : Option Vl := if w = [45] then some .non else if w.head? = some 64 then (match numR w.tail with
    | some i => if i < 0 then none else some (.at_ i.toNat)
    | none => none) else (numR w).map Vl.num
theorem wV_some {w : List Nat} {v : Vl} (h : wV w = some v) : w = valL v ∧ inC v := by
  unfold wV at h
  split at h
  · cases h
    rename_i e
    exact ⟨e, trivial⟩
  · split at h
    · rename_i h64
      split at h
      · rename_i i hi
        split at h
        · cases h
        · cases h
          obtain ⟨b, e⟩ := numR_some hi
          have := b.2
          cases w with
          | nil => cases h64
          | cons x t =>
            have : x = 64 := by simpa using h64
            subst this
            have e' : t = numL i := e
            refine ⟨?_, by show i.toNat ≤ 1000000000; omega⟩
            show 64 :: t = 64 :: numL (i.toNat : Nat)
            rw [e']
            congr 2
            omega
      · cases h
    · obtain ⟨i, hi, rfl⟩ := Option.map_eq_some_iff.mp h
      obtain ⟨b, e⟩ := numR_some hi
      exact ⟨e, b⟩
noncomputable def vT : List (List Nat) → Option (List Vl)
  | [] => some []
  | w :: ws => match wV w with
    | none => none
    | some v => (vT ws).map (v :: ·)
theorem vT_some : ∀ {ws : List (List Nat)} {vs : List Vl}, vT ws = some vs → ws.length = vs.length ∧ ∀ v ∈ vs, inC v
  | [], vs, h => by
    cases h
    exact ⟨rfl, fun v hv => by cases hv⟩
  | w :: ws, vs, h => by
    unfold vT at h
    split at h
    · cases h
    · rename_i v hv
      obtain ⟨us, hu, rfl⟩ := Option.map_eq_some_iff.mp h
      obtain ⟨a, b⟩ := vT_some hu
      refine ⟨by simp [a], fun x hx => ?_⟩
      rcases List.mem_cons.mp hx with e | e
      · rw [e]
        exact (wV_some hv).2
      · exact b x e
theorem c_num {w : List Nat} (hl : w.length ≤ 100000) (S : Store) : callSub S_number_in [sD w] S = .ok (nD (numR w)) S := callSub_ok (by rfl) (numberin_any hl []) (by cases numR w <;> rfl)
theorem slH {w : List Nat} {x : Nat} (h : w.head? = some x) (hl : w.length ≤ 100000) (S : Store) : gSlS (sD w) (some 1) none S = .ok (sD w.tail) S := by
  cases w with
  | nil => cases h
  | cons y l =>
    rw [List.length_cons] at hl
    exact slice_s S (by omega)
theorem vb_some {w : List Nat} {v : Vl} (h : wV w = some v) (hl : w.length ≤ 100000) {W xs : List D} (hx : xs.length ≤ 1000) (x0 x3 x4 : Option D) :
    ∃ y3 y4, vbody [x0, some (.oid 1), some (sD w), x3, x4] [.lst W, .lst xs] = .nx [x0, some (.oid 1), some (sD w), y3, y4] [.lst W, .lst (xs ++ [dV v])] := by
  have ap := fun d => app_o (S := [.lst W, .lst xs]) (L := 1) (x := d) rfl hx
  have st := starts_any w 64 [.lst W, .lst xs]
  unfold vbody
  unfold wV at h
  split at h
  · rename_i e
    subst e
    cases h
    have c := c_num (w := [45]) (by simp) [.lst W, .lst xs]
    refine ⟨some (.bl false), some (nD (numR [45])), ?_⟩
    simp [t_at, st, c, t_minus, ap, dV, tyS]
  · rename_i ne
    have ne' : ¬ tx w = tx [45] := fun z => ne (tx_inj.mp z)
    split at h
    · rename_i h64
      have sl := slH h64 hl [.lst W, .lst xs]
      have c := c_num (w := w.tail) (by rw [List.length_tail]; omega) [.lst W, .lst xs]
      split at h
      · rename_i i hi
        split at h
        · cases h
        · rename_i hn
          cases h
          rw [hi] at c
          have en : ((i.toNat : Nat) : Int) = i := by omega
          refine ⟨some (.bl true), some (.int i), ?_⟩
          simp [t_at, st, h64, sl, fSlS, fPart, fPartN, c, t_minus, ne', hn, ap, dV, nD, tyS]
          omega
      · cases h
    · rename_i h64
      obtain ⟨i, hi, rfl⟩ := Option.map_eq_some_iff.mp h
      have c := c_num hl [.lst W, .lst xs]
      rw [hi] at c
      refine ⟨some (.bl false), some (.int i), ?_⟩
      simp [t_at, st, h64, c, t_minus, ne', ap, dV, nD, tyS]
theorem vb_none {w : List Nat} (h : wV w = none) (hl : w.length ≤ 100000) {W xs : List D} (hx : xs.length ≤ 1000) (x0 x3 x4 : Option D) :
    vbody [x0, some (.oid 1), some (sD w), x3, x4] [.lst W, .lst xs] = .rt .non [.lst W, .lst xs] := by
  have st := starts_any w 64 [.lst W, .lst xs]
  unfold vbody
  unfold wV at h
  split at h
  · cases h
  · rename_i ne
    have ne' : ¬ tx w = tx [45] := fun z => ne (tx_inj.mp z)
    split at h
    · rename_i h64
      have sl := slH h64 hl [.lst W, .lst xs]
      have c := c_num (w := w.tail) (by rw [List.length_tail]; omega) [.lst W, .lst xs]
      split at h
      · rename_i i hi
        split at h
        · rename_i hn
          rw [hi] at c
          simp [t_at, st, h64, sl, fSlS, fPart, fPartN, c, t_minus, ne', hn, nD, tyS]
        · cases h
      · rename_i hi
        rw [hi] at c
        simp [t_at, st, h64, sl, fSlS, fPart, fPartN, c, t_minus, ne', nD, tyS]
    · rename_i h64
      have hi : numR w = none := by
        cases q : numR w with
        | none => rfl
        | some i => rw [q] at h; cases h
      have c := c_num hl [.lst W, .lst xs]
      rw [hi] at c
      simp [t_at, st, h64, c, t_minus, ne', nD, tyS]
theorem vt_loop {es : List D} : ∀ (ws : List (List Nat)) (xs : List D) (y2 y3 y4 : Option D), (∀ w ∈ ws, w.length ≤ 100000) → xs.length + ws.length ≤ 1000 →
    (∀ vs, vT ws = some vs → ∃ z2 z3 z4, loopF (some (.oid 0, es)) (mName 2) vbody (ws.map sD) [some (.oid 0), some (.oid 1), y2, y3, y4] [.lst es, .lst xs] = .nx [some (.oid 0), some (.oid 1), z2, z3, z4] [.lst es, .lst (xs ++ vs.map dV)]) ∧
    (vT ws = none → ∃ zs, loopF (some (.oid 0, es)) (mName 2) vbody (ws.map sD) [some (.oid 0), some (.oid 1), y2, y3, y4] [.lst es, .lst xs] = .rt .non [.lst es, .lst zs])
  | [], xs, y2, y3, y4, _, _ => ⟨fun vs h => by
      cases h
      exact ⟨y2, y3, y4, by rw [List.map_nil, List.map_nil, List.append_nil]; exact loopC_nil rfl⟩, fun h => by cases h⟩
  | w :: ws, xs, y2, y3, y4, hl, hx => by
    have l1 := hl w List.mem_cons_self
    rw [List.length_cons] at hx
    rw [List.map_cons, loopC_cons (ρ1 := [some (.oid 0), some (.oid 1), some (sD w), y3, y4]) rfl rfl]
    cases hv : wV w with
    | none =>
      rw [vb_none hv l1 (by omega)]
      refine ⟨fun vs h => ?_, fun _ => ⟨xs, rfl⟩⟩
      unfold vT at h
      rw [hv] at h
      cases h
    | some v =>
      obtain ⟨z3, z4, e⟩ := vb_some hv l1 (W := es) (xs := xs) (by omega) (some (.oid 0)) y3 y4
      rw [e]
      obtain ⟨a, b⟩ := vt_loop (es := es) ws (xs ++ [dV v]) (some (sD w)) z3 z4 (fun x hx => hl x (List.mem_cons_of_mem _ hx)) (by rw [List.length_append, List.length_singleton]; omega)
      have e2 : vT (w :: ws) = (vT ws).map (v :: ·) := by
        conv => lhs; unfold vT
        rw [hv]
      refine ⟨fun vs h => ?_, fun h => ?_⟩
      · rw [e2] at h
        obtain ⟨us, hu, rfl⟩ := Option.map_eq_some_iff.mp h
        obtain ⟨p, q, r, k⟩ := a us hu
        exact ⟨p, q, r, by rw [List.map_cons]; simpa using k⟩
      · rw [e2] at h
        exact b (Option.map_eq_none_iff.mp h)
def vtD : Option (List Vl) → D
  | none => .non
  | some vs => .lst (vs.map dV)
theorem sDs_pure (ws : List (List Nat)) : pureL (ws.map sD) = true := pureL_all.mpr fun x hx => by
  obtain ⟨v, _, rfl⟩ := List.mem_map.mp hx
  rfl
theorem vt_any {ws : List (List Nat)} (hl : ∀ w ∈ ws, w.length ≤ 100000) (hn : ws.length ≤ 1000) {S : Store} {n : Nat} (hS : S[n]? = some (.lst (ws.map sD))) : callSub S_values_told [.oid n] S = .ok (vtD (vT ws)) S := by
  obtain ⟨a, b⟩ := vt_loop (es := ws.map sD) ws [] none none none hl (by simpa using hn)
  have q : ∃ T, S_values_told [.oid 0] [.lst (ws.map sD)] = .ok (vtD (vT ws)) (.lst (ws.map sD) :: T) := by
    unfold S_values_told
    rw [m_vt_eq]
    cases h : vT ws with
    | none =>
      obtain ⟨zs, e⟩ := b h
      refine ⟨[.lst zs], ?_⟩
      simp [List.replicate, short_le, seqD, asL]
      erw [e]
      rfl
    | some vs =>
      obtain ⟨z2, z3, z4, e⟩ := a vs h
      refine ⟨[.frz (.lst (vs.map dV))], ?_⟩
      simp [List.replicate, short_le, seqD, asL]
      erw [e]
      simp [fFrz, vtD]
  obtain ⟨T, q⟩ := q
  have := callSub_st hS (sDs_pure ws) (by rfl) q (by cases vT ws <;> simp [vtD, D.pure, dVs_pure]) (sDs_pure ws)
  rw [this]
  obtain ⟨hn, e⟩ := List.getElem?_eq_some_iff.mp hS
  rw [← e, List.set_getElem_self hn]
end K03

/-! Rows: by the program and by the law. -/
namespace K03
open PySem L2 DL TY NumText
noncomputable def zlr0 : FS := (gSet 1 (fComp (fSeq (fSl (fVar 0) (fPart (fC (.int 1))) fPartN)) (mName 3) fYes (fCall (callSub S_p_law_word_value) (fun ds es => pick [(0, 0)] ds es []) 1 0 1 (fCons (fVar 3) (fun _ S => .ok [] S)) (fun _ S => .ok [] S)) ([("_law_word", 3)].map (·.2)) finL))
noncomputable def zlr1 : FS := (gIf (fOrT (toB (fBin gNotIn (fBin gIx (fVar 0) (fC (.int 0))) (fTup (fCons (fC (.str "cell")) (fCons (fC (.str "last")) (fCons (fC (.str "tie")) (fCons (fC (.str "pegs")) (fun _ S => .ok [] S)))))))) (toB (fBin gInP (fLst (fun _ S => .ok [] S)) (fVar 1)))) (gRet (fC .non)) gNil)
noncomputable def zlr2 : FS := (gSet 2 (fComp (fSeq (fVar 1)) (mName 4) fYes (fBin gIx (fVar 4) (fC (.int 0))) ([("_law_one", 4)].map (·.2)) finL))
noncomputable def zlr3 : FS := (gIf (fAndT (toB (fBin gIn (fBin gIx (fVar 0) (fC (.int 0))) (fTup (fCons (fC (.str "cell")) (fCons (fC (.str "last")) (fun _ S => .ok [] S)))))) (toB (fBin gGt (fCB gLen (fCons (fVar 2) (fun _ S => .ok [] S))) (fC (.int 6))))) (gRet (fC .non)) gNil)
noncomputable def zlr4 : FS := (gIf (fAndT (toB (fBin gEq (fBin gIx (fVar 0) (fC (.int 0))) (fC (.str "tie")))) (fOrT (toB (fBin gNe (fCB gLen (fCons (fVar 2) (fun _ S => .ok [] S))) (fC (.int 1)))) (toB (fCB gIsi (fCons (fBin gIx (fVar 2) (fC (.int 0))) (fCons (fC (.ty "int")) (fun _ S => .ok [] S))))))) (gRet (fC .non)) gNil)
noncomputable def zlr5 : FS := (gRet (fTup (fCons (fBin gIx (fVar 0) (fC (.int 0))) (fCons (fVar 2) (fun _ S => .ok [] S)))))
noncomputable def zlr : FS := (gSeq zlr0 (gSeq zlr1 (gSeq zlr2 (gSeq zlr3 (gSeq zlr4 zlr5)))))
theorem zlr_eq : m_p_law_row = zlr := rfl
def srt4 (z : Str) : Prop := z = "cell" ∨ z = "last" ∨ z = "tie" ∨ z = "pegs"
theorem row_iff {z : Str} {vs : List Vl} : RowOk z vs ↔ ((∃ l, z = sortOf l) ∧ vs.length ≤ 6) ∨ (z = "tie" ∧ (vs = [.non] ∨ ∃ n, vs = [.at_ n])) ∨ z = "pegs" := by
  constructor
  · intro h
    cases h with
    | flds l vs h => exact .inl ⟨⟨l, rfl⟩, h⟩
    | tie0 => exact .inr (.inl ⟨rfl, .inl rfl⟩)
    | tie n => exact .inr (.inl ⟨rfl, .inr ⟨n, rfl⟩⟩)
    | pegs => exact .inr (.inr rfl)
  · rintro (⟨⟨l, rfl⟩, h⟩ | ⟨rfl, rfl | ⟨n, rfl⟩⟩ | rfl)
    · exact .flds l vs h
    · exact .tie0
    · exact .tie n
    · exact .pegs vs
theorem cases4 (z : Str) : (∃ l, z = sortOf l) ∨ z = "tie" ∨ z = "pegs" ∨ (¬ srt4 z) := by
  by_cases h : srt4 z
  · rcases h with rfl | rfl | rfl | rfl
    · exact .inl ⟨false, rfl⟩
    · exact .inl ⟨true, rfl⟩
    · exact .inr (.inl rfl)
    · exact .inr (.inr (.inl rfl))
  · exact .inr (.inr (.inr h))
theorem not4 {z : Str} (h : ¬ srt4 z) : ¬ (z = "cell") ∧ ¬ (z = "last") ∧ ¬ (z = "tie") ∧ ¬ (z = "pegs") := ⟨fun e => h (.inl e), fun e => h (.inr (.inl e)), fun e => h (.inr (.inr (.inl e))), fun e => h (.inr (.inr (.inr e)))⟩
theorem row_not4 {z : Str} (h : ¬ srt4 z) (vs : List Vl) : ¬ RowOk z vs := fun r => by
  rcases row_iff.mp r with ⟨⟨l, rfl⟩, _⟩ | ⟨rfl, _⟩ | rfl
  · cases l
    · exact h (.inl rfl)
    · exact h (.inr (.inl rfl))
  · exact h (.inr (.inr (.inl rfl)))
  · exact h (.inr (.inr (.inr rfl)))
theorem w0 {z : Str} (h : ¬ srt4 z) : inF (.str z) [.str "cell", .str "last", .str "tie", .str "pegs"] = false := by
  obtain ⟨h1, h2, h3, h4⟩ := not4 h
  have e : ∀ a : Str, ¬ z = a → eqF (.str a) (.str z) = false := fun a ha => by
    simp [eqF]
    exact fun q => ha q.symm
  simp [inF, e _ h1, e _ h2, e _ h3, e _ h4]
theorem tie_no {vs : List Vl} (h : ¬ (vs = [.non] ∨ ∃ n, vs = [.at_ n])) : vs.length ≠ 1 ∨ ∃ i, vs = [.num i] := by
  match vs, h with
  | [], _ => exact .inl (by simp)
  | [.non], h => exact absurd (.inl rfl) h
  | [.at_ n], h => exact absurd (.inr ⟨n, rfl⟩) h
  | [.num i], _ => exact .inr ⟨i, rfl⟩
  | _ :: _ :: _, _ => exact .inl (by simp)
open Classical in
noncomputable def rW : List (List Nat) → Option (Str × List Vl)
  | [] => none
  | s :: rest => match vT rest with
    | none => none
    | some vs => if RowOk (tx s) vs then some (tx s, vs) else none
theorem rW_none {s : List Nat} {rest : List (List Nat)} (h : vT rest = none) : rW (s :: rest) = none := by
  simp only [rW, h]
open Classical in
theorem rW_vs {s : List Nat} {rest : List (List Nat)} {vs : List Vl} (h : vT rest = some vs) : rW (s :: rest) = if RowOk (tx s) vs then some (tx s, vs) else none := by
  simp only [rW, h]
def rwD : Option (Str × List Vl) → D
  | none => .non
  | some q => .tup [.str q.1, .lst (q.2.map dV)]
theorem rwD_pure (r : Option (Str × List Vl)) : (rwD r).pure = true := by
  cases r with
  | none => rfl
  | some q => simp [rwD, D.pure, pureL, dVs_pure]
theorem rW_some {ws : List (List Nat)} {q : Str × List Vl} (h : rW ws = some q) : RowOk q.1 q.2 ∧ (∀ v ∈ q.2, inC v) ∧ q.2.length + 1 = ws.length := by
  cases ws with
  | nil => cases h
  | cons s rest =>
    cases hv : vT rest with
    | none =>
      rw [rW_none hv] at h
      cases h
    | some vs =>
      rw [rW_vs hv] at h
      by_cases r : RowOk (tx s) vs
      · rw [if_pos r] at h
        cases h
        obtain ⟨a, b⟩ := vT_some hv
        exact ⟨r, b, by simp [a]⟩
      · rw [if_neg r] at h
        cases h
theorem told_any {s : List Nat} {rest : List (List Nat)} (hl : ∀ w ∈ rest, w.length ≤ 100000) (hn : rest.length ≤ 1000) (S : Store) : callSub S_told_row [.lst ((s :: rest).map sD)] S = .ok (rwD (rW (s :: rest))) S := by
  have vt : callSub S_values_told [.oid 0] [.lst (rest.map sD)] = .ok (vtD (vT rest)) [.lst (rest.map sD)] := vt_any hl hn rfl
  refine callSub_ok (S' := [.lst (rest.map sD)]) ?_ ?_ (rwD_pure _)
  · simp only [pureL, D.pure, Bool.and_true, Bool.true_and]
    exact sDs_pure (s :: rest)
  · rw [List.map_cons]
    change S_told_row [.lst (.str (tx s) :: rest.map sD)] [] = _
    unfold S_told_row m_told_row
    cases hv : vT rest with
    | none =>
      rw [hv] at vt
      rw [rW_none hv]
      simp [gStar, vt, vtD, List.replicate, tyS, rwD]
    | some vs =>
      rw [hv] at vt
      have lv : vs.length ≤ 1000 := by
        have := (vT_some hv).1
        omega
      have sh : short vs.length = true := short_le (by omega)
      simp only [vtD] at vt
      rw [rW_vs hv]
      generalize tx s = z at *
      clear hv
      rcases cases4 z with ⟨l, rfl⟩ | rfl | rfl | h4
      · by_cases h6 : vs.length ≤ 6
        · have h7 : ¬ (6 < (vs.length : Int)) := by omega
          rw [if_pos (RowOk.flds l vs h6)]
          simp [gStar, vt, w1, n4, n3, h7, sh, List.replicate, short_le, gInQ, D.flat, tyS, rwD]
        · have h7 : (6 < (vs.length : Int)) := by omega
          have nr : ¬ RowOk (sortOf l) vs := fun r => by
            rcases row_iff.mp r with ⟨_, h⟩ | ⟨h, _⟩ | h
            · exact h6 h
            · exact n3 l h
            · exact np1 l h
          rw [if_neg nr]
          simp [gStar, vt, w1, n4, n3, h7, sh, List.replicate, short_le, gInQ, D.flat, tyS, rwD]
      · by_cases ht : vs = [.non] ∨ ∃ n, vs = [.at_ n]
        · rw [if_pos (row_iff.mpr (.inr (.inl ⟨rfl, ht⟩)))]
          rcases ht with rfl | ⟨n, rfl⟩ <;> simp [dV] at vt <;> simp [gStar, vt, w2, w4, List.replicate, short_le, gInQ, D.flat, tyS, dV, ixN, isiT, rwD]
        · have nr : ¬ RowOk "tie" vs := fun r => by
            rcases row_iff.mp r with ⟨⟨l, h⟩, _⟩ | ⟨_, h⟩ | h
            · exact n3 l h.symm
            · exact ht h
            · exact w6 h.symm
          rw [if_neg nr]
          rcases tie_no ht with h1 | ⟨i, rfl⟩
          · have h1' : ¬ ((vs.length : Int) = 1) := by omega
            simp [gStar, vt, w2, w4, h1', sh, List.replicate, short_le, gInQ, D.flat, tyS, rwD]
          · simp [dV] at vt
            simp [gStar, vt, w2, w4, List.replicate, short_le, gInQ, D.flat, tyS, dV, ixN, isiT, rwD]
      · rw [if_pos (RowOk.pegs vs)]
        simp [gStar, vt, w3, w5, w6, sh, List.replicate, short_le, gInQ, D.flat, tyS, rwD]
      · rw [if_neg (row_not4 h4 vs)]
        simp [gStar, vt, w0 h4, sh, List.replicate, short_le, gInQ, D.flat, tyS, rwD]
/-! ### the law's -/
def wvD : Option Vl → D
  | none => .lst []
  | some v => .lst [dV v]
theorem ix0_s {w : List Nat} {x : Nat} (n : Nat) (h : w[n]? = some x) (hl : w.length ≤ 100000) (S : Store) : gIx (sD w) (.int n) S = .ok (sD [x]) S := by
  have sh : short (tx w).length = true := short_le (by rw [tx_len]; omega)
  have a : atI (tx w).cps.toList (n : Int) = some x := by
    rw [tx_cps]
    have hn : n < w.length := (List.getElem?_eq_some_iff.mp h).1
    have hx : w[n] = x := (List.getElem?_eq_some_iff.mp h).2
    simp [atI, ixN, hn, hx]
  show (if pDic1 (sD w) (.int n) S then gIxD (sD w) (.int n) S else if isS (sD w) (.int n) S then gIxS (sD w) (.int n) S else gIxQ (sD w) (.int n) S) = _
  have e1 : pDic1 (sD w) (.int n) S = false := by simp [pDic1, asD]
  have e2 : isS (sD w) (.int n) S = true := rfl
  rw [e1, e2]
  simp [gIxS, sh, a]
  rfl
open Classical in
theorem ln2_ok {w f : List Nat} (hd : AllDigits f) (hn : f ≠ []) (hl : w.length ≤ 100000) (hf : f.length ≤ 10) (x2 : Option D) (S : Store) : zln2 [some (sD w), some (sD f), x2] S = if (f.head? = some 48 ∧ w ≠ [48]) ∨ 1000000000 < digitsVal f then .rt .non S else .nx [some (sD w), some (sD f), x2] S := by
  unfold zln2
  have f45 : ¬ f.head? = some 45 := fun z => by
    cases f with
    | nil => cases z
    | cons x r =>
      have := hd x List.mem_cons_self
      simp at z
      omega
  have ff := figs_same f45
  have is := int_w (w := f) (by rw [ff]; exact hd) (by rw [ff]; exact hn) (by omega) S
  have wf : worth f = (digitsVal f : Nat) := by
    unfold worth
    rw [if_neg f45]
  rw [wf] at is
  obtain ⟨x, r, rfl⟩ := List.exists_cons_of_ne_nil hn
  have ix := ix0_s (w := x :: r) (x := x) 0 rfl (by omega) S
  simp only [Int.natCast_zero] at ix
  have t0 : ("0" : Str) = tx [48] := by decide +kernel
  have e1 : (tx [x] = tx [48]) ↔ x = 48 := by rw [tx_inj]; simp
  have e2 : (tx w = tx [48]) ↔ w = [48] := tx_inj
  by_cases h1 : x = 48
  · subst h1
    by_cases h2 : w = [48]
    · by_cases h3 : 1000000000 < digitsVal (48 :: r)
      · have h3' : (1000000000 : Int) < (digitsVal (48 :: r) : Nat) := by omega
        simp [ix, t0, h2, is, p109, tyS, h3, h3']
      · have h3' : ¬ (1000000000 : Int) < (digitsVal (48 :: r) : Nat) := by omega
        simp [ix, t0, h2, is, p109, tyS, h3, h3']
    · simp [ix, t0, e2, h2]
  · by_cases h3 : 1000000000 < digitsVal (x :: r)
    · have h3' : (1000000000 : Int) < (digitsVal (x :: r) : Nat) := by omega
      simp [ix, t0, e1, h1, is, p109, tyS, h3, h3']
    · have h3' : ¬ (1000000000 : Int) < (digitsVal (x :: r) : Nat) := by omega
      simp [ix, t0, e1, h1, is, p109, tyS, h3, h3']
theorem num_back {i : Int} (h : numB i) : figsL (numL i) = numL (i.natAbs : Nat) ∧ digitsVal (figsL (numL i)) = i.natAbs := by
  have e := (num_figs i).2.2
  exact ⟨e, by rw [e, val_num]⟩
theorem lnumber_any {w : List Nat} (hl : w.length ≤ 100000) (h8 : ∀ c ∈ w, c < 128) (S : Store) : S_p_law_number [sD w] S = .ok (nD (numR w)) S := by
  have sub : (figsL w).length ≤ 100000 ∧ ∀ c ∈ figsL w, c < 128 := by
    unfold figsL
    split
    · rw [List.length_cons] at hl
      exact ⟨by omega, fun c hc => h8 c (List.mem_cons_of_mem _ hc)⟩
    · exact ⟨hl, h8⟩
  unfold S_p_law_number
  rw [zln_eq, e_semOf]
  unfold zln
  have st : startD 3 [sD w] = [some (sD w), none, none] := rfl
  rw [st, e_gSeq, ln0_ok hl, Out.seq_nx, e_gSeq, ln1_ok sub.1 sub.2]
  by_cases h : AllDigits (figsL w) ∧ figsL w ≠ [] ∧ (figsL w).length ≤ 10
  · obtain ⟨hd, hn, h10⟩ := h
    rw [if_pos ⟨hd, hn, h10⟩, Out.seq_nx, e_gSeq, ln2_ok hd hn hl h10]
    by_cases h2 : ((figsL w).head? = some 48 ∧ w ≠ [48]) ∨ 1000000000 < digitsVal (figsL w)
    · rw [if_pos h2]
      have : numR w = none := numR_none fun ⟨i, hi, hw⟩ => by
        obtain ⟨a, b⟩ := num_back hi
        rw [← hw] at a b
        have := hi.1
        have := hi.2
        rcases h2 with ⟨h3, h4⟩ | h3
        · by_cases h0 : 0 < i.natAbs
          · exact num_head _ h0 (by rw [← a]; exact h3)
          · have : i = 0 := by omega
            subst this
            exact h4 (by rw [hw]; exact num_zero)
        · omega
      rw [this]
      rfl
    · rw [if_neg h2, Out.seq_nx]
      have lw : w.length ≤ 600 := by
        unfold figsL at h10
        split at h10
        · rw [List.length_cons]
          omega
        · omega
      have is := int_w hd hn lw S
      have big : ¬ 1000000000 < digitsVal (figsL w) := fun z => h2 (.inr z)
      have ew : numR w = some (worth w) := by
        have e : w = numL (worth w) ∧ numB (worth w) := by
          by_cases h48 : (figsL w).head? = some 48
          · have e : w = [48] := Classical.byContradiction fun z => h2 (.inl ⟨h48, z⟩)
            subst e
            exact ⟨num_zero.symm, by decide, by decide⟩
          · obtain ⟨p, q⟩ := num_of _ (figsL w) (Nat.le_refl _) hd hn h48
            unfold worth
            by_cases h45 : w.head? = some 45
            · rw [if_pos h45]
              refine ⟨?_, by unfold numB; omega⟩
              obtain ⟨m, hm⟩ : ∃ m, digitsVal (figsL w) = m + 1 := ⟨digitsVal (figsL w) - 1, by omega⟩
              rw [hm] at q ⊢
              have e2 : -(((m + 1 : Nat)) : Int) = -((m : Int) + 1) := by omega
              rw [e2, numL_neg, q]
              cases w with
              | nil => cases h45
              | cons x r =>
                have : x = 45 := by simpa using h45
                subst this
                rfl
            · rw [if_neg h45]
              have fs := figs_same h45
              rw [fs] at q big
              exact ⟨q.symm, by unfold numB; omega⟩
        have := numR_num e.2
        rwa [← e.1] at this
      rw [ew]
      simp [zln3, is, nD]
  · rw [if_neg h]
    have : numR w = none := numR_none fun z => h ⟨(isN_figs z).1, (isN_figs z).2.1, (isN_figs z).2.2.2⟩
    rw [this]
    rfl
theorem c_lnum {w : List Nat} (hl : w.length ≤ 100000) (h8 : ∀ c ∈ w, c < 128) (S : Store) : callSub S_p_law_number [sD w] S = .ok (nD (numR w)) S := callSub_ok (by rfl) (lnumber_any hl h8 []) (by cases numR w <;> rfl)
theorem wV_at (t : List Nat) : wV (64 :: t) = match numR t with
    | some i => if i < 0 then none else some (.at_ i.toNat)
    | none => none := by
  have h : ¬ (64 :: t = [45]) := fun z => by
    injection z with z _
    cases z
  unfold wV
  rw [if_neg h]
  simp only [List.head?_cons, if_true, List.tail_cons]
  all_goals (cases numR t <;> rfl)
theorem wV_num {x : Nat} {t : List Nat} (h : ¬ x = 64) (hm : ¬ x :: t = [45]) : wV (x :: t) = (numR (x :: t)).map Vl.num := by
  unfold wV
  rw [if_neg hm, if_neg (fun z => h (by simpa using z))]
theorem lword_any {w : List Nat} (hn : w ≠ []) (hl : w.length ≤ 100000) (h8 : ∀ c ∈ w, c < 128) (S : Store) : S_p_law_word_value [sD w] S = .ok (wvD (wV w)) S := by
  obtain ⟨x, t, rfl⟩ := List.exists_cons_of_ne_nil hn
  have ix := ix0_s (w := x :: t) (x := x) 0 rfl hl S
  simp only [Int.natCast_zero] at ix
  have tl : t.length ≤ 100000 := by
    rw [List.length_cons] at hl
    omega
  have e1 : (tx [x] = tx [64]) ↔ x = 64 := by rw [tx_inj]; simp
  unfold S_p_law_word_value m_p_law_word_value
  by_cases hm : x :: t = [45]
  · have : tx (x :: t) = tx [45] := by rw [hm]
    have e : wV (x :: t) = some .non := by
      unfold wV
      rw [if_pos hm]
    rw [e]
    simp [t_minus, this, wvD, dV]
  · have ne : ¬ tx (x :: t) = tx [45] := fun z => hm (tx_inj.mp z)
    by_cases h64 : x = 64
    · subst h64
      have sl := slice_s S (x := 64) (l := t) (by omega)
      have c := c_lnum (w := t) tl (fun c hc => h8 c (List.mem_cons_of_mem _ hc)) S
      rw [wV_at]
      cases hr : numR t with
      | none =>
        rw [hr] at c
        simp [t_minus, ne, t_at, ix, fSlS, fPart, fPartN, sl, c, nD, tyS, wvD]
      | some i =>
        rw [hr] at c
        obtain ⟨b, e⟩ := numR_some hr
        have hh : ∃ y, t.head? = some y ∧ (y = 45 ↔ i < 0) := by
          rcases cases_int i with ⟨n, rfl⟩ | ⟨n, rfl⟩
          · obtain ⟨y, l, q⟩ := List.exists_cons_of_ne_nil (numL_ne n)
            refine ⟨y, by rw [e, q]; rfl, ?_⟩
            have := numL_digits n y (by rw [q]; exact List.mem_cons_self)
            omega
          · refine ⟨45, by rw [e, numL_neg]; rfl, ?_⟩
            omega
        obtain ⟨y, hy, hi⟩ := hh
        have ix1 := ix0_s (w := 64 :: t) (x := y) 1 (by rw [List.getElem?_cons_succ, ← List.head?_eq_getElem?]; exact hy) hl S
        simp only [Int.natCast_one] at ix1
        have e2 : (tx [y] = tx [45]) ↔ y = 45 := by rw [tx_inj]; simp
        by_cases h0 : i < 0
        · have y45 := hi.mpr h0
          subst y45
          simp [t_minus, ne, t_at, ix, ix1, fSlS, fPart, fPartN, sl, c, nD, tyS, wvD, h0]
        · have y45 : ¬ y = 45 := fun z => h0 (hi.mp z)
          have en : ((i.toNat : Nat) : Int) = i := by omega
          simp [t_minus, ne, t_at, ix, ix1, e2, y45, fSlS, fPart, fPartN, sl, c, nD, tyS, wvD, h0, dV]
          omega
    · have c := c_lnum (w := x :: t) hl h8 S
      rw [wV_num h64 hm]
      cases hr : numR (x :: t) with
      | none =>
        rw [hr] at c
        simp [t_minus, ne, t_at, ix, e1, h64, c, nD, tyS, wvD]
      | some i =>
        rw [hr] at c
        simp [t_minus, ne, t_at, ix, e1, h64, c, nD, tyS, wvD, dV]
end K03

/-! Rows by the law. -/
namespace K03
open PySem L2 DL TY NumText
theorem dV_simC {v : Vl} (h : inC v) : (dV v).sim = true ∧ (dV v).dep ≤ 1 ∧ (dV v).nb = true := by
  cases v with
  | non => exact ⟨rfl, Nat.zero_le _, rfl⟩
  | num i =>
    obtain ⟨h1, h2⟩ := h
    exact ⟨by simp only [dV, D.sim, decide_eq_true_eq]; omega, Nat.zero_le _, rfl⟩
  | at_ n =>
    have hn : n ≤ 1000000000 := h
    have h1 : PyData.strOk "at" = true := by decide +kernel
    refine ⟨?_, by simp [dV, D.dep, depL], by simp [dV, D.nb, nbL]⟩
    simp only [dV, D.sim, simL, h1, Bool.true_and, Bool.and_true, decide_eq_true_eq]
    omega
theorem wV_in {w : List Nat} {v : Vl} (h : wV w = some v) : inC v := (wV_some h).2
def wordOk (w : List Nat) : Prop := w ≠ [] ∧ w.length ≤ 100000 ∧ ∀ c ∈ w, c < 128
theorem c_lword {w : List Nat} (h : wordOk w) (S : Store) : callSub S_p_law_word_value [sD w] S = .ok (wvD (wV w)) S := callSub_ok (by rfl) (lword_any h.1 h.2.1 h.2.2 []) (by cases wV w <;> simp [wvD, D.pure, pureL, dV_pure])
noncomputable def lwD : D → D
  | .str s => wvD (wV s.cps.toList)
  | _ => .non
theorem lwD_s (w : List Nat) : lwD (sD w) = wvD (wV w) := by
  show wvD (wV (tx w).cps.toList) = _
  rw [tx_cps]
theorem wvD_sim (w : List Nat) : (wvD (wV w)).sim = true ∧ (wvD (wV w)).dep ≤ 2 := by
  cases h : wV w with
  | none => exact ⟨rfl, by simp [wvD, D.dep, depL]⟩
  | some v =>
    obtain ⟨a, b, _⟩ := dV_simC (wV_in h)
    exact ⟨by simp [wvD, D.sim, simL, a], by simp only [wvD, D.dep, depL]; omega⟩
theorem lwD_map (ws : List (List Nat)) : (ws.map sD).map lwD = ws.map fun w => wvD (wV w) := by
  rw [List.map_map]
  exact List.map_congr_left fun w _ => lwD_s w
theorem lwD_sim (ws : List (List Nat)) : simL ((ws.map sD).map lwD) = true ∧ depL ((ws.map sD).map lwD) ≤ 2 := by
  rw [lwD_map]
  refine ⟨simL_allK.mpr fun d hd => ?_, depL_leK fun d hd => ?_⟩
  all_goals
    obtain ⟨w, _, rfl⟩ := List.mem_map.mp hd
    first | exact (wvD_sim w).1 | exact (wvD_sim w).2
theorem any_py : ∀ ws : List (List Nat), (pyL (ws.map fun w => wvD (wV w))).any (fun z => PyData.eqv z (.list [])) = (vT ws).isNone
  | [] => rfl
  | w :: ws => by
    rw [List.map_cons]
    simp only [pyL, List.any_cons, any_py ws]
    cases h : wV w with
    | none =>
      have e : vT (w :: ws) = none := by
        simp only [vT, h]
      rw [e]
      simp [wvD, D.py, pyL, PyData.eqv, PyData.eqvAll]
    | some v =>
      have e : vT (w :: ws) = (vT ws).map (v :: ·) := by
        simp only [vT, h]
      rw [e]
      simp [wvD, D.py, pyL, PyData.eqv, PyData.eqvAll]
theorem in_told (ws : List (List Nat)) (S : Store) : gInP (.lst []) (.lst ((ws.map sD).map lwD)) S = .ok (.bl (vT ws).isNone) S := by
  obtain ⟨q1, q2⟩ := lwD_sim ws
  have sh := simL_sh _ q1
  have e1 : pyOf S (.lst ((ws.map sD).map lwD)) = some (.list (pyL ((ws.map sD).map lwD))) := by
    have := sh.py
    simp [pyOf, toPy]
    simpa using this
  have e2 : pyOf S (.lst []) = some (.list []) := by simp [pyOf, toPy, toPyL]
  have e3 : SeqAt.shaped (.list []) = true := shaped_ints []
  have e5 := shaped_sim q1 (by omega)
  unfold gInP
  simp only [e1, e2, e3, e5, Bool.and_self, if_true]
  rw [lwD_map, any_py]
theorem vT_map : ∀ {ws : List (List Nat)} {vs : List Vl}, vT ws = some vs → (ws.map fun w => wvD (wV w)) = vs.map fun v => D.lst [dV v]
  | [], vs, h => by
    cases h
    rfl
  | w :: ws, vs, h => by
    cases hv : wV w with
    | none =>
      simp only [vT, hv] at h
      cases h
    | some v =>
      simp only [vT, hv] at h
      obtain ⟨us, hu, rfl⟩ := Option.map_eq_some_iff.mp h
      rw [List.map_cons, hv, vT_map hu]
      rfl
def hdD : D → D
  | .lst [d] => d
  | _ => .non
theorem lr0_ok {s : List Nat} {rest : List (List Nat)} (h : ∀ w ∈ rest, wordOk w) (hn : rest.length ≤ 100000) (x1 x2 x3 x4 : Option D) (S : Store) : zlr0 [some (.lst ((s :: rest).map sD)), x1, x2, x3, x4] S = .nx [some (.lst ((s :: rest).map sD)), some (.lst ((rest.map sD).map lwD)), x2, x3, x4] S := by
  unfold zlr0
  have sl : gSl (.lst ((s :: rest).map sD)) (some 1) none S = .ok (.lst (rest.map sD)) S := by
    simp [gSl, cutD, HT.sIx_none]
    have e : HT.sIx (rest.length + 1) 0 (some 1) = 1 := by
      have := HT.sIx_nat (rest.length + 1) 0 1
      simp only [Int.natCast_one] at this
      rw [this]
      omega
    rw [e]
    simp
    exact List.take_of_length_le (by simp)
  have sh : short ((rest.map sD).map lwD).length = true := short_le (by simp; omega)
  simp [fSl, fPart, fPartN, sl, -List.map_cons, seqD, asL]
  rw [comp_map (f := lwD)]
  · simp [finL, sh]
    have : short rest.length = true := short_le (by omega)
    simp [this]
  · intro d hd
    obtain ⟨w, hw, rfl⟩ := List.mem_map.mp hd
    have c := c_lword (h w hw) S
    rw [← lwD_s] at c
    exact ⟨_, rfl, by simp [c]⟩
theorem lr2_ok {vs : List Vl} (hn : vs.length ≤ 100000) (x0 x2 x3 x4 : Option D) (S : Store) : zlr2 [x0, some (.lst (vs.map fun v => D.lst [dV v])), x2, x3, x4] S = .nx [x0, some (.lst (vs.map fun v => D.lst [dV v])), some (.lst (vs.map dV)), x3, x4] S := by
  unfold zlr2
  have sh : short vs.length = true := short_le (by omega)
  simp [seqD, asL]
  rw [comp_map (f := hdD)]
  · have e : (vs.map fun v => D.lst [dV v]).map hdD = vs.map dV := by
      rw [List.map_map]
      exact List.map_congr_left fun v _ => rfl
    rw [e]
    simp [finL, sh]
  · intro d hd
    obtain ⟨v, hv, rfl⟩ := List.mem_map.mp hd
    exact ⟨_, rfl, by simp [hdD, ixN]⟩
theorem lrow_any {s : List Nat} {rest : List (List Nat)} (h : ∀ w ∈ rest, wordOk w) (hn : rest.length ≤ 1000) (S : Store) : S_p_law_row [.lst ((s :: rest).map sD)] S = .ok (rwD (rW (s :: rest))) S := by
  unfold S_p_law_row
  rw [zlr_eq, e_semOf]
  unfold zlr
  have st : startD 5 [.lst ((s :: rest).map sD)] = [some (.lst ((s :: rest).map sD)), none, none, none, none] := rfl
  rw [st, e_gSeq, lr0_ok h (by omega), Out.seq_nx, e_gSeq]
  have it := in_told rest S
  cases hv : vT rest with
  | none =>
    rw [hv] at it
    rw [rW_none hv, List.map_cons]
    generalize (rest.map sD).map lwD = T at *
    generalize rest.map sD = W at *
    change ((zlr1 [some (.lst (.str (tx s) :: W)), some (.lst T), none, none, none] S).seq _).res = _
    generalize tx s = z at *
    unfold zlr1
    rcases cases4 z with ⟨l, rfl⟩ | rfl | rfl | h4
    · simp [ixN, w1, gInQ, D.flat, tyS, it, rwD]
    · simp [ixN, w2, gInQ, D.flat, tyS, it, rwD]
    · simp [ixN, w3, gInQ, D.flat, tyS, it, rwD]
    · simp [ixN, w0 h4, gInQ, D.flat, tyS, it, rwD]
  | some vs =>
    have lv : vs.length ≤ 1000 := by
      have := (vT_some hv).1
      omega
    have sh : short vs.length = true := short_le (by omega)
    rw [hv] at it
    rw [rW_vs hv, List.map_cons]
    have eT : (rest.map sD).map lwD = vs.map fun v => D.lst [dV v] := by rw [lwD_map, vT_map hv]
    rw [eT] at it ⊢
    have l2 := fun x0 x2 x3 x4 => lr2_ok (vs := vs) (by omega) x0 x2 x3 x4 S
    generalize (vs.map fun v => D.lst [dV v]) = T at *
    generalize rest.map sD = W at *
    change ((zlr1 [some (.lst (.str (tx s) :: W)), some (.lst T), none, none, none] S).seq _).res = _
    generalize tx s = z at *
    clear hv eT
    rcases cases4 z with ⟨l, rfl⟩ | rfl | rfl | h4
    · have v1 : zlr1 [some (.lst (.str (sortOf l) :: W)), some (.lst T), none, none, none] S = .nx [some (.lst (.str (sortOf l) :: W)), some (.lst T), none, none, none] S := by
        unfold zlr1
        simp [ixN, w1, gInQ, D.flat, tyS, it]
      rw [v1, Out.seq_nx, e_gSeq, l2, Out.seq_nx]
      by_cases h6 : vs.length ≤ 6
      · have h7 : ¬ (6 < (vs.length : Int)) := by omega
        rw [if_pos (RowOk.flds l vs h6)]
        simp [zlr3, zlr4, zlr5, ixN, n4, n3, h7, sh, gInQ, D.flat, tyS, rwD]
      · have h7 : (6 < (vs.length : Int)) := by omega
        have nr : ¬ RowOk (sortOf l) vs := fun r => by
          rcases row_iff.mp r with ⟨_, h⟩ | ⟨h, _⟩ | h
          · exact h6 h
          · exact n3 l h
          · exact np1 l h
        rw [if_neg nr]
        simp [zlr3, zlr4, zlr5, ixN, n4, n3, h7, sh, gInQ, D.flat, tyS, rwD]
    · have v1 : zlr1 [some (.lst (.str "tie" :: W)), some (.lst T), none, none, none] S = .nx [some (.lst (.str "tie" :: W)), some (.lst T), none, none, none] S := by
        unfold zlr1
        simp [ixN, w2, gInQ, D.flat, tyS, it]
      rw [v1, Out.seq_nx, e_gSeq, l2, Out.seq_nx]
      by_cases ht : vs = [.non] ∨ ∃ n, vs = [.at_ n]
      · rw [if_pos (row_iff.mpr (.inr (.inl ⟨rfl, ht⟩)))]
        rcases ht with rfl | ⟨n, rfl⟩ <;> simp [zlr3, zlr4, zlr5, w4, short_le, gInQ, D.flat, tyS, dV, ixN, isiT, rwD]
      · have nr : ¬ RowOk "tie" vs := fun r => by
          rcases row_iff.mp r with ⟨⟨l, h⟩, _⟩ | ⟨_, h⟩ | h
          · exact n3 l h.symm
          · exact ht h
          · exact w6 h.symm
        rw [if_neg nr]
        rcases tie_no ht with h1 | ⟨i, rfl⟩
        · have h1' : ¬ ((vs.length : Int) = 1) := by omega
          simp [zlr3, zlr4, zlr5, ixN, w4, h1', sh, gInQ, D.flat, tyS, rwD]
        · simp [zlr3, zlr4, zlr5, w4, short_le, gInQ, D.flat, tyS, dV, ixN, isiT, rwD]
    · have v1 : zlr1 [some (.lst (.str "pegs" :: W)), some (.lst T), none, none, none] S = .nx [some (.lst (.str "pegs" :: W)), some (.lst T), none, none, none] S := by
        unfold zlr1
        simp [ixN, w3, gInQ, D.flat, tyS, it]
      rw [v1, Out.seq_nx, e_gSeq, l2, Out.seq_nx]
      rw [if_pos (RowOk.pegs vs)]
      simp [zlr3, zlr4, zlr5, ixN, w5, w6, sh, gInQ, D.flat, tyS, rwD]
    · rw [if_neg (row_not4 h4 vs)]
      unfold zlr1
      simp [ixN, w0 h4, gInQ, D.flat, tyS, it, rwD]
theorem c_lrow {s : List Nat} {rest : List (List Nat)} (h : ∀ w ∈ rest, wordOk w) (hn : rest.length ≤ 1000) (S : Store) : callSub S_p_law_row [.lst ((s :: rest).map sD)] S = .ok (rwD (rW (s :: rest))) S :=
  callSub_ok (S' := []) (by simp only [pureL, D.pure, Bool.and_true]; exact sDs_pure (s :: rest)) (lrow_any h hn []) (rwD_pure _)
end K03

/-! All rows, by the program. -/
namespace K03
open PySem L2 DL TY NumText
noncomputable def ztr0 : FS := (gSet 1 (fLstO (fun _ S => .ok [] S)))
noncomputable def ztr1b0 : FS := (gIf (toB (fBin gNe (fVar 3) (fLst (fun _ S => .ok [] S)))) (gSeq (gSet 4 (fCall (callSub S_told_row) (fun ds es => pick [(0, 0)] ds es []) 1 0 1 (fCons (fVar 3) (fun _ S => .ok [] S)) (fun _ S => .ok [] S))) (gSeq (gIf (fOrT (toB (fBin gIs (fVar 4) (fC .non))) (fAndT (toB (fBin gNe (fVar 1) (fLst (fun _ S => .ok [] S)))) (toB (fBin gEq (fBin gIx (fBin gIx (fVar 1) (fUn gNeg (fC (.int 1)))) (fC (.int 1))) (fC (.str "pegs")))))) (gRaiX "BadText" ["row"] (fCons (fVar 2) (fun _ S => .ok [] S))) gNil) (gSeq (gAsg (mTup 2 (mCons (mName 5) (mCons (mName 6) (fun ds ρ _ => match ds with | [] => some ρ | _ => none)))) (fVar 4)) (gExpr (fBM "list" gApp (fVar 1) (fCons (fTup (fCons (fVar 2) (fCons (fVar 5) (fCons (fVar 6) (fun _ S => .ok [] S))))) (fun _ S => .ok [] S))))))) gNil)
noncomputable def ztr1 : FS := (gFor (fEnum (fCons (fVar 0) (fun _ S => .ok [] S))) (mTup 2 (mCons (mName 2) (mCons (mName 3) (fun ds ρ _ => match ds with | [] => some ρ | _ => none)))) ztr1b0)
noncomputable def ztr2 : FS := (gRet (fFrz (fVar 1)))
noncomputable def ztr : FS := (gSeq ztr0 (gSeq ztr1 ztr2))
theorem ztr_eq : m_told_rows = ztr := rfl
theorem callSub_exF {sem : Sem'} {args : List D} {C : Str} {fs : List (Str × D)} {S S' : Store} (hp : pureL args = true) (h : sem args [] = .ex C fs S') (hf : pureF fs = true) : callSub sem args S = .ex C fs S := by
  unfold callSub
  rw [subArgs_pure args 0 hp]
  simp only [List.nodup_nil, if_true, subOf, List.map_nil, h, hf, List.length_nil, List.take_zero, List.all_nil, Nat.zero_le, decide_true, Bool.and_true, Bool.and_self]
  rw [show putBack S [] S' = S by unfold putBack; rfl]
abbrev Et := Nat × Str × List Vl
def EtOk (e : Et) : Prop := e.1 ≤ 1000 ∧ RowOk e.2.1 e.2.2 ∧ ∀ v ∈ e.2.2, inC v
def isP (e : Et) : Prop := e.2.1 = "pegs"
instance (e : Et) : Decidable (isP e) := by unfold isP; infer_instance
theorem entD_simC {e : Et} (h : EtOk e) : (entD e).sim = true ∧ (entD e).dep ≤ 3 ∧ (entD e).nb = true := by
  obtain ⟨h1, h2, h3⟩ := h
  have hs := sort_ok h2
  have q1 : simL (e.2.2.map dV) = true := simL_allK.mpr fun d hd => by
    obtain ⟨v, hv, rfl⟩ := List.mem_map.mp hd
    exact (dV_simC (h3 v hv)).1
  have q2 : depL (e.2.2.map dV) ≤ 1 := depL_leK fun d hd => by
    obtain ⟨v, hv, rfl⟩ := List.mem_map.mp hd
    exact (dV_simC (h3 v hv)).2.1
  have q3 : nbL (e.2.2.map dV) = true := nbL_all.mpr fun d hd => by
    obtain ⟨v, hv, rfl⟩ := List.mem_map.mp hd
    exact (dV_simC (h3 v hv)).2.2
  refine ⟨?_, ?_, by simp [entD, D.nb, nbL, q3]⟩
  · simp only [entD, D.sim, simL, hs, q1, Bool.and_true, decide_eq_true_eq]
    omega
  · simp only [entD, D.dep, depL]
    omega
def hasP (F : List Et) : Bool := F.any fun e => decide (isP e)
noncomputable def tR : Nat → List (List (List Nat)) → List Et → Nat ⊕ List Et
  | _, [], F => .inr F
  | k, ws :: rs, F => if ws = [] then tR (k + 1) rs F else match rW ws with
    | none => .inl k
    | some q => if hasP F then .inl k else tR (k + 1) rs (F ++ [(k, q.1, q.2)])
def wsD (ws : List (List Nat)) : D := .lst (ws.map sD)
def wsOk (ws : List (List Nat)) : Prop := ws.length ≤ 1000 ∧ ∀ w ∈ ws, wordOk w
theorem ws_sim {ws : List (List Nat)} (h : wsOk ws) : simL (ws.map sD) = true ∧ depL (ws.map sD) ≤ 50 := by
  refine ⟨simL_allK.mpr fun d hd => ?_, depL_leK fun d hd => ?_⟩
  · obtain ⟨w, hw, rfl⟩ := List.mem_map.mp hd
    show PyData.strOk (tx w) = true
    exact tx_strOk fun c hc => by
      have := (h.2 w hw).2.2 c hc
      omega
  · obtain ⟨w, hw, rfl⟩ := List.mem_map.mp hd
    simp [D.dep]
/-- pegs only last -/
def Lp (F : List Et) : Prop := ∀ e ∈ F.dropLast, ¬ isP e
theorem hasP_last {F0 : List Et} {e : Et} (h : Lp (F0 ++ [e])) : hasP (F0 ++ [e]) = decide (isP e) := by
  have h' : ∀ x ∈ F0, ¬ isP x := fun x hx => h x (by simpa using hx)
  have : F0.any (fun e => decide (isP e)) = false := by
    rw [List.any_eq_false]
    intro x hx
    simpa using h' x hx
  unfold hasP
  rw [List.any_append, this]
  simp
theorem Lp_add {F : List Et} {e : Et} (h : hasP F = false) : Lp (F ++ [e]) := fun x hx => by
  have hx' : x ∈ F := by simpa using hx
  unfold hasP at h
  rw [List.any_eq_false] at h
  simpa using h x hx'
theorem F_sim {F : List Et} (h : ∀ e ∈ F, EtOk e) : simL (F.map entD) = true ∧ depL (F.map entD) ≤ 3 ∧ nbL (F.map entD) = true := by
  refine ⟨simL_allK.mpr fun d hd => ?_, depL_leK fun d hd => ?_, nbL_all.mpr fun d hd => ?_⟩
  · obtain ⟨e, he, rfl⟩ := List.mem_map.mp hd
    exact (entD_simC (h e he)).1
  · obtain ⟨e, he, rfl⟩ := List.mem_map.mp hd
    exact (entD_simC (h e he)).2.1
  · obtain ⟨e, he, rfl⟩ := List.mem_map.mp hd
    exact (entD_simC (h e he)).2.2
theorem tr_none (k : Nat) (x0 x4 x5 x6 : Option D) (F : List Et) : ztr1b0 [x0, some (.oid 0), some (.int k), some (wsD []), x4, x5, x6] [.lst (F.map entD)] = .nx [x0, some (.oid 0), some (.int k), some (wsD []), x4, x5, x6] [.lst (F.map entD)] := by
  have ne := (ne_sim (ds := []) rfl (by decide) [.lst (F.map entD)]).2
  unfold ztr1b0
  simp [wsD, ne]
theorem c_told {ws : List (List Nat)} (h : wsOk ws) (hn : ws ≠ []) (S : Store) : callSub S_told_row [wsD ws] S = .ok (rwD (rW ws)) S := by
  obtain ⟨s, rest, rfl⟩ := List.exists_cons_of_ne_nil hn
  exact told_any (fun w hw => (h.2 w (List.mem_cons_of_mem _ hw)).2.1) (by have := h.1; rw [List.length_cons] at this; omega) S
/-- a row with words -/
theorem tr_some {ws : List (List Nat)} (h : wsOk ws) (hn : ws ≠ []) {F : List Et} (hF : ∀ e ∈ F, EtOk e) (hp : Lp F) (hl : F.length ≤ 1000) (k : Nat) (x0 x4 x5 x6 : Option D) :
    (∀ q, rW ws = some q → hasP F = false → ∃ y4 y5 y6, ztr1b0 [x0, some (.oid 0), some (.int k), some (wsD ws), x4, x5, x6] [.lst (F.map entD)] = .nx [x0, some (.oid 0), some (.int k), some (wsD ws), y4, y5, y6] [.lst ((F ++ [(k, q.1, q.2)]).map entD)]) ∧
    ((rW ws = none ∨ hasP F = true) → ∃ ρ', ztr1b0 [x0, some (.oid 0), some (.int k), some (wsD ws), x4, x5, x6] [.lst (F.map entD)] = .ex "BadText" [("row", .int k)] ρ' [.lst (F.map entD)]) := by
  have ne : gNe (wsD ws) (.lst []) [.lst (F.map entD)] = .ok (.bl true) [.lst (F.map entD)] := by
    have := (ne_sim (ws_sim h).1 (ws_sim h).2 [.lst (F.map entD)]).2
    have e : (ws.map sD).isEmpty = false := by
      cases ws with
      | nil => exact absurd rfl hn
      | cons a b => rfl
    rw [e] at this
    exact this
  have tr := c_told h hn [.lst (F.map entD)]
  obtain ⟨s1, s2, _⟩ := F_sim hF
  have nf := ne_simO (n := 0) (S := [.lst (F.map entD)]) rfl s1 (by omega)
  have ap := fun d => app_o (S := [.lst (F.map entD)]) (L := 0) (x := d) rfl (by simpa using hl)
  cases hr : rW ws with
  | none =>
    rw [hr] at tr
    refine ⟨(fun q hq => nomatch hq), fun _ => ⟨[x0, some (.oid 0), some (.int k), some (wsD ws), some .non, x5, x6], ?_⟩⟩
    unfold ztr1b0
    simp [ne, tr, rwD, tyS, D.isNon, gRaiX]
  | some q =>
    rw [hr] at tr
    rcases List.eq_nil_or_concat F with rfl | ⟨F0, e, rfl⟩
    · refine ⟨fun q' hq _ => ?_, fun z => ?_⟩
      · cases hq
        refine ⟨some (.tup [.str q.1, .lst (q.2.map dV)]), some (.str q.1), some (.lst (q.2.map dV)), ?_⟩
        unfold ztr1b0
        simp [rwD] at ne tr nf ap ⊢
        simp [ne, tr, nf, ap, tyS, D.isNon, short_le, entD]
      · rcases z with z | z
        · cases z
        · cases z
    · rw [List.concat_eq_append] at *
      have gl : gIx (.oid 0) (.int (-1)) [.lst ((F0 ++ [e]).map entD)] = .ok (entD e) [.lst ((F0 ++ [e]).map entD)] := ix_o rfl (by rw [List.map_append]; exact atI_last _ _)
      have g2 : ∀ S, gIx (entD e) (.int 1) S = .ok (.str e.2.1) S := fun S => by simp [entD, ixN]
      rw [hasP_last hp]
      have nz : (List.map entD (F0 ++ [e])).isEmpty = false := by simp
      rw [nz] at nf
      generalize hL : (F0 ++ [e]).map entD = L at *
      by_cases hpe : isP e
      · refine ⟨fun _ _ z => by simp [hpe] at z, fun _ => ⟨[x0, some (.oid 0), some (.int k), some (wsD ws), some (rwD (some q)), x5, x6], ?_⟩⟩
        have hpe' : e.2.1 = "pegs" := hpe
        unfold ztr1b0
        simp [rwD] at tr ⊢
        simp [ne, tr, nf, gl, g2, hpe', tyS, D.isNon, gRaiX]
      · refine ⟨fun q' hq _ => ?_, fun z => ?_⟩
        · cases hq
          have hpe' : ¬ e.2.1 = "pegs" := hpe
          refine ⟨some (.tup [.str q.1, .lst (q.2.map dV)]), some (.str q.1), some (.lst (q.2.map dV)), ?_⟩
          have eL : (F0 ++ [e] ++ [(k, q.1, q.2)]).map entD = L ++ [entD (k, q.1, q.2)] := by rw [List.map_append, hL]; rfl
          rw [eL]
          unfold ztr1b0
          simp [rwD] at tr ⊢
          simp [ne, tr, nf, ap, gl, g2, hpe', tyS, D.isNon, short_le, entD]
        · rcases z with z | z
          · cases z
          · simp [hpe] at z
/-- the rows one by one -/
theorem tr_loop (x0 : Option D) : ∀ (WS : List (List (List Nat))) (k : Nat) (F : List Et) (y2 y3 y4 y5 y6 : Option D), (∀ ws ∈ WS, wsOk ws) → k + WS.length ≤ 1000 → (∀ e ∈ F, EtOk e) → Lp F → F.length ≤ k →
    (∀ G, tR k WS F = .inr G → ((∀ e ∈ G, EtOk e) ∧ Lp G ∧ G.length ≤ k + WS.length) ∧ ∃ z2 z3 z4 z5 z6, loopF none (mTup 2 (mCons (mName 2) (mCons (mName 3) (fun ds ρ _ => match ds with | [] => some ρ | _ => none)))) ztr1b0 (enumD k (WS.map wsD)) [x0, some (.oid 0), y2, y3, y4, y5, y6] [.lst (F.map entD)] = .nx [x0, some (.oid 0), z2, z3, z4, z5, z6] [.lst (G.map entD)]) ∧
    (∀ r, tR k WS F = .inl r → ∃ ρ' S', loopF none (mTup 2 (mCons (mName 2) (mCons (mName 3) (fun ds ρ _ => match ds with | [] => some ρ | _ => none)))) ztr1b0 (enumD k (WS.map wsD)) [x0, some (.oid 0), y2, y3, y4, y5, y6] [.lst (F.map entD)] = .ex "BadText" [("row", .int r)] ρ' S')
  | [], k, F, y2, y3, y4, y5, y6, _, _, hF, hp, hl => ⟨fun G h => by
      cases h
      exact ⟨⟨hF, hp, by simpa using hl⟩, y2, y3, y4, y5, y6, loopF_nil⟩, fun r h => by cases h⟩
  | ws :: WS, k, F, y2, y3, y4, y5, y6, hW, hk, hF, hp, hl => by
    rw [List.length_cons] at hk ⊢
    have hw := hW ws List.mem_cons_self
    have hW' := fun x hx => hW x (List.mem_cons_of_mem _ hx)
    have e0 : enumD k ((ws :: WS).map wsD) = .tup [.int (k : Nat), wsD ws] :: enumD (k + 1) (WS.map wsD) := rfl
    have ek : k + (WS.length + 1) = k + 1 + WS.length := by omega
    rw [e0, loopF_cons (ρ1 := [x0, some (.oid 0), some (.int (k : Nat)), some (wsD ws), y4, y5, y6]) rfl, ek]
    by_cases hn : ws = []
    · subst hn
      rw [tr_none]
      have e : tR k ([] :: WS) F = tR (k + 1) WS F := by rw [tR, if_pos rfl]
      rw [e]
      exact tr_loop x0 WS (k + 1) F _ _ _ _ _ hW' (by omega) hF hp (by omega)
    · obtain ⟨a, b⟩ := tr_some hw hn hF hp (by omega) k x0 y4 y5 y6
      cases hr : rW ws with
      | none =>
        have e : tR k (ws :: WS) F = .inl k := by rw [tR, if_neg hn, hr]
        obtain ⟨ρ', q⟩ := b (.inl hr)
        rw [e, q]
        exact ⟨fun G h => (by cases h), fun r h => by
          cases h
          exact ⟨ρ', _, rfl⟩⟩
      | some q =>
        cases hh : hasP F with
        | true =>
          have e : tR k (ws :: WS) F = .inl k := by rw [tR, if_neg hn, hr]; simp [hh]
          obtain ⟨ρ', q⟩ := b (.inr hh)
          rw [e, q]
          exact ⟨fun G h => (by cases h), fun r h => by
            cases h
            exact ⟨ρ', _, rfl⟩⟩
        | false =>
          have e : tR k (ws :: WS) F = tR (k + 1) WS (F ++ [(k, q.1, q.2)]) := by rw [tR, if_neg hn, hr]; simp [hh]
          obtain ⟨y4', y5', y6', hb⟩ := a q hr hh
          rw [e, hb]
          obtain ⟨r1, r2, _⟩ := rW_some hr
          refine tr_loop x0 WS (k + 1) (F ++ [(k, q.1, q.2)]) _ _ _ _ _ hW' (by omega) (fun x hx => ?_) (Lp_add hh) (by rw [List.length_append, List.length_singleton]; omega)
          rcases List.mem_append.mp hx with hx | hx
          · exact hF x hx
          · rw [List.mem_singleton.mp hx]
            exact ⟨by show k ≤ 1000; omega, r1, r2⟩
theorem Et_pure (F : List Et) : pureL (F.map entD) = true := pureL_all.mpr fun x hx => by
  obtain ⟨e, _, rfl⟩ := List.mem_map.mp hx
  simp [entD, D.pure, pureL, dVs_pure]
theorem wsDs_pure (WS : List (List (List Nat))) : pureL (WS.map wsD) = true := pureL_all.mpr fun x hx => by
  obtain ⟨w, _, rfl⟩ := List.mem_map.mp hx
  exact sDs_pure w
theorem trs_ok {WS : List (List (List Nat))} (hW : ∀ ws ∈ WS, wsOk ws) (hk : WS.length ≤ 1000) (S : Store) :
    (∀ G, tR 0 WS [] = .inr G → ((∀ e ∈ G, EtOk e) ∧ Lp G ∧ G.length ≤ WS.length) ∧ callSub S_told_rows [.lst (WS.map wsD)] S = .ok (.lst (G.map entD)) S) ∧
    (∀ r, tR 0 WS [] = .inl r → callSub S_told_rows [.lst (WS.map wsD)] S = .ex "BadText" [("row", .int r)] S) := by
  obtain ⟨a, b⟩ := tr_loop (some (.lst (WS.map wsD))) WS 0 [] none none none none none hW (by omega) (fun e he => (by cases he)) (fun e he => (by cases he)) (Nat.le_refl _)
  have pa : pureL [D.lst (WS.map wsD)] = true := by simp [pureL, D.pure, wsDs_pure]
  refine ⟨fun G h => ?_, fun r h => ?_⟩
  · obtain ⟨g, z2, z3, z4, z5, z6, e⟩ := a G h
    rw [Nat.zero_add] at g
    refine ⟨g, callSub_ok (S' := [.frz (.lst (G.map entD))]) pa ?_ (Et_pure G)⟩
    unfold S_told_rows
    rw [ztr_eq]
    simp [ztr, ztr0, ztr1, ztr2, List.replicate]
    erw [e]
    simp [fFrz]
  · obtain ⟨ρ', S', e⟩ := b r h
    refine callSub_exF (S' := S') pa ?_ rfl
    unfold S_told_rows
    rw [ztr_eq]
    simp [ztr, ztr0, ztr1, ztr2, List.replicate]
    erw [e]
    rfl
end K03

/-! A text read by the program. -/
namespace K03
open PySem L2 DL TY NumText
noncomputable def zrw0 : FS := (gSet 1 (fCall (callSub S_rows_of) (fun ds es => pick [(0, 0)] ds es []) 1 0 1 (fCons (fVar 0) (fun _ S => .ok [] S)) (fun _ S => .ok [] S)))
noncomputable def zrw1 : FS := (gSet 2 (fCall (callSub S_told_rows) (fun ds es => pick [(0, 0)] ds es []) 1 0 1 (fCons (fVar 1) (fun _ S => .ok [] S)) (fun _ S => .ok [] S)))
noncomputable def zrw2 : FS := (gSet 3 (fCB gLen (fCons (fComp (fSeq (fVar 2)) (mTup 3 (mCons (mName 4) (mCons (mName 5) (mCons (mName 6) (fun ds ρ _ => match ds with | [] => some ρ | _ => none))))) (toB (fBin gNe (fVar 5) (fC (.str "pegs")))) (fVar 4) ([("at", 4), ("sort", 5), ("values", 6)].map (·.2)) finL) (fun _ S => .ok [] S))))
noncomputable def zrw3b0 : FS := (gIf (toB (fCB (gAllAny false) (fCons (fComp (fSeq (fVar 6)) (mName 8) fYes (fAndV (fBin gIsNot (fCall (callSub S_led_to) (fun ds es => pick [(0, 0)] ds es []) 1 0 1 (fCons (fVar 8) (fun _ S => .ok [] S)) (fun _ S => .ok [] S)) (fC .non)) (fBin gGe (fCall (callSub S_led_to) (fun ds es => pick [(0, 0)] ds es []) 1 0 1 (fCons (fVar 8) (fun _ S => .ok [] S)) (fun _ S => .ok [] S)) (fVar 3))) ([("value", 8)].map (·.2)) finL) (fun _ S => .ok [] S)))) (gRaiX "BadText" ["row"] (fCons (fVar 4) (fun _ S => .ok [] S))) gNil)
noncomputable def zrw3 : FS := (gFor (fSeq (fVar 2)) (mTup 3 (mCons (mName 4) (mCons (mName 5) (mCons (mName 6) (fun ds ρ _ => match ds with | [] => some ρ | _ => none))))) zrw3b0)
noncomputable def zrw4 : FS := (gIf (fOrT (toB (fBin gEq (fVar 2) (fLst (fun _ S => .ok [] S)))) (toB (fBin gNe (fBin gIx (fBin gIx (fVar 2) (fUn gNeg (fC (.int 1)))) (fC (.int 1))) (fC (.str "pegs"))))) (gRaiX "BadText" ["row"] (fCons (fCB gLen (fCons (fVar 1) (fun _ S => .ok [] S))) (fun _ S => .ok [] S))) gNil)
noncomputable def zrw5 : FS := (gSet 7 (fComp (fSeq (fSl (fVar 2) fPartN (fPart (fUn gNeg (fC (.int 1)))))) (mTup 3 (mCons (mName 4) (mCons (mName 5) (mCons (mName 6) (fun ds ρ _ => match ds with | [] => some ρ | _ => none))))) fYes (fTup (fCons (fVar 5) (fCons (fIf (toB (fBin gEq (fVar 5) (fC (.str "tie")))) (fCall (callSub S_led_to) (fun ds es => pick [(0, 0)] ds es []) 1 0 1 (fCons (fBin gIx (fVar 6) (fC (.int 0))) (fun _ S => .ok [] S)) (fun _ S => .ok [] S)) (fCB gTuple (fCons (fVar 6) (fun _ S => .ok [] S)))) (fun _ S => .ok [] S)))) ([("at", 4), ("sort", 5), ("values", 6)].map (·.2)) finL))
noncomputable def zrw6 : FS := (gRet (fMake (makeF S_Web_init (fun ds es => pick [(0, 0), (0, 1), (0, 2)] ds es []) "Web" 3) 2 0 (fCons (fVar 7) (fCons (fBin gIx (fBin gIx (fVar 2) (fUn gNeg (fC (.int 1)))) (fC (.int 2))) (fun _ S => .ok [] S))) (fun _ S => .ok [] S)))
noncomputable def zrw : FS := (gSeq zrw0 (gSeq zrw1 (gSeq zrw2 (gSeq zrw3 (gSeq zrw4 (gSeq zrw5 zrw6))))))
theorem zrw_eq : m_read_web = zrw := rfl
def bd (m : Nat) : Vl → Bool
  | .at_ n => decide (m ≤ n)
  | _ => false
def bads (m : Nat) (e : Et) : Bool := e.2.2.any (bd m)
def ceE (e : Et) : Ce := if e.2.1 = "tie" then .tie (match e.2.2 with
    | [.at_ n] => some n
    | _ => none) else .flds (decide (e.2.1 = "last")) e.2.2
theorem last_ne : ¬ (("cell" : Str) = "last") := by decide +kernel
theorem ceE_ok {e : Et} (h : RowOk e.2.1 e.2.2) (hp : ¬ isP e) : cRow (ceE e) = (e.2.1, e.2.2) := by
  rcases e with ⟨k, z, vs⟩
  have h : RowOk z vs := h
  unfold ceE
  rcases row_iff.mp h with ⟨⟨l, rfl⟩, _⟩ | ⟨rfl, rfl | ⟨n, rfl⟩⟩ | h
  · have : decide (sortOf l = "last") = l := by
      cases l
      · exact decide_eq_false last_ne
      · exact decide_eq_true rfl
    simp [n3, this, cRow]
  · simp [cRow]
  · simp [cRow]
  · exact absurd h hp
def manyE (G : List Et) : Nat := (G.filter fun e => decide (¬ isP e)).length
/-- what the told rows make -/
def rd (R : Nat) (G : List Et) : Nat ⊕ Wb := match G.find? (bads (manyE G)) with
  | some e => .inl e.1
  | none => match G.getLast? with
    | some e => if isP e then .inr ⟨G.dropLast.map ceE, e.2.2⟩ else .inl R
    | none => .inl R
theorem many_last {F : List Et} {e : Et} (hp : Lp (F ++ [e])) (he : isP e) : manyE (F ++ [e]) = F.length := by
  have h' : ∀ x ∈ F, ¬ isP x := fun x hx => hp x (by simpa using hx)
  have a : F.filter (fun e => decide (¬ isP e)) = F := List.filter_eq_self.mpr fun x hx => by simpa using h' x hx
  unfold manyE
  rw [List.filter_append, a]
  simp [he]
theorem any_pG {α : Type} (p : α → Bool) (ds : List α) (S : Store) : gAllAny false [.lst (ds.map fun c => D.bl (p c))] S = .ok (.bl (ds.any p)) S := by
  have : ∀ ds : List α, bsOf (ds.map fun c => D.bl (p c)) = some (ds.map p) := by
    intro ds
    induction ds with
    | nil => rfl
    | cons d ds ih =>
      show ((bsOf (ds.map fun c => D.bl (p c))).map (p d :: ·)) = _
      rw [ih]
      rfl
  simp only [gAllAny, asL, Option.bind_some, this]
  simp [List.any_map]
def bdD (m : Nat) : D → D
  | .tup [_, .int n] => .bl (decide ((m : Int) ≤ n))
  | _ => .bl false
theorem bdD_ok (m : Nat) (v : Vl) : bdD m (dV v) = .bl (bd m v) := by
  cases v with
  | non => rfl
  | num i => rfl
  | at_ n =>
    simp [bdD, dV, bd]
theorem rwb_ok {m : Nat} {e : Et} (hl : e.2.2.length ≤ 1000) (x0 x1 x2 x7 x8 : Option D) (S : Store) :
    zrw3b0 [x0, x1, x2, some (.int m), some (.int e.1), some (.str e.2.1), some (.lst (e.2.2.map dV)), x7, x8] S = if bads m e then .ex "BadText" [("row", .int e.1)] [x0, x1, x2, some (.int m), some (.int e.1), some (.str e.2.1), some (.lst (e.2.2.map dV)), x7, x8] S else .nx [x0, x1, x2, some (.int m), some (.int e.1), some (.str e.2.1), some (.lst (e.2.2.map dV)), x7, x8] S := by
  rcases e with ⟨k, s, vs⟩
  have hl : vs.length ≤ 1000 := hl
  have af : gAllAny false [.lst ((vs.map dV).map (bdD m))] S = .ok (.bl (vs.any (bd m))) S := by
    have e : (vs.map dV).map (bdD m) = vs.map fun v => D.bl (bd m v) := by
      rw [List.map_map]
      exact List.map_congr_left fun v _ => bdD_ok m v
    rw [e]
    exact any_pG _ _ S
  have sh : short ((vs.map dV).map (bdD m)).length = true := short_le (by simp; omega)
  show zrw3b0 [x0, x1, x2, some (.int m), some (.int k), some (.str s), some (.lst (vs.map dV)), x7, x8] S = _
  unfold zrw3b0
  simp [seqD]
  erw [comp_map (f := bdD m)]
  · simp only [Res.bind_ok, finL, sh, if_true]
    show _ = if vs.any (bd m) = true then _ else _
    generalize vs.any (bd m) = b at af ⊢
    rw [List.map_map] at af
    cases b
    · simp [af]
    · simp [af, gRaiX]
  · intro d hd
    obtain ⟨v, hv, rfl⟩ := List.mem_map.mp hd
    refine ⟨_, rfl, ?_⟩
    have cl := c_ld v S
    cases v with
    | non => simp [dV, ld] at cl; simp [cl, bdD, dV]
    | num i => simp [dV, ld] at cl; simp [cl, bdD, dV]
    | at_ n =>
      simp [dV, ld] at cl
      simp [cl, bdD, dV]
theorem rw_loop {m : Nat} (x0 x1 x2 x7 x8 : Option D) (S : Store) : ∀ (G : List Et) (y4 y5 y6 : Option D), (∀ e ∈ G, e.2.2.length ≤ 1000) →
    (∀ e, G.find? (bads m) = some e → ∃ ρ', loopF none (mTup 3 (mCons (mName 4) (mCons (mName 5) (mCons (mName 6) (fun ds ρ _ => match ds with | [] => some ρ | _ => none))))) zrw3b0 (G.map entD) [x0, x1, x2, some (.int m), y4, y5, y6, x7, x8] S = .ex "BadText" [("row", .int e.1)] ρ' S) ∧
    (G.find? (bads m) = none → ∃ z4 z5 z6, loopF none (mTup 3 (mCons (mName 4) (mCons (mName 5) (mCons (mName 6) (fun ds ρ _ => match ds with | [] => some ρ | _ => none))))) zrw3b0 (G.map entD) [x0, x1, x2, some (.int m), y4, y5, y6, x7, x8] S = .nx [x0, x1, x2, some (.int m), z4, z5, z6, x7, x8] S)
  | [], y4, y5, y6, _ => ⟨fun e h => (by cases h), fun _ => ⟨y4, y5, y6, loopF_nil⟩⟩
  | e :: G, y4, y5, y6, hl => by
    have hb := rwb_ok (m := m) (hl e List.mem_cons_self) x0 x1 x2 x7 x8 S
    rw [List.map_cons, loopF_cons (ρ1 := [x0, x1, x2, some (.int m), some (.int e.1), some (.str e.2.1), some (.lst (e.2.2.map dV)), x7, x8]) rfl, hb, List.find?_cons]
    cases hh : bads m e with
    | true =>
      simp only [if_true]
      exact ⟨fun e' h => (by
        cases h
        exact ⟨_, rfl⟩), fun h => (by cases h)⟩
    | false =>
      simp only [Bool.false_eq_true, if_false]
      exact rw_loop x0 x1 x2 x7 x8 S G _ _ _ fun x hx => hl x (List.mem_cons_of_mem _ hx)
end K03

/-! A text read by the program: the whole. -/
namespace K03
open PySem L2 DL TY NumText
theorem rd_ok {R : Nat} {G : List Et} {w : Wb} (h : rd R G = .inr w) (hG : ∀ e ∈ G, EtOk e) (hp : Lp G) (hl : G.length ≤ 500) (hv : ∀ e ∈ G, e.2.2.length ≤ 1000) :
    ∃ F e, G = F ++ [e] ∧ isP e ∧ w = ⟨F.map ceE, e.2.2⟩ ∧ w.ok ∧ G.find? (bads F.length) = none ∧ manyE G = F.length := by
  unfold rd at h
  cases hf : G.find? (bads (manyE G)) with
  | some e => rw [hf] at h; cases h
  | none =>
    rw [hf] at h
    rcases List.eq_nil_or_concat G with rfl | ⟨F, e, rfl⟩
    · cases h
    · rw [List.concat_eq_append] at *
      simp only [List.getLast?_concat, List.dropLast_concat] at h
      by_cases he : isP e
      · rw [if_pos he] at h
        cases h
        have hm := many_last hp he
        rw [hm] at hf
        have good : ∀ x ∈ F ++ [e], ∀ v ∈ x.2.2, okV F.length v := fun x hx v hv' => by
          have h1 := (List.find?_eq_none.mp hf) x hx
          have h2 := (hG x hx).2.2 v hv'
          have h3 : bd F.length v = false := by
            cases q : bd F.length v with
            | false => rfl
            | true => exact absurd (List.any_eq_true.mpr ⟨v, hv', q⟩) h1
          cases v with
          | non => trivial
          | num i => exact h2
          | at_ n =>
            simp [bd] at h3
            exact h3
        refine ⟨F, e, rfl, he, rfl, ⟨?_, ?_, ?_, ?_⟩, hf, hm⟩
        · show (F.map ceE).length ≤ 1000
          rw [List.length_map]
          rw [List.length_append] at hl
          omega
        · exact hv e (by simp)
        · intro c hc
          obtain ⟨x, hx, rfl⟩ := List.mem_map.mp hc
          show okC' (F.map ceE).length (ceE x)
          rw [List.length_map]
          have hx' : x ∈ F ++ [e] := List.mem_append_left _ hx
          have np : ¬ isP x := hp x (by simpa using hx)
          have r := (hG x hx').2.1
          have g := good x hx'
          unfold ceE
          rcases row_iff.mp r with ⟨⟨l, h⟩, h6⟩ | ⟨h, q | ⟨n, q⟩⟩ | h
          · rw [h, if_neg (n3 l)]
            exact ⟨h6, g⟩
          · rw [if_pos h, q]
            trivial
          · rw [if_pos h, q]
            rw [q] at g
            exact g (.at_ n) (by simp)
          · exact absurd h np
        · intro v hv'
          show okV (F.map ceE).length v
          rw [List.length_map]
          exact good e (by simp) v hv'
      · rw [if_neg he] at h
        cases h
theorem ceE_D {e : Et} (h : RowOk e.2.1 e.2.2) (hp : ¬ isP e) : ceD (entD e) = dC (ceE e) := by
  have q := ceE_ok h hp
  have : e = (e.1, (cRow (ceE e)).1, (cRow (ceE e)).2) := by rw [q]
  conv => lhs; rw [this]
  exact ceD_ok _ _
theorem rw2_ok {G : List Et} (hl : G.length ≤ 1000) (x0 x1 x3 x4 x5 x6 x7 x8 : Option D) : zrw2 [x0, x1, some (.lst (G.map entD)), x3, x4, x5, x6, x7, x8] [] = .nx [x0, x1, some (.lst (G.map entD)), some (.int (manyE G)), x4, x5, x6, x7, x8] [] := by
  have fl : (((G.map entD).filter npD).map noD).length = manyE G := by
    unfold manyE
    rw [List.length_map, List.filter_map, List.length_map]
    congr 1
  have many : ∀ (m : FG) (ft : FT) (fe : FE) (ρ : EnvD), (∀ e ∈ G, ∃ ρ1, m (entD e) ρ [] = some ρ1 ∧ ft ρ1 [] = .ok (decide (¬ e.2.1 = "pegs")) [] ∧ fe ρ1 [] = .ok (.int e.1) []) →
      compF none m ft fe (G.map entD) ρ [] = .ok (((G.map entD).filter npD).map noD) [] := fun m ft fe ρ hq => by
    rw [comp_filter (p := npD) (f := noD)]
    intro d hd
    obtain ⟨e, he, rfl⟩ := List.mem_map.mp hd
    obtain ⟨ρ1, a, b, c⟩ := hq e he
    exact ⟨ρ1, a, by rw [b]; simp [npD, entD], fun _ => by rw [c]; simp [noD, entD]⟩
  have hle : manyE G ≤ G.length := List.length_filter_le _ _
  have sh1 : short (((G.map entD).filter npD).map noD).length = true := by rw [fl]; exact short_le (by omega)
  unfold zrw2
  rw [e_gSet, e_fCB]
  simp only [e_fCons, e_fComp, e_fSeq, e_fVar, List.getElem?_cons_succ, List.getElem?_cons_zero, Res.bind_ok, seqD, asL]
  erw [many]
  · simp only [Res.bind_ok, finL, sh1, if_true]
    generalize ((G.map entD).filter npD).map noD = L at fl ⊢
    simp [fl]
  · intro e _
    refine ⟨_, rfl, ?_, ?_⟩
    · simp [entD]
    · simp [entD]
theorem rw4_ok {G : List Et} (hG : ∀ e ∈ G, EtOk e) (W : List D) (hW : W.length ≤ 1000) (x0 x3 x4 x5 x6 x7 x8 : Option D) :
    zrw4 [x0, some (.lst W), some (.lst (G.map entD)), x3, x4, x5, x6, x7, x8] [] = match G.getLast? with
      | some e => if isP e then .nx [x0, some (.lst W), some (.lst (G.map entD)), x3, x4, x5, x6, x7, x8] [] else .ex "BadText" [("row", .int W.length)] [x0, some (.lst W), some (.lst (G.map entD)), x3, x4, x5, x6, x7, x8] []
      | none => .ex "BadText" [("row", .int W.length)] [x0, some (.lst W), some (.lst (G.map entD)), x3, x4, x5, x6, x7, x8] [] := by
  obtain ⟨s1, s2, _⟩ := F_sim hG
  have eq0 := (ne_sim s1 (by omega) []).1
  have sw : short W.length = true := short_le (by omega)
  rcases List.eq_nil_or_concat G with rfl | ⟨F, e, rfl⟩
  · unfold zrw4
    simp [gRaiX, sw] at eq0 ⊢
    simp [eq0]
  · rw [List.concat_eq_append] at *
    have gl : atI ((F ++ [e]).map entD) (-1) = some (entD e) := by
      rw [List.map_append]
      exact atI_last _ _
    have nz : (List.map entD (F ++ [e])).isEmpty = false := by simp
    rw [nz] at eq0
    have g1 : gIx (entD e) (.int 1) [] = .ok (.str e.2.1) [] := by simp [entD, ixN]
    simp only [List.getLast?_concat]
    generalize (F ++ [e]).map entD = L at *
    unfold zrw4
    by_cases he : isP e
    · have he' : e.2.1 = "pegs" := he
      rw [if_pos he]
      simp [eq0, gl, g1, he']
    · have he' : ¬ e.2.1 = "pegs" := he
      rw [if_neg he]
      simp [eq0, gl, g1, he', gRaiX, sw]
theorem rw5_ok {F : List Et} {e : Et} (hG : ∀ x ∈ F, EtOk x ∧ ¬ isP x) (hl : F.length ≤ 500) (x0 x1 x3 x4 x5 x6 x7 x8 : Option D) :
    zrw5 [x0, x1, some (.lst ((F ++ [e]).map entD)), x3, x4, x5, x6, x7, x8] [] = .nx [x0, x1, some (.lst ((F ++ [e]).map entD)), x3, x4, x5, x6, some (.lst ((F.map ceE).map dC)), x8] [] := by
  have sl : gSl (.lst ((F ++ [e]).map entD)) none (some (-1)) [] = .ok (.lst (F.map entD)) [] := by
    rw [List.map_append]
    exact slL_l _ _ _
  have cells : ∀ (m : FG) (fe : FE) (ρ : EnvD), (∀ e ∈ F, ∃ ρ1, m (entD e) ρ [] = some ρ1 ∧ fe ρ1 [] = .ok (ceD (entD e)) []) → compF none m fYes fe (F.map entD) ρ [] = .ok ((F.map ceE).map dC) [] := fun m fe ρ hq => by
    rw [comp_map (f := ceD)]
    · rw [List.map_map, List.map_map]
      refine congrArg (fun x => Res.ok x ([] : Store)) (List.map_congr_left fun x hx => ceE_D (hG x hx).1.2.1 (hG x hx).2)
    · intro d hd
      obtain ⟨e, he, rfl⟩ := List.mem_map.mp hd
      exact hq e he
  generalize (F ++ [e]).map entD = L at *
  have sh : short ((F.map ceE).map dC).length = true := short_le (by simp; omega)
  unfold zrw5
  rw [e_gSet]
  simp only [e_fComp, e_fSeq, fSl, fPartN, fPart, e_fVar, List.getElem?_cons_succ, List.getElem?_cons_zero, Res.bind_ok]
  simp [sl, seqD]
  erw [cells]
  · simp only [Res.bind_ok, finL, sh, if_true]
    simp
  · intro x hx
    refine ⟨_, rfl, ?_⟩
    obtain ⟨⟨_, r, _⟩, np⟩ := hG x hx
    rcases x with ⟨k, z, vs⟩
    have r : RowOk z vs := r
    rcases row_iff.mp r with ⟨⟨l, rfl⟩, h6⟩ | ⟨rfl, rfl | ⟨n, rfl⟩⟩ | h
    · simp [entD, ceD, n3, short_le, show vs.length ≤ 1000000 by omega]
    · have cl := c_ld .non []
      simp [dV, ld] at cl
      simp [entD, ceD, dV, ixN, cl, short_le]
    · have cl := c_ld (.at_ n) []
      simp [dV, ld] at cl
      simp [entD, ceD, dV, ixN, cl, short_le]
    · exact absurd h np
end K03

/-! read_web of any text. -/
namespace K03
open PySem L2 DL TY NumText
def txOk (t : List Nat) : Prop := t.length ≤ 90000 ∧ (cutRows t).length ≤ 500 ∧ (∀ r ∈ cutRows t, r.length ≤ 900) ∧ ∀ c ∈ t, c < 128
theorem cut_sub {t : List Nat} : ∀ r ∈ cutRows t, r ∈ splitL 10 t := fun r hr => by
  obtain ⟨A, x, e⟩ := snoc_of (splitL_ne 10 t)
  by_cases hx : x = []
  · subst hx
    rw [cut_end e] at hr
    rw [e]
    exact List.mem_append_left _ hr
  · rw [cut_more e hx] at hr
    rw [e]
    exact hr
theorem split_mem (c : Nat) : ∀ (l : List Nat), ∀ p ∈ splitL c l, ∀ x ∈ p, x ∈ l
  | [], p, hp, x, hx => by
    rw [splitL, List.mem_singleton] at hp
    rw [hp] at hx
    cases hx
  | y :: l, p, hp, x, hx => by
    by_cases h : y = c
    · subst h
      rw [splitL_sep] at hp
      rcases List.mem_cons.mp hp with z | z
      · rw [z] at hx
        cases hx
      · exact List.mem_cons_of_mem _ (split_mem y l p z x hx)
    · obtain ⟨q, qs, e1, e2⟩ := splitL_cons c y l h
      have ih := split_mem c l
      rw [e1] at ih
      rw [e2] at hp
      rcases List.mem_cons.mp hp with z | z
      · rw [z] at hx
        rcases List.mem_cons.mp hx with k | k
        · rw [k]
          exact List.mem_cons_self
        · exact List.mem_cons_of_mem _ (ih q List.mem_cons_self x k)
      · exact List.mem_cons_of_mem _ (ih p (List.mem_cons_of_mem _ z) x hx)
theorem rows_ws {t : List Nat} (h : txOk t) : ∀ ws ∈ (cutRows t).map wordsL, wsOk ws := fun ws hw => by
  obtain ⟨r, hr, rfl⟩ := List.mem_map.mp hw
  obtain ⟨_, _, h3, h4⟩ := h
  have lr := h3 r hr
  refine ⟨by have := wordsL_len r; omega, fun w hw => ?_⟩
  unfold wordsL at hw
  obtain ⟨a, b⟩ := List.mem_filter.mp hw
  refine ⟨fun z => ?_, by have := splitL_part (c := 32) r w a; omega, fun c hc => ?_⟩
  · rw [z] at b
    cases b
  · exact h4 c (split_mem 10 t r (cut_sub r hr) c (split_mem 32 r w a c hc))
noncomputable def rdT (t : List Nat) : Nat ⊕ Wb := match tR 0 ((cutRows t).map wordsL) [] with
  | .inl r => .inl r
  | .inr G => rd (cutRows t).length G
theorem tR_vals : ∀ (WS : List (List (List Nat))) (k : Nat) (F G : List Et), (∀ ws ∈ WS, ws.length ≤ 1000) → (∀ e ∈ F, e.2.2.length ≤ 1000) → tR k WS F = .inr G → ∀ e ∈ G, e.2.2.length ≤ 1000
  | [], k, F, G, _, hF, h => by
    cases h
    exact hF
  | ws :: WS, k, F, G, hW, hF, h => by
    have hW' := fun x hx => hW x (List.mem_cons_of_mem _ hx)
    by_cases hn : ws = []
    · subst hn
      rw [tR, if_pos rfl] at h
      exact tR_vals WS (k + 1) F G hW' hF h
    · rw [tR, if_neg hn] at h
      cases hr : rW ws with
      | none => rw [hr] at h; cases h
      | some q =>
        rw [hr] at h
        cases hh : hasP F with
        | true => simp [hh] at h
        | false =>
          simp [hh] at h
          refine tR_vals WS (k + 1) _ G hW' (fun x hx => ?_) h
          rcases List.mem_append.mp hx with z | z
          · exact hF x z
          · rw [List.mem_singleton.mp z]
            have := (rW_some hr).2.2
            have := hW ws List.mem_cons_self
            show q.2.length ≤ 1000
            omega
theorem read_any {t : List Nat} (h : txOk t) : (∀ r, rdT t = .inl r → ∃ S', S_read_web [sD t] [] = .ex "BadText" [("row", .int r)] S') ∧ (∀ w, rdT t = .inr w → w.ok ∧ w.cells.length ≤ 500 ∧ S_read_web [sD t] [] = .ok (dW w) []) := by
  obtain ⟨S1, r1⟩ := rows_of_ok h.1
  have eW : (cutRows t).map rowD = ((cutRows t).map wordsL).map wsD := by
    rw [List.map_map]
    rfl
  rw [eW] at r1
  have hws := rows_ws h
  have lW : ((cutRows t).map wordsL).length = (cutRows t).length := List.length_map _
  have c1 : callSub S_rows_of [sD t] [] = .ok (.lst (((cutRows t).map wordsL).map wsD)) [] := callSub_ok (by rfl) r1 (wsDs_pure _)
  obtain ⟨a, b⟩ := trs_ok hws (by have := h.2.1; omega) []
  have start : S_read_web [sD t] [] = (zrw [some (sD t), none, none, none, none, none, none, none, none] []).res := by
    unfold S_read_web
    rw [zrw_eq]
    rfl
  rw [start]
  have v0 : zrw0 [some (sD t), none, none, none, none, none, none, none, none] [] = .nx [some (sD t), some (.lst (((cutRows t).map wordsL).map wsD)), none, none, none, none, none, none, none] [] := by
    unfold zrw0
    simp [c1, -List.map_map]
  unfold rdT
  cases ht : tR 0 ((cutRows t).map wordsL) [] with
  | inl r =>
    have c2 := b r ht
    refine ⟨fun r' h' => ?_, fun w h' => by cases h'⟩
    cases h'
    unfold zrw
    rw [e_gSeq, v0, Out.seq_nx, e_gSeq]
    generalize (((cutRows t).map wordsL).map wsD) = W at *
    refine ⟨[], ?_⟩
    unfold zrw1
    simp [c2]
  | inr G =>
    obtain ⟨⟨hG, hp, hl⟩, c2⟩ := a G ht
    have hv := tR_vals _ 0 [] G (fun ws hw => (hws ws hw).1) (fun e he => by cases he) ht
    have lG : G.length ≤ 500 := by have := h.2.1; omega
    have lw : (((cutRows t).map wordsL).map wsD).length = (cutRows t).length := by simp
    have lW1 : (((cutRows t).map wordsL).map wsD).length ≤ 1000 := by have := h.2.1; omega
    show (∀ r, rd (cutRows t).length G = .inl r → _) ∧ (∀ w, rd (cutRows t).length G = .inr w → _)
    rw [← lw]
    unfold zrw
    rw [e_gSeq, v0, Out.seq_nx, e_gSeq]
    generalize (((cutRows t).map wordsL).map wsD) = W at *
    have v1 : zrw1 [some (sD t), some (.lst W), none, none, none, none, none, none, none] [] = .nx [some (sD t), some (.lst W), some (.lst (G.map entD)), none, none, none, none, none, none] [] := by
      unfold zrw1
      simp [c2]
    rw [v1, Out.seq_nx, e_gSeq, rw2_ok (by omega), Out.seq_nx, e_gSeq]
    obtain ⟨la, lb⟩ := rw_loop (m := manyE G) (some (sD t)) (some (.lst W)) (some (.lst (G.map entD))) none none [] G none none none hv
    have v3 : ∀ o, loopF none (mTup 3 (mCons (mName 4) (mCons (mName 5) (mCons (mName 6) (fun ds ρ _ => match ds with | [] => some ρ | _ => none))))) zrw3b0 (G.map entD) [some (sD t), some (.lst W), some (.lst (G.map entD)), some (.int (manyE G)), none, none, none, none, none] [] = o → zrw3 [some (sD t), some (.lst W), some (.lst (G.map entD)), some (.int (manyE G)), none, none, none, none, none] [] = o := fun o q => by
      unfold zrw3
      rw [← q]
      generalize G.map entD = L at *
      simp [seqD]
      all_goals rfl
    cases hf : G.find? (bads (manyE G)) with
    | some e =>
      obtain ⟨ρ', q⟩ := la e hf
      rw [v3 _ q]
      have er : rd W.length G = .inl e.1 := by
        unfold rd
        rw [hf]
      rw [er]
      refine ⟨fun r hr => ?_, fun w hr => by cases hr⟩
      cases hr
      exact ⟨[], rfl⟩
    | none =>
      obtain ⟨z4, z5, z6, q⟩ := lb hf
      rw [v3 _ q, Out.seq_nx, e_gSeq, rw4_ok hG W lW1]
      rcases List.eq_nil_or_concat G with rfl | ⟨F, e, rfl⟩
      · have er : rd W.length [] = .inl W.length := rfl
        rw [er]
        refine ⟨fun r hr => ?_, fun w hr => by cases hr⟩
        cases hr
        exact ⟨[], rfl⟩
      · rw [List.concat_eq_append] at *
        simp only [List.getLast?_concat]
        by_cases he : isP e
        · have er : rd W.length (F ++ [e]) = .inr ⟨F.map ceE, e.2.2⟩ := by
            unfold rd
            rw [hf]
            simp [he]
          rw [er, if_pos he]
          refine ⟨fun r hr => (by cases hr), fun w hr => ?_⟩
          obtain ⟨F', e', eq, _, ew, ok, _, _⟩ := rd_ok er hG hp lG hv
          cases hr
          have lF : F.length ≤ 500 := by
            rw [List.length_append] at lG
            omega
          refine ⟨ok, by show (F.map ceE).length ≤ 500; rw [List.length_map]; exact lF, ?_⟩
          have h4 : ∀ S, makeF S_Web_init (fun ds es => List.filterMap (fun s => (src s.1 ds es [])[s.2]?) [(0, 0), (0, 1), (0, 2)]) "Web" 3 [.lst ((F.map ceE).map dC), .lst (e.2.2.map dV)] [] S = .ok (dW ⟨F.map ceE, e.2.2⟩) S := make_ok ok _ (fun _ => rfl)
          rw [Out.seq_nx, e_gSeq, rw5_ok (fun x hx => ⟨hG x (List.mem_append_left _ hx), hp x (by simpa using hx)⟩) lF, Out.seq_nx]
          have gl : atI ((F ++ [e]).map entD) (-1) = some (entD e) := by
            rw [List.map_append]
            exact atI_last _ _
          have g2 : gIx (entD e) (.int 2) [] = .ok (.lst (e.2.2.map dV)) [] := by
            simp only [entD]
            rfl
          generalize (F ++ [e]).map entD = L at *
          generalize (F.map ceE).map dC = C at *
          unfold zrw6
          simp [gl, g2, h4]
        · have er : rd W.length (F ++ [e]) = .inl W.length := by
            unfold rd
            rw [hf]
            simp [he]
          rw [er, if_neg he]
          refine ⟨fun r hr => ?_, fun w hr => by cases hr⟩
          cases hr
          exact ⟨[], rfl⟩
end K03

/-! A text read by the law: its rows. -/
namespace K03
open PySem L2 DL TY NumText
noncomputable def zld0 : FS := (gSet 1 (fBM "str" gSplit (fVar 0) (fCons (fC (.str "\n")) (fun _ S => .ok [] S))))
noncomputable def zld1 : FS := (gIf (toB (fBin gEq (fBin gIx (fVar 1) (fUn gNeg (fC (.int 1)))) (fC (.str "")))) (gSet 1 (fSl (fVar 1) fPartN (fPart (fUn gNeg (fC (.int 1)))))) gNil)
noncomputable def zld2 : FS := (gSet 2 (fLstO (fun _ S => .ok [] S)))
noncomputable def zld3b0 : FS := (gSet 5 (fComp (fSeq (fBM "str" gSplit (fVar 4) (fCons (fC (.str " ")) (fun _ S => .ok [] S)))) (mName 11) (toB (fBin gNe (fVar 11) (fC (.str "")))) (fVar 11) ([("_law_word", 11)].map (·.2)) finL))
noncomputable def zld3b1 : FS := (gIf (toB (fBin gNe (fVar 5) (fLst (fun _ S => .ok [] S)))) (gSeq (gSet 6 (fCall (callSub S_p_law_row) (fun ds es => pick [(0, 0)] ds es []) 1 0 1 (fCons (fVar 5) (fun _ S => .ok [] S)) (fun _ S => .ok [] S))) (gSeq (gIf (fOrT (toB (fBin gIs (fVar 6) (fC .non))) (toB (fBin gNe (fComp (fSeq (fVar 2)) (mTup 2 (mCons (mName 12) (mCons (mName 13) (fun ds ρ _ => match ds with | [] => some ρ | _ => none)))) (toB (fBin gEq (fBin gIx (fVar 13) (fC (.int 0))) (fC (.str "pegs")))) (fC (.int 1)) ([("_law_number_here", 12), ("_law_there", 13)].map (·.2)) finL) (fLst (fun _ S => .ok [] S))))) (gRet (fVar 3)) gNil) (gExpr (fBM "list" gApp (fVar 2) (fCons (fTup (fCons (fVar 3) (fCons (fVar 6) (fun _ S => .ok [] S)))) (fun _ S => .ok [] S)))))) gNil)
noncomputable def zld3b : FS := (gSeq zld3b0 zld3b1)
noncomputable def zld3 : FS := (gFor (fEnum (fCons (fVar 1) (fun _ S => .ok [] S))) (mTup 2 (mCons (mName 3) (mCons (mName 4) (fun ds ρ _ => match ds with | [] => some ρ | _ => none)))) zld3b)
noncomputable def zld4 : FS := (gSet 7 (fComp (fSeq (fVar 2)) (mTup 2 (mCons (mName 3) (mCons (mName 6) (fun ds ρ _ => match ds with | [] => some ρ | _ => none)))) (toB (fBin gNe (fBin gIx (fVar 6) (fC (.int 0))) (fC (.str "pegs")))) (fVar 6) ([("_law_at", 3), ("_law_one", 6)].map (·.2)) finL))
noncomputable def zld5b0 : FS := (gIf (toB (fBin gNe (fComp (fSeq (fVar 9)) (mName 14) (fAndT (toB (fCB gIsi (fCons (fVar 14) (fCons (fC (.ty "tuple")) (fun _ S => .ok [] S))))) (toB (fBin gGe (fBin gIx (fVar 14) (fC (.int 1))) (fCB gLen (fCons (fVar 7) (fun _ S => .ok [] S)))))) (fVar 14) ([("_law_value_here", 14)].map (·.2)) finL) (fLst (fun _ S => .ok [] S)))) (gRet (fVar 3)) gNil)
noncomputable def zld5 : FS := (gFor (fSeq (fVar 2)) (mTup 2 (mCons (mName 3) (mCons (mTup 2 (mCons (mName 8) (mCons (mName 9) (fun ds ρ _ => match ds with | [] => some ρ | _ => none)))) (fun ds ρ _ => match ds with | [] => some ρ | _ => none)))) zld5b0)
noncomputable def zld6 : FS := (gIf (fOrT (toB (fBin gEq (fVar 2) (fLst (fun _ S => .ok [] S)))) (toB (fBin gNe (fBin gIx (fBin gIx (fBin gIx (fVar 2) (fUn gNeg (fC (.int 1)))) (fC (.int 1))) (fC (.int 0))) (fC (.str "pegs"))))) (gRet (fCB gLen (fCons (fVar 1) (fun _ S => .ok [] S)))) gNil)
noncomputable def zld7 : FS := (gSet 10 (fLstO (fun _ S => .ok [] S)))
noncomputable def zld8b0 : FS := (gIf (toB (fBin gEq (fVar 8) (fC (.str "tie")))) (gExpr (fBM "list" gApp (fVar 10) (fCons (fTup (fCons (fVar 8) (fCons (fIf (toB (fBin gIs (fBin gIx (fVar 9) (fC (.int 0))) (fC .non))) (fC .non) (fBin gIx (fBin gIx (fVar 9) (fC (.int 0))) (fC (.int 1)))) (fun _ S => .ok [] S)))) (fun _ S => .ok [] S)))) (gExpr (fBM "list" gApp (fVar 10) (fCons (fTup (fCons (fVar 8) (fCons (fCB gTuple (fCons (fVar 9) (fun _ S => .ok [] S))) (fun _ S => .ok [] S)))) (fun _ S => .ok [] S)))))
noncomputable def zld8 : FS := (gFor (fSeq (fVar 7)) (mTup 2 (mCons (mName 8) (mCons (mName 9) (fun ds ρ _ => match ds with | [] => some ρ | _ => none)))) zld8b0)
noncomputable def zld9 : FS := (gRet (fTup (fCons (fFrz (fVar 10)) (fCons (fBin gIx (fBin gIx (fBin gIx (fVar 2) (fUn gNeg (fC (.int 1)))) (fC (.int 1))) (fC (.int 1))) (fun _ S => .ok [] S)))))
noncomputable def zld : FS := (gSeq zld0 (gSeq zld1 (gSeq zld2 (gSeq zld3 (gSeq zld4 (gSeq zld5 (gSeq zld6 (gSeq zld7 (gSeq zld8 zld9)))))))))
theorem zld_eq : m_p_law_read = zld := rfl
theorem compC_filter {e : D} {es : List D} {m : FG} {ft : FT} {fe : FE} {f : D → D} {p : D → Bool} {ρ : EnvD} {S : Store} (hS : asL S e = some es) : ∀ (ds : List D), (∀ d ∈ ds, ∃ ρ1, m d ρ S = some ρ1 ∧ ft ρ1 S = .ok (p d) S ∧ (p d = true → fe ρ1 S = .ok (f d) S)) → compF (some (e, es)) m ft fe ds ρ S = .ok ((ds.filter p).map f) S
  | [], _ => compC_nil hS
  | d :: ds, h => by
    obtain ⟨ρ1, h1, h2, h3⟩ := h d List.mem_cons_self
    have q := compC_filter (m := m) (ft := ft) (fe := fe) (f := f) (p := p) (ρ := ρ) (S := S) hS ds fun e he => h e (List.mem_cons_of_mem _ he)
    rw [compF]
    rw [if_pos (show okC (some (e, es)) S from hS), h1]
    cases hp : p d with
    | true => simp [h2, hp, h3 hp, q, List.filter_cons, Res.noEx]
    | false => simp [h2, hp, q, List.filter_cons, Res.noEx]
def entL (e : Et) : D := .tup [.int e.1, .tup [.str e.2.1, .lst (e.2.2.map dV)]]
theorem entL_simC {e : Et} (h : EtOk e) : (entL e).sim = true ∧ (entL e).dep ≤ 4 := by
  obtain ⟨h1, h2, h3⟩ := h
  have hs := sort_ok h2
  have q1 : simL (e.2.2.map dV) = true := simL_allK.mpr fun d hd => by
    obtain ⟨v, hv, rfl⟩ := List.mem_map.mp hd
    exact (dV_simC (h3 v hv)).1
  have q2 : depL (e.2.2.map dV) ≤ 1 := depL_leK fun d hd => by
    obtain ⟨v, hv, rfl⟩ := List.mem_map.mp hd
    exact (dV_simC (h3 v hv)).2.1
  refine ⟨?_, ?_⟩
  · simp only [entL, D.sim, simL, hs, q1, Bool.and_true, decide_eq_true_eq]
    omega
  · simp only [entL, D.dep, depL]
    omega
theorem L_sim {F : List Et} (h : ∀ e ∈ F, EtOk e) : simL (F.map entL) = true ∧ depL (F.map entL) ≤ 4 := by
  refine ⟨simL_allK.mpr fun d hd => ?_, depL_leK fun d hd => ?_⟩
  · obtain ⟨e, he, rfl⟩ := List.mem_map.mp hd
    exact (entL_simC (h e he)).1
  · obtain ⟨e, he, rfl⟩ := List.mem_map.mp hd
    exact (entL_simC (h e he)).2
theorem ld0_ok {t : List Nat} (hl : t.length ≤ 90000) (x1 x2 x3 x4 x5 x6 x7 x8 x9 x10 x11 x12 x13 x14 : Option D) (S : Store) :
    (gSeq zld0 zld1) [some (sD t), x1, x2, x3, x4, x5, x6, x7, x8, x9, x10, x11, x12, x13, x14] S = .nx [some (sD t), some (.lst ((cutRows t).map sD)), x2, x3, x4, x5, x6, x7, x8, x9, x10, x11, x12, x13, x14] S := by
  have sp := split_s S (c := 10) (l := t) (by omega)
  obtain ⟨A, x, e⟩ := snoc_of (splitL_ne 10 t)
  rw [e] at sp
  have gl : atI ((A ++ [x]).map sD) (-1) = some (sD x) := by
    rw [List.map_append]
    exact atI_last _ _
  have sl : gSl (.lst ((A ++ [x]).map sD)) none (some (-1)) S = .ok (.lst (A.map sD)) S := by
    rw [List.map_append]
    exact slL_l _ _ _
  by_cases hx : x = []
  · subst hx
    rw [cut_end e]
    generalize (A ++ [[]]).map sD = L at *
    unfold zld0 zld1
    simp [t_nl, sp, gl, t_e, fSl, fPart, fPartN, sl]
  · rw [cut_more e hx]
    have ne : ¬ tx x = tx [] := fun z => hx (tx_inj.mp z)
    generalize (A ++ [x]).map sD = L at *
    unfold zld0 zld1
    simp [t_nl, sp, gl, t_e, ne]
theorem lb0_ok {r : List Nat} (hl : r.length ≤ 100000) (x0 x1 x2 x3 x5 x6 x7 x8 x9 x10 x11 x12 x13 x14 : Option D) (S : Store) :
    zld3b0 [x0, x1, x2, x3, some (sD r), x5, x6, x7, x8, x9, x10, x11, x12, x13, x14] S = .nx [x0, x1, x2, x3, some (sD r), some (wsD (wordsL r)), x6, x7, x8, x9, x10, x11, x12, x13, x14] S := by
  have sp := split_s S (c := 32) (l := r) (by omega)
  unfold zld3b0
  simp [t_sp, sp, seqD, asL]
  erw [words_comp (by omega)]
  · have : short ((wordsL r).map sD).length = true := short_le (by have := wordsL_len r; simp; omega)
    simp only [Res.bind_ok, finL, this, if_true]
    simp [wsD]
  · intro p
    refine ⟨_, rfl, ?_, ?_⟩
    · have : decide (tx p = tx []) = p.isEmpty := by
        cases p with
        | nil => simp
        | cons a b =>
          have : ¬ tx (a :: b) = tx [] := fun z => by have := tx_inj.mp z; simp at this
          simp [this]
      simp [t_e, this]
      done
    · simp
/-- a row of pegs among the told ones -/
def pgD : D → Bool
  | .tup [_, .tup [.str s, _]] => decide (s = "pegs")
  | _ => false
def oneD : D → D := fun _ => .int 1
theorem c_lrow' {ws : List (List Nat)} (h : wsOk ws) (hn : ws ≠ []) (S : Store) : callSub S_p_law_row [wsD ws] S = .ok (rwD (rW ws)) S := by
  obtain ⟨s, rest, rfl⟩ := List.exists_cons_of_ne_nil hn
  exact c_lrow (fun w hw => h.2 w (List.mem_cons_of_mem _ hw)) (by have := h.1; rw [List.length_cons] at this; omega) S
theorem peg_comp {F : List Et} (hl : F.length ≤ 1000) (m : FG) (ft : FT) (fe : FE) (ρ : EnvD) (S : Store) (hS : asL S (.oid 0) = some (F.map entL)) (hq : ∀ e ∈ F, ∃ ρ1, m (entL e) ρ S = some ρ1 ∧ ft ρ1 S = .ok (decide (e.2.1 = "pegs")) S ∧ fe ρ1 S = .ok (.int 1) S) :
    compF (some (.oid 0, F.map entL)) m ft fe (F.map entL) ρ S = .ok (((F.map entL).filter pgD).map oneD) S := by
  refine compC_filter hS _ fun d hd => ?_
  obtain ⟨e, he, rfl⟩ := List.mem_map.mp hd
  obtain ⟨ρ1, a, b, c⟩ := hq e he
  exact ⟨ρ1, a, by rw [b]; simp [pgD, entL], fun _ => c⟩
theorem ones_sim (L : List D) : simL (L.map oneD) = true ∧ depL (L.map oneD) ≤ 50 := by
  refine ⟨simL_allK.mpr fun d hd => ?_, depL_leK fun d hd => ?_⟩
  · obtain ⟨e, he, rfl⟩ := List.mem_map.mp hd
    simp [oneD, D.sim]
  · obtain ⟨e, he, rfl⟩ := List.mem_map.mp hd
    simp [oneD, D.dep]
theorem ones_has (F : List Et) : (((F.map entL).filter pgD).map oneD).isEmpty = !hasP F := by
  have : ∀ F : List Et, (((F.map entL).filter pgD).map oneD).isEmpty = ((F.map entL).filter pgD).isEmpty := fun F => by
    cases (F.map entL).filter pgD <;> rfl
  rw [this]
  induction F with
  | nil => rfl
  | cons e F ih =>
    rw [List.map_cons, List.filter_cons]
    unfold hasP at ih ⊢
    rw [List.any_cons]
    have h : pgD (entL e) = decide (isP e) := rfl
    rw [h]
    cases hh : decide (isP e) with
    | true => simp
    | false => simpa using ih
theorem lb1_none (x0 x1 x3 x4 x6 x7 x8 x9 x10 x11 x12 x13 x14 : Option D) (S : Store) :
    zld3b1 [x0, x1, some (.oid 0), x3, x4, some (wsD []), x6, x7, x8, x9, x10, x11, x12, x13, x14] S = .nx [x0, x1, some (.oid 0), x3, x4, some (wsD []), x6, x7, x8, x9, x10, x11, x12, x13, x14] S := by
  have ne := (ne_sim (ds := []) rfl (by decide) S).2
  unfold zld3b1
  simp [wsD, ne]
theorem lb1_some {ws : List (List Nat)} (h : wsOk ws) (hn : ws ≠ []) {F : List Et} (hl : F.length ≤ 1000) (k : Nat) (x0 x1 x4 x6 x7 x8 x9 x10 x11 x12 x13 x14 : Option D) :
    (∀ q, rW ws = some q → hasP F = false → zld3b1 [x0, x1, some (.oid 0), some (.int k), x4, some (wsD ws), x6, x7, x8, x9, x10, x11, x12, x13, x14] [.lst (F.map entL)] = .nx [x0, x1, some (.oid 0), some (.int k), x4, some (wsD ws), some (rwD (some q)), x7, x8, x9, x10, x11, x12, x13, x14] [.lst ((F ++ [(k, q.1, q.2)]).map entL)]) ∧
    ((rW ws = none ∨ hasP F = true) → zld3b1 [x0, x1, some (.oid 0), some (.int k), x4, some (wsD ws), x6, x7, x8, x9, x10, x11, x12, x13, x14] [.lst (F.map entL)] = .rt (.int k) [.lst (F.map entL)]) := by
  have ne : gNe (wsD ws) (.lst []) [.lst (F.map entL)] = .ok (.bl true) [.lst (F.map entL)] := by
    have := (ne_sim (ws_sim h).1 (ws_sim h).2 [.lst (F.map entL)]).2
    have e : (ws.map sD).isEmpty = false := by
      cases ws with
      | nil => exact absurd rfl hn
      | cons a b => rfl
    rw [e] at this
    exact this
  have tr := c_lrow' h hn [.lst (F.map entL)]
  have ap := fun d => app_o (S := [.lst (F.map entL)]) (L := 0) (x := d) rfl (by simpa using hl)
  obtain ⟨o1, o2⟩ := ones_sim ((F.map entL).filter pgD)
  have no := (ne_sim o1 o2 [.lst (F.map entL)]).2
  rw [ones_has, Bool.not_not] at no
  have so : short (((F.map entL).filter pgD).map oneD).length = true := short_le (by
    have := List.length_filter_le pgD (F.map entL)
    rw [List.length_map] at this ⊢
    omega)
  cases hr : rW ws with
  | none =>
    rw [hr] at tr
    refine ⟨fun q hq => (by cases hq), fun _ => ?_⟩
    unfold zld3b1
    simp [ne, tr, rwD, tyS, D.isNon]
  | some q =>
    rw [hr] at tr
    have pc : ∀ (m : FG) (ft : FT) (fe : FE) (ρ : EnvD), _ → compF (some (.oid 0, F.map entL)) m ft fe (F.map entL) ρ [.lst (F.map entL)] = .ok (((F.map entL).filter pgD).map oneD) [.lst (F.map entL)] := fun m ft fe ρ hq => peg_comp hl m ft fe ρ [.lst (F.map entL)] rfl hq
    generalize hO : ((F.map entL).filter pgD).map oneD = O at *
    have hrD : (rwD (some q)).isNon = false := rfl
    have eL : (F ++ [(k, q.1, q.2)]).map entL = F.map entL ++ [.tup [.int k, rwD (some q)]] := by rw [List.map_append]; rfl
    generalize hQ : rwD (some q) = Q at *
    refine ⟨fun q' hq hh => ?_, fun z => ?_⟩
    · cases hq
      rw [hh] at no
      rw [eL]
      unfold zld3b1
      simp [ne, tr, tyS, hrD, seqD, asL]
      erw [pc]
      · simp only [Res.bind_ok, finL, so, if_true]
        simp [no, ap, tyS, hQ]
      · intro e he
        exact ⟨_, rfl, by simp [ixN], by simp⟩
    · have hh : hasP F = true := by
        rcases z with z | z
        · cases z
        · exact z
      rw [hh] at no
      unfold zld3b1
      simp [ne, tr, tyS, hrD, seqD, asL]
      erw [pc]
      · simp only [Res.bind_ok, finL, so, if_true]
        simp [no]
      · intro e he
        exact ⟨_, rfl, by simp [ixN], by simp⟩
theorem lr_loop (x0 x1 : Option D) : ∀ (RS : List (List Nat)) (k : Nat) (F : List Et) (y3 y4 y5 y6 y7 y8 y9 y10 y11 y12 y13 y14 : Option D), (∀ r ∈ RS, r.length ≤ 100000 ∧ wsOk (wordsL r)) → k + RS.length ≤ 1000 → F.length ≤ k →
    (∀ G, tR k (RS.map wordsL) F = .inr G → ∃ z3 z4 z5 z6, loopF none (mTup 2 (mCons (mName 3) (mCons (mName 4) (fun ds ρ _ => match ds with | [] => some ρ | _ => none)))) zld3b (enumD k (RS.map sD)) [x0, x1, some (.oid 0), y3, y4, y5, y6, y7, y8, y9, y10, y11, y12, y13, y14] [.lst (F.map entL)] = .nx [x0, x1, some (.oid 0), z3, z4, z5, z6, y7, y8, y9, y10, y11, y12, y13, y14] [.lst (G.map entL)]) ∧
    (∀ r, tR k (RS.map wordsL) F = .inl r → ∃ S', loopF none (mTup 2 (mCons (mName 3) (mCons (mName 4) (fun ds ρ _ => match ds with | [] => some ρ | _ => none)))) zld3b (enumD k (RS.map sD)) [x0, x1, some (.oid 0), y3, y4, y5, y6, y7, y8, y9, y10, y11, y12, y13, y14] [.lst (F.map entL)] = .rt (.int r) S')
  | [], k, F, y3, y4, y5, y6, y7, y8, y9, y10, y11, y12, y13, y14, _, _, hl => ⟨fun G h => by
      cases h
      exact ⟨y3, y4, y5, y6, loopF_nil⟩, fun r h => by cases h⟩
  | r :: RS, k, F, y3, y4, y5, y6, y7, y8, y9, y10, y11, y12, y13, y14, hW, hk, hl => by
    rw [List.length_cons] at hk
    obtain ⟨hr1, hw⟩ := hW r List.mem_cons_self
    have hW' := fun x hx => hW x (List.mem_cons_of_mem _ hx)
    have e0 : enumD k ((r :: RS).map sD) = .tup [.int (k : Nat), sD r] :: enumD (k + 1) (RS.map sD) := rfl
    have hb : ∀ S, zld3b [x0, x1, some (.oid 0), some (.int (k : Nat)), some (sD r), y5, y6, y7, y8, y9, y10, y11, y12, y13, y14] S = zld3b1 [x0, x1, some (.oid 0), some (.int (k : Nat)), some (sD r), some (wsD (wordsL r)), y6, y7, y8, y9, y10, y11, y12, y13, y14] S := fun S => by
      unfold zld3b
      rw [e_gSeq, lb0_ok hr1, Out.seq_nx]
    rw [e0, loopF_cons (ρ1 := [x0, x1, some (.oid 0), some (.int (k : Nat)), some (sD r), y5, y6, y7, y8, y9, y10, y11, y12, y13, y14]) rfl, hb, List.map_cons]
    generalize wordsL r = ws at *
    by_cases hn : ws = []
    · subst hn
      rw [lb1_none]
      have e : tR k ([] :: RS.map wordsL) F = tR (k + 1) (RS.map wordsL) F := by rw [tR, if_pos rfl]
      rw [e]
      exact lr_loop x0 x1 RS (k + 1) F _ _ _ _ _ _ _ _ _ _ _ _ hW' (by omega) (by omega)
    · obtain ⟨a, b⟩ := lb1_some hw hn (F := F) (by omega) k x0 x1 (some (sD r)) y6 y7 y8 y9 y10 y11 y12 y13 y14
      cases hr : rW ws with
      | none =>
        have e : tR k (ws :: RS.map wordsL) F = .inl k := by rw [tR, if_neg hn, hr]
        rw [e, b (.inl hr)]
        exact ⟨fun G h => (by cases h), fun r h => by
          cases h
          exact ⟨_, rfl⟩⟩
      | some q =>
        cases hh : hasP F with
        | true =>
          have e : tR k (ws :: RS.map wordsL) F = .inl k := by rw [tR, if_neg hn, hr]; simp [hh]
          rw [e, b (.inr hh)]
          exact ⟨fun G h => (by cases h), fun r h => by
            cases h
            exact ⟨_, rfl⟩⟩
        | false =>
          have e : tR k (ws :: RS.map wordsL) F = tR (k + 1) (RS.map wordsL) (F ++ [(k, q.1, q.2)]) := by rw [tR, if_neg hn, hr]; simp [hh]
          rw [e, a q hr hh]
          exact lr_loop x0 x1 RS (k + 1) (F ++ [(k, q.1, q.2)]) _ _ _ _ _ _ _ _ _ _ _ _ hW' (by omega) (by rw [List.length_append, List.length_singleton]; omega)
end K03

/-! A text read by the law: the whole. -/
namespace K03
open PySem L2 DL TY NumText
theorem eq_simO {ds : List D} {n : Nat} {S : Store} (hS : S[n]? = some (.lst ds)) (h : simL ds = true) (hd : depL ds ≤ 50) : gEq (.oid n) (.lst []) S = .ok (.bl ds.isEmpty) S := by
  have e1 : pyOf S (.oid n) = some (.list (pyL ds)) := by simp [pyOf, asL, hS, (simL_sh ds h).py]
  have e2 : pyOf S (.lst []) = some (.list []) := by simp [pyOf, toPy, toPyL]
  have e3 : SeqAt.shaped (.list []) = true := shaped_ints []
  have e5 := shaped_sim h hd
  have e4 : PyData.eqv (.list (pyL ds)) (.list []) = ds.isEmpty := by
    cases ds <;> simp [pyL, PyData.eqv, PyData.eqvAll]
  show (if pScal (.oid n) (.lst []) S then _ else gEqD false (.oid n) (.lst []) S) = _
  rw [if_neg (by simp [pScal, scalD])]
  simp [gEqD, e1, e2, e3, e5, e4]
def nonPg (d : D) : Bool := match d with
  | .tup [_, .tup [.str s, _]] => decide (¬ s = "pegs")
  | _ => false
def sndD : D → D
  | .tup [_, x] => x
  | _ => .non
def cel (e : Et) : D := .tup [.str e.2.1, .lst (e.2.2.map dV)]
def nonE (G : List Et) : List Et := G.filter fun e => decide (¬ isP e)
theorem cel_map (G : List Et) : ((G.map entL).filter nonPg).map sndD = (nonE G).map cel := by
  unfold nonE
  rw [List.filter_map, List.map_map]
  rfl
theorem ld4_ok {G : List Et} (hl : G.length ≤ 1000) (x0 x1 x3 x4 x5 x6 x7 x8 x9 x10 x11 x12 x13 x14 : Option D) :
    zld4 [x0, x1, some (.oid 0), x3, x4, x5, x6, x7, x8, x9, x10, x11, x12, x13, x14] [.lst (G.map entL)] = .nx [x0, x1, some (.oid 0), x3, x4, x5, x6, some (.lst ((nonE G).map cel)), x8, x9, x10, x11, x12, x13, x14] [.lst (G.map entL)] := by
  have pc : ∀ (m : FG) (ft : FT) (fe : FE) (ρ : EnvD), (∀ e ∈ G, ∃ ρ1, m (entL e) ρ [.lst (G.map entL)] = some ρ1 ∧ ft ρ1 [.lst (G.map entL)] = .ok (decide (¬ e.2.1 = "pegs")) [.lst (G.map entL)] ∧ fe ρ1 [.lst (G.map entL)] = .ok (cel e) [.lst (G.map entL)]) → compF (some (.oid 0, G.map entL)) m ft fe (G.map entL) ρ [.lst (G.map entL)] = .ok ((nonE G).map cel) [.lst (G.map entL)] := fun m ft fe ρ hq => by
    rw [← cel_map]
    refine compC_filter rfl _ fun d hd => ?_
    obtain ⟨e, he, rfl⟩ := List.mem_map.mp hd
    obtain ⟨ρ1, a, b, c⟩ := hq e he
    exact ⟨ρ1, a, by rw [b]; simp [nonPg, entL], fun _ => by rw [c]; rfl⟩
  have so : short ((nonE G).map cel).length = true := short_le (by
    have := List.length_filter_le (fun e => decide (¬ isP e)) G
    unfold nonE
    rw [List.length_map]
    omega)
  unfold zld4
  rw [e_gSet]
  simp only [e_fComp, e_fSeq, e_fVar, List.getElem?_cons_succ, List.getElem?_cons_zero, Res.bind_ok]
  simp [seqD, asL]
  erw [pc]
  · simp only [Res.bind_ok, finL, so, if_true]
    simp
  · intro e he
    refine ⟨_, rfl, ?_, ?_⟩
    · simp [ixN]
    · simp [cel]
/-- values that lead beyond -/
def ovD (m : Nat) : D → Bool
  | .tup [_, .int n] => decide ((m : Int) ≤ n)
  | _ => false
theorem ov_bad (m : Nat) (vs : List Vl) : ((vs.map dV).filter (ovD m)).isEmpty = !vs.any (bd m) := by
  induction vs with
  | nil => rfl
  | cons v vs ih =>
    rw [List.map_cons, List.filter_cons, List.any_cons]
    have h : ovD m (dV v) = bd m v := by
      cases v with
      | non => rfl
      | num i => rfl
      | at_ n => simp [ovD, dV, bd]
    rw [h]
    cases hh : bd m v with
    | true => simp
    | false => simpa using ih
theorem lb5_ok {m : Nat} {e : Et} {C : List D} (hC : C.length = m) (hm : m ≤ 1000) (he : EtOk e) (hl : e.2.2.length ≤ 1000) (x0 x1 x2 x4 x5 x6 x10 x11 x12 x13 x14 : Option D) (S : Store) :
    zld5b0 [x0, x1, x2, some (.int e.1), x4, x5, x6, some (.lst C), some (.str e.2.1), some (.lst (e.2.2.map dV)), x10, x11, x12, x13, x14] S = if bads m e then .rt (.int e.1) S else .nx [x0, x1, x2, some (.int e.1), x4, x5, x6, some (.lst C), some (.str e.2.1), some (.lst (e.2.2.map dV)), x10, x11, x12, x13, x14] S := by
  rcases e with ⟨k, s, vs⟩
  have hl : vs.length ≤ 1000 := hl
  have hv : ∀ v ∈ vs, inC v := he.2.2
  have sC : short C.length = true := short_le (by omega)
  have pc : ∀ (mm : FG) (ft : FT) (fe : FE) (ρ : EnvD), (∀ v ∈ vs, ∃ ρ1, mm (dV v) ρ S = some ρ1 ∧ ft ρ1 S = .ok (ovD m (dV v)) S ∧ fe ρ1 S = .ok (dV v) S) → compF none mm ft fe (vs.map dV) ρ S = .ok ((vs.map dV).filter (ovD m)) S := fun mm ft fe ρ hq => by
    rw [comp_filter (p := ovD m) (f := id)]
    · rw [List.map_id]
    · intro d hd
      obtain ⟨v, hv, rfl⟩ := List.mem_map.mp hd
      obtain ⟨ρ1, a, b, c⟩ := hq v hv
      exact ⟨ρ1, a, b, fun _ => c⟩
  have mem : ∀ d ∈ (vs.map dV).filter (ovD m), ∃ v ∈ vs, d = dV v := fun d hd => by
    obtain ⟨v, hv, rfl⟩ := List.mem_map.mp (List.mem_filter.mp hd).1
    exact ⟨v, hv, rfl⟩
  have s1 : simL ((vs.map dV).filter (ovD m)) = true := simL_allK.mpr fun d hd => by
    obtain ⟨v, q, rfl⟩ := mem d hd
    exact (dV_simC (hv v q)).1
  have s2 : depL ((vs.map dV).filter (ovD m)) ≤ 50 := depL_leK fun d hd => by
    obtain ⟨v, q, rfl⟩ := mem d hd
    have := (dV_simC (hv v q)).2.1
    omega
  have no := (ne_sim s1 s2 S).2
  rw [ov_bad, Bool.not_not] at no
  have so : short ((vs.map dV).filter (ovD m)).length = true := short_le (by
    have := List.length_filter_le (ovD m) (vs.map dV)
    rw [List.length_map] at this
    omega)
  show zld5b0 [x0, x1, x2, some (.int k), x4, x5, x6, some (.lst C), some (.str s), some (.lst (vs.map dV)), x10, x11, x12, x13, x14] S = if vs.any (bd m) = true then _ else _
  generalize hO : (vs.map dV).filter (ovD m) = O at *
  generalize vs.any (bd m) = b at *
  unfold zld5b0
  simp [seqD]
  erw [pc]
  · simp only [Res.bind_ok, finL, so, if_true]
    cases b <;> simp [no]
  · intro v hv'
    refine ⟨_, rfl, ?_, ?_⟩
    · cases v with
      | non => simp [dV, isiT, ovD]
      | num i => simp [dV, isiT, ovD]
      | at_ n => simp [dV, isiT, ovD, ixN, sC, hC]
    · simp
theorem l5_loop {m : Nat} {C : List D} (hC : C.length = m) (hm : m ≤ 1000) {es : List D} {S : Store} (hS : asL S (.oid 0) = some es) (x0 x1 x2 x4 x5 x6 x10 x11 x12 x13 x14 : Option D) : ∀ (G : List Et) (y3 y8 y9 : Option D), (∀ e ∈ G, EtOk e ∧ e.2.2.length ≤ 1000) →
    (∀ e, G.find? (bads m) = some e → loopF (some (.oid 0, es)) (mTup 2 (mCons (mName 3) (mCons (mTup 2 (mCons (mName 8) (mCons (mName 9) (fun ds ρ _ => match ds with | [] => some ρ | _ => none)))) (fun ds ρ _ => match ds with | [] => some ρ | _ => none)))) zld5b0 (G.map entL) [x0, x1, x2, y3, x4, x5, x6, some (.lst C), y8, y9, x10, x11, x12, x13, x14] S = .rt (.int e.1) S) ∧
    (G.find? (bads m) = none → ∃ z3 z8 z9, loopF (some (.oid 0, es)) (mTup 2 (mCons (mName 3) (mCons (mTup 2 (mCons (mName 8) (mCons (mName 9) (fun ds ρ _ => match ds with | [] => some ρ | _ => none)))) (fun ds ρ _ => match ds with | [] => some ρ | _ => none)))) zld5b0 (G.map entL) [x0, x1, x2, y3, x4, x5, x6, some (.lst C), y8, y9, x10, x11, x12, x13, x14] S = .nx [x0, x1, x2, z3, x4, x5, x6, some (.lst C), z8, z9, x10, x11, x12, x13, x14] S)
  | [], y3, y8, y9, _ => ⟨fun e h => (by cases h), fun _ => ⟨y3, y8, y9, loopC_nil hS⟩⟩
  | e :: G, y3, y8, y9, hl => by
    obtain ⟨h1, h2⟩ := hl e List.mem_cons_self
    have hb := lb5_ok hC hm h1 h2 x0 x1 x2 x4 x5 x6 x10 x11 x12 x13 x14 S
    rw [List.map_cons, loopC_cons (ρ1 := [x0, x1, x2, some (.int e.1), x4, x5, x6, some (.lst C), some (.str e.2.1), some (.lst (e.2.2.map dV)), x10, x11, x12, x13, x14]) hS rfl, hb, List.find?_cons]
    cases hh : bads m e with
    | true =>
      simp only [if_true]
      exact ⟨fun e' h => (by
        cases h
        rfl), fun h => (by cases h)⟩
    | false =>
      simp only [Bool.false_eq_true, if_false]
      exact l5_loop hC hm hS x0 x1 x2 x4 x5 x6 x10 x11 x12 x13 x14 G _ _ _ fun x hx => hl x (List.mem_cons_of_mem _ hx)
theorem ld6_ok {G : List Et} (hG : ∀ e ∈ G, EtOk e) (W : List D) (hW : W.length ≤ 1000) (x0 x3 x4 x5 x6 x7 x8 x9 x10 x11 x12 x13 x14 : Option D) :
    zld6 [x0, some (.lst W), some (.oid 0), x3, x4, x5, x6, x7, x8, x9, x10, x11, x12, x13, x14] [.lst (G.map entL)] = match G.getLast? with
      | some e => if isP e then .nx [x0, some (.lst W), some (.oid 0), x3, x4, x5, x6, x7, x8, x9, x10, x11, x12, x13, x14] [.lst (G.map entL)] else .rt (.int W.length) [.lst (G.map entL)]
      | none => .rt (.int W.length) [.lst (G.map entL)] := by
  obtain ⟨s1, s2⟩ := L_sim hG
  have eq0 := eq_simO (n := 0) (S := [.lst (G.map entL)]) rfl s1 (by omega)
  have sw : short W.length = true := short_le (by omega)
  rcases List.eq_nil_or_concat G with rfl | ⟨F, e, rfl⟩
  · unfold zld6
    simp [sw] at eq0 ⊢
    simp [eq0]
  · rw [List.concat_eq_append] at *
    have gl : gIx (.oid 0) (.int (-1)) [.lst ((F ++ [e]).map entL)] = .ok (entL e) [.lst ((F ++ [e]).map entL)] := ix_o rfl (by rw [List.map_append]; exact atI_last _ _)
    have nz : (List.map entL (F ++ [e])).isEmpty = false := by simp
    rw [nz] at eq0
    have g1 : ∀ S, gIx (entL e) (.int 1) S = .ok (cel e) S := fun S => by simp [entL, ixN, cel]
    have g2 : ∀ S, gIx (cel e) (.int 0) S = .ok (.str e.2.1) S := fun S => by simp [ixN, cel]
    simp only [List.getLast?_concat]
    generalize (F ++ [e]).map entL = L at *
    unfold zld6
    by_cases he : isP e
    · have he' : e.2.1 = "pegs" := he
      rw [if_pos he]
      simp [eq0, gl, g1, g2, he']
    · have he' : ¬ e.2.1 = "pegs" := he
      rw [if_neg he]
      simp [eq0, gl, g1, g2, he', sw]
end K03

/-! _law_read of any text. -/
namespace K03
open PySem L2 DL TY NumText
theorem lb8_ok {e : Et} (r : RowOk e.2.1 e.2.2) (np : ¬ isP e) {T X : List D} (hX : X.length ≤ 1000) (hl : e.2.2.length ≤ 1000) (x0 x1 x3 x4 x5 x6 x7 x11 x12 x13 x14 : Option D) :
    zld8b0 [x0, x1, some (.oid 0), x3, x4, x5, x6, x7, some (.str e.2.1), some (.lst (e.2.2.map dV)), some (.oid 1), x11, x12, x13, x14] [.lst T, .lst X] = .nx [x0, x1, some (.oid 0), x3, x4, x5, x6, x7, some (.str e.2.1), some (.lst (e.2.2.map dV)), some (.oid 1), x11, x12, x13, x14] [.lst T, .lst (X ++ [dC (ceE e)])] := by
  have ap := fun d => app_o (S := [.lst T, .lst X]) (L := 1) (x := d) rfl hX
  rw [← ceE_D r np]
  rcases e with ⟨k, z, vs⟩
  have r : RowOk z vs := r
  have hl : vs.length ≤ 1000 := hl
  show zld8b0 [x0, x1, some (.oid 0), x3, x4, x5, x6, x7, some (.str z), some (.lst (vs.map dV)), some (.oid 1), x11, x12, x13, x14] [.lst T, .lst X] = .nx [x0, x1, some (.oid 0), x3, x4, x5, x6, x7, some (.str z), some (.lst (vs.map dV)), some (.oid 1), x11, x12, x13, x14] [.lst T, .lst (X ++ [ceD (entD (k, z, vs))])]
  unfold zld8b0
  rcases row_iff.mp r with ⟨⟨l, rfl⟩, h6⟩ | ⟨rfl, rfl | ⟨n, rfl⟩⟩ | h
  · have sh : short vs.length = true := short_le (by omega)
    simp [entD, ceD, n3, sh, ap, tyS]
  · simp [entD, ceD, dV, ixN, ap, tyS, D.isNon, short_le]
  · simp [entD, ceD, dV, ixN, ap, tyS, D.isNon, short_le]
  · exact absurd h np
theorem l8_loop {T : List D} (x0 x1 x3 x4 x5 x6 x7 x11 x12 x13 x14 : Option D) : ∀ (F : List Et) (X : List D) (y8 y9 : Option D), (∀ e ∈ F, RowOk e.2.1 e.2.2 ∧ ¬ isP e ∧ e.2.2.length ≤ 1000) → X.length + F.length ≤ 1000 →
    ∃ z8 z9, loopF none (mTup 2 (mCons (mName 8) (mCons (mName 9) (fun ds ρ _ => match ds with | [] => some ρ | _ => none)))) zld8b0 (F.map cel) [x0, x1, some (.oid 0), x3, x4, x5, x6, x7, y8, y9, some (.oid 1), x11, x12, x13, x14] [.lst T, .lst X] = .nx [x0, x1, some (.oid 0), x3, x4, x5, x6, x7, z8, z9, some (.oid 1), x11, x12, x13, x14] [.lst T, .lst (X ++ (F.map ceE).map dC)]
  | [], X, y8, y9, _, _ => ⟨y8, y9, by rw [List.map_nil, List.map_nil, List.map_nil, List.append_nil]; exact loopF_nil⟩
  | e :: F, X, y8, y9, h, hl => by
    rw [List.length_cons] at hl
    obtain ⟨a, b, c⟩ := h e List.mem_cons_self
    have hb := lb8_ok a b (T := T) (X := X) (by omega) c x0 x1 x3 x4 x5 x6 x7 x11 x12 x13 x14
    rw [List.map_cons, loopF_cons (ρ1 := [x0, x1, some (.oid 0), x3, x4, x5, x6, x7, some (.str e.2.1), some (.lst (e.2.2.map dV)), some (.oid 1), x11, x12, x13, x14]) rfl, hb]
    obtain ⟨z8, z9, q⟩ := l8_loop (T := T) x0 x1 x3 x4 x5 x6 x7 x11 x12 x13 x14 F (X ++ [dC (ceE e)]) (some (.str e.2.1)) (some (.lst (e.2.2.map dV))) (fun x hx => h x (List.mem_cons_of_mem _ hx)) (by rw [List.length_append, List.length_singleton]; omega)
    refine ⟨z8, z9, q.trans ?_⟩
    simp
def resD : Nat ⊕ Wb → D
  | .inl r => .int r
  | .inr w => .tup [.lst (w.cells.map dC), .lst (w.pegs.map dV)]
theorem resD_pure (r : Nat ⊕ Wb) : (resD r).pure = true := by
  cases r with
  | inl r => rfl
  | inr w => simp [resD, D.pure, pureL, dCs_pure, dVs_pure]
theorem lread_ok {t : List Nat} (h : txOk t) : ∃ S', S_p_law_read [sD t] [] = .ok (resD (rdT t)) S' := by
  have hws := rows_ws h
  have start : S_p_law_read [sD t] [] = (zld [some (sD t), none, none, none, none, none, none, none, none, none, none, none, none, none, none] []).res := by
    unfold S_p_law_read
    rw [zld_eq]
    rfl
  rw [start]
  have v01 := ld0_ok h.1 none none none none none none none none none none none none none none []
  have z01 : zld [some (sD t), none, none, none, none, none, none, none, none, none, none, none, none, none, none] [] = (gSeq zld2 (gSeq zld3 (gSeq zld4 (gSeq zld5 (gSeq zld6 (gSeq zld7 (gSeq zld8 zld9))))))) [some (sD t), some (.lst ((cutRows t).map sD)), none, none, none, none, none, none, none, none, none, none, none, none, none] [] := by
    unfold zld
    rw [e_gSeq] at v01
    rw [e_gSeq]
    cases q : zld0 [some (sD t), none, none, none, none, none, none, none, none, none, none, none, none, none, none] [] with
    | nx ρ S =>
      rw [q, Out.seq_nx] at v01
      rw [Out.seq_nx, e_gSeq, v01, Out.seq_nx]
    | _ => rw [q] at v01; cases v01
  rw [z01]
  have v2 : zld2 [some (sD t), some (.lst ((cutRows t).map sD)), none, none, none, none, none, none, none, none, none, none, none, none, none] [] = .nx [some (sD t), some (.lst ((cutRows t).map sD)), some (.oid 0), none, none, none, none, none, none, none, none, none, none, none, none] [.lst []] := by
    unfold zld2
    simp
  obtain ⟨a, b⟩ := lr_loop (some (sD t)) (some (.lst ((cutRows t).map sD))) (cutRows t) 0 [] none none none none none none none none none none none none (fun r hr => ⟨by have := h.2.2.1 r hr; omega, hws _ (List.mem_map.mpr ⟨r, hr, rfl⟩)⟩) (by have := h.2.1; omega) (Nat.le_refl _)
  have v3 : ∀ o, loopF none (mTup 2 (mCons (mName 3) (mCons (mName 4) (fun ds ρ _ => match ds with | [] => some ρ | _ => none)))) zld3b (enumD 0 ((cutRows t).map sD)) [some (sD t), some (.lst ((cutRows t).map sD)), some (.oid 0), none, none, none, none, none, none, none, none, none, none, none, none] [.lst []] = o → zld3 [some (sD t), some (.lst ((cutRows t).map sD)), some (.oid 0), none, none, none, none, none, none, none, none, none, none, none, none] [.lst []] = o := fun o q => by
    unfold zld3
    rw [← q]
    generalize (cutRows t).map sD = L at *
    simp
    all_goals rfl
  rw [e_gSeq, v2, Out.seq_nx, e_gSeq]
  obtain ⟨pa, pb⟩ := trs_ok hws (by rw [List.length_map]; have := h.2.1; omega) []
  unfold rdT
  cases ht : tR 0 ((cutRows t).map wordsL) [] with
  | inl r =>
    obtain ⟨S', q⟩ := b r ht
    rw [v3 _ q]
    exact ⟨S', rfl⟩
  | inr G =>
    obtain ⟨⟨hG, hp, hl⟩, _⟩ := pa G ht
    have hv := tR_vals _ 0 [] G (fun ws hw => (hws ws hw).1) (fun e he => by cases he) ht
    rw [List.length_map] at hl
    have lG : G.length ≤ 500 := by have := h.2.1; omega
    obtain ⟨z3, z4, z5, z6, q⟩ := a G ht
    rw [v3 _ q, Out.seq_nx, e_gSeq, ld4_ok (by omega), Out.seq_nx, e_gSeq]
    have lw : ((cutRows t).map sD).length = (cutRows t).length := List.length_map _
    have lW1 : ((cutRows t).map sD).length ≤ 1000 := by have := h.2.1; omega
    show ∃ S', _ = Res.ok (resD (rd (cutRows t).length G)) S'
    rw [← lw]
    have lC : ((nonE G).map cel).length = manyE G := List.length_map _
    have lm : manyE G ≤ G.length := List.length_filter_le _ _
    have hS5 : asL [.lst (G.map entL)] (.oid 0) = some (G.map entL) := rfl
    obtain ⟨la, lb⟩ := l5_loop lC (by omega) hS5 (some (sD t)) (some (.lst ((cutRows t).map sD))) (some (.oid 0)) z4 z5 z6 none none none none none G z3 none none (fun e he => ⟨hG e he, hv e he⟩)
    have v5 : ∀ o, loopF (some (.oid 0, G.map entL)) (mTup 2 (mCons (mName 3) (mCons (mTup 2 (mCons (mName 8) (mCons (mName 9) (fun ds ρ _ => match ds with | [] => some ρ | _ => none)))) (fun ds ρ _ => match ds with | [] => some ρ | _ => none)))) zld5b0 (G.map entL) [some (sD t), some (.lst ((cutRows t).map sD)), some (.oid 0), z3, z4, z5, z6, some (.lst ((nonE G).map cel)), none, none, none, none, none, none, none] [.lst (G.map entL)] = o → zld5 [some (sD t), some (.lst ((cutRows t).map sD)), some (.oid 0), z3, z4, z5, z6, some (.lst ((nonE G).map cel)), none, none, none, none, none, none, none] [.lst (G.map entL)] = o := fun o q => by
      unfold zld5
      rw [← q]
      generalize G.map entL = L at *
      simp [seqD, asL]
      all_goals rfl
    cases hf : G.find? (bads (manyE G)) with
    | some e =>
      rw [v5 _ (la e hf)]
      have er : rd ((cutRows t).map sD).length G = .inl e.1 := by
        unfold rd
        rw [hf]
      rw [er]
      exact ⟨_, rfl⟩
    | none =>
      obtain ⟨y3, y8, y9, q5⟩ := lb hf
      rw [v5 _ q5, Out.seq_nx, e_gSeq, ld6_ok hG _ lW1]
      rcases List.eq_nil_or_concat G with rfl | ⟨F, e, rfl⟩
      · exact ⟨_, rfl⟩
      · rw [List.concat_eq_append] at *
        simp only [List.getLast?_concat]
        by_cases he : isP e
        · have er : rd ((cutRows t).map sD).length (F ++ [e]) = .inr ⟨F.map ceE, e.2.2⟩ := by
            unfold rd
            rw [hf]
            simp [he]
          have lF : F.length ≤ 500 := by
            rw [List.length_append] at lG
            omega
          have npF : ∀ x ∈ F, ¬ isP x := fun x hx => hp x (by simpa using hx)
          have eN : nonE (F ++ [e]) = F := by
            have a : F.filter (fun e => decide (¬ isP e)) = F := List.filter_eq_self.mpr fun x hx => by simpa using npF x hx
            unfold nonE
            rw [List.filter_append, a]
            simp [he]
          rw [er, if_pos he, Out.seq_nx, e_gSeq, eN]
          have gl : ∀ X, gIx (.oid 0) (.int (-1)) [.lst ((F ++ [e]).map entL), X] = .ok (entL e) [.lst ((F ++ [e]).map entL), X] := fun X => ix_o rfl (by rw [List.map_append]; exact atI_last _ _)
          obtain ⟨w8, w9, q8⟩ := l8_loop (T := (F ++ [e]).map entL) (some (sD t)) (some (.lst ((cutRows t).map sD))) y3 z4 z5 z6 (some (.lst (F.map cel))) none none none none F [] y8 y9 (fun x hx => ⟨(hG x (List.mem_append_left _ hx)).2.1, npF x hx, hv x (List.mem_append_left _ hx)⟩) (by rw [List.length_nil]; omega)
          rw [List.nil_append] at q8
          generalize (F ++ [e]).map entL = L at *
          have v7 : zld7 [some (sD t), some (.lst ((cutRows t).map sD)), some (.oid 0), y3, z4, z5, z6, some (.lst (F.map cel)), y8, y9, none, none, none, none, none] [.lst L] = .nx [some (sD t), some (.lst ((cutRows t).map sD)), some (.oid 0), y3, z4, z5, z6, some (.lst (F.map cel)), y8, y9, some (.oid 1), none, none, none, none] [.lst L, .lst []] := by
            unfold zld7
            simp
          rw [v7, Out.seq_nx, e_gSeq]
          have v8 : ∀ o, loopF none (mTup 2 (mCons (mName 8) (mCons (mName 9) (fun ds ρ _ => match ds with | [] => some ρ | _ => none)))) zld8b0 (F.map cel) [some (sD t), some (.lst ((cutRows t).map sD)), some (.oid 0), y3, z4, z5, z6, some (.lst (F.map cel)), y8, y9, some (.oid 1), none, none, none, none] [.lst L, .lst []] = o → zld8 [some (sD t), some (.lst ((cutRows t).map sD)), some (.oid 0), y3, z4, z5, z6, some (.lst (F.map cel)), y8, y9, some (.oid 1), none, none, none, none] [.lst L, .lst []] = o := fun o q => by
            unfold zld8
            rw [← q]
            generalize F.map cel = K at *
            simp [seqD]
            all_goals rfl
          rw [v8 _ q8, Out.seq_nx]
          have g1 : ∀ S, gIx (entL e) (.int 1) S = .ok (cel e) S := fun S => by simp [entL, ixN, cel]
          have g2 : ∀ S, gIx (cel e) (.int 1) S = .ok (.lst (e.2.2.map dV)) S := fun S => by simp [ixN, cel]
          refine ⟨[.lst L, .frz (.lst ((F.map ceE).map dC))], ?_⟩
          unfold zld9
          simp [fFrz, gl, g1, g2, resD]
        · have er : rd ((cutRows t).map sD).length (F ++ [e]) = .inl ((cutRows t).map sD).length := by
            unfold rd
            rw [hf]
            simp [he]
          rw [er, if_neg he]
          exact ⟨_, rfl⟩
theorem c_lread {t : List Nat} (h : txOk t) (S : Store) : callSub S_p_law_read [sD t] S = .ok (resD (rdT t)) S := by
  obtain ⟨S', q⟩ := lread_ok h
  exact callSub_ok (by rfl) q (resD_pure _)
end K03

/-! Webs written. -/
namespace K03
open PySem L2 DL TY
def rowW (q : Str × List Vl) : List (List Nat) := q.1.cps.toList :: q.2.map valL
def rowL (q : Str × List Vl) : List Nat := TX.jn 32 (rowW q)
def rowsL (w : Wb) : List (List Nat) := (wrows w).map rowL
theorem rowW_D (q : Str × List Vl) : (rowW q).map sD = wordsD q.1 q.2 := by
  simp only [rowW, List.map_cons, List.map_map]
  rw [show sD q.1.cps.toList = D.str q.1 by show D.str (tx _) = _; rw [tx_of]]
  rfl
/-- a word: no blank, no line feed, something -/
def Wd (p : List Nat) : Prop := (∀ c ∈ p, 33 ≤ c) ∧ p ≠ [] ∧ p.length ≤ 12
theorem sort_wd {s : Str} {vs : List Vl} (h : RowOk s vs) : Wd s.cps.toList := by
  have key : ∀ s : Str, (s.cps.toList.all fun c => decide (33 ≤ c)) = true → s.cps.toList.isEmpty = false → s.cps.toList.length ≤ 12 → Wd s.cps.toList := fun s h1 h2 h3 => by
    refine ⟨fun c hc => ?_, (fun z => by rw [z] at h2; cases h2), h3⟩
    have := List.all_eq_true.mp h1 c hc
    simpa using this
  cases h with
  | flds l => cases l <;> exact key _ (by decide +kernel) (by decide +kernel) (by decide +kernel)
  | tie0 => exact key _ (by decide +kernel) (by decide +kernel) (by decide +kernel)
  | tie n => exact key _ (by decide +kernel) (by decide +kernel) (by decide +kernel)
  | pegs => exact key _ (by decide +kernel) (by decide +kernel) (by decide +kernel)
theorem num_wd {i : Int} (h1 : -1000000000 ≤ i) (h2 : i ≤ 1000000000) : Wd (numL i) := by
  refine ⟨fun c hc => ?_, ?_, by have := numL_len' h1 h2; omega⟩
  · rcases cases_int i with ⟨n, rfl⟩ | ⟨n, rfl⟩
    · have := numL_digits n c hc
      omega
    · rw [numL_neg] at hc
      rcases List.mem_cons.mp hc with z | z
      · omega
      · have := numL_digits _ c z
        omega
  · rcases cases_int i with ⟨n, rfl⟩ | ⟨n, rfl⟩
    · exact numL_ne n
    · rw [numL_neg]
      simp
theorem val_wd {v : Vl} (h : inB v) : Wd (valL v) := by
  cases v with
  | non => exact ⟨fun c hc => by simp [valL] at hc; omega, by simp [valL], by simp [valL]⟩
  | num i => exact num_wd h.1 h.2
  | at_ n =>
    have hn : n ≤ 1000000 := h
    obtain ⟨a, b, c⟩ := num_wd (i := (n : Int)) (by omega) (by omega)
    have hl := numL_len' (i := (n : Int)) (by omega) (by omega)
    refine ⟨fun c hc => ?_, by simp [valL], by simp [valL]; omega⟩
    rcases List.mem_cons.mp hc with z | z
    · omega
    · exact a c z
theorem rowW_wd {q : Str × List Vl} (h : RowOk q.1 q.2) (hv : ∀ v ∈ q.2, inB v) : ∀ p ∈ rowW q, Wd p := fun p hp => by
  rcases List.mem_cons.mp hp with z | z
  · rw [z]
    exact sort_wd h
  · obtain ⟨v, h1, rfl⟩ := List.mem_map.mp z
    exact val_wd (hv v h1)
theorem wds_len {ps : List (List Nat)} (h : ∀ p ∈ ps, Wd p) : (ps.map List.length).sum ≤ 12 * ps.length := by
  induction ps with
  | nil => simp
  | cons p ps ih =>
    have h1 := (h p List.mem_cons_self).2.2
    have h2 := ih fun x hx => h x (List.mem_cons_of_mem _ hx)
    simp only [List.map_cons, List.sum_cons, List.length_cons]
    omega
theorem jnB_nl (n : Nat) : ∀ {ps : List (List Nat)}, (∀ p ∈ ps, Wd p) → 10 ∉ jnB n ps
  | [], _ => by simp [jnB]
  | [p], h => fun k => by
    have := (h p List.mem_cons_self).1 10 k
    omega
  | p :: q :: r, h => fun k => by
    have e : jnB n (p :: q :: r) = p ++ List.replicate (n + 1) 32 ++ jnB n (q :: r) := rfl
    rw [e] at k
    rcases List.mem_append.mp k with k | k
    · rcases List.mem_append.mp k with k | k
      · have := (h p List.mem_cons_self).1 10 k
        omega
      · have := (List.mem_replicate.mp k).2
        omega
    · exact jnB_nl n (fun x hx => h x (List.mem_cons_of_mem _ hx)) k
theorem jn_len (c : Nat) (ps : List (List Nat)) : (TX.jn c ps).length ≤ (ps.map List.length).sum + ps.length := by
  have : ∀ ps : List (List Nat), (TX.jn c ps).length ≤ (ps.map List.length).sum + ps.length := by
    intro ps
    induction ps with
    | nil => simp [TX.jn]
    | cons p ps ih =>
      cases ps with
      | nil => simp [TX.jn]
      | cons q r =>
        rw [jn_cons (by simp)]
        simp only [List.length_append, List.length_cons, List.map_cons, List.sum_cons] at ih ⊢
        omega
  exact this ps
/-! ### rows written -/
theorem rowL_len {q : Str × List Vl} (h : RowOk q.1 q.2) (hv : ∀ v ∈ q.2, inB v) (hl : q.2.length ≤ 100) : (rowL q).length ≤ 1400 ∧ ((rowW q).map List.length).sum ≤ 1212 ∧ (rowW q).length ≤ 101 := by
  have a := wds_len (rowW_wd h hv)
  have b : (rowW q).length = q.2.length + 1 := by simp [rowW]
  have c := jn_len 32 (rowW q)
  refine ⟨?_, by omega, by omega⟩
  show (TX.jn 32 (rowW q)).length ≤ 1400
  omega
theorem join_row {q : Str × List Vl} (h : RowOk q.1 q.2) (hv : ∀ v ∈ q.2, inB v) (hl : q.2.length ≤ 100) (S : Store) : gJoin (sD [32]) [.lst (wordsD q.1 q.2)] S = .ok (sD (rowL q)) S := by
  obtain ⟨_, b, c⟩ := rowL_len h hv hl
  exact join_s S (ps := rowW q) (by rw [rowW_D]; rfl) (by omega)
end K03

/-! Rows of spoilt texts. -/
namespace K03
open PySem L2 DL TY NumText
theorem splitL_cat (c : Nat) : ∀ (x y : List Nat) (P : List (List Nat)) (p q : List Nat) (Q : List (List Nat)), splitL c x = P ++ [p] → splitL c y = q :: Q → splitL c (x ++ y) = P ++ (p ++ q) :: Q
  | [], y, P, p, q, Q, h1, h2 => by
    rw [splitL] at h1
    cases P with
    | nil =>
      have : p = [] := by simpa using h1.symm
      rw [this]
      exact h2
    | cons a P =>
      have := congrArg List.length h1
      simp at this
  | a :: x, y, P, p, q, Q, h1, h2 => by
    by_cases h : a = c
    · subst h
      rw [splitL_sep] at h1
      cases P with
      | nil =>
        have := congrArg List.length h1
        have ne := splitL_ne a x
        cases hx : splitL a x with
        | nil => exact absurd hx ne
        | cons u w => rw [hx] at this; simp at this
      | cons b P =>
        simp only [List.cons_append, List.cons.injEq] at h1
        rw [List.cons_append, splitL_sep, splitL_cat a x y P p q Q h1.2 h2, ← h1.1]
        rfl
    · obtain ⟨r, rs, e1, e2⟩ := splitL_cons c a x h
      rw [e2] at h1
      obtain ⟨P', p', e3⟩ := snoc_of (splitL_ne c x)
      have ih := splitL_cat c x y P' p' q Q e3 h2
      obtain ⟨s, ss, e4, e5⟩ := splitL_cons c a (x ++ y) h
      rw [List.cons_append, e5]
      rw [e4] at ih
      rw [e3] at e1
      cases P' with
      | nil =>
        simp only [List.nil_append, List.cons.injEq] at e1 ih
        rw [← e1.2, ← e1.1] at h1
        cases P with
        | nil =>
          have : p = a :: p' := by simpa using h1.symm
          rw [this, ih.1, ih.2]
          rfl
        | cons b P =>
          have := congrArg List.length h1
          simp at this
      | cons b P' =>
        simp only [List.cons_append, List.cons.injEq] at e1 ih
        rw [← e1.1, ← e1.2] at h1
        cases P with
        | nil =>
          have := congrArg List.length h1
          simp at this
        | cons d P =>
          simp only [List.cons_append, List.cons.injEq] at h1
          have h3 := List.append_inj' h1.2 rfl
          rw [← h1.1, ih.1, ih.2, ← h3.1]
          have : p' = p := by simpa using h3.2
          rw [this]
          rfl
def tOk (R M : Nat) (l : List Nat) : Prop := (splitL 10 l).length ≤ R ∧ (∀ p ∈ splitL 10 l, p.length ≤ M) ∧ ∀ c ∈ l, c < 128
theorem parts_cat {x y : List Nat} : (splitL 10 (x ++ y)).length + 1 = (splitL 10 x).length + (splitL 10 y).length ∧ (∀ M N, (∀ p ∈ splitL 10 x, p.length ≤ M) → (∀ p ∈ splitL 10 y, p.length ≤ N) → ∀ p ∈ splitL 10 (x ++ y), p.length ≤ M + N) ∧ (∀ M, (∀ p ∈ splitL 10 (x ++ y), p.length ≤ M) → (∀ p ∈ splitL 10 x, p.length ≤ M) ∧ ∀ p ∈ splitL 10 y, p.length ≤ M) := by
  obtain ⟨P, p, e1⟩ := snoc_of (splitL_ne 10 x)
  obtain ⟨q, Q, e2⟩ := List.exists_cons_of_ne_nil (splitL_ne 10 y)
  have e3 := splitL_cat 10 x y P p q Q e1 e2
  rw [e1, e2, e3]
  refine ⟨by simp; omega, fun M N h1 h2 r hr => ?_, fun M h => ⟨fun r hr => ?_, fun r hr => ?_⟩⟩
  · rcases List.mem_append.mp hr with z | z
    · have := h1 r (List.mem_append_left _ z)
      omega
    · rcases List.mem_cons.mp z with z | z
      · rw [z, List.length_append]
        have := h1 p (by simp)
        have := h2 q (by simp)
        omega
      · have := h2 r (List.mem_cons_of_mem _ z)
        omega
  · rcases List.mem_append.mp hr with z | z
    · exact h r (List.mem_append_left _ z)
    · rw [List.mem_singleton.mp z]
      have := h (p ++ q) (by simp)
      rw [List.length_append] at this
      omega
  · rcases List.mem_cons.mp hr with z | z
    · rw [z]
      have := h (p ++ q) (by simp)
      rw [List.length_append] at this
      omega
    · exact h r (by simp [z])
theorem tOk.take {R M : Nat} {l : List Nat} (h : tOk R M l) (n : Nat) : tOk R M (l.take n) := by
  have q := parts_cat (x := l.take n) (y := l.drop n)
  rw [List.take_append_drop] at q
  have ne := splitL_ne 10 (l.drop n)
  have : 0 < (splitL 10 (l.drop n)).length := List.length_pos_iff.mpr ne
  exact ⟨by have := q.1; have := h.1; omega, (q.2.2 M h.2.1).1, fun c hc => h.2.2 c (List.mem_of_mem_take hc)⟩
/-- a sign put in, or in the place of another, or one left out -/
theorem tOk.put {R M : Nat} {l s : List Nat} (h : tOk R M l) (hs : s.length ≤ 1) (h8 : ∀ c ∈ s, c < 128) (n k : Nat) : tOk (R + 1) (2 * M + 1) (l.take n ++ s ++ l.drop (n + k)) := by
  have q := parts_cat (x := l.take n) (y := l.drop n)
  rw [List.take_append_drop] at q
  have q2 := parts_cat (x := (l.drop n).take k) (y := (l.drop n).drop k)
  rw [List.take_append_drop, List.drop_drop] at q2
  have b1 := q.2.2 M h.2.1
  have b2 := q2.2.2 M b1.2
  have c1 := parts_cat (x := l.take n) (y := s)
  have c2 := parts_cat (x := l.take n ++ s) (y := l.drop (n + k))
  have ls : (splitL 10 s).length ≤ 2 := Nat.le_trans (splitL_len 10 s) (by omega)
  have ps : ∀ p ∈ splitL 10 s, p.length ≤ 1 := fun p hp => Nat.le_trans (splitL_part s p hp) hs
  have n1 : 0 < (splitL 10 ((l.drop n).take k)).length := List.length_pos_iff.mpr (splitL_ne 10 _)
  refine ⟨?_, ?_, fun c hc => ?_⟩
  · have := q.1
    have := q2.1
    have := c1.1
    have := c2.1
    have := h.1
    omega
  · have d1 := c1.2.1 M 1 b1.1 ps
    have d2 := c2.2.1 (M + 1) M d1 b2.2
    intro p hp
    have := d2 p hp
    omega
  · rcases List.mem_append.mp hc with z | z
    · rcases List.mem_append.mp z with z | z
      · exact h.2.2 c (List.mem_of_mem_take z)
      · exact h8 c z
    · exact h.2.2 c (List.mem_of_mem_drop z)
theorem mem_jn {c x : Nat} : ∀ {ps : List (List Nat)}, x ∈ TX.jn c ps → x = c ∨ ∃ p ∈ ps, x ∈ p
  | [], h => by cases h
  | [p], h => .inr ⟨p, by simp, h⟩
  | p :: q :: r, h => by
    rw [jn_cons (by simp)] at h
    rcases List.mem_append.mp h with z | z
    · exact .inr ⟨p, by simp, z⟩
    · rcases List.mem_cons.mp z with z | z
      · exact .inl z
      · rcases mem_jn z with w | ⟨p', h1, h2⟩
        · exact .inl w
        · exact .inr ⟨p', List.mem_cons_of_mem _ h1, h2⟩
/-- rows of a text put together otherwise -/
theorem tOk.rows {R M : Nat} {l : List Nat} (h : tOk R M l) {ps : List (List Nat)} (hp : ∀ p ∈ ps, p ∈ splitL 10 l) (hn : ps.length ≤ R + 1) : tOk (R + 1) (2 * M + 1) (TX.jn 10 ps) := by
  refine ⟨?_, ?_, fun c hc => ?_⟩
  · by_cases e : ps = []
    · rw [e]
      show 1 ≤ R + 1
      omega
    · rw [splitL_jn e fun p hp' => splitL_free l p (hp p hp')]
      exact hn
  · by_cases e : ps = []
    · rw [e]
      intro p hp'
      have : p = [] := by simpa [TX.jn, splitL] using hp'
      rw [this]
      exact Nat.zero_le _
    · rw [splitL_jn e fun p hp' => splitL_free l p (hp p hp')]
      intro p hp'
      have := h.2.1 p (hp p hp')
      omega
  · rcases mem_jn hc with z | ⟨p, h1, h2⟩
    · rw [z]
      decide
    · exact h.2.2 c (split_mem 10 l p (hp p h1) c h2)
theorem tOk.mono {R M R' M' : Nat} {l : List Nat} (h : tOk R M l) (hR : R ≤ R') (hM : M ≤ M') : tOk R' M' l := ⟨Nat.le_trans h.1 hR, fun p hp => Nat.le_trans (h.2.1 p hp) hM, h.2.2⟩
theorem sum_le {ps : List (List Nat)} {M : Nat} (h : ∀ p ∈ ps, p.length ≤ M) : (ps.map List.length).sum ≤ M * ps.length := by
  induction ps with
  | nil => simp
  | cons p ps ih =>
    have h1 := h p List.mem_cons_self
    have h2 := ih fun x hx => h x (List.mem_cons_of_mem _ hx)
    rw [List.map_cons, List.sum_cons, List.length_cons, Nat.mul_succ]
    omega
theorem tOk.len {R M : Nat} {l : List Nat} (h : tOk R M l) : l.length ≤ M * R + R := by
  have e := jn_splitL (c := 10) l
  have a := jn_len 10 (splitL 10 l)
  rw [e] at a
  have b := sum_le h.2.1
  have := h.1
  have := Nat.mul_le_mul_left M h.1
  omega
theorem tOk.tx {R M : Nat} {l : List Nat} (h : tOk R M l) (hR : R ≤ 30) (hM : M ≤ 900) : txOk l := by
  have le := h.len
  have m1 := Nat.mul_le_mul hM hR
  have sub : (cutRows l).length ≤ (splitL 10 l).length := by
    obtain ⟨A, x, e⟩ := snoc_of (splitL_ne 10 l)
    rw [e]
    by_cases hx : x = []
    · subst hx
      rw [cut_end e]
      simp
    · rw [cut_more e hx]
      exact Nat.le_refl _
  exact ⟨by omega, by have := h.1; omega, fun r hr => Nat.le_trans (h.2.1 r (cut_sub r hr)) hM, h.2.2⟩
end K03

/-! Webs shown and compared. -/
namespace K03
open PySem L2 DL TY
theorem dV_sim {m : Nat} {v : Vl} (hm : m ≤ 1000) (h : okV m v) : (dV v).sim = true ∧ (dV v).dep ≤ 1 ∧ (dV v).wt ≤ 80 ∧ (dV v).nb = true := by
  cases v with
  | non => simp [dV, D.sim, D.dep, D.wt, D.nb]
  | num i =>
    obtain ⟨h1, h2⟩ := h
    refine ⟨?_, by simp [dV, D.dep], by simp [dV, D.wt], by simp [dV, D.nb]⟩
    simp [dV, D.sim]
    omega
  | at_ n =>
    have h' : n < m := h
    refine ⟨?_, by simp [dV, D.dep, depL], by simp only [dV, D.wt, wtL]; decide +kernel, by simp [dV, D.nb, nbL]⟩
    have e : PyData.strOk "at" = true := by decide +kernel
    simp [dV, D.sim, simL, e]
    omega
theorem dC_sim {m : Nat} {c : Ce} (hm : m ≤ 1000) (h : okC' m c) : (dC c).sim = true ∧ (dC c).dep ≤ 3 ∧ (dC c).wt ≤ 1000 ∧ (dC c).nb = true := by
  have e1 : PyData.strOk "cell" = true := by decide +kernel
  have e2 : PyData.strOk "last" = true := by decide +kernel
  have e3 : PyData.strOk "tie" = true := by decide +kernel
  have f1 : ("cell" : Str).cps.size = 4 := by decide +kernel
  have f2 : ("last" : Str).cps.size = 4 := by decide +kernel
  have f3 : ("tie" : Str).cps.size = 3 := by decide +kernel
  cases c with
  | flds l vs =>
    obtain ⟨h1, h2⟩ := h
    have q1 : simL (vs.map dV) = true := simL_all.mpr fun d hd => by
      obtain ⟨v, hv, rfl⟩ := List.mem_map.mp hd
      exact (dV_sim hm (h2 v hv)).1
    have q2 : depL (vs.map dV) ≤ 1 := depL_le.mpr fun d hd => by
      obtain ⟨v, hv, rfl⟩ := List.mem_map.mp hd
      exact (dV_sim hm (h2 v hv)).2.1
    have q3 := wtL_le (n := 80) (ds := vs.map dV) fun d hd => by
      obtain ⟨v, hv, rfl⟩ := List.mem_map.mp hd
      exact (dV_sim hm (h2 v hv)).2.2.1
    have q4 : nbL (vs.map dV) = true := nbL_all.mpr fun d hd => by
      obtain ⟨v, hv, rfl⟩ := List.mem_map.mp hd
      exact (dV_sim hm (h2 v hv)).2.2.2
    rw [List.length_map] at q3
    have s1 : PyData.strOk (sortOf l) = true := by cases l <;> assumption
    have s2 : (sortOf l).cps.size = 4 := by cases l <;> assumption
    refine ⟨by simp [dC, D.sim, simL, s1, q1], by simp [dC, D.dep, depL]; omega, ?_, by simp [dC, D.nb, nbL, q4]⟩
    simp only [dC, D.wt, wtL, s2]
    omega
  | tie t =>
    cases t with
    | none => exact ⟨by simp [dC, dT, D.sim, simL, e3], by simp [dC, dT, D.dep, depL], by simp [dC, dT, D.wt, wtL, f3], by simp [dC, dT, D.nb, nbL]⟩
    | some n =>
      have h' : n < m := h
      refine ⟨?_, by simp [dC, dT, D.dep, depL], by simp [dC, dT, D.wt, wtL, f3], by simp [dC, dT, D.nb, nbL]⟩
      simp [dC, dT, D.sim, simL, e3]
      omega
theorem cells_sim {w : Wb} (ok : w.ok) : (D.lst (w.cells.map dC)).sim = true ∧ (D.lst (w.cells.map dC)).dep ≤ 4 ∧ (D.lst (w.cells.map dC)).wt ≤ 1001 * w.cells.length ∧ (D.lst (w.cells.map dC)).nb = true := by
  obtain ⟨l1, l2, h1, h2⟩ := ok
  have q2 : depL (w.cells.map dC) ≤ 3 := depL_le.mpr fun d hd => by
    obtain ⟨v, hv, rfl⟩ := List.mem_map.mp hd
    exact (dC_sim l1 (h1 v hv)).2.1
  have q3 := wtL_le (n := 1000) (ds := w.cells.map dC) fun d hd => by
    obtain ⟨v, hv, rfl⟩ := List.mem_map.mp hd
    exact (dC_sim l1 (h1 v hv)).2.2.1
  rw [List.length_map] at q3
  refine ⟨?_, by simp only [D.dep]; omega, by simpa [D.wt] using q3, ?_⟩
  · simp only [D.sim]
    exact simL_all.mpr fun d hd => by
      obtain ⟨v, hv, rfl⟩ := List.mem_map.mp hd
      exact (dC_sim l1 (h1 v hv)).1
  · simp only [D.nb]
    exact nbL_all.mpr fun d hd => by
      obtain ⟨v, hv, rfl⟩ := List.mem_map.mp hd
      exact (dC_sim l1 (h1 v hv)).2.2.2
theorem pegs_sim {w : Wb} (ok : w.ok) : (D.lst (w.pegs.map dV)).sim = true ∧ (D.lst (w.pegs.map dV)).dep ≤ 4 ∧ (D.lst (w.pegs.map dV)).wt ≤ 81 * w.pegs.length ∧ (D.lst (w.pegs.map dV)).nb = true := by
  obtain ⟨l1, l2, h1, h2⟩ := ok
  have q2 : depL (w.pegs.map dV) ≤ 1 := depL_le.mpr fun d hd => by
    obtain ⟨v, hv, rfl⟩ := List.mem_map.mp hd
    exact (dV_sim l1 (h2 v hv)).2.1
  have q3 := wtL_le (n := 80) (ds := w.pegs.map dV) fun d hd => by
    obtain ⟨v, hv, rfl⟩ := List.mem_map.mp hd
    exact (dV_sim l1 (h2 v hv)).2.2.1
  rw [List.length_map] at q3
  refine ⟨?_, by simp only [D.dep]; omega, by simpa [D.wt] using q3, ?_⟩
  · simp only [D.sim]
    exact simL_all.mpr fun d hd => by
      obtain ⟨v, hv, rfl⟩ := List.mem_map.mp hd
      exact (dV_sim l1 (h2 v hv)).1
  · simp only [D.nb]
    exact nbL_all.mpr fun d hd => by
      obtain ⟨v, hv, rfl⟩ := List.mem_map.mp hd
      exact (dV_sim l1 (h2 v hv)).2.2.2
theorem asI_dW (w : Wb) (S : Store) : asI S (dW w) = some (("Web" : Str), [(("all_cells" : Str), D.lst (w.cells.map dC)), (("all_pegs" : Str), D.lst (w.pegs.map dV))]) := rfl
theorem nl_c (a b : D) : (List.lookup ("cells" : Str) [(("all_cells" : Str), a), ("all_pegs", b)]).isNone = true := by
  have e1 : (("cells" : Str) == "all_cells") = false := by decide +kernel
  have e2 : (("cells" : Str) == "all_pegs") = false := by decide +kernel
  simp [List.lookup, e1, e2]
theorem nl_p (a b : D) : (List.lookup ("pegs" : Str) [(("all_cells" : Str), a), ("all_pegs", b)]).isNone = true := by
  have e1 : (("pegs" : Str) == "all_cells") = false := by decide +kernel
  have e2 : (("pegs" : Str) == "all_pegs") = false := by decide +kernel
  simp [List.lookup, e1, e2]
theorem c_cells (w : Wb) (S : Store) : callSub S_Web_cells [dW w] S = .ok (.lst (w.cells.map dC)) S := callSub_ok (by simp [pureL, dW_pure]) (cells_ok w []) (by simp [D.pure, dCs_pure])
theorem c_pegs (w : Wb) (S : Store) : callSub S_Web_pegs [dW w] S = .ok (.lst (w.pegs.map dV)) S := callSub_ok (by simp [pureL, dW_pure]) (pegs_ok w []) (by simp [D.pure, dVs_pure])
end K03

/-! What is said of a text, by the law's words. -/
namespace K03
open PySem L2 DL TY NumText
noncomputable def zls0 : FS := (gAsg (mTup 2 (mCons (mName 1) (mCons (mName 2) (fun ds ρ _ => match ds with | [] => some ρ | _ => none)))) (fTup (fCons (fC .non) (fCons (fC .non) (fun _ S => .ok [] S)))))
noncomputable def zls1 : FS := (gTry (gSet 1 (fCall (callSub S_read_web) (fun ds es => pick [(0, 0)] ds es []) 1 0 1 (fCons (fVar 0) (fun _ S => .ok [] S)) (fun _ S => .ok [] S))) (⟨tb_YardError, some 3, (gSet 2 (fVar 3))⟩ :: []))
noncomputable def zls2 : FS := (gIf (toB (fBin gIs (fVar 2) (fC .non))) (gRet (fTup (fCons (fMeth (callSub S_Web_cells) (fun ds es => pick [(0, 0)] ds es []) "Web" "cells" 1 0 1 (fVar 1) (fun _ S => .ok [] S) (fun _ S => .ok [] S)) (fCons (fMeth (callSub S_Web_pegs) (fun ds es => pick [(0, 0)] ds es []) "Web" "pegs" 1 0 1 (fVar 1) (fun _ S => .ok [] S) (fun _ S => .ok [] S)) (fun _ S => .ok [] S))))) gNil)
noncomputable def zls3 : FS := (gRet (fIf (toB (fBin gEq (fCall (callSub S_p_law_classes) (fun ds es => pick [(0, 0)] ds es []) 1 0 1 (fCons (fVar 2) (fun _ S => .ok [] S)) (fun _ S => .ok [] S)) (fC (.str "BadText")))) (fFldX ["BadText"] "row" (fVar 2)) (fC (.str "another"))))
noncomputable def zls : FS := (gSeq zls0 (gSeq zls1 (gSeq zls2 zls3)))
theorem zls_eq : m_p_law_said = zls := rfl
theorem c_read {t : List Nat} (h : txOk t) (S : Store) : (∀ r, rdT t = .inl r → callSub S_read_web [sD t] S = .ex "BadText" [("row", .int r)] S) ∧ (∀ w, rdT t = .inr w → w.ok ∧ w.cells.length ≤ 500 ∧ callSub S_read_web [sD t] S = .ok (dW w) S) := by
  obtain ⟨a, b⟩ := read_any h
  refine ⟨fun r hr => ?_, fun w hw => ?_⟩
  · obtain ⟨S', q⟩ := a r hr
    exact callSub_exF (by rfl) q rfl
  · obtain ⟨o, l, q⟩ := b w hw
    exact ⟨o, l, callSub_ok (by rfl) q (dW_pure w)⟩
def clP : D → Bool
  | .tup [_, .bl b] => b
  | _ => false
def clF : D → D
  | .tup [x, _] => x
  | _ => .non
theorem clP_t (a : Str) : clP (.tup [.str a, .bl true]) = true := rfl
theorem clP_f (a : Str) : clP (.tup [.str a, .bl false]) = false := rfl
theorem clF_t (a : Str) (b : Bool) : clF (.tup [.str a, .bl b]) = .str a := rfl
theorem isxL {tb : List (Str × Bool)} {c : Str} {b : Bool} (fs : List (Str × D)) (h : tb.lookup ("BadText" : Str) = some b) (S : Store) : gIsF tb (.cls c) [.exc "BadText" fs, .cls c] S = .ok (.bl b) S := by
  simp [gIsF, isArg, h]
theorem isxLT {tb : List (Str × Bool)} {c : String} {b : Bool} (fs : List (Str × D)) (h : tb.lookup ("BadText" : Str) = some b) (S : Store) : gIsF tb (.ty c) [.exc "BadText" fs, .ty c] S = .ok (.bl b) S := by
  simp [gIsF, isArg, h]
theorem join1 (S : Store) : gJoin (.str " ") [.lst [.str "BadText"]] S = .ok (.str "BadText") S := by
  have h : Txt.join " " ["BadText"] = "BadText" := by decide +kernel
  unfold gJoin
  have e : (asQ S (.lst [.str "BadText"])).bind strsOf = some [("BadText" : Str)] := rfl
  simp only [e]
  rw [if_pos (by decide +kernel), h]
theorem classes_ok (fs : List (Str × D)) (S : Store) : S_p_law_classes [.exc "BadText" fs] S = .ok (.str "BadText") S := by
  have h1 := fun c => isxL (tb := tb_BadWeb) (c := c) (b := false) fs (by decide +kernel) S
  have h2 := fun c => isxL (tb := tb_BadGround) (c := c) (b := false) fs (by decide +kernel) S
  have h3 := fun c => isxL (tb := tb_BadNumber) (c := c) (b := false) fs (by decide +kernel) S
  have h4 := fun c => isxL (tb := tb_NoPeg) (c := c) (b := false) fs (by decide +kernel) S
  have h5 := fun c => isxL (tb := tb_NoCell) (c := c) (b := false) fs (by decide +kernel) S
  have h6 := fun c => isxL (tb := tb_NoField) (c := c) (b := false) fs (by decide +kernel) S
  have h7 := fun c => isxL (tb := tb_NoHand) (c := c) (b := false) fs (by decide +kernel) S
  have h8 := fun c => isxL (tb := tb_NoTurn) (c := c) (b := false) fs (by decide +kernel) S
  have h9 := fun c => isxL (tb := tb_NoRoom) (c := c) (b := false) fs (by decide +kernel) S
  have h10 := fun c => isxL (tb := tb_NoDeed) (c := c) (b := false) fs (by decide +kernel) S
  have h11 := fun c => isxL (tb := tb_TooMany) (c := c) (b := false) fs (by decide +kernel) S
  have h12 := fun c => isxL (tb := tb_BadProgram) (c := c) (b := false) fs (by decide +kernel) S
  have h13 := fun c => isxL (tb := tb_BadWeaving) (c := c) (b := false) fs (by decide +kernel) S
  have h14 := fun c => isxL (tb := tb_BadPicture) (c := c) (b := false) fs (by decide +kernel) S
  have h15 := fun c => isxL (tb := tb_BadText) (c := c) (b := true) fs (by decide +kernel) S
  have h16 := fun c => isxL (tb := tb_BadName) (c := c) (b := false) fs (by decide +kernel) S
  have h17 := fun c => isxL (tb := tb_NoName) (c := c) (b := false) fs (by decide +kernel) S
  have h18 := fun c => isxL (tb := tb_Unlawful) (c := c) (b := false) fs (by decide +kernel) S
  have h19 := fun c => isxLT (tb := tb_ValueError) (c := c) (b := true) fs (by decide +kernel) S
  unfold S_p_law_classes m_p_law_classes
  simp [h1, h2, h3, h4, h5, h6, h7, h8, h9, h10, h11, h12, h13, h14, h15, h16, h17, h18, h19, short_le]
  erw [comp_filter (p := clP) (f := clF)]
  · simp [clP_t, clP_f, clF_t, List.filter_cons, finL, short_le, tyS, join1]
  · intro d hd
    simp only [List.mem_cons, List.not_mem_nil, or_false] at hd
    rcases hd with rfl | rfl | rfl | rfl | rfl | rfl | rfl | rfl | rfl | rfl | rfl | rfl | rfl | rfl | rfl | rfl | rfl | rfl <;> exact ⟨_, rfl, rfl, fun _ => rfl⟩
theorem c_classes {fs : List (Str × D)} (hf : pureF fs = true) (S : Store) : callSub S_p_law_classes [.exc "BadText" fs] S = .ok (.str "BadText") S := callSub_ok (by simp [pureL, D.pure, hf]) (classes_ok fs []) rfl
/-- read_web tells r: the row, or the web -/
theorem said_row {d : D} {r : Int} {S : Store} (h : callSub S_read_web [d] S = .ex "BadText" [("row", .int r)] S) : S_p_law_said [d] S = .ok (.int r) S := by
  have tl : tb_YardError.lookup ("BadText" : Str) = some true := by decide +kernel
  have cc := c_classes (fs := [("row", .int r)]) rfl S
  have k1 : (("row" : Str) == "row") = true := by decide +kernel
  have v1 : zls1 [some d, some .non, some .non, none] S = .nx [some d, some .non, some (.exc "BadText" [("row", .int r)]), none] S := by
    unfold zls1 gTry
    simp [h]
    unfold hdM
    simp [tl, Out.undo]
  unfold S_p_law_said
  rw [zls_eq, e_semOf]
  unfold zls
  have st : startD 4 [d] = [some d, none, none, none] := rfl
  rw [st]
  have v0 : zls0 [some d, none, none, none] S = .nx [some d, some .non, some .non, none] S := by
    unfold zls0
    simp
  rw [e_gSeq, v0, Out.seq_nx, e_gSeq, v1, Out.seq_nx]
  unfold zls2 zls3
  simp [tyS, D.isNon, cc, fFldX, asX, List.lookup, k1]
theorem said_web {d : D} {w : Wb} {S : Store} (h : callSub S_read_web [d] S = .ok (dW w) S) : S_p_law_said [d] S = .ok (.tup [.lst (w.cells.map dC), .lst (w.pegs.map dV)]) S := by
  have cc := c_cells w S
  have cp := c_pegs w S
  have v1 : zls1 [some d, some .non, some .non, none] S = .nx [some d, some (dW w), some .non, none] S := by
    unfold zls1 gTry
    simp [h]
  unfold S_p_law_said
  rw [zls_eq, e_semOf]
  unfold zls
  have st : startD 4 [d] = [some d, none, none, none] := rfl
  rw [st]
  have v0 : zls0 [some d, none, none, none] S = .nx [some d, some .non, some .non, none] S := by
    unfold zls0
    simp
  rw [e_gSeq, v0, Out.seq_nx, e_gSeq, v1, Out.seq_nx]
  unfold zls2
  simp [tyS, D.isNon, fMeth, asI_dW, nl_c, nl_p, cc, cp]
theorem said_ok {t : List Nat} (h : txOk t) (S : Store) : S_p_law_said [sD t] S = .ok (resD (rdT t)) S := by
  obtain ⟨a, b⟩ := c_read h S
  cases q : rdT t with
  | inl r => exact said_row (a r q)
  | inr w => exact said_web (b w q).2.2
theorem rdT_ok {t : List Nat} (h : txOk t) : match rdT t with
    | .inr w => w.ok ∧ w.cells.length ≤ 500
    | .inl _ => True := by
  cases q : rdT t with
  | inl r => trivial
  | inr w =>
    have := (c_read h []).2 w q
    exact ⟨this.1, this.2.1⟩
end K03

/-! Signs, rows and texts drawn. -/
namespace K03
open PySem L2 DL TY NumText
noncomputable def zsi0 : FS := (gSet 1 (fC (.str " @-0123456789acegiklpst\n")))
noncomputable def zsi1 : FS := (gSeq (gSet 2 (fBin gAdd (fVar 1) (fC (.str "!\"#$&'()*+,./:;<=>?ABCDEFGHIJKLMNOPQRSTUVWXYZ[\\]^_`bdfhjmnoqruvwxyz{|}~")))) (gSeq (gIf (toB (fBin gGt (fCall (callSub S_p_law_next) (fun ds es => pick [(0, 0), (0, 1)] ds es []) 2 0 2 (fCons (fVar 0) (fCons (fC (.int 4)) (fun _ S => .ok [] S))) (fun _ S => .ok [] S)) (fC (.int 0)))) (gRet (fBin gIx (fVar 1) (fCall (callSub S_p_law_next) (fun ds es => pick [(0, 0), (0, 1)] ds es []) 2 0 2 (fCons (fVar 0) (fCons (fCB gLen (fCons (fVar 1) (fun _ S => .ok [] S))) (fun _ S => .ok [] S))) (fun _ S => .ok [] S)))) gNil) (gRet (fBin gIx (fVar 2) (fCall (callSub S_p_law_next) (fun ds es => pick [(0, 0), (0, 1)] ds es []) 2 0 2 (fCons (fVar 0) (fCons (fCB gLen (fCons (fVar 2) (fun _ S => .ok [] S))) (fun _ S => .ok [] S))) (fun _ S => .ok [] S))))))
noncomputable def zsi : FS := (gSeq zsi0 zsi1)
theorem zsi_eq : m_p_law_sign = zsi := rfl
noncomputable def zsp0 : FS := (gSet 2 (fCall (callSub S_p_law_next) (fun ds es => pick [(0, 0), (0, 1)] ds es []) 2 0 2 (fCons (fVar 0) (fCons (fC (.int 8)) (fun _ S => .ok [] S))) (fun _ S => .ok [] S)))
noncomputable def zsp1 : FS := (gSet 3 (fCall (callSub S_p_law_sign) (fun ds es => pick [(0, 0)] ds es []) 1 0 1 (fCons (fVar 0) (fun _ S => .ok [] S)) (fun _ S => .ok [] S)))
noncomputable def zsp2 : FS := (gSet 4 (fCall (callSub S_p_law_next) (fun ds es => pick [(0, 0), (0, 1)] ds es []) 2 0 2 (fCons (fVar 0) (fCons (fBin gAdd (fCB gLen (fCons (fVar 1) (fun _ S => .ok [] S))) (fC (.int 1))) (fun _ S => .ok [] S))) (fun _ S => .ok [] S)))
noncomputable def zsp3 : FS := (gSet 5 (fBM "str" gSplitO (fVar 1) (fCons (fC (.str "\n")) (fun _ S => .ok [] S))))
noncomputable def zsp4 : FS := (gPar 6 7 (fCons (fCall (callSub S_p_law_next) (fun ds es => pick [(0, 0), (0, 1)] ds es []) 2 0 2 (fCons (fVar 0) (fCons (fCB gLen (fCons (fVar 5) (fun _ S => .ok [] S))) (fun _ S => .ok [] S))) (fun _ S => .ok [] S)) (fCons (fCall (callSub S_p_law_next) (fun ds es => pick [(0, 0), (0, 1)] ds es []) 2 0 2 (fCons (fVar 0) (fCons (fCB gLen (fCons (fVar 5) (fun _ S => .ok [] S))) (fun _ S => .ok [] S))) (fun _ S => .ok [] S)) (fun _ S => .ok [] S))))
noncomputable def zsp5 : FS := (gIf (toB (fBin gEq (fVar 2) (fC (.int 0)))) (gRet (fSlS (fVar 1) fPartN (fPart (fVar 4)))) gNil)
noncomputable def zsp6 : FS := (gIf (toB (fBin gEq (fVar 2) (fC (.int 1)))) (gSeq (gPut2 (fVar 5) (fVar 6) (fVar 5) (fVar 7) (fTup (fCons (fBin gIx (fVar 5) (fVar 7)) (fCons (fBin gIx (fVar 5) (fVar 6)) (fun _ S => .ok [] S))))) (gRet (fBM "str" gJoin (fC (.str "\n")) (fCons (fVar 5) (fun _ S => .ok [] S))))) gNil)
noncomputable def zsp7 : FS := (gIf (toB (fBin gEq (fVar 2) (fC (.int 2)))) (gRet (fBM "str" gJoin (fC (.str "\n")) (fCons (fBin gAdd (fSl (fVar 5) fPartN (fPart (fVar 6))) (fSl (fVar 5) (fPart (fBin gAdd (fVar 6) (fC (.int 1)))) fPartN)) (fun _ S => .ok [] S)))) gNil)
noncomputable def zsp8 : FS := (gIf (toB (fBin gEq (fVar 2) (fC (.int 3)))) (gRet (fBM "str" gJoin (fC (.str "\n")) (fCons (fBin gAdd (fBin gAdd (fSl (fVar 5) fPartN (fPart (fVar 6))) (fLst (fCons (fBin gIx (fVar 5) (fVar 7)) (fun _ S => .ok [] S)))) (fSl (fVar 5) (fPart (fVar 6)) fPartN)) (fun _ S => .ok [] S)))) gNil)
noncomputable def zsp9 : FS := (gIf (toB (fBin gEq (fVar 2) (fC (.int 4)))) (gRet (fBin gAdd (fSlS (fVar 1) fPartN (fPart (fVar 4))) (fSlS (fVar 1) (fPart (fBin gAdd (fVar 4) (fC (.int 1)))) fPartN))) gNil)
noncomputable def zsp10 : FS := (gRet (fBin gAdd (fBin gAdd (fSlS (fVar 1) fPartN (fPart (fVar 4))) (fVar 3)) (fSlS (fVar 1) (fPart (fBin gAdd (fVar 4) (fBin gMod (fVar 2) (fC (.int 2))))) fPartN)))
noncomputable def zsp : FS := (gSeq zsp0 (gSeq zsp1 (gSeq zsp2 (gSeq zsp3 (gSeq zsp4 (gSeq zsp5 (gSeq zsp6 (gSeq zsp7 (gSeq zsp8 (gSeq zsp9 zsp10))))))))))
theorem zsp_eq : m_p_law_spoilt = zsp := rfl
noncomputable def zpi0 : FS := (gSet 1 (fCall (callSub S_p_law_next) (fun ds es => pick [(0, 0), (0, 1)] ds es []) 2 0 2 (fCons (fVar 0) (fCons (fC (.int 3)) (fun _ S => .ok [] S))) (fun _ S => .ok [] S)))
noncomputable def zpi1 : FS := (gSet 2 (fLst (fCons (fC (.str "cell")) (fCons (fC (.str "cell - 5")) (fCons (fC (.str "last @0 @1")) (fCons (fC (.str "tie @0")) (fCons (fC (.str "tie -")) (fCons (fC (.str "pegs")) (fCons (fC (.str "pegs @0 -7")) (fCons (fC (.str "cell @1 @1 @2")) (fCons (fC (.str "")) (fCons (fC (.str "   ")) (fun _ S => .ok [] S)))))))))))))
noncomputable def zpi2 : FS := (gSet 2 (fBin gAdd (fVar 2) (fLst (fCons (fC (.str "cell 1000000000 -1000000000 0")) (fCons (fC (.str "last - - - - - -")) (fCons (fC (.str "  tie   @1 ")) (fCons (fC (.str "pegs @2 @0 - 3")) (fun _ S => .ok [] S))))))))
noncomputable def zpi3 : FS := (gSet 3 (fLst (fCons (fC (.str "cell @9")) (fCons (fC (.str "tie @12")) (fCons (fC (.str "pegs @8")) (fCons (fC (.str "last 0 @1000000000")) (fCons (fC (.str "cell @3 @4")) (fun _ S => .ok [] S))))))))
noncomputable def zpi4 : FS := (gSet 4 (fLst (fCons (fC (.str "cell - - - - - - -")) (fCons (fC (.str "tie")) (fCons (fC (.str "tie 3")) (fCons (fC (.str "tie @0 @1")) (fCons (fC (.str "cell 01")) (fCons (fC (.str "cell -0")) (fCons (fC (.str "cell 1000000001")) (fCons (fC (.str "cells")) (fCons (fC (.str "Cell")) (fun _ S => .ok [] S))))))))))))
noncomputable def zpi5 : FS := (gSet 4 (fBin gAdd (fVar 4) (fLst (fCons (fC (.str "cell @")) (fCons (fC (.str "cell @-1")) (fCons (fC (.str "cell @01")) (fCons (fC (.str "peg")) (fCons (fC (.str "pegs -0")) (fCons (fC (.str "last at")) (fCons (fC (.str "cell --")) (fCons (fC (.str "-")) (fun _ S => .ok [] S))))))))))))
noncomputable def zpi6 : FS := (gSet 4 (fBin gAdd (fVar 4) (fLst (fCons (fC (.str "cell 99999999999999999999")) (fCons (fC (.str "@0")) (fCons (fC (.str "cell last")) (fun _ S => .ok [] S)))))))
noncomputable def zpi7 : FS := (gSet 4 (fBin gAdd (fVar 4) (fLst (fCons (fC (.str "cell @1000000001")) (fCons (fC (.str "pegs 5 - @ 1")) (fCons (fC (.str "tie --")) (fCons (fC (.str "cell +1")) (fCons (fC (.str "cell 1.5")) (fCons (fC (.str "pegs,")) (fCons (fC (.str "last @-0")) (fun _ S => .ok [] S)))))))))))
noncomputable def zpi8 : FS := (gSet 5 (fBin gIx (fLst (fCons (fVar 2) (fCons (fBin gAdd (fVar 2) (fVar 3)) (fCons (fBin gAdd (fBin gAdd (fVar 2) (fVar 3)) (fVar 4)) (fun _ S => .ok [] S))))) (fVar 1)))
noncomputable def zpi9 : FS := (gRet (fBin gIx (fVar 5) (fCall (callSub S_p_law_next) (fun ds es => pick [(0, 0), (0, 1)] ds es []) 2 0 2 (fCons (fVar 0) (fCons (fCB gLen (fCons (fVar 5) (fun _ S => .ok [] S))) (fun _ S => .ok [] S))) (fun _ S => .ok [] S))))
noncomputable def zpi : FS := (gSeq zpi0 (gSeq zpi1 (gSeq zpi2 (gSeq zpi3 (gSeq zpi4 (gSeq zpi5 (gSeq zpi6 (gSeq zpi7 (gSeq zpi8 zpi9)))))))))
theorem zpi_eq : m_p_law_piece = zpi := rfl
theorem nx_nat {S : Store} {n : Nat} {v : Int} (hS : S[n]? = some (.lst [.int v])) (m : Nat) (h : 0 < m) (h2 : m < 1073741824) : ∃ (k : Nat) (v' : Int), k < m ∧ callSub S_p_law_next [.oid n, .int m] S = .ok (.int (k : Nat)) (S.set n (.lst [.int v'])) := by
  refine ⟨(v % m).toNat, v / m, ?_, ?_⟩
  · have := Int.emod_nonneg v (b := (m : Int)) (by omega)
    have := Int.emod_lt_of_pos v (b := (m : Int)) (by omega)
    omega
  · have := c_next hS (m : Int) (by omega) (by omega)
    rw [this]
    have h1 := Int.emod_nonneg v (b := (m : Int)) (by omega)
    have e : (((v % (m : Int)).toNat : Nat) : Int) = v % m := by omega
    rw [e]
theorem str_tx (z : Str) : D.str z = sD z.cps.toList := by
  show D.str z = .str (tx z.cps.toList)
  rw [tx_of]
theorem sgA (l : List Nat) (k : Nat) (hz : ∀ c ∈ l, c < 128) (hs : l.length ≤ 100000) (hk : k < l.length) (S : Store) : ∃ c, c < 128 ∧ gIx (sD l) (.int (k : Nat)) S = .ok (sD [c]) S :=
  ⟨l[k], hz _ (List.getElem_mem hk), ix0_s k (List.getElem?_eq_getElem hk) hs S⟩
def sg1 : List Nat := (" @-0123456789acegiklpst\n" : Str).cps.toList
def sg2 : List Nat := ("!\"#$&'()*+,./:;<=>?ABCDEFGHIJKLMNOPQRSTUVWXYZ[\\]^_`bdfhjmnoqruvwxyz{|}~" : Str).cps.toList
theorem sg1_ok : (∀ c ∈ sg1, c < 128) ∧ sg1.length = 24 := by decide +kernel
theorem sg2_ok : (∀ c ∈ sg2, c < 128) ∧ sg2.length = 71 := by decide +kernel
theorem sign_ok (v : Int) : ∃ (c : Nat) (v' : Int), c < 128 ∧ S_p_law_sign [.oid 0] [.lst [.int v]] = .ok (sD [c]) [.lst [.int v']] := by
  have e1 : ∀ S, fC (.str " @-0123456789acegiklpst\n") = fC (sD sg1) := fun S : Store => by rw [str_tx]; rfl
  have e2 : ∀ S, fC (.str "!\"#$&'()*+,./:;<=>?ABCDEFGHIJKLMNOPQRSTUVWXYZ[\\]^_`bdfhjmnoqruvwxyz{|}~") = fC (sD sg2) := fun S : Store => by rw [str_tx]; rfl
  have a8 : ∀ c ∈ sg1 ++ sg2, c < 128 := fun c hc => by
    rcases List.mem_append.mp hc with z | z
    · exact sg1_ok.1 c z
    · exact sg2_ok.1 c z
  have l12 : (sg1 ++ sg2).length = 95 := by rw [List.length_append, sg1_ok.2, sg2_ok.2]
  have ad : ∀ S, gAdd (sD sg1) (sD sg2) S = .ok (sD (sg1 ++ sg2)) S := fun S => add_s S (by rw [sg1_ok.2, sg2_ok.2]; decide)
  have n1 : ∀ S, gLen [sD sg1] S = .ok (.int 24) S := fun S => by
    rw [len_s S (by rw [sg1_ok.2]; decide), sg1_ok.2]
    rfl
  have n2 : ∀ S, gLen [sD (sg1 ++ sg2)] S = .ok (.int 95) S := fun S => by
    rw [len_s S (by rw [l12]; decide), l12]
    rfl
  obtain ⟨k, v1, hk, q1⟩ := nx_nat (S := [.lst [.int v]]) (n := 0) rfl 4 (by decide) (by decide)
  have q1 : callSub S_p_law_next [.oid 0, .int 4] [.lst [.int v]] = .ok (.int (k : Nat)) [.lst [.int v1]] := q1
  unfold S_p_law_sign
  rw [zsi_eq]
  unfold zsi zsi0 zsi1
  rw [e1 [], e2 []]
  by_cases h0 : 0 < k
  · obtain ⟨j, v2, hj, q2⟩ := nx_nat (S := [.lst [.int v1]]) (n := 0) rfl 24 (by decide) (by decide)
    have q2 : callSub S_p_law_next [.oid 0, .int 24] [.lst [.int v1]] = .ok (.int (j : Nat)) [.lst [.int v2]] := q2
    obtain ⟨c, hc, ix⟩ := sgA sg1 j sg1_ok.1 (by rw [sg1_ok.2]; decide) (by rw [sg1_ok.2]; exact hj) [.lst [.int v2]]
    refine ⟨c, v2, hc, ?_⟩
    have h0' : (0 : Int) < (k : Int) := by omega
    simp [ad, q1, h0, h0', n1, q2, ix]
  · obtain ⟨j, v2, hj, q2⟩ := nx_nat (S := [.lst [.int v1]]) (n := 0) rfl 95 (by decide) (by decide)
    have q2 : callSub S_p_law_next [.oid 0, .int 95] [.lst [.int v1]] = .ok (.int (j : Nat)) [.lst [.int v2]] := q2
    obtain ⟨c, hc, ix⟩ := sgA (sg1 ++ sg2) j a8 (by rw [l12]; decide) (by rw [l12]; exact hj) [.lst [.int v2]]
    refine ⟨c, v2, hc, ?_⟩
    have h0' : ¬ (0 : Int) < (k : Int) := by omega
    simp [ad, q1, h0, h0', n2, q2, ix]
theorem c_sign {S : Store} {n : Nat} {v : Int} (hS : S[n]? = some (.lst [.int v])) : ∃ (c : Nat) (v' : Int), c < 128 ∧ callSub S_p_law_sign [.oid n] S = .ok (sD [c]) (S.set n (.lst [.int v'])) := by
  obtain ⟨c, v', hc, q⟩ := sign_ok v
  exact ⟨c, v', hc, callSub_st hS (by rfl) (by rfl) q (by rfl) (by rfl)⟩
/-! ### rows of literal texts -/
def pcD : D → Bool
  | .str s => s.cps.toList.all (fun c => decide (c ≠ 10) && decide (c < 128)) && decide (s.cps.toList.length ≤ 40)
  | _ => false
def Pc (l : List Nat) : Prop := 10 ∉ l ∧ l.length ≤ 40 ∧ ∀ c ∈ l, c < 128
theorem pc_ok {d : D} (h : pcD d = true) : ∃ l, d = sD l ∧ Pc l := by
  cases d with
  | str s =>
    unfold pcD at h
    rw [Bool.and_eq_true, decide_eq_true_eq, List.all_eq_true] at h
    refine ⟨s.cps.toList, str_tx s, fun z => ?_, h.2, fun c hc => ?_⟩
    · have := h.1 10 z
      simp at this
    · have := h.1 c hc
      simp at this
      exact this.2
  | _ => cases h
theorem ixL {L : List D} {k : Nat} (hk : k < L.length) (S : Store) : gIx (.lst L) (.int (k : Nat)) S = .ok L[k] S := by
  have a : atI L (k : Int) = some L[k] := by simp [atI, ixN, hk]
  simp [a]
theorem addL (a b : List D) (h : a.length + b.length ≤ 1000000) (S : Store) : gAdd (.lst a) (.lst b) S = .ok (.lst (a ++ b)) S := by
  show gAddL (.lst a) (.lst b) S = _
  simp [gAddL, asLt, short_le h]
def pA : List D := [.str "cell", .str "cell - 5", .str "last @0 @1", .str "tie @0", .str "tie -", .str "pegs", .str "pegs @0 -7", .str "cell @1 @1 @2", .str "", .str "   "]
def pB : List D := [.str "cell 1000000000 -1000000000 0", .str "last - - - - - -", .str "  tie   @1 ", .str "pegs @2 @0 - 3"]
def pC : List D := [.str "cell @9", .str "tie @12", .str "pegs @8", .str "last 0 @1000000000", .str "cell @3 @4"]
def pD1 : List D := [.str "cell - - - - - - -", .str "tie", .str "tie 3", .str "tie @0 @1", .str "cell 01", .str "cell -0", .str "cell 1000000001", .str "cells", .str "Cell"]
def pD2 : List D := [.str "cell @", .str "cell @-1", .str "cell @01", .str "peg", .str "pegs -0", .str "last at", .str "cell --", .str "-"]
def pD3 : List D := [.str "cell 99999999999999999999", .str "@0", .str "cell last"]
def pD4 : List D := [.str "cell @1000000001", .str "pegs 5 - @ 1", .str "tie --", .str "cell +1", .str "cell 1.5", .str "pegs,", .str "last @-0"]
def pAll : List D := pA ++ pB ++ pC ++ (pD1 ++ pD2 ++ pD3 ++ pD4)
theorem pAll_ok : pAll.all pcD = true := by decide +kernel
theorem piece_ok (v : Int) : ∃ (l : List Nat) (v' : Int), Pc l ∧ S_p_law_piece [.oid 0] [.lst [.int v]] = .ok (sD l) [.lst [.int v']] := by
  obtain ⟨k, v1, hk, q1⟩ := nx_nat (S := [.lst [.int v]]) (n := 0) rfl 3 (by decide) (by decide)
  have q1 : callSub S_p_law_next [.oid 0, .int 3] [.lst [.int v]] = .ok (.int (k : Nat)) [.lst [.int v1]] := q1
  obtain ⟨L, hL, hn, hp⟩ : ∃ L : List D, (∀ S, gIx (.lst [.lst (pA ++ pB), .lst (pA ++ pB ++ pC), .lst pAll]) (.int (k : Nat)) S = .ok (.lst L) S) ∧ (0 < L.length ∧ L.length ≤ 100) ∧ ∀ d ∈ L, pcD d = true := by
    have all := List.all_eq_true.mp pAll_ok
    have h3 : k = 0 ∨ k = 1 ∨ k = 2 := by omega
    rcases h3 with rfl | rfl | rfl
    · exact ⟨pA ++ pB, fun S => ixL (L := [.lst (pA ++ pB), .lst (pA ++ pB ++ pC), .lst pAll]) (k := 0) (by decide) S, by decide, fun d hd => all d (by unfold pAll; exact List.mem_append_left _ (List.mem_append_left _ hd))⟩
    · exact ⟨pA ++ pB ++ pC, fun S => ixL (L := [.lst (pA ++ pB), .lst (pA ++ pB ++ pC), .lst pAll]) (k := 1) (by decide) S, by decide, fun d hd => all d (by unfold pAll; exact List.mem_append_left _ hd)⟩
    · exact ⟨pAll, fun S => ixL (L := [.lst (pA ++ pB), .lst (pA ++ pB ++ pC), .lst pAll]) (k := 2) (by decide) S, by decide, fun d hd => all d hd⟩
  obtain ⟨j, v2, hj, q2⟩ := nx_nat (S := [.lst [.int v1]]) (n := 0) rfl L.length hn.1 (by omega)
  have q2 : callSub S_p_law_next [.oid 0, .int L.length] [.lst [.int v1]] = .ok (.int (j : Nat)) [.lst [.int v2]] := q2
  obtain ⟨l, e, pl⟩ := pc_ok (hp L[j] (List.getElem_mem hj))
  refine ⟨l, v2, pl, ?_⟩
  have ix := ixL hj [.lst [.int v2]]
  rw [e] at ix
  have sL : short L.length = true := short_le (by omega)
  have w0 : ∀ x1 x2 x3 x4 x5, zpi0 [some (.oid 0), x1, x2, x3, x4, x5] [.lst [.int v]] = .nx [some (.oid 0), some (.int (k : Nat)), x2, x3, x4, x5] [.lst [.int v1]] := fun x1 x2 x3 x4 x5 => by
    unfold zpi0
    simp [q1]
  have w1 : ∀ x0 x1 x2 x3 x4 x5 S, zpi1 [x0, x1, x2, x3, x4, x5] S = .nx [x0, x1, some (.lst pA), x3, x4, x5] S := fun x0 x1 x2 x3 x4 x5 S => by
    unfold zpi1
    simp [pA, short_le]
  have w2 : ∀ x0 x1 x3 x4 x5 S, zpi2 [x0, x1, some (.lst pA), x3, x4, x5] S = .nx [x0, x1, some (.lst (pA ++ pB)), x3, x4, x5] S := fun x0 x1 x3 x4 x5 S => by
    have ad := addL (pA) pB (by decide) S
    unfold zpi2
    generalize pA = A at *
    simp [pB] at ad ⊢
    simp [ad, short_le]
  have w3 : ∀ x0 x1 x2 x3 x4 x5 S, zpi3 [x0, x1, x2, x3, x4, x5] S = .nx [x0, x1, x2, some (.lst pC), x4, x5] S := fun x0 x1 x2 x3 x4 x5 S => by
    unfold zpi3
    simp [pC, short_le]
  have w4 : ∀ x0 x1 x2 x3 x4 x5 S, zpi4 [x0, x1, x2, x3, x4, x5] S = .nx [x0, x1, x2, x3, some (.lst pD1), x5] S := fun x0 x1 x2 x3 x4 x5 S => by
    unfold zpi4
    simp [pD1, short_le]
  have w5 : ∀ x0 x1 x2 x3 x5 S, zpi5 [x0, x1, x2, x3, some (.lst pD1), x5] S = .nx [x0, x1, x2, x3, some (.lst (pD1 ++ pD2)), x5] S := fun x0 x1 x2 x3 x5 S => by
    have ad := addL (pD1) pD2 (by decide) S
    unfold zpi5
    generalize pD1 = A at *
    simp [pD2] at ad ⊢
    simp [ad, short_le]
  have w6 : ∀ x0 x1 x2 x3 x5 S, zpi6 [x0, x1, x2, x3, some (.lst (pD1 ++ pD2)), x5] S = .nx [x0, x1, x2, x3, some (.lst (pD1 ++ pD2 ++ pD3)), x5] S := fun x0 x1 x2 x3 x5 S => by
    have ad := addL (pD1 ++ pD2) pD3 (by decide) S
    unfold zpi6
    generalize pD1 ++ pD2 = A at *
    simp [pD3] at ad ⊢
    simp [ad, short_le]
  have w7 : ∀ x0 x1 x2 x3 x5 S, zpi7 [x0, x1, x2, x3, some (.lst (pD1 ++ pD2 ++ pD3)), x5] S = .nx [x0, x1, x2, x3, some (.lst (pD1 ++ pD2 ++ pD3 ++ pD4)), x5] S := fun x0 x1 x2 x3 x5 S => by
    have ad := addL (pD1 ++ pD2 ++ pD3) pD4 (by decide) S
    unfold zpi7
    generalize pD1 ++ pD2 ++ pD3 = A at *
    simp [pD4] at ad ⊢
    simp [ad, short_le]
  have w8 : ∀ x5 S, zpi8 [some (.oid 0), some (.int (k : Nat)), some (.lst (pA ++ pB)), some (.lst pC), some (.lst (pD1 ++ pD2 ++ pD3 ++ pD4)), x5] S = .nx [some (.oid 0), some (.int (k : Nat)), some (.lst (pA ++ pB)), some (.lst pC), some (.lst (pD1 ++ pD2 ++ pD3 ++ pD4)), some (.lst L)] S := fun x5 S => by
    have hL := hL S
    unfold pAll at hL
    have a1 := addL (pA ++ pB) pC (by decide) S
    have a2 := addL (pA ++ pB ++ pC) (pD1 ++ pD2 ++ pD3 ++ pD4) (by decide) S
    have s3 : short 3 = true := short_le (by omega)
    unfold zpi8
    generalize pA ++ pB = A at *
    generalize pD1 ++ pD2 ++ pD3 ++ pD4 = B at *
    generalize pC = C at *
    rw [e_gSet]
    simp [a1, a2, s3] at hL ⊢
    simp [hL]
  unfold S_p_law_piece
  rw [zpi_eq, e_semOf]
  unfold zpi
  have st : startD 6 [.oid 0] = [some (.oid 0), none, none, none, none, none] := rfl
  rw [st, e_gSeq, w0, Out.seq_nx, e_gSeq, w1, Out.seq_nx, e_gSeq, w2, Out.seq_nx, e_gSeq, w3, Out.seq_nx, e_gSeq, w4, Out.seq_nx, e_gSeq, w5, Out.seq_nx, e_gSeq, w6, Out.seq_nx, e_gSeq, w7, Out.seq_nx, e_gSeq, w8, Out.seq_nx]
  unfold zpi9
  simp [sL, q2]
  have ix' := ix
  simp at ix'
  simp [ix']
theorem c_piece {S : Store} {n : Nat} {v : Int} (hS : S[n]? = some (.lst [.int v])) : ∃ (l : List Nat) (v' : Int), Pc l ∧ callSub S_p_law_piece [.oid n] S = .ok (sD l) (S.set n (.lst [.int v'])) := by
  obtain ⟨l, v', hl, q⟩ := piece_ok v
  exact ⟨l, v', hl, callSub_st hS (by rfl) (by rfl) q (by rfl) (by rfl)⟩
end K03

/-! A text spoilt once. -/
namespace K03
open PySem L2 DL TY NumText
theorem rows_D : ∀ {l : List Nat} {L : List D}, (∀ d ∈ L, ∃ p ∈ splitL 10 l, d = sD p) → ∃ ps : List (List Nat), L = ps.map sD ∧ (∀ p ∈ ps, p ∈ splitL 10 l) ∧ ps.length = L.length
  | l, [], _ => ⟨[], rfl, fun p hp => (by cases hp), rfl⟩
  | l, d :: L, h => by
    obtain ⟨p, hp, e⟩ := h d List.mem_cons_self
    obtain ⟨ps, e2, h2, h3⟩ := rows_D (l := l) (L := L) fun x hx => h x (List.mem_cons_of_mem _ hx)
    refine ⟨p :: ps, by rw [e, e2]; rfl, fun x hx => ?_, by simp [h3]⟩
    rcases List.mem_cons.mp hx with z | z
    · rw [z]; exact hp
    · exact h2 x z
theorem join_ps {R M : Nat} {l : List Nat} (h : tOk R M l) (hR : R ≤ 100) (hM : M ≤ 1000) {d : D} {S : Store} {ps : List (List Nat)} (hd : asQ S d = some (ps.map sD)) (hp : ∀ p ∈ ps, p ∈ splitL 10 l) (hn : ps.length ≤ R + 1) :
    gJoin (.str "\n") [d] S = .ok (sD (TX.jn 10 ps)) S ∧ tOk (R + 1) (2 * M + 1) (TX.jn 10 ps) := by
  refine ⟨?_, h.rows hp hn⟩
  have b := sum_le (ps := ps) (M := M) fun p hp' => h.2.1 p (hp p hp')
  have c := Nat.mul_le_mul hM (show ps.length ≤ 101 by omega)
  have := join_s S (c := 10) hd (by omega)
  rw [t_nl]
  exact this
theorem cut_takeD (xs : List D) (p : Nat) : cutD xs none (some (p : Int)) = xs.take p := by
  unfold cutD
  rw [HT.sIx_none, HT.sIx_nat, List.drop_zero, Nat.sub_zero]
  rcases Nat.le_total p xs.length with h | h
  · rw [Nat.min_eq_left h]
  · rw [Nat.min_eq_right h, List.take_of_length_le h, List.take_of_length_le (Nat.le_refl _)]
theorem cut_dropD (xs : List D) (p : Nat) : cutD xs (some (p : Int)) none = xs.drop p := by
  unfold cutD
  rw [HT.sIx_none, HT.sIx_nat]
  rcases Nat.le_total p xs.length with h | h
  · rw [Nat.min_eq_left h]
    exact List.take_of_length_le (by simp)
  · rw [Nat.min_eq_right h, List.drop_of_length_le h, List.drop_of_length_le (Nat.le_refl _)]
    simp
theorem spoilt_ok {R M : Nat} {l : List Nat} (h : tOk R M l) (hR : R ≤ 100) (hM : M ≤ 400) (v : Int) : ∃ (l' : List Nat) (v' : Int) (T : Store), tOk (R + 1) (2 * M + 1) l' ∧ S_p_law_spoilt [.oid 0, sD l] [.lst [.int v]] = .ok (sD l') (.lst [.int v'] :: T) := by
  have ll : l.length ≤ 41000 := by
    have := h.len
    have := Nat.mul_le_mul hM hR
    omega
  obtain ⟨k, v1, hk, q1⟩ := nx_nat (S := [.lst [.int v]]) (n := 0) rfl 8 (by decide) (by decide)
  have q1 : callSub S_p_law_next [.oid 0, .int 8] [.lst [.int v]] = .ok (.int (k : Nat)) [.lst [.int v1]] := q1
  obtain ⟨c, v2, hc, q2⟩ := c_sign (S := [.lst [.int v1]]) (n := 0) rfl
  have q2 : callSub S_p_law_sign [.oid 0] [.lst [.int v1]] = .ok (sD [c]) [.lst [.int v2]] := q2
  obtain ⟨a, v3, ha, q3⟩ := nx_nat (S := [.lst [.int v2]]) (n := 0) rfl (l.length + 1) (by omega) (by omega)
  have q3 : callSub S_p_law_next [.oid 0, .int ((l.length + 1 : Nat) : Int)] [.lst [.int v2]] = .ok (.int (a : Nat)) [.lst [.int v3]] := q3
  have ln := len_s [.lst [.int v2]] (l := l) (by omega)
  have sp := splitO_s [.lst [.int v3]] (c := 10) (l := l) (by omega)
  have nR := h.1
  have pR : 0 < (splitL 10 l).length := List.length_pos_iff.mpr (splitL_ne 10 l)
  obtain ⟨W, hW⟩ : ∃ W, W = (splitL 10 l).map sD := ⟨_, rfl⟩
  have lW : W.length = (splitL 10 l).length := by rw [hW, List.length_map]
  obtain ⟨i, v4, hi, q4⟩ := nx_nat (S := [.lst [.int v3], .lst W]) (n := 0) rfl (splitL 10 l).length pR (by omega)
  have q4 : callSub S_p_law_next [.oid 0, .int ((splitL 10 l).length : Nat)] [.lst [.int v3], .lst W] = .ok (.int (i : Nat)) [.lst [.int v4], .lst W] := q4
  obtain ⟨j, v5, hj, q5⟩ := nx_nat (S := [.lst [.int v4], .lst W]) (n := 0) rfl (splitL 10 l).length pR (by omega)
  have q5 : callSub S_p_law_next [.oid 0, .int ((splitL 10 l).length : Nat)] [.lst [.int v4], .lst W] = .ok (.int (j : Nat)) [.lst [.int v5], .lst W] := q5
  have gl : ∀ v, gLen [.oid 1] [.lst [.int v], .lst W] = .ok (.int (splitL 10 l).length) [.lst [.int v], .lst W] := fun v => by
    have s : short W.length = true := short_le (by omega)
    rw [lW] at s
    simp [gLen, gLenQ, isDic1, isStr1, asD, asQ, asL, s, lW]
  have mW : ∀ d ∈ W, ∃ p ∈ splitL 10 l, d = sD p := fun d hd => by
    rw [hW] at hd
    obtain ⟨p, hp, e⟩ := List.mem_map.mp hd
    exact ⟨p, hp, e.symm⟩
  have gi : ∀ (m : Nat) (hm : m < W.length) (x : SO), gIx (.oid 1) (.int (m : Nat)) [x, .lst W] = .ok W[m] [x, .lst W] := fun m hm x => ix_o rfl (by simp [atI, ixN, hm])
  have hi' : i < W.length := by omega
  have hj' : j < W.length := by omega
  unfold S_p_law_spoilt
  rw [zsp_eq, e_semOf]
  unfold zsp
  have st : startD 8 [.oid 0, sD l] = [some (.oid 0), some (sD l), none, none, none, none, none, none] := rfl
  have w0 : zsp0 [some (.oid 0), some (sD l), none, none, none, none, none, none] [.lst [.int v]] = .nx [some (.oid 0), some (sD l), some (.int (k : Nat)), none, none, none, none, none] [.lst [.int v1]] := by
    unfold zsp0
    simp [q1]
  have w1 : zsp1 [some (.oid 0), some (sD l), some (.int (k : Nat)), none, none, none, none, none] [.lst [.int v1]] = .nx [some (.oid 0), some (sD l), some (.int (k : Nat)), some (sD [c]), none, none, none, none] [.lst [.int v2]] := by
    unfold zsp1
    simp [q2]
  have w2 : zsp2 [some (.oid 0), some (sD l), some (.int (k : Nat)), some (sD [c]), none, none, none, none] [.lst [.int v2]] = .nx [some (.oid 0), some (sD l), some (.int (k : Nat)), some (sD [c]), some (.int (a : Nat)), none, none, none] [.lst [.int v3]] := by
    have e : ((l.length + 1 : Nat) : Int) = (l.length : Int) + 1 := by omega
    rw [e] at q3
    unfold zsp2
    simp [ln, q3]
  have w3 : zsp3 [some (.oid 0), some (sD l), some (.int (k : Nat)), some (sD [c]), some (.int (a : Nat)), none, none, none] [.lst [.int v3]] = .nx [some (.oid 0), some (sD l), some (.int (k : Nat)), some (sD [c]), some (.int (a : Nat)), some (.oid 1), none, none] [.lst [.int v3], .lst W] := by
    rw [← hW] at sp
    unfold zsp3
    simp at sp
    simp [t_nl, sp]
  have w4 : zsp4 [some (.oid 0), some (sD l), some (.int (k : Nat)), some (sD [c]), some (.int (a : Nat)), some (.oid 1), none, none] [.lst [.int v3], .lst W] = .nx [some (.oid 0), some (sD l), some (.int (k : Nat)), some (sD [c]), some (.int (a : Nat)), some (.oid 1), some (.int (i : Nat)), some (.int (j : Nat))] [.lst [.int v5], .lst W] := by
    unfold zsp4
    simp [gPar, gl, q4, q5]
  rw [st, e_gSeq, w0, Out.seq_nx, e_gSeq, w1, Out.seq_nx, e_gSeq, w2, Out.seq_nx, e_gSeq, w3, Out.seq_nx, e_gSeq, w4, Out.seq_nx]
  have tk := slT (w := l) a (by omega) [.lst [.int v5], .lst W]
  have h8 := h.2.2
  have c8 : ∀ x ∈ [c], x < 128 := fun x hx => by rw [List.mem_singleton.mp hx]; exact hc
  by_cases k0 : k = 0
  · subst k0
    refine ⟨l.take a, v5, [.lst W], (h.take a).mono (by omega) (by omega), ?_⟩
    unfold zsp5
    simp [fSlS, fPart, fPartN, tk]
  by_cases k1 : k = 1
  · subst k1
    obtain ⟨ps, e1, e2, e3⟩ := rows_D (l := l) (L := (W.set i W[j]).set j W[i]) fun d hd => by
      rcases List.mem_or_eq_of_mem_set hd with z | z
      · rcases List.mem_or_eq_of_mem_set z with z | z
        · exact mW d z
        · rw [z]; exact mW _ (List.getElem_mem hj')
      · rw [z]; exact mW _ (List.getElem_mem hi')
    obtain ⟨jo, ok⟩ := join_ps h hR (by omega) (d := .oid 1) (S := [.lst [.int v5], .lst ((W.set i W[j]).set j W[i])]) (ps := ps) (by rw [← e1]; rfl) e2 (by rw [e3]; simp; omega)
    refine ⟨TX.jn 10 ps, v5, [.lst ((W.set i W[j]).set j W[i])], ok, ?_⟩
    have g1 := gi j hj' (.lst [.int v5])
    have g2 := gi i hi' (.lst [.int v5])
    have s1 : storeAt (.oid 1) (.int (i : Nat)) W[j] [.lst [.int v5], .lst W] = some [.lst [.int v5], .lst (W.set i W[j])] := by
      simp [storeAt, ixN, hi']
    have s2 : storeAt (.oid 1) (.int (j : Nat)) W[i] [.lst [.int v5], .lst (W.set i W[j])] = some [.lst [.int v5], .lst ((W.set i W[j]).set j W[i])] := by
      simp [storeAt, ixN, hj']
    have sh2 : short 2 = true := short_le (by omega)
    generalize (W.set i W[j]).set j W[i] = W2 at *
    generalize W.set i W[j] = W1 at *
    generalize W[i] = wi at *
    generalize W[j] = wj at *
    unfold zsp5 zsp6
    simp [gPut2, g1, g2, s1, s2, jo, sh2, tyS]
  by_cases k2 : k = 2
  · subst k2
    have sl1 : ∀ S x, S = [x, .lst W] → gSl (.oid 1) none (some (i : Int)) S = .ok (.lst (W.take i)) S := fun S x e => by
      subst e
      simp [gSl, asL, cut_takeD]
    have sl2 : ∀ S x, S = [x, .lst W] → gSl (.oid 1) (some ((i : Int) + 1)) none S = .ok (.lst (W.drop (i + 1))) S := fun S x e => by
      subst e
      have := cut_dropD W (i + 1)
      have e : (((i + 1 : Nat)) : Int) = (i : Int) + 1 := by omega
      rw [e] at this
      simp [gSl, asL, this]
    obtain ⟨ps, e1, e2, e3⟩ := rows_D (l := l) (L := W.take i ++ W.drop (i + 1)) fun d hd => by
      rcases List.mem_append.mp hd with z | z
      · exact mW d (List.mem_of_mem_take z)
      · exact mW d (List.mem_of_mem_drop z)
    obtain ⟨jo, ok⟩ := join_ps h hR (by omega) (d := .lst (W.take i ++ W.drop (i + 1))) (S := [.lst [.int v5], .lst W]) (ps := ps) (by rw [← e1]; rfl) e2 (by rw [e3]; simp; omega)
    refine ⟨TX.jn 10 ps, v5, [.lst W], ok, ?_⟩
    have ad := addL (W.take i) (W.drop (i + 1)) (by simp; omega) [.lst [.int v5], .lst W]
    unfold zsp5 zsp6 zsp7
    simp [fSl, fPart, fPartN, sl1, sl2, ad, jo, tyS]
  by_cases k3 : k = 3
  · subst k3
    have sl1 : ∀ S x, S = [x, .lst W] → gSl (.oid 1) none (some (i : Int)) S = .ok (.lst (W.take i)) S := fun S x e => by
      subst e
      simp [gSl, asL, cut_takeD]
    have sl2 : ∀ S x, S = [x, .lst W] → gSl (.oid 1) (some (i : Int)) none S = .ok (.lst (W.drop i)) S := fun S x e => by
      subst e
      simp [gSl, asL, cut_dropD]
    obtain ⟨ps, e1, e2, e3⟩ := rows_D (l := l) (L := W.take i ++ [W[j]] ++ W.drop i) fun d hd => by
      rcases List.mem_append.mp hd with z | z
      · rcases List.mem_append.mp z with z | z
        · exact mW d (List.mem_of_mem_take z)
        · rw [List.mem_singleton.mp z]; exact mW _ (List.getElem_mem hj')
      · exact mW d (List.mem_of_mem_drop z)
    obtain ⟨jo, ok⟩ := join_ps h hR (by omega) (d := .lst (W.take i ++ [W[j]] ++ W.drop i)) (S := [.lst [.int v5], .lst W]) (ps := ps) (by rw [← e1]; rfl) e2 (by rw [e3]; simp; omega)
    refine ⟨TX.jn 10 ps, v5, [.lst W], ok, ?_⟩
    have g1 := gi j hj' (.lst [.int v5])
    have a1 := addL (W.take i) [W[j]] (by simp; omega) [.lst [.int v5], .lst W]
    have a2 := addL (W.take i ++ [W[j]]) (W.drop i) (by simp; omega) [.lst [.int v5], .lst W]
    have sh1 : short 1 = true := short_le (by omega)
    generalize W[j] = wj at *
    unfold zsp5 zsp6 zsp7 zsp8
    simp at a1 a2 jo
    simp [fSl, fPart, fPartN, sl1, sl2, g1, a1, a2, jo, sh1, tyS]
  have lt : (l.take a).length ≤ 41000 := Nat.le_trans (List.length_take_le' _ _) ll
  by_cases k4 : k = 4
  · subst k4
    have dr := slD (w := l) (a + 1) (by omega) [.lst [.int v5], .lst W]
    have e : (((a + 1 : Nat)) : Int) = (a : Int) + 1 := by omega
    rw [e] at dr
    have ok := h.put (s := []) (by simp) (fun c hc => by cases hc) a 1
    rw [List.append_nil] at ok
    refine ⟨l.take a ++ l.drop (a + 1), v5, [.lst W], ok, ?_⟩
    have ad := add_s [.lst [.int v5], .lst W] (a := l.take a) (b := l.drop (a + 1)) (by rw [List.length_drop]; omega)
    unfold zsp5 zsp6 zsp7 zsp8 zsp9
    simp [fSlS, fPart, fPartN, tk, dr, ad]
  · obtain ⟨m, hm⟩ : ∃ m : Nat, ((k : Int) % 2) = (m : Int) := ⟨k % 2, by omega⟩
    have dr := slD (w := l) (a + m) (by omega) [.lst [.int v5], .lst W]
    have e : (((a + m : Nat)) : Int) = (a : Int) + m := by omega
    rw [e] at dr
    have ok := h.put (s := [c]) (by simp) c8 a m
    refine ⟨l.take a ++ [c] ++ l.drop (a + m), v5, [.lst W], ok, ?_⟩
    have a1 := add_s [.lst [.int v5], .lst W] (a := l.take a) (b := [c]) (by simp; omega)
    have a2 := add_s [.lst [.int v5], .lst W] (a := l.take a ++ [c]) (b := l.drop (a + m)) (by rw [List.length_drop, List.length_append, List.length_singleton]; omega)
    have n0 : ¬ (k : Int) = 0 := by omega
    have n1 : ¬ (k : Int) = 1 := by omega
    have n2 : ¬ (k : Int) = 2 := by omega
    have n3 : ¬ (k : Int) = 3 := by omega
    have n4 : ¬ (k : Int) = 4 := by omega
    unfold zsp5 zsp6 zsp7 zsp8 zsp9 zsp10
    simp [n0, n1, n2, n3, n4, k0, k1, k2, k3, k4, hm, fSlS, fPart, fPartN, tk, dr, a1]
    simp at a2
    simp [a2]
end K03

/-! web_text; the law's own rows. -/
namespace K03
open PySem L2 DL TY
section
variable {w : Wb} (ok : w.ok) (hm : w.cells.length ≤ 60) (hp : w.pegs.length ≤ 40)
include ok hm hp
theorem rows_in : ∀ q ∈ wrows w, RowOk q.1 q.2 ∧ (∀ v ∈ q.2, inB v) ∧ q.2.length ≤ 100 := fun q hq => by
  obtain ⟨a, b, c⟩ := row_of ok hm hp hq
  exact ⟨a, fun v hv => (b v hv).inB (by omega), c⟩
theorem rowsL_len : (rowsL w).length ≤ 61 ∧ ((rowsL w).map List.length).sum ≤ 1400 * 61 := by
  have h1 : (rowsL w).length ≤ 61 := by
    simp [rowsL, wrows]
    omega
  refine ⟨h1, ?_⟩
  have : ∀ rs : List (List Nat), (∀ r ∈ rs, r.length ≤ 1400) → (rs.map List.length).sum ≤ 1400 * rs.length := by
    intro rs
    induction rs with
    | nil => intro _; simp
    | cons r rs ih =>
      intro h
      have a := h r List.mem_cons_self
      have b := ih fun x hx => h x (List.mem_cons_of_mem _ hx)
      simp only [List.map_cons, List.sum_cons, List.length_cons]
      omega
  have h2 := this (rowsL w) fun r hr => by
    obtain ⟨q, hq, rfl⟩ := List.mem_map.mp hr
    obtain ⟨a, b, c⟩ := rows_in ok hm hp q hq
    exact (rowL_len a b c).1
  have : 1400 * (rowsL w).length ≤ 1400 * 61 := Nat.mul_le_mul_left _ h1
  omega
end
end K03

/-! The law's own rows; loose rows. -/
namespace K03
open PySem L2 DL TY
noncomputable def lrb : FS := (gSeq (gSet 5 (fVar 4)) (gSeq (gIf (toB (fBin gEq (fVar 3) (fC (.str "tie")))) (gSet 5 (fLst (fCons (fIf (toB (fBin gIs (fVar 4) (fC .non))) (fC .non) (fTup (fCons (fC (.str "at")) (fCons (fVar 4) (fun _ S => .ok [] S))))) (fun _ S => .ok [] S)))) gNil) (gExpr (fBM "list" gApp (fVar 2) (fCons (fBM "str" gJoin (fC (.str " ")) (fCons (fBin gAdd (fLst (fCons (fVar 3) (fun _ S => .ok [] S))) (fComp (fSeq (fVar 5)) (mName 6) fYes (fCall (callSub S_p_law_value_text) (fun ds es => pick [(0, 0)] ds es []) 1 0 1 (fCons (fVar 6) (fun _ S => .ok [] S)) (fun _ S => .ok [] S)) ([("_law_value_here", 6)].map (·.2)) finL)) (fun _ S => .ok [] S))) (fun _ S => .ok [] S))))))
noncomputable def lrr : FE := (fBin gAdd (fVar 2) (fLst (fCons (fBM "str" gJoin (fC (.str " ")) (fCons (fBin gAdd (fLst (fCons (fC (.str "pegs")) (fun _ S => .ok [] S))) (fComp (fSeq (fVar 1)) (mName 6) fYes (fCall (callSub S_p_law_value_text) (fun ds es => pick [(0, 0)] ds es []) 1 0 1 (fCons (fVar 6) (fun _ S => .ok [] S)) (fun _ S => .ok [] S)) ([("_law_value_here", 6)].map (·.2)) finL)) (fun _ S => .ok [] S))) (fun _ S => .ok [] S))))
theorem m_lr_eq : m_p_law_rows = gSeq (gSet 2 (fLstO (fun _ S => .ok [] S))) (gSeq (gFor (fSeq (fVar 0)) (mTup 2 (mCons (mName 3) (mCons (mName 4) (fun ds ρ _ => match ds with | [] => some ρ | _ => none)))) lrb) (gRet lrr)) := rfl
def inD : Ce → D
  | .flds _ vs => .tup (vs.map dV)
  | .tie t => dT t
theorem dC_eq (c : Ce) : dC c = .tup [.str (cRow c).1, inD c] := by
  cases c with
  | flds l vs => rfl
  | tie t => cases t <;> rfl
theorem lcomp_ok {vs : List Vl} (hv : ∀ v ∈ vs, inB v) (S : Store) (m : FG) (fe : FE) (ρ : EnvD) (hq : ∀ v ∈ vs, ∃ ρ1, m (dV v) ρ S = some ρ1 ∧ fe ρ1 S = callSub S_p_law_value_text [dV v] S) : compF none m fYes fe (vs.map dV) ρ S = .ok (vs.map fun v => sD (valL v)) S := by
  induction vs with
  | nil => exact compF_nil
  | cons v vs ih =>
    obtain ⟨ρ1, a, b⟩ := hq v List.mem_cons_self
    have c := c_lvalue (hv v List.mem_cons_self) S
    have i := ih (fun x hx => hv x (List.mem_cons_of_mem _ hx)) (fun x hx => hq x (List.mem_cons_of_mem _ hx))
    rw [List.map_cons, compF_cons a]
    simp only [fYes, Res.noEx_ok, Res.bind_ok, if_true, b, c, i, List.map_cons]
theorem lrb_ok {m : Nat} (hm : m ≤ 1000000) {c : Ce} (h : okC' m c) {F : List D} (hF : F.length ≤ 1000) (x0 x1 x5 x6 : Option D) : ∃ y5, lrb [x0, x1, some (.oid 0), some (.str (cRow c).1), some (inD c), x5, x6] [.lst F] = .nx [x0, x1, some (.oid 0), some (.str (cRow c).1), some (inD c), y5, x6] [.lst (F ++ [sD (rowL (cRow c))])] := by
  obtain ⟨a, b, l⟩ := cRow_ok hm h
  have hv : ∀ v ∈ (cRow c).2, inB v := fun v hv => (b v hv).inB hm
  have jr := join_row a hv (by omega) [.lst F]
  have ap := fun d => app_o (S := [.lst F]) (L := 0) (x := d) rfl hF
  have lc := lcomp_ok hv [.lst F]
  have ad : gAdd (.lst [.str (cRow c).1]) (.lst ((cRow c).2.map fun v => sD (valL v))) [.lst F] = .ok (.lst (wordsD (cRow c).1 (cRow c).2)) [.lst F] := by
    rw [e_addl _ _ _ (short_le (by simp; omega))]
    rfl
  have sh : short ((cRow c).2.map fun v => sD (valL v)).length = true := short_le (by simp; omega)
  generalize hr : rowL (cRow c) = R at *
  generalize hM : ((cRow c).2.map fun v => sD (valL v)) = M at *
  generalize hW : wordsD (cRow c).1 (cRow c).2 = W at *
  unfold lrb
  cases c with
  | flds l vs =>
    refine ⟨some (.tup (vs.map dV)), ?_⟩
    simp only [cRow, inD] at *
    simp [n3, t_sp, seqD, short_le]
    erw [lc _ _ _ fun v _ => ⟨_, rfl, by simp⟩]
    simp only [Res.bind_ok, finL, sh, if_true]
    simp [ad, jr, ap, tyS]
  | tie t =>
    cases t with
    | none =>
      refine ⟨some (.lst [.non]), ?_⟩
      simp only [cRow, inD, dT, List.map_cons, List.map_nil, dV] at *
      simp [t_sp, seqD, short_le, asL]
      erw [lc _ _ _ fun v hv => ⟨_, rfl, by simp at hv; subst hv; simp [dV]⟩]
      simp only [Res.bind_ok, finL, sh, if_true]
      simp [ad, jr, ap, tyS]
    | some n =>
      refine ⟨some (.lst [.tup [.str "at", .int n]]), ?_⟩
      simp only [cRow, inD, dT, List.map_cons, List.map_nil, dV] at *
      simp [t_sp, seqD, short_le, asL]
      erw [lc _ _ _ fun v hv => ⟨_, rfl, by simp at hv; subst hv; simp [dV]⟩]
      simp only [Res.bind_ok, finL, sh, if_true]
      simp [ad, jr, ap, tyS]
section
variable {w : Wb} (ok : w.ok) (hm : w.cells.length ≤ 60) (hp : w.pegs.length ≤ 40)
include ok hm hp
theorem lrows_ok : ∃ S', S_p_law_rows [.lst (w.cells.map dC), .lst (w.pegs.map dV)] [] = .ok (.lst ((rowsL w).map sD)) S' := by
  obtain ⟨ρ', S', lo, y3, y4, y5, y6, rfl, rfl⟩ := loop_inv (m := tgt 3 4) (b := lrb) (fun j ρ S => ∃ y3 y4 y5 y6, ρ = [some (.lst (w.cells.map dC)), some (.lst (w.pegs.map dV)), some (.oid 0), y3, y4, y5, y6] ∧ S = [.lst ((w.cells.take j).map fun c => sD (rowL (cRow c)))])
    (w.cells.map dC) 0 [some (.lst (w.cells.map dC)), some (.lst (w.pegs.map dV)), some (.oid 0), none, none, none, none] [.lst []] ⟨none, none, none, none, rfl, by simp⟩ (by
    rintro j d ρ S hd ⟨y3, y4, y5, y6, rfl, rfl⟩
    rw [List.getElem?_map] at hd
    obtain ⟨c, hc, rfl⟩ := Option.map_eq_some_iff.mp hd
    obtain ⟨z5, hb⟩ := lrb_ok (m := w.cells.length) (by omega) (ok.2.2.1 c (List.mem_of_getElem? hc)) (F := (w.cells.take j).map fun c => sD (rowL (cRow c))) (by simp; omega) (some (.lst (w.cells.map dC))) (some (.lst (w.pegs.map dV))) y5 y6
    simp only [Nat.zero_add]
    refine ⟨_, _, _, by rw [dC_eq]; rfl, .inl hb, _, _, _, _, rfl, ?_⟩
    rw [List.take_add_one, hc]
    simp)
  rw [List.length_map, Nat.zero_add, List.take_length] at lo
  have rp := join_row (q := ("pegs", w.pegs)) (.pegs _) (fun v hv => (ok.2.2.2 v hv).inB (by omega)) (by show w.pegs.length ≤ 100; omega) [.lst (w.cells.map fun c => sD (rowL (cRow c)))]
  have lc := lcomp_ok (vs := w.pegs) (fun v hv => (ok.2.2.2 v hv).inB (by omega)) [.lst (w.cells.map fun c => sD (rowL (cRow c)))]
  have sh : short (w.pegs.map fun v => sD (valL v)).length = true := short_le (by simp; omega)
  have ad : gAdd (.lst [.str "pegs"]) (.lst (w.pegs.map fun v => sD (valL v))) [.lst (w.cells.map fun c => sD (rowL (cRow c)))] = .ok (.lst (wordsD "pegs" w.pegs)) [.lst (w.cells.map fun c => sD (rowL (cRow c)))] := by
    rw [e_addl _ _ _ (short_le (by simp; omega))]
    rfl
  have er : (w.cells.map fun c => sD (rowL (cRow c))) ++ [sD (rowL ("pegs", w.pegs))] = (rowsL w).map sD := by
    simp [rowsL, wrows, Function.comp_def]
  have ao : gAdd (.oid 0) (.lst [sD (rowL ("pegs", w.pegs))]) [.lst (w.cells.map fun c => sD (rowL (cRow c)))] = .ok (.lst ((rowsL w).map sD)) [.lst (w.cells.map fun c => sD (rowL (cRow c)))] := by
    have h : short ((w.cells.map fun c => sD (rowL (cRow c))).length + 1) = true := short_le (by simp; omega)
    have h2 : short (w.cells.length + 1) = true := short_le (by omega)
    rw [← er]
    simp only [gAdd, isI, isS, isT, gAddL, asLt, asL, List.getElem?_cons_zero]
    simp [h2]
  generalize (rowsL w).map sD = RD at *
  generalize (w.cells.map fun c => sD (rowL (cRow c))) = CD at *
  refine ⟨[.lst CD], ?_⟩
  unfold S_p_law_rows
  rw [m_lr_eq]
  simp [List.replicate, short_le, seqD, asL]
  erw [lo]
  unfold lrr
  simp only at rp
  simp [t_sp, seqD, short_le, asL]
  erw [lc _ _ _ fun v _ => ⟨_, rfl, by simp⟩]
  simp only [Res.bind_ok, finL, sh, if_true]
  simp [ad, rp, tyS, short_le]
  erw [ao]
  rfl
end
end K03

/-! Bounds of the two texts and of what is read of them. -/
namespace K03
open PySem L2 DL TY NumText
theorem tR_len : ∀ (WS : List (List (List Nat))) (k : Nat) (F : List Et), (∀ G, tR k WS F = .inr G → G.length ≤ F.length + WS.length) ∧ ∀ r, tR k WS F = .inl r → r ≤ k + WS.length
  | [], k, F => ⟨fun G h => (by cases h; simp), fun r h => (by cases h)⟩
  | ws :: WS, k, F => by
    rw [List.length_cons]
    by_cases hn : ws = []
    · subst hn
      rw [tR, if_pos rfl]
      obtain ⟨a, b⟩ := tR_len WS (k + 1) F
      exact ⟨fun G h => Nat.le_trans (a G h) (by omega), fun r h => Nat.le_trans (b r h) (by omega)⟩
    · rw [tR, if_neg hn]
      cases hr : rW ws with
      | none => exact ⟨fun G h => (by cases h), fun r h => (by cases h; omega)⟩
      | some q =>
        cases hh : hasP F with
        | true => exact ⟨fun G h => (by simp [hh] at h), fun r h => (by simp [hh] at h; omega)⟩
        | false =>
          obtain ⟨a, b⟩ := tR_len WS (k + 1) (F ++ [(k, q.1, q.2)])
          rw [List.length_append, List.length_singleton] at a
          simp only [Bool.false_eq_true, if_false]
          exact ⟨fun G h => Nat.le_trans (a G h) (by omega), fun r h => Nat.le_trans (b r h) (by omega)⟩
theorem rdT_bound {t : List Nat} (h : txOk t) : (∀ r, rdT t = .inl r → r ≤ 1000) ∧ ∀ w, rdT t = .inr w → w.cells.length ≤ (cutRows t).length := by
  have hws := rows_ws h
  obtain ⟨pa, pb⟩ := trs_ok hws (by rw [List.length_map]; have := h.2.1; omega) []
  obtain ⟨la, lb⟩ := tR_len ((cutRows t).map wordsL) 0 []
  rw [List.length_map] at la lb
  have h2 := h.2.1
  unfold rdT
  cases ht : tR 0 ((cutRows t).map wordsL) [] with
  | inl r =>
    have := lb r ht
    exact ⟨fun r' h' => (by cases h'; omega), fun w h' => (by cases h')⟩
  | inr G =>
    obtain ⟨⟨hG, hp, hl⟩, _⟩ := pa G ht
    have lG := la G ht
    rw [List.length_nil, Nat.zero_add] at lG
    show (∀ r, rd (cutRows t).length G = .inl r → _) ∧ ∀ w, rd (cutRows t).length G = .inr w → _
    unfold rd
    cases hf : G.find? (bads (manyE G)) with
    | some e =>
      have := (hG e (List.mem_of_find?_eq_some hf)).1
      exact ⟨fun r' h' => (by cases h'; omega), fun w h' => (by cases h')⟩
    | none =>
      cases hq : G.getLast? with
      | none => exact ⟨fun r' h' => (by cases h'; omega), fun w h' => (by cases h')⟩
      | some e =>
        by_cases he : isP e
        · simp only [he, if_true]
          refine ⟨fun r' h' => (by cases h'), fun w h' => ?_⟩
          cases h'
          show (G.dropLast.map ceE).length ≤ _
          rw [List.length_map, List.length_dropLast]
          omega
        · simp only [he, if_false]
          exact ⟨fun r' h' => (by cases h'; omega), fun w h' => (by cases h')⟩
theorem resD_sim {t : List Nat} (h : txOk t) (hr : (cutRows t).length ≤ 30) : (resD (rdT t)).sim = true ∧ (resD (rdT t)).dep ≤ 6 ∧ (resD (rdT t)).wt ≤ 200000 := by
  obtain ⟨a, b⟩ := rdT_bound h
  have c := rdT_ok h
  cases q : rdT t with
  | inl r =>
    have := a r q
    exact ⟨by simp only [resD, D.sim, decide_eq_true_eq]; omega, by simp [resD, D.dep], by simp [resD, D.wt]⟩
  | inr w =>
    have lw := b w q
    rw [q] at c
    have ok : w.ok := c.1
    obtain ⟨a1, a2, a3, _⟩ := cells_sim ok
    obtain ⟨b1, b2, b3, _⟩ := pegs_sim ok
    have m1 : 1001 * w.cells.length ≤ 1001 * 30 := Nat.mul_le_mul_left _ (by omega)
    have m2 : 81 * w.pegs.length ≤ 81 * 1000 := Nat.mul_le_mul_left _ ok.2.1
    refine ⟨?_, ?_, ?_⟩
    · simp only [resD, D.sim, simL, Bool.and_true, Bool.and_eq_true]
      exact ⟨a1, b1⟩
    · have e : (D.tup [.lst (w.cells.map dC), .lst (w.pegs.map dV)]).dep = max (D.lst (w.cells.map dC)).dep (max (D.lst (w.pegs.map dV)).dep 0) + 1 := by simp only [D.dep, depL]
      show (D.tup [.lst (w.cells.map dC), .lst (w.pegs.map dV)]).dep ≤ 6
      rw [e]
      omega
    · have e : (D.tup [.lst (w.cells.map dC), .lst (w.pegs.map dV)]).wt = (D.lst (w.cells.map dC)).wt + 1 + ((D.lst (w.pegs.map dV)).wt + 1 + 0) := by simp only [D.wt, wtL]
      show (D.tup [.lst (w.cells.map dC), .lst (w.pegs.map dV)]).wt ≤ 200000
      rw [e]
      omega
theorem cut_le {R M : Nat} {l : List Nat} (h : tOk R M l) : (cutRows l).length ≤ R := by
  have sub : (cutRows l).length ≤ (splitL 10 l).length := by
    obtain ⟨A, x, e⟩ := snoc_of (splitL_ne 10 l)
    rw [e]
    by_cases hx : x = []
    · subst hx
      rw [cut_end e]
      simp
    · rw [cut_more e hx]
      exact Nat.le_refl _
  exact Nat.le_trans sub h.1
theorem tOk.cat {R M R' M' : Nat} {x y : List Nat} (h : tOk R M x) (h' : tOk R' M' y) : tOk (R + R') (M + M') (x ++ y) := by
  have q := parts_cat (x := x) (y := y)
  exact ⟨by have := q.1; have := h.1; have := h'.1; omega, q.2.1 M M' h.2.1 h'.2.1, fun c hc => (List.mem_append.mp hc).elim (h.2.2 c) (h'.2.2 c)⟩
theorem tOk_rows {M : Nat} {ps : List (List Nat)} (h : ∀ p ∈ ps, 10 ∉ p ∧ p.length ≤ M ∧ ∀ c ∈ p, c < 128) : tOk (ps.length + 1) M (TX.jn 10 ps) := by
  by_cases e : ps = []
  · subst e
    refine ⟨by simp [TX.jn, splitL], fun p hp => ?_, fun c hc => by cases hc⟩
    have : p = [] := by simpa [TX.jn, splitL] using hp
    rw [this]
    exact Nat.zero_le _
  · have s := splitL_jn (c := 10) e fun p hp => (h p hp).1
    refine ⟨by rw [s]; omega, by rw [s]; exact fun p hp => (h p hp).2.1, fun c hc => ?_⟩
    rcases mem_jn hc with z | ⟨p, h1, h2⟩
    · rw [z]
      decide
    · exact (h p h1).2.2 c h2
theorem sort_signs {z : Str} {vs : List Vl} (h : RowOk z vs) : ∀ c ∈ z.cps.toList, c < 128 := by
  rcases row_iff.mp h with ⟨⟨l, rfl⟩, _⟩ | ⟨rfl, _⟩ | rfl
  · cases l <;> decide +kernel
  · decide +kernel
  · decide +kernel
theorem row_pc {q : Str × List Vl} (h : RowOk q.1 q.2) (hv : ∀ v ∈ q.2, inB v) (hl : q.2.length ≤ 6) : 10 ∉ rowL q ∧ (rowL q).length ≤ 91 ∧ ∀ c ∈ rowL q, c < 128 := by
  have wd := rowW_wd h hv
  have ln : (rowW q).length ≤ 7 := by
    unfold rowW
    rw [List.length_cons, List.length_map]
    omega
  refine ⟨?_, ?_, fun c hc => ?_⟩
  · unfold rowL
    rw [jn_jnB]
    exact jnB_nl 0 wd
  · have a := jn_len 32 (rowW q)
    have b := wds_len wd
    unfold rowL
    omega
  · rcases mem_jn hc with z | ⟨p, h1, h2⟩
    · rw [z]
      decide
    · unfold rowW at h1
      rcases List.mem_cons.mp h1 with z | z
      · rw [z] at h2
        exact sort_signs h c h2
      · obtain ⟨v, _, rfl⟩ := List.mem_map.mp z
        exact valL_signs v c h2
theorem web_text5 {w : Wb} (ok : w.ok) (hc : w.cells.length ≤ 5) (hp : w.pegs.length ≤ 4) : tOk 9 91 (TX.jn 10 (rowsL w) ++ [10]) := by
  have all : ∀ p ∈ rowsL w, 10 ∉ p ∧ p.length ≤ 91 ∧ ∀ c ∈ p, c < 128 := fun p hp' => by
    unfold rowsL wrows at hp'
    obtain ⟨q, hq, rfl⟩ := List.mem_map.mp hp'
    rcases List.mem_append.mp hq with z | z
    · obtain ⟨c, hc', rfl⟩ := List.mem_map.mp z
      obtain ⟨a, b, d⟩ := cRow_ok (m := w.cells.length) (by omega) (ok.2.2.1 c hc')
      exact row_pc a (fun v hv => (b v hv).inB (by omega)) d
    · rw [List.mem_singleton.mp z]
      exact row_pc (.pegs _) (fun v hv => (ok.2.2.2 v hv).inB (by omega)) (by show w.pegs.length ≤ 6; omega)
  have r := tOk_rows all
  have ln : (rowsL w).length ≤ 6 := by
    unfold rowsL wrows
    simp
    omega
  have t : tOk 2 0 [10] := by
    refine ⟨by decide, by decide, by decide⟩
  exact (r.cat t).mono (by omega) (by omega)
end K03

namespace K03
open PySem L2 DL
/-! ### the web that is drawn -/
theorem cells_draw {fe : FE} {m : FG} {ρ : EnvD} (many n : Nat) (hm : many < 1000000) (v : Int) (hf : ∀ d S, ∃ ρ1, m d ρ S = some ρ1 ∧ fe ρ1 S = callSub S_p_law_cell [.oid 0, .int many] S) :
    ∃ (vs : List Ce) (v' : Int), compF none m fYes fe (rng 0 n) ρ [.lst [.int v]] = .ok (vs.map dC) [.lst [.int v']] ∧ vs.length = n ∧ ∀ x ∈ vs, okC' many x := by
  obtain ⟨ys, S', q1, q2, q3, v', rfl⟩ := comp_inv (m := m) (fe := fe) (ρ := ρ) (fun S => ∃ v, S = [.lst [.int v]]) (fun y => ∃ x, y = dC x ∧ okC' many x) (rng 0 n) [.lst [.int v]] ⟨v, rfl⟩ fun d hd S ⟨u, hu⟩ => by
    obtain ⟨ρ1, h1, h2⟩ := hf d S
    obtain ⟨x, u', h3, h4⟩ := cell_draw u many hm
    subst hu
    exact ⟨ρ1, dC x, _, h1, h2.trans (callSub_st (n := 0) (S := [.lst [.int u]]) (xs := [.int u]) (ys := [.int u']) (by rfl) (by rfl) (by rfl) h3 (dC_pure x) (by rfl)), ⟨x, rfl, h4⟩, u', rfl⟩
  obtain ⟨vs, rfl, h⟩ := pick_list ys q3
  refine ⟨vs, v', q1, ?_, h⟩
  rw [List.length_map, rng_length] at q2
  omega
theorem web_draw (most : Nat) (hM : most ≤ 100) (v : Int) : ∃ (w : Wb) (v' : Int), S_p_law_web [.oid 0, .int most] [.lst [.int v]] = .ok (.tup [.lst (w.cells.map dC), .lst (w.pegs.map dV)]) [.lst [.int v']] ∧ w.ok ∧ w.cells.length ≤ most ∧ w.pegs.length ≤ 4 := by
  have nx : ∀ (v m : Int), 0 < m → m < 1073741824 → callSub S_p_law_next [.oid 0, .int m] [.lst [.int v]] = .ok (.int (v % m)) [.lst [.int (v / m)]] := fun v m h h2 => c_next (n := 0) (by rfl) m h h2
  obtain ⟨many, hmany, hm10⟩ : ∃ many : Nat, ((most : Int) + v % ((most : Int) + 1)) % ((most : Int) + 1) = (many : Int) ∧ many ≤ most := by
    have p : (0 : Int) < (most : Int) + 1 := by omega
    have a1 := Int.emod_nonneg ((most : Int) + v % ((most : Int) + 1)) (b := (most : Int) + 1) (by omega)
    have a2 := Int.emod_lt_of_pos ((most : Int) + v % ((most : Int) + 1)) p
    exact ⟨(((most : Int) + v % ((most : Int) + 1)) % ((most : Int) + 1)).toNat, by omega, by omega⟩
  obtain ⟨cs', v1, h1, h2, h3⟩ := cells_draw (m := mName 4) (fe := fCall (callSub S_p_law_cell) (fun ds es => List.filterMap (fun s => (src s.fst ds es [])[s.snd]?) [(0, 0), (0, 1)]) 2 0 2 (fCons (fVar 0) (fCons (fVar 2) (fun _ S => .ok [] S))) (fun _ S => .ok [] S))
    (ρ := [some (.oid 0), some (.int most), some (.int many), none, none]) many many (by omega) (v / ((most : Int) + 1)) fun d S => ⟨_, rfl, by simp⟩
  obtain ⟨np, hnp, hnp4⟩ : ∃ np : Nat, (2 + v1 % 5) % 5 = (np : Int) ∧ np ≤ 4 := ⟨((2 + v1 % 5) % 5).toNat, by omega, by omega⟩
  obtain ⟨vs, v2, g1, g2, g3⟩ := values_draw (m := mName 4) (fe := fCall (callSub S_p_law_value) (fun ds es => List.filterMap (fun s => (src s.fst ds es [])[s.snd]?) [(0, 0), (0, 1)]) 2 0 2 (fCons (fVar 0) (fCons (fVar 2) (fun _ S => .ok [] S))) (fun _ S => .ok [] S))
    (ρ := [some (.oid 0), some (.int most), some (.int many), some (.lst (cs'.map dC)), none]) many np (by omega) (v1 / 5) fun d S => ⟨_, rfl, by simp⟩
  refine ⟨⟨cs', vs⟩, v2, ?_, ⟨by show cs'.length ≤ 1000; omega, by show vs.length ≤ 1000; omega, by show ∀ c ∈ cs', okC' cs'.length c; rw [h2]; exact h3, by show ∀ c ∈ vs, okV cs'.length c; rw [h2]; exact g3⟩, by show cs'.length ≤ most; omega, by show vs.length ≤ 4; omega⟩
  have p1 : (0 : Int) < (most : Int) + 1 := by omega
  have p2 : (most : Int) + 1 < 1073741824 := by omega
  have s1 : short cs'.length = true := short_le (by omega)
  have s2 : short vs.length = true := short_le (by omega)
  unfold S_p_law_web m_p_law_web
  simp [nx, p1, p2, hmany, cRng_nat (show many < 1000000 by omega), h1, s1, hnp, cRng_nat (show np < 1000000 by omega), g1, s2]
end K03

namespace K03
open PySem L2 DL
theorem get_last {α : Type} (pre : List α) (a : α) : (pre ++ [a])[pre.length]? = some a := by
  rw [List.getElem?_append_right (Nat.le_refl _), Nat.sub_self]
  rfl
theorem set_last {α : Type} (pre : List α) (a b : α) : (pre ++ [a]).set pre.length b = pre ++ [b] := by
  rw [List.set_append_right _ _ (Nat.le_refl _), Nat.sub_self]
  rfl
abbrev fNo : FA := fun _ S => .ok [] S
theorem lay_all (l : List Nat) : PyData.canLayAll0 (l.map fun (n : Nat) => PyData.int n) = true := by
  induction l with
  | nil => rfl
  | cons n l ih =>
    simp only [List.map_cons, PyData.canLayAll0, PyData.canLay0, ih]
    rfl
theorem depth_all (l : List Nat) : PyData.depthAll (l.map fun (n : Nat) => PyData.int n) = 0 := by
  induction l with
  | nil => rfl
  | cons n l ih => simp [PyData.depthAll, PyData.depth, ih]
theorem shaped_nats (l : List Nat) : SeqAt.shaped (.list (l.map fun (n : Nat) => PyData.int n)) = true := by
  simp [SeqAt.shaped, PyData.canLay0, lay_all, PyData.depth, depth_all]
theorem e_fEnum_l {ρ : EnvD} {S : Store} {i : Nat} {ds : List D} (h : ρ[i]? = some (some (.lst ds))) : fEnum (fCons (fVar i) fNo) ρ S = .ok ⟨enumD 0 ds, none⟩ S := by
  simp [fEnum, h]
end K03

namespace K03
open PySem L2 DL
/-! ### the state of a cell of the script -/
noncomputable def sbody : FS := (gSeq (gSet 7 (fBin gMod (fBin gAdd (fBin gAdd (fBin gAdd (fVar 2) (fBin gMul (fC (.int 104729)) (fVar 1))) (fBin gMul (fC (.int 1299709)) (fVar 5))) (fC (.int 17))) (fVar 6))) (gSet 4 (fBin gAdd (fBin gMul (fVar 4) (fC (.int 2147483647))) (fBin gMod (fBin gMul (fVar 7) (fBin gAdd (fBin gAdd (fBin gMul (fVar 7) (fVar 7)) (fBin gMul (fC (.int 2)) (fVar 5))) (fC (.int 3)))) (fVar 6)))))
theorem cMul_l {i j : Int} (h1 : -18446744073709551616 < i) (h2 : i < 18446744073709551616) : cMul i j = true := @decide_eq_true _ (Classical.propDecidable _) (.inl ⟨h1, h2⟩)
theorem cMul_r {i j : Int} (h1 : -18446744073709551616 < j) (h2 : j < 18446744073709551616) : cMul i j = true := @decide_eq_true _ (Classical.propDecidable _) (.inr ⟨h1, h2⟩)
theorem toPyL_ints (l : List Int) : toPyL (l.map D.int) = some (l.map PyData.int) := by
  induction l with
  | nil => rfl
  | cons n l ih => simp [toPyL, toPy, ih]
theorem lay_alli (l : List Int) : PyData.canLayAll0 (l.map PyData.int) = true ∧ PyData.depthAll (l.map PyData.int) = 0 := by
  induction l with
  | nil => exact ⟨rfl, rfl⟩
  | cons n l ih =>
    simp only [List.map_cons, PyData.canLayAll0, PyData.canLay0, PyData.depthAll, PyData.depth, ih.1, ih.2]
    exact ⟨rfl, rfl⟩
theorem ne_scr (ns : List Int) (S : Store) : gNe (.scr (ns.map D.int)) (.lst []) S = .ok (.bl (!ns.isEmpty)) S := by
  have e1 : pyOf S (.scr (ns.map D.int)) = some (.list (ns.map PyData.int)) := by simp [pyOf, toPy, toPyL_ints]
  have e2 : pyOf S (.lst []) = some (.list []) := by simp [pyOf, toPy, toPyL]
  have e3 : SeqAt.shaped (.list []) = true := shaped_nats []
  have e5 : SeqAt.shaped (.list (ns.map PyData.int)) = true := by simp [SeqAt.shaped, PyData.canLay0, lay_alli, PyData.depth]
  have e4 : PyData.eqv (.list (ns.map PyData.int)) (.list []) = ns.isEmpty := by
    cases ns <;> simp [PyData.eqv, PyData.eqvAll]
  show (if pScal (.scr (ns.map D.int)) (.lst []) S then _ else gEqD true (.scr (ns.map D.int)) (.lst []) S) = _
  rw [if_neg (by simp [pScal, scalD])]
  simp [gEqD, e1, e2, e3, e5, e4]
theorem sloop_ok {ps : List Int} (hp : ∀ p ∈ ps, 0 < p ∧ p < 2147483648) (x0 x3 : Option D) (k : Nat) (cell f : Int) (y5 y6 y7 : Option D) (S : Store) :
    ∃ f' z5 z6 z7, loopF none (tgt 5 6) sbody (enumD 0 (ps.map D.int)) [x0, some (.int k), some (.int cell), x3, some (.int f), y5, y6, y7] S = .nx [x0, some (.int k), some (.int cell), x3, some (.int f'), z5, z6, z7] S := by
  obtain ⟨ρ', S', h1, f', z5, z6, z7, rfl, rfl⟩ := loop_inv (m := tgt 5 6) (b := sbody) (fun j ρ S' => ∃ (f' : Int) (z5 z6 z7 : Option D), ρ = [x0, some (.int k), some (.int cell), x3, some (.int f'), z5, z6, z7] ∧ S = S')
    (enumD 0 (ps.map D.int)) 0 [x0, some (.int k), some (.int cell), x3, some (.int f), y5, y6, y7] S ⟨f, y5, y6, y7, rfl, rfl⟩ (by
    rintro j d ρ S' hd ⟨f', z5, z6, z7, rfl, rfl⟩
    rw [enumD_get, List.getElem?_map] at hd
    cases hv : ps[j]? with
    | none => rw [hv] at hd; cases hd
    | some p =>
      rw [hv] at hd
      cases hd
      obtain ⟨p1, p2⟩ := hp p (List.mem_of_getElem? hv)
      have b1 := Int.emod_nonneg (cell + 104729 * k + 1299709 * j + 17) (b := p) (by omega)
      have b2 := Int.emod_lt_of_pos (cell + 104729 * k + 1299709 * j + 17) p1
      have m1 : cMul 104729 (k : Int) = true := cMul_l (by decide) (by decide)
      have m2 : cMul 1299709 (j : Int) = true := cMul_l (by decide) (by decide)
      have m3 : cMul f' 2147483647 = true := cMul_r (by decide) (by decide)
      have m4 : cMul 2 (j : Int) = true := cMul_l (by decide) (by decide)
      have m5 : ∀ x, cMul ((cell + 104729 * k + 1299709 * j + 17) % p) x = true := fun x => cMul_l (by omega) (by omega)
      have hb : sbody [x0, some (.int k), some (.int cell), x3, some (.int f'), some (.int ((0 + j : Nat) : Int)), some (.int p), z7] S =
          .nx [x0, some (.int k), some (.int cell), x3, some (.int (f' * 2147483647 + (cell + 104729 * k + 1299709 * j + 17) % p * ((cell + 104729 * k + 1299709 * j + 17) % p * ((cell + 104729 * k + 1299709 * j + 17) % p) + 2 * j + 3) % p)), some (.int ((0 + j : Nat) : Int)), some (.int p), some (.int ((cell + 104729 * k + 1299709 * j + 17) % p))] S := by
        unfold sbody
        simp [m1, m2, m3, m4, m5, p1]
      exact ⟨_, _, S, rfl, .inl hb, _, _, _, _, rfl, rfl⟩)
  exact ⟨f', z5, z6, z7, h1⟩
theorem state_ok (ns : List Int) (k : Nat) (S : Store) : ∃ v : Int, S_p_law_state [.scr (ns.map D.int), .int k] S = .ok (.oid S.length) (S ++ [.lst [.int v]]) := by
  -- the cell
  have hcell : ∃ cell : Int, fIf (toB (fBin gNe (fVar 0) (fLst fNo))) (fCB gAbs (fCons (fBin gIx (fVar 0) (fBin gMod (fVar 1) (fCB gLen (fCons (fVar 0) fNo)))) fNo)) (fC (.int 0)) [some (.scr (ns.map D.int)), some (.int k), none, none, none, none, none, none] S = .ok (.int cell) S := by
    cases ns with
    | nil => exact ⟨0, by simp [show gNe (.scr []) (.lst []) S = .ok (.bl false) S from ne_scr [] S]⟩
    | cons n ns =>
      have lp : (0 : Int) < ((n :: ns).length : Int) := by simp only [List.length_cons]; omega
      have g1 := Int.emod_nonneg (k : Int) (b := ((n :: ns).length : Int)) (by omega)
      have g2 := Int.emod_lt_of_pos (k : Int) lp
      obtain ⟨i, hi⟩ : ∃ i : Nat, (k : Int) % ((n :: ns).length : Int) = (i : Int) := ⟨((k : Int) % ((n :: ns).length : Int)).toNat, by omega⟩
      have hil : i < (n :: ns).length := by omega
      have ea : atI ((n :: ns).map D.int) (i : Int) = some (.int ((n :: ns)[i])) := by
        rw [at_nat _ _ (by simpa using hil), List.getElem?_map, List.getElem?_eq_getElem hil]
        rfl
      refine ⟨if (n :: ns)[i] < 0 then -(n :: ns)[i] else (n :: ns)[i], ?_⟩
      have nn := ne_scr (n :: ns) S
      have md : gMod (.int k) (.int (((n :: ns).map D.int).length : Nat)) S = .ok (.int i) S := by
        rw [List.length_map, e_gMod _ _ _ lp, hi]
      simp only [e_fIf, e_toB, e_fBin, e_fVar, e_fLst, List.getElem?_cons_succ, List.getElem?_cons_zero, Res.bind_ok, List.length_nil, short0, if_true, nn, List.isEmpty_cons, Bool.not_false, e_fCB, e_fCons, e_len_s, md, e_ix_s, ea, e_abs]
  obtain ⟨cell, hcell⟩ := hcell
  by_cases hb : (1000000000000000000 : Int) ≤ cell ∧ k < ns.length
  · refine ⟨cell - 1000000000000000000, ?_⟩
    have h2 : (k : Int) < (ns.length : Int) := by omega
    have key : m_p_law_state [some (.scr (ns.map D.int)), some (.int k), none, none, none, none, none, none] S = .rt (.oid S.length) (S ++ [.lst [.int (cell - 1000000000000000000)]]) := by
      unfold m_p_law_state
      rw [e_gSeq, e_gSet, hcell]
      simp [p1018, hb.1, hb.2]
    show (m_p_law_state [some (.scr (ns.map D.int)), some (.int k), none, none, none, none, none, none] S).res = _
    rw [key]
    rfl
  · let ps : List Int := [2147483629, 2147483587, 2147483579, 2147483563, 2147483549, 2147483543, 2147483497, 2147483489, 2147483477, 2147483423, 2147483399, 2147483353, 2147483323, 2147483269, 2147483249]
    have hps : ∀ p ∈ ps, 0 < p ∧ p < 2147483648 := by decide
    obtain ⟨f', z5, z6, z7, hl⟩ := sloop_ok hps (some (.scr (ns.map D.int))) (some (.lst (ps.map D.int))) k cell 0 none none none S
    refine ⟨f', ?_⟩
    have no : (fAndT (toB (fBin gGe (fVar 2) (fBin gPow (fC (.int 10)) (fC (.int 18))))) (toB (fBin gLt (fVar 1) (fCB gLen (fCons (fVar 0) fNo))))) [some (.scr (ns.map D.int)), some (.int k), some (.int cell), none, none, none, none, none] S = .ok false S := by
      by_cases h1 : (1000000000000000000 : Int) ≤ cell
      · have h2 : ¬ k < ns.length := fun z => hb ⟨h1, z⟩
        simp [p1018, h1, h2]
      · simp [p1018, h1]
    have key : m_p_law_state [some (.scr (ns.map D.int)), some (.int k), none, none, none, none, none, none] S = .rt (.oid S.length) (S ++ [.lst [.int f']]) := by
      unfold m_p_law_state
      rw [e_gSeq, e_gSet, hcell]
      simp only [Res.into_ok, Out.seq_nx, List.set_cons_succ, List.set_cons_zero]
      rw [e_gSeq, e_gIf, no]
      simp only [Res.into_ok, Bool.false_eq_true, if_false, e_gNil, Out.seq_nx]
      rw [e_gSeq, e_gSet]
      have p8 : fLst (fCons (fC (.int 2147483629)) (fCons (fC (.int 2147483587)) (fCons (fC (.int 2147483579)) (fCons (fC (.int 2147483563)) (fCons (fC (.int 2147483549)) (fCons (fC (.int 2147483543)) (fCons (fC (.int 2147483497)) (fCons (fC (.int 2147483489)) fNo)))))))) [some (.scr (ns.map D.int)), some (.int k), some (.int cell), none, none, none, none, none] S =
          .ok (.lst [.int 2147483629, .int 2147483587, .int 2147483579, .int 2147483563, .int 2147483549, .int 2147483543, .int 2147483497, .int 2147483489]) S := by simp
      rw [p8]
      simp only [Res.into_ok, Out.seq_nx, List.set_cons_succ, List.set_cons_zero]
      rw [e_gSeq, e_gSet, e_fBin]
      have p7 : ∀ ρ : EnvD, fLst (fCons (fC (.int 2147483477)) (fCons (fC (.int 2147483423)) (fCons (fC (.int 2147483399)) (fCons (fC (.int 2147483353)) (fCons (fC (.int 2147483323)) (fCons (fC (.int 2147483269)) (fCons (fC (.int 2147483249)) fNo))))))) ρ S =
          .ok (.lst [.int 2147483477, .int 2147483423, .int 2147483399, .int 2147483353, .int 2147483323, .int 2147483269, .int 2147483249]) S := fun ρ => by simp
      have fv : ∀ d : D, fVar 3 [some (.scr (ns.map D.int)), some (.int k), some (.int cell), some d, none, none, none, none] S = .ok d S := fun d => rfl
      rw [fv]
      simp only [Res.bind_ok]
      rw [p7]
      simp only [Res.bind_ok]
      rw [e_addl _ _ S (short_le (by decide))]
      simp only [Res.into_ok, Out.seq_nx, List.set_cons_succ, List.set_cons_zero]
      rw [e_gSeq, e_gSet]
      simp only [e_fC, Res.into_ok, Out.seq_nx, List.set_cons_succ, List.set_cons_zero]
      rw [e_gSeq, e_gFor, e_fEnum_l (ds := ps.map D.int) (by rfl)]
      simp only [Res.into_ok]
      have hl' : loopF none (tgt 5 6) sbody (enumD 0 (ps.map D.int)) [some (.scr (ns.map D.int)), some (.int k), some (.int cell), some (.lst ([D.int 2147483629, .int 2147483587, .int 2147483579, .int 2147483563, .int 2147483549, .int 2147483543, .int 2147483497, .int 2147483489] ++ [.int 2147483477, .int 2147483423, .int 2147483399, .int 2147483353, .int 2147483323, .int 2147483269, .int 2147483249])), some (.int 0), none, none, none] S = _ := hl
      refine Eq.trans (congrArg (fun o => Out.seq o (gRet (fLstO (fCons (fVar 4) fNo)))) hl') ?_
      simp
    show (m_p_law_state [some (.scr (ns.map D.int)), some (.int k), none, none, none, none, none, none] S).res = _
    rw [key]
    rfl
end K03

/-! The law: its pieces. -/
namespace K03
open PySem L2 DL TY NumText
noncomputable def zlw0b0 : FS := (gSet 2 (fCall S_p_law_state (fun ds es => pick [(0, 0), (0, 1)] ds es []) 2 0 2 (fCons (fVar 0) (fCons (fVar 1) (fun _ S => .ok [] S))) (fun _ S => .ok [] S)))
noncomputable def zlw0b1 : FS := (gSet 3 (fComp (fRng1 (fCons (fCall (callSub S_p_law_next) (fun ds es => pick [(0, 0), (0, 1)] ds es []) 2 0 2 (fCons (fVar 2) (fCons (fC (.int 8)) (fun _ S => .ok [] S))) (fun _ S => .ok [] S)) (fun _ S => .ok [] S))) (mName 12) fYes (fCall (callSub S_p_law_piece) (fun ds es => pick [(0, 0)] ds es []) 1 0 1 (fCons (fVar 2) (fun _ S => .ok [] S)) (fun _ S => .ok [] S)) ([("_law_j", 12)].map (·.2)) finL))
noncomputable def zlw0b2 : FS := (gSet 4 (fBin gIx (fLst (fCons (fLst (fun _ S => .ok [] S)) (fCons (fLst (fCons (fC (.str "pegs @0")) (fun _ S => .ok [] S))) (fCons (fLst (fCons (fC (.str "pegs")) (fun _ S => .ok [] S))) (fCons (fLst (fCons (fC (.str "pegs @1 @0")) (fCons (fC (.str "")) (fun _ S => .ok [] S)))) (fun _ S => .ok [] S)))))) (fCall (callSub S_p_law_next) (fun ds es => pick [(0, 0), (0, 1)] ds es []) 2 0 2 (fCons (fVar 2) (fCons (fC (.int 4)) (fun _ S => .ok [] S))) (fun _ S => .ok [] S))))
noncomputable def zlw0b3 : FS := (gSet 5 (fBin gAdd (fBM "str" gJoin (fC (.str "\n")) (fCons (fBin gAdd (fVar 3) (fVar 4)) (fun _ S => .ok [] S))) (fBin gIx (fLst (fCons (fC (.str "\n")) (fCons (fC (.str "")) (fCons (fC (.str "\n \n")) (fCons (fC (.str "\ncell")) (fun _ S => .ok [] S)))))) (fCall (callSub S_p_law_next) (fun ds es => pick [(0, 0), (0, 1)] ds es []) 2 0 2 (fCons (fVar 2) (fCons (fC (.int 4)) (fun _ S => .ok [] S))) (fun _ S => .ok [] S)))))
noncomputable def zlw0b4 : FS := (gAsg (mTup 2 (mCons (mName 6) (mCons (mName 7) (fun ds ρ _ => match ds with | [] => some ρ | _ => none)))) (fCall (callSub S_p_law_web) (fun ds es => pick [(0, 0), (0, 1)] ds es []) 2 0 2 (fCons (fVar 2) (fCons (fC (.int 5)) (fun _ S => .ok [] S))) (fun _ S => .ok [] S)))
noncomputable def zlw0b5 : FS := (gSet 8 (fBin gAdd (fBM "str" gJoin (fC (.str "\n")) (fCons (fCall (callSub S_p_law_rows) (fun ds es => pick [(0, 0), (0, 1)] ds es []) 2 0 2 (fCons (fVar 6) (fCons (fVar 7) (fun _ S => .ok [] S))) (fun _ S => .ok [] S)) (fun _ S => .ok [] S))) (fC (.str "\n"))))
noncomputable def zlw0b6b0 : FS := (gSet 8 (fCall (callSub S_p_law_spoilt) (fun ds es => pick [(0, 0), (0, 1)] ds es []) 2 0 2 (fCons (fVar 2) (fCons (fVar 8) (fun _ S => .ok [] S))) (fun _ S => .ok [] S)))
noncomputable def zlw0b6 : FS := (gFor (fRng1 (fCons (fBin gAdd (fC (.int 1)) (fCall (callSub S_p_law_next) (fun ds es => pick [(0, 0), (0, 1)] ds es []) 2 0 2 (fCons (fVar 2) (fCons (fC (.int 3)) (fun _ S => .ok [] S))) (fun _ S => .ok [] S))) (fun _ S => .ok [] S))) (mName 9) zlw0b6b0)
noncomputable def zlw0b7 : FS := (gIf (toB (fBin gNe (fCB gRepr (fCons (fLst (fCons (fCall (callSub S_p_law_said) (fun ds es => pick [(0, 0)] ds es []) 1 0 1 (fCons (fVar 5) (fun _ S => .ok [] S)) (fun _ S => .ok [] S)) (fCons (fCall (callSub S_p_law_said) (fun ds es => pick [(0, 0)] ds es []) 1 0 1 (fCons (fVar 8) (fun _ S => .ok [] S)) (fun _ S => .ok [] S)) (fun _ S => .ok [] S)))) (fun _ S => .ok [] S))) (fCB gRepr (fCons (fLst (fCons (fCall (callSub S_p_law_read) (fun ds es => pick [(0, 0)] ds es []) 1 0 1 (fCons (fVar 5) (fun _ S => .ok [] S)) (fun _ S => .ok [] S)) (fCons (fCall (callSub S_p_law_read) (fun ds es => pick [(0, 0)] ds es []) 1 0 1 (fCons (fVar 8) (fun _ S => .ok [] S)) (fun _ S => .ok [] S)) (fun _ S => .ok [] S)))) (fun _ S => .ok [] S))))) (gRet (fC (.bl false))) gNil)
noncomputable def zlw0b8 : FS := (gSet 10 (fBin gIx (fLst (fCons (fCall (callSub S_p_law_odd) (fun ds es => pick [(0, 0)] ds es []) 1 0 1 (fCons (fVar 2) (fun _ S => .ok [] S)) (fun _ S => .ok [] S)) (fCons (fLst (fCons (fVar 5) (fun _ S => .ok [] S))) (fCons (fTup (fCons (fVar 5) (fun _ S => .ok [] S))) (fCons (fDisp (fPs (fVar 5) (fC (.int 1)) fPs0)) (fun _ S => .ok [] S)))))) (fCall (callSub S_p_law_next) (fun ds es => pick [(0, 0), (0, 1)] ds es []) 2 0 2 (fCons (fVar 2) (fCons (fC (.int 4)) (fun _ S => .ok [] S))) (fun _ S => .ok [] S))))
noncomputable def zlw0b9 : FS := (gSet 11 (fIf (toB (fCB gIsi (fCons (fVar 10) (fCons (fC (.ty "str")) (fun _ S => .ok [] S))))) (fCall (callSub S_p_law_read) (fun ds es => pick [(0, 0)] ds es []) 1 0 1 (fCons (fVar 10) (fun _ S => .ok [] S)) (fun _ S => .ok [] S)) (fC (.int 0))))
noncomputable def zlw0b10 : FS := (gIf (toB (fBin gNe (fCB gRepr (fCons (fCall (callSub S_p_law_said) (fun ds es => pick [(0, 0)] ds es []) 1 0 1 (fCons (fVar 10) (fun _ S => .ok [] S)) (fun _ S => .ok [] S)) (fun _ S => .ok [] S))) (fCB gRepr (fCons (fVar 11) (fun _ S => .ok [] S))))) (gRet (fC (.bl false))) gNil)
noncomputable def zlw0b : FS := (gSeq zlw0b0 (gSeq zlw0b1 (gSeq zlw0b2 (gSeq zlw0b3 (gSeq zlw0b4 (gSeq zlw0b5 (gSeq zlw0b6 (gSeq zlw0b7 (gSeq zlw0b8 (gSeq zlw0b9 zlw0b10))))))))))
noncomputable def zlw0 : FS := (gFor (fRng1 (fCons (fCB gMax (fCons (fC (.int 1)) (fCons (fCB gLen (fCons (fVar 0) (fun _ S => .ok [] S))) (fun _ S => .ok [] S)))) (fun _ S => .ok [] S))) (mName 1) zlw0b)
noncomputable def zlw1 : FS := (gRet (fC (.bl true)))
noncomputable def zlw : FS := (gSeq zlw0 zlw1)
theorem zlw_eq : m_law = zlw := rfl
abbrev sc (ns : List Int) : Option D := some (.scr (ns.map D.int))
abbrev kk (k : Nat) : Option D := some (.int k)
section
variable (T : Store)
abbrev st1 (T : Store) (v : Int) : Store := T ++ [.lst [.int v]]
theorem s_get (v : Int) : (st1 T v)[T.length]? = some (.lst [.int v]) := get_last T _
theorem nx_last (v : Int) (m : Nat) (h : 0 < m) (h2 : m < 1073741824) : ∃ (k : Nat) (v' : Int), k < m ∧ callSub S_p_law_next [.oid T.length, .int m] (st1 T v) = .ok (.int (k : Nat)) (st1 T v') := by
  obtain ⟨k, v', hk, q⟩ := nx_nat (s_get T v) m h h2
  rw [set_last] at q
  exact ⟨k, v', hk, q⟩
/-- the rows that are drawn -/
theorem b1_ok (x0 x1 x3 x4 x5 x6 x7 x8 x9 x10 x11 x12 : Option D) (v : Int) : ∃ (ps : List (List Nat)) (v' : Int), ps.length ≤ 7 ∧ (∀ p ∈ ps, Pc p) ∧ zlw0b1 [x0, x1, some (.oid T.length), x3, x4, x5, x6, x7, x8, x9, x10, x11, x12] (st1 T v) = .nx [x0, x1, some (.oid T.length), some (.lst (ps.map sD)), x4, x5, x6, x7, x8, x9, x10, x11, x12] (st1 T v') := by
  obtain ⟨k, v1, hk, q1⟩ := nx_last T v 8 (by decide) (by decide)
  have pc : ∀ (m : FG) (fe : FE) (ρ : EnvD), (∀ d S, ∃ ρ1, m d ρ S = some ρ1 ∧ fe ρ1 S = callSub S_p_law_piece [.oid T.length] S) → ∃ (ps : List (List Nat)) (v' : Int), compF none m fYes fe (rng 0 k) ρ (st1 T v1) = .ok (ps.map sD) (st1 T v') ∧ ps.length = k ∧ ∀ p ∈ ps, Pc p := fun m fe ρ hf => by
    obtain ⟨ys, S', p1, p2, p3, v', rfl⟩ := comp_inv (m := m) (fe := fe) (ρ := ρ) (fun S => ∃ v, S = st1 T v) (fun y => ∃ l, y = sD l ∧ Pc l) (rng 0 k) (st1 T v1) ⟨v1, rfl⟩ fun d hd S ⟨u, hu⟩ => by
      obtain ⟨ρ1, h1, h2⟩ := hf d S
      subst hu
      obtain ⟨l, u', hl, q⟩ := c_piece (s_get T u)
      rw [set_last] at q
      exact ⟨ρ1, sD l, _, h1, h2.trans q, ⟨l, rfl, hl⟩, u', rfl⟩
    obtain ⟨ps, rfl, hps⟩ := pick_list (f := sD) (p := Pc) ys p3
    rw [List.length_map, rng_length] at p2
    exact ⟨ps, v', p1, by omega, hps⟩
  obtain ⟨ps, v', q2, hl, hps⟩ := pc (mName 12) (fCall (callSub S_p_law_piece) (fun ds es => pick [(0, 0)] ds es []) 1 0 1 (fCons (fVar 2) (fun _ S => .ok [] S)) (fun _ S => .ok [] S)) [x0, x1, some (.oid T.length), x3, x4, x5, x6, x7, x8, x9, x10, x11, none] fun d S => ⟨_, rfl, by simp⟩
  refine ⟨ps, v', by omega, hps, ?_⟩
  have sh : short (ps.map sD).length = true := short_le (by simp; omega)
  have fi : fRng1 (fCons (fCall (callSub S_p_law_next) (fun ds es => pick [(0, 0), (0, 1)] ds es []) 2 0 2 (fCons (fVar 2) (fCons (fC (.int 8)) (fun _ S => .ok [] S))) (fun _ S => .ok [] S)) (fun _ S => .ok [] S)) [x0, x1, some (.oid T.length), x3, x4, x5, x6, x7, x8, x9, x10, x11, x12] (st1 T v) = .ok ⟨rng 0 k, none⟩ (st1 T v1) := by
    have q1 : callSub S_p_law_next [.oid T.length, .int 8] (st1 T v) = .ok (.int (k : Nat)) (st1 T v1) := q1
    simp [q1, cRng_nat (show k < 1000000 by omega)]
  unfold zlw0b1
  rw [e_gSet, e_fComp, fi]
  simp only [Res.bind_ok]
  erw [q2]
  simp only [Res.bind_ok, finL, sh, if_true]
  rfl
theorem lit_pc {s : Str} (h : pcD (.str s) = true) : Pc s.cps.toList := by
  obtain ⟨l, e, p⟩ := pc_ok h
  have : s = tx l := by
    injection e
  rw [this, tx_cps]
  exact p
theorem b2_ok (x0 x1 x3 x4 x5 x6 x7 x8 x9 x10 x11 x12 : Option D) (v : Int) : ∃ (es : List (List Nat)) (v' : Int), es.length ≤ 2 ∧ (∀ p ∈ es, Pc p) ∧ zlw0b2 [x0, x1, some (.oid T.length), x3, x4, x5, x6, x7, x8, x9, x10, x11, x12] (st1 T v) = .nx [x0, x1, some (.oid T.length), x3, some (.lst (es.map sD)), x5, x6, x7, x8, x9, x10, x11, x12] (st1 T v') := by
  obtain ⟨k, v1, hk, q1⟩ := nx_last T v 4 (by decide) (by decide)
  have q1 : callSub S_p_law_next [.oid T.length, .int 4] (st1 T v) = .ok (.int (k : Nat)) (st1 T v1) := q1
  obtain ⟨L, hL, es, e1, e2, e3⟩ : ∃ L : List D, (∀ S, gIx (.lst [.lst [], .lst [.str "pegs @0"], .lst [.str "pegs"], .lst [.str "pegs @1 @0", .str ""]]) (.int (k : Nat)) S = .ok (.lst L) S) ∧ ∃ es : List (List Nat), L = es.map sD ∧ es.length ≤ 2 ∧ ∀ p ∈ es, Pc p := by
    have h4 : k = 0 ∨ k = 1 ∨ k = 2 ∨ k = 3 := by omega
    rcases h4 with rfl | rfl | rfl | rfl
    · exact ⟨_, fun S => ixL (L := [.lst [], .lst [.str "pegs @0"], .lst [.str "pegs"], .lst [.str "pegs @1 @0", .str ""]]) (k := 0) (by decide) S, [], rfl, by decide, fun p hp => by cases hp⟩
    · exact ⟨_, fun S => ixL (L := [.lst [], .lst [.str "pegs @0"], .lst [.str "pegs"], .lst [.str "pegs @1 @0", .str ""]]) (k := 1) (by decide) S, [("pegs @0" : Str).cps.toList], by simp only [List.map_cons, List.map_nil, ← str_tx], by decide, fun p hp => by
        rw [List.mem_singleton.mp hp]
        exact lit_pc (by decide +kernel)⟩
    · exact ⟨_, fun S => ixL (L := [.lst [], .lst [.str "pegs @0"], .lst [.str "pegs"], .lst [.str "pegs @1 @0", .str ""]]) (k := 2) (by decide) S, [("pegs" : Str).cps.toList], by simp only [List.map_cons, List.map_nil, ← str_tx], by decide, fun p hp => by
        rw [List.mem_singleton.mp hp]
        exact lit_pc (by decide +kernel)⟩
    · exact ⟨_, fun S => ixL (L := [.lst [], .lst [.str "pegs @0"], .lst [.str "pegs"], .lst [.str "pegs @1 @0", .str ""]]) (k := 3) (by decide) S, [("pegs @1 @0" : Str).cps.toList, ("" : Str).cps.toList], by simp only [List.map_cons, List.map_nil, ← str_tx], by decide, fun p hp => by
        simp only [List.mem_cons, List.not_mem_nil, or_false] at hp
        rcases hp with rfl | rfl
        · exact lit_pc (by decide +kernel)
        · exact lit_pc (by decide +kernel)⟩
  refine ⟨es, v1, e2, e3, ?_⟩
  rw [← e1]
  have hL := hL (st1 T v1)
  unfold zlw0b2
  simp [q1, short_le]
  simp at hL
  simp [hL]
theorem b3_ok {ps es : List (List Nat)} (h1 : ps.length ≤ 7) (h2 : ∀ p ∈ ps, Pc p) (h3 : es.length ≤ 2) (h4 : ∀ p ∈ es, Pc p) (x0 x1 x5 x6 x7 x8 x9 x10 x11 x12 : Option D) (v : Int) : ∃ (t : List Nat) (v' : Int), tOk 13 44 t ∧ zlw0b3 [x0, x1, some (.oid T.length), some (.lst (ps.map sD)), some (.lst (es.map sD)), x5, x6, x7, x8, x9, x10, x11, x12] (st1 T v) = .nx [x0, x1, some (.oid T.length), some (.lst (ps.map sD)), some (.lst (es.map sD)), some (sD t), x6, x7, x8, x9, x10, x11, x12] (st1 T v') := by
  obtain ⟨k, v1, hk, q1⟩ := nx_last T v 4 (by decide) (by decide)
  have q1 : callSub S_p_law_next [.oid T.length, .int 4] (st1 T v) = .ok (.int (k : Nat)) (st1 T v1) := q1
  obtain ⟨tl, hL, tk⟩ : ∃ tl : List Nat, (∀ S, gIx (.lst [.str "\n", .str "", .str "\n \n", .str "\ncell"]) (.int (k : Nat)) S = .ok (sD tl) S) ∧ tOk 3 4 tl := by
    have h4 : k = 0 ∨ k = 1 ∨ k = 2 ∨ k = 3 := by omega
    rcases h4 with rfl | rfl | rfl | rfl
    · exact ⟨("\n" : Str).cps.toList, fun S => by rw [← str_tx]; exact ixL (L := [.str "\n", .str "", .str "\n \n", .str "\ncell"]) (k := 0) (by decide) S, by unfold tOk; decide +kernel⟩
    · exact ⟨("" : Str).cps.toList, fun S => by rw [← str_tx]; exact ixL (L := [.str "\n", .str "", .str "\n \n", .str "\ncell"]) (k := 1) (by decide) S, by unfold tOk; decide +kernel⟩
    · exact ⟨("\n \n" : Str).cps.toList, fun S => by rw [← str_tx]; exact ixL (L := [.str "\n", .str "", .str "\n \n", .str "\ncell"]) (k := 2) (by decide) S, by unfold tOk; decide +kernel⟩
    · exact ⟨("\ncell" : Str).cps.toList, fun S => by rw [← str_tx]; exact ixL (L := [.str "\n", .str "", .str "\n \n", .str "\ncell"]) (k := 3) (by decide) S, by unfold tOk; decide +kernel⟩
  have rs := tOk_rows (M := 40) (ps := ps ++ es) fun p hp => by
    have : Pc p := (List.mem_append.mp hp).elim (h2 p) (h4 p)
    exact this
  have lps : (ps ++ es).length ≤ 9 := by rw [List.length_append]; omega
  have tt := (rs.mono (show _ ≤ 10 by omega) (Nat.le_refl 40)).cat tk
  refine ⟨TX.jn 10 (ps ++ es) ++ tl, v1, tt, ?_⟩
  have ad := addL (ps.map sD) (es.map sD) (by simp; omega)
  have sm := sum_le (ps := ps ++ es) (M := 40) fun p hp => by
    have : Pc p := (List.mem_append.mp hp).elim (h2 p) (h4 p)
    exact this.2.1
  have jo := join_s (st1 T v) (c := 10) (d := .lst (ps.map sD ++ es.map sD)) (ps := ps ++ es) (by rw [List.map_append]; rfl) (by omega)
  have l1 := rs.len
  have l2 := tk.len
  have ap := add_s (st1 T v1) (a := TX.jn 10 (ps ++ es)) (b := tl) (by omega)
  have hL := hL (st1 T v1)
  generalize ps.map sD = P at *
  generalize es.map sD = Q at *
  generalize TX.jn 10 (ps ++ es) = J at *
  have jo : gJoin (.str "\n") [.lst (P ++ Q)] (st1 T v) = .ok (sD J) (st1 T v) := by rw [t_nl]; exact jo
  unfold zlw0b3
  simp [ad, jo, q1, short_le, tyS]
  simp at hL
  simp [hL, ap]
end
end K03

/-! The law: texts and things asked. -/
namespace K03
open PySem L2 DL TY NumText
theorem sub_d1 {S : Store} {n : Nat} {ks : List (Key × D)} (hS : S[n]? = some (.dic ks)) (hk : pureK ks = true) : subArgs S [.oid n] 0 = some ([.oid 0], [n]) := by
  unfold subArgs
  rw [hS]
  simp only
  rw [if_pos (show SO.pure (.dic ks) = true from hk)]
  rfl
theorem callSub_d1 {sem : Sem'} {d : D} {S S' : Store} {n : Nat} {ks : List (Key × D)} (hS : S[n]? = some (.dic ks)) (hk : pureK ks = true) (h : sem [.oid 0] [.dic ks] = .ok d (.dic ks :: S')) (hd : d.pure = true) : callSub sem [.oid n] S = .ok d S := by
  unfold callSub
  rw [sub_d1 hS hk]
  have e2 : subOf S [n] = [.dic ks] := by
    unfold subOf
    simp [hS]
  simp only [e2, h, hd]
  rw [if_pos (show [n].Nodup by simp)]
  have q : (List.all (List.take [n].length (SO.dic ks :: S')) SO.pure && decide ([n].length ≤ (SO.dic ks :: S').length)) = true := by
    simp [SO.pure, hk]
  rw [q]
  simp only [Bool.and_self, if_true]
  obtain ⟨hn, e⟩ := List.getElem?_eq_some_iff.mp hS
  have : putBack S [n] (SO.dic ks :: S') = S := by
    unfold putBack
    rw [← e, List.set_getElem_self hn]
    unfold putBack
    rfl
  rw [this]
theorem callSub_d1x {sem : Sem'} {C : Str} {fs : List (Str × D)} {S S' : Store} {n : Nat} {ks : List (Key × D)} (hS : S[n]? = some (.dic ks)) (hk : pureK ks = true) (h : sem [.oid 0] [.dic ks] = .ex C fs (.dic ks :: S')) (hd : pureF fs = true) : callSub sem [.oid n] S = .ex C fs S := by
  unfold callSub
  rw [sub_d1 hS hk]
  have e2 : subOf S [n] = [.dic ks] := by
    unfold subOf
    simp [hS]
  simp only [e2, h, hd]
  rw [if_pos (show [n].Nodup by simp)]
  have q : (List.all (List.take [n].length (SO.dic ks :: S')) SO.pure && decide ([n].length ≤ (SO.dic ks :: S').length)) = true := by
    simp [SO.pure, hk]
  rw [q]
  simp only [Bool.and_self, if_true]
  obtain ⟨hn, e⟩ := List.getElem?_eq_some_iff.mp hS
  have : putBack S [n] (SO.dic ks :: S') = S := by
    unfold putBack
    rw [← e, List.set_getElem_self hn]
    unfold putBack
    rfl
  rw [this]
theorem rows_odd {d : D} {S : Store} (hp : gIsi [d, .ty "str"] S = .ok (.bl false) S) : S_rows_of [d] S = .ex "BadText" [("row", .int 0)] S := by
  unfold S_rows_of m_rows_of
  rw [e_semOf]
  have st : startD 4 [d] = [some d, none, none, none] := rfl
  rw [st]
  simp only [e_gSeq, e_gIf, e_fNotT, e_toB, e_fCB, e_fCons, e_fVar, e_fC, List.getElem?_cons_zero, Res.bind_ok, hp]
  simp [gRaiX]
theorem web_odd {d : D} {S : Store} (h : callSub S_rows_of [d] S = .ex "BadText" [("row", .int 0)] S) : S_read_web [d] S = .ex "BadText" [("row", .int 0)] S := by
  unfold S_read_web
  rw [zrw_eq, e_semOf]
  have st : startD 9 [d] = [some d, none, none, none, none, none, none, none, none] := rfl
  rw [st]
  unfold zrw
  have v0 : zrw0 [some d, none, none, none, none, none, none, none, none] S = .ex "BadText" [("row", .int 0)] [some d, none, none, none, none, none, none, none, none] S := by
    unfold zrw0
    simp [h]
  rw [e_gSeq, v0]
  rfl
theorem said_pure {d : D} (hd : d.pure = true) (hp : ∀ S, gIsi [d, .ty "str"] S = .ok (.bl false) S) (S : Store) : callSub S_p_law_said [d] S = .ok (.int 0) S := by
  have pa : pureL [d] = true := by simp [pureL, hd]
  have c1 : ∀ S, callSub S_rows_of [d] S = .ex "BadText" [("row", .int 0)] S := fun S => callSub_exF pa (rows_odd (hp [])) rfl
  have c2 : ∀ S, callSub S_read_web [d] S = .ex "BadText" [("row", .int 0)] S := fun S => callSub_exF pa (web_odd (c1 [])) rfl
  exact callSub_ok pa (said_row (c2 [])) rfl
theorem isi_dic (ks : List (Key × D)) : gIsi [.oid 0, .ty "str"] [.dic ks] = .ok (.bl false) [.dic ks] := by
  simp [isiT, tyS]
theorem said_dic {S : Store} {n : Nat} {ks : List (Key × D)} (hS : S[n]? = some (.dic ks)) (hk : pureK ks = true) : callSub S_p_law_said [.oid n] S = .ok (.int 0) S := by
  have c1 : callSub S_rows_of [.oid 0] [.dic ks] = .ex "BadText" [("row", .int 0)] [.dic ks] := callSub_d1x (S' := []) rfl hk (rows_odd (isi_dic ks)) rfl
  have c2 : callSub S_read_web [.oid 0] [.dic ks] = .ex "BadText" [("row", .int 0)] [.dic ks] := callSub_d1x (S' := []) rfl hk (web_odd c1) rfl
  exact callSub_d1 (S' := []) hS hk (said_row c2) rfl
theorem c_said {t : List Nat} (h : txOk t) (S : Store) : callSub S_p_law_said [sD t] S = .ok (resD (rdT t)) S := callSub_ok (by rfl) (said_ok h []) (resD_pure _)
end K03

/-! Odd things; what is told of a refusal. (RAISED stands for the class of the law.) -/
namespace K03
open PySem L2 DL
/-- a thing that is no number of one of N -/
inductive Odd (N : Nat) : D → Prop
  | int (i : Int) : -1000000 ≤ i → i < 2000000000000 → (i < 0 ∨ (N : Int) ≤ i) → Odd N (.int i)
  | bl (b : Bool) : Odd N (.bl b)
  | non : Odd N .non
  | str (s : Str) : (s.cps.toList.all (fun c => decide (c ≠ 10) && decide (c < 128)) && decide (s.cps.toList.length ≤ 40)) = true → Odd N (.str s)
  | t1 : Odd N (.tup [.int 1])
  | ta : Odd N (.tup [.str "at", .int 0])
  | l0 : Odd N (.lst [.int 0])
  | dic : Odd N (.dic [])
theorem Odd.pure {N : Nat} {d : D} (h : Odd N d) : d.pure = true := by
  cases h <;> rfl
theorem at12 {a b c d e f g h i j k l : D} (v : Int) : ∃ x, atI [a, b, c, d, e, f, g, h, i, j, k, l] (v % 12) = some x ∧ (x = a ∨ x = b ∨ x = c ∨ x = d ∨ x = e ∨ x = f ∨ x = g ∨ x = h ∨ x = i ∨ x = j ∨ x = k ∨ x = l) := by
  have h0 : v % 12 = 0 ∨ v % 12 = 1 ∨ v % 12 = 2 ∨ v % 12 = 3 ∨ v % 12 = 4 ∨ v % 12 = 5 ∨ v % 12 = 6 ∨ v % 12 = 7 ∨ v % 12 = 8 ∨ v % 12 = 9 ∨ v % 12 = 10 ∨ v % 12 = 11 := by omega
  rcases h0 with q | q | q | q | q | q | q | q | q | q | q | q <;> rw [q]
  · exact ⟨a, rfl, by simp⟩
  · exact ⟨b, rfl, by simp⟩
  · exact ⟨c, rfl, by simp⟩
  · exact ⟨d, rfl, by simp⟩
  · exact ⟨e, rfl, by simp⟩
  · exact ⟨f, rfl, by simp⟩
  · exact ⟨g, rfl, by simp⟩
  · exact ⟨h, rfl, by simp⟩
  · exact ⟨i, rfl, by simp⟩
  · exact ⟨j, rfl, by simp⟩
  · exact ⟨k, rfl, by simp⟩
  · exact ⟨l, rfl, by simp⟩
theorem p1012 (S : Store) : gPow (.int 10) (.int 12) S = .ok (.int 1000000000000) S := by
  have h : cPow 10 12 = true := @decide_eq_true _ (Classical.propDecidable _) (by decide)
  simp [gPow, gI, h]
theorem odd_draw (N : Nat) (hN : N ≤ 1000) (v : Int) : ∃ d v', S_p_law_odd [.oid 0] [.lst [.int v]] = .ok d [.lst [.int v']] ∧ Odd N d := by
  have nx : ∀ (v m : Int), 0 < m → m < 1073741824 → callSub S_p_law_next [.oid 0, .int m] [.lst [.int v]] = .ok (.int (v % m)) [.lst [.int (v / m)]] := fun v m h h2 => c_next (n := 0) (by rfl) m h h2
  obtain ⟨x, hx, ho⟩ := at12 (a := .bl true) (b := .bl false) (c := .non) (d := .str "1") (e := .str "") (f := .tup [.int 1]) (g := .lst [.int 0]) (h := .dic []) (i := .tup [.str "at", .int 0]) (j := .int (1000000000000 + v % 1000000000)) (k := .int (-7)) (l := .str "tie") (v / 1000000000)
  refine ⟨x, v / 1000000000 / 12, ?_, ?_⟩
  · unfold S_p_law_odd m_p_law_odd
    simp [nx, p109, p1012, fDictE, hx, short_le]
  · rcases ho with rfl | rfl | rfl | rfl | rfl | rfl | rfl | rfl | rfl | rfl | rfl | rfl
    · exact .bl _
    · exact .bl _
    · exact .non
    · exact .str _ (by decide +kernel)
    · exact .str _ (by decide +kernel)
    · exact .t1
    · exact .l0
    · exact .dic
    · exact .ta
    · exact .int _ (by omega) (by omega) (.inr (by omega))
    · exact .int _ (by omega) (by omega) (.inl (by omega))
    · exact .str _ (by decide +kernel)
end K03

/-! The law. -/
namespace K03
open PySem L2 DL TY NumText
abbrev eC (w : Wb) : Option D := some (.lst (w.cells.map dC))
abbrev eP (w : Wb) : Option D := some (.lst (w.pegs.map dV))
section
variable (T : Store)
theorem b4_ok (x0 x1 x3 x4 x5 x6 x7 x8 x9 x10 x11 x12 : Option D) (v : Int) : ∃ (w : Wb) (v' : Int), w.ok ∧ w.cells.length ≤ 5 ∧ w.pegs.length ≤ 4 ∧ zlw0b4 [x0, x1, some (.oid T.length), x3, x4, x5, x6, x7, x8, x9, x10, x11, x12] (st1 T v) = .nx [x0, x1, some (.oid T.length), x3, x4, x5, eC w, eP w, x8, x9, x10, x11, x12] (st1 T v') := by
  obtain ⟨w, v', h2, ok, lc, lp⟩ := web_draw 5 (by decide) v
  have h3 : callSub S_p_law_web [.oid T.length, .int 5] (st1 T v) = .ok (.tup [.lst (w.cells.map dC), .lst (w.pegs.map dV)]) (st1 T v') := by
    have q := callSub_st (n := T.length) (S := st1 T v) (xs := [.int v]) (ys := [.int v']) (get_last T _) (by rfl) (by rfl) h2 (by simp [D.pure, pureL, dCs_pure, dVs_pure]) (by rfl)
    rw [set_last] at q
    exact q
  refine ⟨w, v', ok, lc, lp, ?_⟩
  unfold zlw0b4
  simp [h3]
theorem b5_ok {w : Wb} (ok : w.ok) (lc : w.cells.length ≤ 5) (lp : w.pegs.length ≤ 4) (x0 x1 x2 x3 x4 x5 x8 x9 x10 x11 x12 : Option D) (S : Store) : zlw0b5 [x0, x1, x2, x3, x4, x5, eC w, eP w, x8, x9, x10, x11, x12] S = .nx [x0, x1, x2, x3, x4, x5, eC w, eP w, some (sD (TX.jn 10 (rowsL w) ++ [10])), x9, x10, x11, x12] S := by
  obtain ⟨S1, h5⟩ := lrows_ok ok (show w.cells.length ≤ 60 by omega) (show w.pegs.length ≤ 40 by omega)
  have pr : pureL ((rowsL w).map sD) = true := sDs_pure _
  have h6 : callSub S_p_law_rows [.lst (w.cells.map dC), .lst (w.pegs.map dV)] S = .ok (.lst ((rowsL w).map sD)) S := callSub_ok (by simp [pureL, D.pure, dCs_pure, dVs_pure]) h5 (by simpa [D.pure] using pr)
  obtain ⟨r1, r2⟩ := rowsL_len ok (show w.cells.length ≤ 60 by omega) (show w.pegs.length ≤ 40 by omega)
  have jo := join_s S (c := 10) (d := .lst ((rowsL w).map sD)) (ps := rowsL w) rfl (by omega)
  have jl := jn_len 10 (rowsL w)
  have ad := add_s S (a := TX.jn 10 (rowsL w)) (b := [10]) (by rw [List.length_singleton]; omega)
  generalize (rowsL w).map sD = L at *
  generalize TX.jn 10 (rowsL w) = J at *
  unfold zlw0b5
  simp [h6, t_nl, jo, tyS, ad]
def mF : Nat → Nat
  | 0 => 91
  | n + 1 => 2 * mF n + 1
theorem b6_ok {l : List Nat} (h : tOk 9 91 l) (x0 x1 x3 x4 x5 x6 x7 x9 x10 x11 x12 : Option D) (v : Int) : ∃ (l' : List Nat) (y9 : Option D) (v' : Int), tOk 12 735 l' ∧ zlw0b6 [x0, x1, some (.oid T.length), x3, x4, x5, x6, x7, some (sD l), x9, x10, x11, x12] (st1 T v) = .nx [x0, x1, some (.oid T.length), x3, x4, x5, x6, x7, some (sD l'), y9, x10, x11, x12] (st1 T v') := by
  obtain ⟨k, v1, hk, q1⟩ := nx_last T v 3 (by decide) (by decide)
  have q1 : callSub S_p_law_next [.oid T.length, .int 3] (st1 T v) = .ok (.int (k : Nat)) (st1 T v1) := q1
  obtain ⟨ρ', S', lo, y8, y9, v', rfl, rfl, fin⟩ := loop_inv (m := mName 9) (b := zlw0b6b0) (fun j ρ S => ∃ (y : List Nat) (y9 : Option D) (v' : Int), ρ = [x0, x1, some (.oid T.length), x3, x4, x5, x6, x7, some (sD y), y9, x10, x11, x12] ∧ S = st1 T v' ∧ tOk (9 + j) (mF j) y)
    (rng 0 (1 + k)) 0 [x0, x1, some (.oid T.length), x3, x4, x5, x6, x7, some (sD l), x9, x10, x11, x12] (st1 T v1) ⟨l, x9, v1, rfl, rfl, h⟩ (by
    rintro j e ρ S hd ⟨y, y9, u, rfl, rfl, ty⟩
    obtain ⟨rfl, hj⟩ := rng_get hd
    have j3 : j ≤ 2 := by omega
    have mj : mF (0 + j) ≤ 400 := by
      have : j = 0 ∨ j = 1 ∨ j = 2 := by omega
      rcases this with rfl | rfl | rfl <;> decide
    obtain ⟨y', u', S2, ty', q⟩ := spoilt_ok ty (by omega) mj u
    have q2 := callSub_st (n := T.length) (S := st1 T u) (xs := [.int u]) (ys := [.int u']) (args := [sD y]) (get_last T _) (by rfl) (by rfl) q (by rfl) (by rfl)
    rw [set_last] at q2
    refine ⟨[x0, x1, some (.oid T.length), x3, x4, x5, x6, x7, some (sD y), some (.int (0 + (j : Nat))), x10, x11, x12], [x0, x1, some (.oid T.length), x3, x4, x5, x6, x7, some (sD y'), some (.int (0 + (j : Nat))), x10, x11, x12], st1 T u', rfl, .inl ?_, y', _, u', rfl, rfl, ty'⟩
    unfold zlw0b6b0
    simp [q2])
  refine ⟨y8, y9, v', ?_, ?_⟩
  · rw [rng_length] at fin
    refine fin.mono (by omega) ?_
    have : k = 0 ∨ k = 1 ∨ k = 2 := by omega
    rcases this with rfl | rfl | rfl <;> decide
  · have fi : fRng1 (fCons (fBin gAdd (fC (.int 1)) (fCall (callSub S_p_law_next) (fun ds es => pick [(0, 0), (0, 1)] ds es []) 2 0 2 (fCons (fVar 2) (fCons (fC (.int 3)) (fun _ S => .ok [] S))) (fun _ S => .ok [] S))) (fun _ S => .ok [] S)) [x0, x1, some (.oid T.length), x3, x4, x5, x6, x7, some (sD l), x9, x10, x11, x12] (st1 T v) = .ok ⟨rng 0 (1 + k), none⟩ (st1 T v1) := by
      have c : cRng (1 + (k : Int)) = true := by
        have := cRng_nat (show 1 + k < 1000000 by omega)
        have e : ((1 + k : Nat) : Int) = 1 + (k : Int) := by omega
        rw [e] at this
        exact this
      simp [q1, c]
    unfold zlw0b6
    rw [e_gFor, fi]
    simp only [Res.into_ok]
    exact lo
theorem b7_ok {t u : List Nat} (ht : tOk 30 900 t) (hu : tOk 30 900 u) (x0 x1 x2 x3 x4 x6 x7 x9 x10 x11 x12 : Option D) (S : Store) : zlw0b7 [x0, x1, x2, x3, x4, some (sD t), x6, x7, some (sD u), x9, x10, x11, x12] S = .nx [x0, x1, x2, x3, x4, some (sD t), x6, x7, some (sD u), x9, x10, x11, x12] S := by
  have tt := ht.tx (Nat.le_refl _) (Nat.le_refl _)
  have tu := hu.tx (Nat.le_refl _) (Nat.le_refl _)
  obtain ⟨a1, a2, a3⟩ := resD_sim tt (cut_le ht)
  obtain ⟨b1, b2, b3⟩ := resD_sim tu (cut_le hu)
  have s1 := c_said tt S
  have s2 := c_said tu S
  have r1 := c_lread tt S
  have r2 := c_lread tu S
  have rp := repr_D (d := .lst [resD (rdT t), resD (rdT u)]) (by simp only [D.sim, simL, a1, b1, Bool.and_self]) (by simp only [D.dep, depL]; omega) (by simp only [D.wt, wtL]; omega) S
  generalize (D.lst [resD (rdT t), resD (rdT u)]).py.shown = z at *
  generalize resD (rdT t) = A at *
  generalize resD (rdT u) = B at *
  have sh : short 2 = true := short_le (by omega)
  unfold zlw0b7
  simp [s1, s2, r1, r2, sh, rp]
/-- a thing that is a text, or is refused as none -/
def Th (d : D) (S : Store) : Prop := (∃ l, d = sD l ∧ tOk 13 44 l) ∨ (gIsi [d, .ty "str"] S = .ok (.bl false) S ∧ callSub S_p_law_said [d] S = .ok (.int 0) S)
theorem b9_ok {d : D} {S : Store} (h : Th d S) (x0 x1 x2 x3 x4 x5 x6 x7 x8 x9 x11 x12 : Option D) : ∃ y11, zlw0b9 [x0, x1, x2, x3, x4, x5, x6, x7, x8, x9, some d, x11, x12] S = .nx [x0, x1, x2, x3, x4, x5, x6, x7, x8, x9, some d, y11, x12] S ∧ zlw0b10 [x0, x1, x2, x3, x4, x5, x6, x7, x8, x9, some d, y11, x12] S = .nx [x0, x1, x2, x3, x4, x5, x6, x7, x8, x9, some d, y11, x12] S := by
  rcases h with ⟨l, rfl, hl⟩ | ⟨h1, h2⟩
  · have tl := (hl.mono (show 13 ≤ 30 by decide) (show 44 ≤ 900 by decide)).tx (Nat.le_refl _) (Nat.le_refl _)
    obtain ⟨a1, a2, a3⟩ := resD_sim tl (Nat.le_trans (cut_le hl) (by decide))
    have s1 := c_said tl S
    have r1 := c_lread tl S
    have rp := repr_D (d := resD (rdT l)) a1 (by omega) (by omega) S
    generalize (resD (rdT l)).py.shown = z at *
    generalize resD (rdT l) = A at *
    refine ⟨some A, ?_, ?_⟩
    · unfold zlw0b9
      simp [isiT, r1]
    · unfold zlw0b10
      simp [s1, rp]
  · refine ⟨some (.int 0), ?_, ?_⟩
    · unfold zlw0b9
      simp only [e_gSet, e_fIf, e_toB, e_fCB, e_fCons, e_fVar, e_fC, List.getElem?_cons_succ, List.getElem?_cons_zero, Res.bind_ok, h1]
      simp
    · have rp := repr_D (d := .int 0) (by decide) (by decide) (by decide) S
      generalize (D.int 0).py.shown = z at *
      unfold zlw0b10
      simp [h2, rp]
theorem atL {L : List D} {k : Nat} (hk : k < L.length) : atI L (k : Int) = some L[k] := by simp [atI, ixN, hk]
theorem b8_ok {t : List Nat} (ht : tOk 13 44 t) (x0 x1 x3 x4 x6 x7 x8 x9 x10 x11 x12 : Option D) (v : Int) : ∃ (d : D) (S' : Store), Th d S' ∧ zlw0b8 [x0, x1, some (.oid T.length), x3, x4, some (sD t), x6, x7, x8, x9, x10, x11, x12] (st1 T v) = .nx [x0, x1, some (.oid T.length), x3, x4, some (sD t), x6, x7, x8, x9, some d, x11, x12] S' := by
  obtain ⟨o, v1, q1, od⟩ := odd_draw 1 (by decide) v
  have c1 : callSub S_p_law_odd [.oid T.length] (st1 T v) = .ok o (st1 T v1) := by
    have q := callSub_st (n := T.length) (S := st1 T v) (xs := [.int v]) (ys := [.int v1]) (args := []) (get_last T _) (by rfl) (by rfl) q1 od.pure (by rfl)
    rw [set_last] at q
    exact q
  obtain ⟨ks, hks⟩ : ∃ ks : List (Key × D), ks = [(.inr (tx t), .int 1)] := ⟨_, rfl⟩
  have S2 : ∀ x : Int, (st1 T x ++ [SO.dic ks])[T.length]? = some (.lst [.int x]) := fun x => by
    rw [List.getElem?_append_left (by simp), get_last]
  have S3 : ∀ x : Int, (st1 T x ++ [SO.dic ks])[T.length + 1]? = some (.dic ks) := fun x => by
    rw [List.getElem?_append_right (by simp)]
    simp
  obtain ⟨k, v2, hk, q2⟩ := nx_nat (S2 v1) 4 (by decide) (by decide)
  have e2 : (st1 T v1 ++ [SO.dic ks]).set T.length (.lst [.int v2]) = st1 T v2 ++ [SO.dic ks] := by
    rw [List.set_append_left _ _ (by simp), set_last]
  rw [e2] at q2
  have q2 : callSub S_p_law_next [.oid T.length, .int 4] (T ++ [SO.lst [.int v1]] ++ [SO.dic ks]) = .ok (.int (k : Nat)) (T ++ [SO.lst [.int v2]] ++ [SO.dic ks]) := q2
  have fd : dispAt (T.length + 1) [(sD t, .int 1)] (T ++ [SO.lst [.int v1], SO.dic []]) = .ok (.oid (T.length + 1)) (T ++ [SO.lst [.int v1], SO.dic ks]) := by
    subst hks
    have g : (T ++ [SO.lst [.int v1], SO.dic []])[T.length + 1]? = some (.dic []) := by
      rw [List.getElem?_append_right (by omega)]
      simp
    have st : (T ++ [SO.lst [.int v1], SO.dic []]).set (T.length + 1) (.dic [(.inr (tx t), .int 1)]) = T ++ [SO.lst [.int v1], .dic [(.inr (tx t), .int 1)]] := by
      rw [List.set_append_right _ _ (by omega)]
      simp
    have kk' : keysK [(sD t, .int 1)] = some [(.inr (tx t), .int 1)] := by simp [keysK, keyD]
    have mg : mergeD [] [(.inr (tx t), D.int 1)] = [(.inr (tx t), .int 1)] := by simp [mergeD, putKD]
    unfold dispAt
    simp only [kk', g, mg]
    rw [if_pos (by simp), st]
  have pk : pureK ks = true := by
    subst hks
    simp [pureK, D.pure]
  obtain ⟨d, hd, th⟩ : ∃ d, atI [o, .lst [sD t], .tup [sD t], .oid (T.length + 1)] (k : Int) = some d ∧ Th d (T ++ [SO.lst [.int v2]] ++ [SO.dic ks]) := by
    have h4 : k = 0 ∨ k = 1 ∨ k = 2 ∨ k = 3 := by omega
    rcases h4 with rfl | rfl | rfl | rfl
    · refine ⟨o, atL (L := [o, .lst [sD t], .tup [sD t], .oid (T.length + 1)]) (k := 0) (by simp), ?_⟩
      cases od with
      | str s hs =>
        obtain ⟨l, e, pl⟩ := pc_ok (d := .str s) hs
        have := tOk_rows (M := 40) (ps := [l]) fun p hp => by
          rw [List.mem_singleton.mp hp]
          exact pl
        exact .inl ⟨l, e, this.mono (by simp) (by decide)⟩
      | int i _ _ _ => exact .inr ⟨by simp [isiT], said_pure rfl (fun S => by simp [isiT]) _⟩
      | bl b => exact .inr ⟨by simp [isiT], said_pure rfl (fun S => by simp [isiT]) _⟩
      | non => exact .inr ⟨by simp [isiT], said_pure rfl (fun S => by simp [isiT]) _⟩
      | t1 => exact .inr ⟨by simp [isiT], said_pure rfl (fun S => by simp [isiT]) _⟩
      | ta => exact .inr ⟨by simp [isiT], said_pure rfl (fun S => by simp [isiT]) _⟩
      | l0 => exact .inr ⟨by simp [isiT], said_pure rfl (fun S => by simp [isiT]) _⟩
      | dic => exact .inr ⟨by simp [isiT, tyS], said_pure rfl (fun S => by simp [isiT, tyS]) _⟩
    · exact ⟨.lst [sD t], atL (L := [o, .lst [sD t], .tup [sD t], .oid (T.length + 1)]) (k := 1) (by simp), .inr ⟨by simp [isiT], said_pure rfl (fun S => by simp [isiT]) _⟩⟩
    · exact ⟨.tup [sD t], atL (L := [o, .lst [sD t], .tup [sD t], .oid (T.length + 1)]) (k := 2) (by simp), .inr ⟨by simp [isiT], said_pure rfl (fun S => by simp [isiT]) _⟩⟩
    · exact ⟨.oid (T.length + 1), atL (L := [o, .lst [sD t], .tup [sD t], .oid (T.length + 1)]) (k := 3) (by simp), .inr ⟨by have := S3 v2; simp [isiT, tyS] at this ⊢, said_dic (S3 v2) pk⟩⟩
  refine ⟨d, T ++ [SO.lst [.int v2]] ++ [SO.dic ks], th, ?_⟩
  have sh4 : short 4 = true := short_le (by omega)
  have sh1 : short 1 = true := short_le (by omega)
  have q3 : callSub S_p_law_next [.oid T.length, .int 4] (T ++ [SO.lst [.int v1], SO.dic ks]) = .ok (.int (k : Nat)) (T ++ [SO.lst [.int v2], SO.dic ks]) := by simpa using q2
  generalize D.oid (T.length + 1) = dd at *
  unfold zlw0b8
  simp [c1, fd, sh1, sh4, q3, hd]
end
end K03

/-! The law: every script. -/
namespace K03
open PySem L2 DL TY NumText
theorem body_ok (ns : List Int) (k : Nat) (x2 x3 x4 x5 x6 x7 x8 x9 x10 x11 x12 : Option D) (T : Store) : ∃ y2 y3 y4 y5 y6 y7 y8 y9 y10 y11 y12 T', zlw0b [sc ns, kk k, x2, x3, x4, x5, x6, x7, x8, x9, x10, x11, x12] T = .nx [sc ns, kk k, y2, y3, y4, y5, y6, y7, y8, y9, y10, y11, y12] T' := by
  obtain ⟨v, h1⟩ := state_ok ns k T
  have w0 : zlw0b0 [sc ns, kk k, x2, x3, x4, x5, x6, x7, x8, x9, x10, x11, x12] T = .nx [sc ns, kk k, some (.oid T.length), x3, x4, x5, x6, x7, x8, x9, x10, x11, x12] (st1 T v) := by
    unfold zlw0b0
    simp [h1]
  obtain ⟨ps, v1, p1, p2, w1⟩ := b1_ok T (sc ns) (kk k) x3 x4 x5 x6 x7 x8 x9 x10 x11 x12 v
  obtain ⟨es, v2, e1, e2, w2⟩ := b2_ok T (sc ns) (kk k) (some (.lst (ps.map sD))) x4 x5 x6 x7 x8 x9 x10 x11 x12 v1
  obtain ⟨t, v3, t1, w3⟩ := b3_ok T p1 p2 e1 e2 (sc ns) (kk k) x5 x6 x7 x8 x9 x10 x11 x12 v2
  obtain ⟨w, v4, ok, lc, lp, w4⟩ := b4_ok T (sc ns) (kk k) (some (.lst (ps.map sD))) (some (.lst (es.map sD))) (some (sD t)) x6 x7 x8 x9 x10 x11 x12 v3
  have w5 := b5_ok ok lc lp (sc ns) (kk k) (some (.oid T.length)) (some (.lst (ps.map sD))) (some (.lst (es.map sD))) (some (sD t)) x8 x9 x10 x11 x12 (st1 T v4)
  obtain ⟨u, y9, v6, u1, w6⟩ := b6_ok T (web_text5 ok lc lp) (sc ns) (kk k) (some (.lst (ps.map sD))) (some (.lst (es.map sD))) (some (sD t)) (eC w) (eP w) x9 x10 x11 x12 v4
  have w7 := b7_ok (t1.mono (show 13 ≤ 30 by decide) (show 44 ≤ 900 by decide)) (u1.mono (show 12 ≤ 30 by decide) (show 735 ≤ 900 by decide)) (sc ns) (kk k) (some (.oid T.length)) (some (.lst (ps.map sD))) (some (.lst (es.map sD))) (eC w) (eP w) y9 x10 x11 x12 (st1 T v6)
  obtain ⟨d, S8, th, w8⟩ := b8_ok T t1 (sc ns) (kk k) (some (.lst (ps.map sD))) (some (.lst (es.map sD))) (eC w) (eP w) (some (sD u)) y9 x10 x11 x12 v6
  obtain ⟨y11, w9, w10⟩ := b9_ok th (sc ns) (kk k) (some (.oid T.length)) (some (.lst (ps.map sD))) (some (.lst (es.map sD))) (some (sD t)) (eC w) (eP w) (some (sD u)) y9 x11 x12
  refine ⟨some (.oid T.length), some (.lst (ps.map sD)), some (.lst (es.map sD)), some (sD t), eC w, eP w, some (sD u), y9, some d, y11, x12, S8, ?_⟩
  unfold zlw0b
  rw [e_gSeq, w0, Out.seq_nx, e_gSeq, w1, Out.seq_nx, e_gSeq, w2, Out.seq_nx, e_gSeq, w3, Out.seq_nx, e_gSeq, w4, Out.seq_nx, e_gSeq, w5, Out.seq_nx, e_gSeq, w6, Out.seq_nx, e_gSeq, w7, Out.seq_nx, e_gSeq, w8, Out.seq_nx, e_gSeq, w9, Out.seq_nx, w10]
theorem good (ns : List Int) (hn : ns.length ≤ 63) : ∃ S, S_law [.scr (ns.map D.int)] [] = .ok (.bl true) S := by
  obtain ⟨m, hm, hm2⟩ : ∃ m : Nat, (if (1 : Int) < ns.length then (ns.length : Int) else 1) = (m : Int) ∧ m < 1000000 := by
    by_cases h : (1 : Int) < ns.length
    · exact ⟨ns.length, by rw [if_pos h], by omega⟩
    · exact ⟨1, by rw [if_neg h]; rfl, by decide⟩
  obtain ⟨ρ', S', hl, y1, y2, y3, y4, y5, y6, y7, y8, y9, y10, y11, y12, rfl⟩ := loop_inv (m := mName 1) (b := zlw0b) (fun j ρ S => ∃ y1 y2 y3 y4 y5 y6 y7 y8 y9 y10 y11 y12, ρ = [sc ns, y1, y2, y3, y4, y5, y6, y7, y8, y9, y10, y11, y12])
    (rng 0 m) 0 [sc ns, none, none, none, none, none, none, none, none, none, none, none, none] [] ⟨none, none, none, none, none, none, none, none, none, none, none, none, rfl⟩ (by
    rintro j e ρ S hd ⟨y1, y2, y3, y4, y5, y6, y7, y8, y9, y10, y11, y12, rfl⟩
    obtain ⟨rfl, hj⟩ := rng_get hd
    have e : (0 : Int) + (j : Nat) = (j : Nat) := by omega
    rw [e]
    obtain ⟨z2, z3, z4, z5, z6, z7, z8, z9, z10, z11, z12, T', hb⟩ := body_ok ns j y2 y3 y4 y5 y6 y7 y8 y9 y10 y11 y12 S
    exact ⟨_, _, _, rfl, .inl hb, _, _, _, _, _, _, _, _, _, _, _, _, rfl⟩)
  refine ⟨S', ?_⟩
  unfold S_law
  rw [zlw_eq, e_semOf]
  unfold zlw zlw0
  rw [e_gSeq, e_gFor]
  have st : startD 13 [D.scr (ns.map D.int)] = [sc ns, none, none, none, none, none, none, none, none, none, none, none, none] := rfl
  rw [st]
  have fi : fRng1 (fCons (fCB gMax (fCons (fC (.int 1)) (fCons (fCB gLen (fCons (fVar 0) fNo)) fNo))) fNo) [sc ns, none, none, none, none, none, none, none, none, none, none, none, none] [] = .ok ⟨rng 0 m, none⟩ [] := by
    rw [e_fRng1]
    simp only [e_fCons, e_fCB, e_fC, e_fVar, List.getElem?_cons_zero, Res.bind_ok, e_len_s, List.length_map, e_max2, hm, cRng_nat hm2, if_true]
  rw [fi]
  simp only [Res.into_ok]
  rw [hl, Out.seq_nx]
  unfold zlw1
  rw [e_gRet]
  rfl
end K03

open PySem PySem.W PySem.Calls PyProof.Rows
theorem PySem.Challenge.cw_reachyard_k12_rows_refused_in_turn_holds : PySem.Challenge.rw_reachyard_k12_rows_refused_in_turn.Holds := by
  w_on; o_law
  refine HandSHeadRun.head_any (r := OpenLaw.row PySem.Challenge.rw_reachyard_k12_rows_refused_in_turn) (q := view (OpenLaw.row PySem.Challenge.rw_reachyard_k12_rows_refused_in_turn).prog [60]) (H := K03.hk) (ob := K03.ob) (M := 40000) (loose := K03.loose) (d := HandSHeadRun.topDef (OpenLaw.row PySem.Challenge.rw_reachyard_k12_rows_refused_in_turn).prog 60) (kwd := []) K03.ob_eq
    (by kernel_rfl) (fun s => by kernel_rfl) K03.run (by kernel_rfl) (by kernel_rfl) (by kernel_rfl) (by rfl) (by first | assumption | decide +kernel) (by decide +kernel) ⟨rfl, rfl, rfl, rfl, rfl, by decide +kernel⟩ ?hw ?hc
  case hw => w_witness2
  case hc =>
    refine DL.walk_ofG (l := PySem.Challenge.rw_reachyard_k12_rows_refused_in_turn) (n := 63) (k := 10) (x := "_law_script") (sem := K03.S_law) rfl (by decide) (by kernel_rfl) ⟨rfl, by decide, by decide⟩ K03.good ?F
    intro w mg fa h Y G hmg0
    obtain ⟨K, KX, c, cx⟩ := Y
    have hmg : mg ("law" : PySem.Str) = some (.ref fa) := by
      have e : (HandSHeadRun.topDef (OpenLaw.row PySem.Challenge.rw_reachyard_k12_rows_refused_in_turn).prog 60).name = ("law" : PySem.Str) := by kernel_rfl
      rw [← e]
      exact hmg0
    have T := K03.txt_of KX G c cx
    have e := hmg.symm.trans (K03.glo_law T)
    cases e
    obtain ⟨fd, F⟩ := K03.fun_law T
    refine ⟨K, fd, KX, fun s v => L2.FunD.bindsA (ps := ["_law_script"]) F (fun _ _ _ _ _ _ us hl => match us, hl with | [_], _ => rfl) s [v] rfl, fun base kb gb => ?_⟩
    obtain ⟨fd2, F2, G2⟩ := K03.ok_law (P := (PySem.Challenge.rw_reachyard_k12_rows_refused_in_turn).prog) (w := w) (base := base) T
    have ed : fd2 = fd := by
      obtain ⟨_, _, _, _, _, _, _, _, _, _, e1, l1, _⟩ := F.ex
      obtain ⟨_, _, _, _, _, _, _, _, _, _, e2, l2, _⟩ := F2.ex
      rw [l1] at l2
      cases l2
      rfl
    rw [ed] at G2
    exact G2

