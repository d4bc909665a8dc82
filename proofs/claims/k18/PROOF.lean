import PyProof.Rows.All
import Wide.All
import OpenK.AllK
import Wide.FinOn
import HandS.ForMost
import HandS.ForExc
import HandS.Exc
import HandS.TryOnly
import HandS.ExcOwn
import HandS.Defaults
import HandS.IsInst
import HandS.Flow
import HandS.Wide
import HandS.Lambda
import HandS.HeadHook4
import HandS.ExcCtx
import HandS.MakeKwOnly
import HandS.Small
import HandS.SortInts
import HandS.Conv
import HandS.SetFor
import KE.GoesEnum
import KE.KDictZip
import KE.KDictItemsList
import KE.KUnpackStar
import HandS.Ends
import HandS.HeadEnd
import HandS.Head0
import HandS.Head1
import HandS.Head2
import HandS.HeadHook1
import HandS.HeadHook2
import HandS.DictComp
import HandS.Deep
import HandS.OwnEq
import HandS.Style
import HandS.Text
import HandS.FStr
import PyProof.StrOps2
import HandS.ExcIs
import HandS.TryMany
import HandS.EndTab
import KE.DataMinMax
import KE.SortData
import HandS.NoneIn
import HandS.ClsMeth
import KE.GoesSet
import KE.GoesMore
import PyProof.InstNe
import HandS.Zip
import HandS.TupMul
import HandS.More
import HandS.HeadHook3
import KE.KDictCopyH
import HandS.HotCalls
import KE.KDictKeyed
import HandS.ExcInit
import HandS.ExcField
import KE.KExcIs
import PyProof.Rows.StrMeet
import HandS.WideMore
import KE.KCallOwn
import HandS.RaiseMore
import PySem.Challenge.RW_reachyard_k18_programs_told_or_refused
import PyProof.Rows.StrDigitsNeg
set_option Elab.async false
set_option maxRecDepth 100000
set_option maxHeartbeats 0
set_option linter.all false
namespace DL
open PySem L2

/-- data: what a value is worth; oid: an object of the store -/
inductive D where
  | non | bl (b : Bool) | int (i : Int) | str (x : Str) | ty (n : String)
  | cls (c : Str) | tup (xs : List D) | lst (xs : List D) | scr (xs : List D) | dic (kvs : List (Key × D)) | ins (C : Str) (fs : List (Str × D)) | oid (n : Nat) | exc (C : Str) (fs : List (Str × D))
end DL

namespace DL
open PySem L2

end DL

namespace DL
open PySem L2

end DL

namespace DL
open PySem L2

end DL

namespace DL
open PySem L2

end DL

namespace DL
open PySem L2

end DL

namespace DL
open PySem L2

end DL

namespace DL
open PySem L2

end DL

namespace DL
open PySem L2

section
variable {X : Cx} {W : WX} {k : Nat} {a b c e : Expr} {es : List Expr} {fa fb fc fe : FE} {pos : Pos}
def valD (ks : List (Key × D)) (k : Key) : Option D := (ks.find? fun q => decide (q.1 = k)).map (·.2)
end
end DL

namespace DL
open PySem L2

end DL

namespace PySem
open PySem.Spec PyProof.Rows L2
end PySem
namespace DL
open PySem L2
end DL

namespace PySem
open PySem.Spec PySem.Calls PyProof.Rows PySem.W L2
namespace F
end F
end PySem

namespace DL
open PySem L2
end DL

namespace PySem
open PySem.Spec PySem.Calls PyProof.Rows PySem.W L2
end PySem
namespace DL
open PySem L2
end DL

namespace DL
open PySem PySem.Spec PyProof.Rows L2

end DL

namespace DL
open PySem PySem.Spec PyProof.Rows L2
end DL

namespace DL
open PySem PySem.Spec PyProof.Rows L2
end DL

namespace DL
open PySem PySem.Spec PyProof.Rows L2
end DL

namespace DL
open PySem PySem.Spec PyProof.Rows L2
end DL

namespace DL
open PySem PySem.Spec PyProof.Rows L2
end DL

namespace DL
open PySem PySem.Spec PyProof.Rows L2
end DL

namespace DL
open PySem PySem.Spec PyProof.Rows L2
end DL

namespace DL
open PySem PySem.Spec PyProof.Rows L2
end DL

namespace DL
open PySem PySem.Spec PyProof.Rows L2
end DL

namespace DL
open PySem PySem.Spec PyProof.Rows L2
end DL

namespace DL
open PySem PySem.Spec PyProof.Rows L2
end DL

namespace PySem
open PySem.Spec PySem.Calls PyProof.Rows PySem.W L2
namespace F
end F
end PySem

namespace DL
open PySem PySem.Spec PyProof.Rows L2
end DL

namespace HT
open PySem PySem.Spec PyProof.Rows
end HT
namespace L2
open PySem PySem.Spec PyProof.Rows
end L2
namespace DL
open PySem PySem.Spec PyProof.Rows L2
end DL

namespace DL
open PySem PySem.Spec PyProof.Rows L2
end DL

namespace DL
open PySem PySem.Spec PyProof.Rows L2
end DL

namespace DL
open PySem PySem.Spec PyProof.Rows L2
end DL

namespace DL
open PySem PySem.Spec PyProof.Rows L2
end DL

namespace DL
open PySem PySem.Spec PyProof.Rows L2
end DL

namespace DL
open PySem PySem.Spec PyProof.Rows L2

end DL

namespace DL
open PySem PySem.Spec PyProof.Rows L2

end DL

namespace DL
open PySem PySem.Spec PyProof.Rows L2

end DL

namespace DL
open PySem PySem.Spec PyProof.Rows L2

/-- what isinstance asks of an exception's class -/
def iseB (K : PySem.W.Frag) (c : Str) : Bool := He.eqO (PySem.W.findIn K (.ref (He.ga K c)) "__getattribute__") (some (some (.builtin "BaseException.__getattribute__"))) && (He.eqO (PySem.W.findIn K (.ref (He.ga K c)) "__getattr__") (some none) && (decide (PySem.W.subIn K (.ref (He.ga K c)) (.type "BaseException") = some true) &&
  (PySem.W.hasDictIn K (He.ga K c) && (He.eqO (PySem.W.findIn K (.ref (He.ga K c)) "__class__") (some (some (.builtin "object.__class__"))) && (He.eqO (PySem.W.specialIn K (.builtin "object.__class__") "__get__") (some (some (.builtin "getset_descriptor.__get__"))) &&
    (decide (PySem.W.takesIn K (.builtin "object.__class__") = some true) && decide (PySem.W.mroIn K (He.ga K c) (.type "object") = some true)))))))
/-- a table: which classes an except clause, isinstance takes -/
def exmT (K : PySem.W.Frag) (c : Value) (t : List (Str × Bool)) : Bool := t.all fun q => decide (PySem.W.exmOne K (.ref (He.ga K q.1)) c = some q.2)
def kitT (K : PySem.W.Frag) (c : Value) (t : List (Str × Bool)) : Bool := t.all fun q => decide (PySem.W.kitOne K (.ref (He.ga K q.1)) c = some q.2)
end DL

namespace DL
open PySem L2
end DL

namespace DL
open PySem PySem.Spec PyProof.Rows L2
end DL

namespace DL
open PySem PySem.Spec PyProof.Rows L2
end DL

namespace PySem.W
open PySem PySem.SeqAt PyProof.Rows
end PySem.W
namespace DL
open PySem PySem.Spec PySem.W PySem.SeqAt PyProof.Rows L2
end DL

namespace DL
open PySem PySem.Spec PyProof.Rows L2
end DL

namespace DL
open PySem PySem.Spec PyProof.Rows L2
end DL

namespace DL
open PySem PySem.Spec PyProof.Rows L2
end DL

namespace DL
open PySem PySem.Spec PyProof.Rows L2
end DL

namespace DL
open PySem PySem.Spec PyProof.Rows L2
end DL

namespace DL
open PySem PySem.Spec PyProof.Rows L2
end DL

namespace DL
open PySem PySem.Spec PyProof.Rows L2
end DL

namespace DL
open PySem PySem.Spec PyProof.Rows L2
end DL

namespace DL
open PySem PySem.Spec PyProof.Rows L2
end DL

namespace DL
open PySem PySem.Spec PyProof.Rows L2
def hasBit (m a : Nat) : Bool := Nat.beq (Nat.land (Nat.shiftRight m a) 1) 1
/-- what is new of some: the bits of all seen, the new ones, the last one first -/
def newB : List Addr → Nat → List Addr → Nat × List Addr
  | [], m, acc => (m, acc)
  | a :: as, m, acc => match hasBit m a with
    | true => newB as m acc
    | false => newB as (Nat.lor m (Nat.shiftLeft 1 a)) (a :: acc)
def refsB (g : Addr → Option Obj) : List Addr → List Addr
  | [] => []
  | a :: as => (match g a with
    | some o => He.refsD o
    | none => []) ++ refsB g as
def asBn (g : Addr → Option Obj) : Nat → Nat → List Addr → List Addr → List Addr
  | 0, _, _, all => all
  | n + 1, m, fr, all => match newB (refsB g fr) m [] with
    | (m', new) => asBn g n m' new (all ++ new)
def asB (g : Addr → Option Obj) (n : Nat) : List Addr := PySem.cStatics :: asBn g n (Nat.lor (Nat.shiftLeft 1 mainGlobals) (Nat.shiftLeft 1 PySem.cStatics)) [mainGlobals] [mainGlobals]
end DL

namespace DL
open PySem L2
end DL

namespace DL
open PySem L2
end DL

namespace DL
open PySem PySem.Spec PyProof.Rows L2
end DL
namespace SrtO
open PySem PyProof.Rows Srt
end SrtO
namespace DL
open PySem PySem.Spec PyProof.Rows L2
end DL

namespace DL
open PySem PySem.Spec PyProof.Rows L2
end DL

namespace L2
open PySem PySem.Spec PyProof.Rows
end L2
namespace DL
open PySem PySem.Spec PyProof.Rows L2
end DL

namespace DL
open PySem PySem.Spec PyProof.Rows L2
end DL

namespace DL
open PySem PySem.Spec PyProof.Rows L2
/-- a small value, or a def, as the written part has it -/
def okTV (K : PySem.W.Frag) : D → Value → Bool
  | .str x, .str y _ => decide (x = y)
  | .int i, .int j _ => decide (i = j)
  | .bl b, .bool c => decide (b = c)
  | .non, .none => true
  | .cls c, .ref a => decide (a = He.ga K c)
  | _, _ => false
def tabV (K : PySem.W.Frag) (a : Addr) (tab : List (Str × D)) : Bool := tab.all fun q => match PySem.W.nsIn K a q.1 with
  | some (some u) => okTV K q.2 u
  | _ => false
end DL

namespace DL
open PySem PySem.Spec PyProof.Rows L2
abbrev AlK : Type := He.AlD × Bool × List (Option (List (Option (Str × Int))))
/-- a table's name and its keys in order -/
abbrev TabN : Type := Str × List Str
def dicsK (ts : List TabN) (K : PySem.W.Frag) : List (Option (List (Option (Str × Int)))) := ts.map fun t => He.dicW K (He.ga K t.1)
def dicsW (ts : List TabN) (w : World) : List (Option (List (Option (Str × Int)))) := ts.map fun t => some (He.keysIn w.params t.2)
def obsKb (n : Nat) (fa : List He.Fa) (fn : List He.DefD) (ex : PySem.W.Frag → Bool) (ts : List TabN) (g : Addr → Option Obj) : AlK := (He.obsD fa fn (He.frG g (asB g n)), ex (He.frG g (asB g n)), dicsK ts (He.frG g (asB g n)))
def hookKb (n : Nat) (fa : List He.Fa) (fn : List He.DefD) (ex : PySem.W.Frag → Bool) (ts : List TabN) : PySem.W.Hook where
  α := AlK
  obs := fun s => obsKb n fa fn ex ts s.heap.get?
  val := fun w => (He.valD fn, true, dicsW ts w)
  says := fun w h => ∃ K : PySem.W.Frag, K.In h ∧ He.SaysD fa fn K ∧ ex K = true ∧ dicsK ts K = dicsW ts w
  of := fun _ _ e => ⟨_, He.frG_in, congrArg Prod.fst e, congrArg (fun z : AlK => z.2.1) e, congrArg (fun z : AlK => z.2.2) e⟩
  keeps := fun _ _ _ ⟨K, hK, c⟩ k => ⟨K, PySem.W.Frag.In.keeps hK k, c⟩
theorem obsKb_eq {n : Nat} {fa : List He.Fa} {fn : List He.DefD} {ex : PySem.W.Frag → Bool} {ts : List TabN} {g : Addr → Option Obj} {s : Shared} (h : ∀ a, g a = s.heap.get? a) : obsKb n fa fn ex ts g = (hookKb n fa fn ex ts).obs s := by
  have e : g = s.heap.get? := funext h
  rw [e] <;> rfl
end DL

namespace L2
open PySem PySem.Spec PyProof.Rows
end L2
namespace DL
open PySem PySem.Spec PyProof.Rows L2
end DL

namespace L2
open PySem PySem.Spec PyProof.Rows
end L2
namespace DL
open PySem PySem.Spec PyProof.Rows L2
end DL

namespace L2
open PySem PySem.Spec PyProof.Rows
end L2
namespace DL
open PySem PySem.Spec PyProof.Rows L2
end DL

namespace DL
open PySem PySem.Spec PyProof.Rows L2
end DL

namespace PySem
open PySem.Spec PySem.Calls PyProof.Rows PySem.W L2
end PySem
namespace DL
open PySem L2
end DL

namespace DL
open PySem PySem.Spec PyProof.Rows L2
end DL

namespace DL
open PySem PySem.Spec PyProof.Rows L2
end DL

namespace DL
open PySem PySem.Spec PyProof.Rows L2
end DL

namespace DL
open PySem PySem.Spec PyProof.Rows L2
end DL

namespace DL
open PySem PySem.Spec PyProof.Rows L2
end DL

namespace DL
open PySem PySem.Spec PyProof.Rows L2
end DL

namespace DL
open PySem PySem.Spec PyProof.Rows L2
end DL

namespace DL
open PySem PySem.Spec PyProof.Rows L2
end DL

namespace DL
open PySem PySem.Spec PyProof.Rows L2
end DL

namespace DL
open PySem PySem.Spec PyProof.Rows L2
end DL

namespace DL
open PySem PySem.Spec PyProof.Rows L2
end DL

namespace DL
open PySem PySem.Spec PyProof.Rows L2
end DL

namespace DL
open PySem PySem.Spec PyProof.Rows L2
def oexB (K : PySem.W.Frag) (C : Addr) : Bool := (match K.lookup C with
  | some ⟨.type "type", _, .cls cd, sl⟩ => (match cd.mro, sl.toList with
    | .ref C' :: bm, [_, _, _, _, some (.builtin n), _] => C' == C && n == "ValueError.__new__" && !cd.hasDel && cd.hasDict && PySem.HandSPX.refsVE bm
    | _, _ => false)
  | _ => false) && (He.eqO (PySem.W.findIn K (.ref C) "__setattr__") (some (some (.builtin "object.__setattr__"))) && (decide (PySem.W.subIn K (.ref C) (.type "BaseException") = some true) && ((PySem.W.typeIn K (.ref C) == some (Value.type "type")) && PySem.W.keepIn K (.ref C))))
def xiB (K : PySem.W.Frag) (c b : Str) (fs : List Str) : Bool := oexB K (He.ga K c) && (PySem.W.readsIn K (He.ga K b) (.type "type") && (He.eqO (PySem.W.specialIn K (.ref (He.ga K b)) "__getattribute__") (some (some (.builtin "type.__getattribute__"))) &&
  ((match PySem.W.findCls K (.ref (He.ga K b)) (.type "type") "__init__" with
    | some (.val (.builtin n)) => n == "ValueError.__init__"
    | _ => false) && (fs.all (fun f => He.eqO (PySem.W.findIn K (.ref (He.ga K c)) f) (some none)) && (He.eqO (PySem.W.findIn K (.ref (He.ga K c)) "__init__") (some (some (.ref (He.ma K (He.ga K c) "__init__")))) &&
    ((PySem.W.typeIn K (.ref (He.ma K (He.ga K c) "__init__")) == some (Value.type "function")) && xfB K (He.ga K c)))))))
end DL

namespace DL
open PySem PySem.Spec PyProof.Rows L2
end DL

namespace DL
open PySem PySem.Spec PyProof.Rows L2
end DL

namespace DL
open PySem PySem.Spec PyProof.Rows L2
end DL

namespace DL
open PySem PySem.Spec PyProof.Rows L2
end DL

namespace DL
open PySem PySem.Spec PyProof.Rows L2
end DL

namespace DL
open PySem PySem.Spec PyProof.Rows L2
end DL

namespace DL
open PySem PySem.Spec PyProof.Rows L2
end DL

namespace DL
open PySem PySem.Spec PyProof.Rows L2
end DL

namespace L2
open PySem PySem.Spec PyProof.Rows
end L2
namespace DL
open PySem PySem.Spec PyProof.Rows L2
end DL

namespace DL
open PySem PySem.Spec PyProof.Rows L2
end DL

namespace DL
open PySem PySem.Spec PyProof.Rows L2
end DL

namespace DL
open PySem PySem.Spec PyProof.Rows L2
end DL

namespace DL
open PySem PySem.Spec PyProof.Rows L2
end DL

namespace DL
open PySem PySem.Spec PyProof.Rows L2
end DL

namespace DL
open PySem PySem.Spec PyProof.Rows L2
end DL

namespace DL
open PySem PySem.Spec PyProof.Rows L2
end DL

namespace DL
open PySem PySem.Spec PyProof.Rows L2
end DL

namespace DL96
open PySem PySem.Spec PyProof.Rows L2
end DL96

namespace DL96
open PySem PySem.Spec PyProof.Rows L2
end DL96

namespace L2
open PySem PySem.Spec PyProof.Rows
end L2

namespace DL
open PySem PySem.Spec PyProof.Rows L2
end DL

namespace DL
open PySem PySem.Spec PyProof.Rows L2
end DL

namespace L2
open PySem PySem.Spec PyProof.Rows
end L2
namespace DL
open PySem PySem.Spec PyProof.Rows L2
end DL

namespace DL
open PySem PySem.Spec PyProof.Rows L2
end DL

namespace L2
open PySem PySem.Spec PyProof.Rows
end L2
namespace DL
open PySem PySem.Spec PyProof.Rows L2
end DL

namespace L2
open PySem PySem.Spec PyProof.Rows
end L2
namespace DL
open PySem PySem.Spec PyProof.Rows L2
end DL

namespace L2
open PySem PySem.Spec PyProof.Rows
end L2
namespace DL
open PySem PySem.Spec PyProof.Rows L2
end DL

namespace DL
open PySem PySem.Spec PyProof.Rows L2
end DL

namespace DL
open PySem PySem.Spec PyProof.Rows L2
end DL

namespace K03
open PySem PySem.Spec PyProof.Rows L2 DL
def top (i : Nat) : Stmt := PySem.Challenge.pw_reachyard_k18_programs_told_or_refused.main.body.getD i (.Pass ⟨0, 0, 0, 0⟩)
abbrev tb_BadProgram : List (Str × Bool) := [("BadProgram", true)]
abbrev tb_ValueError : List (Str × Bool) := [("BadProgram", true)]
abbrev tb_YardError : List (Str × Bool) := [("BadProgram", true)]
abbrev tk_FORMS : List (Str × D) := [("number", .str "bn"), ("nothing", .str "b"), ("copy", .str "bb"), ("make", .str "bm"), ("last", .str "bm"), ("tie", .str "bb"), ("get", .str "bbk"), ("put", .str "bkb"), ("follow", .str "bb"), ("wish", .str "b"), ("same", .str "bbb"), ("plus", .str "bbb"), ("less", .str "bbb"), ("what", .str "bb"), ("lay", .str "ib"), ("take", .str "bi"), ("go", .str "r"), ("if", .str "br"), ("tell", .str "b"), ("stop", .str "")]
def ts : List TabN := [("FORMS", tk_FORMS.map (·.1))]
abbrev s_p_law_begin : Stmt := top 18
def d_p_law_begin : He.DefD := ⟨("_law_begin", none), "_law_begin", "_law_begin", defArgs s_p_law_begin, defBody s_p_law_begin, defScope s_p_law_begin, [], []⟩
abbrev s_p_law_more : Stmt := top 19
def d_p_law_more : He.DefD := ⟨("_law_more", none), "_law_more", "_law_more", defArgs s_p_law_more, defBody s_p_law_more, defScope s_p_law_more, [], []⟩
abbrev s_p_law_next : Stmt := top 20
def d_p_law_next : He.DefD := ⟨("_law_next", none), "_law_next", "_law_next", defArgs s_p_law_next, defBody s_p_law_next, defScope s_p_law_next, [], []⟩
abbrev s_p_law_forms_o : Stmt := top 23
def d_p_law_forms_o : He.DefD := ⟨("_law_forms", none), "_law_forms", "_law_forms", defArgs s_p_law_forms_o, defBody s_p_law_forms_o, defScope s_p_law_forms_o, [], []⟩
abbrev s_p_law_words : Stmt := top 26
def d_p_law_words : He.DefD := ⟨("_law_words", none), "_law_words", "_law_words", defArgs s_p_law_words, defBody s_p_law_words, defScope s_p_law_words, [], []⟩
abbrev s_p_law_forms : Stmt := top 23
def d_p_law_forms : He.DefD := ⟨("_law_forms", none), "_law_forms", "_law_forms", defArgs s_p_law_forms, defBody s_p_law_forms, defScope s_p_law_forms, [], []⟩
abbrev s_p_law_bound : Stmt := top 24
def d_p_law_bound : He.DefD := ⟨("_law_bound", none), "_law_bound", "_law_bound", defArgs s_p_law_bound, defBody s_p_law_bound, defScope s_p_law_bound, [], []⟩
abbrev s_p_law_row : Stmt := top 25
def d_p_law_row : He.DefD := ⟨("_law_row", none), "_law_row", "_law_row", defArgs s_p_law_row, defBody s_p_law_row, defScope s_p_law_row, [], []⟩
abbrev s_p_law_pick : Stmt := top 21
def d_p_law_pick : He.DefD := ⟨("_law_pick", none), "_law_pick", "_law_pick", defArgs s_p_law_pick, defBody s_p_law_pick, defScope s_p_law_pick, [], []⟩
abbrev s_p_law_plan : Stmt := top 31
def d_p_law_plan : He.DefD := ⟨("_law_plan", none), "_law_plan", "_law_plan", defArgs s_p_law_plan, defBody s_p_law_plan, defScope s_p_law_plan, [], []⟩
abbrev s_p_law_whole : Stmt := top 28
def d_p_law_whole : He.DefD := ⟨("_law_whole", none), "_law_whole", "_law_whole", defArgs s_p_law_whole, defBody s_p_law_whole, defScope s_p_law_whole, [], []⟩
abbrev s_p_law_is_row : Stmt := top 29
def d_p_law_is_row : He.DefD := ⟨("_law_is_row", none), "_law_is_row", "_law_is_row", defArgs s_p_law_is_row, defBody s_p_law_is_row, defScope s_p_law_is_row, [], []⟩
abbrev s_p_law_odd : Stmt := top 27
def d_p_law_odd : He.DefD := ⟨("_law_odd", none), "_law_odd", "_law_odd", defArgs s_p_law_odd, defBody s_p_law_odd, defScope s_p_law_odd, [], []⟩
abbrev s_p_law_spoilt : Stmt := top 32
def d_p_law_spoilt : He.DefD := ⟨("_law_spoilt", none), "_law_spoilt", "_law_spoilt", defArgs s_p_law_spoilt, defBody s_p_law_spoilt, defScope s_p_law_spoilt, [], []⟩
abbrev s_p_law_first_bad : Stmt := top 30
def d_p_law_first_bad : He.DefD := ⟨("_law_first_bad", none), "_law_first_bad", "_law_first_bad", defArgs s_p_law_first_bad, defBody s_p_law_first_bad, defScope s_p_law_first_bad, [], []⟩
abbrev s_is_whole : Stmt := top 6
def d_is_whole : He.DefD := ⟨("is_whole", none), "is_whole", "is_whole", defArgs s_is_whole, defBody s_is_whole, defScope s_is_whole, [], []⟩
abbrev s_BadProgram_init : Stmt := inClass (top 2) 0
def d_BadProgram_init : He.DefD := ⟨("BadProgram", some "__init__"), "__init__", "BadProgram.__init__", defArgs s_BadProgram_init, defBody s_BadProgram_init, defScope s_BadProgram_init, [], []⟩
abbrev s_is_row : Stmt := top 7
def d_is_row : He.DefD := ⟨("is_row", none), "is_row", "is_row", defArgs s_is_row, defBody s_is_row, defScope s_is_row, [], []⟩
abbrev s_bounds_of : Stmt := top 14
def d_bounds_of : He.DefD := ⟨("bounds_of", none), "bounds_of", "bounds_of", defArgs s_bounds_of, defBody s_bounds_of, defScope s_bounds_of, [], []⟩
abbrev s_fits_row : Stmt := top 15
def d_fits_row : He.DefD := ⟨("fits_row", none), "fits_row", "fits_row", defArgs s_fits_row, defBody s_fits_row, defScope s_fits_row, [], []⟩
abbrev s_Program_init : Stmt := inClass (top 16) 0
def d_Program_init : He.DefD := ⟨("Program", some "__init__"), "__init__", "Program.__init__", defArgs s_Program_init, defBody s_Program_init, defScope s_Program_init, [], [("boxes", .int 4), ("board", .int 2)]⟩
abbrev s_p_law_made : Stmt := top 33
def d_p_law_made : He.DefD := ⟨("_law_made", none), "_law_made", "_law_made", defArgs s_p_law_made, defBody s_p_law_made, defScope s_p_law_made, [], []⟩
abbrev s_p_law_alike_r5 : Stmt := top 22
def d_p_law_alike_r5 : He.DefD := ⟨("_law_alike", none), "_law_alike", "_law_alike", defArgs s_p_law_alike_r5, defBody s_p_law_alike_r5, defScope s_p_law_alike_r5, [], []⟩
abbrev s_p_law_alike_r4 : Stmt := top 22
def d_p_law_alike_r4 : He.DefD := ⟨("_law_alike", none), "_law_alike", "_law_alike", defArgs s_p_law_alike_r4, defBody s_p_law_alike_r4, defScope s_p_law_alike_r4, [], []⟩
abbrev s_p_law_alike_r3 : Stmt := top 22
def d_p_law_alike_r3 : He.DefD := ⟨("_law_alike", none), "_law_alike", "_law_alike", defArgs s_p_law_alike_r3, defBody s_p_law_alike_r3, defScope s_p_law_alike_r3, [], []⟩
abbrev s_p_law_alike_r2 : Stmt := top 22
def d_p_law_alike_r2 : He.DefD := ⟨("_law_alike", none), "_law_alike", "_law_alike", defArgs s_p_law_alike_r2, defBody s_p_law_alike_r2, defScope s_p_law_alike_r2, [], []⟩
abbrev s_p_law_alike_r1 : Stmt := top 22
def d_p_law_alike_r1 : He.DefD := ⟨("_law_alike", none), "_law_alike", "_law_alike", defArgs s_p_law_alike_r1, defBody s_p_law_alike_r1, defScope s_p_law_alike_r1, [], []⟩
abbrev s_p_law_alike : Stmt := top 22
def d_p_law_alike : He.DefD := ⟨("_law_alike", none), "_law_alike", "_law_alike", defArgs s_p_law_alike, defBody s_p_law_alike, defScope s_p_law_alike, [], []⟩
abbrev s_Program_hands_o : Stmt := inClass (top 16) 1
def d_Program_hands_o : He.DefD := ⟨("Program", some "hands"), "hands", "Program.hands", defArgs s_Program_hands_o, defBody s_Program_hands_o, defScope s_Program_hands_o, [], []⟩
abbrev s_Program_boxes : Stmt := inClass (top 16) 2
def d_Program_boxes : He.DefD := ⟨("Program", some "boxes"), "boxes", "Program.boxes", defArgs s_Program_boxes, defBody s_Program_boxes, defScope s_Program_boxes, [], []⟩
abbrev s_Program_board : Stmt := inClass (top 16) 3
def d_Program_board : He.DefD := ⟨("Program", some "board"), "board", "Program.board", defArgs s_Program_board, defBody s_Program_board, defScope s_Program_board, [], []⟩
abbrev s_Program_pegs : Stmt := inClass (top 16) 4
def d_Program_pegs : He.DefD := ⟨("Program", some "pegs"), "pegs", "Program.pegs", defArgs s_Program_pegs, defBody s_Program_pegs, defScope s_Program_pegs, [], []⟩
abbrev s_law : Stmt := top 34
def d_law : He.DefD := ⟨("law", none), "law", "law", defArgs s_law, defBody s_law, defScope s_law, [], []⟩
def fn : List He.DefD := [d_p_law_begin, d_p_law_more, d_p_law_next, d_p_law_forms_o, d_p_law_words, d_p_law_forms, d_p_law_bound, d_p_law_row, d_p_law_pick, d_p_law_plan, d_p_law_whole, d_p_law_is_row, d_p_law_odd, d_p_law_spoilt, d_p_law_first_bad, d_is_whole, d_BadProgram_init, d_is_row, d_bounds_of, d_fits_row, d_Program_init, d_p_law_made, d_p_law_alike_r5, d_p_law_alike_r4, d_p_law_alike_r3, d_p_law_alike_r2, d_p_law_alike_r1, d_p_law_alike, d_Program_hands_o, d_Program_boxes, d_Program_board, d_Program_pegs, d_law]
def fa : List He.Fa := [.glo "_law_begin", .glo "_law_more", .glo "_law_next", .glo "_law_forms", .glo "_law_words", .glo "_law_forms", .glo "_law_bound", .glo "_law_row", .glo "_law_pick", .glo "_law_plan", .glo "_law_whole", .glo "_law_is_row", .glo "_law_odd", .glo "_law_spoilt", .glo "_law_first_bad", .glo "is_whole", .glo "is_row", .glo "bounds_of", .glo "fits_row", .glo "_law_made", .glo "_law_alike", .glo "_law_alike", .glo "_law_alike", .glo "_law_alike", .glo "_law_alike", .glo "_law_alike", .glo "law", .free "ValueError", .free "abs", .free "all", .free "bool", .free "enumerate", .free "int", .free "isinstance", .free "len", .free "list", .free "max", .free "min", .free "range", .free "str", .free "tuple", .free "zip", .int "GREATEST" (1000000000), .int "MOST_BOARD" (6), .int "MOST_BOXES" (6), .int "MOST_FIELDS" (6), .int "MOST_HANDS" (4), .int "MOST_ROWS" (60), .glo "FORMS", .glo "BadProgram", .glo "YardError", .glo "Program", .cls "Program", .mkr "Program", .meth "Program" "board", .meth "Program" "boxes", .meth "Program" "hands", .meth "Program" "pegs", .noat "Program" "plan", .noat "Program" "shared", .noat "Program" "wide"]
def exB (K : PySem.W.Frag) : Bool := tabV K (He.ga K "FORMS") tk_FORMS && (xiB K "BadProgram" "YardError" ["hand", "row"] && (iseB K "BadProgram" && (exmT K (.ref (He.ga K "YardError")) tb_YardError && (kitT K (.ref (He.ga K "BadProgram")) tb_BadProgram && (kitT K (.type "ValueError") tb_ValueError && (true))))))
end K03

namespace K03
open PySem PySem.Spec PyProof.Rows L2 DL
def loose0 : List Str := ["YardError", "BadProgram", "MOST_FIELDS", "GREATEST", "is_whole", "is_row", "MOST_HANDS", "MOST_ROWS", "MOST_BOXES", "MOST_BOARD", "FORMS", "bounds_of", "fits_row", "Program", "_law_begin", "_law_more"]
def loose1 : List Str := ["_law_next", "_law_pick", "_law_alike", "_law_forms", "_law_bound", "_law_row", "_law_words", "_law_odd", "_law_whole", "_law_is_row", "_law_first_bad", "_law_plan", "_law_spoilt", "_law_made"]
def loose : List Str := loose0 ++ loose1
abbrev R : PySem.W.OpenRow := PySem.W.OpenLaw.row PySem.Challenge.rw_reachyard_k18_programs_told_or_refused
abbrev hk : PySem.W.Hook := hookKb 5 fa fn exB ts
def ob (s : PySem.W.SharedT) : AlK := obsKb 5 fa fn exB ts (HandSHeadRun.getT s)
theorem ob_eq (s : PySem.W.SharedT) : ob s = hk.obs s.abs := obsKb_eq (HandSHeadRun.getT_eq s)
theorem runf (w : World) : HandSHeadRun.RunEq R (PySem.W.view R.prog [34]) hk ob 40000 loose (w.withFollow "special-get-raises" false) := by
  intro os
  kernel_rfl
theorem runt (w : World) : HandSHeadRun.RunEq R (PySem.W.view R.prog [34]) hk ob 40000 loose (w.withFollow "special-get-raises" true) := by
  intro os
  kernel_rfl
theorem run (w : World) : HandSHeadRun.RunEq R (PySem.W.view R.prog [34]) hk ob 40000 loose w :=
  PySem.W.byRow2 "special-get-raises" (P := fun w => HandSHeadRun.RunEq R (PySem.W.view R.prog [34]) hk ob 40000 loose w) runf runt w

end K03
set_option Elab.async false
set_option maxRecDepth 100000
set_option maxHeartbeats 0
set_option linter.all false
/-! The data layer, part 1: data, stores, the relation to the abstract heap, the judgements. -/
namespace DL
open PySem L2

/-- objects that may change; frz: one that changes no more -/
inductive SO where
  | lst (ds : List D) | dic (ks : List (Key × D)) | ins (C : Str) (fs : List (Str × D)) | frz (d : D) | tbl (p : Str × Option Str) (q : Str) | dkt (ks : List (List Int × D))
def SO.live : SO → Bool
  | .frz _ => false
  | _ => true
abbrev Store := List SO
/-- an entry of a dict whose keys are tuples of whole numbers (truths count as numbers) -/
def entN (x : List Int × Addr × Value) : DictEntry := { hash := reduceHash (Builtin.Tuple.tupleHashOf (x.1.map hashInt)), key := .ref x.2.1, val := x.2.2 }
/-- such a dict, by what lies at its address -/
def DktO (a : Addr) (xs : List (List Int × Addr × Value)) : HO := .ext fun hp => (a == sysModules) = false ∧ xs.length ≤ sizeLine ∧ ∃ (o : Obj) (es : Array DictEntry) (ep : Nat), hp.get? a = some o ∧ o.ExactDict ∧ o.data = .dict es ep ∧ es.toList = xs.map entN ∧ (xs.map (·.1)).Nodup
def numV : V → Option Int
  | .int i => some i
  | .bl b => some (if b = true then 1 else 0)
  | _ => none
def numsV : List V → Option (List Int)
  | [] => some []
  | v :: vs => (numV v).bind fun i => (numsV vs).map fun is => i :: is
/-- a caught exception: of the class cls, its dict dd -/
def ExcV (cls : Value) (dd : Option Addr) (a : Addr) : HO := .ext fun hp => ∃ (ob : Obj) (fs : Array Value), hp.get? a = some ob ∧ L2N.Zn cls dd ob ∧ ob.data = .fields fs

section
variable (K : PySem.W.Frag) (mg : Str → Option Value) (φ : List Addr) (G : Hp)
mutual
def Dat : D → V → Prop
  | .non, v => v = .non
  | .bl b, v => v = .bl b
  | .int i, v => v = .int i
  | .str x, v => v = .str x
  | .ty n, v => v = .ty n
  | .tup ds, v => ∃ a vs, v = .ref a ∧ SqT K G a vs ∧ DatL ds vs
  | .lst ds, v => ∃ a vs, v = .ref a ∧ G a = some (.lst vs) ∧ DatL ds vs
  | .scr ds, v => ∃ a vs, v = .ref a ∧ SqL K G a vs ∧ DatL ds vs
  | .cls c, v => ∃ A, v = .ref A ∧ mg c = some (.ref A)
  | .dic ks, v => ∃ a kvs, v = .ref a ∧ G a = some (.dK kvs) ∧ DatK ks kvs
  | .ins C fs, v => ∃ a A dx fvs, v = .ref a ∧ mg C = some (.ref A) ∧ G a = some (.ins A dx fvs) ∧ DatF fs fvs
  | .oid n, v => ∃ a, v = .ref a ∧ φ[n]? = some a
  | .exc C fs, v => ∃ a A dx, v = .ref a ∧ mg C = some (.ref A) ∧ G a = some (ExcV (.ref A) dx a) ∧ ((fs = [] ∧ dx = none) ∨ fs ≠ [] ∧ ∃ b fvs, dx = some b ∧ G b = some (.xd fvs) ∧ DatF fs fvs)
def DatL : List D → List V → Prop
  | [], vs => vs = []
  | d :: ds, vs => ∃ v r, vs = v :: r ∧ Dat d v ∧ DatL ds r
def DatK : List (Key × D) → List (Key × V) → Prop
  | [], vs => vs = []
  | (k, d) :: ds, vs => ∃ v r, vs = (k, v) :: r ∧ Dat d v ∧ DatK ds r
def DatF : List (Str × D) → List (Str × V) → Prop
  | [], vs => vs = []
  | (k, d) :: ds, vs => ∃ v r, vs = (k, v) :: r ∧ Dat d v ∧ DatF ds r
end
def DatT : List (List Int × D) → List (List Int × Addr × Value) → Prop
  | [], xs => xs = []
  | (k, d) :: ds, xs => ∃ b u r v vs, xs = (k, b, u) :: r ∧ SqT K G b vs ∧ numsV vs = some k ∧ Dat K mg φ G d v ∧ RelV v u ∧ DatT ds r
end

theorem sqt_mono {K : PySem.W.Frag} {G G' : Hp} (e : Same G G') {a : Addr} {xs : List V} (h : SqT K G a xs) : SqT K G' a xs :=
  h.imp (fun r => r.imp (e _ _) fun ⟨o, q⟩ => ⟨o, e _ _ q⟩) id
section
variable {K : PySem.W.Frag} {mg : Str → Option Value} {φ φ' : List Addr} {G G' : Hp}
theorem pre_get {φ φ' : List Addr} (p : φ <+: φ') {n : Nat} {a : Addr} (h : φ[n]? = some a) : φ'[n]? = some a := by
  obtain ⟨t, rfl⟩ := p
  rw [List.getElem?_append_left (List.getElem?_eq_some_iff.mp h).1]
  exact h
mutual
theorem Dat.mono (p : φ <+: φ') (e : Same G G') : ∀ (d : D) (v : V), Dat K mg φ G d v → Dat K mg φ' G' d v
  | .non, _, h => h
  | .bl _, _, h => h
  | .int _, _, h => h
  | .str _, _, h => h
  | .ty _, _, h => h
  | .tup ds, _, h => by
    unfold Dat at h ⊢
    obtain ⟨a, vs, rfl, h1, h2⟩ := h
    exact ⟨a, vs, rfl, sqt_mono e h1, DatL.mono p e ds vs h2⟩
  | .lst ds, _, h => by
    unfold Dat at h ⊢
    obtain ⟨a, vs, rfl, h1, h2⟩ := h
    exact ⟨a, vs, rfl, e _ _ h1, DatL.mono p e ds vs h2⟩
  | .scr ds, _, h => by
    unfold Dat at h ⊢
    obtain ⟨a, vs, rfl, h1, h2⟩ := h
    exact ⟨a, vs, rfl, Same.seq e h1, DatL.mono p e ds vs h2⟩
  | .cls c, _, h => by
    unfold Dat at h ⊢
    exact h
  | .dic ks, _, h => by
    unfold Dat at h ⊢
    obtain ⟨a, vs, rfl, h1, h2⟩ := h
    exact ⟨a, vs, rfl, e _ _ h1, DatK.mono p e ks vs h2⟩
  | .ins C fs, _, h => by
    unfold Dat at h ⊢
    obtain ⟨a, A, dx, fvs, rfl, h0, h1, h2⟩ := h
    exact ⟨a, A, dx, fvs, rfl, h0, e _ _ h1, DatF.mono p e fs fvs h2⟩
  | .oid n, _, h => by
    unfold Dat at h ⊢
    obtain ⟨a, rfl, h⟩ := h
    exact ⟨a, rfl, pre_get p h⟩
  | .exc C fs, _, h => by
    unfold Dat at h ⊢
    obtain ⟨a, A, dx, rfl, h0, h1, h2⟩ := h
    exact ⟨a, A, dx, rfl, h0, e _ _ h1, h2.imp id fun ⟨z, b, fvs, q0, q1, q2⟩ => ⟨z, b, fvs, q0, e _ _ q1, DatF.mono p e fs fvs q2⟩⟩
theorem DatL.mono (p : φ <+: φ') (e : Same G G') : ∀ (ds : List D) (vs : List V), DatL K mg φ G ds vs → DatL K mg φ' G' ds vs
  | [], _, h => by
    unfold DatL at h ⊢
    exact h
  | d :: ds, _, h => by
    unfold DatL at h ⊢
    obtain ⟨v, r, rfl, h1, h2⟩ := h
    exact ⟨v, r, rfl, Dat.mono p e d v h1, DatL.mono p e ds r h2⟩
theorem DatK.mono (p : φ <+: φ') (e : Same G G') : ∀ (ds : List (Key × D)) (vs : List (Key × V)), DatK K mg φ G ds vs → DatK K mg φ' G' ds vs
  | [], _, h => by
    unfold DatK at h ⊢
    exact h
  | (k, d) :: ds, _, h => by
    unfold DatK at h ⊢
    obtain ⟨v, r, rfl, h1, h2⟩ := h
    exact ⟨v, r, rfl, Dat.mono p e d v h1, DatK.mono p e ds r h2⟩
theorem DatF.mono (p : φ <+: φ') (e : Same G G') : ∀ (ds : List (Str × D)) (vs : List (Str × V)), DatF K mg φ G ds vs → DatF K mg φ' G' ds vs
  | [], _, h => by
    unfold DatF at h ⊢
    exact h
  | (k, d) :: ds, _, h => by
    unfold DatF at h ⊢
    obtain ⟨v, r, rfl, h1, h2⟩ := h
    exact ⟨v, r, rfl, Dat.mono p e d v h1, DatF.mono p e ds r h2⟩
end
theorem DatT.mono (p : φ <+: φ') (e : Same G G') : ∀ (ds : List (List Int × D)) (xs : List (List Int × Addr × Value)), DatT K mg φ G ds xs → DatT K mg φ' G' ds xs
  | [], _, h => by
    unfold DatT at h ⊢
    exact h
  | (k, d) :: ds, _, h => by
    unfold DatT at h ⊢
    obtain ⟨b, u, r, v, vs, rfl, h1, h2, h3, h4, h5⟩ := h
    exact ⟨b, u, r, v, vs, rfl, sqt_mono e h1, h2, Dat.mono p e d v h3, h4, DatT.mono p e ds r h5⟩
theorem DatL.length : ∀ {ds : List D} {vs : List V}, DatL K mg φ G ds vs → vs.length = ds.length
  | [], _, h => by unfold DatL at h; rw [h]; rfl
  | d :: ds, _, h => by
    unfold DatL at h
    obtain ⟨v, r, rfl, _, h2⟩ := h
    rw [List.length_cons, List.length_cons, DatL.length h2]
theorem DatL.get : ∀ {ds : List D} {vs : List V} {i : Nat} {d : D}, DatL K mg φ G ds vs → ds[i]? = some d → ∃ v, vs[i]? = some v ∧ Dat K mg φ G d v
  | [], _, _, _, _, e => by cases e
  | d :: ds, _, 0, _, h, e => by
    unfold DatL at h
    obtain ⟨v, r, rfl, h1, _⟩ := h
    cases e
    exact ⟨v, rfl, h1⟩
  | d :: ds, _, i + 1, _, h, e => by
    unfold DatL at h
    obtain ⟨v, r, rfl, _, h2⟩ := h
    obtain ⟨w, a, b⟩ := DatL.get (i := i) h2 e
    exact ⟨w, a, b⟩
theorem DatL.nil : DatL K mg φ G [] [] := by unfold DatL; rfl
theorem DatL.cons {d : D} {v : V} {ds : List D} {vs : List V} (h : Dat K mg φ G d v) (t : DatL K mg φ G ds vs) : DatL K mg φ G (d :: ds) (v :: vs) := by
  unfold DatL
  exact ⟨v, vs, rfl, h, t⟩
theorem DatL.uncons {d : D} {ds : List D} {vs : List V} (h : DatL K mg φ G (d :: ds) vs) : ∃ v r, vs = v :: r ∧ Dat K mg φ G d v ∧ DatL K mg φ G ds r := by
  unfold DatL at h
  exact h
theorem DatL.append : ∀ {ds es : List D} {vs us : List V}, DatL K mg φ G ds vs → DatL K mg φ G es us → DatL K mg φ G (ds ++ es) (vs ++ us)
  | [], _, _, _, h, t => by
    unfold DatL at h
    subst h
    exact t
  | d :: ds, _, _, _, h, t => by
    obtain ⟨v, r, rfl, h1, h2⟩ := h.uncons
    exact .cons h1 (DatL.append h2 t)
theorem DatL.set : ∀ {ds : List D} {vs : List V} {d : D} {v : V} (i : Nat), DatL K mg φ G ds vs → Dat K mg φ G d v → DatL K mg φ G (ds.set i d) (vs.set i v)
  | [], _, _, _, _, h, _ => by
    unfold DatL at h
    subst h
    exact DatL.nil
  | e :: ds, _, _, _, 0, h, q => by
    obtain ⟨w, r, rfl, _, h2⟩ := h.uncons
    exact .cons q h2
  | e :: ds, _, _, _, i + 1, h, q => by
    obtain ⟨w, r, rfl, h1, h2⟩ := h.uncons
    exact .cons h1 (DatL.set i h2 q)
theorem DatL.map {α : Type} {f : α → D} {g : α → V} : ∀ {l : List α}, (∀ x ∈ l, Dat K mg φ G (f x) (g x)) → DatL K mg φ G (l.map f) (l.map g)
  | [], _ => DatL.nil
  | x :: l, h => .cons (h x List.mem_cons_self) (DatL.map fun y hy => h y (List.mem_cons_of_mem _ hy))
theorem DatL.take : ∀ {ds : List D} {vs : List V} (n : Nat), DatL K mg φ G ds vs → DatL K mg φ G (ds.take n) (vs.take n)
  | _, _, 0, _ => by rw [List.take_zero, List.take_zero]; exact DatL.nil
  | [], _, n + 1, h => by
    unfold DatL at h
    subst h
    exact DatL.nil
  | d :: ds, _, n + 1, h => by
    obtain ⟨v, r, rfl, h1, h2⟩ := h.uncons
    exact .cons h1 (DatL.take n h2)
theorem DatL.drop : ∀ {ds : List D} {vs : List V} (n : Nat), DatL K mg φ G ds vs → DatL K mg φ G (ds.drop n) (vs.drop n)
  | _, _, 0, h => h
  | [], _, n + 1, h => by
    unfold DatL at h
    subst h
    exact DatL.nil
  | d :: ds, _, n + 1, h => by
    obtain ⟨v, r, rfl, h1, h2⟩ := h.uncons
    exact DatL.drop n h2
end

/-! ### the store over the abstract heap -/
def liveA : List Addr → Store → List Addr
  | a :: φ, o :: S => if o.live then a :: liveA φ S else liveA φ S
  | _, _ => []
/-- H without the addresses of l -/
def without (l : List Addr) (H : Hp) : Hp := fun a => if a ∈ l then none else H a
/-- the ground: what changes no more; Z: hidden addresses -/
def gnd (Z : List Addr) (φ : List Addr) (S : Store) (H : Hp) : Hp := without (Z ++ liveA φ S) H
theorem without_some {l : List Addr} {H : Hp} {a : Addr} {o : HO} : without l H a = some o ↔ a ∉ l ∧ H a = some o := by
  unfold without
  by_cases h : a ∈ l
  · rw [if_pos h]
    exact ⟨fun z => (nomatch z), fun z => absurd h z.1⟩
  · rw [if_neg h]
    exact ⟨fun z => ⟨h, z⟩, fun z => z.2⟩
theorem liveA_mem : ∀ {φ : List Addr} {S : Store} {a : Addr}, a ∈ liveA φ S → ∃ (n : Nat) (o : SO), φ[n]? = some a ∧ S[n]? = some o ∧ o.live = true
  | [], _, _, h => by simp [liveA] at h
  | _ :: _, [], _, h => by simp [liveA] at h
  | b :: φ, o :: S, a, h => by
    unfold liveA at h
    have step : a ∈ liveA φ S → ∃ (n : Nat) (o' : SO), (b :: φ)[n]? = some a ∧ (o :: S)[n]? = some o' ∧ o'.live = true := fun q => by
      obtain ⟨n, u, h1, h2, h3⟩ := liveA_mem q
      exact ⟨n + 1, u, h1, h2, h3⟩
    cases hl : o.live with
    | false =>
      rw [hl] at h
      exact step h
    | true =>
      rw [hl] at h
      rcases List.mem_cons.mp h with rfl | q
      · exact ⟨0, o, rfl, rfl, hl⟩
      · exact step q
theorem mem_liveA : ∀ {φ : List Addr} {S : Store} {a : Addr} {n : Nat} {o : SO}, φ[n]? = some a → S[n]? = some o → o.live = true → a ∈ liveA φ S
  | [], _, _, _, _, h, _, _ => by cases h
  | _ :: _, [], _, _, _, _, h, _ => by cases h
  | b :: φ, u :: S, a, 0, o, h1, h2, h3 => by
    cases h1
    cases h2
    unfold liveA
    rw [h3]
    exact List.mem_cons_self
  | b :: φ, u :: S, a, n + 1, o, h1, h2, h3 => by
    have q := mem_liveA (n := n) (φ := φ) (S := S) h1 h2 h3
    unfold liveA
    split
    · exact List.mem_cons_of_mem _ q
    · exact q
theorem liveA_sub {φ : List Addr} {S : Store} {a : Addr} (h : a ∈ liveA φ S) : a ∈ φ := by
  obtain ⟨n, o, h1, _⟩ := liveA_mem h
  exact List.mem_of_getElem? h1
theorem liveA_snoc : ∀ {φ : List Addr} {S : Store} {p : Addr} {o : SO}, φ.length = S.length → liveA (φ ++ [p]) (S ++ [o]) = liveA φ S ++ (if o.live then [p] else [])
  | [], [], p, o, _ => by cases h : o.live <;> simp [liveA, h]
  | a :: φ, u :: S, p, o, h => by
    have q := liveA_snoc (φ := φ) (S := S) (p := p) (o := o) (by simpa using h)
    simp only [List.cons_append, liveA, q]
    split <;> rfl
theorem liveA_set : ∀ {φ : List Addr} {S : Store} {n : Nat} {o u : SO}, S[n]? = some o → u.live = o.live → liveA φ (S.set n u) = liveA φ S
  | [], _, _, _, _, _, _ => by simp [liveA]
  | _ :: _, [], _, _, _, h, _ => by cases h
  | a :: φ, x :: S, 0, o, u, h, e => by
    cases h
    simp only [List.set_cons_zero, liveA, e]
  | a :: φ, x :: S, n + 1, o, u, h, e => by
    have q := liveA_set (φ := φ) (S := S) (n := n) h e
    simp only [List.set_cons_succ, liveA, q]

section
variable (K : PySem.W.Frag) (mg : Str → Option Value)
def SOk (φ : List Addr) (G H : Hp) (a : Addr) : SO → Prop
  | .lst ds => ∃ vs, H a = some (.lst vs) ∧ DatL K mg φ G ds vs
  | .dic ks => ∃ kvs, H a = some (.dK kvs) ∧ DatK K mg φ G ks kvs
  | .ins C fs => ∃ A dx fvs, mg C = some (.ref A) ∧ H a = some (.ins A dx fvs) ∧ DatF K mg φ G fs fvs
  | .frz d => Dat K mg φ G d (.ref a)
  | .dkt ks => ∃ xs, H a = some (DktO a xs) ∧ DatT K mg φ G ks xs
  | .tbl p q => a = (He.cT K p).2 ∧ ∃ ps, H a = some (.tbl ps) ∧ TriplesOk ps.toList ∧ ∀ (pos : Pos) (cv : Value), codeAmong pos ps.toList = some cv → ∃ c, cv = .ref c ∧ G c = some (LamX.CodeO c q)
structure Rel (Z : List Addr) (φ : List Addr) (S : Store) (H : Hp) : Prop where
  len : φ.length = S.length
  nd : φ.Nodup
  zd : ∀ a ∈ φ, a ∉ Z
  zh : ∀ a ∈ Z, H a ≠ none
  ph : ∀ a ∈ φ, H a ≠ none
  ob : ∀ (n : Nat) (a : Addr) (o : SO), φ[n]? = some a → S[n]? = some o → SOk K mg φ (gnd Z φ S H) H a o
end
/-- how a state goes on -/
structure Evo (Z : List Addr) (φ : List Addr) (S : Store) (H : Hp) (φ' : List Addr) (S' : Store) (H' : Hp) : Prop where
  pre : φ <+: φ'
  ext : Same (gnd Z φ S H) (gnd Z φ' S' H')
  out : ∀ a o, H a = some o → a ∉ liveA φ S → H' a = some o
  lv : ∀ a ∈ liveA φ' S', H a ≠ none → a ∈ liveA φ S
theorem Evo.refl {Z φ : List Addr} {S : Store} {H : Hp} : Evo Z φ S H φ S H := ⟨List.prefix_refl _, Same.refl _, fun _ _ h _ => h, fun _ h _ => h⟩
theorem Evo.trans {Z φ φ1 φ2 : List Addr} {S S1 S2 : Store} {H H1 H2 : Hp} (a : Evo Z φ S H φ1 S1 H1) (b : Evo Z φ1 S1 H1 φ2 S2 H2) : Evo Z φ S H φ2 S2 H2 := by
  refine ⟨a.pre.trans b.pre, a.ext.trans b.ext, fun c o h n => ?_, fun c h hn => ?_⟩
  · exact b.out c o (a.out c o h n) fun q => n (a.lv c q (by rw [h]; exact fun z => nomatch z))
  · by_cases q : c ∈ liveA φ S
    · exact q
    · obtain ⟨o, ho⟩ := Option.ne_none_iff_exists'.mp hn
      exact a.lv c (b.lv c h (by rw [a.out c o ho q]; exact fun z => nomatch z)) hn
end DL

/-! The data layer, part 2: how stores change; results; the judgements. -/
namespace DL
open PySem L2

section
variable {K : PySem.W.Frag} {mg : Str → Option Value} {Z φ φ' : List Addr} {S S' : Store} {H H' : Hp}
theorem gnd_same (e : Same H H') : Same (gnd Z φ S H) (gnd Z φ S H') := fun a o h => by
  obtain ⟨h1, h2⟩ := without_some.mp h
  exact without_some.mpr ⟨h1, e a o h2⟩
theorem SOk.mono {φ φ' : List Addr} {G G' H H' : Hp} {a : Addr} (p : φ <+: φ') (e : Same G G') (hl : ∀ o : HO, H a = some o → H' a = some o) : ∀ {o : SO}, SOk K mg φ G H a o → SOk K mg φ' G' H' a o
  | .lst ds, ⟨vs, h1, h2⟩ => ⟨vs, hl _ h1, h2.mono p e⟩
  | .dic ks, ⟨vs, h1, h2⟩ => ⟨vs, hl _ h1, h2.mono p e⟩
  | .ins C fs, ⟨A, dx, fvs, h0, h1, h2⟩ => ⟨A, dx, fvs, h0, hl _ h1, h2.mono p e⟩
  | .frz d, h => Dat.mono p e d _ h
  | .dkt ks, ⟨xs, h1, h2⟩ => ⟨xs, hl _ h1, h2.mono p e⟩
  | .tbl _ _, ⟨h0, ps, h1, h2, h3⟩ => ⟨h0, ps, hl _ h1, h2, fun pos cv hc => by
    obtain ⟨c, q1, q2⟩ := h3 pos cv hc
    exact ⟨c, q1, e _ _ q2⟩⟩
/-- all that stood stands -/
theorem Rel.same (R : Rel K mg Z φ S H) (e : Same H H') : Rel K mg Z φ S H' ∧ Evo Z φ S H φ S H' := by
  have some_of : ∀ a, H a ≠ none → H' a ≠ none := fun a h => by
    obtain ⟨o, ho⟩ := Option.ne_none_iff_exists'.mp h
    rw [e a o ho]
    exact fun z => nomatch z
  exact ⟨⟨R.len, R.nd, R.zd, fun a h => some_of a (R.zh a h), fun a h => some_of a (R.ph a h), fun n a o h1 h2 => (R.ob n a o h1 h2).mono (List.prefix_refl _) (gnd_same e) (e a)⟩,
    ⟨List.prefix_refl _, gnd_same e, fun a o h _ => e a o h, fun a h _ => h⟩⟩
theorem Rel.out_gnd (R : Rel K mg Z φ S H) {p : Addr} (hp : H p = none) : p ∉ Z ++ liveA φ S := fun q => by
  rcases List.mem_append.mp q with z | z
  · exact R.zh p z hp
  · exact R.ph p (liveA_sub z) hp
theorem same_upd {p : Addr} {o : HO} (hp : H p = none) : Same H (upd H p o) := fun b u e => by
  rw [upd_ne (ne_of_none e hp)]
  exact e
/-- a new object that changes no more -/
theorem Rel.fresh (R : Rel K mg Z φ S H) {p : Addr} {o : HO} (hp : H p = none) : Rel K mg Z φ S (upd H p o) ∧ Evo Z φ S H φ S (upd H p o) ∧ gnd Z φ S (upd H p o) p = some o := by
  obtain ⟨a, b⟩ := R.same (same_upd (o := o) hp)
  exact ⟨a, b, without_some.mpr ⟨R.out_gnd hp, upd_same⟩⟩
/-- a new object that may change -/
theorem Rel.newOid (R : Rel K mg Z φ S H) {p : Addr} {so : SO} (e : Same H H') (hp : H p = none) (hp' : H' p ≠ none) (hl : so.live = true) (ok : SOk K mg (φ ++ [p]) (gnd Z (φ ++ [p]) (S ++ [so]) H') H' p so) :
    Rel K mg Z (φ ++ [p]) (S ++ [so]) H' ∧ Evo Z φ S H (φ ++ [p]) (S ++ [so]) H' := by
  have hn := R.out_gnd hp
  have pφ : p ∉ φ := fun q => R.ph p q hp
  have lv : liveA (φ ++ [p]) (S ++ [so]) = liveA φ S ++ [p] := by rw [liveA_snoc R.len, hl]; rfl
  have ext : Same (gnd Z φ S H) (gnd Z (φ ++ [p]) (S ++ [so]) H') := fun a o h => by
    obtain ⟨h1, h2⟩ := without_some.mp h
    refine without_some.mpr ⟨fun q => h1 ?_, e a o h2⟩
    rw [lv] at q
    rcases List.mem_append.mp q with z | z
    · exact List.mem_append_left _ z
    · rcases List.mem_append.mp z with z | z
      · exact List.mem_append_right _ z
      · rw [List.mem_singleton.mp z, hp] at h2
        cases h2
  have some_of : ∀ a, H a ≠ none → H' a ≠ none := fun a h => by
    obtain ⟨o, ho⟩ := Option.ne_none_iff_exists'.mp h
    rw [e a o ho]
    exact fun z => nomatch z
  refine ⟨⟨by rw [List.length_append, List.length_append, R.len]; rfl, List.nodup_append.mpr ⟨R.nd, by simp, fun a ha b hb => ?_⟩, fun a ha => ?_, fun a h => some_of a (R.zh a h), fun a ha => ?_, fun n a o h1 h2 => ?_⟩,
    ⟨⟨[p], rfl⟩, ext, fun a o h _ => e a o h, fun a h hn => ?_⟩⟩
  · rw [List.mem_singleton.mp hb]
    intro z
    rw [z] at ha
    exact pφ ha
  · rcases List.mem_append.mp ha with z | z
    · exact R.zd a z
    · rw [List.mem_singleton.mp z]
      exact fun q => hn (List.mem_append_left _ q)
  · rcases List.mem_append.mp ha with z | z
    · exact some_of a (R.ph a z)
    · rw [List.mem_singleton.mp z]
      exact hp'
  · by_cases hlt : n < φ.length
    · rw [List.getElem?_append_left hlt] at h1
      rw [List.getElem?_append_left (by rw [← R.len]; exact hlt)] at h2
      exact (R.ob n a o h1 h2).mono ⟨[p], rfl⟩ ext (e a)
    · have hlt' : φ.length ≤ n := Nat.le_of_not_lt hlt
      rw [List.getElem?_append_right hlt'] at h1
      rw [List.getElem?_append_right (by rw [← R.len]; exact hlt')] at h2
      have e0 : n - φ.length = 0 := by
        have := (List.getElem?_eq_some_iff.mp h1).1
        simp only [List.length_singleton] at this
        omega
      rw [← R.len] at h2
      rw [e0] at h1 h2
      cases h1
      cases h2
      exact ok
  · rw [lv] at h
    rcases List.mem_append.mp h with z | z
    · exact z
    · rw [List.mem_singleton.mp z] at hn
      exact absurd hp hn
theorem gnd_mut {n : Nat} {a : Addr} {o u : SO} {ho : HO} (h1 : φ[n]? = some a) (h2 : S[n]? = some o) (l1 : o.live = true) (l2 : u.live = true) : gnd Z φ (S.set n u) (upd H a ho) = gnd Z φ S H := by
  funext b
  unfold gnd without
  rw [liveA_set h2 (l2.trans l1.symm)]
  by_cases hb : b = a
  · subst hb
    rw [if_pos (List.mem_append_right _ (mem_liveA h1 h2 l1)), if_pos (List.mem_append_right _ (mem_liveA h1 h2 l1))]
  · rw [upd_ne hb]
/-- an object changes -/
theorem Rel.mutate (R : Rel K mg Z φ S H) {n : Nat} {a : Addr} {o u : SO} {ho : HO} (h1 : φ[n]? = some a) (h2 : S[n]? = some o) (l1 : o.live = true) (l2 : u.live = true) (ok : SOk K mg φ (gnd Z φ S H) (upd H a ho) a u) :
    Rel K mg Z φ (S.set n u) (upd H a ho) ∧ Evo Z φ S H φ (S.set n u) (upd H a ho) := by
  have eg := gnd_mut (Z := Z) (H := H) (ho := ho) h1 h2 l1 l2
  have lv : liveA φ (S.set n u) = liveA φ S := liveA_set h2 (l2.trans l1.symm)
  have some_of : ∀ b, H b ≠ none → upd H a ho b ≠ none := fun b h => by
    by_cases hb : b = a
    · subst hb
      rw [upd_same]
      exact fun z => nomatch z
    · rw [upd_ne hb]
      exact h
  refine ⟨⟨by rw [List.length_set, R.len], R.nd, R.zd, fun b h => some_of b (R.zh b h), fun b h => some_of b (R.ph b h), fun m b w q1 q2 => ?_⟩,
    ⟨List.prefix_refl _, by rw [eg]; exact Same.refl _, fun b w h hn => ?_, fun b h _ => by rw [lv] at h; exact h⟩⟩
  · rw [eg]
    by_cases hm : m = n
    · subst hm
      rw [h1] at q1
      cases q1
      rw [List.getElem?_set_self (List.getElem?_eq_some_iff.mp h2).1] at q2
      cases q2
      exact ok
    · rw [List.getElem?_set_ne (fun z => hm z.symm)] at q2
      refine (R.ob m b w q1 q2).mono (List.prefix_refl _) (Same.refl _) fun ob hb => ?_
      rw [upd_ne]
      · exact hb
      · intro z
        subst z
        exact hm (nd_ix R.nd q1 h1)
  · rw [upd_ne]
    · exact h
    · intro z
      subst z
      exact hn (mem_liveA h1 h2 l1)
theorem liveA_set_sub : ∀ {φ : List Addr} {S : Store} {n : Nat} {u : SO} {a : Addr}, u.live = false → a ∈ liveA φ (S.set n u) → a ∈ liveA φ S
  | [], _, _, _, _, _, h => by simp [liveA] at h
  | _ :: _, [], _, _, _, _, h => by simp [liveA] at h
  | b :: φ, x :: S, 0, u, a, e, h => by
    simp only [List.set_cons_zero, liveA, e] at h
    unfold liveA
    split
    · exact List.mem_cons_of_mem _ h
    · exact h
  | b :: φ, x :: S, n + 1, u, a, e, h => by
    simp only [List.set_cons_succ, liveA] at h
    unfold liveA
    split at h
    · rename_i hx
      rw [if_pos hx]
      rcases List.mem_cons.mp h with rfl | q
      · exact List.mem_cons_self
      · exact List.mem_cons_of_mem _ (liveA_set_sub e q)
    · rename_i hx
      rw [if_neg hx]
      exact liveA_set_sub e h
theorem live_set_not {φ : List Addr} {S : Store} (nd : φ.Nodup) {n : Nat} {u : SO} {a : Addr} (h1 : φ[n]? = some a) (e : u.live = false) : a ∉ liveA φ (S.set n u) := fun q => by
  obtain ⟨m, o, q1, q2, q3⟩ := liveA_mem q
  have hm : m = n := nd_ix nd q1 h1
  subst hm
  have hl := (List.getElem?_eq_some_iff.mp q2).1
  rw [List.getElem?_set_self (by rw [List.length_set] at hl; exact hl)] at q2
  cases q2
  rw [e] at q3
  cases q3
/-- an object changes no more -/
theorem Rel.freeze (R : Rel K mg Z φ S H) {n : Nat} {a : Addr} {d : D} (h1 : φ[n]? = some a) (ok : Dat K mg φ (gnd Z φ (S.set n (.frz d)) H) d (.ref a)) :
    Rel K mg Z φ (S.set n (.frz d)) H ∧ Evo Z φ S H φ (S.set n (.frz d)) H := by
  have ext : Same (gnd Z φ S H) (gnd Z φ (S.set n (.frz d)) H) := fun b o h => by
    obtain ⟨q1, q2⟩ := without_some.mp h
    refine without_some.mpr ⟨fun q => q1 ?_, q2⟩
    rcases List.mem_append.mp q with z | z
    · exact List.mem_append_left _ z
    · exact List.mem_append_right _ (liveA_set_sub rfl z)
  refine ⟨⟨by rw [List.length_set, R.len], R.nd, R.zd, R.zh, R.ph, fun m b w q1 q2 => ?_⟩, ⟨List.prefix_refl _, ext, fun b w h _ => h, fun b h _ => liveA_set_sub rfl h⟩⟩
  by_cases hm : m = n
  · subst hm
    rw [h1] at q1
    cases q1
    have hl := (List.getElem?_eq_some_iff.mp q2).1
    rw [List.getElem?_set_self (by rw [List.length_set] at hl; exact hl)] at q2
    cases q2
    exact ok
  · rw [List.getElem?_set_ne (fun z => hm z.symm)] at q2
    exact (R.ob m b w q1 q2).mono (List.prefix_refl _) ext fun _ z => z
theorem gnd_frz (R : Rel K mg Z φ S H) {n : Nat} {a : Addr} {d : D} (h1 : φ[n]? = some a) {o : HO} (ho : H a = some o) : gnd Z φ (S.set n (.frz d)) H a = some o :=
  without_some.mpr ⟨fun q => (List.mem_append.mp q).elim (R.zd a (List.mem_of_getElem? h1)) (live_set_not R.nd h1 rfl), ho⟩
theorem evo_frz {n : Nat} {d : D} : Same (gnd Z φ S H) (gnd Z φ (S.set n (.frz d)) H) := fun b o h => by
  obtain ⟨q1, q2⟩ := without_some.mp h
  refine without_some.mpr ⟨fun q => q1 ?_, q2⟩
  rcases List.mem_append.mp q with z | z
  · exact List.mem_append_left _ z
  · exact List.mem_append_right _ (liveA_set_sub rfl z)
theorem Dat.evo {d : D} {v : V} (E : Evo Z φ S H φ' S' H') (h : Dat K mg φ (gnd Z φ S H) d v) : Dat K mg φ' (gnd Z φ' S' H') d v := Dat.mono E.pre E.ext d v h
theorem DatL.evo {d : List D} {v : List V} (E : Evo Z φ S H φ' S' H') (h : DatL K mg φ (gnd Z φ S H) d v) : DatL K mg φ' (gnd Z φ' S' H') d v := DatL.mono E.pre E.ext d v h
end

/-! ### results -/
inductive Res (α : Type) where
  | ok (a : α) (S : Store) | ex (C : Str) (fs : List (Str × D)) (S : Store) | stuck
def Res.bind {α β : Type} (r : Res α) (k : α → Store → Res β) : Res β := match r with
  | .ok a S => k a S
  | .ex C fs S => .ex C fs S
  | .stuck => .stuck
@[simp] theorem Res.bind_ok {α β : Type} (a : α) (S : Store) (k : α → Store → Res β) : (Res.ok a S).bind k = k a S := rfl
@[simp] theorem Res.bind_ex {α β : Type} (C : Str) (fs : List (Str × D)) (S : Store) (k : α → Store → Res β) : (Res.ex C fs S).bind k = .ex C fs S := rfl
@[simp] theorem Res.bind_stuck {α β : Type} (k : α → Store → Res β) : (Res.stuck : Res α).bind k = .stuck := rfl
abbrev EnvD := List (Option D)

section
variable (K : PySem.W.Frag) (mg : Str → Option Value)
def ExD (φ : List Addr) (G : Hp) (fs : List (Str × D)) (dx : Option Addr) : Prop := (fs = [] ∧ dx = none) ∨ fs ≠ [] ∧ ∃ a fvs, dx = some a ∧ G a = some (.xd fvs) ∧ DatF K mg φ G fs fvs
/-- what is wanted behind a result -/
def Want {α β : Type} (R : List Addr → Hp → α → β → Prop) (Z φ : List Addr) (S : Store) (H : Hp) (r : Res α) (Q : β → Hp → Prop) (E : XK) : Prop := match r with
  | .ok a S' => ∀ b φ' H', Rel K mg Z φ' S' H' → Evo Z φ S H φ' S' H' → R φ' (gnd Z φ' S' H') a b → Q b H'
  | .ex C fs S' => ∀ A dx φ' H', mg C = some (.ref A) → Rel K mg Z φ' S' H' → Evo Z φ S H φ' S' H' → ExD K mg φ' (gnd Z φ' S' H') fs dx → E (.ref A) dx H'
  | .stuck => False
abbrev RDat : List Addr → Hp → D → V → Prop := fun φ G d v => Dat K mg φ G d v
abbrev RLst : List Addr → Hp → List D → List V → Prop := fun φ G d v => DatL K mg φ G d v
abbrev REq {α : Type} : List Addr → Hp → α → α → Prop := fun _ _ a b => a = b
def Slots (φ : List Addr) (G : Hp) (ρ : EnvD) (σ : L2.St) : Prop := ρ.length = σ.length ∧ ∀ (i : Nat) (d : D), ρ[i]? = some (some d) → ∃ v, σ[i]? = some (some v) ∧ Dat K mg φ G d v
end
section
variable {K : PySem.W.Frag} {mg : Str → Option Value} {Z φ φ' : List Addr} {S S' : Store} {H H' : Hp} {α β γ δ : Type}
theorem Want.go {R : List Addr → Hp → α → β → Prop} {r : Res α} {Q : β → Hp → Prop} {E : XK} (e : Evo Z φ S H φ' S' H') (h : Want K mg R Z φ S H r Q E) : Want K mg R Z φ' S' H' r Q E := by
  cases r with
  | ok a S1 => exact fun b φ1 H1 r1 e1 d => h b φ1 H1 r1 (e.trans e1) d
  | ex C fs S1 => exact fun A dx φ1 H1 m r1 e1 d => h A dx φ1 H1 m r1 (e.trans e1) d
  | stuck => exact h
theorem Want.bind {R : List Addr → Hp → α → β → Prop} {R' : List Addr → Hp → γ → δ → Prop} {r : Res α} {k : α → Store → Res γ} {Q : δ → Hp → Prop} {Q1 : β → Hp → Prop} {E : XK} (h : Want K mg R' Z φ S H (r.bind k) Q E)
    (f : ∀ a S1 b φ1 H1, Rel K mg Z φ1 S1 H1 → Evo Z φ S H φ1 S1 H1 → R φ1 (gnd Z φ1 S1 H1) a b → Want K mg R' Z φ1 S1 H1 (k a S1) Q E → Q1 b H1) : Want K mg R Z φ S H r Q1 E := by
  cases r with
  | ok a S1 => exact fun b φ1 H1 r1 e1 d => f a S1 b φ1 H1 r1 e1 d (h.go e1)
  | ex C fs S1 => exact h
  | stuck => exact h
theorem Want.imp {R : List Addr → Hp → α → β → Prop} {r : Res α} {Q Q1 : β → Hp → Prop} {E : XK} (h : Want K mg R Z φ S H r Q E) (f : ∀ b H', Q b H' → Q1 b H') : Want K mg R Z φ S H r Q1 E := by
  cases r with
  | ok a S1 => exact fun b φ1 H1 r1 e1 d => f _ _ (h b φ1 H1 r1 e1 d)
  | ex C fs S1 => exact h
  | stuck => exact h
/-- the result stands -/
theorem Want.now {R : List Addr → Hp → α → β → Prop} {a : α} {b : β} {Q : β → Hp → Prop} {E : XK} (h : Want K mg R Z φ S H (.ok a S) Q E) (r : Rel K mg Z φ S H) (d : R φ (gnd Z φ S H) a b) : Q b H := h b φ H r Evo.refl d
theorem Slots.evo {ρ : EnvD} {σ : L2.St} (e : Evo Z φ S H φ' S' H') (h : Slots K mg φ (gnd Z φ S H) ρ σ) : Slots K mg φ' (gnd Z φ' S' H') ρ σ := ⟨h.1, fun i d q => by
  obtain ⟨v, a, b⟩ := h.2 i d q
  exact ⟨v, a, b.evo e⟩⟩
theorem Slots.set {G : Hp} {ρ : EnvD} {σ : L2.St} {i : Nat} {d : D} {v : V} (h : Slots K mg φ G ρ σ) (hd : Dat K mg φ G d v) : Slots K mg φ G (ρ.set i (some d)) (σ.set i (some v)) := by
  refine ⟨by rw [List.length_set, List.length_set, h.1], fun j e q => ?_⟩
  by_cases hj : j = i
  · subst hj
    have hl := (List.getElem?_eq_some_iff.mp q).1
    rw [List.length_set] at hl
    rw [List.getElem?_set_self hl] at q
    cases q
    exact ⟨v, by rw [List.getElem?_set_self (by rw [← h.1]; exact hl)], hd⟩
  · rw [List.getElem?_set_ne (fun z => hj z.symm)] at q
    obtain ⟨w, a, b⟩ := h.2 j e q
    exact ⟨w, by rw [List.getElem?_set_ne (fun z => hj z.symm)]; exact a, b⟩
end

/-! ### the judgements -/
section
variable (X : Cx) (W : WX)
abbrev FE := EnvD → Store → Res D
abbrev FT := EnvD → Store → Res Bool
abbrev FA := EnvD → Store → Res (List D)
variable {X W}
/-- the canonical readings of mirrors -/
def tD (K : PySem.W.Frag) (mg : Str → Option Value) (W : WX) (f : FE) : TE := fun σ H Q => ∃ Z φ S ρ, Rel K mg Z φ S H ∧ Slots K mg φ (gnd Z φ S H) ρ σ ∧ Want K mg (RDat K mg) Z φ S H (f ρ S) Q (WE W σ)
def tDT (K : PySem.W.Frag) (mg : Str → Option Value) (W : WX) (f : FT) : TT := fun σ H Q => ∃ Z φ S ρ, Rel K mg Z φ S H ∧ Slots K mg φ (gnd Z φ S H) ρ σ ∧ Want K mg REq Z φ S H (f ρ S) Q (WE W σ)
def tDA (K : PySem.W.Frag) (mg : Str → Option Value) (W : WX) (f : FA) : TA := fun σ H Q => ∃ Z φ S ρ, Rel K mg Z φ S H ∧ Slots K mg φ (gnd Z φ S H) ρ σ ∧ Want K mg (RLst K mg) Z φ S H (f ρ S) Q (WE W σ)
theorem PE.weak {e : Expr} {t t' : TE} (h : PE X e t) (i : ∀ σ H Q, t' σ H Q → t σ H Q) : PE X e t' := ⟨fun pins s σ H Q I q => h.run pins s σ H Q I (i _ _ _ q)⟩
theorem PT.weak {e : Expr} {t t' : TT} (h : PT X e t) (i : ∀ σ H Q, t' σ H Q → t σ H Q) : PT X e t' := ⟨fun pins s σ H Q I q => h.run pins s σ H Q I (i _ _ _ q)⟩
theorem PW.weak {e : Expr} {t t' : TT} (h : L2.PW X e t) (i : ∀ σ H Q, t' σ H Q → t σ H Q) : L2.PW X e t' := ⟨fun wh pins s σ H Q I q => h.run wh pins s σ H Q I (i _ _ _ q)⟩
theorem PA.weak {e : List Expr} {t t' : TA} (h : PA X e t) (i : ∀ σ H Q, t' σ H Q → t σ H Q) : PA X e t' := ⟨fun po pins s σ H Q I q => h.run po pins s σ H Q I (i _ _ _ q)⟩
theorem PK.weak {e : List Keyword} {t t' : TA} (h : L2.PK X e t) (i : ∀ σ H Q, t' σ H Q → t σ H Q) : L2.PK X e t' := ⟨fun po pins s σ H Q I q => h.run po pins s σ H Q I (i _ _ _ q)⟩
theorem PS.weak {e : Stmt} {t t' : TS} (h : PS X e t) (i : ∀ D σ H, t' D σ H → t D σ H) : PS X e t' := ⟨fun pins s σ H D I q => h.run pins s σ H D I (i _ _ _ q)⟩
theorem PSs.weak {e : List Stmt} {t t' : TS} (h : PSs X e t) (i : ∀ D σ H, t' D σ H → t D σ H) : PSs X e t' := ⟨fun pins s σ H D I q => h.run pins s σ H D I (i _ _ _ q)⟩
variable (X W)
abbrev IsE (t : TE) (f : FE) : Prop := ∀ Z φ S ρ σ H (Q : VK), Rel X.K X.mg Z φ S H → Slots X.K X.mg φ (gnd Z φ S H) ρ σ → Want X.K X.mg (RDat X.K X.mg) Z φ S H (f ρ S) Q (WE W σ) → t σ H Q
abbrev IsT (t : TT) (f : FT) : Prop := ∀ Z φ S ρ σ H (Q : Bool → Hp → Prop), Rel X.K X.mg Z φ S H → Slots X.K X.mg φ (gnd Z φ S H) ρ σ → Want X.K X.mg REq Z φ S H (f ρ S) Q (WE W σ) → t σ H Q
abbrev IsA (t : TA) (f : FA) : Prop := ∀ Z φ S ρ σ H (Q : List V → Hp → Prop), Rel X.K X.mg Z φ S H → Slots X.K X.mg φ (gnd Z φ S H) ρ σ → Want X.K X.mg (RLst X.K X.mg) Z φ S H (f ρ S) Q (WE W σ) → t σ H Q
def DE (e : Expr) (f : FE) : Prop := PE X e (tD X.K X.mg W f)
def DT (e : Expr) (f : FT) : Prop := PT X e (tDT X.K X.mg W f)
def DW (e : Expr) (f : FT) : Prop := L2.PW X e (tDT X.K X.mg W f)
def DA (es : List Expr) (f : FA) : Prop := PA X es (tDA X.K X.mg W f)
def DKw (ks : List Keyword) (f : FA) : Prop := L2.PK X ks (tDA X.K X.mg W f)
variable {X W}
theorem DE.mk {e : Expr} {f : FE} {t : TE} (p : PE X e t) (h : IsE X W t f) : DE X W e f := PE.weak p fun σ H Q ⟨Z, φ, S, ρ, R, sl, w⟩ => h Z φ S ρ σ H Q R sl w
theorem DE.ex {e : Expr} {f : FE} (h : DE X W e f) : ∃ t : TE, PE X e t ∧ IsE X W t f := ⟨_, h, fun Z φ S ρ σ H Q R sl w => ⟨Z, φ, S, ρ, R, sl, w⟩⟩
theorem DT.mk {e : Expr} {f : FT} {t : TT} (p : PT X e t) (h : IsT X W t f) : DT X W e f := PT.weak p fun σ H Q ⟨Z, φ, S, ρ, R, sl, w⟩ => h Z φ S ρ σ H Q R sl w
theorem DT.ex {e : Expr} {f : FT} (h : DT X W e f) : ∃ t : TT, PT X e t ∧ IsT X W t f := ⟨_, h, fun Z φ S ρ σ H Q R sl w => ⟨Z, φ, S, ρ, R, sl, w⟩⟩
theorem DW.mk {e : Expr} {f : FT} {t : TT} (p : L2.PW X e t) (h : IsT X W t f) : DW X W e f := PW.weak p fun σ H Q ⟨Z, φ, S, ρ, R, sl, w⟩ => h Z φ S ρ σ H Q R sl w
theorem DW.ex {e : Expr} {f : FT} (h : DW X W e f) : ∃ t : TT, L2.PW X e t ∧ IsT X W t f := ⟨_, h, fun Z φ S ρ σ H Q R sl w => ⟨Z, φ, S, ρ, R, sl, w⟩⟩
theorem DA.mk {e : List Expr} {f : FA} {t : TA} (p : PA X e t) (h : IsA X W t f) : DA X W e f := PA.weak p fun σ H Q ⟨Z, φ, S, ρ, R, sl, w⟩ => h Z φ S ρ σ H Q R sl w
theorem DA.ex {e : List Expr} {f : FA} (h : DA X W e f) : ∃ t : TA, PA X e t ∧ IsA X W t f := ⟨_, h, fun Z φ S ρ σ H Q R sl w => ⟨Z, φ, S, ρ, R, sl, w⟩⟩
theorem DKw.mk {e : List Keyword} {f : FA} {t : TA} (p : L2.PK X e t) (h : IsA X W t f) : DKw X W e f := PK.weak p fun σ H Q ⟨Z, φ, S, ρ, R, sl, w⟩ => h Z φ S ρ σ H Q R sl w
theorem DKw.ex {e : List Keyword} {f : FA} (h : DKw X W e f) : ∃ t : TA, L2.PK X e t ∧ IsA X W t f := ⟨_, h, fun Z φ S ρ σ H Q R sl w => ⟨Z, φ, S, ρ, R, sl, w⟩⟩
variable (X W)
/-- a statement's result -/
inductive Out where
  | nx (ρ : EnvD) (S : Store) | rt (d : D) (S : Store) | bk (ρ : EnvD) (S : Store) | ct (ρ : EnvD) (S : Store) | ex (C : Str) (fs : List (Str × D)) (ρ : EnvD) (S : Store) | stuck
abbrev FS := EnvD → Store → Out
def WantS (Z φ : List Addr) (S : Store) (H : Hp) (o : Out) (Dd : Ends) : Prop := match o with
  | .nx ρ S' => ∀ σ φ' H', Rel X.K X.mg Z φ' S' H' → Evo Z φ S H φ' S' H' → Slots X.K X.mg φ' (gnd Z φ' S' H') ρ σ → Dd.nx σ H'
  | .rt d S' => ∀ v φ' H', Rel X.K X.mg Z φ' S' H' → Evo Z φ S H φ' S' H' → Dat X.K X.mg φ' (gnd Z φ' S' H') d v → Dd.rt v H'
  | .bk ρ S' => ∀ σ φ' H', Rel X.K X.mg Z φ' S' H' → Evo Z φ S H φ' S' H' → Slots X.K X.mg φ' (gnd Z φ' S' H') ρ σ → Dd.bk σ H'
  | .ct ρ S' => ∀ σ φ' H', Rel X.K X.mg Z φ' S' H' → Evo Z φ S H φ' S' H' → Slots X.K X.mg φ' (gnd Z φ' S' H') ρ σ → Dd.ct σ H'
  | .ex C fs ρ S' => ∀ A dx σ φ' H', X.mg C = some (.ref A) → Rel X.K X.mg Z φ' S' H' → Evo Z φ S H φ' S' H' → Slots X.K X.mg φ' (gnd Z φ' S' H') ρ σ → ExD X.K X.mg φ' (gnd Z φ' S' H') fs dx → W (.ref A) dx σ H'
  | .stuck => False
def tDS (g : FS) : TS := fun Dd σ H => ∃ Z φ S ρ, Rel X.K X.mg Z φ S H ∧ Slots X.K X.mg φ (gnd Z φ S H) ρ σ ∧ WantS X W Z φ S H (g ρ S) Dd
abbrev IsS (t : TS) (g : FS) : Prop := ∀ Z φ S ρ σ H Dd, Rel X.K X.mg Z φ S H → Slots X.K X.mg φ (gnd Z φ S H) ρ σ → WantS X W Z φ S H (g ρ S) Dd → t Dd σ H
def DS (st : Stmt) (g : FS) : Prop := PS X st (tDS X W g)
def DSs (sts : List Stmt) (g : FS) : Prop := PSs X sts (tDS X W g)
variable {X W}
theorem DS.mk {e : Stmt} {f : FS} {t : TS} (p : PS X e t) (h : IsS X W t f) : DS X W e f := PS.weak p fun D σ H ⟨Z, φ, S, ρ, R, sl, w⟩ => h Z φ S ρ σ H D R sl w
theorem DS.ex {e : Stmt} {f : FS} (h : DS X W e f) : ∃ t : TS, PS X e t ∧ IsS X W t f := ⟨_, h, fun Z φ S ρ σ H D R sl w => ⟨Z, φ, S, ρ, R, sl, w⟩⟩
theorem DSs.mk {e : List Stmt} {f : FS} {t : TS} (p : PSs X e t) (h : IsS X W t f) : DSs X W e f := PSs.weak p fun D σ H ⟨Z, φ, S, ρ, R, sl, w⟩ => h Z φ S ρ σ H D R sl w
theorem DSs.ex {e : List Stmt} {f : FS} (h : DSs X W e f) : ∃ t : TS, PSs X e t ∧ IsS X W t f := ⟨_, h, fun Z φ S ρ σ H D R sl w => ⟨Z, φ, S, ρ, R, sl, w⟩⟩
end
section
variable {X : Cx} {W : WX} {Z φ φ' : List Addr} {S S' : Store} {H H' : Hp} {Dd : Ends}
theorem WantS.go {o : Out} (e : Evo Z φ S H φ' S' H') (h : WantS X W Z φ S H o Dd) : WantS X W Z φ' S' H' o Dd := by
  cases o with
  | nx ρ S1 => exact fun σ φ1 H1 r1 e1 d => h σ φ1 H1 r1 (e.trans e1) d
  | rt d S1 => exact fun σ φ1 H1 r1 e1 d => h σ φ1 H1 r1 (e.trans e1) d
  | bk ρ S1 => exact fun σ φ1 H1 r1 e1 d => h σ φ1 H1 r1 (e.trans e1) d
  | ct ρ S1 => exact fun σ φ1 H1 r1 e1 d => h σ φ1 H1 r1 (e.trans e1) d
  | ex C fs ρ S1 => exact fun A dx σ φ1 H1 m r1 e1 sl d => h A dx σ φ1 H1 m r1 (e.trans e1) sl d
  | stuck => exact h
/-- an expression's result within a statement -/
def Res.into {α : Type} (r : Res α) (ρ : EnvD) (k : α → Store → Out) : Out := match r with
  | .ok a S => k a S
  | .ex C fs S => .ex C fs ρ S
  | .stuck => .stuck
@[simp] theorem Res.into_ok {α : Type} (a : α) (S : Store) (ρ : EnvD) (k : α → Store → Out) : (Res.ok a S).into ρ k = k a S := rfl
@[simp] theorem Res.into_ex {α : Type} (C : Str) (fs : List (Str × D)) (S : Store) (ρ : EnvD) (k : α → Store → Out) : (Res.ex C fs S).into ρ k = .ex C fs ρ S := rfl
@[simp] theorem Res.into_stuck {α : Type} (ρ : EnvD) (k : α → Store → Out) : (Res.stuck : Res α).into ρ k = .stuck := rfl
theorem WantS.into {α β : Type} {R : List Addr → Hp → α → β → Prop} {r : Res α} {ρ : EnvD} {σ : L2.St} {k : α → Store → Out} {Q1 : β → Hp → Prop} (sl : Slots X.K X.mg φ (gnd Z φ S H) ρ σ) (h : WantS X W Z φ S H (r.into ρ k) Dd)
    (f : ∀ a S1 b φ1 H1, Rel X.K X.mg Z φ1 S1 H1 → Evo Z φ S H φ1 S1 H1 → R φ1 (gnd Z φ1 S1 H1) a b → WantS X W Z φ1 S1 H1 (k a S1) Dd → Q1 b H1) : Want X.K X.mg R Z φ S H r Q1 (WE W σ) := by
  cases r with
  | ok a S1 => exact fun b φ1 H1 r1 e1 d => f a S1 b φ1 H1 r1 e1 d (h.go e1)
  | ex C fs S1 => exact fun A dx φ1 H1 m r1 e1 d => h A dx σ φ1 H1 m r1 e1 (sl.evo e1) d
  | stuck => exact h
end
end DL

/-! The data layer, part 3: names, constants, operators, tests, displays, items, built-ins. -/
namespace DL
open PySem L2

section
variable {K : PySem.W.Frag} {mg : Str → Option Value} {Z φ : List Addr} {S : Store} {H : Hp}
theorem gnd_sub : Same (gnd Z φ S H) H := fun a o h => (without_some.mp h).2
/-- the items of a list, wherever it lies -/
def asL (S : Store) : D → Option (List D)
  | .lst ds => some ds
  | .scr ds => some ds
  | .oid n => match S[n]? with
    | some (.lst ds) => some ds
    | some (.frz (.lst ds)) => some ds
    | _ => none
  | _ => none
/-- the items of a list or a tuple -/
def asQ (S : Store) : D → Option (List D)
  | .tup ds => some ds
  | d => asL S d
theorem asL_ok (R : Rel K mg Z φ S H) {d : D} {v : V} {ds : List D} (h : Dat K mg φ (gnd Z φ S H) d v) (e : asL S d = some ds) : ∃ a vs, v = .ref a ∧ SqL K H a vs ∧ DatL K mg φ (gnd Z φ S H) ds vs := by
  cases d with
  | lst es =>
    cases e
    unfold Dat at h
    obtain ⟨a, vs, rfl, h1, h2⟩ := h
    exact ⟨a, vs, rfl, .of (gnd_sub _ _ h1), h2⟩
  | scr es =>
    cases e
    unfold Dat at h
    obtain ⟨a, vs, rfl, h1, h2⟩ := h
    exact ⟨a, vs, rfl, Same.seq gnd_sub h1, h2⟩
  | oid n =>
    unfold Dat at h
    obtain ⟨a, rfl, h1⟩ := h
    cases q : S[n]? with
    | none => simp [asL, q] at e
    | some o =>
      simp only [asL, q] at e
      have ok := R.ob n a o h1 q
      cases o with
      | lst es =>
        cases e
        obtain ⟨vs, q1, q2⟩ := ok
        exact ⟨a, vs, rfl, .of q1, q2⟩
      | frz d =>
        cases d with
        | lst es =>
          cases e
          have ok' : Dat K mg φ (gnd Z φ S H) (.lst _) (.ref a) := ok
          unfold Dat at ok'
          obtain ⟨b, vs, e1, q1, q2⟩ := ok'
          cases e1
          exact ⟨a, vs, rfl, .of (gnd_sub _ _ q1), q2⟩
        | _ => cases e
      | _ => cases e
  | _ => cases e
theorem asQ_ok (R : Rel K mg Z φ S H) {d : D} {v : V} {ds : List D} (h : Dat K mg φ (gnd Z φ S H) d v) (e : asQ S d = some ds) : ∃ a vs, v = .ref a ∧ (SqL K H a vs ∨ SqT K H a vs) ∧ DatL K mg φ (gnd Z φ S H) ds vs := by
  cases d with
  | tup es =>
    cases e
    unfold Dat at h
    obtain ⟨a, vs, rfl, h1, h2⟩ := h
    exact ⟨a, vs, rfl, .inr (sqt_mono gnd_sub h1), h2⟩
  | _ =>
    obtain ⟨a, vs, e1, h1, h2⟩ := asL_ok R h e
    exact ⟨a, vs, e1, .inl h1, h2⟩
end

section
variable {X : Cx} {W : WX} {a b c e : Expr} {es : List Expr} {fa fb fc fe : FE} {pos : Pos}

/-! ### names and constants -/
def fVar (i : Nat) : FE := fun ρ S => match ρ[i]? with
  | some (some d) => .ok d S
  | _ => .stuck
def fC (d : D) : FE := fun _ S => .ok d S
theorem de_var {i : Nat} {x : Str} (p : PE X (.Name x pos) (tVar i)) : DE X W (.Name x pos) (fVar i) :=
  .mk p (fun Z φ S ρ σ H Q R sl w => by
    unfold fVar at w
    cases h : ρ[i]? with
    | none => rw [h] at w; exact w.elim
    | some o =>
      cases o with
      | none => rw [h] at w; exact w.elim
      | some d =>
        rw [h] at w
        obtain ⟨v, h1, h2⟩ := sl.2 i d h
        exact ⟨v, h1, w.now R h2⟩)
theorem de_c {t : TE} {v : V} {d : D} (p : PE X e t) (ht : t = tC v) (hd : ∀ φ G, Dat X.K X.mg φ G d v) : DE X W e (fC d) := by
  subst ht
  exact .mk p (fun Z φ S ρ σ H Q R sl w => w.now R (hd _ _))
theorem de_int {i : Int} {j} : DE X W (.Constant (.int i) j pos) (fC (.int i)) := de_c pe_int rfl fun _ _ => by unfold Dat; rfl
theorem de_bl {i : Bool} {j} : DE X W (.Constant (.bool i) j pos) (fC (.bl i)) := de_c pe_bl rfl fun _ _ => by unfold Dat; rfl
theorem de_non {j} : DE X W (.Constant .none j pos) (fC .non) := de_c pe_non rfl fun _ _ => by unfold Dat; rfl
theorem de_str {i : Str} {j} : DE X W (.Constant (.str i) j pos) (fC (.str i)) := de_c pe_str rfl fun _ _ => by unfold Dat; rfl
/-- a module's int -/
theorem de_globI {x : Str} {i : Int} {t : Tok} (hg : Gl X x) (hm : X.mg x = some (.int i t)) (hd : (x == ("__debug__" : Str)) = false := by decide) : DE X W (.Name x pos) (fC (.int i)) :=
  de_c (pe_glob (v := .int i) hg hm ⟨t, rfl⟩ hd) rfl fun _ _ => by unfold Dat; rfl
/-- a built-in class as a value -/
theorem de_ty {x : Str} {n : String} (hg : Gl X x) (hm : X.mg x = none) (hv : bootBuiltins x = some (.type n)) (hn : x ≠ "__name__" := by decide) (hd : (x == ("__debug__" : Str)) = false := by decide) : DE X W (.Name x pos) (fC (.ty n)) :=
  de_c (pe_bltn (v := .ty n) hg hm hv rfl hn hd) rfl fun _ _ => by unfold Dat; rfl

/-! ### operators -/
abbrev G2 := D → D → Store → Res D
def OpD (X : Cx) (r : R2) (g : G2) : Prop := ∀ (Z φ : List Addr) (S : Store) (H : Hp) (x y : D) (u v : V) (Q : VK) (E : XK), Rel X.K X.mg Z φ S H → Dat X.K X.mg φ (gnd Z φ S H) x u → Dat X.K X.mg φ (gnd Z φ S H) y v →
  Want X.K X.mg (RDat X.K X.mg) Z φ S H (g x y S) Q E → r u v H Q
def fBin (g : G2) (fa fb : FE) : FE := fun ρ S => (fa ρ S).bind fun x S => (fb ρ S).bind fun y S => g x y S
theorem dbin {ta tb : TE} {r : R2} {g : G2} (hg : OpD X r g)
    (ha : ∀ Z φ S ρ σ H (Q : VK), Rel X.K X.mg Z φ S H → Slots X.K X.mg φ (gnd Z φ S H) ρ σ → Want X.K X.mg (RDat X.K X.mg) Z φ S H (fa ρ S) Q (WE W σ) → ta σ H Q)
    (hb : ∀ Z φ S ρ σ H (Q : VK), Rel X.K X.mg Z φ S H → Slots X.K X.mg φ (gnd Z φ S H) ρ σ → Want X.K X.mg (RDat X.K X.mg) Z φ S H (fb ρ S) Q (WE W σ) → tb σ H Q)
    (Z φ S ρ σ H) (Q : VK) (R : Rel X.K X.mg Z φ S H) (sl : Slots X.K X.mg φ (gnd Z φ S H) ρ σ) (w : Want X.K X.mg (RDat X.K X.mg) Z φ S H (fBin g fa fb ρ S) Q (WE W σ)) : tOp r ta tb σ H Q :=
  ha Z φ S ρ σ H _ R sl (w.bind fun x S1 u φ1 H1 R1 E1 d1 w1 => hb Z φ1 S1 ρ σ H1 _ R1 (sl.evo E1) (w1.bind fun y S2 v φ2 H2 R2 E2 d2 w2 => hg Z φ2 S2 H2 x y u v Q _ R2 (Dat.evo E2 d1) d2 w2))
theorem de_bin {op : Operator} {r : R2} {g : G2} (ho : OpR X (binaryOp op) r) (hg : OpD X r g) (ha : DE X W a fa) (hb : DE X W b fb) : DE X W (.BinOp a op b pos) (fBin g fa fb) := by
  obtain ⟨ta, pa, qa⟩ := (ha).ex
  obtain ⟨tb, pb, qb⟩ := (hb).ex
  exact .mk (pe_op ho pa pb) (dbin hg qa qb)
theorem de_cmp {op : CmpOp} {r : R2} {g : G2} (ho : OpR X (compareOp op) r) (hg : OpD X r g) (ha : DE X W a fa) (hb : DE X W b fb) (hm : behindInMarks op b = false) : DE X W (.Compare a [op] [b] pos) (fBin g fa fb) := by
  obtain ⟨ta, pa, qa⟩ := (ha).ex
  obtain ⟨tb, pb, qb⟩ := (hb).ex
  exact .mk (pe_cmpR ho pa pb hm) (dbin hg qa qb)
theorem de_ix {r : R2} {g : G2} (ho : IxR X r) (hg : OpD X r g) (ha : DE X W a fa) (hb : DE X W b fb) (hs : PlainIx b) : DE X W (.Subscript a b pos) (fBin g fa fb) := by
  obtain ⟨ta, pa, qa⟩ := (ha).ex
  obtain ⟨tb, pb, qb⟩ := (hb).ex
  exact .mk (pe_ix ho pa pb hs) (dbin hg qa qb)
/-- the answer as a test -/
def toB (f : FE) : FT := fun ρ S => (f ρ S).bind fun d S => match d with
  | .bl k => .ok k S
  | _ => .stuck
theorem toB_ok {t : TE} {f : FE}
    (ha : ∀ Z φ S ρ σ H (Q : VK), Rel X.K X.mg Z φ S H → Slots X.K X.mg φ (gnd Z φ S H) ρ σ → Want X.K X.mg (RDat X.K X.mg) Z φ S H (f ρ S) Q (WE W σ) → t σ H Q)
    (Z φ S ρ σ H) (Q : Bool → Hp → Prop) (R : Rel X.K X.mg Z φ S H) (sl : Slots X.K X.mg φ (gnd Z φ S H) ρ σ) (w : Want X.K X.mg REq Z φ S H (toB f ρ S) Q (WE W σ)) : t σ H fun x H' => ∃ k, x = .bl k ∧ Q k H' :=
  ha Z φ S ρ σ H _ R sl (w.bind fun x S1 u φ1 H1 R1 E1 d1 w1 => by
    cases x with
    | bl k =>
      unfold RDat Dat at d1
      exact ⟨k, d1, w1.now R1 rfl⟩
    | _ => exact w1.elim)
theorem dt_cmp {op : CmpOp} {r : R2} {g : G2} (ho : OpR X (compareOp op) r) (hg : OpD X r g) (ha : DE X W a fa) (hb : DE X W b fb) (hm : behindInMarks op b = false) : DT X W (.Compare a [op] [b] pos) (toB (fBin g fa fb)) := by
  obtain ⟨ta, pa, qa⟩ := (ha).ex
  obtain ⟨tb, pb, qb⟩ := (hb).ex
  exact .mk (pt_cmpR ho pa pb hm) (toB_ok (dbin hg qa qb))
theorem dt_val (ha : DE X W a fa) (he : ∀ whole, isTrue a X.env whole = (do let v ← whole; standAt a.pos; holding [v] (truthy v)) := by intro _; rfl) : DT X W a (toB fa) := by
  obtain ⟨ta, pa, qa⟩ := (ha).ex
  exact .mk (pt_val pa he) (toB_ok qa)
def fUn (g : D → Store → Res D) (fa : FE) : FE := fun ρ S => (fa ρ S).bind g
def UnD (X : Cx) (r : V → Hp → VK → Prop) (g : D → Store → Res D) : Prop := ∀ (Z φ : List Addr) (S : Store) (H : Hp) (x : D) (u : V) (Q : VK) (E : XK), Rel X.K X.mg Z φ S H → Dat X.K X.mg φ (gnd Z φ S H) x u →
  Want X.K X.mg (RDat X.K X.mg) Z φ S H (g x S) Q E → r u H Q
theorem de_un {op : UnaryOp} {r : V → Hp → VK → Prop} {g : D → Store → Res D} (ho : UnR X (unaryOp op) r) (hg : UnD X r g) (ha : DE X W a fa) : DE X W (.UnaryOp op a pos) (fUn g fa) := by
  obtain ⟨ta, pa, qa⟩ := (ha).ex
  exact .mk (pe_un ho pa) (fun Z φ S ρ σ H Q R sl w => qa Z φ S ρ σ H _ R sl (w.bind fun x S1 u φ1 H1 R1 E1 d1 w1 => hg Z φ1 S1 H1 x u Q _ R1 d1 w1))
theorem OpD.or {r r' : R2} {g g' : G2} (p : D → D → Store → Bool) (h : OpD X r g) (h' : OpD X r' g') : OpD X (fun x y H Q => r x y H Q ∨ r' x y H Q) (fun x y S => if p x y S then g x y S else g' x y S) := fun Z φ S H x y u v Q E R dx dy w => by
  by_cases q : p x y S = true
  · exact .inl (h Z φ S H x y u v Q E R dx dy (by simpa only [q, if_true] using w))
  · exact .inr (h' Z φ S H x y u v Q E R dx dy (by simpa [q] using w))

/-! ints -/
def gI (C : Int → Int → Bool) (f : Int → Int → D) : G2 := fun x y S => match x, y with
  | .int i, .int j => if C i j then .ok (f i j) S else .stuck
  | _, _ => .stuck
theorem gI_inv {C : Int → Int → Bool} {f : Int → Int → D} {x y : D} {S : Store} {Z φ : List Addr} {H : Hp} {Q : VK} {E : XK} (w : Want X.K X.mg (RDat X.K X.mg) Z φ S H (gI C f x y S) Q E) :
    ∃ i j, x = .int i ∧ y = .int j ∧ C i j = true ∧ Want X.K X.mg (RDat X.K X.mg) Z φ S H (.ok (f i j) S) Q E := by
  unfold gI at w
  cases x with
  | int i =>
    cases y with
    | int j =>
      by_cases q : C i j = true
      · simp only [q, if_true] at w
        exact ⟨i, j, rfl, rfl, q, w⟩
      · simp only [q] at w
        exact w.elim
    | _ => exact w.elim
  | _ => exact w.elim
theorem opd_I {C : Int → Int → Prop} {c : Int → Int → Bool} {g : Int → Int → V} {f : Int → Int → D} (hc : ∀ i j, c i j = true → C i j) (hf : ∀ i j φ G, Dat X.K X.mg φ G (f i j) (g i j)) : OpD X (rI C g) (gI c f) :=
  fun Z φ S H x y u v Q E R dx dy w => by
    obtain ⟨i, j, rfl, rfl, q, w⟩ := gI_inv w
    unfold Dat at dx dy
    exact ⟨i, j, dx, dy, hc i j q, w.now R (hf i j _ _)⟩
theorem opd_I0 {g : Int → Int → V} {f : Int → Int → D} (hf : ∀ i j φ G, Dat X.K X.mg φ G (f i j) (g i j)) : OpD X (rI0 g) (gI (fun _ _ => true) f) :=
  fun Z φ S H x y u v Q E R dx dy w => by
    obtain ⟨i, j, rfl, rfl, q, w⟩ := gI_inv w
    unfold Dat at dx dy
    exact ⟨i, j, dx, dy, w.now R (hf i j _ _)⟩
theorem dat_int {φ : List Addr} {G : Hp} (i : Int) : Dat X.K X.mg φ G (.int i) (.int i) := by unfold Dat; rfl
theorem dat_bl {φ : List Addr} {G : Hp} (i : Bool) : Dat X.K X.mg φ G (.bl i) (.bl i) := by unfold Dat; rfl
theorem dat_str {φ : List Addr} {G : Hp} (i : Str) : Dat X.K X.mg φ G (.str i) (.str i) := by unfold Dat; rfl
theorem dat_non {φ : List Addr} {G : Hp} : Dat X.K X.mg φ G .non .non := by unfold Dat; rfl
def gSub : G2 := gI (fun _ _ => true) fun i j => .int (i - j)
noncomputable def cMul (i j : Int) : Bool := @decide ((-18446744073709551616 < i ∧ i < 18446744073709551616) ∨ (-18446744073709551616 < j ∧ j < 18446744073709551616)) (Classical.propDecidable _)
noncomputable def gMul : G2 := gI cMul fun i j => .int (i * j)
def gMod : G2 := gI (fun _ j => decide (0 < j)) fun i j => .int (i % j)
noncomputable def cDiv (_ j : Int) : Bool := @decide (0 < j ∧ j < 1073741824) (Classical.propDecidable _)
noncomputable def gDiv : G2 := gI cDiv fun i j => .int (i / j)
noncomputable def cPow (i j : Int) : Bool := @decide (0 ≤ j ∧ j ≤ 1000000 ∧ i.natAbs < 18446744073709551616) (Classical.propDecidable _)
noncomputable def gPow : G2 := gI cPow fun i j => .int (i ^ j.toNat)
theorem de_sub (ha : DE X W a fa) (hb : DE X W b fb) : DE X W (.BinOp a .Sub b pos) (fBin gSub fa fb) := de_bin op_sub (opd_I0 fun _ _ _ _ => dat_int _) ha hb
theorem de_mul (ha : DE X W a fa) (hb : DE X W b fb) : DE X W (.BinOp a .Mult b pos) (fBin gMul fa fb) :=
  de_bin op_mul (opd_I (fun i j h => by simpa [cMul, CMul] using h) fun _ _ _ _ => dat_int _) ha hb
theorem de_mod (ha : DE X W a fa) (hb : DE X W b fb) : DE X W (.BinOp a .Mod b pos) (fBin gMod fa fb) := de_bin op_mod (opd_I (fun i j h => by simpa using h) fun _ _ _ _ => dat_int _) ha hb
theorem de_pow (ha : DE X W a fa) (hb : DE X W b fb) : DE X W (.BinOp a .Pow b pos) (fBin gPow fa fb) := de_bin op_pow (opd_I (fun i j h => by simpa [cPow, CPow, and_assoc] using h) fun _ _ _ _ => dat_int _) ha hb
def gNeg : D → Store → Res D := fun x S => match x with
  | .int i => .ok (.int (-i)) S
  | _ => .stuck
theorem de_neg (ha : DE X W a fa) : DE X W (.UnaryOp .USub a pos) (fUn gNeg fa) := de_un un_neg (fun Z φ S H x u Q E R dx w => by
  cases x with
  | int i =>
    unfold Dat at dx
    exact ⟨i, dx, w.now R (dat_int _)⟩
  | _ => exact w.elim) ha
def gLt : G2 := gI (fun _ _ => true) fun i j => .bl (decide (i < j))
def gLe : G2 := gI (fun _ _ => true) fun i j => .bl (decide (i ≤ j))
def gGt : G2 := gI (fun _ _ => true) fun i j => .bl (decide (j < i))
def gGe : G2 := gI (fun _ _ => true) fun i j => .bl (decide (j ≤ i))
theorem opd_lt : OpD X (rI0 fun i j => .bl (decide (i < j))) gLt := opd_I0 fun _ _ _ _ => dat_bl _
theorem opd_le : OpD X (rI0 fun i j => .bl (decide (i ≤ j))) gLe := opd_I0 fun _ _ _ _ => dat_bl _
theorem opd_gt : OpD X (rI0 fun i j => .bl (decide (j < i))) gGt := opd_I0 fun _ _ _ _ => dat_bl _
theorem opd_ge : OpD X (rI0 fun i j => .bl (decide (j ≤ i))) gGe := opd_I0 fun _ _ _ _ => dat_bl _
/-! is None -/
def D.isNon : D → Bool
  | .non => true
  | _ => false
theorem isNon_V {φ : List Addr} {G : Hp} {K : PySem.W.Frag} {mg : Str → Option Value} {d : D} {v : V} (h : Dat K mg φ G d v) : decide (v = .non) = d.isNon := by
  cases d <;> unfold Dat at h <;> first
    | (subst h; rfl)
    | (obtain ⟨_, _, rfl, _⟩ := h; rfl)
    | (obtain ⟨_, rfl, _⟩ := h; rfl)
    | (obtain ⟨_, _, _, _, rfl, _⟩ := h; rfl)
    | (obtain ⟨_, _, _, rfl, _⟩ := h; rfl)
def gIs : G2 := fun x y S => if y.isNon then .ok (.bl x.isNon) S else .stuck
def gIsNot : G2 := fun x y S => if y.isNon then .ok (.bl (!x.isNon)) S else .stuck
theorem opd_is : OpD X (fun x y H Q => y = .non ∧ Q (.bl (decide (x = .non))) H) gIs := fun Z φ S H x y u v Q E R dx dy w => by
  unfold gIs at w
  by_cases q : y.isNon = true
  · rw [if_pos q] at w
    have e := isNon_V dy
    rw [q] at e
    refine ⟨of_decide_eq_true e, ?_⟩
    rw [isNon_V dx]
    exact w.now R (dat_bl _)
  · rw [if_neg q] at w
    exact w.elim
theorem opd_isnot : OpD X (fun x y H Q => y = .non ∧ Q (.bl (!decide (x = .non))) H) gIsNot := fun Z φ S H x y u v Q E R dx dy w => by
  unfold gIsNot at w
  by_cases q : y.isNon = true
  · rw [if_pos q] at w
    have e := isNon_V dy
    rw [q] at e
    refine ⟨of_decide_eq_true e, ?_⟩
    rw [isNon_V dx]
    exact w.now R (dat_bl _)
  · rw [if_neg q] at w
    exact w.elim

/-! ### and, or, not, if -/
def fAndT (ta tb : FT) : FT := fun ρ S => (ta ρ S).bind fun k S => if k then tb ρ S else .ok false S
def fOrT (ta tb : FT) : FT := fun ρ S => (ta ρ S).bind fun k S => if k then .ok true S else tb ρ S
def fNotT (ta : FT) : FT := fun ρ S => (ta ρ S).bind fun k S => .ok (!k) S
variable {ga gb : FT} {rest : List Expr}
theorem dw_and1 (ha : DT X W a ga) : DW X W (.BoolOp .And [a] pos) ga := by
  obtain ⟨t, p, q⟩ := (ha).ex
  exact .mk (pw_and1 p) q
theorem dw_or1 (ha : DT X W a ga) : DW X W (.BoolOp .Or [a] pos) ga := by
  obtain ⟨t, p, q⟩ := (ha).ex
  exact .mk (pw_or1 p) q
theorem dw_and (ha : DT X W a ga) (hb : DW X W (.BoolOp .And (b :: rest) pos) gb) : DW X W (.BoolOp .And (a :: b :: rest) pos) (fAndT ga gb) := by
  obtain ⟨t, p, q⟩ := (ha).ex
  obtain ⟨u, p', q'⟩ := (hb).ex
  refine .mk (pw_and p p') (fun Z φ S ρ σ H Q R sl w => q Z φ S ρ σ H _ R sl (w.bind fun k S1 k' φ1 H1 R1 E1 e w1 => ?_))
  cases e
  cases k with
  | true => exact iteT (q' Z φ1 S1 ρ σ H1 Q R1 (sl.evo E1) w1)
  | false => exact iteF (w1.now R1 rfl)
theorem dw_or (ha : DT X W a ga) (hb : DW X W (.BoolOp .Or (b :: rest) pos) gb) : DW X W (.BoolOp .Or (a :: b :: rest) pos) (fOrT ga gb) := by
  obtain ⟨t, p, q⟩ := (ha).ex
  obtain ⟨u, p', q'⟩ := (hb).ex
  refine .mk (pw_or p p') (fun Z φ S ρ σ H Q R sl w => q Z φ S ρ σ H _ R sl (w.bind fun k S1 k' φ1 H1 R1 E1 e w1 => ?_))
  cases e
  cases k with
  | true => exact iteT (w1.now R1 rfl)
  | false => exact iteF (q' Z φ1 S1 ρ σ H1 Q R1 (sl.evo E1) w1)
theorem DW.dt (h : DW X W a ga) : DT X W a ga := by
  obtain ⟨t, p, q⟩ := (h).ex
  exact .mk (p.pt) q
theorem dt_not (h : DT X W a ga) : DT X W (.UnaryOp .Not a pos) (fNotT ga) := by
  obtain ⟨t, p, q⟩ := (h).ex
  refine .mk (pt_not p) (fun Z φ S ρ σ H Q R sl w => q Z φ S ρ σ H _ R sl (w.bind fun k S1 k' φ1 H1 R1 E1 e w1 => ?_))
  cases e
  exact w1.now R1 rfl
/-- and, or as values, all but the last a truth -/
def fAndV (fa fb : FE) : FE := fun ρ S => (fa ρ S).bind fun d S => match d with
  | .bl true => fb ρ S
  | .bl false => .ok (.bl false) S
  | _ => .stuck
def fOrV (fa fb : FE) : FE := fun ρ S => (fa ρ S).bind fun d S => match d with
  | .bl true => .ok (.bl true) S
  | .bl false => fb ρ S
  | _ => .stuck
theorem de_one {op} (h : DE X W a fa) : DE X W (.BoolOp op [a] pos) fa := by
  obtain ⟨t, p, q⟩ := (h).ex
  exact .mk (pe_one p) q
theorem de_and (ha : DE X W a fa) (hb : DE X W (.BoolOp .And (b :: rest) pos) fb) : DE X W (.BoolOp .And (a :: b :: rest) pos) (fAndV fa fb) := by
  obtain ⟨t, p, q⟩ := (ha).ex
  obtain ⟨u, p', q'⟩ := (hb).ex
  refine .mk (pe_and p p') (fun Z φ S ρ σ H Q R sl w => q Z φ S ρ σ H _ R sl (w.bind fun x S1 v φ1 H1 R1 E1 d w1 => ?_))
  cases x with
  | bl k =>
    unfold RDat Dat at d
    refine ⟨k, d, ?_⟩
    cases k with
    | true => exact iteT (q' Z φ1 S1 ρ σ H1 Q R1 (sl.evo E1) w1)
    | false => exact iteF (w1.now R1 (dat_bl _))
  | _ => exact w1.elim
def fNotV (fa : FE) : FE := fun ρ S => (fa ρ S).bind fun d S => match d with
  | .bl k => .ok (.bl (!k)) S
  | _ => .stuck
theorem de_not (ha : DE X W a fa) : DE X W (.UnaryOp .Not a pos) (fNotV fa) := by
  obtain ⟨t, p, q⟩ := (ha).ex
  refine .mk (pe_not p) (fun Z φ S ρ σ H Q R sl w => q Z φ S ρ σ H _ R sl (w.bind fun x S1 v φ1 H1 R1 E1 d w1 => ?_))
  cases x with
  | bl k =>
    unfold RDat Dat at d
    exact ⟨k, d, w1.now R1 (dat_bl _)⟩
  | _ => exact w1.elim
def fIf (t : FT) (fa fb : FE) : FE := fun ρ S => (t ρ S).bind fun k S => if k then fa ρ S else fb ρ S
theorem de_ifExp (hc : DT X W c ga) (ha : DE X W a fa) (hb : DE X W b fb) : DE X W (.IfExp c a b pos) (fIf ga fa fb) := by
  obtain ⟨tc, pc, qc⟩ := (hc).ex
  obtain ⟨t, p, q⟩ := (ha).ex
  obtain ⟨u, p', q'⟩ := (hb).ex
  refine .mk (pe_ifExp pc p p') (fun Z φ S ρ σ H Q R sl w => qc Z φ S ρ σ H _ R sl (w.bind fun k S1 k' φ1 H1 R1 E1 e w1 => ?_))
  cases e
  cases k with
  | true => exact iteT (q Z φ1 S1 ρ σ H1 Q R1 (sl.evo E1) w1)
  | false => exact iteF (q' Z φ1 S1 ρ σ H1 Q R1 (sl.evo E1) w1)
/-- a < b < c -/
def fChain (g g' : G2) (fa fb fc : FE) : FE := fun ρ S => (fa ρ S).bind fun x S => (fb ρ S).bind fun y S => (g x y S).bind fun z S => match z with
  | .bl true => (fc ρ S).bind fun u S => g' y u S
  | .bl false => .ok (.bl false) S
  | _ => .stuck

/-! ### displays -/
theorem da_nil : DA X W [] (fun _ S => .ok [] S) := .mk pa_nil (fun Z φ S ρ σ H Q R sl w => w.now R DatL.nil)
def fCons (fa : FE) (fr : FA) : FA := fun ρ S => (fa ρ S).bind fun x S => (fr ρ S).bind fun xs S => .ok (x :: xs) S
theorem da_cons {fr : FA} (ha : DE X W e fe) (hr : DA X W es fr) (hs : starEach (e :: es) X.env = (false, eval e X.env) :: starEach es X.env := by rfl) : DA X W (e :: es) (fCons fe fr) := by
  obtain ⟨t, p, q⟩ := (ha).ex
  obtain ⟨u, p', q'⟩ := (hr).ex
  refine .mk (pa_cons p p' hs) (fun Z φ S ρ σ H Q R sl w => q Z φ S ρ σ H _ R sl (w.bind fun x S1 v φ1 H1 R1 E1 d w1 => ?_))
  exact q' Z φ1 S1 ρ σ H1 _ R1 (sl.evo E1) (w1.bind fun xs S2 vs φ2 H2 R2 E2 d2 w2 => w2.now R2 (.cons (Dat.evo E2 d) d2))
def short (n : Nat) : Bool := decide (n ≤ sizeLine)
def fTup (fa : FA) : FE := fun ρ S => (fa ρ S).bind fun xs S => if short xs.length then .ok (.tup xs) S else .stuck
def fLst (fa : FA) : FE := fun ρ S => (fa ρ S).bind fun xs S => if short xs.length then .ok (.lst xs) S else .stuck
def fLstO (fa : FA) : FE := fun ρ S => (fa ρ S).bind fun xs S => if short xs.length then .ok (.oid S.length) (S ++ [.lst xs]) else .stuck
section
variable {K : PySem.W.Frag} {mg : Str → Option Value} {Z φ : List Addr} {S : Store} {H : Hp}
theorem dat_newL (R : Rel K mg Z φ S H) {ds : List D} {vs : List V} (h : DatL K mg φ (gnd Z φ S H) ds vs) {p : Addr} (hp : H p = none) :
    Rel K mg Z φ S (upd H p (.lst vs)) ∧ Evo Z φ S H φ S (upd H p (.lst vs)) ∧ Dat K mg φ (gnd Z φ S (upd H p (.lst vs))) (.lst ds) (.ref p) := by
  obtain ⟨r, e, g⟩ := R.fresh (o := .lst vs) hp
  refine ⟨r, e, ?_⟩
  unfold Dat
  exact ⟨p, vs, rfl, g, DatL.evo e h⟩
theorem dat_newT (R : Rel K mg Z φ S H) {ds : List D} {vs : List V} (h : DatL K mg φ (gnd Z φ S H) ds vs) {p : Addr} (hp : H p = none) :
    Rel K mg Z φ S (upd H p (.tup vs)) ∧ Evo Z φ S H φ S (upd H p (.tup vs)) ∧ Dat K mg φ (gnd Z φ S (upd H p (.tup vs))) (.tup ds) (.ref p) := by
  obtain ⟨r, e, g⟩ := R.fresh (o := .tup vs) hp
  refine ⟨r, e, ?_⟩
  unfold Dat
  exact ⟨p, vs, rfl, .of g, DatL.evo e h⟩
theorem dat_newO (R : Rel K mg Z φ S H) {ds : List D} {vs : List V} (h : DatL K mg φ (gnd Z φ S H) ds vs) {p : Addr} (hp : H p = none) :
    Rel K mg Z (φ ++ [p]) (S ++ [.lst ds]) (upd H p (.lst vs)) ∧ Evo Z φ S H (φ ++ [p]) (S ++ [.lst ds]) (upd H p (.lst vs)) ∧ Dat K mg (φ ++ [p]) (gnd Z (φ ++ [p]) (S ++ [.lst ds]) (upd H p (.lst vs))) (.oid S.length) (.ref p) := by
  have lv : liveA (φ ++ [p]) (S ++ [.lst ds]) = liveA φ S ++ [p] := by rw [liveA_snoc R.len]; rfl
  have ext : Same (gnd Z φ S H) (gnd Z (φ ++ [p]) (S ++ [.lst ds]) (upd H p (.lst vs))) := fun a o h => by
    obtain ⟨h1, h2⟩ := without_some.mp h
    refine without_some.mpr ⟨fun q => h1 ?_, same_upd hp a o h2⟩
    rw [lv] at q
    rcases List.mem_append.mp q with z | z
    · exact List.mem_append_left _ z
    · rcases List.mem_append.mp z with z | z
      · exact List.mem_append_right _ z
      · rw [List.mem_singleton.mp z, hp] at h2
        cases h2
  obtain ⟨r, e⟩ := R.newOid (so := .lst ds) (same_upd (o := .lst vs) hp) hp (by rw [upd_same]; exact fun z => nomatch z) rfl ⟨vs, upd_same, DatL.mono ⟨[p], rfl⟩ ext _ _ h⟩
  refine ⟨r, e, ?_⟩
  unfold Dat
  exact ⟨p, rfl, by rw [List.getElem?_append_right (by rw [R.len]; exact Nat.le_refl _), ← R.len, Nat.sub_self]; rfl⟩
end
theorem de_tup {x1} {fr : FA} (h : DA X W es fr) : DE X W (.Tuple es x1 pos) (fTup fr) := by
  obtain ⟨t, p, q⟩ := (h).ex
  refine .mk (pe_tup p) (fun Z φ S ρ σ H Q R sl w => q Z φ S ρ σ H _ R sl (w.bind fun xs S1 vs φ1 H1 R1 E1 d w1 => ?_))
  by_cases hs : short xs.length = true
  · rw [if_pos hs] at w1
    refine ⟨by rw [DatL.length d]; exact of_decide_eq_true hs, fun p hp => ?_⟩
    obtain ⟨r, e, g⟩ := dat_newT R1 d hp
    exact w1 _ _ _ r e g
  · rw [if_neg hs] at w1
    exact w1.elim
theorem de_lst {fr : FA} (h : DA X W es fr) : DE X W (.List es pos) (fLst fr) := by
  obtain ⟨t, p, q⟩ := (h).ex
  refine .mk (pe_lst p) (fun Z φ S ρ σ H Q R sl w => q Z φ S ρ σ H _ R sl (w.bind fun xs S1 vs φ1 H1 R1 E1 d w1 => ?_))
  by_cases hs : short xs.length = true
  · rw [if_pos hs] at w1
    refine ⟨by rw [DatL.length d]; exact of_decide_eq_true hs, fun p hp => ?_⟩
    obtain ⟨r, e, g⟩ := dat_newL R1 d hp
    exact w1 _ _ _ r e g
  · rw [if_neg hs] at w1
    exact w1.elim
theorem de_lstO {fr : FA} (h : DA X W es fr) : DE X W (.List es pos) (fLstO fr) := by
  obtain ⟨t, p, q⟩ := (h).ex
  refine .mk (pe_lst p) (fun Z φ S ρ σ H Q R sl w => q Z φ S ρ σ H _ R sl (w.bind fun xs S1 vs φ1 H1 R1 E1 d w1 => ?_))
  by_cases hs : short xs.length = true
  · rw [if_pos hs] at w1
    refine ⟨by rw [DatL.length d]; exact of_decide_eq_true hs, fun p hp => ?_⟩
    obtain ⟨r, e, g⟩ := dat_newO R1 d hp
    exact w1 _ _ _ r e g
  · rw [if_neg hs] at w1
    exact w1.elim
end
end DL

/-! The data layer, part 4: targets, what is walked, statements, comprehensions. -/
namespace DL
open PySem L2

/-! ### targets -/
abbrev FG := D → EnvD → Store → Option EnvD
def tG (K : PySem.W.Frag) (mg : Str → Option Value) (is : List Nat) (m : FG) : TG := fun v σ H Q => ∃ Z φ S ρ d ρ', Rel K mg Z φ S H ∧ Slots K mg φ (gnd Z φ S H) ρ σ ∧ Dat K mg φ (gnd Z φ S H) d v ∧ m d ρ S = some ρ' ∧
  ∀ σ', Slots K mg φ (gnd Z φ S H) ρ' σ' → (∀ vs : List Nat, (∀ i ∈ is, i ∈ vs) → wipe σ' vs = wipe σ vs) → Q σ' H
def tGs (K : PySem.W.Frag) (mg : Str → Option Value) (is : List Nat) (m : List D → EnvD → Store → Option EnvD) : TGs := fun vs σ H Q => ∃ Z φ S ρ ds ρ', Rel K mg Z φ S H ∧ Slots K mg φ (gnd Z φ S H) ρ σ ∧ DatL K mg φ (gnd Z φ S H) ds vs ∧ m ds ρ S = some ρ' ∧
  ∀ σ', Slots K mg φ (gnd Z φ S H) ρ' σ' → (∀ vs : List Nat, (∀ i ∈ is, i ∈ vs) → wipe σ' vs = wipe σ vs) → Q σ' H
def DG (X : Cx) (tg : Expr) (is : List Nat) (m : FG) : Prop := PG X tg (tG X.K X.mg is m)
def DGs (X : Cx) (tgs : List Expr) (is : List Nat) (m : List D → EnvD → Store → Option EnvD) : Prop := PGs X tgs (tGs X.K X.mg is m)
theorem PG.weak {X : Cx} {e : Expr} {t t' : TG} (h : PG X e t) (i : ∀ v σ H Q, t' v σ H Q → t v σ H Q) : PG X e t' := ⟨fun pins s σ H v u Q I r q => h.run pins s σ H v u Q I r (i _ _ _ _ q)⟩
theorem PGs.weak {X : Cx} {e : List Expr} {t t' : TGs} (h : PGs X e t) (i : ∀ v σ H Q, t' v σ H Q → t v σ H Q) : PGs X e t' := ⟨fun pins s σ H v u Q I r q => h.run pins s σ H v u Q I r (i _ _ _ _ q)⟩
theorem wipe_set {σ : L2.St} {x : Option V} {i : Nat} : ∀ {vs : List Nat}, i ∈ vs → wipe (σ.set i x) vs = wipe σ vs
  | [], h => absurd h (by simp)
  | v :: vs, h => by
    unfold wipe
    by_cases q : i ∈ vs
    · rw [wipe_set q]
    · have e : i = v := by
        rcases List.mem_cons.mp h with z | z
        · exact z
        · exact absurd z q
      subst e
      have aux : ∀ {vs : List Nat}, i ∉ vs → wipe (σ.set i x) vs = (wipe σ vs).set i x := by
        intro vs
        induction vs with
        | nil => intro _; rfl
        | cons w ws ih =>
          intro hn
          simp only [List.mem_cons, not_or] at hn
          unfold wipe
          rw [ih hn.2, List.set_comm _ _ (fun z => hn.1 z)]
      rw [aux q, List.set_set]
section
variable {X : Cx} {pos : Pos}
def mName (i : Nat) : FG := fun d ρ _ => some (ρ.set i (some d))
theorem dg_name {i : Nat} {x : Str} (p : PG X (.Name x pos) (gName i)) : DG X (.Name x pos) [i] (mName i) :=
  PG.weak p fun v σ H Q ⟨Z, φ, S, ρ, d, ρ', R, sl, hd, hm, q⟩ => by
    cases hm
    exact q _ (sl.set hd) fun vs h => wipe_set (h i (by simp))
theorem dgs_nil : DGs X [] [] (fun ds ρ _ => match ds with | [] => some ρ | _ => none) :=
  PGs.weak pgs_nil fun v σ H Q ⟨Z, φ, S, ρ, ds, ρ', R, sl, hd, hm, q⟩ => by
    cases ds with
    | nil =>
      cases hm
      unfold DatL at hd
      exact ⟨hd, q _ sl fun _ _ => rfl⟩
    | cons _ _ => cases hm
def mCons (m : FG) (ms : List D → EnvD → Store → Option EnvD) : List D → EnvD → Store → Option EnvD := fun ds ρ S => match ds with
  | d :: ds => (m d ρ S).bind fun ρ => ms ds ρ S
  | [] => none
theorem dgs_cons {e : Expr} {es : List Expr} {is js : List Nat} {m : FG} {ms : List D → EnvD → Store → Option EnvD} (h : DG X e is m) (r : DGs X es js ms)
    (hs : (assignEach (e :: es) X.env).map (·.2) = assign e X.env :: (assignEach es X.env).map (·.2) := by rfl) : DGs X (e :: es) (is ++ js) (mCons m ms) :=
  PGs.weak (pgs_cons h r hs) fun v σ H Q ⟨Z, φ, S, ρ, ds, ρ', R, sl, hd, hm, q⟩ => by
    cases ds with
    | nil => cases hm
    | cons d ds =>
      obtain ⟨u, us, rfl, h1, h2⟩ := hd.uncons
      unfold mCons at hm
      obtain ⟨ρ1, e1, e2⟩ := Option.bind_eq_some_iff.mp hm
      refine ⟨u, us, rfl, Z, φ, S, ρ, d, ρ1, R, sl, h1, e1, fun σ1 sl1 w1 => ?_⟩
      refine ⟨Z, φ, S, ρ1, ds, ρ', R, sl1, h2, e2, fun σ2 sl2 w2 => ?_⟩
      exact q σ2 sl2 fun vs hv => (w2 vs fun i hi => hv i (List.mem_append_right _ hi)).trans (w1 vs fun i hi => hv i (List.mem_append_left _ hi))
def mTup (n : Nat) (ms : List D → EnvD → Store → Option EnvD) : FG := fun d ρ S => match d with
  | .tup ds => if ds.length = n then ms ds ρ S else none
  | _ => none
theorem dg_tup {es : List Expr} {k n : Nat} {is : List Nat} {ms : List D → EnvD → Store → Option EnvD} (hc : X.calm = true) (h : DGs X es is ms)
    (hn : (assignEach es X.env).length = n := by rfl) (hst : (assignEach es X.env).findIdx? (·.1) = none := by rfl) : DG X (.Tuple es k pos) is (mTup n ms) :=
  PG.weak (pg_tup hc h hn hst) fun v σ H Q ⟨Z, φ, S, ρ, d, ρ', R, sl, hd, hm, q⟩ => by
    unfold mTup at hm
    cases d with
    | tup ds =>
      unfold Dat at hd
      obtain ⟨a, vs, rfl, h1, h2⟩ := hd
      by_cases hl : ds.length = n
      · simp only [hl, if_true] at hm
        exact ⟨a, vs, rfl, sqt_mono gnd_sub h1, h2.length.trans hl, Z, φ, S, ρ, ds, ρ', R, sl, h2, hm, q⟩
      · simp only [hl, if_false] at hm
        cases hm
    | _ => cases hm
end

/-! ### what is walked -/
/-- the items; of what may change: that it stays as it was -/
structure ItD where
  items : List D
  chk : Option (D × List D) := none
def okC : Option (D × List D) → Store → Prop
  | none, _ => True
  | some (d, ds), S => asL S d = some ds
section
variable (K : PySem.W.Frag) (mg : Str → Option Value)
def RI (Z φ : List Addr) (S : Store) (H : Hp) (it : ItD) (J : It) : Prop := ∀ (i : Nat) (Z' φ' : List Addr) (S' : Store) (H' : Hp), (∀ a ∈ Z, a ∈ Z') → Rel K mg Z' φ' S' H' → (φ <+: φ') → Same (gnd Z φ S H) (gnd Z' φ' S' H') → okC it.chk S' →
  (∀ d, it.items[i]? = some d → J.go i H' ∧ ∀ x H'', J.yld i H' x H'' → Rel K mg Z' φ' S' H'' ∧ Evo Z' φ' S' H' φ' S' H'' ∧ Dat K mg φ' (gnd Z' φ' S' H'') d x) ∧ (it.items.length ≤ i → J.stop i H')
def WantI (Z φ : List Addr) (S : Store) (H : Hp) (r : Res ItD) (Q : It → Hp → Prop) (E : XK) : Prop := match r with
  | .ok it S' => ∀ J φ' H', Rel K mg Z φ' S' H' → Evo Z φ S H φ' S' H' → RI K mg Z φ' S' H' it J → Q J H'
  | .ex C fs S' => ∀ A dx φ' H', mg C = some (.ref A) → Rel K mg Z φ' S' H' → Evo Z φ S H φ' S' H' → ExD K mg φ' (gnd Z φ' S' H') fs dx → E (.ref A) dx H'
  | .stuck => False
end
theorem WantI.go {K : PySem.W.Frag} {mg : Str → Option Value} {Z φ φ' : List Addr} {S S' : Store} {H H' : Hp} {r : Res ItD} {Q : It → Hp → Prop} {E : XK} (e : Evo Z φ S H φ' S' H') (h : WantI K mg Z φ S H r Q E) : WantI K mg Z φ' S' H' r Q E := by
  cases r with
  | ok a S1 => exact fun b φ1 H1 r1 e1 d => h b φ1 H1 r1 (e.trans e1) d
  | ex C fs S1 => exact fun A dx φ1 H1 m r1 e1 d => h A dx φ1 H1 m r1 (e.trans e1) d
  | stuck => exact h
theorem WantI.bind {α β : Type} {K : PySem.W.Frag} {mg : Str → Option Value} {Z φ : List Addr} {S : Store} {H : Hp} {R : List Addr → Hp → α → β → Prop} {r : Res α} {k : α → Store → Res ItD} {Q : It → Hp → Prop} {Q1 : β → Hp → Prop} {E : XK} (h : WantI K mg Z φ S H (r.bind k) Q E)
    (f : ∀ a S1 b φ1 H1, Rel K mg Z φ1 S1 H1 → Evo Z φ S H φ1 S1 H1 → R φ1 (gnd Z φ1 S1 H1) a b → WantI K mg Z φ1 S1 H1 (k a S1) Q E → Q1 b H1) : Want K mg R Z φ S H r Q1 E := by
  cases r with
  | ok a S1 => exact fun b φ1 H1 r1 e1 d => f a S1 b φ1 H1 r1 e1 d (h.go e1)
  | ex C fs S1 => exact h
  | stuck => exact h
abbrev FI := EnvD → Store → Res ItD
def tDI (K : PySem.W.Frag) (mg : Str → Option Value) (W : WX) (f : FI) : TI := fun σ H R => ∃ Z φ S ρ, Rel K mg Z φ S H ∧ Slots K mg φ (gnd Z φ S H) ρ σ ∧ WantI K mg Z φ S H (f ρ S) R (WE W σ)
def DI (X : Cx) (W : WX) (tg e : Expr) (f : FI) : Prop := PI X tg e (tDI X.K X.mg W f)
abbrev IsI (X : Cx) (W : WX) (t : TI) (f : FI) : Prop := ∀ Z φ S ρ σ H (Q : It → Hp → Prop), Rel X.K X.mg Z φ S H → Slots X.K X.mg φ (gnd Z φ S H) ρ σ → WantI X.K X.mg Z φ S H (f ρ S) Q (WE W σ) → t σ H Q
theorem PI.weak {X : Cx} {tg e : Expr} {t t' : TI} (h : PI X tg e t) (i : ∀ σ H R, t' σ H R → t σ H R) : PI X tg e t' := ⟨fun pins s σ H R I q => h.run pins s σ H R I (i _ _ _ q)⟩
theorem PI.or {X : Cx} {tg e : Expr} {t t' : TI} (h : PI X tg e t) (h' : PI X tg e t') : PI X tg e (fun σ H R => t σ H R ∨ t' σ H R) := ⟨fun pins s σ H R I q => q.elim (fun z => h.run pins s σ H R I z) fun z => h'.run pins s σ H R I z⟩
theorem DI.mk {X : Cx} {W : WX} {tg e : Expr} {f : FI} {t : TI} (p : PI X tg e t) (h : IsI X W t f) : DI X W tg e f := PI.weak p fun σ H Q ⟨Z, φ, S, ρ, R, sl, w⟩ => h Z φ S ρ σ H Q R sl w
theorem DI.is {X : Cx} {W : WX} {f : FI} : IsI X W (tDI X.K X.mg W f) f := fun Z φ S ρ σ H Q R sl w => ⟨Z, φ, S, ρ, R, sl, w⟩
section
variable {X : Cx} {W : WX} {tg e : Expr} {fe : FE} {pos p : Pos}
/-- over a list or a tuple -/
def fSeq (fe : FE) : FI := fun ρ S => (fe ρ S).bind fun d S => match d with
  | .tup ds => .ok ⟨ds, none⟩ S
  | .lst ds => .ok ⟨ds, none⟩ S
  | .scr ds => .ok ⟨ds, none⟩ S
  | d => match asL S d with
    | some ds => .ok ⟨ds, some (d, ds)⟩ S
    | none => .stuck
theorem ri_list {Z φ : List Addr} {S : Store} {H : Hp} {d : D} {a : Addr} {ds : List D} {c : Option (D × List D)} (hd : Dat X.K X.mg φ (gnd Z φ S H) d (.ref a)) (hc : ∀ S', okC c S' → asL S' d = some ds) : RI X.K X.mg Z φ S H ⟨ds, c⟩ (Itl X.K a) :=
  fun i Z' φ' S' H' hZ R hp hs ok => by
    have hd' := Dat.mono hp hs d _ hd
    obtain ⟨b, vs, e, h1, h2⟩ := asL_ok R hd' (hc S' ok)
    cases e
    refine ⟨fun x hx => ?_, fun hl => ⟨vs, h1, by rw [h2.length]; exact hl⟩⟩
    obtain ⟨u, hu, du⟩ := h2.get hx
    refine ⟨⟨vs, u, h1, hu⟩, fun y H'' yl => ?_⟩
    obtain ⟨rfl, q⟩ := yl
    have z := q vs h1
    rw [hu] at z
    cases z
    exact ⟨R, Evo.refl, du⟩
theorem ri_tup {Z φ : List Addr} {S : Store} {H : Hp} {a : Addr} {ds : List D} (hd : Dat X.K X.mg φ (gnd Z φ S H) (.tup ds) (.ref a)) : RI X.K X.mg Z φ S H ⟨ds, none⟩ (Itt X.K a) :=
  fun i Z' φ' S' H' hZ R hp hs ok => by
    have hd' := Dat.mono hp hs _ _ hd
    unfold Dat at hd'
    obtain ⟨b, vs, e, h1, h2⟩ := hd'
    cases e
    have h1' := sqt_mono gnd_sub h1
    refine ⟨fun x hx => ?_, fun hl => ⟨vs, h1', by rw [h2.length]; exact hl⟩⟩
    obtain ⟨u, hu, du⟩ := h2.get hx
    refine ⟨⟨vs, u, h1', hu⟩, fun y H'' yl => ?_⟩
    obtain ⟨rfl, q⟩ := yl
    have z := q vs h1'
    rw [hu] at z
    cases z
    exact ⟨R, Evo.refl, du⟩
theorem RI.evo {Z φ φ' : List Addr} {S S' : Store} {H H' : Hp} {it : ItD} {J : It} (e : Evo Z φ S H φ' S' H') (h : RI X.K X.mg Z φ S H it J) : RI X.K X.mg Z φ' S' H' it J := fun i Z1 φ1 S1 H1 hZ R hp hs ok =>
  h i Z1 φ1 S1 H1 hZ R (e.pre.trans hp) (e.ext.trans hs) ok
/-- the result of an expression, known -/
theorem Want.cases {α β : Type} {K : PySem.W.Frag} {mg : Str → Option Value} {Z φ : List Addr} {S : Store} {H : Hp} {R : List Addr → Hp → α → β → Prop} {r : Res α} {P : Prop} {Q : β → Hp → Prop} {E : XK}
    (hok : ∀ a S1, r = .ok a S1 → P) (hx : ∀ C fs S1, r = .ex C fs S1 → P) (hs : r = .stuck → P) : P := by
  cases r with
  | ok a S1 => exact hok a S1 rfl
  | ex C fs S1 => exact hx C fs S1 rfl
  | stuck => exact hs rfl
theorem di_seq (he : DE X W e fe) : DI X W tg e (fSeq fe) := by
  refine PI.weak (PI.or (pi_list he) (pi_tup he)) fun σ H R ⟨Z, φ, S, ρ, R0, sl, w⟩ => ?_
  have run : ∀ {Q1 : VK}, (∀ d S1 v φ1 H1, Rel X.K X.mg Z φ1 S1 H1 → Evo Z φ S H φ1 S1 H1 → Dat X.K X.mg φ1 (gnd Z φ1 S1 H1) d v → fe ρ S = .ok d S1 → Q1 v H1) → (∀ r, r = fe ρ S → r ≠ .stuck) → Want X.K X.mg (RDat X.K X.mg) Z φ S H (fe ρ S) Q1 (WE W σ) := fun f hns => by
    unfold fSeq at w
    cases hr : fe ρ S with
    | ok d S1 => exact fun v φ1 H1 r1 e1 dd => f d S1 v φ1 H1 r1 e1 dd hr
    | ex C fs S1 => rw [hr] at w; exact w
    | stuck => exact absurd rfl (hns _ hr.symm)
  have ns : ∀ r, r = fe ρ S → r ≠ .stuck := fun r h z => by
    unfold fSeq at w
    rw [← h, z] at w
    exact w
  by_cases ht : ∃ ds S1, fe ρ S = .ok (.tup ds) S1
  · obtain ⟨ds, S1, ht⟩ := ht
    refine .inr ⟨Z, φ, S, ρ, R0, sl, run (fun d S2 v φ1 H1 r1 e1 dd hr => ?_) ns⟩
    rw [ht] at hr
    cases hr
    unfold fSeq at w
    rw [ht] at w
    have dd0 := dd
    unfold Dat at dd
    obtain ⟨a, vs, rfl, h1, h2⟩ := dd
    exact ⟨a, rfl, ⟨vs, sqt_mono gnd_sub h1⟩, w _ _ _ r1 e1 (ri_tup dd0)⟩
  · refine .inl ⟨Z, φ, S, ρ, R0, sl, run (fun d S1 v φ1 H1 r1 e1 dd hr => ?_) ns⟩
    unfold fSeq at w
    rw [hr] at w
    simp only [Res.bind_ok] at w
    cases d with
    | tup ds => exact absurd ⟨ds, S1, hr⟩ ht
    | lst ds =>
      obtain ⟨a, vs, rfl, h1, h2⟩ := asL_ok r1 dd rfl
      exact ⟨a, rfl, ⟨vs, h1⟩, w _ _ _ r1 e1 (ri_list (d := .lst ds) dd fun _ _ => rfl)⟩
    | scr ds =>
      obtain ⟨a, vs, rfl, h1, h2⟩ := asL_ok r1 dd rfl
      exact ⟨a, rfl, ⟨vs, h1⟩, w _ _ _ r1 e1 (ri_list (d := .scr ds) dd fun _ _ => rfl)⟩
    | oid n =>
      simp only at w
      cases hq : asL S1 (.oid n) with
      | none => rw [hq] at w; exact w.elim
      | some ds =>
        rw [hq] at w
        obtain ⟨a, vs, rfl, h1, h2⟩ := asL_ok r1 dd hq
        exact ⟨a, rfl, ⟨vs, h1⟩, w _ _ _ r1 e1 (ri_list (d := .oid n) dd fun _ ok => ok)⟩
    | _ => exact w.elim
/-- range(a), range(a, b) -/
def rng (lo hi : Int) : List D := (List.range (hi - lo).toNat).map fun i => .int (lo + (i : Nat))
noncomputable def cRng (i : Int) : Bool := @decide (-4611686018427387904 ≤ i ∧ i < 4611686018427387904) (Classical.propDecidable _)
noncomputable def fRng1 (fa : FA) : FI := fun ρ S => (fa ρ S).bind fun ds S => match ds with
  | [.int j] => if cRng j then .ok ⟨rng 0 j, none⟩ S else .stuck
  | _ => .stuck
theorem ri_rng {Z φ : List Addr} {S : Store} {H : Hp} {lo hi : Int} : RI X.K X.mg Z φ S H ⟨rng lo hi, none⟩ (Itr lo (hi - lo).toNat) := fun i Z' φ' S' H' hZ R hp hs ok => by
  refine ⟨fun d hd => ?_, fun hl => ?_⟩
  · unfold rng at hd
    rw [List.getElem?_map] at hd
    have hi' : i < (hi - lo).toNat := by
      cases q : (List.range (hi - lo).toNat)[i]? with
      | none => rw [q] at hd; cases hd
      | some j => have := (List.getElem?_eq_some_iff.mp q).1; simpa using this
    rw [List.getElem?_range hi'] at hd
    cases hd
    refine ⟨hi', fun x H'' y => ?_⟩
    obtain ⟨rfl, rfl⟩ := y
    exact ⟨R, Evo.refl, dat_int _⟩
  · show (hi - lo).toNat ≤ i
    simpa [rng] using hl
theorem datL1 {φ : List Addr} {G : Hp} {d : D} {vs : List V} (h : DatL X.K X.mg φ G [d] vs) : ∃ v, vs = [v] ∧ Dat X.K X.mg φ G d v := by
  obtain ⟨v, r, rfl, h1, h2⟩ := h.uncons
  unfold DatL at h2
  subst h2
  exact ⟨v, rfl, h1⟩
theorem datL2 {φ : List Addr} {G : Hp} {d e : D} {vs : List V} (h : DatL X.K X.mg φ G [d, e] vs) : ∃ v u, vs = [v, u] ∧ Dat X.K X.mg φ G d v ∧ Dat X.K X.mg φ G e u := by
  obtain ⟨v, r, rfl, h1, h2⟩ := h.uncons
  obtain ⟨u, rfl, h3⟩ := datL1 h2
  exact ⟨v, u, rfl, h1, h3⟩
theorem dInt {φ : List Addr} {G : Hp} {i : Int} {v : V} (h : Dat X.K X.mg φ G (.int i) v) : v = .int i := by
  unfold Dat at h
  exact h
theorem dStr {φ : List Addr} {G : Hp} {i : Str} {v : V} (h : Dat X.K X.mg φ G (.str i) v) : v = .str i := by
  unfold Dat at h
  exact h
theorem di_range1 {a : Expr} {fa : FA} (hg : Gl X "range") (hm : X.mg "range" = none) (ha : DA X W [a] fa) (hs : starEach [a] X.env = [(false, eval a X.env)] := by rfl) : DI X W tg (.Call (.Name "range" p) [a] [] pos) (fRng1 fa) := by
  obtain ⟨t, p, q⟩ := ha.ex
  refine .mk (pi_range1 hg hm p hs) fun Z φ S ρ σ H R R0 sl w => q Z φ S ρ σ H _ R0 sl (w.bind fun ds S1 vs φ1 H1 R1 E1 d w1 => ?_)
  split at w1
  · rename_i j
    obtain ⟨v, rfl, h1⟩ := datL1 d
    cases dInt h1
    by_cases hc : cRng j = true
    · simp only [hc, if_true] at w1
      unfold cRng at hc
      simp only [Bool.and_eq_true, decide_eq_true_eq] at hc
      refine ⟨j, rfl, hc.1, hc.2, w1 _ _ _ R1 Evo.refl ?_⟩
      have z := ri_rng (X := X) (Z := Z) (φ := φ1) (S := S1) (H := H1) (lo := 0) (hi := j)
      rw [Int.sub_zero] at z
      exact z
    · simp only [hc] at w1
      exact w1.elim
  · exact w1.elim
/-- enumerate(list) -/
def enumD : Nat → List D → List D
  | _, [] => []
  | n, d :: ds => .tup [.int (n : Nat), d] :: enumD (n + 1) ds
theorem enumD_get : ∀ {ds : List D} {n i : Nat}, (enumD n ds)[i]? = (ds[i]?).map fun d => .tup [.int ((n + i : Nat) : Int), d]
  | [], _, _ => rfl
  | d :: ds, n, 0 => rfl
  | d :: ds, n, i + 1 => by
    unfold enumD
    rw [List.getElem?_cons_succ, List.getElem?_cons_succ, enumD_get, Nat.add_right_comm, Nat.add_assoc]
theorem enumD_length : ∀ {ds : List D} {n : Nat}, (enumD n ds).length = ds.length
  | [], _ => rfl
  | d :: ds, n => by unfold enumD; rw [List.length_cons, List.length_cons, enumD_length]
def fEnum (fa : FA) : FI := fun ρ S => (fa ρ S).bind fun ds S => match ds with
  | [.lst ds] => .ok ⟨enumD 0 ds, none⟩ S
  | [d] => match asL S d with
    | some ds => .ok ⟨enumD 0 ds, some (d, ds)⟩ S
    | none => .stuck
  | _ => .stuck
theorem ri_enum {Z φ : List Addr} {S : Store} {H : Hp} {d : D} {a : Addr} {ds : List D} {c : Option (D × List D)} (hd : Dat X.K X.mg φ (gnd Z φ S H) d (.ref a)) (hc : ∀ S', okC c S' → asL S' d = some ds) : RI X.K X.mg Z φ S H ⟨enumD 0 ds, c⟩ (Ite X.K a) :=
  fun i Z' φ' S' H' hZ R hp hs ok => by
    have hd' := Dat.mono hp hs d _ hd
    obtain ⟨b, vs, e, h1, h2⟩ := asL_ok R hd' (hc S' ok)
    cases e
    refine ⟨fun x hx => ?_, fun hl => ⟨vs, h1, by rw [h2.length]; rw [enumD_length] at hl; exact hl⟩⟩
    have hx : (enumD 0 ds)[i]? = some x := hx
    rw [enumD_get] at hx
    cases q : ds[i]? with
    | none => rw [q] at hx; cases hx
    | some y =>
      rw [q] at hx
      cases hx
      obtain ⟨u, hu, du⟩ := h2.get q
      refine ⟨⟨vs, u, h1, hu⟩, fun y' H'' yl => ?_⟩
      obtain ⟨T, x', rfl, hT, rfl, q'⟩ := yl
      have z := q' vs h1
      rw [hu] at z
      cases z
      rw [Nat.zero_add]
      exact dat_newT R (.cons (dat_int _) (.cons du DatL.nil)) hT
theorem di_enum {a : Expr} {fa : FA} {elts : List Expr} {kk : Nat} {tpos : Pos} (hg : Gl X "enumerate") (hm : X.mg "enumerate" = none) (ha : DA X W [a] fa) (hs : starEach [a] X.env = [(false, eval a X.env)] := by rfl) :
    DI X W (.Tuple elts kk tpos) (.Call (.Name "enumerate" p) [a] [] pos) (fEnum fa) := by
  obtain ⟨t, p, q⟩ := ha.ex
  refine .mk (pi_enum hg hm p hs) fun Z φ S ρ σ H R R0 sl w => q Z φ S ρ σ H _ R0 sl (w.bind fun ds S1 vs φ1 H1 R1 E1 d w1 => ?_)
  split at w1
  · rename_i es
    obtain ⟨v, rfl, h1⟩ := datL1 d
    obtain ⟨a, us, rfl, h2, h3⟩ := asL_ok R1 h1 rfl
    exact ⟨a, us, rfl, h2, w1 _ _ _ R1 Evo.refl (ri_enum (d := .lst es) h1 fun _ _ => rfl)⟩
  · rename_i x _
    obtain ⟨v, rfl, h1⟩ := datL1 d
    cases hq : asL S1 x with
    | none => rw [hq] at w1; exact w1.elim
    | some es =>
      rw [hq] at w1
      obtain ⟨a, us, rfl, h2, h3⟩ := asL_ok R1 h1 hq
      exact ⟨a, us, rfl, h2, w1 _ _ _ R1 Evo.refl (ri_enum (d := x) h1 fun _ ok => ok)⟩
  · exact w1.elim
end

/-! ### the context of a body -/
structure Cn (X : Cx) (W : WX) (k : Nat) : Prop where
  room : Room k X.A
  gd : X.A.guards = some []
  calm : X.calm = true
  nd : X.N.Nodup
  po : PassesOwn (model X.prog X.w) X.A X.env X.xe
  tk : L2N.Takes X W
abbrev W0 : WX := fun _ _ _ _ => False
theorem takes0N {X : Cx} : L2N.Takes X W0 := fun _ _ ⟨_, _, _, _, _, _, _, _, _, _, _, _, _, _, _, _, h⟩ => h.elim

/-! ### statements -/
section
variable {X : Cx} {W : WX} {pos : Pos} {st : Stmt} {sts : List Stmt} {g g' : FS} {e : Expr} {fe : FE} {k : Nat}
def gNil : FS := fun ρ S => .nx ρ S
def Out.seq (o : Out) (k : EnvD → Store → Out) : Out := match o with
  | .nx ρ S => k ρ S
  | o => o
@[simp] theorem Out.seq_nx (ρ : EnvD) (S : Store) (k : EnvD → Store → Out) : (Out.nx ρ S).seq k = k ρ S := rfl
@[simp] theorem Out.seq_rt (d : D) (S : Store) (k : EnvD → Store → Out) : (Out.rt d S).seq k = .rt d S := rfl
@[simp] theorem Out.seq_bk (ρ : EnvD) (S : Store) (k : EnvD → Store → Out) : (Out.bk ρ S).seq k = .bk ρ S := rfl
@[simp] theorem Out.seq_ct (ρ : EnvD) (S : Store) (k : EnvD → Store → Out) : (Out.ct ρ S).seq k = .ct ρ S := rfl
@[simp] theorem Out.seq_ex (C fs) (ρ : EnvD) (S : Store) (k : EnvD → Store → Out) : (Out.ex C fs ρ S).seq k = .ex C fs ρ S := rfl
@[simp] theorem Out.seq_stuck (k : EnvD → Store → Out) : (Out.stuck).seq k = .stuck := rfl
def gSeq (g g' : FS) : FS := fun ρ S => (g ρ S).seq g'
theorem dss_nil : DSs X W [] gNil := .mk pss_nil fun Z φ S ρ σ H Dd R sl w => w σ φ H R Evo.refl sl
theorem dss_one (h : DS X W st g) : DSs X W [st] g := by
  obtain ⟨t, p, q⟩ := h.ex
  exact .mk (pss_one p) q
theorem dss_cons (h : DS X W st g) (r : DSs X W sts g') : DSs X W (st :: sts) (gSeq g g') := by
  obtain ⟨t, p, q⟩ := h.ex
  obtain ⟨u, p', q'⟩ := r.ex
  refine .mk (pss_cons p p') fun Z φ S ρ σ H Dd R sl w => q Z φ S ρ σ H _ R sl ?_
  unfold gSeq at w
  cases hr : g ρ S with
  | nx ρ1 S1 =>
    rw [hr] at w
    exact fun σ1 φ1 H1 R1 E1 sl1 => q' Z φ1 S1 ρ1 σ1 H1 Dd R1 sl1 (w.go E1)
  | _ => rw [hr] at w; exact w
def gExpr (fe : FE) : FS := fun ρ S => (fe ρ S).into ρ fun _ S => .nx ρ S
theorem ds_expr (he : DE X W e fe) (hs : swapsWith e none pos.line X.env = pure false := by rfl) : DS X W (.Expr e pos) (gExpr fe) := by
  obtain ⟨t, p, q⟩ := he.ex
  exact .mk (ps_expr p hs) fun Z φ S ρ σ H Dd R sl w => q Z φ S ρ σ H _ R sl (w.into sl fun d S1 v φ1 H1 R1 E1 dd w1 => w1 σ φ1 H1 R1 Evo.refl (sl.evo E1))
def gRet (fe : FE) : FS := fun ρ S => (fe ρ S).into ρ fun d S => .rt d S
theorem ds_ret (he : DE X W e fe) : DS X W (.Return (some e) pos) (gRet fe) := by
  obtain ⟨t, p, q⟩ := he.ex
  exact .mk (ps_ret p) fun Z φ S ρ σ H Dd R sl w => q Z φ S ρ σ H _ R sl (w.into sl fun d S1 v φ1 H1 R1 E1 dd w1 => w1 v φ1 H1 R1 Evo.refl dd)
def gIf (c : FT) (g g' : FS) : FS := fun ρ S => (c ρ S).into ρ fun k S => if k then g ρ S else g' ρ S
theorem ds_if {c : Expr} {fc : FT} {a b : List Stmt} (hc : DT X W c fc) (ha : DSs X W a g) (hb : DSs X W b g') : DS X W (.If c a b pos) (gIf fc g g') := by
  obtain ⟨t, p, q⟩ := hc.ex
  obtain ⟨ta, pa, qa⟩ := ha.ex
  obtain ⟨tb, pb, qb⟩ := hb.ex
  refine .mk (ps_if p pa pb) fun Z φ S ρ σ H Dd R sl w => q Z φ S ρ σ H _ R sl (w.into sl fun k S1 k' φ1 H1 R1 E1 e w1 => ?_)
  cases e
  cases k with
  | true => exact iteT (qa Z φ1 S1 ρ σ H1 Dd R1 (sl.evo E1) w1)
  | false => exact iteF (qb Z φ1 S1 ρ σ H1 Dd R1 (sl.evo E1) w1)
/-- name = value -/
def gSet (i : Nat) (fe : FE) : FS := fun ρ S => (fe ρ S).into ρ fun d S => .nx (ρ.set i (some d)) S
theorem ds_setP {i : Nat} {x : Str} {pos' : Pos} (hp : ∀ t, PE X e t → PS X (.Assign [.Name x pos'] e pos) (tAsg t (L2.gName i))) (he : DE X W e fe) : DS X W (.Assign [.Name x pos'] e pos) (gSet i fe) := by
  obtain ⟨t, p, q⟩ := he.ex
  exact .mk (hp _ p) fun Z φ S ρ σ H Dd R sl w => q Z φ S ρ σ H _ R sl (w.into sl fun d S1 v φ1 H1 R1 E1 dd w1 => w1 _ φ1 H1 R1 Evo.refl ((sl.evo E1).set dd))
theorem ds_set (C : Cn X W k) {i : Nat} {x : Str} {pos' : Pos} (hi : X.N[i]? = some x) (hx : Loc X.env.scope x) (he : DE X W e fe) (hs : swapsWith e (some (.Name x pos')) pos.line X.env = pure false := by rfl)
    (hf : X.fn x = true ∨ X.env.scope.names.lookup x = some .local := by first | exact .inl rfl | exact .inr rfl) : DS X W (.Assign [.Name x pos'] e pos) (gSet i fe) :=
  ds_setP (fun _ p => ps_set C.nd hi hx p hs hf) he
/-- target = value -/
def gAsg (m : FG) (fe : FE) : FS := fun ρ S => (fe ρ S).into ρ fun d S => match m d ρ S with
  | some ρ => .nx ρ S
  | none => .stuck
theorem ds_asg {tg : Expr} {is : List Nat} {m : FG} (he : DE X W e fe) (hg : DG X tg is m) (hs : swapsWithSole [tg] e pos.line X.env = pure false := by rfl) (hw : swappedStores [tg] e X.env = pure none := by rfl)
    (h1 : (assignEach [tg] X.env).map (·.2) = [assign tg X.env] := by rfl) : DS X W (.Assign [tg] e pos) (gAsg m fe) := by
  obtain ⟨t, p, q⟩ := he.ex
  refine .mk (ps_asg p hg hs hw h1) fun Z φ S ρ σ H Dd R sl w => q Z φ S ρ σ H _ R sl (w.into sl fun d S1 v φ1 H1 R1 E1 dd w1 => ?_)
  cases hm : m d ρ S1 with
  | none => rw [hm] at w1; exact w1.elim
  | some ρ1 =>
    rw [hm] at w1
    exact ⟨Z, φ1, S1, ρ, d, ρ1, R1, sl.evo E1, dd, hm, fun σ1 sl1 _ => w1 σ1 φ1 H1 R1 Evo.refl sl1⟩

/-! loops -/
open Classical in
noncomputable def loopF (c : Option (D × List D)) (m : FG) (body : FS) : List D → EnvD → Store → Out
  | [], ρ, S => if okC c S then .nx ρ S else .stuck
  | d :: ds, ρ, S => if okC c S then (match m d ρ S with
    | some ρ => (match body ρ S with
      | .nx ρ S => loopF c m body ds ρ S
      | .ct ρ S => loopF c m body ds ρ S
      | .bk ρ S => .nx ρ S
      | o => o)
    | none => .stuck) else .stuck
noncomputable def gFor (fi : FI) (m : FG) (body : FS) : FS := fun ρ S => (fi ρ S).into ρ fun it S => loopF it.chk m body it.items ρ S
theorem WantS.intoI {Z φ : List Addr} {S : Store} {H : Hp} {Dd : Ends} {r : Res ItD} {ρ : EnvD} {σ : L2.St} {k : ItD → Store → Out} {Q1 : It → Hp → Prop} (sl : Slots X.K X.mg φ (gnd Z φ S H) ρ σ) (h : WantS X W Z φ S H (r.into ρ k) Dd)
    (f : ∀ it S1 J φ1 H1, Rel X.K X.mg Z φ1 S1 H1 → Evo Z φ S H φ1 S1 H1 → RI X.K X.mg Z φ1 S1 H1 it J → WantS X W Z φ1 S1 H1 (k it S1) Dd → Q1 J H1) : WantI X.K X.mg Z φ S H r Q1 (WE W σ) := by
  cases r with
  | ok a S1 => exact fun b φ1 H1 r1 e1 d => f a S1 b φ1 H1 r1 e1 d (h.go e1)
  | ex C fs S1 => exact fun A dx φ1 H1 m r1 e1 d => h A dx σ φ1 H1 m r1 e1 (sl.evo e1) d
  | stuck => exact h
theorem ds_for (C : Cn X W k) {tg iter : Expr} {body : List Stmt} {fi : FI} {is : List Nat} {m : FG} (hi : DI X W tg iter fi) (hg : DG X tg is m) (hb : DSs X W body g) (hs : ∀ x, foldedSetIterable iter X.env x = pure x := by intro _; rfl) :
    DS X W (.For tg iter body [] pos) (gFor fi m g) := by
  obtain ⟨tb, pb, qb⟩ := hb.ex
  refine .mk (ps_for C.po C.calm hi hg pb hs) fun Z φ S ρ σ H Dd R sl w => DI.is Z φ S ρ σ H _ R sl (w.intoI sl fun it S1 J φ1 H1 R1 E1 rj w1 => ?_)
  refine ⟨fun i n σ' H' => n = it.items.length - i ∧ i ≤ it.items.length ∧ ∃ φ' S' ρ', Rel X.K X.mg Z φ' S' H' ∧ Evo Z φ1 S1 H1 φ' S' H' ∧ Slots X.K X.mg φ' (gnd Z φ' S' H') ρ' σ' ∧ WantS X W Z φ' S' H' (loopF it.chk m g (it.items.drop i) ρ' S') Dd,
    ⟨_, rfl, Nat.zero_le _, φ1, S1, ρ, R1, Evo.refl, sl.evo E1, w1⟩, ?_⟩
  rintro i n σ2 H2 ⟨rfl, hle, φ2, S2, ρ2, R2, E2, sl2, w2⟩
  by_cases hlt : i < it.items.length
  · obtain ⟨d, hd⟩ : ∃ d, it.items[i]? = some d := ⟨_, List.getElem?_eq_getElem hlt⟩
    have hdr : it.items.drop i = d :: it.items.drop (i + 1) := by
      rw [List.drop_eq_getElem_cons hlt]
      congr 1
      rw [List.getElem?_eq_getElem hlt] at hd
      exact Option.some.inj hd
    rw [hdr] at w2
    unfold loopF at w2
    by_cases hc : okC it.chk S2
    · rw [if_pos hc] at w2
      have rr := (rj i Z φ2 S2 H2 (fun _ h => h) R2 E2.pre E2.ext hc).1 d hd
      refine .inr ⟨rr.1, fun σ' H' => ∃ φ' S' ρ', Rel X.K X.mg Z φ' S' H' ∧ Evo Z φ1 S1 H1 φ' S' H' ∧ Slots X.K X.mg φ' (gnd Z φ' S' H') ρ' σ' ∧ WantS X W Z φ' S' H' (loopF it.chk m g (it.items.drop (i + 1)) ρ' S') Dd, fun σ' H' hN => ⟨_, by omega, rfl, hlt, hN⟩, fun x H3 y => ?_⟩
      obtain ⟨R3, E3, d3⟩ := rr.2 x H3 y
      cases hm : m d ρ2 S2 with
      | none => rw [hm] at w2; exact w2.elim
      | some ρ3 =>
        rw [hm] at w2
        refine ⟨Z, φ2, S2, ρ2, d, ρ3, R3, sl2.evo E3, d3, hm, fun σ3 sl3 _ => qb Z φ2 S2 ρ3 σ3 H3 _ R3 sl3 ?_⟩
        have w3 := w2.go E3
        cases hr : g ρ3 S2 with
        | nx ρ4 S4 =>
          simp only [hr] at w3
          exact fun σ4 φ4 H4 R4 E4 sl4 => ⟨φ4, S4, ρ4, R4, (E2.trans E3).trans E4, sl4, w3.go E4⟩
        | ct ρ4 S4 =>
          simp only [hr] at w3
          exact fun σ4 φ4 H4 R4 E4 sl4 => ⟨φ4, S4, ρ4, R4, (E2.trans E3).trans E4, sl4, w3.go E4⟩
        | bk ρ4 S4 =>
          simp only [hr] at w3
          exact w3
        | rt d4 S4 =>
          simp only [hr] at w3
          exact w3
        | ex C4 fs4 ρ4 S4 =>
          simp only [hr] at w3
          exact w3
        | stuck =>
          simp only [hr] at w3
          exact w3.elim
    · rw [if_neg hc] at w2
      exact w2.elim
  · have e : i = it.items.length := by omega
    subst e
    rw [List.drop_length] at w2
    unfold loopF at w2
    by_cases hc : okC it.chk S2
    · rw [if_pos hc] at w2
      exact .inl ⟨(rj _ Z φ2 S2 H2 (fun _ h => h) R2 E2.pre E2.ext hc).2 (Nat.le_refl _), w2 σ2 φ2 H2 R2 Evo.refl sl2⟩
    · rw [if_neg hc] at w2
      exact w2.elim
end
end DL

/-! The data layer, part 5: comprehensions; defs, their calls; the law's end. -/
namespace DL
open PySem L2

def Res.noEx {α : Type} (r : Res α) : Res α := match r with
  | .ok a S => .ok a S
  | _ => .stuck
@[simp] theorem Res.noEx_ok {α : Type} (a : α) (S : Store) : (Res.ok a S).noEx = .ok a S := rfl
section
variable {K : PySem.W.Frag} {mg : Str → Option Value} {Z φ φ1 φ' φ2 : List Addr} {S S1 S' S2 : Store} {H H1 H' H2 : Hp} {p : Addr}
/-! hidden addresses -/
theorem gnd_hide : Same (gnd (p :: Z) φ S H) (gnd Z φ S H) := fun a o h => by
  obtain ⟨h1, h2⟩ := without_some.mp h
  exact without_some.mpr ⟨fun q => h1 (List.mem_cons_of_mem _ q), h2⟩
theorem Evo.hideExt (e : Evo Z φ1 S1 H1 φ S H) (hp : H1 p = none) : Same (gnd Z φ1 S1 H1) (gnd (p :: Z) φ S H) := fun a o h => by
  have q := (without_some.mp h).2
  obtain ⟨h1, h2⟩ := without_some.mp (e.ext a o h)
  refine without_some.mpr ⟨fun z => ?_, h2⟩
  rcases List.mem_cons.mp z with z | z
  · rw [z, hp] at q
    cases q
  · exact h1 z
theorem Evo.hide (e : Evo Z φ1 S1 H1 φ S H) (hp : H1 p = none) (f : Evo (p :: Z) φ S H φ2 S2 H2) : Evo Z φ1 S1 H1 φ2 S2 H2 := by
  refine ⟨e.pre.trans f.pre, ((e.hideExt hp).trans f.ext).trans gnd_hide, fun c o h n => ?_, fun c h hn => ?_⟩
  · exact f.out c o (e.out c o h n) fun q => n (e.lv c q (by rw [h]; exact fun z => nomatch z))
  · by_cases q : c ∈ liveA φ1 S1
    · exact q
    · obtain ⟨o, ho⟩ := Option.ne_none_iff_exists'.mp hn
      exact e.lv c (f.lv c h (by rw [e.out c o ho q]; exact fun z => nomatch z)) hn
theorem Rel.unhide (R : Rel K mg (p :: Z) φ S H) : Rel K mg Z φ S H :=
  ⟨R.len, R.nd, fun a h q => R.zd a h (List.mem_cons_of_mem _ q), fun a h => R.zh a (List.mem_cons_of_mem _ h), R.ph, fun n a o h1 h2 => (R.ob n a o h1 h2).mono (List.prefix_refl _) gnd_hide fun _ z => z⟩
/-- a new object is hidden -/
theorem Rel.hidden (R : Rel K mg Z φ S H) (hp : H p = none) {o : HO} : Rel K mg (p :: Z) φ S (upd H p o) := by
  obtain ⟨r, e, g⟩ := R.fresh (o := o) hp
  have pφ : p ∉ φ := fun q => R.ph p q hp
  have eg : gnd (p :: Z) φ S (upd H p o) = gnd Z φ S H := by
    funext a
    by_cases ha : a = p
    · subst ha
      have h1 : gnd (a :: Z) φ S (upd H a o) a = none := by
        unfold gnd without
        rw [if_pos (List.mem_append_left _ List.mem_cons_self)]
      have h2 : gnd Z φ S H a = none := by
        unfold gnd without
        rw [hp]
        split <;> rfl
      rw [h1, h2]
    · unfold gnd without
      rw [upd_ne ha]
      by_cases hq : a ∈ Z ++ liveA φ S
      · rw [if_pos hq, if_pos (by rw [List.cons_append]; exact List.mem_cons_of_mem _ hq)]
      · rw [if_neg hq, if_neg (by rw [List.cons_append]; exact fun z => (List.mem_cons.mp z).elim ha hq)]
  refine ⟨R.len, R.nd, fun a h q => ?_, fun a h => ?_, r.ph, fun n a u h1 h2 => ?_⟩
  · rcases List.mem_cons.mp q with z | z
    · rw [z] at h
      exact pφ h
    · exact R.zd a h z
  · rcases List.mem_cons.mp h with z | z
    · rw [z, upd_same]
      exact fun q => nomatch q
    · exact r.zh a z
  · rw [eg]
    refine (R.ob n a u h1 h2).mono (List.prefix_refl _) (Same.refl _) fun ob z => ?_
    rw [upd_ne (ne_of_none z hp)]
    exact z
/-- a hidden object changes -/
theorem Rel.hidMut (R : Rel K mg (p :: Z) φ S H) {o : HO} : Rel K mg (p :: Z) φ S (upd H p o) ∧ gnd (p :: Z) φ S (upd H p o) = gnd (p :: Z) φ S H := by
  have eg : gnd (p :: Z) φ S (upd H p o) = gnd (p :: Z) φ S H := by
    funext a
    unfold gnd without
    by_cases ha : a = p
    · rw [ha, if_pos (List.mem_append_left _ List.mem_cons_self), if_pos (List.mem_append_left _ List.mem_cons_self)]
    · rw [upd_ne ha]
  have some_of : ∀ b, H b ≠ none → upd H p o b ≠ none := fun b h => by
    by_cases hb : b = p
    · subst hb
      rw [upd_same]
      exact fun z => nomatch z
    · rw [upd_ne hb]
      exact h
  refine ⟨⟨R.len, R.nd, R.zd, fun b h => some_of b (R.zh b h), fun b h => some_of b (R.ph b h), fun n a u h1 h2 => ?_⟩, eg⟩
  rw [eg]
  refine (R.ob n a u h1 h2).mono (List.prefix_refl _) (Same.refl _) fun ob z => ?_
  rw [upd_ne]
  · exact z
  · intro q
    rw [q] at h1
    exact R.zd p (List.mem_of_getElem? h1) List.mem_cons_self
theorem Evo.hidMut (e : Evo Z φ1 S1 H1 φ S H) (hp : H1 p = none) {o : HO} : Evo Z φ1 S1 H1 φ S (upd H p o) := by
  refine ⟨e.pre, fun a u h => ?_, fun a u h n => ?_, e.lv⟩
  · have q := (without_some.mp h).2
    obtain ⟨h1, h2⟩ := without_some.mp (e.ext a u h)
    refine without_some.mpr ⟨h1, ?_⟩
    rw [upd_ne (ne_of_none q hp)]
    exact h2
  · rw [upd_ne (ne_of_none h hp)]
    exact e.out a u h n
/-- the hidden list becomes an object of the store -/
theorem Rel.shown (R : Rel K mg (p :: Z) φ S H) (pZ : p ∉ Z) {ds : List D} {vs : List V} (hp : H p = some (.lst vs)) (hd : DatL K mg φ (gnd (p :: Z) φ S H) ds vs) :
    Rel K mg Z (φ ++ [p]) (S ++ [.lst ds]) H ∧ gnd Z (φ ++ [p]) (S ++ [.lst ds]) H = gnd (p :: Z) φ S H := by
  have pφ : p ∉ φ := fun q => R.zd p q List.mem_cons_self
  have lv : liveA (φ ++ [p]) (S ++ [.lst ds]) = liveA φ S ++ [p] := by rw [liveA_snoc R.len]; rfl
  have eg : gnd Z (φ ++ [p]) (S ++ [.lst ds]) H = gnd (p :: Z) φ S H := by
    funext a
    unfold gnd without
    rw [lv]
    by_cases q : a ∈ p :: Z ++ liveA φ S
    · rw [if_pos q, if_pos]
      rw [List.cons_append] at q
      rcases List.mem_cons.mp q with z | z
      · exact List.mem_append_right _ (List.mem_append_right _ (by rw [z]; exact List.mem_singleton.mpr rfl))
      · rcases List.mem_append.mp z with z | z
        · exact List.mem_append_left _ z
        · exact List.mem_append_right _ (List.mem_append_left _ z)
    · rw [if_neg q, if_neg]
      intro z
      refine q ?_
      rw [List.cons_append]
      rcases List.mem_append.mp z with z | z
      · exact List.mem_cons_of_mem _ (List.mem_append_left _ z)
      · rcases List.mem_append.mp z with z | z
        · exact List.mem_cons_of_mem _ (List.mem_append_right _ z)
        · rw [List.mem_singleton.mp z]
          exact List.mem_cons_self
  refine ⟨⟨by rw [List.length_append, List.length_append, R.len]; rfl, List.nodup_append.mpr ⟨R.nd, by simp, fun a ha b hb => ?_⟩, fun a ha q => ?_, fun a h => R.zh a (List.mem_cons_of_mem _ h), fun a ha => ?_, fun n a o h1 h2 => ?_⟩, eg⟩
  · rw [List.mem_singleton.mp hb]
    intro z
    rw [z] at ha
    exact pφ ha
  · rcases List.mem_append.mp ha with z | z
    · exact R.zd a z (List.mem_cons_of_mem _ q)
    · rw [List.mem_singleton.mp z] at q
      exact pZ q
  · rcases List.mem_append.mp ha with z | z
    · exact R.ph a z
    · rw [List.mem_singleton.mp z, hp]
      exact fun q => nomatch q
  · rw [eg]
    by_cases hlt : n < φ.length
    · rw [List.getElem?_append_left hlt] at h1
      rw [List.getElem?_append_left (by rw [← R.len]; exact hlt)] at h2
      exact (R.ob n a o h1 h2).mono ⟨[p], rfl⟩ (Same.refl _) fun _ z => z
    · have hlt' : φ.length ≤ n := Nat.le_of_not_lt hlt
      rw [List.getElem?_append_right hlt'] at h1
      rw [List.getElem?_append_right (by rw [← R.len]; exact hlt')] at h2
      have e0 : n - φ.length = 0 := by
        have := (List.getElem?_eq_some_iff.mp h1).1
        simp only [List.length_singleton] at this
        omega
      rw [← R.len] at h2
      rw [e0] at h1 h2
      cases h1
      cases h2
      exact ⟨vs, hp, DatL.mono ⟨[p], rfl⟩ (Same.refl _) _ _ hd⟩
end

/-! ### comprehensions -/
open Classical in
noncomputable def compF (c : Option (D × List D)) (m : FG) (ft : FT) (fe : FE) : List D → EnvD → Store → Res (List D)
  | [], _, S => if okC c S then .ok [] S else .stuck
  | d :: ds, ρ, S => if okC c S then (match m d ρ S with
    | some ρ1 => (ft ρ1 S).noEx.bind fun b S => if b then (fe ρ1 S).noEx.bind fun y S => (compF c m ft fe ds ρ S).bind fun ys S => .ok (y :: ys) S else compF c m ft fe ds ρ S
    | none => .stuck) else .stuck
def wipeD (ρ : EnvD) : List Nat → EnvD
  | [] => ρ
  | v :: vs => (wipeD ρ vs).set v none
theorem slots_wipe {K : PySem.W.Frag} {mg : Str → Option Value} {φ : List Addr} {G : Hp} {ρ : EnvD} {σ : L2.St} (h : Slots K mg φ G ρ σ) : ∀ vs : List Nat, Slots K mg φ G (wipeD ρ vs) (wipe σ vs)
  | [] => h
  | v :: vs => by
    obtain ⟨a, b⟩ := slots_wipe h vs
    unfold wipeD wipe
    refine ⟨by rw [List.length_set, List.length_set, a], fun i d q => ?_⟩
    by_cases hi : v = i
    · subst hi
      have hl := (List.getElem?_eq_some_iff.mp q).1
      rw [List.length_set] at hl
      rw [List.getElem?_set_self hl] at q
      cases q
    · rw [List.getElem?_set_ne hi] at q
      obtain ⟨u, h1, h2⟩ := b i d q
      exact ⟨u, by rw [List.getElem?_set_ne hi]; exact h1, h2⟩
abbrev Fin' := List D → Store → Res D
noncomputable def fComp (fi : FI) (m : FG) (ft : FT) (fe : FE) (own : List Nat) (fin : Fin') : FE := fun ρ S => (fi ρ S).bind fun it S => (compF it.chk m ft fe it.items (wipeD ρ own) S).bind fin
def finL : Fin' := fun ds S => if short ds.length then .ok (.lst ds) S else .stuck
def finO : Fin' := fun ds S => if short ds.length then .ok (.oid S.length) (S ++ [.lst ds]) else .stuck
/-- what an end must be -/
def FinOk (fin : Fin') : Prop := (∀ ds S, fin ds S ≠ .stuck → ds.length ≤ sizeLine) ∧ ∀ (K : PySem.W.Frag) (mg : Str → Option Value) (Z φ1 φ : List Addr) (S1 S : Store) (H1 H : Hp) (p : Addr) (ds : List D) (vs : List V) (Q : VK) (E : XK),
  Rel K mg (p :: Z) φ S H → Evo Z φ1 S1 H1 φ S H → H1 p = none → p ∉ Z → H p = some (.lst vs) → DatL K mg φ (gnd (p :: Z) φ S H) ds vs → Want K mg (RDat K mg) Z φ1 S1 H1 (fin ds S) Q E → Q (.ref p) H
theorem finL_ok : FinOk finL := by
  refine ⟨fun ds S h => ?_, fun K mg Z φ1 φ S1 S H1 H p ds vs Q E R e hp pZ hH hd w => ?_⟩
  · unfold finL at h
    by_cases q : short ds.length = true
    · exact of_decide_eq_true q
    · rw [if_neg q] at h
      exact absurd rfl h
  · unfold finL at w
    by_cases q : short ds.length = true
    · rw [if_pos q] at w
      refine w _ φ H R.unhide e ?_
      unfold RDat Dat
      refine ⟨p, vs, rfl, without_some.mpr ⟨fun z => ?_, hH⟩, DatL.mono (List.prefix_refl _) gnd_hide _ _ hd⟩
      rcases List.mem_append.mp z with z | z
      · exact pZ z
      · exact R.zd p (liveA_sub z) List.mem_cons_self
    · rw [if_neg q] at w
      exact w.elim
theorem finO_ok : FinOk finO := by
  refine ⟨fun ds S h => ?_, fun K mg Z φ1 φ S1 S H1 H p ds vs Q E R e hp pZ hH hd w => ?_⟩
  · unfold finO at h
    by_cases q : short ds.length = true
    · exact of_decide_eq_true q
    · rw [if_neg q] at h
      exact absurd rfl h
  · unfold finO at w
    by_cases q : short ds.length = true
    · rw [if_pos q] at w
      obtain ⟨r, eg⟩ := R.shown pZ hH hd
      refine w _ (φ ++ [p]) H r ⟨e.pre.trans ⟨[p], rfl⟩, by rw [eg]; exact e.hideExt hp, e.out, fun a h hn => ?_⟩ ?_
      · rw [liveA_snoc R.len] at h
        rcases List.mem_append.mp h with z | z
        · exact e.lv a z hn
        · have z' : a ∈ [p] := z
          rw [List.mem_singleton.mp z'] at hn
          exact absurd hp hn
      · unfold RDat Dat
        exact ⟨p, rfl, by rw [List.getElem?_append_right (by rw [R.len]; exact Nat.le_refl _), ← R.len, Nat.sub_self]; rfl⟩
    · rw [if_neg q] at w
      exact w.elim
section
variable {X : Cx} {W : WX} {k : Nat}
theorem Want.noEx {α β : Type} {Z φ : List Addr} {S : Store} {H : Hp} {R : List Addr → Hp → α → β → Prop} {r : Res α} {Q : β → Hp → Prop} {E : XK} (hn : r.noEx ≠ .stuck)
    (f : ∀ a S1 b φ1 H1, r = .ok a S1 → Rel X.K X.mg Z φ1 S1 H1 → Evo Z φ S H φ1 S1 H1 → R φ1 (gnd Z φ1 S1 H1) a b → Q b H1) : Want X.K X.mg R Z φ S H r Q E := by
  cases r with
  | ok a S1 => exact fun b φ1 H1 r1 e1 d => f a S1 b φ1 H1 rfl r1 e1 d
  | _ => exact absurd rfl hn
theorem isE_lc {fi : FI} {is : List Nat} {m : FG} {ft : FT} {fe : FE} {own : List Nat} {fin : Fin'} (hf : FinOk fin) (hio : ∀ i ∈ is, i ∈ own) :
    IsE X W (tLc (tDI X.K X.mg W fi) (tG X.K X.mg is m) (tDT X.K X.mg W0 ft) (tD X.K X.mg W0 fe) own) (fComp fi m ft fe own fin) := fun Z φ S ρ σ H Q R sl w => by
  have wi : WantI X.K X.mg Z φ S H (fi ρ S) (fun J H1 => ∀ D, H1 D = none → ∃ W : Nat → Nat → Hp → Prop, (∃ m, W 0 m (upd H1 D (.lst []))) ∧ ∀ i mm H, W i mm H →
      (J.stop i H ∧ Q (.ref D) H) ∨ (J.go i H ∧ ∃ Nx : Hp → Prop, (∀ H', Nx H' → ∃ m', m' < mm ∧ W (i + 1) m' H') ∧ ∀ x H', J.yld i H x H' → tG X.K X.mg is m x (wipe σ own) H' fun σ2 H2 => wipe σ2 own = wipe σ own ∧ tDT X.K X.mg W0 ft σ2 H2 fun b H3 =>
        if b = true then tD X.K X.mg W0 fe σ2 H3 fun y H4 => ∃ acc, H4 D = some (.lst acc) ∧ acc.length < sizeLine ∧ Nx (upd H4 D (.lst (acc ++ [y]))) else Nx H3)) (WE W σ) := by
    have aux : ∀ it S1 J φ1 H1, Rel X.K X.mg Z φ1 S1 H1 → Evo Z φ S H φ1 S1 H1 → RI X.K X.mg Z φ1 S1 H1 it J → Want X.K X.mg (RDat X.K X.mg) Z φ1 S1 H1 ((compF it.chk m ft fe it.items (wipeD ρ own) S1).bind fin) Q (WE W σ) →
        ∀ D, H1 D = none → ∃ W : Nat → Nat → Hp → Prop, (∃ m, W 0 m (upd H1 D (.lst []))) ∧ ∀ i mm H, W i mm H →
      (J.stop i H ∧ Q (.ref D) H) ∨ (J.go i H ∧ ∃ Nx : Hp → Prop, (∀ H', Nx H' → ∃ m', m' < mm ∧ W (i + 1) m' H') ∧ ∀ x H', J.yld i H x H' → tG X.K X.mg is m x (wipe σ own) H' fun σ2 H2 => wipe σ2 own = wipe σ own ∧ tDT X.K X.mg W0 ft σ2 H2 fun b H3 =>
        if b = true then tD X.K X.mg W0 fe σ2 H3 fun y H4 => ∃ acc, H4 D = some (.lst acc) ∧ acc.length < sizeLine ∧ Nx (upd H4 D (.lst (acc ++ [y]))) else Nx H3) := by
      intro it S1 J φ1 H1 R1 E1 rj w1 p hp
      have pZ : p ∉ Z := fun q => R1.zh p q hp
      let Inv' : Nat → Hp → Prop := fun i H' => ∃ φ' S' acc vs, Rel X.K X.mg (p :: Z) φ' S' H' ∧ Evo Z φ1 S1 H1 φ' S' H' ∧ H' p = some (.lst vs) ∧ DatL X.K X.mg φ' (gnd (p :: Z) φ' S' H') acc vs ∧
        Want X.K X.mg (RDat X.K X.mg) Z φ1 S1 H1 ((compF it.chk m ft fe (it.items.drop i) (wipeD ρ own) S').bind fun ys S => fin (acc ++ ys) S) Q (WE W σ)
      refine ⟨fun i n H' => n = it.items.length - i ∧ i ≤ it.items.length ∧ Inv' i H', ⟨_, rfl, Nat.zero_le _, φ1, S1, [], [], R1.hidden hp, ?_, upd_same, DatL.nil, w1⟩, ?_⟩
      · exact (Evo.refl (Z := Z) (φ := φ1) (S := S1) (H := H1)).hidMut hp
      rintro i n H2 ⟨rfl, hle, φ2, S2, acc, vs, R2, E2, hH2, dv, w2⟩
      have slw : Slots X.K X.mg φ2 (gnd (p :: Z) φ2 S2 H2) (wipeD ρ own) (wipe σ own) := by
        refine slots_wipe ⟨sl.1, fun j d q => ?_⟩ own
        obtain ⟨u, h1, h2⟩ := sl.2 j d q
        exact ⟨u, h1, Dat.mono (E1.pre.trans E2.pre) (E1.ext.trans (E2.hideExt hp)) _ _ h2⟩
      by_cases hlt : i < it.items.length
      · obtain ⟨d, hd⟩ : ∃ d, it.items[i]? = some d := ⟨_, List.getElem?_eq_getElem hlt⟩
        have hdr : it.items.drop i = d :: it.items.drop (i + 1) := by
          rw [List.drop_eq_getElem_cons hlt]
          congr 1
          rw [List.getElem?_eq_getElem hlt] at hd
          exact Option.some.inj hd
        rw [hdr] at w2
        unfold compF at w2
        by_cases hc : okC it.chk S2
        · rw [if_pos hc] at w2
          have rr := (rj i (p :: Z) φ2 S2 H2 (fun _ h => List.mem_cons_of_mem _ h) R2 E2.pre (E2.hideExt hp) hc).1 d hd
          refine .inr ⟨rr.1, Inv' (i + 1), fun H' hN => ⟨_, by omega, rfl, hlt, hN⟩, fun x H3 y => ?_⟩
          obtain ⟨R3, E3, d3⟩ := rr.2 x H3 y
          cases hm : m d (wipeD ρ own) S2 with
          | none => rw [hm] at w2; exact w2.elim
          | some ρ3 =>
            simp only [hm] at w2
            refine ⟨p :: Z, φ2, S2, wipeD ρ own, d, ρ3, R3, slw.evo E3, d3, hm, fun σ3 sl3 hw => ⟨?_, p :: Z, φ2, S2, ρ3, R3, sl3, ?_⟩⟩
            · rw [hw own hio]
              have ww : ∀ vs : List Nat, (∀ i ∈ vs, i ∈ own) → wipe (wipe σ own) vs = wipe σ own := by
                intro vs
                induction vs with
                | nil => intro _; rfl
                | cons v vs ih =>
                  intro hv
                  show (wipe (wipe σ own) vs).set v none = wipe σ own
                  rw [ih fun i hi => hv i (List.mem_cons_of_mem _ hi)]
                  have hv' := hv v List.mem_cons_self
                  have gen : ∀ own : List Nat, v ∈ own → (wipe σ own).set v none = wipe σ own := by
                    intro own
                    induction own with
                    | nil => intro h; simp at h
                    | cons u us ih2 =>
                      intro h
                      unfold wipe
                      by_cases hu : v = u
                      · subst hu
                        rw [List.set_set]
                      · rw [List.set_comm _ _ (fun z => hu z.symm), ih2 ((List.mem_cons.mp h).resolve_left hu)]
                  exact gen own hv'
              exact ww own fun _ h => h
            have ev2 : Evo Z φ1 S1 H1 φ2 S2 H3 := E2.hide hp E3
            have stuckT : (ft ρ3 S2).noEx ≠ .stuck := fun z => by
              rw [z] at w2
              exact w2
            refine Want.noEx stuckT fun b S4 b' φ4 H4 hb R4 E4 eb => ?_
            cases eb
            rw [hb] at w2
            simp only [Res.noEx_ok, Res.bind_ok] at w2
            have ev4 := ev2.hide hp E4
            have hp3 : H3 p = some (.lst vs) := E3.out p _ hH2 fun q => R2.zd p (liveA_sub q) List.mem_cons_self
            have hp4 : H4 p = some (.lst vs) := E4.out p _ hp3 fun q => R3.zd p (liveA_sub q) List.mem_cons_self
            have dv4 := DatL.evo E4 (DatL.evo E3 dv)
            cases b with
            | false =>
              exact iteF ⟨φ4, S4, acc, vs, R4, ev4, hp4, dv4, w2⟩
            | true =>
              simp only [if_true] at w2
              refine iteT ⟨p :: Z, φ4, S4, ρ3, R4, sl3.evo E4, ?_⟩
              have stuckE : (fe ρ3 S4).noEx ≠ .stuck := fun z => by
                rw [z] at w2
                exact w2
              refine Want.noEx stuckE fun yd S5 yv φ5 H5 hy R5 E5 dy => ?_
              rw [hy] at w2
              simp only [Res.noEx_ok, Res.bind_ok] at w2
              have hp5 : H5 p = some (.lst vs) := E5.out p _ hp4 fun q => R4.zd p (liveA_sub q) List.mem_cons_self
              have dv5 := DatL.evo E5 dv4
              obtain ⟨R6, eg⟩ := R5.hidMut (o := .lst (vs ++ [yv]))
              have w3 : Want X.K X.mg (RDat X.K X.mg) Z φ1 S1 H1 ((compF it.chk m ft fe (it.items.drop (i + 1)) (wipeD ρ own) S5).bind fun ys S => fin ((acc ++ [yd]) ++ ys) S) Q (WE W σ) := by
                cases hq : compF it.chk m ft fe (it.items.drop (i + 1)) (wipeD ρ own) S5 with
                | ok ys S7 =>
                  rw [hq] at w2
                  simp only [Res.bind_ok] at w2 ⊢
                  rw [List.append_assoc]
                  exact w2
                | _ => rw [hq] at w2; exact w2
              refine ⟨vs, hp5, ?_, φ5, S5, acc ++ [yd], vs ++ [yv], R6, (ev4.hide hp E5).hidMut hp, upd_same, by rw [eg]; exact dv5.append (.cons dy DatL.nil), w3⟩
              cases hq : compF it.chk m ft fe (it.items.drop (i + 1)) (wipeD ρ own) S5 with
              | ok ys S7 =>
                rw [hq] at w3
                have ns : fin ((acc ++ [yd]) ++ ys) S7 ≠ .stuck := fun z => by
                  simp only [Res.bind_ok, z] at w3
                  exact w3
                have hl := hf.1 _ _ ns
                rw [dv5.length]
                simp only [List.length_append, List.length_singleton] at hl
                omega
              | ex C fs S7 =>
                exfalso
                have : ∀ (ds : List D) (ρ : EnvD) (S : Store) C fs S', compF it.chk m ft fe ds ρ S ≠ .ex C fs S' := by
                  intro ds
                  induction ds with
                  | nil =>
                    intro ρ S C fs S' z
                    unfold compF at z
                    split at z <;> cases z
                  | cons d ds ih =>
                    intro ρ S C fs S' z
                    unfold compF at z
                    split at z
                    · split at z
                      · rename_i ρ1 _
                        cases h1 : ft ρ1 S with
                        | ok b S2 =>
                          rw [h1] at z
                          simp only [Res.noEx_ok, Res.bind_ok] at z
                          cases b with
                          | false => exact ih _ _ _ _ _ z
                          | true =>
                            simp only [if_true] at z
                            cases h2 : fe ρ1 S2 with
                            | ok y S3 =>
                              rw [h2] at z
                              simp only [Res.noEx_ok, Res.bind_ok] at z
                              cases h3 : compF it.chk m ft fe ds ρ S3 with
                              | ex _ _ _ => exact ih _ _ _ _ _ h3
                              | _ => rw [h3] at z; cases z
                            | _ => rw [h2] at z; cases z
                        | _ => rw [h1] at z; cases z
                      · cases z
                    · cases z
                exact this _ _ _ _ _ _ hq
              | stuck =>
                rw [hq] at w3
                exact w3.elim
        · rw [if_neg hc] at w2
          exact w2.elim
      · have e : i = it.items.length := by omega
        subst e
        rw [List.drop_length] at w2
        unfold compF at w2
        by_cases hc : okC it.chk S2
        · rw [if_pos hc] at w2
          simp only [Res.bind_ok, List.append_nil] at w2
          exact .inl ⟨(rj _ (p :: Z) φ2 S2 H2 (fun _ h => List.mem_cons_of_mem _ h) R2 E2.pre (E2.hideExt hp) hc).2 (Nat.le_refl _), hf.2 X.K X.mg Z φ1 φ2 S1 S2 H1 H2 p acc vs Q _ R2 E2 hp pZ hH2 dv w2⟩
        · rw [if_neg hc] at w2
          exact w2.elim
    unfold fComp at w
    cases hr : fi ρ S with
    | ok it S1 =>
      rw [hr] at w
      exact fun J φ1 H1 R1 E1 rj => aux it S1 J φ1 H1 R1 E1 rj (w.go E1)
    | ex C fs S1 => rw [hr] at w; exact w
    | stuck => rw [hr] at w; exact w
  exact ⟨Z, φ, S, ρ, R, sl, wi⟩

/-! tests of a comprehension -/
def DTs (X : Cx) (W : WX) (ifs : List Expr) (ft : FT) : Prop := PTs X ifs (tDT X.K X.mg W ft)
def fYes : FT := fun _ S => .ok true S
theorem dts_nil : DTs X W [] fYes := ⟨fun pins s σ H Q I h => by
  obtain ⟨Z, φ, S, ρ, R, sl, w⟩ := h
  exact pts_nil.run pins s σ H Q I (w.now R rfl)⟩
theorem dts_one {c : Expr} {ft : FT} (h : DT X W c ft) : DTs X W [c] ft := pts_one h
theorem Cn.blk (C : Cn X W k) {s : Shared} {H : Hp} {scope : Scope} {ce : Env} {fp : List Addr} : Cn (X.blk s H scope ce fp) W0 k :=
  ⟨C.room, C.gd, C.calm, C.nd, PassesOwn.never, takes0N⟩
theorem de_lc (C : Cn X W k) {fin : Fin'} (hf : FinOk fin) {elt tg iter : Expr} {ifs : List Expr} {scope : Scope} {own : List (Str × Nat)} {pos : Pos} {fi : FI} {is : List Nat} {m : FG} {ft : FT} {fe : FE} (hi : DI X W tg iter fi) (ok : BlkOk X.N X.env.scope scope own)
    (hg : ∀ (s : Shared) (H : Hp) (C : Addr) (cl : List (Str × Addr)) (fp : List Addr), DG (X.blk s H scope (compEnvC scope cl C X.env) fp) tg is m) (ht : ∀ (s : Shared) (H : Hp) (C : Addr) (cl : List (Str × Addr)) (fp : List Addr), DTs (X.blk s H scope (compEnvC scope cl C X.env) fp) W0 ifs ft)
    (he : ∀ (s : Shared) (H : Hp) (C : Addr) (cl : List (Str × Addr)) (fp : List Addr), DE (X.blk s H scope (compEnvC scope cl C X.env) fp) W0 elt fe) (hio : ∀ i ∈ is, i ∈ own.map (·.2) := by decide) (hs : ∀ x, foldedSetIterable iter X.env x = pure x := by intro _; rfl) :
    DE X W (.ListComp elt [⟨tg, iter, ifs, 0⟩] scope pos) (fComp fi m ft fe (own.map (·.2)) fin) :=
  .mk (pe_lc (g := tG X.K X.mg is m) (tt := tDT X.K X.mg W0 ft) (te := tD X.K X.mg W0 fe) C.calm C.nd hi ok hg ht he hs) (isE_lc hf hio)
theorem ds_setOf {t : TE} {fe : FE} {e : Expr} {x : Str} {i : Nat} {pos pos' : Pos} (p : PS X (.Assign [.Name x pos'] e pos) (tAsg t (L2.gName i))) (q : IsE X W t fe) : DS X W (.Assign [.Name x pos'] e pos) (gSet i fe) :=
  .mk p fun Z φ S ρ σ H Dd R sl w => q Z φ S ρ σ H _ R sl (w.into sl fun d S1 v φ1 H1 R1 E1 dd w1 => w1 _ φ1 H1 R1 Evo.refl ((sl.evo E1).set dd))
theorem ds_setLc (C : Cn X W k) {fin : Fin'} (hf : FinOk fin) {i : Nat} {y : Str} {py spos : Pos} {elt tg iter : Expr} {ifs : List Expr} {scope : Scope} {own : List (Str × Nat)} {pos : Pos} {fi : FI} {is : List Nat} {m : FG} {ft : FT} {fe : FE} (hy : X.N[i]? = some y) (hyl : X.env.scope.names.lookup y = some .local)
    (hsw : swapsWith (.ListComp elt [⟨tg, iter, ifs, 0⟩] scope pos) (some (.Name y py)) spos.line X.env = pure true) (hi : DI X W tg iter fi) (ok : BlkOk X.N X.env.scope scope own)
    (hg : ∀ (s : Shared) (H : Hp) (C : Addr) (cl : List (Str × Addr)) (fp : List Addr), DG (X.blk s H scope (compEnvC scope cl C X.env) fp) tg is m) (ht : ∀ (s : Shared) (H : Hp) (C : Addr) (cl : List (Str × Addr)) (fp : List Addr), DTs (X.blk s H scope (compEnvC scope cl C X.env) fp) W0 ifs ft)
    (he : ∀ (s : Shared) (H : Hp) (C : Addr) (cl : List (Str × Addr)) (fp : List Addr), DE (X.blk s H scope (compEnvC scope cl C X.env) fp) W0 elt fe) (hio : ∀ i ∈ is, i ∈ own.map (·.2) := by decide) (hs : ∀ x, foldedSetIterable iter X.env x = pure x := by intro _; rfl) :
    DS X W (.Assign [.Name y py] (.ListComp elt [⟨tg, iter, ifs, 0⟩] scope pos) spos) (gSet i (fComp fi m ft fe (own.map (·.2)) fin)) :=
  ds_setOf (ps_setLc (g := tG X.K X.mg is m) (tt := tDT X.K X.mg W0 ft) (te := tD X.K X.mg W0 fe) C.calm C.nd hy hyl hsw hi ok hg ht he hs) (isE_lc hf hio)
end

/-! ### defs -/
/-- a def's promise; what is under way around it is known -/
structure FnG (P : Program) (w : World) (K : PySem.W.Frag) (mg : Str → Option Value) (base : Heap) (k : Nat) (f : Addr) (fd : FuncData) (ps : List Str) (sp : Sp) : Prop where
  len : ∀ vs H Q E, sp vs H Q E → vs.length = ps.length
  run : ∀ (A : Around) (outer : List Env) (s : Shared) (H : Hp) (args : Args) (us : List Value) (vs : List V) (Q : VK) (E : XK), Room k A → A.guards = some [] → Env0 P w K mg base A outer s H → BindsTo s fd args (ps.zip us) → Vals vs us → sp vs H Q E →
    codeAny (model P w) A (.call (.ref f) args) (CR (L2N.CX P w) outer P w H s Q E) s
abbrev Sem' := List D → Store → Res D
def spD (K : PySem.W.Frag) (mg : Str → Option Value) (n : Nat) (sem : Sem') : Sp := fun vs H Q E => vs.length = n ∧ ∃ Z φ S ds, Rel K mg Z φ S H ∧ DatL K mg φ (gnd Z φ S H) ds vs ∧ Want K mg (RDat K mg) Z φ S H (sem ds S) Q E
def startD (n : Nat) (ds : List D) : EnvD := ds.map some ++ List.replicate (n - ds.length) none
def Out.res (o : Out) : Res D := match o with
  | .nx _ S => .ok .non S
  | .rt d S => .ok d S
  | .ex C fs _ S => .ex C fs S
  | _ => .stuck
def semOf (n : Nat) (g : FS) : Sem' := fun ds S => (g (startD n ds) S).res
theorem slots_start {K : PySem.W.Frag} {mg : Str → Option Value} {φ : List Addr} {G : Hp} {N : List Str} {ds : List D} {vs : List V} (h : DatL K mg φ G ds vs) : Slots K mg φ G (startD N.length ds) (L2.start N vs) := by
  have hl := h.length
  unfold startD L2.start
  rw [hl]
  refine ⟨by simp [hl], fun i d q => ?_⟩
  by_cases hi : i < ds.length
  · rw [List.getElem?_append_left (by simpa using hi), List.getElem?_map] at q
    cases hq : ds[i]? with
    | none => rw [hq] at q; cases q
    | some e =>
      rw [hq] at q
      cases q
      obtain ⟨v, h1, h2⟩ := h.get hq
      exact ⟨v, by rw [List.getElem?_append_left (by simpa [hl] using hi), List.getElem?_map, h1]; rfl, h2⟩
  · rw [List.getElem?_append_right (by simpa using hi), List.getElem?_replicate] at q
    split at q <;> cases q
/-- THE RULE: a def by its body's mirror -/
theorem fnG {P : Program} {w : World} {K : PySem.W.Frag} {mg : Str → Option Value} {base : Heap} {x qual : Str} {params : Arguments} {body : List Stmt} {scope : Scope} {dvs : List V} {kws : List (Str × V)} {f : Addr} {fd : FuncData} {N ps : List Str} {k : Nat} {g : FS}
    (F : FunD K x qual params body scope dvs kws f fd) (S : FnScope N ps scope)
    (hb : ∀ (cdv : Value) (A : Around) (outer : List Env) (s : Shared) (H : Hp) (E : XK), Cn (cxOf (L2N.CX P w) P w K mg base N qual scope f cdv A outer s H E) (fun c d _ H' => E c d H') k →
      DSs (cxOf (L2N.CX P w) P w K mg base N qual scope f cdv A outer s H E) (fun c d _ H' => E c d H') body g) : FnG P w K mg base (k + 1) f fd ps (spD K mg ps.length (semOf N.length g)) := by
  obtain ⟨oc, od, dV, kV, doc, pm, an, cdv, ct, osl, rfl, lk, hcd, _, _⟩ := F.ex
  refine ⟨fun vs H Q E h => h.1, fun A outer s H args us vs Q E hr hgd e0 hbd r hsp => ?_⟩
  have hl : us.length = ps.length := r.length.symm.trans hsp.1
  have keep : ∀ b o, base.get? b = some o → s.heap.get? b = some o := fun b o e => (e0.bs b o e).1
  have inK : K.In s.heap := e0.mod.kin.keeps keep
  have par : ∀ y ∈ ps.zip us, scope.names.lookup y.1 = some .local ∨
      (scope.names.lookup y.1 = some .cell ∧ ((cellsFrom (s.heap.objs.size + 1) scope.names []).lookup y.1).isSome = true) := by
    rintro ⟨n, v⟩ hy
    exact (S.par n (List.of_mem_zip hy).1).imp id fun q => ⟨q, PySem.W.cellsFrom_some _ _ _ (.inl q)⟩
  refine codeAny_call_function hr.depth (inK _ _ lk) rfl S.co S.gen rfl
    (PySem.W.codeRec_of inK hcd) (hbd _ _ _ _ ?_)
  refine wpAny_newFunctionEnv_cells S.kind par fun env he s1 entered => ?_
  subst he
  refine ⟨(e0.mod.nolimit.keeps keep).keeps entered.toInCall.keep, codeAny_func ?_⟩
  -- the body's own context
  have body' := hb cdv A outer s H E ⟨hr.deeper _, hgd, rfl, S.nd, passes_of rfl, L2N.takes_of rfl rfl rfl rfl⟩
  obtain ⟨hlen, Z, φ, S0, ds, R, dl, w0⟩ := hsp
  have I0 := inv_start (CX := L2N.CX P w) (mg := mg) (base := base) (cd := cdv) (qual := qual) (f := f) (E := E) S hr.hd e0 hlen r entered
  have q0 : tDS (cxOf (L2N.CX P w) P w K mg base N qual scope f cdv A outer s H E) (fun c d _ H' => E c d H') g { nx := fun _ H' => Q .non H', rt := Q } (L2.start N vs) H := by
    refine ⟨Z, φ, S0, startD N.length ds, R, slots_start dl, ?_⟩
    unfold semOf at w0
    cases hg : g (startD N.length ds) S0 with
    | nx ρ S1 =>
      rw [hg] at w0
      exact fun σ φ1 H1 R1 E1 _ => w0 .non φ1 H1 R1 E1 (by unfold RDat Dat; rfl)
    | rt d S1 =>
      rw [hg] at w0
      exact w0
    | ex C fs ρ S1 =>
      rw [hg] at w0
      exact fun A1 dx σ φ1 H1 m R1 E1 _ x => w0 A1 dx φ1 H1 m R1 E1 x
    | _ =>
      rw [hg] at w0
      exact w0.elim
  refine wpAny_mono (PSs.run body' [] s1 (L2.start N vs) H _ I0 q0) (fun fl s' hs => ?_) fun _ _ z => z
  have fin : ∀ {σ' : L2.St} {H' : Hp} {v : V} {u : Value}, Inv (cxOf (L2N.CX P w) P w K mg base N qual scope f cdv A outer s H E) [] σ' H' s' → RelV v u →
      Q v H' → CE outer P w H s Q u s' := fun J rv q => ⟨_, _, J.os, J.bare, J.base, J.hok, rv, q⟩
  cases fl with
  | ret u =>
    obtain ⟨v, σ', H', J, rv, q⟩ := hs
    exact fin J rv q
  | next =>
    obtain ⟨σ', H', J, q⟩ := hs
    exact fin (v := .non) J rfl q
  | brk => exact hs.choose_spec.choose_spec.2.elim
  | cont => exact hs.choose_spec.choose_spec.2.elim
end DL

/-! The data layer, part 6: calls. -/
namespace DL
open PySem L2

/-! ### data without objects of the store -/
mutual
def D.pure : D → Bool
  | .oid _ => false
  | .tup ds => pureL ds
  | .lst ds => pureL ds
  | .scr ds => pureL ds
  | .dic ks => pureK ks
  | .ins _ fs => pureF fs
  | .exc _ fs => pureF fs
  | _ => true
def pureL : List D → Bool
  | [] => true
  | d :: ds => d.pure && pureL ds
def pureK : List (Key × D) → Bool
  | [] => true
  | (_, d) :: ds => d.pure && pureK ds
def pureF : List (Str × D) → Bool
  | [] => true
  | (_, d) :: ds => d.pure && pureF ds
end
section
variable {K : PySem.W.Frag} {mg : Str → Option Value} {φ φ' : List Addr} {G : Hp}
mutual
theorem Dat.pure : ∀ {d : D} {v : V}, d.pure = true → Dat K mg φ G d v → Dat K mg φ' G d v
  | .non, _, _, h => h
  | .bl _, _, _, h => h
  | .int _, _, _, h => h
  | .str _, _, _, h => h
  | .ty _, _, _, h => h
  | .tup ds, _, p, h => by
    unfold Dat at h ⊢
    unfold D.pure at p
    obtain ⟨a, vs, rfl, h1, h2⟩ := h
    exact ⟨a, vs, rfl, h1, DatL.pure p h2⟩
  | .lst ds, _, p, h => by
    unfold Dat at h ⊢
    unfold D.pure at p
    obtain ⟨a, vs, rfl, h1, h2⟩ := h
    exact ⟨a, vs, rfl, h1, DatL.pure p h2⟩
  | .scr ds, _, p, h => by
    unfold Dat at h ⊢
    unfold D.pure at p
    obtain ⟨a, vs, rfl, h1, h2⟩ := h
    exact ⟨a, vs, rfl, h1, DatL.pure p h2⟩
  | .cls c, _, _, h => by
    unfold Dat at h ⊢
    exact h
  | .dic ks, _, p, h => by
    unfold Dat at h ⊢
    unfold D.pure at p
    obtain ⟨a, vs, rfl, h1, h2⟩ := h
    exact ⟨a, vs, rfl, h1, DatK.pure p h2⟩
  | .ins C fs, _, p, h => by
    unfold Dat at h ⊢
    unfold D.pure at p
    obtain ⟨a, A, dx, fvs, rfl, h0, h1, h2⟩ := h
    exact ⟨a, A, dx, fvs, rfl, h0, h1, DatF.pure p h2⟩
  | .oid n, _, p, h => by
    unfold D.pure at p
    cases p
  | .exc C fs, _, p, h => by
    unfold Dat at h ⊢
    unfold D.pure at p
    obtain ⟨a, A, dx, rfl, h0, h1, h2⟩ := h
    exact ⟨a, A, dx, rfl, h0, h1, h2.imp id fun ⟨z, b, fvs, q0, q1, q2⟩ => ⟨z, b, fvs, q0, q1, DatF.pure p q2⟩⟩
theorem DatL.pure : ∀ {ds : List D} {vs : List V}, pureL ds = true → DatL K mg φ G ds vs → DatL K mg φ' G ds vs
  | [], _, _, h => by
    unfold DatL at h ⊢
    exact h
  | d :: ds, _, p, h => by
    unfold DatL at h ⊢
    unfold pureL at p
    rw [Bool.and_eq_true] at p
    obtain ⟨v, r, rfl, h1, h2⟩ := h
    exact ⟨v, r, rfl, Dat.pure p.1 h1, DatL.pure p.2 h2⟩
theorem DatK.pure : ∀ {ds : List (Key × D)} {vs : List (Key × V)}, pureK ds = true → DatK K mg φ G ds vs → DatK K mg φ' G ds vs
  | [], _, _, h => by
    unfold DatK at h ⊢
    exact h
  | (k, d) :: ds, _, p, h => by
    unfold DatK at h ⊢
    unfold pureK at p
    rw [Bool.and_eq_true] at p
    obtain ⟨v, r, rfl, h1, h2⟩ := h
    exact ⟨v, r, rfl, Dat.pure p.1 h1, DatK.pure p.2 h2⟩
theorem DatF.pure : ∀ {ds : List (Str × D)} {vs : List (Str × V)}, pureF ds = true → DatF K mg φ G ds vs → DatF K mg φ' G ds vs
  | [], _, _, h => by
    unfold DatF at h ⊢
    exact h
  | (k, d) :: ds, _, p, h => by
    unfold DatF at h ⊢
    unfold pureF at p
    rw [Bool.and_eq_true] at p
    obtain ⟨v, r, rfl, h1, h2⟩ := h
    exact ⟨v, r, rfl, Dat.pure p.1 h1, DatF.pure p.2 h2⟩
end
end
def SO.pure : SO → Bool
  | .lst ds => pureL ds
  | .dic ks => pureK ks
  | .ins _ fs => pureF fs
  | .frz d => d.pure
  | .tbl _ _ => false
  | .dkt _ => false
theorem SOk.pure {K : PySem.W.Frag} {mg : Str → Option Value} {φ φ' : List Addr} {G H : Hp} {a : Addr} : ∀ {o : SO}, o.pure = true → SOk K mg φ G H a o → SOk K mg φ' G H a o
  | .lst ds, p, ⟨vs, h1, h2⟩ => ⟨vs, h1, h2.pure p⟩
  | .dic ks, p, ⟨vs, h1, h2⟩ => ⟨vs, h1, h2.pure p⟩
  | .ins C fs, p, ⟨A, dx, fvs, h0, h1, h2⟩ => ⟨A, dx, fvs, h0, h1, h2.pure p⟩
  | .frz d, p, h => Dat.pure p h
  | .tbl _ _, p, _ => nomatch p
  | .dkt _, p, _ => nomatch p

/-! ### a call with the objects that it is handed, and no others -/
def subArgs (S : Store) : List D → Nat → Option (List D × List Nat)
  | [], _ => some ([], [])
  | .oid k :: ds, n => match S[k]? with
    | some (.frz d) => if d.pure then (subArgs S ds n).map fun q => (d :: q.1, q.2) else none
    | some o => if o.pure then (subArgs S ds (n + 1)).map fun q => (.oid n :: q.1, k :: q.2) else none
    | none => none
  | d :: ds, n => if d.pure then (subArgs S ds n).map fun q => (d :: q.1, q.2) else none
def putBack (S : Store) : List Nat → Store → Store
  | k :: ks, o :: Sc => putBack (S.set k o) ks Sc
  | _, _ => S
def subOf (S : Store) (ks : List Nat) : Store := ks.map fun k => S.getD k (.frz .non)
def callSub (sem : Sem') : Sem' := fun args S => match subArgs S args 0 with
  | some (args', ks) => if ks.Nodup then (match sem args' (subOf S ks) with
    | .ok d Sc => if d.pure && ((Sc.take ks.length).all SO.pure && decide (ks.length ≤ Sc.length)) then .ok d (putBack S ks Sc) else .stuck
    | .ex C fs Sc => if pureF fs && ((Sc.take ks.length).all SO.pure && decide (ks.length ≤ Sc.length)) then .ex C fs (putBack S ks Sc) else .stuck
    | .stuck => .stuck) else .stuck
  | none => .stuck
theorem putBack_length : ∀ (ks : List Nat) (S Sc : Store), (putBack S ks Sc).length = S.length
  | [], _, _ => by simp [putBack]
  | k :: ks, S, [] => rfl
  | k :: ks, S, o :: Sc => by unfold putBack; rw [putBack_length, List.length_set]
theorem putBack_out : ∀ (ks : List Nat) (S Sc : Store) (n : Nat), n ∉ ks → (putBack S ks Sc)[n]? = S[n]?
  | [], _, _, _, _ => by simp [putBack]
  | k :: ks, S, [], _, _ => rfl
  | k :: ks, S, o :: Sc, n, h => by
    simp only [List.mem_cons, not_or] at h
    unfold putBack
    rw [putBack_out ks _ _ n h.2, List.getElem?_set_ne (fun z => h.1 z.symm)]
theorem putBack_in : ∀ (ks : List Nat) (S Sc : Store) (j n : Nat) (o : SO), ks.Nodup → ks[j]? = some n → n < S.length → Sc[j]? = some o → (putBack S ks Sc)[n]? = some o
  | [], _, _, _, _, _, _, h, _, _ => by cases h
  | k :: ks, S, [], _, _, _, _, _, _, h => by cases h
  | k :: ks, S, u :: Sc, 0, n, o, nd, h1, h2, h3 => by
    cases h1
    cases h3
    unfold putBack
    rw [putBack_out ks _ _ _ (List.nodup_cons.mp nd).1, List.getElem?_set_self h2]
  | k :: ks, S, u :: Sc, j + 1, n, o, nd, h1, h2, h3 => by
    unfold putBack
    exact putBack_in ks _ _ j n o (List.nodup_cons.mp nd).2 h1 (by rw [List.length_set]; exact h2) h3
section
variable {K : PySem.W.Frag} {mg : Str → Option Value} {Z φ : List Addr} {S : Store} {H : Hp}
def phiOf (φ : List Addr) (ks : List Nat) : List Addr := ks.map fun k => φ.getD k 0
theorem subArgs_ok (R : Rel K mg Z φ S H) : ∀ (ds : List D) (vs : List V) (n : Nat) (ds' : List D) (ks : List Nat) (pre : List Addr), pre.length = n → subArgs S ds n = some (ds', ks) → DatL K mg φ (gnd Z φ S H) ds vs →
    DatL K mg (pre ++ phiOf φ ks) (gnd Z φ S H) ds' vs ∧ ∀ k ∈ ks, ∃ o, S[k]? = some o ∧ o.pure = true ∧ o.live = true
  | [], vs, n, ds', ks, pre, hp, e, h => by
    cases e
    unfold DatL at h
    subst h
    exact ⟨DatL.nil, fun k hk => by simp at hk⟩
  | d :: ds, vs, n, ds', ks, pre, hp, e, h => by
    obtain ⟨v, r, rfl, h1, h2⟩ := h.uncons
    have plain : ∀ d' : D, d'.pure = true → Dat K mg φ (gnd Z φ S H) d' v → (subArgs S ds n).map (fun q => (d' :: q.1, q.2)) = some (ds', ks) →
        DatL K mg (pre ++ phiOf φ ks) (gnd Z φ S H) ds' (v :: r) ∧ ∀ k ∈ ks, ∃ o, S[k]? = some o ∧ o.pure = true ∧ o.live = true := fun d' p hd q => by
      cases hq : subArgs S ds n with
      | none => rw [hq] at q; cases q
      | some t =>
        rw [hq] at q
        cases q
        obtain ⟨a, b⟩ := subArgs_ok R ds r n t.1 t.2 pre hp hq h2
        exact ⟨.cons (Dat.pure p hd) a, b⟩
    cases d with
    | oid k =>
      unfold subArgs at e
      unfold Dat at h1
      obtain ⟨a, rfl, ha⟩ := h1
      cases hS : S[k]? with
      | none => simp [hS] at e
      | some o =>
        have ok := R.ob k a o ha hS
        have live : o.live = true → (if o.pure then (subArgs S ds (n + 1)).map (fun q => (D.oid n :: q.1, k :: q.2)) else none) = some (ds', ks) →
            DatL K mg (pre ++ phiOf φ ks) (gnd Z φ S H) ds' (.ref a :: r) ∧ ∀ k ∈ ks, ∃ o, S[k]? = some o ∧ o.pure = true ∧ o.live = true := fun hl q => by
          by_cases hp' : o.pure = true
          · rw [if_pos hp'] at q
            cases hq : subArgs S ds (n + 1) with
            | none => rw [hq] at q; cases q
            | some t =>
              rw [hq] at q
              cases q
              obtain ⟨A, B⟩ := subArgs_ok R ds r (n + 1) t.1 t.2 (pre ++ [a]) (by simp [hp]) hq h2
              have ea : φ.getD k 0 = a := by rw [List.getD_eq_getElem?_getD, ha]; rfl
              have ep : pre ++ phiOf φ (k :: t.2) = (pre ++ [a]) ++ phiOf φ t.2 := by
                unfold phiOf
                rw [List.map_cons, ea, List.append_assoc]
                rfl
              rw [ep]
              refine ⟨.cons ?_ A, fun j hj => ?_⟩
              · unfold Dat
                refine ⟨a, rfl, ?_⟩
                rw [List.append_assoc, List.getElem?_append_right (by omega), hp, Nat.sub_self]
                rfl
              · rcases List.mem_cons.mp hj with z | z
                · rw [z]
                  exact ⟨o, hS, hp', hl⟩
                · exact B j z
          · rw [if_neg hp'] at q
            cases q
        rw [hS] at e
        cases o with
        | frz d' =>
          simp only at e
          by_cases p : d'.pure = true
          · rw [if_pos p] at e
            exact plain d' p ok e
          · rw [if_neg p] at e
            cases e
        | _ => exact live rfl e
    | _ =>
      unfold subArgs at e
      split at e
      · rename_i p
        exact plain _ p h1 e
      · cases e

theorem rel_get (R : Rel K mg Z φ S H) {k : Nat} {o : SO} (h : S[k]? = some o) : ∃ a, φ[k]? = some a ∧ φ.getD k 0 = a := by
  have hl := (List.getElem?_eq_some_iff.mp h).1
  refine ⟨φ[k]'(by rw [R.len]; exact hl), List.getElem?_eq_getElem _, ?_⟩
  rw [List.getD_eq_getElem?_getD, List.getElem?_eq_getElem (by rw [R.len]; exact hl)]
  rfl
/-- the hidden ones of a call -/
def hidOf (Z φ : List Addr) (S : Store) (ks : List Nat) : List Addr := Z ++ (liveA φ S).filter fun a => decide (a ∉ phiOf φ ks)
theorem phiOf_get {ks : List Nat} {j k : Nat} (h : ks[j]? = some k) : (phiOf φ ks)[j]? = some (φ.getD k 0) := by
  unfold phiOf
  rw [List.getElem?_map, h]
  rfl
theorem subOf_get {ks : List Nat} {j k : Nat} {o : SO} (h : ks[j]? = some k) (hS : S[k]? = some o) : (subOf S ks)[j]? = some o := by
  unfold subOf
  rw [List.getElem?_map, h, Option.map_some, List.getD_eq_getElem?_getD, hS]
  rfl
theorem sub_mem (R : Rel K mg Z φ S H) {ks : List Nat} (nd : ks.Nodup) (hk : ∀ k ∈ ks, ∃ o, S[k]? = some o ∧ o.pure = true ∧ o.live = true) (a : Addr) : a ∈ hidOf Z φ S ks ++ liveA (phiOf φ ks) (subOf S ks) ↔ a ∈ Z ++ liveA φ S := by
  have live_of : ∀ b, b ∈ phiOf φ ks → b ∈ liveA φ S ∧ b ∈ liveA (phiOf φ ks) (subOf S ks) := fun b hb => by
    obtain ⟨j, hj⟩ := List.getElem?_of_mem hb
    unfold phiOf at hj
    rw [List.getElem?_map] at hj
    cases hq : ks[j]? with
    | none => rw [hq] at hj; cases hj
    | some k =>
      rw [hq] at hj
      cases hj
      obtain ⟨o, h1, h2, h3⟩ := hk k (List.mem_of_getElem? hq)
      obtain ⟨a, q1, q2⟩ := rel_get R h1
      show φ.getD k 0 ∈ liveA φ S ∧ φ.getD k 0 ∈ liveA (phiOf φ ks) (subOf S ks)
      rw [q2]
      refine ⟨mem_liveA q1 h1 h3, ?_⟩
      have := phiOf_get (φ := φ) hq
      rw [q2] at this
      exact mem_liveA this (subOf_get hq h1) h3
  unfold hidOf
  constructor
  · intro h
    rcases List.mem_append.mp h with z | z
    · rcases List.mem_append.mp z with z | z
      · exact List.mem_append_left _ z
      · exact List.mem_append_right _ (List.mem_filter.mp z).1
    · exact List.mem_append_right _ (live_of a (liveA_sub z)).1
  · intro h
    rcases List.mem_append.mp h with z | z
    · exact List.mem_append_left _ (List.mem_append_left _ z)
    · by_cases q : a ∈ phiOf φ ks
      · exact List.mem_append_right _ (live_of a q).2
      · exact List.mem_append_left _ (List.mem_append_right _ (List.mem_filter.mpr ⟨z, decide_eq_true q⟩))
theorem without_congr {l l' : List Addr} (h : ∀ a, a ∈ l ↔ a ∈ l') : without l H = without l' H := by
  funext a
  unfold without
  by_cases q : a ∈ l
  · rw [if_pos q, if_pos ((h a).mp q)]
  · rw [if_neg q, if_neg fun z => q ((h a).mpr z)]
theorem nodup_map_of {α β : Type} {f : α → β} : ∀ {l : List α}, l.Nodup → (∀ x ∈ l, ∀ y ∈ l, f x = f y → x = y) → (l.map f).Nodup
  | [], _, _ => List.nodup_nil
  | a :: l, nd, h => by
    rw [List.nodup_cons] at nd
    rw [List.map_cons, List.nodup_cons]
    refine ⟨fun q => ?_, nodup_map_of nd.2 fun x hx y hy => h x (List.mem_cons_of_mem _ hx) y (List.mem_cons_of_mem _ hy)⟩
    obtain ⟨b, hb, e⟩ := List.mem_map.mp q
    have := h b (List.mem_cons_of_mem _ hb) a List.mem_cons_self e
    rw [this] at hb
    exact nd.1 hb
theorem sub_rel (R : Rel K mg Z φ S H) {ks : List Nat} (nd : ks.Nodup) (hk : ∀ k ∈ ks, ∃ o, S[k]? = some o ∧ o.pure = true ∧ o.live = true) :
    Rel K mg (hidOf Z φ S ks) (phiOf φ ks) (subOf S ks) H ∧ gnd (hidOf Z φ S ks) (phiOf φ ks) (subOf S ks) H = gnd Z φ S H := by
  have eg : gnd (hidOf Z φ S ks) (phiOf φ ks) (subOf S ks) H = gnd Z φ S H := without_congr (sub_mem R nd hk)
  have at_ : ∀ k ∈ ks, ∃ a, φ[k]? = some a ∧ φ.getD k 0 = a := fun k h => by
    obtain ⟨o, h1, _⟩ := hk k h
    exact rel_get R h1
  refine ⟨⟨by unfold phiOf subOf; rw [List.length_map, List.length_map], ?_, fun a ha => ?_, fun a ha => ?_, fun a ha => ?_, fun n a o h1 h2 => ?_⟩, eg⟩
  · unfold phiOf
    refine nodup_map_of nd fun x hx y hy e => ?_
    obtain ⟨a, q1, q2⟩ := at_ x hx
    obtain ⟨b, q3, q4⟩ := at_ y hy
    rw [q2, q4] at e
    rw [e] at q1
    exact nd_ix R.nd q1 q3
  · unfold hidOf
    intro q
    rcases List.mem_append.mp q with z | z
    · unfold phiOf at ha
      obtain ⟨k, h1, h2⟩ := List.mem_map.mp ha
      obtain ⟨b, q1, q2⟩ := at_ k h1
      rw [q2] at h2
      rw [h2] at q1
      exact R.zd a (List.mem_of_getElem? q1) z
    · exact (of_decide_eq_true (List.mem_filter.mp z).2) ha
  · unfold hidOf at ha
    rcases List.mem_append.mp ha with z | z
    · exact R.zh a z
    · exact R.ph a (liveA_sub (List.mem_filter.mp z).1)
  · unfold phiOf at ha
    obtain ⟨k, h1, h2⟩ := List.mem_map.mp ha
    obtain ⟨b, q1, q2⟩ := at_ k h1
    rw [q2] at h2
    rw [h2] at q1
    exact R.ph a (List.mem_of_getElem? q1)
  · rw [eg]
    unfold phiOf at h1
    unfold subOf at h2
    rw [List.getElem?_map] at h1 h2
    cases hq : ks[n]? with
    | none => rw [hq] at h1; cases h1
    | some k =>
      rw [hq] at h1 h2
      cases h1
      cases h2
      obtain ⟨u, e1, e2, e3⟩ := hk k (List.mem_of_getElem? hq)
      obtain ⟨b, q1, q2⟩ := rel_get R e1
      show SOk K mg (phiOf φ ks) (gnd Z φ S H) H (φ.getD k 0) (S.getD k (.frz .non))
      rw [q2, List.getD_eq_getElem?_getD, e1]
      exact (R.ob k b u q1 e1).pure e2
/-- behind the call -/
theorem sub_back (R : Rel K mg Z φ S H) {ks : List Nat} (nd : ks.Nodup) (hk : ∀ k ∈ ks, ∃ o, S[k]? = some o ∧ o.pure = true ∧ o.live = true) {φ' : List Addr} {Sc : Store} {H' : Hp}
    (R' : Rel K mg (hidOf Z φ S ks) φ' Sc H') (E : Evo (hidOf Z φ S ks) (phiOf φ ks) (subOf S ks) H φ' Sc H') (pu : (Sc.take ks.length).all SO.pure = true) (hl : ks.length ≤ Sc.length) :
    Rel K mg Z φ (putBack S ks Sc) H' ∧ Evo Z φ S H φ (putBack S ks Sc) H' ∧ Same (gnd (hidOf Z φ S ks) φ' Sc H') (gnd Z φ (putBack S ks Sc) H') := by
  obtain ⟨Rc, eg⟩ := sub_rel R nd hk
  have lenP : (phiOf φ ks).length = ks.length := by unfold phiOf; rw [List.length_map]
  have phi' : ∀ j k, ks[j]? = some k → φ'[j]? = some (φ.getD k 0) := fun j k h => pre_get E.pre (phiOf_get h)
  -- what lives in the caller's store behind the call
  have liveB : ∀ a, a ∈ liveA φ (putBack S ks Sc) → a ∈ hidOf Z φ S ks ++ liveA φ' Sc := fun a ha => by
    obtain ⟨n, o, h1, h2, h3⟩ := liveA_mem ha
    by_cases q : n ∈ ks
    · obtain ⟨j, hj⟩ := List.getElem?_of_mem q
      have hjl := (List.getElem?_eq_some_iff.mp hj).1
      have hSc : Sc[j]? = some Sc[j] := List.getElem?_eq_getElem (by omega)
      have hn : n < S.length := by
        have := (List.getElem?_eq_some_iff.mp h2).1
        rw [putBack_length] at this
        exact this
      rw [putBack_in ks S Sc j n _ nd hj hn hSc] at h2
      cases h2
      have := phi' j n hj
      rw [List.getD_eq_getElem?_getD, h1] at this
      exact List.mem_append_right _ (mem_liveA this hSc h3)
    · rw [putBack_out ks S Sc n q] at h2
      refine List.mem_append_left _ ?_
      unfold hidOf
      refine List.mem_append_right _ (List.mem_filter.mpr ⟨mem_liveA h1 h2 h3, decide_eq_true fun z => q ?_⟩)
      unfold phiOf at z
      obtain ⟨k, e1, e2⟩ := List.mem_map.mp z
      obtain ⟨u, e3, _⟩ := hk k e1
      obtain ⟨b, q1, q2⟩ := rel_get R e3
      rw [q2] at e2
      rw [e2] at q1
      have := nd_ix R.nd q1 h1
      rw [← this]
      exact e1
  have sub : Same (gnd (hidOf Z φ S ks) φ' Sc H') (gnd Z φ (putBack S ks Sc) H') := fun a o h => by
    obtain ⟨h1, h2⟩ := without_some.mp h
    refine without_some.mpr ⟨fun q => h1 ?_, h2⟩
    rcases List.mem_append.mp q with z | z
    · exact List.mem_append_left _ (List.mem_append_left _ z)
    · exact liveB a z
  have ext : Same (gnd Z φ S H) (gnd Z φ (putBack S ks Sc) H') := by
    rw [← eg]
    exact E.ext.trans sub
  have out : ∀ a o, H a = some o → a ∉ liveA φ S → H' a = some o := fun a o h n => E.out a o h fun q => n (by
    have := (sub_mem R nd hk a).mp (List.mem_append_right _ q)
    rcases List.mem_append.mp this with z | z
    · exact (Rc.zd a (liveA_sub q) (by unfold hidOf; exact List.mem_append_left _ z)).elim
    · exact z)
  have nn : ∀ a, H a ≠ none → H' a ≠ none := fun a h => by
    by_cases q : a ∈ liveA (phiOf φ ks) (subOf S ks)
    · have := liveA_sub q
      obtain ⟨t, ht⟩ := E.pre
      exact R'.ph a (by rw [← ht]; exact List.mem_append_left _ this)
    · obtain ⟨o, ho⟩ := Option.ne_none_iff_exists'.mp h
      rw [E.out a o ho q]
      exact fun z => nomatch z
  refine ⟨⟨by rw [putBack_length, R.len], R.nd, R.zd, fun a h => nn a (R.zh a h), fun a h => nn a (R.ph a h), fun n a o h1 h2 => ?_⟩,
    ⟨List.prefix_refl _, ext, out, fun a ha hn => ?_⟩, sub⟩
  · by_cases q : n ∈ ks
    · obtain ⟨j, hj⟩ := List.getElem?_of_mem q
      have hjl := (List.getElem?_eq_some_iff.mp hj).1
      have hSc : Sc[j]? = some Sc[j] := List.getElem?_eq_getElem (by omega)
      have hn : n < S.length := by
        have := (List.getElem?_eq_some_iff.mp h2).1
        rw [putBack_length] at this
        exact this
      rw [putBack_in ks S Sc j n _ nd hj hn hSc] at h2
      cases h2
      have hp := phi' j n hj
      rw [List.getD_eq_getElem?_getD, h1] at hp
      have pj : Sc[j].pure = true := List.all_eq_true.mp pu _ (by
        rw [List.mem_iff_getElem?]
        exact ⟨j, by rw [List.getElem?_take_of_lt hjl]; exact hSc⟩)
      exact ((R'.ob j a _ hp hSc).pure (φ' := φ) pj).mono (List.prefix_refl _) sub fun _ z => z
    · rw [putBack_out ks S Sc n q] at h2
      have ok := R.ob n a o h1 h2
      cases hlv : o.live with
      | false =>
        cases o with
        | frz d => exact Dat.mono (List.prefix_refl _) ext _ _ ok
        | _ => cases hlv
      | true =>
        refine ok.mono (List.prefix_refl _) ext fun ob hb => E.out a ob hb fun z => ?_
        have z' := liveA_sub z
        unfold phiOf at z'
        obtain ⟨k, e1, e2⟩ := List.mem_map.mp z'
        obtain ⟨u, e3, _⟩ := hk k e1
        obtain ⟨b, q1, q2⟩ := rel_get R e3
        rw [q2] at e2
        rw [e2] at q1
        have := nd_ix R.nd q1 h1
        rw [← this] at q
        exact q e1
  · rcases List.mem_append.mp (liveB a ha) with z | z
    · unfold hidOf at z
      rcases List.mem_append.mp z with z | z
      · exact absurd z (R.zd a (liveA_sub ha))
      · exact (List.mem_filter.mp z).1
    · have := E.lv a z hn
      have := (sub_mem R nd hk a).mp (List.mem_append_right _ this)
      rcases List.mem_append.mp this with z | z
      · exact absurd z (R.zd a (liveA_sub ha))
      · exact z
end

/-- how a call may be reckoned -/
def CallOk (K : PySem.W.Frag) (mg : Str → Option Value) (n : Nat) (sem cs : Sem') : Prop := ∀ Z φ S H ds vs (Q : VK) (E : XK), vs.length = n → Rel K mg Z φ S H → DatL K mg φ (gnd Z φ S H) ds vs → Want K mg (RDat K mg) Z φ S H (cs ds S) Q E → spD K mg n sem vs H Q E
theorem callOk_share {K : PySem.W.Frag} {mg : Str → Option Value} {n : Nat} {sem : Sem'} : CallOk K mg n sem sem := fun Z φ S H ds vs Q E hl R d w => ⟨hl, Z, φ, S, ds, R, d, w⟩
theorem callOk_sub {K : PySem.W.Frag} {mg : Str → Option Value} {n : Nat} {sem : Sem'} : CallOk K mg n sem (callSub sem) := fun Z φ S H ds vs Q E hl R d w => by
  unfold callSub at w
  cases hs : subArgs S ds 0 with
  | none => rw [hs] at w; exact w.elim
  | some t =>
    obtain ⟨ds', ks⟩ := t
    rw [hs] at w
    simp only at w
    by_cases nd : ks.Nodup
    · rw [if_pos nd] at w
      obtain ⟨d', hk⟩ := subArgs_ok R ds vs 0 ds' ks [] rfl hs d
      rw [List.nil_append] at d'
      obtain ⟨Rc, eg⟩ := sub_rel R nd hk
      refine ⟨hl, hidOf Z φ S ks, phiOf φ ks, subOf S ks, ds', Rc, by rw [eg]; exact d', ?_⟩
      cases hr : sem ds' (subOf S ks) with
      | ok r Sc =>
        rw [hr] at w
        simp only at w
        by_cases c : (r.pure && ((Sc.take ks.length).all SO.pure && decide (ks.length ≤ Sc.length))) = true
        · rw [if_pos c] at w
          simp only [Bool.and_eq_true, decide_eq_true_eq] at c
          intro v φ' H' R' E' dv
          obtain ⟨a, b, s⟩ := sub_back R nd hk R' E' c.2.1 c.2.2
          exact w v φ H' a b (Dat.mono (List.prefix_refl _) s _ _ (Dat.pure c.1 dv))
        · rw [if_neg c] at w
          exact w.elim
      | ex C fs Sc =>
        rw [hr] at w
        simp only at w
        by_cases c : (pureF fs && ((Sc.take ks.length).all SO.pure && decide (ks.length ≤ Sc.length))) = true
        · rw [if_pos c] at w
          simp only [Bool.and_eq_true, decide_eq_true_eq] at c
          intro A dx φ' H' m R' E' x
          obtain ⟨a, b, s⟩ := sub_back R nd hk R' E' c.2.1 c.2.2
          refine w A dx φ H' m a b ?_
          rcases x with x | ⟨x0, e, fvs, x1, x2, x3⟩
          · exact .inl x
          · exact .inr ⟨x0, e, fvs, x1, s _ _ x2, DatF.mono (List.prefix_refl _) s _ _ (DatF.pure c.1 x3)⟩
        · rw [if_neg c] at w
          exact w.elim
      | stuck =>
        rw [hr] at w
        exact w.elim
    · rw [if_neg nd] at w
      exact w.elim
end DL

/-! The data layer, part 7: bindings, calls of defs, methods, classes, attributes, raise, the law's end. -/
namespace DL
open PySem L2

/-! ### how arguments come to parameters -/
def src {α : Type} (a : Nat) (us ws ms : List α) : List α := match a with
  | 0 => us
  | 1 => ws
  | _ => ms
def pick {α : Type} (sel : List (Nat × Nat)) (us ws ms : List α) : List α := sel.filterMap fun s => (src s.1 us ws ms)[s.2]?
theorem pick_vals {vs zs ms : List V} {us ws mv : List Value} (h1 : Vals vs us) (h2 : Vals zs ws) (h3 : Vals ms mv) : ∀ {sel : List (Nat × Nat)}, Vals (pick sel vs zs ms) (pick sel us ws mv)
  | [] => .nil
  | (a, i) :: sel => by
    have r := pick_vals h1 h2 h3 (sel := sel)
    have q : Vals (src a vs zs ms) (src a us ws mv) := by
      unfold src
      split
      · exact h1
      · exact h2
      · exact h3
    unfold pick
    rw [List.filterMap_cons, List.filterMap_cons]
    cases hx : (src a vs zs ms)[i]? with
    | none =>
      rw [q.none_of hx]
      exact r
    | some v =>
      obtain ⟨u, e1, e2⟩ := q.get hx
      rw [e1]
      exact .cons e2 r
theorem pick_dat {K : PySem.W.Frag} {mg : Str → Option Value} {φ : List Addr} {G : Hp} {ds es ms : List D} {vs zs mv : List V} (h1 : DatL K mg φ G ds vs) (h2 : DatL K mg φ G es zs) (h3 : DatL K mg φ G ms mv) : ∀ {sel : List (Nat × Nat)}, DatL K mg φ G (pick sel ds es ms) (pick sel vs zs mv)
  | [] => DatL.nil
  | (a, i) :: sel => by
    have r := pick_dat h1 h2 h3 (sel := sel)
    have q : DatL K mg φ G (src a ds es ms) (src a vs zs mv) := by
      unfold src
      split
      · exact h1
      · exact h2
      · exact h3
    unfold pick
    rw [List.filterMap_cons, List.filterMap_cons]
    cases hx : (src a ds es ms)[i]? with
    | none =>
      have e : (src a vs zs mv)[i]? = none := by
        rw [List.getElem?_eq_none_iff] at hx ⊢
        rw [q.length]
        exact hx
      rw [e]
      exact r
    | some v =>
      obtain ⟨u, e1, e2⟩ := q.get hx
      rw [e1]
      exact .cons e2 r
structure KB (K : PySem.W.Frag) (fd : FuncData) (ps : List Str) (n : Nat) (ks : List Str) (gD : List D → List D → List D) : Prop where
  ex : ∃ (g : List Value → List Value → List Value) (gV : List V → List V → List V), KBn K fd ps n ks g gV ∧
    ∀ (K' : PySem.W.Frag), K' = K → ∀ (mg : Str → Option Value) (φ : List Addr) (G : Hp) (ds es : List D) (vs zs : List V), DatL K' mg φ G ds vs → DatL K' mg φ G es zs → DatL K' mg φ G (gD ds es) (gV vs zs)
section
variable {K : PySem.W.Frag} {x qual : Str} {params : Arguments} {body : List Stmt} {scope : Scope} {kws : List (Str × V)} {f : Addr} {fd : FuncData} {ps : List Str}
/-- no defaults are taken -/
theorem kb_all {dvs : List V} (F : FunD K x qual params body scope dvs kws f fd) (hd : dvs = []) (n : Nat) (ks : List Str) (sel : List (Nat × Nat))
    (h : ∀ (kV doc pm : Value) (an : Option Addr) (cdv ct : Value) (us ws : List Value), us.length = n → ws.length = ks.length → bindArgs (PySem.W.fnOf x qual params body scope .none kV doc pm an cdv ct) ⟨us, ks.zip ws⟩ = pure (ps.zip (pick sel us ws []))) :
    KB K fd ps n ks (fun ds es => pick sel ds es []) := by
  obtain ⟨oc, od, dV, kV, doc, pm, an, cdv, ct, osl, rfl, lk, hcd, hD, hK⟩ := F.ex
  rcases hD with ⟨_, rfl⟩ | ⟨e, _⟩
  · exact ⟨fun us ws => pick sel us ws [], fun vs zs => pick sel vs zs [], ⟨fun s us ws X l1 l2 => .of_eq (h kV doc pm an cdv ct us ws l1 l2), fun r1 r2 => pick_vals r1 r2 .nil⟩, fun K' _ mg φ G ds es vs zs h1 h2 => pick_dat h1 h2 DatL.nil⟩
  · exact absurd hd e
end

/-! ### calls -/
section
variable {X : Cx} {W : WX} {k k' n np : Nat} {f C : Addr} {fd : FuncData} {ps ks : List Str} {sp : Sp} {sem cs : Sem'} {x m : Str} {p pos apos : Pos} {e o : Expr} {es : List Expr} {kws : List Keyword} {fa fk : FA} {fo : FE} {gD : List D → List D → List D}
theorem run_fnG {pins : List (Addr × Obj)} {σ : L2.St} {H : Hp} {s : Shared} {Q : VK} {us ws : List Value} {bs : List Value} {vs : List V} (F : FnG X.prog X.w X.K X.mg X.base k f fd ps sp) (C : Cn X W k') (hk : k ≤ k') (I : L2.Inv X pins σ H s)
    (hb : BindsTo s fd ⟨us, ks.zip ws⟩ (ps.zip bs)) (r : Vals vs bs) (h : sp vs H Q (WE W σ)) : wpAny (model X.prog X.w) X.A (call (.ref f) us (ks.zip ws)) (EP X pins σ Q) X.xe s := by
  refine wpAny_call (codeAny_mono (F.run X.A X.stack s H _ bs vs Q (WE W σ) (C.room.mono hk) C.gd I.env0 hb r h) fun res s' hq => ?_)
  cases res with
  | error e => exact L2N.passAt C.tk σ pins H s e s' I hq
  | ok fl => cases fl with
    | ret u => exact I.after hq
    | _ => exact hq.elim
def fCall (cs : Sem') (gD : List D → List D → List D) (np nk n : Nat) (fa fk : FA) : FE := fun ρ S => (fa ρ S).bind fun ds S => (fk ρ S).bind fun es S => if ds.length = np ∧ es.length = nk ∧ (gD ds es).length = n then cs (gD ds es) S else .stuck
theorem dkw_nil : DKw X W [] (fun _ S => .ok [] S) := .mk pk_nil (fun Z φ S ρ σ H Q R sl w => w.now R DatL.nil)
theorem dkw_cons {nm : Option Str} {kpos : Pos} {fe : FE} {fr : FA} (ha : DE X W e fe) (hr : DKw X W kws fr) : DKw X W (⟨nm, e, kpos⟩ :: kws) (fCons fe fr) := by
  obtain ⟨t, p, q⟩ := ha.ex
  obtain ⟨u, p', q'⟩ := hr.ex
  refine .mk (pk_cons p p') (fun Z φ S ρ σ H Q R sl w => q Z φ S ρ σ H _ R sl (w.bind fun x S1 v φ1 H1 R1 E1 d w1 => ?_))
  exact q' Z φ1 S1 ρ σ H1 _ R1 (sl.evo E1) (w1.bind fun xs S2 vs φ2 H2 R2 E2 d2 w2 => w2.now R2 (.cons (Dat.evo E2 d) d2))
/-- arguments, then keywords, then what follows -/
theorem args_run {ta tk : TA} (qa : IsA X W ta fa) (qk : IsA X W tk fk) {cont : List D → List D → Store → Res D} {Z φ : List Addr} {S : Store} {ρ : EnvD} {σ : L2.St} {H : Hp} {Q : VK} {P : List V → List V → Hp → Prop}
    (R : Rel X.K X.mg Z φ S H) (sl : Slots X.K X.mg φ (gnd Z φ S H) ρ σ) (w : Want X.K X.mg (RDat X.K X.mg) Z φ S H ((fa ρ S).bind fun ds S => (fk ρ S).bind fun es S => cont ds es S) Q (WE W σ))
    (h : ∀ ds es S2 vs zs φ2 H2, Rel X.K X.mg Z φ2 S2 H2 → Evo Z φ S H φ2 S2 H2 → DatL X.K X.mg φ2 (gnd Z φ2 S2 H2) ds vs → DatL X.K X.mg φ2 (gnd Z φ2 S2 H2) es zs → Want X.K X.mg (RDat X.K X.mg) Z φ2 S2 H2 (cont ds es S2) Q (WE W σ) → P vs zs H2) :
    ta σ H fun vs H1 => tk σ H1 fun zs H2 => P vs zs H2 :=
  qa Z φ S ρ σ H _ R sl (w.bind fun ds S1 vs φ1 H1 R1 E1 d1 w1 => qk Z φ1 S1 ρ σ H1 _ R1 (sl.evo E1) (w1.bind fun es S2 zs φ2 H2 R2 E2 d2 w2 => h ds es S2 vs zs φ2 H2 R2 (E1.trans E2) (DatL.evo E2 d1) d2 w2))
theorem want_if {P : Prop} [Decidable P] {α β : Type} {Rr : List Addr → Hp → α → β → Prop} {Z φ : List Addr} {S : Store} {H : Hp} {r : Res α} {Q : β → Hp → Prop} {E : XK} (w : Want X.K X.mg Rr Z φ S H (if P then r else .stuck) Q E) : P ∧ Want X.K X.mg Rr Z φ S H r Q E := by
  by_cases h : P
  · rw [if_pos h] at w
    exact ⟨h, w⟩
  · rw [if_neg h] at w
    exact w.elim
/-- the callee's wish, from the caller's -/
theorem args_sp {gV : List V → List V → List V} (hcs : CallOk X.K X.mg n sem cs) (hN : ∀ (K' : PySem.W.Frag), K' = X.K → ∀ (mg : Str → Option Value) (φ : List Addr) (G : Hp) (ds es : List D) (vs zs : List V), DatL K' mg φ G ds vs → DatL K' mg φ G es zs → DatL K' mg φ G (gD ds es) (gV vs zs))
    {nk : Nat} {Z φ : List Addr} {S : Store} {H : Hp} {ds es : List D} {vs zs : List V} {Q : VK} {E : XK} (R : Rel X.K X.mg Z φ S H) (d1 : DatL X.K X.mg φ (gnd Z φ S H) ds vs) (d2 : DatL X.K X.mg φ (gnd Z φ S H) es zs)
    (w : Want X.K X.mg (RDat X.K X.mg) Z φ S H (if ds.length = np ∧ es.length = nk ∧ (gD ds es).length = n then cs (gD ds es) S else .stuck) Q E) : vs.length = np ∧ zs.length = nk ∧ spD X.K X.mg n sem (gV vs zs) H Q E := by
  obtain ⟨⟨l1, l2, l3⟩, w3⟩ := want_if w
  have d3 := hN _ rfl _ _ _ _ _ _ _ d1 d2
  exact ⟨by rw [d1.length, l1], by rw [d2.length, l2], hcs Z φ S H _ _ Q E (by rw [d3.length, l3]) R d3 w3⟩
theorem de_call (F : FnG X.prog X.w X.K X.mg X.base k f fd ps (spD X.K X.mg ps.length sem)) (hcs : CallOk X.K X.mg ps.length sem cs) (C : Cn X W k') (hg : Gl X x) (hm : X.mg x = some (.ref f)) (hk : PySem.W.keepIn X.K (.ref f) = true) (hb : KB X.K fd ps np ks gD)
    (ha : DA X W (e :: es) fa) (hkw : DKw X W kws fk) (hle : k ≤ k' := by decide) (hall : (backToKw pos (keywordEach kws X.env)).all (·.1.isSome) = true := by rfl) (hks : (backToKw pos (keywordEach kws X.env)).filterMap (·.1) = ks := by rfl)
    (hdb : (x == ("__debug__" : Str)) = false := by decide) (he : starEach (e :: es) X.env = (false, eval e X.env) :: starEach es X.env := by rfl)
    (hpl : ((backTo pos (starEach (e :: es) X.env)).any (·.1) || (backToKw pos (keywordEach kws X.env)).any (·.1.isNone)) = false := by rfl) :
    DE X W (.Call (.Name x p) (e :: es) kws pos) (fCall cs gD np ks.length ps.length fa fk) := by
  obtain ⟨ta, pa, qa⟩ := ha.ex
  obtain ⟨tk, pk, qk⟩ := hkw.ex
  obtain ⟨g, gV, hB, hN⟩ := hb.ex
  refine .mk (t := fun σ H Q => ta σ H fun vs H1 => tk σ H1 fun zs H2 => vs.length = np ∧ zs.length = ks.length ∧ spD X.K X.mg ps.length sem (gV vs zs) H2 Q (WE W σ)) ⟨fun pins s σ H Q I h => ?_⟩
    (fun Z φ S ρ σ H Q R sl w => args_run qa qk R sl w fun ds es' S2 vs zs φ2 H2 R2 E2 d1 d2 w2 => args_sp hcs hN R2 d1 d2 w2)
  refine wpAny_Call_Name_kw (ld_glob I hg hm ?_ hdb)
  refine PySem.W.callWith_KW (h₀ := X.base) I.ok.mod.kin hk hall (thn (pa.run pos pins s σ H _ I h) fun us s1 ⟨vs, H1, I1, r, q⟩ => ?_) hpl he
  refine thn (pk.run pos pins s1 σ H1 _ I1 q) fun ws s2 ⟨zs, H2, I2, rz, l1, l2, q2⟩ => ⟨I2.kIn, ?_⟩
  rw [hks]
  exact run_fnG F C hle I2 (hB.to s2 us ws I2.kIn (r.length.symm.trans l1) (rz.length.symm.trans l2)) (hB.rel r rz) q2
/-- without positional arguments -/
theorem de_call0 (F : FnG X.prog X.w X.K X.mg X.base k f fd ps (spD X.K X.mg ps.length sem)) (hcs : CallOk X.K X.mg ps.length sem cs) (C : Cn X W k') (hg : Gl X x) (hm : X.mg x = some (.ref f)) (hk : PySem.W.keepIn X.K (.ref f) = true) (hb : KB X.K fd ps 0 ks gD)
    (hkw : DKw X W kws fk) (hle : k ≤ k' := by decide) (hall : (backToKw pos (keywordEach kws X.env)).all (·.1.isSome) = true := by rfl) (hks : (backToKw pos (keywordEach kws X.env)).filterMap (·.1) = ks := by rfl)
    (hdb : (x == ("__debug__" : Str)) = false := by decide) (hpl : ((backTo pos (starEach [] X.env)).any (·.1) || (backToKw pos (keywordEach kws X.env)).any (·.1.isNone)) = false := by rfl) :
    DE X W (.Call (.Name x p) [] kws pos) (fCall cs gD 0 ks.length ps.length (fun _ S => .ok [] S) fk) := by
  obtain ⟨tk, pk, qk⟩ := hkw.ex
  obtain ⟨g, gV, hB, hN⟩ := hb.ex
  obtain ⟨ta, pa, qa⟩ := (da_nil (X := X) (W := W)).ex
  refine .mk (t := fun σ H Q => tk σ H fun zs H2 => zs.length = ks.length ∧ spD X.K X.mg ps.length sem (gV [] zs) H2 Q (WE W σ)) ⟨fun pins s σ H Q I h => ?_⟩
    (fun Z φ S ρ σ H Q R sl w => qk Z φ S ρ σ H _ R sl (Want.bind (k := fun es S => if ([] : List D).length = 0 ∧ es.length = ks.length ∧ (gD [] es).length = ps.length then cs (gD [] es) S else .stuck) w fun es S2 zs φ2 H2 R2 E2 d2 w2 => (args_sp hcs hN R2 DatL.nil d2 w2).2))
  refine wpAny_Call_Name_kw (ld_glob I hg hm ?_ hdb)
  refine PySem.W.callWith_KW0 (h₀ := X.base) I.ok.mod.kin hk hall ?_ hpl
  refine thn (pk.run pos pins s σ H _ I h) fun ws s2 ⟨zs, H2, I2, rz, l2, q2⟩ => ⟨I2.kIn, ?_⟩
  rw [hks]
  exact run_fnG (us := []) F C hle I2 (hB.to s2 [] ws I2.kIn rfl (rz.length.symm.trans l2)) (hB.rel .nil rz) q2

/-! instances -/
def asI (S : Store) : D → Option (Str × List (Str × D))
  | .ins C fs => some (C, fs)
  | .oid n => match S[n]? with
    | some (.ins C fs) => some (C, fs)
    | some (.frz (.ins C fs)) => some (C, fs)
    | _ => none
  | _ => none
theorem asI_ok {K : PySem.W.Frag} {mg : Str → Option Value} {Z φ : List Addr} {S : Store} {H : Hp} (R : Rel K mg Z φ S H) {d : D} {v : V} {c : Str} {fs : List (Str × D)} (h : Dat K mg φ (gnd Z φ S H) d v) (e : asI S d = some (c, fs)) :
    ∃ a A dx fvs, v = .ref a ∧ mg c = some (.ref A) ∧ H a = some (.ins A dx fvs) ∧ DatF K mg φ (gnd Z φ S H) fs fvs := by
  cases d with
  | ins C gs =>
    cases e
    unfold Dat at h
    obtain ⟨a, A, dx, fvs, rfl, h0, h1, h2⟩ := h
    exact ⟨a, A, dx, fvs, rfl, h0, gnd_sub _ _ h1, h2⟩
  | oid n =>
    unfold Dat at h
    obtain ⟨a, rfl, h1⟩ := h
    cases q : S[n]? with
    | none => simp [asI, q] at e
    | some o =>
      simp only [asI, q] at e
      have ok := R.ob n a o h1 q
      cases o with
      | ins C gs =>
        cases e
        obtain ⟨A, dx, fvs, q0, q1, q2⟩ := ok
        exact ⟨a, A, dx, fvs, rfl, q0, q1, q2⟩
      | frz d =>
        cases d with
        | ins C gs =>
          cases e
          have ok' : Dat K mg φ (gnd Z φ S H) (.ins _ _) (.ref a) := ok
          unfold Dat at ok'
          obtain ⟨b, A, dx, fvs, e1, q0, q1, q2⟩ := ok'
          cases e1
          exact ⟨a, A, dx, fvs, rfl, q0, gnd_sub _ _ q1, q2⟩
        | _ => cases e
      | _ => cases e
  | _ => cases e
theorem datF_lookup {K : PySem.W.Frag} {mg : Str → Option Value} {φ : List Addr} {G : Hp} {m : Str} : ∀ {fs : List (Str × D)} {fvs : List (Str × V)}, DatF K mg φ G fs fvs → (∀ d, fs.lookup m = some d → ∃ v, fvs.lookup m = some v ∧ Dat K mg φ G d v) ∧ (fs.lookup m = none → fvs.lookup m = none)
  | [], _, h => by
    unfold DatF at h
    subst h
    exact ⟨fun d q => (by cases q), fun _ => rfl⟩
  | (k, d) :: fs, _, h => by
    unfold DatF at h
    obtain ⟨v, r, rfl, h1, h2⟩ := h
    obtain ⟨a, b⟩ := datF_lookup (m := m) h2
    rw [List.lookup_cons, List.lookup_cons]
    cases (m == k) with
    | true => exact ⟨fun e q => by cases q; exact ⟨v, rfl, h1⟩, fun q => by cases q⟩
    | false => exact ⟨a, b⟩
/-- what the text has of a class -/
structure ClsI (X : Cx) (c : Str) (C : Addr) : Prop where
  mg : X.mg c = some (.ref C)
  cls : Cls X.K C
/-- o.m(e, .., k = v, ..) -/
def fMeth (cs : Sem') (gD : List D → List D → List D) (c m : Str) (np nk n : Nat) (fo : FE) (fa fk : FA) : FE := fun ρ S => (fo ρ S).bind fun o S => match asI S o with
  | some (c', fs) => if c' = c ∧ (fs.lookup m).isNone then (fa ρ S).bind fun ds S => (fk ρ S).bind fun es S => if (o :: ds).length = np ∧ es.length = nk ∧ (gD (o :: ds) es).length = n then cs (gD (o :: ds) es) S else .stuck else .stuck
  | none => .stuck
theorem meth_at {c : Str} {Z φ : List Addr} {S : Store} {H : Hp} {od : D} {ov : V} {α : Type} {r : Res α} {β : Type} {Rr : List Addr → Hp → α → β → Prop} {Q : β → Hp → Prop} {E : XK} (cl : ClsI X c C) (R : Rel X.K X.mg Z φ S H) (d : Dat X.K X.mg φ (gnd Z φ S H) od ov)
    (w : Want X.K X.mg Rr Z φ S H (match asI S od with | some (c', fs) => if c' = c ∧ (fs.lookup m).isNone then r else .stuck | none => .stuck) Q E) :
    ∃ a dx fvs, ov = .ref a ∧ H a = some (.ins C dx fvs) ∧ fvs.lookup m = none ∧ Want X.K X.mg Rr Z φ S H r Q E := by
  cases hi : asI S od with
  | none => rw [hi] at w; exact w.elim
  | some t =>
    obtain ⟨c', fs⟩ := t
    rw [hi] at w
    obtain ⟨⟨rfl, hl⟩, w1⟩ := want_if w
    obtain ⟨a, A, dx, fvs, rfl, q0, q1, q2⟩ := asI_ok R d hi
    rw [cl.mg] at q0
    cases q0
    exact ⟨a, dx, fvs, rfl, q1, (datF_lookup q2).2 (Option.isNone_iff_eq_none.mp hl), w1⟩
theorem de_meth0 {pl : Sem Bool} {c : Str} (ho : DE X W o fo) (cl : ClsI X c C) (hm : Meth X.K C m f) (F : FnG X.prog X.w X.K X.mg X.base k f fd ps (spD X.K X.mg ps.length sem)) (hcs : CallOk X.K X.mg ps.length sem cs) (Cc : Cn X W k') (hb : KB X.K fd ps 1 ks gD)
    (hkw : DKw X W kws fk) (hle : k ≤ k' := by decide) (hall : (backToKw pos (keywordEach kws X.env)).all (·.1.isSome) = true := by rfl) (hks : (backToKw pos (keywordEach kws X.env)).filterMap (·.1) = ks := by rfl)
    (hpl : ((backTo pos (starEach [] X.env)).any (·.1) || (backToKw pos (keywordEach kws X.env)).any (·.1.isNone)) = false := by rfl)
    (ht : eval (.Call (.Attribute o m apos) [] kws pos) X.env = (do
      let ov ← eval o X.env
      standAt apos.atName
      let (f, first) ← holding [ov] (getMethod ov m pl)
      callWith pos f first (backTo pos (starEach [] X.env)) (backToKw pos (keywordEach kws X.env))) := by rfl) :
    DE X W (.Call (.Attribute o m apos) [] kws pos) (fMeth cs gD c m 1 ks.length ps.length fo (fun _ S => .ok [] S) fk) := by
  obtain ⟨to, po, qo⟩ := ho.ex
  obtain ⟨tk, pk, qk⟩ := hkw.ex
  obtain ⟨g, gV, hB, hN⟩ := hb.ex
  refine .mk (t := fun σ H Q => to σ H fun ov H0 => ∃ a dx fvs, ov = .ref a ∧ H0 a = some (.ins C dx fvs) ∧ fvs.lookup m = none ∧ tk σ H0 fun zs H2 => zs.length = ks.length ∧ spD X.K X.mg ps.length sem (gV [.ref a] zs) H2 Q (WE W σ)) ⟨fun pins s σ H Q I h => ?_⟩
    (fun Z φ S ρ σ H Q R sl w => qo Z φ S ρ σ H _ R sl (w.bind fun od S1 ov φ1 H1 R1 E1 d w1 => ?_))
  · refine PySem.W.methodCall_KW (pl := pl) (thn (po.run pins s σ H _ I h) fun u s1 ⟨x, H1, I1, rx, a, dx, fvs, ex, ea, l, q⟩ => ?_) ht
    subst ex
    obtain rfl : u = Value.ref a := rx
    refine getmeth_ok I1 ea cl.cls hm l ?_
    refine PySem.W.callWith_KW0 (first := [.ref a]) (h₀ := X.base) I.ok.mod.kin hm.kp hall ?_ hpl
    refine thn (pk.run pos pins s1 σ H1 _ I1 q) fun ws s3 ⟨zs, H3, I3, rz, l2, q3⟩ => ⟨I3.kIn, ?_⟩
    have r1 : Vals [V.ref a] [Value.ref a] := .cons rfl .nil
    rw [hks]
    exact run_fnG (us := [.ref a]) F Cc hle I3 (hB.to s3 _ ws I3.kIn rfl (rz.length.symm.trans l2)) (hB.rel r1 rz) q3
  · obtain ⟨a, dx, fvs, rfl, h1, h2, w2⟩ := meth_at cl R1 d w1
    refine ⟨a, dx, fvs, rfl, h1, h2, qk Z φ1 S1 ρ σ H1 _ R1 (sl.evo E1) (Want.bind (k := fun es S => if [od].length = 1 ∧ es.length = ks.length ∧ (gD [od] es).length = ps.length then cs (gD [od] es) S else .stuck) w2 fun es S2 zs φ2 H2 R2 E2 d2 w3 => ?_)⟩
    exact (args_sp hcs hN R2 (.cons (Dat.evo E2 d) DatL.nil) d2 w3).2
/-- o.f -/
def fFld (cs : List Str) (f : Str) (fo : FE) : FE := fun ρ S => (fo ρ S).bind fun o S => match asI S o with
  | some (c, fs) => if c ∈ cs then (match fs.lookup f with
    | some d => .ok d S
    | none => .stuck) else .stuck
  | none => .stuck
theorem de_fld {fn : Str} {cs : List Str} (ho : DE X W o fo) (hc : ∀ c ∈ cs, ∃ C, ClsI X c C ∧ NoAttr X.K C fn) (hb : attributeBase o fn X.env (eval o X.env) = eval o X.env := by rfl) : DE X W (.Attribute o fn pos) (fFld cs fn fo) := by
  obtain ⟨to, po, qo⟩ := ho.ex
  refine .mk (pe_fld po hb) (fun Z φ S ρ σ H Q R sl w => qo Z φ S ρ σ H _ R sl (w.bind fun od S1 ov φ1 H1 R1 E1 d w1 => ?_))
  cases hi : asI S1 od with
  | none => rw [hi] at w1; exact w1.elim
  | some t =>
    obtain ⟨c, fs⟩ := t
    rw [hi] at w1
    obtain ⟨hm, w2⟩ := want_if w1
    obtain ⟨a, A, dx, fvs, rfl, q0, q1, q2⟩ := asI_ok R1 d hi
    obtain ⟨C, cl, na⟩ := hc c hm
    rw [cl.mg] at q0
    cases q0
    cases hl : fs.lookup fn with
    | none => rw [hl] at w2; exact w2.elim
    | some e =>
      rw [hl] at w2
      obtain ⟨v, h1, h2⟩ := (datF_lookup q2).1 e hl
      exact ⟨a, A, dx, fvs, v, rfl, q1, cl.cls, na, h1, w2.now R1 h2⟩
/-- o.f = e -/
def putFD (f : Str) (d : D) : List (Str × D) → List (Str × D)
  | [] => [(f, d)]
  | (g, e) :: r => if g = f then (g, d) :: r else (g, e) :: putFD f d r
theorem datF_length {K : PySem.W.Frag} {mg : Str → Option Value} {φ : List Addr} {G : Hp} : ∀ {fs : List (Str × D)} {fvs : List (Str × V)}, DatF K mg φ G fs fvs → fvs.length = fs.length
  | [], _, h => by
    unfold DatF at h
    subst h
    rfl
  | (k, d) :: fs, _, h => by
    unfold DatF at h
    obtain ⟨v, r, rfl, _, h2⟩ := h
    rw [List.length_cons, List.length_cons, datF_length h2]
theorem datF_put {K : PySem.W.Frag} {mg : Str → Option Value} {φ : List Addr} {G : Hp} {f : Str} {d : D} {v : V} (hd : Dat K mg φ G d v) : ∀ {fs : List (Str × D)} {fvs : List (Str × V)}, DatF K mg φ G fs fvs → DatF K mg φ G (putFD f d fs) (putF f v fvs)
  | [], _, h => by
    unfold DatF at h
    subst h
    show DatF K mg φ G [(f, d)] [(f, v)]
    unfold DatF
    exact ⟨v, [], rfl, hd, by unfold DatF; rfl⟩
  | (g, e) :: fs, _, h => by
    unfold DatF at h
    obtain ⟨u, r, rfl, h1, h2⟩ := h
    have eq : putF f v ((g, u) :: r) = if g = f then (g, v) :: r else (g, u) :: putF f v r := by rw [putF]
    rw [eq]
    unfold putFD
    by_cases hg : g = f
    · rw [if_pos hg, if_pos hg]
      unfold DatF
      exact ⟨v, r, rfl, hd, h2⟩
    · rw [if_neg hg, if_neg hg]
      unfold DatF
      exact ⟨u, _, rfl, h1, datF_put hd h2⟩
def gFld (cs : List Str) (f : Str) (fo fe : FE) : FS := fun ρ S => (fe ρ S).into ρ fun d S => (fo ρ S).into ρ fun o S => match o with
  | .oid n => (match S[n]? with
    | some (.ins c fs) => if c ∈ cs ∧ fs.length < 1000 then .nx ρ (S.set n (.ins c (putFD f d fs))) else .stuck
    | _ => .stuck)
  | _ => .stuck
theorem wantS_if {P : Prop} [Decidable P] {Z φ : List Addr} {S : Store} {H : Hp} {r : Out} {Dd : Ends} (w : WantS X W Z φ S H (if P then r else .stuck) Dd) : P ∧ WantS X W Z φ S H r Dd := by
  by_cases h : P
  · rw [if_pos h] at w
    exact ⟨h, w⟩
  · rw [if_neg h] at w
    exact w.elim
theorem ds_fld {fn : Str} {cs : List Str} {value : Expr} {fe : FE} {pos' : Pos} (ho : DE X W o fo) (hv : DE X W value fe) (hc : ∀ c ∈ cs, ∃ C, ClsI X c C ∧ NoAttr X.K C fn) (hs : swapsWith value (some (.Attribute o fn pos')) pos.line X.env = pure false := by rfl) :
    DS X W (.Assign [.Attribute o fn pos'] value pos) (gFld cs fn fo fe) := by
  obtain ⟨to, po, qo⟩ := ho.ex
  obtain ⟨tv, pv, qv⟩ := hv.ex
  refine .mk (ps_fld po pv hs) fun Z φ S ρ σ H Dd R sl w => qv Z φ S ρ σ H _ R sl (w.into sl fun d S1 v φ1 H1 R1 E1 dd w1 => qo Z φ1 S1 ρ σ H1 _ R1 (sl.evo E1) (w1.into (sl.evo E1) fun od S2 ov φ2 H2 R2 E2 d2 w2 => ?_))
  cases od with
  | oid n =>
    simp only at w2
    unfold RDat Dat at d2
    obtain ⟨a, rfl, ha⟩ := d2
    cases hS : S2[n]? with
    | none => rw [hS] at w2; exact w2.elim
    | some so =>
      rw [hS] at w2
      cases so with
      | ins c fs =>
        obtain ⟨⟨hm, hlt⟩, w3⟩ := wantS_if w2
        obtain ⟨A, dx, fvs, q0, q1, q2⟩ := R2.ob n a _ ha hS
        obtain ⟨C, cl, na⟩ := hc c hm
        rw [cl.mg] at q0
        cases q0
        refine ⟨a, A, dx, fvs, rfl, q1, cl.cls, na, by rw [datF_length q2]; exact hlt, ?_⟩
        obtain ⟨R3, E3⟩ := R2.mutate (u := .ins c (putFD fn d fs)) (ho := .ins A dx (putF fn v fvs)) ha hS rfl rfl ⟨A, dx, _, cl.mg, upd_same, datF_put (Dat.evo E2 dd) q2⟩
        exact w3 σ φ2 _ R3 E3 (((sl.evo E1).evo E2).evo E3)
      | _ => exact w2.elim
  | _ => exact w2.elim
end
end DL

/-! The data layer, part 8: classes made, raise, what is frozen, dicts, lists. -/
namespace DL
open PySem L2

section
variable {X : Cx} {W : WX} {k k' n np : Nat} {f C : Addr} {fd : FuncData} {ps ks : List Str} {sp : Sp} {sem cs : Sem'} {x m : Str} {p pos apos : Pos} {e o : Expr} {es : List Expr} {kws : List Keyword} {fa fk : FA} {fo fe : FE} {gD : List D → List D → List D}
theorem guards_make {A : Around} (h : A.guards = some []) (C : Addr) (us : List Value) (kw : List (Str × Value)) : (A.under (.builtin "type.__call__" ⟨.ref C :: us, kw⟩)).guards = some [] := by
  have e : (Code.builtin "type.__call__" ⟨.ref C :: us, kw⟩).guards = [] := rfl
  show pushGuards (Code.builtin "type.__call__" ⟨.ref C :: us, kw⟩).guards A.guards = some []
  rw [e]
  exact h
theorem run_makeG {pins : List (Addr × Obj)} {σ : L2.St} {H : Hp} {s : Shared} {Q : VK} {us ws : List Value} {vs zs : List V} {g : List Value → List Value → List Value} {gV : List V → List V → List V} (M : Mk X.K C f) (F : FnG X.prog X.w X.K X.mg X.base k f fd ps sp) (Cc : Cn X W k') (hk : k + 1 ≤ k')
    (hb : KBn X.K fd ps (np + 1) ks g gV) (I : L2.Inv X pins σ H s) (r : Vals vs us) (rz : Vals zs ws) (l1 : vs.length = np) (l2 : zs.length = ks.length)
    (h : ∀ x dx, H x = none → H dx = none → dx ≠ x → sp (gV (.ref x :: vs) zs) (upd (upd H dx (.own x)) x (.ins C dx [])) (fun v H2 => v = .non ∧ Q (.ref x) H2) (WE W σ)) :
    wpAny (model X.prog X.w) X.A (call (.ref C) us (ks.zip ws)) (EP X pins σ Q) X.xe s := by
  have hq := h (s.heap.objs.size + 1) s.heap.objs.size (I.hok.fresh (Nat.le_succ _)) (I.hok.fresh (Nat.le_refl _)) (Nat.ne_of_lt (Nat.lt_succ_self _))
  have J := Inv.made (C := C) I
  have r1 : Vals (V.ref (s.heap.objs.size + 1) :: vs) (Value.ref (s.heap.objs.size + 1) :: us) := .cons rfl r
  have rr := hb.rel r1 rz
  have ln : (Value.ref (s.heap.objs.size + 1) :: us).length = np + 1 := by rw [List.length_cons, ← r.length, l1]
  refine wpAny_call (make_map (f := f) I.kIn M.makes M.init (beq_iff_eq.mp M.fn) (codeAny_mono
    (F.run _ X.stack _ _ _ _ _ _ (WE W σ) ((Cc.room.mono hk).make C us (ks.zip ws)) (guards_make Cc.gd C us (ks.zip ws)) (J.env0.make C us (ks.zip ws)) (hb.to _ _ ws J.kIn ln (rz.length.symm.trans l2)) rr hq) fun res s' hq' => ?_))
  cases res with
  | error e => exact L2N.passAt Cc.tk σ pins _ _ e s' J hq'
  | ok fl => cases fl with
    | ret u =>
      obtain ⟨v, H', I3, rv, ev, q3⟩ := J.after hq'
      subst ev
      exact ⟨rv, V.ref (s.heap.objs.size + 1), H', I3, rfl, q3⟩
    | _ => exact hq'.elim
/-- a new instance in the store -/
def makeO (sem : Sem') (gD : List D → List D → List D) (c : Str) (n : Nat) (ds es : List D) (S : Store) : Res D :=
  if (gD (.oid S.length :: ds) es).length = n then (sem (gD (.oid S.length :: ds) es) (S ++ [.ins c []])).bind fun d S' => if d.isNon then .ok (.oid S.length) S' else .stuck else .stuck
abbrev MakeT := List D → List D → Store → Res D
def MakeOk (X : Cx) (c : Str) (n : Nat) (sem : Sem') (gD : List D → List D → List D) (mk : MakeT) : Prop := ∀ (C : Addr) (gV : List V → List V → List V) Z φ S H ds es vs zs (Q : VK) (E : XK), X.mg c = some (.ref C) →
  (∀ (K' : PySem.W.Frag), K' = X.K → ∀ (mg : Str → Option Value) (φ : List Addr) (G : Hp) (ds es : List D) (vs zs : List V), DatL K' mg φ G ds vs → DatL K' mg φ G es zs → DatL K' mg φ G (gD ds es) (gV vs zs)) → Rel X.K X.mg Z φ S H →
  DatL X.K X.mg φ (gnd Z φ S H) ds vs → DatL X.K X.mg φ (gnd Z φ S H) es zs → Want X.K X.mg (RDat X.K X.mg) Z φ S H (mk ds es S) Q E →
  ∀ x dx, H x = none → H dx = none → dx ≠ x → spD X.K X.mg n sem (gV (.ref x :: vs) zs) (upd (upd H dx (.own x)) x (.ins C dx [])) (fun v H2 => v = .non ∧ Q (.ref x) H2) E
theorem made_same {H : Hp} {x dx C : Addr} (hx : H x = none) (hd : H dx = none) : Same H (upd (upd H dx (.own x)) x (.ins C dx [])) := fun a o h => by
  rw [upd_ne (ne_of_none h hx), upd_ne (ne_of_none h hd)]
  exact h
theorem makeO_ok {c : Str} : MakeOk X c n sem gD (makeO sem gD c n) := fun C gV Z φ S H ds es vs zs Q E hm hN R d1 d2 w x dx hx hd hne => by
  unfold makeO at w
  obtain ⟨hl, w1⟩ := want_if w
  have sm := made_same (C := C) hx hd
  have lv : liveA (φ ++ [x]) (S ++ [.ins c []]) = liveA φ S ++ [x] := by rw [liveA_snoc R.len]; rfl
  obtain ⟨R1, E1⟩ := R.newOid (so := .ins c []) sm hx (by rw [upd_same]; exact fun z => nomatch z) rfl ⟨C, dx, [], hm, upd_same, by unfold DatF; rfl⟩
  have dx1 : Dat X.K X.mg (φ ++ [x]) (gnd Z (φ ++ [x]) (S ++ [.ins c []]) (upd (upd H dx (.own x)) x (.ins C dx []))) (.oid S.length) (.ref x) := by
    unfold Dat
    exact ⟨x, rfl, by rw [List.getElem?_append_right (by rw [R.len]; exact Nat.le_refl _), ← R.len, Nat.sub_self]; rfl⟩
  have dd := hN X.K rfl X.mg _ _ _ _ _ _ (.cons dx1 (DatL.evo E1 d1)) (DatL.evo E1 d2)
  refine ⟨by rw [dd.length, hl], Z, φ ++ [x], S ++ [.ins c []], _, R1, dd, ?_⟩
  cases hr : sem (gD (.oid S.length :: ds) es) (S ++ [.ins c []]) with
  | ok d S' =>
    rw [hr] at w1
    simp only [Res.bind_ok] at w1
    obtain ⟨hn, w2⟩ := want_if w1
    intro v φ' H' R' E' dv
    have hv := isNon_V dv
    rw [hn] at hv
    refine ⟨of_decide_eq_true hv, w2 _ φ' H' R' (E1.trans E') (Dat.evo E' dx1)⟩
  | ex C' fs S' =>
    rw [hr] at w1
    exact fun A dx' φ' H' m R' E' z => w1 A dx' φ' H' m R' (E1.trans E') z
  | stuck =>
    rw [hr] at w1
    exact w1.elim
def fMake (mk : MakeT) (np nk : Nat) (fa fk : FA) : FE := fun ρ S => (fa ρ S).bind fun ds S => (fk ρ S).bind fun es S => if ds.length = np ∧ es.length = nk then mk ds es S else .stuck
theorem de_make {c : Str} {mk : MakeT} (M : Mk X.K C f) (F : FnG X.prog X.w X.K X.mg X.base k f fd ps (spD X.K X.mg ps.length sem)) (hmk : MakeOk X c ps.length sem gD mk) (Cc : Cn X W k') (hg : Gl X c) (hm : X.mg c = some (.ref C)) (hb : KB X.K fd ps (np + 1) ks gD)
    (ha : DA X W (e :: es) fa) (hkw : DKw X W kws fk) (hle : k + 1 ≤ k' := by decide) (hall : (backToKw pos (keywordEach kws X.env)).all (·.1.isSome) = true := by rfl) (hks : (backToKw pos (keywordEach kws X.env)).filterMap (·.1) = ks := by rfl)
    (hdb : (c == ("__debug__" : Str)) = false := by decide) (he : starEach (e :: es) X.env = (false, eval e X.env) :: starEach es X.env := by rfl)
    (hpl : ((backTo pos (starEach (e :: es) X.env)).any (·.1) || (backToKw pos (keywordEach kws X.env)).any (·.1.isNone)) = false := by rfl) :
    DE X W (.Call (.Name c p) (e :: es) kws pos) (fMake mk np ks.length fa fk) := by
  obtain ⟨ta, pa, qa⟩ := ha.ex
  obtain ⟨tk, pk, qk⟩ := hkw.ex
  obtain ⟨g, gV, hB, hN⟩ := hb.ex
  refine .mk (t := fun σ H Q => ta σ H fun vs H1 => tk σ H1 fun zs H2 => vs.length = np ∧ zs.length = ks.length ∧ ∀ x dx, H2 x = none → H2 dx = none → dx ≠ x → spD X.K X.mg ps.length sem (gV (.ref x :: vs) zs) (upd (upd H2 dx (.own x)) x (.ins C dx [])) (fun v H2 => v = .non ∧ Q (.ref x) H2) (WE W σ)) ⟨fun pins s σ H Q I h => ?_⟩
    (fun Z φ S ρ σ H Q R sl w => args_run qa qk R sl w fun ds es' S2 vs zs φ2 H2 R2 E2 d1 d2 w2 => ?_)
  · refine wpAny_Call_Name_kw (ld_glob I hg hm ?_ hdb)
    refine PySem.W.callWith_KW (h₀ := X.base) I.ok.mod.kin M.kp hall (thn (pa.run pos pins s σ H _ I h) fun us s1 ⟨vs, H1, I1, r, q⟩ => ?_) hpl he
    refine thn (pk.run pos pins s1 σ H1 _ I1 q) fun ws s2 ⟨zs, H2, I2, rz, l1, l2, q2⟩ => ⟨I2.kIn, ?_⟩
    rw [hks]
    exact run_makeG M F Cc hle hB I2 r rz l1 l2 q2
  · obtain ⟨⟨l1, l2⟩, w3⟩ := want_if w2
    exact ⟨by rw [d1.length, l1], by rw [d2.length, l2], fun x dx hx hd hne => hmk C gV Z φ2 S2 H2 ds es' vs zs Q _ hm hN R2 d1 d2 w3 x dx hx hd hne⟩

/-! ### freezing -/
def fFrz (f : FE) : FE := fun ρ S => (f ρ S).bind fun d S => match d with
  | .oid n => (match S[n]? with
    | some (.lst ds) => .ok (.lst ds) (S.set n (.frz (.lst ds)))
    | some (.dic ks) => .ok (.dic ks) (S.set n (.frz (.dic ks)))
    | some (.ins c fs) => .ok (.ins c fs) (S.set n (.frz (.ins c fs)))
    | some (.frz d) => .ok d S
    | some (.tbl _ _) => .stuck
    | some (.dkt _) => .stuck
    | none => .stuck)
  | d => .ok d S
theorem de_frz (h : DE X W e fe) : DE X W e (fFrz fe) := by
  obtain ⟨t, p, q⟩ := h.ex
  refine .mk p (fun Z φ S ρ σ H Q R sl w => q Z φ S ρ σ H _ R sl (w.bind fun d S1 v φ1 H1 R1 E1 dd w1 => ?_))
  cases d with
  | oid n =>
    simp only at w1
    have dd0 := dd
    unfold RDat Dat at dd
    obtain ⟨a, rfl, ha⟩ := dd
    cases hS : S1[n]? with
    | none => rw [hS] at w1; exact w1.elim
    | some so =>
      rw [hS] at w1
      have ok := R1.ob n a so ha hS
      cases so with
      | lst ds =>
        obtain ⟨vs, h1, h2⟩ := ok
        have dn : Dat X.K X.mg φ1 (gnd Z φ1 (S1.set n (.frz (.lst ds))) H1) (.lst ds) (.ref a) := by
          unfold Dat
          exact ⟨a, vs, rfl, gnd_frz R1 ha h1, DatL.mono (List.prefix_refl _) evo_frz _ _ h2⟩
        obtain ⟨R2, E2⟩ := R1.freeze ha dn
        exact w1 _ φ1 H1 R2 E2 dn
      | dic ds =>
        obtain ⟨vs, h1, h2⟩ := ok
        have dn : Dat X.K X.mg φ1 (gnd Z φ1 (S1.set n (.frz (.dic ds))) H1) (.dic ds) (.ref a) := by
          unfold Dat
          exact ⟨a, vs, rfl, gnd_frz R1 ha h1, DatK.mono (List.prefix_refl _) evo_frz _ _ h2⟩
        obtain ⟨R2, E2⟩ := R1.freeze ha dn
        exact w1 _ φ1 H1 R2 E2 dn
      | ins c fs =>
        obtain ⟨A, dx, fvs, h0, h1, h2⟩ := ok
        have dn : Dat X.K X.mg φ1 (gnd Z φ1 (S1.set n (.frz (.ins c fs))) H1) (.ins c fs) (.ref a) := by
          unfold Dat
          exact ⟨a, A, dx, fvs, rfl, h0, gnd_frz R1 ha h1, DatF.mono (List.prefix_refl _) evo_frz _ _ h2⟩
        obtain ⟨R2, E2⟩ := R1.freeze ha dn
        exact w1 _ φ1 H1 R2 E2 dn
      | frz d => exact w1.now R1 ok
      | tbl _ _ => exact w1.elim
      | dkt _ => exact w1.elim
  | _ => exact w1.now R1 dd

/-! ### raise -/
end
end DL

/-! The data layer, part 9: operators on data, items, stores, built-ins. -/
namespace DL
open PySem L2

section
variable {X : Cx} {W : WX} {k : Nat} {a b c e : Expr} {es : List Expr} {fa fb fc fe : FE} {pos : Pos}
/-! tracked lists -/
def asLt (S : Store) : D → Option (List D)
  | .lst ds => some ds
  | .oid n => match S[n]? with
    | some (.lst ds) => some ds
    | some (.frz (.lst ds)) => some ds
    | _ => none
  | _ => none
theorem asLt_ok {K : PySem.W.Frag} {mg : Str → Option Value} {Z φ : List Addr} {S : Store} {H : Hp} (R : Rel K mg Z φ S H) {d : D} {v : V} {ds : List D} (h : Dat K mg φ (gnd Z φ S H) d v) (e : asLt S d = some ds) : ∃ a vs, v = .ref a ∧ H a = some (.lst vs) ∧ DatL K mg φ (gnd Z φ S H) ds vs := by
  cases d with
  | lst es =>
    cases e
    unfold Dat at h
    obtain ⟨a, vs, rfl, h1, h2⟩ := h
    exact ⟨a, vs, rfl, gnd_sub _ _ h1, h2⟩
  | oid n =>
    unfold Dat at h
    obtain ⟨a, rfl, h1⟩ := h
    cases q : S[n]? with
    | none => simp [asLt, q] at e
    | some o =>
      simp only [asLt, q] at e
      have ok := R.ob n a o h1 q
      cases o with
      | lst es =>
        cases e
        obtain ⟨vs, q1, q2⟩ := ok
        exact ⟨a, vs, rfl, q1, q2⟩
      | frz d =>
        cases d with
        | lst es =>
          cases e
          have ok' : Dat K mg φ (gnd Z φ S H) (.lst _) (.ref a) := ok
          unfold Dat at ok'
          obtain ⟨b, vs, e1, q1, q2⟩ := ok'
          cases e1
          exact ⟨a, vs, rfl, gnd_sub _ _ q1, q2⟩
        | _ => cases e
      | _ => cases e
  | _ => cases e
def D.tupOf : D → Option (List D)
  | .tup ds => some ds
  | _ => none
theorem tupOf_ok {K : PySem.W.Frag} {mg : Str → Option Value} {Z φ : List Addr} {S : Store} {H : Hp} {d : D} {v : V} {ds : List D} (h : Dat K mg φ (gnd Z φ S H) d v) (e : d.tupOf = some ds) : ∃ a vs, v = .ref a ∧ SqT K H a vs ∧ DatL K mg φ (gnd Z φ S H) ds vs := by
  cases d with
  | tup es =>
    cases e
    unfold Dat at h
    obtain ⟨a, vs, rfl, h1, h2⟩ := h
    exact ⟨a, vs, rfl, sqt_mono gnd_sub h1, h2⟩
  | _ => cases e

/-! ### + -/
def gAddI : G2 := gI (fun _ _ => true) fun i j => .int (i + j)
def gAddS : G2 := fun x y S => match x, y with
  | .str s, .str t => if short (s.length + t.length) then .ok (.str (s ++ t)) S else .stuck
  | _, _ => .stuck
def gAddT : G2 := fun x y S => match x, y with
  | .tup xs, .tup ys => if !xs.isEmpty && short (xs.length + ys.length) then .ok (.tup (xs ++ ys)) S else .stuck
  | _, _ => .stuck
def gAddL : G2 := fun x y S => match asLt S x, asLt S y with
  | some xs, some ys => if short (xs.length + ys.length) then .ok (.lst (xs ++ ys)) S else .stuck
  | _, _ => .stuck
def isI (x _ : D) (_ : Store) : Bool := match x with
  | .int _ => true
  | _ => false
def isS (x _ : D) (_ : Store) : Bool := match x with
  | .str _ => true
  | _ => false
def isT (x _ : D) (_ : Store) : Bool := match x with
  | .tup _ => true
  | _ => false
def gAdd : G2 := fun x y S => if isI x y S then gAddI x y S else if isS x y S then gAddS x y S else if isT x y S then gAddT x y S else gAddL x y S
theorem opd_addS : OpD X (fun x y H Q => ∃ i j, x = .str i ∧ y = .str j ∧ i.length + j.length ≤ sizeLine ∧ Q (.str (i ++ j)) H) gAddS := fun Z φ S H x y u v Q E R dx dy w => by
  unfold gAddS at w
  split at w
  · cases dStr dx
    cases dStr dy
    obtain ⟨h, w1⟩ := want_if w
    exact ⟨_, _, rfl, rfl, of_decide_eq_true h, w1.now R (dat_str _)⟩
  · exact w.elim
theorem opd_addT : OpD X (rCatT X.K) gAddT := fun Z φ S H x y u v Q E R dx dy w => by
  unfold gAddT at w
  split at w
  · rename_i xs ys
    obtain ⟨h, w1⟩ := want_if w
    simp only [Bool.and_eq_true, Bool.not_eq_true'] at h
    obtain ⟨p, vs, rfl, h1, h2⟩ := tupOf_ok dx rfl
    obtain ⟨q, us, rfl, h3, h4⟩ := tupOf_ok dy rfl
    refine ⟨p, q, vs, us, rfl, rfl, h1, h3, fun z => ?_, by rw [h2.length, h4.length]; exact of_decide_eq_true h.2, ?_⟩
    · rw [z] at h2
      have := h2.length
      cases xs with
      | nil => cases h.1
      | cons _ _ => cases this
    · by_cases hu : us = []
      · subst hu
        have hy : ys = [] := List.length_eq_zero_iff.mp (h4.length.symm)
        subst hy
        refine ⟨fun _ => ?_, fun z => absurd rfl z⟩
        rw [List.append_nil] at w1
        exact w1.now R dx
      · refine ⟨fun z => absurd z hu, fun _ t ht => ?_⟩
        obtain ⟨r, e, g⟩ := dat_newT R (h2.append h4) ht
        exact w1 _ _ _ r e g
  · exact w.elim
theorem opd_addL : OpD X rCat gAddL := fun Z φ S H x y u v Q E R dx dy w => by
  unfold gAddL at w
  split at w
  · rename_i xs ys e1 e2
    obtain ⟨h, w1⟩ := want_if w
    obtain ⟨p, vs, rfl, h1, h2⟩ := asLt_ok R dx e1
    obtain ⟨q, us, rfl, h3, h4⟩ := asLt_ok R dy e2
    refine ⟨p, q, vs, us, rfl, rfl, h1, h3, by rw [h2.length, h4.length]; exact of_decide_eq_true h, fun t ht => ?_⟩
    obtain ⟨r, e, g⟩ := dat_newL R (h2.append h4) ht
    exact w1 _ _ _ r e g
  · exact w.elim
theorem de_add (ha : DE X W a fa) (hb : DE X W b fb) : DE X W (.BinOp a .Add b pos) (fBin gAdd fa fb) :=
  de_bin (op_add.or (op_add_str.or (op_catT.or op_cat))) (OpD.or isI (opd_I0 fun _ _ _ _ => dat_int _) (OpD.or isS opd_addS (OpD.or isT opd_addT opd_addL))) ha hb

/-! ### == -/
mutual
def toPy : D → Option PyData
  | .non => some .none
  | .bl b => some (.bool b)
  | .int i => some (.int i)
  | .str x => some (.str x)
  | .tup ds => (toPyL ds).map .tuple
  | .lst ds => (toPyL ds).map .list
  | .scr ds => (toPyL ds).map .list
  | _ => none
def toPyL : List D → Option (List PyData)
  | [] => some []
  | d :: ds => (toPy d).bind fun p => (toPyL ds).map fun ps => p :: ps
end
mutual
theorem toPy_ok {K : PySem.W.Frag} {mg : Str → Option Value} {φ : List Addr} {G H : Hp} (e : Same G H) : ∀ (d : D) (v : V) (p : PyData), Dat K mg φ G d v → toPy d = some p → Dp K H v p
  | .non, v, p, h, q => by
    unfold toPy at q
    unfold Dat at h
    cases q
    subst h
    exact .non
  | .bl b, v, p, h, q => by
    unfold toPy at q
    unfold Dat at h
    cases q
    subst h
    exact .bl b
  | .int b, v, p, h, q => by
    unfold toPy at q
    unfold Dat at h
    cases q
    subst h
    exact .int b
  | .str b, v, p, h, q => by
    unfold toPy at q
    unfold Dat at h
    cases q
    subst h
    exact .str b
  | .ty n, v, p, h, q => by unfold toPy at q; cases q
  | .oid n, v, p, h, q => by unfold toPy at q; cases q
  | .dic n, v, p, h, q => by unfold toPy at q; cases q
  | .ins n m, v, p, h, q => by unfold toPy at q; cases q
  | .tup ds, v, p, h, q => by
    unfold toPy at q
    unfold Dat at h
    obtain ⟨a, vs, rfl, h1, h2⟩ := h
    cases r : toPyL ds with
    | none => rw [r] at q; cases q
    | some ps =>
      rw [r] at q
      cases q
      exact .tup (sqt_mono e h1) (toPyL_ok e ds vs ps h2 r)
  | .lst ds, v, p, h, q => by
    unfold toPy at q
    unfold Dat at h
    obtain ⟨a, vs, rfl, h1, h2⟩ := h
    cases r : toPyL ds with
    | none => rw [r] at q; cases q
    | some ps =>
      rw [r] at q
      cases q
      exact .lst (.of (e _ _ h1)) (toPyL_ok e ds vs ps h2 r)
  | .scr ds, v, p, h, q => by
    unfold toPy at q
    unfold Dat at h
    obtain ⟨a, vs, rfl, h1, h2⟩ := h
    cases r : toPyL ds with
    | none => rw [r] at q; cases q
    | some ps =>
      rw [r] at q
      cases q
      exact .lst (Same.seq e h1) (toPyL_ok e ds vs ps h2 r)
theorem toPyL_ok {K : PySem.W.Frag} {mg : Str → Option Value} {φ : List Addr} {G H : Hp} (e : Same G H) : ∀ (ds : List D) (vs : List V) (ps : List PyData), DatL K mg φ G ds vs → toPyL ds = some ps → DpAll K H vs ps
  | [], vs, ps, h, q => by
    unfold toPyL at q
    unfold DatL at h
    cases q
    subst h
    exact .nil
  | d :: ds, vs, ps, h, q => by
    unfold toPyL at q
    unfold DatL at h
    obtain ⟨v, r, rfl, h1, h2⟩ := h
    obtain ⟨p, q1, q2⟩ := Option.bind_eq_some_iff.mp q
    cases rr : toPyL ds with
    | none => rw [rr] at q2; cases q2
    | some ps' =>
      rw [rr] at q2
      cases q2
      exact .cons (toPy_ok e d v p h1 q1) (toPyL_ok e ds r ps' h2 rr)
end
/-- as data, a list of the store by its items -/
def pyOf (S : Store) (d : D) : Option PyData := match d with
  | .oid n => (match asL S (.oid n) with
    | some ds => (toPyL ds).map .list
    | none => match S[n]? with
      | some (.frz d) => toPy d
      | _ => none)
  | d => toPy d
theorem pyOf_ok {Z φ : List Addr} {S : Store} {H : Hp} (R : Rel X.K X.mg Z φ S H) {d : D} {v : V} {p : PyData} (h : Dat X.K X.mg φ (gnd Z φ S H) d v) (q : pyOf S d = some p) : Dp X.K H v p := by
  unfold pyOf at q
  split at q
  · rename_i n
    cases hl : asL S (.oid n) with
    | some ds =>
      rw [hl] at q
      obtain ⟨a, vs, rfl, h1, h2⟩ := asL_ok R h hl
      cases r : toPyL ds with
      | none => simp [r] at q
      | some ps =>
        simp only [r, Option.map_some, Option.some.injEq] at q
        subst q
        exact .lst h1 (toPyL_ok gnd_sub ds vs ps h2 r)
    | none =>
      rw [hl] at q
      simp only at q
      split at q
      · rename_i d hd
        unfold Dat at h
        obtain ⟨a, rfl, ha⟩ := h
        exact toPy_ok gnd_sub d _ p (R.ob n a _ ha hd) q
      · cases q
  · exact toPy_ok gnd_sub d v p h q
def scalD : D → D → Bool
  | .non, .non => true | .non, .int _ => true | .int _, .non => true | .non, .bl _ => true | .bl _, .non => true | .non, .str _ => true | .str _, .non => true
  | .int _, .int _ => true | .bl _, .bl _ => true | .str _, .str _ => true
  | .int _, .str _ => true | .str _, .int _ => true | .bl _, .str _ => true | .str _, .bl _ => true
  | _, _ => false
def eqS : D → D → Bool
  | .non, .non => true
  | .int i, .int j => decide (i = j)
  | .bl i, .bl j => decide (i = j)
  | .str i, .str j => decide (i = j)
  | _, _ => false
def gEqS (neg : Bool) : G2 := fun x y S => if scalD x y then .ok (.bl (if neg then !eqS x y else eqS x y)) S else .stuck
def gEqD (neg : Bool) : G2 := fun x y S => match pyOf S x, pyOf S y with
  | some p, some q => if SeqAt.shaped p && SeqAt.shaped q then .ok (.bl (if neg then !PyData.eqv p q else PyData.eqv p q)) S else .stuck
  | _, _ => .stuck
theorem eqS_ok {φ : List Addr} {G : Hp} {x y : D} {u v : V} (h : scalD x y = true) (dx : Dat X.K X.mg φ G x u) (dy : Dat X.K X.mg φ G y v) : scal u v = true ∧ decide (u = v) = eqS x y := by
  cases x <;> cases y <;> first
    | (cases h; done)
    | (unfold Dat at dx dy; subst dx; subst dy; refine ⟨rfl, ?_⟩; simp [eqS])
theorem opd_eqS : OpD X rEq (gEqS false) := fun Z φ S H x y u v Q E R dx dy w => by
  obtain ⟨h, w1⟩ := want_if w
  obtain ⟨a, b⟩ := eqS_ok h dx dy
  refine ⟨a, ?_⟩
  rw [b]
  exact w1.now R (dat_bl _)
theorem opd_neS : OpD X rNe (gEqS true) := fun Z φ S H x y u v Q E R dx dy w => by
  obtain ⟨h, w1⟩ := want_if w
  obtain ⟨a, b⟩ := eqS_ok h dx dy
  refine ⟨a, ?_⟩
  rw [b]
  exact w1.now R (dat_bl _)
theorem opd_eqD : OpD X (rEqD X.K) (gEqD false) := fun Z φ S H x y u v Q E R dx dy w => by
  unfold gEqD at w
  split at w
  · rename_i p q e1 e2
    obtain ⟨h, w1⟩ := want_if w
    rw [Bool.and_eq_true] at h
    exact ⟨p, q, pyOf_ok R dx e1, pyOf_ok R dy e2, h.1, h.2, w1.now R (dat_bl _)⟩
  · exact w.elim
theorem opd_neD : OpD X (rNeD X.K) (gEqD true) := fun Z φ S H x y u v Q E R dx dy w => by
  unfold gEqD at w
  split at w
  · rename_i p q e1 e2
    obtain ⟨h, w1⟩ := want_if w
    rw [Bool.and_eq_true] at h
    exact ⟨p, q, pyOf_ok R dx e1, pyOf_ok R dy e2, h.1, h.2, w1.now R (dat_bl _)⟩
  · exact w.elim
def pScal (x y : D) (_ : Store) : Bool := scalD x y
def gEq : G2 := fun x y S => if pScal x y S then gEqS false x y S else gEqD false x y S
def gNe : G2 := fun x y S => if pScal x y S then gEqS true x y S else gEqD true x y S
theorem Cn.u64 (C : Cn X W k) : X.A.units + 64 < cLine := C.room.units
theorem Cn.u1 (C : Cn X W k) : X.A.units + 1 < cLine := Nat.lt_of_le_of_lt (by omega) C.u64
theorem opr_eq (C : Cn X W k) : OpR X (compareOp .Eq) (fun x y H Q => rEq x y H Q ∨ rEqD X.K x y H Q) := op_eq.or (op_eqD C.u64)
theorem opr_ne (C : Cn X W k) : OpR X (compareOp .NotEq) (fun x y H Q => rNe x y H Q ∨ rNeD X.K x y H Q) := op_ne.or (op_neD C.u64)
theorem opd_eq : OpD X (fun x y H Q => rEq x y H Q ∨ rEqD X.K x y H Q) gEq := OpD.or pScal opd_eqS opd_eqD
theorem opd_ne : OpD X (fun x y H Q => rNe x y H Q ∨ rNeD X.K x y H Q) gNe := OpD.or pScal opd_neS opd_neD

/-! ### in -/
def D.flat : D → Bool
  | .non => true
  | .bl _ => true
  | .int _ => true
  | .str _ => true
  | _ => false
def eqF : D → D → Bool
  | .non, .non => true
  | .bl a, .bl b => a == b
  | .bl a, .int b => (if a then 1 else 0) == b
  | .int a, .bl b => a == (if b then 1 else 0)
  | .int a, .int b => a == b
  | .str a, .str b => a == b
  | _, _ => false
theorem flat_V {φ : List Addr} {G : Hp} {d : D} {v : V} (h : Dat X.K X.mg φ G d v) (f : d.flat = true) : flatV v = true := by
  cases d <;> first
    | (cases f; done)
    | (unfold Dat at h; subst h; rfl)
theorem eqF_V {φ : List Addr} {G : Hp} {x y : D} {u v : V} (dx : Dat X.K X.mg φ G x u) (dy : Dat X.K X.mg φ G y v) (fx : x.flat = true) (fy : y.flat = true) : eqV u v = eqF x y := by
  cases x <;> cases y <;> first
    | (cases fx; done)
    | (cases fy; done)
    | (unfold Dat at dx dy; subst dx; subst dy; rfl)
theorem all_flat {φ : List Addr} {G : Hp} : ∀ {ds : List D} {vs : List V}, DatL X.K X.mg φ G ds vs → ds.all D.flat = true → vs.all flatV = true
  | [], _, h, _ => by
    unfold DatL at h
    subst h
    rfl
  | d :: ds, _, h, f => by
    obtain ⟨v, r, rfl, h1, h2⟩ := h.uncons
    rw [List.all_cons, Bool.and_eq_true] at f ⊢
    exact ⟨flat_V h1 f.1, all_flat h2 f.2⟩
def inF (x : D) (ds : List D) : Bool := ds.any fun y => eqF y x
theorem inF_V {φ : List Addr} {G : Hp} {x : D} {u : V} (dx : Dat X.K X.mg φ G x u) (fx : x.flat = true) : ∀ {ds : List D} {vs : List V}, DatL X.K X.mg φ G ds vs → ds.all D.flat = true → inV u vs = inF x ds
  | [], _, h, _ => by
    unfold DatL at h
    subst h
    rfl
  | d :: ds, _, h, f => by
    obtain ⟨v, r, rfl, h1, h2⟩ := h.uncons
    rw [List.all_cons, Bool.and_eq_true] at f
    have q := inF_V dx fx h2 f.2
    unfold inV inF at q ⊢
    rw [List.any_cons, List.any_cons, q, eqF_V h1 dx f.1 fx]
def gInQ (neg : Bool) : G2 := fun x y S => match asQ S y with
  | some ds => if x.flat && ds.all D.flat then .ok (.bl (if neg then !inF x ds else inF x ds)) S else .stuck
  | none => .stuck
theorem opd_inQ {neg : Bool} : OpD X (rIn X.K neg) (gInQ neg) := fun Z φ S H x y u v Q E R dx dy w => by
  unfold gInQ at w
  split at w
  · rename_i ds e1
    obtain ⟨h, w1⟩ := want_if w
    rw [Bool.and_eq_true] at h
    obtain ⟨p, vs, rfl, h1, h2⟩ := asQ_ok R dy e1
    refine ⟨p, vs, rfl, h1, flat_V dx h.1, all_flat h2 h.2, ?_⟩
    rw [inF_V dx h.1 h2 h.2]
    exact w1.now R (dat_bl _)
  · exact w.elim
/-! dicts -/
def asD (S : Store) : D → Option (List (Key × D))
  | .dic ks => some ks
  | .oid n => match S[n]? with
    | some (.dic ks) => some ks
    | some (.frz (.dic ks)) => some ks
    | _ => none
  | _ => none
theorem asD_ok {K : PySem.W.Frag} {mg : Str → Option Value} {Z φ : List Addr} {S : Store} {H : Hp} (R : Rel K mg Z φ S H) {d : D} {v : V} {ks : List (Key × D)} (h : Dat K mg φ (gnd Z φ S H) d v) (e : asD S d = some ks) : ∃ a kvs, v = .ref a ∧ H a = some (.dK kvs) ∧ DatK K mg φ (gnd Z φ S H) ks kvs := by
  cases d with
  | dic es =>
    cases e
    unfold Dat at h
    obtain ⟨a, vs, rfl, h1, h2⟩ := h
    exact ⟨a, vs, rfl, gnd_sub _ _ h1, h2⟩
  | oid n =>
    unfold Dat at h
    obtain ⟨a, rfl, h1⟩ := h
    cases q : S[n]? with
    | none => simp [asD, q] at e
    | some o =>
      simp only [asD, q] at e
      have ok := R.ob n a o h1 q
      cases o with
      | dic es =>
        cases e
        obtain ⟨vs, q1, q2⟩ := ok
        exact ⟨a, vs, rfl, q1, q2⟩
      | frz d =>
        cases d with
        | dic es =>
          cases e
          have ok' : Dat K mg φ (gnd Z φ S H) (.dic _) (.ref a) := ok
          unfold Dat at ok'
          obtain ⟨b, vs, e1, q1, q2⟩ := ok'
          cases e1
          exact ⟨a, vs, rfl, gnd_sub _ _ q1, q2⟩
        | _ => cases e
      | _ => cases e
  | _ => cases e
def keyD : D → Option Key
  | .int i => some (.inl i)
  | .str x => some (.inr x)
  | _ => none
theorem keyD_ok {φ : List Addr} {G : Hp} {d : D} {v : V} {k : Key} (h : Dat X.K X.mg φ G d v) (e : keyD d = some k) : v = kV k := by
  cases d with
  | int i => cases e; exact dInt h
  | str i => cases e; exact dStr h
  | _ => cases e
theorem valD_ok {K : PySem.W.Frag} {mg : Str → Option Value} {φ : List Addr} {G : Hp} {k : Key} : ∀ {ks : List (Key × D)} {kvs : List (Key × V)}, DatK K mg φ G ks kvs → (∀ d, valD ks k = some d → ∃ v, valV kvs k = some v ∧ Dat K mg φ G d v) ∧ (valD ks k = none → valV kvs k = none)
  | [], _, h => by
    unfold DatK at h
    subst h
    exact ⟨fun d q => (by cases q), fun _ => rfl⟩
  | (j, d) :: ks, _, h => by
    unfold DatK at h
    obtain ⟨v, r, rfl, h1, h2⟩ := h
    obtain ⟨A, B⟩ := valD_ok (k := k) h2
    unfold valD valV at A B ⊢
    rw [List.find?_cons, List.find?_cons]
    by_cases hj : j = k
    · simp only [hj, decide_true]
      exact ⟨fun e q => (by cases q; exact ⟨v, rfl, h1⟩), fun q => (by cases q)⟩
    · simp only [hj, decide_false]
      exact ⟨A, B⟩
theorem valD_some {K : PySem.W.Frag} {mg : Str → Option Value} {φ : List Addr} {G : Hp} {k : Key} {ks : List (Key × D)} {kvs : List (Key × V)} (h : DatK K mg φ G ks kvs) : (valV kvs k).isSome = (valD ks k).isSome := by
  obtain ⟨A, B⟩ := valD_ok (k := k) h
  cases q : valD ks k with
  | none => rw [B q]; rfl
  | some d =>
    obtain ⟨v, e, _⟩ := A d q
    rw [e]
    rfl
def rNotInD : R2 := fun y x H Q => ∃ a o, x = .ref a ∧ DGet H a y o ∧ Q (.bl (!o.isSome)) H
theorem opr_notInD (C : Cn X W k) : OpR X (compareOp .NotIn) rNotInD := fun pins s σ H x y v u Q I rx ry h => by
  obtain ⟨p, o, rfl, g, q⟩ := h
  cases (show u = Value.ref p from ry)
  exact d_notIn C.u1 I g rx fun s' I' => ⟨.bl (!o.isSome), H, I', rfl, q⟩
def gInD (neg : Bool) : G2 := fun x y S => match asD S y, keyD x with
  | some ks, some j => .ok (.bl (if neg then !(valD ks j).isSome else (valD ks j).isSome)) S
  | _, _ => .stuck
theorem opd_notInD : OpD X rNotInD (gInD true) := fun Z φ S H x y u v Q E R dx dy w => by
  unfold gInD at w
  split at w
  · rename_i ks j e1 e2
    obtain ⟨p, kvs, rfl, h1, h2⟩ := asD_ok R dy e1
    refine ⟨p, valV kvs j, rfl, .inl ⟨kvs, j, .inl h1, keyD_ok dx e2, rfl⟩, ?_⟩
    rw [valD_some h2]
    exact w.now R (dat_bl _)
  · exact w.elim
def pDic (_ y : D) (S : Store) : Bool := (asD S y).isSome
def gIn : G2 := fun x y S => if pDic x y S then gInD false x y S else gInQ false x y S
def gNotIn : G2 := fun x y S => if pDic x y S then gInD true x y S else gInQ true x y S
theorem opr_notIn (C : Cn X W k) : OpR X (compareOp .NotIn) (fun x y H Q => rNotInD x y H Q ∨ rIn X.K true x y H Q) := (opr_notInD C).or op_notIn_seq
theorem opd_notIn : OpD X (fun x y H Q => rNotInD x y H Q ∨ rIn X.K true x y H Q) gNotIn := OpD.or pDic opd_notInD opd_inQ

/-! ### items -/
def gIxQ : G2 := fun x y S => match asQ S x, y with
  | some ds, .int i => (match atI ds i with
    | some d => .ok d S
    | none => .stuck)
  | _, _ => .stuck
theorem atI_dat {φ : List Addr} {G : Hp} {ds : List D} {vs : List V} (h : DatL X.K X.mg φ G ds vs) {i : Int} {d : D} (e : atI ds i = some d) : ∃ v, atI vs i = some v ∧ Dat X.K X.mg φ G d v := by
  unfold atI at e ⊢
  rw [h.length]
  obtain ⟨j, h1, h2⟩ := Option.bind_eq_some_iff.mp e
  obtain ⟨v, h3, h4⟩ := h.get h2
  exact ⟨v, by rw [h1, Option.bind_some, h3], h4⟩
theorem opd_ixQ : OpD X (fun x y H Q => rIxL X.K x y H Q ∨ rIxT X.K x y H Q) gIxQ := fun Z φ S H x y u v Q E R dx dy w => by
  unfold gIxQ at w
  split at w
  · rename_i ds i e1
    cases dInt dy
    obtain ⟨p, vs, rfl, h1, h2⟩ := asQ_ok R dx e1
    cases q : atI ds i with
    | none => rw [q] at w; exact w.elim
    | some d =>
      rw [q] at w
      obtain ⟨z, h3, h4⟩ := atI_dat h2 q
      rcases h1 with h1 | h1
      · exact .inl ⟨p, vs, i, z, rfl, rfl, h1, h3, w.now R h4⟩
      · exact .inr ⟨p, vs, i, z, rfl, rfl, h1, h3, w.now R h4⟩
  · exact w.elim
def rIxD : R2 := fun x y H Q => ∃ a v, x = .ref a ∧ DGet H a y (some v) ∧ Q v H
theorem ix_dict (C : Cn X W k) : IxR X rIxD := fun value slice pins s σ H x y v u Q I rx ry h hs => by
  obtain ⟨p, z, rfl, g, q⟩ := h
  cases (show v = Value.ref p from rx)
  exact PyProof.Rows.tail_any (dict_typeIs I g) PySem.F.slot_dict_getitem.lookup (d_getItem C.u1 I g ry fun w' s3 I3 rw' => ⟨z, H, I3, rw', q⟩) hs
def gIxD : G2 := fun x y S => match asD S x, keyD y with
  | some ks, some j => (match valD ks j with
    | some d => .ok d S
    | none => .stuck)
  | _, _ => .stuck
theorem opd_ixD : OpD X rIxD gIxD := fun Z φ S H x y u v Q E R dx dy w => by
  unfold gIxD at w
  split at w
  · rename_i ks j e1 e2
    obtain ⟨p, kvs, rfl, h1, h2⟩ := asD_ok R dx e1
    cases q : valD ks j with
    | none => rw [q] at w; exact w.elim
    | some d =>
      rw [q] at w
      obtain ⟨z, h3, h4⟩ := (valD_ok h2).1 d q
      exact ⟨p, z, rfl, .inl ⟨kvs, j, .inl h1, keyD_ok dy e2, h3.symm⟩, w.now R h4⟩
  · exact w.elim
def gIxS : G2 := fun x y S => match x, y with
  | .str z, .int i => if short z.length then (match atI z.cps.toList i with
    | some c => .ok (.str ⟨#[c]⟩) S
    | none => .stuck) else .stuck
  | _, _ => .stuck
theorem opd_ixS : OpD X rIxS gIxS := fun Z φ S H x y u v Q E R dx dy w => by
  unfold gIxS at w
  split at w
  · rename_i z i
    cases dInt dy
    cases dStr dx
    obtain ⟨h, w1⟩ := want_if w
    cases q : atI z.cps.toList i with
    | none => rw [q] at w1; exact w1.elim
    | some c =>
      rw [q] at w1
      exact ⟨z, i, c, rfl, rfl, of_decide_eq_true h, q, w1.now R (dat_str _)⟩
  · exact w.elim
def pDic1 (x _ : D) (S : Store) : Bool := (asD S x).isSome
def gIx : G2 := fun x y S => if pDic1 x y S then gIxD x y S else if isS x y S then gIxS x y S else gIxQ x y S
theorem de_sub1 (C : Cn X W k) (ha : DE X W a fa) (hb : DE X W b fb) (hs : PlainIx b := by intro _ _; rfl) : DE X W (.Subscript a b pos) (fBin gIx fa fb) :=
  de_ix ((ix_dict C).or (ix_str.or (ix_list.or ix_tup))) (OpD.or pDic1 opd_ixD (OpD.or isS opd_ixS opd_ixQ)) ha hb hs
end
end DL

/-! The data layer, part 10: chains of comparisons, calls of built-in functions. -/
namespace DL
open PySem L2

section
variable {X : Cx} {W : WX} {k : Nat} {a b c e : Expr} {es : List Expr} {fa fb fc fe : FE} {pos p : Pos}
/-! ### chains -/
theorem chain_ok {ta tb tc : TE} {r r' : R2} {g g' : G2} (hg : OpD X r g) (hg' : OpD X r' g') (qa : IsE X W ta fa) (qb : IsE X W tb fb) (qc : IsE X W tc fc) : IsE X W (tChain r r' ta tb tc) (fChain g g' fa fb fc) := fun Z φ S ρ σ H Q R sl w =>
  qa Z φ S ρ σ H _ R sl (w.bind fun x S1 u φ1 H1 R1 E1 d1 w1 => qb Z φ1 S1 ρ σ H1 _ R1 (sl.evo E1) (w1.bind fun y S2 v φ2 H2 R2 E2 d2 w2 =>
    hg Z φ2 S2 H2 x y u v _ _ R2 (Dat.evo E2 d1) d2 (w2.bind fun z S3 t φ3 H3 R3 E3 d3 w3 => by
      cases z with
      | bl k =>
        unfold RDat Dat at d3
        refine ⟨k, d3, ?_⟩
        cases k with
        | true => exact iteT (qc Z φ3 S3 ρ σ H3 _ R3 (((sl.evo E1).evo E2).evo E3) (w3.bind fun s S4 q φ4 H4 R4 E4 d4 w4 => hg' Z φ4 S4 H4 y s v q _ _ R4 (Dat.evo E4 (Dat.evo E3 d2)) d4 w4))
        | false => exact iteF (w3.now R3 (dat_bl _))
      | _ => exact w3.elim)))
theorem de_chain {op op' : CmpOp} {r r' : R2} {g g' : G2} (ho : OpR X (compareOp op) r) (ho' : OpR X (compareOp op') r') (hg : OpD X r g) (hg' : OpD X r' g') (ha : DE X W a fa) (hb : DE X W b fb) (hc : DE X W c fc)
    (hm : lastMarks [op, op'] [b, c] = false := by with_unfolding_all rfl) : DE X W (.Compare a [op, op'] [b, c] pos) (fChain g g' fa fb fc) := by
  obtain ⟨ta, pa, qa⟩ := ha.ex
  obtain ⟨tb, pb, qb⟩ := hb.ex
  obtain ⟨tc, pc, qc⟩ := hc.ex
  exact .mk (pe_chain ho ho' pa pb pc hm) (chain_ok hg hg' qa qb qc)
theorem dt_chain {op op' : CmpOp} {r r' : R2} {g g' : G2} (ho : OpR X (compareOp op) r) (ho' : OpR X (compareOp op') r') (hg : OpD X r g) (hg' : OpD X r' g') (ha : DE X W a fa) (hb : DE X W b fb) (hc : DE X W c fc)
    (hm : lastMarks [op, op'] [b, c] = false := by with_unfolding_all rfl) : DT X W (.Compare a [op, op'] [b, c] pos) (toB (fChain g g' fa fb fc)) := by
  obtain ⟨ta, pa, qa⟩ := ha.ex
  obtain ⟨tb, pb, qb⟩ := hb.ex
  obtain ⟨tc, pc, qc⟩ := hc.ex
  exact .mk (pt_chain ho ho' pa pb pc hm) (toB_ok (chain_ok hg hg' qa qb qc))

/-! ### calls of what is built in -/
abbrev GC := List D → Store → Res D
def CallD (X : Cx) (r : List V → Hp → VK → Prop) (g : GC) : Prop := ∀ (Z φ : List Addr) (S : Store) (H : Hp) (ds : List D) (vs : List V) (Q : VK) (E : XK), Rel X.K X.mg Z φ S H → DatL X.K X.mg φ (gnd Z φ S H) ds vs → Want X.K X.mg (RDat X.K X.mg) Z φ S H (g ds S) Q E → r vs H Q
def fCB (g : GC) (fa : FA) : FE := fun ρ S => (fa ρ S).bind g
theorem isE_cb {r : List V → Hp → VK → Prop} {g : GC} {t : TA} {fa : FA} (hg : CallD X r g) (q : IsA X W t fa) : IsE X W (tCB r t) (fCB g fa) := fun Z φ S ρ σ H Q R sl w =>
  q Z φ S ρ σ H _ R sl (w.bind fun ds S1 vs φ1 H1 R1 E1 d w1 => hg Z φ1 S1 H1 ds vs Q _ R1 d w1)
theorem de_callB {x : Str} {id : String} {r : List V → Hp → VK → Prop} {g : GC} {fa : FA} (hc : CallR X (.builtin id) r) (hd : CallD X r g) (hg : Gl X x) (hm : X.mg x = none) (hv : bootBuiltins x = some (.builtin id)) (ha : DA X W (e :: es) fa) (hn : x ≠ "__name__" := by decide) (hdb : (x == ("__debug__" : Str)) = false := by decide)
    (he : starEach (e :: es) X.env = (false, eval e X.env) :: starEach es X.env := by rfl) (hpl : (backTo pos (starEach es X.env)).any (·.1) = false := by rfl) : DE X W (.Call (.Name x p) (e :: es) [] pos) (fCB g fa) := by
  obtain ⟨t, p, q⟩ := ha.ex
  exact .mk (pe_callB hc hg hm hv p hn hdb he hpl) (isE_cb hd q)
theorem de_callTy {x : Str} {id : String} {r : List V → Hp → VK → Prop} {g : GC} {fa : FA} (hc : CallR X (.type id) r) (hd : CallD X r g) (hg : Gl X x) (hm : X.mg x = none) (hv : bootBuiltins x = some (.type id)) (ha : DA X W (e :: es) fa) (hn : x ≠ "__name__" := by decide) (hdb : (x == ("__debug__" : Str)) = false := by decide)
    (he : starEach (e :: es) X.env = (false, eval e X.env) :: starEach es X.env := by rfl) (hpl : (backTo pos (starEach es X.env)).any (·.1) = false := by rfl) : DE X W (.Call (.Name x p) (e :: es) [] pos) (fCB g fa) := by
  obtain ⟨t, p, q⟩ := ha.ex
  exact .mk (pe_callTy hc hg hm hv p hn hdb he hpl) (isE_cb hd q)
theorem callR_or {f : Value} {r r' : List V → Hp → VK → Prop} (h : CallR X f r) (h' : CallR X f r') : CallR X f (fun xs H Q => r xs H Q ∨ r' xs H Q) := fun pins s σ H xs us Q I rx q => q.elim (h pins s σ H xs us Q I rx) (h' pins s σ H xs us Q I rx)
theorem callD_or {r r' : List V → Hp → VK → Prop} {g g' : GC} (t : List D → Store → Bool) (h : CallD X r g) (h' : CallD X r' g') : CallD X (fun xs H Q => r xs H Q ∨ r' xs H Q) (fun ds S => if t ds S then g ds S else g' ds S) := fun Z φ S H ds vs Q E R d w => by
  by_cases q : t ds S = true
  · exact .inl (h Z φ S H ds vs Q E R d (by simpa only [q, if_true] using w))
  · exact .inr (h' Z φ S H ds vs Q E R d (by simpa [q] using w))

/-! len -/
def gLenQ : GC := fun ds S => match ds with
  | [d] => match asQ S d with
    | some xs => .ok (.int (xs.length : Nat)) S
    | none => .stuck
  | _ => .stuck
def gLenS : GC := fun ds S => match ds with
  | [.str z] => if short z.length then .ok (.int (z.length : Nat)) S else .stuck
  | _ => .stuck
def gLenD : GC := fun ds S => match ds with
  | [d] => match asD S d with
    | some ks => .ok (.int (ks.length : Nat)) S
    | none => .stuck
  | _ => .stuck
theorem datK_length {K : PySem.W.Frag} {mg : Str → Option Value} {φ : List Addr} {G : Hp} : ∀ {ks : List (Key × D)} {kvs : List (Key × V)}, DatK K mg φ G ks kvs → kvs.length = ks.length
  | [], _, h => by
    unfold DatK at h
    subst h
    rfl
  | (k, d) :: ks, _, h => by
    unfold DatK at h
    obtain ⟨v, r, rfl, _, h2⟩ := h
    rw [List.length_cons, List.length_cons, datK_length h2]
theorem cd_lenQ : CallD X (fun xs H Q => ∃ p ys, xs = [.ref p] ∧ (SqL X.K H p ys ∨ SqT X.K H p ys) ∧ Q (.int ys.length) H) gLenQ := fun Z φ S H ds vs Q E R d w => by
  unfold gLenQ at w
  split at w
  · obtain ⟨v, rfl, h1⟩ := datL1 d
    split at w
    · rename_i xs e1
      obtain ⟨a, us, rfl, h2, h3⟩ := asQ_ok R h1 e1
      refine ⟨a, us, rfl, h2, ?_⟩
      rw [h3.length]
      exact w.now R (dat_int _)
    · exact w.elim
  · exact w.elim
theorem cd_lenS : CallD X (fun xs H Q => ∃ z, xs = [.str z] ∧ z.length ≤ sizeLine ∧ Q (.int z.length) H) gLenS := fun Z φ S H ds vs Q E R d w => by
  unfold gLenS at w
  split at w
  · obtain ⟨v, rfl, h1⟩ := datL1 d
    obtain ⟨h, w1⟩ := want_if w
    cases dStr h1
    exact ⟨_, rfl, of_decide_eq_true h, w1.now R (dat_int _)⟩
  · exact w.elim
theorem cd_lenD : CallD X (fun xs H Q => ∃ a kvs, xs = [V.ref a] ∧ H a = some (.dK kvs) ∧ Q (.int kvs.length) H) gLenD := fun Z φ S H ds vs Q E R d w => by
  unfold gLenD at w
  split at w
  · obtain ⟨v, rfl, h1⟩ := datL1 d
    split at w
    · rename_i xs e1
      obtain ⟨a, us, rfl, h2, h3⟩ := asD_ok R h1 e1
      refine ⟨a, us, rfl, h2, ?_⟩
      rw [datK_length h3]
      exact w.now R (dat_int _)
    · exact w.elim
  · exact w.elim
def isDic1 (ds : List D) (S : Store) : Bool := match ds with
  | [d] => (asD S d).isSome
  | _ => false
def isStr1 (ds : List D) (_ : Store) : Bool := match ds with
  | [.str _] => true
  | _ => false
def gLen : GC := fun ds S => if isDic1 ds S then gLenD ds S else if isStr1 ds S then gLenS ds S else gLenQ ds S
theorem de_len {fa : FA} (hg : Gl X "len") (hm : X.mg "len" = none) (ha : DA X W [e] fa) (he : starEach [e] X.env = (false, eval e X.env) :: starEach [] X.env := by rfl) (hpl : (backTo pos (starEach [] X.env)).any (·.1) = false := by rfl) :
    DE X W (.Call (.Name "len" p) [e] [] pos) (fCB gLen fa) :=
  de_callB (callR_or call_lenD (callR_or call_len_str call_len_seq)) (callD_or isDic1 cd_lenD (callD_or isStr1 cd_lenS cd_lenQ)) hg hm (by rfl) ha (by decide) (by decide) he hpl

/-! abs, max, min -/
def gAbs : GC := fun ds S => match ds with
  | [.int i] => .ok (.int (if i < 0 then -i else i)) S
  | _ => .stuck
theorem de_abs {fa : FA} (hg : Gl X "abs") (hm : X.mg "abs" = none) (ha : DA X W [e] fa) (he : starEach [e] X.env = (false, eval e X.env) :: starEach [] X.env := by rfl) (hpl : (backTo pos (starEach [] X.env)).any (·.1) = false := by rfl) :
    DE X W (.Call (.Name "abs" p) [e] [] pos) (fCB gAbs fa) :=
  de_callB call_abs (fun Z φ S H ds vs Q E R d w => by
    unfold gAbs at w
    split at w
    · obtain ⟨v, rfl, h1⟩ := datL1 d
      cases dInt h1
      exact ⟨_, rfl, w.now R (dat_int _)⟩
    · exact w.elim) hg hm (by rfl) ha (by decide) (by decide) he hpl
def intsOf : List D → Option (List Int)
  | [] => some []
  | .int i :: ds => (intsOf ds).map (i :: ·)
  | _ => none
theorem intsOf_ok {K : PySem.W.Frag} {mg : Str → Option Value} {φ : List Addr} {G : Hp} : ∀ {ds : List D} {vs : List V} {ns : List Int}, DatL K mg φ G ds vs → intsOf ds = some ns → vs = ns.map V.int
  | [], _, _, h, e => by
    cases e
    unfold DatL at h
    exact h
  | d :: ds, _, ns, h, e => by
    obtain ⟨v, r, rfl, h1, h2⟩ := h.uncons
    cases d with
    | int i =>
      unfold intsOf at e
      cases q : intsOf ds with
      | none => rw [q] at e; cases e
      | some ms =>
        rw [q] at e
        cases e
        unfold Dat at h1
        subst h1
        rw [intsOf_ok h2 q]
        rfl
    | _ => cases e
theorem dat_ints {K : PySem.W.Frag} {mg : Str → Option Value} {φ : List Addr} {G : Hp} : ∀ (ns : List Int), DatL K mg φ G (ns.map D.int) (ns.map V.int)
  | [] => DatL.nil
  | n :: ns => .cons (by unfold Dat; rfl) (dat_ints ns)
def seqInts (S : Store) (d : D) : Option (List Int) := (asL S d).bind intsOf
theorem seqInts_ok {Z φ : List Addr} {S : Store} {H : Hp} {d : D} {v : V} {ns : List Int} (R : Rel X.K X.mg Z φ S H) (h : Dat X.K X.mg φ (gnd Z φ S H) d v) (e : seqInts S d = some ns) : ∃ a, v = .ref a ∧ SqL X.K H a (ns.map V.int) := by
  obtain ⟨ds, e1, e2⟩ := Option.bind_eq_some_iff.mp e
  obtain ⟨a, us, rfl, h2, h3⟩ := asL_ok R h e1
  refine ⟨a, rfl, ?_⟩
  rw [← intsOf_ok h3 e2]
  exact h2
def maxI : Int → List Int → Int
  | m, [] => m
  | m, n :: ns => maxI (if n > m then n else m) ns
def minI : Int → List Int → Int
  | m, [] => m
  | m, n :: ns => minI (if n < m then n else m) ns
theorem maxI_spec : ∀ (ns : List Int) (m : Int), maxI m ns ∈ m :: ns ∧ ∀ y ∈ m :: ns, y ≤ maxI m ns
  | [], m => ⟨by simp [maxI], fun y h => by simp at h; simp [maxI, h]⟩
  | n :: ns, m => by
    obtain ⟨a, b⟩ := maxI_spec ns (if n > m then n else m)
    have e : maxI m (n :: ns) = maxI (if n > m then n else m) ns := rfl
    rw [e]
    refine ⟨?_, fun y hy => ?_⟩
    · rcases List.mem_cons.mp a with h | h
      · rw [h]
        split
        · simp
        · simp
      · exact List.mem_cons_of_mem _ (List.mem_cons_of_mem _ h)
    · have top := b _ List.mem_cons_self
      have u1 : m ≤ (if n > m then n else m) := by split <;> omega
      have u2 : n ≤ (if n > m then n else m) := by split <;> omega
      rcases List.mem_cons.mp hy with h | h
      · rw [h]
        exact Int.le_trans u1 top
      · rcases List.mem_cons.mp h with h | h
        · rw [h]
          exact Int.le_trans u2 top
        · exact b y (List.mem_cons_of_mem _ h)
theorem minI_spec : ∀ (ns : List Int) (m : Int), minI m ns ∈ m :: ns ∧ ∀ y ∈ m :: ns, minI m ns ≤ y
  | [], m => ⟨by simp [minI], fun y h => by simp at h; simp [minI, h]⟩
  | n :: ns, m => by
    obtain ⟨a, b⟩ := minI_spec ns (if n < m then n else m)
    have e : minI m (n :: ns) = minI (if n < m then n else m) ns := rfl
    rw [e]
    refine ⟨?_, fun y hy => ?_⟩
    · rcases List.mem_cons.mp a with h | h
      · rw [h]
        split
        · simp
        · simp
      · exact List.mem_cons_of_mem _ (List.mem_cons_of_mem _ h)
    · have top := b _ List.mem_cons_self
      have u1 : (if n < m then n else m) ≤ m := by split <;> omega
      have u2 : (if n < m then n else m) ≤ n := by split <;> omega
      rcases List.mem_cons.mp hy with h | h
      · rw [h]
        exact Int.le_trans top u1
      · rcases List.mem_cons.mp h with h | h
        · rw [h]
          exact Int.le_trans top u2
        · exact b y (List.mem_cons_of_mem _ h)
def gMax2 : GC := fun ds S => match ds with
  | [.int i, .int j] => .ok (.int (if j > i then j else i)) S
  | _ => .stuck
def gMin2 : GC := fun ds S => match ds with
  | [.int i, .int j] => .ok (.int (if j < i then j else i)) S
  | _ => .stuck
def gMaxL : GC := fun ds S => match ds with
  | [d] => match seqInts S d with
    | some (n :: ns) => .ok (.int (maxI n ns)) S
    | _ => .stuck
  | _ => .stuck
def gMinL : GC := fun ds S => match ds with
  | [d] => match seqInts S d with
    | some (n :: ns) => .ok (.int (minI n ns)) S
    | _ => .stuck
  | _ => .stuck
def two (ds : List D) (_ : Store) : Bool := decide (ds.length = 2)
def gMax : GC := fun ds S => if two ds S then gMax2 ds S else gMaxL ds S
def gMin : GC := fun ds S => if two ds S then gMin2 ds S else gMinL ds S
theorem cd_max2 : CallD X (fun xs H Q => ∃ i j, xs = [.int i, .int j] ∧ Q (.int (if j > i then j else i)) H) gMax2 := fun Z φ S H ds vs Q E R d w => by
  unfold gMax2 at w
  split at w
  · obtain ⟨v, u, rfl, h1, h2⟩ := datL2 d
    cases dInt h1
    cases dInt h2
    exact ⟨_, _, rfl, w.now R (dat_int _)⟩
  · exact w.elim
theorem cd_min2 : CallD X (fun xs H Q => ∃ i j, xs = [.int i, .int j] ∧ Q (.int (if j < i then j else i)) H) gMin2 := fun Z φ S H ds vs Q E R d w => by
  unfold gMin2 at w
  split at w
  · obtain ⟨v, u, rfl, h1, h2⟩ := datL2 d
    cases dInt h1
    cases dInt h2
    exact ⟨_, _, rfl, w.now R (dat_int _)⟩
  · exact w.elim
theorem cd_maxL : CallD X (rMax X.K) gMaxL := fun Z φ S H ds vs Q E R d w => by
  unfold gMaxL at w
  split at w
  · obtain ⟨v, rfl, h1⟩ := datL1 d
    split at w
    · rename_i n ns e1
      obtain ⟨a, rfl, h2⟩ := seqInts_ok R h1 e1
      refine ⟨a, n :: ns, rfl, h2, by simp, fun m hm hb => ?_⟩
      obtain ⟨q1, q2⟩ := maxI_spec ns n
      rw [Int.le_antisymm (q2 m hm) (hb _ q1)]
      exact w.now R (dat_int _)
    · exact w.elim
  · exact w.elim
theorem cd_minL : CallD X (rMin X.K) gMinL := fun Z φ S H ds vs Q E R d w => by
  unfold gMinL at w
  split at w
  · obtain ⟨v, rfl, h1⟩ := datL1 d
    split at w
    · rename_i n ns e1
      obtain ⟨a, rfl, h2⟩ := seqInts_ok R h1 e1
      refine ⟨a, n :: ns, rfl, h2, by simp, fun m hm hb => ?_⟩
      obtain ⟨q1, q2⟩ := minI_spec ns n
      rw [Int.le_antisymm (hb _ q1) (q2 m hm)]
      exact w.now R (dat_int _)
    · exact w.elim
  · exact w.elim
theorem de_max (C : Cn X W k) {fa : FA} (hg : Gl X "max") (hm : X.mg "max" = none) (ha : DA X W (e :: es) fa) (he : starEach (e :: es) X.env = (false, eval e X.env) :: starEach es X.env := by rfl) (hpl : (backTo pos (starEach es X.env)).any (·.1) = false := by rfl) :
    DE X W (.Call (.Name "max" p) (e :: es) [] pos) (fCB gMax fa) :=
  de_callB (callR_or (call_max2 C.calm) (cr_max C.calm)) (callD_or two cd_max2 cd_maxL) hg hm (by rfl) ha (by decide) (by decide) he hpl
theorem de_min (C : Cn X W k) {fa : FA} (hg : Gl X "min") (hm : X.mg "min" = none) (ha : DA X W (e :: es) fa) (he : starEach (e :: es) X.env = (false, eval e X.env) :: starEach es X.env := by rfl) (hpl : (backTo pos (starEach es X.env)).any (·.1) = false := by rfl) :
    DE X W (.Call (.Name "min" p) (e :: es) [] pos) (fCB gMin fa) :=
  de_callB (callR_or (call_min2 C.calm) (cr_min C.calm)) (callD_or two cd_min2 cd_minL) hg hm (by rfl) ha (by decide) (by decide) he hpl
/-! sum, sorted -/
/-! all, any -/
def bsOf : List D → Option (List Bool)
  | [] => some []
  | .bl b :: ds => (bsOf ds).map (b :: ·)
  | _ => none
theorem bsOf_ok {K : PySem.W.Frag} {mg : Str → Option Value} {φ : List Addr} {G : Hp} : ∀ {ds : List D} {vs : List V} {ns : List Bool}, DatL K mg φ G ds vs → bsOf ds = some ns → vs = ns.map V.bl
  | [], _, _, h, e => by
    cases e
    unfold DatL at h
    exact h
  | d :: ds, _, ns, h, e => by
    obtain ⟨v, r, rfl, h1, h2⟩ := h.uncons
    cases d with
    | bl i =>
      unfold bsOf at e
      cases q : bsOf ds with
      | none => rw [q] at e; cases e
      | some ms =>
        rw [q] at e
        cases e
        unfold Dat at h1
        subst h1
        rw [bsOf_ok h2 q]
        rfl
    | _ => cases e
def gAllAny (all : Bool) : GC := fun ds S => match ds with
  | [d] => match (asL S d).bind bsOf with
    | some bs => .ok (.bl (if all then bs.all id else bs.any id)) S
    | none => .stuck
  | _ => .stuck
theorem de_all (C : Cn X W k) {fa : FA} (hg : Gl X "all") (hm : X.mg "all" = none) (ha : DA X W [e] fa) (he : starEach [e] X.env = (false, eval e X.env) :: starEach [] X.env := by rfl) (hpl : (backTo pos (starEach [] X.env)).any (·.1) = false := by rfl) :
    DE X W (.Call (.Name "all" p) [e] [] pos) (fCB (gAllAny true) fa) :=
  de_callB (cr_all C.calm) (fun Z φ S H ds vs Q E R d w => by
    unfold gAllAny at w
    split at w
    · obtain ⟨v, rfl, h1⟩ := datL1 d
      split at w
      · rename_i bs e1
        obtain ⟨xs, e1, e2⟩ := Option.bind_eq_some_iff.mp e1
        obtain ⟨a, us, rfl, h2, h3⟩ := asL_ok R h1 e1
        rw [bsOf_ok h3 e2] at h2
        exact ⟨a, bs, rfl, h2, w.now R (dat_bl _)⟩
      · exact w.elim
    · exact w.elim) hg hm (by rfl) ha (by decide) (by decide) he hpl
/-! list, tuple -/
def gToL : GC := fun ds S => match ds with
  | [d] => match asQ S d with
    | some xs => .ok (.lst xs) S
    | none => .stuck
  | _ => .stuck
def gToO : GC := fun ds S => match ds with
  | [d] => match asQ S d with
    | some xs => .ok (.oid S.length) (S ++ [.lst xs])
    | none => .stuck
  | _ => .stuck
def keyV : Key → D
  | .inl i => .int i
  | .inr x => .str x
def gKeysL : GC := fun ds S => match ds with
  | [d] => match asD S d with
    | some ks => .ok (.lst (ks.map fun q => keyV q.1)) S
    | none => .stuck
  | _ => .stuck
def gKeysO : GC := fun ds S => match ds with
  | [d] => match asD S d with
    | some ks => .ok (.oid S.length) (S ++ [.lst (ks.map fun q => keyV q.1)])
    | none => .stuck
  | _ => .stuck
theorem datK_keys {K : PySem.W.Frag} {mg : Str → Option Value} {φ φ' : List Addr} {G G' : Hp} : ∀ {ks : List (Key × D)} {kvs : List (Key × V)}, DatK K mg φ G ks kvs → DatL K mg φ' G' (ks.map fun q => keyV q.1) (kvs.map fun kv => kV kv.1)
  | [], _, h => by
    unfold DatK at h
    subst h
    exact DatL.nil
  | (k, d) :: ks, _, h => by
    unfold DatK at h
    obtain ⟨v, r, rfl, _, h2⟩ := h
    refine .cons ?_ (datK_keys h2)
    cases k <;> unfold keyV Dat <;> rfl
abbrev rListOf (K : PySem.W.Frag) : List V → Hp → VK → Prop := fun xs H Q => ∃ p ys, xs = [.ref p] ∧ (SqL K H p ys ∨ SqT K H p ys) ∧ ∀ l, H l = none → Q (.ref l) (upd H l (.lst ys))
theorem cd_toL : CallD X (rListOf X.K) gToL := fun Z φ S H ds vs Q E R d w => by
  unfold gToL at w
  split at w
  · obtain ⟨v, rfl, h1⟩ := datL1 d
    split at w
    · rename_i xs e1
      obtain ⟨a, us, rfl, h2, h3⟩ := asQ_ok R h1 e1
      refine ⟨a, us, rfl, h2, fun p hn => ?_⟩
      obtain ⟨r, e, g⟩ := dat_newL R h3 hn
      exact w _ _ _ r e g
    · exact w.elim
  · exact w.elim
theorem cd_toO : CallD X (rListOf X.K) gToO := fun Z φ S H ds vs Q E R d w => by
  unfold gToO at w
  split at w
  · obtain ⟨v, rfl, h1⟩ := datL1 d
    split at w
    · rename_i xs e1
      obtain ⟨a, us, rfl, h2, h3⟩ := asQ_ok R h1 e1
      refine ⟨a, us, rfl, h2, fun p hn => ?_⟩
      obtain ⟨r, e, g⟩ := dat_newO R h3 hn
      exact w _ _ _ r e g
    · exact w.elim
  · exact w.elim
theorem cd_keysL : CallD X rListD gKeysL := fun Z φ S H ds vs Q E R d w => by
  unfold gKeysL at w
  split at w
  · obtain ⟨v, rfl, h1⟩ := datL1 d
    split at w
    · rename_i xs e1
      obtain ⟨a, us, rfl, h2, h3⟩ := asD_ok R h1 e1
      refine ⟨a, us, rfl, h2, fun p hn => ?_⟩
      obtain ⟨r, e, g⟩ := dat_newL R (datK_keys h3) hn
      exact w _ _ _ r e g
    · exact w.elim
  · exact w.elim
theorem cd_keysO : CallD X rListD gKeysO := fun Z φ S H ds vs Q E R d w => by
  unfold gKeysO at w
  split at w
  · obtain ⟨v, rfl, h1⟩ := datL1 d
    split at w
    · rename_i xs e1
      obtain ⟨a, us, rfl, h2, h3⟩ := asD_ok R h1 e1
      refine ⟨a, us, rfl, h2, fun p hn => ?_⟩
      obtain ⟨r, e, g⟩ := dat_newO R (datK_keys h3) hn
      exact w _ _ _ r e g
    · exact w.elim
  · exact w.elim
def gList : GC := fun ds S => if isDic1 ds S then gKeysL ds S else gToL ds S
def gListO : GC := fun ds S => if isDic1 ds S then gKeysO ds S else gToO ds S
theorem de_list (C : Cn X W k) {fa : FA} (hg : Gl X "list") (hm : X.mg "list" = none) (ha : DA X W [e] fa) (he : starEach [e] X.env = (false, eval e X.env) :: starEach [] X.env := by rfl) (hpl : (backTo pos (starEach [] X.env)).any (·.1) = false := by rfl) :
    DE X W (.Call (.Name "list" p) [e] [] pos) (fCB gList fa) := de_callTy (callR_or (call_list_dK C.calm) call_list_of) (callD_or isDic1 cd_keysL cd_toL) hg hm (by rfl) ha (by decide) (by decide) he hpl
theorem de_listO (C : Cn X W k) {fa : FA} (hg : Gl X "list") (hm : X.mg "list" = none) (ha : DA X W [e] fa) (he : starEach [e] X.env = (false, eval e X.env) :: starEach [] X.env := by rfl) (hpl : (backTo pos (starEach [] X.env)).any (·.1) = false := by rfl) :
    DE X W (.Call (.Name "list" p) [e] [] pos) (fCB gListO fa) := de_callTy (callR_or (call_list_dK C.calm) call_list_of) (callD_or isDic1 cd_keysO cd_toO) hg hm (by rfl) ha (by decide) (by decide) he hpl
def gTuple : GC := fun ds S => match ds with
  | [.tup xs] => .ok (.tup xs) S
  | [d] => match asL S d with
    | some xs => .ok (.tup xs) S
    | none => .stuck
  | _ => .stuck
theorem cd_tuple : CallD X (fun xs H Q => ∃ p ys, xs = [.ref p] ∧ ((SqL X.K H p ys ∧ ∀ l, H l = none → Q (.ref l) (upd H l (.tup ys))) ∨ (SqT X.K H p ys ∧ Q (.ref p) H))) gTuple := fun Z φ S H ds vs Q E R d w => by
  unfold gTuple at w
  split at w
  · obtain ⟨v, rfl, h1⟩ := datL1 d
    have h1' := h1
    unfold Dat at h1
    obtain ⟨a, us, rfl, h2, h3⟩ := h1
    exact ⟨a, us, rfl, .inr ⟨sqt_mono gnd_sub h2, w.now R h1'⟩⟩
  · obtain ⟨v, rfl, h1⟩ := datL1 d
    split at w
    · rename_i xs e1
      obtain ⟨a, us, rfl, h2, h3⟩ := asL_ok R h1 e1
      refine ⟨a, us, rfl, .inl ⟨h2, fun p hn => ?_⟩⟩
      obtain ⟨r, e, g⟩ := dat_newT R h3 hn
      exact w _ _ _ r e g
    · exact w.elim
  · exact w.elim
theorem de_tuple {fa : FA} (hg : Gl X "tuple") (hm : X.mg "tuple" = none) (ha : DA X W [e] fa) (he : starEach [e] X.env = (false, eval e X.env) :: starEach [] X.env := by rfl) (hpl : (backTo pos (starEach [] X.env)).any (·.1) = false := by rfl) :
    DE X W (.Call (.Name "tuple" p) [e] [] pos) (fCB gTuple fa) := de_callTy call_tuple_of cd_tuple hg hm (by rfl) ha (by decide) (by decide) he hpl

/-! repr -/
end
end DL

/-! The data layer, part 11: set(xs) of a list of ints, sorted(set(xs)). -/
namespace PySem
open PySem.Spec PyProof.Rows L2
section
variable {P : Program} {w : World} {A : Around} {E : Value → Shared → Prop} {s : Shared}
end
end PySem
namespace DL
open PySem L2
section
variable {X : Cx} {W : WX} {k : Nat} {a b c e : Expr} {es : List Expr} {fa fb fc fe : FE} {pos p p2 q2 : Pos}
end
end DL

/-! The data layer, part 12: list(enumerate(xs)). -/
namespace PySem
open PySem.Spec PySem.Calls PyProof.Rows PySem.W L2
namespace F
end F
section
variable {prog : Program} {w : World} {A : Around} {E : Value → Shared → Prop} {s : Shared}
/-- the state of the enumerate object between two nexts -/
def EnAt (e it : Addr) (i : Nat) (h : Heap) : Prop := (∃ old, IsEnum h e it i old) ∨ ∃ old T f oT, IsEnumHeld h e it i old T f ∧ h.get? T = some oT ∧ T ≠ e ∧ T ≠ it
theorem EnAt.keep {e it : Addr} {i : Nat} {h h' : Heap} {S : Addr} (x : EnAt e it i h) (hS : e ≠ S) (hk : ∀ b o, b ≠ S → h.get? b = some o → h'.get? b = some o) (hl : ∀ o, h.get? S = some o → ∃ o', h'.get? S = some o') : EnAt e it i h' := by
  rcases x with ⟨old, q⟩ | ⟨old, T, f, oT, q, q2, q3, q4⟩
  · exact .inl ⟨old, hk _ _ hS q⟩
  · by_cases hT : T = S
    · subst hT
      obtain ⟨o', ho⟩ := hl _ q2
      exact .inr ⟨old, T, f, o', hk _ _ hS q, ho, q3, q4⟩
    · exact .inr ⟨old, T, f, oT, hk _ _ hS q, hk _ _ hT q2, q3, q4⟩
theorem EnAt.ty {e it : Addr} {i : Nat} (x : EnAt e it i s.heap) : s.TypeIs (.ref e) "enumerate" := by
  rcases x with ⟨old, q⟩ | ⟨old, T, f, oT, q, _⟩ <;> exact ⟨_, q, rfl⟩
theorem EnAt.lt {e it : Addr} {i : Nat} {h : Heap} (x : EnAt e it i h) : e < h.objs.size := by
  rcases x with ⟨old, q⟩ | ⟨old, T, f, oT, q, _⟩ <;> exact Heap.lt_size q
/-- the pairs laid so far -/
structure EnG (items : Array Value) (lo : Addr) (h : Heap) (as : List Addr) : Prop where
  above : ∀ a ∈ as, lo < a
  pair : ∀ (j : Nat) (a : Addr), as[j]? = some a → ∃ x tk, items[j]? = some x ∧ h.get? a = some { cls := .type "tuple", data := .seq #[.int (j : Nat) tk, x] }
end
end PySem

/-! The data layer, part 13: list(enumerate(xs)) on data; a, *b = xs. -/
namespace DL
open PySem L2
section
variable {P : Program} {w : World} {H H' : Hp} {h h' : Heap}
end
/-! the pairs of enumerate -/
section
variable {K : PySem.W.Frag} {mg : Str → Option Value} {Z φ : List Addr} {S : Store}
end
section
variable {X : Cx} {W : WX} {k : Nat} {a b c e : Expr} {es : List Expr} {fa fb fc fe : FE} {pos p p2 q2 : Pos}
def gLEnum : GC := fun ds S => match ds with
  | [d] => match asQ S d with
    | some xs => .ok (.lst (enumD 0 xs)) S
    | none => .stuck
  | _ => .stuck
end
end DL

/-! The data layer, part 14: a, *b = xs; isinstance; methods of what is built in; stores by a subscript. -/
namespace PySem
open PySem.Spec PySem.Calls PyProof.Rows PySem.W L2
section
variable {prog : Program} {w : World} {A : Around} {E : Value → Shared → Prop} {s : Shared}
end
end PySem
namespace DL
open PySem L2
section
variable {X : Cx} {W : WX} {k : Nat} {a b c e o : Expr} {es : List Expr} {fa fb fc fe fo : FE} {pos p p2 q2 apos cpos : Pos}
/-! ### a, *b = xs -/
def gStar (i j : Nat) (fe : FE) : FS := fun ρ S => (fe ρ S).into ρ fun d S => match asL S d with
  | some (x :: xs) => .nx ((ρ.set i (some x)).set j (some (.oid S.length))) (S ++ [.lst xs])
  | _ => .stuck
/-! ### isinstance -/
def tyS (S : Store) : D → Option String
  | .non => some "NoneType"
  | .bl _ => some "bool"
  | .int _ => some "int"
  | .str _ => some "str"
  | .tup _ => some "tuple"
  | .lst _ => some "list"
  | .scr _ => some "list"
  | .dic _ => some "dict"
  | .oid n => match S[n]? with
    | some (.lst _) => some "list"
    | some (.dic _) => some "dict"
    | some (.frz (.lst _)) => some "list"
    | some (.frz (.dic _)) => some "dict"
    | _ => none
  | _ => none
theorem tyx_L {K : PySem.W.Frag} {H : Hp} {a : Addr} {xs : List V} (h : SqL K H a xs) : TyX K H (.ref a) (.type "list") := by
  rcases h with (h | ⟨u, h⟩) | ⟨o, its, n, hk, hc, _⟩
  · exact .base (.lst h)
  · exact .base (.frz h)
  · exact .kList hk hc
theorem tyx_T {K : PySem.W.Frag} {H : Hp} {a : Addr} {xs : List V} (h : SqT K H a xs) : TyX K H (.ref a) (.type "tuple") := by
  rcases h with (h | ⟨u, h⟩) | ⟨o, its, n, hk, hc, _⟩
  · exact .base (.tup h)
  · exact .fTuple h
  · exact .kTuple hk hc
theorem tyS_ok {Z φ : List Addr} {S : Store} {H : Hp} (R : Rel X.K X.mg Z φ S H) {d : D} {v : V} {T : String} (h : Dat X.K X.mg φ (gnd Z φ S H) d v) (e : tyS S d = some T) : TyX X.K H v (.type T) := by
  cases d with
  | non => cases e; unfold Dat at h; subst h; exact .base .non
  | bl b => cases e; unfold Dat at h; subst h; exact .base (.bl b)
  | int b => cases e; unfold Dat at h; subst h; exact .base (.int b)
  | str b => cases e; unfold Dat at h; subst h; exact .base (.str b)
  | tup ds =>
    cases e
    unfold Dat at h
    obtain ⟨a, vs, rfl, h1, _⟩ := h
    exact tyx_T (sqt_mono gnd_sub h1)
  | lst ds =>
    cases e
    obtain ⟨a, vs, rfl, h1, _⟩ := asL_ok R h rfl
    exact tyx_L h1
  | scr ds =>
    cases e
    obtain ⟨a, vs, rfl, h1, _⟩ := asL_ok R h rfl
    exact tyx_L h1
  | dic ds =>
    cases e
    obtain ⟨a, vs, rfl, h1, _⟩ := asD_ok R h rfl
    exact .base (.dK h1)
  | oid n =>
    cases hS : S[n]? with
    | none => simp [tyS, hS] at e
    | some so =>
      have L : ∀ ds, asL S (.oid n) = some ds → TyX X.K H v (.type "list") := fun ds q => by
        obtain ⟨a, vs, rfl, h1, _⟩ := asL_ok R h q
        exact tyx_L h1
      have M : ∀ ds, asD S (.oid n) = some ds → TyX X.K H v (.type "dict") := fun ds q => by
        obtain ⟨a, vs, rfl, h1, _⟩ := asD_ok R h q
        exact .base (.dK h1)
      cases so with
      | lst ds =>
        simp only [tyS, hS, Option.some.injEq] at e
        subst e
        exact L ds (by simp [asL, hS])
      | dic ds =>
        simp only [tyS, hS, Option.some.injEq] at e
        subst e
        exact M ds (by simp [asD, hS])
      | frz d =>
        cases d with
        | lst ds =>
          simp only [tyS, hS, Option.some.injEq] at e
          subst e
          exact L ds (by simp [asL, hS])
        | dic ds =>
          simp only [tyS, hS, Option.some.injEq] at e
          subst e
          exact M ds (by simp [asD, hS])
        | _ => simp [tyS, hS] at e
      | ins _ _ => simp [tyS, hS] at e
      | tbl _ _ => simp [tyS, hS] at e
      | dkt _ => simp [tyS, hS] at e
  | _ => cases e
/-- one built-in class under another -/
def isiT : String → String → Option Bool
  | "NoneType", n => if n ∈ ["bool", "int", "str", "tuple", "list", "dict"] then some false else none
  | "bool", n => if n ∈ ["bool", "int"] then some true else if n ∈ ["str", "tuple", "list", "dict"] then some false else none
  | "int", n => if n = "int" then some true else if n ∈ ["bool", "str", "tuple", "list", "dict"] then some false else none
  | "str", n => if n = "str" then some true else if n ∈ ["bool", "int", "tuple", "list", "dict"] then some false else none
  | "tuple", n => if n = "tuple" then some true else if n ∈ ["bool", "int", "str", "list", "dict"] then some false else none
  | "list", n => if n = "list" then some true else if n ∈ ["bool", "int", "str", "tuple", "dict"] then some false else none
  | "dict", n => if n = "dict" then some true else if n ∈ ["bool", "int", "str", "tuple", "list"] then some false else none
  | _, _ => none
theorem isiT_ok {K : PySem.W.Frag} {T n : String} {b : Bool} (h : isiT T n = some b) : PySem.W.kitOne K (.type T) (.type n) = some b := by
  have all : ∀ T ∈ ["NoneType", "bool", "int", "str", "tuple", "list", "dict"], ∀ n ∈ ["bool", "int", "str", "tuple", "list", "dict"], isiT T n = kitB T n := by decide +kernel
  have hT : T ∈ ["NoneType", "bool", "int", "str", "tuple", "list", "dict"] := by
    unfold isiT at h
    split at h <;> first | (simp; done) | (cases h; done)
  have hn : n ∈ ["bool", "int", "str", "tuple", "list", "dict"] := by
    unfold isiT at h
    split at h
    · split at h
      · rename_i q; exact q
      · cases h
    · split at h
      · rename_i q; simp at q ⊢; rcases q with q | q <;> simp [q]
      · split at h
        · rename_i q; simp at q ⊢; rcases q with q | q | q | q <;> simp [q]
        · cases h
    all_goals first
      | (cases h; done)
      | (split at h
         · rename_i q; simp [q]
         · split at h
           · rename_i q; simp at q ⊢; rcases q with q | q | q | q | q <;> simp [q]
           · cases h)
  exact kit_ty (by rw [← all T hT n hn]; exact h)
def isiA (T : String) : List String → Option Bool
  | [] => some false
  | n :: ns => match isiT T n with
    | some true => some true
    | some false => isiA T ns
    | none => none
theorem isiA_ok {K : PySem.W.Frag} {T : String} : ∀ {ns : List String} {b : Bool}, isiA T ns = some b → PySem.W.kitAny K (.type T) (ns.map Value.type) = some b
  | [], _, h => by cases h; exact kitAny_nil
  | n :: ns, b, h => by
    unfold isiA at h
    split at h
    · rename_i q
      cases h
      exact kitAny_cons (isiT_ok q) (fun z => nomatch z) fun _ => rfl
    · rename_i q
      exact kitAny_cons (isiT_ok q) (fun _ => isiA_ok h) fun z => nomatch z
    · cases h
def rIsiQ (K : PySem.W.Frag) : List V → Hp → VK → Prop := fun xs H Q => ∃ (x : V) (tp : Addr) (cs : List V) (t : Value) (us : List Value) (b : Bool), xs = [x, .ref tp] ∧ SqT K H tp cs ∧ Paired ClsV cs us ∧ TyX K H x t ∧ PySem.W.kitAny K t us = some b ∧ Q (.bl b) H
theorem call_isiQ : CallR X (.builtin "isinstance") (rIsiQ X.K) := fun pins s σ H xs us Q I r h => by
  obtain ⟨x, tp, cs, t, ws, b, rfl, hT, kk, ty, ee, q⟩ := h
  obtain ⟨u1, u2, rfl, r1, r2⟩ := vals2 r
  cases (show u2 = Value.ref tp from r2)
  obtain ⟨P, Zk, pz, hx⟩ := kit_of I r1 ty
  obtain ⟨its, rv, ⟨ob, h1, h2, n, h3⟩, _⟩ := I.tuple hT
  have e3 := ClsV.all kk rv
  subst e3
  obtain ⟨oc, od, dt, sl⟩ := ob
  simp only at h2 h3
  subst h2 h3
  exact PySem.W.kia_tup Zk I.kIn pz h1 ee hx fun tk => ⟨.bl b, H, I.tok tk, rfl, q⟩
def tysOf : List D → Option (List String)
  | [] => some []
  | .ty n :: ds => (tysOf ds).map (n :: ·)
  | _ => none
theorem tysOf_ok {φ : List Addr} {G : Hp} : ∀ {ds : List D} {vs : List V} {ns : List String}, DatL X.K X.mg φ G ds vs → tysOf ds = some ns → Paired ClsV vs (ns.map Value.type)
  | [], _, _, h, e => by
    cases e
    unfold DatL at h
    subst h
    exact .nil
  | d :: ds, _, ns, h, e => by
    obtain ⟨v, r, rfl, h1, h2⟩ := h.uncons
    cases d with
    | ty i =>
      unfold tysOf at e
      cases q : tysOf ds with
      | none => rw [q] at e; cases e
      | some ms =>
        rw [q] at e
        cases e
        unfold Dat at h1
        subst h1
        exact .cons (.ty i) (tysOf_ok h2 q)
    | _ => cases e
def gIsi1 : GC := fun ds S => match ds with
  | [x, .ty n] => match (tyS S x).bind fun T => isiT T n with
    | some b => .ok (.bl b) S
    | none => .stuck
  | _ => .stuck
def gIsiN : GC := fun ds S => match ds with
  | [x, .tup cs] => match (tyS S x).bind fun T => (tysOf cs).bind fun ns => isiA T ns with
    | some b => .ok (.bl b) S
    | none => .stuck
  | _ => .stuck
def isTy2 (ds : List D) (_ : Store) : Bool := match ds with
  | [_, .ty _] => true
  | _ => false
def gIsi : GC := fun ds S => if isTy2 ds S then gIsi1 ds S else gIsiN ds S
theorem cd_isi1 : CallD X (rIsi X.K) gIsi1 := fun Z φ S H ds vs Q E R d w => by
  unfold gIsi1 at w
  split at w
  · obtain ⟨v, u, rfl, h1, h2⟩ := datL2 d
    split at w
    · rename_i b q
      obtain ⟨T, q1, q2⟩ := Option.bind_eq_some_iff.mp q
      unfold Dat at h2
      subst h2
      exact ⟨v, _, _, _, b, rfl, .ty _, tyS_ok R h1 q1, isiT_ok q2, w.now R (dat_bl _)⟩
    · exact w.elim
  · exact w.elim
theorem cd_isiN : CallD X (rIsiQ X.K) gIsiN := fun Z φ S H ds vs Q E R d w => by
  unfold gIsiN at w
  split at w
  · obtain ⟨v, u, rfl, h1, h2⟩ := datL2 d
    split at w
    · rename_i b q
      obtain ⟨T, q1, q2⟩ := Option.bind_eq_some_iff.mp q
      obtain ⟨ns, q3, q4⟩ := Option.bind_eq_some_iff.mp q2
      unfold Dat at h2
      obtain ⟨a, us, rfl, h3, h4⟩ := h2
      exact ⟨v, a, us, _, _, b, rfl, sqt_mono gnd_sub h3, tysOf_ok h4 q3, tyS_ok R h1 q1, isiA_ok q4, w.now R (dat_bl _)⟩
    · exact w.elim
  · exact w.elim
theorem de_isi {fa : FA} (hg : Gl X "isinstance") (hm : X.mg "isinstance" = none) (ha : DA X W [e, b] fa) (he : starEach [e, b] X.env = (false, eval e X.env) :: starEach [b] X.env := by rfl) (hpl : (backTo pos (starEach [b] X.env)).any (·.1) = false := by rfl) :
    DE X W (.Call (.Name "isinstance" p) [e, b] [] pos) (fCB gIsi fa) := de_callB (callR_or call_isi call_isiQ) (callD_or isTy2 cd_isi1 cd_isiN) hg hm (by rfl) ha (by decide) (by decide) he hpl

/-! ### methods of what is built in -/
abbrev GM := D → List D → Store → Res D
def MethD (X : Cx) (r : V → List V → Hp → VK → Prop) (g : GM) : Prop := ∀ (Z φ : List Addr) (S : Store) (H : Hp) (x : D) (u : V) (ds : List D) (vs : List V) (Q : VK) (E : XK), Rel X.K X.mg Z φ S H → Dat X.K X.mg φ (gnd Z φ S H) x u → DatL X.K X.mg φ (gnd Z φ S H) ds vs →
  Want X.K X.mg (RDat X.K X.mg) Z φ S H (g x ds S) Q E → r u vs H Q
def fBM (T : String) (g : GM) (fo : FE) (fa : FA) : FE := fun ρ S => (fo ρ S).bind fun x S => if tyS S x = some T ∧ T ≠ "tuple" then (fa ρ S).bind fun ds S => g x ds S else .stuck
theorem tyV_ok {Z φ : List Addr} {S : Store} {H : Hp} (R : Rel X.K X.mg Z φ S H) {d : D} {v : V} {T : String} (h : Dat X.K X.mg φ (gnd Z φ S H) d v) (e : tyS S d = some T) (ht : T = "list" ∨ T = "dict" ∨ T = "str") : tyV X.K T v H := by
  have L : ∀ ds, asL S d = some ds → tyV X.K "list" v H := fun ds q => by
    obtain ⟨a, vs, rfl, h1, _⟩ := asL_ok R h q
    exact .inl ⟨rfl, vs, h1⟩
  have M : ∀ ds, asD S d = some ds → tyV X.K "dict" v H := fun ds q => by
    obtain ⟨a, vs, rfl, h1, _⟩ := asD_ok R h q
    exact .inr (.inr (.inl ⟨rfl, .inl ⟨vs, h1⟩⟩))
  cases d with
  | str z => cases e; unfold Dat at h; subst h; rfl
  | lst ds => cases e; exact L ds rfl
  | scr ds => cases e; exact L ds rfl
  | dic ds => cases e; exact M ds rfl
  | oid n =>
    cases hS : S[n]? with
    | none => simp [tyS, hS] at e
    | some so =>
      cases so with
      | lst ds =>
        simp only [tyS, hS, Option.some.injEq] at e
        subst e
        exact L ds (by simp [asL, hS])
      | dic ds =>
        simp only [tyS, hS, Option.some.injEq] at e
        subst e
        exact M ds (by simp [asD, hS])
      | frz d =>
        cases d with
        | lst ds =>
          simp only [tyS, hS, Option.some.injEq] at e
          subst e
          exact L ds (by simp [asL, hS])
        | dic ds =>
          simp only [tyS, hS, Option.some.injEq] at e
          subst e
          exact M ds (by simp [asD, hS])
        | _ => simp [tyS, hS] at e
      | ins _ _ => simp [tyS, hS] at e
      | tbl _ _ => simp [tyS, hS] at e
      | dkt _ => simp [tyS, hS] at e
  | non => cases e; simp at ht
  | bl _ => cases e; simp at ht
  | int _ => cases e; simp at ht
  | tup _ => cases e; simp at ht
  | _ => cases e
theorem de_bm {T id : String} {name : Str} {r : V → List V → Hp → VK → Prop} {g : GM} {fa : FA} (pa : PlainAttrs T) (slot : Slot T name id) (hty : typeOf (.builtin id) = pure (.type "method_descriptor")) (hm : MtR X id r) (hd : MethD X r g) (hT : T = "list" ∨ T = "dict" ∨ T = "str") (ho : DE X W o fo) (ha : DA X W (e :: es) fa)
    (hbase : attributeBase o name X.env (eval o X.env) = eval o X.env := by rfl)
    (hfew : ((backTo cpos (starEach (e :: es) X.env)).all (fun x => !x.1) && (backToKw cpos (keywordEach [] X.env)).all (fun x => x.1.isSome) && decide ((e :: es).length + ([] : List Keyword).length + (if ([] : List Keyword).isEmpty then 0 else 1) < 30)) = true := by rfl)
    (hline : (apos.endLine == cpos.line) = true := by rfl) (hs : starEach (e :: es) X.env = (false, eval e X.env) :: starEach es X.env := by rfl) (hplain : (backTo cpos (starEach es X.env)).any (·.1) = false := by rfl) :
    DE X W (.Call (.Attribute o name apos) (e :: es) [] cpos) (fBM T g fo fa) := by
  obtain ⟨to, po, qo⟩ := ho.ex
  obtain ⟨ta, ppa, qa⟩ := ha.ex
  refine .mk (pe_bm pa slot hty hm po ppa hbase hfew hline hs hplain) fun Z φ S ρ σ H Q R sl w => qo Z φ S ρ σ H _ R sl (w.bind fun x S1 u φ1 H1 R1 E1 d w1 => ?_)
  obtain ⟨⟨h1, h2⟩, w2⟩ := want_if w1
  exact ⟨tyV_ok R1 d h1 hT, qa Z φ1 S1 ρ σ H1 _ R1 (sl.evo E1) (w2.bind fun ds S2 vs φ2 H2 R2 E2 d2 w3 => hd Z φ2 S2 H2 x u ds vs Q _ R2 (Dat.evo E2 d) d2 w3)⟩
/-- xs.append(x) -/
def gApp : GM := fun x ds S => match x, ds with
  | .oid n, [d] => (match S[n]? with
    | some (.lst xs) => if xs.length < sizeLine then .ok .non (S.set n (.lst (xs ++ [d]))) else .stuck
    | _ => .stuck)
  | _, _ => .stuck
/-- a list of the store is written -/
theorem want_lst {Z φ : List Addr} {S : Store} {H : Hp} {n : Nat} {u : V} {xs ys : List D} {d : D} {E : XK} {Q : VK} (R : Rel X.K X.mg Z φ S H) (dx : Dat X.K X.mg φ (gnd Z φ S H) (.oid n) u) (hS : S[n]? = some (.lst xs)) :
    ∃ l vs, u = .ref l ∧ H l = some (.lst vs) ∧ DatL X.K X.mg φ (gnd Z φ S H) xs vs ∧ ∀ ws x, DatL X.K X.mg φ (gnd Z φ S H) ys ws → Dat X.K X.mg φ (gnd Z φ S H) d x → Want X.K X.mg (RDat X.K X.mg) Z φ S H (.ok d (S.set n (.lst ys))) Q E → Q x (upd H l (.lst ws)) := by
  unfold Dat at dx
  obtain ⟨a, rfl, ha⟩ := dx
  obtain ⟨vs, h1, h2⟩ := R.ob n a _ ha hS
  refine ⟨a, vs, rfl, h1, h2, fun ws x hw hx w => ?_⟩
  obtain ⟨R3, E3⟩ := R.mutate (u := .lst ys) (ho := .lst ws) ha hS rfl rfl ⟨ws, upd_same, hw⟩
  exact w x φ _ R3 E3 (Dat.evo E3 hx)
theorem md_app : MethD X rAppend gApp := fun Z φ S H x u ds vs Q E R dx d w => by
  unfold gApp at w
  split at w
  · obtain ⟨v, rfl, h1⟩ := datL1 d
    split at w
    · rename_i xs hS
      obtain ⟨hl, w1⟩ := want_if w
      obtain ⟨l, us, rfl, h2, h3, fin⟩ := want_lst (Q := Q) (E := E) R dx hS
      exact ⟨l, us, v, rfl, rfl, h2, by rw [h3.length]; exact hl, fin _ _ (h3.append (.cons h1 DatL.nil)) dat_non w1⟩
    · exact w.elim
  · exact w.elim
theorem de_append {fa : FA} (ho : DE X W o fo) (ha : DA X W [e] fa) (hbase : attributeBase o "append" X.env (eval o X.env) = eval o X.env := by rfl)
    (hfew : ((backTo cpos (starEach [e] X.env)).all (fun x => !x.1) && (backToKw cpos (keywordEach [] X.env)).all (fun x => x.1.isSome) && decide ([e].length + ([] : List Keyword).length + (if ([] : List Keyword).isEmpty then 0 else 1) < 30)) = true := by rfl)
    (hline : (apos.endLine == cpos.line) = true := by rfl) (hs : starEach [e] X.env = (false, eval e X.env) :: starEach [] X.env := by rfl) (hplain : (backTo cpos (starEach [] X.env)).any (·.1) = false := by rfl) :
    DE X W (.Call (.Attribute o "append" apos) [e] [] cpos) (fBM "list" gApp fo fa) := de_bm PySem.F.plainAttrs_list PySem.F.slot_list_append PySem.F.type_list_append mt_append md_app (.inl rfl) ho ha hbase hfew hline hs hplain

/-! ### o[i] = e -/
def putKD (ks : List (Key × D)) (k : Key) (d : D) : List (Key × D) := if (ks.any fun q => decide (q.1 = k)) = true then ks.map (fun q => if q.1 = k then (q.1, d) else q) else ks ++ [(k, d)]
theorem datK_append {K : PySem.W.Frag} {mg : Str → Option Value} {φ : List Addr} {G : Hp} {k : Key} {d : D} {v : V} (hd : Dat K mg φ G d v) : ∀ {ks : List (Key × D)} {kvs : List (Key × V)}, DatK K mg φ G ks kvs → DatK K mg φ G (ks ++ [(k, d)]) (kvs ++ [(k, v)])
  | [], _, h => by
    unfold DatK at h
    subst h
    show DatK K mg φ G [(k, d)] [(k, v)]
    unfold DatK
    exact ⟨v, [], rfl, hd, by unfold DatK; rfl⟩
  | (j, e) :: ks, _, h => by
    unfold DatK at h
    obtain ⟨u, r, rfl, h1, h2⟩ := h
    show DatK K mg φ G ((j, e) :: (ks ++ [(k, d)])) ((j, u) :: (r ++ [(k, v)]))
    unfold DatK
    exact ⟨u, _, rfl, h1, datK_append hd h2⟩
theorem datK_put {K : PySem.W.Frag} {mg : Str → Option Value} {φ : List Addr} {G : Hp} {k : Key} {d : D} {v : V} (hd : Dat K mg φ G d v) {ks : List (Key × D)} {kvs : List (Key × V)} (h : DatK K mg φ G ks kvs) : DatK K mg φ G (putKD ks k d) (putK kvs k v) := by
  have any_eq : ∀ {ks : List (Key × D)} {kvs : List (Key × V)}, DatK K mg φ G ks kvs → (ks.any fun q => decide (q.1 = k)) = (kvs.any fun q => decide (q.1 = k)) := by
    intro ks
    induction ks with
    | nil =>
      intro kvs h
      unfold DatK at h
      subst h
      rfl
    | cons q ks ih =>
      intro kvs h
      obtain ⟨j, e⟩ := q
      unfold DatK at h
      obtain ⟨u, r, rfl, h1, h2⟩ := h
      rw [List.any_cons, List.any_cons, ih h2]
  have map_ok : ∀ {ks : List (Key × D)} {kvs : List (Key × V)}, DatK K mg φ G ks kvs → DatK K mg φ G (ks.map fun q => if q.1 = k then (q.1, d) else q) (kvs.map fun q => if q.1 = k then (q.1, v) else q) := by
    intro ks
    induction ks with
    | nil =>
      intro kvs h
      unfold DatK at h
      subst h
      unfold DatK
      rfl
    | cons q ks ih =>
      intro kvs h
      obtain ⟨j, e⟩ := q
      unfold DatK at h
      obtain ⟨u, r, rfl, h1, h2⟩ := h
      rw [List.map_cons, List.map_cons]
      by_cases hj : j = k
      · simp only [hj, if_true]
        unfold DatK
        exact ⟨v, _, rfl, hd, ih h2⟩
      · simp only [hj, if_false]
        unfold DatK
        exact ⟨u, _, rfl, h1, ih h2⟩
  unfold putKD putK
  rw [any_eq h]
  split
  · exact map_ok h
  · exact datK_append hd h
def rSetX (C : Prop) : TSet := fun o i v H Q => rSetL o i v H Q ∨ rSetD o i v H Q
theorem set_any (C : Cn X W k) : PSet X (rSetX True) := fun pins s σ H o i v ov iv u Q I ro ri rv h => h.elim (set_list pins s σ H o i v ov iv u Q I ro ri rv) (set_dict C.u1 pins s σ H o i v ov iv u Q I ro ri rv)
def storeAt (x y d : D) (S : Store) : Option Store := match x with
  | .oid n => match S[n]? with
    | some (.lst ds) => (match y with
      | .int i => (ixN ds.length i).map fun j => S.set n (.lst (ds.set j d))
      | _ => none)
    | some (.dic ks) => (match keyD y with
      | some q => if ks.length < sizeLine then some (S.set n (.dic (putKD ks q d))) else none
      | none => none)
    | _ => none
  | _ => none
theorem storeAt_ok {Z φ : List Addr} {S S' : Store} {H : Hp} {x y d : D} {o i v : V} {Q : Hp → Prop} (R : Rel X.K X.mg Z φ S H) (dx : Dat X.K X.mg φ (gnd Z φ S H) x o) (dy : Dat X.K X.mg φ (gnd Z φ S H) y i) (dd : Dat X.K X.mg φ (gnd Z φ S H) d v) (e : storeAt x y d S = some S')
    (hQ : ∀ H', Rel X.K X.mg Z φ S' H' → Evo Z φ S H φ S' H' → Q H') : rSetX True o i v H Q := by
  unfold storeAt at e
  split at e
  · rename_i n
    unfold Dat at dx
    obtain ⟨a, rfl, ha⟩ := dx
    split at e
    · rename_i ds hS
      split at e
      · rename_i j
        cases dInt dy
        obtain ⟨q, hq, e⟩ := Option.map_eq_some_iff.mp e
        subst e
        obtain ⟨vs, h1, h2⟩ := R.ob n a _ ha hS
        obtain ⟨R3, E3⟩ := R.mutate (u := .lst (ds.set q d)) (ho := .lst (vs.set q v)) ha hS rfl rfl ⟨_, upd_same, h2.set q dd⟩
        exact .inl ⟨a, vs, j, q, rfl, rfl, h1, by rw [h2.length]; exact hq, hQ _ R3 E3⟩
      · cases e
    · rename_i ks hS
      split at e
      · rename_i q hq
        split at e
        · rename_i hl
          cases e
          obtain ⟨kvs, h1, h2⟩ := R.ob n a _ ha hS
          obtain ⟨R3, E3⟩ := R.mutate (u := .dic (putKD ks q d)) (ho := .dK (putK kvs q v)) ha hS rfl rfl ⟨_, upd_same, datK_put dd h2⟩
          exact .inr ⟨a, _, rfl, .inl ⟨kvs, q, h1, keyD_ok dy hq, by rw [datK_length h2]; exact hl, rfl⟩, hQ _ R3 E3⟩
        · cases e
      · cases e
    · cases e
  · cases e
def gPut (fo fi fe : FE) : FS := fun ρ S => (fe ρ S).into ρ fun d S => (fo ρ S).into ρ fun x S => (fi ρ S).into ρ fun y S => match storeAt x y d S with
  | some S => .nx ρ S
  | none => .stuck
theorem ds_put (C : Cn X W k) {fi : FE} {i : Expr} {tpos : Pos} (ho : DE X W o fo) (hi : DE X W i fi) (he : DE X W e fe)
    (ha : ∀ v, assign (.Subscript o i tpos) X.env v = (do
      let ov ← holding [v] (eval o X.env)
      let iv ← holding [v, ov] (eval i X.env)
      standAt tpos
      holding [v, ov, iv] (setItem ov iv v)
      release [v, ov, iv] []) := by intro _; rfl) (hs : swapsWithSole [.Subscript o i tpos] e pos.line X.env = pure false := by rfl) (hw : swappedStores [.Subscript o i tpos] e X.env = pure none := by rfl)
    (h1 : (assignEach [.Subscript o i tpos] X.env).map (·.2) = [assign (.Subscript o i tpos) X.env] := by rfl) : DS X W (.Assign [.Subscript o i tpos] e pos) (gPut fo fi fe) := by
  obtain ⟨to, po, qo⟩ := ho.ex
  obtain ⟨ti, pi, qi⟩ := hi.ex
  obtain ⟨te, pe, qe⟩ := he.ex
  refine .mk (ps_asg pe (pg_sub po pi (set_any C) ha) hs hw h1) fun Z φ S ρ σ H Dd R sl w => qe Z φ S ρ σ H _ R sl (w.into sl fun d S1 v φ1 H1 R1 E1 dd w1 => ?_)
  refine qo Z φ1 S1 ρ σ H1 _ R1 (sl.evo E1) (w1.into (sl.evo E1) fun x S2 ov φ2 H2 R2 E2 dx w2 => ?_)
  refine qi Z φ2 S2 ρ σ H2 _ R2 ((sl.evo E1).evo E2) (w2.into ((sl.evo E1).evo E2) fun y S3 iv φ3 H3 R3 E3 dy w3 => ?_)
  cases hst : storeAt x y d S3 with
  | none => rw [hst] at w3; exact w3.elim
  | some S4 =>
    rw [hst] at w3
    exact storeAt_ok R3 (Dat.evo E3 dx) dy (Dat.evo E3 (Dat.evo E2 dd)) hst fun H4 R4 E4 => w3 σ φ3 H4 R4 E4 ((((sl.evo E1).evo E2).evo E3).evo E4)
/-- {} -/
def fDict0 : FE := fun _ S => .ok (.oid S.length) (S ++ [.dic []])
theorem de_dict0 : DE X W (.Dict [] [] pos) fDict0 := .mk pe_dnewK fun Z φ S ρ σ H Q R sl w => fun p hp => by
  obtain ⟨r, e⟩ := R.newOid (so := .dic []) (same_upd (o := .dK []) hp) hp (by rw [upd_same]; exact fun z => nomatch z) rfl ⟨[], upd_same, by unfold DatK; rfl⟩
  refine w _ _ _ r e ?_
  unfold RDat Dat
  exact ⟨p, rfl, by rw [List.getElem?_append_right (by rw [R.len]; exact Nat.le_refl _), ← R.len, Nat.sub_self]; rfl⟩
end
end DL

/-! The data layer, part 15: the law's end. -/
namespace DL
open PySem PySem.Spec PyProof.Rows L2

theorem rel_nil {K : PySem.W.Frag} {mg : Str → Option Value} {H : Hp} : Rel K mg [] [] [] H := ⟨rfl, List.nodup_nil, fun a h => by simp at h, fun a h => by simp at h, fun a h => by simp at h, fun n a o h => by simp at h⟩
theorem gnd_nil {H : Hp} : gnd [] [] [] H = H := by
  funext a
  unfold gnd without
  rw [if_neg (by simp [liveA])]
/-- the law's call, from its mirror -/
theorem law_runs {P : Program} {w : World} {K : PySem.W.Frag} {mg mb : Str → Option Value} {k : Nat} {fa a : Addr} {fd : FuncData} {x : Str} {sem : Sem'} {s1 : Shared} {vs : List Value} {ns : List Int}
    (kin : K.In s1.heap) (hns : s1.heap.Ns mainGlobals mg) (hb : s1.heap.Ns builtinsNs mb) (hbb : ∀ x : Str, x ≠ "__name__" → mb x = bootBuiltins x) (hlim : s1.heap.NoLimit) (gens : s1.gens = #[])
    (ha : s1.heap.get? a = some { cls := .type "list", data := .seq vs.toArray }) (hi : IntsAre vs ns) (hl : ns.length ≤ sizeLine) (room : Room k callerA)
    (F : ∀ base : Heap, K.In base → base.Ns mainGlobals mg → FnG P w K mg base k fa fd [x] (spD K mg 1 sem)) (hbind : ∀ (s : Shared) (u : Value), BindsTo s fd ⟨[u], []⟩ [(x, u)])
    (good : ∃ S, sem [.scr (ns.map D.int)] [] = .ok (.bl true) S) :
    codeAny (model P w) callerA (.call (.ref fa) ⟨[.ref a], []⟩) (fun r s' => r = .ok (.ret (.bool true)) ∧ OldK s1.heap s'.heap ∧ s'.os = s1.os ∧ AllBare s'.gens) s1 := by
  have rv := vals_ints hi
  have spq : ∀ H : Hp, SqL K H a (ns.map V.int) → spD K mg 1 sem [.ref a] H (fun v _ => v = .bl true) fun _ _ _ => False := fun H hq => by
    refine ⟨rfl, [], [], [], [.scr (ns.map D.int)], rel_nil, .cons ?_ DatL.nil, ?_⟩
    · unfold Dat
      exact ⟨a, _, rfl, by rw [gnd_nil]; exact hq, dat_ints ns⟩
    · obtain ⟨S, e⟩ := good
      rw [e]
      intro v φ' H' _ _ d
      unfold RDat Dat at d
      exact d
  -- nothing but the script may be tracked
  have main : ∀ H : Hp, Only H → SqL K H a (ns.map V.int) → HOk P w H s1.heap → (∀ b, H b ≠ none → b = a) → (H a ≠ none → K.lookup a = none) →
      codeAny (model P w) callerA (.call (.ref fa) ⟨[.ref a], []⟩) (fun r s' => r = .ok (.ret (.bool true)) ∧ OldK s1.heap s'.heap ∧ s'.os = s1.os ∧ AllBare s'.gens) s1 := by
    intro H only hq hok alone free
    have dic : ∀ {b : Addr} {o : Obj} {es : Array DictEntry} {ep : Nat}, s1.heap.get? b = some o → o.data = .dict es ep → H b = none := fun {b o es ep} e d => by
      cases q : H b with
      | none => rfl
      | some u =>
        cases alone b (by rw [q]; exact fun z => nomatch z)
        rw [ha] at e
        cases e
        exact nomatch (show Data.seq vs.toArray _ = Data.dict es ep from d)
    have ns2 : ∀ {b : Addr} {m : Str → Option Value}, s1.heap.Ns b m → (hidT s1.heap H).Ns b m := fun {b m} ⟨o, es, ep, e, d, r⟩ => ⟨o, es, ep, hidT_get e (dic e d), d, r⟩
    have kin2 : K.In (hidT s1.heap H) := fun b o e => hidT_get (kin b o e) (by
      cases q : H b with
      | none => rfl
      | some u =>
        cases alone b (by rw [q]; exact fun z => nomatch z)
        rw [free (by rw [q]; exact fun z => nomatch z)] at e
        cases e)
    obtain ⟨mc, c1, c2⟩ := hlim
    have env0 : Env0 P w K mg (hidT s1.heap H) callerA [] s1 H := ⟨rfl, ⟨kin2, ns2 hns, ⟨mb, ns2 hb, hbb⟩, ⟨mc, ns2 c1, c2⟩⟩, fun b o e => of_hidT e, Nat.le_of_eq (hidT_size _ _), trivial, fun b z => absurd (show b ∈ ([] : List Addr) from z) (by simp), hok, .of_eq gens⟩
    refine codeAny_mono ((F _ kin2 (ns2 hns)).run callerA [] s1 H ⟨[.ref a], []⟩ [.ref a] [.ref a] _ _ room rfl env0 (hbind s1 (.ref a)) (.cons rfl .nil) (spq H hq)) fun r s' h => ?_
    match r, h with
    | .error e, ⟨_, _, _, _, _, _, _, _, _, _, _, _, z⟩ => exact z.elim
    | .ok (.ret u), ⟨v, H', os, bare, un, hok', rr, q⟩ =>
      cases (show v = .bl true from q)
      obtain rfl : u = Value.bool true := rr
      refine ⟨rfl, OldK.of_keep fun b o e => ?_, os, bare⟩
      rcases only b with z | ⟨ob, xs, z⟩
      · exact un.keep b o e z (fun y => absurd (show b ∈ ([] : List Addr) from y) (by simp)) (by simp)
      · obtain ⟨e1, _⟩ := hok b _ z
        obtain ⟨e2, _⟩ := hok' b _ (un.frzs b ob _ z)
        rw [e] at e1
        cases e1
        exact e2
  cases kl : K.lookup a with
  | some o =>
    have e := kin a o kl
    rw [ha] at e
    cases e
    exact main (fun _ => none) (fun _ => .inl rfl) (.inr ⟨_, vs.toArray, _, kl, rfl, rfl, rfl, by rw [List.size_toArray, hi.length]; exact hl, by simpa using rv⟩) (fun b u z => nomatch (show (none : Option HO) = some u from z)) (fun b z => absurd rfl z) fun z => absurd rfl z
  | none =>
    have at_a : (fun b => if b = a then some (HO.frz { cls := .type "list", data := .seq vs.toArray } (.lst (ns.map V.int))) else none) a = some (HO.frz { cls := .type "list", data := .seq vs.toArray } (.lst (ns.map V.int))) := if_pos rfl
    refine main (fun b => if b = a then some (.frz { cls := .type "list", data := .seq vs.toArray } (.lst (ns.map V.int))) else none) (fun b => ?_) (.inl (.inr ⟨_, at_a⟩)) (fun b u z => ?_) (fun b z => ?_) fun _ => kl
    · by_cases q : b = a
      · exact .inr ⟨_, _, if_pos q⟩
      · exact .inl (if_neg q)
    · by_cases q : b = a
      · have z' := (if_pos q).symm.trans z
        cases z'
        subst q
        exact ⟨ha, by rw [List.length_map]; exact hl, vs, _, rv, ha⟩
      · exact nomatch (if_neg q).symm.trans z
    · by_cases q : b = a
      · exact q
      · exact absurd (if_neg q) z
/-- a law over a head by facts -/
theorem walk_ofG {l : PySem.W.OpenLaw} {n k : Nat} {q : Program} {loose : List Str} {XP : (Str → Option Value) → Heap → Prop} {YP : World → Heap → Prop} {d : DefRec} {x : Str} {sem : Sem'}
    (hn : l.most = some n) (hn2 : n ≤ sizeLine) (hdf : d.params.defaults = []) (room : Room k callerA) (good : ∀ ns : List Int, ns.length ≤ n → ∃ S, sem [.scr (ns.map D.int)] [] = .ok (.bl true) S)
    (F : ∀ (w : World) (mg : Str → Option Value) (fa : Addr) (h : Heap), YP w h → h.Ns mainGlobals mg → mg d.name = some (.ref fa) →
      ∃ (K : PySem.W.Frag) (fd : FuncData), K.In h ∧ (∀ (s : Shared) (u : Value), BindsTo s fd ⟨[u], []⟩ [(x, u)]) ∧ ∀ base : Heap, K.In base → base.Ns mainGlobals mg → FnG l.prog w K mg base k fa fd [x] (spD K mg 1 sem)) :
    PySem.W.WalkO q loose XP YP l.row.toRowW d [] (fun f vs => PySem.call f vs) := by
  refine Att.attach_call hn hdf fun w s0 s1 mg mb fa o pm cd doc a vs ns G Y ho hd hcd hmg hob hints hlen gens => ?_
  obtain ⟨K, fd, kin, hb, hF⟩ := F w mg fa _ Y G.T.g hmg
  exact law_runs kin G.T.g G.T.b G.T.builtins G.T.nolimit gens hob hints (Nat.le_trans hlen hn2) room hF hb (good ns hlen)
theorem de_none {X : Cx} {W : WX} {e : Expr} : DE X W e (fun _ _ => .stuck) := ⟨fun pins s σ H Q I ⟨Z, φ, S, ρ, R, sl, w⟩ => w.elim⟩
section
variable {X : Cx} {W : WX} {k : Nat}
/-- a comprehension; the block's context is handed in -/
theorem de_lcB (C : Cn X W k) {fin : Fin'} (hf : FinOk fin) {elt tg iter : Expr} {ifs : List Expr} {scope : Scope} {own : List (Str × Nat)} {pos : Pos} {fi : FI} {is : List Nat} {m : FG} {ft : FT} {fe : FE} (hi : DI X W tg iter fi) (ok : BlkOk X.N X.env.scope scope own)
    (hg : ∀ (s : Shared) (H : Hp) (Ca : Addr) (cl : List (Str × Addr)) (fp : List Addr), Cn (X.blk s H scope (compEnvC scope cl Ca X.env) fp) W0 k → DG (X.blk s H scope (compEnvC scope cl Ca X.env) fp) tg is m)
    (ht : ∀ (s : Shared) (H : Hp) (Ca : Addr) (cl : List (Str × Addr)) (fp : List Addr), Cn (X.blk s H scope (compEnvC scope cl Ca X.env) fp) W0 k → DTs (X.blk s H scope (compEnvC scope cl Ca X.env) fp) W0 ifs ft)
    (he : ∀ (s : Shared) (H : Hp) (Ca : Addr) (cl : List (Str × Addr)) (fp : List Addr), Cn (X.blk s H scope (compEnvC scope cl Ca X.env) fp) W0 k → DE (X.blk s H scope (compEnvC scope cl Ca X.env) fp) W0 elt fe)
    (hio : ∀ i ∈ is, i ∈ own.map (·.2) := by decide) (hs : ∀ x, foldedSetIterable iter X.env x = pure x := by intro _; rfl) :
    DE X W (.ListComp elt [⟨tg, iter, ifs, 0⟩] scope pos) (fComp fi m ft fe (own.map (·.2)) fin) :=
  de_lc C hf hi ok (fun s H Ca cl fp => hg s H Ca cl fp C.blk) (fun s H Ca cl fp => ht s H Ca cl fp C.blk) (fun s H Ca cl fp => he s H Ca cl fp C.blk) hio hs
theorem ds_setLcB (C : Cn X W k) {fin : Fin'} (hf : FinOk fin) {i : Nat} {y : Str} {py spos : Pos} {elt tg iter : Expr} {ifs : List Expr} {scope : Scope} {own : List (Str × Nat)} {pos : Pos} {fi : FI} {is : List Nat} {m : FG} {ft : FT} {fe : FE} (hy : X.N[i]? = some y) (hyl : X.env.scope.names.lookup y = some .local)
    (hsw : swapsWith (.ListComp elt [⟨tg, iter, ifs, 0⟩] scope pos) (some (.Name y py)) spos.line X.env = pure true) (hi : DI X W tg iter fi) (ok : BlkOk X.N X.env.scope scope own)
    (hg : ∀ (s : Shared) (H : Hp) (Ca : Addr) (cl : List (Str × Addr)) (fp : List Addr), Cn (X.blk s H scope (compEnvC scope cl Ca X.env) fp) W0 k → DG (X.blk s H scope (compEnvC scope cl Ca X.env) fp) tg is m)
    (ht : ∀ (s : Shared) (H : Hp) (Ca : Addr) (cl : List (Str × Addr)) (fp : List Addr), Cn (X.blk s H scope (compEnvC scope cl Ca X.env) fp) W0 k → DTs (X.blk s H scope (compEnvC scope cl Ca X.env) fp) W0 ifs ft)
    (he : ∀ (s : Shared) (H : Hp) (Ca : Addr) (cl : List (Str × Addr)) (fp : List Addr), Cn (X.blk s H scope (compEnvC scope cl Ca X.env) fp) W0 k → DE (X.blk s H scope (compEnvC scope cl Ca X.env) fp) W0 elt fe)
    (hio : ∀ i ∈ is, i ∈ own.map (·.2) := by decide) (hs : ∀ x, foldedSetIterable iter X.env x = pure x := by intro _; rfl) :
    DS X W (.Assign [.Name y py] (.ListComp elt [⟨tg, iter, ifs, 0⟩] scope pos) spos) (gSet i (fComp fi m ft fe (own.map (·.2)) fin)) :=
  ds_setLc C hf hy hyl hsw hi ok (fun s H Ca cl fp => hg s H Ca cl fp C.blk) (fun s H Ca cl fp => ht s H Ca cl fp C.blk) (fun s H Ca cl fp => he s H Ca cl fp C.blk) hio hs
end
end DL

/-! The data layer, part 16: dict comprehensions, augmented assignment, list.index. -/
namespace DL
open PySem PySem.Spec PyProof.Rows L2
section
variable {X : Cx} {W : WX} {k : Nat}
end
end DL

/-! The data layer, part 17: list.index, name op= e. -/
namespace DL
open PySem PySem.Spec PyProof.Rows L2
section
variable {X : Cx} {W : WX} {k : Nat} {o e : Expr} {fo fe : FE} {pos apos cpos : Pos}
theorem Cn.u65 (C : Cn X W k) : X.A.units + 65 < cLine := by have := C.room.un; omega
/-! ### name op= e -/
def gIp (f : Int → Int → Int) : G2 := fun x y S => match x, y with
  | .int i, .int j => .ok (.int (f i j)) S
  | _, _ => .stuck
def gAug (i : Nat) (fe : FE) (g : G2) : FS := fun ρ S => match ρ[i]? with
  | some (some x) => (fe ρ S).into ρ fun y S => (g x y S).into ρ fun z S => .nx (ρ.set i (some z)) S
  | _ => .stuck
end
end DL

/-! The data layer, part 18: own classes as values, isinstance with them, == by an own __eq__, a head with more facts. -/
namespace DL
open PySem PySem.Spec PyProof.Rows L2
/-- what isinstance(x, C) asks of the text's own class C -/
structure IsiC (K : PySem.W.Frag) (C : Addr) : Prop where
  ha : PySem.W.findIn K (.ref C) "__class__" = some (some (.builtin "object.__class__"))
  hn : PySem.W.specialIn K (.builtin "object.__class__") "__get__" = some (some (.builtin "getset_descriptor.__get__"))
  htk : PySem.W.takesIn K (.builtin "object.__class__") = some true
  hm : PySem.W.mroIn K C (.type "object") = some true
section
variable {X : Cx} {W : WX} {k : Nat} {e b : Expr} {pos p : Pos}
/-- an own class as a value -/
theorem de_own {x : Str} {C : Addr} (hg : Gl X x) (hm : X.mg x = some (.ref C)) (hd : (x == ("__debug__" : Str)) = false := by decide) : DE X W (.Name x pos) (fC (.cls x)) :=
  de_c (pe_glob (v := .ref C) hg hm rfl hd) rfl fun _ _ => by unfold Dat; exact ⟨C, rfl, hm⟩
/-! ### == by an own __eq__ that answers True -/
end
/-! ### a head with more facts -/
end DL

/-! The data layer, part 19: freezing to the bottom. -/
namespace DL
open PySem PySem.Spec PyProof.Rows L2
def frzL (f : D → Store → Option (D × Store)) : List D → Store → Option (List D × Store)
  | [], S => some ([], S)
  | d :: ds, S => match f d S with
    | some (e, S1) => (match frzL f ds S1 with
      | some (es, S2) => some (e :: es, S2)
      | none => none)
    | none => none
def frzF {α : Type} (f : D → Store → Option (D × Store)) : List (α × D) → Store → Option (List (α × D) × Store)
  | [], S => some ([], S)
  | (x, d) :: ds, S => match f d S with
    | some (e, S1) => (match frzF f ds S1 with
      | some (es, S2) => some ((x, e) :: es, S2)
      | none => none)
    | none => none
def frzD : Nat → D → Store → Option (D × Store)
  | 0, _, _ => none
  | k + 1, d, S => match d with
    | .tup ds => (frzL (frzD k) ds S).map fun q => (.tup q.1, q.2)
    | .lst ds => (frzL (frzD k) ds S).map fun q => (.lst q.1, q.2)
    | .dic ks => (frzF (frzD k) ks S).map fun q => (.dic q.1, q.2)
    | .ins C fs => (frzF (frzD k) fs S).map fun q => (.ins C q.1, q.2)
    | .oid n => (match S[n]? with
      | some (.lst ds) => (frzL (frzD k) ds S).map fun q => (.lst q.1, q.2.set n (.frz (.lst q.1)))
      | some (.dic ks) => (frzF (frzD k) ks S).map fun q => (.dic q.1, q.2.set n (.frz (.dic q.1)))
      | some (.ins C fs) => (frzF (frzD k) fs S).map fun q => (.ins C q.1, q.2.set n (.frz (.ins C q.1)))
      | some (.frz d) => frzD k d S
      | some (.tbl _ _) => none
      | some (.dkt _) => none
      | none => none)
    | d => some (d, S)
section
variable {K : PySem.W.Frag} {mg : Str → Option Value} {Z φ : List Addr} {H : Hp}
/-- a freezing that is right -/
def FrzOk (K : PySem.W.Frag) (mg : Str → Option Value) (Z φ : List Addr) (H : Hp) (f : D → Store → Option (D × Store)) : Prop := ∀ (d e : D) (S S' : Store) (v : V), f d S = some (e, S') → Rel K mg Z φ S H → Dat K mg φ (gnd Z φ S H) d v →
  Rel K mg Z φ S' H ∧ Evo Z φ S H φ S' H ∧ Dat K mg φ (gnd Z φ S' H) e v
theorem frzL_ok {f : D → Store → Option (D × Store)} (hf : FrzOk K mg Z φ H f) : ∀ (ds es : List D) (S S' : Store) (vs : List V), frzL f ds S = some (es, S') → Rel K mg Z φ S H → DatL K mg φ (gnd Z φ S H) ds vs →
    Rel K mg Z φ S' H ∧ Evo Z φ S H φ S' H ∧ DatL K mg φ (gnd Z φ S' H) es vs
  | [], es, S, S', vs, h, R, d => by
    cases h
    exact ⟨R, Evo.refl, d⟩
  | d :: ds, es, S, S', vs, h, R, q => by
    obtain ⟨v, r, rfl, q1, q2⟩ := q.uncons
    unfold frzL at h
    cases h1 : f d S with
    | none => rw [h1] at h; cases h
    | some p =>
      obtain ⟨e, S1⟩ := p
      rw [h1] at h
      obtain ⟨R1, E1, d1⟩ := hf _ _ _ _ _ h1 R q1
      cases h2 : frzL f ds S1 with
      | none => simp only [h2] at h; cases h
      | some p =>
        obtain ⟨es', S2⟩ := p
        simp only [h2] at h
        cases h
        obtain ⟨R2, E2, d2⟩ := frzL_ok hf _ _ _ _ _ h2 R1 (DatL.evo E1 q2)
        exact ⟨R2, E1.trans E2, .cons (Dat.evo E2 d1) d2⟩
theorem frzF_okK {f : D → Store → Option (D × Store)} (hf : FrzOk K mg Z φ H f) : ∀ (ds es : List (Key × D)) (S S' : Store) (vs : List (Key × V)), frzF f ds S = some (es, S') → Rel K mg Z φ S H → DatK K mg φ (gnd Z φ S H) ds vs →
    Rel K mg Z φ S' H ∧ Evo Z φ S H φ S' H ∧ DatK K mg φ (gnd Z φ S' H) es vs
  | [], es, S, S', vs, h, R, d => by
    cases h
    exact ⟨R, Evo.refl, d⟩
  | (x, d) :: ds, es, S, S', vs, h, R, q => by
    unfold DatK at q
    obtain ⟨v, r, rfl, q1, q2⟩ := q
    unfold frzF at h
    cases h1 : f d S with
    | none => rw [h1] at h; cases h
    | some p =>
      obtain ⟨e, S1⟩ := p
      rw [h1] at h
      obtain ⟨R1, E1, d1⟩ := hf _ _ _ _ _ h1 R q1
      cases h2 : frzF f ds S1 with
      | none => simp only [h2] at h; cases h
      | some p =>
        obtain ⟨es', S2⟩ := p
        simp only [h2] at h
        cases h
        obtain ⟨R2, E2, d2⟩ := frzF_okK hf _ _ _ _ _ h2 R1 (DatK.mono E1.pre E1.ext _ _ q2)
        refine ⟨R2, E1.trans E2, ?_⟩
        unfold DatK
        exact ⟨v, r, rfl, Dat.evo E2 d1, d2⟩
theorem frzF_okF {f : D → Store → Option (D × Store)} (hf : FrzOk K mg Z φ H f) : ∀ (ds es : List (Str × D)) (S S' : Store) (vs : List (Str × V)), frzF f ds S = some (es, S') → Rel K mg Z φ S H → DatF K mg φ (gnd Z φ S H) ds vs →
    Rel K mg Z φ S' H ∧ Evo Z φ S H φ S' H ∧ DatF K mg φ (gnd Z φ S' H) es vs
  | [], es, S, S', vs, h, R, d => by
    cases h
    exact ⟨R, Evo.refl, d⟩
  | (x, d) :: ds, es, S, S', vs, h, R, q => by
    unfold DatF at q
    obtain ⟨v, r, rfl, q1, q2⟩ := q
    unfold frzF at h
    cases h1 : f d S with
    | none => rw [h1] at h; cases h
    | some p =>
      obtain ⟨e, S1⟩ := p
      rw [h1] at h
      obtain ⟨R1, E1, d1⟩ := hf _ _ _ _ _ h1 R q1
      cases h2 : frzF f ds S1 with
      | none => simp only [h2] at h; cases h
      | some p =>
        obtain ⟨es', S2⟩ := p
        simp only [h2] at h
        cases h
        obtain ⟨R2, E2, d2⟩ := frzF_okF hf _ _ _ _ _ h2 R1 (DatF.mono E1.pre E1.ext _ _ q2)
        refine ⟨R2, E1.trans E2, ?_⟩
        unfold DatF
        exact ⟨v, r, rfl, Dat.evo E2 d1, d2⟩
theorem map_some' {α β : Type} {o : Option α} {f : α → β} {b : β} (h : o.map f = some b) : ∃ a, o = some a ∧ f a = b := by
  cases o with
  | none => cases h
  | some a => exact ⟨a, rfl, Option.some.inj h⟩
theorem frzD_ok : ∀ k : Nat, FrzOk K mg Z φ H (frzD k)
  | 0 => fun d e S S' v h => by cases h
  | k + 1 => fun d e S S' v h R q => by
    have ih := frzD_ok k
    unfold frzD at h
    cases d with
    | tup ds =>
      obtain ⟨⟨es, S1⟩, h1, h2⟩ := map_some' h
      cases h2
      have q0 := q
      unfold Dat at q
      obtain ⟨a, vs, rfl, p1, p2⟩ := q
      obtain ⟨R1, E1, d1⟩ := frzL_ok ih _ _ _ _ _ h1 R p2
      refine ⟨R1, E1, ?_⟩
      unfold Dat
      exact ⟨a, vs, rfl, sqt_mono E1.ext p1, d1⟩
    | lst ds =>
      obtain ⟨⟨es, S1⟩, h1, h2⟩ := map_some' h
      cases h2
      unfold Dat at q
      obtain ⟨a, vs, rfl, p1, p2⟩ := q
      obtain ⟨R1, E1, d1⟩ := frzL_ok ih _ _ _ _ _ h1 R p2
      refine ⟨R1, E1, ?_⟩
      unfold Dat
      exact ⟨a, vs, rfl, E1.ext _ _ p1, d1⟩
    | dic ds =>
      obtain ⟨⟨es, S1⟩, h1, h2⟩ := map_some' h
      cases h2
      unfold Dat at q
      obtain ⟨a, vs, rfl, p1, p2⟩ := q
      obtain ⟨R1, E1, d1⟩ := frzF_okK ih _ _ _ _ _ h1 R p2
      refine ⟨R1, E1, ?_⟩
      unfold Dat
      exact ⟨a, vs, rfl, E1.ext _ _ p1, d1⟩
    | ins C ds =>
      obtain ⟨⟨es, S1⟩, h1, h2⟩ := map_some' h
      cases h2
      unfold Dat at q
      obtain ⟨a, A, dx, vs, rfl, p0, p1, p2⟩ := q
      obtain ⟨R1, E1, d1⟩ := frzF_okF ih _ _ _ _ _ h1 R p2
      refine ⟨R1, E1, ?_⟩
      unfold Dat
      exact ⟨a, A, dx, vs, rfl, p0, E1.ext _ _ p1, d1⟩
    | oid n =>
      unfold Dat at q
      obtain ⟨a, rfl, ha⟩ := q
      simp only at h
      cases hS : S[n]? with
      | none => rw [hS] at h; cases h
      | some so =>
        rw [hS] at h
        have ok := R.ob n a so ha hS
        cases so with
        | lst ds =>
          obtain ⟨⟨es, S1⟩, h1, h2⟩ := map_some' h
          cases h2
          obtain ⟨vs, p1, p2⟩ := ok
          obtain ⟨R1, E1, d1⟩ := frzL_ok ih _ _ _ _ _ h1 R p2
          have dn : Dat K mg φ (gnd Z φ (S1.set n (.frz (.lst es))) H) (.lst es) (.ref a) := by
            unfold Dat
            exact ⟨a, vs, rfl, gnd_frz R1 ha p1, DatL.mono (List.prefix_refl _) evo_frz _ _ d1⟩
          obtain ⟨R2, E2⟩ := R1.freeze ha dn
          exact ⟨R2, E1.trans E2, dn⟩
        | dic ds =>
          obtain ⟨⟨es, S1⟩, h1, h2⟩ := map_some' h
          cases h2
          obtain ⟨vs, p1, p2⟩ := ok
          obtain ⟨R1, E1, d1⟩ := frzF_okK ih _ _ _ _ _ h1 R p2
          have dn : Dat K mg φ (gnd Z φ (S1.set n (.frz (.dic es))) H) (.dic es) (.ref a) := by
            unfold Dat
            exact ⟨a, vs, rfl, gnd_frz R1 ha p1, DatK.mono (List.prefix_refl _) evo_frz _ _ d1⟩
          obtain ⟨R2, E2⟩ := R1.freeze ha dn
          exact ⟨R2, E1.trans E2, dn⟩
        | ins C ds =>
          obtain ⟨⟨es, S1⟩, h1, h2⟩ := map_some' h
          cases h2
          obtain ⟨A, dx, vs, p0, p1, p2⟩ := ok
          obtain ⟨R1, E1, d1⟩ := frzF_okF ih _ _ _ _ _ h1 R p2
          have dn : Dat K mg φ (gnd Z φ (S1.set n (.frz (.ins C es))) H) (.ins C es) (.ref a) := by
            unfold Dat
            exact ⟨a, A, dx, vs, rfl, p0, gnd_frz R1 ha p1, DatF.mono (List.prefix_refl _) evo_frz _ _ d1⟩
          obtain ⟨R2, E2⟩ := R1.freeze ha dn
          exact ⟨R2, E1.trans E2, dn⟩
        | frz d => exact ih _ _ _ _ _ h R ok
        | tbl _ _ => cases h
        | dkt _ => cases h
    | non => cases h; exact ⟨R, Evo.refl, q⟩
    | bl _ => cases h; exact ⟨R, Evo.refl, q⟩
    | int _ => cases h; exact ⟨R, Evo.refl, q⟩
    | str _ => cases h; exact ⟨R, Evo.refl, q⟩
    | ty _ => cases h; exact ⟨R, Evo.refl, q⟩
    | cls _ => cases h; exact ⟨R, Evo.refl, q⟩
    | scr _ => cases h; exact ⟨R, Evo.refl, q⟩
    | exc _ _ => cases h; exact ⟨R, Evo.refl, q⟩
end
section
variable {X : Cx} {W : WX} {k : Nat} {e : Expr} {fe : FE}
def fFrzD (n : Nat) (f : FE) : FE := fun ρ S => (f ρ S).bind fun d S => match frzD n d S with
  | some (e, S) => .ok e S
  | none => .stuck
theorem de_frzD (n : Nat) (h : DE X W e fe) : DE X W e (fFrzD n fe) := by
  obtain ⟨t, p, q⟩ := h.ex
  refine .mk p (fun Z φ S ρ σ H Q R sl w => q Z φ S ρ σ H _ R sl (w.bind fun d S1 v φ1 H1 R1 E1 dd w1 => ?_))
  cases hz : frzD n d S1 with
  | none => simp only [hz] at w1; exact w1.elim
  | some p =>
    obtain ⟨e', S2⟩ := p
    simp only [hz] at w1
    obtain ⟨R2, E2, d2⟩ := frzD_ok n _ _ _ _ _ hz R1 dd
    exact w1 _ φ1 H1 R2 E2 d2
end
end DL

/-! The data layer, part 20: name = {k: v for ..}, the name a local that is not captured. -/
namespace DL
open PySem PySem.Spec PyProof.Rows L2
section
variable {X : Cx} {W : WX} {k : Nat}
end
end DL

/-! The data layer, part 21: a comprehension within a comprehension. -/
namespace DL
open PySem PySem.Spec PyProof.Rows L2
section
variable {X : Cx} {W : WX} {k : Nat}
end
end DL

/-! The data layer, part 22: list.pop, list(range(..)), zip, slices. -/
namespace DL
open PySem PySem.Spec PyProof.Rows L2
section
variable {X : Cx} {W : WX} {k : Nat} {o e : Expr} {fo fe : FE} {pos apos cpos p p2 : Pos}
/-! ### xs.pop(i), xs.pop() -/
/-! ### list(range(n)) -/
/-! ### zip -/
def zipD : List D → List D → List D := List.zipWith fun x y => .tup [x, y]
theorem zipD_get {xs ys : List D} {i : Nat} {d : D} (h : (zipD xs ys)[i]? = some d) : ∃ x y, xs[i]? = some x ∧ ys[i]? = some y ∧ d = .tup [x, y] := by
  unfold zipD at h
  rw [List.getElem?_zipWith] at h
  split at h
  · rename_i x y h1 h2
    cases h
    exact ⟨x, y, h1, h2, rfl⟩
  · cases h
theorem gnd_some {Z φ : List Addr} {S : Store} {H : Hp} {a : Addr} {u : HO} (h : gnd Z φ S H a = some u) : H a = some u := (without_some.mp h).2
/-! ### slices -/
def cutD (xs : List D) (lo hi : Option Int) : List D := (xs.drop (HT.sIx xs.length 0 lo)).take (HT.sIx xs.length xs.length hi - HT.sIx xs.length 0 lo)
def gSl (x : D) (lo hi : Option Int) (S : Store) : Res D := match x with
  | .tup xs => if HT.sIx xs.length 0 lo = 0 ∧ HT.sIx xs.length xs.length hi = xs.length then .stuck else .ok (.tup (cutD xs lo hi)) S
  | d => match asL S d with
    | some xs => .ok (.lst (cutD xs lo hi)) S
    | none => .stuck
abbrev FO := EnvD → Store → Res (Option Int)
def fPartN : FO := fun _ S => .ok none S
def fPart (f : FE) : FO := fun ρ S => (f ρ S).bind fun d S => match d with
  | .int i => .ok (some i) S
  | _ => .stuck
def tDO (K : PySem.W.Frag) (mg : Str → Option Value) (W : WX) (f : FO) : TO := fun σ H Q => ∃ Z φ S ρ, Rel K mg Z φ S H ∧ Slots K mg φ (gnd Z φ S H) ρ σ ∧ Want K mg REq Z φ S H (f ρ S) Q (WE W σ)
def DO (X : Cx) (W : WX) (e : Option Expr) (f : FO) : Prop := PO X e (tDO X.K X.mg W f)
theorem do_none : DO X W none fPartN := ⟨fun pins s σ H Q I h => (po_none (X := X)).run pins s σ H Q I (by
  obtain ⟨Z, φ, S, ρ, R, sl, w⟩ := h
  exact w.now R rfl)⟩
theorem do_some (he : DE X W e fe) : DO X W (some e) (fPart fe) := by
  obtain ⟨t, pe, q⟩ := he.ex
  refine ⟨fun pins s σ H Q I h => (po_some pe).run pins s σ H Q I ?_⟩
  obtain ⟨Z, φ, S, ρ, R, sl, w⟩ := h
  refine q Z φ S ρ σ H _ R sl (w.bind fun d S1 v φ1 H1 R1 E1 dd w1 => ?_)
  cases d with
  | int i =>
    cases dInt dd
    exact ⟨i, rfl, w1.now R1 rfl⟩
  | _ => exact w1.elim
def fSl (fx : FE) (fl fh : FO) : FE := fun ρ S => (fx ρ S).bind fun x S => (fl ρ S).bind fun l S => (fh ρ S).bind fun h S => gSl x l h S
theorem cut_dat {φ : List Addr} {G : Hp} {xs : List D} {vs : List V} (h : DatL X.K X.mg φ G xs vs) (lo hi : Option Int) : DatL X.K X.mg φ G (cutD xs lo hi) (cutV vs lo hi) := by
  unfold cutD cutV
  rw [h.length]
  exact (h.drop _).take _
theorem de_slice {lo hi : Option Expr} {fl fh : FO} (hx : DE X W e fe) (hl : DO X W lo fl) (hh : DO X W hi fh) : DE X W (.Subscript e (.Slice lo hi none p2) pos) (fSl fe fl fh) := by
  obtain ⟨t, pe, q⟩ := hx.ex
  refine .mk (pe_slice (sl_tup.or sl_list) pe hl hh) fun Z φ S ρ σ H Q R sl w => q Z φ S ρ σ H _ R sl (w.bind fun x S1 v φ1 H1 R1 E1 d w1 => ?_)
  refine ⟨Z, φ1, S1, ρ, R1, sl.evo E1, w1.bind fun l S2 l' φ2 H2 R2 E2 el w2 => ?_⟩
  cases el
  refine ⟨Z, φ2, S2, ρ, R2, (sl.evo E1).evo E2, w2.bind fun h S3 h' φ3 H3 R3 E3 eh w3 => ?_⟩
  cases eh
  have d3 : Dat X.K X.mg φ3 (gnd Z φ3 S3 H3) x v := Dat.evo E3 (Dat.evo E2 d)
  unfold gSl at w3
  split at w3
  · rename_i xs
    by_cases hc : HT.sIx xs.length 0 l = 0 ∧ HT.sIx xs.length xs.length h = xs.length
    · rw [if_pos hc] at w3
      exact w3.elim
    · rw [if_neg hc] at w3
      unfold Dat at d3
      obtain ⟨a, vs, rfl, q1, q2⟩ := d3
      refine .inl ⟨a, vs, rfl, sqt_mono (fun b u hb => gnd_some hb) q1, by rw [q2.length]; exact hc, fun p hp => ?_⟩
      obtain ⟨r, e, g⟩ := dat_newT R3 (cut_dat q2 l h) hp
      exact w3 _ _ _ r e g
  · split at w3
    · rename_i xs hq
      obtain ⟨a, vs, rfl, q1, q2⟩ := asL_ok R3 d3 hq
      refine .inr ⟨a, vs, rfl, q1, fun p hp => ?_⟩
      obtain ⟨r, e, g⟩ := dat_newL R3 (cut_dat q2 l h) hp
      exact w3 _ _ _ r e g
    · exact w3.elim
end
end DL

/-! The data layer, part 23: dict.get. -/
namespace DL
open PySem PySem.Spec PyProof.Rows L2
section
variable {X : Cx} {W : WX} {k : Nat} {o e f : Expr} {fo fe ff : FE} {pos apos cpos p p2 : Pos}
def gGet (x y z : D) (S : Store) : Res D := match asD S x, keyD y with
  | some ks, some j => .ok ((valD ks j).getD z) S
  | _, _ => .stuck
def fGet1 (fo fe : FE) : FE := fun ρ S => (fo ρ S).bind fun x S => if (asD S x).isSome then (fe ρ S).bind fun y S => gGet x y .non S else .stuck
def fGet2 (fo fe ff : FE) : FE := fun ρ S => (fo ρ S).bind fun x S => if (asD S x).isSome then (fe ρ S).bind fun y S => (ff ρ S).bind fun z S => gGet x y z S else .stuck
end
end DL

/-! The data layer, part 24: a, b = e, f and a, b, c = e, f, g, all names locals that are not captured. -/
namespace DL
open PySem PySem.Spec PyProof.Rows L2
section
variable {X : Cx} {W : WX} {k : Nat} {a b c : Expr} {pos : Pos}
def gPar (i j : Nat) (fa : FA) : FS := fun ρ S => (fa ρ S).into ρ fun ds S => match ds with
  | [x, y] => .nx ((ρ.set i (some x)).set j (some y)) S
  | _ => .stuck
theorem ds_par (C : Cn X W k) {i j : Nat} {x y : Str} {fa : FA} {px py pt : Pos} {kt k2 pt2} (hi : X.N[i]? = some x) (hj : X.N[j]? = some y) (hij : i ≠ j)
    (hx : X.env.scope.names.lookup x = some .local) (hy : X.env.scope.names.lookup y = some .local) (ha : DA X W [a, b] fa)
    (hw : swappedStores [.Tuple [.Name x px, .Name y py] kt pt] (.Tuple [a, b] k2 pt2) X.env = pure (some [x, y]))
    (hs : swapsWithSole [.Tuple [.Name x px, .Name y py] kt pt] (.Tuple [a, b] k2 pt2) pos.line X.env = pure false := by rfl) :
    DS X W (.Assign [.Tuple [.Name x px, .Name y py] kt pt] (.Tuple [a, b] k2 pt2) pos) (gPar i j fa) := by
  obtain ⟨t, p, q⟩ := ha.ex
  refine .mk (ps_par C.calm C.nd hi hj hij hx hy p hw hs) fun Z φ S ρ σ H Dd R sl w => q Z φ S ρ σ H _ R sl (w.into sl fun ds S1 vs φ1 H1 R1 E1 d w1 => ?_)
  split at w1
  · obtain ⟨u, v, rfl, h1, h2⟩ := datL2 d
    exact ⟨u, v, rfl, w1 _ φ1 H1 R1 Evo.refl (((sl.evo E1).set h1).set h2)⟩
  · exact w1.elim
end
end DL

/-! The data layer, part 25: () + t. -/
namespace DL
open PySem PySem.Spec PyProof.Rows L2
section
variable {X : Cx} {W : WX} {a b : Expr} {fa fb : FE} {pos : Pos}
end
end DL

/-! The data layer, part 26: len(x) by an own __len__. -/
namespace DL
open PySem PySem.Spec PyProof.Rows L2
section
variable {X : Cx} {W : WX} {k n : Nat} {e : Expr} {pos p : Pos} {C f : Addr} {fd : FuncData} {ps : List Str} {sem : Sem'}
end
end DL

/-! The data layer, part 27: list(zip(xs, ys)). -/
namespace PySem
open PySem.Spec PySem.Calls PyProof.Rows PySem.W L2
namespace F
end F
section
variable {prog : Program} {w : World} {A : Around} {E : Value → Shared → Prop} {s : Shared}
/-- an iterator that lays a new object at each turn -/
structure NewSrc (prog : Program) (w : World) (A : Around) (e : Addr) (wr fp : List Addr) (n : Nat) (PT : Nat → Obj → Prop) (St : Nat → Heap → Prop) : Prop where
  frame : ∀ i h h' S, St i h → S ∉ fp → (∀ b o, b ≠ S → h.get? b = some o → h'.get? b = some o) → (∀ o, h.get? S = some o → ∃ o', h'.get? S = some o') → St i h'
  item : ∀ i (s : Shared) (Q : Option Value → Shared → Prop) (E : Value → Shared → Prop), i < n → St i s.heap →
    (∀ h' tk o, PT i o → St (i + 1) h' → h'.get? s.heap.objs.size = some o → h'.objs.size = s.heap.objs.size + 1 → (∀ b o, b ∉ wr → s.heap.get? b = some o → h'.get? b = some o) → Q (some (.ref s.heap.objs.size)) { s with heap := h', toks := tk }) → wpAny (model prog w) A (pyNext (.ref e)) Q E s
  done : ∀ (s : Shared) (Q : Option Value → Shared → Prop) (E : Value → Shared → Prop), St n s.heap → (∀ h' tk, (∀ b o, b ∉ wr → s.heap.get? b = some o → h'.get? b = some o) → Q none { s with heap := h', toks := tk }) → wpAny (model prog w) A (pyNext (.ref e)) Q E s
  sub : ∀ b ∈ wr, b ∈ fp
/-- the objects laid so far -/
structure NwG (PT : Nat → Obj → Prop) (lo : Addr) (h : Heap) (as : List Addr) : Prop where
  asc : as.Pairwise (· < ·)
  above : ∀ a ∈ as, lo < a
  at_ : ∀ (j : Nat) (a : Addr), as[j]? = some a → ∃ o, PT j o ∧ h.get? a = some o
/-- a zip of two lists, at any turn -/
def ZpAt (z TI TO i1 i2 l1 l2 : Addr) (xs ys : Array Value) (i : Nat) (h : Heap) : Prop := IsPair h TI (.ref i1) (.ref i2) ∧ h.IsListIter i1 l1 i ∧ h.IsListIter i2 l2 i ∧ h.IsList l1 xs ∧ h.IsList l2 ys ∧
  ((IsZip h z TI TO .none ∧ ∃ a b, IsPair h TO a b) ∨ ∃ T f oT, IsZipHeld h z TI TO T f ∧ h.get? T = some oT ∧ T ≠ z ∧ T ≠ i1 ∧ T ≠ i2)
theorem ZpAt.type {z TI TO i1 i2 l1 l2 : Addr} {xs ys : Array Value} {i : Nat} (x : ZpAt z TI TO i1 i2 l1 l2 xs ys i s.heap) : s.TypeIs (.ref z) "zip" := by
  rcases x.2.2.2.2.2 with ⟨hz, _⟩ | ⟨T, f, oT, hz, _⟩ <;> exact ⟨_, hz, rfl⟩
end
end PySem

/-! The data layer, part 28: list(zip(xs, ys)) on data. -/
namespace DL
open PySem PySem.Spec PyProof.Rows L2
section
variable {K : PySem.W.Frag} {mg : Str → Option Value} {Z φ : List Addr} {S : Store}
end
section
variable {X : Cx} {W : WX} {k : Nat} {a b : Expr} {fa : FA} {pos p p2 q2 : Pos}
def gLZip : GC := fun ds S => match ds with
  | [.lst xs, .lst ys] => .ok (.lst (zipD xs ys)) S
  | _ => .stuck
@[simp] theorem e_gLZip (xs ys : List D) (S : Store) : gLZip [.lst xs, .lst ys] S = .ok (.lst (zipD xs ys)) S := rfl
end
end DL

/-! The data layer, part 29: the whole of a tuple as a slice; t[::-1]; int(truth). -/
namespace HT
open PySem PySem.Spec PyProof.Rows
section
variable {prog : Program} {w : World} {A : Around} {E : Value → Shared → Prop} {s : Shared}
end
end HT
namespace L2
open PySem PySem.Spec PyProof.Rows
section
variable {X : Cx}
end
end L2
namespace DL
open PySem PySem.Spec PyProof.Rows L2
section
variable {X : Cx} {W : WX} {k : Nat} {e : Expr} {fe : FE} {pos p p1 p2 p3 : Pos}
def gRevT (x : D) (S : Store) : Res D := match x with
  | .tup xs => .ok (.tup xs.reverse) S
  | _ => .stuck
/-- slices, the whole of a tuple too -/
def gSlW (x : D) (lo hi : Option Int) (S : Store) : Res D := match x with
  | .tup xs => if HT.sIx xs.length 0 lo = 0 ∧ HT.sIx xs.length xs.length hi = xs.length then .ok (.tup xs) S else .ok (.tup (cutD xs lo hi)) S
  | d => match asL S d with
    | some xs => .ok (.lst (cutD xs lo hi)) S
    | none => .stuck
def fSlW (fx : FE) (fl fh : FO) : FE := fun ρ S => (fx ρ S).bind fun x S => (fl ρ S).bind fun l S => (fh ρ S).bind fun h S => gSlW x l h S
/-- int(truth) -/
def gIntB : GC := fun ds S => match ds with
  | [.int i] => .ok (.int i) S
  | [.bl b] => .ok (.int (if b then 1 else 0)) S
  | _ => .stuck
@[simp] theorem e_gRevT (xs : List D) (S : Store) : gRevT (.tup xs) S = .ok (.tup xs.reverse) S := rfl
@[simp] theorem e_fSlW (fx : FE) (fl fh : FO) (ρ : EnvD) (S : Store) : fSlW fx fl fh ρ S = (fx ρ S).bind fun x S => (fl ρ S).bind fun l S => (fh ρ S).bind fun h S => gSlW x l h S := rfl
@[simp] theorem e_gIntB_b (b : Bool) (S : Store) : gIntB [.bl b] S = .ok (.int (if b then 1 else 0)) S := rfl
end
end DL

/-! The data layer, part 30: x in l, deep. -/
namespace DL
open PySem PySem.Spec PyProof.Rows L2
section
variable {X : Cx} {W : WX} {k : Nat}
end
end DL

/-! The data layer, part 31: texts: split, join, startswith, int(text), str(number), f'..', text[lo:hi]. -/
namespace DL
open PySem PySem.Spec PyProof.Rows L2
section
variable {X : Cx} {W : WX} {k : Nat} {o e : Expr} {fo fe : FE} {pos apos cpos p p2 : Pos}
end
end DL

/-! The data layer, part 32: texts, the derivations. -/
namespace DL
open PySem PySem.Spec PyProof.Rows L2
section
variable {X : Cx} {W : WX} {k : Nat} {o e : Expr} {fo fe : FE} {pos apos cpos p p2 : Pos} {fa : FA}
end
end DL

/-! The data layer, part 33: text * number. -/
namespace DL
open PySem PySem.Spec PyProof.Rows L2
section
variable {X : Cx} {W : WX} {a b : Expr} {fa fb : FE} {pos : Pos}
end
end DL

/-! The data layer, part 34: the signs of a text walked over; split as a list that changes. -/
namespace DL
open PySem PySem.Spec PyProof.Rows L2
section
variable {X : Cx} {W : WX} {k : Nat} {o e tg : Expr} {fo fe : FE} {pos apos cpos p p2 : Pos} {fa : FA}
def signs (z : Str) : List D := z.cps.toList.map fun c => .str ⟨#[c]⟩
def signC : D → Store → Res ItD := fun d S => match d with
  | .str z => .ok ⟨signs z, none⟩ S
  | _ => .stuck
def fSigns (fe : FE) : FI := fun ρ S => (fe ρ S).bind signC
theorem ri_signs {Z φ : List Addr} {S : Store} {H : Hp} {z : Str} : RI X.K X.mg Z φ S H ⟨signs z, none⟩ (Its z) :=
  fun i Z' φ' S' H' hZ R hp hs ok => by
    refine ⟨fun d hd => ?_, fun hl => ?_⟩
    · have hd' : (signs z)[i]? = some d := hd
      unfold signs at hd'
      rw [List.getElem?_map] at hd'
      cases hc : z.cps.toList[i]? with
      | none => rw [hc] at hd'; cases hd'
      | some c =>
        rw [hc] at hd'
        cases hd'
        have hc' : z.cps[i]? = some c := by simpa using hc
        have hi : i < z.cps.size := (Array.getElem?_eq_some_iff.mp hc').1
        refine ⟨hi, fun y' H'' yl => ?_⟩
        obtain ⟨rfl, c', e1, rfl⟩ := yl
        rw [hc'] at e1
        cases e1
        exact ⟨R, Evo.refl, dat_str _⟩
    · have hl' : (signs z).length ≤ i := hl
      unfold signs at hl'
      show z.cps.size ≤ i
      simpa using hl'
theorem di_signs (he : DE X W e fe) : DI X W tg e (fSigns fe) := by
  obtain ⟨t, pe, q⟩ := he.ex
  refine .mk (pi_str pe) fun Z φ S ρ σ H R R0 sl w => q Z φ S ρ σ H _ R0 sl (w.bind fun d S1 v φ1 H1 R1 E1 dd w1 => ?_)
  unfold signC at w1
  split at w1
  · cases dStr dd
    exact ⟨_, rfl, w1 _ _ _ R1 Evo.refl ri_signs⟩
  · exact w1.elim
end
end DL

/-! The data layer, part 35: exceptions caught and kept. -/
namespace DL
open PySem PySem.Spec PyProof.Rows L2

theorem excV_ok {P : Program} {w : World} {H : Hp} {hp : Heap} {a : Addr} {cls : Value} {dd : Option Addr} {ob : Obj} {fs : Array Value} (e : hp.get? a = some ob) (z : L2N.Zn cls dd ob) (d : ob.data = .fields fs) : ObjOk P w H hp a (ExcV cls dd a) :=
  ⟨⟨ob, fs, e, z, d⟩, ⟨ob, e⟩, fun _ _ ⟨o, v, q, r⟩ kp => ⟨o, v, kp o q, r⟩⟩
section
variable {X : Cx} {pins : List (Addr × Obj)} {σ : L2.St} {H : Hp} {s : Shared}
/-- an object that wasn't there at the entry is tracked from now on -/
theorem inv_track {a : Addr} {o : HO} (I : L2.Inv X pins σ H s) (n0 : X.s_0.heap.get? a = none) (na : H a = none) (nl : a ≠ X.env.locals) (nc : ∀ x c, X.env.cells.lookup x = some c → c ≠ a)
    (np : ∀ p ∈ X.pn ++ pins, p.1 ≠ a) (ok : ObjOk X.prog X.w (upd H a o) s.heap a o) : L2.Inv X pins σ (upd H a o) s := by
  have n00 : ∀ b ob, X.s_0.heap.get? b = some ob → b ≠ a := fun b ob e z => by
    rw [z, n0] at e
    cases e
  refine ⟨I.ok, I.os, I.bare, ⟨I.base.keep, I.base.slot, fun b ob e n hx => ?_, I.base.there, fun b xs e => ?_, fun b ob u e => ?_, fun b ps e => ?_⟩, I.loc, I.cell, ?_, fun x c e => ?_, fun p hp => ?_, fun b u e => ?_, I.len⟩
  · rw [upd_ne (n00 b ob e)]
    exact I.base.free b ob e n hx
  · have q := I.base.tups b xs e
    rw [upd_ne (ne_of_none q na)]
    exact q
  · have q := I.base.frzs b ob u e
    rw [upd_ne (ne_of_none q na)]
    exact q
  · obtain ⟨more, q⟩ := I.base.tbls b ps e
    exact ⟨more, by rw [upd_ne (ne_of_none q na)]; exact q⟩
  · rw [upd_ne (fun z => nl z.symm)]
    exact I.free
  · rw [upd_ne (nc x c e)]
    exact I.freeC x c e
  · obtain ⟨q1, q2, q3⟩ := I.pin p hp
    exact ⟨q1, by rw [upd_ne (np p hp)]; exact q2, q3⟩
  · by_cases hb : b = a
    · subst hb
      rw [upd_same] at e
      cases e
      exact ok
    · rw [upd_ne hb] at e
      exact (I.hok b u e).stay (fun c v _ q => q) (fun c q => by rw [upd_ne (ne_of_none q na)]; exact q) fun c xs q => by rw [upd_ne (ne_of_none q na)]; exact q
theorem inv_toSuite (I : L2.Inv X pins σ H s) (a : Addr) : L2.Inv (X.suite a (X.pn ++ pins)) [] σ H s :=
  ⟨I.ok.suite _ _, I.os, I.bare, I.base, I.loc, I.cell, I.free, I.freeC, fun p hp => I.pin p (List.append_nil (X.pn ++ pins) ▸ hp), I.hok, I.len⟩
theorem inv_ofSuite {a : Addr} {pn' : List (Addr × Obj)} (I : L2.Inv (X.suite a (X.pn ++ pins)) pn' σ H s) (ok : X.Ok) : L2.Inv X pins σ H s :=
  ⟨ok, I.os, I.bare, I.base, I.loc, I.cell, I.free, I.freeC, fun p hp => I.pin p (List.mem_append_left _ hp), I.hok, I.len⟩
end
/-! ### try with clauses, each perhaps with a name -/
structure Hd where
  c : Value
  nm : Option Nat
  ts : Addr → Value → Option Addr → TS
def endsAt (nm : Option Nat) (Dd : Ends) : Ends := match nm with
  | none => Dd
  | some i => { nx := fun σ' H' => Dd.nx (σ'.set i none) H', rt := Dd.rt, bk := fun σ' H' => Dd.bk (σ'.set i none) H', ct := fun σ' H' => Dd.ct (σ'.set i none) H' }
def slotAt (nm : Option Nat) (a : Addr) (σ : L2.St) : L2.St := match nm with
  | none => σ
  | some i => σ.set i (some (.ref a))
/-- what the clauses want of what the body raises -/
def wHds (K : PySem.W.Frag) (Wo : WX) (Dd : Ends) : List Hd → WX
  | [] => Wo
  | q :: r => fun cls d σ H => ∃ b, PySem.W.exmOne K cls q.c = some b ∧ (b = true → ∀ a, H a = none → q.ts a cls d (endsAt q.nm Dd) (slotAt q.nm a σ) (upd H a (ExcV cls d a))) ∧ (b = false → wHds K Wo Dd r cls d σ H)
inductive HdsT (X : Cx) : List ExceptHandler → List Hd → Prop
  | nil : HdsT X [] []
  | plain {x : Str} {c : Value} {ts : Addr → Value → Option Addr → TS} {b0 : Stmt} {bs : List Stmt} {np hp : Pos} {hds : List ExceptHandler} {l : List Hd} (hc : Names X x c)
      (hs : ∀ (a : Addr) (cls : Value) (d : Option Addr) (pn : List (Addr × Obj)), PSs (X.suite a pn) (b0 :: bs) (ts a cls d)) (r : HdsT X hds l) : HdsT X (.ExceptHandler (some (.Name x np)) none (b0 :: bs) hp :: hds) (⟨c, none, ts⟩ :: l)
  | named {x n : Str} {i : Nat} {c : Value} {ts : Addr → Value → Option Addr → TS} {b0 : Stmt} {bs : List Stmt} {np hp : Pos} {hds : List ExceptHandler} {l : List Hd} (hc : Names X x c) (hN : X.N.Nodup) (hi : X.N[i]? = some n) (hn : X.env.kindOf n = some .local)
      (hs : ∀ (a : Addr) (cls : Value) (d : Option Addr) (pn : List (Addr × Obj)), PSs (X.suite a pn) (b0 :: bs) (ts a cls d)) (r : HdsT X hds l) : HdsT X (.ExceptHandler (some (.Name x np)) (some n) (b0 :: bs) hp :: hds) (⟨c, some i, ts⟩ :: l)
section
variable {X : Cx} {body : List Stmt} {h0 : ExceptHandler} {hds : List ExceptHandler} {l : List Hd} {pos : Pos} {tb : WX → TS} {Wo : WX}
theorem ps_try_T (stk : X.stack = X.env :: X.outer) (frm : X.env.frame = some X.env.locals) (nex : X.ex = []) (tk : L2N.Takes X Wo)
    (hb : ∀ (Wn : WX) (pn : List (Addr × Obj)) (xe : Value → Shared → Prop), L2N.Takes (X.tr pn xe) Wn → PassesOwn (model X.prog X.w) X.A X.env xe → PSs (X.tr pn xe) body (tb Wn))
    (hh : HdsT X (h0 :: hds) l) : PS X (.Try body (h0 :: hds) [] [] pos) (fun Dd σ H => tb (wHds X.K Wo Dd l) Dd σ H) := by
  refine ⟨fun pins s σ H Dd I h => ?_⟩
  have ok := I.ok
  have frs0 : X.A.frames = some (X.env :: X.outer) := ok.frames.trans (congrArg some stk)
  refine wpAny_Try_except ?_
  refine wpAny_mono ((hb (wHds X.K Wo Dd l) (X.pn ++ pins) (fun err t1 => wpAny (model X.prog X.w) X.A (noteFrame err X.env) (fun _ t2 => wpAny (model X.prog X.w) X.A (setFlight err none) (fun _ t3 =>
    wpAny (model X.prog X.w) X.A (handleBy err X.env (h0 :: hds)) (SP X pins Dd) X.xe t3) X.xe t2) X.xe t1) (fun u s2 caught => ?_) PassesOwn.looking).run [] s σ H Dd (I.toTry _) h) (fun fl s1 hsp => ?_) (fun _ _ z => z)
  · obtain ⟨a, B, sI, pins1, σ1, H1, cls, d, rfl, J0, nb, up, sky, na, os, ag, want⟩ := caught
    have J : L2.Inv X pins σ1 H1 sI := J0.ofTry ok
    rw [show (X.tr (X.pn ++ pins) _).stack = X.env :: X.outer from stk] at sky
    show wpAny (model X.prog X.w) X.A (noteFrame (.ref a) X.env) _ _ _
    refine L2N.Sky.land L2N.Zn.steady frs0 frm sky fun hp3 fly3 up3 => ?_
    have J3 : L2.Inv X pins σ1 H1 { s2 with heap := hp3 } := J.landed nb fly3.1 (up.trans up3) os ag
    have unfr : ∀ {hp : Heap} {ob : Obj} {vs : Array Value}, hp.FunFrames B (X.env :: X.outer) → hp.get? a = some ob → ob.data = .fields vs → a ∉ frs (X.env :: X.outer) := fun {hp ob vs} ff e dd hm => by
      obtain ⟨_, ob', e1, hnf⟩ := ff.mem hm
      rw [e] at e1
      cases e1
      exact hnf _ dd
    obtain ⟨oe3, vs3, at3, z3, dt3⟩ := fly3.there
    have offStack := unfr fly3.2.2.1 at3 dt3
    have offLocals : a ≠ X.env.locals := fun z => offStack (List.mem_filterMap.mpr ⟨X.env, List.mem_cons_self, by rw [frm, z]⟩)
    have newI : sI.heap.get? a = none := by
      cases e : sI.heap.get? a with
      | none => rfl
      | some ob =>
        have q := nb a ob e (by rw [show (X.tr (X.pn ++ pins) _).stack = X.env :: X.outer from stk]; exact offStack)
        rw [fly3.2.1] at q
        cases q
    have new0 : X.s_0.heap.get? a = none := by
      cases e : X.s_0.heap.get? a with
      | none => rfl
      | some ob =>
        obtain ⟨ob', q⟩ := J.base.there a ob e (by rw [nex]; exact fun z => nomatch z)
        rw [newI] at q
        cases q
    have offPins : ∀ p ∈ X.pn ++ pins, p.1 ≠ a := fun p hp z => by
      have q := (J.pin p hp).1
      rw [z, newI] at q
      cases q
    have offCells : ∀ x c, X.env.cells.lookup x = some c → c ≠ a := fun x c e z => by
      obtain ⟨v, ob, q, _⟩ := J.cell x c e
      rw [z, newI] at q
      cases q
    -- the state of a suite
    have begun : ∀ {hp4 : Heap}, HandSPX.FlyingZ B (X.env :: X.outer) a (L2N.Zn cls d) hp4 → sI.heap.UpToSlots hp4 → L2.Inv X pins σ1 (upd H1 a (ExcV cls d a)) { s2 with heap := hp4 } := fun {hp4} fly4 up4 => by
      have J4 : L2.Inv X pins σ1 H1 { s2 with heap := hp4 } := J.landed nb fly4.1 up4 os ag
      obtain ⟨oe4, vs4, at4, z4, dt4⟩ := fly4.there
      exact inv_track J4 new0 na offLocals offCells offPins (excV_ok at4 z4 dt4)
    -- the class that a clause names
    have named : ∀ {x : Str} {c : Value} {np : Pos} {Q E : Value → Shared → Prop}, Names X x c → Q c { s2 with heap := hp3 } → wpAny (model X.prog X.w) (X.A.mark (some (.ref a))) (eval (.Name x np) X.env) Q E { s2 with heap := hp3 } := fun {x c np Q E} hc q => by
      obtain ⟨hg, hdbg, hm | ⟨hm, hv, hnn⟩⟩ := hc
      · exact ld_glob (X := X.suite a (X.pn ++ pins)) (inv_toSuite J3 a) hg hm q hdbg
      · exact ld_blt (X := X.suite a (X.pn ++ pins)) (inv_toSuite J3 a) hg hm hv q hnn hdbg
    have TY : PySem.W.Looks (model X.prog X.w) hp3 (typeOf (.ref a)) cls := fun A' Q E t kp q => wpAny_typeOf_ref (kp _ _ at3) (by rw [z3.1]; exact q)
    have go : ∀ {hs' : List ExceptHandler} {l' : List Hd}, HdsT X hs' l' → wHds X.K Wo Dd l' cls d σ1 H1 →
        wpAny (model X.prog X.w) X.A (handleBy (.ref a) X.env hs') (SP X pins Dd) X.xe { s2 with heap := hp3 } := by
      intro hs' l' ht
      induction ht with
      | nil =>
        intro want
        refine wpAny_handleBy_nil ?_
        obtain ⟨_, _, _, ob, vs, T, oT, ts', q1, _, q2, q3, _⟩ := id fly3
        unfold PySem.passOn
        refine wpAny_bind (wpAny_field q1 q2 q3 ?_)
        rw [if_neg (show ¬ ((Value.ref T == Value.none) = true) from by simp)]
        have thrown : wpAny (model X.prog X.w) X.A (setFlight (.ref a) X.env.frame) (fun _ t => wpAny (model X.prog X.w) X.A (throw (.ref a) : Sem Flow) (SP X pins Dd) X.xe t) X.xe { s2 with heap := hp3 } := by
          rw [frm]
          refine HandSPX.setFlight_upZ fly3 fun hp4 held up4 => wpAny_throw (tk _ _ ?_)
          exact ⟨a, B, sI, pins, σ1, H1, cls, d, rfl, J, nb, (up.trans up3).trans up4, .inr (.inr (by rw [stk]; exact held)), na, os, ag, want⟩
        first
          | exact wpAny_bind thrown
          | exact wpAny_bind (wpAny_pure (wpAny_bind thrown))
      | @plain x c ts b0 bs np hpos hs2 l2 hc hsu _ ih =>
        rintro ⟨b, hb1, yes, no⟩
        refine wpAny_handleBy_cons (codeAny_handlers_test (named hc ((PySem.W.exm_one (M := model X.prog X.w) J3.kIn TY hb1).here ?_))) (by intro q; cases q)
        cases b with
        | false =>
          show wpAny _ X.A (handleBy (.ref a) X.env hs2) _ _ _
          exact ih (no rfl)
        | true =>
          refine codeAny_handlers_suite (HandSPX.lands_againZ fly3 fun hp4 fly4 up4 => ?_)
          refine wpAny_mono ((hsu a cls d (X.pn ++ pins)).run [] _ _ _ _ (inv_toSuite (begun fly4 ((up.trans up3).trans up4)) a) (yes rfl a na)) (fun fl s6 hsp => ?_) (fun _ _ z => False.elim z)
          cases fl with
          | next =>
            obtain ⟨σ6, H6, S6, q6⟩ := hsp
            exact ⟨_, _, inv_ofSuite S6 ok, q6⟩
          | brk =>
            obtain ⟨σ6, H6, S6, q6⟩ := hsp
            exact ⟨_, _, inv_ofSuite S6 ok, q6⟩
          | cont =>
            obtain ⟨σ6, H6, S6, q6⟩ := hsp
            exact ⟨_, _, inv_ofSuite S6 ok, q6⟩
          | ret u =>
            obtain ⟨v6, σ6, H6, S6, r6, q6⟩ := hsp
            exact ⟨_, _, _, inv_ofSuite S6 ok, r6, q6⟩
      | @named x n i c ts b0 bs np hpos hs2 l2 hc hN hi hln hsu _ ih =>
        rintro ⟨b, hb1, yes, no⟩
        refine wpAny_handleBy_cons (codeAny_handlers_test (named hc ((PySem.W.exm_one (M := model X.prog X.w) J3.kIn TY hb1).here ?_))) (by intro q; cases q)
        cases b with
        | false =>
          show wpAny _ X.A (handleBy (.ref a) X.env hs2) _ _ _
          exact ih (no rfl)
        | true =>
          refine codeAny_handlers_suite_as (HandSPX.lands_againZ fly3 fun hp4 fly4 up4 => ?_)
          refine store_ok (X := X.suite a (X.pn ++ pins)) (v := .ref a) (inv_toSuite (begun fly4 ((up.trans up3).trans up4)) a) hN hi (show Loc X.env.scope n from .inl hln) rfl (fun s5 S5 => ?_) (.inr hln)
          refine wpAny_mono ((hsu a cls d (X.pn ++ pins)).run [] s5 _ _ _ S5 (yes rfl a na)) (fun fl s6 hsp => ?_) (fun _ _ z => False.elim z)
          have behind : ∀ {σ6 : L2.St} {H6 : Hp} {Q : Shared → Prop}, L2.Inv (X.suite a (X.pn ++ pins)) [] σ6 H6 s6 → (∀ s7, L2.Inv X pins (σ6.set i none) H6 s7 → Q s7) →
              wpAny (model X.prog X.w) X.A (do bindName X.env n .none; unbindBehindTheSuite X.env n hpos) (fun _ s7 => Q s7) X.xe s6 := fun {σ6 H6 Q} S6 hq => gone_ok (inv_ofSuite S6 ok) hN hi hln hq
          cases fl with
          | next =>
            obtain ⟨σ6, H6, S6, q6⟩ := hsp
            exact behind S6 fun s7 J7 => ⟨_, _, J7, q6⟩
          | brk =>
            obtain ⟨σ6, H6, S6, q6⟩ := hsp
            exact behind S6 fun s7 J7 => ⟨_, _, J7, q6⟩
          | cont =>
            obtain ⟨σ6, H6, S6, q6⟩ := hsp
            exact behind S6 fun s7 J7 => ⟨_, _, J7, q6⟩
          | ret u =>
            obtain ⟨v6, σ6, H6, S6, r6, q6⟩ := hsp
            exact behind S6 fun s7 J7 => ⟨_, _, _, J7, r6, q6⟩
    exact go hh want
  · cases fl with
    | next =>
      obtain ⟨σ2, H2, J2, q⟩ := hsp
      exact wpAny_execs_nil ⟨σ2, H2, J2.ofTry ok, q⟩
    | brk =>
      obtain ⟨σ2, H2, J2, q⟩ := hsp
      exact ⟨σ2, H2, J2.ofTry ok, q⟩
    | cont =>
      obtain ⟨σ2, H2, J2, q⟩ := hsp
      exact ⟨σ2, H2, J2.ofTry ok, q⟩
    | ret u =>
      obtain ⟨v, σ2, H2, J2, r, q⟩ := hsp
      exact ⟨v, σ2, H2, J2.ofTry ok, r, q⟩
end
end DL

/-! The data layer, part 36: try, isinstance of exceptions, raise. -/
namespace DL
open PySem PySem.Spec PyProof.Rows L2

/-! ### mirrors -/
structure HM where
  c : List (Str × Bool)
  nm : Option Nat
  g : FS
def Out.undo (i : Nat) : Out → Out
  | .nx ρ S => .nx (ρ.set i none) S
  | .bk ρ S => .bk (ρ.set i none) S
  | .ct ρ S => .ct (ρ.set i none) S
  | .ex _ _ _ _ => .stuck
  | o => o
def Out.calm : Out → Out
  | .ex _ _ _ _ => .stuck
  | o => o
def hdM : List HM → Str → List (Str × D) → EnvD → Store → Out
  | [], C, fs, ρ, S => .ex C fs ρ S
  | q :: r, C, fs, ρ, S => match q.c.lookup C with
    | some true => (match q.nm with
      | none => (q.g ρ S).calm
      | some i => (q.g (ρ.set i (some (.exc C fs))) S).undo i)
    | some false => hdM r C fs ρ S
    | none => .stuck
def gTry (gb : FS) (hs : List HM) : FS := fun ρ S => match gb ρ S with
  | .ex C fs ρ' S' => hdM hs C fs ρ' S'
  | o => o
section
variable {X : Cx} {W : WX} {k : Nat} {pos : Pos}
theorem slots_unset {K : PySem.W.Frag} {mg : Str → Option Value} {φ : List Addr} {G : Hp} {ρ : EnvD} {σ : L2.St} (i : Nat) (h : Slots K mg φ G ρ σ) : Slots K mg φ G (ρ.set i none) (σ.set i none) := by
  refine ⟨by rw [List.length_set, List.length_set]; exact h.1, fun j d e => ?_⟩
  by_cases hj : j = i
  · subst hj
    by_cases hl : j < ρ.length
    · rw [List.getElem?_set_self hl] at e
      cases e
    · rw [List.getElem?_eq_none (by rw [List.length_set]; omega)] at e
      cases e
  · rw [List.getElem?_set_ne (fun z => hj z.symm)] at e ⊢
    exact h.2 j d e
/-- clauses and their mirrors -/
inductive HdsD (X : Cx) : List ExceptHandler → List HM → List Hd → Prop
  | nil : HdsD X [] [] []
  | plain {x : Str} {c : Value} {t : List (Str × Bool)} {g : FS} {b0 : Stmt} {bs : List Stmt} {np hp : Pos} {hds : List ExceptHandler} {ms : List HM} {l : List Hd} (hc : Names X x c) (ht : ∀ C b A, t.lookup C = some b → X.mg C = some (.ref A) → PySem.W.exmOne X.K (.ref A) c = some b)
      (hs : ∀ (a : Addr) (pn : List (Addr × Obj)), DSs (X.suite a pn) W0 (b0 :: bs) g) (r : HdsD X hds ms l) : HdsD X (.ExceptHandler (some (.Name x np)) none (b0 :: bs) hp :: hds) (⟨t, none, g⟩ :: ms) (⟨c, none, fun _ _ _ => tDS X W0 g⟩ :: l)
  | named {x n : Str} {i : Nat} {c : Value} {t : List (Str × Bool)} {g : FS} {b0 : Stmt} {bs : List Stmt} {np hp : Pos} {hds : List ExceptHandler} {ms : List HM} {l : List Hd} (hc : Names X x c) (hN : X.N.Nodup) (hi : X.N[i]? = some n) (hn : X.env.kindOf n = some .local)
      (ht : ∀ C b A, t.lookup C = some b → X.mg C = some (.ref A) → PySem.W.exmOne X.K (.ref A) c = some b)
      (hs : ∀ (a : Addr) (pn : List (Addr × Obj)), DSs (X.suite a pn) W0 (b0 :: bs) g) (r : HdsD X hds ms l) : HdsD X (.ExceptHandler (some (.Name x np)) (some n) (b0 :: bs) hp :: hds) (⟨t, some i, g⟩ :: ms) (⟨c, some i, fun _ _ _ => tDS X W0 g⟩ :: l)
theorem HdsD.toT : ∀ {hds : List ExceptHandler} {ms : List HM} {l : List Hd}, HdsD X hds ms l → HdsT X hds l
  | _, _, _, .nil => .nil
  | _, _, _, .plain hc _ hs r => .plain hc (fun a _ _ pn => hs a pn) r.toT
  | _, _, _, .named hc hN hi hn _ hs r => .named hc hN hi hn (fun a _ _ pn => hs a pn) r.toT
theorem HdsD.want {Dd : Ends} {Z φ : List Addr} {S : Store} {H : Hp} {ρ : EnvD} {σ : L2.St} {C : Str} {fs : List (Str × D)} {A : Addr} {dx : Option Addr} (hA : X.mg C = some (.ref A)) (R : Rel X.K X.mg Z φ S H) (sl : Slots X.K X.mg φ (gnd Z φ S H) ρ σ) (xd : ExD X.K X.mg φ (gnd Z φ S H) fs dx) :
    ∀ {hds : List ExceptHandler} {ms : List HM} {l : List Hd}, HdsD X hds ms l → WantS X W Z φ S H (hdM ms C fs ρ S) Dd → wHds X.K W Dd l (.ref A) dx σ H
  | _, _, _, .nil, w => w A dx σ φ H hA R Evo.refl sl xd
  | _, _, _, .plain (c := c) (t := t) (g := g) hc ht hs r, w => by
    unfold hdM at w
    cases e : t.lookup C with
    | none => simp only [e] at w; exact w.elim
    | some b =>
      simp only [e] at w
      refine ⟨b, ht C b A e hA, fun hb a na => ?_, fun hb => ?_⟩
      · subst hb
        obtain ⟨R1, E1, _⟩ := R.fresh (o := ExcV (.ref A) dx a) na
        refine ⟨Z, φ, S, ρ, R1, sl.evo E1, ?_⟩
        have w1 : WantS X W Z φ S (upd H a (ExcV (.ref A) dx a)) (g ρ S).calm Dd := WantS.go E1 w
        revert w1
        cases g ρ S <;> intro w1
        · exact w1
        · exact w1
        · exact w1
        · exact w1
        · exact w1.elim
        · exact w1
      · subst hb
        exact r.want hA R sl xd w
  | _, _, _, .named (c := c) (t := t) (g := g) (i := i) hc hN hi hn ht hs r, w => by
    unfold hdM at w
    cases e : t.lookup C with
    | none => simp only [e] at w; exact w.elim
    | some b =>
      simp only [e] at w
      refine ⟨b, ht C b A e hA, fun hb a na => ?_, fun hb => ?_⟩
      · subst hb
        obtain ⟨R1, E1, at1⟩ := R.fresh (o := ExcV (.ref A) dx a) na
        have da : Dat X.K X.mg φ (gnd Z φ S (upd H a (ExcV (.ref A) dx a))) (.exc C fs) (.ref a) := by
          unfold Dat
          refine ⟨a, A, dx, rfl, hA, at1, xd.imp id fun ⟨z, b, fvs, q0, q1, q2⟩ => ⟨z, b, fvs, q0, E1.ext _ _ q1, DatF.mono (List.prefix_refl _) E1.ext _ _ q2⟩⟩
        refine ⟨Z, φ, S, ρ.set i (some (.exc C fs)), R1, (sl.evo E1).set da, ?_⟩
        have w1 : WantS X W Z φ S (upd H a (ExcV (.ref A) dx a)) ((g (ρ.set i (some (.exc C fs))) S).undo i) Dd := WantS.go E1 w
        revert w1
        cases g (ρ.set i (some (.exc C fs))) S <;> intro w1
        · exact fun σ' φ' H' r1 e1 d => w1 (σ'.set i none) φ' H' r1 e1 (slots_unset i d)
        · exact w1
        · exact fun σ' φ' H' r1 e1 d => w1 (σ'.set i none) φ' H' r1 e1 (slots_unset i d)
        · exact fun σ' φ' H' r1 e1 d => w1 (σ'.set i none) φ' H' r1 e1 (slots_unset i d)
        · exact w1.elim
        · exact w1
      · subst hb
        exact r.want hA R sl xd w
theorem isS_try {gb : FS} {hds : List ExceptHandler} {ms : List HM} {l : List Hd} (hh : HdsD X hds ms l) : IsS X W (fun Dd σ H => tDS X (wHds X.K W Dd l) gb Dd σ H) (gTry gb ms) := fun Z φ S ρ σ H Dd R sl w => by
  refine ⟨Z, φ, S, ρ, R, sl, ?_⟩
  unfold gTry at w
  cases e : gb ρ S with
  | ex C fs ρ1 S1 =>
    rw [e] at w
    exact fun A dx σ1 φ1 H1 m R1 E1 sl1 xd => hh.want m R1 sl1 xd (WantS.go E1 w)
  | nx ρ1 S1 => rw [e] at w; exact w
  | rt d S1 => rw [e] at w; exact w
  | bk ρ1 S1 => rw [e] at w; exact w
  | ct ρ1 S1 => rw [e] at w; exact w
  | stuck => rw [e] at w; exact w
theorem ds_try (C : Cn X W k) (stk : X.stack = X.env :: X.outer) (frm : X.env.frame = some X.env.locals) (nex : X.ex = []) {body : List Stmt} {h0 : ExceptHandler} {hds : List ExceptHandler} {gb : FS} {ms : List HM} {l : List Hd}
    (hb : ∀ (Wn : WX) (pn : List (Addr × Obj)) (xe : Value → Shared → Prop), Cn (X.tr pn xe) Wn k → DSs (X.tr pn xe) Wn body gb) (hh : HdsD X (h0 :: hds) ms l) : DS X W (.Try body (h0 :: hds) [] [] pos) (gTry gb ms) :=
  .mk (ps_try_T (tb := fun Wn => tDS X Wn gb) stk frm nex C.tk (fun Wn pn xe tk po => hb Wn pn xe ⟨C.room, C.gd, C.calm, C.nd, po, tk⟩) hh.toT) (isS_try hh)
/-- name = value, within a suite -/
theorem ds_setS {e : Expr} {fe : FE} (nd : X.N.Nodup) {i : Nat} {x : Str} {pos' : Pos} (hi : X.N[i]? = some x) (hx : Loc X.env.scope x) (he : DE X W e fe) (hs : swapsWith e (some (.Name x pos')) pos.line X.env = pure false := by rfl)
    (hf : X.fn x = true ∨ X.env.scope.names.lookup x = some .local := by first | exact .inl rfl | exact .inr rfl | assumption) : DS X W (.Assign [.Name x pos'] e pos) (gSet i fe) :=
  ds_setP (fun t p => ps_set nd hi hx p hs hf) he
end

/-! ### isinstance of an exception -/
section
variable {X : Cx} {W : WX} {k : Nat} {e b : Expr} {pos p : Pos}
/-- the second one: an own class, or a built-in one -/
def isArg : D → D → Bool
  | .cls c, .cls c' => decide (c = c')
  | .ty n, .ty m => decide (n = m)
  | _, _ => false
end
end DL

/-! The data layer, part 37: a lambda without parameters handed to a def that calls it once. -/
namespace DL
open PySem PySem.Spec PyProof.Rows L2

/-! ### the lambda is made -/
section
variable {X : Cx} {W : WX} {pins : List (Addr × Obj)} {σ : L2.St} {H : Hp} {s : Shared} {Z φ : List Addr} {S : Store}
end

/-! ### the context of a lambda's body; exceptions in the air have no context -/
/-! ### the lambda is called -/
section
variable {X : Cx} {pins : List (Addr × Obj)} {σ : L2.St} {H : Hp} {s : Shared}
end

/-! ### the def that calls it -/
/-- the lambda's call in the def -/
def Act (Y : Cx) (f c : Addr) (q : Str) (tl : XK → Hp → VK → Prop) (a : Str) : Prop := ∀ (Wt : WX) (pn : List (Addr × Obj)) (xe : Value → Shared → Prop) (p1 p2 : Pos), L2N.Takes (Y.tr pn xe) Wt →
  PE (Y.tr pn xe) (.Call (.Name a p1) [] [] p2) (fun σ1 H1 Q => σ1[0]? = some (some (.ref f)) ∧ H1 c = some (LamX.CodeO c q) ∧ tl (fun cls d H2 => Wt cls d σ1 H2) H1 Q)
section
variable {Y : Cx} {W : WX} {k : Nat} {f c : Addr} {q : Str} {tl : XK → Hp → VK → Prop} {a : Str} {sts : List Stmt} {m : (Store → Res D) → FS} {pos : Pos}
end

/-! ### its promise -/
structure FnT (P : Program) (w : World) (K : PySem.W.Frag) (mg : Str → Option Value) (base : Heap) (k : Nat) (x : Str) (sg : Scope) (g : Addr) (fd : FuncData) (a : Str) (Ng : List Str) (m : (Store → Res D) → FS) : Prop where
  slot : Ng[0]? = some a
  vis : Vis sg a
  run : ∀ (A : Around) (outer : List Env) (s : Shared) (H : Hp) (f c : Addr) (q : Str) (tl : XK → Hp → VK → Prop) (Q : VK) (E : XK) (th : Store → Res D) (Z φ : List Addr) (S : Store), Room (k + 1) A → A.guards = some [] → Env0 P w K mg base A outer s H →
    (∀ cdv : Value, Room k (A.deeper (envOfC x sg s.heap.objs.size g cdv)) → Act (cxOf (L2N.CX P w) P w K mg base Ng x sg g cdv A outer s H E) f c q tl a) → H c = some (LamX.CodeO c q) → Rel K mg Z φ S H →
    (∀ (Q : VK) (E : XK), Want K mg (RDat K mg) Z φ S H (th S) Q E → tl E H Q) → Want K mg (RDat K mg) Z φ S H (m th (List.replicate Ng.length none) S).res Q E →
    codeAny (model P w) A (.call (.ref g) ⟨[.ref f], []⟩) (CR (L2N.CX P w) outer P w H s Q E) s
/-! ### the caller -/
section
variable {X : Cx} {W : WX} {k k' : Nat}
end
end DL

/-! The data layer, part 38: the law's end where defs make lambdas. -/
namespace DL
open PySem PySem.Spec PyProof.Rows L2

/-- the tables of the defs that make lambdas -/
def tabA (K : PySem.W.Frag) (tq : List (He.Defn × Str)) : List Addr := tq.map fun p => (He.cT K p.1).2
/-! ### the head -/
structure SaysO (fa : List He.Fa) (fn : List He.DefD) (tq : List (He.Defn × Str)) (ex : PySem.W.Frag → Bool) (h : Heap) (K : PySem.W.Frag) : Prop where
  says : He.SaysD fa fn K
  ex : ex K = true
  nd : (tabA K tq).Nodup
  hd : ∀ p ∈ tq, PySem.W.codeHdIn K (He.cT K p.1).1 (He.cT K p.1).2 = true
  out : ∀ p ∈ tq, K.lookup (He.cT K p.1).2 = none
  tabs : ∀ p ∈ tq, h.get? (He.cT K p.1).2 = some { cls := .none, data := .fields #[] }
/-! ### facts of exception classes -/
abbrev bmV : List Value := [.type "ValueError", .type "Exception", .type "BaseException", .type "object"]
/-- an own class over ValueError without an own __init__: what raise asks -/
structure RaiC (K : PySem.W.Frag) (C : Addr) : Prop where
  ex : PySem.W.excIn K C bmV "ValueError.__new__" = true
  kp : PySem.W.keepIn K (.ref C) = true
  sb : PySem.W.subIn K (.ref C) (.type "BaseException") = some true
  ty : PySem.W.typeIn K (.ref C) = some (.type "type")
theorem iseB_ok {K : PySem.W.Frag} {c : Str} (h : iseB K c = true) : ExcC K (He.ga K c) := by
  obtain ⟨h1, h⟩ := He.ba h
  obtain ⟨h2, h⟩ := He.ba h
  obtain ⟨h3, h⟩ := He.ba h
  obtain ⟨h4, h⟩ := He.ba h
  obtain ⟨h5, h⟩ := He.ba h
  obtain ⟨h6, h⟩ := He.ba h
  obtain ⟨h7, h8⟩ := He.ba h
  exact ⟨He.eqO_ok h1, He.eqO_ok h2, of_decide_eq_true h3, h4, He.eqO_ok h5, He.eqO_ok h6, of_decide_eq_true h7, of_decide_eq_true h8⟩
theorem lookup_mem' {α : Type} {x : Str} {b : α} : ∀ {t : List (Str × α)}, t.lookup x = some b → (x, b) ∈ t
  | [], h => by cases h
  | (y, c) :: r, h => by
    rw [List.lookup_cons] at h
    cases e : x == y with
    | true =>
      rw [e] at h
      cases h
      rw [eq_of_beq e]
      exact List.mem_cons_self
    | false =>
      rw [e] at h
      exact List.mem_cons_of_mem _ (lookup_mem' h)
theorem exmT_ok {K : PySem.W.Frag} {mg : Str → Option Value} {c : Value} {t : List (Str × Bool)} (h : exmT K c t = true) (hg : ∀ q ∈ t, mg q.1 = some (.ref (He.ga K q.1))) : ∀ C b A, t.lookup C = some b → mg C = some (.ref A) → PySem.W.exmOne K (.ref A) c = some b := fun C b A e hA => by
  have m := lookup_mem' e
  have q := hg _ m
  rw [hA] at q
  cases q
  exact of_decide_eq_true (List.all_eq_true.mp h _ m)
theorem kitT_ok {K : PySem.W.Frag} {mg : Str → Option Value} {c : Value} {t : List (Str × Bool)} (h : kitT K c t = true) (hg : ∀ q ∈ t, mg q.1 = some (.ref (He.ga K q.1))) (hc : ∀ q ∈ t, ExcC K (He.ga K q.1)) : ∀ C b A, t.lookup C = some b → mg C = some (.ref A) → ExcC K A ∧ PySem.W.kitOne K (.ref A) c = some b := fun C b A e hA => by
  have m := lookup_mem' e
  have q := hg _ m
  rw [hA] at q
  cases q
  exact ⟨hc _ m, of_decide_eq_true (List.all_eq_true.mp h _ m)⟩
section
variable {X : Cx} {W : WX} {k : Nat} {e b : Expr} {pos p : Pos} {fa : FA}
end
end DL

/-! The data layer, part 39: // with a great divisor. -/
namespace DL
open PySem L2
noncomputable def cDivW (_ j : Int) : Bool := @decide (0 < j ∧ j < 10000000000000000000000000000000000000000) (Classical.propDecidable _)
noncomputable def gDivW : G2 := gI cDivW fun i j => .int (i / j)
section
variable {X : Cx} {W : WX} {a b : Expr} {fa fb : FE} {pos : Pos}
end
end DL

/-! The data layer, part 40: for k in f(..), where f gives a new dict. -/
namespace DL
open PySem PySem.Spec PyProof.Rows L2
/-- the keys of a dict, locked from now on -/
theorem pi_keysL {X : Cx} {tg e : Expr} {td : TE} (he : PE X e td) : PI X tg e (fun σ H R => td σ H fun x H1 => ∃ d kvs, x = .ref d ∧ H1 d = some (.dK kvs) ∧ ∀ o, R (Itk d o kvs) (upd H1 d (.frz o (.dK kvs)))) := by
  refine ⟨fun pins s σ H R I h => thn (he.run pins s σ H _ I h) fun u s1 ⟨x, H1, I1, rx, d, kvs, ex, hd, q⟩ => ?_⟩
  subst ex
  obtain rfl : u = Value.ref d := rx
  obtain ⟨o, I2⟩ := I1.lock hd trivial
  obtain ⟨hs, hgd, hx, es, ep, vs, hdt, hsz, kv, hm⟩ := I2.frzK upd_same
  refine iter_keys hs hgd hx hdt (pi_one (tk := s1.toks) I2 _ (turn_keys _ hdt) ⟨_, Heap.get?_push_size _ rfl, rfl, ?_⟩ (q o))
  rw [hsz] <;> rfl
/-- the keys of the new dict that a def gives; pure data are handed to it -/
def keysSub (sem : Sem') (args : List D) (S : Store) : Res ItD := if pureL args = true then (match sem args [] with
  | .ok (.oid n) Sc => (match Sc[n]? with
    | some (.dic kd) => .ok ⟨kd.map fun q => keyV q.1, none⟩ S
    | _ => .stuck)
  | _ => .stuck) else .stuck
def fKeysNew (sem : Sem') (gD : List D → List D → List D) (np nk n : Nat) (fa fk : FA) : FI := fun ρ S => (fa ρ S).bind fun ds S => (fk ρ S).bind fun es S => if ds.length = np ∧ es.length = nk ∧ (gD ds es).length = n then keysSub sem (gD ds es) S else .stuck
theorem datK_get {K : PySem.W.Frag} {mg : Str → Option Value} {φ : List Addr} {G : Hp} : ∀ {ks : List (Key × D)} {kvs : List (Key × V)} {i : Nat}, DatK K mg φ G ks kvs → (kvs[i]?).map (·.1) = (ks[i]?).map (·.1)
  | [], _, i, h => by
    unfold DatK at h
    subst h
    rfl
  | (k, d) :: ks, _, 0, h => by
    unfold DatK at h
    obtain ⟨v, r, rfl, _, _⟩ := h
    rfl
  | (k, d) :: ks, _, i + 1, h => by
    unfold DatK at h
    obtain ⟨v, r, rfl, _, h2⟩ := h
    exact datK_get (i := i) h2
theorem dat_key {K : PySem.W.Frag} {mg : Str → Option Value} {φ : List Addr} {G : Hp} (k : Key) : Dat K mg φ G (keyV k) (kV k) := by
  cases k <;> (unfold keyV Dat; rfl)
theorem wantI_if {P : Prop} [Decidable P] {K : PySem.W.Frag} {mg : Str → Option Value} {Z φ : List Addr} {S : Store} {H : Hp} {r : Res ItD} {Q : It → Hp → Prop} {E : XK} (w : WantI K mg Z φ S H (if P then r else .stuck) Q E) : P ∧ WantI K mg Z φ S H r Q E := by
  by_cases h : P
  · rw [if_pos h] at w
    exact ⟨h, w⟩
  · rw [if_neg h] at w
    exact w.elim
section
variable {X : Cx} {W : WX} {k k' np : Nat} {f : Addr} {fd : FuncData} {ps ks : List Str} {sem : Sem'} {x : Str} {p pos : Pos} {e : Expr} {es : List Expr} {kws : List Keyword} {fa fk : FA} {gD : List D → List D → List D} {tg : Expr}
/-- what the callee must be asked -/
theorem keys_sp {n : Nat} {args : List D} {vs : List V} {Z φ : List Addr} {S : Store} {H : Hp} {Q : It → Hp → Prop} {E E' : XK} (hl : vs.length = n) (R : Rel X.K X.mg Z φ S H) (d : DatL X.K X.mg φ (gnd Z φ S H) args vs) (w : WantI X.K X.mg Z φ S H (keysSub sem args S) Q E) :
    spD X.K X.mg n sem vs H (fun v H1 => ∃ a kvs, v = .ref a ∧ H1 a = some (.dK kvs) ∧ ∀ o, Q (Itk a o kvs) (upd H1 a (.frz o (.dK kvs)))) E' := by
  unfold keysSub at w
  obtain ⟨pu, w1⟩ := wantI_if w
  refine ⟨hl, Z ++ liveA φ S, [], [], args, ⟨rfl, List.nodup_nil, (fun _ z => (nomatch z)), fun a ha => ?_, (fun _ z => (nomatch z)), (fun n a o z => by simp at z)⟩, ?_, ?_⟩
  · rcases List.mem_append.mp ha with z | z
    · exact R.zh a z
    · exact R.ph a (liveA_sub z)
  · have e : gnd (Z ++ liveA φ S) [] [] H = gnd Z φ S H := by
      unfold gnd
      simp [liveA]
    rw [e]
    exact d.pure pu
  · cases hs : sem args [] with
    | stuck => rw [hs] at w1; exact w1.elim
    | ex C fs Sc => rw [hs] at w1; exact w1.elim
    | ok r Sc =>
      rw [hs] at w1
      cases r with
      | oid n1 =>
        cases hn : Sc[n1]? with
        | none => simp only [hn] at w1; exact w1.elim
        | some so =>
          cases so with
          | dic kd =>
            simp only [hn] at w1
            intro v φ1 H1 R1 E1 dv
            unfold RDat Dat at dv
            obtain ⟨a, rfl, ha⟩ := dv
            obtain ⟨kvs, q1, q2⟩ := R1.ob n1 a _ ha hn
            have la : a ∈ liveA φ1 Sc := mem_liveA ha hn rfl
            have new : H a = none := by
              cases z : H a with
              | none => rfl
              | some o =>
                have := E1.lv a la (by rw [z]; exact fun z => nomatch z)
                simp [liveA] at this
            have keep : Same H H1 := fun b o z => E1.out b o z (by simp [liveA])
            refine ⟨a, kvs, rfl, q1, fun o => ?_⟩
            have keep2 : Same H (upd H1 a (.frz o (.dK kvs))) := fun b u z => by
              rw [upd_ne (ne_of_none z new)]
              exact keep b u z
            obtain ⟨R2, E2⟩ := R.same keep2
            refine w1 (Itk a o kvs) φ _ R2 E2 ?_
            have ga : gnd Z φ S (upd H1 a (.frz o (.dK kvs))) a = some (.frz o (.dK kvs)) := without_some.mpr ⟨R.out_gnd new, upd_same⟩
            intro i Z' φ' S' H' _ R' _ sm _
            have ha' := gnd_sub _ _ (sm _ _ ga)
            have len : kvs.length = kd.length := datK_length q2
            refine ⟨fun d' hd' => ?_, fun hi => ⟨ha', by simpa [len] using hi⟩⟩
            simp only [List.getElem?_map] at hd'
            cases hk : kd[i]? with
            | none => rw [hk] at hd'; cases hd'
            | some kv =>
              rw [hk] at hd'
              cases hd'
              have lt : i < kvs.length := by
                rw [len]
                exact (List.getElem?_eq_some_iff.mp hk).1
              refine ⟨⟨ha', lt⟩, ?_⟩
              rintro x H'' ⟨rfl, k0, v0, g1, rfl⟩
              have g2 := datK_get (i := i) q2
              rw [g1, hk] at g2
              cases g2
              exact ⟨R', Evo.refl, dat_key _⟩
          | _ => simp only [hn] at w1; exact w1.elim
      | _ => exact w1.elim
end
end DL

/-! The data layer, part 41: dict displays with entries, as objects. -/
namespace DL
open PySem PySem.Spec PyProof.Rows L2
abbrev FP := EnvD → Store → Res (List (D × D))
abbrev RPr (K : PySem.W.Frag) (mg : Str → Option Value) : List Addr → Hp → List (D × D) → List (V × V) → Prop := fun φ G ds vs => DatL K mg φ G (ds.map (·.1)) (vs.map (·.1)) ∧ DatL K mg φ G (ds.map (·.2)) (vs.map (·.2))
def DPs (X : Cx) (W : WX) (pos : Pos) (keys : List (Option Expr)) (values : List Expr) (fp : FP) : Prop := ∃ trs, PPs X pos keys values trs ∧ keys.all (·.isSome) = true ∧ keys.length = values.length ∧
  ∀ Z φ S ρ σ H (Q : List (V × V) → Hp → Prop), Rel X.K X.mg Z φ S H → Slots X.K X.mg φ (gnd Z φ S H) ρ σ → Want X.K X.mg (RPr X.K X.mg) Z φ S H (fp ρ S) Q (WE W σ) → tPairs trs σ H Q
def fPs0 : FP := fun _ S => .ok [] S
def fPs (fk fv : FE) (fr : FP) : FP := fun ρ S => (fk ρ S).bind fun x S => (fv ρ S).bind fun y S => (fr ρ S).bind fun ps S => .ok ((x, y) :: ps) S
section
variable {X : Cx} {W : WX} {pos : Pos}
theorem dps_nil : DPs X W pos [] [] fPs0 := ⟨[], pps_nil, rfl, rfl, fun Z φ S ρ σ H Q R sl w => w.now R ⟨DatL.nil, DatL.nil⟩⟩
theorem dps_cons {k v : Expr} {ks : List (Option Expr)} {vs : List Expr} {fk fv : FE} {fr : FP} (hk : DE X W k fk) (hv : DE X W v fv) (hr : DPs X W pos ks vs fr) : DPs X W pos (some k :: ks) (v :: vs) (fPs fk fv fr) := by
  obtain ⟨tk, pk, qk⟩ := hk.ex
  obtain ⟨tv, pv, qv⟩ := hv.ex
  obtain ⟨trs, pr, ha, hl, qr⟩ := hr
  refine ⟨_, pps_cons pk pv pr, by simp [ha], by simp [hl], fun Z φ S ρ σ H Q R sl w => qk Z φ S ρ σ H _ R sl (w.bind fun x S1 u φ1 H1 R1 E1 dx w1 => ?_)⟩
  refine qv Z φ1 S1 ρ σ H1 _ R1 (sl.evo E1) (w1.bind fun y S2 u2 φ2 H2 R2 E2 dy w2 => ?_)
  refine qr Z φ2 S2 ρ σ H2 _ R2 ((sl.evo E1).evo E2) (w2.bind fun ps S3 us φ3 H3 R3 E3 dp w3 => ?_)
  exact w3.now R3 ⟨.cons (Dat.evo E3 (Dat.evo E2 dx)) dp.1, .cons (Dat.evo E3 dy) dp.2⟩
def keysK : List (D × D) → Option (List (Key × D))
  | [] => some []
  | (x, y) :: r => match keyD x, keysK r with
    | some k, some ks => some ((k, y) :: ks)
    | _, _ => none
def mergeD (ks more : List (Key × D)) : List (Key × D) := more.foldl (fun acc kv => putKD acc kv.1 kv.2) ks
theorem datK_merge {K : PySem.W.Frag} {mg : Str → Option Value} {φ : List Addr} {G : Hp} : ∀ {more : List (Key × D)} {mvs : List (Key × V)} {ks : List (Key × D)} {kvs : List (Key × V)}, DatK K mg φ G more mvs → DatK K mg φ G ks kvs → DatK K mg φ G (mergeD ks more) (mergeK kvs mvs)
  | [], _, ks, kvs, h, h0 => by
    unfold DatK at h
    subst h
    exact h0
  | (k, d) :: r, mvs, ks, kvs, h, h0 => by
    unfold DatK at h
    obtain ⟨v, ms, rfl, hd, hr⟩ := h
    have := datK_merge hr (datK_put (k := k) hd h0)
    exact this
theorem keysK_ok {φ : List Addr} {G : Hp} : ∀ {ps : List (D × D)} {us : List (V × V)} {kds : List (Key × D)}, RPr X.K X.mg φ G ps us → keysK ps = some kds → ∃ kvs : List (Key × V), us = kvs.map (fun kv => (kV kv.1, kv.2)) ∧ DatK X.K X.mg φ G kds kvs ∧ kvs.length = kds.length
  | [], us, kds, h, e => by
    cases e
    obtain ⟨h1, _⟩ := h
    have := DatL.length h1
    cases us with
    | nil => exact ⟨[], rfl, by unfold DatK; rfl, rfl⟩
    | cons _ _ => simp at this
  | (x, y) :: r, us, kds, h, e => by
    obtain ⟨h1, h2⟩ := h
    cases us with
    | nil => have := DatL.length h1; simp at this
    | cons u us =>
      obtain ⟨u1, u2⟩ := u
      unfold keysK at e
      split at e
      · rename_i k ks hk hks
        cases e
        simp only [List.map_cons] at h1 h2
        unfold DatL at h1 h2
        obtain ⟨_, _, e1, d1, r1⟩ := h1
        obtain ⟨_, _, e2, d2, r2⟩ := h2
        cases e1
        cases e2
        obtain ⟨kvs, rfl, dk, hl⟩ := keysK_ok ⟨r1, r2⟩ hks
        refine ⟨(k, u2) :: kvs, by rw [List.map_cons, keyD_ok d1 hk], ?_, by simp [hl]⟩
        unfold DatK
        exact ⟨_, _, rfl, d2, dk⟩
      · cases e
def dispAt (n : Nat) (ps : List (D × D)) (S : Store) : Res D := match keysK ps, S[n]? with
  | some kds, some (.dic []) => if kds.length ≤ 15 then .ok (.oid n) (S.set n (.dic (mergeD [] kds))) else .stuck
  | _, _ => .stuck
/-- {k: v, ..}, an object -/
def fDisp (fp : FP) : FE := fun ρ S => (fp ρ (S ++ [.dic []])).bind fun ps S' => dispAt S.length ps S'
theorem de_disp {keys : List (Option Expr)} {values : List Expr} {fp : FP} (h : DPs X W pos keys values fp) (h0 : keys ≠ [] := by intro h; cases h) (h15 : keys.length ≤ 15 := by decide) : DE X W (.Dict keys values pos) (fDisp fp) := by
  obtain ⟨trs, p, ha, hl, q⟩ := h
  refine .mk (pe_disp p ha hl h0 h15) fun Z φ S ρ σ H Q R sl w => fun a hp => ?_
  obtain ⟨R0, E0⟩ := R.newOid (so := .dic []) (same_upd (o := .dK []) hp) hp (by rw [upd_same]; exact fun z => nomatch z) rfl ⟨[], upd_same, by unfold DatK; rfl⟩
  refine q Z _ _ ρ σ _ _ R0 (sl.evo E0) ((w.go E0).bind fun ps S2 us φ2 H2 R2 E2 dp w2 => ?_)
  have h1 : (φ ++ [a])[S.length]? = some a := by rw [List.getElem?_append_right (by rw [R.len]; exact Nat.le_refl _), ← R.len, Nat.sub_self]; rfl
  have hφ : φ2[S.length]? = some a := by
    obtain ⟨t, rfl⟩ := E2.pre
    rw [List.getElem?_append_left (List.getElem?_eq_some_iff.mp h1).1]
    exact h1
  unfold dispAt at w2
  split at w2
  · rename_i kds hk hS
    by_cases hc : kds.length ≤ 15
    · rw [if_pos hc] at w2
      obtain ⟨kvs, rfl, dk, hlen⟩ := keysK_ok dp hk
      obtain ⟨k0, h3, h4⟩ := R2.ob S.length a _ hφ hS
      unfold DatK at h4
      subst h4
      refine ⟨h3, kvs, rfl, by rw [hlen]; exact hc, ?_⟩
      obtain ⟨R3, E3⟩ := R2.mutate (u := .dic (mergeD [] kds)) (ho := .dK (mergeK [] kvs)) hφ hS rfl rfl ⟨_, upd_same, datK_merge dk (by unfold DatK; rfl)⟩
      refine w2 _ _ _ R3 E3 ?_
      unfold RDat Dat
      exact ⟨a, rfl, hφ⟩
    · rw [if_neg hc] at w2
      exact w2.elim
  · exact w2.elim
end
end DL

/-! The data layer, part 42: the least of a list of pairs of numbers. -/
namespace PySem.W
open PySem PySem.SeqAt PyProof.Rows
section
variable {prog : Program} {w : World} {A : Around} {E : Value → Shared → Prop} {s : Shared}
end
end PySem.W
namespace DL
open PySem PySem.Spec PySem.W PySem.SeqAt PyProof.Rows L2
section
variable {X : Cx} {W : WX} {k : Nat} {pos : Pos}
end
end DL

/-! The data layer, part 43: d.get(None, x); dict(a list of pairs). -/
namespace DL
open PySem PySem.Spec PyProof.Rows L2
section
variable {X : Cx} {W : WX} {k : Nat} {o e f : Expr} {fo fe ff : FE} {p pos apos cpos : Pos} {td ty tx : TE}
/-! ### dict(pairs) -/
end
end DL

/-! The data layer, part 44: list * number, d[k] //= n, C.m(self, ..), constants that are tuples of texts. -/
namespace DL
open PySem PySem.Spec PyProof.Rows L2
/-! ### list * number -/
section
variable {X : Cx} {W : WX} {a b : Expr} {fa fb : FE} {pos : Pos}
theorem DatL.rep {K : PySem.W.Frag} {mg : Str → Option Value} {φ : List Addr} {G : Hp} {ds : List D} {vs : List V} (h : DatL K mg φ G ds vs) : ∀ n : Nat, DatL K mg φ G (List.replicate n ds).flatten (List.replicate n vs).flatten
  | 0 => DatL.nil
  | n + 1 => by
    rw [List.replicate_succ, List.replicate_succ, List.flatten_cons, List.flatten_cons]
    exact h.append (DatL.rep h n)
def repD (xs : List D) (k : Int) : List D := (List.replicate k.toNat xs).flatten
def gRepL : G2 := fun x y S => match asLt S x, y with
  | some xs, .int k => if -1000 ≤ k ∧ k ≤ 1000 ∧ xs.length ≤ 1000 then .ok (.lst (repD xs k)) S else .stuck
  | _, _ => .stuck
theorem rep_bound {n : Nat} {k : Int} (h2 : k ≤ 1000) (h3 : n ≤ 1000) : n * k.toNat ≤ sizeLine := by
  have hs : sizeLine = 16777216 := sizeLine_eq
  have h4 : n * k.toNat ≤ 1000 * 1000 := Nat.mul_le_mul h3 (by omega)
  omega
theorem opd_repL : OpD X rRep gRepL := fun Z φ S H x y u v Q E R dx dy w => by
  unfold gRepL at w
  split at w
  · rename_i xs k e1
    obtain ⟨⟨h1, h2, h3⟩, w1⟩ := want_if w
    cases dInt dy
    obtain ⟨p, vs, rfl, q1, q2⟩ := asLt_ok R dx e1
    refine ⟨p, k, vs, rfl, rfl, q1, by omega, by omega, rep_bound h2 (by rw [q2.length]; exact h3), fun t ht => ?_⟩
    obtain ⟨r, e, g⟩ := dat_newL R (q2.rep k.toNat) ht
    exact w1 _ _ _ r e g
  · exact w.elim
theorem de_repL (ha : DE X W a fa) (hb : DE X W b fb) : DE X W (.BinOp a .Mult b pos) (fBin gRepL fa fb) := de_bin op_rep opd_repL ha hb
end
/-! ### d[k] op= n -/
def putAtD (x y d : D) (S : Store) : Option Store := match x with
  | .oid n => match S[n]? with
    | some (.dic ks) => (match keyD y with
      | some q => if ks.length < sizeLine then some (S.set n (.dic (putKD ks q d))) else none
      | none => none)
    | _ => none
  | _ => none
section
variable {X : Cx} {W : WX} {k : Nat} {o i e : Expr} {fo fi fe : FE} {pos tpos : Pos}
theorem putAtD_ok {Z φ : List Addr} {S S' : Store} {H : Hp} {x y d : D} {o i v : V} {Q : Hp → Prop} (R : Rel X.K X.mg Z φ S H) (dx : Dat X.K X.mg φ (gnd Z φ S H) x o) (dy : Dat X.K X.mg φ (gnd Z φ S H) y i) (dd : Dat X.K X.mg φ (gnd Z φ S H) d v) (e : putAtD x y d S = some S')
    (hQ : ∀ H', Rel X.K X.mg Z φ S' H' → Evo Z φ S H φ S' H' → Q H') : ∃ a H', o = .ref a ∧ DPut H a i v H' ∧ Q H' := by
  unfold putAtD at e
  split at e
  · rename_i n
    unfold Dat at dx
    obtain ⟨a, rfl, ha⟩ := dx
    split at e
    · rename_i ks hS
      split at e
      · rename_i q hq
        split at e
        · rename_i hl
          cases e
          obtain ⟨kvs, h1, h2⟩ := R.ob n a _ ha hS
          obtain ⟨R3, E3⟩ := R.mutate (u := .dic (putKD ks q d)) (ho := .dK (putK kvs q v)) ha hS rfl rfl ⟨_, upd_same, datK_put dd h2⟩
          exact ⟨a, _, rfl, .inl ⟨kvs, q, h1, keyD_ok dy hq, by rw [datK_length h2]; exact hl, rfl⟩, hQ _ R3 E3⟩
        · cases e
      · cases e
    · cases e
  · cases e
def gAugD (g : G2) (fo fi fe : FE) : FS := fun ρ S => (fo ρ S).into ρ fun x S => (fi ρ S).into ρ fun y S => (gIxD x y S).into ρ fun d S => (fe ρ S).into ρ fun c S => (g d c S).into ρ fun z S => match putAtD x y z S with
  | some S => .nx ρ S
  | none => .stuck
theorem ds_augD (C : Cn X W k) {op : Operator} {rd : R2} {g : G2} (hop : InOp X op rd) (hd : OpD X rd g) (ho : DE X W o fo) (hi : DE X W i fi) (he : DE X W e fe)
    (ha : ∀ ov iv new, augStore i ov iv new = (do holding [new, ov, iv] (setItem ov iv new); release [new, ov, iv] []; pure .next) := by intros; rfl) :
    DS X W (.AugAssign (.Subscript o i tpos) op e pos) (gAugD g fo fi fe) := by
  obtain ⟨to, po, qo⟩ := ho.ex
  obtain ⟨ti, pi, qi⟩ := hi.ex
  obtain ⟨te, pe, qe⟩ := he.ex
  refine .mk (ps_daug C.u1 po pi pe hop ha) fun Z φ S ρ σ H Dd R sl w => qo Z φ S ρ σ H _ R sl (w.into sl fun x S1 ov φ1 H1 R1 E1 dx w1 => ?_)
  refine qi Z φ1 S1 ρ σ H1 _ R1 (sl.evo E1) (w1.into (sl.evo E1) fun y S2 iv φ2 H2 R2 E2 dy w2 => ?_)
  unfold gIxD at w2
  split at w2
  · rename_i ks j e1 e2
    obtain ⟨p, kvs, rfl, h1, h2⟩ := asD_ok R2 (Dat.evo E2 dx) e1
    cases q : valD ks j with
    | none => rw [q] at w2; exact w2.elim
    | some d =>
      rw [q] at w2
      obtain ⟨z, h3, h4⟩ := (valD_ok h2).1 d q
      refine ⟨p, z, rfl, .inl ⟨kvs, j, .inl h1, keyD_ok dy e2, h3.symm⟩, ?_⟩
      have sl2 := (sl.evo E1).evo E2
      refine qe Z φ2 S2 ρ σ H2 _ R2 sl2 ((show WantS _ _ _ _ _ _ _ _ from w2).into sl2 fun c S3 cv φ3 H3 R3 E3 dc w3 => ?_)
      refine hd Z φ3 S3 H3 d c z cv _ _ R3 (Dat.evo E3 h4) dc (w3.into (sl2.evo E3) fun u S4 uv φ4 H4 R4 E4 du w4 => ?_)
      cases hst : putAtD x y u S4 with
      | none => rw [hst] at w4; exact w4.elim
      | some S5 =>
        rw [hst] at w4
        obtain ⟨a, H5, ea, hp, hn⟩ := putAtD_ok (Q := fun H' => Dd.nx σ H') R4 (Dat.evo E4 (Dat.evo E3 (Dat.evo E2 dx))) (Dat.evo E4 (Dat.evo E3 dy)) du hst fun H5 R5 E5 => w4 σ φ4 H5 R5 E5 (((sl2.evo E3).evo E4).evo E5)
        cases ea
        exact ⟨H5, hp, hn⟩
  · exact w2.elim
end
end DL

/-! The data layer, part 45: C.m(self, ..), constants that are tuples of texts. -/
namespace DL
open PySem PySem.Spec PyProof.Rows L2
/-! ### a def of a class, called by the class's name -/
structure CCl (K : PySem.W.Frag) (C : Addr) (m : Str) (f : Addr) : Prop where
  rd : ClX.CRead K C (.type "type")
  cv : ClX.CVal K C (.type "type") m (.ref f) (.ref f)
  kp : PySem.W.keepIn K (.ref f) = true
section
variable {X : Cx} {W : WX} {k k' np : Nat} {f C : Addr} {fd : FuncData} {ps ks : List Str} {sem cs : Sem'} {x m : Str} {p pos apos : Pos} {e : Expr} {es : List Expr} {kws : List Keyword} {fa fk : FA} {gD : List D → List D → List D}
end
/-! ### a module's tuple of texts -/
section
variable {X : Cx} {W : WX} {pos : Pos}
end
end DL

/-! The data layer, part 46: list.count. -/
namespace DL
open PySem PySem.Spec PyProof.Rows L2
section
variable {X : Cx} {W : WX} {k : Nat} {o e : Expr} {fo fe : FE} {pos apos cpos : Pos}
end
end DL

/-! The data layer, part 47: len({x for x in xs}) of a list of ints. -/
namespace DL
open PySem PySem.Spec PyProof.Rows L2
section
variable {prog : Program} {w : World} {A : Around} {E : Value → Shared → Prop} {env : Env} {s : Shared}
end
end DL

/-! The data layer, part 48: len({x for x in xs}), as a mirror. -/
namespace DL
open PySem PySem.Spec PyProof.Rows L2
section
variable {X : Cx} {W : WX} {k : Nat} {iter : Expr} {ta : TE} {fi : FE} {y : Str} {p pa pe cpos pos : Pos} {scope : Scope}
end
end DL

/-! The data layer, part 49: a head's facts with the statics in sight. -/
namespace DL
open PySem PySem.Spec PyProof.Rows L2
end DL

/-! The data layer, part 50: list.extend with a list. -/
namespace DL
open PySem PySem.Spec PyProof.Rows L2
section
variable {X : Cx} {W : WX} {k : Nat} {o e : Expr} {fo fe : FE} {pos apos cpos : Pos}
end
end DL

/-! The data layer, part 51: != by an own __eq__. -/
namespace DL
open PySem PySem.Spec PyProof.Rows L2
/-- what != asks of a class that has no __ne__ of its own -/
structure NeC (K : PySem.W.Frag) (C : Addr) : Prop where
  hn : PySem.W.findIn K (.ref C) "__ne__" = some (some (.builtin "object.__ne__"))
  hm : PySem.W.mroIn K C (.type "object") = some true
section
variable {prog : Program} {w : World} {A : Around} {E : Value → Shared → Prop} {s : Shared} {K : PySem.W.Frag} {x y C L f : Addr} {h₀ : Heap} {m : Str → Option Value} {ox oy : Obj} {od od' : Option Obj}
end
section
variable {X : Cx} {W : WX} {k : Nat}
end
end DL

/-! The data layer, part 52: what the module's names reach, told by a number's bits (no list is searched). -/
namespace DL
open PySem PySem.Spec PyProof.Rows L2
end DL

/-! The data layer, part 53: a, b = a list or a tuple. -/
namespace DL
open PySem L2
def mSeqT (n : Nat) (ms : List D → EnvD → Store → Option EnvD) : FG := fun d ρ S => match asQ S d with
  | some ds => if ds.length = n then ms ds ρ S else none
  | none => none
@[simp] theorem e_mSeqT (n : Nat) (ms : List D → EnvD → Store → Option EnvD) (ds : List D) (d : D) (ρ : EnvD) (S : Store) (h : asQ S d = some ds) : mSeqT n ms d ρ S = if ds.length = n then ms ds ρ S else none := by
  unfold mSeqT
  rw [h]
end DL

/-! The data layer, part 54: zip of two tuples, and of a list that may change with a list. -/
namespace DL
open PySem L2
def zipA : List D → Store → Res ItD := fun ds S => match ds with
  | [.lst xs, .lst ys] => .ok ⟨zipD xs ys, none⟩ S
  | [.tup xs, .tup ys] => .ok ⟨zipD xs ys, none⟩ S
  | [.oid n, .lst ys] => (match asL S (.oid n) with
    | some xs => .ok ⟨zipD xs ys, some (.oid n, xs)⟩ S
    | none => .stuck)
  | _ => .stuck
def fZipA (fa : FA) : FI := fun ρ S => (fa ρ S).bind zipA
section
variable {X : Cx} {W : WX} {k : Nat} {pos p : Pos}
theorem ri_zipL {Z φ : List Addr} {S : Store} {H : Hp} {d e : D} {xs ys : List D} {a b : Addr} {c : Option (D × List D)} (hx : Dat X.K X.mg φ (gnd Z φ S H) d (.ref a)) (hy : Dat X.K X.mg φ (gnd Z φ S H) e (.ref b)) (hc : ∀ S', okC c S' → asL S' d = some xs ∧ asL S' e = some ys) : RI X.K X.mg Z φ S H ⟨zipD xs ys, c⟩ (Itz X.K a b) :=
  fun i Z' φ' S' H' hZ R hp hs ok => by
    obtain ⟨c1, c2⟩ := hc S' ok
    obtain ⟨a', vs, e1, s1, d1⟩ := asL_ok R (Dat.mono hp hs _ _ hx) c1
    obtain ⟨b', us, e2, s2, d2⟩ := asL_ok R (Dat.mono hp hs _ _ hy) c2
    cases e1
    cases e2
    refine ⟨fun z hz => ?_, fun hl => ⟨vs, us, s1, s2, ?_⟩⟩
    · obtain ⟨x, y, h1, h2, rfl⟩ := zipD_get hz
      obtain ⟨u, hu, du⟩ := d1.get h1
      obtain ⟨v, hv, dv⟩ := d2.get h2
      refine ⟨⟨vs, us, u, v, s1, s2, hu, hv⟩, fun y' H'' yl => ?_⟩
      obtain ⟨T, x', y'', rfl, hT, rfl, q1, q2⟩ := yl
      have z1 := q1 vs s1
      have z2 := q2 us s2
      rw [hu] at z1
      rw [hv] at z2
      cases z1
      cases z2
      exact dat_newT R (.cons du (.cons dv DatL.nil)) hT
    · have hl' : (List.zipWith (fun x y => D.tup [x, y]) xs ys).length ≤ i := hl
      rw [List.length_zipWith] at hl'
      rw [d1.length, d2.length]
      omega
theorem dTup {φ : List Addr} {G : Hp} {ds : List D} {v : V} (h : Dat X.K X.mg φ G (.tup ds) v) : ∃ a vs, v = .ref a ∧ SqT X.K G a vs ∧ DatL X.K X.mg φ G ds vs := by
  unfold Dat at h
  exact h
theorem ri_zipT {Z φ : List Addr} {S : Store} {H : Hp} {xs ys : List D} {a b : Addr} (hx : Dat X.K X.mg φ (gnd Z φ S H) (.tup xs) (.ref a)) (hy : Dat X.K X.mg φ (gnd Z φ S H) (.tup ys) (.ref b)) : RI X.K X.mg Z φ S H ⟨zipD xs ys, none⟩ (RZ.ItzT X.K a b) :=
  fun i Z' φ' S' H' hZ R hp hs ok => by
    obtain ⟨a', vs, e1, g1, d1⟩ := dTup (Dat.mono hp hs _ _ hx)
    obtain ⟨b', us, e2, g2, d2⟩ := dTup (Dat.mono hp hs _ _ hy)
    cases e1
    cases e2
    have s1 : SqT X.K H' a vs := sqt_mono gnd_sub g1
    have s2 : SqT X.K H' b us := sqt_mono gnd_sub g2
    refine ⟨fun z hz => ?_, fun hl => ⟨vs, us, s1, s2, ?_⟩⟩
    · obtain ⟨x, y, h1, h2, rfl⟩ := zipD_get hz
      obtain ⟨u, hu, du⟩ := d1.get h1
      obtain ⟨v, hv, dv⟩ := d2.get h2
      refine ⟨⟨vs, us, u, v, s1, s2, hu, hv⟩, fun y' H'' yl => ?_⟩
      obtain ⟨T, x', y'', rfl, hT, rfl, q1, q2⟩ := yl
      have z1 := q1 vs s1
      have z2 := q2 us s2
      rw [hu] at z1
      rw [hv] at z2
      cases z1
      cases z2
      exact dat_newT R (.cons du (.cons dv DatL.nil)) hT
    · have hl' : (List.zipWith (fun x y => D.tup [x, y]) xs ys).length ≤ i := hl
      rw [List.length_zipWith] at hl'
      rw [d1.length, d2.length]
      omega
theorem di_zipA {e e2 : Expr} {fa : FA} {elts : List Expr} {kk : Nat} {tpos : Pos} (hg : Gl X "zip") (hm : X.mg "zip" = none) (ha : DA X W [e, e2] fa)
    (hs : starEach [e, e2] X.env = (false, eval e X.env) :: starEach [e2] X.env := by rfl) (hpl : (backTo pos (starEach [e2] X.env)).any (·.1) = false := by rfl) :
    DI X W (.Tuple elts kk tpos) (.Call (.Name "zip" p) [e, e2] [] pos) (fZipA fa) := by
  obtain ⟨t, pa, q⟩ := ha.ex
  refine .mk (RZ.pi_zipA hg hm pa hs hpl) fun Z φ S ρ σ H R R0 sl w => q Z φ S ρ σ H _ R0 sl (w.bind fun ds S1 vs φ1 H1 R1 E1 d w1 => ?_)
  unfold zipA at w1
  split at w1
  · rename_i xs ys
    obtain ⟨u, v, rfl, h1, h2⟩ := datL2 d
    obtain ⟨a, us, rfl, g1, d1⟩ := asL_ok R1 h1 rfl
    obtain ⟨b, ws, rfl, g2, d2⟩ := asL_ok R1 h2 rfl
    exact ⟨a, b, us, ws, rfl, .inl ⟨g1, g2, w1 _ _ _ R1 Evo.refl (ri_zipL h1 h2 fun _ _ => ⟨rfl, rfl⟩)⟩⟩
  · rename_i xs ys
    obtain ⟨u, v, rfl, h1, h2⟩ := datL2 d
    obtain ⟨a, us, rfl, g1, d1⟩ := dTup h1
    obtain ⟨b, ws, rfl, g2, d2⟩ := dTup h2
    exact ⟨a, b, us, ws, rfl, .inr ⟨sqt_mono gnd_sub g1, sqt_mono gnd_sub g2, w1 _ _ _ R1 Evo.refl (ri_zipT h1 h2)⟩⟩
  · rename_i n ys
    obtain ⟨u, v, rfl, h1, h2⟩ := datL2 d
    cases hq : asL S1 (.oid n) with
    | none =>
      rw [hq] at w1
      exact w1.elim
    | some xs =>
      rw [hq] at w1
      obtain ⟨a, us, rfl, g1, d1⟩ := asL_ok R1 h1 hq
      obtain ⟨b, ws, rfl, g2, d2⟩ := asL_ok R1 h2 rfl
      exact ⟨a, b, us, ws, rfl, .inl ⟨g1, g2, w1 _ _ _ R1 Evo.refl (ri_zipL h1 h2 fun S' ok => ⟨ok, rfl⟩)⟩⟩
  · exact w1.elim
@[simp] theorem e_fZipA (fa : FA) (ρ : EnvD) (S : Store) : fZipA fa ρ S = (fa ρ S).bind zipA := rfl
end
end DL

/-! The data layer, part 55: x is True, x is not True; sorted of a tuple of numbers. -/
namespace DL
open PySem PySem.Spec PyProof.Rows L2
/-! ### is a truth -/
section
variable {X : Cx}
def isBl : D → Bool → Bool
  | .bl c, b => c == b
  | _, _ => false
def gIsBl : G2 := fun x y S => match y with
  | .bl b => .ok (.bl (isBl x b)) S
  | _ => .stuck
def gNotBl : G2 := fun x y S => match y with
  | .bl b => .ok (.bl (!isBl x b)) S
  | _ => .stuck
@[simp] theorem e_gIsBl (b c : Bool) (S : Store) : gIsBl (.bl c) (.bl b) S = .ok (.bl (c == b)) S := rfl
@[simp] theorem e_gNotBl (b c : Bool) (S : Store) : gNotBl (.bl c) (.bl b) S = .ok (.bl (!(c == b))) S := rfl
/-! ### sorted of a tuple -/
end
end DL
namespace SrtO
open PySem PyProof.Rows Srt
section
variable {prog : Program} {w : World} {A : Around} {E : Value → Shared → Prop} {s : Shared}
end
end SrtO
namespace DL
open PySem PySem.Spec PyProof.Rows L2
section
variable {X : Cx} {W : WX} {k : Nat} {e : Expr} {pos p : Pos}
end
end DL

/-! The data layer, part 56: xs[::-1] of a list. -/
namespace DL
open PySem PySem.Spec PyProof.Rows L2
section
variable {X : Cx} {W : WX} {k : Nat} {e : Expr} {fe : FE} {pos p p1 p2 p3 : Pos}
def gRevL (x : D) (S : Store) : Res D := match asL S x with
  | some xs => .ok (.lst xs.reverse) S
  | none => .stuck
@[simp] theorem e_gRevL (xs : List D) (S : Store) : gRevL (.lst xs) S = .ok (.lst xs.reverse) S := rfl
end
end DL

/-! The data layer, part 57: tuple * number, nought and one too. -/
namespace L2
open PySem PySem.Spec PyProof.Rows
section
variable {X : Cx}
end
end L2
namespace DL
open PySem PySem.Spec PyProof.Rows L2
section
variable {X : Cx} {W : WX} {a b : Expr} {fa fb : FE} {pos : Pos}
end
end DL

/-! The data layer, part 58: isinstance(x, P) of an instance of a class under P. -/
namespace DL
open PySem PySem.Spec PyProof.Rows L2
structure IsuC (K : PySem.W.Frag) (C P : Addr) : Prop where
  isi : IsiC K C
  one : PySem.W.kitOne K (.ref C) (.ref P) = some true
section
variable {X : Cx} {W : WX} {k : Nat} {e b : Expr} {pos p : Pos}
end
end DL

/-! The data layer, part 59: tables of the top (dicts with text keys that stand in the written part): in, not in, t[k]. -/
namespace DL
open PySem PySem.Spec PyProof.Rows L2
def dVal (K : PySem.W.Frag) : D → V
  | .str x => .str x
  | .int i => .int i
  | .bl b => .bl b
  | .cls c => .ref (He.ga K c)
  | _ => .non
/-- the defs that a table holds stand by their names -/
def AllFn (K : PySem.W.Frag) (mg : Str → Option Value) : List (Str × D) → Prop
  | [] => True
  | (_, .cls c) :: r => mg c = some (.ref (He.ga K c)) ∧ AllFn K mg r
  | _ :: r => AllFn K mg r
theorem okTV_ok {K : PySem.W.Frag} {mg : Str → Option Value} {d : D} {u : Value} (h : okTV K d u = true) (hf : ∀ c, d = .cls c → mg c = some (.ref (He.ga K c))) : RelV (dVal K d) u ∧ ∀ (φ : List Addr) (G : Hp), Dat K mg φ G d (dVal K d) := by
  unfold okTV at h
  split at h
  · rename_i x y t
    obtain rfl := of_decide_eq_true h
    exact ⟨⟨t, rfl⟩, fun φ G => by unfold Dat; rfl⟩
  · rename_i i j t
    obtain rfl := of_decide_eq_true h
    exact ⟨⟨t, rfl⟩, fun φ G => by unfold Dat; rfl⟩
  · rename_i b c
    obtain rfl := of_decide_eq_true h
    exact ⟨rfl, fun φ G => by unfold Dat; rfl⟩
  · exact ⟨rfl, fun φ G => by unfold Dat; rfl⟩
  · rename_i c a
    obtain rfl := of_decide_eq_true h
    exact ⟨rfl, fun φ G => by unfold Dat; exact ⟨_, rfl, hf c rfl⟩⟩
  · cases h
theorem allFn_mem {K : PySem.W.Frag} {mg : Str → Option Value} : ∀ {tab : List (Str × D)}, AllFn K mg tab → ∀ z c, (z, D.cls c) ∈ tab → mg c = some (.ref (He.ga K c))
  | [], _, _, _, h => by cases h
  | (y, d) :: r, h, z, c, hm => by
    rcases List.mem_cons.mp hm with e | hm
    · cases e
      exact h.1
    · have h2 : AllFn K mg r := by
        unfold AllFn at h
        split at h
        · rename_i q; cases q
        · rename_i q; cases q; exact h.2
        · rename_i q; cases q; exact h
      exact allFn_mem h2 z c hm
/-- what stands at a: a table -/
structure TabC (K : PySem.W.Frag) (mg : Str → Option Value) (w : World) (a : Addr) (tab : List (Str × D)) : Prop where
  kd : ∃ es n, KDict K w a es n
  at_ : ∀ z d, tab.lookup z = some d → ∃ u, PySem.W.nsIn K a z = some (some u) ∧ RelV (dVal K d) u ∧ ∀ (φ : List Addr) (G : Hp), Dat K mg φ G d (dVal K d)
  out : ∀ z, tab.lookup z = none → PySem.W.nsIn K a z = some none
theorem lookup_mem {tab : List (Str × D)} {z : Str} {d : D} (h : tab.lookup z = some d) : (z, d) ∈ tab := by
  induction tab with
  | nil => cases h
  | cons q tab ih =>
    obtain ⟨k, e⟩ := q
    rw [List.lookup_cons] at h
    by_cases hk : (z == k) = true
    · rw [hk] at h
      cases h
      rw [beq_iff_eq.mp hk]
      exact List.mem_cons_self
    · have hk : (z == k) = false := by simpa using hk
      rw [hk] at h
      exact List.mem_cons_of_mem _ (ih h)
theorem lookup_none {tab : List (Str × D)} {z : Str} (h : tab.lookup z = none) : z ∉ tab.map (·.1) := by
  induction tab with
  | nil => simp
  | cons q tab ih =>
    obtain ⟨k, e⟩ := q
    rw [List.lookup_cons] at h
    by_cases hk : (z == k) = true
    · rw [hk] at h; cases h
    · have hk : (z == k) = false := by simpa using hk
      rw [hk] at h
      have := ih h
      simp only [List.map_cons, List.mem_cons, not_or]
      exact ⟨fun e => by rw [e] at hk; simp at hk, this⟩
theorem keys_all {P : Params} : ∀ {l : List DictEntry} {ks : List Str}, l.map He.keyOf = He.keysIn P ks → ∀ e ∈ l, ∃ x t, e.key = .str x t ∧ x ∈ ks
  | [], _, _, e, he => by cases he
  | e :: r, [], h, _, _ => by cases h
  | e :: r, k :: ks, h, x, hx => by
    have h1 : He.keyOf e :: r.map He.keyOf = some (k, PyData.keyHash P k) :: He.keysIn P ks := h
    injection h1 with h2 h3
    rcases List.mem_cons.mp hx with rfl | hx
    · unfold He.keyOf at h2
      split at h2
      · rename_i y t q
        injection h2 with h2
        injection h2 with h4 h5
        exact ⟨y, t, q, by rw [h4]; exact List.mem_cons_self⟩
      · cases h2
    · obtain ⟨y, t, q1, q2⟩ := keys_all h3 x hx
      exact ⟨y, t, q1, List.mem_cons_of_mem _ q2⟩
theorem tabC_of {K : PySem.W.Frag} {mg : Str → Option Value} {w : World} {a : Addr} {tab : List (Str × D)} (h1 : He.dicW K a = some (He.keysIn w.params (tab.map (·.1)))) (h2 : tabV K a tab = true) (h3 : AllFn K mg tab) : TabC K mg w a tab := by
  obtain ⟨es, n, kd⟩ := He.dicW_ok h1
  have hk : es.toList.map He.keyOf = He.keysIn w.params (tab.map (·.1)) := by
    unfold He.dicW at h1
    rw [kd.at_] at h1
    simp only at h1
    split at h1
    · exact Option.some.inj h1
    · cases h1
  refine ⟨⟨es, n, kd⟩, fun z d hz => ?_, fun z hz => ?_⟩
  · have := List.all_eq_true.mp h2 _ (lookup_mem hz)
    simp only at this
    cases e : PySem.W.nsIn K a z with
    | none => rw [e] at this; cases this
    | some r =>
      rw [e] at this
      cases r with
      | none => cases this
      | some u =>
        obtain ⟨r1, r2⟩ := okTV_ok (mg := mg) this fun c e => allFn_mem h3 z c (by rw [← e]; exact lookup_mem hz)
        exact ⟨u, rfl, r1, r2⟩
  · have nz := lookup_none hz
    have all := keys_all hk
    unfold PySem.W.nsIn
    rw [kd.at_]
    simp only
    have f : es.toList.find? (·.key.isStr z) = none := by
      rw [List.find?_eq_none]
      intro e he
      obtain ⟨x, t, q1, q2⟩ := all e he
      rw [q1]
      show ¬ (x == z) = true
      intro q
      rw [beq_iff_eq.mp q] at q2
      exact nz q2
    have r : es.toList.any (·.refKey) = false := by
      rw [List.any_eq_false]
      intro e he
      obtain ⟨x, t, q1, q2⟩ := all e he
      unfold DictEntry.refKey
      rw [q1]
      simp
    rw [f, r]
    rfl
section
variable {X : Cx} {W : WX} {a b : Expr} {fa fb : FE} {pos : Pos}
def gInK (neg : Bool) (c : Str) (tab : List (Str × D)) : G2 := fun x y S => match x, y with
  | .str z, .cls c' => if c' = c then .ok (.bl (if neg then !(tab.lookup z).isSome else (tab.lookup z).isSome)) S else .stuck
  | _, _ => .stuck
def gIxK (c : Str) (tab : List (Str × D)) : G2 := fun x y S => match x, y with
  | .cls c', .str z => if c' = c then (match tab.lookup z with
    | some d => .ok d S
    | none => .stuck) else .stuck
  | _, _ => .stuck
theorem TabC.ns {K : PySem.W.Frag} {mg : Str → Option Value} {w : World} {A : Addr} {tab : List (Str × D)} (T : TabC K mg w A tab) (z : Str) : ∃ r, PySem.W.nsIn K A z = some r ∧ r.isSome = (tab.lookup z).isSome := by
  cases h : tab.lookup z with
  | none => exact ⟨none, T.out z h, rfl⟩
  | some d =>
    obtain ⟨u, e, _⟩ := T.at_ z d h
    exact ⟨some u, e, rfl⟩
theorem opd_notInK {c : Str} {A : Addr} {tab : List (Str × D)} (hm : X.mg c = some (.ref A)) (T : TabC X.K X.mg X.w A tab) : OpD X (fun x y H Q => ∃ (z : Str) (r : Option Value), x = .str z ∧ y = .ref A ∧ PySem.W.nsIn X.K A z = some r ∧ Q (.bl (!r.isSome)) H) (gInK true c tab) := fun Z φ S H x y u v Q E R dx dy w => by
  unfold gInK at w
  split at w
  · rename_i z c'
    obtain ⟨rfl, w1⟩ := want_if w
    unfold Dat at dx dy
    subst dx
    obtain ⟨B, rfl, q⟩ := dy
    rw [hm] at q
    cases q
    obtain ⟨r, e, hr⟩ := T.ns z
    exact ⟨z, r, rfl, rfl, e, by rw [hr]; exact w1.now R (dat_bl _)⟩
  · exact w.elim
theorem opd_ixK {c : Str} {A : Addr} {tab : List (Str × D)} (hm : X.mg c = some (.ref A)) (T : TabC X.K X.mg X.w A tab) : OpD X (L2.rIxD X.K X.w) (gIxK c tab) := fun Z φ S H x y u v Q E R dx dy w => by
  unfold gIxK at w
  split at w
  · rename_i c' z
    obtain ⟨rfl, w1⟩ := want_if w
    unfold Dat at dx dy
    subst dy
    obtain ⟨B, rfl, q⟩ := dx
    rw [hm] at q
    cases q
    cases h : tab.lookup z with
    | none => rw [h] at w1; exact w1.elim
    | some d =>
      rw [h] at w1
      obtain ⟨u, e, r1, r2⟩ := T.at_ z d h
      obtain ⟨es, n, kd⟩ := T.kd
      exact ⟨A, z, dVal X.K d, rfl, rfl, ⟨es, n, u, kd.at_, kd.lit, e, r1⟩, w1.now R (r2 _ _)⟩
  · exact w.elim
theorem de_ixK {c : Str} {A : Addr} {tab : List (Str × D)} (hm : X.mg c = some (.ref A)) (T : TabC X.K X.mg X.w A tab) (ha : DE X W a fa) (hb : DE X W b fb) (hs : PlainIx b) : DE X W (.Subscript a b pos) (fBin (gIxK c tab) fa fb) := de_ix ix_kdict (opd_ixK hm T) ha hb hs
end
end DL

/-! The data layer, part 60: a head's hook with tables of the top. -/
namespace DL
open PySem PySem.Spec PyProof.Rows L2
/-- a table, of what the hook says -/
theorem tabK_at {K : PySem.W.Frag} {mg : Str → Option Value} {w : World} {ts : List TabN} (h : dicsK ts K = dicsW ts w) (i : Nat) {x : Str} {tab : List (Str × D)} (hi : ts[i]? = some (x, tab.map (·.1))) (hv : tabV K (He.ga K x) tab = true) (hf : AllFn K mg tab) : TabC K mg w (He.ga K x) tab := by
  have e2 : (dicsK ts K)[i]? = (dicsW ts w)[i]? := by rw [h]
  unfold dicsK dicsW at e2
  rw [List.getElem?_map, List.getElem?_map, hi] at e2
  exact tabC_of (Option.some.inj e2) hv hf
end DL

/-! The data layer, part 61: o.f, o.g = a, b. -/
namespace L2
open PySem PySem.Spec PyProof.Rows
section
variable {X : Cx}
def gAtt (K : PySem.W.Frag) (to : TE) (f : Str) : TG := fun v σ H Q => to σ H fun o H1 => ∃ a C dx fs, o = .ref a ∧ H1 a = some (.ins C dx fs) ∧ Cls K C ∧ NoAttr K C f ∧ fs.length < 1000 ∧ Q σ (upd H1 a (.ins C dx (putF f v fs)))
theorem pg_att {o : Expr} {f : Str} {pos : Pos} {to : TE} (ho : PE X o to) : PG X (.Attribute o f pos) (gAtt X.K to f) := by
  refine ⟨fun pins s σ H v u Q I r h => ?_⟩
  rw [assign_Attribute]
  refine wpAny_bind (wpAny_holding (thn (ho.run pins s σ H _ I h) fun ov s1 ⟨x, H1, I1, r1, a, C, dx, fs, ex, ea, c, n, l, q⟩ => ?_))
  subst ex
  obtain rfl : ov = Value.ref a := r1
  refine wpAny_bind (wpAny_standAt (wpAny_bind (wpAny_holding (setattr_ok I1 ea c n l r fun s3 I3 => ?_))))
  exact wpAny_release ⟨σ, _, I3, q⟩
end
end L2
namespace DL
open PySem PySem.Spec PyProof.Rows L2
def stFld (cs : List Str) (f : Str) (o d : D) (S : Store) : Option Store := match o with
  | .oid n => (match S[n]? with
    | some (.ins c fs) => if c ∈ cs ∧ fs.length < 1000 then some (S.set n (.ins c (putFD f d fs))) else none
    | _ => none)
  | _ => none
section
variable {X : Cx} {W : WX} {pos : Pos}
theorem stFld_ok {Z φ : List Addr} {S S' : Store} {H : Hp} {cs : List Str} {fn : Str} {o d : D} {ov v : V} {Q : Hp → Prop} (hc : ∀ c ∈ cs, ∃ C, ClsI X c C ∧ NoAttr X.K C fn) (R : Rel X.K X.mg Z φ S H) (d2 : Dat X.K X.mg φ (gnd Z φ S H) o ov) (dd : Dat X.K X.mg φ (gnd Z φ S H) d v) (e : stFld cs fn o d S = some S')
    (hQ : ∀ H', Rel X.K X.mg Z φ S' H' → Evo Z φ S H φ S' H' → Q H') : ∃ a C dx fs, ov = .ref a ∧ H a = some (.ins C dx fs) ∧ Cls X.K C ∧ NoAttr X.K C fn ∧ fs.length < 1000 ∧ Q (upd H a (.ins C dx (putF fn v fs))) := by
  unfold stFld at e
  split at e
  · rename_i n
    unfold Dat at d2
    obtain ⟨a, rfl, ha⟩ := d2
    split at e
    · rename_i c fs hS
      split at e
      · rename_i hm
        cases e
        obtain ⟨hm, hlt⟩ := hm
        obtain ⟨A, dx, fvs, q0, q1, q2⟩ := R.ob n a _ ha hS
        obtain ⟨C, cl, na⟩ := hc c hm
        rw [cl.mg] at q0
        cases q0
        refine ⟨a, A, dx, fvs, rfl, q1, cl.cls, na, by rw [datF_length q2]; exact hlt, ?_⟩
        obtain ⟨R3, E3⟩ := R.mutate (u := .ins c (putFD fn d fs)) (ho := .ins A dx (putF fn v fvs)) ha hS rfl rfl ⟨A, dx, _, cl.mg, upd_same, datF_put dd q2⟩
        exact hQ _ R3 E3
      · cases e
    · cases e
  · cases e
/-- o.f, p.g = value, a pair -/
def gFld2 (cs : List Str) (f g : Str) (fo fp fe : FE) : FS := fun ρ S => (fe ρ S).into ρ fun d S => match d with
  | .tup [d1, d2] => (fo ρ S).into ρ fun o1 S => (match stFld cs f o1 d1 S with
    | some S => (fp ρ S).into ρ fun o2 S => (match stFld cs g o2 d2 S with
      | some S => .nx ρ S
      | none => .stuck)
    | none => .stuck)
  | _ => .stuck
theorem ds_fld2 {o p : Expr} {f g : Str} {cs : List Str} {value : Expr} {fo fp fe : FE} {k : Nat} {p1 p2 pt : Pos} (hcm : X.calm = true) (ho : DE X W o fo) (hp : DE X W p fp) (hv : DE X W value fe)
    (hc : ∀ c ∈ cs, ∃ C, ClsI X c C ∧ NoAttr X.K C f) (hc2 : ∀ c ∈ cs, ∃ C, ClsI X c C ∧ NoAttr X.K C g)
    (hs : swapsWithSole [.Tuple [.Attribute o f p1, .Attribute p g p2] k pt] value pos.line X.env = pure false := by rfl) (hw : swappedStores [.Tuple [.Attribute o f p1, .Attribute p g p2] k pt] value X.env = pure none := by rfl)
    (h1 : (assignEach [.Tuple [.Attribute o f p1, .Attribute p g p2] k pt] X.env).map (·.2) = [assign (.Tuple [.Attribute o f p1, .Attribute p g p2] k pt) X.env] := by rfl)
    (hn : (assignEach [.Attribute o f p1, .Attribute p g p2] X.env).length = 2 := by rfl) (hst : (assignEach [.Attribute o f p1, .Attribute p g p2] X.env).findIdx? (·.1) = none := by rfl)
    (e1 : (assignEach [.Attribute o f p1, .Attribute p g p2] X.env).map (·.2) = assign (.Attribute o f p1) X.env :: (assignEach [.Attribute p g p2] X.env).map (·.2) := by rfl)
    (e2 : (assignEach [.Attribute p g p2] X.env).map (·.2) = assign (.Attribute p g p2) X.env :: (assignEach [] X.env).map (·.2) := by rfl) :
    DS X W (.Assign [.Tuple [.Attribute o f p1, .Attribute p g p2] k pt] value pos) (gFld2 cs f g fo fp fe) := by
  obtain ⟨to, po, qo⟩ := ho.ex
  obtain ⟨tp, pp, qp⟩ := hp.ex
  obtain ⟨tv, pv, qv⟩ := hv.ex
  refine .mk (ps_asg pv (pg_tup hcm (pgs_cons (pg_att po) (pgs_cons (pg_att pp) pgs_nil e2) e1) hn hst) hs hw h1) fun Z φ S ρ σ H Dd R sl w => qv Z φ S ρ σ H _ R sl (w.into sl fun d S1 v φ1 H1 R1 E1 dd w1 => ?_)
  split at w1
  · rename_i d1 d2
    unfold RDat Dat at dd
    obtain ⟨a, vs, rfl, s1, ds⟩ := dd
    obtain ⟨v1, r, rfl, dv1, ds⟩ := ds.uncons
    obtain ⟨v2, r, rfl, dv2, ds⟩ := ds.uncons
    unfold DatL at ds
    subst ds
    refine ⟨a, [v1, v2], rfl, sqt_mono (fun b u hb => gnd_some hb) s1, rfl, v1, [v2], rfl, ?_⟩
    refine qo Z φ1 S1 ρ σ H1 _ R1 (sl.evo E1) (w1.into (sl.evo E1) fun o1 S2 ov φ2 H2 R2 E2 d2' w2 => ?_)
    cases q1 : stFld cs f o1 d1 S2 with
    | none => rw [q1] at w2; exact w2.elim
    | some S3 =>
      rw [q1] at w2
      simp only at w2
      refine stFld_ok (Q := fun H3 => gCons (gAtt X.K tp g) L2.gNil [v2] σ H3 Dd.nx) hc R2 d2' (Dat.evo E2 dv1) q1 fun H3 R3 E3 => ?_
      refine ⟨v2, [], rfl, ?_⟩
      refine qp Z φ2 S3 ρ σ H3 _ R3 (((sl.evo E1).evo E2).evo E3) ((w2.go E3).into (((sl.evo E1).evo E2).evo E3) fun o2 S4 ov2 φ3 H4 R4 E4 d3' w3 => ?_)
      cases q2 : stFld cs g o2 d2 S4 with
      | none => rw [q2] at w3; exact w3.elim
      | some S5 =>
        rw [q2] at w3
        simp only at w3
        refine stFld_ok (Q := fun H5 => L2.gNil [] σ H5 Dd.nx) hc2 R4 d3' (Dat.evo E4 (Dat.evo E3 (Dat.evo E2 dv2))) q2 fun H5 R5 E5 => ⟨rfl, ?_⟩
        exact w3 σ φ3 H5 R5 E5 (((((sl.evo E1).evo E2).evo E3).evo E4).evo E5)
  · exact w1.elim
end
end DL

/-! The data layer, part 62: xs[::2], xs[1::2] of a list. -/
namespace L2
open PySem PySem.Spec PyProof.Rows
section
variable {X : Cx}
end
end L2
namespace DL
open PySem PySem.Spec PyProof.Rows L2
section
variable {X : Cx} {W : WX} {e : Expr} {fe : FE} {pos p1 p3 : Pos}
end
end DL

/-! The data layer, part 63: zip of a list and a text. -/
namespace L2
open PySem PySem.Spec PyProof.Rows
/-- the list at a and a text, the items in new pairs -/
def Itzs (K : PySem.W.Frag) (a : Addr) (x : Str) : It :=
  ⟨fun i H => ∃ (xs : List V) (y : V), SqL K H a xs ∧ xs[i]? = some y ∧ i < x.cps.size,
    fun i H v H' => ∃ T y c, v = .ref T ∧ H T = none ∧ H' = upd H T (.tup [y, .str ⟨#[c]⟩]) ∧ (∀ xs, SqL K H a xs → xs[i]? = some y) ∧ x.cps[i]? = some c,
    fun i H => ∃ xs : List V, SqL K H a xs ∧ (xs.length ≤ i ∨ x.cps.size ≤ i)⟩
section
variable {prog : Program} {w : World} {A : Around}
theorem draws_listEnd (hh : A.handled = none) (it l : Addr) (items : Array Value) {i : Nat} (hx : items[i]? = none) :
    Draws prog w A it [it, l] i (fun _ _ => False) (fun j h => j = i ∧ h.IsListIter it l i ∧ h.IsList l items) where
  live := fun _ _ st => let ⟨o, ho, _⟩ := st.2.1; ⟨o, ho⟩
  frame := fun _ _ _ st hk => ⟨st.1, st.2.1.at fun o e => hk it (by simp) o e, st.2.2.at fun o e => hk l (by simp) o e⟩
  item := fun j s Q E hj st hQ => absurd st.1 (by omega)
  done := fun s Q E st hE => wpAny_nextOf_list_end hh st.2.1 st.2.2 hx hE
theorem draws_textEnd (hh : A.handled = none) (it : Addr) (x : Str) (t : Tok) {i : Nat} (hx : x.cps[i]? = none) :
    Draws prog w A it [it] i (fun _ _ => False) (fun j h => j = i ∧ h.IsStrIter it (strIterType x) x t i) where
  live := fun _ _ st => let ⟨o, ho, _⟩ := st.2; ⟨o, ho⟩
  frame := fun _ _ _ st hk => let ⟨o, ho, r⟩ := st.2; ⟨st.1, o, hk it (by simp) o ho, r⟩
  item := fun j s Q E hj st hQ => absurd st.1 (by omega)
  done := fun s Q E st hE => by
    have st := st.2
    cases ha : x.cps.all (· < 128) with
    | false =>
      simp only [strIterType, ha, Bool.false_eq_true, if_false] at st
      exact wpAny_nextOf_wide_end hh st hx hE
    | true =>
      simp only [strIterType, ha, if_true] at st
      exact wpAny_nextOf_ascii_end hh st hx hE
end
theorem sep_of {z TI TO i1 i2 a : Addr} (D : ZipApart z TI TO i1 i2 a a) : ZipSep2 z TI TO i1 i2 [i1, a] [i2] where
  TIz := D.TIz
  TOz := D.TOz
  TITO := D.TITO
  TIi1 := D.TIi1
  mem1 := by simp
  zf1 := by simp; exact ⟨fun e => D.i1z e.symm, fun e => D.l1z e.symm⟩
  Tf1 := by simp; exact ⟨D.TOi1, fun e => D.l1TO e.symm⟩
  TIi2 := D.TIi2
  mem2 := by simp
  zf2 := by simp; exact fun e => D.i2z e.symm
  Tf2 := by simp; exact D.TOi2
  sep1_2 := by simp; exact D.i12
  sep2_1 := by simp; exact ⟨fun e => D.i12 e.symm, fun e => D.l1i2 e.symm⟩
theorem turn_zips {P : Program} {w : World} {K : PySem.W.Frag} {elts : List Expr} {kk : Nat} {tpos : Pos} {a z TI TO i1 i2 : Addr} (D : ZipApart z TI TO i1 i2 a a) (x : Str) (t : Tok) :
    Turn P w K (.Tuple elts kk tpos) (Itzs K a x) [z, TI, TO, i1, i2] z (fun i h => IsZip h z TI TO .none ∧ IsPair h TI (.ref i1) (.ref i2) ∧ (∃ x y, IsPair h TO x y) ∧ h.IsListIter i1 a i ∧ h.IsStrIter i2 (strIterType x) x t i) where
  mem := by simp
  obj := fun i h st c hc => by
    obtain ⟨hz, hTI, ⟨x, y, hTO⟩, ⟨o1, e1, _, d1⟩, ⟨o2, e2, _, d2⟩⟩ := st
    have e' : c = z ∨ c = TI ∨ c = TO ∨ c = i1 ∨ c = i2 := by simpa using hc
    rcases e' with q | q | q | q | q
    · rw [q]; exact ⟨_, hz, fun v q => nomatch q⟩
    · rw [q]; exact ⟨_, hTI, fun v q => nomatch q⟩
    · rw [q]; exact ⟨_, hTO, fun v q => nomatch q⟩
    · rw [q]; exact ⟨o1, e1, fun v q => by rw [d1] at q; cases q⟩
    · rw [q]; exact ⟨o2, e2, fun v q => by rw [d2] at q; cases q⟩
  keep := fun i h h' st k => by
    obtain ⟨hz, hTI, ⟨x, y, hTO⟩, h1, ⟨o2, e2, r2⟩⟩ := st
    exact ⟨k z (by simp) _ hz, k TI (by simp) _ hTI, ⟨x, y, k TO (by simp) _ hTO⟩, h1.at fun o q => k i1 (by simp) o q, ⟨o2, k i2 (by simp) o2 e2, r2⟩⟩
  item := by
    intro X hP hw hK hc i pins s σ H E I hf st hg
    subst hP hw hK
    obtain ⟨hz, hTI, ⟨x0, y0, hTO⟩, h1, h2⟩ := st
    obtain ⟨xs, y, hqx, hx, hlt⟩ := hg
    obtain ⟨its, rv, p, _⟩ := I.list hqx
    obtain ⟨u, hu, ru⟩ := rv.get hx
    have hzl : z < s.heap.objs.size := Heap.lt_size hz
    have hlen : i < its.toArray.size := by
      have := (List.getElem?_eq_some_iff.mp hu).1
      simpa using this
    have hh : X.A.in1.handled = none := I.ok.hd hc
    refine wpAny_pyNext_zipD2_item (sep_of D) (Draws.list hh i1 a D.l1i1 its.toArray) (Draws.text hh i2 x t) hz hTI hTO ⟨h1, p.isList⟩ h2 hlen hlt fun x1 x2 h' tk y1 y2 z' TO' st1' st2' hT hsz hk => ?_
    obtain ⟨c, u2, hcx, rfl⟩ := y2
    have y1 : its.toArray[i]? = some x1 := y1
    have ex : x1 = u := by
      have : its[i]? = some x1 := by simpa using y1
      rw [hu] at this
      cases this
      rfl
    subst ex
    refine ⟨_, rfl, wpAny_letOwnedTupleGo_zip (s := { s with heap := h', toks := tk }) z' fun h'' z'' sb => ?_⟩
    have hT2 : h''.get? s.heap.objs.size = some { cls := .type "tuple", data := .seq #[x1, .str ⟨#[c]⟩ u2] } := (sb.2 _ (Nat.ne_of_gt hzl)).trans hT
    have new : ObjOk X.prog X.w (upd H s.heap.objs.size (.tup [y, .str ⟨#[c]⟩])) h'' s.heap.objs.size (.tup [y, .str ⟨#[c]⟩]) :=
      ⟨by show 2 ≤ sizeLine; decide, [x1, .str ⟨#[c]⟩ u2], .cons ru (.cons ⟨u2, rfl⟩ .nil), ⟨_, hT2, rfl, _, rfl⟩⟩
    have I1 : Inv X pins σ (upd H s.heap.objs.size (.tup [y, .str ⟨#[c]⟩])) { s with heap := h'', toks := tk } :=
      I.turnedNew (t' := tk) (ch := [z, TI, TO, i1, i2]) (fun c o hb q => (sb.2 c (fun q' => hb (by simp [q']))).trans (hk c o (fun q' => hb (by simp [q'])) (fun q' => hb (by simp [q'])) (fun q' => hb (by simp [q'])) (fun q' => hb (by simp [q'])) q)) hf (Nat.le_refl _) new
    obtain ⟨h1', _⟩ := st1'
    obtain ⟨o2, e2, r2⟩ := st2'
    refine ⟨.ref s.heap.objs.size, _, I1, rfl, ⟨_, y, c, rfl, I.hok.fresh (Nat.le_refl _), rfl, fun l hl => by rw [I.list_inj hl hqx]; exact hx, hcx⟩, ⟨z'', ?_, ⟨x1, .str ⟨#[c]⟩ u2, ?_⟩, ?_, ?_⟩, fun c hcm => ?_⟩
    · exact (sb.2 _ D.TIz).trans (hk _ _ D.TIz D.TITO D.TIi1 D.TIi2 hTI)
    · exact (sb.2 _ D.TOz).trans TO'
    · exact h1'.at fun o q => (sb.2 _ D.i1z).trans q
    · exact ⟨o2, (sb.2 _ D.i2z).trans e2, r2⟩
    · have hlt : c < s.heap.objs.size := by
        have e' : c = z ∨ c = TI ∨ c = TO ∨ c = i1 ∨ c = i2 := by simpa using hcm
        rcases e' with q | q | q | q | q
        · rw [q]; exact hzl
        · rw [q]; exact Heap.lt_size hTI
        · rw [q]; exact Heap.lt_size hTO
        · rw [q]; obtain ⟨_, e1, _⟩ := h1; exact Heap.lt_size e1
        · rw [q]; obtain ⟨_, e2, _⟩ := h2; exact Heap.lt_size e2
      rw [upd_ne (Nat.ne_of_lt hlt)]
      exact (hf c hcm).1
  done := by
    intro X hP hw hK hc i pins s σ H E I hf st hg
    subst hP hw hK
    obtain ⟨hz, hTI, ⟨x0, y0, hTO⟩, h1, h2⟩ := st
    obtain ⟨xs, hqx, hend⟩ := hg
    obtain ⟨its, rv, p, _⟩ := I.list hqx
    have l1 := rv.length
    have hh : X.A.in1.handled = none := I.ok.hd hc
    have fin : ∀ (h' : Heap) (tk : Nat), (∀ c o, c ≠ z → c ≠ TO → c ≠ i1 → c ≠ i2 → s.heap.get? c = some o → h'.get? c = some o) → (none : Option Value) = none ∧ Inv X pins σ H { s with heap := h', toks := tk } := fun h' tk hk =>
      ⟨rfl, I.turnedL (t' := tk) (ch := [z, TI, TO, i1, i2]) (fun c o hb q => hk c o (fun q' => hb (by simp [q'])) (fun q' => hb (by simp [q'])) (fun q' => hb (by simp [q'])) (fun q' => hb (by simp [q'])) q) hf⟩
    by_cases ha : its.length ≤ i
    · have hx : its.toArray[i]? = none := by simp; omega
      by_cases hb : x.cps.size ≤ i
      · exact wpAny_pyNext_zipD2_end (sep_of D) (draws_listEnd hh i1 a its.toArray hx) (draws_textEnd hh i2 x t (Array.getElem?_eq_none hb)) hz hTI hTO ⟨rfl, h1, p.isList⟩ ⟨rfl, h2⟩ (Nat.le_refl _) (Nat.le_refl _) (.inl rfl) fin
      · exact wpAny_pyNext_zipD2_end (sep_of D) (draws_listEnd hh i1 a its.toArray hx) (Draws.text hh i2 x t) hz hTI hTO ⟨rfl, h1, p.isList⟩ h2 (Nat.le_refl _) (by omega) (.inl rfl) fin
    · have hb : x.cps.size ≤ i := by omega
      exact wpAny_pyNext_zipD2_end (sep_of D) (Draws.list hh i1 a D.l1i1 its.toArray) (draws_textEnd hh i2 x t (Array.getElem?_eq_none hb)) hz hTI hTO ⟨h1, p.isList⟩ ⟨rfl, h2⟩ (by simp; omega) (Nat.le_refl _) (.inr rfl) fin
  self := fun A i s Q E st h => wpAny_pyIter_zip st.1 h
def iZips (K : PySem.W.Frag) (ta : TA) : TI := fun σ H R => ta σ H fun vs H1 => ∃ a x xs, vs = [.ref a, .str x] ∧ SqL K H1 a xs ∧ R (Itzs K a x) H1
theorem pi_zips {X : Cx} {e e2 : Expr} {ta : TA} {p pos tpos : Pos} {elts : List Expr} {kk : Nat} (hg : Gl X "zip") (hm : X.mg "zip" = none) (ha : PA X [e, e2] ta)
    (hs : starEach [e, e2] X.env = (false, eval e X.env) :: starEach [e2] X.env := by rfl) (hpl : (backTo pos (starEach [e2] X.env)).any (·.1) = false := by rfl) :
    PI X (.Tuple elts kk tpos) (.Call (.Name "zip" p) [e, e2] [] pos) (iZips X.K ta) := by
  refine ⟨fun pins s σ H R I h => ?_⟩
  refine Call_ (ld_blt I hg hm PyProof.Rows.boot_zip (PyProof.Rows.callWith_type1 (thn (ha.run pos pins s σ H _ I h) fun us s1 ⟨vs, H1, I1, r1, q1⟩ => ?_) hs hpl))
  obtain ⟨a, x, xs, ex, hqx, q⟩ := q1
  subst ex
  cases r1 with
  | cons r rr =>
    cases rr with
    | cons r' rr =>
      cases rr
      cases r
      obtain ⟨t, rfl⟩ := r'
      obtain ⟨its, rv, p1, _⟩ := I1.list hqx
      have la : a < s1.heap.objs.size := p1.lt
      refine zip_begins2 (begins_list a its.toArray) (begins_text x t) p1.isList trivial fun h' hz hTI hTO g1 g2 hsz hk => wpAny_pyIter_zip hz ?_
      have I2 : Inv X pins σ H1 { s1 with heap := h' } := I1.kept (t' := s1.toks) hk
      refine ⟨s1.heap.objs.size + 4, [s1.heap.objs.size + 4, s1.heap.objs.size + 2, s1.heap.objs.size + 3, s1.heap.objs.size, s1.heap.objs.size + 1], _, _, H1, rfl, I2, turn_zips (PySem.W.ktu_apart s1.heap.objs.size a a la la) x t, ⟨hz, hTI, ⟨_, _, hTO⟩, ⟨_, g1, rfl, rfl⟩, ⟨_, g2, rfl, rfl⟩⟩, fun c hcm => ?_, q⟩
      have e' : c = s1.heap.objs.size + 4 ∨ c = s1.heap.objs.size + 2 ∨ c = s1.heap.objs.size + 3 ∨ c = s1.heap.objs.size ∨ c = s1.heap.objs.size + 1 := by simpa using hcm
      have hle : s1.heap.objs.size ≤ c := by
        rcases e' with z | z | z | z | z
        · rw [z]; exact Nat.le_add_right _ _
        · rw [z]; exact Nat.le_add_right _ _
        · rw [z]; exact Nat.le_add_right _ _
        · rw [z]; exact Nat.le_refl _
        · rw [z]; exact Nat.le_add_right _ _
      exact I1.fpOk hle (I1.hok.fresh hle)
end L2
namespace DL
open PySem PySem.Spec PyProof.Rows L2
def signsD (x : Str) : List D := x.cps.toList.map fun c => D.str ⟨#[c]⟩
def zipS : List D → Store → Res ItD := fun ds S => match ds with
  | [d, .str x] => (match asL S d with
    | some xs => .ok ⟨zipD xs (signsD x), some (d, xs)⟩ S
    | none => .stuck)
  | _ => .stuck
def fZipS (fa : FA) : FI := fun ρ S => (fa ρ S).bind zipS
section
variable {X : Cx} {W : WX} {k : Nat} {pos p : Pos}
theorem ri_zips {Z φ : List Addr} {S : Store} {H : Hp} {d : D} {xs : List D} {a : Addr} {x : Str} (hx : Dat X.K X.mg φ (gnd Z φ S H) d (.ref a)) : RI X.K X.mg Z φ S H ⟨zipD xs (signsD x), some (d, xs)⟩ (Itzs X.K a x) :=
  fun i Z' φ' S' H' hZ R hp hs ok => by
    have c1 : asL S' d = some xs := ok
    obtain ⟨a', vs, e1, s1, d1⟩ := asL_ok R (Dat.mono hp hs _ _ hx) c1
    cases e1
    refine ⟨fun z hz => ?_, fun hl => ⟨vs, s1, ?_⟩⟩
    · obtain ⟨y, sg, h1, h2, rfl⟩ := zipD_get hz
      obtain ⟨u, hu, du⟩ := d1.get h1
      unfold signsD at h2
      rw [List.getElem?_map] at h2
      obtain ⟨c, hc, rfl⟩ := Option.map_eq_some_iff.mp h2
      have hc' : x.cps[i]? = some c := by rw [← Array.getElem?_toList]; exact hc
      have hlt : i < x.cps.size := (Array.getElem?_eq_some_iff.mp hc').1
      refine ⟨⟨vs, u, s1, hu, hlt⟩, fun y' H'' yl => ?_⟩
      obtain ⟨T, x', c', rfl, hT, rfl, q1, q2⟩ := yl
      have z1 := q1 vs s1
      rw [hu] at z1
      cases z1
      rw [hc'] at q2
      cases q2
      exact dat_newT R (.cons du (.cons (by unfold Dat; rfl) DatL.nil)) hT
    · have hl' : (List.zipWith (fun x y => D.tup [x, y]) xs (signsD x)).length ≤ i := hl
      rw [List.length_zipWith] at hl'
      rw [d1.length]
      simp only [signsD, List.length_map, Array.length_toList] at hl'
      omega
theorem di_zips {e e2 : Expr} {fa : FA} {elts : List Expr} {kk : Nat} {tpos : Pos} (hg : Gl X "zip") (hm : X.mg "zip" = none) (ha : DA X W [e, e2] fa)
    (hs : starEach [e, e2] X.env = (false, eval e X.env) :: starEach [e2] X.env := by rfl) (hpl : (backTo pos (starEach [e2] X.env)).any (·.1) = false := by rfl) :
    DI X W (.Tuple elts kk tpos) (.Call (.Name "zip" p) [e, e2] [] pos) (fZipS fa) := by
  obtain ⟨t, pa, q⟩ := ha.ex
  refine .mk (pi_zips hg hm pa hs hpl) fun Z φ S ρ σ H R R0 sl w => q Z φ S ρ σ H _ R0 sl (w.bind fun ds S1 vs φ1 H1 R1 E1 d w1 => ?_)
  unfold zipS at w1
  split at w1
  · rename_i dd x
    split at w1
    · rename_i xs hq
      obtain ⟨v, u, rfl, h1, h2⟩ := datL2 d
      unfold Dat at h2
      subst h2
      obtain ⟨a, vs', rfl, s1, d1⟩ := asL_ok R1 h1 hq
      exact ⟨a, x, vs', rfl, s1, w1 _ φ1 H1 R1 Evo.refl (ri_zips h1)⟩
    · exact w1.elim
  · exact w1.elim
@[simp] theorem e_fZipS (fa : FA) (ρ : EnvD) (S : Store) : fZipS fa ρ S = (fa ρ S).bind zipS := rfl
end
end DL

/-! The data layer, part 64: t.get(k) of tables of the top; a call of a name that holds one of several defs; xs[i] op= e; o.f op= e. -/
namespace DL
open PySem PySem.Spec PyProof.Rows L2
section
variable {X : Cx} {W : WX} {k k' : Nat} {o e f : Expr} {fo fe ff : FE} {apos cpos pos : Pos}
/-! ### a name that holds one of several defs -/
inductive DspT (X : Cx) (sel : List (Nat × Nat)) (np k' : Nat) : List (Str × Sem') → Prop
  | nil : DspT X sel np k' []
  | cons {c : Str} {sem : Sem'} {l : List (Str × Sem')} {k : Nat} {f : Addr} {fd : FuncData} {ps : List Str} (F : FnG X.prog X.w X.K X.mg X.base k f fd ps (spD X.K X.mg ps.length sem)) (hm : X.mg c = some (.ref f)) (hk : PySem.W.keepIn X.K (.ref f) = true)
      (hb : KB X.K fd ps np [] (fun ds es => pick sel ds es [])) (r : DspT X sel np k' l) (hle : k ≤ k' := by decide) (hl : ps.length = np := by rfl) : DspT X sel np k' ((c, sem) :: l)
theorem DspT.get {sel : List (Nat × Nat)} {np : Nat} {l : List (Str × Sem')} {c : Str} {sem : Sem'} {f : Addr} (h : DspT X sel np k' l) (e : l.lookup c = some sem) (hm : X.mg c = some (.ref f)) :
    ∃ (k : Nat) (fd : FuncData) (ps : List Str), FnG X.prog X.w X.K X.mg X.base k f fd ps (spD X.K X.mg ps.length sem) ∧ k ≤ k' ∧ PySem.W.keepIn X.K (.ref f) = true ∧ ps.length = np ∧ KB X.K fd ps np [] (fun ds es => pick sel ds es []) := by
  induction h with
  | nil => cases e
  | @cons c' sem' l k f' fd ps F hm' hk hb r hle hl ih =>
    rw [List.lookup_cons] at e
    by_cases q : (c == c') = true
    · rw [q] at e
      cases e
      obtain rfl : c = c' := beq_iff_eq.mp q
      rw [hm] at hm'
      cases hm'
      exact ⟨k, fd, ps, F, hle, hk, hl, hb⟩
    · have q : (c == c') = false := by simpa using q
      rw [q] at e
      exact ih e
def fDspV (i : Nat) (sel : List (Nat × Nat)) (np : Nat) (l : List (Str × Sem')) (fa : FA) : FE := fun ρ S => match ρ[i]? with
  | some (some (.cls c)) => (match l.lookup c with
    | some sem => (fa ρ S).bind fun ds S => if ds.length = np ∧ (pick sel ds [] []).length = np then sem (pick sel ds [] []) S else .stuck
    | none => .stuck)
  | _ => .stuck
/-! ### xs[i] op= e, o.f op= e -/
def gAtL (x y : D) (S : Store) : Res D := match asL S x, y with
  | some ds, .int i => if 0 ≤ i then (match atI ds i with
    | some d => .ok d S
    | none => .stuck) else .stuck
  | _, _ => .stuck
def gAugL (g : G2) (fo fi fe : FE) : FS := fun ρ S => (fo ρ S).into ρ fun x S => (fi ρ S).into ρ fun y S => (gAtL x y S).into ρ fun d S => (fe ρ S).into ρ fun c S => (g d c S).into ρ fun z S => match storeAt x y z S with
  | some S => .nx ρ S
  | none => .stuck
end
end DL

/-! The data layer, part 65: a, *b = t, of a tuple. -/
namespace PySem
open PySem.Spec PySem.Calls PyProof.Rows PySem.W L2
section
variable {prog : Program} {w : World} {A : Around} {E : Value → Shared → Prop} {s : Shared}
theorem unpack_one_starT {l : Addr} {items : Array Value} {u : Value} {us : List Value} {Q : List Value → Shared → Prop} (hh : A.handled = none) (hl : IsTup s.heap l items) (hi : items.toList = u :: us) (hz : items.size ≤ sizeLine)
    (hQ : ∀ (h' : Heap) (tk : Nat), (∀ b o, s.heap.get? b = some o → h'.get? b = some o) → Q [u, .ref h'.objs.size] { s with heap := h'.push { cls := .type "list", data := .seq us.toArray }, toks := tk }) :
    wpAny (model prog w) A (unpackItems (.ref l) 2 (some 1)) Q E s := by
  have lt1 : l < s.heap.objs.size := by obtain ⟨o, ho, _⟩ := hl; exact Heap.lt_size ho
  have ne1 : l ≠ s.heap.objs.size := Nat.ne_of_lt lt1
  have sz : items.size = us.length + 1 := by rw [← Array.length_toList, hi]; rfl
  unfold unpackItems
  refine wpAny_bind ?_
  unfold notIterableAtAll
  refine wpAny_bind (wpAny_specialOf hl.typeIs slot_tuple_iter.lookup (wpAny_pure ?_))
  simp only [Bool.false_eq_true, if_false]
  refine wpAny_bind (wpAny_holding (iter_tuple hl (wpAny_bind (wpAny_holding (draw_tuple ne1 1 0 _ _ ⟨_, Heap.get?_push_size _ rfl, rfl, rfl⟩ (hl.push _) (by omega) fun h1 it1 sb1 => ?_)))))
  have l1 : IsTup h1 l items := (hl.push _).extBut sb1.extBut ne1
  have q1 : (items.toList.drop 0).take 1 = [u] := by rw [hi]; rfl
  rw [q1]
  show wpAny _ _ (if [u].length < 1 then _ else _) _ _ _
  rw [if_neg (by simp)]
  have ltI : s.heap.objs.size < h1.objs.size := by obtain ⟨o, ho, _⟩ := it1; exact Heap.lt_size ho
  have ltl : l < h1.objs.size := by obtain ⟨o, ho, _⟩ := l1; exact Heap.lt_size ho
  refine wpAny_bind (wpAny_holding (kun_collect (s := { s with heap := h1 }) (T := "tuple_iterator") (.inr (.inr (.inr rfl))) (Walks.tuple (A := A.in1) hh s.heap.objs.size l ne1 items) (fun j t st => st.1.typeIs) (k := 1) (by omega) ⟨it1, l1⟩ ltI ltl (fun h2 tk kp => ?_) hz))
  have q2 : items.toList.drop 1 = us := by rw [hi]; rfl
  rw [q2]
  show wpAny _ _ (if us.length < 2 - 1 - 1 then _ else _) _ _ _
  rw [if_neg (by omega)]
  show wpAny _ _ (newList (us.take (us.length - (2 - 1 - 1))) >>= fun d => pure ([u] ++ [d] ++ us.drop (us.length - (2 - 1 - 1)))) _ _ _
  have q3 : us.take (us.length - (2 - 1 - 1)) = us := List.take_of_length_le (by omega)
  have q4 : us.drop (us.length - (2 - 1 - 1)) = [] := List.drop_eq_nil_of_le (by omega)
  rw [q3, q4]
  refine wpAny_bind (wpAny_newObj_type (wpAny_pure ?_) (by show us.length ≤ sizeLine; omega))
  exact hQ h2 tk fun b o e => kp b o (Nat.ne_of_lt (Heap.lt_size e)) (sb1.extBut b o (Nat.ne_of_lt (Heap.lt_size e)) (Heap.get?_push_of_some _ e))
end
end PySem
namespace DL
open PySem L2
section
variable {X : Cx} {W : WX} {k : Nat} {e : Expr} {fe : FE} {pos : Pos}
def gStarTu (K : PySem.W.Frag) (i j : Nat) : TG := fun v σ H Q => ∃ l x xs, v = .ref l ∧ SqT K H l (x :: xs) ∧ ∀ D, H D = none → Q ((σ.set i (some x)).set j (some (.ref D))) (upd H D (.lst xs))
theorem pg_starT (C : Cn X W k) {i j : Nat} {x y : Str} {n : Nat} {p1 p2 p3 : Pos} (hi : X.N[i]? = some x) (hx : Loc X.env.scope x) (hj : X.N[j]? = some y) (hy : Loc X.env.scope y)
    (hf : X.fn x = true ∨ X.env.scope.names.lookup x = some .local := by first | exact .inl rfl | exact .inr rfl) (hf2 : X.fn y = true ∨ X.env.scope.names.lookup y = some .local := by first | exact .inl rfl | exact .inr rfl) :
    PG X (.Tuple [.Name x p1, .Starred (.Name y p2) p3] n pos) (gStarTu X.K i j) := by
  refine ⟨fun pins s σ H v u Q I r h => ?_⟩
  obtain ⟨l, z, zs, rfl, hq, q⟩ := h
  cases r
  obtain ⟨its, rv, pl, hz⟩ := I.tuple hq
  cases rv with
  | cons r1 r2 =>
    rename_i u us
    rw [PyProof.Rows.assign_Tuple]
    refine wpAny_bind (wpAny_standAt ?_)
    show wpAny _ _ (holding [_] (unpackItems _ 2 (some 1)) >>= fun vs => assignInOrder [assign (.Name x p1) X.env, assign (.Name y p2) X.env] vs) _ _ _
    refine wpAny_bind (wpAny_holding (unpack_one_starT (u := u) (us := us) (I.ok.hd C.calm) pl (by simp) (by simpa [r2.length] using hz) fun h' tk hk => ?_))
    have I1 : L2.Inv X pins σ H { s with heap := h' } := I.kept (t' := s.toks) hk
    have I2 := I1.lnew (t' := tk) r2 (by simp at hz; omega)
    have hn := I1.fresh
    refine PyProof.Rows.assignInOrder_cons (wpAny_assign_Name (store_ok I2 C.nd hi hx r1 (fun s2 I3 => ?_) hf))
    refine PyProof.Rows.assignInOrder_cons (wpAny_assign_Name (store_ok I3 C.nd hj hy (v := .ref h'.objs.size) rfl (fun s3 I4 => PyProof.Rows.assignInOrder_nil ⟨_, _, I4, q _ hn⟩) hf2))
def gStarTup (i j : Nat) (fe : FE) : FS := fun ρ S => (fe ρ S).into ρ fun d S => match d with
  | .tup (x :: xs) => .nx ((ρ.set i (some x)).set j (some (.oid S.length))) (S ++ [.lst xs])
  | _ => .stuck
theorem ds_starT (C : Cn X W k) {i j : Nat} {x y : Str} {n : Nat} {p1 p2 p3 tpos : Pos} (hi : X.N[i]? = some x) (hx : Loc X.env.scope x) (hj : X.N[j]? = some y) (hy : Loc X.env.scope y) (he : DE X W e fe)
    (hf : X.fn x = true ∨ X.env.scope.names.lookup x = some .local := by first | exact .inl rfl | exact .inr rfl) (hf2 : X.fn y = true ∨ X.env.scope.names.lookup y = some .local := by first | exact .inl rfl | exact .inr rfl)
    (hs : swapsWithSole [.Tuple [.Name x p1, .Starred (.Name y p2) p3] n tpos] e pos.line X.env = pure false := by rfl) (hw : swappedStores [.Tuple [.Name x p1, .Starred (.Name y p2) p3] n tpos] e X.env = pure none := by rfl)
    (h1 : (assignEach [.Tuple [.Name x p1, .Starred (.Name y p2) p3] n tpos] X.env).map (·.2) = [assign (.Tuple [.Name x p1, .Starred (.Name y p2) p3] n tpos) X.env] := by rfl) :
    DS X W (.Assign [.Tuple [.Name x p1, .Starred (.Name y p2) p3] n tpos] e pos) (gStarTup i j fe) := by
  obtain ⟨t, pp, q⟩ := he.ex
  refine .mk (ps_asg pp (pg_starT C hi hx hj hy hf hf2) hs hw h1) fun Z φ S ρ σ H Dd R sl w => q Z φ S ρ σ H _ R sl (w.into sl fun d S1 v φ1 H1 R1 E1 dd w1 => ?_)
  split at w1
  · rename_i z zs
    unfold RDat Dat at dd
    obtain ⟨l, vs, rfl, h2, h3⟩ := dd
    have h2 := sqt_mono gnd_sub h2
    obtain ⟨u, us, rfl, h4, h5⟩ := h3.uncons
    refine ⟨l, u, us, rfl, h2, fun D hD => ?_⟩
    obtain ⟨R2, E2, g2⟩ := dat_newO R1 h5 hD
    exact w1 _ _ _ R2 E2 ((((sl.evo E1).evo E2).set (Dat.evo E2 h4)).set g2)
  · exact w1.elim
end
end DL

/-! The data layer, part 66: a head's hook with tables of the top, where defs make lambdas. -/
namespace DL
open PySem PySem.Spec PyProof.Rows L2
end DL

/-! The data layer, part 67: {None: .., "x": ..}.get(e, f): a display of constants asked at once. -/
namespace DL
open PySem PySem.Spec PyProof.Rows L2
def lfV : Leaf → V
  | .none => .non
  | .num i => .int i
  | .text x => .str x
def mergeL (kvs more : List (Leaf × V)) : List (Leaf × V) := more.foldl (fun acc kv => putK acc kv.1 kv.2) kvs
theorem KV.mergeL : ∀ {more : List (Leaf × V)} {rs : List (Leaf × Value)} {kvs : List (Leaf × V)} {vs : List (Leaf × Value)}, KV more rs → KV kvs vs → KV (DL.mergeL kvs more) (merged vs rs) := by
  intro more rs kvs vs r
  unfold KV at r
  induction r generalizing kvs vs with
  | nil => intro q; exact q
  | @cons p q ps qs h t ih =>
    intro r0
    have e : KV (putK kvs p.1 p.2) (stored vs q.1 q.2) := by
      have := r0.put p.1 h.2
      rw [← h.1]; exact this
    exact ih e
section
variable {X : Cx} {W : WX} {pos apos cpos : Pos} {keys : List (Option Expr)} {values : List Expr} {kvs : List (Leaf × V)} {e f : Expr} {fe ff : FE} {k : Nat}
/-! ### constants -/
def cnV : D → Option V
  | .int i => some (.int i)
  | .str x => some (.str x)
  | _ => none
/-- the values of a table of constants -/
inductive CnT : List (Leaf × D) → List (Leaf × V) → Prop
  | nil : CnT [] []
  | cons {j : Leaf} {d : D} {v : V} {r : List (Leaf × D)} {s : List (Leaf × V)} (h : cnV d = some v) (t : CnT r s) : CnT ((j, d) :: r) ((j, v) :: s)
/-- the display's text: keys and values as the table has them -/
structure CDs (X : Cx) (pos : Pos) (keys : List (Option Expr)) (values : List Expr) (tab : List (Leaf × D)) : Prop where
  ex : ∃ kvs : List (Leaf × V), CnT tab kvs ∧ PPs X pos keys values (kvs.map fun kv => (tC (lfV kv.1), tC kv.2))
end
end DL

/-! The data layer, part 68: d["x"] += n. -/
namespace DL
open PySem PySem.Spec PyProof.Rows L2
end DL

/-! The data layer, part 69: within an except suite: iterators' ends, all(..). -/
namespace DL
open PySem PySem.Spec PyProof.Rows L2
/-! ### an iterator's end while an exception is handled -/
section
variable {prog : Program} {w : World} {A : Around} {E : Value → Shared → Prop} {s : Shared}
end
/-! ### where an exception is handled -/
/-- the handled exception's object p stands in every state, out of the reach of what is tracked -/
structure HotK (X : Cx) (p : Addr × Obj) : Prop where
  hot : L2H.Hot1 X.A p
  pin : ∀ {pins : List (Addr × Obj)} {σ : L2.St} {H : Hp} {s : Shared}, L2.Inv X pins σ H s → L2H.PinOk X.stack H s p
section
variable {X : Cx} {p : Addr × Obj} {pins : List (Addr × Obj)} {σ : L2.St} {H : Hp} {s : Shared}
theorem HotK.at (h : HotK X p) (J : L2.Inv X pins σ H s) : HotX.HotAt X.A p.1 s.heap := by
  obtain ⟨a, vs, b, c⟩ := h.hot
  exact ⟨a, p.2, vs, (h.pin J).get, b, c⟩
theorem HotK.of_pin (h : L2H.Hot1 X.A p) (hp : p ∈ X.pn) : HotK X p := ⟨h, fun J => by
  obtain ⟨a, b, c, d, e⟩ := J.pin p (List.mem_append_left _ hp)
  exact ⟨a, b, fun z => (List.mem_cons.mp (J.stkSub p.1 z)).elim c d, e⟩⟩
theorem HotK.blk (h : HotK X p) (J : L2.Inv X pins σ H s) {scope : Scope} {ce : Env} {fp : List Addr} (hf : p.1 ∉ fp) : HotK (X.blk s H scope ce fp) p := by
  have P := h.pin J
  refine ⟨h.hot, fun {pins' σ' H' s'} K => ⟨?_, ?_, P.nofs, P.nocell⟩⟩
  · exact K.base.keep p.1 p.2 P.get P.free P.nofs hf
  · exact K.base.free p.1 p.2 P.get P.free hf
end
end DL

/-! The data layer, part 70: loops and list comprehensions within an except suite. -/
namespace DL
open PySem PySem.Spec PyProof.Rows L2
/-- an iterator's turns while an exception is handled -/
structure TurnQ (P : Program) (w : World) (K : PySem.W.Frag) (tg : Expr) (J : It) (fp : List Addr) (it : Addr) (tn : Nat → Heap → Prop) : Prop where
  obj : ∀ i h, tn i h → ∀ b ∈ fp, ∃ o, h.get? b = some o ∧ ∀ v, o.data ≠ .cell v
  keep : ∀ i h h', tn i h → (∀ b ∈ fp, ∀ o, h.get? b = some o → h'.get? b = some o) → tn i h'
  item : ∀ (X : Cx), X.prog = P → X.w = w → X.K = K → ∀ (i : Nat) (pins : List (Addr × Obj)) (s : Shared) (σ : L2.St) (H : Hp) (E : Value → Shared → Prop), L2.Inv X pins σ H s → (∀ b ∈ fp, FpOk X pins H b) → tn i s.heap → J.go i H →
    wpAny (model P w) X.A (pyNext (.ref it)) (fun r t => ∃ u, r = some u ∧
      wpAny (model P w) X.A (letOwnedTupleGo tg (.ref it) u) (fun _ t' => ∃ x H', L2.Inv X pins σ H' t' ∧ RelV x u ∧ J.yld i H x H' ∧ tn (i + 1) t'.heap ∧ ∀ b ∈ fp, H' b = none) E t) E s
  done : ∀ (X : Cx), X.prog = P → X.w = w → X.K = K → ∀ (x1 : Addr), x1 ∉ fp → ∀ (i : Nat) (pins : List (Addr × Obj)) (s : Shared) (σ : L2.St) (H : Hp) (E : Value → Shared → Prop), HotX.HotAt X.A x1 s.heap → L2.Inv X pins σ H s → (∀ b ∈ fp, FpOk X pins H b) → tn i s.heap → J.stop i H →
    wpAny (model P w) X.A (pyNext (.ref it)) (fun r t => r = none ∧ L2.Inv X pins σ H t) E s
  self : ∀ (A : Around) (i : Nat) (s : Shared) (Q : Value → Shared → Prop) (E : Value → Shared → Prop), tn i s.heap → Q (.ref it) s → wpAny (model P w) A (pyIter (.ref it)) Q E s
section
variable {P : Program} {w : World} {K : PySem.W.Frag} {tg : Expr}
end
/-- an iterator has come, apart from p -/
def PIEQ (X : Cx) (pins : List (Addr × Obj)) (σ : L2.St) (tg : Expr) (p : Addr × Obj) (R : It → Hp → Prop) (itv : Value) (t : Shared) : Prop :=
  ∃ (it : Addr) (fp : List Addr) (tn : Nat → Heap → Prop) (J : It) (H' : Hp), itv = .ref it ∧ L2.Inv X pins σ H' t ∧ TurnQ X.prog X.w X.K tg J fp it tn ∧ tn 0 t.heap ∧ (∀ b ∈ fp, FpOk X pins H' b) ∧ p.1 ∉ fp ∧ R J H'
structure PIQ (X : Cx) (p : Addr × Obj) (tg iter : Expr) (wi : TI) : Prop where
  run : ∀ (pins : List (Addr × Obj)) (s : Shared) (σ : L2.St) (H : Hp) (R : It → Hp → Prop), L2.Inv X pins σ H s → wi σ H R →
    wpAny (model X.prog X.w) X.A (eval iter X.env) (fun v t => wpAny (model X.prog X.w) X.A (pyIter v) (PIEQ X pins σ tg p R) X.xe t) X.xe s
section
variable {X : Cx} {p : Addr × Obj} {tg : Expr}
theorem PIQ.weak {iter : Expr} {t t' : TI} (h : PIQ X p tg iter t) (i : ∀ σ H R, t' σ H R → t σ H R) : PIQ X p tg iter t' := ⟨fun pins s σ H R I q => h.run pins s σ H R I (i _ _ _ q)⟩
theorem PIQ.or {iter : Expr} {t t' : TI} (h : PIQ X p tg iter t) (h' : PIQ X p tg iter t') : PIQ X p tg iter (fun σ H R => t σ H R ∨ t' σ H R) := ⟨fun pins s σ H R I q => q.elim (h.run pins s σ H R I) (h'.run pins s σ H R I)⟩
end
end DL

/-! The data layer, part 71: within an except suite: the rules that ask what is under way around the code; calls; try with such suites. -/
namespace DL
open PySem PySem.Spec PyProof.Rows L2
/-- what is known of a context in which an exception is handled -/
structure CnQ (X : Cx) (W : WX) (k : Nat) : Prop where
  room : L2H.RoomH k X.A
  gd : X.A.guards = some []
  hot : ∃ p, HotK X p
  nd : X.N.Nodup
  po : PassesOwn (model X.prog X.w) X.A X.env X.xe
  tk : L2N.Takes X W
/-- a def's promise where an exception is handled -/
structure FnGQ (P : Program) (w : World) (K : PySem.W.Frag) (mg : Str → Option Value) (base : Heap) (k : Nat) (f : Addr) (fd : FuncData) (ps : List Str) (sp : Sp) : Prop where
  len : ∀ vs H Q E, sp vs H Q E → vs.length = ps.length
  run : ∀ (A : Around) (outer : List Env) (s : Shared) (H : Hp) (args : Args) (us : List Value) (vs : List V) (Q : VK) (E : XK) (p : Addr × Obj), L2H.RoomH k A → A.guards = some [] → L2H.Hot1 A p → L2H.PinOk outer H s p → Env0 P w K mg base A outer s H →
    BindsTo s fd args (ps.zip us) → Vals vs us → sp vs H Q E → codeAny (model P w) A (.call (.ref f) args) (CR (L2N.CX P w) outer P w H s Q E) s
section
variable {X : Cx} {W : WX} {k k' n np : Nat} {f C : Addr} {fd : FuncData} {ps ks : List Str} {sp : Sp} {sem cs : Sem'} {x m : Str} {p pos apos : Pos} {e o : Expr} {es : List Expr} {kws : List Keyword} {fa fk : FA} {fo fe : FE} {g : FS} {gD : List D → List D → List D}
/-! ### what is walked -/
end
end DL

/-! The data layer, part 72: within an except suite: loops; try whose suites hold calls. -/
namespace DL
open PySem PySem.Spec PyProof.Rows L2
section
variable {X : Cx} {W : WX} {k : Nat} {g : FS} {pos : Pos}
end
/-! ### clauses without names, whose suites know the handled exception -/
structure HdQ where
  c : Value
  ts : TS
def wHdsQ (K : PySem.W.Frag) (Wo : WX) (Dd : Ends) : List HdQ → WX
  | [] => Wo
  | q :: r => fun cls d σ H => ∃ b, PySem.W.exmOne K cls q.c = some b ∧ (b = true → q.ts Dd σ H) ∧ (b = false → wHdsQ K Wo Dd r cls d σ H)
inductive HdsQ (X : Cx) : List ExceptHandler → List HdQ → Prop
  | nil : HdsQ X [] []
  | plain {x : Str} {c : Value} {ts : TS} {b0 : Stmt} {bs : List Stmt} {np hp : Pos} {hds : List ExceptHandler} {l : List HdQ} (hc : Names X x c)
      (hs : ∀ (a : Addr) (ob : Obj) (pn : List (Addr × Obj)), L2H.Hot1 (X.suite a ((a, ob) :: pn)).A (a, ob) → PSs (X.suite a ((a, ob) :: pn)) (b0 :: bs) ts) (r : HdsQ X hds l) : HdsQ X (.ExceptHandler (some (.Name x np)) none (b0 :: bs) hp :: hds) (⟨c, ts⟩ :: l)
section
variable {X : Cx} {body : List Stmt} {h0 : ExceptHandler} {hds : List ExceptHandler} {l : List HdQ} {pos : Pos} {tb : WX → TS} {Wo : WX}
end
section
variable {X : Cx} {W : WX} {k : Nat} {pos : Pos}
/-- such clauses and their mirrors -/
inductive HdsDQ (X : Cx) (k : Nat) : List ExceptHandler → List HM → List HdQ → Prop
  | nil : HdsDQ X k [] [] []
  | plain {x : Str} {c : Value} {t : List (Str × Bool)} {g : FS} {b0 : Stmt} {bs : List Stmt} {np hp : Pos} {hds : List ExceptHandler} {ms : List HM} {l : List HdQ} (hc : Names X x c) (ht : ∀ C b A, t.lookup C = some b → X.mg C = some (.ref A) → PySem.W.exmOne X.K (.ref A) c = some b)
      (hs : ∀ (a : Addr) (pn : List (Addr × Obj)), CnQ (X.suite a pn) W0 k → DSs (X.suite a pn) W0 (b0 :: bs) g) (r : HdsDQ X k hds ms l) : HdsDQ X k (.ExceptHandler (some (.Name x np)) none (b0 :: bs) hp :: hds) (⟨t, none, g⟩ :: ms) (⟨c, tDS X W0 g⟩ :: l)
theorem Cn.hot (C : Cn X W k) {a : Addr} {ob : Obj} {pn : List (Addr × Obj)} (h : L2H.Hot1 (X.suite a ((a, ob) :: pn)).A (a, ob)) : CnQ (X.suite a ((a, ob) :: pn)) W0 k :=
  ⟨⟨C.room.dp, C.room.un⟩, C.gd, ⟨_, HotK.of_pin h List.mem_cons_self⟩, C.nd, PassesOwn.never, takes0N⟩
theorem HdsDQ.toT (C : Cn X W k) : ∀ {hds : List ExceptHandler} {ms : List HM} {l : List HdQ}, HdsDQ X k hds ms l → HdsQ X hds l
  | _, _, _, .nil => .nil
  | _, _, _, .plain hc _ hs r => .plain hc (fun a ob pn h => hs a ((a, ob) :: pn) (C.hot h)) (r.toT C)
theorem HdsDQ.want {Dd : Ends} {Z φ : List Addr} {S : Store} {H : Hp} {ρ : EnvD} {σ : L2.St} {Cl : Str} {fs : List (Str × D)} {A : Addr} {dx : Option Addr} (hA : X.mg Cl = some (.ref A)) (R : Rel X.K X.mg Z φ S H) (sl : Slots X.K X.mg φ (gnd Z φ S H) ρ σ) (xd : ExD X.K X.mg φ (gnd Z φ S H) fs dx) :
    ∀ {hds : List ExceptHandler} {ms : List HM} {l : List HdQ}, HdsDQ X k hds ms l → WantS X W Z φ S H (hdM ms Cl fs ρ S) Dd → wHdsQ X.K W Dd l (.ref A) dx σ H
  | _, _, _, .nil, w => w A dx σ φ H hA R Evo.refl sl xd
  | _, _, _, .plain (c := c) (t := t) (g := g) hc ht hs r, w => by
    unfold hdM at w
    cases e : t.lookup Cl with
    | none => simp only [e] at w; exact w.elim
    | some b =>
      simp only [e] at w
      refine ⟨b, ht Cl b A e hA, fun hb => ?_, fun hb => ?_⟩
      · subst hb
        refine ⟨Z, φ, S, ρ, R, sl, ?_⟩
        have w1 : WantS X W Z φ S H (g ρ S).calm Dd := w
        revert w1
        cases g ρ S <;> intro w1
        · exact w1
        · exact w1
        · exact w1
        · exact w1
        · exact w1.elim
        · exact w1
      · subst hb
        exact r.want hA R sl xd w
end
end DL

/-! The data layer, part 73: a sum of lists that is changed later. -/
namespace DL
open PySem PySem.Spec PyProof.Rows L2
section
variable {X : Cx} {W : WX} {a b : Expr} {fa fb : FE} {pos : Pos}
end
end DL

/-! The data layer, part 74: list.clear. -/
namespace DL
open PySem PySem.Spec PyProof.Rows L2
section
variable {X : Cx} {W : WX} {o : Expr} {fo : FE} {pos apos cpos : Pos}
end
end DL

/-! The data layer, part 75: a loop over the zip of two lists that are objects. -/
namespace DL
open PySem PySem.Spec PyProof.Rows L2
section
variable {X : Cx} {W : WX} {k : Nat} {g : FS} {pos p : Pos}
end
end DL

/-! The data layer, part 76: dicts whose keys are tuples of whole numbers and truths. -/
namespace DL
open PySem PySem.Spec PyProof.Rows L2
section
variable {X : Cx} {W : WX} {k0 : Nat} {pins : List (Addr × Obj)} {σ : L2.St} {H : Hp} {s : Shared}
/-! ### the layer -/
variable {φ : List Addr} {G : Hp} {Z : List Addr} {S : Store}
end
end DL

/-! The data layer, part 77: list(range(a, b)). -/
namespace DL
open PySem PySem.Spec PyProof.Rows L2
section
variable {X : Cx} {W : WX} {k : Nat} {a b : Expr} {fa fb : FE} {p p2 pos cpos : Pos}
end
end DL

/-! The data layer, part 78: own exceptions whose own __init__ keeps its arguments; e.f of a caught one. -/
namespace DL
open PySem PySem.Spec PyProof.Rows L2
/-! ### the class -/
theorem oexB_ok {K : PySem.W.Frag} {C : Addr} (h : oexB K C = true) : OexC K C := by
  obtain ⟨q, h⟩ := He.ba h
  obtain ⟨h1, h⟩ := He.ba h
  obtain ⟨h2, h⟩ := He.ba h
  obtain ⟨h3, h4⟩ := He.ba h
  refine ⟨?_, He.eqO_ok h1, of_decide_eq_true h2, eq_of_beq h3, h4⟩
  split at q
  · rename_i dd cd sl ho
    split at q
    · rename_i C' bm k0 k1 k2 k3 n k5 hm hs
      simp only [Bool.and_eq_true, beq_iff_eq, Bool.not_eq_true'] at q
      obtain ⟨⟨⟨⟨rfl, rfl⟩, hdel⟩, hdict⟩, ht⟩ := q
      obtain ⟨nm, bs, mro, ns, qn, hd, sn, sub, ab, col, del⟩ := cd
      dsimp only at hm hdel hdict
      subst hm hdel hdict
      have hsl : sl = #[k0, k1, k2, k3, some (.builtin "ValueError.__new__"), k5] := by
        obtain ⟨l⟩ := sl
        simp only at hs
        rw [hs]
      subst hsl
      exact ⟨nm, qn, ns, bs, bm, sn, sub, ab, col, dd, k0, k1, k2, k3, k5, ho, ht⟩
    · cases q
  · cases q
/-- C keeps its arguments as fs; B, over it, has no __init__ of its own -/
structure XiC (K : PySem.W.Frag) (C B fI : Addr) (fs : List Str) : Prop where
  oc : OexC K C
  rd : ClX.CRead K B (.type "type")
  iv : PySem.W.findCls K (.ref B) (.type "type") "__init__" = some (.val (.builtin "ValueError.__init__"))
  no : ∀ f ∈ fs, PySem.W.findIn K (.ref C) f = some none
  ini : PySem.W.findIn K (.ref C) "__init__" = some (some (.ref fI))
  tI : PySem.W.typeIn K (.ref fI) = some (.type "function")
  xf : XfC K C
theorem xiB_ok {K : PySem.W.Frag} {c b : Str} {fs : List Str} (h : xiB K c b fs = true) : XiC K (He.ga K c) (He.ga K b) (He.fAd K (c, some "__init__")) fs := by
  obtain ⟨h1, h⟩ := He.ba h
  obtain ⟨h2, h⟩ := He.ba h
  obtain ⟨h3, h⟩ := He.ba h
  obtain ⟨h4, h⟩ := He.ba h
  obtain ⟨h5, h⟩ := He.ba h
  obtain ⟨h6, h⟩ := He.ba h
  obtain ⟨h7, h8⟩ := He.ba h
  refine ⟨oexB_ok h1, ⟨h2, He.eqO_ok h3⟩, ?_, fun f hf => He.eqO_ok (List.all_eq_true.mp h5 f hf), He.eqO_ok h6, eq_of_beq h7, xfB_ok h8⟩
  split at h4
  · rename_i n e
    rw [e, eq_of_beq h4]
  · cases h4
/-! ### its __init__ -/
section
variable {X : Cx} {e : Expr} {es : List Expr} {ta : TA} {x : Str} {B : Addr} {p p1 p2 pos : Pos}
theorem pe_veinitC {pl : Sem Bool} (hg : Gl X x) (hm : X.mg x = some (.ref B)) (rd : ClX.CRead X.K B (.type "type")) (iv : PySem.W.findCls X.K (.ref B) (.type "type") "__init__" = some (.val (.builtin "ValueError.__init__"))) (ha : PA X (e :: es) ta)
    (hdb : (x == ("__debug__" : Str)) = false := by decide)
    (hc : eval (.Call (.Attribute (.Name x p1) "__init__" p2) (e :: es) [] pos) X.env = (do
      let ov ← eval (.Name x p1) X.env
      standAt p2.atName
      let (f, first) ← holding [ov] (getMethod ov "__init__" pl)
      callWith pos f first (backTo pos (starEach (e :: es) X.env)) (backToKw pos (keywordEach [] X.env))) := by rfl)
    (he : starEach (e :: es) X.env = (false, eval e X.env) :: starEach es X.env := by rfl) (hpl : (backTo pos (starEach es X.env)).any (·.1) = false := by rfl) :
    PE X (.Call (.Attribute (.Name x p1) "__init__" p2) (e :: es) [] pos) (tVeI X.K ta) := by
  refine ⟨fun pins s σ H Q I h => ?_⟩
  refine PySem.W.methodCall_KW (pl := pl) (ld_glob I hg hm ?_ hdb) hc
  refine PySem.W.method_cls I.kIn rd.ga (PySem.W.cls_value I.kIn rd.rd iv rfl ?_)
  show wpAny _ _ (callWith pos (Value.builtin "ValueError.__init__") [] (backTo pos (starEach (e :: es) X.env)) []) _ _ _
  refine PyProof.Rows.callWith_method1 (thn (ha.run pos pins _ σ H _ (I.tok _) h) fun us s1 ⟨vs, H1, I1, r1, a, C, ws, ev, hl, T, ea, q⟩ => ?_) he hpl
  subst ev
  cases r1 with
  | @cons _ u0 _ ur ra rw' =>
    obtain rfl : u0 = Value.ref a := ra
    have hlen : ur.length ≤ sizeLine := by
      rw [← Paired.length rw', sizeLine_eq]
      omega
    exact oinit_ok T I1 ea hlen fun s' J => ⟨.non, H1, J, rfl, q⟩
end
def tFlds (K : PySem.W.Frag) : List Str → Nat → TS
  | [], _ => tNext
  | f :: fs, i => tSeq (tOst K f (tVar 0) (tVar i)) (tFlds K fs (i + 1))
def tInit (K : PySem.W.Frag) (m : Str) (fs : List Str) : TS := tSeq (tDrop (tVeI K (tCons (tVar 0) (tCons (tC (.str m)) tNil)))) (tFlds K fs 1)
theorem flds_run {K : PySem.W.Frag} {a C dx : Addr} (T : OexC K C) (nd : dx ≠ a) {D : Ends} {σ : L2.St} (h0 : σ[0]? = some (some (.ref a))) : ∀ (fs : List Str) (ys : List V) (i : Nat) (fs0 : List (Str × V)) (H : Hp), ys.length = fs.length → (∀ f ∈ fs, PySem.W.findIn K (.ref C) f = some none) → (∀ (j : Nat) (y : V), ys[j]? = some y → σ[i + j]? = some (some y)) →
    H a = some (exo a C (some dx)) → H dx = some (exd dx fs0) → fs0.length + fs.length ≤ 900 → (∀ H', H' a = some (exo a C (some dx)) → H' dx = some (exd dx ((fs.zip ys).reverse ++ fs0)) → (∀ b, b ≠ dx → H' b = H b) → D.nx σ H') → tFlds K fs i D σ H
  | [], ys, i, fs0, H, l, _, _, ha, hd, _, q => by
    have : ys = [] := List.length_eq_zero_iff.mp l
    subst this
    exact q H ha hd fun _ _ => rfl
  | f :: fs, [], i, fs0, H, l, _, _, _, _, _, _ => by simp at l
  | f :: fs, y :: ys, i, fs0, H, l, no, hv, ha, hd, hl, q => by
    refine ⟨y, hv 0 y rfl, .ref a, h0, a, C, rfl, T, no f List.mem_cons_self, .inr ⟨dx, fs0, ha, hd, by simp at hl; omega, ?_⟩⟩
    refine flds_run T nd h0 fs ys (i + 1) ((f, y) :: fs0) _ (by simpa using l) (fun g hg => no g (List.mem_cons_of_mem _ hg)) (fun j z hz => by rw [show i + 1 + j = i + (j + 1) by omega]; exact hv (j + 1) z (by simpa using hz)) ?_ upd_same (by simp at hl ⊢; omega) fun H' q1 q2 q3 => q H' q1 ?_ fun b hb => ?_
    · rw [upd_ne (Ne.symm nd)]; exact ha
    · rw [q2]; simp
    · rw [q3 b hb, upd_ne hb]
/-- what such an __init__ keeps -/
def spX (K : PySem.W.Frag) (fs : List Str) : Sp := fun vs H Q _ => ∃ (a C : Addr) (ys : List V), vs = .ref a :: ys ∧ ys.length = fs.length ∧ OexC K C ∧ (∀ f ∈ fs, PySem.W.findIn K (.ref C) f = some none) ∧ H a = some (exo a C none) ∧
  ∀ dx H', H dx = none → dx ≠ a → H' a = some (exo a C (some dx)) → H' dx = some (exd dx (fs.zip ys).reverse) → (∀ b, b ≠ dx → b ≠ a → H' b = H b) → Q .non H'
theorem init_run {K : PySem.W.Frag} {m f : Str} {fs : List Str} (hf : fs.length ≤ 800) {N : List Str} {vs : List V} {H : Hp} {Q : VK} {E : XK} (hN : vs.length ≤ N.length) (h : spX K (f :: fs) vs H Q E) : tInit K m (f :: fs) { nx := fun _ H' => Q .non H', rt := Q } (L2.start N vs) H := by
  obtain ⟨a, C, ys, rfl, l, T, no, ha, q⟩ := h
  have at_ : ∀ (j : Nat) (y : V), (V.ref a :: ys)[j]? = some y → (L2.start N (V.ref a :: ys))[j]? = some (some y) := fun j y hy => by
    have hj := (List.getElem?_eq_some_iff.mp hy).1
    unfold L2.start
    rw [List.getElem?_append_left (by simpa using hj), List.getElem?_map, hy]
    rfl
  have h0 := at_ 0 (.ref a) rfl
  cases ys with
  | nil => simp at l
  | cons y ys =>
    refine ⟨.ref a, h0, a, C, [.str m], rfl, by simp, T, ha, ?_⟩
    refine ⟨y, at_ 1 y rfl, .ref a, h0, a, C, rfl, T, no f List.mem_cons_self, .inl ⟨ha, fun dx hdx hne => ?_⟩⟩
    refine flds_run T hne h0 fs ys (1 + 1) [(f, y)] _ (by simpa using l) (fun g hg => no g (List.mem_cons_of_mem _ hg)) (fun j z hz => by rw [show 1 + 1 + j = j + 2 by omega]; exact at_ (j + 2) z (by simpa using hz)) upd_same (by rw [upd_ne hne, upd_same]) (by simp; omega) fun H' q1 q2 q3 => q dx H' hdx hne q1 (by rw [q2]; simp) fun b hb hba => ?_
    rw [q3 b hb, upd_ne hba, upd_ne hb]
/-- THE RULE: such an __init__ -/
theorem fnX {P : Program} {w : World} {K : PySem.W.Frag} {mg : Str → Option Value} {base : Heap} {x qual : Str} {params : Arguments} {body : List Stmt} {scope : Scope} {dvs : List V} {kws : List (Str × V)} {f : Addr} {fd : FuncData} {N ps : List Str} {k : Nat} {m g : Str} {fs : List Str}
    (F : FunD K x qual params body scope dvs kws f fd) (S : FnScope N ps scope) (hps : ps.length = (g :: fs).length + 1) (hNl : ps.length ≤ N.length) (hf : fs.length ≤ 800)
    (hb : ∀ (cdv : Value) (A : Around) (outer : List Env) (s : Shared) (H : Hp) (E : XK), Cn (cxOf (L2N.CX P w) P w K mg base N qual scope f cdv A outer s H E) (fun c d _ H' => E c d H') k →
      PSs (cxOf (L2N.CX P w) P w K mg base N qual scope f cdv A outer s H E) body (tInit K m (g :: fs))) : FnG P w K mg base (k + 1) f fd ps (spX K (g :: fs)) := by
  obtain ⟨oc, od, dV, kV, doc, pm, an, cdv, ct, osl, rfl, lk, hcd, _, _⟩ := F.ex
  have len : ∀ vs H Q E, spX K (g :: fs) vs H Q E → vs.length = ps.length := fun vs H Q E ⟨a, C, ys, e, l, _⟩ => by rw [e, hps, ← l]; rfl
  refine ⟨len, fun A outer s H args us vs Q E hr hgd e0 hbd r hsp => ?_⟩
  have hlen := len _ _ _ _ hsp
  have hl : us.length = ps.length := r.length.symm.trans hlen
  have keep : ∀ b o, base.get? b = some o → s.heap.get? b = some o := fun b o e => (e0.bs b o e).1
  have inK : K.In s.heap := e0.mod.kin.keeps keep
  have par : ∀ y ∈ ps.zip us, scope.names.lookup y.1 = some .local ∨
      (scope.names.lookup y.1 = some .cell ∧ ((cellsFrom (s.heap.objs.size + 1) scope.names []).lookup y.1).isSome = true) := by
    rintro ⟨n, v⟩ hy
    exact (S.par n (List.of_mem_zip hy).1).imp id fun q => ⟨q, PySem.W.cellsFrom_some _ _ _ (.inl q)⟩
  refine codeAny_call_function hr.depth (inK _ _ lk) rfl S.co S.gen rfl
    (PySem.W.codeRec_of inK hcd) (hbd _ _ _ _ ?_)
  refine wpAny_newFunctionEnv_cells S.kind par fun env he s1 entered => ?_
  subst he
  refine ⟨(e0.mod.nolimit.keeps keep).keeps entered.toInCall.keep, codeAny_func ?_⟩
  have body' := hb cdv A outer s H E ⟨hr.deeper _, hgd, rfl, S.nd, passes_of rfl, L2N.takes_of rfl rfl rfl rfl⟩
  have I0 := inv_start (CX := L2N.CX P w) (mg := mg) (base := base) (cd := cdv) (qual := qual) (f := f) (E := E) S hr.hd e0 hlen r entered
  have q0 := init_run (m := m) hf (N := N) (by omega) hsp
  refine wpAny_mono (PSs.run body' [] s1 (L2.start N vs) H _ I0 q0) (fun fl s' hs => ?_) fun _ _ z => z
  have fin : ∀ {σ' : L2.St} {H' : Hp} {v : V} {u : Value}, Inv (cxOf (L2N.CX P w) P w K mg base N qual scope f cdv A outer s H E) [] σ' H' s' → RelV v u →
      Q v H' → CE outer P w H s Q u s' := fun J rv q => ⟨_, _, J.os, J.bare, J.base, J.hok, rv, q⟩
  cases fl with
  | ret u =>
    obtain ⟨v, σ', H', J, rv, q⟩ := hs
    exact fin J rv q
  | next =>
    obtain ⟨σ', H', J, q⟩ := hs
    exact fin (v := .non) J rfl q
  | brk => exact hs.choose_spec.choose_spec.2.elim
  | cont => exact hs.choose_spec.choose_spec.2.elim
/-! ### raise C(e, ..) -/
theorem bindX {K : PySem.W.Frag} {x qual : Str} {params : Arguments} {body : List Stmt} {scope : Scope} {dvs : List V} {kws : List (Str × V)} {f : Addr} {fd : FuncData} {ps : List Str} (F : FunD K x qual params body scope dvs kws f fd) (hd : dvs = [])
    (h : ∀ (kV doc pm : Value) (an : Option Addr) (cdv ct : Value) (us : List Value), us.length = ps.length → bindArgs (PySem.W.fnOf x qual params body scope .none kV doc pm an cdv ct) ⟨us, []⟩ = pure (ps.zip us)) (s : Shared) (us : List Value) (X : K.In s.heap) (l : us.length = ps.length) : BindsTo s fd ⟨us, []⟩ (ps.zip us) := by
  obtain ⟨oc, od, dV, kV, doc, pm, an, cdv, ct, osl, rfl, lk, hcd, hD, hK⟩ := F.ex
  rcases hD with ⟨_, rfl⟩ | ⟨e, _⟩
  · exact .of_eq (h kV doc pm an cdv ct us l)
  · exact absurd hd e
def gRaiX (x : Str) (fs : List Str) (fa : FA) : FS := fun ρ S => (fa ρ S).into ρ fun ds S => if ds.length = fs.length then .ex x (fs.zip ds).reverse ρ S else .stuck
section
variable {X : Cx} {W : WX} {k k' : Nat} {C B fI : Addr} {fs ps : List Str} {fd : FuncData} {x : Str} {e : Expr} {es : List Expr} {fa : FA} {p pos pos' : Pos}
theorem pmk_X {ta : TA} (T : XiC X.K C B fI fs) (F1 : FnG X.prog X.w X.K X.mg X.base k fI fd ps (spX X.K fs)) (hps : ps.length = fs.length + 1) (hbd : ∀ (s : Shared) (us : List Value), X.K.In s.heap → us.length = ps.length → BindsTo s fd ⟨us, []⟩ (ps.zip us)) (Cc : Cn X W k') (hk : k + 1 ≤ k') (hg : Gl X x) (hm : X.mg x = some (.ref C)) (ha : PA X (e :: es) ta)
    (hdb : (x == ("__debug__" : Str)) = false := by decide) (he : starEach (e :: es) X.env = (false, eval e X.env) :: starEach es X.env := by rfl) (hpl : (backTo pos (starEach es X.env)).any (·.1) = false := by rfl) :
    L2N.PMk X (.Call (.Name x p) (e :: es) [] pos) (fun σ H Q => ta σ H fun vs H1 => vs.length = fs.length ∧ vs.length ≤ 1000 ∧ ∀ d, H1 d = none → Q (.ref C) (some d) (upd H1 d (.xd (fs.zip vs).reverse))) := by
  intro pins s σ H Q I h
  obtain ⟨nm, q, N, bs, bm, sn, sub, ab, col, dd, k0, k1, k2, k3, k5, hC, hbm⟩ := T.oc.cls
  refine wpAny_Call_Name_kw (ld_glob I hg hm ?_ hdb)
  refine PySem.W.callWith_K (h₀ := X.base) I.ok.mod.kin T.oc.kC (thn (ha.run pos pins s σ H _ I h) fun us s1 ⟨vs, H1, I1, r1, hz, hz2, q1⟩ => ⟨I1.kIn, ?_⟩) he hpl
  show wpAny _ _ (call (.ref C) us) _ _ _
  obtain ⟨hp, g, dr, tk, os⟩ := s1
  have hsz : hp.objs.size ≤ hp.objs.size + 1 := Nat.le_succ _
  have hn : H1 (hp.objs.size + 1) = none := I1.hok.fresh hsz
  have kk : ∀ b o, hp.get? b = some o → ((hp.push (PySem.W.kdv_tup us)).push (PySem.HandSPX.excO C hp.objs.size)).get? b = some o := fun b o e => Heap.get?_push_of_some _ (Heap.get?_push_of_some _ e)
  have hget : ((hp.push (PySem.W.kdv_tup us)).push (PySem.HandSPX.excO C hp.objs.size)).get? (hp.objs.size + 1) = some (PySem.HandSPX.excO C hp.objs.size) := by heap_get
  have I2 : Inv X pins σ (upd H1 (hp.objs.size + 1) (exo (hp.objs.size + 1) C none)) ⟨(hp.push (PySem.W.kdv_tup us)).push (PySem.HandSPX.excO C hp.objs.size), g, dr, tk, os⟩ :=
    I1.laid (t' := tk) (a := hp.objs.size + 1) (o := exo (hp.objs.size + 1) C none) (h' := (hp.push (PySem.W.kdv_tup us)).push (PySem.HandSPX.excO C hp.objs.size)) kk hsz (exo_ok hget)
  have r2 : Vals (V.ref (hp.objs.size + 1) :: vs) (Value.ref (hp.objs.size + 1) :: us) := .cons rfl r1
  have hl : (Value.ref (hp.objs.size + 1) :: us).length = ps.length := by rw [hps, ← hz, ← r2.length]; rfl
  have hus : us.length ≤ sizeLine := by
    rw [← Paired.length r1, sizeLine_eq]
    omega
  have sp : spX X.K fs (V.ref (hp.objs.size + 1) :: vs) (upd H1 (hp.objs.size + 1) (exo (hp.objs.size + 1) C none)) (fun v H2 => v = .non ∧ ∃ (d : Addr), H2 (hp.objs.size + 1) = some (exo (hp.objs.size + 1) C (some d)) ∧ H2 d = some (exd d (fs.zip vs).reverse) ∧ H1 d = none ∧ d ≠ hp.objs.size + 1 ∧ (∀ b, b ≠ d → b ≠ hp.objs.size + 1 → H2 b = H1 b)) (fun _ _ _ => False) :=
    ⟨hp.objs.size + 1, C, vs, rfl, hz, T.oc, T.no, upd_same, fun dx H' n ne e1 e2 e3 => ⟨rfl, dx, e1, e2, by rw [upd_ne ne] at n; exact n, ne, fun b hb hba => by rw [e3 b hb hba, upd_ne hba]⟩⟩
  refine wpAny_call (PySem.HandSPX.call_own PySem.F.excBase_ValueError (fun Y => PySem.HandSPX.refsVE_contains Y bm hbm) (I1.kIn _ _ hC) (PySem.W.looks_findIn I1.kIn T.ini) (fun self => PySem.W.bind_fn I1.kIn self T.tI) hus
    (codeAny_mono (F1.run _ X.stack _ _ ⟨Value.ref (hp.objs.size + 1) :: us, []⟩ (Value.ref (hp.objs.size + 1) :: us) _ _ (fun _ _ _ => False) ((Cc.room.mono hk).make C us []) (guards_make Cc.gd C us []) (I2.env0.make C us []) (hbd _ _ I2.kIn hl) r2 sp) fun r s' hq' => ?_))
  cases r with
  | error er =>
    obtain ⟨_, _, _, _, _, _, _, _, _, _, _, _, hE⟩ := hq'
    exact hE.elim
  | ok fl =>
    cases fl with
    | ret u =>
      obtain ⟨v, H2, os2, bare2, un2, hok2, rv, ev, d, ea, ed, hd1, nd, oth⟩ := hq'
      subst ev
      obtain ⟨h2, g2, d2, t2, os'⟩ := s'
      obtain ⟨t0, G, J, kG, ge, hoe, na⟩ := mk_end0 (d2 := d2) (t2 := t2) I1 hsz kk un2 hok2 os2 bare2 ea ed hd1
      have e2 : upd (del H2 (hp.objs.size + 1)) d (.xd (fs.zip vs).reverse) = upd H1 d (.xd (fs.zip vs).reverse) := funext fun b => by
        by_cases hb : b = d
        · subst hb; rw [upd_same, upd_same]
        · rw [upd_ne hb, upd_ne hb]
          by_cases hba : b = hp.objs.size + 1
          · subst hba; rw [del_same, hn]
          · rw [del_ne hba, oth b hb hba]
      rw [e2] at J na
      exact ⟨rv, hp.objs.size + 1, _, _, ⟨G, g2, d2, t2, os'⟩, _, .ref C, some d, rfl, J, kG, ge, hoe, ⟨rfl, rfl, fun vs hv => by cases hv; rfl⟩, rfl, rfl, na, rfl, bare2, raises_own T.oc.exC T.oc.tyC, q1 d hd1⟩
    | next => exact False.elim hq'
    | brk => exact False.elim hq'
    | cont => exact False.elim hq'
theorem datF_zip {K : PySem.W.Frag} {mg : Str → Option Value} {φ : List Addr} {G : Hp} : ∀ {fs : List Str} {ds : List D} {vs : List V} {gs : List (Str × D)} {us : List (Str × V)}, DatL K mg φ G ds vs → DatF K mg φ G gs us → DatF K mg φ G ((fs.zip ds).reverse ++ gs) ((fs.zip vs).reverse ++ us)
  | [], ds, vs, gs, us, _, h => by simpa using h
  | f :: fs, ds, vs, gs, us, d, h => by
    cases ds with
    | nil =>
      unfold DatL at d
      subst d
      simpa using h
    | cons x ds =>
      obtain ⟨v, r, rfl, h1, h2⟩ := d.uncons
      have := datF_zip (fs := fs) h2 (gs := (f, x) :: gs) (us := (f, v) :: us) (by unfold DatF; exact ⟨v, us, rfl, h1, h⟩)
      simpa using this
theorem ds_raiseX (T : XiC X.K C B fI fs) (F1 : FnG X.prog X.w X.K X.mg X.base k fI fd ps (spX X.K fs)) (hps : ps.length = fs.length + 1) (hbd : ∀ (s : Shared) (us : List Value), X.K.In s.heap → us.length = ps.length → BindsTo s fd ⟨us, []⟩ (ps.zip us)) (Cc : Cn X W k') (hg : Gl X x) (hm : X.mg x = some (.ref C)) (ha : DA X W (e :: es) fa) (hfs : fs ≠ []) (hk : k + 1 ≤ k' := by decide)
    (hl : fs.length ≤ 800 := by decide) (hdb : (x == ("__debug__" : Str)) = false := by decide) (he : starEach (e :: es) X.env = (false, eval e X.env) :: starEach es X.env := by rfl) (hpl : (backTo pos (starEach es X.env)).any (·.1) = false := by rfl) :
    DS X W (.Raise (some (.Call (.Name x p) (e :: es) [] pos)) none pos') (gRaiX x fs fa) := by
  obtain ⟨t, pa, q⟩ := ha.ex
  refine .mk (L2N.ps_raise Cc.calm Cc.tk (pmk_X T F1 hps hbd Cc hk hg hm pa hdb he hpl)) fun Z φ S ρ σ H Dd R sl w => q Z φ S ρ σ H _ R sl (w.into sl fun ds S1 vs φ1 H1 R1 E1 d w1 => ?_)
  by_cases l : ds.length = fs.length
  · rw [if_pos l] at w1
    have lv : vs.length = fs.length := d.length.trans l
    refine ⟨lv, by omega, fun a ha => ?_⟩
    obtain ⟨R2, E2, g2⟩ := R1.fresh (o := HO.xd (fs.zip vs).reverse) ha
    have dz := datF_zip (fs := fs) (d.mono E2.pre E2.ext) (gs := []) (us := []) (by unfold DatF; rfl)
    rw [List.append_nil, List.append_nil] at dz
    refine w1 C (some a) σ φ1 _ hm R2 E2 ((sl.evo E1).evo E2) (.inr ⟨fun z => ?_, a, _, rfl, g2, dz⟩)
    have := congrArg List.length z
    simp [l] at this
    exact hfs this
  · rw [if_neg l] at w1
    exact w1.elim
end
/-! ### e.f of a caught one -/
def asX : D → Option (Str × List (Str × D))
  | .exc C fs => some (C, fs)
  | _ => none
def fFldX (cs : List Str) (f : Str) (fo : FE) : FE := fun ρ S => (fo ρ S).bind fun o S => match asX o with
  | some (c, fs) => if c ∈ cs then (match fs.lookup f with
    | some d => .ok d S
    | none => .stuck) else .stuck
  | none => .stuck
section
variable {X : Cx} {W : WX} {o : Expr} {fo : FE} {f : Str} {pos : Pos} {cs : List Str}
theorem pe_fldX {to : TE} (ho : PE X o to) (hb : attributeBase o f X.env (eval o X.env) = eval o X.env := by rfl) :
    PE X (.Attribute o f pos) (fun σ H Q => to σ H fun x H1 => ∃ (a A dd : Addr) (fs : List (Str × V)) (v : V), x = .ref a ∧ XfC X.K A ∧ PySem.W.findIn X.K (.ref A) f = some none ∧ H1 a = some (ExcV (.ref A) (some dd) a) ∧ H1 dd = some (.xd fs) ∧ fs.lookup f = some v ∧ Q v H1) := by
  refine ⟨fun pins s σ H Q I h => ?_⟩
  refine attr_of hb (thn (ho.run pins s σ H _ I h) fun u s1 hh => ?_)
  obtain ⟨x, H1, I1, rx, a, A, dd, fs, v, ex, T, hno, ea, ed, l, q⟩ := hh
  subst ex
  obtain rfl : u = Value.ref a := rx
  obtain ⟨oe, vs, ho, hz, hd⟩ : ∃ (ob : Obj) (fs : Array Value), s1.heap.get? a = some ob ∧ L2N.Zn (.ref A) (some dd) ob ∧ ob.data = .fields fs := by
    have y : ObjOk X.prog X.w H1 s1.heap a (ExcV (.ref A) (some dd) a) := I1.hok a _ ea
    exact y.1
  have hx : ObjOk X.prog X.w H1 s1.heap dd (.xd fs) := I1.hok dd _ ed
  obtain ⟨mA, hns, hr⟩ := hx
  obtain ⟨od, hod, hl⟩ := lookIn_ns hns
  obtain ⟨u, hu, ru⟩ := RelO.some_of (v := v) (o := mA f) (by rw [← l]; exact hr f)
  have J : PySem.W.InstAt s1.heap a oe A (some od) := ⟨ho, hz.1, by unfold PySem.W.notCls; rw [hd] <;> rfl, by rw [hz.2.1]; exact hod⟩
  exact HandSPX.exc_get I1.kIn J T.ga T.gg T.exC (PySem.W.findObj_own T.hdC hno rfl (by rw [hl, hu])) (handed_of ru) ⟨v, H1, I1.tok _, ru, q⟩
theorem de_fldX (ho : DE X W o fo) (hcs : ∀ c ∈ cs, ∃ A, X.mg c = some (.ref A) ∧ XfC X.K A ∧ PySem.W.findIn X.K (.ref A) f = some none) (hb : attributeBase o f X.env (eval o X.env) = eval o X.env := by rfl) : DE X W (.Attribute o f pos) (fFldX cs f fo) := by
  obtain ⟨t, p, q⟩ := ho.ex
  refine .mk (pe_fldX p hb) fun Z φ S ρ σ H Q R sl w => q Z φ S ρ σ H _ R sl (w.bind fun x S1 v φ1 H1 R1 E1 d w1 => ?_)
  cases x with
  | exc C fs =>
    simp only [asX] at w1
    by_cases hc : C ∈ cs
    · rw [if_pos hc] at w1
      obtain ⟨A, hA, T, no⟩ := hcs C hc
      unfold Dat at d
      obtain ⟨a, A', dx, rfl, hA', ea, hf⟩ := d
      rw [hA] at hA'
      injection hA' with hA'
      injection hA' with hA'
      subst hA'
      cases e : fs.lookup f with
      | none => rw [e] at w1; exact w1.elim
      | some y =>
        rw [e] at w1
        rcases hf with ⟨rfl, _⟩ | ⟨_, b, fvs, rfl, eb, df⟩
        · simp at e
        · obtain ⟨v, e2, dv⟩ := (datF_lookup (m := f) df).1 y e
          exact ⟨a, A, b, fvs, v, rfl, T, no, gnd_some ea, gnd_some eb, e2, w1.now R1 dv⟩
    · rw [if_neg hc] at w1
      exact w1.elim
  | _ => exact w1.elim
end
end DL

/-! The data layer, part 79: deep `not in`. -/
namespace DL
open PySem PySem.Spec PyProof.Rows L2
section
variable {X : Cx}
end
end DL

/-! The data layer, part 80: dict.update with a dict. -/
namespace DL
open PySem PySem.Spec PyProof.Rows L2
section
variable {X : Cx} {W : WX} {o e : Expr} {fo : FE} {pos apos cpos : Pos}
def rUpd : V → List V → Hp → VK → Prop := fun x vs H Q => ∃ (a b : Addr) (kvs more : List (Key × V)), x = .ref a ∧ vs = [.ref b] ∧ a ≠ b ∧ H a = some (.dK kvs) ∧ H b = some (.dK more) ∧ kvs.length + more.length ≤ sizeLine ∧ Q .non (upd H a (.dK (mergeK kvs more)))
theorem mt_upd : MtM X "dict.update" rUpd := by
  intro pins s σ H x xs v us Q I rx rv h
  obtain ⟨a, b, kvs, more, rfl, rfl, ne, e1, e2, hz, q⟩ := h
  cases rx
  obtain ⟨u, rfl, ru⟩ := Vals.one rv
  cases ru
  obtain ⟨z, hd, vs, rel, dd⟩ := dk_of I.hok e1
  obtain ⟨z2, hd2, ws, rel2, dd2⟩ := dk_of I.hok e2
  refine call_meetsIn PySem.F.slot_dict_update dd.typeIs PySem.F.entry_dict_update (PySem.F.args_dict_update_2 _ _) (meets_dict_update (mixKind X.prog X.w) a b ne hd2) ⟨vs, ws, dd, dd2, by rw [← rel.length, ← rel2.length]; exact hz, fun h' dd' _ hs => ?_⟩
  have he : ∃ q, h'.get? a = some q := let ⟨q, _, _, hq, _⟩ := dd'; ⟨q, hq⟩
  have rm : KV (mergeK kvs more) (merged vs ws) := KV.merge rel2 rel
  have hl : (mergeK kvs more).length ≤ sizeLine := by
    rw [rm.length]
    have := merged_length_le vs ws
    rw [← rel.length, ← rel2.length] at this
    omega
  exact ⟨.non, _, d_write (t' := s.toks) I (by rw [e1]; exact True.intro) hs he (dk_new hl hd rm dd'), rfl, q⟩
/-- d.update(e) -/
def gUpd : GM := fun x ds S => match x, ds with
  | .oid n, [.oid m] => (match S[n]?, S[m]? with
    | some (.dic ks), some (.dic ms) => if n ≠ m ∧ ks.length + ms.length ≤ sizeLine then .ok .non (S.set n (.dic (mergeD ks ms))) else .stuck
    | _, _ => .stuck)
  | _, _ => .stuck
theorem md_upd : MethD X rUpd gUpd := fun Z φ S H x u ds vs Q E R dx d w => by
  unfold gUpd at w
  split at w
  · rename_i n m
    obtain ⟨v, rfl, h1⟩ := datL1 d
    split at w
    · rename_i ks ms hS hM
      obtain ⟨⟨ne, hl⟩, w1⟩ := want_if w
      unfold Dat at dx h1
      obtain ⟨a, rfl, ha⟩ := dx
      obtain ⟨b, rfl, hb⟩ := h1
      obtain ⟨kvs, k1, k2⟩ := R.ob n a _ ha hS
      obtain ⟨mvs, m1, m2⟩ := R.ob m b _ hb hM
      have hab : a ≠ b := fun z => by
        subst z
        have la := (List.getElem?_eq_some_iff.mp ha).1
        exact ne ((List.getElem?_inj la R.nd).mp (ha.trans hb.symm))
      obtain ⟨R3, E3⟩ := R.mutate (u := .dic (mergeD ks ms)) (ho := .dK (mergeK kvs mvs)) ha hS rfl rfl ⟨_, upd_same, datK_merge m2 k2⟩
      refine ⟨a, b, kvs, mvs, rfl, rfl, hab, k1, m1, by rw [datK_length k2, datK_length m2]; exact hl, ?_⟩
      exact w1 _ φ _ R3 E3 dat_non
    · exact w.elim
  · exact w.elim
theorem de_update {fa : FA} (ho : DE X W o fo) (ha : DA X W [e] fa) (hbase : attributeBase o "update" X.env (eval o X.env) = eval o X.env := by rfl)
    (hfew : ((backTo cpos (starEach [e] X.env)).all (fun x => !x.1) && (backToKw cpos (keywordEach [] X.env)).all (fun x => x.1.isSome) && decide ([e].length + ([] : List Keyword).length + (if ([] : List Keyword).isEmpty then 0 else 1) < 30)) = true := by rfl)
    (hline : (apos.endLine == cpos.line) = true := by rfl) (hs : starEach [e] X.env = (false, eval e X.env) :: starEach [] X.env := by rfl) (hplain : (backTo cpos (starEach [] X.env)).any (·.1) = false := by rfl) :
    DE X W (.Call (.Attribute o "update" apos) [e] [] cpos) (fBM "dict" gUpd fo fa) := de_bm PySem.F.plainAttrs_dict PySem.F.slot_dict_update PySem.F.type_dict_update mt_upd md_upd (.inr (.inl rfl)) ho ha hbase hfew hline hs hplain
end
end DL

/-! The data layer, part 81: isinstance of own exceptions that have fields. -/
namespace DL
open PySem PySem.Spec PyProof.Rows L2
def rIsF (K : PySem.W.Frag) : List V → Hp → VK → Prop := fun xs H Q => ∃ (a A : Addr) (dx : Option Addr) (c : V) (cv : Value) (b : Bool), xs = [.ref a, c] ∧ H a = some (ExcV (.ref A) dx a) ∧ (dx = none ∨ ∃ d fvs, dx = some d ∧ H d = some (.xd fvs)) ∧ (∀ u, RelV c u → u = cv) ∧ ExcC K A ∧ PySem.W.kitOne K (.ref A) cv = some b ∧ Q (.bl b) H
theorem call_isF {X : Cx} : CallR X (.builtin "isinstance") (rIsF X.K) := by
  intro pins s σ H xs us Q I rel h
  obtain ⟨a, A, dx, c, cv, b, rfl, ha, hdx, hcv, EC, e, q⟩ := h
  cases rel with
  | cons r1 rest =>
    cases rest with
    | cons r2 rest =>
      cases rest
      cases r1
      cases hcv _ r2
      obtain ⟨⟨ob, vs, q1, q2, q3⟩, _, _⟩ := I.hok a _ ha
      have hcl : (PySem.W.clsIn X.K A).isSome = true := by
        obtain ⟨cd, hc, _⟩ := PySem.W.any_some EC.hd
        rw [hc]
        rfl
      have J : ∃ od, PySem.W.InstAt s.heap a ob A od := by
        rcases hdx with rfl | ⟨d, fvs, rfl, hd⟩
        · refine ⟨none, ?_⟩
          obtain ⟨oc, od, oda, osl⟩ := ob
          obtain ⟨z1, z2, _⟩ := q2
          dsimp only at z1 z2 q3
          subst z1 z2 q3
          exact ⟨q1, rfl, rfl, trivial⟩
        · obtain ⟨mA, ⟨od, es, ep, e2, _⟩, _⟩ := I.hok d _ hd
          refine ⟨some od, ?_⟩
          obtain ⟨oc, od', oda, osl⟩ := ob
          obtain ⟨z1, z2, _⟩ := q2
          dsimp only at z1 z2 q3
          subst z1 z2 q3
          exact ⟨q1, rfl, rfl, e2⟩
      obtain ⟨od, J⟩ := J
      exact PySem.W.kia_one (PySem.W.kitx_exc hcl EC.hg EC.hk EC.hs EC.ha EC.hn EC.ht EC.hm) I.kIn J e (fun z => nomatch z) fun tk => ⟨.bl b, H, I.kept (t' := tk) fun _ _ z => z, rfl, q⟩
section
variable {X : Cx} {W : WX} {k : Nat} {e b : Expr} {pos p : Pos}
def gIsF (t : List (Str × Bool)) (c : D) : GC := fun ds S => match ds with
  | [.exc C _, c'] => if isArg c c' then (match t.lookup C with
    | some b => .ok (.bl b) S
    | none => .stuck) else .stuck
  | _ => .stuck
theorem cd_isF {t : List (Str × Bool)} {c : D} {cv : Value} (hc : (∃ x A, c = .cls x ∧ X.mg x = some (.ref A) ∧ cv = .ref A) ∨ ∃ n, c = .ty n ∧ cv = .type n) (ht : ∀ C b A, t.lookup C = some b → X.mg C = some (.ref A) → ExcC X.K A ∧ PySem.W.kitOne X.K (.ref A) cv = some b) :
    CallD X (rIsF X.K) (gIsF t c) := fun Z φ S H ds vs Q E R d w => by
  unfold gIsF at w
  split at w
  · rename_i C fs c'
    obtain ⟨v, u, rfl, h1, h2⟩ := datL2 d
    obtain ⟨hi, w1⟩ := want_if w
    cases e : t.lookup C with
    | none => simp only [e] at w1; exact w1.elim
    | some b =>
      simp only [e] at w1
      unfold Dat at h1
      obtain ⟨a, A, dx, rfl, hA, ha, hx⟩ := h1
      obtain ⟨h3, h4⟩ := ht C b A e hA
      have ex : dx = none ∨ ∃ d fvs, dx = some d ∧ H d = some (.xd fvs) := hx.elim (fun z => .inl z.2) fun z => by
        obtain ⟨_, d, fvs, z1, z2, _⟩ := z
        exact .inr ⟨d, fvs, z1, gnd_sub _ _ z2⟩
      refine ⟨a, A, dx, u, cv, b, rfl, gnd_sub _ _ ha, ex, fun w' hw' => ?_, h3, h4, w1.now R (dat_bl _)⟩
      rcases hc with ⟨x, A', rfl, hm, rfl⟩ | ⟨n, rfl, rfl⟩
      · cases c' <;> simp only [isArg, Bool.false_eq_true, decide_eq_true_eq] at hi
        subst hi
        unfold Dat at h2
        obtain ⟨A2, rfl, q⟩ := h2
        rw [hm] at q
        cases q
        exact hw'
      · cases c' <;> simp only [isArg, Bool.false_eq_true, decide_eq_true_eq] at hi
        subst hi
        unfold Dat at h2
        subst h2
        exact hw'
  · exact w.elim
/-- isinstance(e, C) -/
theorem de_isF {c : Str} {A : Addr} {t : List (Str × Bool)} {fa : FA} (hg : Gl X "isinstance") (hm : X.mg "isinstance" = none) (hA : X.mg c = some (.ref A)) (ht : ∀ C b A', t.lookup C = some b → X.mg C = some (.ref A') → ExcC X.K A' ∧ PySem.W.kitOne X.K (.ref A') (.ref A) = some b) (ha : DA X W [e, b] fa)
    (he : starEach [e, b] X.env = (false, eval e X.env) :: starEach [b] X.env := by rfl) (hpl : (backTo pos (starEach [b] X.env)).any (·.1) = false := by rfl) : DE X W (.Call (.Name "isinstance" p) [e, b] [] pos) (fCB (gIsF t (.cls c)) fa) :=
  de_callB call_isF (cd_isF (.inl ⟨c, A, rfl, hA, rfl⟩) ht) hg hm (by rfl) ha (by decide) (by decide) he hpl
theorem de_isFT {n : String} {t : List (Str × Bool)} {fa : FA} (hg : Gl X "isinstance") (hm : X.mg "isinstance" = none) (ht : ∀ C b A', t.lookup C = some b → X.mg C = some (.ref A') → ExcC X.K A' ∧ PySem.W.kitOne X.K (.ref A') (.type n) = some b) (ha : DA X W [e, b] fa)
    (he : starEach [e, b] X.env = (false, eval e X.env) :: starEach [b] X.env := by rfl) (hpl : (backTo pos (starEach [b] X.env)).any (·.1) = false := by rfl) : DE X W (.Call (.Name "isinstance" p) [e, b] [] pos) (fCB (gIsF t (.ty n)) fa) :=
  de_callB call_isF (cd_isF (.inr ⟨n, rfl, rfl⟩) ht) hg hm (by rfl) ha (by decide) (by decide) he hpl
end
end DL

/-! The data layer, part 82: a head's run told in two parts (half of the defs' facts each): less memory a theorem. -/
namespace DL
open PySem PySem.Spec PyProof.Rows L2
end DL

/-! The data layer, part 83: list.insert. -/
namespace DL
open PySem PySem.Spec PyProof.Rows L2
section
variable {X : Cx} {W : WX} {o e : Expr} {es : List Expr} {fo : FE} {fa : FA} {pos apos cpos : Pos}
end
end DL

/-! The data layer, part 84: an instance made by keywords alone. -/
namespace DL
open PySem PySem.Spec PyProof.Rows L2
section
variable {X : Cx} {W : WX} {k k' : Nat} {ks ps : List Str} {kws : List Keyword} {fk : FA} {gD : List D → List D → List D} {sem : Sem'} {fd : FuncData} {f C : Addr} {pos p : Pos}
end
end DL

/-! The data layer, part 85: dict(d), sorted(d) of texts, d.pop(k). -/
namespace DL
open PySem PySem.Spec PyProof.Rows L2
section
variable {X : Cx} {W : WX} {k : Nat} {e o : Expr} {fo fe : FE} {p pos apos cpos : Pos}
/-! ### dict(d) -/
/-! ### sorted(d), d's keys texts -/
/-! ### d.pop(k) -/
end
end DL

/-! The data layer, part 86: o.f = p.g = e; o.f, p.g, q.h = a, b, c. -/
namespace DL
open PySem PySem.Spec PyProof.Rows L2
section
variable {X : Cx} {W : WX} {pos : Pos}
end
end DL

/-! The data layer, part 87: {k: v for k, v in d.items() if k != x}. -/
namespace L2
open PySem PySem.Spec PyProof.Rows
section
variable {X : Cx}
theorem wipe_set {σ : St} {i : Nat} {x : Option V} : ∀ {vs : List Nat}, i ∈ vs → wipe (σ.set i x) vs = wipe σ vs
  | [], h => by cases h
  | v :: vs, h => by
    unfold wipe
    by_cases hv : i ∈ vs
    · rw [wipe_set hv]
    · have e : i = v := (List.mem_cons.mp h).resolve_right hv
      subst e
      have gen : ∀ vs : List Nat, i ∉ vs → wipe (σ.set i x) vs = (wipe σ vs).set i x := by
        intro vs
        induction vs with
        | nil => intro _; rfl
        | cons u us ih =>
          intro h
          unfold wipe
          rw [ih fun z => h (List.mem_cons_of_mem _ z), List.set_comm _ _ (fun z => h (by rw [z]; exact List.mem_cons_self))]
      rw [gen vs hv, List.set_set]
end
end L2
namespace DL
open PySem PySem.Spec PyProof.Rows L2
section
variable {X : Cx} {W : WX} {k : Nat}
end
end DL

/-! The data layer, part 88: texts compared; sorted(d) as an object; a keyword's default that is the empty tuple. -/
namespace DL
open PySem PySem.Spec PyProof.Rows L2
section
variable {X : Cx} {W : WX} {k : Nat} {e : Expr} {p pos : Pos}
end
/-! ### a keyword's default that is the empty tuple -/
/-! ### bool(x) -/
section
variable {X : Cx} {W : WX} {k : Nat} {e : Expr} {p pos : Pos}
end
end DL

/-! The data layer, part 89: len(x) by an own __len__, x an object of the store. -/
namespace DL
open PySem PySem.Spec PyProof.Rows L2
section
variable {X : Cx} {W : WX} {k n : Nat} {e : Expr} {pos p : Pos} {C f : Addr} {fd : FuncData} {ps : List Str} {sem : Sem'}
end
end DL

/-! The data layer, part 90: calls, the lengths as numbers of their own. -/
namespace DL
open PySem PySem.Spec PyProof.Rows L2
section
variable {X : Cx} {W : WX} {k k' np : Nat} {f C : Addr} {fd : FuncData} {ps ks : List Str} {sem cs : Sem'} {x m : Str} {p pos apos : Pos} {o e : Expr} {es : List Expr} {kws : List Keyword} {fo : FE} {fa fk : FA} {gD : List D → List D → List D}
theorem de_callL {nk nn : Nat} (F : FnG X.prog X.w X.K X.mg X.base k f fd ps (spD X.K X.mg ps.length sem)) (hcs : CallOk X.K X.mg ps.length sem cs) (C : Cn X W k') (hg : Gl X x) (hm : X.mg x = some (.ref f)) (hk : PySem.W.keepIn X.K (.ref f) = true) (hb : KB X.K fd ps np ks gD)
    (ha : DA X W (e :: es) fa) (hkw : DKw X W kws fk) (hle : k ≤ k' := by decide) (hall : (backToKw pos (keywordEach kws X.env)).all (·.1.isSome) = true := by rfl) (hks : (backToKw pos (keywordEach kws X.env)).filterMap (·.1) = ks := by rfl)
    (hdb : (x == ("__debug__" : Str)) = false := by decide) (he : starEach (e :: es) X.env = (false, eval e X.env) :: starEach es X.env := by rfl)
    (hpl : ((backTo pos (starEach (e :: es) X.env)).any (·.1) || (backToKw pos (keywordEach kws X.env)).any (·.1.isNone)) = false := by rfl) (hnk : ks.length = nk := by rfl) (hnn : ps.length = nn := by rfl) :
    DE X W (.Call (.Name x p) (e :: es) kws pos) (fCall cs gD np nk nn fa fk) := by
  subst hnk
  subst hnn
  exact de_call F hcs C hg hm hk hb ha hkw hle hall hks hdb he hpl
theorem de_call0L {nk nn : Nat} (F : FnG X.prog X.w X.K X.mg X.base k f fd ps (spD X.K X.mg ps.length sem)) (hcs : CallOk X.K X.mg ps.length sem cs) (C : Cn X W k') (hg : Gl X x) (hm : X.mg x = some (.ref f)) (hk : PySem.W.keepIn X.K (.ref f) = true) (hb : KB X.K fd ps 0 ks gD)
    (hkw : DKw X W kws fk) (hle : k ≤ k' := by decide) (hall : (backToKw pos (keywordEach kws X.env)).all (·.1.isSome) = true := by rfl) (hks : (backToKw pos (keywordEach kws X.env)).filterMap (·.1) = ks := by rfl)
    (hdb : (x == ("__debug__" : Str)) = false := by decide) (hpl : ((backTo pos (starEach [] X.env)).any (·.1) || (backToKw pos (keywordEach kws X.env)).any (·.1.isNone)) = false := by rfl) (hnk : ks.length = nk := by rfl) (hnn : ps.length = nn := by rfl) :
    DE X W (.Call (.Name x p) [] kws pos) (fCall cs gD 0 nk nn (fun _ S => .ok [] S) fk) := by
  subst hnk
  subst hnn
  exact de_call0 F hcs C hg hm hk hb hkw hle hall hks hdb hpl
theorem de_meth0L {nk nn : Nat} {pl : Sem Bool} {c : Str} (ho : DE X W o fo) (cl : ClsI X c C) (hm : Meth X.K C m f) (F : FnG X.prog X.w X.K X.mg X.base k f fd ps (spD X.K X.mg ps.length sem)) (hcs : CallOk X.K X.mg ps.length sem cs) (Cc : Cn X W k') (hb : KB X.K fd ps 1 ks gD)
    (hkw : DKw X W kws fk) (hle : k ≤ k' := by decide) (hall : (backToKw pos (keywordEach kws X.env)).all (·.1.isSome) = true := by rfl) (hks : (backToKw pos (keywordEach kws X.env)).filterMap (·.1) = ks := by rfl)
    (hpl : ((backTo pos (starEach [] X.env)).any (·.1) || (backToKw pos (keywordEach kws X.env)).any (·.1.isNone)) = false := by rfl)
    (ht : eval (.Call (.Attribute o m apos) [] kws pos) X.env = (do
      let ov ← eval o X.env
      standAt apos.atName
      let (f, first) ← holding [ov] (getMethod ov m pl)
      callWith pos f first (backTo pos (starEach [] X.env)) (backToKw pos (keywordEach kws X.env))) := by rfl) (hnk : ks.length = nk := by rfl) (hnn : ps.length = nn := by rfl) :
    DE X W (.Call (.Attribute o m apos) [] kws pos) (fMeth cs gD c m 1 nk nn fo (fun _ S => .ok [] S) fk) := by
  subst hnk
  subst hnn
  exact de_meth0 ho cl hm F hcs Cc hb hkw hle hall hks hpl ht
theorem de_makeL {nk : Nat} {c : Str} {mk : MakeT} (M : Mk X.K C f) (F : FnG X.prog X.w X.K X.mg X.base k f fd ps (spD X.K X.mg ps.length sem)) (hmk : MakeOk X c ps.length sem gD mk) (Cc : Cn X W k') (hg : Gl X c) (hm : X.mg c = some (.ref C)) (hb : KB X.K fd ps (np + 1) ks gD)
    (ha : DA X W (e :: es) fa) (hkw : DKw X W kws fk) (hle : k + 1 ≤ k' := by decide) (hall : (backToKw pos (keywordEach kws X.env)).all (·.1.isSome) = true := by rfl) (hks : (backToKw pos (keywordEach kws X.env)).filterMap (·.1) = ks := by rfl)
    (hdb : (c == ("__debug__" : Str)) = false := by decide) (he : starEach (e :: es) X.env = (false, eval e X.env) :: starEach es X.env := by rfl)
    (hpl : ((backTo pos (starEach (e :: es) X.env)).any (·.1) || (backToKw pos (keywordEach kws X.env)).any (·.1.isNone)) = false := by rfl) (hnk : ks.length = nk := by rfl) :
    DE X W (.Call (.Name c p) (e :: es) kws pos) (fMake mk np nk fa fk) := by
  subst hnk
  exact de_make M F hmk Cc hg hm hb ha hkw hle hall hks hdb he hpl
end
end DL

/-! The data layer, part 91: sorted(a list of texts). -/
namespace DL
open PySem PySem.Spec PyProof.Rows L2
section
variable {X : Cx} {W : WX} {k : Nat} {e : Expr} {pos p : Pos}
end
end DL

/-! The data layer, part 92: [e for x in d.values() if t], d an object of the store; test and element read x alone. -/
namespace DL
open PySem PySem.Spec PyProof.Rows L2
section
variable {X : Cx} {W : WX} {k : Nat}
end
end DL

/-! The data layer, part 93: for k in f(..), where f gives a dict, all objects are handed to it. -/
namespace DL
open PySem PySem.Spec PyProof.Rows L2
section
variable {X : Cx} {W : WX} {k k' np : Nat} {f : Addr} {fd : FuncData} {ps ks : List Str} {sem : Sem'} {x : Str} {p pos : Pos} {e : Expr} {es : List Expr} {kws : List Keyword} {fa fk : FA} {gD : List D → List D → List D} {tg : Expr}
end
end DL

/-! The data layer, part 94: str(x) by an own __str__. -/
namespace DL
open PySem PySem.Spec PyProof.Rows L2
section
variable {X : Cx} {W : WX} {k n : Nat} {e : Expr} {pos p : Pos} {C f : Addr} {fd : FuncData} {ps : List Str} {sem : Sem'}
end
end DL

/-! The data layer, part 95: x[i], y[j] = a, b. -/
namespace DL
open PySem PySem.Spec PyProof.Rows L2
section
variable {X : Cx} {W : WX} {k : Nat} {pos : Pos}
end
end DL

/-! The data layer, part 96: dict displays of more than 17 entries: what the machine does. -/
namespace DL96
open PySem PySem.Spec PyProof.Rows L2
section
variable {prog : Program} {w : World} {K : Type} [DecidableEq K] {knd : KeyKind prog w K} {A : Around} {E : Value → Shared → Prop} {s : Shared}
end
end DL96

/-! The data layer, part 96: dict displays of more than 17 entries: the two runs. -/
namespace DL96
open PySem PySem.Spec PyProof.Rows L2
end DL96

/-! The data layer, part 96: dict displays of more than 17 entries, in the heap of kinds. -/
namespace L2
open PySem PySem.Spec PyProof.Rows
def tPutAll (a : Addr) : List (TE × TE) → St → Hp → (Hp → Prop) → Prop
  | [], _, H, Q => Q H
  | (tk, tv) :: r, σ, H, Q => tk σ H fun x H1 => tv σ H1 fun y H2 => ∃ (kvs : List (Key × V)) (k : Key), x = kV k ∧ H2 a = some (.dK kvs) ∧ kvs.length < sizeLine ∧ tPutAll a r σ (upd H2 a (.dK (putK kvs k y))) Q
section
variable {X : Cx} {pos : Pos}
abbrev putBody (d : Addr) : Sem Value × Sem Value → PUnit → Sem (ForInStep PUnit) := fun x _ => match x with
  | (k, v) => (do
    let kv ← k
    let vv ← holding [kv] v
    holding [kv, vv] (dictSet d kv vv)
    pure (ForInStep.yield PUnit.unit))
structure PLs (X : Cx) (pos : Pos) (keys : List (Option Expr)) (values : List Expr) (trs : List (TE × TE)) : Prop where
  run : ∀ (pins : List (Addr × Obj)) (s : Shared) (σ : St) (H : Hp) (Q : Hp → Prop) (d : Addr), Inv X pins σ H s → tPutAll d trs σ H Q →
    wpAny (model X.prog X.w) X.A (forIn (pairTrees keys values X.env pos) PUnit.unit (putBody d)) (fun _ s' => ∃ H', Inv X pins σ H' s' ∧ Q H') X.xe s
end
end L2

/-! The data layer, part 96: dict displays of 18 to 32 entries, as objects (the second run's own dict stays in the store). -/
namespace DL
open PySem PySem.Spec PyProof.Rows L2
section
variable {X : Cx} {W : WX} {pos : Pos}
end
end DL

/-! The data layer, part 97: for k, v in f(..).items(), where f gives a dict, all objects are handed to it. -/
namespace DL
open PySem PySem.Spec PyProof.Rows L2
section
variable {X : Cx} {W : WX} {k k' np : Nat} {f : Addr} {fd : FuncData} {ps ks : List Str} {sem : Sem'} {x : Str} {p pos : Pos} {e : Expr} {es : List Expr} {kws : List Keyword} {fa fk : FA} {gD : List D → List D → List D} {tg : Expr}
end
end DL

/-! The data layer, part 98: xs == [], whatever stands in the list. -/
namespace L2
open PySem PySem.Spec PyProof.Rows
def rEqN (K : PySem.W.Frag) : R2 := fun x y H Q => ∃ a b xs, x = .ref a ∧ y = .ref b ∧ SqL K H a xs ∧ SqL K H b [] ∧ Q (.bl xs.isEmpty) H
theorem op_eqN {X : Cx} (hu : X.A.units + 65 < cLine) : OpR X (compareOp .Eq) (rEqN X.K) := by
  intro pins s σ H x y v u Q I rx ry h
  obtain ⟨a, b, xs, rfl, rfl, ha, hb, q⟩ := h
  cases (show v = Value.ref a from rx)
  cases (show u = Value.ref b from ry)
  obtain ⟨us, r1, p1, _⟩ := I.list ha
  obtain ⟨ws, r2, p2, _⟩ := I.list hb
  cases r2
  show wpAny _ _ (richCompare .Eq (.ref a) (.ref b)) _ _ _
  cases xs with
  | nil =>
    cases r1
    exact PySem.SeqAt.RcAt.lists (e := fun _ => true) p1.isList p2.isList rfl (by omega) (fun j h1 h2 => by simp at h1) _ _ _ _ ⟨.bl true, H, I, rfl, q⟩
  | cons z zs =>
    cases r1 with
    | cons c1 c2 =>
      exact PySem.SeqAt.RcAt.lists_lengths p1.isList p2.isList (by simp) (by omega) _ _ _ _ ⟨.bl false, H, I, rfl, q⟩
end L2
namespace DL
open PySem PySem.Spec PyProof.Rows L2
section
variable {X : Cx}
def gEqN : G2 := fun x y S => match asL S x, y with
  | some xs, .lst [] => .ok (.bl xs.isEmpty) S
  | _, _ => .stuck
theorem opd_eqN : OpD X (L2.rEqN X.K) gEqN := fun Z φ S H x y u v Q E R dx dy w => by
  unfold gEqN at w
  split at w
  · rename_i xs e1
    obtain ⟨a, us, rfl, h2, h3⟩ := asL_ok R dx e1
    unfold Dat at dy
    obtain ⟨b, vs, rfl, h4, h5⟩ := dy
    unfold DatL at h5
    subst h5
    have e : us.isEmpty = xs.isEmpty := by
      have := h3.length
      cases xs with
      | nil =>
        cases us with
        | nil => rfl
        | cons _ _ => simp at this
      | cons _ _ =>
        cases us with
        | nil => simp at this
        | cons _ _ => rfl
    refine ⟨a, b, us, rfl, rfl, h2, .inl (.inl (gnd_sub _ _ h4)), ?_⟩
    rw [e]
    exact w.now R (dat_bl _)
  · exact w.elim
end
end DL

/-! The data layer, part 99: str(x), x a number or a text. -/
namespace DL
open PySem PySem.Spec PyProof.Rows L2
section
variable {X : Cx} {W : WX} {e : Expr} {p pos : Pos}
end
end DL

/-! The data layer, part 100: zip of a list with a tuple. -/
namespace L2
open PySem PySem.Spec PyProof.Rows
section
variable {prog : Program} {w : World} {A : Around}
theorem draws_tupleEnd (hh : A.handled = none) (it l : Addr) (items : Array Value) {i : Nat} (hx : items[i]? = none) :
    Draws prog w A it [it, l] i (fun _ _ => False) (fun j h => j = i ∧ h.IsTupleIter it l i ∧ h.IsTuple l items) where
  live := fun _ _ st => let ⟨o, ho, _⟩ := st.2.1; ⟨o, ho⟩
  frame := fun _ _ _ st hk => ⟨st.1, st.2.1.at fun o e => hk it (by simp) o e, st.2.2.at fun o e => hk l (by simp) o e⟩
  item := fun j s Q E hj st hQ => absurd st.1 (by omega)
  done := fun s Q E st hE => wpAny_nextOf_tuple_end hh st.2.1 st.2.2 hx hE
end
end L2
namespace DL
open PySem PySem.Spec PyProof.Rows L2
def zipLT : List D → Store → Res ItD := fun ds S => match ds with
  | [.lst xs, .tup ys] => .ok ⟨zipD xs ys, none⟩ S
  | _ => .stuck
def fZipLT (fa : FA) : FI := fun ρ S => (fa ρ S).bind zipLT
section
variable {X : Cx} {W : WX} {k : Nat} {pos p : Pos}
@[simp] theorem e_fZipLT (fa : FA) (ρ : EnvD) (S : Store) : fZipLT fa ρ S = (fa ρ S).bind zipLT := rfl
end
end DL

/-! The data layer, part 101: enumerate of a list or a tuple. -/
namespace L2
open PySem PySem.Spec PyProof.Rows
set_option maxHeartbeats 1000000 in
theorem meets_enum_new1 {v : Value} {o : Obj} {H : Heap → Prop} (B : Begins v o H) :
    Meets (Builtin.«enumerate.__new__» ⟨[.type "enumerate", v], []⟩) (fun _ R s => H s.heap ∧
      R (.ok (.ret (.ref (s.heap.push o).objs.size))) { s with heap := (s.heap.push o).push { cls := .type "enumerate", data := .fields #[.none, .bool false, .ref s.heap.objs.size, rawInt 0, .none, .none] } }) :=
  .of_wp fun prog w A R s h => by
    obtain ⟨hp, g, d, tk, os⟩ := s; obtain ⟨h1, h⟩ := h
    have hsub := sub_enumerate
    have q1 : ∀ {A' : Around} {E : Value → Shared → Prop} {Q : Value → Shared → Prop}, Q (.ref hp.objs.size) ⟨hp.push o, g, d, tk, os⟩ → wpAny (model prog w) A' (pyIter v) Q E ⟨hp, g, d, tk, os⟩ :=
      fun q => B.iter prog w _ _ ⟨hp, g, d, tk, os⟩ _ h1 q
    wp_walk using q1
    refine wpAny_stack_any fun st => wpAny_pure ?_
    split
    · rename_i c _ _ _ _ _
      cases (c == Value.type "enumerate")
      · wp_walk using q1
        exact ⟨_, rfl, h⟩
      · wp_walk using q1
        exact ⟨_, rfl, h⟩
    · wp_walk using q1
      exact ⟨_, rfl, h⟩
section
variable {prog : Program} {w : World} {A : Around} {E : Value → Shared → Prop} {s : Shared}
theorem enum_begins1 {v : Value} {o : Obj} {H : Heap → Prop} {Q : Value → Shared → Prop} (B : Begins v o H) (h1 : H s.heap)
    (h : ∀ h', IsEnum h' (s.heap.objs.size + 1) s.heap.objs.size 0 .none → h'.get? s.heap.objs.size = some o → h'.objs.size = s.heap.objs.size + 2 →
      (∀ b o, s.heap.get? b = some o → h'.get? b = some o) → Q (.ref (s.heap.objs.size + 1)) { s with heap := h' }) :
    wpAny (model prog w) A (call (.type "enumerate") [v]) Q E s := by
  refine callType_new F.called_enumerate (by decide) (F.typeCall_enumerate_1 _) (F.newCall_enumerate_1 _) (fun obj => F.args_object_init_2 obj _) F.entry_enumerate_new
    (meets_enum_new1 B) ⟨h1, ?_⟩
  have hz : (s.heap.push o).objs.size = s.heap.objs.size + 1 := Heap.size_push ..
  show _ ∧ _
  rw [hz]
  have he : IsEnum ((s.heap.push o).push { cls := .type "enumerate", data := .fields #[.none, .bool false, .ref s.heap.objs.size, rawInt 0, .none, .none] }) (s.heap.objs.size + 1) s.heap.objs.size 0 .none := by
    have := Heap.get?_push_size (s.heap.push o) (o := { cls := .type "enumerate", data := .fields #[.none, .bool false, .ref s.heap.objs.size, rawInt 0, .none, .none] }) rfl
    rw [hz] at this; exact this
  refine ⟨⟨_, he, rfl⟩, h _ he (Heap.get?_push_of_some _ (Heap.get?_push_size _ B.free)) (by rw [Heap.size_push, hz]) fun b o x => Heap.get?_push_of_some _ (Heap.get?_push_of_some _ x)⟩
end
/-- the tuple at a, each item in a new pair -/
def IteT (K : PySem.W.Frag) (a : Addr) : It :=
  ⟨fun i H => ∃ (xs : List V) (x : V), SqT K H a xs ∧ xs[i]? = some x, fun i H v H' => ∃ T x, v = .ref T ∧ H T = none ∧ H' = upd H T (.tup [.int (i : Nat), x]) ∧ ∀ xs, SqT K H a xs → xs[i]? = some x, fun i H => ∃ xs : List V, SqT K H a xs ∧ xs.length ≤ i⟩
theorem turn_enumT {P : Program} {w : World} {K : PySem.W.Frag} {elts : List Expr} {kk : Nat} {tpos : Pos} (a e it : Addr) :
    Turn P w K (.Tuple elts kk tpos) (IteT K a) [e, it] e (fun i h => (∃ old, IsEnum h e it ((i : Nat) : Int) old) ∧ h.IsTupleIter it a i ∧ e ≠ it ∧ a ≠ e ∧ a ≠ it) where
  mem := by simp
  obj := fun i h st b hb => by
    obtain ⟨⟨old, he⟩, ⟨o, ho, hc, hd⟩, _⟩ := st
    have e' : b = e ∨ b = it := by simpa using hb
    rcases e' with z | z
    · rw [z]; exact ⟨_, he, fun v q => nomatch q⟩
    · rw [z]; exact ⟨o, ho, fun v q => by rw [hd] at q; cases q⟩
  keep := fun i h h' st k => let ⟨⟨old, he⟩, hi, hne⟩ := st; ⟨⟨old, k e (by simp) _ he⟩, hi.at fun o q => k it (by simp) o q, hne⟩
  item := by
    intro X hP hw hK hc i pins s σ H E I hf st hg
    subst hP hw hK
    obtain ⟨⟨old, he⟩, hit, hne, hae, hai⟩ := st
    obtain ⟨xs, x, hq, hx⟩ := hg
    obtain ⟨its, rv, p, hz⟩ := I.tuple hq
    obtain ⟨u, hu, ru⟩ := rv.get hx
    have hel : e < s.heap.objs.size := Heap.lt_size he
    have hil : it < s.heap.objs.size := by obtain ⟨_, q, _⟩ := hit; exact Heap.lt_size q
    have hlen : i < its.toArray.size := by
      have := (List.getElem?_eq_some_iff.mp hu).1
      simpa using this
    have hh : X.A.in1.handled = none := I.ok.hd hc
    refine wpAny_pyNext_enum_itemD (Draws.tuple hh it a hai its.toArray) he ⟨hit, p⟩ hlen hne (by simp; exact ⟨hne, fun q => hae q.symm⟩) fun x1 h' tk hP ho hs' hT hsz hk => ?_
    have hP : its.toArray[i]? = some x1 := hP
    have ex : x1 = u := by
      have : its[i]? = some x1 := by simpa using hP
      rw [hu] at this
      cases this
      rfl
    subst ex
    obtain ⟨hit', _⟩ := hs'
    refine ⟨_, rfl, wpAny_letOwnedTupleGo_enum (s := { s with heap := h', toks := tk + 1 }) ho fun h'' he' sb => ?_⟩
    have hT2 : h''.get? s.heap.objs.size = some { cls := .type "tuple", data := .seq #[.int i tk, x1] } := (sb.2 _ (Nat.ne_of_gt hel)).trans hT
    have new : ObjOk X.prog X.w (upd H s.heap.objs.size (.tup [.int (i : Nat), x])) h'' s.heap.objs.size (.tup [.int (i : Nat), x]) :=
      ⟨by show 2 ≤ sizeLine; decide, [.int i tk, x1], .cons ⟨_, rfl⟩ (.cons ru .nil), ⟨_, hT2, rfl, _, rfl⟩⟩
    have I1 : Inv X pins σ (upd H s.heap.objs.size (.tup [.int (i : Nat), x])) { s with heap := h'', toks := tk + 1 } :=
      I.turnedNew (ch := [e, it]) (fun b ob hb q => (sb.2 b (fun z => hb (by simp [z]))).trans (hk b ob (fun z => hb (by simp [z])) (fun z => hb (by simp [z])) q)) hf (Nat.le_refl _) new
    refine ⟨.ref s.heap.objs.size, _, I1, rfl, ⟨_, x, rfl, I.hok.fresh (Nat.le_refl _), rfl, fun ys hy => by rw [I.tuple_inj hy hq]; exact hx⟩, ⟨⟨x1, ?_⟩, hit'.at fun o q => (sb.2 it (Ne.symm hne)).trans q, hne, hae, hai⟩, fun b hb => ?_⟩
    · have e1 : ((i + 1 : Nat) : Int) = (i : Int) + 1 := by omega
      rw [e1]; exact he'
    · have hb' : b < s.heap.objs.size := by
        have e' : b = e ∨ b = it := by simpa using hb
        rcases e' with z | z
        · rw [z]; exact hel
        · rw [z]; exact hil
      rw [upd_ne (Nat.ne_of_lt hb')]
      exact (hf b hb).1
  done := by
    intro X hP hw hK hc i pins s σ H E I hf st hg
    subst hP hw hK
    obtain ⟨⟨old, he⟩, hit, hne, hae, hai⟩ := st
    obtain ⟨xs, hq, hx⟩ := hg
    obtain ⟨its, rv, p, hz⟩ := I.tuple hq
    obtain ⟨f0, f1, f2, f3, f4, f5⟩ := hf it (by simp)
    have hl := rv.length
    have hh : X.A.in1.handled = none := I.ok.hd hc
    have hn : its.toArray[i]? = none := by simp; omega
    exact wpAny_pyNext_enum_endD (draws_tupleEnd hh it a its.toArray hn) he ⟨rfl, hit, p⟩ fun h' eb => ⟨rfl, I.turned (t' := s.toks) (fun b o hb q => eb b o hb q) f0 f1 f3 f4 f5⟩
  self := fun A i s Q E st h => let ⟨⟨_, he⟩, _⟩ := st; wpAny_pyIter_enum he h
def iEnumQ (K : PySem.W.Frag) (ta : TA) : TI := fun σ H R => ta σ H fun vs H1 => ∃ a xs, vs = [.ref a] ∧ ((SqL K H1 a xs ∧ R (Ite K a) H1) ∨ (SqT K H1 a xs ∧ R (IteT K a) H1))
theorem pi_enumQ {X : Cx} {e : Expr} {ta : TA} {p pos tpos : Pos} {elts : List Expr} {kk : Nat} (hg : Gl X "enumerate") (hm : X.mg "enumerate" = none) (ha : PA X [e] ta) (hs : starEach [e] X.env = [(false, eval e X.env)] := by rfl) :
    PI X (.Tuple elts kk tpos) (.Call (.Name "enumerate" p) [e] [] pos) (iEnumQ X.K ta) := by
  refine ⟨fun pins s σ H R I h => ?_⟩
  refine Call_ (ld_blt I hg hm boot_enumerate (PyProof.Rows.callWith_type1 (thn (ha.run pos pins s σ H _ I h) fun us s1 ⟨vs, H1, I1, r1, q1⟩ => ?_) hs rfl))
  obtain ⟨a, xs, ex, q1⟩ := q1
  subst ex
  cases r1 with
  | cons r rr =>
    cases rr
    cases r
    have fin : ∀ b ∈ [s1.heap.objs.size + 1, s1.heap.objs.size], FpOk X pins H1 b := fun b hb => by
      have e' : b = s1.heap.objs.size + 1 ∨ b = s1.heap.objs.size := by simpa using hb
      have hle : s1.heap.objs.size ≤ b := by
        rcases e' with z | z
        · rw [z]; exact Nat.le_add_right _ _
        · rw [z]; exact Nat.le_refl _
      exact I1.fpOk hle (I1.hok.fresh hle)
    rcases q1 with ⟨hq, q⟩ | ⟨hq, q⟩
    · obtain ⟨its, rv, p', hz⟩ := I1.list hq
      refine call_enumerate_list p'.isList fun h' he hit hsz hk => wpAny_pyIter_enum he ?_
      have I2 : Inv X pins σ H1 { s1 with heap := h' } := I1.kept (t' := s1.toks) hk
      exact ⟨s1.heap.objs.size + 1, [s1.heap.objs.size + 1, s1.heap.objs.size], _, _, H1, rfl, I2, turn_enum a (s1.heap.objs.size + 1) s1.heap.objs.size, ⟨⟨.none, he⟩, hit, Nat.succ_ne_self _⟩, fin, q⟩
    · obtain ⟨its, rv, p', hz⟩ := I1.tuple hq
      obtain ⟨o2, ho2, _⟩ := id p'
      have la : a < s1.heap.objs.size := Heap.lt_size ho2
      refine enum_begins1 (begins_tuple a its.toArray) p' fun h' he g1 hsz hk => wpAny_pyIter_enum he ?_
      have I2 : Inv X pins σ H1 { s1 with heap := h' } := I1.kept (t' := s1.toks) hk
      exact ⟨s1.heap.objs.size + 1, [s1.heap.objs.size + 1, s1.heap.objs.size], _, _, H1, rfl, I2, turn_enumT a (s1.heap.objs.size + 1) s1.heap.objs.size, ⟨⟨.none, he⟩, ⟨_, g1, rfl, rfl⟩, Nat.succ_ne_self _, by have h : a < s1.heap.objs.size := la; exact Nat.ne_of_lt (Nat.lt_succ_of_lt h), Nat.ne_of_lt la⟩, fin, q⟩
end L2
namespace DL
open PySem PySem.Spec PyProof.Rows L2
def enumQ : List D → Store → Res ItD := fun ds S => match ds with
  | [.lst ds] => .ok ⟨enumD 0 ds, none⟩ S
  | [.tup ds] => .ok ⟨enumD 0 ds, none⟩ S
  | [d] => match asL S d with
    | some ds => .ok ⟨enumD 0 ds, some (d, ds)⟩ S
    | none => .stuck
  | _ => .stuck
def fEnumQ (fa : FA) : FI := fun ρ S => (fa ρ S).bind enumQ
section
variable {X : Cx} {W : WX} {k : Nat} {pos p : Pos}
theorem enumD_getQ (ds : List D) (i : Nat) : (enumD 0 ds)[i]? = ds[i]?.map fun d => D.tup [.int (i : Nat), d] := by
  have : ∀ (ds : List D) (k i : Nat), (enumD k ds)[i]? = ds[i]?.map fun d => D.tup [.int ((k + i : Nat) : Int), d] := by
    intro ds
    induction ds with
    | nil => intro k i; simp [enumD]
    | cons d ds ih =>
      intro k i
      cases i with
      | zero => simp [enumD]
      | succ i =>
        have := ih (k + 1) i
        simp only [enumD, List.getElem?_cons_succ]
        rw [this, show k + 1 + i = k + (i + 1) by omega]
  have h := this ds 0 i
  simpa using h
theorem enumD_lenQ (ds : List D) : ∀ k, (enumD k ds).length = ds.length := by
  induction ds with
  | nil => intro k; rfl
  | cons d ds ih => intro k; simp only [enumD, List.length_cons, ih]
theorem ri_enumT {Z φ : List Addr} {S : Store} {H : Hp} {xs : List D} {a : Addr} (hx : Dat X.K X.mg φ (gnd Z φ S H) (.tup xs) (.ref a)) : RI X.K X.mg Z φ S H ⟨enumD 0 xs, none⟩ (IteT X.K a) :=
  fun i Z' φ' S' H' hZ R hp hs ok => by
    obtain ⟨a', vs, e1, g1, d1⟩ := dTup (Dat.mono hp hs _ _ hx)
    cases e1
    have s1 : SqT X.K H' a vs := sqt_mono gnd_sub g1
    refine ⟨fun z hz => ?_, fun hl => ⟨vs, s1, ?_⟩⟩
    · have hz : (enumD 0 xs)[i]? = some z := hz
      rw [enumD_getQ] at hz
      obtain ⟨d, hd, rfl⟩ := Option.map_eq_some_iff.mp hz
      obtain ⟨u, hu, du⟩ := d1.get hd
      refine ⟨⟨vs, u, s1, hu⟩, fun y' H'' yl => ?_⟩
      obtain ⟨T, x', rfl, hT, rfl, q1⟩ := yl
      have z1 := q1 vs s1
      rw [hu] at z1
      cases z1
      exact dat_newT R (.cons (dat_int _) (.cons du DatL.nil)) hT
    · have hl' : (enumD 0 xs).length ≤ i := hl
      rw [enumD_lenQ] at hl'
      rw [d1.length]
      exact hl'
theorem di_enumQ {a : Expr} {fa : FA} {elts : List Expr} {kk : Nat} {tpos : Pos} (hg : Gl X "enumerate") (hm : X.mg "enumerate" = none) (ha : DA X W [a] fa) (hs : starEach [a] X.env = [(false, eval a X.env)] := by rfl) :
    DI X W (.Tuple elts kk tpos) (.Call (.Name "enumerate" p) [a] [] pos) (fEnumQ fa) := by
  obtain ⟨t, pa, q⟩ := ha.ex
  refine .mk (pi_enumQ hg hm pa hs) fun Z φ S ρ σ H R R0 sl w => q Z φ S ρ σ H _ R0 sl (w.bind fun ds S1 vs φ1 H1 R1 E1 d w1 => ?_)
  unfold enumQ at w1
  split at w1
  · rename_i es
    obtain ⟨v, rfl, h1⟩ := datL1 d
    obtain ⟨a, us, rfl, h2, h3⟩ := asL_ok R1 h1 rfl
    exact ⟨a, us, rfl, .inl ⟨h2, w1 _ _ _ R1 Evo.refl (ri_enum (d := .lst es) h1 fun _ _ => rfl)⟩⟩
  · rename_i es
    obtain ⟨v, rfl, h1⟩ := datL1 d
    obtain ⟨a, us, rfl, g1, d1⟩ := dTup h1
    exact ⟨a, us, rfl, .inr ⟨sqt_mono gnd_sub g1, w1 _ _ _ R1 Evo.refl (ri_enumT h1)⟩⟩
  · rename_i x _ _
    obtain ⟨v, rfl, h1⟩ := datL1 d
    cases hq : asL S1 x with
    | none => rw [hq] at w1; exact w1.elim
    | some es =>
      rw [hq] at w1
      obtain ⟨a, us, rfl, h2, h3⟩ := asL_ok R1 h1 hq
      exact ⟨a, us, rfl, .inl ⟨h2, w1 _ _ _ R1 Evo.refl (ri_enum (d := x) h1 fun _ ok => ok)⟩⟩
  · exact w1.elim
@[simp] theorem e_fEnumQ (fa : FA) (ρ : EnvD) (S : Store) : fEnumQ fa ρ S = (fa ρ S).bind enumQ := rfl
end
end DL

/-! The data layer, part 102: zip of a text with a tuple. -/
namespace L2
open PySem PySem.Spec PyProof.Rows
/-- the signs of a text and the tuple at b, in new pairs -/
def ItzST (K : PySem.W.Frag) (x : Str) (b : Addr) : It :=
  ⟨fun i H => ∃ (ys : List V) (y : V), SqT K H b ys ∧ ys[i]? = some y ∧ i < x.cps.size,
    fun i H v H' => ∃ T c y, v = .ref T ∧ H T = none ∧ H' = upd H T (.tup [.str ⟨#[c]⟩, y]) ∧ x.cps[i]? = some c ∧ ∀ ys, SqT K H b ys → ys[i]? = some y,
    fun i H => ∃ ys : List V, SqT K H b ys ∧ (x.cps.size ≤ i ∨ ys.length ≤ i)⟩
theorem sep_ST {z TI TO i1 i2 b : Addr} (D : ZipApart z TI TO i1 i2 b b) : ZipSep2 z TI TO i1 i2 [i1] [i2, b] where
  TIz := D.TIz
  TOz := D.TOz
  TITO := D.TITO
  TIi1 := D.TIi1
  mem1 := by simp
  zf1 := by simp; exact fun e => D.i1z e.symm
  Tf1 := by simp; exact D.TOi1
  TIi2 := D.TIi2
  mem2 := by simp
  zf2 := by simp; exact ⟨fun e => D.i2z e.symm, fun e => D.l2z e.symm⟩
  Tf2 := by simp; exact ⟨D.TOi2, fun e => D.l2TO e.symm⟩
  sep1_2 := by simp; exact ⟨D.i12, fun e => D.l2i1 e.symm⟩
  sep2_1 := by simp; exact fun e => D.i12 e.symm
theorem turn_zipST {P : Program} {w : World} {K : PySem.W.Frag} {elts : List Expr} {kk : Nat} {tpos : Pos} {b z TI TO i1 i2 : Addr} (D : ZipApart z TI TO i1 i2 b b) (x : Str) (t : Tok) :
    Turn P w K (.Tuple elts kk tpos) (ItzST K x b) [z, TI, TO, i1, i2] z (fun i h => IsZip h z TI TO .none ∧ IsPair h TI (.ref i1) (.ref i2) ∧ (∃ x y, IsPair h TO x y) ∧ h.IsStrIter i1 (strIterType x) x t i ∧ h.IsTupleIter i2 b i) where
  mem := by simp
  obj := fun i h st c hc => by
    obtain ⟨hz, hTI, ⟨x, y, hTO⟩, ⟨o1, e1, _, d1⟩, ⟨o2, e2, _, d2⟩⟩ := st
    have e' : c = z ∨ c = TI ∨ c = TO ∨ c = i1 ∨ c = i2 := by simpa using hc
    rcases e' with q | q | q | q | q
    · rw [q]; exact ⟨_, hz, fun v q => nomatch q⟩
    · rw [q]; exact ⟨_, hTI, fun v q => nomatch q⟩
    · rw [q]; exact ⟨_, hTO, fun v q => nomatch q⟩
    · rw [q]; exact ⟨o1, e1, fun v q => by rw [d1] at q; cases q⟩
    · rw [q]; exact ⟨o2, e2, fun v q => by rw [d2] at q; cases q⟩
  keep := fun i h h' st k => by
    obtain ⟨hz, hTI, ⟨x, y, hTO⟩, ⟨o1, e1, r1⟩, h2⟩ := st
    exact ⟨k z (by simp) _ hz, k TI (by simp) _ hTI, ⟨x, y, k TO (by simp) _ hTO⟩, ⟨o1, k i1 (by simp) o1 e1, r1⟩, h2.at fun o q => k i2 (by simp) o q⟩
  item := by
    intro X hP hw hK hc i pins s σ H E I hf st hg
    subst hP hw hK
    obtain ⟨hz, hTI, ⟨x0, y0, hTO⟩, h1, h2⟩ := st
    obtain ⟨ys, y, hqy, hy, hlt⟩ := hg
    obtain ⟨its2, rv2, p2, _⟩ := I.tuple hqy
    obtain ⟨v, hv, rv'⟩ := rv2.get hy
    have hzl : z < s.heap.objs.size := Heap.lt_size hz
    have hlen2 : i < its2.toArray.size := by
      have := (List.getElem?_eq_some_iff.mp hv).1
      simpa using this
    have hh : X.A.in1.handled = none := I.ok.hd hc
    refine wpAny_pyNext_zipD2_item (sep_ST D) (Draws.text hh i1 x t) (Draws.tuple hh i2 b D.l2i2 its2.toArray) hz hTI hTO h1 ⟨h2, p2⟩ hlt hlen2 fun x1 x2 h' tk y1 y2 z' TO' st1' st2' hT hsz hk => ?_
    obtain ⟨c, u2, hcx, rfl⟩ := y1
    have y2 : its2.toArray[i]? = some x2 := y2
    have ex2 : x2 = v := by
      have : its2[i]? = some x2 := by simpa using y2
      rw [hv] at this
      cases this
      rfl
    subst ex2
    refine ⟨_, rfl, wpAny_letOwnedTupleGo_zip (s := { s with heap := h', toks := tk }) z' fun h'' z'' sb => ?_⟩
    have hT2 : h''.get? s.heap.objs.size = some { cls := .type "tuple", data := .seq #[.str ⟨#[c]⟩ u2, x2] } := (sb.2 _ (Nat.ne_of_gt hzl)).trans hT
    have new : ObjOk X.prog X.w (upd H s.heap.objs.size (.tup [.str ⟨#[c]⟩, y])) h'' s.heap.objs.size (.tup [.str ⟨#[c]⟩, y]) :=
      ⟨by show 2 ≤ sizeLine; decide, [.str ⟨#[c]⟩ u2, x2], .cons ⟨u2, rfl⟩ (.cons rv' .nil), ⟨_, hT2, rfl, _, rfl⟩⟩
    have I1 : Inv X pins σ (upd H s.heap.objs.size (.tup [.str ⟨#[c]⟩, y])) { s with heap := h'', toks := tk } :=
      I.turnedNew (t' := tk) (ch := [z, TI, TO, i1, i2]) (fun c o hb q => (sb.2 c (fun q' => hb (by simp [q']))).trans (hk c o (fun q' => hb (by simp [q'])) (fun q' => hb (by simp [q'])) (fun q' => hb (by simp [q'])) (fun q' => hb (by simp [q'])) q)) hf (Nat.le_refl _) new
    obtain ⟨o1, e1, r1⟩ := st1'
    obtain ⟨h2', _⟩ := st2'
    refine ⟨.ref s.heap.objs.size, _, I1, rfl, ⟨_, c, y, rfl, I.hok.fresh (Nat.le_refl _), rfl, hcx, fun l hl => by rw [I.tuple_inj hl hqy]; exact hy⟩, ⟨z'', ?_, ⟨.str ⟨#[c]⟩ u2, x2, ?_⟩, ?_, ?_⟩, fun c hcm => ?_⟩
    · exact (sb.2 _ D.TIz).trans (hk _ _ D.TIz D.TITO D.TIi1 D.TIi2 hTI)
    · exact (sb.2 _ D.TOz).trans TO'
    · exact ⟨o1, (sb.2 _ D.i1z).trans e1, r1⟩
    · exact h2'.at fun o q => (sb.2 _ D.i2z).trans q
    · have hlt : c < s.heap.objs.size := by
        have e' : c = z ∨ c = TI ∨ c = TO ∨ c = i1 ∨ c = i2 := by simpa using hcm
        rcases e' with q | q | q | q | q
        · rw [q]; exact hzl
        · rw [q]; exact Heap.lt_size hTI
        · rw [q]; exact Heap.lt_size hTO
        · rw [q]; obtain ⟨_, e1, _⟩ := h1; exact Heap.lt_size e1
        · rw [q]; obtain ⟨_, e2, _⟩ := h2; exact Heap.lt_size e2
      rw [upd_ne (Nat.ne_of_lt hlt)]
      exact (hf c hcm).1
  done := by
    intro X hP hw hK hc i pins s σ H E I hf st hg
    subst hP hw hK
    obtain ⟨hz, hTI, ⟨x0, y0, hTO⟩, h1, h2⟩ := st
    obtain ⟨ys, hqy, hend⟩ := hg
    obtain ⟨its2, rv2, p2, _⟩ := I.tuple hqy
    have l2 := rv2.length
    have hh : X.A.in1.handled = none := I.ok.hd hc
    have fin : ∀ (h' : Heap) (tk : Nat), (∀ c o, c ≠ z → c ≠ TO → c ≠ i1 → c ≠ i2 → s.heap.get? c = some o → h'.get? c = some o) → (none : Option Value) = none ∧ Inv X pins σ H { s with heap := h', toks := tk } := fun h' tk hk =>
      ⟨rfl, I.turnedL (t' := tk) (ch := [z, TI, TO, i1, i2]) (fun c o hb q => hk c o (fun q' => hb (by simp [q'])) (fun q' => hb (by simp [q'])) (fun q' => hb (by simp [q'])) (fun q' => hb (by simp [q'])) q) hf⟩
    by_cases ha : x.cps.size ≤ i
    · by_cases hb : its2.length ≤ i
      · have hy : its2.toArray[i]? = none := by simp; omega
        exact wpAny_pyNext_zipD2_end (sep_ST D) (draws_textEnd hh i1 x t (Array.getElem?_eq_none ha)) (draws_tupleEnd hh i2 b its2.toArray hy) hz hTI hTO ⟨rfl, h1⟩ ⟨rfl, h2, p2⟩ (Nat.le_refl _) (Nat.le_refl _) (.inl rfl) fin
      · exact wpAny_pyNext_zipD2_end (sep_ST D) (draws_textEnd hh i1 x t (Array.getElem?_eq_none ha)) (Draws.tuple hh i2 b D.l2i2 its2.toArray) hz hTI hTO ⟨rfl, h1⟩ ⟨h2, p2⟩ (Nat.le_refl _) (by simp; omega) (.inl rfl) fin
    · have hb : its2.length ≤ i := by omega
      have hy : its2.toArray[i]? = none := by simp; omega
      exact wpAny_pyNext_zipD2_end (sep_ST D) (Draws.text hh i1 x t) (draws_tupleEnd hh i2 b its2.toArray hy) hz hTI hTO h1 ⟨rfl, h2, p2⟩ (by omega) (Nat.le_refl _) (.inr rfl) fin
  self := fun A i s Q E st h => wpAny_pyIter_zip st.1 h
def iZipST (K : PySem.W.Frag) (ta : TA) : TI := fun σ H R => ta σ H fun vs H1 => ∃ x b ys, vs = [.str x, .ref b] ∧ SqT K H1 b ys ∧ R (ItzST K x b) H1
theorem pi_zipST {X : Cx} {e e2 : Expr} {ta : TA} {p pos tpos : Pos} {elts : List Expr} {kk : Nat} (hg : Gl X "zip") (hm : X.mg "zip" = none) (ha : PA X [e, e2] ta)
    (hs : starEach [e, e2] X.env = (false, eval e X.env) :: starEach [e2] X.env := by rfl) (hpl : (backTo pos (starEach [e2] X.env)).any (·.1) = false := by rfl) :
    PI X (.Tuple elts kk tpos) (.Call (.Name "zip" p) [e, e2] [] pos) (iZipST X.K ta) := by
  refine ⟨fun pins s σ H R I h => ?_⟩
  refine Call_ (ld_blt I hg hm PyProof.Rows.boot_zip (PyProof.Rows.callWith_type1 (thn (ha.run pos pins s σ H _ I h) fun us s1 ⟨vs, H1, I1, r1, q1⟩ => ?_) hs hpl))
  obtain ⟨x, b, ys, ex, hqy, q⟩ := q1
  subst ex
  cases r1 with
  | cons r rr =>
    cases rr with
    | cons r' rr =>
      cases rr
      cases r'
      obtain ⟨t, rfl⟩ := r
      obtain ⟨its2, rv2, p2, _⟩ := I1.tuple hqy
      obtain ⟨o2, ho2, _⟩ := id p2
      have lb : b < s1.heap.objs.size := Heap.lt_size ho2
      refine zip_begins2 (begins_text x t) (begins_tuple b its2.toArray) trivial p2 fun h' hz hTI hTO g1 g2 hsz hk => wpAny_pyIter_zip hz ?_
      have I2 : Inv X pins σ H1 { s1 with heap := h' } := I1.kept (t' := s1.toks) hk
      refine ⟨s1.heap.objs.size + 4, [s1.heap.objs.size + 4, s1.heap.objs.size + 2, s1.heap.objs.size + 3, s1.heap.objs.size, s1.heap.objs.size + 1], _, _, H1, rfl, I2, turn_zipST (PySem.W.ktu_apart s1.heap.objs.size b b lb lb) x t, ⟨hz, hTI, ⟨_, _, hTO⟩, ⟨_, g1, rfl, rfl⟩, ⟨_, g2, rfl, rfl⟩⟩, fun c hcm => ?_, q⟩
      have e' : c = s1.heap.objs.size + 4 ∨ c = s1.heap.objs.size + 2 ∨ c = s1.heap.objs.size + 3 ∨ c = s1.heap.objs.size ∨ c = s1.heap.objs.size + 1 := by simpa using hcm
      have hle : s1.heap.objs.size ≤ c := by
        rcases e' with z | z | z | z | z
        · rw [z]; exact Nat.le_add_right _ _
        · rw [z]; exact Nat.le_add_right _ _
        · rw [z]; exact Nat.le_add_right _ _
        · rw [z]; exact Nat.le_refl _
        · rw [z]; exact Nat.le_add_right _ _
      exact I1.fpOk hle (I1.hok.fresh hle)
end L2
namespace DL
open PySem PySem.Spec PyProof.Rows L2
def zipST : List D → Store → Res ItD := fun ds S => match ds with
  | [.str x, .tup ys] => .ok ⟨zipD (signsD x) ys, none⟩ S
  | _ => .stuck
def fZipST (fa : FA) : FI := fun ρ S => (fa ρ S).bind zipST
section
variable {X : Cx} {W : WX} {k : Nat} {pos p : Pos}
theorem ri_zipST {Z φ : List Addr} {S : Store} {H : Hp} {x : Str} {ys : List D} {b : Addr} (hy : Dat X.K X.mg φ (gnd Z φ S H) (.tup ys) (.ref b)) : RI X.K X.mg Z φ S H ⟨zipD (signsD x) ys, none⟩ (ItzST X.K x b) :=
  fun i Z' φ' S' H' hZ R hp hs ok => by
    obtain ⟨b', us, e2, g2, d2⟩ := dTup (Dat.mono hp hs _ _ hy)
    cases e2
    have s2 : SqT X.K H' b us := sqt_mono gnd_sub g2
    refine ⟨fun z hz => ?_, fun hl => ⟨us, s2, ?_⟩⟩
    · obtain ⟨sg, y, h1, h2, rfl⟩ := zipD_get hz
      obtain ⟨v, hv, dv⟩ := d2.get h2
      unfold signsD at h1
      rw [List.getElem?_map] at h1
      obtain ⟨c, hc, rfl⟩ := Option.map_eq_some_iff.mp h1
      have hc' : x.cps[i]? = some c := by rw [← Array.getElem?_toList]; exact hc
      have hlt : i < x.cps.size := (Array.getElem?_eq_some_iff.mp hc').1
      refine ⟨⟨us, v, s2, hv, hlt⟩, fun y' H'' yl => ?_⟩
      obtain ⟨T, c', y'', rfl, hT, rfl, q2, q1⟩ := yl
      have z2 := q1 us s2
      rw [hv] at z2
      cases z2
      rw [hc'] at q2
      cases q2
      exact dat_newT R (.cons (by unfold Dat; rfl) (.cons dv DatL.nil)) hT
    · have hl' : (List.zipWith (fun x y => D.tup [x, y]) (signsD x) ys).length ≤ i := hl
      rw [List.length_zipWith] at hl'
      rw [d2.length]
      simp only [signsD, List.length_map, Array.length_toList] at hl'
      omega
theorem di_zipST {e e2 : Expr} {fa : FA} {elts : List Expr} {kk : Nat} {tpos : Pos} (hg : Gl X "zip") (hm : X.mg "zip" = none) (ha : DA X W [e, e2] fa)
    (hs : starEach [e, e2] X.env = (false, eval e X.env) :: starEach [e2] X.env := by rfl) (hpl : (backTo pos (starEach [e2] X.env)).any (·.1) = false := by rfl) :
    DI X W (.Tuple elts kk tpos) (.Call (.Name "zip" p) [e, e2] [] pos) (fZipST fa) := by
  obtain ⟨t, pa, q⟩ := ha.ex
  refine .mk (pi_zipST hg hm pa hs hpl) fun Z φ S ρ σ H R R0 sl w => q Z φ S ρ σ H _ R0 sl (w.bind fun ds S1 vs φ1 H1 R1 E1 d w1 => ?_)
  unfold zipST at w1
  split at w1
  · rename_i x ys
    obtain ⟨u, v, rfl, h1, h2⟩ := datL2 d
    unfold Dat at h1
    subst h1
    obtain ⟨b, ws, rfl, g2, d2⟩ := dTup h2
    exact ⟨x, b, ws, rfl, sqt_mono gnd_sub g2, w1 _ _ _ R1 Evo.refl (ri_zipST h2)⟩
  · exact w1.elim
@[simp] theorem e_fZipST (fa : FA) (ρ : EnvD) (S : Store) : fZipST fa ρ S = (fa ρ S).bind zipST := rfl
end
end DL

/-! The data layer, part 103: for k in f(), a new dict, f called without arguments. -/
namespace DL
open PySem PySem.Spec PyProof.Rows L2
section
variable {X : Cx} {W : WX} {k k' : Nat} {f : Addr} {fd : FuncData} {ps ks : List Str} {sem : Sem'} {gD : List D → List D → List D} {x : Str} {kws : List Keyword} {fk : FA} {pos p : Pos} {tg : Expr}
theorem di_keysNew0 (F : FnG X.prog X.w X.K X.mg X.base k f fd ps (spD X.K X.mg ps.length sem)) (C : Cn X W k') (hg : Gl X x) (hm : X.mg x = some (.ref f)) (hk : PySem.W.keepIn X.K (.ref f) = true) (hb : KB X.K fd ps 0 ks gD)
    (hkw : DKw X W kws fk) (hle : k ≤ k' := by decide) (hall : (backToKw pos (keywordEach kws X.env)).all (·.1.isSome) = true := by rfl) (hks : (backToKw pos (keywordEach kws X.env)).filterMap (·.1) = ks := by rfl)
    (hdb : (x == ("__debug__" : Str)) = false := by decide) (hpl : ((backTo pos (starEach [] X.env)).any (·.1) || (backToKw pos (keywordEach kws X.env)).any (·.1.isNone)) = false := by rfl) :
    DI X W tg (.Call (.Name x p) [] kws pos) (fKeysNew sem gD 0 ks.length ps.length (fun _ S => .ok [] S) fk) := by
  obtain ⟨tk, pk, qk⟩ := hkw.ex
  obtain ⟨g, gV, hB, hN⟩ := hb.ex
  have pe : PE X (.Call (.Name x p) [] kws pos) (fun σ H Q => tk σ H fun zs H2 => zs.length = ks.length ∧ spD X.K X.mg ps.length sem (gV [] zs) H2 Q (WE W σ)) := by
    refine ⟨fun pins s σ H Q I h => ?_⟩
    refine wpAny_Call_Name_kw (ld_glob I hg hm ?_ hdb)
    refine PySem.W.callWith_KW0 (h₀ := X.base) I.ok.mod.kin hk hall ?_ hpl
    refine thn (pk.run pos pins s σ H _ I h) fun ws s2 ⟨zs, H2, I2, rz, l2, q2⟩ => ⟨I2.kIn, ?_⟩
    rw [hks]
    exact run_fnG (us := []) F C hle I2 (hB.to s2 [] ws I2.kIn rfl (rz.length.symm.trans l2)) (hB.rel .nil rz) q2
  refine .mk (pi_keysL pe) fun Z φ S ρ σ H Q R sl w => ?_
  unfold fKeysNew at w
  simp only [Res.bind_ok] at w
  refine qk Z φ S ρ σ H _ R sl (w.bind fun es' S2 zs φ2 H2 R2 E2 d2 w2 => ?_)
  obtain ⟨⟨c1, c2, c3⟩, w3⟩ := wantI_if w2
  have dd := hN X.K rfl X.mg φ2 _ [] es' [] zs DatL.nil d2
  exact ⟨by rw [d2.length, c2], keys_sp (by rw [dd.length, c3]) R2 dd w3⟩
end
end DL

/-! The data layer, part 104: d[k] //= a great divisor. -/
namespace DL
open PySem PySem.Spec PyProof.Rows L2
section
variable {X : Cx}
theorem inop_fdivW : InOp X .FloorDiv (rI CDivW fun i j => .int (i / j)) := fun pins s σ H x y u v Q I rx ry h => iop_fdivW pins s σ H x y u v Q I rx ry h
theorem opd_fdivW : OpD X (rI CDivW fun i j => .int (i / j)) gDivW := opd_I (fun i j h => by
    have h2 := @of_decide_eq_true _ (Classical.propDecidable _) h
    exact wide_div (b := 133) h2.1 (by have : (2 : Nat) ^ 133 = 10889035741470030830827987437816582766592 := by decide
                                       omega) (by decide) (by decide)) fun i j φ G => by unfold Dat; rfl
end
end DL

namespace K03
open PySem PySem.Spec PyProof.Rows L2 DL
/-! ### _law_begin -/
abbrev N_p_law_begin : List Str := ["_law_script"]
noncomputable def m_p_law_begin : FS := (gRet (fDisp (fPs (fC (.str "left")) (fC (.int 0)) (fPs (fC (.str "at")) (fC (.int 0)) (fPs (fC (.str "cells")) (fCB gList (fCons (fVar 0) (fun _ S => .ok [] S))) fPs0)))))
noncomputable def S_p_law_begin : Sem' := semOf 1 m_p_law_begin
/-! ### _law_more -/
abbrev N_p_law_more : List Str := ["_law_state", "_law_k", "_law_cells", "_law_cell", "_law_number", "_law_primes", "_law_at", "_law_prime", "_law_one"]
noncomputable def m_p_law_more : FS := (gSeq (gSet 1 (fBin gIx (fVar 0) (fC (.str "at")))) (gSeq (gPut (fVar 0) (fC (.str "at")) (fBin gAdd (fVar 1) (fC (.int 1)))) (gSeq (gSet 2 (fBin gIx (fVar 0) (fC (.str "cells")))) (gSeq (gSet 3 (fIf (toB (fBin gNe (fVar 2) (fLst (fun _ S => .ok [] S)))) (fCB gAbs (fCons (fBin gIx (fVar 2) (fBin gMod (fVar 1) (fCB gLen (fCons (fVar 2) (fun _ S => .ok [] S))))) (fun _ S => .ok [] S))) (fC (.int 0)))) (gSeq (gIf (fAndT (toB (fBin gLt (fVar 1) (fCB gLen (fCons (fVar 2) (fun _ S => .ok [] S))))) (toB (fBin gGe (fVar 3) (fBin gPow (fC (.int 10)) (fC (.int 18)))))) (gRet (fBin gSub (fVar 3) (fBin gPow (fC (.int 10)) (fC (.int 18))))) gNil) (gSeq (gSet 4 (fC (.int 1))) (gSeq (gSet 5 (fLst (fCons (fC (.int 2147483629)) (fCons (fC (.int 2147483587)) (fCons (fC (.int 2147483579)) (fCons (fC (.int 2147483563)) (fCons (fC (.int 2147483549)) (fCons (fC (.int 2147483543)) (fCons (fC (.int 2147483497)) (fCons (fC (.int 2147483489)) (fun _ S => .ok [] S))))))))))) (gSeq (gFor (fEnum (fCons (fVar 5) (fun _ S => .ok [] S))) (mTup 2 (mCons (mName 6) (mCons (mName 7) (fun ds ρ _ => match ds with | [] => some ρ | _ => none)))) (gSeq (gSet 8 (fBin gMod (fBin gAdd (fBin gAdd (fBin gMul (fBin gMod (fVar 3) (fVar 7)) (fC (.int 48271))) (fBin gMul (fC (.int 1103515245)) (fBin gAdd (fVar 1) (fC (.int 1))))) (fBin gMul (fBin gMul (fC (.int 40503)) (fVar 6)) (fVar 6))) (fVar 7))) (gSeq (gSet 8 (fBin gMod (fBin gAdd (fBin gAdd (fBin gMul (fVar 8) (fVar 8)) (fBin gMul (fC (.int 11)) (fVar 1))) (fVar 6)) (fVar 7))) (gSet 4 (fBin gAdd (fBin gMul (fVar 4) (fC (.int 2147483647))) (fBin gMod (fBin gMul (fVar 8) (fBin gAdd (fBin gAdd (fVar 8) (fVar 6)) (fC (.int 1)))) (fVar 7))))))) (gRet (fVar 4))))))))))
noncomputable def S_p_law_more : Sem' := semOf 9 m_p_law_more
/-! ### _law_next -/
abbrev N_p_law_next : List Str := ["_law_state", "_law_most", "_law_digit"]
noncomputable def m_p_law_next : FS := (gSeq (gIf (toB (fBin gEq (fBin gIx (fVar 0) (fC (.str "left"))) (fC (.int 0)))) (gPut (fVar 0) (fC (.str "left")) (fCall S_p_law_more (fun ds es => pick [(0, 0)] ds es []) 1 0 1 (fCons (fVar 0) (fun _ S => .ok [] S)) (fun _ S => .ok [] S))) gNil) (gSeq (gSet 2 (fBin gMod (fBin gIx (fVar 0) (fC (.str "left"))) (fVar 1))) (gSeq (gAugD gDivW (fVar 0) (fC (.str "left")) (fVar 1)) (gRet (fVar 2)))))
noncomputable def S_p_law_next : Sem' := semOf 3 m_p_law_next
/-! ### _law_forms@o -/
abbrev N_p_law_forms_o : List Str := ["_law_forms_here"]
noncomputable def m_p_law_forms_o : FS := (gSeq (gSet 0 (fDisp (fPs (fC (.str "number")) (fC (.str "bn")) (fPs (fC (.str "nothing")) (fC (.str "b")) (fPs (fC (.str "copy")) (fC (.str "bb")) (fPs (fC (.str "make")) (fC (.str "bm")) (fPs (fC (.str "last")) (fC (.str "bm")) (fPs (fC (.str "tie")) (fC (.str "bb")) (fPs (fC (.str "get")) (fC (.str "bbk")) fPs0))))))))) (gSeq (gExpr (fBM "dict" gUpd (fVar 0) (fCons (fDisp (fPs (fC (.str "put")) (fC (.str "bkb")) (fPs (fC (.str "follow")) (fC (.str "bb")) (fPs (fC (.str "wish")) (fC (.str "b")) (fPs (fC (.str "same")) (fC (.str "bbb")) (fPs (fC (.str "plus")) (fC (.str "bbb")) (fPs (fC (.str "less")) (fC (.str "bbb")) (fPs (fC (.str "what")) (fC (.str "bb")) fPs0)))))))) (fun _ S => .ok [] S)))) (gSeq (gExpr (fBM "dict" gUpd (fVar 0) (fCons (fDisp (fPs (fC (.str "lay")) (fC (.str "ib")) (fPs (fC (.str "take")) (fC (.str "bi")) (fPs (fC (.str "go")) (fC (.str "r")) (fPs (fC (.str "if")) (fC (.str "br")) (fPs (fC (.str "tell")) (fC (.str "b")) (fPs (fC (.str "stop")) (fC (.str "")) fPs0))))))) (fun _ S => .ok [] S)))) (gRet (fVar 0)))))
noncomputable def S_p_law_forms_o : Sem' := semOf 1 m_p_law_forms_o
/-! ### _law_words -/
abbrev N_p_law_words : List Str := ["_law_shared", "_law_word"]
noncomputable def m_p_law_words : FS := (gRet (fComp (fKeysNew S_p_law_forms_o (fun ds es => pick [] ds es []) 0 0 0 (fun _ S => .ok [] S) (fun _ S => .ok [] S)) (mName 1) (fOrT (toB (fBin gGt (fVar 0) (fC (.int 0)))) (toB (fBin gNotIn (fVar 1) (fTup (fCons (fC (.str "lay")) (fCons (fC (.str "take")) (fun _ S => .ok [] S))))))) (fVar 1) ([("_law_word", 1)].map (·.2)) finL))
noncomputable def S_p_law_words : Sem' := semOf 2 m_p_law_words
/-! ### _law_forms -/
abbrev N_p_law_forms : List Str := ["_law_forms_here"]
noncomputable def m_p_law_forms : FS := (gSeq (gSet 0 (fDisp (fPs (fC (.str "number")) (fC (.str "bn")) (fPs (fC (.str "nothing")) (fC (.str "b")) (fPs (fC (.str "copy")) (fC (.str "bb")) (fPs (fC (.str "make")) (fC (.str "bm")) (fPs (fC (.str "last")) (fC (.str "bm")) (fPs (fC (.str "tie")) (fC (.str "bb")) (fPs (fC (.str "get")) (fC (.str "bbk")) fPs0))))))))) (gSeq (gExpr (fBM "dict" gUpd (fVar 0) (fCons (fDisp (fPs (fC (.str "put")) (fC (.str "bkb")) (fPs (fC (.str "follow")) (fC (.str "bb")) (fPs (fC (.str "wish")) (fC (.str "b")) (fPs (fC (.str "same")) (fC (.str "bbb")) (fPs (fC (.str "plus")) (fC (.str "bbb")) (fPs (fC (.str "less")) (fC (.str "bbb")) (fPs (fC (.str "what")) (fC (.str "bb")) fPs0)))))))) (fun _ S => .ok [] S)))) (gSeq (gExpr (fBM "dict" gUpd (fVar 0) (fCons (fDisp (fPs (fC (.str "lay")) (fC (.str "ib")) (fPs (fC (.str "take")) (fC (.str "bi")) (fPs (fC (.str "go")) (fC (.str "r")) (fPs (fC (.str "if")) (fC (.str "br")) (fPs (fC (.str "tell")) (fC (.str "b")) (fPs (fC (.str "stop")) (fC (.str "")) fPs0))))))) (fun _ S => .ok [] S)))) (gRet (fFrz (fVar 0))))))
noncomputable def S_p_law_forms : Sem' := semOf 1 m_p_law_forms
/-! ### _law_bound -/
abbrev N_p_law_bound : List Str := ["_law_sign", "_law_wide", "_law_shared", "_law_many", "_law_tops"]
noncomputable def m_p_law_bound : FS := (gSeq (gSet 4 (fDisp (fPs (fC (.str "b")) (fBin gSub (fVar 1) (fC (.int 1))) (fPs (fC (.str "n")) (fBin gPow (fC (.int 10)) (fC (.int 9))) (fPs (fC (.str "m")) (fC (.int 6)) (fPs (fC (.str "k")) (fC (.int 5)) (fPs (fC (.str "i")) (fBin gSub (fVar 2) (fC (.int 1))) (fPs (fC (.str "r")) (fVar 3) fPs0)))))))) (gRet (fTup (fCons (fIf (toB (fBin gEq (fVar 0) (fC (.str "n")))) (fUn gNeg (fBin gPow (fC (.int 10)) (fC (.int 9)))) (fC (.int 0))) (fCons (fBin gIx (fVar 4) (fVar 0)) (fun _ S => .ok [] S))))))
noncomputable def S_p_law_bound : Sem' := semOf 5 m_p_law_bound
/-! ### _law_row -/
abbrev N_p_law_row : List Str := ["_law_state", "_law_word", "_law_wide", "_law_shared", "_law_many", "_law_row_here", "_law_sign", "_law_least", "_law_most"]
noncomputable def m_p_law_row : FS := (gSeq (gSet 5 (fLstO (fCons (fVar 1) (fun _ S => .ok [] S)))) (gSeq (gFor (fSigns (fBin gIx (fCall (callSub S_p_law_forms) (fun ds es => pick [] ds es []) 0 0 0 (fun _ S => .ok [] S) (fun _ S => .ok [] S)) (fVar 1))) (mName 6) (gSeq (gAsg (mTup 2 (mCons (mName 7) (mCons (mName 8) (fun ds ρ _ => match ds with | [] => some ρ | _ => none)))) (fCall (callSub S_p_law_bound) (fun ds es => pick [(0, 0), (0, 1), (0, 2), (0, 3)] ds es []) 4 0 4 (fCons (fVar 6) (fCons (fVar 2) (fCons (fVar 3) (fCons (fVar 4) (fun _ S => .ok [] S))))) (fun _ S => .ok [] S))) (gIf (toB (fBin gEq (fCall S_p_law_next (fun ds es => pick [(0, 0), (0, 1)] ds es []) 2 0 2 (fCons (fVar 0) (fCons (fC (.int 2)) (fun _ S => .ok [] S))) (fun _ S => .ok [] S)) (fC (.int 0)))) (gExpr (fBM "list" gApp (fVar 5) (fCons (fBin gAdd (fVar 7) (fCall S_p_law_next (fun ds es => pick [(0, 0), (0, 1)] ds es []) 2 0 2 (fCons (fVar 0) (fCons (fBin gAdd (fBin gSub (fVar 8) (fVar 7)) (fC (.int 1))) (fun _ S => .ok [] S))) (fun _ S => .ok [] S))) (fun _ S => .ok [] S)))) (gExpr (fBM "list" gApp (fVar 5) (fCons (fCall S_p_law_next (fun ds es => pick [(0, 0), (0, 1)] ds es []) 2 0 2 (fCons (fVar 0) (fCons (fCB gMin (fCons (fC (.int 4)) (fCons (fBin gAdd (fVar 8) (fC (.int 1))) (fun _ S => .ok [] S)))) (fun _ S => .ok [] S))) (fun _ S => .ok [] S)) (fun _ S => .ok [] S))))))) (gRet (fCB gTuple (fCons (fVar 5) (fun _ S => .ok [] S))))))
noncomputable def S_p_law_row : Sem' := semOf 9 m_p_law_row
/-! ### _law_pick -/
abbrev N_p_law_pick : List Str := ["_law_state", "_law_some"]
noncomputable def m_p_law_pick : FS := (gRet (fBin gIx (fVar 1) (fCall S_p_law_next (fun ds es => pick [(0, 0), (0, 1)] ds es []) 2 0 2 (fCons (fVar 0) (fCons (fCB gLen (fCons (fVar 1) (fun _ S => .ok [] S))) (fun _ S => .ok [] S))) (fun _ S => .ok [] S))))
noncomputable def S_p_law_pick : Sem' := semOf 2 m_p_law_pick
/-! ### _law_plan -/
abbrev N_p_law_plan : List Str := ["_law_state", "_law_wide", "_law_shared", "_law_plan_here", "_law_words_here", "_law_hand", "_law_many", "_law_at"]
noncomputable def m_p_law_plan : FS := (gSeq (gSet 3 (fLstO (fun _ S => .ok [] S))) (gSeq (gSet 4 (fCall (callSub S_p_law_words) (fun ds es => pick [(0, 0)] ds es []) 1 0 1 (fCons (fVar 2) (fun _ S => .ok [] S)) (fun _ S => .ok [] S))) (gSeq (gFor (fRng1 (fCons (fBin gAdd (fC (.int 1)) (fCall S_p_law_next (fun ds es => pick [(0, 0), (0, 1)] ds es []) 2 0 2 (fCons (fVar 0) (fCons (fC (.int 4)) (fun _ S => .ok [] S))) (fun _ S => .ok [] S))) (fun _ S => .ok [] S))) (mName 5) (gSeq (gSet 6 (fIf (toB (fBin gEq (fCall S_p_law_next (fun ds es => pick [(0, 0), (0, 1)] ds es []) 2 0 2 (fCons (fVar 0) (fCons (fC (.int 24)) (fun _ S => .ok [] S))) (fun _ S => .ok [] S)) (fC (.int 1)))) (fBin gAdd (fC (.int 60)) (fCall S_p_law_next (fun ds es => pick [(0, 0), (0, 1)] ds es []) 2 0 2 (fCons (fVar 0) (fCons (fC (.int 2)) (fun _ S => .ok [] S))) (fun _ S => .ok [] S))) (fCall S_p_law_next (fun ds es => pick [(0, 0), (0, 1)] ds es []) 2 0 2 (fCons (fVar 0) (fCons (fC (.int 13)) (fun _ S => .ok [] S))) (fun _ S => .ok [] S)))) (gExpr (fBM "list" gApp (fVar 3) (fCons (fComp (fRng1 (fCons (fVar 6) (fun _ S => .ok [] S))) (mName 7) fYes (fCall S_p_law_row (fun ds es => pick [(0, 0), (0, 1), (0, 2), (0, 3), (0, 4)] ds es []) 5 0 5 (fCons (fVar 0) (fCons (fCall S_p_law_pick (fun ds es => pick [(0, 0), (0, 1)] ds es []) 2 0 2 (fCons (fVar 0) (fCons (fVar 4) (fun _ S => .ok [] S))) (fun _ S => .ok [] S)) (fCons (fVar 1) (fCons (fVar 2) (fCons (fVar 6) (fun _ S => .ok [] S)))))) (fun _ S => .ok [] S)) ([("_law_at", 7)].map (·.2)) finO) (fun _ S => .ok [] S)))))) (gRet (fVar 3)))))
noncomputable def S_p_law_plan : Sem' := semOf 8 m_p_law_plan
/-! ### _law_whole -/
abbrev N_p_law_whole : List Str := ["_law_thing", "_law_least", "_law_most"]
noncomputable def m_p_law_whole : FS := (gRet (fAndV (fCB gIsi (fCons (fVar 0) (fCons (fC (.ty "int")) (fun _ S => .ok [] S)))) (fAndV (fNotV (fCB gIsi (fCons (fVar 0) (fCons (fC (.ty "bool")) (fun _ S => .ok [] S))))) (fChain gLe gLe (fVar 1) (fVar 0) (fVar 2)))))
noncomputable def S_p_law_whole : Sem' := semOf 3 m_p_law_whole
/-! ### _law_is_row -/
abbrev N_p_law_is_row : List Str := ["_law_row_here", "_law_wide", "_law_shared", "_law_many", "_law_form", "_law_sign", "_law_number", "_law_least", "_law_most"]
noncomputable def m_p_law_is_row : FS := (gSeq (gIf (fOrT (fNotT (toB (fCB gIsi (fCons (fVar 0) (fCons (fC (.ty "tuple")) (fun _ S => .ok [] S)))))) (fOrT (toB (fBin gEq (fVar 0) (fTup (fun _ S => .ok [] S)))) (fOrT (fNotT (toB (fCB gIsi (fCons (fBin gIx (fVar 0) (fC (.int 0))) (fCons (fC (.ty "str")) (fun _ S => .ok [] S)))))) (toB (fBin gNotIn (fBin gIx (fVar 0) (fC (.int 0))) (fCall (callSub S_p_law_forms) (fun ds es => pick [] ds es []) 0 0 0 (fun _ S => .ok [] S) (fun _ S => .ok [] S))))))) (gRet (fC (.bl false))) gNil) (gSeq (gSet 4 (fBin gIx (fCall (callSub S_p_law_forms) (fun ds es => pick [] ds es []) 0 0 0 (fun _ S => .ok [] S) (fun _ S => .ok [] S)) (fBin gIx (fVar 0) (fC (.int 0))))) (gSeq (gIf (toB (fBin gNe (fCB gLen (fCons (fVar 4) (fun _ S => .ok [] S))) (fBin gSub (fCB gLen (fCons (fVar 0) (fun _ S => .ok [] S))) (fC (.int 1))))) (gRet (fC (.bl false))) gNil) (gSeq (gFor (fZipST (fCons (fVar 4) (fCons (fSl (fVar 0) (fPart (fC (.int 1))) fPartN) (fun _ S => .ok [] S)))) (mTup 2 (mCons (mName 5) (mCons (mName 6) (fun ds ρ _ => match ds with | [] => some ρ | _ => none)))) (gSeq (gAsg (mTup 2 (mCons (mName 7) (mCons (mName 8) (fun ds ρ _ => match ds with | [] => some ρ | _ => none)))) (fCall (callSub S_p_law_bound) (fun ds es => pick [(0, 0), (0, 1), (0, 2), (0, 3)] ds es []) 4 0 4 (fCons (fVar 5) (fCons (fVar 1) (fCons (fVar 2) (fCons (fVar 3) (fun _ S => .ok [] S))))) (fun _ S => .ok [] S))) (gIf (fNotT (toB (fCall (callSub S_p_law_whole) (fun ds es => pick [(0, 0), (0, 1), (0, 2)] ds es []) 3 0 3 (fCons (fVar 6) (fCons (fVar 7) (fCons (fVar 8) (fun _ S => .ok [] S)))) (fun _ S => .ok [] S)))) (gRet (fC (.bl false))) gNil))) (gRet (fC (.bl true)))))))
noncomputable def S_p_law_is_row : Sem' := semOf 9 m_p_law_is_row
/-! ### _law_odd -/
abbrev N_p_law_odd : List Str := ["_law_state", "_law_row_here", "_law_wide", "_law_shared", "_law_many", "_law_way", "_law_at", "_law_least", "_law_most", "_law_odd_here", "_law_word"]
noncomputable def m_p_law_odd : FS := (gSeq (gSet 5 (fCall S_p_law_next (fun ds es => pick [(0, 0), (0, 1)] ds es []) 2 0 2 (fCons (fVar 0) (fCons (fC (.int 8)) (fun _ S => .ok [] S))) (fun _ S => .ok [] S))) (gSeq (gSet 6 (fBin gAdd (fC (.int 1)) (fCall S_p_law_next (fun ds es => pick [(0, 0), (0, 1)] ds es []) 2 0 2 (fCons (fVar 0) (fCons (fCB gMax (fCons (fC (.int 1)) (fCons (fBin gSub (fCB gLen (fCons (fVar 1) (fun _ S => .ok [] S))) (fC (.int 1))) (fun _ S => .ok [] S)))) (fun _ S => .ok [] S))) (fun _ S => .ok [] S)))) (gSeq (gIf (toB (fBin gEq (fVar 5) (fC (.int 0)))) (gRet (fCall S_p_law_pick (fun ds es => pick [(0, 0), (0, 1)] ds es []) 2 0 2 (fCons (fVar 0) (fCons (fLst (fCons (fTup (fun _ S => .ok [] S)) (fCons (fC .non) (fCons (fC (.str "stop")) (fCons (fC (.int 5)) (fCons (fLst (fCons (fC (.str "stop")) (fun _ S => .ok [] S))) (fCons (fCB gList (fCons (fVar 1) (fun _ S => .ok [] S))) (fCons (fTup (fCons (fC .non) (fun _ S => .ok [] S))) (fCons (fTup (fCons (fLst (fCons (fC (.str "stop")) (fun _ S => .ok [] S))) (fun _ S => .ok [] S))) (fCons (fTup (fCons (fC (.str "Stop")) (fun _ S => .ok [] S))) (fCons (fTup (fCons (fC (.bl true)) (fCons (fC (.int 0)) (fun _ S => .ok [] S)))) (fun _ S => .ok [] S)))))))))))) (fun _ S => .ok [] S))) (fun _ S => .ok [] S))) gNil) (gSeq (gIf (toB (fBin gEq (fVar 5) (fC (.int 1)))) (gRet (fBin gAdd (fVar 1) (fTup (fCons (fC (.int 0)) (fun _ S => .ok [] S))))) gNil) (gSeq (gIf (fOrT (toB (fBin gEq (fVar 5) (fC (.int 2)))) (toB (fBin gEq (fCB gLen (fCons (fVar 1) (fun _ S => .ok [] S))) (fC (.int 1))))) (gRet (fSl (fVar 1) fPartN (fPart (fUn gNeg (fC (.int 1)))))) gNil) (gSeq (gIf (toB (fBin gEq (fVar 5) (fC (.int 3)))) (gRet (fBin gAdd (fTup (fCons (fCall S_p_law_pick (fun ds es => pick [(0, 0), (0, 1)] ds es []) 2 0 2 (fCons (fVar 0) (fCons (fComp (fKeysNew S_p_law_forms_o (fun ds es => pick [] ds es []) 0 0 0 (fun _ S => .ok [] S) (fun _ S => .ok [] S)) (mName 10) fYes (fVar 10) ([("_law_word", 10)].map (·.2)) finL) (fun _ S => .ok [] S))) (fun _ S => .ok [] S)) (fun _ S => .ok [] S))) (fSl (fVar 1) (fPart (fC (.int 1))) fPartN))) gNil) (gSeq (gAsg (mTup 2 (mCons (mName 7) (mCons (mName 8) (fun ds ρ _ => match ds with | [] => some ρ | _ => none)))) (fCall (callSub S_p_law_bound) (fun ds es => pick [(0, 0), (0, 1), (0, 2), (0, 3)] ds es []) 4 0 4 (fCons (fBin gIx (fBin gIx (fCall (callSub S_p_law_forms) (fun ds es => pick [] ds es []) 0 0 0 (fun _ S => .ok [] S) (fun _ S => .ok [] S)) (fBin gIx (fVar 1) (fC (.int 0)))) (fBin gSub (fVar 6) (fC (.int 1)))) (fCons (fVar 2) (fCons (fVar 3) (fCons (fVar 4) (fun _ S => .ok [] S))))) (fun _ S => .ok [] S))) (gSeq (gSet 9 (fCall S_p_law_pick (fun ds es => pick [(0, 0), (0, 1)] ds es []) 2 0 2 (fCons (fVar 0) (fCons (fLst (fCons (fBin gSub (fVar 7) (fC (.int 1))) (fCons (fBin gAdd (fVar 8) (fC (.int 1))) (fCons (fVar 7) (fCons (fVar 8) (fCons (fC (.bl true)) (fCons (fC (.bl false)) (fCons (fC .non) (fCons (fC (.str "0")) (fCons (fTup (fCons (fC (.int 0)) (fun _ S => .ok [] S))) (fCons (fBin gAdd (fVar 8) (fC (.int 7))) (fun _ S => .ok [] S)))))))))))) (fun _ S => .ok [] S))) (fun _ S => .ok [] S))) (gRet (fBin gAdd (fBin gAdd (fSl (fVar 1) fPartN (fPart (fVar 6))) (fTup (fCons (fVar 9) (fun _ S => .ok [] S)))) (fSl (fVar 1) (fPart (fBin gAdd (fVar 6) (fC (.int 1)))) fPartN)))))))))))
noncomputable def S_p_law_odd : Sem' := semOf 11 m_p_law_odd
/-! ### _law_spoilt -/
abbrev N_p_law_spoilt : List Str := ["_law_state", "_law_plan_here", "_law_wide", "_law_shared", "_law_hand", "_law_rows", "_law_at"]
noncomputable def m_p_law_spoilt : FS := (gSeq (gSet 4 (fCall S_p_law_next (fun ds es => pick [(0, 0), (0, 1)] ds es []) 2 0 2 (fCons (fVar 0) (fCons (fCB gLen (fCons (fVar 1) (fun _ S => .ok [] S))) (fun _ S => .ok [] S))) (fun _ S => .ok [] S))) (gSeq (gSet 5 (fBin gIx (fVar 1) (fVar 4))) (gSeq (gIf (toB (fBin gEqN (fVar 5) (fLst (fun _ S => .ok [] S)))) (gRet (fVar 1)) gNil) (gSeq (gSet 6 (fCall S_p_law_next (fun ds es => pick [(0, 0), (0, 1)] ds es []) 2 0 2 (fCons (fVar 0) (fCons (fCB gLen (fCons (fVar 5) (fun _ S => .ok [] S))) (fun _ S => .ok [] S))) (fun _ S => .ok [] S))) (gSeq (gIf (fNotT (toB (fCall (callSub S_p_law_is_row) (fun ds es => pick [(0, 0), (0, 1), (0, 2), (0, 3)] ds es []) 4 0 4 (fCons (fBin gIx (fVar 5) (fVar 6)) (fCons (fVar 2) (fCons (fVar 3) (fCons (fCB gLen (fCons (fVar 5) (fun _ S => .ok [] S))) (fun _ S => .ok [] S))))) (fun _ S => .ok [] S)))) (gRet (fVar 1)) gNil) (gSeq (gPut (fVar 5) (fVar 6) (fCall S_p_law_odd (fun ds es => pick [(0, 0), (0, 1), (0, 2), (0, 3), (0, 4)] ds es []) 5 0 5 (fCons (fVar 0) (fCons (fBin gIx (fVar 5) (fVar 6)) (fCons (fVar 2) (fCons (fVar 3) (fCons (fCB gLen (fCons (fVar 5) (fun _ S => .ok [] S))) (fun _ S => .ok [] S)))))) (fun _ S => .ok [] S))) (gRet (fVar 1))))))))
noncomputable def S_p_law_spoilt : Sem' := semOf 7 m_p_law_spoilt
/-! ### _law_first_bad -/
abbrev N_p_law_first_bad : List Str := ["_law_plan_here", "_law_wide", "_law_shared", "_law_hand", "_law_rows", "_law_at", "_law_row_here"]
noncomputable def m_p_law_first_bad : FS := (gSeq (gIf (fOrT (fNotT (toB (fCall (callSub S_p_law_whole) (fun ds es => pick [(0, 0), (0, 1), (0, 2)] ds es []) 3 0 3 (fCons (fVar 1) (fCons (fC (.int 1)) (fCons (fC (.int 6)) (fun _ S => .ok [] S)))) (fun _ S => .ok [] S)))) (fNotT (toB (fCall (callSub S_p_law_whole) (fun ds es => pick [(0, 0), (0, 1), (0, 2)] ds es []) 3 0 3 (fCons (fVar 2) (fCons (fC (.int 0)) (fCons (fC (.int 6)) (fun _ S => .ok [] S)))) (fun _ S => .ok [] S))))) (gRet (fTup (fCons (fUn gNeg (fC (.int 1))) (fCons (fUn gNeg (fC (.int 1))) (fun _ S => .ok [] S))))) gNil) (gSeq (gIf (fOrT (fNotT (toB (fCB gIsi (fCons (fVar 0) (fCons (fTup (fCons (fC (.ty "list")) (fCons (fC (.ty "tuple")) (fun _ S => .ok [] S)))) (fun _ S => .ok [] S)))))) (fNotT (toB (fChain gLe gLe (fC (.int 1)) (fCB gLen (fCons (fVar 0) (fun _ S => .ok [] S))) (fC (.int 4)))))) (gRet (fTup (fCons (fUn gNeg (fC (.int 1))) (fCons (fUn gNeg (fC (.int 1))) (fun _ S => .ok [] S))))) gNil) (gSeq (gIf (toB (fBin gNe (fComp (fSeq (fVar 0)) (mName 4) (fOrT (fNotT (toB (fCB gIsi (fCons (fVar 4) (fCons (fTup (fCons (fC (.ty "list")) (fCons (fC (.ty "tuple")) (fun _ S => .ok [] S)))) (fun _ S => .ok [] S)))))) (toB (fBin gGt (fCB gLen (fCons (fVar 4) (fun _ S => .ok [] S))) (fC (.int 60))))) (fVar 4) ([("_law_rows", 4)].map (·.2)) finL) (fLst (fun _ S => .ok [] S)))) (gRet (fTup (fCons (fUn gNeg (fC (.int 1))) (fCons (fUn gNeg (fC (.int 1))) (fun _ S => .ok [] S))))) gNil) (gSeq (gFor (fEnum (fCons (fVar 0) (fun _ S => .ok [] S))) (mTup 2 (mCons (mName 3) (mCons (mName 4) (fun ds ρ _ => match ds with | [] => some ρ | _ => none)))) (gFor (fEnum (fCons (fVar 4) (fun _ S => .ok [] S))) (mTup 2 (mCons (mName 5) (mCons (mName 6) (fun ds ρ _ => match ds with | [] => some ρ | _ => none)))) (gIf (fNotT (toB (fCall (callSub S_p_law_is_row) (fun ds es => pick [(0, 0), (0, 1), (0, 2), (0, 3)] ds es []) 4 0 4 (fCons (fVar 6) (fCons (fVar 1) (fCons (fVar 2) (fCons (fCB gLen (fCons (fVar 4) (fun _ S => .ok [] S))) (fun _ S => .ok [] S))))) (fun _ S => .ok [] S)))) (gRet (fTup (fCons (fVar 3) (fCons (fVar 5) (fun _ S => .ok [] S))))) gNil))) (gRet (fC .non))))))
noncomputable def S_p_law_first_bad : Sem' := semOf 7 m_p_law_first_bad
/-! ### is_whole -/
abbrev N_is_whole : List Str := ["thing", "least", "most"]
noncomputable def m_is_whole : FS := (gRet (fAndV (fCB gIsi (fCons (fVar 0) (fCons (fC (.ty "int")) (fun _ S => .ok [] S)))) (fAndV (fNotV (fCB gIsi (fCons (fVar 0) (fCons (fC (.ty "bool")) (fun _ S => .ok [] S))))) (fChain gLe gLe (fVar 1) (fVar 0) (fVar 2)))))
noncomputable def S_is_whole : Sem' := semOf 3 m_is_whole
/-! ### BadProgram.init -/
abbrev N_BadProgram_init : List Str := ["self", "hand", "row"]
/-! ### is_row -/
abbrev N_is_row : List Str := ["thing"]
noncomputable def m_is_row : FS := (gRet (fCB gIsi (fCons (fVar 0) (fCons (fTup (fCons (fC (.ty "list")) (fCons (fC (.ty "tuple")) (fun _ S => .ok [] S)))) (fun _ S => .ok [] S)))))
noncomputable def S_is_row : Sem' := semOf 1 m_is_row
/-! ### bounds_of -/
abbrev N_bounds_of : List Str := ["boxes", "board", "many"]
noncomputable def m_bounds_of : FS := (gRet (fFrz (fDisp (fPs (fC (.str "b")) (fTup (fCons (fC (.int 0)) (fCons (fBin gSub (fVar 0) (fC (.int 1))) (fun _ S => .ok [] S)))) (fPs (fC (.str "n")) (fTup (fCons (fUn gNeg (fC (.int (1000000000)))) (fCons (fC (.int (1000000000))) (fun _ S => .ok [] S)))) (fPs (fC (.str "m")) (fTup (fCons (fC (.int 0)) (fCons (fC (.int (6))) (fun _ S => .ok [] S)))) (fPs (fC (.str "k")) (fTup (fCons (fC (.int 0)) (fCons (fBin gSub (fC (.int (6))) (fC (.int 1))) (fun _ S => .ok [] S)))) (fPs (fC (.str "i")) (fTup (fCons (fC (.int 0)) (fCons (fBin gSub (fVar 1) (fC (.int 1))) (fun _ S => .ok [] S)))) (fPs (fC (.str "r")) (fTup (fCons (fC (.int 0)) (fCons (fVar 2) (fun _ S => .ok [] S)))) fPs0)))))))))
noncomputable def S_bounds_of : Sem' := semOf 3 m_bounds_of
/-! ### fits_row -/
abbrev N_fits_row : List Str := ["thing", "bounds", "word", "rest", "one", "sign", "least", "most"]
noncomputable def m_fits_row : FS := (gSeq (gIf (fOrT (fNotT (toB (fCB gIsi (fCons (fVar 0) (fCons (fC (.ty "tuple")) (fun _ S => .ok [] S)))))) (toB (fBin gEq (fVar 0) (fTup (fun _ S => .ok [] S))))) (gRet (fC (.bl false))) gNil) (gSeq (gStarTup 2 3 (fVar 0)) (gSeq (gIf (fOrT (fNotT (toB (fCB gIsi (fCons (fVar 2) (fCons (fC (.ty "str")) (fun _ S => .ok [] S)))))) (fOrT (toB (fBin (gInK true "FORMS" tk_FORMS) (fVar 2) (fC (.cls "FORMS")))) (toB (fBin gNe (fCB gLen (fCons (fBin (gIxK "FORMS" tk_FORMS) (fC (.cls "FORMS")) (fVar 2)) (fun _ S => .ok [] S))) (fCB gLen (fCons (fVar 3) (fun _ S => .ok [] S))))))) (gRet (fC (.bl false))) gNil) (gSeq (gFor (fZipS (fCons (fVar 3) (fCons (fBin (gIxK "FORMS" tk_FORMS) (fC (.cls "FORMS")) (fVar 2)) (fun _ S => .ok [] S)))) (mTup 2 (mCons (mName 4) (mCons (mName 5) (fun ds ρ _ => match ds with | [] => some ρ | _ => none)))) (gSeq (gAsg (mTup 2 (mCons (mName 6) (mCons (mName 7) (fun ds ρ _ => match ds with | [] => some ρ | _ => none)))) (fBin gIx (fVar 1) (fVar 5))) (gIf (fNotT (toB (fCall (callSub S_is_whole) (fun ds es => pick [(0, 0), (0, 1), (0, 2)] ds es []) 3 0 3 (fCons (fVar 4) (fCons (fVar 6) (fCons (fVar 7) (fun _ S => .ok [] S)))) (fun _ S => .ok [] S)))) (gRet (fC (.bl false))) gNil))) (gRet (fC (.bl true)))))))
noncomputable def S_fits_row : Sem' := semOf 8 m_fits_row
/-! ### Program.init -/
abbrev N_Program_init : List Str := ["self", "hands", "boxes", "board", "hand", "rows", "bounds", "at", "row"]
noncomputable def m_Program_init : FS := (gSeq (gIf (fOrT (fNotT (toB (fCall (callSub S_is_whole) (fun ds es => pick [(0, 0), (0, 1), (0, 2)] ds es []) 3 0 3 (fCons (fVar 2) (fCons (fC (.int 1)) (fCons (fC (.int (6))) (fun _ S => .ok [] S)))) (fun _ S => .ok [] S)))) (fNotT (toB (fCall (callSub S_is_whole) (fun ds es => pick [(0, 0), (0, 1), (0, 2)] ds es []) 3 0 3 (fCons (fVar 3) (fCons (fC (.int 0)) (fCons (fC (.int (6))) (fun _ S => .ok [] S)))) (fun _ S => .ok [] S))))) (gRaiX "BadProgram" ["hand", "row"] (fCons (fUn gNeg (fC (.int 1))) (fCons (fUn gNeg (fC (.int 1))) (fun _ S => .ok [] S)))) gNil) (gSeq (gIf (fOrT (fNotT (toB (fCall S_is_row (fun ds es => pick [(0, 0)] ds es []) 1 0 1 (fCons (fVar 1) (fun _ S => .ok [] S)) (fun _ S => .ok [] S)))) (fNotT (toB (fChain gLe gLe (fC (.int 1)) (fCB gLen (fCons (fVar 1) (fun _ S => .ok [] S))) (fC (.int (4))))))) (gRaiX "BadProgram" ["hand", "row"] (fCons (fUn gNeg (fC (.int 1))) (fCons (fUn gNeg (fC (.int 1))) (fun _ S => .ok [] S)))) gNil) (gSeq (gIf (fNotT (toB (fCB (gAllAny true) (fCons (fComp (fSeq (fVar 1)) (mName 5) fYes (fAndV (fCall S_is_row (fun ds es => pick [(0, 0)] ds es []) 1 0 1 (fCons (fVar 5) (fun _ S => .ok [] S)) (fun _ S => .ok [] S)) (fBin gLe (fCB gLen (fCons (fVar 5) (fun _ S => .ok [] S))) (fC (.int (60))))) ([("rows", 5)].map (·.2)) finL) (fun _ S => .ok [] S))))) (gRaiX "BadProgram" ["hand", "row"] (fCons (fUn gNeg (fC (.int 1))) (fCons (fUn gNeg (fC (.int 1))) (fun _ S => .ok [] S)))) gNil) (gSeq (gFor (fEnumQ (fCons (fVar 1) (fun _ S => .ok [] S))) (mTup 2 (mCons (mName 4) (mCons (mName 5) (fun ds ρ _ => match ds with | [] => some ρ | _ => none)))) (gSeq (gSet 6 (fCall (callSub S_bounds_of) (fun ds es => pick [(0, 0), (0, 1), (0, 2)] ds es []) 3 0 3 (fCons (fVar 2) (fCons (fVar 3) (fCons (fCB gLen (fCons (fVar 5) (fun _ S => .ok [] S))) (fun _ S => .ok [] S)))) (fun _ S => .ok [] S))) (gFor (fEnumQ (fCons (fVar 5) (fun _ S => .ok [] S))) (mTup 2 (mCons (mName 7) (mCons (mName 8) (fun ds ρ _ => match ds with | [] => some ρ | _ => none)))) (gIf (fNotT (toB (fCall (callSub S_fits_row) (fun ds es => pick [(0, 0), (0, 1)] ds es []) 2 0 2 (fCons (fVar 8) (fCons (fVar 6) (fun _ S => .ok [] S))) (fun _ S => .ok [] S)))) (gRaiX "BadProgram" ["hand", "row"] (fCons (fVar 4) (fCons (fVar 7) (fun _ S => .ok [] S)))) gNil)))) (gSeq (gFld ["Program"] "plan" (fVar 0) (fComp (fSeq (fVar 1)) (mName 5) fYes (fCB gList (fCons (fVar 5) (fun _ S => .ok [] S))) ([("rows", 5)].map (·.2)) finL)) (gFld2 ["Program"] "wide" "shared" (fVar 0) (fVar 0) (fTup (fCons (fVar 2) (fCons (fVar 3) (fun _ S => .ok [] S))))))))))
noncomputable def S_Program_init : Sem' := semOf 9 m_Program_init
/-! ### _law_made -/
abbrev N_p_law_made : List Str := ["_law_plan_here", "_law_wide", "_law_shared", "_law_caught", "_law_made_here", "e"]
noncomputable def m_p_law_made : FS := (gSeq (gSet 3 (fC .non)) (gSeq (gSet 4 (fC .non)) (gSeq (gTry (gSet 4 (fFrzD 60 (fMake (makeO S_Program_init (fun ds es => pick [(0, 0), (0, 1), (1, 1), (1, 0)] ds es []) "Program" 4) 1 2 (fCons (fVar 0) (fun _ S => .ok [] S)) (fCons (fVar 2) (fCons (fVar 1) (fun _ S => .ok [] S)))))) (⟨tb_YardError, some 5, (gSet 3 (fVar 5))⟩ :: [])) (gSeq (gIf (toB (fBin gIs (fVar 3) (fC .non))) (gRet (fTup (fCons (fVar 4) (fCons (fC .non) (fun _ S => .ok [] S))))) gNil) (gSeq (gIf (fOrT (fNotT (toB (fCB (gIsF tb_BadProgram (.cls "BadProgram")) (fCons (fVar 3) (fCons (fC (.cls "BadProgram")) (fun _ S => .ok [] S)))))) (fNotT (toB (fCB (gIsF tb_ValueError (.ty "ValueError")) (fCons (fVar 3) (fCons (fC (.ty "ValueError")) (fun _ S => .ok [] S))))))) (gRet (fTup (fCons (fC .non) (fCons (fC (.str "other")) (fun _ S => .ok [] S))))) gNil) (gRet (fTup (fCons (fC .non) (fCons (fTup (fCons (fFldX ["BadProgram"] "hand" (fVar 3)) (fCons (fFldX ["BadProgram"] "row" (fVar 3)) (fun _ S => .ok [] S)))) (fun _ S => .ok [] S))))))))))
noncomputable def S_p_law_made : Sem' := semOf 6 m_p_law_made
/-! ### _law_alike@r5 -/
abbrev N_p_law_alike_r5 : List Str := ["_law_found", "_law_due", "_law_one", "_law_other"]
noncomputable def m_p_law_alike_r5 : FS := (gSeq (gIf (toB (fCB gIsi (fCons (fVar 1) (fCons (fTup (fCons (fC (.ty "list")) (fCons (fC (.ty "tuple")) (fun _ S => .ok [] S)))) (fun _ S => .ok [] S))))) (gSeq (gIf (fOrT (toB (fBin gNe (fCB gIsi (fCons (fVar 0) (fCons (fC (.ty "list")) (fun _ S => .ok [] S)))) (fCB gIsi (fCons (fVar 1) (fCons (fC (.ty "list")) (fun _ S => .ok [] S)))))) (toB (fBin gNe (fCB gIsi (fCons (fVar 0) (fCons (fC (.ty "tuple")) (fun _ S => .ok [] S)))) (fCB gIsi (fCons (fVar 1) (fCons (fC (.ty "tuple")) (fun _ S => .ok [] S))))))) (gRet (fC (.bl false))) gNil) (gRet (fAndV (fBin gEq (fCB gLen (fCons (fVar 0) (fun _ S => .ok [] S))) (fCB gLen (fCons (fVar 1) (fun _ S => .ok [] S)))) (fCB (gAllAny true) (fCons (fComp (fZipA (fCons (fVar 0) (fCons (fVar 1) (fun _ S => .ok [] S)))) (mTup 2 (mCons (mName 2) (mCons (mName 3) (fun ds ρ _ => match ds with | [] => some ρ | _ => none)))) fYes (fun _ _ => .stuck) ([("_law_one", 2), ("_law_other", 3)].map (·.2)) finL) (fun _ S => .ok [] S)))))) gNil) (gSeq (gIf (fOrT (toB (fBin gIs (fVar 1) (fC .non))) (toB (fCB gIsi (fCons (fVar 1) (fCons (fC (.ty "bool")) (fun _ S => .ok [] S)))))) (gRet (fIf (toB (fBin gIs (fVar 1) (fC .non))) (fBin gIs (fVar 0) (fC .non)) (fAndV (fCB gIsi (fCons (fVar 0) (fCons (fC (.ty "bool")) (fun _ S => .ok [] S)))) (fBin gEq (fVar 0) (fVar 1))))) gNil) (gSeq (gIf (toB (fCB gIsi (fCons (fVar 1) (fCons (fC (.ty "int")) (fun _ S => .ok [] S))))) (gRet (fAndV (fCB gIsi (fCons (fVar 0) (fCons (fC (.ty "int")) (fun _ S => .ok [] S)))) (fAndV (fNotV (fCB gIsi (fCons (fVar 0) (fCons (fC (.ty "bool")) (fun _ S => .ok [] S))))) (fBin gEq (fVar 0) (fVar 1))))) gNil) (gRet (fAndV (fCB gIsi (fCons (fVar 0) (fCons (fC (.ty "str")) (fun _ S => .ok [] S)))) (fBin gEq (fVar 0) (fVar 1)))))))
noncomputable def S_p_law_alike_r5 : Sem' := semOf 4 m_p_law_alike_r5
/-! ### _law_alike@r4 -/
abbrev N_p_law_alike_r4 : List Str := ["_law_found", "_law_due", "_law_one", "_law_other"]
noncomputable def m_p_law_alike_r4 : FS := (gSeq (gIf (toB (fCB gIsi (fCons (fVar 1) (fCons (fTup (fCons (fC (.ty "list")) (fCons (fC (.ty "tuple")) (fun _ S => .ok [] S)))) (fun _ S => .ok [] S))))) (gSeq (gIf (fOrT (toB (fBin gNe (fCB gIsi (fCons (fVar 0) (fCons (fC (.ty "list")) (fun _ S => .ok [] S)))) (fCB gIsi (fCons (fVar 1) (fCons (fC (.ty "list")) (fun _ S => .ok [] S)))))) (toB (fBin gNe (fCB gIsi (fCons (fVar 0) (fCons (fC (.ty "tuple")) (fun _ S => .ok [] S)))) (fCB gIsi (fCons (fVar 1) (fCons (fC (.ty "tuple")) (fun _ S => .ok [] S))))))) (gRet (fC (.bl false))) gNil) (gRet (fAndV (fBin gEq (fCB gLen (fCons (fVar 0) (fun _ S => .ok [] S))) (fCB gLen (fCons (fVar 1) (fun _ S => .ok [] S)))) (fCB (gAllAny true) (fCons (fComp (fZipA (fCons (fVar 0) (fCons (fVar 1) (fun _ S => .ok [] S)))) (mTup 2 (mCons (mName 2) (mCons (mName 3) (fun ds ρ _ => match ds with | [] => some ρ | _ => none)))) fYes (fCall S_p_law_alike_r5 (fun ds es => pick [(0, 0), (0, 1)] ds es []) 2 0 2 (fCons (fVar 2) (fCons (fVar 3) (fun _ S => .ok [] S))) (fun _ S => .ok [] S)) ([("_law_one", 2), ("_law_other", 3)].map (·.2)) finL) (fun _ S => .ok [] S)))))) gNil) (gSeq (gIf (fOrT (toB (fBin gIs (fVar 1) (fC .non))) (toB (fCB gIsi (fCons (fVar 1) (fCons (fC (.ty "bool")) (fun _ S => .ok [] S)))))) (gRet (fIf (toB (fBin gIs (fVar 1) (fC .non))) (fBin gIs (fVar 0) (fC .non)) (fAndV (fCB gIsi (fCons (fVar 0) (fCons (fC (.ty "bool")) (fun _ S => .ok [] S)))) (fBin gEq (fVar 0) (fVar 1))))) gNil) (gSeq (gIf (toB (fCB gIsi (fCons (fVar 1) (fCons (fC (.ty "int")) (fun _ S => .ok [] S))))) (gRet (fAndV (fCB gIsi (fCons (fVar 0) (fCons (fC (.ty "int")) (fun _ S => .ok [] S)))) (fAndV (fNotV (fCB gIsi (fCons (fVar 0) (fCons (fC (.ty "bool")) (fun _ S => .ok [] S))))) (fBin gEq (fVar 0) (fVar 1))))) gNil) (gRet (fAndV (fCB gIsi (fCons (fVar 0) (fCons (fC (.ty "str")) (fun _ S => .ok [] S)))) (fBin gEq (fVar 0) (fVar 1)))))))
noncomputable def S_p_law_alike_r4 : Sem' := semOf 4 m_p_law_alike_r4
/-! ### _law_alike@r3 -/
abbrev N_p_law_alike_r3 : List Str := ["_law_found", "_law_due", "_law_one", "_law_other"]
noncomputable def m_p_law_alike_r3 : FS := (gSeq (gIf (toB (fCB gIsi (fCons (fVar 1) (fCons (fTup (fCons (fC (.ty "list")) (fCons (fC (.ty "tuple")) (fun _ S => .ok [] S)))) (fun _ S => .ok [] S))))) (gSeq (gIf (fOrT (toB (fBin gNe (fCB gIsi (fCons (fVar 0) (fCons (fC (.ty "list")) (fun _ S => .ok [] S)))) (fCB gIsi (fCons (fVar 1) (fCons (fC (.ty "list")) (fun _ S => .ok [] S)))))) (toB (fBin gNe (fCB gIsi (fCons (fVar 0) (fCons (fC (.ty "tuple")) (fun _ S => .ok [] S)))) (fCB gIsi (fCons (fVar 1) (fCons (fC (.ty "tuple")) (fun _ S => .ok [] S))))))) (gRet (fC (.bl false))) gNil) (gRet (fAndV (fBin gEq (fCB gLen (fCons (fVar 0) (fun _ S => .ok [] S))) (fCB gLen (fCons (fVar 1) (fun _ S => .ok [] S)))) (fCB (gAllAny true) (fCons (fComp (fZipA (fCons (fVar 0) (fCons (fVar 1) (fun _ S => .ok [] S)))) (mTup 2 (mCons (mName 2) (mCons (mName 3) (fun ds ρ _ => match ds with | [] => some ρ | _ => none)))) fYes (fCall S_p_law_alike_r4 (fun ds es => pick [(0, 0), (0, 1)] ds es []) 2 0 2 (fCons (fVar 2) (fCons (fVar 3) (fun _ S => .ok [] S))) (fun _ S => .ok [] S)) ([("_law_one", 2), ("_law_other", 3)].map (·.2)) finL) (fun _ S => .ok [] S)))))) gNil) (gSeq (gIf (fOrT (toB (fBin gIs (fVar 1) (fC .non))) (toB (fCB gIsi (fCons (fVar 1) (fCons (fC (.ty "bool")) (fun _ S => .ok [] S)))))) (gRet (fIf (toB (fBin gIs (fVar 1) (fC .non))) (fBin gIs (fVar 0) (fC .non)) (fAndV (fCB gIsi (fCons (fVar 0) (fCons (fC (.ty "bool")) (fun _ S => .ok [] S)))) (fBin gEq (fVar 0) (fVar 1))))) gNil) (gSeq (gIf (toB (fCB gIsi (fCons (fVar 1) (fCons (fC (.ty "int")) (fun _ S => .ok [] S))))) (gRet (fAndV (fCB gIsi (fCons (fVar 0) (fCons (fC (.ty "int")) (fun _ S => .ok [] S)))) (fAndV (fNotV (fCB gIsi (fCons (fVar 0) (fCons (fC (.ty "bool")) (fun _ S => .ok [] S))))) (fBin gEq (fVar 0) (fVar 1))))) gNil) (gRet (fAndV (fCB gIsi (fCons (fVar 0) (fCons (fC (.ty "str")) (fun _ S => .ok [] S)))) (fBin gEq (fVar 0) (fVar 1)))))))
noncomputable def S_p_law_alike_r3 : Sem' := semOf 4 m_p_law_alike_r3
/-! ### _law_alike@r2 -/
abbrev N_p_law_alike_r2 : List Str := ["_law_found", "_law_due", "_law_one", "_law_other"]
noncomputable def m_p_law_alike_r2 : FS := (gSeq (gIf (toB (fCB gIsi (fCons (fVar 1) (fCons (fTup (fCons (fC (.ty "list")) (fCons (fC (.ty "tuple")) (fun _ S => .ok [] S)))) (fun _ S => .ok [] S))))) (gSeq (gIf (fOrT (toB (fBin gNe (fCB gIsi (fCons (fVar 0) (fCons (fC (.ty "list")) (fun _ S => .ok [] S)))) (fCB gIsi (fCons (fVar 1) (fCons (fC (.ty "list")) (fun _ S => .ok [] S)))))) (toB (fBin gNe (fCB gIsi (fCons (fVar 0) (fCons (fC (.ty "tuple")) (fun _ S => .ok [] S)))) (fCB gIsi (fCons (fVar 1) (fCons (fC (.ty "tuple")) (fun _ S => .ok [] S))))))) (gRet (fC (.bl false))) gNil) (gRet (fAndV (fBin gEq (fCB gLen (fCons (fVar 0) (fun _ S => .ok [] S))) (fCB gLen (fCons (fVar 1) (fun _ S => .ok [] S)))) (fCB (gAllAny true) (fCons (fComp (fZipA (fCons (fVar 0) (fCons (fVar 1) (fun _ S => .ok [] S)))) (mTup 2 (mCons (mName 2) (mCons (mName 3) (fun ds ρ _ => match ds with | [] => some ρ | _ => none)))) fYes (fCall S_p_law_alike_r3 (fun ds es => pick [(0, 0), (0, 1)] ds es []) 2 0 2 (fCons (fVar 2) (fCons (fVar 3) (fun _ S => .ok [] S))) (fun _ S => .ok [] S)) ([("_law_one", 2), ("_law_other", 3)].map (·.2)) finL) (fun _ S => .ok [] S)))))) gNil) (gSeq (gIf (fOrT (toB (fBin gIs (fVar 1) (fC .non))) (toB (fCB gIsi (fCons (fVar 1) (fCons (fC (.ty "bool")) (fun _ S => .ok [] S)))))) (gRet (fIf (toB (fBin gIs (fVar 1) (fC .non))) (fBin gIs (fVar 0) (fC .non)) (fAndV (fCB gIsi (fCons (fVar 0) (fCons (fC (.ty "bool")) (fun _ S => .ok [] S)))) (fBin gEq (fVar 0) (fVar 1))))) gNil) (gSeq (gIf (toB (fCB gIsi (fCons (fVar 1) (fCons (fC (.ty "int")) (fun _ S => .ok [] S))))) (gRet (fAndV (fCB gIsi (fCons (fVar 0) (fCons (fC (.ty "int")) (fun _ S => .ok [] S)))) (fAndV (fNotV (fCB gIsi (fCons (fVar 0) (fCons (fC (.ty "bool")) (fun _ S => .ok [] S))))) (fBin gEq (fVar 0) (fVar 1))))) gNil) (gRet (fAndV (fCB gIsi (fCons (fVar 0) (fCons (fC (.ty "str")) (fun _ S => .ok [] S)))) (fBin gEq (fVar 0) (fVar 1)))))))
noncomputable def S_p_law_alike_r2 : Sem' := semOf 4 m_p_law_alike_r2
/-! ### _law_alike@r1 -/
abbrev N_p_law_alike_r1 : List Str := ["_law_found", "_law_due", "_law_one", "_law_other"]
noncomputable def m_p_law_alike_r1 : FS := (gSeq (gIf (toB (fCB gIsi (fCons (fVar 1) (fCons (fTup (fCons (fC (.ty "list")) (fCons (fC (.ty "tuple")) (fun _ S => .ok [] S)))) (fun _ S => .ok [] S))))) (gSeq (gIf (fOrT (toB (fBin gNe (fCB gIsi (fCons (fVar 0) (fCons (fC (.ty "list")) (fun _ S => .ok [] S)))) (fCB gIsi (fCons (fVar 1) (fCons (fC (.ty "list")) (fun _ S => .ok [] S)))))) (toB (fBin gNe (fCB gIsi (fCons (fVar 0) (fCons (fC (.ty "tuple")) (fun _ S => .ok [] S)))) (fCB gIsi (fCons (fVar 1) (fCons (fC (.ty "tuple")) (fun _ S => .ok [] S))))))) (gRet (fC (.bl false))) gNil) (gRet (fAndV (fBin gEq (fCB gLen (fCons (fVar 0) (fun _ S => .ok [] S))) (fCB gLen (fCons (fVar 1) (fun _ S => .ok [] S)))) (fCB (gAllAny true) (fCons (fComp (fZipA (fCons (fVar 0) (fCons (fVar 1) (fun _ S => .ok [] S)))) (mTup 2 (mCons (mName 2) (mCons (mName 3) (fun ds ρ _ => match ds with | [] => some ρ | _ => none)))) fYes (fCall S_p_law_alike_r2 (fun ds es => pick [(0, 0), (0, 1)] ds es []) 2 0 2 (fCons (fVar 2) (fCons (fVar 3) (fun _ S => .ok [] S))) (fun _ S => .ok [] S)) ([("_law_one", 2), ("_law_other", 3)].map (·.2)) finL) (fun _ S => .ok [] S)))))) gNil) (gSeq (gIf (fOrT (toB (fBin gIs (fVar 1) (fC .non))) (toB (fCB gIsi (fCons (fVar 1) (fCons (fC (.ty "bool")) (fun _ S => .ok [] S)))))) (gRet (fIf (toB (fBin gIs (fVar 1) (fC .non))) (fBin gIs (fVar 0) (fC .non)) (fAndV (fCB gIsi (fCons (fVar 0) (fCons (fC (.ty "bool")) (fun _ S => .ok [] S)))) (fBin gEq (fVar 0) (fVar 1))))) gNil) (gSeq (gIf (toB (fCB gIsi (fCons (fVar 1) (fCons (fC (.ty "int")) (fun _ S => .ok [] S))))) (gRet (fAndV (fCB gIsi (fCons (fVar 0) (fCons (fC (.ty "int")) (fun _ S => .ok [] S)))) (fAndV (fNotV (fCB gIsi (fCons (fVar 0) (fCons (fC (.ty "bool")) (fun _ S => .ok [] S))))) (fBin gEq (fVar 0) (fVar 1))))) gNil) (gRet (fAndV (fCB gIsi (fCons (fVar 0) (fCons (fC (.ty "str")) (fun _ S => .ok [] S)))) (fBin gEq (fVar 0) (fVar 1)))))))
noncomputable def S_p_law_alike_r1 : Sem' := semOf 4 m_p_law_alike_r1
/-! ### _law_alike -/
abbrev N_p_law_alike : List Str := ["_law_found", "_law_due", "_law_one", "_law_other"]
noncomputable def m_p_law_alike : FS := (gSeq (gIf (toB (fCB gIsi (fCons (fVar 1) (fCons (fTup (fCons (fC (.ty "list")) (fCons (fC (.ty "tuple")) (fun _ S => .ok [] S)))) (fun _ S => .ok [] S))))) (gSeq (gIf (fOrT (toB (fBin gNe (fCB gIsi (fCons (fVar 0) (fCons (fC (.ty "list")) (fun _ S => .ok [] S)))) (fCB gIsi (fCons (fVar 1) (fCons (fC (.ty "list")) (fun _ S => .ok [] S)))))) (toB (fBin gNe (fCB gIsi (fCons (fVar 0) (fCons (fC (.ty "tuple")) (fun _ S => .ok [] S)))) (fCB gIsi (fCons (fVar 1) (fCons (fC (.ty "tuple")) (fun _ S => .ok [] S))))))) (gRet (fC (.bl false))) gNil) (gRet (fAndV (fBin gEq (fCB gLen (fCons (fVar 0) (fun _ S => .ok [] S))) (fCB gLen (fCons (fVar 1) (fun _ S => .ok [] S)))) (fCB (gAllAny true) (fCons (fComp (fZipA (fCons (fVar 0) (fCons (fVar 1) (fun _ S => .ok [] S)))) (mTup 2 (mCons (mName 2) (mCons (mName 3) (fun ds ρ _ => match ds with | [] => some ρ | _ => none)))) fYes (fCall S_p_law_alike_r1 (fun ds es => pick [(0, 0), (0, 1)] ds es []) 2 0 2 (fCons (fVar 2) (fCons (fVar 3) (fun _ S => .ok [] S))) (fun _ S => .ok [] S)) ([("_law_one", 2), ("_law_other", 3)].map (·.2)) finL) (fun _ S => .ok [] S)))))) gNil) (gSeq (gIf (fOrT (toB (fBin gIs (fVar 1) (fC .non))) (toB (fCB gIsi (fCons (fVar 1) (fCons (fC (.ty "bool")) (fun _ S => .ok [] S)))))) (gRet (fIf (toB (fBin gIs (fVar 1) (fC .non))) (fBin gIs (fVar 0) (fC .non)) (fAndV (fCB gIsi (fCons (fVar 0) (fCons (fC (.ty "bool")) (fun _ S => .ok [] S)))) (fBin gEq (fVar 0) (fVar 1))))) gNil) (gSeq (gIf (toB (fCB gIsi (fCons (fVar 1) (fCons (fC (.ty "int")) (fun _ S => .ok [] S))))) (gRet (fAndV (fCB gIsi (fCons (fVar 0) (fCons (fC (.ty "int")) (fun _ S => .ok [] S)))) (fAndV (fNotV (fCB gIsi (fCons (fVar 0) (fCons (fC (.ty "bool")) (fun _ S => .ok [] S))))) (fBin gEq (fVar 0) (fVar 1))))) gNil) (gRet (fAndV (fCB gIsi (fCons (fVar 0) (fCons (fC (.ty "str")) (fun _ S => .ok [] S)))) (fBin gEq (fVar 0) (fVar 1)))))))
noncomputable def S_p_law_alike : Sem' := semOf 4 m_p_law_alike
/-! ### Program.hands@o -/
abbrev N_Program_hands_o : List Str := ["self", "rows"]
noncomputable def m_Program_hands_o : FS := (gRet (fComp (fSeq (fFld ["Program"] "plan" (fVar 0))) (mName 1) fYes (fCB gListO (fCons (fVar 1) (fun _ S => .ok [] S))) ([("rows", 1)].map (·.2)) finO))
noncomputable def S_Program_hands_o : Sem' := semOf 2 m_Program_hands_o
/-! ### Program.boxes -/
abbrev N_Program_boxes : List Str := ["self"]
noncomputable def m_Program_boxes : FS := (gRet (fFld ["Program"] "wide" (fVar 0)))
noncomputable def S_Program_boxes : Sem' := semOf 1 m_Program_boxes
/-! ### Program.board -/
abbrev N_Program_board : List Str := ["self"]
noncomputable def m_Program_board : FS := (gRet (fFld ["Program"] "shared" (fVar 0)))
noncomputable def S_Program_board : Sem' := semOf 1 m_Program_board
/-! ### Program.pegs -/
abbrev N_Program_pegs : List Str := ["self"]
noncomputable def m_Program_pegs : FS := (gRet (fBin gAdd (fBin gMul (fCB gLen (fCons (fFld ["Program"] "plan" (fVar 0)) (fun _ S => .ok [] S))) (fFld ["Program"] "wide" (fVar 0))) (fFld ["Program"] "shared" (fVar 0))))
noncomputable def S_Program_pegs : Sem' := semOf 1 m_Program_pegs
/-! ### law -/
abbrev N_law : List Str := ["_law_script", "_law_state", "_law_way", "_law_wide", "_law_shared", "_law_plan_here", "_law_turn", "_law_due", "_law_shape", "_law_handed", "_law_made_here", "_law_told", "_law_again", "_law_found", "_law_rows"]
noncomputable def m_law : FS := (gSeq (gSet 1 (fCall S_p_law_begin (fun ds es => pick [(0, 0)] ds es []) 1 0 1 (fCons (fVar 0) (fun _ S => .ok [] S)) (fun _ S => .ok [] S))) (gSeq (gSet 2 (fCall S_p_law_next (fun ds es => pick [(0, 0), (0, 1)] ds es []) 2 0 2 (fCons (fVar 1) (fCons (fC (.int 12)) (fun _ S => .ok [] S))) (fun _ S => .ok [] S))) (gSeq (gPar 3 4 (fCons (fBin gAdd (fC (.int 1)) (fCall S_p_law_next (fun ds es => pick [(0, 0), (0, 1)] ds es []) 2 0 2 (fCons (fVar 1) (fCons (fC (.int 6)) (fun _ S => .ok [] S))) (fun _ S => .ok [] S))) (fCons (fCall S_p_law_next (fun ds es => pick [(0, 0), (0, 1)] ds es []) 2 0 2 (fCons (fVar 1) (fCons (fC (.int 7)) (fun _ S => .ok [] S))) (fun _ S => .ok [] S)) (fun _ S => .ok [] S)))) (gSeq (gSet 5 (fCall S_p_law_plan (fun ds es => pick [(0, 0), (0, 1), (0, 2)] ds es []) 3 0 3 (fCons (fVar 1) (fCons (fVar 3) (fCons (fVar 4) (fun _ S => .ok [] S)))) (fun _ S => .ok [] S))) (gSeq (gFor (fRng1 (fCons (fCB gMax (fCons (fC (.int 0)) (fCons (fBin gSub (fCall S_p_law_next (fun ds es => pick [(0, 0), (0, 1)] ds es []) 2 0 2 (fCons (fVar 1) (fCons (fC (.int 5)) (fun _ S => .ok [] S))) (fun _ S => .ok [] S)) (fC (.int 1))) (fun _ S => .ok [] S)))) (fun _ S => .ok [] S))) (mName 6) (gSet 5 (fCall S_p_law_spoilt (fun ds es => pick [(0, 0), (0, 1), (0, 2), (0, 3)] ds es []) 4 0 4 (fCons (fVar 1) (fCons (fVar 5) (fCons (fVar 3) (fCons (fVar 4) (fun _ S => .ok [] S))))) (fun _ S => .ok [] S)))) (gSeq (gIf (toB (fBin gEq (fVar 2) (fC (.int 0)))) (gSet 3 (fCall S_p_law_pick (fun ds es => pick [(0, 0), (0, 1)] ds es []) 2 0 2 (fCons (fVar 1) (fCons (fLst (fCons (fC (.int 0)) (fCons (fC (.int 7)) (fCons (fC (.bl true)) (fCons (fC .non) (fCons (fC (.str "4")) (fCons (fUn gNeg (fC (.int 1))) (fun _ S => .ok [] S)))))))) (fun _ S => .ok [] S))) (fun _ S => .ok [] S))) (gIf (toB (fBin gEq (fVar 2) (fC (.int 1)))) (gSet 4 (fCall S_p_law_pick (fun ds es => pick [(0, 0), (0, 1)] ds es []) 2 0 2 (fCons (fVar 1) (fCons (fLst (fCons (fUn gNeg (fC (.int 1))) (fCons (fC (.int 7)) (fCons (fC (.bl false)) (fCons (fC .non) (fCons (fC (.str "2")) (fCons (fLst (fCons (fC (.int 2)) (fun _ S => .ok [] S))) (fun _ S => .ok [] S)))))))) (fun _ S => .ok [] S))) (fun _ S => .ok [] S))) (gIf (toB (fBin gEq (fVar 2) (fC (.int 2)))) (gSet 5 (fCall S_p_law_pick (fun ds es => pick [(0, 0), (0, 1)] ds es []) 2 0 2 (fCons (fVar 1) (fCons (fLst (fCons (fLst (fun _ S => .ok [] S)) (fCons (fC .non) (fCons (fC (.str "hands")) (fCons (fBin gRepL (fVar 5) (fC (.int 5))) (fCons fDict0 (fCons (fLst (fCons (fBin gIx (fVar 5) (fC (.int 0))) (fCons (fC .non) (fun _ S => .ok [] S)))) (fCons (fLst (fCons (fBin gIx (fVar 5) (fC (.int 0))) (fCons (fC (.str "rows")) (fun _ S => .ok [] S)))) (fCons (fLst (fCons (fC (.str "")) (fCons (fBin gIx (fVar 5) (fC (.int 0))) (fun _ S => .ok [] S)))) (fun _ S => .ok [] S)))))))))) (fun _ S => .ok [] S))) (fun _ S => .ok [] S))) gNil))) (gSeq (gSet 7 (fCall (callSub S_p_law_first_bad) (fun ds es => pick [(0, 0), (0, 1), (0, 2)] ds es []) 3 0 3 (fCons (fFrzD 60 (fVar 5)) (fCons (fVar 3) (fCons (fVar 4) (fun _ S => .ok [] S)))) (fun _ S => .ok [] S))) (gSeq (gSet 8 (fCall S_p_law_next (fun ds es => pick [(0, 0), (0, 1)] ds es []) 2 0 2 (fCons (fVar 1) (fCons (fC (.int 4)) (fun _ S => .ok [] S))) (fun _ S => .ok [] S))) (gSeq (gSet 9 (fVar 5)) (gSeq (gIf (toB (fBin gIs (fVar 7) (fC .non))) (gSet 9 (fComp (fSeq (fVar 5)) (mName 14) fYes (fIf (toB (fBin gEq (fBin gMod (fVar 8) (fC (.int 2))) (fC (.int 1)))) (fCB gTuple (fCons (fVar 14) (fun _ S => .ok [] S))) (fCB gListO (fCons (fVar 14) (fun _ S => .ok [] S)))) ([("_law_rows", 14)].map (·.2)) finO)) gNil) (gSeq (gIf (fAndT (toB (fBin gIs (fVar 7) (fC .non))) (toB (fBin gGt (fVar 8) (fC (.int 1))))) (gSet 9 (fCB gTuple (fCons (fVar 9) (fun _ S => .ok [] S)))) gNil) (gSeq (gAsg (mTup 2 (mCons (mName 10) (mCons (mName 11) (fun ds ρ _ => match ds with | [] => some ρ | _ => none)))) (fCall S_p_law_made (fun ds es => pick [(0, 0), (0, 1), (0, 2)] ds es []) 3 0 3 (fCons (fVar 9) (fCons (fVar 3) (fCons (fVar 4) (fun _ S => .ok [] S)))) (fun _ S => .ok [] S))) (gSeq (gIf (fOrT (toB (fBin gIsNot (fVar 7) (fC .non))) (toB (fBin gIs (fVar 10) (fC .non)))) (gRet (fCall S_p_law_alike (fun ds es => pick [(0, 0), (0, 1)] ds es []) 2 0 2 (fCons (fVar 11) (fCons (fVar 7) (fun _ S => .ok [] S))) (fun _ S => .ok [] S))) gNil) (gSeq (gIf (toB (fBin gEq (fVar 8) (fC (.int 0)))) (gExpr (fBM "list" gApp (fVar 9) (fCons (fLst (fCons (fTup (fCons (fC (.str "stop")) (fun _ S => .ok [] S))) (fun _ S => .ok [] S))) (fun _ S => .ok [] S)))) gNil) (gSeq (gIf (toB (fBin gEq (fBin gMod (fVar 8) (fC (.int 2))) (fC (.int 0)))) (gExpr (fBM "list" gApp (fBin gIx (fVar 9) (fC (.int 0))) (fCons (fTup (fCons (fC (.str "stop")) (fun _ S => .ok [] S))) (fun _ S => .ok [] S)))) gNil) (gSeq (gFor (fRng1 (fCons (fC (.int 2)) (fun _ S => .ok [] S))) (mName 12) (gSeq (gSet 13 (fMeth S_Program_hands_o (fun ds es => pick [(0, 0)] ds es []) "Program" "hands" 1 0 1 (fVar 10) (fun _ S => .ok [] S) (fun _ S => .ok [] S))) (gSeq (gIf (fNotT (toB (fCall S_p_law_alike (fun ds es => pick [(0, 0), (0, 1)] ds es []) 2 0 2 (fCons (fLst (fCons (fVar 13) (fCons (fMeth (callSub S_Program_boxes) (fun ds es => pick [(0, 0)] ds es []) "Program" "boxes" 1 0 1 (fVar 10) (fun _ S => .ok [] S) (fun _ S => .ok [] S)) (fCons (fMeth (callSub S_Program_board) (fun ds es => pick [(0, 0)] ds es []) "Program" "board" 1 0 1 (fVar 10) (fun _ S => .ok [] S) (fun _ S => .ok [] S)) (fun _ S => .ok [] S))))) (fCons (fLst (fCons (fComp (fSeq (fVar 5)) (mName 14) fYes (fCB gList (fCons (fVar 14) (fun _ S => .ok [] S))) ([("_law_rows", 14)].map (·.2)) finL) (fCons (fVar 3) (fCons (fVar 4) (fun _ S => .ok [] S))))) (fun _ S => .ok [] S))) (fun _ S => .ok [] S)))) (gRet (fC (.bl false))) gNil) (gExpr (fBM "list" gApp (fBin gIx (fVar 13) (fC (.int 0))) (fCons (fTup (fCons (fC (.str "stop")) (fun _ S => .ok [] S))) (fun _ S => .ok [] S))))))) (gRet (fCall S_p_law_alike (fun ds es => pick [(0, 0), (0, 1)] ds es []) 2 0 2 (fCons (fMeth (callSub S_Program_pegs) (fun ds es => pick [(0, 0)] ds es []) "Program" "pegs" 1 0 1 (fVar 10) (fun _ S => .ok [] S) (fun _ S => .ok [] S)) (fCons (fBin gAdd (fBin gMul (fCB gLen (fCons (fVar 5) (fun _ S => .ok [] S))) (fVar 3)) (fVar 4)) (fun _ S => .ok [] S))) (fun _ S => .ok [] S)))))))))))))))))))
noncomputable def S_law : Sem' := semOf 15 m_law
structure Txt (w : World) (K : PySem.W.Frag) (mg : Str → Option Value) : Prop where
  says : He.SaysD fa fn K
  glo : ∀ {x : Str}, (He.Fa.glo x).ok K = true → mg x = some (.ref (He.ga K x))
  free : ∀ {x : Str}, (He.Fa.free x).ok K = true → mg x = none
  int : ∀ {x : Str} {i : Int}, (He.Fa.int x i).ok K = true → ∃ t, mg x = some (.int i t)
  str : ∀ {x z : Str}, (He.Fa.str x z).ok K = true → ∃ t, mg x = some (.str z t)
  ex : exB K = true
  tabs : dicsK ts K = dicsW ts w
section
variable {w : World} {K : PySem.W.Frag} {mg : Str → Option Value}
theorem txt_of {h : Heap} (X : K.In h) (G : h.Ns mainGlobals mg) (c : He.SaysD fa fn K) (cx : exB K = true) (ct : dicsK ts K = dicsW ts w) : Txt w K mg := ⟨c, fun q => He.glo_ok X G q, fun q => He.free_ok X G q, fun q => He.int_ok X G q, fun q => He.str_ok X G q, cx, ct⟩
theorem glo_p_law_begin (T : Txt w K mg) : mg "_law_begin" = some (.ref (He.fAd K d_p_law_begin.at_)) := T.glo (T.says.fact 0 (f := .glo "_law_begin") rfl)
theorem glo_p_law_more (T : Txt w K mg) : mg "_law_more" = some (.ref (He.fAd K d_p_law_more.at_)) := T.glo (T.says.fact 1 (f := .glo "_law_more") rfl)
theorem glo_p_law_next (T : Txt w K mg) : mg "_law_next" = some (.ref (He.fAd K d_p_law_next.at_)) := T.glo (T.says.fact 2 (f := .glo "_law_next") rfl)
theorem glo_p_law_forms_o (T : Txt w K mg) : mg "_law_forms" = some (.ref (He.fAd K d_p_law_forms_o.at_)) := T.glo (T.says.fact 3 (f := .glo "_law_forms") rfl)
theorem glo_p_law_words (T : Txt w K mg) : mg "_law_words" = some (.ref (He.fAd K d_p_law_words.at_)) := T.glo (T.says.fact 4 (f := .glo "_law_words") rfl)
theorem glo_p_law_forms (T : Txt w K mg) : mg "_law_forms" = some (.ref (He.fAd K d_p_law_forms.at_)) := T.glo (T.says.fact 5 (f := .glo "_law_forms") rfl)
theorem glo_p_law_bound (T : Txt w K mg) : mg "_law_bound" = some (.ref (He.fAd K d_p_law_bound.at_)) := T.glo (T.says.fact 6 (f := .glo "_law_bound") rfl)
theorem glo_p_law_row (T : Txt w K mg) : mg "_law_row" = some (.ref (He.fAd K d_p_law_row.at_)) := T.glo (T.says.fact 7 (f := .glo "_law_row") rfl)
theorem glo_p_law_pick (T : Txt w K mg) : mg "_law_pick" = some (.ref (He.fAd K d_p_law_pick.at_)) := T.glo (T.says.fact 8 (f := .glo "_law_pick") rfl)
theorem glo_p_law_plan (T : Txt w K mg) : mg "_law_plan" = some (.ref (He.fAd K d_p_law_plan.at_)) := T.glo (T.says.fact 9 (f := .glo "_law_plan") rfl)
theorem glo_p_law_whole (T : Txt w K mg) : mg "_law_whole" = some (.ref (He.fAd K d_p_law_whole.at_)) := T.glo (T.says.fact 10 (f := .glo "_law_whole") rfl)
theorem glo_p_law_is_row (T : Txt w K mg) : mg "_law_is_row" = some (.ref (He.fAd K d_p_law_is_row.at_)) := T.glo (T.says.fact 11 (f := .glo "_law_is_row") rfl)
theorem glo_p_law_odd (T : Txt w K mg) : mg "_law_odd" = some (.ref (He.fAd K d_p_law_odd.at_)) := T.glo (T.says.fact 12 (f := .glo "_law_odd") rfl)
theorem glo_p_law_spoilt (T : Txt w K mg) : mg "_law_spoilt" = some (.ref (He.fAd K d_p_law_spoilt.at_)) := T.glo (T.says.fact 13 (f := .glo "_law_spoilt") rfl)
theorem glo_p_law_first_bad (T : Txt w K mg) : mg "_law_first_bad" = some (.ref (He.fAd K d_p_law_first_bad.at_)) := T.glo (T.says.fact 14 (f := .glo "_law_first_bad") rfl)
theorem glo_is_whole (T : Txt w K mg) : mg "is_whole" = some (.ref (He.fAd K d_is_whole.at_)) := T.glo (T.says.fact 15 (f := .glo "is_whole") rfl)
theorem glo_is_row (T : Txt w K mg) : mg "is_row" = some (.ref (He.fAd K d_is_row.at_)) := T.glo (T.says.fact 16 (f := .glo "is_row") rfl)
theorem glo_bounds_of (T : Txt w K mg) : mg "bounds_of" = some (.ref (He.fAd K d_bounds_of.at_)) := T.glo (T.says.fact 17 (f := .glo "bounds_of") rfl)
theorem glo_fits_row (T : Txt w K mg) : mg "fits_row" = some (.ref (He.fAd K d_fits_row.at_)) := T.glo (T.says.fact 18 (f := .glo "fits_row") rfl)
theorem glo_p_law_made (T : Txt w K mg) : mg "_law_made" = some (.ref (He.fAd K d_p_law_made.at_)) := T.glo (T.says.fact 19 (f := .glo "_law_made") rfl)
theorem glo_p_law_alike_r5 (T : Txt w K mg) : mg "_law_alike" = some (.ref (He.fAd K d_p_law_alike_r5.at_)) := T.glo (T.says.fact 20 (f := .glo "_law_alike") rfl)
theorem glo_p_law_alike_r4 (T : Txt w K mg) : mg "_law_alike" = some (.ref (He.fAd K d_p_law_alike_r4.at_)) := T.glo (T.says.fact 21 (f := .glo "_law_alike") rfl)
theorem glo_p_law_alike_r3 (T : Txt w K mg) : mg "_law_alike" = some (.ref (He.fAd K d_p_law_alike_r3.at_)) := T.glo (T.says.fact 22 (f := .glo "_law_alike") rfl)
theorem glo_p_law_alike_r2 (T : Txt w K mg) : mg "_law_alike" = some (.ref (He.fAd K d_p_law_alike_r2.at_)) := T.glo (T.says.fact 23 (f := .glo "_law_alike") rfl)
theorem glo_p_law_alike_r1 (T : Txt w K mg) : mg "_law_alike" = some (.ref (He.fAd K d_p_law_alike_r1.at_)) := T.glo (T.says.fact 24 (f := .glo "_law_alike") rfl)
theorem glo_p_law_alike (T : Txt w K mg) : mg "_law_alike" = some (.ref (He.fAd K d_p_law_alike.at_)) := T.glo (T.says.fact 25 (f := .glo "_law_alike") rfl)
theorem glo_law (T : Txt w K mg) : mg "law" = some (.ref (He.fAd K d_law.at_)) := T.glo (T.says.fact 26 (f := .glo "law") rfl)
theorem free_ValueError (T : Txt w K mg) : mg "ValueError" = none := T.free (T.says.fact 27 (f := .free "ValueError") rfl)
theorem free_abs (T : Txt w K mg) : mg "abs" = none := T.free (T.says.fact 28 (f := .free "abs") rfl)
theorem free_all (T : Txt w K mg) : mg "all" = none := T.free (T.says.fact 29 (f := .free "all") rfl)
theorem free_bool (T : Txt w K mg) : mg "bool" = none := T.free (T.says.fact 30 (f := .free "bool") rfl)
theorem free_enumerate (T : Txt w K mg) : mg "enumerate" = none := T.free (T.says.fact 31 (f := .free "enumerate") rfl)
theorem free_int (T : Txt w K mg) : mg "int" = none := T.free (T.says.fact 32 (f := .free "int") rfl)
theorem free_isinstance (T : Txt w K mg) : mg "isinstance" = none := T.free (T.says.fact 33 (f := .free "isinstance") rfl)
theorem free_len (T : Txt w K mg) : mg "len" = none := T.free (T.says.fact 34 (f := .free "len") rfl)
theorem free_list (T : Txt w K mg) : mg "list" = none := T.free (T.says.fact 35 (f := .free "list") rfl)
theorem free_max (T : Txt w K mg) : mg "max" = none := T.free (T.says.fact 36 (f := .free "max") rfl)
theorem free_min (T : Txt w K mg) : mg "min" = none := T.free (T.says.fact 37 (f := .free "min") rfl)
theorem free_range (T : Txt w K mg) : mg "range" = none := T.free (T.says.fact 38 (f := .free "range") rfl)
theorem free_str (T : Txt w K mg) : mg "str" = none := T.free (T.says.fact 39 (f := .free "str") rfl)
theorem free_tuple (T : Txt w K mg) : mg "tuple" = none := T.free (T.says.fact 40 (f := .free "tuple") rfl)
theorem free_zip (T : Txt w K mg) : mg "zip" = none := T.free (T.says.fact 41 (f := .free "zip") rfl)
theorem int_GREATEST (T : Txt w K mg) : ∃ t, mg "GREATEST" = some (.int (1000000000) t) := T.int (T.says.fact 42 (f := .int "GREATEST" (1000000000)) rfl)
theorem int_MOST_BOARD (T : Txt w K mg) : ∃ t, mg "MOST_BOARD" = some (.int (6) t) := T.int (T.says.fact 43 (f := .int "MOST_BOARD" (6)) rfl)
theorem int_MOST_BOXES (T : Txt w K mg) : ∃ t, mg "MOST_BOXES" = some (.int (6) t) := T.int (T.says.fact 44 (f := .int "MOST_BOXES" (6)) rfl)
theorem int_MOST_FIELDS (T : Txt w K mg) : ∃ t, mg "MOST_FIELDS" = some (.int (6) t) := T.int (T.says.fact 45 (f := .int "MOST_FIELDS" (6)) rfl)
theorem int_MOST_HANDS (T : Txt w K mg) : ∃ t, mg "MOST_HANDS" = some (.int (4) t) := T.int (T.says.fact 46 (f := .int "MOST_HANDS" (4)) rfl)
theorem int_MOST_ROWS (T : Txt w K mg) : ∃ t, mg "MOST_ROWS" = some (.int (60) t) := T.int (T.says.fact 47 (f := .int "MOST_ROWS" (60)) rfl)
theorem gloc_FORMS (T : Txt w K mg) : mg "FORMS" = some (.ref (He.ga K "FORMS")) := T.glo (T.says.fact 48 (f := .glo "FORMS") rfl)
theorem gloc_BadProgram (T : Txt w K mg) : mg "BadProgram" = some (.ref (He.ga K "BadProgram")) := T.glo (T.says.fact 49 (f := .glo "BadProgram") rfl)
theorem gloc_YardError (T : Txt w K mg) : mg "YardError" = some (.ref (He.ga K "YardError")) := T.glo (T.says.fact 50 (f := .glo "YardError") rfl)
theorem gloc_Program (T : Txt w K mg) : mg "Program" = some (.ref (He.ga K "Program")) := T.glo (T.says.fact 51 (f := .glo "Program") rfl)
theorem cls_Program (T : Txt w K mg) : Cls K (He.ga K "Program") := He.cls_ok (T.says.fact 52 (f := .cls "Program") rfl)
theorem mkr_Program (T : Txt w K mg) : Mk K (He.ga K "Program") (He.fAd K d_Program_init.at_) := He.mkr_ok (T.says.fact 53 (f := .mkr "Program") rfl)
theorem meth_Program_board (T : Txt w K mg) : Meth K (He.ga K "Program") "board" (He.fAd K d_Program_board.at_) := He.meth_ok (T.says.fact 54 (f := .meth "Program" "board") rfl)
theorem meth_Program_boxes (T : Txt w K mg) : Meth K (He.ga K "Program") "boxes" (He.fAd K d_Program_boxes.at_) := He.meth_ok (T.says.fact 55 (f := .meth "Program" "boxes") rfl)
theorem meth_Program_hands (T : Txt w K mg) : Meth K (He.ga K "Program") "hands" (He.fAd K d_Program_hands_o.at_) := He.meth_ok (T.says.fact 56 (f := .meth "Program" "hands") rfl)
theorem meth_Program_pegs (T : Txt w K mg) : Meth K (He.ga K "Program") "pegs" (He.fAd K d_Program_pegs.at_) := He.meth_ok (T.says.fact 57 (f := .meth "Program" "pegs") rfl)
theorem noat_Program_plan (T : Txt w K mg) : NoAttr K (He.ga K "Program") "plan" := He.noat_ok (T.says.fact 58 (f := .noat "Program" "plan") rfl)
theorem noat_Program_shared (T : Txt w K mg) : NoAttr K (He.ga K "Program") "shared" := He.noat_ok (T.says.fact 59 (f := .noat "Program" "shared") rfl)
theorem noat_Program_wide (T : Txt w K mg) : NoAttr K (He.ga K "Program") "wide" := He.noat_ok (T.says.fact 60 (f := .noat "Program" "wide") rfl)
theorem tabv_FORMS (T : Txt w K mg) : tabV K (He.ga K "FORMS") tk_FORMS = true := id (He.ba T.ex).1
theorem xic_BadProgram (T : Txt w K mg) : XiC K (He.ga K "BadProgram") (He.ga K "YardError") (He.fAd K d_BadProgram_init.at_) ["hand", "row"] := xiB_ok (He.ba (He.ba T.ex).2).1
theorem isec_BadProgram (T : Txt w K mg) : L2.ExcC K (He.ga K "BadProgram") := iseB_ok (He.ba (He.ba (He.ba T.ex).2).2).1
theorem exm0_YardError (T : Txt w K mg) : exmT K (.ref (He.ga K "YardError")) tb_YardError = true := id (He.ba (He.ba (He.ba (He.ba T.ex).2).2).2).1
theorem kit0_BadProgram (T : Txt w K mg) : kitT K (.ref (He.ga K "BadProgram")) tb_BadProgram = true := id (He.ba (He.ba (He.ba (He.ba (He.ba T.ex).2).2).2).2).1
theorem kit0_ValueError (T : Txt w K mg) : kitT K (.type "ValueError") tb_ValueError = true := id (He.ba (He.ba (He.ba (He.ba (He.ba (He.ba T.ex).2).2).2).2).2).1
theorem tabc_FORMS (T : Txt w K mg) : TabC K mg w (He.ga K "FORMS") tk_FORMS := tabK_at T.tabs 0 rfl (tabv_FORMS T) trivial
theorem exmc_YardError (T : Txt w K mg) : ∀ C b A, tb_YardError.lookup C = some b → mg C = some (.ref A) → PySem.W.exmOne K (.ref A) (.ref (He.ga K "YardError")) = some b := exmT_ok (exm0_YardError T) (by intro q hq; rw [List.mem_singleton.mp hq]; exact gloc_BadProgram T)
theorem kitc_BadProgram (T : Txt w K mg) : ∀ C b A, tb_BadProgram.lookup C = some b → mg C = some (.ref A) → L2.ExcC K A ∧ PySem.W.kitOne K (.ref A) (.ref (He.ga K "BadProgram")) = some b := kitT_ok (kit0_BadProgram T) (by intro q hq; rw [List.mem_singleton.mp hq]; exact gloc_BadProgram T) (by intro q hq; rw [List.mem_singleton.mp hq]; exact isec_BadProgram T)
theorem kitc_ValueError (T : Txt w K mg) : ∀ C b A, tb_ValueError.lookup C = some b → mg C = some (.ref A) → L2.ExcC K A ∧ PySem.W.kitOne K (.ref A) (.type "ValueError") = some b := kitT_ok (kit0_ValueError T) (by intro q hq; rw [List.mem_singleton.mp hq]; exact gloc_BadProgram T) (by intro q hq; rw [List.mem_singleton.mp hq]; exact isec_BadProgram T)
theorem fun_p_law_begin (T : Txt w K mg) : ∃ fd, FunD K d_p_law_begin.name d_p_law_begin.qual d_p_law_begin.params d_p_law_begin.body d_p_law_begin.scope (d_p_law_begin.dvs K) (d_p_law_begin.kws K) (He.fAd K d_p_law_begin.at_) fd := T.says.def_ 0 (d := d_p_law_begin) rfl
theorem fun_p_law_more (T : Txt w K mg) : ∃ fd, FunD K d_p_law_more.name d_p_law_more.qual d_p_law_more.params d_p_law_more.body d_p_law_more.scope (d_p_law_more.dvs K) (d_p_law_more.kws K) (He.fAd K d_p_law_more.at_) fd := T.says.def_ 1 (d := d_p_law_more) rfl
theorem fun_p_law_next (T : Txt w K mg) : ∃ fd, FunD K d_p_law_next.name d_p_law_next.qual d_p_law_next.params d_p_law_next.body d_p_law_next.scope (d_p_law_next.dvs K) (d_p_law_next.kws K) (He.fAd K d_p_law_next.at_) fd := T.says.def_ 2 (d := d_p_law_next) rfl
theorem fun_p_law_forms_o (T : Txt w K mg) : ∃ fd, FunD K d_p_law_forms_o.name d_p_law_forms_o.qual d_p_law_forms_o.params d_p_law_forms_o.body d_p_law_forms_o.scope (d_p_law_forms_o.dvs K) (d_p_law_forms_o.kws K) (He.fAd K d_p_law_forms_o.at_) fd := T.says.def_ 3 (d := d_p_law_forms_o) rfl
theorem fun_p_law_words (T : Txt w K mg) : ∃ fd, FunD K d_p_law_words.name d_p_law_words.qual d_p_law_words.params d_p_law_words.body d_p_law_words.scope (d_p_law_words.dvs K) (d_p_law_words.kws K) (He.fAd K d_p_law_words.at_) fd := T.says.def_ 4 (d := d_p_law_words) rfl
theorem fun_p_law_forms (T : Txt w K mg) : ∃ fd, FunD K d_p_law_forms.name d_p_law_forms.qual d_p_law_forms.params d_p_law_forms.body d_p_law_forms.scope (d_p_law_forms.dvs K) (d_p_law_forms.kws K) (He.fAd K d_p_law_forms.at_) fd := T.says.def_ 5 (d := d_p_law_forms) rfl
theorem fun_p_law_bound (T : Txt w K mg) : ∃ fd, FunD K d_p_law_bound.name d_p_law_bound.qual d_p_law_bound.params d_p_law_bound.body d_p_law_bound.scope (d_p_law_bound.dvs K) (d_p_law_bound.kws K) (He.fAd K d_p_law_bound.at_) fd := T.says.def_ 6 (d := d_p_law_bound) rfl
theorem fun_p_law_row (T : Txt w K mg) : ∃ fd, FunD K d_p_law_row.name d_p_law_row.qual d_p_law_row.params d_p_law_row.body d_p_law_row.scope (d_p_law_row.dvs K) (d_p_law_row.kws K) (He.fAd K d_p_law_row.at_) fd := T.says.def_ 7 (d := d_p_law_row) rfl
theorem fun_p_law_pick (T : Txt w K mg) : ∃ fd, FunD K d_p_law_pick.name d_p_law_pick.qual d_p_law_pick.params d_p_law_pick.body d_p_law_pick.scope (d_p_law_pick.dvs K) (d_p_law_pick.kws K) (He.fAd K d_p_law_pick.at_) fd := T.says.def_ 8 (d := d_p_law_pick) rfl
theorem fun_p_law_plan (T : Txt w K mg) : ∃ fd, FunD K d_p_law_plan.name d_p_law_plan.qual d_p_law_plan.params d_p_law_plan.body d_p_law_plan.scope (d_p_law_plan.dvs K) (d_p_law_plan.kws K) (He.fAd K d_p_law_plan.at_) fd := T.says.def_ 9 (d := d_p_law_plan) rfl
theorem fun_p_law_whole (T : Txt w K mg) : ∃ fd, FunD K d_p_law_whole.name d_p_law_whole.qual d_p_law_whole.params d_p_law_whole.body d_p_law_whole.scope (d_p_law_whole.dvs K) (d_p_law_whole.kws K) (He.fAd K d_p_law_whole.at_) fd := T.says.def_ 10 (d := d_p_law_whole) rfl
theorem fun_p_law_is_row (T : Txt w K mg) : ∃ fd, FunD K d_p_law_is_row.name d_p_law_is_row.qual d_p_law_is_row.params d_p_law_is_row.body d_p_law_is_row.scope (d_p_law_is_row.dvs K) (d_p_law_is_row.kws K) (He.fAd K d_p_law_is_row.at_) fd := T.says.def_ 11 (d := d_p_law_is_row) rfl
theorem fun_p_law_odd (T : Txt w K mg) : ∃ fd, FunD K d_p_law_odd.name d_p_law_odd.qual d_p_law_odd.params d_p_law_odd.body d_p_law_odd.scope (d_p_law_odd.dvs K) (d_p_law_odd.kws K) (He.fAd K d_p_law_odd.at_) fd := T.says.def_ 12 (d := d_p_law_odd) rfl
theorem fun_p_law_spoilt (T : Txt w K mg) : ∃ fd, FunD K d_p_law_spoilt.name d_p_law_spoilt.qual d_p_law_spoilt.params d_p_law_spoilt.body d_p_law_spoilt.scope (d_p_law_spoilt.dvs K) (d_p_law_spoilt.kws K) (He.fAd K d_p_law_spoilt.at_) fd := T.says.def_ 13 (d := d_p_law_spoilt) rfl
theorem fun_p_law_first_bad (T : Txt w K mg) : ∃ fd, FunD K d_p_law_first_bad.name d_p_law_first_bad.qual d_p_law_first_bad.params d_p_law_first_bad.body d_p_law_first_bad.scope (d_p_law_first_bad.dvs K) (d_p_law_first_bad.kws K) (He.fAd K d_p_law_first_bad.at_) fd := T.says.def_ 14 (d := d_p_law_first_bad) rfl
theorem fun_is_whole (T : Txt w K mg) : ∃ fd, FunD K d_is_whole.name d_is_whole.qual d_is_whole.params d_is_whole.body d_is_whole.scope (d_is_whole.dvs K) (d_is_whole.kws K) (He.fAd K d_is_whole.at_) fd := T.says.def_ 15 (d := d_is_whole) rfl
theorem fun_BadProgram_init (T : Txt w K mg) : ∃ fd, FunD K d_BadProgram_init.name d_BadProgram_init.qual d_BadProgram_init.params d_BadProgram_init.body d_BadProgram_init.scope (d_BadProgram_init.dvs K) (d_BadProgram_init.kws K) (He.fAd K d_BadProgram_init.at_) fd := T.says.def_ 16 (d := d_BadProgram_init) rfl
theorem fun_is_row (T : Txt w K mg) : ∃ fd, FunD K d_is_row.name d_is_row.qual d_is_row.params d_is_row.body d_is_row.scope (d_is_row.dvs K) (d_is_row.kws K) (He.fAd K d_is_row.at_) fd := T.says.def_ 17 (d := d_is_row) rfl
theorem fun_bounds_of (T : Txt w K mg) : ∃ fd, FunD K d_bounds_of.name d_bounds_of.qual d_bounds_of.params d_bounds_of.body d_bounds_of.scope (d_bounds_of.dvs K) (d_bounds_of.kws K) (He.fAd K d_bounds_of.at_) fd := T.says.def_ 18 (d := d_bounds_of) rfl
theorem fun_fits_row (T : Txt w K mg) : ∃ fd, FunD K d_fits_row.name d_fits_row.qual d_fits_row.params d_fits_row.body d_fits_row.scope (d_fits_row.dvs K) (d_fits_row.kws K) (He.fAd K d_fits_row.at_) fd := T.says.def_ 19 (d := d_fits_row) rfl
theorem fun_Program_init (T : Txt w K mg) : ∃ fd, FunD K d_Program_init.name d_Program_init.qual d_Program_init.params d_Program_init.body d_Program_init.scope (d_Program_init.dvs K) (d_Program_init.kws K) (He.fAd K d_Program_init.at_) fd := T.says.def_ 20 (d := d_Program_init) rfl
theorem fun_p_law_made (T : Txt w K mg) : ∃ fd, FunD K d_p_law_made.name d_p_law_made.qual d_p_law_made.params d_p_law_made.body d_p_law_made.scope (d_p_law_made.dvs K) (d_p_law_made.kws K) (He.fAd K d_p_law_made.at_) fd := T.says.def_ 21 (d := d_p_law_made) rfl
theorem fun_p_law_alike_r5 (T : Txt w K mg) : ∃ fd, FunD K d_p_law_alike_r5.name d_p_law_alike_r5.qual d_p_law_alike_r5.params d_p_law_alike_r5.body d_p_law_alike_r5.scope (d_p_law_alike_r5.dvs K) (d_p_law_alike_r5.kws K) (He.fAd K d_p_law_alike_r5.at_) fd := T.says.def_ 22 (d := d_p_law_alike_r5) rfl
theorem fun_p_law_alike_r4 (T : Txt w K mg) : ∃ fd, FunD K d_p_law_alike_r4.name d_p_law_alike_r4.qual d_p_law_alike_r4.params d_p_law_alike_r4.body d_p_law_alike_r4.scope (d_p_law_alike_r4.dvs K) (d_p_law_alike_r4.kws K) (He.fAd K d_p_law_alike_r4.at_) fd := T.says.def_ 23 (d := d_p_law_alike_r4) rfl
theorem fun_p_law_alike_r3 (T : Txt w K mg) : ∃ fd, FunD K d_p_law_alike_r3.name d_p_law_alike_r3.qual d_p_law_alike_r3.params d_p_law_alike_r3.body d_p_law_alike_r3.scope (d_p_law_alike_r3.dvs K) (d_p_law_alike_r3.kws K) (He.fAd K d_p_law_alike_r3.at_) fd := T.says.def_ 24 (d := d_p_law_alike_r3) rfl
theorem fun_p_law_alike_r2 (T : Txt w K mg) : ∃ fd, FunD K d_p_law_alike_r2.name d_p_law_alike_r2.qual d_p_law_alike_r2.params d_p_law_alike_r2.body d_p_law_alike_r2.scope (d_p_law_alike_r2.dvs K) (d_p_law_alike_r2.kws K) (He.fAd K d_p_law_alike_r2.at_) fd := T.says.def_ 25 (d := d_p_law_alike_r2) rfl
theorem fun_p_law_alike_r1 (T : Txt w K mg) : ∃ fd, FunD K d_p_law_alike_r1.name d_p_law_alike_r1.qual d_p_law_alike_r1.params d_p_law_alike_r1.body d_p_law_alike_r1.scope (d_p_law_alike_r1.dvs K) (d_p_law_alike_r1.kws K) (He.fAd K d_p_law_alike_r1.at_) fd := T.says.def_ 26 (d := d_p_law_alike_r1) rfl
theorem fun_p_law_alike (T : Txt w K mg) : ∃ fd, FunD K d_p_law_alike.name d_p_law_alike.qual d_p_law_alike.params d_p_law_alike.body d_p_law_alike.scope (d_p_law_alike.dvs K) (d_p_law_alike.kws K) (He.fAd K d_p_law_alike.at_) fd := T.says.def_ 27 (d := d_p_law_alike) rfl
theorem fun_Program_hands_o (T : Txt w K mg) : ∃ fd, FunD K d_Program_hands_o.name d_Program_hands_o.qual d_Program_hands_o.params d_Program_hands_o.body d_Program_hands_o.scope (d_Program_hands_o.dvs K) (d_Program_hands_o.kws K) (He.fAd K d_Program_hands_o.at_) fd := T.says.def_ 28 (d := d_Program_hands_o) rfl
theorem fun_Program_boxes (T : Txt w K mg) : ∃ fd, FunD K d_Program_boxes.name d_Program_boxes.qual d_Program_boxes.params d_Program_boxes.body d_Program_boxes.scope (d_Program_boxes.dvs K) (d_Program_boxes.kws K) (He.fAd K d_Program_boxes.at_) fd := T.says.def_ 29 (d := d_Program_boxes) rfl
theorem fun_Program_board (T : Txt w K mg) : ∃ fd, FunD K d_Program_board.name d_Program_board.qual d_Program_board.params d_Program_board.body d_Program_board.scope (d_Program_board.dvs K) (d_Program_board.kws K) (He.fAd K d_Program_board.at_) fd := T.says.def_ 30 (d := d_Program_board) rfl
theorem fun_Program_pegs (T : Txt w K mg) : ∃ fd, FunD K d_Program_pegs.name d_Program_pegs.qual d_Program_pegs.params d_Program_pegs.body d_Program_pegs.scope (d_Program_pegs.dvs K) (d_Program_pegs.kws K) (He.fAd K d_Program_pegs.at_) fd := T.says.def_ 31 (d := d_Program_pegs) rfl
theorem fun_law (T : Txt w K mg) : ∃ fd, FunD K d_law.name d_law.qual d_law.params d_law.body d_law.scope (d_law.dvs K) (d_law.kws K) (He.fAd K d_law.at_) fd := T.says.def_ 32 (d := d_law) rfl
end
end K03

namespace K03
open PySem PySem.Spec PyProof.Rows L2 DL
/-! ### the head -/
end K03

namespace K03
open PySem PySem.Spec PyProof.Rows L2 DL
theorem kb0 {K : PySem.W.Frag} {fd : FuncData} (D_p_law_more : FunD K d_p_law_more.name d_p_law_more.qual d_p_law_more.params d_p_law_more.body d_p_law_more.scope (d_p_law_more.dvs K) (d_p_law_more.kws K) (He.fAd K d_p_law_more.at_) fd) : KB K fd ["_law_state"] 1 [] (fun ds es => pick [(0, 0)] ds es []) := kb_all D_p_law_more rfl 1 [] [(0, 0)] fun _ _ _ _ _ _ us ws l1 l2 => match us, ws, l1, l2 with | [_], [], _, _ => rfl
theorem kb1 {K : PySem.W.Frag} {fd : FuncData} (D_p_law_forms_o : FunD K d_p_law_forms_o.name d_p_law_forms_o.qual d_p_law_forms_o.params d_p_law_forms_o.body d_p_law_forms_o.scope (d_p_law_forms_o.dvs K) (d_p_law_forms_o.kws K) (He.fAd K d_p_law_forms_o.at_) fd) : KB K fd [] 0 [] (fun ds es => pick [] ds es []) := kb_all D_p_law_forms_o rfl 0 [] [] fun _ _ _ _ _ _ us ws l1 l2 => match us, ws, l1, l2 with | [], [], _, _ => rfl
theorem kb2 {K : PySem.W.Frag} {fd : FuncData} (D_p_law_forms : FunD K d_p_law_forms.name d_p_law_forms.qual d_p_law_forms.params d_p_law_forms.body d_p_law_forms.scope (d_p_law_forms.dvs K) (d_p_law_forms.kws K) (He.fAd K d_p_law_forms.at_) fd) : KB K fd [] 0 [] (fun ds es => pick [] ds es []) := kb_all D_p_law_forms rfl 0 [] [] fun _ _ _ _ _ _ us ws l1 l2 => match us, ws, l1, l2 with | [], [], _, _ => rfl
theorem kb3 {K : PySem.W.Frag} {fd : FuncData} (D_p_law_bound : FunD K d_p_law_bound.name d_p_law_bound.qual d_p_law_bound.params d_p_law_bound.body d_p_law_bound.scope (d_p_law_bound.dvs K) (d_p_law_bound.kws K) (He.fAd K d_p_law_bound.at_) fd) : KB K fd ["_law_sign", "_law_wide", "_law_shared", "_law_many"] 4 [] (fun ds es => pick [(0, 0), (0, 1), (0, 2), (0, 3)] ds es []) := kb_all D_p_law_bound rfl 4 [] [(0, 0), (0, 1), (0, 2), (0, 3)] fun _ _ _ _ _ _ us ws l1 l2 => match us, ws, l1, l2 with | [_, _, _, _], [], _, _ => rfl
theorem kb4 {K : PySem.W.Frag} {fd : FuncData} (D_p_law_next : FunD K d_p_law_next.name d_p_law_next.qual d_p_law_next.params d_p_law_next.body d_p_law_next.scope (d_p_law_next.dvs K) (d_p_law_next.kws K) (He.fAd K d_p_law_next.at_) fd) : KB K fd ["_law_state", "_law_most"] 2 [] (fun ds es => pick [(0, 0), (0, 1)] ds es []) := kb_all D_p_law_next rfl 2 [] [(0, 0), (0, 1)] fun _ _ _ _ _ _ us ws l1 l2 => match us, ws, l1, l2 with | [_, _], [], _, _ => rfl
theorem kb5 {K : PySem.W.Frag} {fd : FuncData} (D_p_law_words : FunD K d_p_law_words.name d_p_law_words.qual d_p_law_words.params d_p_law_words.body d_p_law_words.scope (d_p_law_words.dvs K) (d_p_law_words.kws K) (He.fAd K d_p_law_words.at_) fd) : KB K fd ["_law_shared"] 1 [] (fun ds es => pick [(0, 0)] ds es []) := kb_all D_p_law_words rfl 1 [] [(0, 0)] fun _ _ _ _ _ _ us ws l1 l2 => match us, ws, l1, l2 with | [_], [], _, _ => rfl
theorem kb6 {K : PySem.W.Frag} {fd : FuncData} (D_p_law_row : FunD K d_p_law_row.name d_p_law_row.qual d_p_law_row.params d_p_law_row.body d_p_law_row.scope (d_p_law_row.dvs K) (d_p_law_row.kws K) (He.fAd K d_p_law_row.at_) fd) : KB K fd ["_law_state", "_law_word", "_law_wide", "_law_shared", "_law_many"] 5 [] (fun ds es => pick [(0, 0), (0, 1), (0, 2), (0, 3), (0, 4)] ds es []) := kb_all D_p_law_row rfl 5 [] [(0, 0), (0, 1), (0, 2), (0, 3), (0, 4)] fun _ _ _ _ _ _ us ws l1 l2 => match us, ws, l1, l2 with | [_, _, _, _, _], [], _, _ => rfl
theorem kb7 {K : PySem.W.Frag} {fd : FuncData} (D_p_law_pick : FunD K d_p_law_pick.name d_p_law_pick.qual d_p_law_pick.params d_p_law_pick.body d_p_law_pick.scope (d_p_law_pick.dvs K) (d_p_law_pick.kws K) (He.fAd K d_p_law_pick.at_) fd) : KB K fd ["_law_state", "_law_some"] 2 [] (fun ds es => pick [(0, 0), (0, 1)] ds es []) := kb_all D_p_law_pick rfl 2 [] [(0, 0), (0, 1)] fun _ _ _ _ _ _ us ws l1 l2 => match us, ws, l1, l2 with | [_, _], [], _, _ => rfl
theorem kb8 {K : PySem.W.Frag} {fd : FuncData} (D_p_law_whole : FunD K d_p_law_whole.name d_p_law_whole.qual d_p_law_whole.params d_p_law_whole.body d_p_law_whole.scope (d_p_law_whole.dvs K) (d_p_law_whole.kws K) (He.fAd K d_p_law_whole.at_) fd) : KB K fd ["_law_thing", "_law_least", "_law_most"] 3 [] (fun ds es => pick [(0, 0), (0, 1), (0, 2)] ds es []) := kb_all D_p_law_whole rfl 3 [] [(0, 0), (0, 1), (0, 2)] fun _ _ _ _ _ _ us ws l1 l2 => match us, ws, l1, l2 with | [_, _, _], [], _, _ => rfl
theorem kb9 {K : PySem.W.Frag} {fd : FuncData} (D_p_law_is_row : FunD K d_p_law_is_row.name d_p_law_is_row.qual d_p_law_is_row.params d_p_law_is_row.body d_p_law_is_row.scope (d_p_law_is_row.dvs K) (d_p_law_is_row.kws K) (He.fAd K d_p_law_is_row.at_) fd) : KB K fd ["_law_row_here", "_law_wide", "_law_shared", "_law_many"] 4 [] (fun ds es => pick [(0, 0), (0, 1), (0, 2), (0, 3)] ds es []) := kb_all D_p_law_is_row rfl 4 [] [(0, 0), (0, 1), (0, 2), (0, 3)] fun _ _ _ _ _ _ us ws l1 l2 => match us, ws, l1, l2 with | [_, _, _, _], [], _, _ => rfl
theorem kb10 {K : PySem.W.Frag} {fd : FuncData} (D_p_law_odd : FunD K d_p_law_odd.name d_p_law_odd.qual d_p_law_odd.params d_p_law_odd.body d_p_law_odd.scope (d_p_law_odd.dvs K) (d_p_law_odd.kws K) (He.fAd K d_p_law_odd.at_) fd) : KB K fd ["_law_state", "_law_row_here", "_law_wide", "_law_shared", "_law_many"] 5 [] (fun ds es => pick [(0, 0), (0, 1), (0, 2), (0, 3), (0, 4)] ds es []) := kb_all D_p_law_odd rfl 5 [] [(0, 0), (0, 1), (0, 2), (0, 3), (0, 4)] fun _ _ _ _ _ _ us ws l1 l2 => match us, ws, l1, l2 with | [_, _, _, _, _], [], _, _ => rfl
theorem kb11 {K : PySem.W.Frag} {fd : FuncData} (D_is_whole : FunD K d_is_whole.name d_is_whole.qual d_is_whole.params d_is_whole.body d_is_whole.scope (d_is_whole.dvs K) (d_is_whole.kws K) (He.fAd K d_is_whole.at_) fd) : KB K fd ["thing", "least", "most"] 3 [] (fun ds es => pick [(0, 0), (0, 1), (0, 2)] ds es []) := kb_all D_is_whole rfl 3 [] [(0, 0), (0, 1), (0, 2)] fun _ _ _ _ _ _ us ws l1 l2 => match us, ws, l1, l2 with | [_, _, _], [], _, _ => rfl
theorem kb12 {K : PySem.W.Frag} {fd : FuncData} (D_is_row : FunD K d_is_row.name d_is_row.qual d_is_row.params d_is_row.body d_is_row.scope (d_is_row.dvs K) (d_is_row.kws K) (He.fAd K d_is_row.at_) fd) : KB K fd ["thing"] 1 [] (fun ds es => pick [(0, 0)] ds es []) := kb_all D_is_row rfl 1 [] [(0, 0)] fun _ _ _ _ _ _ us ws l1 l2 => match us, ws, l1, l2 with | [_], [], _, _ => rfl
theorem kb13 {K : PySem.W.Frag} {fd : FuncData} (D_bounds_of : FunD K d_bounds_of.name d_bounds_of.qual d_bounds_of.params d_bounds_of.body d_bounds_of.scope (d_bounds_of.dvs K) (d_bounds_of.kws K) (He.fAd K d_bounds_of.at_) fd) : KB K fd ["boxes", "board", "many"] 3 [] (fun ds es => pick [(0, 0), (0, 1), (0, 2)] ds es []) := kb_all D_bounds_of rfl 3 [] [(0, 0), (0, 1), (0, 2)] fun _ _ _ _ _ _ us ws l1 l2 => match us, ws, l1, l2 with | [_, _, _], [], _, _ => rfl
theorem kb14 {K : PySem.W.Frag} {fd : FuncData} (D_fits_row : FunD K d_fits_row.name d_fits_row.qual d_fits_row.params d_fits_row.body d_fits_row.scope (d_fits_row.dvs K) (d_fits_row.kws K) (He.fAd K d_fits_row.at_) fd) : KB K fd ["thing", "bounds"] 2 [] (fun ds es => pick [(0, 0), (0, 1)] ds es []) := kb_all D_fits_row rfl 2 [] [(0, 0), (0, 1)] fun _ _ _ _ _ _ us ws l1 l2 => match us, ws, l1, l2 with | [_, _], [], _, _ => rfl
theorem kb15 {K : PySem.W.Frag} {fd : FuncData} (D_Program_init : FunD K d_Program_init.name d_Program_init.qual d_Program_init.params d_Program_init.body d_Program_init.scope (d_Program_init.dvs K) (d_Program_init.kws K) (He.fAd K d_Program_init.at_) fd) : KB K fd ["self", "hands", "boxes", "board"] 2 ["board", "boxes"] (fun ds es => pick [(0, 0), (0, 1), (1, 1), (1, 0)] ds es []) := kb_all D_Program_init rfl 2 ["board", "boxes"] [(0, 0), (0, 1), (1, 1), (1, 0)] fun _ _ _ _ _ _ us ws l1 l2 => match us, ws, l1, l2 with | [_, _], [_, _], _, _ => rfl
theorem kb16 {K : PySem.W.Frag} {fd : FuncData} (D_p_law_alike_r5 : FunD K d_p_law_alike_r5.name d_p_law_alike_r5.qual d_p_law_alike_r5.params d_p_law_alike_r5.body d_p_law_alike_r5.scope (d_p_law_alike_r5.dvs K) (d_p_law_alike_r5.kws K) (He.fAd K d_p_law_alike_r5.at_) fd) : KB K fd ["_law_found", "_law_due"] 2 [] (fun ds es => pick [(0, 0), (0, 1)] ds es []) := kb_all D_p_law_alike_r5 rfl 2 [] [(0, 0), (0, 1)] fun _ _ _ _ _ _ us ws l1 l2 => match us, ws, l1, l2 with | [_, _], [], _, _ => rfl
theorem kb17 {K : PySem.W.Frag} {fd : FuncData} (D_p_law_alike_r4 : FunD K d_p_law_alike_r4.name d_p_law_alike_r4.qual d_p_law_alike_r4.params d_p_law_alike_r4.body d_p_law_alike_r4.scope (d_p_law_alike_r4.dvs K) (d_p_law_alike_r4.kws K) (He.fAd K d_p_law_alike_r4.at_) fd) : KB K fd ["_law_found", "_law_due"] 2 [] (fun ds es => pick [(0, 0), (0, 1)] ds es []) := kb_all D_p_law_alike_r4 rfl 2 [] [(0, 0), (0, 1)] fun _ _ _ _ _ _ us ws l1 l2 => match us, ws, l1, l2 with | [_, _], [], _, _ => rfl
theorem kb18 {K : PySem.W.Frag} {fd : FuncData} (D_p_law_alike_r3 : FunD K d_p_law_alike_r3.name d_p_law_alike_r3.qual d_p_law_alike_r3.params d_p_law_alike_r3.body d_p_law_alike_r3.scope (d_p_law_alike_r3.dvs K) (d_p_law_alike_r3.kws K) (He.fAd K d_p_law_alike_r3.at_) fd) : KB K fd ["_law_found", "_law_due"] 2 [] (fun ds es => pick [(0, 0), (0, 1)] ds es []) := kb_all D_p_law_alike_r3 rfl 2 [] [(0, 0), (0, 1)] fun _ _ _ _ _ _ us ws l1 l2 => match us, ws, l1, l2 with | [_, _], [], _, _ => rfl
theorem kb19 {K : PySem.W.Frag} {fd : FuncData} (D_p_law_alike_r2 : FunD K d_p_law_alike_r2.name d_p_law_alike_r2.qual d_p_law_alike_r2.params d_p_law_alike_r2.body d_p_law_alike_r2.scope (d_p_law_alike_r2.dvs K) (d_p_law_alike_r2.kws K) (He.fAd K d_p_law_alike_r2.at_) fd) : KB K fd ["_law_found", "_law_due"] 2 [] (fun ds es => pick [(0, 0), (0, 1)] ds es []) := kb_all D_p_law_alike_r2 rfl 2 [] [(0, 0), (0, 1)] fun _ _ _ _ _ _ us ws l1 l2 => match us, ws, l1, l2 with | [_, _], [], _, _ => rfl
theorem kb20 {K : PySem.W.Frag} {fd : FuncData} (D_p_law_alike_r1 : FunD K d_p_law_alike_r1.name d_p_law_alike_r1.qual d_p_law_alike_r1.params d_p_law_alike_r1.body d_p_law_alike_r1.scope (d_p_law_alike_r1.dvs K) (d_p_law_alike_r1.kws K) (He.fAd K d_p_law_alike_r1.at_) fd) : KB K fd ["_law_found", "_law_due"] 2 [] (fun ds es => pick [(0, 0), (0, 1)] ds es []) := kb_all D_p_law_alike_r1 rfl 2 [] [(0, 0), (0, 1)] fun _ _ _ _ _ _ us ws l1 l2 => match us, ws, l1, l2 with | [_, _], [], _, _ => rfl
theorem kb21 {K : PySem.W.Frag} {fd : FuncData} (D_p_law_begin : FunD K d_p_law_begin.name d_p_law_begin.qual d_p_law_begin.params d_p_law_begin.body d_p_law_begin.scope (d_p_law_begin.dvs K) (d_p_law_begin.kws K) (He.fAd K d_p_law_begin.at_) fd) : KB K fd ["_law_script"] 1 [] (fun ds es => pick [(0, 0)] ds es []) := kb_all D_p_law_begin rfl 1 [] [(0, 0)] fun _ _ _ _ _ _ us ws l1 l2 => match us, ws, l1, l2 with | [_], [], _, _ => rfl
theorem kb22 {K : PySem.W.Frag} {fd : FuncData} (D_p_law_plan : FunD K d_p_law_plan.name d_p_law_plan.qual d_p_law_plan.params d_p_law_plan.body d_p_law_plan.scope (d_p_law_plan.dvs K) (d_p_law_plan.kws K) (He.fAd K d_p_law_plan.at_) fd) : KB K fd ["_law_state", "_law_wide", "_law_shared"] 3 [] (fun ds es => pick [(0, 0), (0, 1), (0, 2)] ds es []) := kb_all D_p_law_plan rfl 3 [] [(0, 0), (0, 1), (0, 2)] fun _ _ _ _ _ _ us ws l1 l2 => match us, ws, l1, l2 with | [_, _, _], [], _, _ => rfl
theorem kb23 {K : PySem.W.Frag} {fd : FuncData} (D_p_law_spoilt : FunD K d_p_law_spoilt.name d_p_law_spoilt.qual d_p_law_spoilt.params d_p_law_spoilt.body d_p_law_spoilt.scope (d_p_law_spoilt.dvs K) (d_p_law_spoilt.kws K) (He.fAd K d_p_law_spoilt.at_) fd) : KB K fd ["_law_state", "_law_plan_here", "_law_wide", "_law_shared"] 4 [] (fun ds es => pick [(0, 0), (0, 1), (0, 2), (0, 3)] ds es []) := kb_all D_p_law_spoilt rfl 4 [] [(0, 0), (0, 1), (0, 2), (0, 3)] fun _ _ _ _ _ _ us ws l1 l2 => match us, ws, l1, l2 with | [_, _, _, _], [], _, _ => rfl
theorem kb24 {K : PySem.W.Frag} {fd : FuncData} (D_p_law_first_bad : FunD K d_p_law_first_bad.name d_p_law_first_bad.qual d_p_law_first_bad.params d_p_law_first_bad.body d_p_law_first_bad.scope (d_p_law_first_bad.dvs K) (d_p_law_first_bad.kws K) (He.fAd K d_p_law_first_bad.at_) fd) : KB K fd ["_law_plan_here", "_law_wide", "_law_shared"] 3 [] (fun ds es => pick [(0, 0), (0, 1), (0, 2)] ds es []) := kb_all D_p_law_first_bad rfl 3 [] [(0, 0), (0, 1), (0, 2)] fun _ _ _ _ _ _ us ws l1 l2 => match us, ws, l1, l2 with | [_, _, _], [], _, _ => rfl
theorem kb25 {K : PySem.W.Frag} {fd : FuncData} (D_p_law_made : FunD K d_p_law_made.name d_p_law_made.qual d_p_law_made.params d_p_law_made.body d_p_law_made.scope (d_p_law_made.dvs K) (d_p_law_made.kws K) (He.fAd K d_p_law_made.at_) fd) : KB K fd ["_law_plan_here", "_law_wide", "_law_shared"] 3 [] (fun ds es => pick [(0, 0), (0, 1), (0, 2)] ds es []) := kb_all D_p_law_made rfl 3 [] [(0, 0), (0, 1), (0, 2)] fun _ _ _ _ _ _ us ws l1 l2 => match us, ws, l1, l2 with | [_, _, _], [], _, _ => rfl
theorem kb26 {K : PySem.W.Frag} {fd : FuncData} (D_p_law_alike : FunD K d_p_law_alike.name d_p_law_alike.qual d_p_law_alike.params d_p_law_alike.body d_p_law_alike.scope (d_p_law_alike.dvs K) (d_p_law_alike.kws K) (He.fAd K d_p_law_alike.at_) fd) : KB K fd ["_law_found", "_law_due"] 2 [] (fun ds es => pick [(0, 0), (0, 1)] ds es []) := kb_all D_p_law_alike rfl 2 [] [(0, 0), (0, 1)] fun _ _ _ _ _ _ us ws l1 l2 => match us, ws, l1, l2 with | [_, _], [], _, _ => rfl
theorem kb27 {K : PySem.W.Frag} {fd : FuncData} (D_Program_hands_o : FunD K d_Program_hands_o.name d_Program_hands_o.qual d_Program_hands_o.params d_Program_hands_o.body d_Program_hands_o.scope (d_Program_hands_o.dvs K) (d_Program_hands_o.kws K) (He.fAd K d_Program_hands_o.at_) fd) : KB K fd ["self"] 1 [] (fun ds es => pick [(0, 0)] ds es []) := kb_all D_Program_hands_o rfl 1 [] [(0, 0)] fun _ _ _ _ _ _ us ws l1 l2 => match us, ws, l1, l2 with | [_], [], _, _ => rfl
theorem kb28 {K : PySem.W.Frag} {fd : FuncData} (D_Program_boxes : FunD K d_Program_boxes.name d_Program_boxes.qual d_Program_boxes.params d_Program_boxes.body d_Program_boxes.scope (d_Program_boxes.dvs K) (d_Program_boxes.kws K) (He.fAd K d_Program_boxes.at_) fd) : KB K fd ["self"] 1 [] (fun ds es => pick [(0, 0)] ds es []) := kb_all D_Program_boxes rfl 1 [] [(0, 0)] fun _ _ _ _ _ _ us ws l1 l2 => match us, ws, l1, l2 with | [_], [], _, _ => rfl
theorem kb29 {K : PySem.W.Frag} {fd : FuncData} (D_Program_board : FunD K d_Program_board.name d_Program_board.qual d_Program_board.params d_Program_board.body d_Program_board.scope (d_Program_board.dvs K) (d_Program_board.kws K) (He.fAd K d_Program_board.at_) fd) : KB K fd ["self"] 1 [] (fun ds es => pick [(0, 0)] ds es []) := kb_all D_Program_board rfl 1 [] [(0, 0)] fun _ _ _ _ _ _ us ws l1 l2 => match us, ws, l1, l2 with | [_], [], _, _ => rfl
theorem kb30 {K : PySem.W.Frag} {fd : FuncData} (D_Program_pegs : FunD K d_Program_pegs.name d_Program_pegs.qual d_Program_pegs.params d_Program_pegs.body d_Program_pegs.scope (d_Program_pegs.dvs K) (d_Program_pegs.kws K) (He.fAd K d_Program_pegs.at_) fd) : KB K fd ["self"] 1 [] (fun ds es => pick [(0, 0)] ds es []) := kb_all D_Program_pegs rfl 1 [] [(0, 0)] fun _ _ _ _ _ _ us ws l1 l2 => match us, ws, l1, l2 with | [_], [], _, _ => rfl
theorem ok_p_law_begin {P : Program} {w : World} {K : PySem.W.Frag} {mg : Str → Option Value} {base : Heap} (T : Txt w K mg) : ∃ fd, FunD K d_p_law_begin.name d_p_law_begin.qual d_p_law_begin.params d_p_law_begin.body d_p_law_begin.scope (d_p_law_begin.dvs K) (d_p_law_begin.kws K) (He.fAd K d_p_law_begin.at_) fd ∧
    FnG P w K mg base 1 (He.fAd K d_p_law_begin.at_) fd ["_law_script"] (spD K mg 1 S_p_law_begin) := by
  have b_list := free_list T
  obtain ⟨fd, F⟩ := fun_p_law_begin T
  refine ⟨fd, F, fnG (N := N_p_law_begin) (ps := ["_law_script"]) (k := 0) (g := m_p_law_begin) F ⟨rfl, rfl, rfl, by decide +kernel, rfl, by decide +kernel, by decide +kernel⟩ fun cdv A outer s H E C => ?_⟩
  exact (dss_one (ds_ret (de_disp (dps_cons de_str de_int (dps_cons de_str de_int (dps_cons de_str (de_list C rfl b_list (da_cons (de_var (pv 0)) da_nil)) dps_nil))))))
theorem ok_p_law_more {P : Program} {w : World} {K : PySem.W.Frag} {mg : Str → Option Value} {base : Heap} (T : Txt w K mg) : ∃ fd, FunD K d_p_law_more.name d_p_law_more.qual d_p_law_more.params d_p_law_more.body d_p_law_more.scope (d_p_law_more.dvs K) (d_p_law_more.kws K) (He.fAd K d_p_law_more.at_) fd ∧
    FnG P w K mg base 1 (He.fAd K d_p_law_more.at_) fd ["_law_state"] (spD K mg 1 S_p_law_more) := by
  have b_abs := free_abs T
  have b_enumerate := free_enumerate T
  have b_len := free_len T
  obtain ⟨fd, F⟩ := fun_p_law_more T
  refine ⟨fd, F, fnG (N := N_p_law_more) (ps := ["_law_state"]) (k := 0) (g := m_p_law_more) F ⟨rfl, rfl, rfl, by decide +kernel, rfl, by decide +kernel, by decide +kernel⟩ fun cdv A outer s H E C => ?_⟩
  refine dss_cons (ds_set C (i := 1) rfl (by first | exact Or.inl rfl | exact Or.inr rfl) (de_sub1 C (de_var (pv 0)) de_str)) ?_
  refine dss_cons (ds_put C (de_var (pv 0)) de_str (de_add (de_var (pv 1)) de_int)) ?_
  refine dss_cons (ds_set C (i := 2) rfl (by first | exact Or.inl rfl | exact Or.inr rfl) (de_sub1 C (de_var (pv 0)) de_str)) ?_
  refine dss_cons (ds_set C (i := 3) rfl (by first | exact Or.inl rfl | exact Or.inr rfl) (de_ifExp (dt_cmp (opr_ne C) opd_ne (de_var (pv 2)) (de_lst da_nil) (nomark _)) (de_abs rfl b_abs (da_cons (de_sub1 C (de_var (pv 2)) (de_mod (de_var (pv 1)) (de_len rfl b_len (da_cons (de_var (pv 2)) da_nil)))) da_nil)) de_int)) ?_
  refine dss_cons (ds_if (DW.dt (dw_and (dt_cmp op_lt opd_lt (de_var (pv 1)) (de_len rfl b_len (da_cons (de_var (pv 2)) da_nil)) (nomark _)) (dw_and1 (dt_cmp op_ge opd_ge (de_var (pv 3)) (de_pow de_int de_int) (nomark _))))) (dss_one (ds_ret (de_sub (de_var (pv 3)) (de_pow de_int de_int)))) dss_nil) ?_
  refine dss_cons (ds_set C (i := 4) rfl (by first | exact Or.inl rfl | exact Or.inr rfl) de_int) ?_
  refine dss_cons (ds_set C (i := 5) rfl (by first | exact Or.inl rfl | exact Or.inr rfl) (de_lst (da_cons de_int (da_cons de_int (da_cons de_int (da_cons de_int (da_cons de_int (da_cons de_int (da_cons de_int (da_cons de_int da_nil)))))))))) ?_
  exact (dss_cons (ds_for C (di_enum rfl b_enumerate (da_cons (de_var (pv 5)) da_nil)) (dg_tup C.calm (dgs_cons (dg_name (i := 6) (pg_name C.nd rfl (by first | exact Or.inl rfl | exact Or.inr rfl))) (dgs_cons (dg_name (i := 7) (pg_name C.nd rfl (by first | exact Or.inl rfl | exact Or.inr rfl))) dgs_nil))) (dss_cons (ds_set C (i := 8) rfl (by first | exact Or.inl rfl | exact Or.inr rfl) (de_mod (de_add (de_add (de_mul (de_mod (de_var (pv 3)) (de_var (pv 7))) de_int) (de_mul de_int (de_add (de_var (pv 1)) de_int))) (de_mul (de_mul de_int (de_var (pv 6))) (de_var (pv 6)))) (de_var (pv 7)))) (dss_cons (ds_set C (i := 8) rfl (by first | exact Or.inl rfl | exact Or.inr rfl) (de_mod (de_add (de_add (de_mul (de_var (pv 8)) (de_var (pv 8))) (de_mul de_int (de_var (pv 1)))) (de_var (pv 6))) (de_var (pv 7)))) (dss_one (ds_set C (i := 4) rfl (by first | exact Or.inl rfl | exact Or.inr rfl) (de_add (de_mul (de_var (pv 4)) de_int) (de_mod (de_mul (de_var (pv 8)) (de_add (de_add (de_var (pv 8)) (de_var (pv 6))) de_int)) (de_var (pv 7))))))))) (dss_one (ds_ret (de_var (pv 4)))))
theorem ok_p_law_next {P : Program} {w : World} {K : PySem.W.Frag} {mg : Str → Option Value} {base : Heap} (T : Txt w K mg) : ∃ fd, FunD K d_p_law_next.name d_p_law_next.qual d_p_law_next.params d_p_law_next.body d_p_law_next.scope (d_p_law_next.dvs K) (d_p_law_next.kws K) (He.fAd K d_p_law_next.at_) fd ∧
    FnG P w K mg base 2 (He.fAd K d_p_law_next.at_) fd ["_law_state", "_law_most"] (spD K mg 2 S_p_law_next) := by
  obtain ⟨fd_p_law_more, D_p_law_more, G_p_law_more⟩ := ok_p_law_more (P := P) (w := w) (base := base) T
  have m_p_law_more := glo_p_law_more T
  obtain ⟨fd, F⟩ := fun_p_law_next T
  refine ⟨fd, F, fnG (N := N_p_law_next) (ps := ["_law_state", "_law_most"]) (k := 1) (g := m_p_law_next) F ⟨rfl, rfl, rfl, by decide +kernel, rfl, by decide +kernel, by decide +kernel⟩ fun cdv A outer s H E C => ?_⟩
  exact (dss_cons (ds_if (dt_cmp (opr_eq C) opd_eq (de_sub1 C (de_var (pv 0)) de_str) de_int (nomark _)) (dss_one (ds_put C (de_var (pv 0)) de_str (de_callL (x := "_law_more") G_p_law_more callOk_share C rfl m_p_law_more D_p_law_more.kp (kb0 D_p_law_more) (da_cons (de_var (pv 0)) da_nil) dkw_nil))) dss_nil) (dss_cons (ds_set C (i := 2) rfl (by first | exact Or.inl rfl | exact Or.inr rfl) (de_mod (de_sub1 C (de_var (pv 0)) de_str) (de_var (pv 1)))) (dss_cons (ds_augD C inop_fdivW opd_fdivW (de_var (pv 0)) de_str (de_var (pv 1))) (dss_one (ds_ret (de_var (pv 2)))))))
theorem ok_p_law_forms_o {P : Program} {w : World} {K : PySem.W.Frag} {mg : Str → Option Value} {base : Heap} (T : Txt w K mg) : ∃ fd, FunD K d_p_law_forms_o.name d_p_law_forms_o.qual d_p_law_forms_o.params d_p_law_forms_o.body d_p_law_forms_o.scope (d_p_law_forms_o.dvs K) (d_p_law_forms_o.kws K) (He.fAd K d_p_law_forms_o.at_) fd ∧
    FnG P w K mg base 1 (He.fAd K d_p_law_forms_o.at_) fd [] (spD K mg 0 S_p_law_forms_o) := by
  obtain ⟨fd, F⟩ := fun_p_law_forms_o T
  refine ⟨fd, F, fnG (N := N_p_law_forms_o) (ps := []) (k := 0) (g := m_p_law_forms_o) F ⟨rfl, rfl, rfl, by decide +kernel, rfl, by decide +kernel, by decide +kernel⟩ fun cdv A outer s H E C => ?_⟩
  exact (dss_cons (ds_set C (i := 0) rfl (by first | exact Or.inl rfl | exact Or.inr rfl) (de_disp (dps_cons de_str de_str (dps_cons de_str de_str (dps_cons de_str de_str (dps_cons de_str de_str (dps_cons de_str de_str (dps_cons de_str de_str (dps_cons de_str de_str dps_nil))))))))) (dss_cons (ds_expr (de_update (de_var (pv 0)) (da_cons (de_disp (dps_cons de_str de_str (dps_cons de_str de_str (dps_cons de_str de_str (dps_cons de_str de_str (dps_cons de_str de_str (dps_cons de_str de_str (dps_cons de_str de_str dps_nil)))))))) da_nil))) (dss_cons (ds_expr (de_update (de_var (pv 0)) (da_cons (de_disp (dps_cons de_str de_str (dps_cons de_str de_str (dps_cons de_str de_str (dps_cons de_str de_str (dps_cons de_str de_str (dps_cons de_str de_str dps_nil))))))) da_nil))) (dss_one (ds_ret (de_var (pv 0)))))))
theorem ok_p_law_words {P : Program} {w : World} {K : PySem.W.Frag} {mg : Str → Option Value} {base : Heap} (T : Txt w K mg) : ∃ fd, FunD K d_p_law_words.name d_p_law_words.qual d_p_law_words.params d_p_law_words.body d_p_law_words.scope (d_p_law_words.dvs K) (d_p_law_words.kws K) (He.fAd K d_p_law_words.at_) fd ∧
    FnG P w K mg base 2 (He.fAd K d_p_law_words.at_) fd ["_law_shared"] (spD K mg 1 S_p_law_words) := by
  obtain ⟨fd_p_law_forms_o, D_p_law_forms_o, G_p_law_forms_o⟩ := ok_p_law_forms_o (P := P) (w := w) (base := base) T
  have m_p_law_forms_o := glo_p_law_forms_o T
  obtain ⟨fd, F⟩ := fun_p_law_words T
  refine ⟨fd, F, fnG (N := N_p_law_words) (ps := ["_law_shared"]) (k := 1) (g := m_p_law_words) F ⟨rfl, rfl, rfl, by decide +kernel, rfl, by decide +kernel, by decide +kernel⟩ fun cdv A outer s H E C => ?_⟩
  exact (dss_one (ds_ret (de_lcB C finL_ok (di_keysNew0 (x := "_law_forms") G_p_law_forms_o C rfl m_p_law_forms_o D_p_law_forms_o.kp (kb1 D_p_law_forms_o) dkw_nil) (show BlkOk N_p_law_words (defScope s_p_law_words) _ [("_law_word", 1)] from ⟨rfl, by decide +kernel, by decide +kernel, by decide +kernel, by decide +kernel⟩) (fun _ _ _ _ _ C1 => (dg_name (i := 1) (pg_name C1.nd rfl (by first | exact Or.inl rfl | exact Or.inr rfl)))) (fun _ _ _ _ _ C1 => (dts_one (DW.dt (dw_or (dt_cmp op_gt opd_gt (de_var (pv 0)) de_int (nomark _)) (dw_or1 (dt_cmp (opr_notIn C1) opd_notIn (de_var (pv 1)) (de_tup (da_cons de_str (da_cons de_str da_nil))) (by with_unfolding_all rfl))))))) (fun _ _ _ _ _ C1 => (de_var (pv 1))))))
theorem ok_p_law_forms {P : Program} {w : World} {K : PySem.W.Frag} {mg : Str → Option Value} {base : Heap} (T : Txt w K mg) : ∃ fd, FunD K d_p_law_forms.name d_p_law_forms.qual d_p_law_forms.params d_p_law_forms.body d_p_law_forms.scope (d_p_law_forms.dvs K) (d_p_law_forms.kws K) (He.fAd K d_p_law_forms.at_) fd ∧
    FnG P w K mg base 1 (He.fAd K d_p_law_forms.at_) fd [] (spD K mg 0 S_p_law_forms) := by
  obtain ⟨fd, F⟩ := fun_p_law_forms T
  refine ⟨fd, F, fnG (N := N_p_law_forms) (ps := []) (k := 0) (g := m_p_law_forms) F ⟨rfl, rfl, rfl, by decide +kernel, rfl, by decide +kernel, by decide +kernel⟩ fun cdv A outer s H E C => ?_⟩
  exact (dss_cons (ds_set C (i := 0) rfl (by first | exact Or.inl rfl | exact Or.inr rfl) (de_disp (dps_cons de_str de_str (dps_cons de_str de_str (dps_cons de_str de_str (dps_cons de_str de_str (dps_cons de_str de_str (dps_cons de_str de_str (dps_cons de_str de_str dps_nil))))))))) (dss_cons (ds_expr (de_update (de_var (pv 0)) (da_cons (de_disp (dps_cons de_str de_str (dps_cons de_str de_str (dps_cons de_str de_str (dps_cons de_str de_str (dps_cons de_str de_str (dps_cons de_str de_str (dps_cons de_str de_str dps_nil)))))))) da_nil))) (dss_cons (ds_expr (de_update (de_var (pv 0)) (da_cons (de_disp (dps_cons de_str de_str (dps_cons de_str de_str (dps_cons de_str de_str (dps_cons de_str de_str (dps_cons de_str de_str (dps_cons de_str de_str dps_nil))))))) da_nil))) (dss_one (ds_ret (de_frz (de_var (pv 0))))))))
theorem ok_p_law_bound {P : Program} {w : World} {K : PySem.W.Frag} {mg : Str → Option Value} {base : Heap} (T : Txt w K mg) : ∃ fd, FunD K d_p_law_bound.name d_p_law_bound.qual d_p_law_bound.params d_p_law_bound.body d_p_law_bound.scope (d_p_law_bound.dvs K) (d_p_law_bound.kws K) (He.fAd K d_p_law_bound.at_) fd ∧
    FnG P w K mg base 1 (He.fAd K d_p_law_bound.at_) fd ["_law_sign", "_law_wide", "_law_shared", "_law_many"] (spD K mg 4 S_p_law_bound) := by
  obtain ⟨fd, F⟩ := fun_p_law_bound T
  refine ⟨fd, F, fnG (N := N_p_law_bound) (ps := ["_law_sign", "_law_wide", "_law_shared", "_law_many"]) (k := 0) (g := m_p_law_bound) F ⟨rfl, rfl, rfl, by decide +kernel, rfl, by decide +kernel, by decide +kernel⟩ fun cdv A outer s H E C => ?_⟩
  exact (dss_cons (ds_set C (i := 4) rfl (by first | exact Or.inl rfl | exact Or.inr rfl) (de_disp (dps_cons de_str (de_sub (de_var (pv 1)) de_int) (dps_cons de_str (de_pow de_int de_int) (dps_cons de_str de_int (dps_cons de_str de_int (dps_cons de_str (de_sub (de_var (pv 2)) de_int) (dps_cons de_str (de_var (pv 3)) dps_nil)))))))) (dss_one (ds_ret (de_tup (da_cons (de_ifExp (dt_cmp (opr_eq C) opd_eq (de_var (pv 0)) de_str (nomark _)) (de_neg (de_pow de_int de_int)) de_int) (da_cons (de_sub1 C (de_var (pv 4)) (de_var (pv 0))) da_nil))))))
theorem ok_p_law_row {P : Program} {w : World} {K : PySem.W.Frag} {mg : Str → Option Value} {base : Heap} (T : Txt w K mg) : ∃ fd, FunD K d_p_law_row.name d_p_law_row.qual d_p_law_row.params d_p_law_row.body d_p_law_row.scope (d_p_law_row.dvs K) (d_p_law_row.kws K) (He.fAd K d_p_law_row.at_) fd ∧
    FnG P w K mg base 3 (He.fAd K d_p_law_row.at_) fd ["_law_state", "_law_word", "_law_wide", "_law_shared", "_law_many"] (spD K mg 5 S_p_law_row) := by
  obtain ⟨fd_p_law_forms, D_p_law_forms, G_p_law_forms⟩ := ok_p_law_forms (P := P) (w := w) (base := base) T
  have m_p_law_forms := glo_p_law_forms T
  obtain ⟨fd_p_law_bound, D_p_law_bound, G_p_law_bound⟩ := ok_p_law_bound (P := P) (w := w) (base := base) T
  have m_p_law_bound := glo_p_law_bound T
  obtain ⟨fd_p_law_next, D_p_law_next, G_p_law_next⟩ := ok_p_law_next (P := P) (w := w) (base := base) T
  have m_p_law_next := glo_p_law_next T
  have b_min := free_min T
  have b_tuple := free_tuple T
  obtain ⟨fd, F⟩ := fun_p_law_row T
  refine ⟨fd, F, fnG (N := N_p_law_row) (ps := ["_law_state", "_law_word", "_law_wide", "_law_shared", "_law_many"]) (k := 2) (g := m_p_law_row) F ⟨rfl, rfl, rfl, by decide +kernel, rfl, by decide +kernel, by decide +kernel⟩ fun cdv A outer s H E C => ?_⟩
  refine dss_cons (ds_set C (i := 5) rfl (by first | exact Or.inl rfl | exact Or.inr rfl) (de_lstO (da_cons (de_var (pv 1)) da_nil))) ?_
  refine dss_cons ?_ ?_
  · refine ds_for C (di_signs (de_sub1 C (de_call0L (x := "_law_forms") G_p_law_forms callOk_sub C rfl m_p_law_forms D_p_law_forms.kp (kb2 D_p_law_forms) dkw_nil) (de_var (pv 1)))) (dg_name (i := 6) (pg_name C.nd rfl (by first | exact Or.inl rfl | exact Or.inr rfl))) ?_
    refine dss_cons (ds_asg (de_callL (x := "_law_bound") G_p_law_bound callOk_sub C rfl m_p_law_bound D_p_law_bound.kp (kb3 D_p_law_bound) (da_cons (de_var (pv 6)) (da_cons (de_var (pv 2)) (da_cons (de_var (pv 3)) (da_cons (de_var (pv 4)) da_nil)))) dkw_nil) (dg_tup C.calm (dgs_cons (dg_name (i := 7) (pg_name C.nd rfl (by first | exact Or.inl rfl | exact Or.inr rfl))) (dgs_cons (dg_name (i := 8) (pg_name C.nd rfl (by first | exact Or.inl rfl | exact Or.inr rfl))) dgs_nil)))) ?_
    exact (dss_one (ds_if (dt_cmp (opr_eq C) opd_eq (de_callL (x := "_law_next") G_p_law_next callOk_share C rfl m_p_law_next D_p_law_next.kp (kb4 D_p_law_next) (da_cons (de_var (pv 0)) (da_cons de_int da_nil)) dkw_nil) de_int (nomark _)) (dss_one (ds_expr (de_append (de_var (pv 5)) (da_cons (de_add (de_var (pv 7)) (de_callL (x := "_law_next") G_p_law_next callOk_share C rfl m_p_law_next D_p_law_next.kp (kb4 D_p_law_next) (da_cons (de_var (pv 0)) (da_cons (de_add (de_sub (de_var (pv 8)) (de_var (pv 7))) de_int) da_nil)) dkw_nil)) da_nil)))) (dss_one (ds_expr (de_append (de_var (pv 5)) (da_cons (de_callL (x := "_law_next") G_p_law_next callOk_share C rfl m_p_law_next D_p_law_next.kp (kb4 D_p_law_next) (da_cons (de_var (pv 0)) (da_cons (de_min C rfl b_min (da_cons de_int (da_cons (de_add (de_var (pv 8)) de_int) da_nil))) da_nil)) dkw_nil) da_nil))))))
  exact (dss_one (ds_ret (de_tuple rfl b_tuple (da_cons (de_var (pv 5)) da_nil))))
theorem ok_p_law_pick {P : Program} {w : World} {K : PySem.W.Frag} {mg : Str → Option Value} {base : Heap} (T : Txt w K mg) : ∃ fd, FunD K d_p_law_pick.name d_p_law_pick.qual d_p_law_pick.params d_p_law_pick.body d_p_law_pick.scope (d_p_law_pick.dvs K) (d_p_law_pick.kws K) (He.fAd K d_p_law_pick.at_) fd ∧
    FnG P w K mg base 3 (He.fAd K d_p_law_pick.at_) fd ["_law_state", "_law_some"] (spD K mg 2 S_p_law_pick) := by
  obtain ⟨fd_p_law_next, D_p_law_next, G_p_law_next⟩ := ok_p_law_next (P := P) (w := w) (base := base) T
  have m_p_law_next := glo_p_law_next T
  have b_len := free_len T
  obtain ⟨fd, F⟩ := fun_p_law_pick T
  refine ⟨fd, F, fnG (N := N_p_law_pick) (ps := ["_law_state", "_law_some"]) (k := 2) (g := m_p_law_pick) F ⟨rfl, rfl, rfl, by decide +kernel, rfl, by decide +kernel, by decide +kernel⟩ fun cdv A outer s H E C => ?_⟩
  exact (dss_one (ds_ret (de_sub1 C (de_var (pv 1)) (de_callL (x := "_law_next") G_p_law_next callOk_share C rfl m_p_law_next D_p_law_next.kp (kb4 D_p_law_next) (da_cons (de_var (pv 0)) (da_cons (de_len rfl b_len (da_cons (de_var (pv 1)) da_nil)) da_nil)) dkw_nil))))
theorem ok_p_law_plan {P : Program} {w : World} {K : PySem.W.Frag} {mg : Str → Option Value} {base : Heap} (T : Txt w K mg) : ∃ fd, FunD K d_p_law_plan.name d_p_law_plan.qual d_p_law_plan.params d_p_law_plan.body d_p_law_plan.scope (d_p_law_plan.dvs K) (d_p_law_plan.kws K) (He.fAd K d_p_law_plan.at_) fd ∧
    FnG P w K mg base 4 (He.fAd K d_p_law_plan.at_) fd ["_law_state", "_law_wide", "_law_shared"] (spD K mg 3 S_p_law_plan) := by
  obtain ⟨fd_p_law_words, D_p_law_words, G_p_law_words⟩ := ok_p_law_words (P := P) (w := w) (base := base) T
  have m_p_law_words := glo_p_law_words T
  obtain ⟨fd_p_law_next, D_p_law_next, G_p_law_next⟩ := ok_p_law_next (P := P) (w := w) (base := base) T
  have m_p_law_next := glo_p_law_next T
  obtain ⟨fd_p_law_row, D_p_law_row, G_p_law_row⟩ := ok_p_law_row (P := P) (w := w) (base := base) T
  have m_p_law_row := glo_p_law_row T
  obtain ⟨fd_p_law_pick, D_p_law_pick, G_p_law_pick⟩ := ok_p_law_pick (P := P) (w := w) (base := base) T
  have m_p_law_pick := glo_p_law_pick T
  have b_range := free_range T
  obtain ⟨fd, F⟩ := fun_p_law_plan T
  refine ⟨fd, F, fnG (N := N_p_law_plan) (ps := ["_law_state", "_law_wide", "_law_shared"]) (k := 3) (g := m_p_law_plan) F ⟨rfl, rfl, rfl, by decide +kernel, rfl, by decide +kernel, by decide +kernel⟩ fun cdv A outer s H E C => ?_⟩
  refine dss_cons (ds_set C (i := 3) rfl (by first | exact Or.inl rfl | exact Or.inr rfl) (de_lstO da_nil)) ?_
  refine dss_cons (ds_set C (i := 4) rfl (by first | exact Or.inl rfl | exact Or.inr rfl) (de_callL (x := "_law_words") G_p_law_words callOk_sub C rfl m_p_law_words D_p_law_words.kp (kb5 D_p_law_words) (da_cons (de_var (pv 2)) da_nil) dkw_nil)) ?_
  refine dss_cons ?_ ?_
  · refine ds_for C (di_range1 rfl b_range (da_cons (de_add de_int (de_callL (x := "_law_next") G_p_law_next callOk_share C rfl m_p_law_next D_p_law_next.kp (kb4 D_p_law_next) (da_cons (de_var (pv 0)) (da_cons de_int da_nil)) dkw_nil)) da_nil)) (dg_name (i := 5) (pg_name C.nd rfl (by first | exact Or.inl rfl | exact Or.inr rfl))) ?_
    refine dss_cons (ds_set C (i := 6) rfl (by first | exact Or.inl rfl | exact Or.inr rfl) (de_ifExp (dt_cmp (opr_eq C) opd_eq (de_callL (x := "_law_next") G_p_law_next callOk_share C rfl m_p_law_next D_p_law_next.kp (kb4 D_p_law_next) (da_cons (de_var (pv 0)) (da_cons de_int da_nil)) dkw_nil) de_int (nomark _)) (de_add de_int (de_callL (x := "_law_next") G_p_law_next callOk_share C rfl m_p_law_next D_p_law_next.kp (kb4 D_p_law_next) (da_cons (de_var (pv 0)) (da_cons de_int da_nil)) dkw_nil)) (de_callL (x := "_law_next") G_p_law_next callOk_share C rfl m_p_law_next D_p_law_next.kp (kb4 D_p_law_next) (da_cons (de_var (pv 0)) (da_cons de_int da_nil)) dkw_nil))) ?_
    exact (dss_one (ds_expr (de_append (de_var (pv 3)) (da_cons (de_lcB C finO_ok (di_range1 rfl b_range (da_cons (de_var (pv 6)) da_nil)) (show BlkOk N_p_law_plan (defScope s_p_law_plan) _ [("_law_at", 7)] from ⟨rfl, by decide +kernel, by decide +kernel, by decide +kernel, by decide +kernel⟩) (fun _ _ _ _ _ C1 => (dg_name (i := 7) (pg_name C1.nd rfl (by first | exact Or.inl rfl | exact Or.inr rfl)))) (fun _ _ _ _ _ C1 => dts_nil) (fun _ _ _ _ _ C1 => (de_callL (x := "_law_row") G_p_law_row callOk_share C1 rfl m_p_law_row D_p_law_row.kp (kb6 D_p_law_row) (da_cons (de_var (pv 0)) (da_cons (de_callL (x := "_law_pick") G_p_law_pick callOk_share C1 rfl m_p_law_pick D_p_law_pick.kp (kb7 D_p_law_pick) (da_cons (de_var (pv 0)) (da_cons (de_var (pv 4)) da_nil)) dkw_nil) (da_cons (de_var (pv 1)) (da_cons (de_var (pv 2)) (da_cons (de_var (pv 6)) da_nil))))) dkw_nil))) da_nil))))
  exact (dss_one (ds_ret (de_var (pv 3))))
theorem ok_p_law_whole {P : Program} {w : World} {K : PySem.W.Frag} {mg : Str → Option Value} {base : Heap} (T : Txt w K mg) : ∃ fd, FunD K d_p_law_whole.name d_p_law_whole.qual d_p_law_whole.params d_p_law_whole.body d_p_law_whole.scope (d_p_law_whole.dvs K) (d_p_law_whole.kws K) (He.fAd K d_p_law_whole.at_) fd ∧
    FnG P w K mg base 1 (He.fAd K d_p_law_whole.at_) fd ["_law_thing", "_law_least", "_law_most"] (spD K mg 3 S_p_law_whole) := by
  have b_bool := free_bool T
  have b_int := free_int T
  have b_isinstance := free_isinstance T
  obtain ⟨fd, F⟩ := fun_p_law_whole T
  refine ⟨fd, F, fnG (N := N_p_law_whole) (ps := ["_law_thing", "_law_least", "_law_most"]) (k := 0) (g := m_p_law_whole) F ⟨rfl, rfl, rfl, by decide +kernel, rfl, by decide +kernel, by decide +kernel⟩ fun cdv A outer s H E C => ?_⟩
  exact (dss_one (ds_ret (de_and (de_isi rfl b_isinstance (da_cons (de_var (pv 0)) (da_cons (de_ty rfl b_int (by rfl)) da_nil))) (de_and (de_not (de_isi rfl b_isinstance (da_cons (de_var (pv 0)) (da_cons (de_ty rfl b_bool (by rfl)) da_nil)))) (de_one (de_chain op_le op_le opd_le opd_le (de_var (pv 1)) (de_var (pv 0)) (de_var (pv 2))))))))
theorem ok_p_law_is_row {P : Program} {w : World} {K : PySem.W.Frag} {mg : Str → Option Value} {base : Heap} (T : Txt w K mg) : ∃ fd, FunD K d_p_law_is_row.name d_p_law_is_row.qual d_p_law_is_row.params d_p_law_is_row.body d_p_law_is_row.scope (d_p_law_is_row.dvs K) (d_p_law_is_row.kws K) (He.fAd K d_p_law_is_row.at_) fd ∧
    FnG P w K mg base 2 (He.fAd K d_p_law_is_row.at_) fd ["_law_row_here", "_law_wide", "_law_shared", "_law_many"] (spD K mg 4 S_p_law_is_row) := by
  obtain ⟨fd_p_law_forms, D_p_law_forms, G_p_law_forms⟩ := ok_p_law_forms (P := P) (w := w) (base := base) T
  have m_p_law_forms := glo_p_law_forms T
  obtain ⟨fd_p_law_bound, D_p_law_bound, G_p_law_bound⟩ := ok_p_law_bound (P := P) (w := w) (base := base) T
  have m_p_law_bound := glo_p_law_bound T
  obtain ⟨fd_p_law_whole, D_p_law_whole, G_p_law_whole⟩ := ok_p_law_whole (P := P) (w := w) (base := base) T
  have m_p_law_whole := glo_p_law_whole T
  have b_isinstance := free_isinstance T
  have b_len := free_len T
  have b_str := free_str T
  have b_tuple := free_tuple T
  have b_zip := free_zip T
  obtain ⟨fd, F⟩ := fun_p_law_is_row T
  refine ⟨fd, F, fnG (N := N_p_law_is_row) (ps := ["_law_row_here", "_law_wide", "_law_shared", "_law_many"]) (k := 1) (g := m_p_law_is_row) F ⟨rfl, rfl, rfl, by decide +kernel, rfl, by decide +kernel, by decide +kernel⟩ fun cdv A outer s H E C => ?_⟩
  refine dss_cons (ds_if (DW.dt (dw_or (dt_not (dt_val (de_isi rfl b_isinstance (da_cons (de_var (pv 0)) (da_cons (de_ty rfl b_tuple (by rfl)) da_nil))))) (dw_or (dt_cmp (opr_eq C) opd_eq (de_var (pv 0)) (de_tup da_nil) (nomark _)) (dw_or (dt_not (dt_val (de_isi rfl b_isinstance (da_cons (de_sub1 C (de_var (pv 0)) de_int) (da_cons (de_ty rfl b_str (by rfl)) da_nil))))) (dw_or1 (dt_cmp (opr_notIn C) opd_notIn (de_sub1 C (de_var (pv 0)) de_int) (de_call0L (x := "_law_forms") G_p_law_forms callOk_sub C rfl m_p_law_forms D_p_law_forms.kp (kb2 D_p_law_forms) dkw_nil) (by with_unfolding_all rfl))))))) (dss_one (ds_ret de_bl)) dss_nil) ?_
  refine dss_cons (ds_set C (i := 4) rfl (by first | exact Or.inl rfl | exact Or.inr rfl) (de_sub1 C (de_call0L (x := "_law_forms") G_p_law_forms callOk_sub C rfl m_p_law_forms D_p_law_forms.kp (kb2 D_p_law_forms) dkw_nil) (de_sub1 C (de_var (pv 0)) de_int))) ?_
  refine dss_cons (ds_if (dt_cmp (opr_ne C) opd_ne (de_len rfl b_len (da_cons (de_var (pv 4)) da_nil)) (de_sub (de_len rfl b_len (da_cons (de_var (pv 0)) da_nil)) de_int) (nomark _)) (dss_one (ds_ret de_bl)) dss_nil) ?_
  refine dss_cons ?_ ?_
  · refine ds_for C (di_zipST rfl b_zip (da_cons (de_var (pv 4)) (da_cons (de_slice (de_var (pv 0)) (do_some de_int) do_none) da_nil))) (dg_tup C.calm (dgs_cons (dg_name (i := 5) (pg_name C.nd rfl (by first | exact Or.inl rfl | exact Or.inr rfl))) (dgs_cons (dg_name (i := 6) (pg_name C.nd rfl (by first | exact Or.inl rfl | exact Or.inr rfl))) dgs_nil))) ?_
    exact (dss_cons (ds_asg (de_callL (x := "_law_bound") G_p_law_bound callOk_sub C rfl m_p_law_bound D_p_law_bound.kp (kb3 D_p_law_bound) (da_cons (de_var (pv 5)) (da_cons (de_var (pv 1)) (da_cons (de_var (pv 2)) (da_cons (de_var (pv 3)) da_nil)))) dkw_nil) (dg_tup C.calm (dgs_cons (dg_name (i := 7) (pg_name C.nd rfl (by first | exact Or.inl rfl | exact Or.inr rfl))) (dgs_cons (dg_name (i := 8) (pg_name C.nd rfl (by first | exact Or.inl rfl | exact Or.inr rfl))) dgs_nil)))) (dss_one (ds_if (dt_not (dt_val (de_callL (x := "_law_whole") G_p_law_whole callOk_sub C rfl m_p_law_whole D_p_law_whole.kp (kb8 D_p_law_whole) (da_cons (de_var (pv 6)) (da_cons (de_var (pv 7)) (da_cons (de_var (pv 8)) da_nil))) dkw_nil))) (dss_one (ds_ret de_bl)) dss_nil)))
  exact (dss_one (ds_ret de_bl))
theorem ok_p_law_odd {P : Program} {w : World} {K : PySem.W.Frag} {mg : Str → Option Value} {base : Heap} (T : Txt w K mg) : ∃ fd, FunD K d_p_law_odd.name d_p_law_odd.qual d_p_law_odd.params d_p_law_odd.body d_p_law_odd.scope (d_p_law_odd.dvs K) (d_p_law_odd.kws K) (He.fAd K d_p_law_odd.at_) fd ∧
    FnG P w K mg base 4 (He.fAd K d_p_law_odd.at_) fd ["_law_state", "_law_row_here", "_law_wide", "_law_shared", "_law_many"] (spD K mg 5 S_p_law_odd) := by
  obtain ⟨fd_p_law_next, D_p_law_next, G_p_law_next⟩ := ok_p_law_next (P := P) (w := w) (base := base) T
  have m_p_law_next := glo_p_law_next T
  obtain ⟨fd_p_law_pick, D_p_law_pick, G_p_law_pick⟩ := ok_p_law_pick (P := P) (w := w) (base := base) T
  have m_p_law_pick := glo_p_law_pick T
  obtain ⟨fd_p_law_forms_o, D_p_law_forms_o, G_p_law_forms_o⟩ := ok_p_law_forms_o (P := P) (w := w) (base := base) T
  have m_p_law_forms_o := glo_p_law_forms_o T
  obtain ⟨fd_p_law_bound, D_p_law_bound, G_p_law_bound⟩ := ok_p_law_bound (P := P) (w := w) (base := base) T
  have m_p_law_bound := glo_p_law_bound T
  obtain ⟨fd_p_law_forms, D_p_law_forms, G_p_law_forms⟩ := ok_p_law_forms (P := P) (w := w) (base := base) T
  have m_p_law_forms := glo_p_law_forms T
  have b_len := free_len T
  have b_list := free_list T
  have b_max := free_max T
  obtain ⟨fd, F⟩ := fun_p_law_odd T
  refine ⟨fd, F, fnG (N := N_p_law_odd) (ps := ["_law_state", "_law_row_here", "_law_wide", "_law_shared", "_law_many"]) (k := 3) (g := m_p_law_odd) F ⟨rfl, rfl, rfl, by decide +kernel, rfl, by decide +kernel, by decide +kernel⟩ fun cdv A outer s H E C => ?_⟩
  refine dss_cons (ds_set C (i := 5) rfl (by first | exact Or.inl rfl | exact Or.inr rfl) (de_callL (x := "_law_next") G_p_law_next callOk_share C rfl m_p_law_next D_p_law_next.kp (kb4 D_p_law_next) (da_cons (de_var (pv 0)) (da_cons de_int da_nil)) dkw_nil)) ?_
  refine dss_cons (ds_set C (i := 6) rfl (by first | exact Or.inl rfl | exact Or.inr rfl) (de_add de_int (de_callL (x := "_law_next") G_p_law_next callOk_share C rfl m_p_law_next D_p_law_next.kp (kb4 D_p_law_next) (da_cons (de_var (pv 0)) (da_cons (de_max C rfl b_max (da_cons de_int (da_cons (de_sub (de_len rfl b_len (da_cons (de_var (pv 1)) da_nil)) de_int) da_nil))) da_nil)) dkw_nil))) ?_
  refine dss_cons (ds_if (dt_cmp (opr_eq C) opd_eq (de_var (pv 5)) de_int (nomark _)) (dss_one (ds_ret (de_callL (x := "_law_pick") G_p_law_pick callOk_share C rfl m_p_law_pick D_p_law_pick.kp (kb7 D_p_law_pick) (da_cons (de_var (pv 0)) (da_cons (de_lst (da_cons (de_tup da_nil) (da_cons de_non (da_cons de_str (da_cons de_int (da_cons (de_lst (da_cons de_str da_nil)) (da_cons (de_list C rfl b_list (da_cons (de_var (pv 1)) da_nil)) (da_cons (de_tup (da_cons de_non da_nil)) (da_cons (de_tup (da_cons (de_lst (da_cons de_str da_nil)) da_nil)) (da_cons (de_tup (da_cons de_str da_nil)) (da_cons (de_tup (da_cons de_bl (da_cons de_int da_nil))) da_nil))))))))))) da_nil)) dkw_nil))) dss_nil) ?_
  refine dss_cons (ds_if (dt_cmp (opr_eq C) opd_eq (de_var (pv 5)) de_int (nomark _)) (dss_one (ds_ret (de_add (de_var (pv 1)) (de_tup (da_cons de_int da_nil))))) dss_nil) ?_
  refine dss_cons (ds_if (DW.dt (dw_or (dt_cmp (opr_eq C) opd_eq (de_var (pv 5)) de_int (nomark _)) (dw_or1 (dt_cmp (opr_eq C) opd_eq (de_len rfl b_len (da_cons (de_var (pv 1)) da_nil)) de_int (nomark _))))) (dss_one (ds_ret (de_slice (de_var (pv 1)) do_none (do_some (de_neg de_int))))) dss_nil) ?_
  refine dss_cons (ds_if (dt_cmp (opr_eq C) opd_eq (de_var (pv 5)) de_int (nomark _)) (dss_one (ds_ret (de_add (de_tup (da_cons (de_callL (x := "_law_pick") G_p_law_pick callOk_share C rfl m_p_law_pick D_p_law_pick.kp (kb7 D_p_law_pick) (da_cons (de_var (pv 0)) (da_cons (de_lcB C finL_ok (di_keysNew0 (x := "_law_forms") G_p_law_forms_o C rfl m_p_law_forms_o D_p_law_forms_o.kp (kb1 D_p_law_forms_o) dkw_nil) (show BlkOk N_p_law_odd (defScope s_p_law_odd) _ [("_law_word", 10)] from ⟨rfl, by decide +kernel, by decide +kernel, by decide +kernel, by decide +kernel⟩) (fun _ _ _ _ _ C1 => (dg_name (i := 10) (pg_name C1.nd rfl (by first | exact Or.inl rfl | exact Or.inr rfl)))) (fun _ _ _ _ _ C1 => dts_nil) (fun _ _ _ _ _ C1 => (de_var (pv 10)))) da_nil)) dkw_nil) da_nil)) (de_slice (de_var (pv 1)) (do_some de_int) do_none)))) dss_nil) ?_
  refine dss_cons (ds_asg (de_callL (x := "_law_bound") G_p_law_bound callOk_sub C rfl m_p_law_bound D_p_law_bound.kp (kb3 D_p_law_bound) (da_cons (de_sub1 C (de_sub1 C (de_call0L (x := "_law_forms") G_p_law_forms callOk_sub C rfl m_p_law_forms D_p_law_forms.kp (kb2 D_p_law_forms) dkw_nil) (de_sub1 C (de_var (pv 1)) de_int)) (de_sub (de_var (pv 6)) de_int)) (da_cons (de_var (pv 2)) (da_cons (de_var (pv 3)) (da_cons (de_var (pv 4)) da_nil)))) dkw_nil) (dg_tup C.calm (dgs_cons (dg_name (i := 7) (pg_name C.nd rfl (by first | exact Or.inl rfl | exact Or.inr rfl))) (dgs_cons (dg_name (i := 8) (pg_name C.nd rfl (by first | exact Or.inl rfl | exact Or.inr rfl))) dgs_nil)))) ?_
  exact (dss_cons (ds_set C (i := 9) rfl (by first | exact Or.inl rfl | exact Or.inr rfl) (de_callL (x := "_law_pick") G_p_law_pick callOk_share C rfl m_p_law_pick D_p_law_pick.kp (kb7 D_p_law_pick) (da_cons (de_var (pv 0)) (da_cons (de_lst (da_cons (de_sub (de_var (pv 7)) de_int) (da_cons (de_add (de_var (pv 8)) de_int) (da_cons (de_var (pv 7)) (da_cons (de_var (pv 8)) (da_cons de_bl (da_cons de_bl (da_cons de_non (da_cons de_str (da_cons (de_tup (da_cons de_int da_nil)) (da_cons (de_add (de_var (pv 8)) de_int) da_nil))))))))))) da_nil)) dkw_nil)) (dss_one (ds_ret (de_add (de_add (de_slice (de_var (pv 1)) do_none (do_some (de_var (pv 6)))) (de_tup (da_cons (de_var (pv 9)) da_nil))) (de_slice (de_var (pv 1)) (do_some (de_add (de_var (pv 6)) de_int)) do_none)))))
theorem ok_p_law_spoilt {P : Program} {w : World} {K : PySem.W.Frag} {mg : Str → Option Value} {base : Heap} (T : Txt w K mg) : ∃ fd, FunD K d_p_law_spoilt.name d_p_law_spoilt.qual d_p_law_spoilt.params d_p_law_spoilt.body d_p_law_spoilt.scope (d_p_law_spoilt.dvs K) (d_p_law_spoilt.kws K) (He.fAd K d_p_law_spoilt.at_) fd ∧
    FnG P w K mg base 5 (He.fAd K d_p_law_spoilt.at_) fd ["_law_state", "_law_plan_here", "_law_wide", "_law_shared"] (spD K mg 4 S_p_law_spoilt) := by
  obtain ⟨fd_p_law_next, D_p_law_next, G_p_law_next⟩ := ok_p_law_next (P := P) (w := w) (base := base) T
  have m_p_law_next := glo_p_law_next T
  obtain ⟨fd_p_law_is_row, D_p_law_is_row, G_p_law_is_row⟩ := ok_p_law_is_row (P := P) (w := w) (base := base) T
  have m_p_law_is_row := glo_p_law_is_row T
  obtain ⟨fd_p_law_odd, D_p_law_odd, G_p_law_odd⟩ := ok_p_law_odd (P := P) (w := w) (base := base) T
  have m_p_law_odd := glo_p_law_odd T
  have b_len := free_len T
  obtain ⟨fd, F⟩ := fun_p_law_spoilt T
  refine ⟨fd, F, fnG (N := N_p_law_spoilt) (ps := ["_law_state", "_law_plan_here", "_law_wide", "_law_shared"]) (k := 4) (g := m_p_law_spoilt) F ⟨rfl, rfl, rfl, by decide +kernel, rfl, by decide +kernel, by decide +kernel⟩ fun cdv A outer s H E C => ?_⟩
  refine dss_cons (ds_set C (i := 4) rfl (by first | exact Or.inl rfl | exact Or.inr rfl) (de_callL (x := "_law_next") G_p_law_next callOk_share C rfl m_p_law_next D_p_law_next.kp (kb4 D_p_law_next) (da_cons (de_var (pv 0)) (da_cons (de_len rfl b_len (da_cons (de_var (pv 1)) da_nil)) da_nil)) dkw_nil)) ?_
  refine dss_cons (ds_set C (i := 5) rfl (by first | exact Or.inl rfl | exact Or.inr rfl) (de_sub1 C (de_var (pv 1)) (de_var (pv 4)))) ?_
  refine dss_cons (ds_if (dt_cmp (L2.op_eqN C.u65) opd_eqN (de_var (pv 5)) (de_lst da_nil) (nomark _)) (dss_one (ds_ret (de_var (pv 1)))) dss_nil) ?_
  refine dss_cons (ds_set C (i := 6) rfl (by first | exact Or.inl rfl | exact Or.inr rfl) (de_callL (x := "_law_next") G_p_law_next callOk_share C rfl m_p_law_next D_p_law_next.kp (kb4 D_p_law_next) (da_cons (de_var (pv 0)) (da_cons (de_len rfl b_len (da_cons (de_var (pv 5)) da_nil)) da_nil)) dkw_nil)) ?_
  exact (dss_cons (ds_if (dt_not (dt_val (de_callL (x := "_law_is_row") G_p_law_is_row callOk_sub C rfl m_p_law_is_row D_p_law_is_row.kp (kb9 D_p_law_is_row) (da_cons (de_sub1 C (de_var (pv 5)) (de_var (pv 6))) (da_cons (de_var (pv 2)) (da_cons (de_var (pv 3)) (da_cons (de_len rfl b_len (da_cons (de_var (pv 5)) da_nil)) da_nil)))) dkw_nil))) (dss_one (ds_ret (de_var (pv 1)))) dss_nil) (dss_cons (ds_put C (de_var (pv 5)) (de_var (pv 6)) (de_callL (x := "_law_odd") G_p_law_odd callOk_share C rfl m_p_law_odd D_p_law_odd.kp (kb10 D_p_law_odd) (da_cons (de_var (pv 0)) (da_cons (de_sub1 C (de_var (pv 5)) (de_var (pv 6))) (da_cons (de_var (pv 2)) (da_cons (de_var (pv 3)) (da_cons (de_len rfl b_len (da_cons (de_var (pv 5)) da_nil)) da_nil))))) dkw_nil)) (dss_one (ds_ret (de_var (pv 1))))))
theorem ok_p_law_first_bad {P : Program} {w : World} {K : PySem.W.Frag} {mg : Str → Option Value} {base : Heap} (T : Txt w K mg) : ∃ fd, FunD K d_p_law_first_bad.name d_p_law_first_bad.qual d_p_law_first_bad.params d_p_law_first_bad.body d_p_law_first_bad.scope (d_p_law_first_bad.dvs K) (d_p_law_first_bad.kws K) (He.fAd K d_p_law_first_bad.at_) fd ∧
    FnG P w K mg base 3 (He.fAd K d_p_law_first_bad.at_) fd ["_law_plan_here", "_law_wide", "_law_shared"] (spD K mg 3 S_p_law_first_bad) := by
  obtain ⟨fd_p_law_whole, D_p_law_whole, G_p_law_whole⟩ := ok_p_law_whole (P := P) (w := w) (base := base) T
  have m_p_law_whole := glo_p_law_whole T
  obtain ⟨fd_p_law_is_row, D_p_law_is_row, G_p_law_is_row⟩ := ok_p_law_is_row (P := P) (w := w) (base := base) T
  have m_p_law_is_row := glo_p_law_is_row T
  have b_enumerate := free_enumerate T
  have b_isinstance := free_isinstance T
  have b_len := free_len T
  have b_list := free_list T
  have b_tuple := free_tuple T
  obtain ⟨fd, F⟩ := fun_p_law_first_bad T
  refine ⟨fd, F, fnG (N := N_p_law_first_bad) (ps := ["_law_plan_here", "_law_wide", "_law_shared"]) (k := 2) (g := m_p_law_first_bad) F ⟨rfl, rfl, rfl, by decide +kernel, rfl, by decide +kernel, by decide +kernel⟩ fun cdv A outer s H E C => ?_⟩
  refine dss_cons (ds_if (DW.dt (dw_or (dt_not (dt_val (de_callL (x := "_law_whole") G_p_law_whole callOk_sub C rfl m_p_law_whole D_p_law_whole.kp (kb8 D_p_law_whole) (da_cons (de_var (pv 1)) (da_cons de_int (da_cons de_int da_nil))) dkw_nil))) (dw_or1 (dt_not (dt_val (de_callL (x := "_law_whole") G_p_law_whole callOk_sub C rfl m_p_law_whole D_p_law_whole.kp (kb8 D_p_law_whole) (da_cons (de_var (pv 2)) (da_cons de_int (da_cons de_int da_nil))) dkw_nil)))))) (dss_one (ds_ret (de_tup (da_cons (de_neg de_int) (da_cons (de_neg de_int) da_nil))))) dss_nil) ?_
  refine dss_cons (ds_if (DW.dt (dw_or (dt_not (dt_val (de_isi rfl b_isinstance (da_cons (de_var (pv 0)) (da_cons (de_tup (da_cons (de_ty rfl b_list (by rfl)) (da_cons (de_ty rfl b_tuple (by rfl)) da_nil))) da_nil))))) (dw_or1 (dt_not (dt_chain op_le op_le opd_le opd_le de_int (de_len rfl b_len (da_cons (de_var (pv 0)) da_nil)) de_int))))) (dss_one (ds_ret (de_tup (da_cons (de_neg de_int) (da_cons (de_neg de_int) da_nil))))) dss_nil) ?_
  refine dss_cons (ds_if (dt_cmp (opr_ne C) opd_ne (de_lcB C finL_ok (di_seq (de_var (pv 0))) (show BlkOk N_p_law_first_bad (defScope s_p_law_first_bad) _ [("_law_rows", 4)] from ⟨rfl, by decide +kernel, by decide +kernel, by decide +kernel, by decide +kernel⟩) (fun _ _ _ _ _ C1 => (dg_name (i := 4) (pg_name C1.nd rfl (by first | exact Or.inl rfl | exact Or.inr rfl)))) (fun _ _ _ _ _ C1 => (dts_one (DW.dt (dw_or (dt_not (dt_val (de_isi rfl b_isinstance (da_cons (de_var (pv 4)) (da_cons (de_tup (da_cons (de_ty rfl b_list (by rfl)) (da_cons (de_ty rfl b_tuple (by rfl)) da_nil))) da_nil))))) (dw_or1 (dt_cmp op_gt opd_gt (de_len rfl b_len (da_cons (de_var (pv 4)) da_nil)) de_int (nomark _))))))) (fun _ _ _ _ _ C1 => (de_var (pv 4)))) (de_lst da_nil) (nomark _)) (dss_one (ds_ret (de_tup (da_cons (de_neg de_int) (da_cons (de_neg de_int) da_nil))))) dss_nil) ?_
  exact (dss_cons (ds_for C (di_enum rfl b_enumerate (da_cons (de_var (pv 0)) da_nil)) (dg_tup C.calm (dgs_cons (dg_name (i := 3) (pg_name C.nd rfl (by first | exact Or.inl rfl | exact Or.inr rfl))) (dgs_cons (dg_name (i := 4) (pg_name C.nd rfl (by first | exact Or.inl rfl | exact Or.inr rfl))) dgs_nil))) (dss_one (ds_for C (di_enum rfl b_enumerate (da_cons (de_var (pv 4)) da_nil)) (dg_tup C.calm (dgs_cons (dg_name (i := 5) (pg_name C.nd rfl (by first | exact Or.inl rfl | exact Or.inr rfl))) (dgs_cons (dg_name (i := 6) (pg_name C.nd rfl (by first | exact Or.inl rfl | exact Or.inr rfl))) dgs_nil))) (dss_one (ds_if (dt_not (dt_val (de_callL (x := "_law_is_row") G_p_law_is_row callOk_sub C rfl m_p_law_is_row D_p_law_is_row.kp (kb9 D_p_law_is_row) (da_cons (de_var (pv 6)) (da_cons (de_var (pv 1)) (da_cons (de_var (pv 2)) (da_cons (de_len rfl b_len (da_cons (de_var (pv 4)) da_nil)) da_nil)))) dkw_nil))) (dss_one (ds_ret (de_tup (da_cons (de_var (pv 3)) (da_cons (de_var (pv 5)) da_nil))))) dss_nil))))) (dss_one (ds_ret de_non)))
theorem ok_is_whole {P : Program} {w : World} {K : PySem.W.Frag} {mg : Str → Option Value} {base : Heap} (T : Txt w K mg) : ∃ fd, FunD K d_is_whole.name d_is_whole.qual d_is_whole.params d_is_whole.body d_is_whole.scope (d_is_whole.dvs K) (d_is_whole.kws K) (He.fAd K d_is_whole.at_) fd ∧
    FnG P w K mg base 1 (He.fAd K d_is_whole.at_) fd ["thing", "least", "most"] (spD K mg 3 S_is_whole) := by
  have b_bool := free_bool T
  have b_int := free_int T
  have b_isinstance := free_isinstance T
  obtain ⟨fd, F⟩ := fun_is_whole T
  refine ⟨fd, F, fnG (N := N_is_whole) (ps := ["thing", "least", "most"]) (k := 0) (g := m_is_whole) F ⟨rfl, rfl, rfl, by decide +kernel, rfl, by decide +kernel, by decide +kernel⟩ fun cdv A outer s H E C => ?_⟩
  exact (dss_one (ds_ret (de_and (de_isi rfl b_isinstance (da_cons (de_var (pv 0)) (da_cons (de_ty rfl b_int (by rfl)) da_nil))) (de_and (de_not (de_isi rfl b_isinstance (da_cons (de_var (pv 0)) (da_cons (de_ty rfl b_bool (by rfl)) da_nil)))) (de_one (de_chain op_le op_le opd_le opd_le (de_var (pv 1)) (de_var (pv 0)) (de_var (pv 2))))))))
theorem ok_BadProgram_init {P : Program} {w : World} {K : PySem.W.Frag} {mg : Str → Option Value} {base : Heap} (T : Txt w K mg) : ∃ fd, FunD K d_BadProgram_init.name d_BadProgram_init.qual d_BadProgram_init.params d_BadProgram_init.body d_BadProgram_init.scope (d_BadProgram_init.dvs K) (d_BadProgram_init.kws K) (He.fAd K d_BadProgram_init.at_) fd ∧
    FnG P w K mg base 1 (He.fAd K d_BadProgram_init.at_) fd ["self", "hand", "row"] (spX K ["hand", "row"]) := by
  have gx_YardError := gloc_YardError T
  have xi_BadProgram := xic_BadProgram T
  obtain ⟨fd, F⟩ := fun_BadProgram_init T
  exact ⟨fd, F, fnX (N := N_BadProgram_init) (ps := ["self", "hand", "row"]) (k := 0) (m := "no program") F ⟨rfl, rfl, rfl, by decide +kernel, rfl, by decide +kernel, by decide +kernel⟩ rfl (by decide) (by decide) fun cdv A outer s H E C => pss_cons (ps_expr (pe_veinitC rfl gx_YardError xi_BadProgram.rd xi_BadProgram.iv (pa_cons (pv 0) (pa_cons pe_str pa_nil)))) (pss_cons (ps_ost (pv 0) (pv 1)) (pss_cons (ps_ost (pv 0) (pv 2)) pss_nil))⟩
theorem ok_is_row {P : Program} {w : World} {K : PySem.W.Frag} {mg : Str → Option Value} {base : Heap} (T : Txt w K mg) : ∃ fd, FunD K d_is_row.name d_is_row.qual d_is_row.params d_is_row.body d_is_row.scope (d_is_row.dvs K) (d_is_row.kws K) (He.fAd K d_is_row.at_) fd ∧
    FnG P w K mg base 1 (He.fAd K d_is_row.at_) fd ["thing"] (spD K mg 1 S_is_row) := by
  have b_isinstance := free_isinstance T
  have b_list := free_list T
  have b_tuple := free_tuple T
  obtain ⟨fd, F⟩ := fun_is_row T
  refine ⟨fd, F, fnG (N := N_is_row) (ps := ["thing"]) (k := 0) (g := m_is_row) F ⟨rfl, rfl, rfl, by decide +kernel, rfl, by decide +kernel, by decide +kernel⟩ fun cdv A outer s H E C => ?_⟩
  exact (dss_one (ds_ret (de_isi rfl b_isinstance (da_cons (de_var (pv 0)) (da_cons (de_tup (da_cons (de_ty rfl b_list (by rfl)) (da_cons (de_ty rfl b_tuple (by rfl)) da_nil))) da_nil)))))
theorem ok_bounds_of {P : Program} {w : World} {K : PySem.W.Frag} {mg : Str → Option Value} {base : Heap} (T : Txt w K mg) : ∃ fd, FunD K d_bounds_of.name d_bounds_of.qual d_bounds_of.params d_bounds_of.body d_bounds_of.scope (d_bounds_of.dvs K) (d_bounds_of.kws K) (He.fAd K d_bounds_of.at_) fd ∧
    FnG P w K mg base 1 (He.fAd K d_bounds_of.at_) fd ["boxes", "board", "many"] (spD K mg 3 S_bounds_of) := by
  obtain ⟨_, i_GREATEST⟩ := int_GREATEST T
  obtain ⟨_, i_MOST_FIELDS⟩ := int_MOST_FIELDS T
  obtain ⟨fd, F⟩ := fun_bounds_of T
  refine ⟨fd, F, fnG (N := N_bounds_of) (ps := ["boxes", "board", "many"]) (k := 0) (g := m_bounds_of) F ⟨rfl, rfl, rfl, by decide +kernel, rfl, by decide +kernel, by decide +kernel⟩ fun cdv A outer s H E C => ?_⟩
  exact (dss_one (ds_ret (de_frz (de_disp (dps_cons de_str (de_tup (da_cons de_int (da_cons (de_sub (de_var (pv 0)) de_int) da_nil))) (dps_cons de_str (de_tup (da_cons (de_neg (de_globI rfl i_GREATEST)) (da_cons (de_globI rfl i_GREATEST) da_nil))) (dps_cons de_str (de_tup (da_cons de_int (da_cons (de_globI rfl i_MOST_FIELDS) da_nil))) (dps_cons de_str (de_tup (da_cons de_int (da_cons (de_sub (de_globI rfl i_MOST_FIELDS) de_int) da_nil))) (dps_cons de_str (de_tup (da_cons de_int (da_cons (de_sub (de_var (pv 1)) de_int) da_nil))) (dps_cons de_str (de_tup (da_cons de_int (da_cons (de_var (pv 2)) da_nil))) dps_nil))))))))))
theorem ok_fits_row {P : Program} {w : World} {K : PySem.W.Frag} {mg : Str → Option Value} {base : Heap} (T : Txt w K mg) : ∃ fd, FunD K d_fits_row.name d_fits_row.qual d_fits_row.params d_fits_row.body d_fits_row.scope (d_fits_row.dvs K) (d_fits_row.kws K) (He.fAd K d_fits_row.at_) fd ∧
    FnG P w K mg base 2 (He.fAd K d_fits_row.at_) fd ["thing", "bounds"] (spD K mg 2 S_fits_row) := by
  obtain ⟨fd_is_whole, D_is_whole, G_is_whole⟩ := ok_is_whole (P := P) (w := w) (base := base) T
  have m_is_whole := glo_is_whole T
  have b_isinstance := free_isinstance T
  have b_len := free_len T
  have b_str := free_str T
  have b_tuple := free_tuple T
  have b_zip := free_zip T
  obtain ⟨_, i_GREATEST⟩ := int_GREATEST T
  obtain ⟨_, i_MOST_FIELDS⟩ := int_MOST_FIELDS T
  have c_FORMS := gloc_FORMS T
  have tab_FORMS := tabc_FORMS T
  obtain ⟨fd, F⟩ := fun_fits_row T
  refine ⟨fd, F, fnG (N := N_fits_row) (ps := ["thing", "bounds"]) (k := 1) (g := m_fits_row) F ⟨rfl, rfl, rfl, by decide +kernel, rfl, by decide +kernel, by decide +kernel⟩ fun cdv A outer s H E C => ?_⟩
  refine dss_cons (ds_if (DW.dt (dw_or (dt_not (dt_val (de_isi rfl b_isinstance (da_cons (de_var (pv 0)) (da_cons (de_ty rfl b_tuple (by rfl)) da_nil))))) (dw_or1 (dt_cmp (opr_eq C) opd_eq (de_var (pv 0)) (de_tup da_nil) (nomark _))))) (dss_one (ds_ret de_bl)) dss_nil) ?_
  refine dss_cons (ds_starT C (i := 2) (j := 3) rfl (by first | exact Or.inl rfl | exact Or.inr rfl) rfl (by first | exact Or.inl rfl | exact Or.inr rfl) (de_var (pv 0))) ?_
  refine dss_cons (ds_if (DW.dt (dw_or (dt_not (dt_val (de_isi rfl b_isinstance (da_cons (de_var (pv 2)) (da_cons (de_ty rfl b_str (by rfl)) da_nil))))) (dw_or (dt_cmp (op_notIn_kd tab_FORMS.kd.choose_spec.choose_spec) (opd_notInK c_FORMS tab_FORMS) (de_var (pv 2)) (de_own rfl c_FORMS) (by with_unfolding_all rfl)) (dw_or1 (dt_cmp (opr_ne C) opd_ne (de_len rfl b_len (da_cons (de_ixK c_FORMS tab_FORMS (de_own rfl c_FORMS) (de_var (pv 2)) (by intro _ _; rfl)) da_nil)) (de_len rfl b_len (da_cons (de_var (pv 3)) da_nil)) (nomark _)))))) (dss_one (ds_ret de_bl)) dss_nil) ?_
  exact (dss_cons (ds_for C (di_zips rfl b_zip (da_cons (de_var (pv 3)) (da_cons (de_ixK c_FORMS tab_FORMS (de_own rfl c_FORMS) (de_var (pv 2)) (by intro _ _; rfl)) da_nil))) (dg_tup C.calm (dgs_cons (dg_name (i := 4) (pg_name C.nd rfl (by first | exact Or.inl rfl | exact Or.inr rfl))) (dgs_cons (dg_name (i := 5) (pg_name C.nd rfl (by first | exact Or.inl rfl | exact Or.inr rfl))) dgs_nil))) (dss_cons (ds_asg (de_sub1 C (de_var (pv 1)) (de_var (pv 5))) (dg_tup C.calm (dgs_cons (dg_name (i := 6) (pg_name C.nd rfl (by first | exact Or.inl rfl | exact Or.inr rfl))) (dgs_cons (dg_name (i := 7) (pg_name C.nd rfl (by first | exact Or.inl rfl | exact Or.inr rfl))) dgs_nil)))) (dss_one (ds_if (dt_not (dt_val (de_callL (x := "is_whole") G_is_whole callOk_sub C rfl m_is_whole D_is_whole.kp (kb11 D_is_whole) (da_cons (de_var (pv 4)) (da_cons (de_var (pv 6)) (da_cons (de_var (pv 7)) da_nil))) dkw_nil))) (dss_one (ds_ret de_bl)) dss_nil)))) (dss_one (ds_ret de_bl)))
theorem ok_Program_init {P : Program} {w : World} {K : PySem.W.Frag} {mg : Str → Option Value} {base : Heap} (T : Txt w K mg) : ∃ fd, FunD K d_Program_init.name d_Program_init.qual d_Program_init.params d_Program_init.body d_Program_init.scope (d_Program_init.dvs K) (d_Program_init.kws K) (He.fAd K d_Program_init.at_) fd ∧
    FnG P w K mg base 3 (He.fAd K d_Program_init.at_) fd ["self", "hands", "boxes", "board"] (spD K mg 4 S_Program_init) := by
  obtain ⟨fd_is_whole, D_is_whole, G_is_whole⟩ := ok_is_whole (P := P) (w := w) (base := base) T
  have m_is_whole := glo_is_whole T
  obtain ⟨fd_BadProgram_init, D_BadProgram_init, G_BadProgram_init⟩ := ok_BadProgram_init (P := P) (w := w) (base := base) T
  obtain ⟨fd_is_row, D_is_row, G_is_row⟩ := ok_is_row (P := P) (w := w) (base := base) T
  have m_is_row := glo_is_row T
  obtain ⟨fd_bounds_of, D_bounds_of, G_bounds_of⟩ := ok_bounds_of (P := P) (w := w) (base := base) T
  have m_bounds_of := glo_bounds_of T
  obtain ⟨fd_fits_row, D_fits_row, G_fits_row⟩ := ok_fits_row (P := P) (w := w) (base := base) T
  have m_fits_row := glo_fits_row T
  have b_all := free_all T
  have b_enumerate := free_enumerate T
  have b_len := free_len T
  have b_list := free_list T
  obtain ⟨_, i_GREATEST⟩ := int_GREATEST T
  obtain ⟨_, i_MOST_BOARD⟩ := int_MOST_BOARD T
  obtain ⟨_, i_MOST_BOXES⟩ := int_MOST_BOXES T
  obtain ⟨_, i_MOST_FIELDS⟩ := int_MOST_FIELDS T
  obtain ⟨_, i_MOST_HANDS⟩ := int_MOST_HANDS T
  obtain ⟨_, i_MOST_ROWS⟩ := int_MOST_ROWS T
  have gx_BadProgram := gloc_BadProgram T
  have xi_BadProgram := xic_BadProgram T
  have I_Program : ∀ {X : Cx}, X.K = K → X.mg = mg → ClsI X "Program" (He.ga K "Program") := fun h1 h2 => ⟨by rw [h2]; exact gloc_Program T, by rw [h1]; exact cls_Program T⟩
  have N_Program_plan := noat_Program_plan T
  have N_Program_shared := noat_Program_shared T
  have N_Program_wide := noat_Program_wide T
  obtain ⟨fd, F⟩ := fun_Program_init T
  refine ⟨fd, F, fnG (N := N_Program_init) (ps := ["self", "hands", "boxes", "board"]) (k := 2) (g := m_Program_init) F ⟨rfl, rfl, rfl, by decide +kernel, rfl, by decide +kernel, by decide +kernel⟩ fun cdv A outer s H E C => ?_⟩
  refine dss_cons (ds_if (DW.dt (dw_or (dt_not (dt_val (de_callL (x := "is_whole") G_is_whole callOk_sub C rfl m_is_whole D_is_whole.kp (kb11 D_is_whole) (da_cons (de_var (pv 2)) (da_cons de_int (da_cons (de_globI rfl i_MOST_BOXES) da_nil))) dkw_nil))) (dw_or1 (dt_not (dt_val (de_callL (x := "is_whole") G_is_whole callOk_sub C rfl m_is_whole D_is_whole.kp (kb11 D_is_whole) (da_cons (de_var (pv 3)) (da_cons de_int (da_cons (de_globI rfl i_MOST_BOARD) da_nil))) dkw_nil)))))) (dss_one (ds_raiseX xi_BadProgram G_BadProgram_init rfl (bindX D_BadProgram_init rfl fun _ _ _ _ _ _ us hl => match us, hl with | [_, _, _], _ => rfl) C rfl gx_BadProgram (da_cons (de_neg de_int) (da_cons (de_neg de_int) da_nil)) (by decide))) dss_nil) ?_
  refine dss_cons (ds_if (DW.dt (dw_or (dt_not (dt_val (de_callL (x := "is_row") G_is_row callOk_share C rfl m_is_row D_is_row.kp (kb12 D_is_row) (da_cons (de_var (pv 1)) da_nil) dkw_nil))) (dw_or1 (dt_not (dt_chain op_le op_le opd_le opd_le de_int (de_len rfl b_len (da_cons (de_var (pv 1)) da_nil)) (de_globI rfl i_MOST_HANDS)))))) (dss_one (ds_raiseX xi_BadProgram G_BadProgram_init rfl (bindX D_BadProgram_init rfl fun _ _ _ _ _ _ us hl => match us, hl with | [_, _, _], _ => rfl) C rfl gx_BadProgram (da_cons (de_neg de_int) (da_cons (de_neg de_int) da_nil)) (by decide))) dss_nil) ?_
  refine dss_cons (ds_if (dt_not (dt_val (de_all C rfl b_all (da_cons (de_lcB C finL_ok (di_seq (de_var (pv 1))) (show BlkOk N_Program_init (defScope s_Program_init) _ [("rows", 5)] from ⟨rfl, by decide +kernel, by decide +kernel, by decide +kernel, by decide +kernel⟩) (fun _ _ _ _ _ C1 => (dg_name (i := 5) (pg_name C1.nd rfl (by first | exact Or.inl rfl | exact Or.inr rfl)))) (fun _ _ _ _ _ C1 => dts_nil) (fun _ _ _ _ _ C1 => (de_and (de_callL (x := "is_row") G_is_row callOk_share C1 rfl m_is_row D_is_row.kp (kb12 D_is_row) (da_cons (de_var (pv 5)) da_nil) dkw_nil) (de_one (de_cmp op_le opd_le (de_len rfl b_len (da_cons (de_var (pv 5)) da_nil)) (de_globI rfl i_MOST_ROWS) (nomark _)))))) da_nil)))) (dss_one (ds_raiseX xi_BadProgram G_BadProgram_init rfl (bindX D_BadProgram_init rfl fun _ _ _ _ _ _ us hl => match us, hl with | [_, _, _], _ => rfl) C rfl gx_BadProgram (da_cons (de_neg de_int) (da_cons (de_neg de_int) da_nil)) (by decide))) dss_nil) ?_
  refine dss_cons ?_ ?_
  · refine ds_for C (di_enumQ rfl b_enumerate (da_cons (de_var (pv 1)) da_nil)) (dg_tup C.calm (dgs_cons (dg_name (i := 4) (pg_name C.nd rfl (by first | exact Or.inl rfl | exact Or.inr rfl))) (dgs_cons (dg_name (i := 5) (pg_name C.nd rfl (by first | exact Or.inl rfl | exact Or.inr rfl))) dgs_nil))) ?_
    refine dss_cons (ds_set C (i := 6) rfl (by first | exact Or.inl rfl | exact Or.inr rfl) (de_callL (x := "bounds_of") G_bounds_of callOk_sub C rfl m_bounds_of D_bounds_of.kp (kb13 D_bounds_of) (da_cons (de_var (pv 2)) (da_cons (de_var (pv 3)) (da_cons (de_len rfl b_len (da_cons (de_var (pv 5)) da_nil)) da_nil))) dkw_nil)) ?_
    exact (dss_one (ds_for C (di_enumQ rfl b_enumerate (da_cons (de_var (pv 5)) da_nil)) (dg_tup C.calm (dgs_cons (dg_name (i := 7) (pg_name C.nd rfl (by first | exact Or.inl rfl | exact Or.inr rfl))) (dgs_cons (dg_name (i := 8) (pg_name C.nd rfl (by first | exact Or.inl rfl | exact Or.inr rfl))) dgs_nil))) (dss_one (ds_if (dt_not (dt_val (de_callL (x := "fits_row") G_fits_row callOk_sub C rfl m_fits_row D_fits_row.kp (kb14 D_fits_row) (da_cons (de_var (pv 8)) (da_cons (de_var (pv 6)) da_nil)) dkw_nil))) (dss_one (ds_raiseX xi_BadProgram G_BadProgram_init rfl (bindX D_BadProgram_init rfl fun _ _ _ _ _ _ us hl => match us, hl with | [_, _, _], _ => rfl) C rfl gx_BadProgram (da_cons (de_var (pv 4)) (da_cons (de_var (pv 7)) da_nil)) (by decide))) dss_nil))))
  exact (dss_cons (ds_fld (de_var (pv 0)) (de_lcB C finL_ok (di_seq (de_var (pv 1))) (show BlkOk N_Program_init (defScope s_Program_init) _ [("rows", 5)] from ⟨rfl, by decide +kernel, by decide +kernel, by decide +kernel, by decide +kernel⟩) (fun _ _ _ _ _ C1 => (dg_name (i := 5) (pg_name C1.nd rfl (by first | exact Or.inl rfl | exact Or.inr rfl)))) (fun _ _ _ _ _ C1 => dts_nil) (fun _ _ _ _ _ C1 => (de_list C1 rfl b_list (da_cons (de_var (pv 5)) da_nil)))) (cs := ["Program"]) fun c hc => by rw [List.mem_singleton.mp hc]; exact ⟨_, I_Program rfl rfl, N_Program_plan⟩) (dss_one (ds_fld2 C.calm (de_var (pv 0)) (de_var (pv 0)) (de_tup (da_cons (de_var (pv 2)) (da_cons (de_var (pv 3)) da_nil))) (cs := ["Program"]) (fun c hc => by rw [List.mem_singleton.mp hc]; exact ⟨_, I_Program rfl rfl, N_Program_wide⟩) (fun c hc => by rw [List.mem_singleton.mp hc]; exact ⟨_, I_Program rfl rfl, N_Program_shared⟩))))
theorem ok_p_law_made {P : Program} {w : World} {K : PySem.W.Frag} {mg : Str → Option Value} {base : Heap} (T : Txt w K mg) : ∃ fd, FunD K d_p_law_made.name d_p_law_made.qual d_p_law_made.params d_p_law_made.body d_p_law_made.scope (d_p_law_made.dvs K) (d_p_law_made.kws K) (He.fAd K d_p_law_made.at_) fd ∧
    FnG P w K mg base 5 (He.fAd K d_p_law_made.at_) fd ["_law_plan_here", "_law_wide", "_law_shared"] (spD K mg 3 S_p_law_made) := by
  obtain ⟨fd_Program_init, D_Program_init, G_Program_init⟩ := ok_Program_init (P := P) (w := w) (base := base) T
  have b_ValueError := free_ValueError T
  have b_isinstance := free_isinstance T
  obtain ⟨_, i_GREATEST⟩ := int_GREATEST T
  obtain ⟨_, i_MOST_BOARD⟩ := int_MOST_BOARD T
  obtain ⟨_, i_MOST_BOXES⟩ := int_MOST_BOXES T
  obtain ⟨_, i_MOST_FIELDS⟩ := int_MOST_FIELDS T
  obtain ⟨_, i_MOST_HANDS⟩ := int_MOST_HANDS T
  obtain ⟨_, i_MOST_ROWS⟩ := int_MOST_ROWS T
  have M_Program := mkr_Program T
  have c_Program := gloc_Program T
  have c_BadProgram := gloc_BadProgram T
  have gx_BadProgram := gloc_BadProgram T
  have gx_YardError := gloc_YardError T
  have xi_BadProgram := xic_BadProgram T
  have kit_BadProgram := kitc_BadProgram T
  have kit_ValueError := kitc_ValueError T
  have exm_YardError := exmc_YardError T
  obtain ⟨fd, F⟩ := fun_p_law_made T
  refine ⟨fd, F, fnG (N := N_p_law_made) (ps := ["_law_plan_here", "_law_wide", "_law_shared"]) (k := 4) (g := m_p_law_made) F ⟨rfl, rfl, rfl, by decide +kernel, rfl, by decide +kernel, by decide +kernel⟩ fun cdv A outer s H E C => ?_⟩
  refine dss_cons (ds_set C (i := 3) rfl (by first | exact Or.inl rfl | exact Or.inr rfl) de_non) ?_
  refine dss_cons (ds_set C (i := 4) rfl (by first | exact Or.inl rfl | exact Or.inr rfl) de_non) ?_
  refine dss_cons (ds_try C rfl rfl rfl (fun Wn pn xe C => (dss_one (ds_set C (i := 4) rfl (by first | exact Or.inl rfl | exact Or.inr rfl) (de_frzD 60 (de_makeL (c := "Program") M_Program G_Program_init makeO_ok C rfl c_Program (kb15 D_Program_init) (da_cons (de_var (pv 0)) da_nil) (dkw_cons (de_var (pv 2)) (dkw_cons (de_var (pv 1)) dkw_nil))))))) (.named ⟨rfl, by decide, .inl gx_YardError⟩ C.nd (i := 5) rfl rfl exm_YardError (fun a pn => (dss_one (ds_setS (by exact C.nd) (i := 3) rfl (by first | exact Or.inl rfl | exact Or.inr rfl) (de_var (pv 5))))) .nil)) ?_
  exact (dss_cons (ds_if (dt_cmp op_isN opd_is (de_var (pv 3)) de_non (nomark _)) (dss_one (ds_ret (de_tup (da_cons (de_var (pv 4)) (da_cons de_non da_nil))))) dss_nil) (dss_cons (ds_if (DW.dt (dw_or (dt_not (dt_val (de_isF rfl b_isinstance gx_BadProgram kit_BadProgram (da_cons (de_var (pv 3)) (da_cons (de_own rfl c_BadProgram) da_nil))))) (dw_or1 (dt_not (dt_val (de_isFT rfl b_isinstance kit_ValueError (da_cons (de_var (pv 3)) (da_cons (de_ty rfl b_ValueError (by rfl)) da_nil)))))))) (dss_one (ds_ret (de_tup (da_cons de_non (da_cons de_str da_nil))))) dss_nil) (dss_one (ds_ret (de_tup (da_cons de_non (da_cons (de_tup (da_cons (de_fldX (de_var (pv 3)) (cs := ["BadProgram"]) (fun c hc => by rw [List.mem_singleton.mp hc]; exact ⟨_, gx_BadProgram, xi_BadProgram.xf, xi_BadProgram.no _ (by decide +kernel)⟩)) (da_cons (de_fldX (de_var (pv 3)) (cs := ["BadProgram"]) (fun c hc => by rw [List.mem_singleton.mp hc]; exact ⟨_, gx_BadProgram, xi_BadProgram.xf, xi_BadProgram.no _ (by decide +kernel)⟩)) da_nil))) da_nil)))))))
theorem ok_p_law_alike_r5 {P : Program} {w : World} {K : PySem.W.Frag} {mg : Str → Option Value} {base : Heap} (T : Txt w K mg) : ∃ fd, FunD K d_p_law_alike_r5.name d_p_law_alike_r5.qual d_p_law_alike_r5.params d_p_law_alike_r5.body d_p_law_alike_r5.scope (d_p_law_alike_r5.dvs K) (d_p_law_alike_r5.kws K) (He.fAd K d_p_law_alike_r5.at_) fd ∧
    FnG P w K mg base 1 (He.fAd K d_p_law_alike_r5.at_) fd ["_law_found", "_law_due"] (spD K mg 2 S_p_law_alike_r5) := by
  have b_all := free_all T
  have b_bool := free_bool T
  have b_int := free_int T
  have b_isinstance := free_isinstance T
  have b_len := free_len T
  have b_list := free_list T
  have b_str := free_str T
  have b_tuple := free_tuple T
  have b_zip := free_zip T
  obtain ⟨_, i_GREATEST⟩ := int_GREATEST T
  obtain ⟨_, i_MOST_BOARD⟩ := int_MOST_BOARD T
  obtain ⟨_, i_MOST_BOXES⟩ := int_MOST_BOXES T
  obtain ⟨_, i_MOST_FIELDS⟩ := int_MOST_FIELDS T
  obtain ⟨_, i_MOST_HANDS⟩ := int_MOST_HANDS T
  obtain ⟨_, i_MOST_ROWS⟩ := int_MOST_ROWS T
  obtain ⟨fd, F⟩ := fun_p_law_alike_r5 T
  refine ⟨fd, F, fnG (N := N_p_law_alike_r5) (ps := ["_law_found", "_law_due"]) (k := 0) (g := m_p_law_alike_r5) F ⟨rfl, rfl, rfl, by decide +kernel, rfl, by decide +kernel, by decide +kernel⟩ fun cdv A outer s H E C => ?_⟩
  refine dss_cons ?_ ?_
  · refine ds_if (dt_val (de_isi rfl b_isinstance (da_cons (de_var (pv 1)) (da_cons (de_tup (da_cons (de_ty rfl b_list (by rfl)) (da_cons (de_ty rfl b_tuple (by rfl)) da_nil))) da_nil)))) ?_ ?_
    · refine dss_cons (ds_if (DW.dt (dw_or (dt_cmp (opr_ne C) opd_ne (de_isi rfl b_isinstance (da_cons (de_var (pv 0)) (da_cons (de_ty rfl b_list (by rfl)) da_nil))) (de_isi rfl b_isinstance (da_cons (de_var (pv 1)) (da_cons (de_ty rfl b_list (by rfl)) da_nil))) (nomark _)) (dw_or1 (dt_cmp (opr_ne C) opd_ne (de_isi rfl b_isinstance (da_cons (de_var (pv 0)) (da_cons (de_ty rfl b_tuple (by rfl)) da_nil))) (de_isi rfl b_isinstance (da_cons (de_var (pv 1)) (da_cons (de_ty rfl b_tuple (by rfl)) da_nil))) (nomark _))))) (dss_one (ds_ret de_bl)) dss_nil) ?_
      exact (dss_one (ds_ret (de_and (de_cmp (opr_eq C) opd_eq (de_len rfl b_len (da_cons (de_var (pv 0)) da_nil)) (de_len rfl b_len (da_cons (de_var (pv 1)) da_nil)) (nomark _)) (de_one (de_all C rfl b_all (da_cons (de_lcB C finL_ok (di_zipA rfl b_zip (da_cons (de_var (pv 0)) (da_cons (de_var (pv 1)) da_nil))) (show BlkOk N_p_law_alike_r5 (defScope s_p_law_alike_r5) _ [("_law_one", 2), ("_law_other", 3)] from ⟨rfl, by decide +kernel, by decide +kernel, by decide +kernel, by decide +kernel⟩) (fun _ _ _ _ _ C1 => (dg_tup C1.calm (dgs_cons (dg_name (i := 2) (pg_name C1.nd rfl (by first | exact Or.inl rfl | exact Or.inr rfl))) (dgs_cons (dg_name (i := 3) (pg_name C1.nd rfl (by first | exact Or.inl rfl | exact Or.inr rfl))) dgs_nil)))) (fun _ _ _ _ _ C1 => dts_nil) (fun _ _ _ _ _ C1 => de_none)) da_nil))))))
    · exact dss_nil
  exact (dss_cons (ds_if (DW.dt (dw_or (dt_cmp op_isN opd_is (de_var (pv 1)) de_non (nomark _)) (dw_or1 (dt_val (de_isi rfl b_isinstance (da_cons (de_var (pv 1)) (da_cons (de_ty rfl b_bool (by rfl)) da_nil))))))) (dss_one (ds_ret (de_ifExp (dt_cmp op_isN opd_is (de_var (pv 1)) de_non (nomark _)) (de_cmp op_isN opd_is (de_var (pv 0)) de_non (nomark _)) (de_and (de_isi rfl b_isinstance (da_cons (de_var (pv 0)) (da_cons (de_ty rfl b_bool (by rfl)) da_nil))) (de_one (de_cmp (opr_eq C) opd_eq (de_var (pv 0)) (de_var (pv 1)) (nomark _))))))) dss_nil) (dss_cons (ds_if (dt_val (de_isi rfl b_isinstance (da_cons (de_var (pv 1)) (da_cons (de_ty rfl b_int (by rfl)) da_nil)))) (dss_one (ds_ret (de_and (de_isi rfl b_isinstance (da_cons (de_var (pv 0)) (da_cons (de_ty rfl b_int (by rfl)) da_nil))) (de_and (de_not (de_isi rfl b_isinstance (da_cons (de_var (pv 0)) (da_cons (de_ty rfl b_bool (by rfl)) da_nil)))) (de_one (de_cmp (opr_eq C) opd_eq (de_var (pv 0)) (de_var (pv 1)) (nomark _))))))) dss_nil) (dss_one (ds_ret (de_and (de_isi rfl b_isinstance (da_cons (de_var (pv 0)) (da_cons (de_ty rfl b_str (by rfl)) da_nil))) (de_one (de_cmp (opr_eq C) opd_eq (de_var (pv 0)) (de_var (pv 1)) (nomark _))))))))
theorem ok_p_law_alike_r4 {P : Program} {w : World} {K : PySem.W.Frag} {mg : Str → Option Value} {base : Heap} (T : Txt w K mg) : ∃ fd, FunD K d_p_law_alike_r4.name d_p_law_alike_r4.qual d_p_law_alike_r4.params d_p_law_alike_r4.body d_p_law_alike_r4.scope (d_p_law_alike_r4.dvs K) (d_p_law_alike_r4.kws K) (He.fAd K d_p_law_alike_r4.at_) fd ∧
    FnG P w K mg base 2 (He.fAd K d_p_law_alike_r4.at_) fd ["_law_found", "_law_due"] (spD K mg 2 S_p_law_alike_r4) := by
  obtain ⟨fd_p_law_alike_r5, D_p_law_alike_r5, G_p_law_alike_r5⟩ := ok_p_law_alike_r5 (P := P) (w := w) (base := base) T
  have m_p_law_alike_r5 := glo_p_law_alike_r5 T
  have b_all := free_all T
  have b_bool := free_bool T
  have b_int := free_int T
  have b_isinstance := free_isinstance T
  have b_len := free_len T
  have b_list := free_list T
  have b_str := free_str T
  have b_tuple := free_tuple T
  have b_zip := free_zip T
  obtain ⟨_, i_GREATEST⟩ := int_GREATEST T
  obtain ⟨_, i_MOST_BOARD⟩ := int_MOST_BOARD T
  obtain ⟨_, i_MOST_BOXES⟩ := int_MOST_BOXES T
  obtain ⟨_, i_MOST_FIELDS⟩ := int_MOST_FIELDS T
  obtain ⟨_, i_MOST_HANDS⟩ := int_MOST_HANDS T
  obtain ⟨_, i_MOST_ROWS⟩ := int_MOST_ROWS T
  obtain ⟨fd, F⟩ := fun_p_law_alike_r4 T
  refine ⟨fd, F, fnG (N := N_p_law_alike_r4) (ps := ["_law_found", "_law_due"]) (k := 1) (g := m_p_law_alike_r4) F ⟨rfl, rfl, rfl, by decide +kernel, rfl, by decide +kernel, by decide +kernel⟩ fun cdv A outer s H E C => ?_⟩
  refine dss_cons ?_ ?_
  · refine ds_if (dt_val (de_isi rfl b_isinstance (da_cons (de_var (pv 1)) (da_cons (de_tup (da_cons (de_ty rfl b_list (by rfl)) (da_cons (de_ty rfl b_tuple (by rfl)) da_nil))) da_nil)))) ?_ ?_
    · refine dss_cons (ds_if (DW.dt (dw_or (dt_cmp (opr_ne C) opd_ne (de_isi rfl b_isinstance (da_cons (de_var (pv 0)) (da_cons (de_ty rfl b_list (by rfl)) da_nil))) (de_isi rfl b_isinstance (da_cons (de_var (pv 1)) (da_cons (de_ty rfl b_list (by rfl)) da_nil))) (nomark _)) (dw_or1 (dt_cmp (opr_ne C) opd_ne (de_isi rfl b_isinstance (da_cons (de_var (pv 0)) (da_cons (de_ty rfl b_tuple (by rfl)) da_nil))) (de_isi rfl b_isinstance (da_cons (de_var (pv 1)) (da_cons (de_ty rfl b_tuple (by rfl)) da_nil))) (nomark _))))) (dss_one (ds_ret de_bl)) dss_nil) ?_
      exact (dss_one (ds_ret (de_and (de_cmp (opr_eq C) opd_eq (de_len rfl b_len (da_cons (de_var (pv 0)) da_nil)) (de_len rfl b_len (da_cons (de_var (pv 1)) da_nil)) (nomark _)) (de_one (de_all C rfl b_all (da_cons (de_lcB C finL_ok (di_zipA rfl b_zip (da_cons (de_var (pv 0)) (da_cons (de_var (pv 1)) da_nil))) (show BlkOk N_p_law_alike_r4 (defScope s_p_law_alike_r4) _ [("_law_one", 2), ("_law_other", 3)] from ⟨rfl, by decide +kernel, by decide +kernel, by decide +kernel, by decide +kernel⟩) (fun _ _ _ _ _ C1 => (dg_tup C1.calm (dgs_cons (dg_name (i := 2) (pg_name C1.nd rfl (by first | exact Or.inl rfl | exact Or.inr rfl))) (dgs_cons (dg_name (i := 3) (pg_name C1.nd rfl (by first | exact Or.inl rfl | exact Or.inr rfl))) dgs_nil)))) (fun _ _ _ _ _ C1 => dts_nil) (fun _ _ _ _ _ C1 => (de_callL (x := "_law_alike") G_p_law_alike_r5 callOk_share C1 rfl m_p_law_alike_r5 D_p_law_alike_r5.kp (kb16 D_p_law_alike_r5) (da_cons (de_var (pv 2)) (da_cons (de_var (pv 3)) da_nil)) dkw_nil))) da_nil))))))
    · exact dss_nil
  exact (dss_cons (ds_if (DW.dt (dw_or (dt_cmp op_isN opd_is (de_var (pv 1)) de_non (nomark _)) (dw_or1 (dt_val (de_isi rfl b_isinstance (da_cons (de_var (pv 1)) (da_cons (de_ty rfl b_bool (by rfl)) da_nil))))))) (dss_one (ds_ret (de_ifExp (dt_cmp op_isN opd_is (de_var (pv 1)) de_non (nomark _)) (de_cmp op_isN opd_is (de_var (pv 0)) de_non (nomark _)) (de_and (de_isi rfl b_isinstance (da_cons (de_var (pv 0)) (da_cons (de_ty rfl b_bool (by rfl)) da_nil))) (de_one (de_cmp (opr_eq C) opd_eq (de_var (pv 0)) (de_var (pv 1)) (nomark _))))))) dss_nil) (dss_cons (ds_if (dt_val (de_isi rfl b_isinstance (da_cons (de_var (pv 1)) (da_cons (de_ty rfl b_int (by rfl)) da_nil)))) (dss_one (ds_ret (de_and (de_isi rfl b_isinstance (da_cons (de_var (pv 0)) (da_cons (de_ty rfl b_int (by rfl)) da_nil))) (de_and (de_not (de_isi rfl b_isinstance (da_cons (de_var (pv 0)) (da_cons (de_ty rfl b_bool (by rfl)) da_nil)))) (de_one (de_cmp (opr_eq C) opd_eq (de_var (pv 0)) (de_var (pv 1)) (nomark _))))))) dss_nil) (dss_one (ds_ret (de_and (de_isi rfl b_isinstance (da_cons (de_var (pv 0)) (da_cons (de_ty rfl b_str (by rfl)) da_nil))) (de_one (de_cmp (opr_eq C) opd_eq (de_var (pv 0)) (de_var (pv 1)) (nomark _))))))))
theorem ok_p_law_alike_r3 {P : Program} {w : World} {K : PySem.W.Frag} {mg : Str → Option Value} {base : Heap} (T : Txt w K mg) : ∃ fd, FunD K d_p_law_alike_r3.name d_p_law_alike_r3.qual d_p_law_alike_r3.params d_p_law_alike_r3.body d_p_law_alike_r3.scope (d_p_law_alike_r3.dvs K) (d_p_law_alike_r3.kws K) (He.fAd K d_p_law_alike_r3.at_) fd ∧
    FnG P w K mg base 3 (He.fAd K d_p_law_alike_r3.at_) fd ["_law_found", "_law_due"] (spD K mg 2 S_p_law_alike_r3) := by
  obtain ⟨fd_p_law_alike_r4, D_p_law_alike_r4, G_p_law_alike_r4⟩ := ok_p_law_alike_r4 (P := P) (w := w) (base := base) T
  have m_p_law_alike_r4 := glo_p_law_alike_r4 T
  have b_all := free_all T
  have b_bool := free_bool T
  have b_int := free_int T
  have b_isinstance := free_isinstance T
  have b_len := free_len T
  have b_list := free_list T
  have b_str := free_str T
  have b_tuple := free_tuple T
  have b_zip := free_zip T
  obtain ⟨_, i_GREATEST⟩ := int_GREATEST T
  obtain ⟨_, i_MOST_BOARD⟩ := int_MOST_BOARD T
  obtain ⟨_, i_MOST_BOXES⟩ := int_MOST_BOXES T
  obtain ⟨_, i_MOST_FIELDS⟩ := int_MOST_FIELDS T
  obtain ⟨_, i_MOST_HANDS⟩ := int_MOST_HANDS T
  obtain ⟨_, i_MOST_ROWS⟩ := int_MOST_ROWS T
  obtain ⟨fd, F⟩ := fun_p_law_alike_r3 T
  refine ⟨fd, F, fnG (N := N_p_law_alike_r3) (ps := ["_law_found", "_law_due"]) (k := 2) (g := m_p_law_alike_r3) F ⟨rfl, rfl, rfl, by decide +kernel, rfl, by decide +kernel, by decide +kernel⟩ fun cdv A outer s H E C => ?_⟩
  refine dss_cons ?_ ?_
  · refine ds_if (dt_val (de_isi rfl b_isinstance (da_cons (de_var (pv 1)) (da_cons (de_tup (da_cons (de_ty rfl b_list (by rfl)) (da_cons (de_ty rfl b_tuple (by rfl)) da_nil))) da_nil)))) ?_ ?_
    · refine dss_cons (ds_if (DW.dt (dw_or (dt_cmp (opr_ne C) opd_ne (de_isi rfl b_isinstance (da_cons (de_var (pv 0)) (da_cons (de_ty rfl b_list (by rfl)) da_nil))) (de_isi rfl b_isinstance (da_cons (de_var (pv 1)) (da_cons (de_ty rfl b_list (by rfl)) da_nil))) (nomark _)) (dw_or1 (dt_cmp (opr_ne C) opd_ne (de_isi rfl b_isinstance (da_cons (de_var (pv 0)) (da_cons (de_ty rfl b_tuple (by rfl)) da_nil))) (de_isi rfl b_isinstance (da_cons (de_var (pv 1)) (da_cons (de_ty rfl b_tuple (by rfl)) da_nil))) (nomark _))))) (dss_one (ds_ret de_bl)) dss_nil) ?_
      exact (dss_one (ds_ret (de_and (de_cmp (opr_eq C) opd_eq (de_len rfl b_len (da_cons (de_var (pv 0)) da_nil)) (de_len rfl b_len (da_cons (de_var (pv 1)) da_nil)) (nomark _)) (de_one (de_all C rfl b_all (da_cons (de_lcB C finL_ok (di_zipA rfl b_zip (da_cons (de_var (pv 0)) (da_cons (de_var (pv 1)) da_nil))) (show BlkOk N_p_law_alike_r3 (defScope s_p_law_alike_r3) _ [("_law_one", 2), ("_law_other", 3)] from ⟨rfl, by decide +kernel, by decide +kernel, by decide +kernel, by decide +kernel⟩) (fun _ _ _ _ _ C1 => (dg_tup C1.calm (dgs_cons (dg_name (i := 2) (pg_name C1.nd rfl (by first | exact Or.inl rfl | exact Or.inr rfl))) (dgs_cons (dg_name (i := 3) (pg_name C1.nd rfl (by first | exact Or.inl rfl | exact Or.inr rfl))) dgs_nil)))) (fun _ _ _ _ _ C1 => dts_nil) (fun _ _ _ _ _ C1 => (de_callL (x := "_law_alike") G_p_law_alike_r4 callOk_share C1 rfl m_p_law_alike_r4 D_p_law_alike_r4.kp (kb17 D_p_law_alike_r4) (da_cons (de_var (pv 2)) (da_cons (de_var (pv 3)) da_nil)) dkw_nil))) da_nil))))))
    · exact dss_nil
  exact (dss_cons (ds_if (DW.dt (dw_or (dt_cmp op_isN opd_is (de_var (pv 1)) de_non (nomark _)) (dw_or1 (dt_val (de_isi rfl b_isinstance (da_cons (de_var (pv 1)) (da_cons (de_ty rfl b_bool (by rfl)) da_nil))))))) (dss_one (ds_ret (de_ifExp (dt_cmp op_isN opd_is (de_var (pv 1)) de_non (nomark _)) (de_cmp op_isN opd_is (de_var (pv 0)) de_non (nomark _)) (de_and (de_isi rfl b_isinstance (da_cons (de_var (pv 0)) (da_cons (de_ty rfl b_bool (by rfl)) da_nil))) (de_one (de_cmp (opr_eq C) opd_eq (de_var (pv 0)) (de_var (pv 1)) (nomark _))))))) dss_nil) (dss_cons (ds_if (dt_val (de_isi rfl b_isinstance (da_cons (de_var (pv 1)) (da_cons (de_ty rfl b_int (by rfl)) da_nil)))) (dss_one (ds_ret (de_and (de_isi rfl b_isinstance (da_cons (de_var (pv 0)) (da_cons (de_ty rfl b_int (by rfl)) da_nil))) (de_and (de_not (de_isi rfl b_isinstance (da_cons (de_var (pv 0)) (da_cons (de_ty rfl b_bool (by rfl)) da_nil)))) (de_one (de_cmp (opr_eq C) opd_eq (de_var (pv 0)) (de_var (pv 1)) (nomark _))))))) dss_nil) (dss_one (ds_ret (de_and (de_isi rfl b_isinstance (da_cons (de_var (pv 0)) (da_cons (de_ty rfl b_str (by rfl)) da_nil))) (de_one (de_cmp (opr_eq C) opd_eq (de_var (pv 0)) (de_var (pv 1)) (nomark _))))))))
theorem ok_p_law_alike_r2 {P : Program} {w : World} {K : PySem.W.Frag} {mg : Str → Option Value} {base : Heap} (T : Txt w K mg) : ∃ fd, FunD K d_p_law_alike_r2.name d_p_law_alike_r2.qual d_p_law_alike_r2.params d_p_law_alike_r2.body d_p_law_alike_r2.scope (d_p_law_alike_r2.dvs K) (d_p_law_alike_r2.kws K) (He.fAd K d_p_law_alike_r2.at_) fd ∧
    FnG P w K mg base 4 (He.fAd K d_p_law_alike_r2.at_) fd ["_law_found", "_law_due"] (spD K mg 2 S_p_law_alike_r2) := by
  obtain ⟨fd_p_law_alike_r3, D_p_law_alike_r3, G_p_law_alike_r3⟩ := ok_p_law_alike_r3 (P := P) (w := w) (base := base) T
  have m_p_law_alike_r3 := glo_p_law_alike_r3 T
  have b_all := free_all T
  have b_bool := free_bool T
  have b_int := free_int T
  have b_isinstance := free_isinstance T
  have b_len := free_len T
  have b_list := free_list T
  have b_str := free_str T
  have b_tuple := free_tuple T
  have b_zip := free_zip T
  obtain ⟨_, i_GREATEST⟩ := int_GREATEST T
  obtain ⟨_, i_MOST_BOARD⟩ := int_MOST_BOARD T
  obtain ⟨_, i_MOST_BOXES⟩ := int_MOST_BOXES T
  obtain ⟨_, i_MOST_FIELDS⟩ := int_MOST_FIELDS T
  obtain ⟨_, i_MOST_HANDS⟩ := int_MOST_HANDS T
  obtain ⟨_, i_MOST_ROWS⟩ := int_MOST_ROWS T
  obtain ⟨fd, F⟩ := fun_p_law_alike_r2 T
  refine ⟨fd, F, fnG (N := N_p_law_alike_r2) (ps := ["_law_found", "_law_due"]) (k := 3) (g := m_p_law_alike_r2) F ⟨rfl, rfl, rfl, by decide +kernel, rfl, by decide +kernel, by decide +kernel⟩ fun cdv A outer s H E C => ?_⟩
  refine dss_cons ?_ ?_
  · refine ds_if (dt_val (de_isi rfl b_isinstance (da_cons (de_var (pv 1)) (da_cons (de_tup (da_cons (de_ty rfl b_list (by rfl)) (da_cons (de_ty rfl b_tuple (by rfl)) da_nil))) da_nil)))) ?_ ?_
    · refine dss_cons (ds_if (DW.dt (dw_or (dt_cmp (opr_ne C) opd_ne (de_isi rfl b_isinstance (da_cons (de_var (pv 0)) (da_cons (de_ty rfl b_list (by rfl)) da_nil))) (de_isi rfl b_isinstance (da_cons (de_var (pv 1)) (da_cons (de_ty rfl b_list (by rfl)) da_nil))) (nomark _)) (dw_or1 (dt_cmp (opr_ne C) opd_ne (de_isi rfl b_isinstance (da_cons (de_var (pv 0)) (da_cons (de_ty rfl b_tuple (by rfl)) da_nil))) (de_isi rfl b_isinstance (da_cons (de_var (pv 1)) (da_cons (de_ty rfl b_tuple (by rfl)) da_nil))) (nomark _))))) (dss_one (ds_ret de_bl)) dss_nil) ?_
      exact (dss_one (ds_ret (de_and (de_cmp (opr_eq C) opd_eq (de_len rfl b_len (da_cons (de_var (pv 0)) da_nil)) (de_len rfl b_len (da_cons (de_var (pv 1)) da_nil)) (nomark _)) (de_one (de_all C rfl b_all (da_cons (de_lcB C finL_ok (di_zipA rfl b_zip (da_cons (de_var (pv 0)) (da_cons (de_var (pv 1)) da_nil))) (show BlkOk N_p_law_alike_r2 (defScope s_p_law_alike_r2) _ [("_law_one", 2), ("_law_other", 3)] from ⟨rfl, by decide +kernel, by decide +kernel, by decide +kernel, by decide +kernel⟩) (fun _ _ _ _ _ C1 => (dg_tup C1.calm (dgs_cons (dg_name (i := 2) (pg_name C1.nd rfl (by first | exact Or.inl rfl | exact Or.inr rfl))) (dgs_cons (dg_name (i := 3) (pg_name C1.nd rfl (by first | exact Or.inl rfl | exact Or.inr rfl))) dgs_nil)))) (fun _ _ _ _ _ C1 => dts_nil) (fun _ _ _ _ _ C1 => (de_callL (x := "_law_alike") G_p_law_alike_r3 callOk_share C1 rfl m_p_law_alike_r3 D_p_law_alike_r3.kp (kb18 D_p_law_alike_r3) (da_cons (de_var (pv 2)) (da_cons (de_var (pv 3)) da_nil)) dkw_nil))) da_nil))))))
    · exact dss_nil
  exact (dss_cons (ds_if (DW.dt (dw_or (dt_cmp op_isN opd_is (de_var (pv 1)) de_non (nomark _)) (dw_or1 (dt_val (de_isi rfl b_isinstance (da_cons (de_var (pv 1)) (da_cons (de_ty rfl b_bool (by rfl)) da_nil))))))) (dss_one (ds_ret (de_ifExp (dt_cmp op_isN opd_is (de_var (pv 1)) de_non (nomark _)) (de_cmp op_isN opd_is (de_var (pv 0)) de_non (nomark _)) (de_and (de_isi rfl b_isinstance (da_cons (de_var (pv 0)) (da_cons (de_ty rfl b_bool (by rfl)) da_nil))) (de_one (de_cmp (opr_eq C) opd_eq (de_var (pv 0)) (de_var (pv 1)) (nomark _))))))) dss_nil) (dss_cons (ds_if (dt_val (de_isi rfl b_isinstance (da_cons (de_var (pv 1)) (da_cons (de_ty rfl b_int (by rfl)) da_nil)))) (dss_one (ds_ret (de_and (de_isi rfl b_isinstance (da_cons (de_var (pv 0)) (da_cons (de_ty rfl b_int (by rfl)) da_nil))) (de_and (de_not (de_isi rfl b_isinstance (da_cons (de_var (pv 0)) (da_cons (de_ty rfl b_bool (by rfl)) da_nil)))) (de_one (de_cmp (opr_eq C) opd_eq (de_var (pv 0)) (de_var (pv 1)) (nomark _))))))) dss_nil) (dss_one (ds_ret (de_and (de_isi rfl b_isinstance (da_cons (de_var (pv 0)) (da_cons (de_ty rfl b_str (by rfl)) da_nil))) (de_one (de_cmp (opr_eq C) opd_eq (de_var (pv 0)) (de_var (pv 1)) (nomark _))))))))
theorem ok_p_law_alike_r1 {P : Program} {w : World} {K : PySem.W.Frag} {mg : Str → Option Value} {base : Heap} (T : Txt w K mg) : ∃ fd, FunD K d_p_law_alike_r1.name d_p_law_alike_r1.qual d_p_law_alike_r1.params d_p_law_alike_r1.body d_p_law_alike_r1.scope (d_p_law_alike_r1.dvs K) (d_p_law_alike_r1.kws K) (He.fAd K d_p_law_alike_r1.at_) fd ∧
    FnG P w K mg base 5 (He.fAd K d_p_law_alike_r1.at_) fd ["_law_found", "_law_due"] (spD K mg 2 S_p_law_alike_r1) := by
  obtain ⟨fd_p_law_alike_r2, D_p_law_alike_r2, G_p_law_alike_r2⟩ := ok_p_law_alike_r2 (P := P) (w := w) (base := base) T
  have m_p_law_alike_r2 := glo_p_law_alike_r2 T
  have b_all := free_all T
  have b_bool := free_bool T
  have b_int := free_int T
  have b_isinstance := free_isinstance T
  have b_len := free_len T
  have b_list := free_list T
  have b_str := free_str T
  have b_tuple := free_tuple T
  have b_zip := free_zip T
  obtain ⟨_, i_GREATEST⟩ := int_GREATEST T
  obtain ⟨_, i_MOST_BOARD⟩ := int_MOST_BOARD T
  obtain ⟨_, i_MOST_BOXES⟩ := int_MOST_BOXES T
  obtain ⟨_, i_MOST_FIELDS⟩ := int_MOST_FIELDS T
  obtain ⟨_, i_MOST_HANDS⟩ := int_MOST_HANDS T
  obtain ⟨_, i_MOST_ROWS⟩ := int_MOST_ROWS T
  obtain ⟨fd, F⟩ := fun_p_law_alike_r1 T
  refine ⟨fd, F, fnG (N := N_p_law_alike_r1) (ps := ["_law_found", "_law_due"]) (k := 4) (g := m_p_law_alike_r1) F ⟨rfl, rfl, rfl, by decide +kernel, rfl, by decide +kernel, by decide +kernel⟩ fun cdv A outer s H E C => ?_⟩
  refine dss_cons ?_ ?_
  · refine ds_if (dt_val (de_isi rfl b_isinstance (da_cons (de_var (pv 1)) (da_cons (de_tup (da_cons (de_ty rfl b_list (by rfl)) (da_cons (de_ty rfl b_tuple (by rfl)) da_nil))) da_nil)))) ?_ ?_
    · refine dss_cons (ds_if (DW.dt (dw_or (dt_cmp (opr_ne C) opd_ne (de_isi rfl b_isinstance (da_cons (de_var (pv 0)) (da_cons (de_ty rfl b_list (by rfl)) da_nil))) (de_isi rfl b_isinstance (da_cons (de_var (pv 1)) (da_cons (de_ty rfl b_list (by rfl)) da_nil))) (nomark _)) (dw_or1 (dt_cmp (opr_ne C) opd_ne (de_isi rfl b_isinstance (da_cons (de_var (pv 0)) (da_cons (de_ty rfl b_tuple (by rfl)) da_nil))) (de_isi rfl b_isinstance (da_cons (de_var (pv 1)) (da_cons (de_ty rfl b_tuple (by rfl)) da_nil))) (nomark _))))) (dss_one (ds_ret de_bl)) dss_nil) ?_
      exact (dss_one (ds_ret (de_and (de_cmp (opr_eq C) opd_eq (de_len rfl b_len (da_cons (de_var (pv 0)) da_nil)) (de_len rfl b_len (da_cons (de_var (pv 1)) da_nil)) (nomark _)) (de_one (de_all C rfl b_all (da_cons (de_lcB C finL_ok (di_zipA rfl b_zip (da_cons (de_var (pv 0)) (da_cons (de_var (pv 1)) da_nil))) (show BlkOk N_p_law_alike_r1 (defScope s_p_law_alike_r1) _ [("_law_one", 2), ("_law_other", 3)] from ⟨rfl, by decide +kernel, by decide +kernel, by decide +kernel, by decide +kernel⟩) (fun _ _ _ _ _ C1 => (dg_tup C1.calm (dgs_cons (dg_name (i := 2) (pg_name C1.nd rfl (by first | exact Or.inl rfl | exact Or.inr rfl))) (dgs_cons (dg_name (i := 3) (pg_name C1.nd rfl (by first | exact Or.inl rfl | exact Or.inr rfl))) dgs_nil)))) (fun _ _ _ _ _ C1 => dts_nil) (fun _ _ _ _ _ C1 => (de_callL (x := "_law_alike") G_p_law_alike_r2 callOk_share C1 rfl m_p_law_alike_r2 D_p_law_alike_r2.kp (kb19 D_p_law_alike_r2) (da_cons (de_var (pv 2)) (da_cons (de_var (pv 3)) da_nil)) dkw_nil))) da_nil))))))
    · exact dss_nil
  exact (dss_cons (ds_if (DW.dt (dw_or (dt_cmp op_isN opd_is (de_var (pv 1)) de_non (nomark _)) (dw_or1 (dt_val (de_isi rfl b_isinstance (da_cons (de_var (pv 1)) (da_cons (de_ty rfl b_bool (by rfl)) da_nil))))))) (dss_one (ds_ret (de_ifExp (dt_cmp op_isN opd_is (de_var (pv 1)) de_non (nomark _)) (de_cmp op_isN opd_is (de_var (pv 0)) de_non (nomark _)) (de_and (de_isi rfl b_isinstance (da_cons (de_var (pv 0)) (da_cons (de_ty rfl b_bool (by rfl)) da_nil))) (de_one (de_cmp (opr_eq C) opd_eq (de_var (pv 0)) (de_var (pv 1)) (nomark _))))))) dss_nil) (dss_cons (ds_if (dt_val (de_isi rfl b_isinstance (da_cons (de_var (pv 1)) (da_cons (de_ty rfl b_int (by rfl)) da_nil)))) (dss_one (ds_ret (de_and (de_isi rfl b_isinstance (da_cons (de_var (pv 0)) (da_cons (de_ty rfl b_int (by rfl)) da_nil))) (de_and (de_not (de_isi rfl b_isinstance (da_cons (de_var (pv 0)) (da_cons (de_ty rfl b_bool (by rfl)) da_nil)))) (de_one (de_cmp (opr_eq C) opd_eq (de_var (pv 0)) (de_var (pv 1)) (nomark _))))))) dss_nil) (dss_one (ds_ret (de_and (de_isi rfl b_isinstance (da_cons (de_var (pv 0)) (da_cons (de_ty rfl b_str (by rfl)) da_nil))) (de_one (de_cmp (opr_eq C) opd_eq (de_var (pv 0)) (de_var (pv 1)) (nomark _))))))))
theorem ok_p_law_alike {P : Program} {w : World} {K : PySem.W.Frag} {mg : Str → Option Value} {base : Heap} (T : Txt w K mg) : ∃ fd, FunD K d_p_law_alike.name d_p_law_alike.qual d_p_law_alike.params d_p_law_alike.body d_p_law_alike.scope (d_p_law_alike.dvs K) (d_p_law_alike.kws K) (He.fAd K d_p_law_alike.at_) fd ∧
    FnG P w K mg base 6 (He.fAd K d_p_law_alike.at_) fd ["_law_found", "_law_due"] (spD K mg 2 S_p_law_alike) := by
  obtain ⟨fd_p_law_alike_r1, D_p_law_alike_r1, G_p_law_alike_r1⟩ := ok_p_law_alike_r1 (P := P) (w := w) (base := base) T
  have m_p_law_alike_r1 := glo_p_law_alike_r1 T
  have b_all := free_all T
  have b_bool := free_bool T
  have b_int := free_int T
  have b_isinstance := free_isinstance T
  have b_len := free_len T
  have b_list := free_list T
  have b_str := free_str T
  have b_tuple := free_tuple T
  have b_zip := free_zip T
  obtain ⟨_, i_GREATEST⟩ := int_GREATEST T
  obtain ⟨_, i_MOST_BOARD⟩ := int_MOST_BOARD T
  obtain ⟨_, i_MOST_BOXES⟩ := int_MOST_BOXES T
  obtain ⟨_, i_MOST_FIELDS⟩ := int_MOST_FIELDS T
  obtain ⟨_, i_MOST_HANDS⟩ := int_MOST_HANDS T
  obtain ⟨_, i_MOST_ROWS⟩ := int_MOST_ROWS T
  obtain ⟨fd, F⟩ := fun_p_law_alike T
  refine ⟨fd, F, fnG (N := N_p_law_alike) (ps := ["_law_found", "_law_due"]) (k := 5) (g := m_p_law_alike) F ⟨rfl, rfl, rfl, by decide +kernel, rfl, by decide +kernel, by decide +kernel⟩ fun cdv A outer s H E C => ?_⟩
  refine dss_cons ?_ ?_
  · refine ds_if (dt_val (de_isi rfl b_isinstance (da_cons (de_var (pv 1)) (da_cons (de_tup (da_cons (de_ty rfl b_list (by rfl)) (da_cons (de_ty rfl b_tuple (by rfl)) da_nil))) da_nil)))) ?_ ?_
    · refine dss_cons (ds_if (DW.dt (dw_or (dt_cmp (opr_ne C) opd_ne (de_isi rfl b_isinstance (da_cons (de_var (pv 0)) (da_cons (de_ty rfl b_list (by rfl)) da_nil))) (de_isi rfl b_isinstance (da_cons (de_var (pv 1)) (da_cons (de_ty rfl b_list (by rfl)) da_nil))) (nomark _)) (dw_or1 (dt_cmp (opr_ne C) opd_ne (de_isi rfl b_isinstance (da_cons (de_var (pv 0)) (da_cons (de_ty rfl b_tuple (by rfl)) da_nil))) (de_isi rfl b_isinstance (da_cons (de_var (pv 1)) (da_cons (de_ty rfl b_tuple (by rfl)) da_nil))) (nomark _))))) (dss_one (ds_ret de_bl)) dss_nil) ?_
      exact (dss_one (ds_ret (de_and (de_cmp (opr_eq C) opd_eq (de_len rfl b_len (da_cons (de_var (pv 0)) da_nil)) (de_len rfl b_len (da_cons (de_var (pv 1)) da_nil)) (nomark _)) (de_one (de_all C rfl b_all (da_cons (de_lcB C finL_ok (di_zipA rfl b_zip (da_cons (de_var (pv 0)) (da_cons (de_var (pv 1)) da_nil))) (show BlkOk N_p_law_alike (defScope s_p_law_alike) _ [("_law_one", 2), ("_law_other", 3)] from ⟨rfl, by decide +kernel, by decide +kernel, by decide +kernel, by decide +kernel⟩) (fun _ _ _ _ _ C1 => (dg_tup C1.calm (dgs_cons (dg_name (i := 2) (pg_name C1.nd rfl (by first | exact Or.inl rfl | exact Or.inr rfl))) (dgs_cons (dg_name (i := 3) (pg_name C1.nd rfl (by first | exact Or.inl rfl | exact Or.inr rfl))) dgs_nil)))) (fun _ _ _ _ _ C1 => dts_nil) (fun _ _ _ _ _ C1 => (de_callL (x := "_law_alike") G_p_law_alike_r1 callOk_share C1 rfl m_p_law_alike_r1 D_p_law_alike_r1.kp (kb20 D_p_law_alike_r1) (da_cons (de_var (pv 2)) (da_cons (de_var (pv 3)) da_nil)) dkw_nil))) da_nil))))))
    · exact dss_nil
  exact (dss_cons (ds_if (DW.dt (dw_or (dt_cmp op_isN opd_is (de_var (pv 1)) de_non (nomark _)) (dw_or1 (dt_val (de_isi rfl b_isinstance (da_cons (de_var (pv 1)) (da_cons (de_ty rfl b_bool (by rfl)) da_nil))))))) (dss_one (ds_ret (de_ifExp (dt_cmp op_isN opd_is (de_var (pv 1)) de_non (nomark _)) (de_cmp op_isN opd_is (de_var (pv 0)) de_non (nomark _)) (de_and (de_isi rfl b_isinstance (da_cons (de_var (pv 0)) (da_cons (de_ty rfl b_bool (by rfl)) da_nil))) (de_one (de_cmp (opr_eq C) opd_eq (de_var (pv 0)) (de_var (pv 1)) (nomark _))))))) dss_nil) (dss_cons (ds_if (dt_val (de_isi rfl b_isinstance (da_cons (de_var (pv 1)) (da_cons (de_ty rfl b_int (by rfl)) da_nil)))) (dss_one (ds_ret (de_and (de_isi rfl b_isinstance (da_cons (de_var (pv 0)) (da_cons (de_ty rfl b_int (by rfl)) da_nil))) (de_and (de_not (de_isi rfl b_isinstance (da_cons (de_var (pv 0)) (da_cons (de_ty rfl b_bool (by rfl)) da_nil)))) (de_one (de_cmp (opr_eq C) opd_eq (de_var (pv 0)) (de_var (pv 1)) (nomark _))))))) dss_nil) (dss_one (ds_ret (de_and (de_isi rfl b_isinstance (da_cons (de_var (pv 0)) (da_cons (de_ty rfl b_str (by rfl)) da_nil))) (de_one (de_cmp (opr_eq C) opd_eq (de_var (pv 0)) (de_var (pv 1)) (nomark _))))))))
theorem ok_Program_hands_o {P : Program} {w : World} {K : PySem.W.Frag} {mg : Str → Option Value} {base : Heap} (T : Txt w K mg) : ∃ fd, FunD K d_Program_hands_o.name d_Program_hands_o.qual d_Program_hands_o.params d_Program_hands_o.body d_Program_hands_o.scope (d_Program_hands_o.dvs K) (d_Program_hands_o.kws K) (He.fAd K d_Program_hands_o.at_) fd ∧
    FnG P w K mg base 1 (He.fAd K d_Program_hands_o.at_) fd ["self"] (spD K mg 1 S_Program_hands_o) := by
  have b_list := free_list T
  obtain ⟨_, i_GREATEST⟩ := int_GREATEST T
  obtain ⟨_, i_MOST_BOARD⟩ := int_MOST_BOARD T
  obtain ⟨_, i_MOST_BOXES⟩ := int_MOST_BOXES T
  obtain ⟨_, i_MOST_FIELDS⟩ := int_MOST_FIELDS T
  obtain ⟨_, i_MOST_HANDS⟩ := int_MOST_HANDS T
  obtain ⟨_, i_MOST_ROWS⟩ := int_MOST_ROWS T
  have I_Program : ∀ {X : Cx}, X.K = K → X.mg = mg → ClsI X "Program" (He.ga K "Program") := fun h1 h2 => ⟨by rw [h2]; exact gloc_Program T, by rw [h1]; exact cls_Program T⟩
  have N_Program_plan := noat_Program_plan T
  obtain ⟨fd, F⟩ := fun_Program_hands_o T
  refine ⟨fd, F, fnG (N := N_Program_hands_o) (ps := ["self"]) (k := 0) (g := m_Program_hands_o) F ⟨rfl, rfl, rfl, by decide +kernel, rfl, by decide +kernel, by decide +kernel⟩ fun cdv A outer s H E C => ?_⟩
  exact (dss_one (ds_ret (de_lcB C finO_ok (di_seq (de_fld (de_var (pv 0)) (cs := ["Program"]) fun c hc => by rw [List.mem_singleton.mp hc]; exact ⟨_, I_Program rfl rfl, N_Program_plan⟩)) (show BlkOk N_Program_hands_o (defScope s_Program_hands_o) _ [("rows", 1)] from ⟨rfl, by decide +kernel, by decide +kernel, by decide +kernel, by decide +kernel⟩) (fun _ _ _ _ _ C1 => (dg_name (i := 1) (pg_name C1.nd rfl (by first | exact Or.inl rfl | exact Or.inr rfl)))) (fun _ _ _ _ _ C1 => dts_nil) (fun _ _ _ _ _ C1 => (de_listO C1 rfl b_list (da_cons (de_var (pv 1)) da_nil))))))
theorem ok_Program_boxes {P : Program} {w : World} {K : PySem.W.Frag} {mg : Str → Option Value} {base : Heap} (T : Txt w K mg) : ∃ fd, FunD K d_Program_boxes.name d_Program_boxes.qual d_Program_boxes.params d_Program_boxes.body d_Program_boxes.scope (d_Program_boxes.dvs K) (d_Program_boxes.kws K) (He.fAd K d_Program_boxes.at_) fd ∧
    FnG P w K mg base 1 (He.fAd K d_Program_boxes.at_) fd ["self"] (spD K mg 1 S_Program_boxes) := by
  obtain ⟨_, i_GREATEST⟩ := int_GREATEST T
  obtain ⟨_, i_MOST_BOARD⟩ := int_MOST_BOARD T
  obtain ⟨_, i_MOST_BOXES⟩ := int_MOST_BOXES T
  obtain ⟨_, i_MOST_FIELDS⟩ := int_MOST_FIELDS T
  obtain ⟨_, i_MOST_HANDS⟩ := int_MOST_HANDS T
  obtain ⟨_, i_MOST_ROWS⟩ := int_MOST_ROWS T
  have I_Program : ∀ {X : Cx}, X.K = K → X.mg = mg → ClsI X "Program" (He.ga K "Program") := fun h1 h2 => ⟨by rw [h2]; exact gloc_Program T, by rw [h1]; exact cls_Program T⟩
  have N_Program_wide := noat_Program_wide T
  obtain ⟨fd, F⟩ := fun_Program_boxes T
  refine ⟨fd, F, fnG (N := N_Program_boxes) (ps := ["self"]) (k := 0) (g := m_Program_boxes) F ⟨rfl, rfl, rfl, by decide +kernel, rfl, by decide +kernel, by decide +kernel⟩ fun cdv A outer s H E C => ?_⟩
  exact (dss_one (ds_ret (de_fld (de_var (pv 0)) (cs := ["Program"]) fun c hc => by rw [List.mem_singleton.mp hc]; exact ⟨_, I_Program rfl rfl, N_Program_wide⟩)))
theorem ok_Program_board {P : Program} {w : World} {K : PySem.W.Frag} {mg : Str → Option Value} {base : Heap} (T : Txt w K mg) : ∃ fd, FunD K d_Program_board.name d_Program_board.qual d_Program_board.params d_Program_board.body d_Program_board.scope (d_Program_board.dvs K) (d_Program_board.kws K) (He.fAd K d_Program_board.at_) fd ∧
    FnG P w K mg base 1 (He.fAd K d_Program_board.at_) fd ["self"] (spD K mg 1 S_Program_board) := by
  obtain ⟨_, i_GREATEST⟩ := int_GREATEST T
  obtain ⟨_, i_MOST_BOARD⟩ := int_MOST_BOARD T
  obtain ⟨_, i_MOST_BOXES⟩ := int_MOST_BOXES T
  obtain ⟨_, i_MOST_FIELDS⟩ := int_MOST_FIELDS T
  obtain ⟨_, i_MOST_HANDS⟩ := int_MOST_HANDS T
  obtain ⟨_, i_MOST_ROWS⟩ := int_MOST_ROWS T
  have I_Program : ∀ {X : Cx}, X.K = K → X.mg = mg → ClsI X "Program" (He.ga K "Program") := fun h1 h2 => ⟨by rw [h2]; exact gloc_Program T, by rw [h1]; exact cls_Program T⟩
  have N_Program_shared := noat_Program_shared T
  obtain ⟨fd, F⟩ := fun_Program_board T
  refine ⟨fd, F, fnG (N := N_Program_board) (ps := ["self"]) (k := 0) (g := m_Program_board) F ⟨rfl, rfl, rfl, by decide +kernel, rfl, by decide +kernel, by decide +kernel⟩ fun cdv A outer s H E C => ?_⟩
  exact (dss_one (ds_ret (de_fld (de_var (pv 0)) (cs := ["Program"]) fun c hc => by rw [List.mem_singleton.mp hc]; exact ⟨_, I_Program rfl rfl, N_Program_shared⟩)))
theorem ok_Program_pegs {P : Program} {w : World} {K : PySem.W.Frag} {mg : Str → Option Value} {base : Heap} (T : Txt w K mg) : ∃ fd, FunD K d_Program_pegs.name d_Program_pegs.qual d_Program_pegs.params d_Program_pegs.body d_Program_pegs.scope (d_Program_pegs.dvs K) (d_Program_pegs.kws K) (He.fAd K d_Program_pegs.at_) fd ∧
    FnG P w K mg base 1 (He.fAd K d_Program_pegs.at_) fd ["self"] (spD K mg 1 S_Program_pegs) := by
  have b_len := free_len T
  obtain ⟨_, i_GREATEST⟩ := int_GREATEST T
  obtain ⟨_, i_MOST_BOARD⟩ := int_MOST_BOARD T
  obtain ⟨_, i_MOST_BOXES⟩ := int_MOST_BOXES T
  obtain ⟨_, i_MOST_FIELDS⟩ := int_MOST_FIELDS T
  obtain ⟨_, i_MOST_HANDS⟩ := int_MOST_HANDS T
  obtain ⟨_, i_MOST_ROWS⟩ := int_MOST_ROWS T
  have I_Program : ∀ {X : Cx}, X.K = K → X.mg = mg → ClsI X "Program" (He.ga K "Program") := fun h1 h2 => ⟨by rw [h2]; exact gloc_Program T, by rw [h1]; exact cls_Program T⟩
  have N_Program_plan := noat_Program_plan T
  have N_Program_shared := noat_Program_shared T
  have N_Program_wide := noat_Program_wide T
  obtain ⟨fd, F⟩ := fun_Program_pegs T
  refine ⟨fd, F, fnG (N := N_Program_pegs) (ps := ["self"]) (k := 0) (g := m_Program_pegs) F ⟨rfl, rfl, rfl, by decide +kernel, rfl, by decide +kernel, by decide +kernel⟩ fun cdv A outer s H E C => ?_⟩
  exact (dss_one (ds_ret (de_add (de_mul (de_len rfl b_len (da_cons (de_fld (de_var (pv 0)) (cs := ["Program"]) fun c hc => by rw [List.mem_singleton.mp hc]; exact ⟨_, I_Program rfl rfl, N_Program_plan⟩) da_nil)) (de_fld (de_var (pv 0)) (cs := ["Program"]) fun c hc => by rw [List.mem_singleton.mp hc]; exact ⟨_, I_Program rfl rfl, N_Program_wide⟩)) (de_fld (de_var (pv 0)) (cs := ["Program"]) fun c hc => by rw [List.mem_singleton.mp hc]; exact ⟨_, I_Program rfl rfl, N_Program_shared⟩))))
theorem ok_law {P : Program} {w : World} {K : PySem.W.Frag} {mg : Str → Option Value} {base : Heap} (T : Txt w K mg) : ∃ fd, FunD K d_law.name d_law.qual d_law.params d_law.body d_law.scope (d_law.dvs K) (d_law.kws K) (He.fAd K d_law.at_) fd ∧
    FnG P w K mg base 7 (He.fAd K d_law.at_) fd ["_law_script"] (spD K mg 1 S_law) := by
  obtain ⟨fd_p_law_begin, D_p_law_begin, G_p_law_begin⟩ := ok_p_law_begin (P := P) (w := w) (base := base) T
  have m_p_law_begin := glo_p_law_begin T
  obtain ⟨fd_p_law_next, D_p_law_next, G_p_law_next⟩ := ok_p_law_next (P := P) (w := w) (base := base) T
  have m_p_law_next := glo_p_law_next T
  obtain ⟨fd_p_law_plan, D_p_law_plan, G_p_law_plan⟩ := ok_p_law_plan (P := P) (w := w) (base := base) T
  have m_p_law_plan := glo_p_law_plan T
  obtain ⟨fd_p_law_spoilt, D_p_law_spoilt, G_p_law_spoilt⟩ := ok_p_law_spoilt (P := P) (w := w) (base := base) T
  have m_p_law_spoilt := glo_p_law_spoilt T
  obtain ⟨fd_p_law_pick, D_p_law_pick, G_p_law_pick⟩ := ok_p_law_pick (P := P) (w := w) (base := base) T
  have m_p_law_pick := glo_p_law_pick T
  obtain ⟨fd_p_law_first_bad, D_p_law_first_bad, G_p_law_first_bad⟩ := ok_p_law_first_bad (P := P) (w := w) (base := base) T
  have m_p_law_first_bad := glo_p_law_first_bad T
  obtain ⟨fd_p_law_made, D_p_law_made, G_p_law_made⟩ := ok_p_law_made (P := P) (w := w) (base := base) T
  have m_p_law_made := glo_p_law_made T
  obtain ⟨fd_p_law_alike, D_p_law_alike, G_p_law_alike⟩ := ok_p_law_alike (P := P) (w := w) (base := base) T
  have m_p_law_alike := glo_p_law_alike T
  obtain ⟨fd_Program_hands_o, D_Program_hands_o, G_Program_hands_o⟩ := ok_Program_hands_o (P := P) (w := w) (base := base) T
  obtain ⟨fd_Program_boxes, D_Program_boxes, G_Program_boxes⟩ := ok_Program_boxes (P := P) (w := w) (base := base) T
  obtain ⟨fd_Program_board, D_Program_board, G_Program_board⟩ := ok_Program_board (P := P) (w := w) (base := base) T
  obtain ⟨fd_Program_pegs, D_Program_pegs, G_Program_pegs⟩ := ok_Program_pegs (P := P) (w := w) (base := base) T
  have b_len := free_len T
  have b_list := free_list T
  have b_max := free_max T
  have b_range := free_range T
  have b_tuple := free_tuple T
  obtain ⟨_, i_GREATEST⟩ := int_GREATEST T
  obtain ⟨_, i_MOST_BOARD⟩ := int_MOST_BOARD T
  obtain ⟨_, i_MOST_BOXES⟩ := int_MOST_BOXES T
  obtain ⟨_, i_MOST_FIELDS⟩ := int_MOST_FIELDS T
  obtain ⟨_, i_MOST_HANDS⟩ := int_MOST_HANDS T
  obtain ⟨_, i_MOST_ROWS⟩ := int_MOST_ROWS T
  have H_Program_board := meth_Program_board T
  have H_Program_boxes := meth_Program_boxes T
  have H_Program_hands := meth_Program_hands T
  have H_Program_pegs := meth_Program_pegs T
  have I_Program : ∀ {X : Cx}, X.K = K → X.mg = mg → ClsI X "Program" (He.ga K "Program") := fun h1 h2 => ⟨by rw [h2]; exact gloc_Program T, by rw [h1]; exact cls_Program T⟩
  obtain ⟨fd, F⟩ := fun_law T
  refine ⟨fd, F, fnG (N := N_law) (ps := ["_law_script"]) (k := 6) (g := m_law) F ⟨rfl, rfl, rfl, by decide +kernel, rfl, by decide +kernel, by decide +kernel⟩ fun cdv A outer s H E C => ?_⟩
  refine dss_cons (ds_set C (i := 1) rfl (by first | exact Or.inl rfl | exact Or.inr rfl) (de_callL (x := "_law_begin") G_p_law_begin callOk_share C rfl m_p_law_begin D_p_law_begin.kp (kb21 D_p_law_begin) (da_cons (de_var (pv 0)) da_nil) dkw_nil)) ?_
  refine dss_cons (ds_set C (i := 2) rfl (by first | exact Or.inl rfl | exact Or.inr rfl) (de_callL (x := "_law_next") G_p_law_next callOk_share C rfl m_p_law_next D_p_law_next.kp (kb4 D_p_law_next) (da_cons (de_var (pv 1)) (da_cons de_int da_nil)) dkw_nil)) ?_
  refine dss_cons (ds_par C rfl rfl (by decide) rfl rfl (da_cons (de_add de_int (de_callL (x := "_law_next") G_p_law_next callOk_share C rfl m_p_law_next D_p_law_next.kp (kb4 D_p_law_next) (da_cons (de_var (pv 1)) (da_cons de_int da_nil)) dkw_nil)) (da_cons (de_callL (x := "_law_next") G_p_law_next callOk_share C rfl m_p_law_next D_p_law_next.kp (kb4 D_p_law_next) (da_cons (de_var (pv 1)) (da_cons de_int da_nil)) dkw_nil) da_nil)) (by rfl)) ?_
  refine dss_cons (ds_set C (i := 5) rfl (by first | exact Or.inl rfl | exact Or.inr rfl) (de_callL (x := "_law_plan") G_p_law_plan callOk_share C rfl m_p_law_plan D_p_law_plan.kp (kb22 D_p_law_plan) (da_cons (de_var (pv 1)) (da_cons (de_var (pv 3)) (da_cons (de_var (pv 4)) da_nil))) dkw_nil)) ?_
  refine dss_cons (ds_for C (di_range1 rfl b_range (da_cons (de_max C rfl b_max (da_cons de_int (da_cons (de_sub (de_callL (x := "_law_next") G_p_law_next callOk_share C rfl m_p_law_next D_p_law_next.kp (kb4 D_p_law_next) (da_cons (de_var (pv 1)) (da_cons de_int da_nil)) dkw_nil) de_int) da_nil))) da_nil)) (dg_name (i := 6) (pg_name C.nd rfl (by first | exact Or.inl rfl | exact Or.inr rfl))) (dss_one (ds_set C (i := 5) rfl (by first | exact Or.inl rfl | exact Or.inr rfl) (de_callL (x := "_law_spoilt") G_p_law_spoilt callOk_share C rfl m_p_law_spoilt D_p_law_spoilt.kp (kb23 D_p_law_spoilt) (da_cons (de_var (pv 1)) (da_cons (de_var (pv 5)) (da_cons (de_var (pv 3)) (da_cons (de_var (pv 4)) da_nil)))) dkw_nil)))) ?_
  refine dss_cons ?_ ?_
  · refine ds_if (dt_cmp (opr_eq C) opd_eq (de_var (pv 2)) de_int (nomark _)) ?_ ?_
    · exact (dss_one (ds_set C (i := 3) rfl (by first | exact Or.inl rfl | exact Or.inr rfl) (de_callL (x := "_law_pick") G_p_law_pick callOk_share C rfl m_p_law_pick D_p_law_pick.kp (kb7 D_p_law_pick) (da_cons (de_var (pv 1)) (da_cons (de_lst (da_cons de_int (da_cons de_int (da_cons de_bl (da_cons de_non (da_cons de_str (da_cons (de_neg de_int) da_nil))))))) da_nil)) dkw_nil)))
    · refine dss_one ?_
      refine ds_if (dt_cmp (opr_eq C) opd_eq (de_var (pv 2)) de_int (nomark _)) ?_ ?_
      · exact (dss_one (ds_set C (i := 4) rfl (by first | exact Or.inl rfl | exact Or.inr rfl) (de_callL (x := "_law_pick") G_p_law_pick callOk_share C rfl m_p_law_pick D_p_law_pick.kp (kb7 D_p_law_pick) (da_cons (de_var (pv 1)) (da_cons (de_lst (da_cons (de_neg de_int) (da_cons de_int (da_cons de_bl (da_cons de_non (da_cons de_str (da_cons (de_lst (da_cons de_int da_nil)) da_nil))))))) da_nil)) dkw_nil)))
      · exact (dss_one (ds_if (dt_cmp (opr_eq C) opd_eq (de_var (pv 2)) de_int (nomark _)) (dss_one (ds_set C (i := 5) rfl (by first | exact Or.inl rfl | exact Or.inr rfl) (de_callL (x := "_law_pick") G_p_law_pick callOk_share C rfl m_p_law_pick D_p_law_pick.kp (kb7 D_p_law_pick) (da_cons (de_var (pv 1)) (da_cons (de_lst (da_cons (de_lst da_nil) (da_cons de_non (da_cons de_str (da_cons (de_repL (de_var (pv 5)) de_int) (da_cons de_dict0 (da_cons (de_lst (da_cons (de_sub1 C (de_var (pv 5)) de_int) (da_cons de_non da_nil))) (da_cons (de_lst (da_cons (de_sub1 C (de_var (pv 5)) de_int) (da_cons de_str da_nil))) (da_cons (de_lst (da_cons de_str (da_cons (de_sub1 C (de_var (pv 5)) de_int) da_nil))) da_nil))))))))) da_nil)) dkw_nil))) dss_nil))
  refine dss_cons (ds_set C (i := 7) rfl (by first | exact Or.inl rfl | exact Or.inr rfl) (de_callL (x := "_law_first_bad") G_p_law_first_bad callOk_sub C rfl m_p_law_first_bad D_p_law_first_bad.kp (kb24 D_p_law_first_bad) (da_cons (de_frzD 60 (de_var (pv 5))) (da_cons (de_var (pv 3)) (da_cons (de_var (pv 4)) da_nil))) dkw_nil)) ?_
  refine dss_cons (ds_set C (i := 8) rfl (by first | exact Or.inl rfl | exact Or.inr rfl) (de_callL (x := "_law_next") G_p_law_next callOk_share C rfl m_p_law_next D_p_law_next.kp (kb4 D_p_law_next) (da_cons (de_var (pv 1)) (da_cons de_int da_nil)) dkw_nil)) ?_
  refine dss_cons (ds_set C (i := 9) rfl (by first | exact Or.inl rfl | exact Or.inr rfl) (de_var (pv 5))) ?_
  refine dss_cons (ds_if (dt_cmp op_isN opd_is (de_var (pv 7)) de_non (nomark _)) (dss_one (ds_setLcB C finO_ok (i := 9) rfl rfl (sw_true rfl rfl rfl (by decide +kernel)) (di_seq (de_var (pv 5))) (show BlkOk N_law (defScope s_law) _ [("_law_rows", 14)] from ⟨rfl, by decide +kernel, by decide +kernel, by decide +kernel, by decide +kernel⟩) (fun _ _ _ _ _ C1 => (dg_name (i := 14) (pg_name C1.nd rfl (by first | exact Or.inl rfl | exact Or.inr rfl)))) (fun _ _ _ _ _ C1 => dts_nil) (fun _ _ _ _ _ C1 => (de_ifExp (dt_cmp (opr_eq C1) opd_eq (de_mod (de_var (pv 8)) de_int) de_int (nomark _)) (de_tuple rfl b_tuple (da_cons (de_var (pv 14)) da_nil)) (de_listO C1 rfl b_list (da_cons (de_var (pv 14)) da_nil)))))) dss_nil) ?_
  refine dss_cons (ds_if (DW.dt (dw_and (dt_cmp op_isN opd_is (de_var (pv 7)) de_non (nomark _)) (dw_and1 (dt_cmp op_gt opd_gt (de_var (pv 8)) de_int (nomark _))))) (dss_one (ds_set C (i := 9) rfl (by first | exact Or.inl rfl | exact Or.inr rfl) (de_tuple rfl b_tuple (da_cons (de_var (pv 9)) da_nil)))) dss_nil) ?_
  refine dss_cons (ds_asg (de_callL (x := "_law_made") G_p_law_made callOk_share C rfl m_p_law_made D_p_law_made.kp (kb25 D_p_law_made) (da_cons (de_var (pv 9)) (da_cons (de_var (pv 3)) (da_cons (de_var (pv 4)) da_nil))) dkw_nil) (dg_tup C.calm (dgs_cons (dg_name (i := 10) (pg_name C.nd rfl (by first | exact Or.inl rfl | exact Or.inr rfl))) (dgs_cons (dg_name (i := 11) (pg_name C.nd rfl (by first | exact Or.inl rfl | exact Or.inr rfl))) dgs_nil)))) ?_
  refine dss_cons (ds_if (DW.dt (dw_or (dt_cmp op_notN opd_isnot (de_var (pv 7)) de_non (nomark _)) (dw_or1 (dt_cmp op_isN opd_is (de_var (pv 10)) de_non (nomark _))))) (dss_one (ds_ret (de_callL (x := "_law_alike") G_p_law_alike callOk_share C rfl m_p_law_alike D_p_law_alike.kp (kb26 D_p_law_alike) (da_cons (de_var (pv 11)) (da_cons (de_var (pv 7)) da_nil)) dkw_nil))) dss_nil) ?_
  refine dss_cons (ds_if (dt_cmp (opr_eq C) opd_eq (de_var (pv 8)) de_int (nomark _)) (dss_one (ds_expr (de_append (de_var (pv 9)) (da_cons (de_lst (da_cons (de_tup (da_cons de_str da_nil)) da_nil)) da_nil)))) dss_nil) ?_
  refine dss_cons (ds_if (dt_cmp (opr_eq C) opd_eq (de_mod (de_var (pv 8)) de_int) de_int (nomark _)) (dss_one (ds_expr (de_append (de_sub1 C (de_var (pv 9)) de_int) (da_cons (de_tup (da_cons de_str da_nil)) da_nil)))) dss_nil) ?_
  refine dss_cons ?_ ?_
  · refine ds_for C (di_range1 rfl b_range (da_cons de_int da_nil)) (dg_name (i := 12) (pg_name C.nd rfl (by first | exact Or.inl rfl | exact Or.inr rfl))) ?_
    refine dss_cons (ds_set C (i := 13) rfl (by first | exact Or.inl rfl | exact Or.inr rfl) (de_meth0L (de_var (pv 10)) (I_Program rfl rfl) H_Program_hands G_Program_hands_o callOk_share C (kb27 D_Program_hands_o) dkw_nil)) ?_
    refine dss_cons ?_ ?_
    · refine ds_if (dt_not (dt_val (de_callL (x := "_law_alike") G_p_law_alike callOk_share C rfl m_p_law_alike D_p_law_alike.kp (kb26 D_p_law_alike) (da_cons (de_lst (da_cons (de_var (pv 13)) (da_cons (de_meth0L (de_var (pv 10)) (I_Program rfl rfl) H_Program_boxes G_Program_boxes callOk_sub C (kb28 D_Program_boxes) dkw_nil) (da_cons (de_meth0L (de_var (pv 10)) (I_Program rfl rfl) H_Program_board G_Program_board callOk_sub C (kb29 D_Program_board) dkw_nil) da_nil)))) (da_cons (de_lst (da_cons (de_lcB C finL_ok (di_seq (de_var (pv 5))) (show BlkOk N_law (defScope s_law) _ [("_law_rows", 14)] from ⟨rfl, by decide +kernel, by decide +kernel, by decide +kernel, by decide +kernel⟩) (fun _ _ _ _ _ C1 => (dg_name (i := 14) (pg_name C1.nd rfl (by first | exact Or.inl rfl | exact Or.inr rfl)))) (fun _ _ _ _ _ C1 => dts_nil) (fun _ _ _ _ _ C1 => (de_list C1 rfl b_list (da_cons (de_var (pv 14)) da_nil)))) (da_cons (de_var (pv 3)) (da_cons (de_var (pv 4)) da_nil)))) da_nil)) dkw_nil))) ?_ ?_
      · exact (dss_one (ds_ret de_bl))
      · exact dss_nil
    exact (dss_one (ds_expr (de_append (de_sub1 C (de_var (pv 13)) de_int) (da_cons (de_tup (da_cons de_str da_nil)) da_nil))))
  exact (dss_one (ds_ret (de_callL (x := "_law_alike") G_p_law_alike callOk_share C rfl m_p_law_alike D_p_law_alike.kp (kb26 D_p_law_alike) (da_cons (de_meth0L (de_var (pv 10)) (I_Program rfl rfl) H_Program_pegs G_Program_pegs callOk_sub C (kb30 D_Program_pegs) dkw_nil) (da_cons (de_add (de_mul (de_len rfl b_len (da_cons (de_var (pv 5)) da_nil)) (de_var (pv 3))) (de_var (pv 4))) da_nil)) dkw_nil)))
end K03

/-! Plain laws, part 1: what mirrors come to. -/
namespace DL
open PySem L2

/-! ### calls -/
theorem subArgs_pure {S : Store} : ∀ (ds : List D) (n : Nat), pureL ds = true → subArgs S ds n = some (ds, [])
  | [], _, _ => rfl
  | d :: ds, n, h => by
    unfold pureL at h
    rw [Bool.and_eq_true] at h
    have q := subArgs_pure (S := S) ds n h.2
    cases d with
    | oid k => exact absurd h.1 (by unfold D.pure; exact Bool.false_ne_true)
    | _ =>
      unfold subArgs
      rw [if_pos h.1, q]
      rfl
theorem callSub_ok {sem : Sem'} {args : List D} {d : D} {S S' : Store} (hp : pureL args = true) (h : sem args [] = .ok d S') (hd : d.pure = true) : callSub sem args S = .ok d S := by
  unfold callSub
  rw [subArgs_pure args 0 hp]
  simp only [List.nodup_nil, if_true, subOf, List.map_nil, h, hd, List.length_nil, List.take_zero, List.all_nil, Nat.zero_le, decide_true, Bool.and_true, Bool.and_self]
  rw [show putBack S [] S' = S by unfold putBack; rfl]
/-! ### loops -/
theorem loopF_nil {m : FG} {b : FS} {ρ : EnvD} {S : Store} : loopF none m b [] ρ S = .nx ρ S := by
  unfold loopF
  rw [if_pos (show okC none _ from trivial)]
theorem loopF_cons {m : FG} {b : FS} {d : D} {ds : List D} {ρ ρ1 : EnvD} {S : Store} (hm : m d ρ S = some ρ1) : loopF none m b (d :: ds) ρ S = (match b ρ1 S with
    | .nx ρ S => loopF none m b ds ρ S
    | .ct ρ S => loopF none m b ds ρ S
    | .bk ρ S => .nx ρ S
    | o => o) := by
  rw [loopF]
  rw [if_pos (show okC none _ from trivial), hm]
  all_goals rfl
theorem loopC_nil {d : D} {es : List D} {m : FG} {b : FS} {ρ : EnvD} {S : Store} (h : asL S d = some es) : loopF (some (d, es)) m b [] ρ S = .nx ρ S := by
  unfold loopF
  rw [if_pos (show okC (some (d, es)) _ from h)]
/-- a loop by its invariant -/
theorem loop_inv {m : FG} {b : FS} (I : Nat → EnvD → Store → Prop) : ∀ (ds : List D) (i : Nat) (ρ : EnvD) (S : Store), I i ρ S →
    (∀ j d ρ S, ds[j]? = some d → I (i + j) ρ S → ∃ ρ1 ρ2 S2, m d ρ S = some ρ1 ∧ (b ρ1 S = .nx ρ2 S2 ∨ b ρ1 S = .ct ρ2 S2) ∧ I (i + j + 1) ρ2 S2) → ∃ ρ' S', loopF none m b ds ρ S = .nx ρ' S' ∧ I (i + ds.length) ρ' S'
  | [], i, ρ, S, h0, _ => ⟨ρ, S, loopF_nil, h0⟩
  | d :: ds, i, ρ, S, h0, step => by
    obtain ⟨ρ1, ρ2, S2, h1, h2, h3⟩ := step 0 d ρ S rfl h0
    obtain ⟨ρ', S', q1, q2⟩ := loop_inv I ds (i + 1) ρ2 S2 h3 fun j e ρ S hj hI => by
      have := step (j + 1) e ρ S hj (by rw [show i + (j + 1) = i + 1 + j by omega]; exact hI)
      rw [show i + (j + 1) = i + 1 + j by omega] at this
      exact this
    refine ⟨ρ', S', ?_, by rw [List.length_cons, show i + (ds.length + 1) = i + 1 + ds.length by omega]; exact q2⟩
    rw [loopF_cons h1]
    rcases h2 with h2 | h2 <;> (rw [h2]; exact q1)
/-! ### comprehensions -/
theorem compF_nil {m : FG} {ft : FT} {fe : FE} {ρ : EnvD} {S : Store} : compF none m ft fe [] ρ S = .ok [] S := by
  unfold compF
  rw [if_pos (show okC none _ from trivial)]
theorem compF_cons {m : FG} {ft : FT} {fe : FE} {d : D} {ds : List D} {ρ ρ1 : EnvD} {S : Store} (hm : m d ρ S = some ρ1) :
    compF none m ft fe (d :: ds) ρ S = (ft ρ1 S).noEx.bind fun b S => if b then (fe ρ1 S).noEx.bind fun y S => (compF none m ft fe ds ρ S).bind fun ys S => .ok (y :: ys) S else compF none m ft fe ds ρ S := by
  rw [compF]
  rw [if_pos (show okC none _ from trivial), hm]
/-- no test, the store stays -/
theorem comp_map {m : FG} {fe : FE} {f : D → D} {ρ : EnvD} {S : Store} : ∀ (ds : List D), (∀ d ∈ ds, ∃ ρ1, m d ρ S = some ρ1 ∧ fe ρ1 S = .ok (f d) S) → compF none m fYes fe ds ρ S = .ok (ds.map f) S
  | [], _ => compF_nil
  | d :: ds, h => by
    obtain ⟨ρ1, h1, h2⟩ := h d List.mem_cons_self
    rw [compF_cons h1]
    have q := comp_map (m := m) (fe := fe) (f := f) (ρ := ρ) (S := S) ds fun e he => h e (List.mem_cons_of_mem _ he)
    simp only [fYes, Res.noEx_ok, Res.bind_ok, if_true, h2, q, List.map_cons]
/-- with a test, the store stays -/
theorem comp_filter {m : FG} {ft : FT} {fe : FE} {f : D → D} {p : D → Bool} {ρ : EnvD} {S : Store} : ∀ (ds : List D), (∀ d ∈ ds, ∃ ρ1, m d ρ S = some ρ1 ∧ ft ρ1 S = .ok (p d) S ∧ (p d = true → fe ρ1 S = .ok (f d) S)) → compF none m ft fe ds ρ S = .ok ((ds.filter p).map f) S
  | [], _ => compF_nil
  | d :: ds, h => by
    obtain ⟨ρ1, h1, h2, h3⟩ := h d List.mem_cons_self
    rw [compF_cons h1]
    have q := comp_filter (m := m) (ft := ft) (fe := fe) (f := f) (p := p) (ρ := ρ) (S := S) ds fun e he => h e (List.mem_cons_of_mem _ he)
    cases hp : p d with
    | true => simp [h2, hp, h3 hp, q, List.filter_cons]
    | false => simp [h2, hp, q, List.filter_cons]
/-- no test, the store goes on -/
theorem comp_inv {m : FG} {fe : FE} {ρ : EnvD} (I : Store → Prop) (A : D → Prop) : ∀ (ds : List D) (S : Store), I S → (∀ d ∈ ds, ∀ S, I S → ∃ ρ1 y S', m d ρ S = some ρ1 ∧ fe ρ1 S = .ok y S' ∧ A y ∧ I S') →
    ∃ ys S', compF none m fYes fe ds ρ S = .ok ys S' ∧ ys.length = ds.length ∧ (∀ y ∈ ys, A y) ∧ I S'
  | [], S, h0, _ => ⟨[], S, compF_nil, rfl, fun y hy => by simp at hy, h0⟩
  | d :: ds, S, h0, h => by
    obtain ⟨ρ1, y, S1, h1, h2, h3, h4⟩ := h d List.mem_cons_self S h0
    obtain ⟨ys, S', q1, q2, q3, q4⟩ := comp_inv (m := m) (fe := fe) (ρ := ρ) I A ds S1 h4 fun e he => h e (List.mem_cons_of_mem _ he)
    refine ⟨y :: ys, S', ?_, by simp [q2], fun z hz => ?_, q4⟩
    · rw [compF_cons h1]
      simp only [fYes, Res.noEx_ok, Res.bind_ok, if_true, h2, q1]
    · rcases List.mem_cons.mp hz with e | e
      · rw [e]; exact h3
      · exact q3 z e
theorem rng_length {lo hi : Int} : (rng lo hi).length = (hi - lo).toNat := by simp [rng]
theorem rng_get {lo hi : Int} {j : Nat} {d : D} (h : (rng lo hi)[j]? = some d) : d = .int (lo + j) ∧ j < (hi - lo).toNat := by
  unfold rng at h
  rw [List.getElem?_map] at h
  by_cases hj : j < (hi - lo).toNat
  · rw [List.getElem?_range hj] at h
    cases h
    exact ⟨rfl, hj⟩
  · rw [List.getElem?_eq_none (by simpa using hj)] at h
    cases h
theorem pureL_all {xs : List D} : pureL xs = true ↔ ∀ x ∈ xs, x.pure = true := by
  induction xs with
  | nil => simp [pureL]
  | cons x xs ih => simp [pureL, ih]
end DL

/-! Plain laws, part 2: the mirrors' equations, for simp. -/
namespace DL
open PySem L2
section
variable (ρ : EnvD) (S : Store) (fa fb fc fe : FE) (ta tb : FT) (g g' : FS) (x y : D)
@[simp] theorem e_semOf (n : Nat) (ds : List D) : semOf n g ds S = (g (startD n ds) S).res := rfl
@[simp] theorem e_startD (n : Nat) (ds : List D) : startD n ds = ds.map some ++ List.replicate (n - ds.length) none := rfl
@[simp] theorem e_gSeq : gSeq g g' ρ S = (g ρ S).seq g' := rfl
@[simp] theorem e_gNil : gNil ρ S = .nx ρ S := rfl
@[simp] theorem e_gRet : gRet fe ρ S = (fe ρ S).into ρ fun d S => .rt d S := rfl
@[simp] theorem e_gIf : gIf ta g g' ρ S = (ta ρ S).into ρ fun k S => if k then g ρ S else g' ρ S := rfl
@[simp] theorem e_gSet (i : Nat) : gSet i fe ρ S = (fe ρ S).into ρ fun d S => .nx (ρ.set i (some d)) S := rfl
@[simp] theorem e_gExpr : gExpr fe ρ S = (fe ρ S).into ρ fun _ S => .nx ρ S := rfl
@[simp] theorem e_gAsg (m : FG) : gAsg m fe ρ S = (fe ρ S).into ρ fun d S => match m d ρ S with | some ρ => .nx ρ S | none => .stuck := rfl
@[simp] theorem e_gPut : gPut fa fb fe ρ S = (fe ρ S).into ρ fun d S => (fa ρ S).into ρ fun x S => (fb ρ S).into ρ fun y S => match storeAt x y d S with | some S => .nx ρ S | none => .stuck := rfl
@[simp] theorem e_gStar (i j : Nat) : gStar i j fe ρ S = (fe ρ S).into ρ fun d S => match asL S d with | some (x :: xs) => .nx ((ρ.set i (some x)).set j (some (.oid S.length))) (S ++ [.lst xs]) | _ => .stuck := rfl
@[simp] theorem e_gFor (fi : FI) (m : FG) : gFor fi m g ρ S = (fi ρ S).into ρ fun it S => loopF it.chk m g it.items ρ S := rfl
@[simp] theorem e_gFld (cs : List Str) (f : Str) : gFld cs f fa fe ρ S = (fe ρ S).into ρ fun d S => (fa ρ S).into ρ fun o S => match o with
  | .oid n => (match S[n]? with
    | some (.ins c fs) => if c ∈ cs ∧ fs.length < 1000 then .nx ρ (S.set n (.ins c (putFD f d fs))) else .stuck
    | _ => .stuck)
  | _ => .stuck := rfl
@[simp] theorem e_res_nx : (Out.nx ρ S).res = .ok .non S := rfl
@[simp] theorem e_res_rt : (Out.rt x S).res = .ok x S := rfl
@[simp] theorem e_res_ex (C fs) : (Out.ex C fs ρ S).res = .ex C fs S := rfl
@[simp] theorem e_fVar (i : Nat) : fVar i ρ S = match ρ[i]? with | some (some d) => .ok d S | _ => .stuck := rfl
@[simp] theorem e_fC : fC x ρ S = .ok x S := rfl
@[simp] theorem e_fAndV : fAndV fa fb ρ S = (fa ρ S).bind fun d S => match d with | .bl true => fb ρ S | .bl false => .ok (.bl false) S | _ => .stuck := rfl
@[simp] theorem e_fOrV : fOrV fa fb ρ S = (fa ρ S).bind fun d S => match d with | .bl true => .ok (.bl true) S | .bl false => fb ρ S | _ => .stuck := rfl
@[simp] theorem e_fNotV : fNotV fa ρ S = (fa ρ S).bind fun d S => match d with | .bl k => .ok (.bl (!k)) S | _ => .stuck := rfl
@[simp] theorem e_fAndT : fAndT ta tb ρ S = (ta ρ S).bind fun k S => if k then tb ρ S else .ok false S := rfl
@[simp] theorem e_fOrT : fOrT ta tb ρ S = (ta ρ S).bind fun k S => if k then .ok true S else tb ρ S := rfl
@[simp] theorem e_fNotT : fNotT ta ρ S = (ta ρ S).bind fun k S => .ok (!k) S := rfl
@[simp] theorem e_toB : toB fa ρ S = (fa ρ S).bind fun d S => match d with | .bl k => .ok k S | _ => .stuck := rfl
@[simp] theorem e_fIf : fIf ta fa fb ρ S = (ta ρ S).bind fun k S => if k then fa ρ S else fb ρ S := rfl
@[simp] theorem e_fCons (fr : FA) : fCons fa fr ρ S = (fa ρ S).bind fun x S => (fr ρ S).bind fun xs S => .ok (x :: xs) S := rfl
@[simp] theorem e_fTup (fr : FA) : fTup fr ρ S = (fr ρ S).bind fun xs S => if short xs.length then .ok (.tup xs) S else .stuck := rfl
@[simp] theorem e_fLst (fr : FA) : fLst fr ρ S = (fr ρ S).bind fun xs S => if short xs.length then .ok (.lst xs) S else .stuck := rfl
@[simp] theorem e_fLstO (fr : FA) : fLstO fr ρ S = (fr ρ S).bind fun xs S => if short xs.length then .ok (.oid S.length) (S ++ [.lst xs]) else .stuck := rfl
@[simp] theorem e_fDict0 : fDict0 ρ S = .ok (.oid S.length) (S ++ [.dic []]) := rfl
@[simp] theorem e_fBin (h : G2) : fBin h fa fb ρ S = (fa ρ S).bind fun x S => (fb ρ S).bind fun y S => h x y S := rfl
@[simp] theorem e_fUn (h : D → Store → Res D) : fUn h fa ρ S = (fa ρ S).bind h := rfl
@[simp] theorem e_fChain (h h' : G2) : fChain h h' fa fb fc ρ S = (fa ρ S).bind fun x S => (fb ρ S).bind fun y S => (h x y S).bind fun z S => match z with
  | .bl true => (fc ρ S).bind fun u S => h' y u S
  | .bl false => .ok (.bl false) S
  | _ => .stuck := rfl
@[simp] theorem e_fCB (h : GC) (fr : FA) : fCB h fr ρ S = (fr ρ S).bind h := rfl
@[simp] theorem e_fBM (T : String) (h : GM) (fr : FA) : fBM T h fa fr ρ S = (fa ρ S).bind fun x S => if tyS S x = some T ∧ T ≠ "tuple" then (fr ρ S).bind fun ds S => h x ds S else .stuck := rfl
@[simp] theorem e_fCall (cs : Sem') (gD : List D → List D → List D) (np nk n : Nat) (fr fk : FA) : fCall cs gD np nk n fr fk ρ S = (fr ρ S).bind fun ds S => (fk ρ S).bind fun es S => if ds.length = np ∧ es.length = nk ∧ (gD ds es).length = n then cs (gD ds es) S else .stuck := rfl
@[simp] theorem e_fMeth (cs : Sem') (gD : List D → List D → List D) (c m : Str) (np nk n : Nat) (fr fk : FA) : fMeth cs gD c m np nk n fa fr fk ρ S = (fa ρ S).bind fun o S => match asI S o with
  | some (c', fs) => if c' = c ∧ (fs.lookup m).isNone then (fr ρ S).bind fun ds S => (fk ρ S).bind fun es S => if (o :: ds).length = np ∧ es.length = nk ∧ (gD (o :: ds) es).length = n then cs (gD (o :: ds) es) S else .stuck else .stuck
  | none => .stuck := rfl
@[simp] theorem e_fFld (cs : List Str) (f : Str) : fFld cs f fa ρ S = (fa ρ S).bind fun o S => match asI S o with
  | some (c, fs) => if c ∈ cs then (match fs.lookup f with | some d => .ok d S | none => .stuck) else .stuck
  | none => .stuck := rfl
@[simp] theorem e_fMake (mk : MakeT) (np nk : Nat) (fr fk : FA) : fMake mk np nk fr fk ρ S = (fr ρ S).bind fun ds S => (fk ρ S).bind fun es S => if ds.length = np ∧ es.length = nk then mk ds es S else .stuck := rfl
@[simp] theorem e_fSeq_tup (ds : List D) (h : fa ρ S = .ok (.tup ds) S) : fSeq fa ρ S = .ok ⟨ds, none⟩ S := by unfold fSeq; rw [h]; rfl
@[simp] theorem e_fSeq_lst (ds : List D) (h : fa ρ S = .ok (.lst ds) S) : fSeq fa ρ S = .ok ⟨ds, none⟩ S := by unfold fSeq; rw [h]; rfl
@[simp] theorem e_pick (sel : List (Nat × Nat)) (us ws ms : List D) : pick sel us ws ms = sel.filterMap fun s => (src s.1 us ws ms)[s.2]? := rfl
@[simp] theorem e_src0 {α : Type} (us ws ms : List α) : src 0 us ws ms = us := rfl
@[simp] theorem e_src1 {α : Type} (us ws ms : List α) : src 1 us ws ms = ws := rfl
@[simp] theorem e_src2 {α : Type} (us ws ms : List α) : src 2 us ws ms = ms := rfl
@[simp] theorem e_mName (i : Nat) : mName i x ρ S = some (ρ.set i (some x)) := rfl
@[simp] theorem e_mTup (n : Nat) (ms : List D → EnvD → Store → Option EnvD) (ds : List D) : mTup n ms (.tup ds) ρ S = if ds.length = n then ms ds ρ S else none := rfl
@[simp] theorem e_mCons (m : FG) (ms : List D → EnvD → Store → Option EnvD) (d : D) (ds : List D) : mCons m ms (d :: ds) ρ S = (m d ρ S).bind fun ρ => ms ds ρ S := rfl
@[simp] theorem e_isi1 (n : String) : gIsi [x, .ty n] S = gIsi1 [x, .ty n] S := rfl
@[simp] theorem e_isiN (cs : List D) : gIsi [x, .tup cs] S = gIsiN [x, .tup cs] S := rfl
@[simp] theorem e_gIsi1 (n : String) : gIsi1 [x, .ty n] S = match (tyS S x).bind fun T => isiT T n with | some b => .ok (.bl b) S | none => .stuck := rfl
@[simp] theorem e_gIsiN (cs : List D) : gIsiN [x, .tup cs] S = match (tyS S x).bind fun T => (tysOf cs).bind fun ns => isiA T ns with | some b => .ok (.bl b) S | none => .stuck := rfl
@[simp] theorem e_ty_non : tyS S .non = some "NoneType" := rfl
@[simp] theorem e_ty_bl (b) : tyS S (.bl b) = some "bool" := rfl
@[simp] theorem e_ty_int (b) : tyS S (.int b) = some "int" := rfl
@[simp] theorem e_ty_str (b) : tyS S (.str b) = some "str" := rfl
@[simp] theorem e_ty_tup (b) : tyS S (.tup b) = some "tuple" := rfl
@[simp] theorem e_ty_lst (b) : tyS S (.lst b) = some "list" := rfl
variable (i j : Int) (a b : Bool) (xs ys : List D) (p q : Str)
@[simp] theorem e_gNeg : gNeg (.int i) S = .ok (.int (-i)) S := rfl
@[simp] theorem e_gSub : gSub (.int i) (.int j) S = .ok (.int (i - j)) S := rfl
@[simp] theorem e_gAdd : gAdd (.int i) (.int j) S = .ok (.int (i + j)) S := rfl
@[simp] theorem e_gMul (h : cMul i j = true) : gMul (.int i) (.int j) S = .ok (.int (i * j)) S := by simp [gMul, gI, h]
@[simp] theorem e_gMod (h : 0 < j) : gMod (.int i) (.int j) S = .ok (.int (i % j)) S := by simp [gMod, gI, h]
@[simp] theorem e_gDiv (h : 0 < j) (h2 : j < 1073741824) : gDiv (.int i) (.int j) S = .ok (.int (i / j)) S := by simp [gDiv, gI, cDiv, h, h2]
@[simp] theorem e_gLt : gLt (.int i) (.int j) S = .ok (.bl (decide (i < j))) S := rfl
@[simp] theorem e_gLe : gLe (.int i) (.int j) S = .ok (.bl (decide (i ≤ j))) S := rfl
@[simp] theorem e_gGt : gGt (.int i) (.int j) S = .ok (.bl (decide (j < i))) S := rfl
@[simp] theorem e_gGe : gGe (.int i) (.int j) S = .ok (.bl (decide (j ≤ i))) S := rfl
@[simp] theorem e_gIs : gIs x .non S = .ok (.bl x.isNon) S := rfl
@[simp] theorem e_gIsNot : gIsNot x .non S = .ok (.bl (!x.isNon)) S := rfl
@[simp] theorem e_nn : D.non.isNon = true := rfl
@[simp] theorem e_ni : (D.int i).isNon = false := rfl
@[simp] theorem e_ns : (D.str p).isNon = false := rfl
@[simp] theorem e_nt : (D.tup xs).isNon = false := rfl
@[simp] theorem e_nb : (D.bl a).isNon = false := rfl
@[simp] theorem e_nl : (D.lst xs).isNon = false := rfl
@[simp] theorem e_eq_ss : gEq (.str p) (.str q) S = .ok (.bl (decide (p = q))) S := rfl
@[simp] theorem e_eq_ii : gEq (.int i) (.int j) S = .ok (.bl (decide (i = j))) S := rfl
@[simp] theorem e_ne_ss : gNe (.str p) (.str q) S = .ok (.bl (!decide (p = q))) S := rfl
@[simp] theorem e_ne_ii : gNe (.int i) (.int j) S = .ok (.bl (!decide (i = j))) S := rfl
@[simp] theorem e_len_t : gLen [.tup xs] S = .ok (.int xs.length) S := rfl
@[simp] theorem e_len_l : gLen [.lst xs] S = .ok (.int xs.length) S := rfl
@[simp] theorem e_len_s : gLen [.scr xs] S = .ok (.int xs.length) S := rfl
@[simp] theorem e_ix_t : gIx (.tup xs) (.int i) S = match atI xs i with | some d => .ok d S | none => .stuck := rfl
@[simp] theorem e_ix_l : gIx (.lst xs) (.int i) S = match atI xs i with | some d => .ok d S | none => .stuck := rfl
@[simp] theorem e_ix_s : gIx (.scr xs) (.int i) S = match atI xs i with | some d => .ok d S | none => .stuck := rfl
@[simp] theorem e_asL_l : asL S (.lst xs) = some xs := rfl
@[simp] theorem e_asL_s : asL S (.scr xs) = some xs := rfl
@[simp] theorem e_asQ_t : asQ S (.tup xs) = some xs := rfl
@[simp] theorem e_asQ_l : asQ S (.lst xs) = some xs := rfl
@[simp] theorem e_list_l : gList [.lst xs] S = .ok (.lst xs) S := rfl
@[simp] theorem e_list_t : gList [.tup xs] S = .ok (.lst xs) S := rfl
@[simp] theorem e_list_d (ks : List (Key × D)) : gList [.dic ks] S = .ok (.lst (ks.map fun q => keyV q.1)) S := rfl
@[simp] theorem e_tuple_l : gTuple [.lst xs] S = .ok (.tup xs) S := rfl
@[simp] theorem e_lenum_t : gLEnum [.tup xs] S = .ok (.lst (enumD 0 xs)) S := rfl
@[simp] theorem e_lenum_l : gLEnum [.lst xs] S = .ok (.lst (enumD 0 xs)) S := rfl
@[simp] theorem e_max2 : gMax [.int i, .int j] S = .ok (.int (if j > i then j else i)) S := rfl
@[simp] theorem e_min2 : gMin [.int i, .int j] S = .ok (.int (if j < i then j else i)) S := rfl
@[simp] theorem e_abs : gAbs [.int i] S = .ok (.int (if i < 0 then -i else i)) S := rfl
theorem at_nat {α : Type} (zs : List α) (n : Nat) (h : n < zs.length) : atI zs (n : Int) = zs[n]? := by
  have h2 : (n : Int) < zs.length := by omega
  simp [atI, ixN, h2]
@[simp] theorem e_at_c0 {α : Type} (z : α) (zs : List α) : atI (z :: zs) 0 = some z := by
  have := at_nat (z :: zs) 0 (by simp)
  exact this
@[simp] theorem e_at_c1 {α : Type} (z y : α) (zs : List α) : atI (z :: y :: zs) 1 = some y := by
  have := at_nat (z :: y :: zs) 1 (by simp)
  exact this
@[simp] theorem e_fComp (fi : FI) (m : FG) (own : List Nat) (fin : Fin') : fComp fi m ta fe own fin ρ S = (fi ρ S).bind fun it S => (compF it.chk m ta fe it.items (wipeD ρ own) S).bind fin := rfl
@[simp] theorem e_wipe0 : wipeD ρ [] = ρ := rfl
@[simp] theorem e_wipe1 (v : Nat) (vs : List Nat) : wipeD ρ (v :: vs) = (wipeD ρ vs).set v none := rfl
@[simp] theorem e_finL : finL xs S = if short xs.length then .ok (.lst xs) S else .stuck := rfl
@[simp] theorem e_fRng1 (fr : FA) : fRng1 fr ρ S = (fr ρ S).bind fun ds S => match ds with
  | [.int j] => if cRng j then .ok ⟨rng 0 j, none⟩ S else .stuck
  | _ => .stuck := rfl
theorem e_all_true {α : Type} (l : List α) : gAllAny true [.lst (l.map fun _ => D.bl true)] S = .ok (.bl true) S := by
  have h : bsOf (l.map fun _ => D.bl true) = some (l.map fun _ => true) := by
    induction l with
    | nil => rfl
    | cons z l ih => simp [bsOf, ih]
  simp [gAllAny, h]
@[simp] theorem e_all_true2 {α β : Type} (l : List α) (f : α → β) : gAllAny true [.lst (l.map ((fun _ => D.bl true) ∘ f))] S = .ok (.bl true) S := e_all_true S l
@[simp] theorem e_in_tup : gNotIn x (.tup ys) S = gInQ true x (.tup ys) S := rfl
@[simp] theorem e_in_tup2 : gIn x (.tup ys) S = gInQ false x (.tup ys) S := rfl
@[simp] theorem e_in_lst : gNotIn x (.lst ys) S = gInQ true x (.lst ys) S := rfl
@[simp] theorem e_in_lst2 : gIn x (.lst ys) S = gInQ false x (.lst ys) S := rfl
theorem short_le {n : Nat} (h : n ≤ 1000000) : short n = true := by
  have : (1000000 : Nat) ≤ sizeLine := by decide
  exact decide_eq_true (Nat.le_trans h this)
@[simp] theorem short0 : short 0 = true := short_le (by decide)
@[simp] theorem short1 : short 1 = true := short_le (by decide)
@[simp] theorem short2 : short 2 = true := short_le (by decide)
@[simp] theorem short3 : short 3 = true := short_le (by decide)
@[simp] theorem short4 : short 4 = true := short_le (by decide)
@[simp] theorem short8 : short 8 = true := short_le (by decide)
@[simp] theorem short7 : short 7 = true := short_le (by decide)
end
end DL

/-! Plain laws, part 3: plain data shown and compared. -/
namespace DL
open PySem L2

/-! ### data that can be shown -/
mutual
def D.sim : D → Bool
  | .non => true
  | .bl _ => true
  | .int i => decide (-1000000000000 < i ∧ i < 1000000000000)
  | .str x => PyData.strOk x
  | .tup ds => simL ds
  | .lst ds => simL ds
  | _ => false
def simL : List D → Bool
  | [] => true
  | d :: ds => d.sim && simL ds
end
mutual
def D.dep : D → Nat
  | .tup ds => depL ds + 1
  | .lst ds => depL ds + 1
  | _ => 0
def depL : List D → Nat
  | [] => 0
  | d :: ds => max d.dep (depL ds)
end
mutual
def D.wt : D → Nat
  | .int _ => 64
  | .str x => x.cps.size
  | .tup ds => wtL ds
  | .lst ds => wtL ds
  | _ => 0
def wtL : List D → Nat
  | [] => 0
  | d :: ds => d.wt + 1 + wtL ds
end
mutual
def D.py : D → PyData
  | .non => .none
  | .bl b => .bool b
  | .int i => .int i
  | .str x => .str x
  | .tup ds => .tuple (pyL ds)
  | .lst ds => .list (pyL ds)
  | _ => .none
def pyL : List D → List PyData
  | [] => []
  | d :: ds => d.py :: pyL ds
end
structure Sh (d : D) (p : PyData) : Prop where
  py : toPy d = some p
  lay : p.canLay0 = true
  dep : p.depth = d.dep
  wt : p.weight ≤ d.wt
  sh : p.intsShort 13 = true
  shw : p.showable = true
  hd : p.hasDict = false
structure ShL (d : List D) (p : List PyData) : Prop where
  py : toPyL d = some p
  lay : PyData.canLayAll0 p = true
  dep : PyData.depthAll p = depL d
  wt : PyData.weightAll p ≤ wtL d
  sh : PyData.intsShortAll 13 p = true
  shw : PyData.showableAll p = true
  hd : PyData.hasDictAll p = false
theorem int_short {i : Int} (h1 : -1000000000000 < i) (h2 : i < 1000000000000) : (PyData.shown (.int i)).length ≤ 13 := by
  simp only [PyData.shown]
  by_cases h : 0 ≤ i
  · have q := PyProof.Rows.toString_length_le (v := i) h (k := 12) (by decide) (by show i < 10 ^ 12; omega)
    omega
  · have hn : i < 0 := by omega
    have q := PyProof.Rows.toString_length_le (v := 0 - i) (by omega) (k := 12) (by decide) (by show 0 - i < 10 ^ 12; omega)
    rw [PyProof.Rows.toString_neg hn, PyProof.Rows.ofString_len, String.length_append]
    rw [PyProof.Rows.ofString_len] at q
    have e : ("-" : String).length = 1 := rfl
    omega
theorem log_small {n : Nat} (h : n < 1000000000000) : n.log2 < 63 := by
  by_cases h0 : n = 0
  · subst h0; decide
  · have := Nat.log2_self_le h0
    exact Nat.lt_of_not_le fun q => by
      have : 2 ^ 63 ≤ 2 ^ n.log2 := Nat.pow_le_pow_right (by decide) q
      have e : (2 : Nat) ^ 63 = 9223372036854775808 := by decide
      omega
mutual
theorem D.sh : ∀ d : D, d.sim = true → Sh d d.py
  | .non, _ => ⟨rfl, by simp [D.py, PyData.canLay0], by simp [D.py, PyData.depth, D.dep], by simp [D.py, PyData.weight], by simp [D.py, PyData.intsShort], by simp [D.py, PyData.showable], by simp [D.py, PyData.hasDict]⟩
  | .bl _, _ => ⟨rfl, by simp [D.py, PyData.canLay0], by simp [D.py, PyData.depth, D.dep], by simp [D.py, PyData.weight], by simp [D.py, PyData.intsShort], by simp [D.py, PyData.showable], by simp [D.py, PyData.hasDict]⟩
  | .int i, h => by
    have h' : -1000000000000 < i ∧ i < 1000000000000 := by simpa [D.sim] using h
    have lg := log_small (n := i.natAbs) (by omega)
    refine ⟨rfl, by simp [D.py, PyData.canLay0], by simp [D.py, PyData.depth, D.dep], ?_, ?_, ?_, by simp [D.py, PyData.hasDict]⟩
    · simp only [D.py, PyData.weight, D.wt]
      split <;> omega
    · simp only [D.py, PyData.intsShort]
      exact decide_eq_true (int_short h'.1 h'.2)
    · simp only [D.py, PyData.showable]
      exact decide_eq_true (by omega)
  | .str x, h => by
    have h' : PyData.strOk x = true := by simpa [D.sim] using h
    exact ⟨rfl, by simpa [D.py, PyData.canLay0] using h', by simp [D.py, PyData.depth, D.dep], by simp [D.py, PyData.weight, D.wt], by simp [D.py, PyData.intsShort], by simp [D.py, PyData.showable], by simp [D.py, PyData.hasDict]⟩
  | .tup ds, h => by
    have q := simL_sh ds (by simpa [D.sim] using h)
    exact ⟨by simp [toPy, q.py, D.py], by simpa [D.py, PyData.canLay0] using q.lay, by simp [D.py, PyData.depth, D.dep, q.dep], by simpa [D.py, PyData.weight, D.wt] using q.wt, by simpa [D.py, PyData.intsShort] using q.sh, by simpa [D.py, PyData.showable] using q.shw, by simpa [D.py, PyData.hasDict] using q.hd⟩
  | .lst ds, h => by
    have q := simL_sh ds (by simpa [D.sim] using h)
    exact ⟨by simp [toPy, q.py, D.py], by simpa [D.py, PyData.canLay0] using q.lay, by simp [D.py, PyData.depth, D.dep, q.dep], by simpa [D.py, PyData.weight, D.wt] using q.wt, by simpa [D.py, PyData.intsShort] using q.sh, by simpa [D.py, PyData.showable] using q.shw, by simpa [D.py, PyData.hasDict] using q.hd⟩
  | .ty _, h => by simp [D.sim] at h
  | .cls _, h => by simp [D.sim] at h
  | .scr _, h => by simp [D.sim] at h
  | .dic _, h => by simp [D.sim] at h
  | .ins _ _, h => by simp [D.sim] at h
  | .oid _, h => by simp [D.sim] at h
  | .exc _ _, h => by simp [D.sim] at h
theorem simL_sh : ∀ ds : List D, simL ds = true → ShL ds (pyL ds)
  | [], _ => ⟨rfl, by simp [pyL, PyData.canLayAll0], by simp [pyL, PyData.depthAll, depL], by simp [pyL, PyData.weightAll], by simp [pyL, PyData.intsShortAll], by simp [pyL, PyData.showableAll], by simp [pyL, PyData.hasDictAll]⟩
  | d :: ds, h => by
    have h' : d.sim = true ∧ simL ds = true := by simpa [simL] using h
    have a := D.sh d h'.1
    have b := simL_sh ds h'.2
    have bw := b.wt
    have aw := a.wt
    exact ⟨by simp [toPyL, a.py, b.py, pyL], by simp [pyL, PyData.canLayAll0, a.lay, b.lay], by simp [pyL, PyData.depthAll, depL, a.dep, b.dep], by simp only [pyL, PyData.weightAll, wtL]; omega, by simp [pyL, PyData.intsShortAll, a.sh, b.sh], by simp [pyL, PyData.showableAll, a.shw, b.shw], by simp [pyL, PyData.hasDictAll, a.hd, b.hd]⟩
end
theorem toPy_pyOf {d : D} {p : PyData} (S : Store) (h : toPy d = some p) : pyOf S d = some p := by
  cases d <;> first
    | exact h
    | (simp [toPy] at h)
theorem pyOf_sim {d : D} (S : Store) (h : d.sim = true) : pyOf S d = some d.py := toPy_pyOf S (D.sh d h).py
/-! ### data that is equal -/
mutual
theorem eqv_refl : ∀ p : PyData, p.hasDict = false → p.eqv p = true
  | .none, _ => by simp [PyData.eqv]
  | .bool _, _ => by simp [PyData.eqv]
  | .int _, _ => by simp [PyData.eqv]
  | .str _, _ => by simp [PyData.eqv]
  | .list xs, h => by
    simp only [PyData.eqv]
    exact eqvAll_refl xs (by simpa [PyData.hasDict] using h)
  | .tuple xs, h => by
    simp only [PyData.eqv]
    exact eqvAll_refl xs (by simpa [PyData.hasDict] using h)
  | .dict _, h => by simp [PyData.hasDict] at h
theorem eqvAll_refl : ∀ p : List PyData, PyData.hasDictAll p = false → PyData.eqvAll p p = true
  | [], _ => by simp [PyData.eqvAll]
  | x :: xs, h => by
    have h' : x.hasDict = false ∧ PyData.hasDictAll xs = false := by simpa [PyData.hasDictAll] using h
    simp only [PyData.eqvAll, eqv_refl x h'.1, eqvAll_refl xs h'.2]
    rfl
end
mutual
/-- no truths in it -/
def D.nb : D → Bool
  | .bl _ => false
  | .tup ds => nbL ds
  | .lst ds => nbL ds
  | _ => true
def nbL : List D → Bool
  | [] => true
  | d :: ds => d.nb && nbL ds
end
mutual
theorem eqv_eq : ∀ d e : D, d.sim = true → e.sim = true → d.nb = true → e.nb = true → d.py.eqv e.py = true → d = e
  | .non, e, _, h, _, n, q => by cases e <;> simp_all [D.sim, D.nb, D.py, PyData.eqv]
  | .int i, e, _, h, _, n, q => by cases e <;> simp_all [D.sim, D.nb, D.py, PyData.eqv]
  | .str i, e, _, h, _, n, q => by cases e <;> simp_all [D.sim, D.nb, D.py, PyData.eqv]
  | .tup ds, e, hd, h, hn, n, q => by
    cases e with
    | tup es =>
      simp only [D.sim, D.nb, D.py, PyData.eqv] at hd h hn n q
      rw [eqvL_eq ds es hd h hn n q]
    | _ => simp_all [D.sim, D.nb, D.py, PyData.eqv]
  | .lst ds, e, hd, h, hn, n, q => by
    cases e with
    | lst es =>
      simp only [D.sim, D.nb, D.py, PyData.eqv] at hd h hn n q
      rw [eqvL_eq ds es hd h hn n q]
    | _ => simp_all [D.sim, D.nb, D.py, PyData.eqv]
  | .bl _, _, _, _, h, _, _ => by simp [D.nb] at h
  | .ty _, _, h, _, _, _, _ => by simp [D.sim] at h
  | .cls _, _, h, _, _, _, _ => by simp [D.sim] at h
  | .scr _, _, h, _, _, _, _ => by simp [D.sim] at h
  | .dic _, _, h, _, _, _, _ => by simp [D.sim] at h
  | .ins _ _, _, h, _, _, _, _ => by simp [D.sim] at h
  | .exc _ _, _, h, _, _, _, _ => by simp [D.sim] at h
  | .oid _, _, h, _, _, _, _ => by simp [D.sim] at h
theorem eqvL_eq : ∀ ds es : List D, simL ds = true → simL es = true → nbL ds = true → nbL es = true → PyData.eqvAll (pyL ds) (pyL es) = true → ds = es
  | [], [], _, _, _, _, _ => rfl
  | [], _ :: _, _, _, _, _, q => by simp [pyL, PyData.eqvAll] at q
  | _ :: _, [], _, _, _, _, q => by simp [pyL, PyData.eqvAll] at q
  | d :: ds, e :: es, hd, h, hn, n, q => by
    simp only [simL, nbL, pyL, PyData.eqvAll, Bool.and_eq_true] at hd h hn n q
    rw [eqv_eq d e hd.1 h.1 hn.1 n.1 q.1, eqvL_eq ds es hd.2 h.2 hn.2 n.2 q.2]
end
theorem shaped_D {d : D} (h : d.sim = true) (hd : d.dep ≤ 60) : SeqAt.shaped d.py = true := by
  have q := D.sh d h
  have := q.dep
  unfold SeqAt.shaped
  rw [q.lay]
  simp
  omega
theorem scal_D {d e : D} (h : scalD d e = true) : eqS d e = d.py.eqv e.py := by
  cases d <;> cases e <;> simp_all [scalD, eqS, D.py, PyData.eqv] <;> rfl
theorem eq_D {d e : D} (h1 : d.sim = true) (h2 : e.sim = true) (d1 : d.dep ≤ 60) (d2 : e.dep ≤ 60) (S : Store) : gEq d e S = .ok (.bl (d.py.eqv e.py)) S := by
  unfold gEq
  by_cases h : scalD d e = true
  · rw [if_pos (show pScal d e S = true from h)]
    simp only [gEqS, h, if_true, scal_D h, Bool.false_eq_true, if_false]
  · rw [if_neg (show ¬ pScal d e S = true from h)]
    simp only [gEqD, pyOf_sim S h1, pyOf_sim S h2, shaped_D h1 d1, shaped_D h2 d2]
    rfl
theorem ne_D {d e : D} (h1 : d.sim = true) (h2 : e.sim = true) (d1 : d.dep ≤ 60) (d2 : e.dep ≤ 60) (S : Store) : gNe d e S = .ok (.bl (!d.py.eqv e.py)) S := by
  unfold gNe
  by_cases h : scalD d e = true
  · rw [if_pos (show pScal d e S = true from h)]
    simp only [gEqS, h, if_true, scal_D h]
  · rw [if_neg (show ¬ pScal d e S = true from h)]
    simp only [gEqD, pyOf_sim S h1, pyOf_sim S h2, shaped_D h1 d1, shaped_D h2 d2]
    rfl
def seqD : D → Store → Res ItD := fun d S => match d with
  | .tup ds => .ok ⟨ds, none⟩ S
  | .lst ds => .ok ⟨ds, none⟩ S
  | .scr ds => .ok ⟨ds, none⟩ S
  | d => match asL S d with
    | some ds => .ok ⟨ds, some (d, ds)⟩ S
    | none => .stuck
@[simp] theorem e_fSeq (fe : FE) (ρ : EnvD) (S : Store) : fSeq fe ρ S = (fe ρ S).bind seqD := rfl
@[simp] theorem e_seqD_t (ds : List D) (S : Store) : seqD (.tup ds) S = .ok ⟨ds, none⟩ S := rfl
@[simp] theorem e_seqD_l (ds : List D) (S : Store) : seqD (.lst ds) S = .ok ⟨ds, none⟩ S := rfl
@[simp] theorem e_seqD_s (ds : List D) (S : Store) : seqD (.scr ds) S = .ok ⟨ds, none⟩ S := rfl
def enumC : List D → Store → Res ItD := fun ds S => match ds with
  | [.lst ds] => .ok ⟨enumD 0 ds, none⟩ S
  | [d] => match asL S d with
    | some ds => .ok ⟨enumD 0 ds, some (d, ds)⟩ S
    | none => .stuck
  | _ => .stuck
@[simp] theorem e_fEnum (fr : FA) (ρ : EnvD) (S : Store) : fEnum fr ρ S = (fr ρ S).bind enumC := rfl
@[simp] theorem e_enumC_l (ds : List D) (S : Store) : enumC [.lst ds] S = .ok ⟨enumD 0 ds, none⟩ S := rfl
@[simp] theorem e_gAug (i : Nat) (fe : FE) (g : G2) (ρ : EnvD) (S : Store) : gAug i fe g ρ S = match ρ[i]? with
  | some (some x) => (fe ρ S).into ρ fun y S => (g x y S).into ρ fun z S => .nx (ρ.set i (some z)) S
  | _ => .stuck := rfl
@[simp] theorem e_gIp (f : Int → Int → Int) (i j : Int) (S : Store) : gIp f (.int i) (.int j) S = .ok (.int (f i j)) S := rfl
theorem simL_all {ds : List D} : simL ds = true ↔ ∀ d ∈ ds, d.sim = true := by
  induction ds with
  | nil => simp [simL]
  | cons d ds ih => simp [simL, ih]
theorem depL_le {n : Nat} {ds : List D} : depL ds ≤ n ↔ ∀ d ∈ ds, d.dep ≤ n := by
  induction ds with
  | nil => simp [depL]
  | cons d ds ih => simp [depL, ← ih, Nat.max_le]
end DL

/-! Plain laws of dict displays, dicts of numbers, the least of a list. -/
namespace DL
open PySem L2
section
variable {ρ : EnvD} {S : Store}
@[simp] theorem e_fDisp (fp : FP) : fDisp fp ρ S = (fp ρ (S ++ [.dic []])).bind fun ps S' => dispAt S.length ps S' := rfl
@[simp] theorem e_fPs0 : fPs0 ρ S = .ok [] S := rfl
@[simp] theorem e_fPs (fk fv : FE) (fr : FP) : fPs fk fv fr ρ S = (fk ρ S).bind fun x S => (fv ρ S).bind fun y S => (fr ρ S).bind fun ps S => .ok ((x, y) :: ps) S := rfl
end
theorem toPyL_ints : ∀ ns : List Int, toPyL (ns.map D.int) = some (ns.map PyData.int)
  | [] => rfl
  | n :: ns => by
    have := toPyL_ints ns
    simp [toPyL, toPy, this]
theorem lay_ints : ∀ ns : List Int, PyData.canLayAll0 (ns.map PyData.int) = true
  | [] => rfl
  | n :: ns => by
    have := lay_ints ns
    simp only [List.map_cons, PyData.canLayAll0, PyData.canLay0, this]
    rfl
theorem depth_ints : ∀ ns : List Int, PyData.depthAll (ns.map PyData.int) = 0
  | [] => rfl
  | n :: ns => by
    have := depth_ints ns
    simp [PyData.depthAll, PyData.depth, this]
theorem shaped_ints (ns : List Int) : SeqAt.shaped (.list (ns.map PyData.int)) = true := by
  simp [SeqAt.shaped, PyData.canLay0, lay_ints, PyData.depth, depth_ints]
theorem eq_nilP {ds : List D} {ps : List PyData} {S : Store} (e1 : toPyL ds = some ps) (e3 : SeqAt.shaped (.list ps) = true) : gEq (.lst ds) (.lst []) S = .ok (.bl ds.isEmpty) S ∧ gNe (.lst ds) (.lst []) S = .ok (.bl (!ds.isEmpty)) S := by
  have e0 : pyOf S (.lst ds) = some (.list ps) := by simp [pyOf, toPy, e1]
  have e2 : pyOf S (.lst []) = some (.list []) := by simp [pyOf, toPy, toPyL]
  have e5 : SeqAt.shaped (.list []) = true := shaped_ints []
  have e4 : PyData.eqv (.list ps) (.list []) = ds.isEmpty := by
    cases ds with
    | nil => cases e1; simp [PyData.eqv, PyData.eqvAll]
    | cons d ds =>
      cases ps with
      | nil =>
        exfalso
        unfold toPyL at e1
        cases h1 : toPy d with
        | none => rw [h1] at e1; cases e1
        | some x =>
          rw [h1] at e1
          cases h2 : toPyL ds with
          | none => rw [h2] at e1; cases e1
          | some y => rw [h2] at e1; cases e1
      | cons p ps => simp [PyData.eqv, PyData.eqvAll]
  constructor
  · show (if pScal (.lst ds) (.lst []) S then _ else gEqD false (.lst ds) (.lst []) S) = _
    rw [if_neg (by simp [pScal, scalD])]
    simp [gEqD, e0, e2, e3, e5, e4]
  · show (if pScal (.lst ds) (.lst []) S then _ else gEqD true (.lst ds) (.lst []) S) = _
    rw [if_neg (by simp [pScal, scalD])]
    simp [gEqD, e0, e2, e3, e5, e4]
@[simp] theorem e_fGet2 {ρ : EnvD} {S : Store} (fo fe ff : FE) : fGet2 fo fe ff ρ S = (fo ρ S).bind fun x S => if (asD S x).isSome then (fe ρ S).bind fun y S => (ff ρ S).bind fun z S => gGet x y z S else .stuck := rfl
@[simp] theorem e_fGet1 {ρ : EnvD} {S : Store} (fo fe : FE) : fGet1 fo fe ρ S = (fo ρ S).bind fun x S => if (asD S x).isSome then (fe ρ S).bind fun y S => gGet x y .non S else .stuck := rfl
end DL

/-! Grounds as they lie in the store. -/
namespace K03
open PySem L2 DL
/-! ### values -/
inductive GV where
  | non | num (i : Int) | at_ (n : Nat)
  deriving DecidableEq
def dG : GV → D
  | .non => .non
  | .num i => .int i
  | .at_ n => .tup [.str "at", .int n]
def atD (n : Nat) : D := .tup [.str "at", .int n]
inductive Sort3 where
  | cell | last | tie
  deriving DecidableEq
def Sort3.str : Sort3 → Str
  | .cell => "cell"
  | .last => "last"
  | .tie => "tie"
/-- a ground: cells by serials, pegs, the queue -/
structure Gr where
  cells : List (Sort3 × List GV)
  pegs : List GV
  queue : List Nat
/-! ### the store -/
theorem ix_o {S : Store} {n : Nat} {xs : List D} (h : S[n]? = some (.lst xs)) (i : Int) : gIx (.oid n) (.int i) S = match atI xs i with | some d => .ok d S | none => .stuck := by
  have e1 : pDic1 (.oid n) (.int i) S = false := by simp [pDic1, asD, h]
  simp [gIx, e1, isS, gIxQ, asQ, asL, h]
  all_goals (cases atI xs i <;> rfl)
theorem ix_d {S : Store} {n : Nat} {ks : List (Key × D)} {x : Str} {d : D} (h : S[n]? = some (.dic ks)) (e : valD ks (.inr x) = some d) : gIx (.oid n) (.str x) S = .ok d S := by
  simp [gIx, pDic1, gIxD, asD, h, keyD, e]
theorem len_o {S : Store} {n : Nat} {xs : List D} (h : S[n]? = some (.lst xs)) : gLen [.oid n] S = .ok (.int xs.length) S := by
  have e1 : isDic1 [.oid n] S = false := by simp [isDic1, asD, h]
  have e2 : isStr1 [.oid n] S = false := by simp [isStr1]
  simp [gLen, e1, e2, gLenQ, asQ, asL, h]
theorem app_o {S : Store} {n : Nat} {xs : List D} {x : D} (h : S[n]? = some (.lst xs)) (hl : xs.length ≤ 10000) : gApp (.oid n) [x] S = .ok .non (S.set n (.lst (xs ++ [x]))) := by
  have : (10000 : Nat) < sizeLine := by decide
  have hl' : xs.length < sizeLine := by omega
  simp [gApp, h, hl']
theorem tyS_o {S : Store} {n : Nat} {xs : List D} (h : S[n]? = some (.lst xs)) : tyS S (.oid n) = some "list" := by simp [tyS, h]
theorem set_ne {S : Store} {i j : Nat} {o : SO} (h : i ≠ j) : (S.set i o)[j]? = S[j]? := List.getElem?_set_ne h
theorem set_eq {S : Store} {i : Nat} {o u : SO} (h : S[i]? = some u) : (S.set i o)[i]? = some o := by
  rw [List.getElem?_set_self (List.getElem?_eq_some_iff.mp h).1]
theorem app_old {S T : Store} {j : Nat} {o : SO} (h : S[j]? = some o) : (S ++ T)[j]? = some o := by
  rw [List.getElem?_append_left (List.getElem?_eq_some_iff.mp h).1]
  exact h
theorem lt_of {S : Store} {j : Nat} {o : SO} (h : S[j]? = some o) : j < S.length := (List.getElem?_eq_some_iff.mp h).1
/-- all but some places stay -/
def Keeps (f : List Nat) (S S' : Store) : Prop := S.length ≤ S'.length ∧ ∀ i, i < S.length → i ∉ f → S'[i]? = S[i]?
theorem Keeps.rfl' {f : List Nat} {S : Store} : Keeps f S S := ⟨Nat.le_refl _, fun _ _ _ => rfl⟩
theorem Keeps.trans {f g h : List Nat} {S T U : Store} (a : Keeps f S T) (b : Keeps g T U) (hf : ∀ i ∈ f, i ∈ h) (hg : ∀ i ∈ g, i ∈ h ∨ S.length ≤ i) : Keeps h S U :=
  ⟨Nat.le_trans a.1 b.1, fun i hi hn => by
    rw [b.2 i (Nat.lt_of_lt_of_le hi a.1) fun z => (hg i z).elim hn fun q => by omega, a.2 i hi fun z => hn (hf i z)]⟩
theorem Keeps.get {f : List Nat} {S S' : Store} (k : Keeps f S S') {i : Nat} {o : SO} (h : S[i]? = some o) (hn : i ∉ f) : S'[i]? = some o := by
  rw [k.2 i (lt_of h) hn]
  exact h
/-- where a ground's lists lie: the pegs, the queue, the heap, and each cell with what is in it -/
structure Wh where
  a : Nat
  b : Nat
  c : Nat
  os : List (Nat × Nat)
def Wh.fp (h : Wh) : List Nat := h.a :: h.b :: h.c :: h.os.flatMap fun o => [o.1, o.2]
structure Core (S : Store) (h : Wh) (G : Gr) : Prop where
  pg : S[h.a]? = some (.lst (G.pegs.map dG))
  qu : S[h.b]? = some (.lst (G.queue.map atD))
  hp : S[h.c]? = some (.lst (h.os.map fun o => D.oid o.1))
  len : h.os.length = G.cells.length
  out : ∀ (i : Nat) (o : Nat × Nat) (cl : Sort3 × List GV), h.os[i]? = some o → G.cells[i]? = some cl → S[o.1]? = some (.lst [.str cl.1.str, .oid o.2]) ∧ S[o.2]? = some (.lst (cl.2.map dG))
  nd : h.fp.Nodup
  ml : G.cells.length ≤ 1000 ∧ G.queue.length ≤ 1000 ∧ G.pegs.length ≤ 1000
theorem mem_fp {h : Wh} {i : Nat} {o : Nat × Nat} (e : h.os[i]? = some o) : o.1 ∈ h.fp ∧ o.2 ∈ h.fp := by
  have : ∀ x ∈ [o.1, o.2], x ∈ h.os.flatMap fun o => [o.1, o.2] := fun x hx => List.mem_flatMap.mpr ⟨o, List.mem_of_getElem? e, hx⟩
  exact ⟨List.mem_cons_of_mem _ (List.mem_cons_of_mem _ (List.mem_cons_of_mem _ (this _ (by simp)))), List.mem_cons_of_mem _ (List.mem_cons_of_mem _ (List.mem_cons_of_mem _ (this _ (by simp))))⟩
section
variable {S S' : Store} {h : Wh} {G : Gr}
theorem Core.frame (C : Core S h G) (k : ∀ i ∈ h.fp, S'[i]? = S[i]?) : Core S' h G :=
  ⟨by rw [k _ (by simp [Wh.fp])]; exact C.pg, by rw [k _ (by simp [Wh.fp])]; exact C.qu, by rw [k _ (by simp [Wh.fp])]; exact C.hp, C.len, fun i o cl h1 h2 => by
    rw [k _ (mem_fp h1).1, k _ (mem_fp h1).2]
    exact C.out i o cl h1 h2, C.nd, C.ml⟩
theorem Core.lt (C : Core S h G) : ∀ i ∈ h.fp, i < S.length := by
  intro i hi
  unfold Wh.fp at hi
  simp only [List.mem_cons, List.mem_flatMap] at hi
  rcases hi with rfl | rfl | rfl | ⟨o, ho, hi⟩
  · exact lt_of C.pg
  · exact lt_of C.qu
  · exact lt_of C.hp
  · obtain ⟨j, hj⟩ := List.mem_iff_getElem?.mp ho
    have hl := (List.getElem?_eq_some_iff.mp hj).1
    have hc := List.getElem?_eq_getElem (show j < G.cells.length by rw [← C.len]; exact hl)
    obtain ⟨q1, q2⟩ := C.out j o _ hj hc
    simp only [List.mem_cons, List.not_mem_nil, or_false] at hi
    rcases hi with rfl | rfl
    · exact lt_of q1
    · exact lt_of q2
theorem Core.keep {f : List Nat} (C : Core S h G) (k : Keeps f S S') (hd : ∀ i ∈ h.fp, i ∉ f) : Core S' h G := C.frame fun i hi => k.2 i (C.lt i hi) (hd i hi)
theorem Core.nds (C : Core S h G) : h.a ≠ h.b ∧ h.a ≠ h.c ∧ h.b ≠ h.c ∧ (∀ (i : Nat) (o : Nat × Nat), h.os[i]? = some o → o.1 ≠ h.a ∧ o.1 ≠ h.b ∧ o.1 ≠ h.c ∧ o.2 ≠ h.a ∧ o.2 ≠ h.b ∧ o.2 ≠ h.c ∧ o.1 ≠ o.2) := by
  have nd := C.nd
  unfold Wh.fp at nd
  simp only [List.nodup_cons, List.mem_cons, not_or] at nd
  obtain ⟨⟨h1, h2, h3⟩, ⟨h4, h5⟩, h6, h7⟩ := nd
  refine ⟨h1, h2, h4, fun i o ho => ?_⟩
  have m1 : o.1 ∈ h.os.flatMap fun o => [o.1, o.2] := List.mem_flatMap.mpr ⟨o, List.mem_of_getElem? ho, by simp⟩
  have m2 : o.2 ∈ h.os.flatMap fun o => [o.1, o.2] := List.mem_flatMap.mpr ⟨o, List.mem_of_getElem? ho, by simp⟩
  refine ⟨fun e => h3 (e ▸ m1), fun e => h5 (e ▸ m1), fun e => h6 (e ▸ m1), fun e => h3 (e ▸ m2), fun e => h5 (e ▸ m2), fun e => h6 (e ▸ m2), ?_⟩
  obtain ⟨q, _⟩ := List.pairwise_flatMap.mp h7
  have := q o (List.mem_of_getElem? ho)
  simpa using this
/-- two cells lie apart -/
theorem flat_ne : ∀ {os : List (Nat × Nat)}, (os.flatMap fun o => [o.1, o.2]).Nodup → ∀ {i j : Nat} {o q : Nat × Nat}, os[i]? = some o → os[j]? = some q → i ≠ j → o.1 ≠ q.1 ∧ o.1 ≠ q.2 ∧ o.2 ≠ q.1 ∧ o.2 ≠ q.2 := by
  intro os nd i j o q hi hj hn
  obtain ⟨_, r⟩ := List.pairwise_flatMap.mp nd
  have key : ∀ {i j : Nat} {o q : Nat × Nat}, os[i]? = some o → os[j]? = some q → i < j → o.1 ≠ q.1 ∧ o.1 ≠ q.2 ∧ o.2 ≠ q.1 ∧ o.2 ≠ q.2 := by
    intro i j o q hi hj hlt
    obtain ⟨h1, e1⟩ := List.getElem?_eq_some_iff.mp hi
    obtain ⟨h2, e2⟩ := List.getElem?_eq_some_iff.mp hj
    have z := List.pairwise_iff_getElem.mp r i j h1 h2 hlt
    rw [e1, e2] at z
    exact ⟨z _ (by simp) _ (by simp), z _ (by simp) _ (by simp), z _ (by simp) _ (by simp), z _ (by simp) _ (by simp)⟩
  rcases Nat.lt_or_ge i j with hlt | hge
  · exact key hi hj hlt
  · obtain ⟨a, b, c, d⟩ := key hj hi (by omega)
    exact ⟨fun e => a e.symm, fun e => c e.symm, fun e => b e.symm, fun e => d e.symm⟩
theorem Core.ndf (C : Core S h G) : (h.os.flatMap fun o => [o.1, o.2]).Nodup := by
  have nd := C.nd
  unfold Wh.fp at nd
  simp only [List.nodup_cons] at nd
  exact nd.2.2.2
/-! ### what changes -/
def Gr.peg (G : Gr) (p : Nat) (v : GV) : Gr := { G with pegs := G.pegs.set p v }
def Gr.fld (G : Gr) (n k : Nat) (v : GV) : Gr := { G with cells := G.cells.modify n fun c => (c.1, c.2.set k v) }
def Gr.new (G : Gr) (s : Sort3) (vs : List GV) : Gr := { G with cells := G.cells ++ [(s, vs)] }
theorem Core.peg (C : Core S h G) {p : Nat} (v : GV) : Core (S.set h.a (.lst ((G.pegs.map dG).set p (dG v)))) h (G.peg p v) := by
  obtain ⟨n1, n2, n3, n4⟩ := C.nds
  refine ⟨?_, ?_, ?_, C.len, fun i o cl h1 h2 => ?_, C.nd, by simpa [Gr.peg] using C.ml⟩
  · rw [set_eq C.pg]
    simp [Gr.peg, List.map_set]
  · rw [set_ne n1]
    exact C.qu
  · rw [set_ne n2]
    exact C.hp
  · obtain ⟨q1, _, _, q2, _⟩ := n4 i o h1
    rw [set_ne fun e => q1 e.symm, set_ne fun e => q2 e.symm]
    exact C.out i o cl h1 h2
theorem Core.fld (C : Core S h G) {n k : Nat} {o : Nat × Nat} {cl : Sort3 × List GV} (ho : h.os[n]? = some o) (hc : G.cells[n]? = some cl) (v : GV) : Core (S.set o.2 (.lst ((cl.2.map dG).set k (dG v)))) h (G.fld n k v) := by
  obtain ⟨n1, n2, n3, n4⟩ := C.nds
  obtain ⟨q1, q2, q3, q4, q5, q6, q7⟩ := n4 n o ho
  have hin := (C.out n o cl ho hc).2
  refine ⟨?_, ?_, ?_, ?_, fun i r dl h1 h2 => ?_, C.nd, by simpa [Gr.fld] using C.ml⟩
  · rw [set_ne q4]
    exact C.pg
  · rw [set_ne q5]
    exact C.qu
  · rw [set_ne q6]
    exact C.hp
  · simpa [Gr.fld] using C.len
  · by_cases e : n = i
    · subst e
      rw [ho] at h1
      cases h1
      have e2 : G.cells.modify n (fun c => (c.1, c.2.set k v)) = (G.fld n k v).cells := rfl
      rw [← e2, List.getElem?_modify, hc] at h2
      simp only [if_true, Option.map_eq_map, Option.map_some, Option.some.injEq] at h2
      subst h2
      rw [set_ne fun z => q7 z.symm, set_eq hin]
      exact ⟨(C.out n o cl ho hc).1, by simp [List.map_set]⟩
    · have e2 : G.cells.modify n (fun c => (c.1, c.2.set k v)) = (G.fld n k v).cells := rfl
      rw [← e2, List.getElem?_modify] at h2
      simp only [e, if_false, Option.map_eq_map, Option.map_id'] at h2
      obtain ⟨z1, z2, z3, z4⟩ := flat_ne C.ndf ho h1 e
      rw [set_ne z3, set_ne z4]
      exact C.out i r dl h1 h2
/-- a new cell: its list of fields at i, itself at j -/
theorem Core.new (C : Core S h G) (hm : G.cells.length < 1000) {s : Sort3} {vs : List GV} {i j : Nat} (hi : S[i]? = some (.lst (vs.map dG))) (hj : S[j]? = some (.lst [.str s.str, .oid i])) (ni : i ∉ h.fp) (nj : j ∉ h.fp) (nij : i ≠ j) :
    Core (S.set h.c (.lst ((h.os.map fun o => D.oid o.1) ++ [.oid j]))) { h with os := h.os ++ [(j, i)] } (G.new s vs) := by
  obtain ⟨n1, n2, n3, n4⟩ := C.nds
  have ic : i ≠ h.c := fun e => ni (by simp [Wh.fp, e])
  have jc : j ≠ h.c := fun e => nj (by simp [Wh.fp, e])
  refine ⟨?_, ?_, ?_, by simp [Gr.new, C.len], fun k r dl h1 h2 => ?_, ?_, ?_⟩
  · rw [set_ne fun e => n2 e.symm]
    exact C.pg
  · rw [set_ne fun e => n3 e.symm]
    exact C.qu
  · rw [set_eq C.hp]
    simp
  · by_cases e : k < h.os.length
    · have h1' : h.os[k]? = some r := by
        rw [List.getElem?_append_left e] at h1
        exact h1
      have h2' : G.cells[k]? = some dl := by
        have h2 : (G.cells ++ [(s, vs)])[k]? = some dl := h2
        rw [List.getElem?_append_left (by rw [← C.len]; exact e)] at h2
        exact h2
      obtain ⟨_, _, q3, _, _, q6, _⟩ := n4 k r h1'
      rw [set_ne fun e => q3 e.symm, set_ne fun e => q6 e.symm]
      exact C.out k r dl h1' h2'
    · have h2 : (G.cells ++ [(s, vs)])[k]? = some dl := h2
      rw [List.getElem?_append_right (by omega)] at h1
      rw [List.getElem?_append_right (by rw [← C.len]; omega)] at h2
      have hk : k - h.os.length = 0 := by
        have := (List.getElem?_eq_some_iff.mp h1).1
        simp at this
        omega
      rw [hk] at h1
      rw [← C.len, hk] at h2
      simp only [List.getElem?_cons_zero, Option.some.injEq] at h1 h2
      subst h1 h2
      rw [set_ne fun e => jc e.symm, set_ne fun e => ic e.symm]
      exact ⟨hj, hi⟩
  · have nd := C.nd
    have e : ({ h with os := h.os ++ [(j, i)] } : Wh).fp = h.fp ++ [j, i] := by simp [Wh.fp]
    rw [e]
    refine List.nodup_append.mpr ⟨nd, by simp; exact fun e => nij e.symm, fun x hx y hy z => ?_⟩
    subst z
    simp only [List.mem_cons, List.not_mem_nil, or_false] at hy
    rcases hy with rfl | rfl
    · exact nj hx
    · exact ni hx
  · simp only [Gr.new, List.length_append, List.length_singleton]
    have := C.ml
    omega
end
end K03

/-! Draws. -/
namespace K03
open PySem L2 DL
/-! ### the state -/
abbrev stK (v : Int) (k : Nat) (ns : List Int) : List (Key × D) := [(.inr "left", .int v), (.inr "at", .int k), (.inr "cells", .lst (ns.map D.int))]
abbrev stO (v : Int) (k : Nat) (ns : List Int) : SO := .dic (stK v k ns)
theorem kk1 : ¬ (("at" : Str) = "left") := by decide +kernel
theorem kk2 : ¬ (("cells" : Str) = "left") := by decide +kernel
theorem kk3 : ¬ (("cells" : Str) = "at") := by decide +kernel
theorem kk4 : ¬ (("left" : Str) = "at") := by decide +kernel
theorem kk5 : ¬ (("left" : Str) = "cells") := by decide +kernel
theorem kk6 : ¬ (("at" : Str) = "cells") := by decide +kernel
section
variable (v : Int) (k : Nat) (ns : List Int)
theorem st_left : valD (stK v k ns) (.inr "left") = some (.int v) := by simp [valD, stK]
theorem st_at : valD (stK v k ns) (.inr "at") = some (.int k) := by simp [valD, stK, kk4]
theorem st_cells : valD (stK v k ns) (.inr "cells") = some (.lst (ns.map D.int)) := by simp [valD, stK, kk5, kk6]
theorem put_left (u : Int) : putKD (stK v k ns) (.inr "left") (.int u) = stK u k ns := by simp [putKD, stK, kk1, kk2]
theorem put_at (u : Nat) : putKD (stK v k ns) (.inr "at") (.int u) = stK v u ns := by simp [putKD, stK, kk3, kk4]
end
section
variable {S : Store} {s : Nat} {v : Int} {k : Nat} {ns : List Int}
theorem ix_left (h : S[s]? = some (stO v k ns)) : gIx (.oid s) (.str "left") S = .ok (.int v) S := ix_d h (st_left v k ns)
theorem ix_at (h : S[s]? = some (stO v k ns)) : gIx (.oid s) (.str "at") S = .ok (.int k) S := ix_d h (st_at v k ns)
theorem ix_cells (h : S[s]? = some (stO v k ns)) : gIx (.oid s) (.str "cells") S = .ok (.lst (ns.map D.int)) S := ix_d h (st_cells v k ns)
theorem sto_at (h : S[s]? = some (stO v k ns)) (u : Nat) : storeAt (.oid s) (.str "at") (.int u) S = some (S.set s (stO v u ns)) := by
  have : (3 : Nat) < sizeLine := by decide
  simp only [storeAt, h, keyD, List.length_cons, List.length_nil, Nat.zero_add, put_at]
  rw [if_pos (by omega)]
theorem sto_left (h : S[s]? = some (stO v k ns)) (u : Int) : storeAt (.oid s) (.str "left") (.int u) S = some (S.set s (stO u k ns)) := by
  have : (3 : Nat) < sizeLine := by decide
  simp only [storeAt, h, keyD, List.length_cons, List.length_nil, Nat.zero_add, put_left]
  rw [if_pos (by omega)]
theorem putd_left (h : S[s]? = some (stO v k ns)) (u : Int) : putAtD (.oid s) (.str "left") (.int u) S = some (S.set s (stO u k ns)) := by
  have : (3 : Nat) < sizeLine := by decide
  simp only [putAtD, h, keyD, List.length_cons, List.length_nil, Nat.zero_add, put_left]
  rw [if_pos (by omega)]
theorem ixd_left (h : S[s]? = some (stO v k ns)) : gIxD (.oid s) (.str "left") S = .ok (.int v) S := by
  simp [gIxD, asD, h, keyD, st_left]
end
@[simp] theorem e_gAugD {g : G2} {fo fi fe : FE} {ρ : EnvD} {S : Store} : gAugD g fo fi fe ρ S = (fo ρ S).into ρ fun x S => (fi ρ S).into ρ fun y S => (gIxD x y S).into ρ fun d S => (fe ρ S).into ρ fun c S => (g d c S).into ρ fun z S => match putAtD x y z S with
  | some S => .nx ρ S
  | none => .stuck := rfl
theorem begin_ok (ns : List Int) (S : Store) : S_p_law_begin [.scr (ns.map D.int)] S = .ok (.oid S.length) (S ++ [stO 0 0 ns]) := by
  have e : mergeD [] (stK 0 0 ns) = stK 0 0 ns := by simp [mergeD, putKD, stK, kk1, kk2, kk3, kk4, kk5, kk6]
  have kd : keysK [(D.str "left", D.int 0), (D.str "at", D.int 0), (D.str "cells", D.lst (ns.map D.int))] = some (stK 0 0 ns) := rfl
  have gl : ∀ S : Store, gList [.scr (ns.map D.int)] S = .ok (.lst (ns.map D.int)) S := fun S => by simp [gList, isDic1, gToL, asQ, asL, asD]
  unfold S_p_law_begin m_p_law_begin
  simp [List.replicate, gl, dispAt, kd, e]
/-! ### the next number -/
theorem cMul_l {i j : Int} (h1 : -18446744073709551616 < i) (h2 : i < 18446744073709551616) : cMul i j = true := @decide_eq_true _ (Classical.propDecidable _) (.inl ⟨h1, h2⟩)
theorem cMul_r {i j : Int} (h1 : -18446744073709551616 < j) (h2 : j < 18446744073709551616) : cMul i j = true := @decide_eq_true _ (Classical.propDecidable _) (.inr ⟨h1, h2⟩)
theorem cRng_nat {n : Nat} (h : n < 1000000) : cRng (n : Int) = true := by
  unfold cRng
  exact @decide_eq_true _ (Classical.propDecidable _) ⟨by omega, by omega⟩
theorem ne_ints (ns : List Int) (S : Store) : gNe (.lst (ns.map D.int)) (.lst []) S = .ok (.bl (!ns.isEmpty)) S := by
  have := (eq_nilP (S := S) (toPyL_ints ns) (shaped_ints ns)).2
  simpa using this
theorem pw {a n : Int} {r : Int} (h : 0 ≤ n ∧ n ≤ 1000000 ∧ a.natAbs < 18446744073709551616) (e : a ^ n.toNat = r) (S : Store) : gPow (.int a) (.int n) S = .ok (.int r) S := by
  have h : cPow a n = true := @decide_eq_true _ (Classical.propDecidable _) h
  simp [gPow, gI, h, e]
theorem p109 (S : Store) : gPow (.int 10) (.int 9) S = .ok (.int 1000000000) S := pw (by decide) (by decide) S
theorem p1018 (S : Store) : gPow (.int 10) (.int 18) S = .ok (.int 1000000000000000000) S := pw (by decide) (by decide) S
noncomputable def mcell : FE := (fIf (toB (fBin gNe (fVar 2) (fLst (fun _ S => .ok [] S)))) (fCB gAbs (fCons (fBin gIx (fVar 2) (fBin gMod (fVar 1) (fCB gLen (fCons (fVar 2) (fun _ S => .ok [] S))))) (fun _ S => .ok [] S))) (fC (.int 0)))
noncomputable def mbody : FS := (gSeq (gSet 8 (fBin gMod (fBin gAdd (fBin gAdd (fBin gMul (fBin gMod (fVar 3) (fVar 7)) (fC (.int 48271))) (fBin gMul (fC (.int 1103515245)) (fBin gAdd (fVar 1) (fC (.int 1))))) (fBin gMul (fBin gMul (fC (.int 40503)) (fVar 6)) (fVar 6))) (fVar 7))) (gSeq (gSet 8 (fBin gMod (fBin gAdd (fBin gAdd (fBin gMul (fVar 8) (fVar 8)) (fBin gMul (fC (.int 11)) (fVar 1))) (fVar 6)) (fVar 7))) (gSet 4 (fBin gAdd (fBin gMul (fVar 4) (fC (.int 2147483647))) (fBin gMod (fBin gMul (fVar 8) (fBin gAdd (fBin gAdd (fVar 8) (fVar 6)) (fC (.int 1)))) (fVar 7))))))
noncomputable abbrev tg2 (i j : Nat) : FG := (mTup 2 (mCons (mName i) (mCons (mName j) (fun ds ρ _ => match ds with | [] => some ρ | _ => none))))
theorem m_more_eq : m_p_law_more = (gSeq (gSet 1 (fBin gIx (fVar 0) (fC (.str "at")))) (gSeq (gPut (fVar 0) (fC (.str "at")) (fBin gAdd (fVar 1) (fC (.int 1)))) (gSeq (gSet 2 (fBin gIx (fVar 0) (fC (.str "cells")))) (gSeq (gSet 3 mcell) (gSeq (gIf (fAndT (toB (fBin gLt (fVar 1) (fCB gLen (fCons (fVar 2) (fun _ S => .ok [] S))))) (toB (fBin gGe (fVar 3) (fBin gPow (fC (.int 10)) (fC (.int 18)))))) (gRet (fBin gSub (fVar 3) (fBin gPow (fC (.int 10)) (fC (.int 18))))) gNil) (gSeq (gSet 4 (fC (.int 1))) (gSeq (gSet 5 (fLst (fCons (fC (.int 2147483629)) (fCons (fC (.int 2147483587)) (fCons (fC (.int 2147483579)) (fCons (fC (.int 2147483563)) (fCons (fC (.int 2147483549)) (fCons (fC (.int 2147483543)) (fCons (fC (.int 2147483497)) (fCons (fC (.int 2147483489)) (fun _ S => .ok [] S))))))))))) (gSeq (gFor (fEnum (fCons (fVar 5) (fun _ S => .ok [] S))) (tg2 6 7) mbody) (gRet (fVar 4)))))))))) := rfl
theorem mloop_ok {ps : List Int} (hp : ∀ p ∈ ps, 0 < p ∧ p < 2147483648) (hl : ps.length < 1000) (x0 x2 x5 : Option D) (k : Nat) (cell f : Int) (y6 y7 y8 : Option D) (S : Store) :
    ∃ f' z6 z7 z8, loopF none (tg2 6 7) mbody (enumD 0 (ps.map D.int)) [x0, some (.int k), x2, some (.int cell), some (.int f), x5, y6, y7, y8] S = .nx [x0, some (.int k), x2, some (.int cell), some (.int f'), x5, z6, z7, z8] S := by
  obtain ⟨ρ', S', h1, f', z6, z7, z8, rfl, rfl⟩ := loop_inv (m := tg2 6 7) (b := mbody) (fun j ρ S' => ∃ (f' : Int) (z6 z7 z8 : Option D), ρ = [x0, some (.int k), x2, some (.int cell), some (.int f'), x5, z6, z7, z8] ∧ S = S')
    (enumD 0 (ps.map D.int)) 0 [x0, some (.int k), x2, some (.int cell), some (.int f), x5, y6, y7, y8] S ⟨f, y6, y7, y8, rfl, rfl⟩ (by
    rintro j d ρ S' hd ⟨f', z6, z7, z8, rfl, rfl⟩
    rw [enumD_get, List.getElem?_map] at hd
    cases hv : ps[j]? with
    | none => rw [hv] at hd; cases hd
    | some p =>
      rw [hv] at hd
      cases hd
      obtain ⟨p1, p2⟩ := hp p (List.mem_of_getElem? hv)
      have jl := (List.getElem?_eq_some_iff.mp hv).1
      generalize ho : (cell % p * 48271 + 1103515245 * ((k : Int) + 1) + 40503 * ((0 + j : Nat) : Int) * ((0 + j : Nat) : Int)) % p = one
      have b1 : 0 ≤ one := by rw [← ho]; exact Int.emod_nonneg _ (by omega)
      have b2 : one < p := by rw [← ho]; exact Int.emod_lt_of_pos _ p1
      generalize ht : (one * one + 11 * (k : Int) + ((0 + j : Nat) : Int)) % p = two
      have c1 : 0 ≤ two := by rw [← ht]; exact Int.emod_nonneg _ (by omega)
      have c2 : two < p := by rw [← ht]; exact Int.emod_lt_of_pos _ p1
      have m1 : ∀ x, cMul x 48271 = true := fun x => cMul_r (by decide) (by decide)
      have m2 : ∀ x, cMul 1103515245 x = true := fun x => cMul_l (by decide) (by decide)
      have m3 : ∀ x, cMul 40503 x = true := fun x => cMul_l (by decide) (by decide)
      have m4 : ∀ x, cMul x ((0 + j : Nat) : Int) = true := fun x => cMul_r (by omega) (by omega)
      have m5 : ∀ x, cMul one x = true := fun x => cMul_l (by omega) (by omega)
      have m6 : ∀ x, cMul 11 x = true := fun x => cMul_l (by decide) (by decide)
      have m7 : cMul f' 2147483647 = true := cMul_r (by decide) (by decide)
      have m8 : ∀ x, cMul two x = true := fun x => cMul_l (by omega) (by omega)
      have hb : mbody [x0, some (.int k), x2, some (.int cell), some (.int f'), x5, some (.int ((0 + j : Nat) : Int)), some (.int p), z8] S =
          .nx [x0, some (.int k), x2, some (.int cell), some (.int (f' * 2147483647 + two * (two + ((0 + j : Nat) : Int) + 1) % p)), x5, some (.int ((0 + j : Nat) : Int)), some (.int p), some (.int two)] S := by
        unfold mbody
        simp only [e_gSeq, e_gSet, e_fBin, e_fVar, e_fC, List.getElem?_cons_succ, List.getElem?_cons_zero, Res.bind_ok, e_gMod _ _ _ p1, e_gMul _ _ _ (m1 _), e_gMul _ _ _ (m2 _), e_gMul _ _ _ (m3 _), e_gMul _ _ _ (m4 _), e_gAdd, ho, Res.into_ok, Out.seq_nx, List.set_cons_succ, List.set_cons_zero, e_gMul _ _ _ (m5 _), e_gMul _ _ _ (m6 _), ht, e_gMul _ _ _ m7, e_gMul _ _ _ (m8 _)]
      exact ⟨_, _, S, rfl, .inl hb, _, _, _, _, rfl, rfl⟩)
  exact ⟨f', z6, z7, z8, h1⟩
section
variable {S : Store} {s : Nat} {v : Int} {k : Nat} {ns : List Int}
theorem more_ok (h : S[s]? = some (stO v k ns)) : ∃ x : Int, S_p_law_more [.oid s] S = .ok (.int x) (S.set s (stO v (k + 1) ns)) := by
  have h2 : (S.set s (stO v (k + 1) ns))[s]? = some (stO v (k + 1) ns) := set_eq h
  have hcell : ∃ cell : Int, mcell [some (.oid s), some (.int k), some (.lst (ns.map D.int)), none, none, none, none, none, none] (S.set s (stO v (k + 1) ns)) = .ok (.int cell) (S.set s (stO v (k + 1) ns)) := by
    unfold mcell
    cases ns with
    | nil => exact ⟨0, by simp [show ∀ S, gNe (.lst []) (.lst []) S = .ok (.bl false) S from fun S => ne_ints [] S]⟩
    | cons n ns =>
      have lp : (0 : Int) < ((n :: ns).length : Int) := by simp only [List.length_cons]; omega
      have g1 := Int.emod_nonneg (k : Int) (b := ((n :: ns).length : Int)) (by omega)
      have g2 := Int.emod_lt_of_pos (k : Int) lp
      obtain ⟨i, hi⟩ : ∃ i : Nat, (k : Int) % ((n :: ns).length : Int) = (i : Int) := ⟨((k : Int) % ((n :: ns).length : Int)).toNat, by omega⟩
      have hil : i < (n :: ns).length := by omega
      have ea : atI ((n :: ns).map D.int) (i : Int) = some (.int ((n :: ns)[i])) := by
        rw [at_nat _ _ (by simpa using hil), List.getElem?_map, List.getElem?_eq_getElem hil]
        rfl
      refine ⟨if (n :: ns)[i] < 0 then -(n :: ns)[i] else (n :: ns)[i], ?_⟩
      have nn := fun S => ne_ints (n :: ns) S
      have md : ∀ S, gMod (.int k) (.int (((n :: ns).map D.int).length : Nat)) S = .ok (.int i) S := fun S => by
        rw [List.length_map, e_gMod _ _ _ lp, hi]
      simp only [e_fIf, e_toB, e_fBin, e_fVar, e_fLst, List.getElem?_cons_succ, List.getElem?_cons_zero, Res.bind_ok, List.length_nil, short0, if_true, nn, List.isEmpty_cons, Bool.not_false, e_fCB, e_fCons, e_len_l, md, e_ix_l, ea, e_abs]
  obtain ⟨cell, hcell⟩ := hcell
  have pre : ∀ g : FS, (gSeq (gSet 1 (fBin gIx (fVar 0) (fC (.str "at")))) (gSeq (gPut (fVar 0) (fC (.str "at")) (fBin gAdd (fVar 1) (fC (.int 1)))) (gSeq (gSet 2 (fBin gIx (fVar 0) (fC (.str "cells")))) (gSeq (gSet 3 mcell) g)))) [some (.oid s), none, none, none, none, none, none, none, none] S =
      g [some (.oid s), some (.int k), some (.lst (ns.map D.int)), some (.int cell), none, none, none, none, none] (S.set s (stO v (k + 1) ns)) := fun g => by
    have e1 : (k : Int) + 1 = ((k + 1 : Nat) : Int) := by omega
    simp only [e_gSeq, e_gSet, e_gPut, e_fBin, e_fVar, e_fC, List.getElem?_cons_succ, List.getElem?_cons_zero, Res.bind_ok, Res.into_ok, Out.seq_nx, List.set_cons_succ, List.set_cons_zero, ix_at h, e_gAdd, e1, sto_at h, ix_cells h2]
    rw [hcell]
    simp only [Res.into_ok, Out.seq_nx, List.set_cons_succ, List.set_cons_zero]
  by_cases hb : (k : Int) < (ns.length : Nat) ∧ (1000000000000000000 : Int) ≤ cell
  · refine ⟨cell - 1000000000000000000, ?_⟩
    unfold S_p_law_more
    rw [m_more_eq, e_semOf, e_startD]
    simp only [List.map_cons, List.map_nil, List.length_cons, List.length_nil, List.replicate, List.cons_append, List.nil_append]
    rw [pre]
    simp [hb.1, hb.2, p1018]
  · let ps : List Int := [2147483629, 2147483587, 2147483579, 2147483563, 2147483549, 2147483543, 2147483497, 2147483489]
    have hps : ∀ p ∈ ps, 0 < p ∧ p < 2147483648 := by decide
    obtain ⟨f', z6, z7, z8, hl⟩ := mloop_ok hps (by decide) (some (.oid s)) (some (.lst (ns.map D.int))) (some (.lst (ps.map D.int))) k cell 1 none none none (S.set s (stO v (k + 1) ns))
    refine ⟨f', ?_⟩
    have no : (fAndT (toB (fBin gLt (fVar 1) (fCB gLen (fCons (fVar 2) (fun _ S => .ok [] S))))) (toB (fBin gGe (fVar 3) (fBin gPow (fC (.int 10)) (fC (.int 18)))))) [some (.oid s), some (.int k), some (.lst (ns.map D.int)), some (.int cell), none, none, none, none, none] (S.set s (stO v (k + 1) ns)) = .ok false (S.set s (stO v (k + 1) ns)) := by
      by_cases h1 : (k : Int) < (ns.length : Nat)
      · have h3 : ¬ (1000000000000000000 : Int) ≤ cell := fun z => hb ⟨h1, z⟩
        have h1' : k < ns.length := by omega
        simp [p1018, h1', h3]
      · have h1' : ¬ k < ns.length := by omega
        simp [h1']
    unfold S_p_law_more
    rw [m_more_eq, e_semOf, e_startD]
    simp only [List.map_cons, List.map_nil, List.length_cons, List.length_nil, List.replicate, List.cons_append, List.nil_append]
    rw [pre, e_gSeq, e_gIf, no]
    simp only [Res.into_ok, Bool.false_eq_true, if_false, e_gNil, Out.seq_nx]
    rw [e_gSeq, e_gSet]
    simp only [e_fC, Res.into_ok, Out.seq_nx, List.set_cons_succ, List.set_cons_zero]
    rw [e_gSeq, e_gSet]
    have p8 : ∀ (ρ : EnvD) (S : Store), fLst (fCons (fC (.int 2147483629)) (fCons (fC (.int 2147483587)) (fCons (fC (.int 2147483579)) (fCons (fC (.int 2147483563)) (fCons (fC (.int 2147483549)) (fCons (fC (.int 2147483543)) (fCons (fC (.int 2147483497)) (fCons (fC (.int 2147483489)) (fun _ S => .ok [] S))))))))) ρ S = .ok (.lst (ps.map D.int)) S := fun ρ S => by simp [ps]
    rw [p8]
    simp only [Res.into_ok, Out.seq_nx, List.set_cons_succ, List.set_cons_zero]
    rw [e_gSeq, e_gFor, e_fEnum]
    simp only [e_fCons, e_fVar, List.getElem?_cons_succ, List.getElem?_cons_zero, Res.bind_ok, e_enumC_l, Res.into_ok]
    rw [hl]
    rfl
theorem next_ok (h : S[s]? = some (stO v k ns)) {m : Int} (h1 : 0 < m) (h2 : m < 10000000000) : ∃ (x : Int) (v' : Int) (k' : Nat), 0 ≤ x ∧ x < m ∧ S_p_law_next [.oid s, .int m] S = .ok (.int x) (S.set s (stO v' k' ns)) := by
  have key : ∀ (v : Int) (k : Nat) {S : Store}, S[s]? = some (stO v k ns) → (gSeq (gSet 2 (fBin gMod (fBin gIx (fVar 0) (fC (.str "left"))) (fVar 1))) (gSeq (gAugD gDivW (fVar 0) (fC (.str "left")) (fVar 1)) (gRet (fVar 2)))) [some (.oid s), some (.int m), none] S = .rt (.int (v % m)) (S.set s (stO (v / m) k ns)) := fun v k {S} h => by
    have c : cDivW v m = true := @decide_eq_true _ (Classical.propDecidable _) ⟨h1, by omega⟩
    simp [ix_left h, h1, ixd_left h, gDivW, gI, c, putd_left h]
  by_cases hz : v = 0
  · subst hz
    obtain ⟨x, hx⟩ := more_ok h
    have h3 : (S.set s (stO 0 (k + 1) ns))[s]? = some (stO 0 (k + 1) ns) := set_eq h
    have h4 : (S.set s (stO x (k + 1) ns))[s]? = some (stO x (k + 1) ns) := set_eq h
    refine ⟨x % m, x / m, k + 1, Int.emod_nonneg _ (by omega), Int.emod_lt_of_pos _ h1, ?_⟩
    unfold S_p_law_next m_p_law_next
    rw [e_semOf, e_startD]
    simp only [List.map_cons, List.map_nil, List.length_cons, List.length_nil, List.replicate, List.cons_append, List.nil_append]
    rw [e_gSeq]
    have e1 : (gIf (toB (fBin gEq (fBin gIx (fVar 0) (fC (.str "left"))) (fC (.int 0)))) (gPut (fVar 0) (fC (.str "left")) (fCall S_p_law_more (fun ds es => pick [(0, 0)] ds es []) 1 0 1 (fCons (fVar 0) (fun _ S => .ok [] S)) (fun _ S => .ok [] S))) gNil) [some (.oid s), some (.int m), none] S = .nx [some (.oid s), some (.int m), none] (S.set s (stO x (k + 1) ns)) := by
      simp [ix_left h, hx, sto_left h3]
    rw [e1, Out.seq_nx, key x (k + 1) h4]
    simp
  · refine ⟨v % m, v / m, k, Int.emod_nonneg _ (by omega), Int.emod_lt_of_pos _ h1, ?_⟩
    unfold S_p_law_next m_p_law_next
    rw [e_semOf, e_startD]
    simp only [List.map_cons, List.map_nil, List.length_cons, List.length_nil, List.replicate, List.cons_append, List.nil_append]
    rw [e_gSeq]
    have e1 : (gIf (toB (fBin gEq (fBin gIx (fVar 0) (fC (.str "left"))) (fC (.int 0)))) (gPut (fVar 0) (fC (.str "left")) (fCall S_p_law_more (fun ds es => pick [(0, 0)] ds es []) 1 0 1 (fCons (fVar 0) (fun _ S => .ok [] S)) (fun _ S => .ok [] S))) gNil) [some (.oid s), some (.int m), none] S = .nx [some (.oid s), some (.int m), none] S := by
      simp [ix_left h, hz]
    rw [e1, Out.seq_nx, key v k h]
    rfl
theorem pick_ok (h : S[s]? = some (stO v k ns)) {xs : List D} (hl : 0 < xs.length) (hl2 : xs.length < 1000) : ∃ (x : D) (v' : Int) (k' : Nat), x ∈ xs ∧ S_p_law_pick [.oid s, .lst xs] S = .ok x (S.set s (stO v' k' ns)) := by
  obtain ⟨x, v', k', x1, x2, e⟩ := next_ok h (m := (xs.length : Nat)) (by omega) (by omega)
  obtain ⟨i, rfl⟩ : ∃ i : Nat, x = (i : Int) := ⟨x.toNat, by omega⟩
  have hi : i < xs.length := by omega
  have ea : atI xs (i : Int) = some xs[i] := by rw [at_nat _ _ hi, List.getElem?_eq_getElem hi]
  refine ⟨xs[i], v', k', List.getElem_mem hi, ?_⟩
  unfold S_p_law_pick m_p_law_pick
  simp [e, ea]
end
end K03

/-! Rows of programs of any things: forms, bounds, what fits. -/
namespace K03
open PySem L2 DL
theorem map_injA {α β : Type} {f : α → β} (hf : ∀ a b, f a = f b → a = b) : ∀ {l m : List α}, l.map f = m.map f → l = m
  | [], [], _ => rfl
  | [], _ :: _, h => by simp at h
  | _ :: _, [], h => by simp at h
  | x :: l, y :: m, h => by
    simp only [List.map_cons, List.cons.injEq] at h
    rw [hf x y h.1, map_injA hf h.2]
@[simp] theorem str_inj {a b : String} : (Str.ofString a = Str.ofString b) ↔ a = b := by
  constructor
  · intro h
    rw [Str.ofString_eq_toList, Str.ofString_eq_toList] at h
    have h1 : a.toList.map Char.toNat = b.toList.map Char.toNat := by simpa using h
    have h2 := map_injA (fun x y e => by
      have : x.val.toNat = y.val.toNat := e
      exact Char.ext (UInt32.toNat_inj.mp this)) h1
    exact String.toList_inj.mp h2
  · rintro rfl
    rfl
noncomputable def zfo0 : FS := (gSet 0 (fDisp (fPs (fC (.str "number")) (fC (.str "bn")) (fPs (fC (.str "nothing")) (fC (.str "b")) (fPs (fC (.str "copy")) (fC (.str "bb")) (fPs (fC (.str "make")) (fC (.str "bm")) (fPs (fC (.str "last")) (fC (.str "bm")) (fPs (fC (.str "tie")) (fC (.str "bb")) (fPs (fC (.str "get")) (fC (.str "bbk")) fPs0)))))))))
noncomputable def zfo1 : FS := (gExpr (fBM "dict" gUpd (fVar 0) (fCons (fDisp (fPs (fC (.str "put")) (fC (.str "bkb")) (fPs (fC (.str "follow")) (fC (.str "bb")) (fPs (fC (.str "wish")) (fC (.str "b")) (fPs (fC (.str "same")) (fC (.str "bbb")) (fPs (fC (.str "plus")) (fC (.str "bbb")) (fPs (fC (.str "less")) (fC (.str "bbb")) (fPs (fC (.str "what")) (fC (.str "bb")) fPs0)))))))) (fun _ S => .ok [] S))))
noncomputable def zfo2 : FS := (gExpr (fBM "dict" gUpd (fVar 0) (fCons (fDisp (fPs (fC (.str "lay")) (fC (.str "ib")) (fPs (fC (.str "take")) (fC (.str "bi")) (fPs (fC (.str "go")) (fC (.str "r")) (fPs (fC (.str "if")) (fC (.str "br")) (fPs (fC (.str "tell")) (fC (.str "b")) (fPs (fC (.str "stop")) (fC (.str "")) fPs0))))))) (fun _ S => .ok [] S))))
noncomputable def zfo3 : FS := (gRet (fFrz (fVar 0)))
noncomputable def zfo : FS := (gSeq zfo0 (gSeq zfo1 (gSeq zfo2 zfo3)))
theorem zfo_eq : m_p_law_forms = zfo := rfl
noncomputable def zlb0 : FS := (gSet 4 (fDisp (fPs (fC (.str "b")) (fBin gSub (fVar 1) (fC (.int 1))) (fPs (fC (.str "n")) (fBin gPow (fC (.int 10)) (fC (.int 9))) (fPs (fC (.str "m")) (fC (.int 6)) (fPs (fC (.str "k")) (fC (.int 5)) (fPs (fC (.str "i")) (fBin gSub (fVar 2) (fC (.int 1))) (fPs (fC (.str "r")) (fVar 3) fPs0))))))))
noncomputable def zlb1 : FS := (gRet (fTup (fCons (fIf (toB (fBin gEq (fVar 0) (fC (.str "n")))) (fUn gNeg (fBin gPow (fC (.int 10)) (fC (.int 9)))) (fC (.int 0))) (fCons (fBin gIx (fVar 4) (fVar 0)) (fun _ S => .ok [] S)))))
noncomputable def zlb : FS := (gSeq zlb0 zlb1)
theorem zlb_eq : m_p_law_bound = zlb := rfl
noncomputable def zwh0 : FS := (gRet (fAndV (fCB gIsi (fCons (fVar 0) (fCons (fC (.ty "int")) (fun _ S => .ok [] S)))) (fAndV (fNotV (fCB gIsi (fCons (fVar 0) (fCons (fC (.ty "bool")) (fun _ S => .ok [] S))))) (fChain gLe gLe (fVar 1) (fVar 0) (fVar 2)))))
theorem zwh_eq : m_p_law_whole = zwh0 := rfl
noncomputable def zir0 : FS := (gIf (fOrT (fNotT (toB (fCB gIsi (fCons (fVar 0) (fCons (fC (.ty "tuple")) (fun _ S => .ok [] S)))))) (fOrT (toB (fBin gEq (fVar 0) (fTup (fun _ S => .ok [] S)))) (fOrT (fNotT (toB (fCB gIsi (fCons (fBin gIx (fVar 0) (fC (.int 0))) (fCons (fC (.ty "str")) (fun _ S => .ok [] S)))))) (toB (fBin gNotIn (fBin gIx (fVar 0) (fC (.int 0))) (fCall (callSub S_p_law_forms) (fun ds es => pick [] ds es []) 0 0 0 (fun _ S => .ok [] S) (fun _ S => .ok [] S))))))) (gRet (fC (.bl false))) gNil)
noncomputable def zir1 : FS := (gSet 4 (fBin gIx (fCall (callSub S_p_law_forms) (fun ds es => pick [] ds es []) 0 0 0 (fun _ S => .ok [] S) (fun _ S => .ok [] S)) (fBin gIx (fVar 0) (fC (.int 0)))))
noncomputable def zir2 : FS := (gIf (toB (fBin gNe (fCB gLen (fCons (fVar 4) (fun _ S => .ok [] S))) (fBin gSub (fCB gLen (fCons (fVar 0) (fun _ S => .ok [] S))) (fC (.int 1))))) (gRet (fC (.bl false))) gNil)
noncomputable def zir3b0 : FS := (gAsg (mTup 2 (mCons (mName 7) (mCons (mName 8) (fun ds ρ _ => match ds with | [] => some ρ | _ => none)))) (fCall (callSub S_p_law_bound) (fun ds es => pick [(0, 0), (0, 1), (0, 2), (0, 3)] ds es []) 4 0 4 (fCons (fVar 5) (fCons (fVar 1) (fCons (fVar 2) (fCons (fVar 3) (fun _ S => .ok [] S))))) (fun _ S => .ok [] S)))
noncomputable def zir3b1 : FS := (gIf (fNotT (toB (fCall (callSub S_p_law_whole) (fun ds es => pick [(0, 0), (0, 1), (0, 2)] ds es []) 3 0 3 (fCons (fVar 6) (fCons (fVar 7) (fCons (fVar 8) (fun _ S => .ok [] S)))) (fun _ S => .ok [] S)))) (gRet (fC (.bl false))) gNil)
noncomputable def zir3b : FS := (gSeq zir3b0 zir3b1)
noncomputable def zir3 : FS := (gFor (fZipST (fCons (fVar 4) (fCons (fSl (fVar 0) (fPart (fC (.int 1))) fPartN) (fun _ S => .ok [] S)))) (mTup 2 (mCons (mName 5) (mCons (mName 6) (fun ds ρ _ => match ds with | [] => some ρ | _ => none)))) zir3b)
noncomputable def zir4 : FS := (gRet (fC (.bl true)))
noncomputable def zir : FS := (gSeq zir0 (gSeq zir1 (gSeq zir2 (gSeq zir3 zir4))))
theorem zir_eq : m_p_law_is_row = zir := rfl
noncomputable def zfr0 : FS := (gIf (fOrT (fNotT (toB (fCB gIsi (fCons (fVar 0) (fCons (fC (.ty "tuple")) (fun _ S => .ok [] S)))))) (toB (fBin gEq (fVar 0) (fTup (fun _ S => .ok [] S))))) (gRet (fC (.bl false))) gNil)
noncomputable def zfr1 : FS := (gStarTup 2 3 (fVar 0))
noncomputable def zfr2 : FS := (gIf (fOrT (fNotT (toB (fCB gIsi (fCons (fVar 2) (fCons (fC (.ty "str")) (fun _ S => .ok [] S)))))) (fOrT (toB (fBin (gInK true "FORMS" tk_FORMS) (fVar 2) (fC (.cls "FORMS")))) (toB (fBin gNe (fCB gLen (fCons (fBin (gIxK "FORMS" tk_FORMS) (fC (.cls "FORMS")) (fVar 2)) (fun _ S => .ok [] S))) (fCB gLen (fCons (fVar 3) (fun _ S => .ok [] S))))))) (gRet (fC (.bl false))) gNil)
noncomputable def zfr3b0 : FS := (gAsg (mTup 2 (mCons (mName 6) (mCons (mName 7) (fun ds ρ _ => match ds with | [] => some ρ | _ => none)))) (fBin gIx (fVar 1) (fVar 5)))
noncomputable def zfr3b1 : FS := (gIf (fNotT (toB (fCall (callSub S_is_whole) (fun ds es => pick [(0, 0), (0, 1), (0, 2)] ds es []) 3 0 3 (fCons (fVar 4) (fCons (fVar 6) (fCons (fVar 7) (fun _ S => .ok [] S)))) (fun _ S => .ok [] S)))) (gRet (fC (.bl false))) gNil)
noncomputable def zfr3b : FS := (gSeq zfr3b0 zfr3b1)
noncomputable def zfr3 : FS := (gFor (fZipS (fCons (fVar 3) (fCons (fBin (gIxK "FORMS" tk_FORMS) (fC (.cls "FORMS")) (fVar 2)) (fun _ S => .ok [] S)))) (mTup 2 (mCons (mName 4) (mCons (mName 5) (fun ds ρ _ => match ds with | [] => some ρ | _ => none)))) zfr3b)
noncomputable def zfr4 : FS := (gRet (fC (.bl true)))
noncomputable def zfr : FS := (gSeq zfr0 (gSeq zfr1 (gSeq zfr2 (gSeq zfr3 zfr4))))
theorem zfr_eq : m_fits_row = zfr := rfl
noncomputable def ziw0 : FS := (gRet (fAndV (fCB gIsi (fCons (fVar 0) (fCons (fC (.ty "int")) (fun _ S => .ok [] S)))) (fAndV (fNotV (fCB gIsi (fCons (fVar 0) (fCons (fC (.ty "bool")) (fun _ S => .ok [] S))))) (fChain gLe gLe (fVar 1) (fVar 0) (fVar 2)))))
theorem ziw_eq : m_is_whole = ziw0 := rfl
noncomputable def zis0 : FS := (gRet (fCB gIsi (fCons (fVar 0) (fCons (fTup (fCons (fC (.ty "list")) (fCons (fC (.ty "tuple")) (fun _ S => .ok [] S)))) (fun _ S => .ok [] S)))))
theorem zis_eq : m_is_row = zis0 := rfl
section
variable {ρ : EnvD} {S : Store} {fa : FA} {fo fi fe ff : FE}
@[simp] theorem e_gStarTup {i j : Nat} : gStarTup i j fe ρ S = (fe ρ S).into ρ fun d S => match d with
  | .tup (x :: xs) => .nx ((ρ.set i (some x)).set j (some (.oid S.length))) (S ++ [.lst xs])
  | _ => .stuck := rfl
@[simp] theorem e_gInK {neg : Bool} {c z : Str} {tab : List (Str × D)} : gInK neg c tab (.str z) (.cls c) S = .ok (.bl (if neg then !(tab.lookup z).isSome else (tab.lookup z).isSome)) S := by simp [gInK]
@[simp] theorem e_gIxK {c z : Str} {tab : List (Str × D)} : gIxK c tab (.cls c) (.str z) S = match tab.lookup z with | some d => .ok d S | none => .stuck := by
  simp [gIxK]
  all_goals (cases tab.lookup z <;> rfl)
@[simp] theorem e_gAugL18 {g : G2} : gAugL g fo fi fe ρ S = (fo ρ S).into ρ fun x S => (fi ρ S).into ρ fun y S => (gAtL x y S).into ρ fun d S => (fe ρ S).into ρ fun c S => (g d c S).into ρ fun z S => match storeAt x y z S with
  | some S => .nx ρ S
  | none => .stuck := rfl
@[simp] theorem e_gIpI {f : Int → Int → Int} {i j : Int} : gIp f (.int i) (.int j) S = .ok (.int (f i j)) S := rfl
@[simp] theorem e_fDspV {i : Nat} {sel : List (Nat × Nat)} {np : Nat} {l : List (Str × Sem')} : fDspV i sel np l fa ρ S = match ρ[i]? with
  | some (some (.cls c)) => (match l.lookup c with
    | some sem => (fa ρ S).bind fun ds S => if ds.length = np ∧ (pick sel ds [] []).length = np then sem (pick sel ds [] []) S else .stuck
    | none => .stuck)
  | _ => .stuck := rfl
end
def signs (x : Str) : List Str := x.cps.toList.map fun c => ⟨#[c]⟩
theorem signsD_eq (x : Str) : signsD x = (signs x).map D.str := by simp [signsD, signs, Function.comp_def]
def lohi (b s m : Int) : List (Str × Int × Int) := [("b", 0, b - 1), ("n", -1000000000, 1000000000), ("m", 0, 6), ("k", 0, 5), ("i", 0, s - 1), ("r", 0, m)]
abbrev bndK (b s m : Int) : List (Key × D) := (lohi b s m).map fun q => (.inr q.1, .tup [.int q.2.1, .int q.2.2])
theorem val_bnd (b s m : Int) (x : Str) : valD (bndK b s m) (.inr x) = ((lohi b s m).lookup x).map fun q => .tup [.int q.1, .int q.2] := by
  unfold bndK
  generalize lohi b s m = l
  induction l with
  | nil => rfl
  | cons q l ih =>
    obtain ⟨y, lo, hi⟩ := q
    unfold valD at ih ⊢
    rw [List.map_cons, List.find?_cons, List.lookup_cons]
    by_cases h : x = y
    · subst h
      simp
    · have h1 : (x == y) = false := by simpa using h
      have h2 : decide ((Sum.inr y : Key) = Sum.inr x) = false := decide_eq_false fun e => h (Sum.inr.inj e).symm
      simp only [h1, h2]
      exact ih
theorem bounds_ok (b s m : Int) (S : Store) : callSub S_bounds_of [.int b, .int s, .int m] S = .ok (.dic (bndK b s m)) S := by
  have kd : keysK [(D.str "b", D.tup [.int 0, .int (b - 1)]), (D.str "n", D.tup [.int (-1000000000), .int 1000000000]), (D.str "m", D.tup [.int 0, .int 6]), (D.str "k", D.tup [.int 0, .int 5]), (D.str "i", D.tup [.int 0, .int (s - 1)]), (D.str "r", D.tup [.int 0, .int m])] = some (bndK b s m) := rfl
  have mg : mergeD [] (bndK b s m) = bndK b s m := by
    simp [bndK, mergeD, lohi, putKD]
  refine callSub_ok (S' := [.frz (.dic (bndK b s m))]) (by rfl) ?_ (by rfl)
  unfold S_bounds_of m_bounds_of
  have l15 : (lohi b s m).length ≤ 15 := by simp [lohi]
  simp [List.replicate, dispAt, kd, mg, fFrz, l15]
theorem loopCk_nil {d : D} {es : List D} {m : FG} {b : FS} {ρ : EnvD} {S : Store} (h : asL S d = some es) : loopF (some (d, es)) m b [] ρ S = .nx ρ S := loopC_nil h
theorem loopCk_cons {e : D} {es : List D} {m : FG} {b : FS} {d : D} {ds : List D} {ρ ρ1 : EnvD} {S : Store} (hS : asL S e = some es) (hm : m d ρ S = some ρ1) : loopF (some (e, es)) m b (d :: ds) ρ S = (match b ρ1 S with
    | .nx ρ S => loopF (some (e, es)) m b ds ρ S
    | .ct ρ S => loopF (some (e, es)) m b ds ρ S
    | .bk ρ S => .nx ρ S
    | o => o) := by
  rw [loopF]
  rw [if_pos (show okC (some (e, es)) _ from hS), hm]
  all_goals rfl
theorem len_txt {f : Str} (h : (signs f).length ≤ 100) (S : Store) : gLen [.str f] S = .ok (.int ((signs f).length : Nat)) S := by
  have e : (signs f).length = f.length := by simp [signs, Str.length]
  rw [e] at h ⊢
  have sh : short f.length = true := short_le (by omega)
  simp [gLen, isDic1, asD, isStr1, gLenS, sh]
theorem pure_bnd (b s m : Int) : (D.dic (bndK b s m)).pure = true := by simp [D.pure, bndK, lohi, pureK, pureL]
def FT : List (Str × Str) := [("number", "bn"), ("nothing", "b"), ("copy", "bb"), ("make", "bm"), ("last", "bm"), ("tie", "bb"), ("get", "bbk"), ("put", "bkb"), ("follow", "bb"), ("wish", "b"), ("same", "bbb"), ("plus", "bbb"), ("less", "bbb"), ("what", "bb"), ("lay", "ib"), ("take", "bi"), ("go", "r"), ("if", "br"), ("tell", "b"), ("stop", "")]
theorem forms_eq : tk_FORMS = FT.map fun q => (q.1, D.str q.2) := rfl
theorem lookup_mapK {α β : Type} (g : α → β) (z : Str) : ∀ l : List (Str × α), (l.map fun q => (q.1, g q.2)).lookup z = (l.lookup z).map g
  | [] => rfl
  | (y, a) :: l => by
    rw [List.map_cons, List.lookup_cons, List.lookup_cons]
    cases h : (z == y) with
    | true => rfl
    | false => exact lookup_mapK g z l
def form (z : Str) : Option Str := FT.lookup z
theorem form_F (z : Str) : tk_FORMS.lookup z = (form z).map D.str := by
  rw [forms_eq]
  exact lookup_mapK D.str z FT
theorem lookup_mem {α : Type} {z : Str} : ∀ {l : List (Str × α)} {a : α}, l.lookup z = some a → (z, a) ∈ l
  | [], _, h => by cases h
  | (y, b) :: l, a, h => by
    rw [List.lookup_cons] at h
    cases e : (z == y) with
    | true =>
      rw [e] at h
      cases h
      rw [beq_iff_eq.mp e]
      exact List.mem_cons_self
    | false =>
      rw [e] at h
      exact List.mem_cons_of_mem _ (lookup_mem h)
theorem valD_lookup (g : Str → D) (z : Str) : ∀ l : List (Str × Str), valD (l.map fun q => ((Sum.inr q.1 : Key), g q.2)) (.inr z) = (l.lookup z).map g
  | [] => rfl
  | (y, a) :: l => by
    have ih := valD_lookup g z l
    unfold valD at ih ⊢
    rw [List.map_cons, List.find?_cons, List.lookup_cons]
    by_cases h : z = y
    · subst h
      simp
    · have h1 : (z == y) = false := by simpa using h
      have h2 : decide ((Sum.inr y : Key) = Sum.inr z) = false := decide_eq_false fun e => h (Sum.inr.inj e).symm
      simp only [h1, h2]
      exact ih
theorem pureK_map {α : Type} (g : α → Key × D) : ∀ l : List α, (∀ a ∈ l, (g a).2.pure = true) → pureK (l.map g) = true
  | [], _ => rfl
  | a :: l, h => by
    rw [List.map_cons]
    have h1 := h a List.mem_cons_self
    have h2 := pureK_map g l fun x hx => h x (List.mem_cons_of_mem _ hx)
    unfold pureK
    simp [h1, h2]
theorem all_forms : ∀ q ∈ FT, (signs q.2).all (["b", "n", "m", "k", "i", "r"] : List Str).contains = true ∧ (signs q.2).length ≤ 3 ∧ PyData.strOk q.1 = true ∧ q.1.cps.size ≤ 10 := by decide +kernel
theorem lohi_some (b s m : Int) (x : Str) (h : (["b", "n", "m", "k", "i", "r"] : List Str).contains x = true) : ∃ z, (lohi b s m).lookup x = some z := by
  unfold lohi
  simp only [List.contains_cons, List.contains_nil, Bool.or_false, Bool.or_eq_true] at h
  rcases h with h | h | h | h | h | h <;> (rw [beq_iff_eq.mp h]; exact ⟨_, rfl⟩)
structure FmOk (f : Str) : Prop where
  sg : ∀ (b s m : Int), ∀ x ∈ signs f, ∃ z, (lohi b s m).lookup x = some z
  ln : (signs f).length ≤ 3
theorem form_ok {z f : Str} (h : form z = some f) : FmOk f ∧ PyData.strOk z = true ∧ z.cps.size ≤ 10 := by
  obtain ⟨a, b, c, d⟩ := all_forms (z, f) (lookup_mem h)
  exact ⟨⟨fun b s m x hx => lohi_some b s m x (List.all_eq_true.mp a x hx), b⟩, c, d⟩
/-! ### a thing within bounds -/
def whl : D → Int → Int → Bool
  | .int i, a, b => decide (a ≤ i) && decide (i ≤ b)
  | _, _, _ => false
def okK : D → Bool
  | .non => true
  | .bl _ => true
  | .int _ => true
  | .str _ => true
  | .tup _ => true
  | .lst _ => true
  | .dic _ => true
  | _ => false
theorem sim_okK {d : D} (h : d.sim = true) : okK d = true := by
  cases d <;> first | rfl | (simp [D.sim] at h)
theorem whole_any {d : D} (h : okK d = true) (a b : Int) (S : Store) : S_is_whole [d, .int a, .int b] S = .ok (.bl (whl d a b)) S := by
  unfold S_is_whole
  rw [ziw_eq]
  unfold ziw0
  cases d with
  | int i =>
    by_cases h1 : a ≤ i <;> by_cases h2 : i ≤ b <;> simp [List.replicate, tyS, isiT, whl, h1, h2]
  | non => simp [List.replicate, tyS, isiT, whl]
  | bl x => simp [List.replicate, tyS, isiT, whl]
  | str x => simp [List.replicate, tyS, isiT, whl]
  | tup x => simp [List.replicate, tyS, isiT, whl]
  | lst x => simp [List.replicate, tyS, isiT, whl]
  | dic x => simp [List.replicate, tyS, isiT, whl]
  | _ => cases h
theorem c_whole {d : D} (h : okK d = true) (hp : d.pure = true) (a b : Int) (S : Store) : callSub S_is_whole [d, .int a, .int b] S = .ok (.bl (whl d a b)) S := callSub_ok (by simp [pureL, D.pure, hp]) (whole_any h a b []) (by rfl)
theorem lwhole_any {d : D} (h : okK d = true) (a b : Int) (S : Store) : S_p_law_whole [d, .int a, .int b] S = .ok (.bl (whl d a b)) S := by
  unfold S_p_law_whole
  rw [zwh_eq]
  unfold zwh0
  cases d with
  | int i =>
    by_cases h1 : a ≤ i <;> by_cases h2 : i ≤ b <;> simp [List.replicate, tyS, isiT, whl, h1, h2]
  | non => simp [List.replicate, tyS, isiT, whl]
  | bl x => simp [List.replicate, tyS, isiT, whl]
  | str x => simp [List.replicate, tyS, isiT, whl]
  | tup x => simp [List.replicate, tyS, isiT, whl]
  | lst x => simp [List.replicate, tyS, isiT, whl]
  | dic x => simp [List.replicate, tyS, isiT, whl]
  | _ => cases h
theorem c_lwhole {d : D} (h : okK d = true) (hp : d.pure = true) (a b : Int) (S : Store) : callSub S_p_law_whole [d, .int a, .int b] S = .ok (.bl (whl d a b)) S := callSub_ok (by simp [pureL, D.pure, hp]) (lwhole_any h a b []) (by rfl)
/-! ### the law's forms -/
def formsK : List (Key × D) := FT.map fun q => (.inr q.1, .str q.2)
theorem val_forms (z : Str) : valD formsK (.inr z) = (form z).map D.str := valD_lookup D.str z FT
theorem forms_pure : pureK formsK = true := pureK_map _ FT fun q _ => rfl
def fr1 : List (Key × D) := (FT.take 7).map fun q => (.inr q.1, .str q.2)
def fr2 : List (Key × D) := ((FT.drop 7).take 7).map fun q => (.inr q.1, .str q.2)
def fr3 : List (Key × D) := (FT.drop 14).map fun q => (.inr q.1, .str q.2)
theorem put_new {ks : List (Key × D)} {k : Key} {d : D} (h : k ∉ ks.map (·.1)) : putKD ks k d = ks ++ [(k, d)] := by
  have any : (ks.any fun q => decide (q.1 = k)) = false := by
    rw [List.any_eq_false]
    intro q hq
    have : q.1 ≠ k := fun e => h (e ▸ List.mem_map.mpr ⟨q, hq, rfl⟩)
    simpa using this
  unfold putKD
  rw [any]
  simp
theorem merge_new : ∀ (ms ks : List (Key × D)), ((ks ++ ms).map (·.1)).Nodup → mergeD ks ms = ks ++ ms
  | [], ks, _ => by simp [mergeD]
  | q :: ms, ks, nd => by
    have nk : q.1 ∉ ks.map (·.1) := fun h => by
      rw [List.map_append, List.nodup_append] at nd
      exact nd.2.2 _ h _ (by simp) rfl
    have ih := merge_new ms (ks ++ [q]) (by rw [List.append_assoc]; exact nd)
    unfold mergeD at ih ⊢
    rw [List.foldl_cons, put_new nk]
    rw [ih, List.append_assoc]
    rfl
theorem m12 : mergeD fr1 fr2 = fr1 ++ fr2 ∧ mergeD (fr1 ++ fr2) fr3 = formsK ∧ mergeD [] fr1 = fr1 ∧ mergeD [] fr2 = fr2 ∧ mergeD [] fr3 = fr3 := by
  have e : formsK = fr1 ++ fr2 ++ fr3 := rfl
  refine ⟨merge_new fr2 fr1 (by decide +kernel), ?_, merge_new fr1 [] (by decide +kernel), merge_new fr2 [] (by decide +kernel), merge_new fr3 [] (by decide +kernel)⟩
  rw [e]
  exact merge_new fr3 (fr1 ++ fr2) (by decide +kernel)
theorem disp_run {l : List (D × D)} {ks : List (Key × D)} (hk : keysK l = some ks) (h15 : ks.length ≤ 15) (hm : mergeD [] ks = ks) (S : Store) : dispAt S.length l (S ++ [.dic []]) = .ok (.oid S.length) (S ++ [.dic ks]) := by
  unfold dispAt
  have g : (S ++ [SO.dic []])[S.length]? = some (.dic []) := by
    rw [List.getElem?_append_right (Nat.le_refl _), Nat.sub_self]
    rfl
  rw [hk, g]
  simp only
  rw [if_pos h15, hm, List.set_append_right _ _ (Nat.le_refl _), Nat.sub_self]
  rfl
theorem fo0_run (S : Store) : zfo0 [none] S = .nx [some (.oid S.length)] (S ++ [.dic fr1]) := by
  have d := disp_run (l := (FT.take 7).map fun q => (.str q.1, .str q.2)) (ks := fr1) rfl (by decide) m12.2.2.1 S
  simp only [FT, List.take, List.map] at d
  unfold zfo0 fDisp
  simp [d]
theorem upd_run {n m : Nat} {ks ms : List (Key × D)} {S : Store} (h1 : S[n]? = some (.dic ks)) (h2 : S[m]? = some (.dic ms)) (hn : n ≠ m) (hl : ks.length + ms.length ≤ 100) : gUpd (.oid n) [.oid m] S = .ok .non (S.set n (.dic (mergeD ks ms))) := by
  have big : (100 : Nat) ≤ sizeLine := by decide
  simp only [gUpd, h1, h2]
  rw [if_pos ⟨hn, by omega⟩]
theorem fo1_run (S T : Store) : zfo1 [some (.oid S.length)] (S ++ [.dic fr1]) = .nx [some (.oid S.length)] (S ++ [.dic (fr1 ++ fr2), .dic fr2]) := by
  have d := disp_run (l := ((FT.drop 7).take 7).map fun q => (.str q.1, .str q.2)) (ks := fr2) rfl (by decide) m12.2.2.2.1 (S ++ [.dic fr1])
  simp only [FT, List.take, List.drop, List.map] at d
  have l1 : (S ++ [SO.dic fr1]).length = S.length + 1 := by simp
  rw [l1] at d
  have g1 : (S ++ [SO.dic fr1] ++ [SO.dic fr2])[S.length]? = some (.dic fr1) := by
    rw [List.append_assoc, List.getElem?_append_right (Nat.le_refl _), Nat.sub_self]
    rfl
  have g2 : (S ++ [SO.dic fr1] ++ [SO.dic fr2])[S.length + 1]? = some (.dic fr2) := by
    rw [List.getElem?_append_right (by rw [l1]; exact Nat.le_refl _), l1, Nat.sub_self]
    rfl
  have u := upd_run g1 g2 (by omega) (by decide)
  have s : (S ++ [SO.dic fr1] ++ [SO.dic fr2]).set S.length (.dic (mergeD fr1 fr2)) = S ++ [.dic (fr1 ++ fr2), .dic fr2] := by
    rw [m12.1, List.append_assoc, List.set_append_right _ _ (Nat.le_refl _), Nat.sub_self]
    rfl
  rw [s] at u
  have ty : tyS (S ++ [SO.dic fr1]) (.oid S.length) = some "dict" := by
    have g : (S ++ [SO.dic fr1])[S.length]? = some (.dic fr1) := by
      rw [List.getElem?_append_right (Nat.le_refl _), Nat.sub_self]
      rfl
    simp [tyS]
  have ty2 : tyS (S ++ [SO.dic fr1] ++ [SO.dic fr2]) (.oid S.length) = some "dict" := by
    simp only [tyS, g1]
  unfold zfo1 fDisp
  simp only [List.append_assoc, List.cons_append, List.nil_append] at d u
  simp only [e_gExpr, e_fBM, e_fVar, List.getElem?_cons_zero, Res.bind_ok, e_fCons, l1]
  simp [d, ty, u]
theorem fo2_run (S : Store) : zfo2 [some (.oid S.length)] (S ++ [.dic (fr1 ++ fr2), .dic fr2]) = .nx [some (.oid S.length)] (S ++ [.dic formsK, .dic fr2, .dic fr3]) := by
  have d := disp_run (l := (FT.drop 14).map fun q => (.str q.1, .str q.2)) (ks := fr3) rfl (by decide) m12.2.2.2.2 (S ++ [.dic (fr1 ++ fr2), .dic fr2])
  simp only [FT, List.drop, List.map] at d
  have l1 : (S ++ [SO.dic (fr1 ++ fr2), .dic fr2]).length = S.length + 2 := by simp
  rw [l1] at d
  have g1 : (S ++ [SO.dic (fr1 ++ fr2), .dic fr2] ++ [SO.dic fr3])[S.length]? = some (.dic (fr1 ++ fr2)) := by
    rw [List.append_assoc, List.getElem?_append_right (Nat.le_refl _), Nat.sub_self]
    rfl
  have g2 : (S ++ [SO.dic (fr1 ++ fr2), .dic fr2] ++ [SO.dic fr3])[S.length + 2]? = some (.dic fr3) := by
    rw [List.getElem?_append_right (by rw [l1]; exact Nat.le_refl _), l1, Nat.sub_self]
    rfl
  have u := upd_run g1 g2 (by omega) (by decide)
  have s : (S ++ [SO.dic (fr1 ++ fr2), .dic fr2] ++ [SO.dic fr3]).set S.length (.dic (mergeD (fr1 ++ fr2) fr3)) = S ++ [.dic formsK, .dic fr2, .dic fr3] := by
    rw [m12.2.1, List.append_assoc, List.set_append_right _ _ (Nat.le_refl _), Nat.sub_self]
    rfl
  rw [s] at u
  have ty : tyS (S ++ [SO.dic (fr1 ++ fr2), .dic fr2]) (.oid S.length) = some "dict" := by
    have g : (S ++ [SO.dic (fr1 ++ fr2), .dic fr2])[S.length]? = some (.dic (fr1 ++ fr2)) := by
      rw [List.getElem?_append_right (Nat.le_refl _), Nat.sub_self]
      rfl
    simp only [tyS, g]
  unfold zfo2 fDisp
  simp only [List.append_assoc, List.cons_append, List.nil_append] at d u
  simp only [e_gExpr, e_fBM, e_fVar, List.getElem?_cons_zero, Res.bind_ok, e_fCons, l1]
  simp [d, ty, u]
theorem forms_ok (S : Store) : callSub S_p_law_forms [] S = .ok (.dic formsK) S := by
  refine callSub_ok (S' := [.frz (.dic formsK), .dic fr2, .dic fr3]) (by rfl) ?_ (by simpa [D.pure] using forms_pure)
  unfold S_p_law_forms
  rw [zfo_eq, e_semOf]
  have st : startD 1 [] = [none] := rfl
  have f0 := fo0_run []
  have f1 := fo1_run [] []
  have f2 := fo2_run []
  simp only [List.length_nil, List.nil_append] at f0 f1 f2
  rw [st]
  unfold zfo
  rw [e_gSeq, f0, Out.seq_nx, e_gSeq, f1, Out.seq_nx, e_gSeq, f2, Out.seq_nx]
  unfold zfo3
  simp [fFrz]
end K03

/-! What fits, of any thing: by the program and by the law. -/
namespace K03
open PySem L2 DL
mutual
theorem sim_pure : ∀ d : D, d.sim = true → d.pure = true
  | .non, _ => rfl
  | .bl _, _ => rfl
  | .int _, _ => rfl
  | .str _, _ => rfl
  | .tup ds, h => by
    simp only [D.sim] at h
    simp only [D.pure]
    exact simL_pure ds h
  | .lst ds, h => by
    simp only [D.sim] at h
    simp only [D.pure]
    exact simL_pure ds h
  | .ty _, h => by simp [D.sim] at h
  | .cls _, h => by simp [D.sim] at h
  | .scr _, h => by simp [D.sim] at h
  | .dic _, h => by simp [D.sim] at h
  | .ins _ _, h => by simp [D.sim] at h
  | .oid _, h => by simp [D.sim] at h
  | .exc _ _, h => by simp [D.sim] at h
theorem simL_pure : ∀ ds : List D, simL ds = true → pureL ds = true
  | [], _ => rfl
  | d :: ds, h => by
    unfold simL at h
    rw [Bool.and_eq_true] at h
    unfold pureL
    rw [sim_pure d h.1, simL_pure ds h.2]
    rfl
end
structure RowD (r : D) : Prop where
  sim : r.sim = true
  dep : r.dep ≤ 20
  len : ∀ ds, r = .tup ds → ds.length ≤ 100
theorem RowD.items {ds : List D} (h : RowD (.tup ds)) : ∀ d ∈ ds, d.sim = true := by
  have := h.sim
  simp only [D.sim] at this
  exact simL_all.mp this
def okD (b s m : Int) (q : D × Str) : Bool := match (lohi b s m).lookup q.2 with
  | some z => whl q.1 z.1 z.2
  | none => false
def fitA (b s m : Int) : D → Bool
  | .tup (.str w :: ds) => (match form w with
    | some f => decide ((signs f).length = ds.length) && (ds.zip (signs f)).all (okD b s m)
    | none => false)
  | _ => false
theorem eq_nilT {r : D} (h : r.sim = true) (hd : r.dep ≤ 60) (S : Store) : gEq r (.tup []) S = .ok (.bl (match r with | .tup [] => true | _ => false)) S := by
  rw [eq_D h (by rfl) hd (by decide)]
  cases r with
  | tup ds => cases ds <;> simp [D.py, pyL, PyData.eqv, PyData.eqvAll]
  | non => simp [D.py, pyL, PyData.eqv]
  | bl x => simp [D.py, pyL, PyData.eqv]
  | int x => simp [D.py, pyL, PyData.eqv]
  | str x => simp [D.py, pyL, PyData.eqv]
  | lst x => simp [D.py, pyL, PyData.eqv]
  | _ => simp [D.sim] at h
/-! ### the program's -/
def zqD (q : List (D × Str)) : List D := q.map fun z => .tup [z.1, .str z.2]
theorem zq_eq : ∀ (ds : List D) (ss : List Str), zipD ds (ss.map D.str) = zqD (ds.zip ss)
  | [], _ => by simp [zipD, zqD]
  | _ :: _, [] => by simp [zipD, zqD]
  | a :: as, s :: ss => by
    have := zq_eq as ss
    simp only [zipD, zqD] at this ⊢
    simp [this]
theorem fr_loop {b s m : Int} {S : Store} {e : D} {es : List D} (hS : asL S e = some es) (x0 x2 x3 : Option D) : ∀ (qs : List (D × Str)), (∀ q ∈ qs, q.1.sim = true ∧ ∃ z, (lohi b s m).lookup q.2 = some z) → ∀ (y4 y5 y6 y7 : Option D),
    ∃ z4 z5 z6 z7, loopF (some (e, es)) (tg2 4 5) zfr3b (zqD qs) [x0, some (.dic (bndK b s m)), x2, x3, y4, y5, y6, y7] S = if qs.all (okD b s m) then .nx [x0, some (.dic (bndK b s m)), x2, x3, z4, z5, z6, z7] S else .rt (.bl false) S
  | [], _, y4, y5, y6, y7 => ⟨y4, y5, y6, y7, by
    rw [show zqD [] = [] from rfl, loopCk_nil hS]
    simp⟩
  | (a, x) :: qs, hq, y4, y5, y6, y7 => by
    obtain ⟨sa, z, hz⟩ := hq (a, x) List.mem_cons_self
    obtain ⟨lo, hi⟩ := z
    have sa : a.sim = true := sa
    have hz : (lohi b s m).lookup x = some (lo, hi) := hz
    have ix : ∀ S, gIx (.dic (bndK b s m)) (.str x) S = .ok (.tup [.int lo, .int hi]) S := fun S => by
      have v := val_bnd b s m x
      rw [hz] at v
      simp only [Option.map_some] at v
      simp only [gIx, pDic1, asD, Option.isSome_some, if_true, gIxD, keyD, v]
    have ok1 : okD b s m (a, x) = whl a lo hi := by simp [okD, hz]
    have cw := fun S => c_whole (sim_okK sa) (sim_pure a sa) lo hi S
    have hb : zfr3b [x0, some (.dic (bndK b s m)), x2, x3, some a, some (.str x), y6, y7] S = if whl a lo hi = true then .nx [x0, some (.dic (bndK b s m)), x2, x3, some a, some (.str x), some (.int lo), some (.int hi)] S else .rt (.bl false) S := by
      generalize bndK b s m = B at *
      unfold zfr3b zfr3b0 zfr3b1
      simp [ix, cw]
      cases whl a lo hi <;> simp
    obtain ⟨z4, z5, z6, z7, hr⟩ := fr_loop hS x0 x2 x3 qs (fun q h => hq q (List.mem_cons_of_mem _ h)) (some a) (some (.str x)) (some (.int lo)) (some (.int hi))
    refine ⟨z4, z5, z6, z7, ?_⟩
    rw [show zqD ((a, x) :: qs) = .tup [a, .str x] :: zqD qs from rfl, loopCk_cons hS (ρ1 := [x0, some (.dic (bndK b s m)), x2, x3, some a, some (.str x), y6, y7]) rfl, hb]
    rw [List.all_cons, ok1]
    cases hc : whl a lo hi with
    | true =>
      rw [Bool.true_and, if_pos rfl]
      exact hr
    | false => simp
theorem len_o18 {S : Store} {n : Nat} {xs : List D} (h : S[n]? = some (.lst xs)) (hl : xs.length ≤ 100000) : gLen [.oid n] S = .ok (.int xs.length) S := by
  have e1 : isDic1 [.oid n] S = false := by simp [isDic1, asD, h]
  have e2 : isStr1 [.oid n] S = false := by simp [isStr1]
  have sh : short xs.length = true := short_le (by omega)
  simp [gLen, e1, e2, gLenQ, asQ, asL, h, sh]
theorem fits_any {b s m : Int} {r : D} (h : RowD r) (S : Store) : callSub S_fits_row [r, .dic (bndK b s m)] S = .ok (.bl (fitA b s m r)) S := by
  have pu : pureL [r, .dic (bndK b s m)] = true := by
    have := pure_bnd b s m
    simp only [pureL, sim_pure r h.sim, this, Bool.and_self]
  have un : ∀ S', (zfr [some r, some (.dic (bndK b s m)), none, none, none, none, none, none] []).res = .ok (.bl (fitA b s m r)) S' → callSub S_fits_row [r, .dic (bndK b s m)] S = .ok (.bl (fitA b s m r)) S := fun S' q => by
    refine callSub_ok (S' := S') pu ?_ (by rfl)
    unfold S_fits_row
    rw [zfr_eq]
    exact q
  have eq := eq_nilT h.sim (by have := h.dep; omega) []
  have no : (∀ ds, r ≠ .tup ds) → fitA b s m r = false → callSub S_fits_row [r, .dic (bndK b s m)] S = .ok (.bl (fitA b s m r)) S := fun nt hf => by
    refine un [] ?_
    rw [hf]
    unfold zfr
    have v0 : zfr0 [some r, some (.dic (bndK b s m)), none, none, none, none, none, none] [] = .rt (.bl false) [] := by
      generalize D.dic (bndK b s m) = B at *
      unfold zfr0
      cases r with
      | tup ds => exact absurd rfl (nt ds)
      | non => simp [tyS, isiT]
      | bl x => simp [tyS, isiT]
      | int x => simp [tyS, isiT]
      | str x => simp [tyS, isiT]
      | lst x => simp [tyS, isiT]
      | _ => have := h.sim; simp [D.sim] at this
    rw [e_gSeq, v0]
    rfl
  cases r with
  | tup ds =>
    cases ds with
    | nil =>
      refine un [] ?_
      have v0 : zfr0 [some (.tup []), some (.dic (bndK b s m)), none, none, none, none, none, none] [] = .rt (.bl false) [] := by
        generalize D.dic (bndK b s m) = B at *
        unfold zfr0
        simp [tyS, isiT, eq]
      unfold zfr
      rw [e_gSeq, v0]
      rfl
    | cons d ds =>
      have l100 := h.len _ rfl
      have it := h.items
      have v0 : zfr0 [some (.tup (d :: ds)), some (.dic (bndK b s m)), none, none, none, none, none, none] [] = .nx [some (.tup (d :: ds)), some (.dic (bndK b s m)), none, none, none, none, none, none] [] := by
        generalize D.dic (bndK b s m) = B at *
        unfold zfr0
        simp [tyS, isiT, eq]
      have v1 : zfr1 [some (.tup (d :: ds)), some (.dic (bndK b s m)), none, none, none, none, none, none] [] = .nx [some (.tup (d :: ds)), some (.dic (bndK b s m)), some d, some (.oid 0), none, none, none, none] [.lst ds] := by
        unfold zfr1
        simp
      have lo := len_o18 (S := [SO.lst ds]) (n := 0) rfl (by simp at l100; omega)
      by_cases hs : ∃ w, d = .str w
      · obtain ⟨w, rfl⟩ := hs
        refine un [.lst ds] ?_
        unfold zfr
        rw [e_gSeq, v0, Out.seq_nx, e_gSeq, v1, Out.seq_nx, e_gSeq]
        have fF := form_F w
        cases hf : form w with
        | none =>
          rw [hf] at fF
          have v2 : zfr2 [some (.tup (.str w :: ds)), some (.dic (bndK b s m)), some (.str w), some (.oid 0), none, none, none, none] [.lst ds] = .rt (.bl false) [.lst ds] := by
            generalize D.dic (bndK b s m) = B at *
            unfold zfr2
            simp only [Option.map_none] at fF
            simp [tyS, isiT, fF]
          rw [v2]
          simp [fitA, hf]
        | some f =>
          rw [hf] at fF
          simp only [Option.map_some] at fF
          obtain ⟨F, _, _⟩ := form_ok hf
          have ln := len_txt (f := f) (by have := F.ln; omega) [SO.lst ds]
          by_cases hl : (signs f).length = ds.length
          · have hl' : ((signs f).length : Int) = ds.length := by omega
            have v2 : zfr2 [some (.tup (.str w :: ds)), some (.dic (bndK b s m)), some (.str w), some (.oid 0), none, none, none, none] [.lst ds] = .nx [some (.tup (.str w :: ds)), some (.dic (bndK b s m)), some (.str w), some (.oid 0), none, none, none, none] [.lst ds] := by
              generalize D.dic (bndK b s m) = B at *
              unfold zfr2
              simp [tyS, isiT, fF, ln, lo, hl']
            obtain ⟨z4, z5, z6, z7, hr⟩ := fr_loop (b := b) (s := s) (m := m) (S := [SO.lst ds]) (e := .oid 0) (es := ds) rfl (some (.tup (.str w :: ds))) (some (.str w)) (some (.oid 0)) (ds.zip (signs f)) (fun q hq => ⟨it _ (List.mem_cons_of_mem _ (List.of_mem_zip hq).1), F.sg b s m _ (List.of_mem_zip hq).2⟩) none none none none
            have zz : zipS [.oid 0, .str f] [SO.lst ds] = .ok ⟨zqD (ds.zip (signs f)), some (.oid 0, ds)⟩ [SO.lst ds] := by
              simp [zipS, asL, signsD_eq, zq_eq]
            have v3 : ∀ o, loopF (some (.oid 0, ds)) (tg2 4 5) zfr3b (zqD (ds.zip (signs f))) [some (.tup (.str w :: ds)), some (.dic (bndK b s m)), some (.str w), some (.oid 0), none, none, none, none] [.lst ds] = o → zfr3 [some (.tup (.str w :: ds)), some (.dic (bndK b s m)), some (.str w), some (.oid 0), none, none, none, none] [.lst ds] = o := fun o q => by
              generalize D.dic (bndK b s m) = B at *
              unfold zfr3
              simp [fF, zz]
              exact q
            rw [v2, Out.seq_nx, e_gSeq, v3 _ hr]
            simp only [fitA, hf, decide_eq_true hl, Bool.true_and]
            cases (ds.zip (signs f)).all (okD b s m) with
            | true =>
              simp only [if_true, Out.seq_nx]
              unfold zfr4
              simp
            | false => simp
          · have hl' : ¬ ((signs f).length : Int) = ds.length := by omega
            have v2 : zfr2 [some (.tup (.str w :: ds)), some (.dic (bndK b s m)), some (.str w), some (.oid 0), none, none, none, none] [.lst ds] = .rt (.bl false) [.lst ds] := by
              generalize D.dic (bndK b s m) = B at *
              unfold zfr2
              simp [tyS, isiT, fF, ln, lo, hl']
            rw [v2]
            simp [fitA, hf, hl]
      · refine un [.lst ds] ?_
        have hf : fitA b s m (.tup (d :: ds)) = false := by
          cases d <;> first | rfl | exact absurd ⟨_, rfl⟩ hs
        have v2 : zfr2 [some (.tup (d :: ds)), some (.dic (bndK b s m)), some d, some (.oid 0), none, none, none, none] [.lst ds] = .rt (.bl false) [.lst ds] := by
          have sd := it d List.mem_cons_self
          generalize D.dic (bndK b s m) = B at *
          unfold zfr2
          cases d with
          | str w => exact absurd ⟨w, rfl⟩ hs
          | non => simp [tyS, isiT]
          | bl x => simp [tyS, isiT]
          | int x => simp [tyS, isiT]
          | tup x => simp [tyS, isiT]
          | lst x => simp [tyS, isiT]
          | _ => simp [D.sim] at sd
        rw [hf]
        unfold zfr
        rw [e_gSeq, v0, Out.seq_nx, e_gSeq, v1, Out.seq_nx, e_gSeq, v2]
        rfl
  | non => exact no (fun ds z => by cases z) rfl
  | bl x => exact no (fun ds z => by cases z) rfl
  | int x => exact no (fun ds z => by cases z) rfl
  | str x => exact no (fun ds z => by cases z) rfl
  | lst x => exact no (fun ds z => by cases z) rfl
  | _ => have := h.sim; simp [D.sim] at this
end K03

/-! Whether a row may stand there, by the law. -/
namespace K03
open PySem L2 DL
theorem bound_ok {b s m : Int} {x : Str} {z : Int × Int} (h : (lohi b s m).lookup x = some z) (S : Store) : callSub S_p_law_bound [.str x, .int b, .int s, .int m] S = .ok (.tup [.int z.1, .int z.2]) S := by
  have mem := lookup_mem h
  refine callSub_ok (S' := [.dic [(.inr "b", .int (b - 1)), (.inr "n", .int 1000000000), (.inr "m", .int 6), (.inr "k", .int 5), (.inr "i", .int (s - 1)), (.inr "r", .int m)]]) (by rfl) ?_ (by rfl)
  have d := disp_run (l := [(.str "b", .int (b - 1)), (.str "n", .int 1000000000), (.str "m", .int 6), (.str "k", .int 5), (.str "i", .int (s - 1)), (.str "r", .int m)]) (ks := [(.inr "b", .int (b - 1)), (.inr "n", .int 1000000000), (.inr "m", .int 6), (.inr "k", .int 5), (.inr "i", .int (s - 1)), (.inr "r", .int m)]) rfl (by simp) (merge_new _ [] (by simp)) []
  simp only [List.length_nil, List.nil_append] at d
  unfold S_p_law_bound
  rw [zlb_eq, e_semOf]
  have st : startD 5 [.str x, .int b, .int s, .int m] = [some (.str x), some (.int b), some (.int s), some (.int m), none] := rfl
  rw [st]
  have v0 : zlb0 [some (.str x), some (.int b), some (.int s), some (.int m), none] [] = .nx [some (.str x), some (.int b), some (.int s), some (.int m), some (.oid 0)] [.dic [(.inr "b", .int (b - 1)), (.inr "n", .int 1000000000), (.inr "m", .int 6), (.inr "k", .int 5), (.inr "i", .int (s - 1)), (.inr "r", .int m)]] := by
    unfold zlb0 fDisp
    simp [p109, d]
  unfold zlb
  rw [e_gSeq, v0, Out.seq_nx]
  have k2 : short 2 = true := short_le (by omega)
  simp only [lohi, List.mem_cons, List.not_mem_nil, or_false] at mem
  unfold zlb1
  rcases mem with e | e | e | e | e | e <;> cases e <;> simp [p109, gIx, pDic1, asD, gIxD, keyD, valD, k2]
theorem sl1 (z : D) (xs : List D) (S : Store) : gSl (.tup (z :: xs)) (some 1) none S = .ok (.tup xs) S := by
  have e : HT.sIx (xs.length + 1) 0 (some 1) = 1 := by
    have h : (1 : Int).toNat = 1 := rfl
    simp [HT.sIx]
  have e2 : HT.sIx (xs.length + 1) (xs.length + 1) none = xs.length + 1 := rfl
  simp [gSl, cutD, e, e2]
def sqD (q : List (Str × D)) : List D := q.map fun z => .tup [.str z.1, z.2]
theorem sq_eq : ∀ (ss : List Str) (ds : List D), zipD (ss.map D.str) ds = sqD (ss.zip ds)
  | [], _ => by simp [zipD, sqD]
  | _ :: _, [] => by simp [zipD, sqD]
  | s :: ss, a :: as => by
    have := sq_eq ss as
    simp only [zipD, sqD] at this ⊢
    simp [this]
def okS (b s m : Int) (q : Str × D) : Bool := okD b s m (q.2, q.1)
theorem okS_all (b s m : Int) : ∀ (ss : List Str) (ds : List D), (ss.zip ds).all (okS b s m) = (ds.zip ss).all (okD b s m)
  | [], ds => by cases ds <;> rfl
  | _ :: _, [] => rfl
  | x :: ss, d :: ds => by
    simp only [List.zip_cons_cons, List.all_cons, okS_all b s m ss ds, okS]
theorem ir_loop {b s m : Int} {S : Store} (x0 x4 : Option D) : ∀ (qs : List (Str × D)), (∀ q ∈ qs, q.2.sim = true ∧ ∃ z, (lohi b s m).lookup q.1 = some z) → ∀ (y5 y6 y7 y8 : Option D),
    ∃ z5 z6 z7 z8, loopF none (tg2 5 6) zir3b (sqD qs) [x0, some (.int b), some (.int s), some (.int m), x4, y5, y6, y7, y8] S = if qs.all (okS b s m) then .nx [x0, some (.int b), some (.int s), some (.int m), x4, z5, z6, z7, z8] S else .rt (.bl false) S
  | [], _, y5, y6, y7, y8 => ⟨y5, y6, y7, y8, by
    rw [show sqD [] = [] from rfl, loopF_nil]
    simp⟩
  | (x, a) :: qs, hq, y5, y6, y7, y8 => by
    obtain ⟨sa, z, hz⟩ := hq (x, a) List.mem_cons_self
    obtain ⟨lo, hi⟩ := z
    have sa : a.sim = true := sa
    have hz : (lohi b s m).lookup x = some (lo, hi) := hz
    have bo := fun S => bound_ok hz S
    have ok1 : okS b s m (x, a) = whl a lo hi := by simp [okS, okD, hz]
    have cw := fun S => c_lwhole (sim_okK sa) (sim_pure a sa) lo hi S
    have hb : zir3b [x0, some (.int b), some (.int s), some (.int m), x4, some (.str x), some a, y7, y8] S = if whl a lo hi = true then .nx [x0, some (.int b), some (.int s), some (.int m), x4, some (.str x), some a, some (.int lo), some (.int hi)] S else .rt (.bl false) S := by
      unfold zir3b zir3b0 zir3b1
      simp [bo, cw]
      cases whl a lo hi <;> simp
    obtain ⟨z5, z6, z7, z8, hr⟩ := ir_loop (S := S) x0 x4 qs (fun q h => hq q (List.mem_cons_of_mem _ h)) (some (.str x)) (some a) (some (.int lo)) (some (.int hi))
    refine ⟨z5, z6, z7, z8, ?_⟩
    rw [show sqD ((x, a) :: qs) = .tup [.str x, a] :: sqD qs from rfl, loopF_cons (ρ1 := [x0, some (.int b), some (.int s), some (.int m), x4, some (.str x), some a, y7, y8]) rfl, hb]
    rw [List.all_cons, ok1]
    cases hc : whl a lo hi with
    | true =>
      rw [Bool.true_and, if_pos rfl]
      exact hr
    | false => simp
theorem not_in_forms (w : Str) (S : Store) : gNotIn (.str w) (.dic formsK) S = .ok (.bl (form w).isNone) S := by
  simp [gNotIn, pDic, asD, gInD, keyD, val_forms]
  all_goals (cases form w <;> rfl)
theorem ix_forms {w f : Str} (h : form w = some f) (S : Store) : gIx (.dic formsK) (.str w) S = .ok (.str f) S := by
  simp [gIx, pDic1, asD, gIxD, keyD, val_forms, h]
theorem len_t18 {ds : List D} (h : ds.length ≤ 1000) (S : Store) : gLen [.tup ds] S = .ok (.int ds.length) S := by
  have sh : short ds.length = true := short_le (by omega)
  simp [gLen, gLenQ, isDic1, isStr1, asD, asQ, sh]
theorem isrow_any {b s m : Int} {r : D} (h : RowD r) (S : Store) : callSub S_p_law_is_row [r, .int b, .int s, .int m] S = .ok (.bl (fitA b s m r)) S := by
  have un : (zir [some r, some (.int b), some (.int s), some (.int m), none, none, none, none, none] []).res = .ok (.bl (fitA b s m r)) [] → callSub S_p_law_is_row [r, .int b, .int s, .int m] S = .ok (.bl (fitA b s m r)) S := fun q => by
    refine callSub_ok (S' := []) (by simp [pureL, D.pure, sim_pure r h.sim]) ?_ (by rfl)
    unfold S_p_law_is_row
    rw [zir_eq]
    exact q
  have eq := eq_nilT h.sim (by have := h.dep; omega) []
  have no : (∀ ds, r ≠ .tup ds) → fitA b s m r = false → callSub S_p_law_is_row [r, .int b, .int s, .int m] S = .ok (.bl (fitA b s m r)) S := fun nt hf => by
    refine un ?_
    rw [hf]
    unfold zir
    have v0 : zir0 [some r, some (.int b), some (.int s), some (.int m), none, none, none, none, none] [] = .rt (.bl false) [] := by
      unfold zir0
      cases r with
      | tup ds => exact absurd rfl (nt ds)
      | non => simp [tyS, isiT]
      | bl x => simp [tyS, isiT]
      | int x => simp [tyS, isiT]
      | str x => simp [tyS, isiT]
      | lst x => simp [tyS, isiT]
      | _ => have := h.sim; simp [D.sim] at this
    rw [e_gSeq, v0]
    rfl
  have fo := fun S => forms_ok S
  cases r with
  | tup ds =>
    cases ds with
    | nil =>
      refine un ?_
      have v0 : zir0 [some (.tup []), some (.int b), some (.int s), some (.int m), none, none, none, none, none] [] = .rt (.bl false) [] := by
        unfold zir0
        simp [tyS, isiT, eq]
      unfold zir
      rw [e_gSeq, v0]
      rfl
    | cons d ds =>
      have l100 := h.len _ rfl
      have it := h.items
      have lt := fun S => len_t18 (ds := d :: ds) (by omega) S
      by_cases hs : ∃ w, d = .str w
      · obtain ⟨w, rfl⟩ := hs
        refine un ?_
        have ni := fun S => not_in_forms w S
        unfold zir
        cases hf : form w with
        | none =>
          rw [hf] at ni
          have v0 : zir0 [some (.tup (.str w :: ds)), some (.int b), some (.int s), some (.int m), none, none, none, none, none] [] = .rt (.bl false) [] := by
            generalize D.dic formsK = Fk at *
            unfold zir0
            simp [tyS, isiT, eq, fo, ni]
          rw [e_gSeq, v0]
          simp [fitA, hf]
        | some f =>
          rw [hf] at ni
          have ixf := fun S => ix_forms hf S
          obtain ⟨F, _, _⟩ := form_ok hf
          have ln := fun S => len_txt (f := f) (by have := F.ln; omega) S
          have v0 : zir0 [some (.tup (.str w :: ds)), some (.int b), some (.int s), some (.int m), none, none, none, none, none] [] = .nx [some (.tup (.str w :: ds)), some (.int b), some (.int s), some (.int m), none, none, none, none, none] [] := by
            generalize D.dic formsK = Fk at *
            unfold zir0
            simp [tyS, isiT, eq, fo, ni]
          have v1 : zir1 [some (.tup (.str w :: ds)), some (.int b), some (.int s), some (.int m), none, none, none, none, none] [] = .nx [some (.tup (.str w :: ds)), some (.int b), some (.int s), some (.int m), some (.str f), none, none, none, none] [] := by
            generalize D.dic formsK = Fk at *
            unfold zir1
            simp [fo, ixf]
          rw [e_gSeq, v0, Out.seq_nx, e_gSeq, v1, Out.seq_nx, e_gSeq]
          by_cases hl : (signs f).length = ds.length
          · have hl' : ((signs f).length : Int) = (ds.length : Int) + 1 - 1 := by omega
            have v2 : zir2 [some (.tup (.str w :: ds)), some (.int b), some (.int s), some (.int m), some (.str f), none, none, none, none] [] = .nx [some (.tup (.str w :: ds)), some (.int b), some (.int s), some (.int m), some (.str f), none, none, none, none] [] := by
              have lt := lt []
              rw [List.length_cons] at lt
              unfold zir2
              simp [ln, lt, hl]
            obtain ⟨z5, z6, z7, z8, hr⟩ := ir_loop (b := b) (s := s) (m := m) (S := []) (some (.tup (.str w :: ds))) (some (.str f)) ((signs f).zip ds) (fun q hq => ⟨it _ (List.mem_cons_of_mem _ (List.of_mem_zip hq).2), F.sg b s m _ (List.of_mem_zip hq).1⟩) none none none none
            have sl := fun S => sl1 (.str w) ds S
            have zz : zipST [.str f, .tup ds] [] = .ok ⟨sqD ((signs f).zip ds), none⟩ [] := by
              simp [zipST, signsD_eq, sq_eq]
            have v3 : ∀ o, loopF none (tg2 5 6) zir3b (sqD ((signs f).zip ds)) [some (.tup (.str w :: ds)), some (.int b), some (.int s), some (.int m), some (.str f), none, none, none, none] [] = o → zir3 [some (.tup (.str w :: ds)), some (.int b), some (.int s), some (.int m), some (.str f), none, none, none, none] [] = o := fun o q => by
              unfold zir3
              simp [fSl, fPart, fPartN, sl, zz]
              exact q
            rw [v2, Out.seq_nx, e_gSeq, v3 _ hr, okS_all]
            simp only [fitA, hf, decide_eq_true hl, Bool.true_and]
            cases (ds.zip (signs f)).all (okD b s m) with
            | true =>
              simp only [if_true, Out.seq_nx]
              unfold zir4
              simp
            | false => simp
          · have v2 : zir2 [some (.tup (.str w :: ds)), some (.int b), some (.int s), some (.int m), some (.str f), none, none, none, none] [] = .rt (.bl false) [] := by
              have lt := lt []
              rw [List.length_cons] at lt
              have hl' : ¬ ((signs f).length : Int) = ds.length := by omega
              unfold zir2
              simp [ln, lt, hl']
            rw [v2]
            simp [fitA, hf, hl]
      · refine un ?_
        have hf : fitA b s m (.tup (d :: ds)) = false := by
          cases d <;> first | rfl | exact absurd ⟨_, rfl⟩ hs
        have v0 : zir0 [some (.tup (d :: ds)), some (.int b), some (.int s), some (.int m), none, none, none, none, none] [] = .rt (.bl false) [] := by
          have sd := it d List.mem_cons_self
          unfold zir0
          cases d with
          | str w => exact absurd ⟨w, rfl⟩ hs
          | non => simp [tyS, isiT, eq]
          | bl x => simp [tyS, isiT, eq]
          | int x => simp [tyS, isiT, eq]
          | tup x => simp [tyS, isiT, eq]
          | lst x => simp [tyS, isiT, eq]
          | _ => simp [D.sim] at sd
        rw [hf]
        unfold zir
        rw [e_gSeq, v0]
        rfl
  | non => exact no (fun ds z => by cases z) rfl
  | bl x => exact no (fun ds z => by cases z) rfl
  | int x => exact no (fun ds z => by cases z) rfl
  | str x => exact no (fun ds z => by cases z) rfl
  | lst x => exact no (fun ds z => by cases z) rfl
  | _ => have := h.sim; simp [D.sim] at this
end K03

/-! Words and rows drawn. -/
namespace K03
open PySem L2 DL
noncomputable def zlw0 : FS := (gRet (fComp (fKeysNew S_p_law_forms_o (fun ds es => pick [] ds es []) 0 0 0 (fun _ S => .ok [] S) (fun _ S => .ok [] S)) (mName 1) (fOrT (toB (fBin gGt (fVar 0) (fC (.int 0)))) (toB (fBin gNotIn (fVar 1) (fTup (fCons (fC (.str "lay")) (fCons (fC (.str "take")) (fun _ S => .ok [] S))))))) (fVar 1) ([("_law_word", 1)].map (·.2)) finL))
theorem zlw_eq : m_p_law_words = zlw0 := rfl
noncomputable def zlr0 : FS := (gSet 5 (fLstO (fCons (fVar 1) (fun _ S => .ok [] S))))
noncomputable def zlr1b0 : FS := (gAsg (mTup 2 (mCons (mName 7) (mCons (mName 8) (fun ds ρ _ => match ds with | [] => some ρ | _ => none)))) (fCall (callSub S_p_law_bound) (fun ds es => pick [(0, 0), (0, 1), (0, 2), (0, 3)] ds es []) 4 0 4 (fCons (fVar 6) (fCons (fVar 2) (fCons (fVar 3) (fCons (fVar 4) (fun _ S => .ok [] S))))) (fun _ S => .ok [] S)))
noncomputable def zlr1b1 : FS := (gIf (toB (fBin gEq (fCall S_p_law_next (fun ds es => pick [(0, 0), (0, 1)] ds es []) 2 0 2 (fCons (fVar 0) (fCons (fC (.int 2)) (fun _ S => .ok [] S))) (fun _ S => .ok [] S)) (fC (.int 0)))) (gExpr (fBM "list" gApp (fVar 5) (fCons (fBin gAdd (fVar 7) (fCall S_p_law_next (fun ds es => pick [(0, 0), (0, 1)] ds es []) 2 0 2 (fCons (fVar 0) (fCons (fBin gAdd (fBin gSub (fVar 8) (fVar 7)) (fC (.int 1))) (fun _ S => .ok [] S))) (fun _ S => .ok [] S))) (fun _ S => .ok [] S)))) (gExpr (fBM "list" gApp (fVar 5) (fCons (fCall S_p_law_next (fun ds es => pick [(0, 0), (0, 1)] ds es []) 2 0 2 (fCons (fVar 0) (fCons (fCB gMin (fCons (fC (.int 4)) (fCons (fBin gAdd (fVar 8) (fC (.int 1))) (fun _ S => .ok [] S)))) (fun _ S => .ok [] S))) (fun _ S => .ok [] S)) (fun _ S => .ok [] S)))))
noncomputable def zlr1b : FS := (gSeq zlr1b0 zlr1b1)
noncomputable def zlr1 : FS := (gFor (fSigns (fBin gIx (fCall (callSub S_p_law_forms) (fun ds es => pick [] ds es []) 0 0 0 (fun _ S => .ok [] S) (fun _ S => .ok [] S)) (fVar 1))) (mName 6) zlr1b)
noncomputable def zlr2 : FS := (gRet (fCB gTuple (fCons (fVar 5) (fun _ S => .ok [] S))))
noncomputable def zlr : FS := (gSeq zlr0 (gSeq zlr1 zlr2))
theorem zlr_eq : m_p_law_row = zlr := rfl
/-- only the state of the draws changes, new places may come -/
structure Drw (s : Nat) (ns : List Int) (S S' : Store) : Prop where
  st : ∃ v k, S'[s]? = some (stO v k ns)
  keeps : Keeps [s] S S'
theorem Drw.trans {s : Nat} {ns : List Int} {S T U : Store} (a : Drw s ns S T) (b : Drw s ns T U) : Drw s ns S U := ⟨b.st, a.keeps.trans b.keeps (fun _ z => z) fun _ z => .inl z⟩
theorem Drw.refl {s : Nat} {ns : List Int} {S : Store} (h : ∃ v k, S[s]? = some (stO v k ns)) : Drw s ns S S := ⟨h, .rfl'⟩
theorem Drw.old {s : Nat} {ns : List Int} {S S' : Store} (d : Drw s ns S S') {i : Nat} {o : SO} (h : S[i]? = some o) (hi : i ≠ s) : S'[i]? = some o := by
  rw [d.keeps.2 i (lt_of h) (by simpa using hi)]
  exact h
theorem Drw.set {s : Nat} {ns : List Int} {S : Store} {v v' : Int} {k k' : Nat} (h : S[s]? = some (stO v k ns)) : Drw s ns S (S.set s (stO v' k' ns)) :=
  ⟨⟨v', k', set_eq h⟩, by rw [List.length_set]; exact Nat.le_refl _, fun i hi hn => set_ne fun e => hn (by rw [e]; exact List.mem_singleton_self i)⟩
theorem Drw.app {s : Nat} {ns : List Int} {S T : Store} (h : ∃ v k, S[s]? = some (stO v k ns)) : Drw s ns S (S ++ T) := by
  obtain ⟨v, k, h⟩ := h
  refine ⟨⟨v, k, app_old h⟩, by rw [List.length_append]; omega, fun i hi hn => ?_⟩
  rw [List.getElem?_append_left hi]
/-- a place that is new may change -/
theorem Drw.put {s : Nat} {ns : List Int} {S S' : Store} (d : Drw s ns S S') {j : Nat} {o : SO} (hj : S.length ≤ j) (hs : s < S.length) : Drw s ns S (S'.set j o) := by
  obtain ⟨v, k, h⟩ := d.st
  refine ⟨⟨v, k, by rw [set_ne (by omega)]; exact h⟩, by rw [List.length_set]; exact d.keeps.1, fun i hi hn => ?_⟩
  rw [set_ne (by omega)]
  exact d.keeps.2 i hi hn
theorem draw {s : Nat} {ns : List Int} {S : Store} (h : ∃ v k, S[s]? = some (stO v k ns)) {m : Int} (h1 : 0 < m) (h2 : m < 10000000000) : ∃ (x : Int) (S' : Store), 0 ≤ x ∧ x < m ∧ S_p_law_next [.oid s, .int m] S = .ok (.int x) S' ∧ Drw s ns S S' := by
  obtain ⟨v, k, h⟩ := h
  obtain ⟨x, v', k', a, b, e⟩ := next_ok h h1 h2
  exact ⟨x, _, a, b, e, .set h⟩
theorem drawN {s : Nat} {ns : List Int} {S : Store} (h : ∃ v k, S[s]? = some (stO v k ns)) (m : Nat) (h1 : 0 < m) (h2 : m < 1000000) : ∃ (x : Nat) (S' : Store), x < m ∧ S_p_law_next [.oid s, .int m] S = .ok (.int (x : Nat)) S' ∧ Drw s ns S S' := by
  obtain ⟨x, S', a, b, e, d⟩ := draw h (m := (m : Int)) (by omega) (by omega)
  obtain ⟨n, rfl⟩ : ∃ n : Nat, x = (n : Int) := ⟨x.toNat, by omega⟩
  exact ⟨n, S', by omega, e, d⟩
theorem drawP {s : Nat} {ns : List Int} {S : Store} (h : ∃ v k, S[s]? = some (stO v k ns)) {xs : List D} (hl : 0 < xs.length) (hl2 : xs.length < 1000) : ∃ (x : D) (S' : Store), x ∈ xs ∧ S_p_law_pick [.oid s, .lst xs] S = .ok x S' ∧ Drw s ns S S' := by
  obtain ⟨v, k, h⟩ := h
  obtain ⟨x, v', k', a, e⟩ := pick_ok h hl hl2
  exact ⟨x, _, a, e, .set h⟩
/-! ### words -/
theorem keys_forms (S : Store) : keysSub S_p_law_forms_o [] S = .ok ⟨(FT.map (·.1)).map D.str, none⟩ S := by
  have e : S_p_law_forms_o [] [] = .ok (.oid 0) [.dic formsK, .dic fr2, .dic fr3] := by
    have me : m_p_law_forms_o = gSeq zfo0 (gSeq zfo1 (gSeq zfo2 (gRet (fVar 0)))) := rfl
    unfold S_p_law_forms_o
    rw [me, e_semOf]
    have st : startD 1 [] = [none] := rfl
    have f0 := fo0_run []
    have f1 := fo1_run [] []
    have f2 := fo2_run []
    simp only [List.length_nil, List.nil_append] at f0 f1 f2
    rw [st, e_gSeq, f0, Out.seq_nx, e_gSeq, f1, Out.seq_nx, e_gSeq, f2, Out.seq_nx]
    simp
  unfold keysSub
  rw [if_pos (by rfl), e]
  rfl
def wp (s : Int) (w : Str) : Bool := decide (0 < s) || (!(("lay" : Str) == w) && !(("take" : Str) == w))
def wl (s : Int) : List Str := (FT.map (·.1)).filter (wp s)
theorem words_ok (s : Int) (S : Store) : callSub S_p_law_words [.int s] S = .ok (.lst ((wl s).map D.str)) S := by
  have kf := keys_forms []
  refine callSub_ok (S' := []) (by rfl) ?_ ?_
  · unfold S_p_law_words
    rw [zlw_eq, e_semOf]
    have st : startD 2 [.int s] = [some (.int s), none] := rfl
    rw [st]
    have cf : ∀ (m : FG) (ft : DL.FT) (fe : FE) (ρ : EnvD), (∀ w, ∃ ρ1, m (.str w) ρ [] = some ρ1 ∧ ft ρ1 [] = .ok (wp s w) [] ∧ fe ρ1 [] = .ok (.str w) []) → compF none m ft fe ((FT.map (·.1)).map D.str) ρ [] = .ok ((wl s).map D.str) [] := fun m ft fe ρ hq => by
      have : ∀ l : List Str, compF none m ft fe (l.map D.str) ρ [] = .ok ((l.filter (wp s)).map D.str) [] := by
        intro l
        induction l with
        | nil => exact compF_nil
        | cons w l ih =>
          obtain ⟨ρ1, a, b, c⟩ := hq w
          rw [List.map_cons, compF_cons a]
          simp only [b, Res.noEx_ok, Res.bind_ok, c, ih]
          cases hb : (wp s w) with
          | true => simp [List.filter_cons, hb]
          | false => simp [List.filter_cons, hb]
      exact this _
    have sh : short ((wl s).map D.str).length = true := short_le (by
      have : (wl s).length ≤ (FT.map (·.1)).length := List.length_filter_le _ _
      have : (FT.map (·.1)).length = 20 := rfl
      rw [List.length_map]
      omega)
    have kn : ∀ ρ, fKeysNew S_p_law_forms_o (fun ds es => pick [] ds es []) 0 0 0 (fun _ S => .ok [] S) (fun _ S => .ok [] S) ρ [] = .ok ⟨(FT.map (·.1)).map D.str, none⟩ [] := fun ρ => by
      unfold fKeysNew
      simp only [Res.bind_ok, List.length_nil]
      rw [if_pos (by simp [pick])]
      exact kf
    have go : ∀ ρ, fComp (fKeysNew S_p_law_forms_o (fun ds es => pick [] ds es []) 0 0 0 (fun _ S => .ok [] S) (fun _ S => .ok [] S)) (mName 1) (fOrT (toB (fBin gGt (fVar 0) (fC (.int 0)))) (toB (fBin gNotIn (fVar 1) (fTup (fCons (fC (.str "lay")) (fCons (fC (.str "take")) (fun _ S => .ok [] S))))))) (fVar 1) ([("_law_word", 1)].map (·.2)) finL [some (.int s), ρ] [] = .ok (.lst ((wl s).map D.str)) [] := fun ρ => by
      rw [e_fComp, kn]
      simp only [Res.bind_ok, List.map_cons, List.map_nil, e_wipe1, e_wipe0, List.set_cons_succ, List.set_cons_zero]
      rw [cf]
      · simp only [Res.bind_ok, e_finL, sh, if_true]
      · intro w
        refine ⟨_, rfl, ?_, by simp⟩
        have k2 : short 2 = true := short_le (by omega)
        by_cases h0 : 0 < s
        · simp [h0, wp]
        · simp [h0, wp, k2, gInQ, asQ, D.flat, inF, eqF]
    unfold zlw0
    rw [e_gRet, go]
    rfl
  · simp only [D.pure]
    refine pureL_all.mpr fun x hx => ?_
    obtain ⟨w, _, rfl⟩ := List.mem_map.mp hx
    rfl
end K03

/-! A row drawn, a row put otherwise. -/
namespace K03
open PySem L2 DL
noncomputable def zod0 : FS := (gSet 5 (fCall S_p_law_next (fun ds es => pick [(0, 0), (0, 1)] ds es []) 2 0 2 (fCons (fVar 0) (fCons (fC (.int 8)) (fun _ S => .ok [] S))) (fun _ S => .ok [] S)))
noncomputable def zod1 : FS := (gSet 6 (fBin gAdd (fC (.int 1)) (fCall S_p_law_next (fun ds es => pick [(0, 0), (0, 1)] ds es []) 2 0 2 (fCons (fVar 0) (fCons (fCB gMax (fCons (fC (.int 1)) (fCons (fBin gSub (fCB gLen (fCons (fVar 1) (fun _ S => .ok [] S))) (fC (.int 1))) (fun _ S => .ok [] S)))) (fun _ S => .ok [] S))) (fun _ S => .ok [] S))))
noncomputable def zod2 : FS := (gIf (toB (fBin gEq (fVar 5) (fC (.int 0)))) (gRet (fCall S_p_law_pick (fun ds es => pick [(0, 0), (0, 1)] ds es []) 2 0 2 (fCons (fVar 0) (fCons (fLst (fCons (fTup (fun _ S => .ok [] S)) (fCons (fC .non) (fCons (fC (.str "stop")) (fCons (fC (.int 5)) (fCons (fLst (fCons (fC (.str "stop")) (fun _ S => .ok [] S))) (fCons (fCB gList (fCons (fVar 1) (fun _ S => .ok [] S))) (fCons (fTup (fCons (fC .non) (fun _ S => .ok [] S))) (fCons (fTup (fCons (fLst (fCons (fC (.str "stop")) (fun _ S => .ok [] S))) (fun _ S => .ok [] S))) (fCons (fTup (fCons (fC (.str "Stop")) (fun _ S => .ok [] S))) (fCons (fTup (fCons (fC (.bl true)) (fCons (fC (.int 0)) (fun _ S => .ok [] S)))) (fun _ S => .ok [] S)))))))))))) (fun _ S => .ok [] S))) (fun _ S => .ok [] S))) gNil)
noncomputable def zod3 : FS := (gIf (toB (fBin gEq (fVar 5) (fC (.int 1)))) (gRet (fBin gAdd (fVar 1) (fTup (fCons (fC (.int 0)) (fun _ S => .ok [] S))))) gNil)
noncomputable def zod4 : FS := (gIf (fOrT (toB (fBin gEq (fVar 5) (fC (.int 2)))) (toB (fBin gEq (fCB gLen (fCons (fVar 1) (fun _ S => .ok [] S))) (fC (.int 1))))) (gRet (fSl (fVar 1) fPartN (fPart (fUn gNeg (fC (.int 1)))))) gNil)
noncomputable def zod5 : FS := (gIf (toB (fBin gEq (fVar 5) (fC (.int 3)))) (gRet (fBin gAdd (fTup (fCons (fCall S_p_law_pick (fun ds es => pick [(0, 0), (0, 1)] ds es []) 2 0 2 (fCons (fVar 0) (fCons (fComp (fKeysNew S_p_law_forms_o (fun ds es => pick [] ds es []) 0 0 0 (fun _ S => .ok [] S) (fun _ S => .ok [] S)) (mName 10) fYes (fVar 10) ([("_law_word", 10)].map (·.2)) finL) (fun _ S => .ok [] S))) (fun _ S => .ok [] S)) (fun _ S => .ok [] S))) (fSl (fVar 1) (fPart (fC (.int 1))) fPartN))) gNil)
noncomputable def zod6 : FS := (gAsg (mTup 2 (mCons (mName 7) (mCons (mName 8) (fun ds ρ _ => match ds with | [] => some ρ | _ => none)))) (fCall (callSub S_p_law_bound) (fun ds es => pick [(0, 0), (0, 1), (0, 2), (0, 3)] ds es []) 4 0 4 (fCons (fBin gIx (fBin gIx (fCall (callSub S_p_law_forms) (fun ds es => pick [] ds es []) 0 0 0 (fun _ S => .ok [] S) (fun _ S => .ok [] S)) (fBin gIx (fVar 1) (fC (.int 0)))) (fBin gSub (fVar 6) (fC (.int 1)))) (fCons (fVar 2) (fCons (fVar 3) (fCons (fVar 4) (fun _ S => .ok [] S))))) (fun _ S => .ok [] S)))
noncomputable def zod7 : FS := (gSet 9 (fCall S_p_law_pick (fun ds es => pick [(0, 0), (0, 1)] ds es []) 2 0 2 (fCons (fVar 0) (fCons (fLst (fCons (fBin gSub (fVar 7) (fC (.int 1))) (fCons (fBin gAdd (fVar 8) (fC (.int 1))) (fCons (fVar 7) (fCons (fVar 8) (fCons (fC (.bl true)) (fCons (fC (.bl false)) (fCons (fC .non) (fCons (fC (.str "0")) (fCons (fTup (fCons (fC (.int 0)) (fun _ S => .ok [] S))) (fCons (fBin gAdd (fVar 8) (fC (.int 7))) (fun _ S => .ok [] S)))))))))))) (fun _ S => .ok [] S))) (fun _ S => .ok [] S)))
noncomputable def zod8 : FS := (gRet (fBin gAdd (fBin gAdd (fSl (fVar 1) fPartN (fPart (fVar 6))) (fTup (fCons (fVar 9) (fun _ S => .ok [] S)))) (fSl (fVar 1) (fPart (fBin gAdd (fVar 6) (fC (.int 1)))) fPartN)))
noncomputable def zod : FS := (gSeq zod0 (gSeq zod1 (gSeq zod2 (gSeq zod3 (gSeq zod4 (gSeq zod5 (gSeq zod6 (gSeq zod7 zod8))))))))
theorem zod_eq : m_p_law_odd = zod := rfl
def numB (i : Int) : Prop := -1000000000 ≤ i ∧ i ≤ 1000000000
/-- bounds that hold something -/
def Sgp (b s m : Int) (x : Str) : Prop := ∃ lo hi, (lohi b s m).lookup x = some (lo, hi) ∧ -1000000000 ≤ lo ∧ hi ≤ 1000000000 ∧ lo ≤ hi ∧ 0 ≤ hi
theorem all_signs : ∀ q ∈ FT, (signs q.2).all (fun x => (["b", "n", "m", "k", "r"] : List Str).contains x || (x == ("i" : Str) && ((("lay" : Str) == q.1) || (("take" : Str) == q.1)))) = true := by decide +kernel
theorem sgp_of {b s m : Int} (hb : 1 ≤ b ∧ b ≤ 6) (hm : 0 ≤ m ∧ m ≤ 100) {x : Str} (h : (["b", "n", "m", "k", "r"] : List Str).contains x = true) : Sgp b s m x := by
  unfold Sgp lohi
  simp only [List.contains_cons, List.contains_nil, Bool.or_false, Bool.or_eq_true] at h
  rcases h with h | h | h | h | h <;> rw [beq_iff_eq.mp h]
  · exact ⟨0, b - 1, rfl, by omega, by omega, by omega, by omega⟩
  · exact ⟨-1000000000, 1000000000, rfl, by omega, by omega, by omega, by omega⟩
  · exact ⟨0, 6, rfl, by omega, by omega, by omega, by omega⟩
  · exact ⟨0, 5, rfl, by omega, by omega, by omega, by omega⟩
  · exact ⟨0, m, rfl, by omega, by omega, by omega, by omega⟩
theorem word_ok {b s m : Int} (hb : 1 ≤ b ∧ b ≤ 6) (hs : 0 ≤ s ∧ s ≤ 6) (hm : 0 ≤ m ∧ m ≤ 100) {w : Str} (h : w ∈ wl s) : ∃ f, form w = some f ∧ ∀ x ∈ signs f, Sgp b s m x := by
  obtain ⟨h1, h2⟩ := List.mem_filter.mp h
  obtain ⟨q, hq, rfl⟩ := List.mem_map.mp h1
  have nd : ∀ q ∈ FT, form q.1 = some q.2 := by decide +kernel
  refine ⟨q.2, nd q hq, fun x hx => ?_⟩
  have a := List.all_eq_true.mp (all_signs q hq) x hx
  rw [Bool.or_eq_true] at a
  rcases a with a | a
  · exact sgp_of hb hm a
  · rw [Bool.and_eq_true] at a
    have e : x = "i" := beq_iff_eq.mp a.1
    have s0 : 0 < s := by
      unfold wp at h2
      rw [Bool.or_eq_true] at h2
      rcases h2 with z | z
      · exact of_decide_eq_true z
      · rw [Bool.and_eq_true] at z
        have a2 := a.2
        rw [Bool.or_eq_true] at a2
        rcases a2 with y | y
        · rw [y] at z; exact absurd z.1 (by decide)
        · rw [y] at z; exact absurd z.2 (by decide)
    rw [e]
    exact ⟨0, s - 1, rfl, by omega, by omega, by omega, by omega⟩
def rwD (w : Str) (as : List Int) : D := .tup (.str w :: as.map D.int)
theorem row_draw {b s m : Int} {w f : Str} (hf : form w = some f) (hx : ∀ x ∈ signs f, Sgp b s m x) {st : Nat} {ns : List Int} {S : Store} (hst : ∃ v k, S[st]? = some (stO v k ns)) :
    ∃ (as : List Int) (S' : Store), (signs f).length = as.length ∧ (∀ a ∈ as, numB a) ∧ S_p_law_row [.oid st, .str w, .int b, .int s, .int m] S = .ok (rwD w as) S' ∧ Drw st ns S S' := by
  have sl : st < S.length := by
    obtain ⟨v, k, h⟩ := hst
    exact lt_of h
  obtain ⟨F, _, _⟩ := form_ok hf
  have l3 := F.ln
  have fo := fun S => forms_ok S
  have ixf := fun S => ix_forms hf S
  have st0 : startD 9 [.oid st, .str w, .int b, .int s, .int m] = [some (.oid st), some (.str w), some (.int b), some (.int s), some (.int m), none, none, none, none] := rfl
  have w0 : zlr0 [some (.oid st), some (.str w), some (.int b), some (.int s), some (.int m), none, none, none, none] S = .nx [some (.oid st), some (.str w), some (.int b), some (.int s), some (.int m), some (.oid S.length), none, none, none] (S ++ [.lst [.str w]]) := by
    have s1 : short 1 = true := short_le (by omega)
    unfold zlr0
    simp [s1]
  obtain ⟨ρ', S', lo, y6, y7, y8, as, rfl, dr, ro, la, lB⟩ := loop_inv (m := mName 6) (b := zlr1b) (fun j ρ S' => ∃ (y6 y7 y8 : Option D) (as : List Int), ρ = [some (.oid st), some (.str w), some (.int b), some (.int s), some (.int m), some (.oid S.length), y6, y7, y8] ∧ Drw st ns S S' ∧ S'[S.length]? = some (.lst (.str w :: as.map D.int)) ∧ as.length = j ∧ ∀ a ∈ as, numB a)
    (signsD f) 0 [some (.oid st), some (.str w), some (.int b), some (.int s), some (.int m), some (.oid S.length), none, none, none] (S ++ [.lst [.str w]])
    ⟨none, none, none, [], rfl, Drw.app hst, by rw [List.getElem?_append_right (Nat.le_refl _), Nat.sub_self]; rfl, rfl, fun a h => (by cases h)⟩ (by
    rintro j d ρ S1 hd ⟨y6, y7, y8, as, rfl, dr, ro, la, lB⟩
    rw [signsD_eq, List.getElem?_map] at hd
    obtain ⟨x, hxm, rfl⟩ := Option.map_eq_some_iff.mp hd
    have jl : j < (signs f).length := (List.getElem?_eq_some_iff.mp hxm).1
    obtain ⟨lo, hi, hz, h1, h2, h3, h4⟩ := hx x (List.mem_of_getElem? hxm)
    have bo := bound_ok hz S1
    obtain ⟨k, S2, hk, q2, d2⟩ := drawN dr.st 2 (by decide) (by decide)
    have q2 : S_p_law_next [.oid st, .int 2] S1 = .ok (.int (k : Nat)) S2 := q2
    have r2 := d2.old ro (by omega)
    have t2 : tyS S2 (.oid S.length) = some "list" := tyS_o r2
    have v0 : zlr1b0 [some (.oid st), some (.str w), some (.int b), some (.int s), some (.int m), some (.oid S.length), some (.str x), y7, y8] S1 = .nx [some (.oid st), some (.str w), some (.int b), some (.int s), some (.int m), some (.oid S.length), some (.str x), some (.int lo), some (.int hi)] S1 := by
      unfold zlr1b0
      simp [bo]
    obtain ⟨z, S3, nz, e3, d3⟩ : ∃ (z : Int) (S3 : Store), numB z ∧ zlr1b1 [some (.oid st), some (.str w), some (.int b), some (.int s), some (.int m), some (.oid S.length), some (.str x), some (.int lo), some (.int hi)] S1 = .nx [some (.oid st), some (.str w), some (.int b), some (.int s), some (.int m), some (.oid S.length), some (.str x), some (.int lo), some (.int hi)] (S3.set S.length (.lst (.str w :: (as ++ [z]).map D.int))) ∧ Drw st ns S2 S3 := by
      by_cases k0 : k = 0
      · subst k0
        obtain ⟨u, S3, u0, u1, q3, d3⟩ := draw d2.st (m := hi - lo + 1) (by omega) (by omega)
        have r3 := d3.old r2 (by omega)
        have ap := app_o (x := .int (lo + u)) r3 (by rw [List.length_cons, List.length_map]; omega)
        have ea : (D.str w :: as.map D.int) ++ [.int (lo + u)] = .str w :: (as ++ [lo + u]).map D.int := by simp
        rw [ea] at ap
        refine ⟨lo + u, S3, ⟨by omega, by omega⟩, ?_, d3⟩
        generalize (as ++ [lo + u]).map D.int = A2 at *
        unfold zlr1b1
        simp [q2, t2, q3, ap]
      · obtain ⟨u, S3, u0, u1, q3, d3⟩ := draw d2.st (m := if hi + 1 < 4 then hi + 1 else 4) (by split <;> omega) (by split <;> omega)
        have r3 := d3.old r2 (by omega)
        have ap := app_o (x := .int u) r3 (by rw [List.length_cons, List.length_map]; omega)
        have ea : (D.str w :: as.map D.int) ++ [.int u] = .str w :: (as ++ [u]).map D.int := by simp
        rw [ea] at ap
        have u4 : u < 4 := by split at u1 <;> omega
        refine ⟨u, S3, ⟨by omega, by omega⟩, ?_, d3⟩
        have k0' : ¬ (k : Int) = 0 := by omega
        generalize (as ++ [u]).map D.int = A2 at *
        unfold zlr1b1
        simp [q2, k0, t2]
        simp [q3, ap]
    have d13 := (dr.trans d2).trans d3
    refine ⟨[some (.oid st), some (.str w), some (.int b), some (.int s), some (.int m), some (.oid S.length), some (.str x), y7, y8], [some (.oid st), some (.str w), some (.int b), some (.int s), some (.int m), some (.oid S.length), some (.str x), some (.int lo), some (.int hi)], S3.set S.length (.lst (.str w :: (as ++ [z]).map D.int)), rfl, .inl ?_, some (.str x), some (.int lo), some (.int hi), as ++ [z], rfl, d13.put (Nat.le_refl _) sl, ?_, by rw [List.length_append, List.length_singleton]; omega, fun a ha => ?_⟩
    · unfold zlr1b
      rw [e_gSeq, v0, Out.seq_nx, e3]
    · exact set_eq (d3.old r2 (by omega))
    · rcases List.mem_append.mp ha with t | t
      · exact lB a t
      · rw [List.mem_singleton.mp t]
        exact nz)
  have lf : (signsD f).length = (signs f).length := by rw [signsD_eq, List.length_map]
  rw [lf] at la
  refine ⟨as, S', by omega, lB, ?_, dr⟩
  have w1 : zlr1 [some (.oid st), some (.str w), some (.int b), some (.int s), some (.int m), some (.oid S.length), none, none, none] (S ++ [.lst [.str w]]) = .nx [some (.oid st), some (.str w), some (.int b), some (.int s), some (.int m), some (.oid S.length), y6, y7, y8] S' := by
    rw [← lo]
    generalize S ++ [SO.lst [.str w]] = S1 at *
    generalize D.dic formsK = Fk at *
    unfold zlr1
    simp [fSigns, fo, ixf, signC]
    all_goals rfl
  unfold S_p_law_row
  rw [zlr_eq, e_semOf, st0]
  unfold zlr
  rw [e_gSeq, w0, Out.seq_nx, e_gSeq, w1, Out.seq_nx]
  unfold zlr2
  simp [gTuple, asL, ro, rwD]
/-! ### a row put otherwise -/
theorem ints_sim {as : List Int} (h : ∀ a ∈ as, numB a) : simL (as.map D.int) = true ∧ depL (as.map D.int) ≤ 0 := by
  refine ⟨simL_all.mpr fun d hd => ?_, depL_le.mpr fun d hd => ?_⟩
  · obtain ⟨a, ha, rfl⟩ := List.mem_map.mp hd
    have := h a ha
    unfold numB at this
    simp only [D.sim]
    exact decide_eq_true ⟨by omega, by omega⟩
  · obtain ⟨a, ha, rfl⟩ := List.mem_map.mp hd
    simp [D.dep]
theorem rowD_of {w : Str} {as : List Int} (hw : PyData.strOk w = true) (h : ∀ a ∈ as, numB a) (hl : as.length ≤ 50) : RowD (rwD w as) := by
  obtain ⟨s1, d1⟩ := ints_sim h
  refine ⟨?_, ?_, fun ds e => ?_⟩
  · simp only [rwD, D.sim, simL, s1, hw, Bool.and_self]
  · simp only [rwD, D.dep, depL]
    omega
  · unfold rwD at e
    cases e
    rw [List.length_cons, List.length_map]
    omega
theorem fit_inv {b s m : Int} (hb : 1 ≤ b ∧ b ≤ 6) (hs : 0 ≤ s ∧ s ≤ 6) (hm : 0 ≤ m ∧ m ≤ 100) {r : D} (h : fitA b s m r = true) : ∃ (w f : Str) (as : List Int), r = rwD w as ∧ form w = some f ∧ (signs f).length = as.length ∧ (∀ a ∈ as, numB a) ∧ ∀ x ∈ signs f, ∃ z, (lohi b s m).lookup x = some z ∧ -1000000000 ≤ z.1 ∧ z.2 ≤ 1000000000 := by
  have loB : ∀ x z, (lohi b s m).lookup x = some z → -1000000000 ≤ z.1 ∧ z.2 ≤ 1000000000 := fun x z hz => by
    have mem := lookup_mem hz
    simp only [lohi, List.mem_cons, List.not_mem_nil, or_false] at mem
    rcases mem with e | e | e | e | e | e <;> cases e <;> omega
  have intz : ∀ (ss : List Str) (ds : List D), ss.length = ds.length → (ds.zip ss).all (okD b s m) = true → ∃ as : List Int, ds = as.map D.int ∧ ∀ a ∈ as, numB a := by
    intro ss
    induction ss with
    | nil =>
      intro ds hl _
      have : ds = [] := List.length_eq_zero_iff.mp (by simpa using hl.symm)
      exact ⟨[], by rw [this]; rfl, fun a h => by cases h⟩
    | cons x ss ih =>
      intro ds hl h
      cases ds with
      | nil => simp at hl
      | cons d ds =>
        rw [List.zip_cons_cons, List.all_cons, Bool.and_eq_true] at h
        obtain ⟨as, e, hB⟩ := ih ds (by simpa using hl) h.2
        have h1 := h.1
        unfold okD at h1
        split at h1
        · rename_i z hz
          have zb := loB x z hz
          cases d with
          | int i =>
            simp only [whl, Bool.and_eq_true, decide_eq_true_eq] at h1
            refine ⟨i :: as, by rw [e]; rfl, fun a ha => ?_⟩
            rcases List.mem_cons.mp ha with y | y
            · rw [y]; exact ⟨by omega, by omega⟩
            · exact hB a y
          | _ => simp [whl] at h1
        · cases h1
  unfold fitA at h
  split at h
  · rename_i w ds
    split at h
    · rename_i f hf
      rw [Bool.and_eq_true] at h
      have hl := of_decide_eq_true h.1
      obtain ⟨as, e, hB⟩ := intz (signs f) ds hl h.2
      obtain ⟨F, _, _⟩ := form_ok hf
      refine ⟨w, f, as, by rw [e]; rfl, hf, by rw [hl, e, List.length_map], hB, fun x hx => ?_⟩
      obtain ⟨z, hz⟩ := F.sg b s m x hx
      exact ⟨z, hz, loB x z hz⟩
    · cases h
  · cases h
end K03

/-! A row put otherwise. -/
namespace K03
open PySem L2 DL
def oddA (w : Str) (as : List Int) : List D := [.tup [], .non, .str "stop", .int 5, .lst [.str "stop"], .lst (.str w :: as.map D.int), .tup [.non], .tup [.lst [.str "stop"]], .tup [.str "Stop"], .tup [.bl true, .int 0]]
theorem oddA_ok {w : Str} {as : List Int} (hw : PyData.strOk w = true) (h : ∀ a ∈ as, numB a) : ∀ d ∈ oddA w as, RowD d := by
  have k1 : PyData.strOk ("stop" : Str) = true := by decide +kernel
  have k2 : PyData.strOk ("Stop" : Str) = true := by decide +kernel
  obtain ⟨s1, d1⟩ := ints_sim h
  intro d hd
  unfold oddA at hd
  simp only [List.mem_cons, List.not_mem_nil, or_false] at hd
  rcases hd with rfl | rfl | rfl | rfl | rfl | rfl | rfl | rfl | rfl | rfl
  · exact ⟨rfl, by decide, fun ds e => by cases e; simp⟩
  · exact ⟨rfl, by decide, fun ds e => by cases e⟩
  · exact ⟨by simp only [D.sim, k1], by simp [D.dep], fun ds e => by cases e⟩
  · exact ⟨by decide, by decide, fun ds e => by cases e⟩
  · exact ⟨by simp only [D.sim, simL, k1, Bool.and_self], by simp [D.dep, depL], fun ds e => by cases e⟩
  · exact ⟨by simp only [D.sim, simL, hw, s1, Bool.and_self], by simp only [D.dep, depL]; omega, fun ds e => by cases e⟩
  · exact ⟨rfl, by decide, fun ds e => by cases e; simp⟩
  · exact ⟨by simp only [D.sim, simL, k1, Bool.and_self], by simp [D.dep, depL], fun ds e => by cases e; simp⟩
  · exact ⟨by simp only [D.sim, simL, k2, Bool.and_self], by simp [D.dep, depL], fun ds e => by cases e; simp⟩
  · exact ⟨by decide, by decide, fun ds e => by cases e; simp⟩
def oddB (lo hi : Int) : List D := [.int (lo - 1), .int (hi + 1), .int lo, .int hi, .bl true, .bl false, .non, .str "0", .tup [.int 0], .int (hi + 7)]
theorem oddB_ok {lo hi : Int} (h1 : -1000000000 ≤ lo) (h2 : lo ≤ 1000000000) (h3 : -1000000000 ≤ hi) (h4 : hi ≤ 1000000000) : ∀ d ∈ oddB lo hi, d.sim = true ∧ d.dep ≤ 1 := by
  have k1 : PyData.strOk ("0" : Str) = true := by decide +kernel
  intro d hd
  unfold oddB at hd
  simp only [List.mem_cons, List.not_mem_nil, or_false] at hd
  rcases hd with rfl | rfl | rfl | rfl | rfl | rfl | rfl | rfl | rfl | rfl
  · exact ⟨by simp only [D.sim]; exact decide_eq_true ⟨by omega, by omega⟩, by simp [D.dep]⟩
  · exact ⟨by simp only [D.sim]; exact decide_eq_true ⟨by omega, by omega⟩, by simp [D.dep]⟩
  · exact ⟨by simp only [D.sim]; exact decide_eq_true ⟨by omega, by omega⟩, by simp [D.dep]⟩
  · exact ⟨by simp only [D.sim]; exact decide_eq_true ⟨by omega, by omega⟩, by simp [D.dep]⟩
  · exact ⟨rfl, by decide⟩
  · exact ⟨rfl, by decide⟩
  · exact ⟨rfl, by decide⟩
  · exact ⟨by simp only [D.sim, k1], by simp [D.dep]⟩
  · exact ⟨by decide, by decide⟩
  · exact ⟨by simp only [D.sim]; exact decide_eq_true ⟨by omega, by omega⟩, by simp [D.dep]⟩
theorem rowD_t {ds : List D} (h : ∀ d ∈ ds, d.sim = true ∧ d.dep ≤ 10) (hl : ds.length ≤ 100) : RowD (.tup ds) := by
  refine ⟨?_, ?_, fun es e => by cases e; exact hl⟩
  · simp only [D.sim]
    exact simL_all.mpr fun d hd => (h d hd).1
  · simp only [D.dep]
    have := depL_le.mpr fun d hd => (h d hd).2
    omega
theorem addT (xs ys : List D) (h0 : xs ≠ []) (hl : xs.length + ys.length ≤ 10000) (S : Store) : gAdd (.tup xs) (.tup ys) S = .ok (.tup (xs ++ ys)) S := by
  have s : short (xs.length + ys.length) = true := short_le (by omega)
  have e : xs.isEmpty = false := by cases xs with
    | nil => exact absurd rfl h0
    | cons _ _ => rfl
  show gAddT (.tup xs) (.tup ys) S = _
  simp [gAddT, s, e]
theorem slTake (xs : List D) (n : Nat) (h : n < xs.length) (S : Store) : gSl (.tup xs) none (some (n : Int)) S = .ok (.tup (xs.take n)) S := by
  have e1 : HT.sIx xs.length 0 none = 0 := rfl
  have e2 : HT.sIx xs.length xs.length (some (n : Int)) = n := by rw [HT.sIx_nat]; omega
  have ne : ¬ n = xs.length := by omega
  simp only [gSl, cutD, e1, e2, List.drop_zero, Nat.sub_zero, true_and, if_neg ne]
theorem slDrop (xs : List D) (n : Nat) (h0 : 0 < n) (h : n ≤ xs.length) (S : Store) : gSl (.tup xs) (some (n : Int)) none S = .ok (.tup (xs.drop n)) S := by
  have e1 : HT.sIx xs.length xs.length none = xs.length := rfl
  have e2 : HT.sIx xs.length 0 (some (n : Int)) = n := by rw [HT.sIx_nat]; omega
  have ne : ¬ n = 0 := by omega
  simp only [gSl, cutD, e1, e2, and_true, if_neg ne]
  rw [List.take_of_length_le (by rw [List.length_drop]; exact Nat.le_refl _)]
theorem slLast (z : D) (xs : List D) (S : Store) : gSl (.tup (z :: xs)) none (some (-1)) S = .ok (.tup ((z :: xs).take xs.length)) S := by
  have e1 : HT.sIx (z :: xs).length 0 none = 0 := rfl
  have e2 : HT.sIx (z :: xs).length (z :: xs).length (some (-1)) = xs.length := by
    show (if (-1 : Int) < 0 then ((-1 : Int) + ((z :: xs).length : Int)).toNat else min (-1 : Int).toNat (z :: xs).length) = xs.length
    rw [if_pos (by decide), List.length_cons]
    omega
  have ne : ¬ xs.length = (z :: xs).length := by rw [List.length_cons]; omega
  simp only [gSl, cutD, e1, e2, List.drop_zero, Nat.sub_zero, true_and, if_neg ne]
theorem ix_sign {f x : Str} {i : Nat} (h : (signs f)[i]? = some x) (hl : (signs f).length ≤ 100) (S : Store) : gIx (.str f) (.int (i : Nat)) S = .ok (.str x) S := by
  unfold signs at h
  rw [List.getElem?_map] at h
  obtain ⟨c, hc, rfl⟩ := Option.map_eq_some_iff.mp h
  have hlt := (List.getElem?_eq_some_iff.mp hc).1
  have e : (signs f).length = f.length := by simp [signs, Str.length]
  have sl : short f.length = true := short_le (by omega)
  have a : atI f.cps.toList (i : Int) = some c := by rw [at_nat _ _ hlt, hc]
  unfold gIx
  have p : pDic1 (.str f) (.int (i : Int)) S = false := rfl
  have q : isS (.str f) (.int (i : Int)) S = true := rfl
  simp only [p, q, Bool.false_eq_true, if_false, if_true, gIxS, sl, a]
theorem odd_draw {b s m : Int} (hb : 1 ≤ b ∧ b ≤ 6) (hs : 0 ≤ s ∧ s ≤ 6) (hm : 0 ≤ m ∧ m ≤ 100) {r : D} (h : fitA b s m r = true) {st : Nat} {ns : List Int} {S : Store} (hst : ∃ v k, S[st]? = some (stO v k ns)) :
    ∃ (d : D) (S' : Store), RowD d ∧ S_p_law_odd [.oid st, r, .int b, .int s, .int m] S = .ok d S' ∧ Drw st ns S S' := by
  obtain ⟨w, f, as, rfl, hf, hl, hB, hz⟩ := fit_inv hb hs hm h
  obtain ⟨F, hw, _⟩ := form_ok hf
  have l3 := F.ln
  have fo := fun S => forms_ok S
  have ixf := fun S => ix_forms hf S
  obtain ⟨si, di⟩ := ints_sim hB
  have it : ∀ d ∈ (D.str w :: as.map D.int), d.sim = true ∧ d.dep ≤ 10 := fun d hd => by
    rcases List.mem_cons.mp hd with z | z
    · rw [z]; exact ⟨by simp only [D.sim, hw], by simp [D.dep]⟩
    · exact ⟨simL_all.mp si d z, by have := depL_le.mp di d z; omega⟩
  have la : (D.str w :: as.map D.int).length = as.length + 1 := by simp
  have gl := fun S => len_t18 (ds := D.str w :: as.map D.int) (by rw [la]; omega) S
  rw [la] at gl
  obtain ⟨k, S1, hk, q1, d1⟩ := drawN hst 8 (by decide) (by decide)
  have q1 : S_p_law_next [.oid st, .int 8] S = .ok (.int (k : Nat)) S1 := q1
  obtain ⟨a, S2, ha, q2, d2⟩ := drawN d1.st (if as.length > 1 then as.length else 1) (by split <;> omega) (by split <;> omega)
  have e2 : (((if as.length > 1 then as.length else 1) : Nat) : Int) = if (as.length : Int) + 1 - 1 > 1 then (as.length : Int) + 1 - 1 else 1 := by
    by_cases c : as.length > 1
    · have c' : (as.length : Int) + 1 - 1 > 1 := by omega
      rw [if_pos c, if_pos c']
      omega
    · have c' : ¬ (as.length : Int) + 1 - 1 > 1 := by omega
      rw [if_neg c, if_neg c']
      rfl
  rw [e2] at q2
  have d02 := d1.trans d2
  obtain ⟨R, hR⟩ : ∃ R, R = rwD w as := ⟨_, rfl⟩
  have glR : ∀ S, gLen [R] S = .ok (.int ((as.length : Int) + 1)) S := fun S => by
    rw [hR]
    have := gl S
    simpa [rwD] using this
  rw [← hR]
  have st0 : startD 11 [.oid st, R, .int b, .int s, .int m] = [some (.oid st), some R, some (.int b), some (.int s), some (.int m), none, none, none, none, none, none] := rfl
  have v0 : zod0 [some (.oid st), some R, some (.int b), some (.int s), some (.int m), none, none, none, none, none, none] S = .nx [some (.oid st), some R, some (.int b), some (.int s), some (.int m), some (.int (k : Nat)), none, none, none, none, none] S1 := by
    unfold zod0
    simp [q1]
  have v1 : zod1 [some (.oid st), some R, some (.int b), some (.int s), some (.int m), some (.int (k : Nat)), none, none, none, none, none] S1 = .nx [some (.oid st), some R, some (.int b), some (.int s), some (.int m), some (.int (k : Nat)), some (.int (1 + (a : Nat))), none, none, none, none] S2 := by
    unfold zod1
    simp only [e_gSet, e_fBin, e_fC, Res.bind_ok, e_fCall, e_fCons, e_fVar, List.getElem?_cons_succ, List.getElem?_cons_zero, e_fCB, glR]
    simp [q2]
    all_goals (simp at q2; simp [q2])
  have un : ∀ d S', (gSeq zod2 (gSeq zod3 (gSeq zod4 (gSeq zod5 (gSeq zod6 (gSeq zod7 zod8)))))) [some (.oid st), some R, some (.int b), some (.int s), some (.int m), some (.int (k : Nat)), some (.int (1 + (a : Nat))), none, none, none, none] S2 = .rt d S' → S_p_law_odd [.oid st, R, .int b, .int s, .int m] S = .ok d S' := fun d S' q => by
    unfold S_p_law_odd
    rw [zod_eq, e_semOf, st0]
    unfold zod
    rw [e_gSeq, v0, Out.seq_nx, e_gSeq, v1, Out.seq_nx, q]
    rfl
  have k1 : short 1 = true := short_le (by omega)
  have k2 : short 2 = true := short_le (by omega)
  have k10 : short 10 = true := short_le (by omega)
  by_cases c0 : k = 0
  · subst c0
    obtain ⟨x, S3, hx, q3, d3⟩ := drawP (xs := oddA w as) d02.st (by simp [oddA]) (by simp [oddA])
    have gR : gList [R] S2 = .ok (.lst (.str w :: as.map D.int)) S2 := by
      rw [hR]
      simp [rwD, gList, isDic1, asD, gToL, asQ]
    refine ⟨x, S3, oddA_ok hw hB x hx, un x S3 ?_, d02.trans d3⟩
    unfold oddA at q3
    generalize as.map D.int = A at *
    have w2 : zod2 [some (.oid st), some R, some (.int b), some (.int s), some (.int m), some (.int ((0 : Nat) : Int)), some (.int (1 + (a : Nat))), none, none, none, none] S2 = .rt x S3 := by
      unfold zod2
      simp [gR, k1, k2, k10, q3]
    rw [e_gSeq, w2]
    rfl
  have n0 : ¬ (k : Int) = 0 := by omega
  have w2 : zod2 [some (.oid st), some R, some (.int b), some (.int s), some (.int m), some (.int (k : Nat)), some (.int (1 + (a : Nat))), none, none, none, none] S2 = .nx [some (.oid st), some R, some (.int b), some (.int s), some (.int m), some (.int (k : Nat)), some (.int (1 + (a : Nat))), none, none, none, none] S2 := by
    unfold zod2
    simp [n0, c0]
  by_cases c1 : k = 1
  · subst c1
    have ad := addT (.str w :: as.map D.int) [.int 0] (by simp) (by rw [la]; simp; omega) S2
    refine ⟨.tup ((.str w :: as.map D.int) ++ [.int 0]), S2, rowD_t (fun d hd => ?_) (by rw [List.length_append, la, List.length_singleton]; omega), un _ S2 ?_, d02⟩
    · rcases List.mem_append.mp hd with z | z
      · exact it d z
      · rw [List.mem_singleton.mp z]; exact ⟨by decide, by decide⟩
    · have w3 : zod3 [some (.oid st), some R, some (.int b), some (.int s), some (.int m), some (.int ((1 : Nat) : Int)), some (.int (1 + (a : Nat))), none, none, none, none] S2 = .rt (.tup ((.str w :: as.map D.int) ++ [.int 0])) S2 := by
        have ad' : gAdd R (.tup [.int 0]) S2 = .ok (.tup ((.str w :: as.map D.int) ++ [.int 0])) S2 := by
          rw [hR]
          exact ad
        generalize D.tup ((.str w :: as.map D.int) ++ [.int 0]) = Z at *
        unfold zod3
        simp [k1, ad']
      rw [e_gSeq, w2, Out.seq_nx, e_gSeq, w3]
      rfl
  have n1 : ¬ (k : Int) = 1 := by omega
  have w3 : zod3 [some (.oid st), some R, some (.int b), some (.int s), some (.int m), some (.int (k : Nat)), some (.int (1 + (a : Nat))), none, none, none, none] S2 = .nx [some (.oid st), some R, some (.int b), some (.int s), some (.int m), some (.int (k : Nat)), some (.int (1 + (a : Nat))), none, none, none, none] S2 := by
    unfold zod3
    simp [n1, c1]
  by_cases c2 : k = 2 ∨ as.length = 0
  · have sl := slLast (.str w) (as.map D.int) S2
    refine ⟨.tup ((.str w :: as.map D.int).take (as.map D.int).length), S2, rowD_t (fun d hd => it d (List.mem_of_mem_take hd)) (by rw [List.length_take]; simp; omega), un _ S2 ?_, d02⟩
    have w4 : zod4 [some (.oid st), some R, some (.int b), some (.int s), some (.int m), some (.int (k : Nat)), some (.int (1 + (a : Nat))), none, none, none, none] S2 = .rt (.tup ((.str w :: as.map D.int).take (as.map D.int).length)) S2 := by
      have sl' : gSl R none (some (-1)) S2 = .ok (.tup ((.str w :: as.map D.int).take (as.map D.int).length)) S2 := by
        rw [hR]
        exact sl
      generalize D.tup ((.str w :: as.map D.int).take (as.map D.int).length) = Z at *
      unfold zod4
      rcases c2 with z | z
      · have z' : (k : Int) = 2 := by omega
        simp [z', z, fSl, fPart, fPartN, sl']
      · have z' : (as.length : Int) = 0 := by omega
        by_cases y : k = 2
        · subst y
          simp [fSl, fPart, fPartN, sl']
        · have y' : ¬ (k : Int) = 2 := by omega
          simp [y', y, glR, z, fSl, fPart, fPartN, sl']
    rw [e_gSeq, w2, Out.seq_nx, e_gSeq, w3, Out.seq_nx, e_gSeq, w4]
    rfl
  have c2' : k ≠ 2 ∧ as.length ≠ 0 := ⟨fun z => c2 (.inl z), fun z => c2 (.inr z)⟩
  have n2 : ¬ (k : Int) = 2 := by have := c2'.1; omega
  have nl : ¬ (as.length : Int) = 0 := by have := c2'.2; omega
  have w4 : zod4 [some (.oid st), some R, some (.int b), some (.int s), some (.int m), some (.int (k : Nat)), some (.int (1 + (a : Nat))), none, none, none, none] S2 = .nx [some (.oid st), some R, some (.int b), some (.int s), some (.int m), some (.int (k : Nat)), some (.int (1 + (a : Nat))), none, none, none, none] S2 := by
    have nl1 : ¬ (as.length : Int) + 1 = 1 := by omega
    unfold zod4
    simp [n2, c2'.1, glR, nl1, c2'.2]
  have a0 : as ≠ [] := fun z => c2'.2 (by rw [z]; rfl)
  by_cases c3 : k = 3
  · subst c3
    obtain ⟨x, S3, hx, q3, d3⟩ := drawP (xs := (FT.map (·.1)).map D.str) d02.st (by decide) (by decide)
    obtain ⟨w', hw', rfl⟩ := List.mem_map.mp hx
    obtain ⟨q, hq, rfl⟩ := List.mem_map.mp hw'
    have hws := (all_forms q hq).2.2.1
    have sl := sl1 (.str w) (as.map D.int) S3
    have ad := addT [.str q.1] (as.map D.int) (by simp) (by simp; omega) S3
    refine ⟨.tup ([.str q.1] ++ as.map D.int), S3, rowD_t (fun d hd => ?_) (by simp; omega), un _ S3 ?_, d02.trans d3⟩
    · rcases List.mem_append.mp hd with z | z
      · rw [List.mem_singleton.mp z]; exact ⟨by simp only [D.sim, hws], by simp [D.dep]⟩
      · exact it d (List.mem_cons_of_mem _ z)
    · have kn : ∀ ρ, fKeysNew S_p_law_forms_o (fun ds es => pick [] ds es []) 0 0 0 (fun _ S => .ok [] S) (fun _ S => .ok [] S) ρ S2 = .ok ⟨(FT.map (·.1)).map D.str, none⟩ S2 := fun ρ => by
        unfold fKeysNew
        simp only [Res.bind_ok, List.length_nil]
        rw [if_pos (by simp [pick])]
        exact keys_forms S2
      have cf : ∀ ρ, compF none (mName 10) fYes (fVar 10) ((FT.map (·.1)).map D.str) [some (.oid st), some R, some (.int b), some (.int s), some (.int m), some (.int ((3 : Nat) : Int)), some (.int (1 + (a : Nat))), none, none, none, none] ρ = .ok (((FT.map (·.1)).map D.str).map fun d => d) ρ := fun ρ => DL.comp_map (f := fun d => d) _ fun d hd => ⟨_, rfl, by simp⟩
      have go : ∀ S' : Store, fComp (fKeysNew S_p_law_forms_o (fun ds es => pick [] ds es []) 0 0 0 (fun _ S => .ok [] S) (fun _ S => .ok [] S)) (mName 10) fYes (fVar 10) ([("_law_word", 10)].map (·.2)) finL [some (.oid st), some R, some (.int b), some (.int s), some (.int m), some (.int ((3 : Nat) : Int)), some (.int (1 + (a : Nat))), none, none, none, none] S2 = .ok (.lst ((FT.map (·.1)).map D.str)) S2 := fun _ => by
        rw [e_fComp, kn]
        simp only [Res.bind_ok, List.map_cons, List.map_nil, e_wipe1, e_wipe0, List.set_cons_succ, List.set_cons_zero]
        rw [cf, List.map_id']
        have sh : short ((FT.map (·.1)).map D.str).length = true := by decide
        simp only [Res.bind_ok, e_finL, sh, if_true]
      have w5 : zod5 [some (.oid st), some R, some (.int b), some (.int s), some (.int m), some (.int ((3 : Nat) : Int)), some (.int (1 + (a : Nat))), none, none, none, none] S2 = .rt (.tup ([.str q.1] ++ as.map D.int)) S3 := by
        have sl' : gSl R (some 1) none S3 = .ok (.tup (as.map D.int)) S3 := by
          rw [hR]
          exact sl
        generalize D.tup ([.str q.1] ++ as.map D.int) = Z at *
        generalize as.map D.int = A at *
        generalize (FT.map (·.1)).map D.str = Wl at *
        have go := go S2
        unfold zod5
        generalize fComp (fKeysNew S_p_law_forms_o (fun ds es => pick [] ds es []) 0 0 0 (fun _ S => .ok [] S) (fun _ S => .ok [] S)) (mName 10) fYes (fVar 10) ([("_law_word", 10)].map (·.2)) finL = CC at *
        simp at go
        simp [go, q3, k1, fSl, fPart, fPartN, sl', ad]
      rw [e_gSeq, w2, Out.seq_nx, e_gSeq, w3, Out.seq_nx, e_gSeq, w4, Out.seq_nx, e_gSeq, w5]
      rfl
  have n3 : ¬ (k : Int) = 3 := by omega
  have w5 : zod5 [some (.oid st), some R, some (.int b), some (.int s), some (.int m), some (.int (k : Nat)), some (.int (1 + (a : Nat))), none, none, none, none] S2 = .nx [some (.oid st), some R, some (.int b), some (.int s), some (.int m), some (.int (k : Nat)), some (.int (1 + (a : Nat))), none, none, none, none] S2 := by
    unfold zod5
    simp [n3, c3]
  have al : a < as.length := by
    have := c2'.2
    split at ha <;> omega
  obtain ⟨x, hx⟩ : ∃ x, (signs f)[a]? = some x := ⟨(signs f)[a]'(by omega), List.getElem?_eq_getElem (by omega)⟩
  obtain ⟨z, hzx, z1, z2⟩ := hz x (List.mem_of_getElem? hx)
  obtain ⟨lo, hi⟩ := z
  have zz : (-1000000000 ≤ hi) ∧ lo ≤ 1000000000 := by
    have mem := lookup_mem hzx
    simp only [lohi, List.mem_cons, List.not_mem_nil, or_false] at mem
    rcases mem with e | e | e | e | e | e <;> cases e <;> omega
  have bo := bound_ok hzx S2
  have ixs := ix_sign hx (by omega) S2
  have i0 : gIx R (.int 0) S2 = .ok (.str w) S2 := by
    rw [hR]
    simp [rwD]
  have w6 : zod6 [some (.oid st), some R, some (.int b), some (.int s), some (.int m), some (.int (k : Nat)), some (.int (1 + (a : Nat))), none, none, none, none] S2 = .nx [some (.oid st), some R, some (.int b), some (.int s), some (.int m), some (.int (k : Nat)), some (.int (1 + (a : Nat))), some (.int lo), some (.int hi), none, none] S2 := by
    have ea : 1 + (a : Int) - 1 = (a : Int) := by omega
    have fo := fo S2
    have ixf := ixf S2
    generalize D.dic formsK = Fk at *
    unfold zod6
    simp [fo, i0, ixf, ea, ixs, bo]
  obtain ⟨y, S3, hy, q3, d3⟩ := drawP (xs := oddB lo hi) d02.st (by simp [oddB]) (by simp [oddB])
  obtain ⟨ys, yd⟩ := oddB_ok z1 zz.2 zz.1 z2 y hy
  have w7 : zod7 [some (.oid st), some R, some (.int b), some (.int s), some (.int m), some (.int (k : Nat)), some (.int (1 + (a : Nat))), some (.int lo), some (.int hi), none, none] S2 = .nx [some (.oid st), some R, some (.int b), some (.int s), some (.int m), some (.int (k : Nat)), some (.int (1 + (a : Nat))), some (.int lo), some (.int hi), some y, none] S3 := by
    unfold oddB at q3
    unfold zod7
    simp [k1, k10, q3]
  have sA := slTake (.str w :: as.map D.int) (1 + a) (by rw [la]; omega) S3
  have sB := slDrop (.str w :: as.map D.int) (1 + a + 1) (by omega) (by rw [la]; omega) S3
  have c1e : (((1 + a : Nat)) : Int) = 1 + (a : Int) := by omega
  have c2e : (((1 + a + 1 : Nat)) : Int) = 1 + (a : Int) + 1 := by omega
  rw [c1e] at sA
  rw [c2e] at sB
  have ne : (D.str w :: as.map D.int).take (1 + a) ≠ [] := by
    rw [Nat.add_comm]
    simp
  have lt1 : ((D.str w :: as.map D.int).take (1 + a)).length ≤ 10 := by rw [List.length_take, la]; omega
  have lt2 : ((D.str w :: as.map D.int).drop (1 + a + 1)).length ≤ 10 := by rw [List.length_drop, la]; omega
  have a1 := addT _ [y] ne (by rw [List.length_singleton]; omega) S3
  have a2 := addT (((D.str w :: as.map D.int).take (1 + a)) ++ [y]) ((D.str w :: as.map D.int).drop (1 + a + 1)) (by simp) (by rw [List.length_append, List.length_singleton]; omega) S3
  refine ⟨.tup ((D.str w :: as.map D.int).take (1 + a) ++ [y] ++ (D.str w :: as.map D.int).drop (1 + a + 1)), S3, rowD_t (fun d hd => ?_) (by rw [List.length_append, List.length_append, List.length_singleton]; omega), un _ S3 ?_, d02.trans d3⟩
  · rcases List.mem_append.mp hd with t | t
    · rcases List.mem_append.mp t with t | t
      · exact it d (List.mem_of_mem_take t)
      · rw [List.mem_singleton.mp t]; exact ⟨ys, by omega⟩
    · exact it d (List.mem_of_mem_drop t)
  · have w8 : zod8 [some (.oid st), some R, some (.int b), some (.int s), some (.int m), some (.int (k : Nat)), some (.int (1 + (a : Nat))), some (.int lo), some (.int hi), some y, none] S3 = .rt (.tup ((D.str w :: as.map D.int).take (1 + a) ++ [y] ++ (D.str w :: as.map D.int).drop (1 + a + 1))) S3 := by
      have sA' : gSl R none (some (1 + (a : Int))) S3 = .ok (.tup ((D.str w :: as.map D.int).take (1 + a))) S3 := by
        rw [hR]
        exact sA
      have sB' : gSl R (some (1 + (a : Int) + 1)) none S3 = .ok (.tup ((D.str w :: as.map D.int).drop (1 + a + 1))) S3 := by
        rw [hR]
        exact sB
      generalize D.tup ((D.str w :: as.map D.int).take (1 + a) ++ [y] ++ (D.str w :: as.map D.int).drop (1 + a + 1)) = Z at *
      generalize D.tup ((D.str w :: as.map D.int).take (1 + a) ++ [y]) = Y at *
      generalize D.tup ((D.str w :: as.map D.int).take (1 + a)) = X1 at *
      generalize D.tup ((D.str w :: as.map D.int).drop (1 + a + 1)) = X2 at *
      unfold zod8
      simp [fSl, fPart, fPartN, sA', sB', k1, a1, a2]
    rw [e_gSeq, w2, Out.seq_nx, e_gSeq, w3, Out.seq_nx, e_gSeq, w4, Out.seq_nx, e_gSeq, w5, Out.seq_nx, e_gSeq, w6, Out.seq_nx, e_gSeq, w7, Out.seq_nx, w8]
end K03

/-! Hands and their rows drawn, and put otherwise. -/
namespace K03
open PySem L2 DL
noncomputable def zpl0 : FS := (gSet 3 (fLstO (fun _ S => .ok [] S)))
noncomputable def zpl1 : FS := (gSet 4 (fCall (callSub S_p_law_words) (fun ds es => pick [(0, 0)] ds es []) 1 0 1 (fCons (fVar 2) (fun _ S => .ok [] S)) (fun _ S => .ok [] S)))
noncomputable def zpl2b0 : FS := (gSet 6 (fIf (toB (fBin gEq (fCall S_p_law_next (fun ds es => pick [(0, 0), (0, 1)] ds es []) 2 0 2 (fCons (fVar 0) (fCons (fC (.int 24)) (fun _ S => .ok [] S))) (fun _ S => .ok [] S)) (fC (.int 1)))) (fBin gAdd (fC (.int 60)) (fCall S_p_law_next (fun ds es => pick [(0, 0), (0, 1)] ds es []) 2 0 2 (fCons (fVar 0) (fCons (fC (.int 2)) (fun _ S => .ok [] S))) (fun _ S => .ok [] S))) (fCall S_p_law_next (fun ds es => pick [(0, 0), (0, 1)] ds es []) 2 0 2 (fCons (fVar 0) (fCons (fC (.int 13)) (fun _ S => .ok [] S))) (fun _ S => .ok [] S))))
noncomputable def zpl2b1 : FS := (gExpr (fBM "list" gApp (fVar 3) (fCons (fComp (fRng1 (fCons (fVar 6) (fun _ S => .ok [] S))) (mName 7) fYes (fCall S_p_law_row (fun ds es => pick [(0, 0), (0, 1), (0, 2), (0, 3), (0, 4)] ds es []) 5 0 5 (fCons (fVar 0) (fCons (fCall S_p_law_pick (fun ds es => pick [(0, 0), (0, 1)] ds es []) 2 0 2 (fCons (fVar 0) (fCons (fVar 4) (fun _ S => .ok [] S))) (fun _ S => .ok [] S)) (fCons (fVar 1) (fCons (fVar 2) (fCons (fVar 6) (fun _ S => .ok [] S)))))) (fun _ S => .ok [] S)) ([("_law_at", 7)].map (·.2)) finO) (fun _ S => .ok [] S))))
noncomputable def zpl2b : FS := (gSeq zpl2b0 zpl2b1)
noncomputable def zpl2 : FS := (gFor (fRng1 (fCons (fBin gAdd (fC (.int 1)) (fCall S_p_law_next (fun ds es => pick [(0, 0), (0, 1)] ds es []) 2 0 2 (fCons (fVar 0) (fCons (fC (.int 4)) (fun _ S => .ok [] S))) (fun _ S => .ok [] S))) (fun _ S => .ok [] S))) (mName 5) zpl2b)
noncomputable def zpl3 : FS := (gRet (fVar 3))
noncomputable def zpl : FS := (gSeq zpl0 (gSeq zpl1 (gSeq zpl2 zpl3)))
theorem zpl_eq : m_p_law_plan = zpl := rfl
noncomputable def zsp0 : FS := (gSet 4 (fCall S_p_law_next (fun ds es => pick [(0, 0), (0, 1)] ds es []) 2 0 2 (fCons (fVar 0) (fCons (fCB gLen (fCons (fVar 1) (fun _ S => .ok [] S))) (fun _ S => .ok [] S))) (fun _ S => .ok [] S)))
noncomputable def zsp1 : FS := (gSet 5 (fBin gIx (fVar 1) (fVar 4)))
noncomputable def zsp2 : FS := (gIf (toB (fBin gEqN (fVar 5) (fLst (fun _ S => .ok [] S)))) (gRet (fVar 1)) gNil)
noncomputable def zsp3 : FS := (gSet 6 (fCall S_p_law_next (fun ds es => pick [(0, 0), (0, 1)] ds es []) 2 0 2 (fCons (fVar 0) (fCons (fCB gLen (fCons (fVar 5) (fun _ S => .ok [] S))) (fun _ S => .ok [] S))) (fun _ S => .ok [] S)))
noncomputable def zsp4 : FS := (gIf (fNotT (toB (fCall (callSub S_p_law_is_row) (fun ds es => pick [(0, 0), (0, 1), (0, 2), (0, 3)] ds es []) 4 0 4 (fCons (fBin gIx (fVar 5) (fVar 6)) (fCons (fVar 2) (fCons (fVar 3) (fCons (fCB gLen (fCons (fVar 5) (fun _ S => .ok [] S))) (fun _ S => .ok [] S))))) (fun _ S => .ok [] S)))) (gRet (fVar 1)) gNil)
noncomputable def zsp5 : FS := (gPut (fVar 5) (fVar 6) (fCall S_p_law_odd (fun ds es => pick [(0, 0), (0, 1), (0, 2), (0, 3), (0, 4)] ds es []) 5 0 5 (fCons (fVar 0) (fCons (fBin gIx (fVar 5) (fVar 6)) (fCons (fVar 2) (fCons (fVar 3) (fCons (fCB gLen (fCons (fVar 5) (fun _ S => .ok [] S))) (fun _ S => .ok [] S)))))) (fun _ S => .ok [] S)))
noncomputable def zsp6 : FS := (gRet (fVar 1))
noncomputable def zsp : FS := (gSeq zsp0 (gSeq zsp1 (gSeq zsp2 (gSeq zsp3 (gSeq zsp4 (gSeq zsp5 zsp6))))))
theorem zsp_eq : m_p_law_spoilt = zsp := rfl
/-- a plan: a list of lists that may change -/
structure PlA (S : Store) (st p : Nat) (hs : List Nat) (Ps : List (List D)) : Prop where
  top : S[p]? = some (.lst (hs.map D.oid))
  len : hs.length = Ps.length
  row : ∀ (i : Nat) o rs, hs[i]? = some o → Ps[i]? = some rs → S[o]? = some (.lst rs)
  nd : hs.Nodup
  np : p ∉ hs
  sn : st ∉ hs
  sp : st ≠ p
abbrev Sto (st : Nat) (ns : List Int) (S : Store) : Prop := ∃ v k, S[st]? = some (stO v k ns)
theorem PlA.drw {S S' : Store} {st p : Nat} {ns : List Int} {hs : List Nat} {Ps : List (List D)} (A : PlA S st p hs Ps) (d : Drw st ns S S') : PlA S' st p hs Ps :=
  ⟨d.old A.top A.sp.symm, A.len, fun i o rs h1 h2 => d.old (A.row i o rs h1 h2) fun e => A.sn (by rw [← e]; exact List.mem_of_getElem? h1), A.nd, A.np, A.sn, A.sp⟩
/-- a hand more, at a new place -/
theorem PlA.more {S : Store} {st p n : Nat} {hs : List Nat} {Ps : List (List D)} (A : PlA S st p hs Ps) {rs : List D} (hn : S[n]? = some (.lst rs)) (h1 : n ≠ p) (h2 : n ≠ st) (h3 : n ∉ hs) : PlA (S.set p (.lst (hs.map D.oid ++ [.oid n]))) st p (hs ++ [n]) (Ps ++ [rs]) := by
  refine ⟨by rw [set_eq A.top, List.map_append]; rfl, by rw [List.length_append, List.length_append, A.len]; rfl, fun i o rs' e1 e2 => ?_, ?_, ?_, ?_, A.sp⟩
  · by_cases hi : i < hs.length
    · rw [List.getElem?_append_left hi] at e1
      rw [List.getElem?_append_left (by rw [← A.len]; exact hi)] at e2
      rw [set_ne fun e => A.np (by rw [e]; exact List.mem_of_getElem? e1)]
      exact A.row i o rs' e1 e2
    · rw [List.getElem?_append_right (by omega)] at e1
      rw [List.getElem?_append_right (by rw [← A.len]; omega)] at e2
      have e0 : i - hs.length = 0 := by
        cases q : i - hs.length with
        | zero => rfl
        | succ k => rw [q] at e1; simp at e1
      rw [← A.len] at e2
      rw [e0] at e1 e2
      simp at e1 e2
      subst e1
      subst e2
      rw [set_ne h1.symm]
      exact hn
  · rw [List.nodup_append]
    exact ⟨A.nd, by simp, fun a ha b hb e => h3 (by rw [List.mem_singleton.mp hb] at e; rw [← e]; exact ha)⟩
  · intro h
    rcases List.mem_append.mp h with z | z
    · exact A.np z
    · exact h1 (List.mem_singleton.mp z).symm
  · intro h
    rcases List.mem_append.mp h with z | z
    · exact A.sn z
    · exact h2 (List.mem_singleton.mp z).symm
theorem nd_inj {l : List Nat} (h : l.Nodup) {i j a : Nat} (hi : l[i]? = some a) (hj : l[j]? = some a) : i = j := by
  obtain ⟨l1, a1⟩ := List.getElem?_eq_some_iff.mp hi
  obtain ⟨l2, a2⟩ := List.getElem?_eq_some_iff.mp hj
  rcases Nat.lt_trichotomy i j with c | c | c
  · exact absurd (a1.trans a2.symm) (List.pairwise_iff_getElem.mp h i j l1 l2 c)
  · exact c
  · exact absurd (a2.trans a1.symm) (List.pairwise_iff_getElem.mp h j i l2 l1 c)
/-- a hand's rows are others -/
theorem PlA.put {S : Store} {st p : Nat} {hs : List Nat} {Ps : List (List D)} (A : PlA S st p hs Ps) {i o : Nat} (ho : hs[i]? = some o) (hi : i < Ps.length) (rs' : List D) : PlA (S.set o (.lst rs')) st p hs (Ps.set i rs') := by
  refine ⟨by rw [set_ne fun e => A.np (by rw [← e]; exact List.mem_of_getElem? ho)]; exact A.top, by rw [List.length_set]; exact A.len, fun j q rs e1 e2 => ?_, A.nd, A.np, A.sn, A.sp⟩
  have ro := A.row i o Ps[i] ho (List.getElem?_eq_getElem hi)
  by_cases hj : j = i
  · subst hj
    rw [ho] at e1
    cases e1
    rw [List.getElem?_set_self hi] at e2
    cases e2
    exact set_eq ro
  · have ne : o ≠ q := fun e => hj (nd_inj A.nd (by rw [e1, e]) ho)
    rw [set_ne ne]
    rw [List.getElem?_set_ne (Ne.symm hj)] at e2
    exact A.row j q rs e1 e2
theorem Sto.set {st : Nat} {ns : List Int} {S : Store} (h : Sto st ns S) {o : Nat} {x : SO} (hn : o ≠ st) : Sto st ns (S.set o x) := by
  obtain ⟨v, k, h⟩ := h
  exact ⟨v, k, by rw [set_ne hn]; exact h⟩
theorem Sto.app {st : Nat} {ns : List Int} {S : Store} (h : Sto st ns S) (T : Store) : Sto st ns (S ++ T) := by
  obtain ⟨v, k, h⟩ := h
  exact ⟨v, k, app_old h⟩
def RowsD (rs : List D) : Prop := rs.length ≤ 61 ∧ ∀ r ∈ rs, RowD r
def PsD (Ps : List (List D)) : Prop := ∀ rs ∈ Ps, RowsD rs
theorem cRng18 {n : Nat} (h : n < 1000000) : cRng (n : Int) = true := cRng_nat h
theorem plan_body {b s : Int} (hb : 1 ≤ b ∧ b ≤ 6) (hs' : 0 ≤ s ∧ s ≤ 6) {st p : Nat} {ns : List Int} {S : Store} {hs : List Nat} {Ps : List (List D)} (A : PlA S st p hs Ps) (hst : Sto st ns S) (hl : hs.length ≤ 50) (x5 x6 x7 : Option D) (h7 : x7 = none) :
    ∃ (y6 : Option D) (n : Nat) (rs : List D) (S' : Store), RowsD rs ∧ PlA S' st p (hs ++ [n]) (Ps ++ [rs]) ∧ Sto st ns S' ∧ zpl2b [some (.oid st), some (.int b), some (.int s), some (.oid p), some (.lst ((wl s).map D.str)), x5, x6, x7] S = .nx [some (.oid st), some (.int b), some (.int s), some (.oid p), some (.lst ((wl s).map D.str)), x5, y6, x7] S' := by
  subst h7
  obtain ⟨k, S1, hk, q1, d1⟩ := drawN hst 24 (by decide) (by decide)
  have q1 : S_p_law_next [.oid st, .int 24] S = .ok (.int (k : Nat)) S1 := q1
  obtain ⟨m, S2, hm, d2, e0⟩ : ∃ (m : Nat) (S2 : Store), m ≤ 61 ∧ Drw st ns S S2 ∧ ∀ W, zpl2b0 [some (.oid st), some (.int b), some (.int s), some (.oid p), W, x5, x6, none] S = .nx [some (.oid st), some (.int b), some (.int s), some (.oid p), W, x5, some (.int (m : Nat)), none] S2 := by
    by_cases c : k = 1
    · subst c
      obtain ⟨u, S2, hu, q2, d2⟩ := drawN d1.st 2 (by decide) (by decide)
      have q2 : S_p_law_next [.oid st, .int 2] S1 = .ok (.int (u : Nat)) S2 := q2
      refine ⟨60 + u, S2, by omega, d1.trans d2, fun W => ?_⟩
      have e : ((60 + u : Nat) : Int) = 60 + (u : Int) := by omega
      rw [e]
      unfold zpl2b0
      simp [q1, q2]
    · obtain ⟨u, S2, hu, q2, d2⟩ := drawN d1.st 13 (by decide) (by decide)
      have q2 : S_p_law_next [.oid st, .int 13] S1 = .ok (.int (u : Nat)) S2 := q2
      have c' : ¬ (k : Int) = 1 := by omega
      refine ⟨u, S2, by omega, d1.trans d2, fun W => ?_⟩
      unfold zpl2b0
      simp [q1, q2, c, c']
  obtain ⟨W, hW⟩ : ∃ W, W = some (D.lst ((wl s).map D.str)) := ⟨_, rfl⟩
  have wlp : 0 < (wl s).length ∧ (wl s).length ≤ 20 := by
    refine ⟨List.length_pos_of_mem (a := ("number" : Str)) (List.mem_filter.mpr ⟨by decide, ?_⟩), List.length_filter_le _ _⟩
    unfold wp
    have a : (("lay" : Str) == "number") = false := by decide +kernel
    have b : (("take" : Str) == "number") = false := by decide +kernel
    rw [a, b]
    simp
  have e0 := e0 W
  obtain ⟨ys, S3, cq, yl, yr, d3⟩ := comp_inv (m := mName 7) (fe := (fCall S_p_law_row (fun ds es => pick [(0, 0), (0, 1), (0, 2), (0, 3), (0, 4)] ds es []) 5 0 5 (fCons (fVar 0) (fCons (fCall S_p_law_pick (fun ds es => pick [(0, 0), (0, 1)] ds es []) 2 0 2 (fCons (fVar 0) (fCons (fVar 4) (fun _ S => .ok [] S))) (fun _ S => .ok [] S)) (fCons (fVar 1) (fCons (fVar 2) (fCons (fVar 6) (fun _ S => .ok [] S)))))) (fun _ S => .ok [] S))) (ρ := [some (.oid st), some (.int b), some (.int s), some (.oid p), W, x5, some (.int (m : Nat)), none])
    (fun S' => Drw st ns S2 S') RowD (rng 0 m) S2 (Drw.refl d2.st) (by
    rintro d hd T dT
    obtain ⟨x, T1, hx, q3, d3⟩ := drawP (xs := (wl s).map D.str) dT.st (by rw [List.length_map]; exact wlp.1) (by rw [List.length_map]; omega)
    obtain ⟨w, hw, rfl⟩ := List.mem_map.mp hx
    obtain ⟨f, hf, hsg⟩ := word_ok (m := (m : Nat)) hb hs' (by omega) hw
    obtain ⟨as, T2, la, lB, q4, d4⟩ := row_draw hf hsg d3.st
    obtain ⟨F, hwk, _⟩ := form_ok hf
    refine ⟨_, rwD w as, T2, rfl, ?_, rowD_of hwk lB (by have := F.ln; omega), (dT.trans d3).trans d4⟩
    rw [hW]
    generalize rwD w as = R at *
    generalize (wl s).map D.str = L at *
    simp [q3, q4])
  have lr : ys.length = m := by
    rw [rng_length] at yl
    omega
  have cr : cRng (m : Int) = true := cRng18 (by omega)
  have sh : short ys.length = true := short_le (by omega)
  have d03 := d2.trans d3
  have A3 := A.drw d03
  have n3 : (S3 ++ [SO.lst ys])[S3.length]? = some (.lst ys) := by
    rw [List.getElem?_append_right (Nat.le_refl _), Nat.sub_self]
    rfl
  have A4 : PlA (S3 ++ [SO.lst ys]) st p hs Ps := ⟨app_old A3.top, A3.len, fun i o rs h1 h2 => app_old (A3.row i o rs h1 h2), A3.nd, A3.np, A3.sn, A3.sp⟩
  have lp : p < S3.length := lt_of A3.top
  have ls : st < S3.length := by
    obtain ⟨v, k, h⟩ := d03.st
    exact lt_of h
  have nh : S3.length ∉ hs := fun h => by
    obtain ⟨i, hi⟩ := List.mem_iff_getElem?.mp h
    have il : i < Ps.length := by rw [← A3.len]; exact (List.getElem?_eq_some_iff.mp hi).1
    have := lt_of (A3.row i _ _ hi (List.getElem?_eq_getElem il))
    omega
  have A5 := A4.more n3 (by omega) (by omega) nh
  have ap := app_o (x := .oid S3.length) A4.top (by rw [List.length_map]; omega)
  refine ⟨some (.int (m : Nat)), S3.length, ys, _, ⟨by omega, yr⟩, A5, (Sto.app d03.st [SO.lst ys]).set A.sp.symm, ?_⟩
  have t2 : tyS S2 (.oid p) = some "list" := tyS_o (A.drw d2).top
  rw [← hW]
  unfold zpl2b
  rw [e_gSeq, e0, Out.seq_nx]
  unfold zpl2b1
  generalize (fCall S_p_law_row (fun ds es => pick [(0, 0), (0, 1), (0, 2), (0, 3), (0, 4)] ds es []) 5 0 5 _ _) = FE1 at *
  simp only [e_gExpr, e_fBM, e_fVar, List.getElem?_cons_succ, List.getElem?_cons_zero, Res.bind_ok, e_fCons, e_fComp, e_fRng1, cr, if_true, List.map_cons, List.map_nil, e_wipe1, e_wipe0, List.set_cons_succ, List.set_cons_zero]
  simp [t2, cq, finO, sh, ap]
theorem plan_ok {b s : Int} (hb : 1 ≤ b ∧ b ≤ 6) (hs' : 0 ≤ s ∧ s ≤ 6) {st : Nat} {ns : List Int} {S : Store} (hst : Sto st ns S) :
    ∃ (p : Nat) (hs : List Nat) (Ps : List (List D)) (S' : Store), PlA S' st p hs Ps ∧ Sto st ns S' ∧ (1 ≤ Ps.length ∧ Ps.length ≤ 4) ∧ PsD Ps ∧ S_p_law_plan [.oid st, .int b, .int s] S = .ok (.oid p) S' := by
  have sl : st < S.length := by
    obtain ⟨v, k, h⟩ := hst
    exact lt_of h
  have wo := fun S => words_ok s S
  have A0 : PlA (S ++ [SO.lst []]) st S.length [] [] := ⟨by rw [List.getElem?_append_right (Nat.le_refl _), Nat.sub_self]; rfl, rfl, fun i o rs h => by simp at h, List.nodup_nil, by simp, by simp, by omega⟩
  obtain ⟨u, S1, hu, q1, d1⟩ := drawN (Sto.app hst [SO.lst []]) 4 (by decide) (by decide)
  have q1 : S_p_law_next [.oid st, .int 4] (S ++ [SO.lst []]) = .ok (.int (u : Nat)) S1 := q1
  obtain ⟨W, hW⟩ : ∃ W, W = some (D.lst ((wl s).map D.str)) := ⟨_, rfl⟩
  obtain ⟨ρ', S', lo, y5, y6, hs, Ps, rfl, A, hsto, hP, hD⟩ := loop_inv (m := mName 5) (b := zpl2b) (fun j ρ S' => ∃ (y5 y6 : Option D) (hs : List Nat) (Ps : List (List D)), ρ = [some (.oid st), some (.int b), some (.int s), some (.oid S.length), W, y5, y6, none] ∧ PlA S' st S.length hs Ps ∧ Sto st ns S' ∧ Ps.length = j ∧ PsD Ps)
    (rng 0 (1 + (u : Nat))) 0 [some (.oid st), some (.int b), some (.int s), some (.oid S.length), W, none, none, none] S1 ⟨none, none, [], [], rfl, A0.drw d1, d1.st, rfl, fun rs h => by cases h⟩ (by
    rintro j e ρ T hd ⟨y5, y6, hs, Ps, rfl, A, hsto, hP, hD⟩
    obtain ⟨rfl, hj⟩ := rng_get hd
    obtain ⟨z6, n, rs, T', rD, A', st', hb'⟩ := plan_body hb hs' A hsto (by have := A.len; omega) (some (.int (0 + (j : Nat)))) y6 none rfl
    rw [← hW] at hb'
    refine ⟨_, _, _, rfl, .inl hb', _, _, hs ++ [n], Ps ++ [rs], rfl, A', st', by rw [List.length_append, List.length_singleton]; omega, fun x hx => ?_⟩
    rcases List.mem_append.mp hx with t | t
    · exact hD x t
    · rw [List.mem_singleton.mp t]
      exact rD)
  rw [rng_length] at hP
  refine ⟨S.length, hs, Ps, S', A, hsto, by omega, hD, ?_⟩
  have st0 : startD 8 [.oid st, .int b, .int s] = [some (.oid st), some (.int b), some (.int s), none, none, none, none, none] := rfl
  have v0 : zpl0 [some (.oid st), some (.int b), some (.int s), none, none, none, none, none] S = .nx [some (.oid st), some (.int b), some (.int s), some (.oid S.length), none, none, none, none] (S ++ [.lst []]) := by
    unfold zpl0
    simp
  have v1 : zpl1 [some (.oid st), some (.int b), some (.int s), some (.oid S.length), none, none, none, none] (S ++ [SO.lst []]) = .nx [some (.oid st), some (.int b), some (.int s), some (.oid S.length), W, none, none, none] (S ++ [SO.lst []]) := by
    rw [hW]
    generalize (wl s).map D.str = L at *
    unfold zpl1
    simp [wo]
  have v2 : zpl2 [some (.oid st), some (.int b), some (.int s), some (.oid S.length), W, none, none, none] (S ++ [SO.lst []]) = .nx [some (.oid st), some (.int b), some (.int s), some (.oid S.length), W, y5, y6, none] S' := by
    rw [← lo]
    have c : cRng (1 + (u : Int)) = true := by
      have := cRng18 (show 1 + u < 1000000 by omega)
      have e : ((1 + u : Nat) : Int) = 1 + (u : Int) := by omega
      rw [e] at this
      exact this
    generalize S ++ [SO.lst []] = S0 at *
    unfold zpl2
    simp [q1, c]
  unfold S_p_law_plan
  rw [zpl_eq, e_semOf, st0]
  unfold zpl
  rw [e_gSeq, v0, Out.seq_nx, e_gSeq, v1, Out.seq_nx, e_gSeq, v2, Out.seq_nx]
  unfold zpl3
  simp
theorem eqN_o {S : Store} {n : Nat} {xs : List D} (h : S[n]? = some (.lst xs)) : gEqN (.oid n) (.lst []) S = .ok (.bl xs.isEmpty) S := by
  simp [gEqN, asL, h]
theorem ixO {S : Store} {n : Nat} {xs : List D} (h : S[n]? = some (.lst xs)) {i : Nat} (hi : i < xs.length) : gIx (.oid n) (.int (i : Nat)) S = .ok xs[i] S := by
  rw [ix_o h, at_nat _ _ hi, List.getElem?_eq_getElem hi]
theorem spoilt_ok {b s : Int} (hb : 1 ≤ b ∧ b ≤ 6) (hs' : 0 ≤ s ∧ s ≤ 6) {st p : Nat} {ns : List Int} {S : Store} {hs : List Nat} {Ps : List (List D)} (A : PlA S st p hs Ps) (hst : Sto st ns S) (hl : 1 ≤ Ps.length ∧ Ps.length ≤ 4) (hD : PsD Ps) :
    ∃ (Ps' : List (List D)) (S' : Store), PlA S' st p hs Ps' ∧ Sto st ns S' ∧ Ps'.length = Ps.length ∧ PsD Ps' ∧ S_p_law_spoilt [.oid st, .oid p, .int b, .int s] S = .ok (.oid p) S' := by
  have lh := A.len
  have lo := len_o18 A.top (by rw [List.length_map]; omega)
  rw [List.length_map] at lo
  obtain ⟨i, S1, hi, q1, d1⟩ := drawN hst hs.length (by omega) (by omega)
  have A1 := A.drw d1
  have hiP : i < Ps.length := by omega
  obtain ⟨o, ho⟩ : ∃ o, hs[i]? = some o := ⟨hs[i], List.getElem?_eq_getElem hi⟩
  have r1 := A1.row i o Ps[i] ho (List.getElem?_eq_getElem hiP)
  obtain ⟨rl, rd⟩ := hD Ps[i] (List.getElem_mem hiP)
  obtain ⟨rs, hrs⟩ : ∃ rs, rs = Ps[i] := ⟨_, rfl⟩
  rw [← hrs] at r1 rl rd
  have ix1 : gIx (.oid p) (.int (i : Nat)) S1 = .ok (.oid o) S1 := by
    rw [ix_o A1.top, at_nat _ _ (by rw [List.length_map]; exact hi), List.getElem?_map, ho]
    rfl
  have e1 := eqN_o r1
  have st0 : startD 7 [.oid st, .oid p, .int b, .int s] = [some (.oid st), some (.oid p), some (.int b), some (.int s), none, none, none] := rfl
  have v0 : zsp0 [some (.oid st), some (.oid p), some (.int b), some (.int s), none, none, none] S = .nx [some (.oid st), some (.oid p), some (.int b), some (.int s), some (.int (i : Nat)), none, none] S1 := by
    unfold zsp0
    simp [lo, q1]
  have v1 : zsp1 [some (.oid st), some (.oid p), some (.int b), some (.int s), some (.int (i : Nat)), none, none] S1 = .nx [some (.oid st), some (.oid p), some (.int b), some (.int s), some (.int (i : Nat)), some (.oid o), none] S1 := by
    unfold zsp1
    simp [ix1]
  have un : ∀ S', (gSeq zsp2 (gSeq zsp3 (gSeq zsp4 (gSeq zsp5 zsp6)))) [some (.oid st), some (.oid p), some (.int b), some (.int s), some (.int (i : Nat)), some (.oid o), none] S1 = .rt (.oid p) S' → S_p_law_spoilt [.oid st, .oid p, .int b, .int s] S = .ok (.oid p) S' := fun S' q => by
    unfold S_p_law_spoilt
    rw [zsp_eq, e_semOf, st0]
    unfold zsp
    rw [e_gSeq, v0, Out.seq_nx, e_gSeq, v1, Out.seq_nx, q]
    rfl
  by_cases c : rs = []
  · refine ⟨Ps, S1, A1, d1.st, rfl, hD, un S1 ?_⟩
    have v2 : zsp2 [some (.oid st), some (.oid p), some (.int b), some (.int s), some (.int (i : Nat)), some (.oid o), none] S1 = .rt (.oid p) S1 := by
      rw [c] at e1
      unfold zsp2
      simp [e1]
    rw [e_gSeq, v2]
    rfl
  have ne : rs.isEmpty = false := by
    cases rs with
    | nil => exact absurd rfl c
    | cons _ _ => rfl
  rw [ne] at e1
  have pos : 0 < rs.length := List.length_pos_iff.mpr c
  have v2 : zsp2 [some (.oid st), some (.oid p), some (.int b), some (.int s), some (.int (i : Nat)), some (.oid o), none] S1 = .nx [some (.oid st), some (.oid p), some (.int b), some (.int s), some (.int (i : Nat)), some (.oid o), none] S1 := by
    unfold zsp2
    simp [e1]
  have on : o ≠ st := fun e => A.sn (by rw [← e]; exact List.mem_of_getElem? ho)
  have lr1 := len_o18 r1 (by omega)
  obtain ⟨a, S2, ha, q2, d2⟩ := drawN d1.st rs.length pos (by omega)
  have r2 := d2.old r1 on
  have lr2 := len_o18 r2 (by omega)
  have ixr := ixO r2 ha
  have A2 := A1.drw d2
  have v3 : zsp3 [some (.oid st), some (.oid p), some (.int b), some (.int s), some (.int (i : Nat)), some (.oid o), none] S1 = .nx [some (.oid st), some (.oid p), some (.int b), some (.int s), some (.int (i : Nat)), some (.oid o), some (.int (a : Nat))] S2 := by
    unfold zsp3
    simp [lr1, q2]
  obtain ⟨R, hR⟩ : ∃ R, R = rs[a] := ⟨_, rfl⟩
  have RD : RowD R := hR ▸ rd _ (List.getElem_mem ha)
  rw [← hR] at ixr
  have ir := isrow_any (b := b) (s := s) (m := (rs.length : Nat)) RD S2
  cases hf : fitA b s (rs.length : Nat) R with
  | false =>
    rw [hf] at ir
    refine ⟨Ps, S2, A2, d2.st, rfl, hD, un S2 ?_⟩
    have v4 : zsp4 [some (.oid st), some (.oid p), some (.int b), some (.int s), some (.int (i : Nat)), some (.oid o), some (.int (a : Nat))] S2 = .rt (.oid p) S2 := by
      unfold zsp4
      simp [ixr, lr2, ir]
    rw [e_gSeq, v2, Out.seq_nx, e_gSeq, v3, Out.seq_nx, e_gSeq, v4]
    rfl
  | true =>
    rw [hf] at ir
    obtain ⟨d, S3, dD, q3, d3⟩ := odd_draw hb hs' (by omega) hf d2.st
    have r3 := d3.old r2 on
    have A3 := A2.drw d3
    have sto : storeAt (.oid o) (.int (a : Nat)) d S3 = some (S3.set o (.lst (rs.set a d))) := by
      simp [storeAt, r3, ixN, ha]
    refine ⟨Ps.set i (rs.set a d), S3.set o (.lst (rs.set a d)), A3.put ho hiP _, Sto.set d3.st on, by rw [List.length_set], fun x hx => ?_, un _ ?_⟩
    · rcases List.mem_or_eq_of_mem_set hx with z | z
      · exact hD x z
      · rw [z]
        refine ⟨by rw [List.length_set]; exact rl, fun r hr => ?_⟩
        rcases List.mem_or_eq_of_mem_set hr with y | y
        · exact rd r y
        · rw [y]; exact dD
    · have v4 : zsp4 [some (.oid st), some (.oid p), some (.int b), some (.int s), some (.int (i : Nat)), some (.oid o), some (.int (a : Nat))] S2 = .nx [some (.oid st), some (.oid p), some (.int b), some (.int s), some (.int (i : Nat)), some (.oid o), some (.int (a : Nat))] S2 := by
        unfold zsp4
        simp [ixr, lr2, ir]
      have v5 : zsp5 [some (.oid st), some (.oid p), some (.int b), some (.int s), some (.int (i : Nat)), some (.oid o), some (.int (a : Nat))] S2 = .nx [some (.oid st), some (.oid p), some (.int b), some (.int s), some (.int (i : Nat)), some (.oid o), some (.int (a : Nat))] (S3.set o (.lst (rs.set a d))) := by
        unfold zsp5
        simp [ixr, lr2, q3, sto]
      rw [e_gSeq, v2, Out.seq_nx, e_gSeq, v3, Out.seq_nx, e_gSeq, v4, Out.seq_nx, e_gSeq, v5, Out.seq_nx]
      unfold zsp6
      simp
end K03

/-! What is due of hands, by the law. -/
namespace K03
open PySem L2 DL
noncomputable def zfb0 : FS := (gIf (fOrT (fNotT (toB (fCall (callSub S_p_law_whole) (fun ds es => pick [(0, 0), (0, 1), (0, 2)] ds es []) 3 0 3 (fCons (fVar 1) (fCons (fC (.int 1)) (fCons (fC (.int 6)) (fun _ S => .ok [] S)))) (fun _ S => .ok [] S)))) (fNotT (toB (fCall (callSub S_p_law_whole) (fun ds es => pick [(0, 0), (0, 1), (0, 2)] ds es []) 3 0 3 (fCons (fVar 2) (fCons (fC (.int 0)) (fCons (fC (.int 6)) (fun _ S => .ok [] S)))) (fun _ S => .ok [] S))))) (gRet (fTup (fCons (fUn gNeg (fC (.int 1))) (fCons (fUn gNeg (fC (.int 1))) (fun _ S => .ok [] S))))) gNil)
noncomputable def zfb1 : FS := (gIf (fOrT (fNotT (toB (fCB gIsi (fCons (fVar 0) (fCons (fTup (fCons (fC (.ty "list")) (fCons (fC (.ty "tuple")) (fun _ S => .ok [] S)))) (fun _ S => .ok [] S)))))) (fNotT (toB (fChain gLe gLe (fC (.int 1)) (fCB gLen (fCons (fVar 0) (fun _ S => .ok [] S))) (fC (.int 4)))))) (gRet (fTup (fCons (fUn gNeg (fC (.int 1))) (fCons (fUn gNeg (fC (.int 1))) (fun _ S => .ok [] S))))) gNil)
noncomputable def zfb2 : FS := (gIf (toB (fBin gNe (fComp (fSeq (fVar 0)) (mName 4) (fOrT (fNotT (toB (fCB gIsi (fCons (fVar 4) (fCons (fTup (fCons (fC (.ty "list")) (fCons (fC (.ty "tuple")) (fun _ S => .ok [] S)))) (fun _ S => .ok [] S)))))) (toB (fBin gGt (fCB gLen (fCons (fVar 4) (fun _ S => .ok [] S))) (fC (.int 60))))) (fVar 4) ([("_law_rows", 4)].map (·.2)) finL) (fLst (fun _ S => .ok [] S)))) (gRet (fTup (fCons (fUn gNeg (fC (.int 1))) (fCons (fUn gNeg (fC (.int 1))) (fun _ S => .ok [] S))))) gNil)
noncomputable def zfb3b0b0 : FS := (gIf (fNotT (toB (fCall (callSub S_p_law_is_row) (fun ds es => pick [(0, 0), (0, 1), (0, 2), (0, 3)] ds es []) 4 0 4 (fCons (fVar 6) (fCons (fVar 1) (fCons (fVar 2) (fCons (fCB gLen (fCons (fVar 4) (fun _ S => .ok [] S))) (fun _ S => .ok [] S))))) (fun _ S => .ok [] S)))) (gRet (fTup (fCons (fVar 3) (fCons (fVar 5) (fun _ S => .ok [] S))))) gNil)
noncomputable def zfb3b0 : FS := (gFor (fEnum (fCons (fVar 4) (fun _ S => .ok [] S))) (mTup 2 (mCons (mName 5) (mCons (mName 6) (fun ds ρ _ => match ds with | [] => some ρ | _ => none)))) zfb3b0b0)
noncomputable def zfb3 : FS := (gFor (fEnum (fCons (fVar 0) (fun _ S => .ok [] S))) (mTup 2 (mCons (mName 3) (mCons (mName 4) (fun ds ρ _ => match ds with | [] => some ρ | _ => none)))) zfb3b0)
noncomputable def zfb4 : FS := (gRet (fC .non))
noncomputable def zfb : FS := (gSeq zfb0 (gSeq zfb1 (gSeq zfb2 (gSeq zfb3 zfb4))))
theorem zfb_eq : m_p_law_first_bad = zfb := rfl
/-- a thing of which it is known whether it is a list or a tuple -/
def KQ (S : Store) (d : D) : Prop := (asQ S d).isSome = true ∨ (asQ S d = none ∧ ∃ T, tyS S d = some T ∧ (T = "NoneType" ∨ T = "str" ∨ T = "dict" ∨ T = "int" ∨ T = "bool"))
theorem ty_q {S : Store} {d : D} {xs : List D} (h : asQ S d = some xs) : tyS S d = some "list" ∨ tyS S d = some "tuple" := by
  cases d with
  | tup ds => exact .inr rfl
  | lst ds => exact .inl rfl
  | scr ds => exact .inl rfl
  | oid n =>
    have h : asL S (.oid n) = some xs := h
    unfold asL at h
    simp only [] at h
    refine .inl ?_
    unfold tyS
    simp only []
    split at h <;> first | (rename_i q; rw [q]) | cases h
  | _ => cases h
theorem isi_q {S : Store} {d : D} (h : KQ S d) : gIsi [d, .tup [.ty "list", .ty "tuple"]] S = .ok (.bl (asQ S d).isSome) S := by
  have e : gIsi [d, .tup [.ty "list", .ty "tuple"]] S = gIsiN [d, .tup [.ty "list", .ty "tuple"]] S := rfl
  rw [e]
  rcases h with h | ⟨h, T, hT, hk⟩
  · obtain ⟨xs, hx⟩ := Option.isSome_iff_exists.mp h
    rw [hx]
    rcases ty_q hx with t | t <;> simp [gIsiN, t, tysOf, isiA, isiT]
  · rw [h]
    rcases hk with rfl | rfl | rfl | rfl | rfl <;> simp [gIsiN, hT, tysOf, isiA, isiT]
theorem len_q {S : Store} {d : D} {xs : List D} (h : asQ S d = some xs) (hl : xs.length ≤ 100000) : gLen [d] S = .ok (.int xs.length) S := by
  have sh : short xs.length = true := short_le (by omega)
  have e1 : isDic1 [d] S = false := by
    cases d with
    | oid n =>
      have h : asL S (.oid n) = some xs := h
      unfold asL at h
      simp only [] at h
      simp only [isDic1, asD]
      split at h <;> first | (rename_i q; rw [q]; rfl) | cases h
    | dic ks => cases h
    | _ => rfl
  have e2 : isStr1 [d] S = false := by
    cases d <;> first | rfl | cases h
  simp [gLen, e1, e2, gLenQ, h, sh]
def rowsQ (S : Store) (d : D) : List D := (asQ S d).getD []
def badR (b s m : Int) : Nat → List D → Option Nat
  | _, [] => none
  | k, r :: rs => if fitA b s m r then badR b s m (k + 1) rs else some k
def badH (b s : Int) : Nat → List (List D) → Option (Nat × Nat)
  | _, [] => none
  | h, rs :: P => match badR b s rs.length 0 rs with
    | some k => some (h, k)
    | none => badH b s (h + 1) P
/-- too long, or no list of rows -/
def offQ (S : Store) (d : D) : Bool := match asQ S d with
  | none => true
  | some rs => decide (60 < rs.length)
def fbV (S : Store) (w s : D) (y : D) : Option (Int × Int) := if (whl w 1 6 && whl s 0 6) = false then some (-1, -1) else match asQ S y with
  | none => some (-1, -1)
  | some xs => if ¬ (1 ≤ xs.length ∧ xs.length ≤ 4) then some (-1, -1) else if xs.any (offQ S) = true then some (-1, -1) else match w, s with
    | .int b, .int c => (badH b c 0 (xs.map (rowsQ S))).map fun q => ((q.1 : Int), (q.2 : Int))
    | _, _ => none
def fbD : Option (Int × Int) → D
  | none => .non
  | some q => .tup [.int q.1, .int q.2]
theorem whl_int {d : D} {a b : Int} (h : whl d a b = true) : ∃ i, d = .int i ∧ a ≤ i ∧ i ≤ b := by
  cases d with
  | int i =>
    simp only [whl, Bool.and_eq_true, decide_eq_true_eq] at h
    exact ⟨i, rfl, h.1, h.2⟩
  | _ => cases h
structure PlanD (y : D) : Prop where
  kq : KQ [] y
  pu : y.pure = true
  nt : ∀ ds, y ≠ .tup ds
  it : ∀ xs, y = .lst xs → xs.length ≤ 1000 ∧ ∀ d ∈ xs, KQ [] d ∧ d.sim = true ∧ d.dep ≤ 40 ∧ (∀ ds, d ≠ .tup ds) ∧ ∀ rs, d = .lst rs → RowsD rs
theorem pure_q {y : D} (hp : y.pure = true) (nt : ∀ ds, y ≠ .tup ds) {xs : List D} (h : asQ [] y = some xs) : y = .lst xs ∨ y = .scr xs := by
  cases y with
  | lst ds => cases h; exact .inl rfl
  | scr ds => cases h; exact .inr rfl
  | tup ds => exact absurd rfl (nt ds)
  | oid n => simp [D.pure] at hp
  | _ => cases h
theorem fbR_loop {b s : Int} {rs0 : List D} (hl : rs0.length ≤ 100) (h : Nat) (x0 : Option D) (S : Store) : ∀ (rs : List D) (k : Nat) (y5 y6 : Option D), (∀ r ∈ rs, RowD r) →
    (badR b s rs0.length k rs = none → ∃ z5 z6, loopF none (mTup 2 (mCons (mName 5) (mCons (mName 6) (fun ds ρ _ => match ds with | [] => some ρ | _ => none)))) zfb3b0b0 (enumD k rs) [x0, some (.int b), some (.int s), some (.int h), some (.lst rs0), y5, y6] S = .nx [x0, some (.int b), some (.int s), some (.int h), some (.lst rs0), z5, z6] S) ∧
    (∀ j, badR b s rs0.length k rs = some j → loopF none (mTup 2 (mCons (mName 5) (mCons (mName 6) (fun ds ρ _ => match ds with | [] => some ρ | _ => none)))) zfb3b0b0 (enumD k rs) [x0, some (.int b), some (.int s), some (.int h), some (.lst rs0), y5, y6] S = .rt (.tup [.int h, .int j]) S)
  | [], k, y5, y6, _ => ⟨fun _ => ⟨y5, y6, loopF_nil⟩, fun j e => (by cases e)⟩
  | r :: rs, k, y5, y6, hr => by
    have e0 : enumD k (r :: rs) = .tup [.int (k : Nat), r] :: enumD (k + 1) rs := rfl
    have ir := isrow_any (b := b) (s := s) (m := (rs0.length : Nat)) (hr r List.mem_cons_self) S
    have sh : short rs0.length = true := short_le (by omega)
    have hb : zfb3b0b0 [x0, some (.int b), some (.int s), some (.int h), some (.lst rs0), some (.int (k : Nat)), some r] S = if fitA b s (rs0.length : Nat) r = true then .nx [x0, some (.int b), some (.int s), some (.int h), some (.lst rs0), some (.int (k : Nat)), some r] S else .rt (.tup [.int h, .int (k : Nat)]) S := by
      have k2 : short 2 = true := short_le (by omega)
      unfold zfb3b0b0
      simp [sh, ir, k2]
      cases fitA b s (rs0.length : Nat) r <;> simp
    rw [e0, loopF_cons (ρ1 := [x0, some (.int b), some (.int s), some (.int h), some (.lst rs0), some (.int (k : Nat)), some r]) rfl, hb]
    unfold badR
    cases hc : fitA b s (rs0.length : Nat) r with
    | true =>
      simp only [if_true]
      exact fbR_loop hl h x0 S rs (k + 1) _ _ fun r h1 => hr r (List.mem_cons_of_mem _ h1)
    | false =>
      exact ⟨fun e => (by cases e), fun j e => (by
        cases e
        rfl)⟩
theorem fbH_loop {b s : Int} (x0 : Option D) (S : Store) : ∀ (P : List (List D)) (h : Nat) (y3 y4 y5 y6 : Option D), (∀ rs ∈ P, RowsD rs) →
    (badH b s h P = none → ∃ z3 z4 z5 z6, loopF none (mTup 2 (mCons (mName 3) (mCons (mName 4) (fun ds ρ _ => match ds with | [] => some ρ | _ => none)))) zfb3b0 (enumD h (P.map D.lst)) [x0, some (.int b), some (.int s), y3, y4, y5, y6] S = .nx [x0, some (.int b), some (.int s), z3, z4, z5, z6] S) ∧
    (∀ q, badH b s h P = some q → loopF none (mTup 2 (mCons (mName 3) (mCons (mName 4) (fun ds ρ _ => match ds with | [] => some ρ | _ => none)))) zfb3b0 (enumD h (P.map D.lst)) [x0, some (.int b), some (.int s), y3, y4, y5, y6] S = .rt (.tup [.int q.1, .int q.2]) S)
  | [], h, y3, y4, y5, y6, _ => ⟨fun _ => ⟨y3, y4, y5, y6, loopF_nil⟩, fun j e => (by cases e)⟩
  | rs :: P, h, y3, y4, y5, y6, hr => by
    have e0 : enumD h ((rs :: P).map D.lst) = .tup [.int (h : Nat), .lst rs] :: enumD (h + 1) (P.map D.lst) := rfl
    obtain ⟨l61, rD⟩ := hr rs List.mem_cons_self
    obtain ⟨ba, bb⟩ := fbR_loop (b := b) (s := s) (rs0 := rs) (by omega) h x0 S rs 0 y5 y6 rD
    have st : ∀ o, loopF none (mTup 2 (mCons (mName 5) (mCons (mName 6) (fun ds ρ _ => match ds with | [] => some ρ | _ => none)))) zfb3b0b0 (enumD 0 rs) [x0, some (.int b), some (.int s), some (.int (h : Nat)), some (.lst rs), y5, y6] S = o → zfb3b0 [x0, some (.int b), some (.int s), some (.int (h : Nat)), some (.lst rs), y5, y6] S = o := fun o q => by
      unfold zfb3b0
      simp
      exact q
    rw [e0, loopF_cons (ρ1 := [x0, some (.int b), some (.int s), some (.int (h : Nat)), some (.lst rs), y5, y6]) rfl]
    unfold badH
    cases hb : badR b s rs.length 0 rs with
    | none =>
      obtain ⟨z5, z6, e⟩ := ba hb
      rw [st _ e]
      exact fbH_loop x0 S P (h + 1) _ _ _ _ fun rs h1 => hr rs (List.mem_cons_of_mem _ h1)
    | some k =>
      rw [st _ (bb k hb)]
      exact ⟨fun e => (by cases e), fun j e => (by
        cases e
        rfl)⟩
theorem fb_ok {w s y : D} (hw : okK w = true) (hwp : w.pure = true) (hs : okK s = true) (hsp : s.pure = true) (hy : PlanD y) (ns : ∀ xs, y ≠ .scr xs) (S : Store) : callSub S_p_law_first_bad [y, w, s] S = .ok (fbD (fbV [] w s y)) S := by
  have k2 : short 2 = true := short_le (by omega)
  have un : (zfb [some y, some w, some s, none, none, none, none] []).res = .ok (fbD (fbV [] w s y)) [] → callSub S_p_law_first_bad [y, w, s] S = .ok (fbD (fbV [] w s y)) S := fun q => by
    refine callSub_ok (S' := []) (by simp [pureL, hy.pu, hwp, hsp]) ?_ (by cases fbV [] w s y <;> rfl)
    unfold S_p_law_first_bad
    rw [zfb_eq]
    exact q
  have cw := fun S => c_lwhole hw hwp 1 6 S
  have cs := fun S => c_lwhole hs hsp 0 6 S
  refine un ?_
  unfold zfb
  rw [e_gSeq]
  cases hz : (whl w 1 6 && whl s 0 6) with
  | false =>
    have v0 : zfb0 [some y, some w, some s, none, none, none, none] [] = .rt (.tup [.int (-1), .int (-1)]) [] := by
      unfold zfb0
      cases h1 : whl w 1 6 with
      | false =>
        rw [h1] at cw
        simp [cw, k2]
      | true =>
        rw [h1] at cw hz
        have h2 : whl s 0 6 = false := by simpa using hz
        rw [h2] at cs
        simp [cw, cs, k2]
    rw [v0]
    simp [fbV, hz, fbD]
  | true =>
    rw [Bool.and_eq_true] at hz
    obtain ⟨h1, h2⟩ := hz
    rw [h1] at cw
    rw [h2] at cs
    have v0 : zfb0 [some y, some w, some s, none, none, none, none] [] = .nx [some y, some w, some s, none, none, none, none] [] := by
      unfold zfb0
      simp [cw, cs]
    rw [v0, Out.seq_nx, e_gSeq]
    have iq := isi_q hy.kq
    cases hq : asQ [] y with
    | none =>
      rw [hq] at iq
      have v1 : zfb1 [some y, some w, some s, none, none, none, none] [] = .rt (.tup [.int (-1), .int (-1)]) [] := by
        unfold zfb1
        simp only [Option.isSome_none] at iq
        simp [k2, iq]
      rw [v1]
      simp [fbV, h1, h2, hq, fbD]
    | some xs =>
      rw [hq] at iq
      simp only [Option.isSome_some] at iq
      obtain rfl : y = .lst xs := by
        rcases pure_q hy.pu hy.nt hq with e | e
        · exact e
        · exact absurd e (ns xs)
      obtain ⟨lx, ix⟩ := hy.it xs rfl
      have shx : short xs.length = true := short_le (by omega)
      by_cases c : 1 ≤ xs.length ∧ xs.length ≤ 4
      · have c1 : (1 : Int) ≤ xs.length := by omega
        have c2 : (xs.length : Int) ≤ 4 := by omega
        have v1 : zfb1 [some (.lst xs), some w, some s, none, none, none, none] [] = .nx [some (.lst xs), some w, some s, none, none, none, none] [] := by
          unfold zfb1
          simp [k2, iq, shx, c1, c2]
        rw [v1, Out.seq_nx, e_gSeq]
        have fl : (xs.filter (offQ [])).length ≤ 4 := Nat.le_trans (List.length_filter_le _ _) c.2
        have sL : short (xs.filter (offQ [])).length = true := short_le (by omega)
        have fsim : (D.lst (xs.filter (offQ []))).sim = true ∧ (D.lst (xs.filter (offQ []))).dep ≤ 60 := by
          refine ⟨?_, ?_⟩
          · simp only [D.sim]
            exact simL_all.mpr fun d hd => (ix d (List.mem_filter.mp hd).1).2.1
          · simp only [D.dep]
            have : depL (xs.filter (offQ [])) ≤ 40 := depL_le.mpr fun d hd => (ix d (List.mem_filter.mp hd).1).2.2.1
            omega
        have nq := ne_D fsim.1 (e := .lst []) (by rfl) fsim.2 (by decide) []
        have eq : (!(D.lst (xs.filter (offQ []))).py.eqv (D.lst []).py) = xs.any (offQ []) := by
          cases hfl : xs.filter (offQ []) with
          | nil =>
            have : xs.any (offQ []) = false := by
              rw [List.any_eq_false]
              intro d hd hp
              have : d ∈ xs.filter (offQ []) := List.mem_filter.mpr ⟨hd, hp⟩
              rw [hfl] at this
              cases this
            rw [this]
            simp [D.py, pyL, PyData.eqv, PyData.eqvAll]
          | cons d ds =>
            have hd : d ∈ xs.filter (offQ []) := by rw [hfl]; exact List.mem_cons_self
            have : xs.any (offQ []) = true := List.any_eq_true.mpr ⟨d, (List.mem_filter.mp hd).1, (List.mem_filter.mp hd).2⟩
            rw [this]
            simp [D.py, pyL, PyData.eqv, PyData.eqvAll]
        rw [eq] at nq
        have cf : compF none (mName 4) (fOrT (fNotT (toB (fCB gIsi (fCons (fVar 4) (fCons (fTup (fCons (fC (.ty "list")) (fCons (fC (.ty "tuple")) (fun _ S => .ok [] S)))) (fun _ S => .ok [] S)))))) (toB (fBin gGt (fCB gLen (fCons (fVar 4) (fun _ S => .ok [] S))) (fC (.int 60))))) (fVar 4) xs [some (.lst xs), some w, some s, none, none, none, none] [] = .ok ((xs.filter (offQ [])).map fun d => d) [] := by
          refine DL.comp_filter (p := offQ []) (f := fun d => d) _ ?_
          intro d hd
          obtain ⟨kd, sd, dd, td, rd⟩ := ix d hd
          have iqd := isi_q kd
          refine ⟨_, rfl, ?_, fun _ => by simp⟩
          unfold offQ
          cases hqd : asQ [] d with
          | none =>
            rw [hqd] at iqd
            simp only [Option.isSome_none] at iqd
            simp [k2, iqd]
          | some rs =>
            rw [hqd] at iqd
            simp only [Option.isSome_some] at iqd
            obtain rfl : d = .lst rs := by
              rcases pure_q (sim_pure d sd) td hqd with e | e
              · exact e
              · rw [e] at sd; simp [D.sim] at sd
            have lr := (rd rs rfl).1
            have shr : short rs.length = true := short_le (by omega)
            simp [k2, iqd, shr]
            omega
        rw [List.map_id'] at cf
        have v2 : ∀ A, xs.any (offQ []) = A → zfb2 [some (.lst xs), some w, some s, none, none, none, none] [] = if A = true then .rt (.tup [.int (-1), .int (-1)]) [] else .nx [some (.lst xs), some w, some s, none, none, none, none] [] := fun A hA => by
          rw [hA] at nq
          unfold zfb2
          simp only [e_gIf, e_toB, e_fBin, e_fComp, e_fSeq, e_fVar, List.getElem?_cons_zero, Res.bind_ok, e_seqD_l, List.map_cons, List.map_nil, e_wipe1, e_wipe0, List.set_cons_succ, List.set_cons_zero]
          rw [cf]
          generalize xs.filter (offQ []) = L at *
          simp [sL, nq, k2]
          all_goals (cases A <;> simp)
        cases hA : xs.any (offQ []) with
        | true =>
          rw [v2 true hA, if_pos rfl]
          simp [fbV, h1, h2, hq, c.1, c.2, hA, fbD]
        | false =>
          rw [v2 false hA, if_neg Bool.false_ne_true, Out.seq_nx, e_gSeq]
          obtain ⟨b, rfl, _, _⟩ := whl_int h1
          obtain ⟨c', rfl, _, _⟩ := whl_int h2
          have rows : xs = (xs.map (rowsQ [])).map D.lst := by
            rw [List.map_map]
            have : ∀ d ∈ xs, (D.lst ∘ rowsQ []) d = d := fun d hd => by
              obtain ⟨kd, sd, dd, td, rd⟩ := ix d hd
              have no := List.any_eq_false.mp hA d hd
              unfold offQ at no
              cases hqd : asQ [] d with
              | none => rw [hqd] at no; simp at no
              | some rs =>
                rcases pure_q (sim_pure d sd) td hqd with e | e
                · subst e
                  rfl
                · rw [e] at sd; simp [D.sim] at sd
            exact (List.map_congr_left this).symm ▸ (List.map_id xs).symm
          have rD : ∀ rs ∈ xs.map (rowsQ []), RowsD rs := fun rs hr => by
            obtain ⟨d, hd, rfl⟩ := List.mem_map.mp hr
            obtain ⟨kd, sd, dd, td, rd⟩ := ix d hd
            have no := List.any_eq_false.mp hA d hd
            unfold offQ at no
            cases hqd : asQ [] d with
            | none => rw [hqd] at no; simp at no
            | some rs =>
              rcases pure_q (sim_pure d sd) td hqd with e | e
              · subst e
                exact rd rs rfl
              · rw [e] at sd; simp [D.sim] at sd
          obtain ⟨la, lb⟩ := fbH_loop (b := b) (s := c') (some (.lst xs)) [] (xs.map (rowsQ [])) 0 none none none none rD
          rw [← rows] at la lb
          have st : ∀ o, loopF none (mTup 2 (mCons (mName 3) (mCons (mName 4) (fun ds ρ _ => match ds with | [] => some ρ | _ => none)))) zfb3b0 (enumD 0 xs) [some (.lst xs), some (.int b), some (.int c'), none, none, none, none] [] = o → zfb3 [some (.lst xs), some (.int b), some (.int c'), none, none, none, none] [] = o := fun o q => by
            unfold zfb3
            simp
            exact q
          have fv : fbV [] (.int b) (.int c') (.lst xs) = (badH b c' 0 (xs.map (rowsQ []))).map fun q => ((q.1 : Int), (q.2 : Int)) := by
            unfold fbV
            rw [h1, h2, if_neg (by decide), hq]
            simp only []
            rw [if_neg (fun z => z c), hA, if_neg (by decide)]
          rw [fv]
          cases hb : badH b c' 0 (xs.map (rowsQ [])) with
          | none =>
            obtain ⟨z3, z4, z5, z6, e⟩ := la hb
            rw [st _ e, Out.seq_nx]
            unfold zfb4
            simp [fbD]
          | some q =>
            rw [st _ (lb q hb)]
            rfl
      · have v1 : zfb1 [some (.lst xs), some w, some s, none, none, none, none] [] = .rt (.tup [.int (-1), .int (-1)]) [] := by
          unfold zfb1
          by_cases c1 : (1 : Int) ≤ xs.length
          · have c2 : ¬ (xs.length : Int) ≤ 4 := by omega
            simp [k2, iq, shx, c1, c2]
          · simp [k2, iq, shx, c1]
        rw [v1]
        have fv : fbV [] w s (.lst xs) = some (-1, -1) := by
          unfold fbV
          rw [h1, h2, if_neg (by decide), hq]
          simp only []
          rw [if_pos c]
        rw [fv]
        rfl
end K03

/-! A Program made of hands that lie anyhow. -/
namespace K03
open PySem L2 DL
noncomputable def zin0 : FS := (gIf (fOrT (fNotT (toB (fCall (callSub S_is_whole) (fun ds es => pick [(0, 0), (0, 1), (0, 2)] ds es []) 3 0 3 (fCons (fVar 2) (fCons (fC (.int 1)) (fCons (fC (.int (6))) (fun _ S => .ok [] S)))) (fun _ S => .ok [] S)))) (fNotT (toB (fCall (callSub S_is_whole) (fun ds es => pick [(0, 0), (0, 1), (0, 2)] ds es []) 3 0 3 (fCons (fVar 3) (fCons (fC (.int 0)) (fCons (fC (.int (6))) (fun _ S => .ok [] S)))) (fun _ S => .ok [] S))))) (gRaiX "BadProgram" ["hand", "row"] (fCons (fUn gNeg (fC (.int 1))) (fCons (fUn gNeg (fC (.int 1))) (fun _ S => .ok [] S)))) gNil)
noncomputable def zin1 : FS := (gIf (fOrT (fNotT (toB (fCall S_is_row (fun ds es => pick [(0, 0)] ds es []) 1 0 1 (fCons (fVar 1) (fun _ S => .ok [] S)) (fun _ S => .ok [] S)))) (fNotT (toB (fChain gLe gLe (fC (.int 1)) (fCB gLen (fCons (fVar 1) (fun _ S => .ok [] S))) (fC (.int (4))))))) (gRaiX "BadProgram" ["hand", "row"] (fCons (fUn gNeg (fC (.int 1))) (fCons (fUn gNeg (fC (.int 1))) (fun _ S => .ok [] S)))) gNil)
noncomputable def zin2 : FS := (gIf (fNotT (toB (fCB (gAllAny true) (fCons (fComp (fSeq (fVar 1)) (mName 5) fYes (fAndV (fCall S_is_row (fun ds es => pick [(0, 0)] ds es []) 1 0 1 (fCons (fVar 5) (fun _ S => .ok [] S)) (fun _ S => .ok [] S)) (fBin gLe (fCB gLen (fCons (fVar 5) (fun _ S => .ok [] S))) (fC (.int (60))))) ([("rows", 5)].map (·.2)) finL) (fun _ S => .ok [] S))))) (gRaiX "BadProgram" ["hand", "row"] (fCons (fUn gNeg (fC (.int 1))) (fCons (fUn gNeg (fC (.int 1))) (fun _ S => .ok [] S)))) gNil)
noncomputable def zin3b0 : FS := (gSet 6 (fCall (callSub S_bounds_of) (fun ds es => pick [(0, 0), (0, 1), (0, 2)] ds es []) 3 0 3 (fCons (fVar 2) (fCons (fVar 3) (fCons (fCB gLen (fCons (fVar 5) (fun _ S => .ok [] S))) (fun _ S => .ok [] S)))) (fun _ S => .ok [] S)))
noncomputable def zin3b1b0 : FS := (gIf (fNotT (toB (fCall (callSub S_fits_row) (fun ds es => pick [(0, 0), (0, 1)] ds es []) 2 0 2 (fCons (fVar 8) (fCons (fVar 6) (fun _ S => .ok [] S))) (fun _ S => .ok [] S)))) (gRaiX "BadProgram" ["hand", "row"] (fCons (fVar 4) (fCons (fVar 7) (fun _ S => .ok [] S)))) gNil)
noncomputable def zin3b1 : FS := (gFor (fEnumQ (fCons (fVar 5) (fun _ S => .ok [] S))) (mTup 2 (mCons (mName 7) (mCons (mName 8) (fun ds ρ _ => match ds with | [] => some ρ | _ => none)))) zin3b1b0)
noncomputable def zin3b : FS := (gSeq zin3b0 zin3b1)
noncomputable def zin3 : FS := (gFor (fEnumQ (fCons (fVar 1) (fun _ S => .ok [] S))) (mTup 2 (mCons (mName 4) (mCons (mName 5) (fun ds ρ _ => match ds with | [] => some ρ | _ => none)))) zin3b)
noncomputable def zin4 : FS := (gFld ["Program"] "plan" (fVar 0) (fComp (fSeq (fVar 1)) (mName 5) fYes (fCB gList (fCons (fVar 5) (fun _ S => .ok [] S))) ([("rows", 5)].map (·.2)) finL))
noncomputable def zin5 : FS := (gFld2 ["Program"] "wide" "shared" (fVar 0) (fVar 0) (fTup (fCons (fVar 2) (fCons (fVar 3) (fun _ S => .ok [] S)))))
noncomputable def zin : FS := (gSeq zin0 (gSeq zin1 (gSeq zin2 (gSeq zin3 (gSeq zin4 zin5)))))
theorem zin_eq : m_Program_init = zin := rfl
theorem isrow_q {S : Store} {d : D} (h : KQ S d) : S_is_row [d] S = .ok (.bl (asQ S d).isSome) S := by
  have q := isi_q h
  unfold S_is_row
  rw [zis_eq, e_semOf]
  have st : startD 1 [d] = [some d] := rfl
  have k2 : short 2 = true := short_le (by omega)
  rw [st]
  unfold zis0
  simp [k2, q]
theorem seq_q {S : Store} {d : D} {xs : List D} (h : asQ S d = some xs) : ∃ c, seqD d S = .ok ⟨xs, c⟩ S ∧ okC c S := by
  cases d with
  | tup ds => cases h; exact ⟨none, rfl, trivial⟩
  | lst ds => cases h; exact ⟨none, rfl, trivial⟩
  | scr ds => cases h; exact ⟨none, rfl, trivial⟩
  | oid n =>
    have h : asL S (.oid n) = some xs := h
    exact ⟨some (.oid n, xs), by simp [seqD, h], h⟩
  | _ => cases h
theorem enum_q {S : Store} {d : D} {xs : List D} (h : asQ S d = some xs) (ns : ∀ ds, d ≠ .scr ds) : ∃ c, enumQ [d] S = .ok ⟨enumD 0 xs, c⟩ S ∧ okC c S := by
  cases d with
  | tup ds => cases h; exact ⟨none, rfl, trivial⟩
  | lst ds => cases h; exact ⟨none, rfl, trivial⟩
  | scr ds => exact absurd rfl (ns ds)
  | oid n =>
    have h : asL S (.oid n) = some xs := h
    exact ⟨some (.oid n, xs), by simp [enumQ, h], h⟩
  | _ => cases h
theorem list_q {S : Store} {d : D} {xs : List D} (h : asQ S d = some xs) : gList [d] S = .ok (.lst xs) S := by
  have e1 : isDic1 [d] S = false := by
    cases d with
    | oid n =>
      have h : asL S (.oid n) = some xs := h
      unfold asL at h
      simp only [] at h
      simp only [isDic1, asD]
      split at h <;> first | (rename_i q; rw [q]; rfl) | cases h
    | dic ks => cases h
    | _ => rfl
  simp [gList, e1, gToL, h]
theorem compQ_nil {c : Option (D × List D)} {m : FG} {ft : DL.FT} {fe : FE} {ρ : EnvD} {S : Store} (h : okC c S) : compF c m ft fe [] ρ S = .ok [] S := by
  rw [compF, if_pos h]
theorem compQ_map {c : Option (D × List D)} {m : FG} {fe : FE} {f : D → D} {ρ : EnvD} {S : Store} (hc : okC c S) : ∀ (ds : List D), (∀ d ∈ ds, ∃ ρ1, m d ρ S = some ρ1 ∧ fe ρ1 S = .ok (f d) S) → compF c m fYes fe ds ρ S = .ok (ds.map f) S
  | [], _ => compQ_nil hc
  | d :: ds, h => by
    obtain ⟨ρ1, h1, h2⟩ := h d List.mem_cons_self
    have ih := compQ_map hc ds (fun x hx => h x (List.mem_cons_of_mem _ hx))
    rw [compF, if_pos hc, h1]
    simp only [fYes, Res.noEx_ok, Res.bind_ok, if_true, h2, ih, List.map_cons]
theorem loopS_nil {m : FG} {b : FS} {c : Option (D × List D)} {ρ : EnvD} {S : Store} (h : okC c S) : loopF c m b [] ρ S = .nx ρ S := by
  rw [loopF, if_pos h]
theorem loopS_cons {m : FG} {b : FS} {c : Option (D × List D)} {d : D} {ds : List D} {ρ ρ1 : EnvD} {S : Store} (h : okC c S) (hm : m d ρ S = some ρ1) : loopF c m b (d :: ds) ρ S = (match b ρ1 S with
    | .nx ρ S => loopF c m b ds ρ S
    | .ct ρ S => loopF c m b ds ρ S
    | .bk ρ S => .nx ρ S
    | o => o) := by
  rw [loopF, if_pos h]
  simp only [hm]
  all_goals (cases b ρ1 S <;> rfl)
theorem bsOf_map {α : Type} (g : α → Bool) : ∀ l : List α, bsOf (l.map fun x => D.bl (g x)) = some (l.map g)
  | [] => rfl
  | x :: l => by simp [bsOf, bsOf_map g l]
theorem all_bl {α : Type} (g : α → Bool) (l : List α) (S : Store) : gAllAny true [.lst (l.map fun x => D.bl (g x))] S = .ok (.bl (l.all g)) S := by
  have e : asL S (.lst (l.map fun x => D.bl (g x))) = some (l.map fun x => D.bl (g x)) := rfl
  simp only [gAllAny, e, Option.bind_some, bsOf_map]
  simp [List.all_map]
/-- hands as they may lie -/
structure HandQ (S : Store) (x : D) : Prop where
  kq : KQ S x
  ns : ∀ ds, x ≠ .scr ds
  it : ∀ xs, asQ S x = some xs → xs.length ≤ 1000 ∧ ∀ d ∈ xs, KQ S d ∧ (∀ ds, d ≠ .scr ds) ∧ ∀ rs, asQ S d = some rs → rs.length ≤ 100 ∧ ∀ r ∈ rs, RowD r
abbrev exBP (i j : Int) : List (Str × D) := [("row", .int j), ("hand", .int i)]
section
variable {S : Store}
theorem inR_loop {b s : Int} {m : Nat} (h : Nat) (x0 x1 x2 x3 x5 : Option D) {c : Option (D × List D)} (hc : okC c S) : ∀ (rs : List D) (k : Nat) (y7 y8 : Option D), (∀ r ∈ rs, RowD r) →
    (badR b s m k rs = none → ∃ z7 z8, loopF c (mTup 2 (mCons (mName 7) (mCons (mName 8) (fun ds ρ _ => match ds with | [] => some ρ | _ => none)))) zin3b1b0 (enumD k rs) [x0, x1, x2, x3, some (.int h), x5, some (.dic (bndK b s m)), y7, y8] S = .nx [x0, x1, x2, x3, some (.int h), x5, some (.dic (bndK b s m)), z7, z8] S) ∧
    (∀ j, badR b s m k rs = some j → ∃ ρ', loopF c (mTup 2 (mCons (mName 7) (mCons (mName 8) (fun ds ρ _ => match ds with | [] => some ρ | _ => none)))) zin3b1b0 (enumD k rs) [x0, x1, x2, x3, some (.int h), x5, some (.dic (bndK b s m)), y7, y8] S = .ex "BadProgram" (exBP h j) ρ' S)
  | [], k, y7, y8, _ => ⟨fun _ => ⟨y7, y8, loopS_nil hc⟩, fun j e => (by cases e)⟩
  | r :: rs, k, y7, y8, hr => by
    have e0 : enumD k (r :: rs) = .tup [.int (k : Nat), r] :: enumD (k + 1) rs := rfl
    have ir := fits_any (b := b) (s := s) (m := (m : Nat)) (hr r List.mem_cons_self) S
    have hb : zin3b1b0 [x0, x1, x2, x3, some (.int h), x5, some (.dic (bndK b s m)), some (.int (k : Nat)), some r] S = if fitA b s (m : Nat) r = true then .nx [x0, x1, x2, x3, some (.int h), x5, some (.dic (bndK b s m)), some (.int (k : Nat)), some r] S else .ex "BadProgram" (exBP h (k : Nat)) [x0, x1, x2, x3, some (.int h), x5, some (.dic (bndK b s m)), some (.int (k : Nat)), some r] S := by
      generalize bndK b s m = B at *
      unfold zin3b1b0
      simp [ir, gRaiX]
      cases fitA b s (m : Nat) r <;> simp
    rw [e0, loopS_cons (ρ1 := [x0, x1, x2, x3, some (.int h), x5, some (.dic (bndK b s m)), some (.int (k : Nat)), some r]) hc rfl, hb]
    unfold badR
    cases hf : fitA b s (m : Nat) r with
    | true =>
      simp only [if_true]
      exact inR_loop h x0 x1 x2 x3 x5 hc rs (k + 1) _ _ fun r h1 => hr r (List.mem_cons_of_mem _ h1)
    | false =>
      exact ⟨fun e => (by cases e), fun j e => (by
        cases e
        exact ⟨_, rfl⟩)⟩
theorem inH_loop {b s : Int} (x0 x1 : Option D) {c : Option (D × List D)} (hc : okC c S) : ∀ (xs : List D) (h : Nat) (y4 y5 y6 y7 y8 : Option D), (∀ d ∈ xs, (∀ ds, d ≠ .scr ds) ∧ ∃ rs, asQ S d = some rs ∧ rs.length ≤ 100 ∧ ∀ r ∈ rs, RowD r) →
    (badH b s h (xs.map (rowsQ S)) = none → ∃ z4 z5 z6 z7 z8, loopF c (mTup 2 (mCons (mName 4) (mCons (mName 5) (fun ds ρ _ => match ds with | [] => some ρ | _ => none)))) zin3b (enumD h xs) [x0, x1, some (.int b), some (.int s), y4, y5, y6, y7, y8] S = .nx [x0, x1, some (.int b), some (.int s), z4, z5, z6, z7, z8] S) ∧
    (∀ q, badH b s h (xs.map (rowsQ S)) = some q → ∃ ρ', loopF c (mTup 2 (mCons (mName 4) (mCons (mName 5) (fun ds ρ _ => match ds with | [] => some ρ | _ => none)))) zin3b (enumD h xs) [x0, x1, some (.int b), some (.int s), y4, y5, y6, y7, y8] S = .ex "BadProgram" (exBP q.1 q.2) ρ' S)
  | [], h, y4, y5, y6, y7, y8, _ => ⟨fun _ => ⟨y4, y5, y6, y7, y8, loopS_nil hc⟩, fun j e => (by cases e)⟩
  | d :: xs, h, y4, y5, y6, y7, y8, hr => by
    have e0 : enumD h (d :: xs) = .tup [.int (h : Nat), d] :: enumD (h + 1) xs := rfl
    obtain ⟨ns, rs, hq, l100, rD⟩ := hr d List.mem_cons_self
    obtain ⟨c2, e2, hc2⟩ := enum_q hq ns
    have ln := len_q hq (by omega)
    have bo := bounds_ok b s (rs.length : Nat) S
    have rw1 : rowsQ S d = rs := by simp [rowsQ, hq]
    obtain ⟨ba, bb⟩ := inR_loop (b := b) (s := s) (m := rs.length) h x0 x1 (some (.int b)) (some (.int s)) (some d) hc2 rs 0 y7 y8 rD
    have st : ∀ o, loopF c2 (mTup 2 (mCons (mName 7) (mCons (mName 8) (fun ds ρ _ => match ds with | [] => some ρ | _ => none)))) zin3b1b0 (enumD 0 rs) [x0, x1, some (.int b), some (.int s), some (.int h), some d, some (.dic (bndK b s rs.length)), y7, y8] S = o → zin3b [x0, x1, some (.int b), some (.int s), some (.int (h : Nat)), some d, y6, y7, y8] S = o := fun o q => by
      generalize bndK b s rs.length = B at *
      unfold zin3b zin3b0 zin3b1
      simp [ln, bo, e2]
      exact q
    rw [e0, loopS_cons (ρ1 := [x0, x1, some (.int b), some (.int s), some (.int (h : Nat)), some d, y6, y7, y8]) hc rfl]
    rw [List.map_cons, rw1]
    unfold badH
    cases hb : badR b s rs.length 0 rs with
    | none =>
      obtain ⟨z7, z8, e⟩ := ba hb
      rw [st _ e]
      exact inH_loop x0 x1 hc xs (h + 1) _ _ _ _ _ fun d h1 => hr d (List.mem_cons_of_mem _ h1)
    | some k =>
      obtain ⟨ρ', e⟩ := bb k hb
      rw [st _ e]
      exact ⟨fun e => (by cases e), fun j e => (by
        cases e
        exact ⟨_, rfl⟩)⟩
theorem init_gen {q : Nat} {x w s : D} (hq : S[q]? = some (.ins "Program" [])) (hw : okK w = true) (hwp : w.pure = true) (hs : okK s = true) (hsp : s.pure = true) (hx : HandQ S x) :
    (∀ z, fbV S w s x = some z → ∃ S', S_Program_init [.oid q, x, w, s] S = .ex "BadProgram" (exBP z.1 z.2) S') ∧
    (fbV S w s x = none → ∃ xs b c, asQ S x = some xs ∧ w = .int b ∧ s = .int c ∧ S_Program_init [.oid q, x, w, s] S = .ok .non (S.set q (.ins "Program" [("plan", .lst (xs.map fun d => D.lst (rowsQ S d))), ("wide", w), ("shared", s)]))) := by
  have cw := c_whole hw hwp 1 6 S
  have cs := c_whole hs hsp 0 6 S
  have ir := isrow_q hx.kq
  have un : S_Program_init [.oid q, x, w, s] S = (zin [some (.oid q), some x, some w, some s, none, none, none, none, none] S).res := by
    unfold S_Program_init
    rw [zin_eq]
    rfl
  rw [un]
  unfold zin
  rw [e_gSeq]
  cases hz : (whl w 1 6 && whl s 0 6) with
  | false =>
    have v0 : zin0 [some (.oid q), some x, some w, some s, none, none, none, none, none] S = .ex "BadProgram" (exBP (-1) (-1)) [some (.oid q), some x, some w, some s, none, none, none, none, none] S := by
      unfold zin0
      cases h1 : whl w 1 6 with
      | false =>
        rw [h1] at cw
        simp [cw, gRaiX]
      | true =>
        rw [h1] at cw hz
        have h2 : whl s 0 6 = false := by simpa using hz
        rw [h2] at cs
        simp [cw, cs, gRaiX]
    have fv : fbV S w s x = some (-1, -1) := by
      unfold fbV
      rw [hz, if_pos rfl]
    rw [v0, fv]
    refine ⟨fun z e => ?_, fun e => by cases e⟩
    cases e
    exact ⟨S, rfl⟩
  | true =>
    have hz0 := hz
    rw [Bool.and_eq_true] at hz
    obtain ⟨h1, h2⟩ := hz
    rw [h1] at cw
    rw [h2] at cs
    have v0 : zin0 [some (.oid q), some x, some w, some s, none, none, none, none, none] S = .nx [some (.oid q), some x, some w, some s, none, none, none, none, none] S := by
      unfold zin0
      simp [cw, cs]
    rw [v0, Out.seq_nx, e_gSeq]
    have bad : ∀ R : FS, zin1 [some (.oid q), some x, some w, some s, none, none, none, none, none] S = .ex "BadProgram" (exBP (-1) (-1)) [some (.oid q), some x, some w, some s, none, none, none, none, none] S → fbV S w s x = some (-1, -1) →
      (∀ z, fbV S w s x = some z → ∃ S', ((zin1 [some (.oid q), some x, some w, some s, none, none, none, none, none] S).seq R).res = .ex "BadProgram" (exBP z.1 z.2) S') ∧
      (fbV S w s x = none → ∃ xs b c, asQ S x = some xs ∧ w = .int b ∧ s = .int c ∧ ((zin1 [some (.oid q), some x, some w, some s, none, none, none, none, none] S).seq R).res = .ok .non (S.set q (.ins "Program" [("plan", .lst (xs.map fun d => D.lst (rowsQ S d))), ("wide", w), ("shared", s)]))) := fun R e1 e2 => by
      rw [e1, e2]
      refine ⟨fun z e => ?_, fun e => by cases e⟩
      cases e
      exact ⟨S, rfl⟩
    cases hqx : asQ S x with
    | none =>
      rw [hqx] at ir
      simp only [Option.isSome_none] at ir
      rw [← hqx]
      refine bad _ ?_ ?_
      · unfold zin1
        simp [ir, gRaiX]
      · unfold fbV
        rw [hz0, if_neg (by decide), hqx]
    | some xs =>
      rw [hqx] at ir
      simp only [Option.isSome_some] at ir
      obtain ⟨lx, ix⟩ := hx.it xs hqx
      have ln := len_q hqx (by omega)
      by_cases c : 1 ≤ xs.length ∧ xs.length ≤ 4
      · have c1 : (1 : Int) ≤ xs.length := by omega
        have c2 : (xs.length : Int) ≤ 4 := by omega
        have v1 : zin1 [some (.oid q), some x, some w, some s, none, none, none, none, none] S = .nx [some (.oid q), some x, some w, some s, none, none, none, none, none] S := by
          unfold zin1
          simp [ir, ln, c1, c2]
        rw [v1, Out.seq_nx, e_gSeq]
        obtain ⟨ch, e3, hc⟩ := seq_q hqx
        have cf : compF ch (mName 5) fYes (fAndV (fCall S_is_row (fun ds es => pick [(0, 0)] ds es []) 1 0 1 (fCons (fVar 5) (fun _ S => .ok [] S)) (fun _ S => .ok [] S)) (fBin gLe (fCB gLen (fCons (fVar 5) (fun _ S => .ok [] S))) (fC (.int (60))))) xs [some (.oid q), some x, some w, some s, none, none, none, none, none] S = .ok (xs.map fun d => D.bl (!offQ S d)) S := by
          refine compQ_map (f := fun d => D.bl (!offQ S d)) hc _ fun d hd => ⟨_, rfl, ?_⟩
          obtain ⟨kd, nd, rd⟩ := ix d hd
          have iqd := isrow_q kd
          unfold offQ
          cases hqd : asQ S d with
          | none =>
            rw [hqd] at iqd
            simp only [Option.isSome_none] at iqd
            simp [iqd]
          | some rs =>
            rw [hqd] at iqd
            simp only [Option.isSome_some] at iqd
            have lr := len_q hqd (by have := (rd rs hqd).1; omega)
            by_cases l60 : rs.length ≤ 60
            · have l6 : (rs.length : Int) ≤ 60 := by omega
              have l61 : ¬ 60 < rs.length := by omega
              simp [iqd, lr, l6, l60, l61]
            · have l6 : ¬ (rs.length : Int) ≤ 60 := by omega
              have l61 : 60 < rs.length := by omega
              simp [iqd, lr, l6, l60, l61]
        have shx : short (xs.map fun d => D.bl (!offQ S d)).length = true := short_le (by rw [List.length_map]; omega)
        have al := all_bl (fun d => !offQ S d) xs S
        have eo : (xs.all fun d => !offQ S d) = !xs.any (offQ S) := by
          rw [← List.not_any_eq_all_not]
        rw [eo] at al
        have v2 : ∀ A, xs.any (offQ S) = A → zin2 [some (.oid q), some x, some w, some s, none, none, none, none, none] S = if A = true then .ex "BadProgram" (exBP (-1) (-1)) [some (.oid q), some x, some w, some s, none, none, none, none, none] S else .nx [some (.oid q), some x, some w, some s, none, none, none, none, none] S := fun A hA => by
          rw [hA] at al
          unfold zin2
          simp only [e_gIf, e_fNotT, e_toB, e_fCB, e_fCons, e_fComp, e_fSeq, e_fVar, List.getElem?_cons_succ, List.getElem?_cons_zero, Res.bind_ok, e3, List.map_cons, List.map_nil, e_wipe1, e_wipe0, List.set_cons_succ, List.set_cons_zero]
          rw [cf]
          generalize (xs.map fun d => D.bl (!offQ S d)) = L at *
          simp [shx, al, gRaiX]
          all_goals (cases A <;> simp)
        obtain ⟨b, rfl, _, _⟩ := whl_int h1
        obtain ⟨c', rfl, _, _⟩ := whl_int h2
        have fv : ∀ A, xs.any (offQ S) = A → fbV S (.int b) (.int c') x = if A = true then some (-1, -1) else (badH b c' 0 (xs.map (rowsQ S))).map fun q => ((q.1 : Int), (q.2 : Int)) := fun A hA => by
          unfold fbV
          rw [hz0, if_neg (by decide), hqx]
          simp only []
          rw [if_neg (fun z => z c), hA]
        cases hA : xs.any (offQ S) with
        | true =>
          rw [v2 true hA, fv true hA, if_pos rfl, if_pos rfl]
          refine ⟨fun z e => ?_, fun e => by cases e⟩
          cases e
          exact ⟨S, rfl⟩
        | false =>
          rw [v2 false hA, fv false hA, if_neg Bool.false_ne_true, if_neg Bool.false_ne_true, Out.seq_nx, e_gSeq]
          have rws : ∀ d ∈ xs, (∀ ds, d ≠ .scr ds) ∧ ∃ rs, asQ S d = some rs ∧ rs.length ≤ 100 ∧ ∀ r ∈ rs, RowD r := fun d hd => by
            obtain ⟨kd, nd, rd⟩ := ix d hd
            have no := List.any_eq_false.mp hA d hd
            unfold offQ at no
            cases hqd : asQ S d with
            | none => rw [hqd] at no; simp at no
            | some rs => exact ⟨nd, rs, rfl, rd rs hqd⟩
          obtain ⟨ch2, e4, hc2⟩ := enum_q hqx hx.ns
          obtain ⟨la, lb⟩ := inH_loop (b := b) (s := c') (some (.oid q)) (some x) hc2 xs 0 none none none none none rws
          have st : ∀ o, loopF ch2 (mTup 2 (mCons (mName 4) (mCons (mName 5) (fun ds ρ _ => match ds with | [] => some ρ | _ => none)))) zin3b (enumD 0 xs) [some (.oid q), some x, some (.int b), some (.int c'), none, none, none, none, none] S = o → zin3 [some (.oid q), some x, some (.int b), some (.int c'), none, none, none, none, none] S = o := fun o q => by
            unfold zin3
            simp [e4]
            exact q
          cases hb : badH b c' 0 (xs.map (rowsQ S)) with
          | some z =>
            obtain ⟨ρ', e⟩ := lb z hb
            rw [st _ e]
            refine ⟨fun z' e' => ?_, fun e => by cases e⟩
            cases e'
            exact ⟨S, rfl⟩
          | none =>
            obtain ⟨z4, z5, z6, z7, z8, e⟩ := la hb
            refine ⟨fun z' e' => (by cases e'), fun _ => ⟨xs, b, c', rfl, rfl, rfl, ?_⟩⟩
            rw [st _ e, Out.seq_nx, e_gSeq]
            have cf2 : ∀ y5, compF ch (mName 5) fYes (fCB gList (fCons (fVar 5) (fun _ S => .ok [] S))) xs [some (.oid q), some x, some (.int b), some (.int c'), z4, y5, z6, z7, z8] S = .ok (xs.map fun d => D.lst (rowsQ S d)) S := fun y5 => by
              refine compQ_map (f := fun d => D.lst (rowsQ S d)) hc _ fun d hd => ⟨_, rfl, ?_⟩
              obtain ⟨nd, rs, hqd, lr, rD⟩ := rws d hd
              have lq := list_q hqd
              have e : rowsQ S d = rs := by simp [rowsQ, hqd]
              rw [e]
              simp [lq]
            have sh2 : short (xs.map fun d => D.lst (rowsQ S d)).length = true := short_le (by rw [List.length_map]; omega)
            have v4 : zin4 [some (.oid q), some x, some (.int b), some (.int c'), z4, z5, z6, z7, z8] S = .nx [some (.oid q), some x, some (.int b), some (.int c'), z4, z5, z6, z7, z8] (S.set q (.ins "Program" [("plan", .lst (xs.map fun d => D.lst (rowsQ S d)))])) := by
              unfold zin4 gFld
              simp only [e_fComp, e_fSeq, e_fVar, List.getElem?_cons_succ, List.getElem?_cons_zero, Res.bind_ok, e3, List.map_cons, List.map_nil, e_wipe1, e_wipe0, List.set_cons_succ, List.set_cons_zero]
              rw [cf2]
              generalize (xs.map fun d => D.lst (rowsQ S d)) = L at *
              simp [sh2, stFld, hq, putFD]
            have hq4 : (S.set q (.ins "Program" [("plan", .lst (xs.map fun d => D.lst (rowsQ S d)))]))[q]? = some (.ins "Program" [("plan", .lst (xs.map fun d => D.lst (rowsQ S d)))]) := set_eq hq
            rw [v4, Out.seq_nx]
            have ss : ∀ o1 o2 : SO, (S.set q o1).set q o2 = S.set q o2 := fun o1 o2 => List.set_set ..
            have hq5 : ∀ o, (S.set q o)[q]? = some o := fun o => set_eq hq
            unfold zin5
            generalize (xs.map fun d => D.lst (rowsQ S d)) = L at *
            simp [gFld2, stFld, putFD, hq5, ss]
      · rw [← hqx]
        refine bad _ ?_ ?_
        · unfold zin1
          by_cases c1 : (1 : Int) ≤ xs.length
          · have c2 : ¬ (xs.length : Int) ≤ 4 := by omega
            simp [ir, ln, c1, c2, gRaiX]
          · simp [ir, ln, c1, gRaiX]
        · unfold fbV
          rw [hz0, if_neg (by decide), hqx]
          simp only []
          rw [if_pos c]
end
end K03

/-! Hands frozen; hands that lie otherwise, told the same. -/
namespace K03
open PySem L2 DL
theorem frzL_same {k : Nat} {S : Store} : ∀ (ds : List D), (∀ d ∈ ds, frzD k d S = some (d, S)) → frzL (frzD k) ds S = some (ds, S)
  | [], _ => rfl
  | d :: ds, h => by
    have ih := frzL_same ds fun e he => h e (List.mem_cons_of_mem _ he)
    simp [frzL, h d List.mem_cons_self, ih]
theorem frz_sim : ∀ (k : Nat) (d : D) (S : Store), d.sim = true → d.dep < k → frzD k d S = some (d, S)
  | 0, d, S, _, h => absurd h (Nat.not_lt_zero _)
  | k + 1, d, S, hs, hd => by
    cases d with
    | tup ds =>
      simp only [D.sim] at hs
      simp only [D.dep] at hd
      have := frzL_same (k := k) (S := S) ds fun e he => frz_sim k e S (simL_all.mp hs e he) (by have := depL_le.mp (Nat.le_refl _) e he; omega)
      rw [frzD]
      simp [this]
    | lst ds =>
      simp only [D.sim] at hs
      simp only [D.dep] at hd
      have := frzL_same (k := k) (S := S) ds fun e he => frz_sim k e S (simL_all.mp hs e he) (by have := depL_le.mp (Nat.le_refl _) e he; omega)
      rw [frzD]
      simp [this]
    | oid _ => simp [D.sim] at hs
    | dic _ => simp [D.sim] at hs
    | ins _ _ => simp [D.sim] at hs
    | _ => rfl
theorem frz_rowsL (k : Nat) {rs : List D} (h : RowsD rs) (S : Store) : frzL (frzD (k + 30)) rs S = some (rs, S) := frzL_same rs fun d hd => frz_sim _ d S (h.2 d hd).sim (by have := (h.2 d hd).dep; omega)
/-- a hand, as an object -/
def Hd (S : Store) (o : Nat) (rs : List D) : Prop := S[o]? = some (.lst rs) ∨ S[o]? = some (.frz (.lst rs))
theorem Hd.asq {S : Store} {o : Nat} {rs : List D} (h : Hd S o rs) : asQ S (.oid o) = some rs := by
  have e : asQ S (.oid o) = asL S (.oid o) := rfl
  rw [e]
  rcases h with h | h <;> simp [asL, h]
def Small (d : D) : Prop := d = .non ∨ ∃ x, d = .str x ∧ PyData.strOk x = true
def FItQ (S : Store) (d e : D) : Prop := (∃ o rs, d = .oid o ∧ Hd S o rs ∧ e = .lst rs ∧ RowsD rs) ∨ (d = e ∧ Small d)
def ItQ (S : Store) (d e : D) : Prop := (∃ rs, asQ S d = some rs ∧ (∀ ds, d ≠ .scr ds) ∧ e = .lst rs ∧ RowsD rs) ∨ (d = e ∧ Small d)
def AllQ (P : D → D → Prop) : List D → List D → Prop
  | [], [] => True
  | d :: l, e :: es => P d e ∧ AllQ P l es
  | _, _ => False
theorem AllQ.mono {P Q : D → D → Prop} (h : ∀ d e, P d e → Q d e) : ∀ {l es : List D}, AllQ P l es → AllQ Q l es
  | [], [], _ => trivial
  | d :: l, e :: es, q => ⟨h d e q.1, AllQ.mono h q.2⟩
  | [], _ :: _, q => q.elim
  | _ :: _, [], q => q.elim
theorem AllQ.len {P : D → D → Prop} : ∀ {l es : List D}, AllQ P l es → l.length = es.length
  | [], [], _ => rfl
  | d :: l, e :: es, q => by simp [AllQ.len q.2]
  | [], _ :: _, q => q.elim
  | _ :: _, [], q => q.elim
theorem AllQ.app {P : D → D → Prop} : ∀ {l es l' es' : List D}, AllQ P l es → AllQ P l' es' → AllQ P (l ++ l') (es ++ es')
  | [], [], _, _, _, q => q
  | d :: l, e :: es, _, _, p, q => ⟨p.1, AllQ.app p.2 q⟩
  | [], _ :: _, _, _, p, _ => p.elim
  | _ :: _, [], _, _, p, _ => p.elim
theorem AllQ.left {P : D → D → Prop} : ∀ {l es : List D}, AllQ P l es → ∀ d ∈ l, ∃ e ∈ es, P d e
  | [], [], _, d, hd => by cases hd
  | d :: l, e :: es, q, x, hx => by
    rcases List.mem_cons.mp hx with rfl | hx
    · exact ⟨e, List.mem_cons_self, q.1⟩
    · obtain ⟨y, hy, hp⟩ := AllQ.left q.2 x hx
      exact ⟨y, List.mem_cons_of_mem _ hy, hp⟩
  | [], _ :: _, q, _, _ => q.elim
  | _ :: _, [], q, _, _ => q.elim
theorem AllQ.right {P : D → D → Prop} : ∀ {l es : List D}, AllQ P l es → ∀ e ∈ es, ∃ d ∈ l, P d e
  | [], [], _, d, hd => by cases hd
  | d :: l, e :: es, q, x, hx => by
    rcases List.mem_cons.mp hx with rfl | hx
    · exact ⟨d, List.mem_cons_self, q.1⟩
    · obtain ⟨y, hy, hp⟩ := AllQ.right q.2 x hx
      exact ⟨y, List.mem_cons_of_mem _ hy, hp⟩
  | [], _ :: _, q, _, _ => q.elim
  | _ :: _, [], q, _, _ => q.elim
/-- what freezing leaves -/
structure Fz (S S' : Store) : Prop where
  len : S'.length = S.length
  hd : ∀ o rs, Hd S o rs → Hd S' o rs
  st : ∀ (o : Nat) (x : SO), S[o]? = some x → (∀ rs, x ≠ SO.lst rs) → S'[o]? = some x
theorem Fz.refl (S : Store) : Fz S S := ⟨rfl, fun _ _ h => h, fun _ _ h _ => h⟩
theorem Fz.trans {S T U : Store} (a : Fz S T) (b : Fz T U) : Fz S U := ⟨b.len.trans a.len, fun o rs h => b.hd o rs (a.hd o rs h), fun o x h n => b.st o x (a.st o x h n) n⟩
theorem Fz.set {S : Store} {o : Nat} {rs : List D} (h : S[o]? = some (.lst rs)) : Fz S (S.set o (.frz (.lst rs))) := by
  refine ⟨List.length_set, fun i qs hi => ?_, fun i x hi hn => ?_⟩
  · by_cases e : i = o
    · subst e
      rcases hi with t | t
      · rw [h] at t
        cases t
        exact .inr (set_eq h)
      · rw [h] at t; cases t
    · unfold Hd
      rw [set_ne (Ne.symm e)]
      exact hi
  · by_cases e : i = o
    · subst e
      rw [h] at hi
      cases hi
      exact absurd rfl (hn rs)
    · rw [set_ne (Ne.symm e)]
      exact hi
theorem FItQ.fz {S S' : Store} (z : Fz S S') {d e : D} (h : FItQ S d e) : FItQ S' d e := by
  rcases h with ⟨o, rs, a, b, c, r⟩ | h
  · exact .inl ⟨o, rs, a, z.hd o rs b, c, r⟩
  · exact .inr h
theorem FItQ.it {S : Store} {d e : D} (h : FItQ S d e) : ItQ S d e := by
  rcases h with ⟨o, rs, rfl, b, c, r⟩ | h
  · exact .inl ⟨rs, b.asq, fun ds h => (by cases h), c, r⟩
  · exact .inr h
theorem frz_item (k : Nat) {S : Store} {d e : D} (h : FItQ S d e) : ∃ S', frzD (k + 40) d S = some (e, S') ∧ Fz S S' := by
  rcases h with ⟨o, rs, rfl, b, rfl, r⟩ | ⟨rfl, h⟩
  · rcases b with b | b
    · refine ⟨_, ?_, Fz.set b⟩
      rw [frzD]
      simp only [b, frz_rowsL (k + 9) r S, Option.map_some]
    · refine ⟨S, ?_, .refl S⟩
      rw [frzD]
      simp only [b]
      rw [frzD]
      simp only [frz_rowsL (k + 8) r S, Option.map_some]
  · refine ⟨S, ?_, .refl S⟩
    rcases h with rfl | ⟨x, rfl, _⟩ <;> rfl
theorem frz_items (k : Nat) : ∀ {l es : List D} {S : Store}, AllQ (FItQ S) l es → ∃ S', frzL (frzD (k + 40)) l S = some (es, S') ∧ Fz S S'
  | [], [], S, _ => ⟨S, rfl, .refl S⟩
  | d :: l, e :: es, S, q => by
    obtain ⟨S1, e1, z1⟩ := frz_item k q.1
    obtain ⟨S2, e2, z2⟩ := frz_items k (q.2.mono fun d e h => h.fz z1)
    exact ⟨S2, by simp [frzL, e1, e2], z1.trans z2⟩
  | [], _ :: _, _, q => q.elim
  | _ :: _, [], _, q => q.elim
theorem small_kq (S : Store) {d : D} (h : Small d) : KQ S d ∧ asQ S d = none := by
  rcases h with rfl | ⟨x, rfl, _⟩
  · exact ⟨.inr ⟨rfl, _, rfl, .inl rfl⟩, rfl⟩
  · exact ⟨.inr ⟨rfl, _, rfl, .inr (.inl rfl)⟩, rfl⟩
theorem ItQ.off {S : Store} {d e : D} (h : ItQ S d e) : offQ S d = offQ [] e ∧ rowsQ S d = rowsQ [] e := by
  rcases h with ⟨rs, a, _, rfl, _⟩ | ⟨rfl, h⟩
  · have q : asQ [] (D.lst rs) = some rs := rfl
    exact ⟨by simp only [offQ, a, q], by simp only [rowsQ, a, q]⟩
  · exact ⟨by simp only [offQ, (small_kq S h).2, (small_kq [] h).2], by simp only [rowsQ, (small_kq S h).2, (small_kq [] h).2]⟩
theorem off_all {S : Store} : ∀ {l es : List D}, AllQ (ItQ S) l es → l.any (offQ S) = es.any (offQ []) ∧ l.map (rowsQ S) = es.map (rowsQ [])
  | [], [], _ => ⟨rfl, rfl⟩
  | d :: l, e :: es, q => by
    obtain ⟨a, b⟩ := q.1.off
    obtain ⟨c, f⟩ := off_all q.2
    exact ⟨by simp only [List.any_cons, a, c], by simp only [List.map_cons, b, f]⟩
  | [], _ :: _, q => q.elim
  | _ :: _, [], q => q.elim
theorem fb_same {S : Store} {x : D} {l es : List D} (h : asQ S x = some l) (q : AllQ (ItQ S) l es) (w s : D) : fbV S w s x = fbV [] w s (.lst es) := by
  obtain ⟨a, b⟩ := off_all q
  have e : asQ [] (D.lst es) = some es := rfl
  unfold fbV
  rw [h, e]
  simp only [a, b, q.len]
theorem hand_q {S : Store} {x : D} {l es : List D} (h : asQ S x = some l) (hn : ∀ ds, x ≠ .scr ds) (q : AllQ (ItQ S) l es) (hl : l.length ≤ 1000) : HandQ S x := by
  refine ⟨.inl (by rw [h]; rfl), hn, fun xs e => ?_⟩
  rw [h] at e
  cases e
  refine ⟨hl, fun d hd => ?_⟩
  obtain ⟨e, _, p⟩ := q.left d hd
  rcases p with ⟨rs, a, b, _, r⟩ | ⟨_, p⟩
  · refine ⟨.inl (by rw [a]; rfl), b, fun rs' e' => ?_⟩
    rw [a] at e'
    cases e'
    exact ⟨by have := r.1; omega, r.2⟩
  · refine ⟨(small_kq S p).1, fun ds e => ?_, fun rs' e' => ?_⟩
    · rcases p with rfl | ⟨_, rfl, _⟩ <;> cases e
    · rw [(small_kq S p).2] at e'; cases e'
theorem rows_sim {rs : List D} (r : RowsD rs) : (D.lst rs).sim = true ∧ (D.lst rs).dep ≤ 30 := by
  refine ⟨?_, ?_⟩
  · simp only [D.sim]
    exact simL_all.mpr fun d hd => (r.2 d hd).sim
  · simp only [D.dep]
    have : depL rs ≤ 20 := depL_le.mpr fun d hd => (r.2 d hd).dep
    omega
theorem plan_d {S : Store} {l es : List D} (q : AllQ (ItQ S) l es) (hl : l.length ≤ 1000) : PlanD (.lst es) := by
  have each : ∀ e ∈ es, KQ [] e ∧ e.sim = true ∧ e.dep ≤ 40 ∧ (∀ ds, e ≠ .tup ds) ∧ ∀ rs, e = .lst rs → RowsD rs := fun e he => by
    obtain ⟨d, _, p⟩ := q.right e he
    rcases p with ⟨rs, a, b, rfl, r⟩ | ⟨rfl, p⟩
    · refine ⟨.inl rfl, (rows_sim r).1, by have := (rows_sim r).2; omega, fun ds e => (by cases e), fun rs' e => ?_⟩
      cases e
      exact r
    · refine ⟨(small_kq [] p).1, ?_, ?_, ?_, ?_⟩
      · rcases p with rfl | ⟨x, rfl, hx⟩
        · rfl
        · exact hx
      · rcases p with rfl | ⟨x, rfl, hx⟩ <;> simp [D.dep]
      · rcases p with rfl | ⟨x, rfl, hx⟩ <;> exact fun ds e => (by cases e)
      · rcases p with rfl | ⟨x, rfl, hx⟩ <;> exact fun ds e => (by cases e)
  refine ⟨.inl rfl, ?_, fun ds e => (by cases e), fun xs e => ?_⟩
  · simp only [D.pure]
    exact simL_pure es (simL_all.mpr fun d hd => (each d hd).2.1)
  · cases e
    exact ⟨by rw [← q.len]; exact hl, each⟩
/-- hands frozen: what the law looks at, and what the program will -/
structure Frzn (S' : Store) (x y : D) : Prop where
  pd : PlanD y
  ns : ∀ xs, y ≠ .scr xs
  hq : HandQ S' x
  fb : ∀ w s, fbV S' w s x = fbV [] w s y
theorem frzn_l {S : Store} {x : D} {l es : List D} (h : asQ S x = some l) (hn : ∀ ds, x ≠ .scr ds) (q : AllQ (ItQ S) l es) (hl : l.length ≤ 1000) : Frzn S x (.lst es) :=
  ⟨plan_d q hl, fun xs e => (by cases e), hand_q h hn q hl, fb_same h q⟩
theorem frzn_n {S : Store} {x y : D} (h : asQ S x = none) (kx : KQ S x) (h' : asQ [] y = none) (ky : KQ [] y) (hp : y.pure = true) : Frzn S x y := by
  refine ⟨⟨ky, hp, fun ds e => ?_, fun xs e => ?_⟩, fun xs e => ?_, ⟨kx, fun ds e => ?_, fun xs e => ?_⟩, fun w s => ?_⟩
  · subst e; cases h'
  · subst e; cases h'
  · subst e; cases h'
  · subst e; cases h
  · rw [h] at e; cases e
  · unfold fbV
    rw [h, h']
/-- the plan itself -/
theorem PlA.items {S : Store} {st p : Nat} {hs : List Nat} {Ps : List (List D)} (A : PlA S st p hs Ps) (hD : PsD Ps) : AllQ (FItQ S) (hs.map D.oid) (Ps.map D.lst) := by
  have : ∀ (hs : List Nat) (Ps : List (List D)), hs.length = Ps.length → (∀ (i : Nat) o rs, hs[i]? = some o → Ps[i]? = some rs → S[o]? = some (.lst rs)) → PsD Ps → AllQ (FItQ S) (hs.map D.oid) (Ps.map D.lst) := by
    intro hs
    induction hs with
    | nil =>
      intro Ps hl _ _
      cases Ps with
      | nil => trivial
      | cons _ _ => simp at hl
    | cons o hs ih =>
      intro Ps hl hr hD
      cases Ps with
      | nil => simp at hl
      | cons rs Ps =>
        exact ⟨.inl ⟨o, rs, rfl, .inl (hr 0 o rs rfl rfl), rfl, hD rs List.mem_cons_self⟩, ih Ps (by simpa using hl) (fun i o rs h1 h2 => hr (i + 1) o rs h1 h2) fun r h => hD r (List.mem_cons_of_mem _ h)⟩
  exact this hs Ps A.len A.row hD
theorem frz_plan {S : Store} {st p : Nat} {hs : List Nat} {Ps : List (List D)} (A : PlA S st p hs Ps) (hD : PsD Ps) (hl : Ps.length ≤ 100) : ∃ S', frzD 60 (.oid p) S = some (.lst (Ps.map D.lst), S') ∧ S'[p]? = some (.frz (.lst (Ps.map D.lst))) ∧ S'.length = S.length ∧ (∀ (o : Nat) (x : SO), S[o]? = some x → (∀ rs, x ≠ SO.lst rs) → S'[o]? = some x) ∧ Frzn S' (.oid p) (.lst (Ps.map D.lst)) := by
  obtain ⟨S1, e, z⟩ := frz_items 19 (A.items hD)
  have lp : p < S1.length := by
    rw [z.len]
    exact lt_of A.top
  have g : (S1.set p (.frz (.lst (Ps.map D.lst))))[p]? = some (.frz (.lst (Ps.map D.lst))) := by
    rw [List.getElem?_set_self lp]
  refine ⟨S1.set p (.frz (.lst (Ps.map D.lst))), ?_, g, by rw [List.length_set, z.len], fun o x h n => ?_, ?_⟩
  · rw [frzD]
    simp only [A.top, e, Option.map_some]
  · have : o ≠ p := fun q => by
      subst q
      rw [A.top] at h
      cases h
      exact n _ rfl
    rw [set_ne (Ne.symm this)]
    exact z.st o x h n
  · have hq : Hd (S1.set p (.frz (.lst (Ps.map D.lst)))) p (Ps.map D.lst) := .inr g
    refine frzn_l (l := Ps.map D.lst) hq.asq (fun ds e => (by cases e)) ?_ (by rw [List.length_map]; omega)
    generalize S1.set p (.frz (.lst (Ps.map D.lst))) = T
    have : ∀ Ps : List (List D), PsD Ps → AllQ (ItQ T) (Ps.map D.lst) (Ps.map D.lst) := by
      intro Ps
      induction Ps with
      | nil => intro _; trivial
      | cons rs Ps ih => exact fun hD => ⟨.inl ⟨rs, rfl, fun ds e => (by cases e), rfl, hD rs List.mem_cons_self⟩, ih fun r h => hD r (List.mem_cons_of_mem _ h)⟩
    exact this Ps hD
theorem frz_list {S : Store} {l es : List D} (q : AllQ (FItQ S) l es) (hl : l.length ≤ 1000) : ∃ S', frzD 60 (.lst l) S = some (.lst es, S') ∧ Fz S S' ∧ Frzn S' (.lst l) (.lst es) := by
  obtain ⟨S1, e, z⟩ := frz_items 19 q
  refine ⟨S1, ?_, z, frzn_l (l := l) rfl (fun ds e => (by cases e)) (q.mono fun d e h => (h.fz z).it) hl⟩
  rw [frzD]
  simp only [e, Option.map_some]
end K03

/-! A program made, or what it is refused with. -/
namespace K03
open PySem L2 DL
noncomputable def zma0 : FS := (gSet 3 (fC .non))
noncomputable def zma1 : FS := (gSet 4 (fC .non))
noncomputable def zma2 : FS := (gTry (gSet 4 (fFrzD 60 (fMake (makeO S_Program_init (fun ds es => pick [(0, 0), (0, 1), (1, 1), (1, 0)] ds es []) "Program" 4) 1 2 (fCons (fVar 0) (fun _ S => .ok [] S)) (fCons (fVar 2) (fCons (fVar 1) (fun _ S => .ok [] S)))))) (⟨tb_YardError, some 5, (gSet 3 (fVar 5))⟩ :: []))
noncomputable def zma3 : FS := (gIf (toB (fBin gIs (fVar 3) (fC .non))) (gRet (fTup (fCons (fVar 4) (fCons (fC .non) (fun _ S => .ok [] S))))) gNil)
noncomputable def zma4 : FS := (gIf (fOrT (fNotT (toB (fCB (gIsF tb_BadProgram (.cls "BadProgram")) (fCons (fVar 3) (fCons (fC (.cls "BadProgram")) (fun _ S => .ok [] S)))))) (fNotT (toB (fCB (gIsF tb_ValueError (.ty "ValueError")) (fCons (fVar 3) (fCons (fC (.ty "ValueError")) (fun _ S => .ok [] S))))))) (gRet (fTup (fCons (fC .non) (fCons (fC (.str "other")) (fun _ S => .ok [] S))))) gNil)
noncomputable def zma5 : FS := (gRet (fTup (fCons (fC .non) (fCons (fTup (fCons (fFldX ["BadProgram"] "hand" (fVar 3)) (fCons (fFldX ["BadProgram"] "row" (fVar 3)) (fun _ S => .ok [] S)))) (fun _ S => .ok [] S)))))
noncomputable def zma : FS := (gSeq zma0 (gSeq zma1 (gSeq zma2 (gSeq zma3 (gSeq zma4 zma5)))))
theorem zma_eq : m_p_law_made = zma := rfl
/-- what is no dict stays -/
def Kp (S S' : Store) : Prop := ∀ (o : Nat) (x : SO), S[o]? = some x → (∀ ks, x ≠ SO.dic ks) → S'[o]? = some x
theorem kp_app (S T : Store) : Kp S (S ++ T) := fun o x h _ => app_old h
theorem kp_set {S : Store} {i : Nat} {ks : List (Key × D)} (h : S[i]? = some (.dic ks)) (o : SO) : Kp S (S.set i o) := fun j x hj hn => by
  have : i ≠ j := fun e => by
    subst e
    rw [h] at hj
    cases hj
    exact hn _ rfl
  rw [set_ne this]
  exact hj
theorem Kp.trans {S T U : Store} (a : Kp S T) (b : Kp T U) : Kp S U := fun o x h n => b o x (a o x h n) n
theorem asq_kp {S S' : Store} (k : Kp S S') {x : D} {l : List D} (h : asQ S x = some l) : asQ S' x = some l := by
  cases x with
  | oid n =>
    have h : asL S (.oid n) = some l := h
    have e : asQ S' (.oid n) = asL S' (.oid n) := rfl
    rw [e]
    unfold asL at h ⊢
    simp only [] at h ⊢
    cases q : S[n]? with
    | none => rw [q] at h; cases h
    | some o =>
      rw [q] at h
      cases o with
      | dic _ => cases h
      | lst _ =>
        rw [k n _ q fun _ e => by cases e]
        exact h
      | frz _ =>
        rw [k n _ q fun _ e => by cases e]
        exact h
      | _ => cases h
  | tup ds => exact h
  | lst ds => exact h
  | scr ds => exact h
  | _ => cases h
theorem asq_app {S T : Store} {x : D} {l : List D} (h : asQ S x = some l) : asQ (S ++ T) x = some l := asq_kp (kp_app S T) h
theorem ItQ.kp {S S' : Store} (k : Kp S S') {d e : D} (h : ItQ S d e) : ItQ S' d e := by
  rcases h with ⟨rs, a, b, c, r⟩ | h
  · exact .inl ⟨rs, asq_kp k a, b, c, r⟩
  · exact .inr h
theorem ItQ.app {S : Store} {d e : D} (h : ItQ S d e) (T : Store) : ItQ (S ++ T) d e := h.kp (kp_app S T)
abbrev Fzn (S : Store) (x y : D) : Prop := ∀ S', Kp S S' → Frzn S' x y
theorem fzn_l {S : Store} {x : D} {l es : List D} (h : asQ S x = some l) (hn : ∀ ds, x ≠ .scr ds) (q : AllQ (ItQ S) l es) (hl : l.length ≤ 1000) : Fzn S x (.lst es) :=
  fun S' k => frzn_l (asq_kp k h) hn (q.mono fun d e h => h.kp k) hl
theorem isxC {tb : List (Str × Bool)} {c C : Str} {b : Bool} (fs : List (Str × D)) (h : tb.lookup C = some b) (S : Store) : gIsF tb (.cls c) [.exc C fs, .cls c] S = .ok (.bl b) S := by
  simp [gIsF, isArg, h]
theorem isxT {tb : List (Str × Bool)} {c : String} {C : Str} {b : Bool} (fs : List (Str × D)) (h : tb.lookup C = some b) (S : Store) : gIsF tb (.ty c) [.exc C fs, .ty c] S = .ok (.bl b) S := by
  simp [gIsF, isArg, h]
theorem made_bad {S : Store} {x y w s : D} (hz : Fzn S x y) (hw : okK w = true) (hwp : w.pure = true) (hs : okK s = true) (hsp : s.pure = true) {z : Int × Int} (h : fbV [] w s y = some z) : ∃ S', S_p_law_made [x, w, s] S = .ok (.tup [.non, .tup [.int z.1, .int z.2]]) S' := by
  have Z := hz _ (kp_app S [.ins "Program" []])
  have hq : (S ++ [SO.ins "Program" []])[S.length]? = some (.ins "Program" []) := by
    rw [List.getElem?_append_right (Nat.le_refl _), Nat.sub_self]
    rfl
  obtain ⟨S', e⟩ := (init_gen hq hw hwp hs hsp Z.hq).1 z (by rw [Z.fb]; exact h)
  refine ⟨S', ?_⟩
  have mk : makeO S_Program_init (fun ds es => pick [(0, 0), (0, 1), (1, 1), (1, 0)] ds es []) "Program" 4 [x] [s, w] S = .ex "BadProgram" (exBP z.1 z.2) S' := by
    unfold makeO
    have p : pick [(0, 0), (0, 1), (1, 1), (1, 0)] (.oid S.length :: [x]) [s, w] [] = [.oid S.length, x, w, s] := rfl
    simp [p, e]
  have tl : tb_YardError.lookup ("BadProgram" : Str) = some true := by decide +kernel
  have k1 : (("row" : Str) == "row") = true := by decide +kernel
  have k2 : (("hand" : Str) == "row") = false := by decide +kernel
  have k3 : (("hand" : Str) == "hand") = true := by decide +kernel
  have h2 := isxC (tb := tb_BadProgram) (c := "BadProgram") (C := "BadProgram") (b := true) (exBP z.1 z.2) (by decide +kernel) S'
  have h3 := isxT (tb := tb_ValueError) (c := "ValueError") (C := "BadProgram") (b := true) (exBP z.1 z.2) (by decide +kernel) S'
  have st : startD 6 [x, w, s] = [some x, some w, some s, none, none, none] := rfl
  unfold S_p_law_made
  rw [zma_eq, e_semOf, st]
  unfold zma
  have v0 : zma0 [some x, some w, some s, none, none, none] S = .nx [some x, some w, some s, some .non, none, none] S := by
    unfold zma0
    simp
  have v1 : zma1 [some x, some w, some s, some .non, none, none] S = .nx [some x, some w, some s, some .non, some .non, none] S := by
    unfold zma1
    simp
  have v2 : zma2 [some x, some w, some s, some .non, some .non, none] S = .nx [some x, some w, some s, some (.exc "BadProgram" (exBP z.1 z.2)), some .non, none] S' := by
    unfold zma2 gTry
    generalize makeO S_Program_init (fun ds es => pick [(0, 0), (0, 1), (1, 1), (1, 0)] ds es []) "Program" 4 = M at *
    simp [fFrzD, fMake, mk]
    unfold hdM
    simp [tl, Out.undo]
  rw [e_gSeq, v0, Out.seq_nx, e_gSeq, v1, Out.seq_nx, e_gSeq, v2, Out.seq_nx]
  unfold zma3 zma4 zma5
  simp [tyS, D.isNon, h2, h3, fFldX, asX, List.lookup, k1, k2, k3]
def prG (Ps : List (List D)) (b c : Int) : D := .ins "Program" [("plan", .lst (Ps.map D.lst)), ("wide", .int b), ("shared", .int c)]
theorem plan_sim {Ps : List (List D)} (hD : PsD Ps) : (D.lst (Ps.map D.lst)).sim = true ∧ (D.lst (Ps.map D.lst)).dep ≤ 50 := by
  refine ⟨?_, ?_⟩
  · simp only [D.sim]
    exact simL_all.mpr fun d hd => by
      obtain ⟨rs, h, rfl⟩ := List.mem_map.mp hd
      exact (rows_sim (hD rs h)).1
  · simp only [D.dep]
    have : depL (Ps.map D.lst) ≤ 30 := depL_le.mpr fun d hd => by
      obtain ⟨rs, h, rfl⟩ := List.mem_map.mp hd
      exact (rows_sim (hD rs h)).2
    omega
theorem rows_of {S : Store} {xs : List D} {Ps : List (List D)} (q : AllQ (ItQ S) xs (Ps.map D.lst)) : xs.map (fun d => D.lst (rowsQ S d)) = Ps.map D.lst := by
  have e := (off_all q).2
  have e2 : (Ps.map D.lst).map (rowsQ []) = Ps := by
    rw [List.map_map]
    have : (rowsQ [] ∘ D.lst) = id := rfl
    rw [this, List.map_id]
  rw [e2] at e
  have e3 : xs.map (fun d => D.lst (rowsQ S d)) = (xs.map (rowsQ S)).map D.lst := by rw [List.map_map]; rfl
  rw [e3, e]
theorem made_good {S : Store} {x : D} {xs : List D} {Ps : List (List D)} {b c : Int} (hx : asQ S x = some xs) (hn : ∀ ds, x ≠ .scr ds) (q : AllQ (ItQ S) xs (Ps.map D.lst)) (hl : xs.length ≤ 1000) (hD : PsD Ps) (h : fbV [] (.int b) (.int c) (.lst (Ps.map D.lst)) = none) : S_p_law_made [x, .int b, .int c] S = .ok (.tup [prG Ps b c, .non]) (S ++ [.frz (prG Ps b c)]) := by
  have Z := fzn_l hx hn q hl _ (kp_app S [.ins "Program" []])
  have hq : (S ++ [SO.ins "Program" []])[S.length]? = some (.ins "Program" []) := by
    rw [List.getElem?_append_right (Nat.le_refl _), Nat.sub_self]
    rfl
  obtain ⟨xs', b', c', e1, eb, ec, e⟩ := (init_gen hq (w := .int b) (s := .int c) rfl rfl rfl rfl Z.hq).2 (by rw [Z.fb]; exact h)
  cases eb
  cases ec
  rw [asq_app hx] at e1
  cases e1
  rw [rows_of (q.mono fun d e h => h.app _)] at e
  have sa : (S ++ [SO.ins "Program" []]).set S.length (.ins "Program" [("plan", .lst (Ps.map D.lst)), ("wide", .int b), ("shared", .int c)]) = S ++ [SO.ins "Program" [("plan", .lst (Ps.map D.lst)), ("wide", .int b), ("shared", .int c)]] := by
    rw [List.set_append_right _ _ (Nat.le_refl _), Nat.sub_self]
    rfl
  rw [sa] at e
  have mk : makeO S_Program_init (fun ds es => pick [(0, 0), (0, 1), (1, 1), (1, 0)] ds es []) "Program" 4 [x] [.int c, .int b] S = .ok (.oid S.length) (S ++ [SO.ins "Program" [("plan", .lst (Ps.map D.lst)), ("wide", .int b), ("shared", .int c)]]) := by
    unfold makeO
    have p : pick [(0, 0), (0, 1), (1, 1), (1, 0)] (.oid S.length :: [x]) [.int c, .int b] [] = [.oid S.length, x, .int b, .int c] := rfl
    simp [p, e, D.isNon]
  have g : (S ++ [SO.ins "Program" [("plan", .lst (Ps.map D.lst)), ("wide", .int b), ("shared", .int c)]])[S.length]? = some (.ins "Program" [("plan", .lst (Ps.map D.lst)), ("wide", .int b), ("shared", .int c)]) := by
    rw [List.getElem?_append_right (Nat.le_refl _), Nat.sub_self]
    rfl
  have fz : frzD 60 (.oid S.length) (S ++ [SO.ins "Program" [("plan", .lst (Ps.map D.lst)), ("wide", .int b), ("shared", .int c)]]) = some (prG Ps b c, S ++ [.frz (prG Ps b c)]) := by
    obtain ⟨p1, p2⟩ := plan_sim hD
    have f1 := fun S => frz_sim 59 (.lst (Ps.map D.lst)) S p1 (by omega)
    have f2 : ∀ i S, frzD 59 (.int i) S = some (.int i, S) := fun i S => rfl
    rw [frzD]
    simp only [g, frzF, f1, f2, Option.map_some]
    rw [List.set_append_right _ _ (Nat.le_refl _), Nat.sub_self]
    rfl
  have st : startD 6 [x, .int b, .int c] = [some x, some (.int b), some (.int c), none, none, none] := rfl
  unfold S_p_law_made
  rw [zma_eq, e_semOf, st]
  unfold zma
  have v0 : zma0 [some x, some (.int b), some (.int c), none, none, none] S = .nx [some x, some (.int b), some (.int c), some .non, none, none] S := by
    unfold zma0
    simp
  have v1 : zma1 [some x, some (.int b), some (.int c), some .non, none, none] S = .nx [some x, some (.int b), some (.int c), some .non, some .non, none] S := by
    unfold zma1
    simp
  generalize S ++ [SO.ins "Program" [("plan", .lst (Ps.map D.lst)), ("wide", .int b), ("shared", .int c)]] = S1 at *
  generalize prG Ps b c = Z at *
  have v2 : zma2 [some x, some (.int b), some (.int c), some .non, some .non, none] S = .nx [some x, some (.int b), some (.int c), some .non, some Z, none] (S ++ [.frz Z]) := by
    unfold zma2 gTry
    generalize makeO S_Program_init (fun ds es => pick [(0, 0), (0, 1), (1, 1), (1, 0)] ds es []) "Program" 4 = M at *
    simp [fFrzD, fMake, mk, fz]
  rw [e_gSeq, v0, Out.seq_nx, e_gSeq, v1, Out.seq_nx, e_gSeq, v2, Out.seq_nx]
  have k2 : short 2 = true := short_le (by omega)
  unfold zma3 zma4 zma5
  simp [D.isNon, k2]
end K03

/-! _law_alike of data and the same data. -/
namespace K03
open PySem L2 DL
def prim : D → Bool
  | .non => true
  | .bl _ => true
  | .int _ => true
  | .str _ => true
  | _ => false
theorem eq_prim {d : D} (h : prim d = true) (S : Store) : gEq d d S = .ok (.bl true) S := by
  cases d with
  | non => rfl
  | bl b => cases b <;> rfl
  | int i => simp
  | str x => simp
  | _ => simp [prim] at h
theorem ne_bl (a b : Bool) (S : Store) : gNe (.bl a) (.bl b) S = .ok (.bl (a != b)) S := by cases a <;> cases b <;> rfl
noncomputable abbrev tgA : FG := (mTup 2 (mCons (mName 2) (mCons (mName 3) (fun ds ρ _ => match ds with | [] => some ρ | _ => none))))
noncomputable def alC (R : Sem') : FE := (fCall R (fun ds es => pick [(0, 0), (0, 1)] ds es []) 2 0 2 (fCons (fVar 2) (fCons (fVar 3) (fun _ S => .ok [] S))) (fun _ S => .ok [] S))
noncomputable def alM (fe : FE) : FS := (gSeq (gIf (toB (fCB gIsi (fCons (fVar 1) (fCons (fTup (fCons (fC (.ty "list")) (fCons (fC (.ty "tuple")) (fun _ S => .ok [] S)))) (fun _ S => .ok [] S))))) (gSeq (gIf (fOrT (toB (fBin gNe (fCB gIsi (fCons (fVar 0) (fCons (fC (.ty "list")) (fun _ S => .ok [] S)))) (fCB gIsi (fCons (fVar 1) (fCons (fC (.ty "list")) (fun _ S => .ok [] S)))))) (toB (fBin gNe (fCB gIsi (fCons (fVar 0) (fCons (fC (.ty "tuple")) (fun _ S => .ok [] S)))) (fCB gIsi (fCons (fVar 1) (fCons (fC (.ty "tuple")) (fun _ S => .ok [] S))))))) (gRet (fC (.bl false))) gNil) (gRet (fAndV (fBin gEq (fCB gLen (fCons (fVar 0) (fun _ S => .ok [] S))) (fCB gLen (fCons (fVar 1) (fun _ S => .ok [] S)))) (fCB (gAllAny true) (fCons (fComp (fZipA (fCons (fVar 0) (fCons (fVar 1) (fun _ S => .ok [] S)))) tgA fYes fe ([("_law_one", 2), ("_law_other", 3)].map (·.2)) finL) (fun _ S => .ok [] S)))))) gNil) (gSeq (gIf (fOrT (toB (fBin gIs (fVar 1) (fC .non))) (toB (fCB gIsi (fCons (fVar 1) (fCons (fC (.ty "bool")) (fun _ S => .ok [] S)))))) (gRet (fIf (toB (fBin gIs (fVar 1) (fC .non))) (fBin gIs (fVar 0) (fC .non)) (fAndV (fCB gIsi (fCons (fVar 0) (fCons (fC (.ty "bool")) (fun _ S => .ok [] S)))) (fBin gEq (fVar 0) (fVar 1))))) gNil) (gSeq (gIf (toB (fCB gIsi (fCons (fVar 1) (fCons (fC (.ty "int")) (fun _ S => .ok [] S))))) (gRet (fAndV (fCB gIsi (fCons (fVar 0) (fCons (fC (.ty "int")) (fun _ S => .ok [] S)))) (fAndV (fNotV (fCB gIsi (fCons (fVar 0) (fCons (fC (.ty "bool")) (fun _ S => .ok [] S))))) (fBin gEq (fVar 0) (fVar 1))))) gNil) (gRet (fAndV (fCB gIsi (fCons (fVar 0) (fCons (fC (.ty "str")) (fun _ S => .ok [] S)))) (fBin gEq (fVar 0) (fVar 1)))))))
theorem al_0 : S_p_law_alike = semOf 4 (alM (alC S_p_law_alike_r1)) := rfl
theorem al_1 : S_p_law_alike_r1 = semOf 4 (alM (alC S_p_law_alike_r2)) := rfl
theorem al_2 : S_p_law_alike_r2 = semOf 4 (alM (alC S_p_law_alike_r3)) := rfl
theorem al_3 : S_p_law_alike_r3 = semOf 4 (alM (alC S_p_law_alike_r4)) := rfl
theorem al_4 : S_p_law_alike_r4 = semOf 4 (alM (alC S_p_law_alike_r5)) := rfl
theorem al_5 : S_p_law_alike_r5 = semOf 4 (alM (fun _ _ => .stuck)) := rfl
theorem alM_prim (fe : FE) {d : D} (h : prim d = true) (S : Store) : semOf 4 (alM fe) [d, d] S = .ok (.bl true) S := by
  have q := eq_prim h
  unfold alM
  cases d with
  | non => simp [List.replicate, tyS, isiT, D.isNon, gIsiN, tysOf, isiA, ne_bl]
  | bl b => simp [List.replicate, tyS, isiT, D.isNon, gIsiN, tysOf, isiA, ne_bl, q]
  | int i => simp [List.replicate, tyS, isiT, D.isNon, gIsiN, tysOf, isiA, ne_bl]
  | str x => simp [List.replicate, tyS, isiT, D.isNon, gIsiN, tysOf, isiA, ne_bl]
  | _ => simp [prim] at h
section
variable {R : Sem'} {S : Store}
theorem al_comp {c : Option (D × List D)} (hc : okC c S) {ds es : List D} (hR : ∀ (i : Nat) d e, ds[i]? = some d → es[i]? = some e → R [d, e] S = .ok (.bl true) S) (x0 x1 : Option D) : compF c tgA fYes (alC R) (zipD ds es) [x0, x1, none, none] S = .ok ((zipD ds es).map fun _ => D.bl true) S := by
  have each : ∀ z ∈ zipD ds es, ∃ ρ1, tgA z [x0, x1, none, none] S = some ρ1 ∧ alC R ρ1 S = .ok (.bl true) S := fun z hz => by
    obtain ⟨i, hi⟩ := List.mem_iff_getElem?.mp hz
    obtain ⟨x, y, h1, h2, rfl⟩ := zipD_get hi
    refine ⟨[x0, x1, some x, some y], rfl, ?_⟩
    have := hR i x y h1 h2
    unfold alC
    simp [this]
  exact compQ_map (f := fun _ => D.bl true) hc _ each
theorem zip_all (xs ys : List D) (hl : xs.length ≤ 10000) : short ((zipD xs ys).map fun _ => D.bl true).length = true := short_le (by
  simp [zipD]
  omega)
theorem alM_lists {ds es : List D} (hl : ds.length = es.length) (h1 : ds.length ≤ 10000) (hR : ∀ (i : Nat) d e, ds[i]? = some d → es[i]? = some e → R [d, e] S = .ok (.bl true) S) : semOf 4 (alM (alC R)) [.lst ds, .lst es] S = .ok (.bl true) S := by
  have cm := fun x0 x1 => al_comp (c := none) trivial hR x0 x1
  have sh := zip_all ds es h1
  have at_ := e_all_true S (zipD ds es)
  have zl : zipA [.lst ds, .lst es] S = .ok ⟨zipD ds es, none⟩ S := rfl
  unfold alM
  simp [List.replicate, tyS, isiT, D.isNon, gIsiN, tysOf, isiA, ne_bl, zl, hl]
  erw [cm]
  simp only [Res.bind_ok, e_finL, sh, if_true]
  simp [at_]
theorem alM_tups {ds es : List D} (hl : ds.length = es.length) (h1 : ds.length ≤ 10000) (hR : ∀ (i : Nat) d e, ds[i]? = some d → es[i]? = some e → R [d, e] S = .ok (.bl true) S) : semOf 4 (alM (alC R)) [.tup ds, .tup es] S = .ok (.bl true) S := by
  have cm := fun x0 x1 => al_comp (c := none) trivial hR x0 x1
  have sh := zip_all ds es h1
  have at_ := e_all_true S (zipD ds es)
  have zl : zipA [.tup ds, .tup es] S = .ok ⟨zipD ds es, none⟩ S := rfl
  unfold alM
  simp [List.replicate, tyS, isiT, D.isNon, gIsiN, tysOf, isiA, ne_bl, zl, hl]
  erw [cm]
  simp only [Res.bind_ok, e_finL, sh, if_true]
  simp [at_]
theorem alM_oid {n : Nat} {ds es : List D} (hS : S[n]? = some (.lst ds)) (hl : ds.length = es.length) (h1 : ds.length ≤ 10000) (hR : ∀ (i : Nat) d e, ds[i]? = some d → es[i]? = some e → R [d, e] S = .ok (.bl true) S) : semOf 4 (alM (alC R)) [.oid n, .lst es] S = .ok (.bl true) S := by
  have aL : asL S (.oid n) = some ds := by simp [asL, hS]
  have cm := fun x0 x1 => al_comp (c := some (.oid n, ds)) aL hR x0 x1
  have sh := zip_all ds es h1
  have at_ := e_all_true S (zipD ds es)
  have zl : zipA [.oid n, .lst es] S = .ok ⟨zipD ds es, some (.oid n, ds)⟩ S := by simp [zipA, aL]
  have ty := tyS_o hS
  have ln := len_o hS
  unfold alM
  simp [List.replicate, ty, isiT, D.isNon, gIsiN, tysOf, isiA, ne_bl, zl, ln, hl]
  erw [cm]
  simp only [Res.bind_ok, e_finL, sh, if_true]
  simp [at_]
end
/-- data of lists, tuples and small things, not deeper than told -/
def alk : Nat → D → Bool
  | 0, d => prim d
  | n + 1, d => prim d || (match d with
    | .lst ds => decide (ds.length ≤ 10000) && ds.all (alk n)
    | .tup ds => decide (ds.length ≤ 10000) && ds.all (alk n)
    | _ => false)
theorem alk_step {n : Nat} {R : Sem'} (hR : ∀ d S, alk n d = true → R [d, d] S = .ok (.bl true) S) (d : D) (S : Store) (h : alk (n + 1) d = true) : semOf 4 (alM (alC R)) [d, d] S = .ok (.bl true) S := by
  by_cases hp : prim d = true
  · exact alM_prim _ hp S
  · have hp : prim d = false := by simpa using hp
    simp only [alk, hp, Bool.false_or] at h
    cases d with
    | lst ds =>
      simp only [Bool.and_eq_true, decide_eq_true_eq, List.all_eq_true] at h
      refine alM_lists rfl h.1 fun i d e h1 h2 => ?_
      rw [h1] at h2
      cases h2
      exact hR d S (h.2 d (List.mem_of_getElem? h1))
    | tup ds =>
      simp only [Bool.and_eq_true, decide_eq_true_eq, List.all_eq_true] at h
      refine alM_tups rfl h.1 fun i d e h1 h2 => ?_
      rw [h1] at h2
      cases h2
      exact hR d S (h.2 d (List.mem_of_getElem? h1))
    | _ => cases h
theorem alk_5 (d : D) (S : Store) (h : alk 0 d = true) : S_p_law_alike_r5 [d, d] S = .ok (.bl true) S := by
  rw [al_5]
  exact alM_prim _ h S
theorem alk_4 (d : D) (S : Store) (h : alk 1 d = true) : S_p_law_alike_r4 [d, d] S = .ok (.bl true) S := by
  rw [al_4]
  exact alk_step alk_5 d S h
theorem alk_3 (d : D) (S : Store) (h : alk 2 d = true) : S_p_law_alike_r3 [d, d] S = .ok (.bl true) S := by
  rw [al_3]
  exact alk_step alk_4 d S h
theorem alk_2 (d : D) (S : Store) (h : alk 3 d = true) : S_p_law_alike_r2 [d, d] S = .ok (.bl true) S := by
  rw [al_2]
  exact alk_step alk_3 d S h
theorem alk_1 (d : D) (S : Store) (h : alk 4 d = true) : S_p_law_alike_r1 [d, d] S = .ok (.bl true) S := by
  rw [al_1]
  exact alk_step alk_2 d S h
theorem alk_0 (d : D) (S : Store) (h : alk 5 d = true) : S_p_law_alike [d, d] S = .ok (.bl true) S := by
  rw [al_0]
  exact alk_step alk_1 d S h
theorem alk_up : ∀ (n : Nat) (d : D), alk n d = true → alk (n + 1) d = true
  | 0, d, h => by
    have h : prim d = true := h
    simp [alk, h]
  | n + 1, d, h => by
    unfold alk at h ⊢
    by_cases hp : prim d = true
    · simp [hp]
    · have hp : prim d = false := by simpa using hp
      simp only [hp, Bool.false_or] at h ⊢
      cases d with
      | lst ds =>
        simp only [Bool.and_eq_true, List.all_eq_true] at h ⊢
        exact ⟨h.1, fun x hx => alk_up n x (h.2 x hx)⟩
      | tup ds =>
        simp only [Bool.and_eq_true, List.all_eq_true] at h ⊢
        exact ⟨h.1, fun x hx => alk_up n x (h.2 x hx)⟩
      | _ => cases h
end K03

/-! Hands told by a program: new lists each time; alike. -/
namespace K03
open PySem L2 DL
noncomputable def zha0 : FS := (gRet (fComp (fSeq (fFld ["Program"] "plan" (fVar 0))) (mName 1) fYes (fCB gListO (fCons (fVar 1) (fun _ S => .ok [] S))) ([("rows", 1)].map (·.2)) finO))
theorem zha_eq : m_Program_hands_o = zha0 := rfl
theorem okC_app {c : Option (D × List D)} {S T : Store} (h : okC c S) : okC c (S ++ T) := by
  cases c with
  | none => trivial
  | some q =>
    have h : asL S q.1 = some q.2 := h
    show asL (S ++ T) q.1 = some q.2
    obtain ⟨d, ds⟩ := q
    cases d with
    | tup _ => cases h
    | lst _ => exact h
    | scr _ => exact h
    | oid n => exact asq_app (x := .oid n) h
    | _ => cases h
def oids (n k : Nat) : List D := (List.range' n k).map D.oid
def newL (g : D → List D) (ds : List D) : Store := ds.map fun d => SO.lst (g d)
theorem comp_new {c : Option (D × List D)} {m : FG} {fe : FE} {g : D → List D} {ρ : EnvD} : ∀ (ds : List D) (S : Store), okC c S → (∀ d ∈ ds, ∀ S, ∃ ρ1, m d ρ S = some ρ1 ∧ fe ρ1 S = .ok (.oid S.length) (S ++ [.lst (g d)])) → compF c m fYes fe ds ρ S = .ok (oids S.length ds.length) (S ++ newL g ds)
  | [], S, hc, _ => by rw [compF, if_pos hc]; simp [oids, newL]
  | d :: ds, S, hc, h => by
    obtain ⟨ρ1, h1, h2⟩ := h d List.mem_cons_self S
    have ih := comp_new ds (S ++ [.lst (g d)]) (okC_app hc) (fun x hx => h x (List.mem_cons_of_mem _ hx))
    rw [compF, if_pos hc, h1]
    simp only [fYes, Res.noEx_ok, Res.bind_ok, if_true, h2, ih]
    have e1 : oids S.length (ds.length + 1) = .oid S.length :: oids (S.length + 1) ds.length := rfl
    have e2 : newL g (d :: ds) = .lst (g d) :: newL g ds := rfl
    rw [List.length_cons, e1, e2, List.length_append]
    simp
section
variable {Ps : List (List D)} {b c : Int}
theorem prG_pure (hD : PsD Ps) (b c : Int) : (prG Ps b c).pure = true := by
  have := sim_pure _ (plan_sim hD).1
  simp only [D.pure] at this
  simp only [prG, D.pure, pureF, this, Bool.and_true, Bool.and_self]
abbrev fG (Ps : List (List D)) (b c : Int) : List (Str × D) := [("plan", .lst (Ps.map D.lst)), ("wide", .int b), ("shared", .int c)]
theorem asI_g (S : Store) : asI S (prG Ps b c) = some (("Program" : Str), fG Ps b c) := rfl
theorem lkgP : ((fG Ps b c).lookup ("plan" : Str)) = some (.lst (Ps.map D.lst)) := by
  have k : (("plan" : Str) == "plan") = true := by decide +kernel
  simp [List.lookup, k]
theorem lkgW : ((fG Ps b c).lookup ("wide" : Str)) = some (.int b) := by
  have k : (("wide" : Str) == "plan") = false := by decide +kernel
  have k2 : (("wide" : Str) == "wide") = true := by decide +kernel
  simp [List.lookup, k, k2]
theorem lkgS : ((fG Ps b c).lookup ("shared" : Str)) = some (.int c) := by
  have k : (("shared" : Str) == "plan") = false := by decide +kernel
  have k1 : (("shared" : Str) == "wide") = false := by decide +kernel
  have k2 : (("shared" : Str) == "shared") = true := by decide +kernel
  simp [List.lookup, k, k1, k2]
theorem nlg {n : Str} (h1 : (n == ("plan" : Str)) = false) (h2 : (n == ("wide" : Str)) = false) (h3 : (n == ("shared" : Str)) = false) : ((fG Ps b c).lookup n) = none := by
  simp [List.lookup, h1, h2, h3]
theorem boxes_g (hD : PsD Ps) (S : Store) : callSub S_Program_boxes [prG Ps b c] S = .ok (.int b) S := by
  refine callSub_ok (S' := []) (by simp [pureL, prG_pure hD]) ?_ rfl
  unfold S_Program_boxes m_Program_boxes
  simp [List.replicate, asI_g, lkgW]
theorem board_g (hD : PsD Ps) (S : Store) : callSub S_Program_board [prG Ps b c] S = .ok (.int c) S := by
  refine callSub_ok (S' := []) (by simp [pureL, prG_pure hD]) ?_ rfl
  unfold S_Program_board m_Program_board
  simp [List.replicate, asI_g, lkgS]
theorem pegs_g (hD : PsD Ps) (hl : Ps.length ≤ 100) (S : Store) : callSub S_Program_pegs [prG Ps b c] S = .ok (.int (Ps.length * b + c)) S := by
  refine callSub_ok (S' := []) (by simp [pureL, prG_pure hD]) ?_ rfl
  have ln := len_q (S := []) (d := .lst (Ps.map D.lst)) (xs := Ps.map D.lst) rfl (by rw [List.length_map]; omega)
  rw [List.length_map] at ln
  unfold S_Program_pegs m_Program_pegs
  generalize hL : Ps.map D.lst = L at *
  have mu : cMul (Ps.length : Int) b = true := @decide_eq_true _ (Classical.propDecidable _) (.inl ⟨by omega, by omega⟩)
  have ai : ∀ S, asI S (prG Ps b c) = some (("Program" : Str), ([("plan", .lst L), ("wide", .int b), ("shared", .int c)] : List (Str × D))) := fun S => by rw [← hL]; rfl
  have k0 : (("plan" : Str) == "plan") = true := by decide +kernel
  have k : (("wide" : Str) == "plan") = false := by decide +kernel
  have k2 : (("wide" : Str) == "wide") = true := by decide +kernel
  have k3 : (("shared" : Str) == "plan") = false := by decide +kernel
  have k4 : (("shared" : Str) == "wide") = false := by decide +kernel
  have k5 : (("shared" : Str) == "shared") = true := by decide +kernel
  simp [List.replicate, ai, List.lookup, k0, k, k2, k3, k4, k5, ln, mu]
/-- where hands lie that were told: the list, its hands behind one another -/
abbrev ToldS (S : Store) (Ps : List (List D)) : Store := S ++ (newL (rowsQ []) (Ps.map D.lst) ++ [.lst (oids S.length Ps.length)])
theorem hands_g (hl : Ps.length ≤ 100) (S : Store) : S_Program_hands_o [prG Ps b c] S = .ok (.oid (S.length + Ps.length)) (ToldS S Ps) := by
  unfold S_Program_hands_o
  rw [zha_eq, e_semOf]
  have st : startD 2 [prG Ps b c] = [some (prG Ps b c), none] := rfl
  rw [st]
  have sh : short Ps.length = true := short_le (by omega)
  have cf := comp_new (c := none) (m := mName 1) (fe := fCB gListO (fCons (fVar 1) (fun _ S => .ok [] S))) (g := rowsQ []) (ρ := [some (prG Ps b c), none]) (Ps.map D.lst) S trivial (fun d hd S => by
    obtain ⟨rs, hr, rfl⟩ := List.mem_map.mp hd
    refine ⟨_, rfl, ?_⟩
    have e1 : isDic1 [.lst rs] S = false := rfl
    simp [gListO, e1, gToO, asQ, asL, rowsQ])
  rw [List.length_map] at cf
  have ai := asI_g (Ps := Ps) (b := b) (c := c) S
  have lk := lkgP (Ps := Ps) (b := b) (c := c)
  show _ = Res.ok (D.oid (S.length + Ps.length)) (S ++ (newL (rowsQ []) (Ps.map D.lst) ++ [.lst (oids S.length Ps.length)]))
  unfold zha0
  generalize prG Ps b c = Z at *
  have lL : (Ps.map D.lst).length = Ps.length := List.length_map ..
  generalize Ps.map D.lst = L at *
  simp only [e_gRet, e_fComp, e_fSeq, e_fFld, e_fVar, List.getElem?_cons_zero, Res.bind_ok, List.map_cons, List.map_nil, e_wipe1, e_wipe0, List.set_cons_succ, List.set_cons_zero]
  simp [ai, lk, seqD, asL]
  rw [cf]
  simp [finO, oids, sh, newL, lL]
end
end K03

/-! What is told of hands is due. -/
namespace K03
open PySem L2 DL
theorem badR_none {b s m : Int} : ∀ (k : Nat) (rs : List D), badR b s m k rs = none → ∀ r ∈ rs, fitA b s m r = true
  | _, [], _, r, h => by cases h
  | k, q :: rs, h, r, hr => by
    unfold badR at h
    by_cases f : fitA b s m q = true
    · rw [if_pos f] at h
      rcases List.mem_cons.mp hr with rfl | hr
      · exact f
      · exact badR_none (k + 1) rs h r hr
    · rw [if_neg f] at h
      cases h
theorem badH_none {b s : Int} : ∀ (k : Nat) (P : List (List D)), badH b s k P = none → ∀ rs ∈ P, ∀ r ∈ rs, fitA b s rs.length r = true
  | _, [], _, rs, h => by cases h
  | k, q :: P, h, rs, hr => by
    unfold badH at h
    cases e : badR b s q.length 0 q with
    | some j => rw [e] at h; cases h
    | none =>
      rw [e] at h
      rcases List.mem_cons.mp hr with rfl | hr
      · exact badR_none 0 _ e
      · exact badH_none (k + 1) P h rs hr
/-- all is good: what is known then -/
structure Good (b c : Int) (Ps : List (List D)) : Prop where
  hb : 1 ≤ b ∧ b ≤ 6
  hc : 0 ≤ c ∧ c ≤ 6
  len : 1 ≤ Ps.length ∧ Ps.length ≤ 4
  fit : ∀ rs ∈ Ps, ∀ r ∈ rs, fitA b c rs.length r = true
theorem good_of {w s : D} {Ps : List (List D)} (h : fbV [] w s (.lst (Ps.map D.lst)) = none) : ∃ b c, w = .int b ∧ s = .int c ∧ Good b c Ps := by
  unfold fbV at h
  by_cases h0 : (whl w 1 6 && whl s 0 6) = false
  · rw [if_pos h0] at h; cases h
  · rw [if_neg h0] at h
    have h0 : (whl w 1 6 && whl s 0 6) = true := by simpa using h0
    rw [Bool.and_eq_true] at h0
    obtain ⟨b, rfl, b1, b2⟩ := whl_int h0.1
    obtain ⟨c, rfl, c1, c2⟩ := whl_int h0.2
    have e : asQ [] (D.lst (Ps.map D.lst)) = some (Ps.map D.lst) := rfl
    rw [e] at h
    simp only [] at h
    by_cases h1 : 1 ≤ (Ps.map D.lst).length ∧ (Ps.map D.lst).length ≤ 4
    · rw [if_neg (fun z => z h1)] at h
      rw [List.length_map] at h1
      by_cases h2 : (Ps.map D.lst).any (offQ []) = true
      · rw [if_pos h2] at h; cases h
      · rw [if_neg h2] at h
        have e2 : (Ps.map D.lst).map (rowsQ []) = Ps := by
          rw [List.map_map]
          have : (rowsQ [] ∘ D.lst) = id := rfl
          rw [this, List.map_id]
        rw [e2] at h
        have h3 : badH b c 0 Ps = none := by
          cases q : badH b c 0 Ps with
          | none => rfl
          | some z => rw [q] at h; cases h
        exact ⟨b, c, rfl, rfl, ⟨b1, b2⟩, ⟨c1, c2⟩, h1, badH_none 0 Ps h3⟩
    · rw [if_pos h1] at h; cases h
theorem row_alk {b c : Int} {Ps : List (List D)} (G : Good b c Ps) (hD : PsD Ps) {rs : List D} (hr : rs ∈ Ps) {r : D} (h : r ∈ rs) : alk 2 r = true := by
  have l := (hD rs hr).1
  obtain ⟨w, f, as, rfl, _, _, _, _⟩ := fit_inv G.hb G.hc (by omega) (G.fit rs hr r h)
  refine alk_up 1 _ ?_
  have la := ((hD rs hr).2 _ h).len _ rfl
  have p : (D.str w :: as.map D.int).all (alk 0) = true := by
    rw [List.all_eq_true]
    intro x hx
    rcases List.mem_cons.mp hx with rfl | hx
    · rfl
    · obtain ⟨a, _, rfl⟩ := List.mem_map.mp hx
      rfl
  unfold rwD alk
  simp only [p, Bool.and_true, prim, Bool.false_or]
  exact decide_eq_true (by omega)
theorem told_get (S : Store) (Ps : List (List D)) : (ToldS S Ps)[S.length + Ps.length]? = some (.lst (oids S.length Ps.length)) ∧ ∀ (i : Nat) rs, Ps[i]? = some rs → (ToldS S Ps)[S.length + i]? = some (.lst rs) := by
  have ln : (newL (rowsQ []) (Ps.map D.lst)).length = Ps.length := by simp [newL]
  constructor
  · unfold ToldS
    rw [List.getElem?_append_right (by omega), List.getElem?_append_right (by omega), ln]
    have : S.length + Ps.length - S.length - Ps.length = 0 := by omega
    rw [this]
    rfl
  · intro i rs h
    have hi := (List.getElem?_eq_some_iff.mp h).1
    unfold ToldS
    rw [List.getElem?_append_right (by omega), List.getElem?_append_left (by omega)]
    have : S.length + i - S.length = i := by omega
    rw [this]
    unfold newL
    rw [List.getElem?_map, List.getElem?_map, h]
    rfl
theorem oids_get {n k i : Nat} (h : i < k) : (oids n k)[i]? = some (.oid (n + i)) := by
  unfold oids
  rw [List.getElem?_map, List.getElem?_range' h]
  simp
theorem oids_len (n k : Nat) : (oids n k).length = k := by simp [oids]
theorem alike_told {b c : Int} {Ps : List (List D)} (G : Good b c Ps) (hD : PsD Ps) (S : Store) : S_p_law_alike [.lst [.oid (S.length + Ps.length), .int b, .int c], .lst [.lst (Ps.map D.lst), .int b, .int c]] (ToldS S Ps) = .ok (.bl true) (ToldS S Ps) := by
  obtain ⟨t1, t2⟩ := told_get S Ps
  rw [al_0]
  refine alM_lists rfl (by simp) fun i d e h1 h2 => ?_
  have nts : ∀ i, S_p_law_alike_r1 [.int i, .int i] (ToldS S Ps) = .ok (.bl true) (ToldS S Ps) := fun i => alk_1 _ _ rfl
  rcases i with _ | _ | _ | i
  · simp at h1 h2
    subst h1
    subst h2
    rw [al_1]
    refine alM_oid t1 (by rw [oids_len, List.length_map]) (by rw [oids_len]; have := G.len.2; omega) fun i d e h1 h2 => ?_
    rw [List.getElem?_map] at h2
    cases hp : Ps[i]? with
    | none => rw [hp] at h2; cases h2
    | some rs =>
      rw [hp] at h2
      cases h2
      have hi := (List.getElem?_eq_some_iff.mp hp).1
      rw [oids_get hi] at h1
      cases h1
      rw [al_2]
      have hm := List.mem_of_getElem? hp
      refine alM_oid (t2 i rs hp) rfl (by have := (hD rs hm).1; omega) fun i d e h1 h2 => ?_
      rw [h1] at h2
      cases h2
      exact alk_3 _ _ (row_alk G hD hm (List.mem_of_getElem? h1))
  · simp at h1 h2
    subst h1
    subst h2
    exact nts b
  · simp at h1 h2
    subst h1
    subst h2
    exact nts c
  · simp at h1
theorem alike_due (z : Int × Int) (S : Store) : S_p_law_alike [.tup [.int z.1, .int z.2], .tup [.int z.1, .int z.2]] S = .ok (.bl true) S := alk_0 _ S (by simp [alk, prim])
theorem alike_int (i : Int) (S : Store) : S_p_law_alike [.int i, .int i] S = .ok (.bl true) S := alk_0 _ S rfl
end K03

/-! Hands that are none, as the law hands them in. -/
namespace K03
open PySem L2 DL
/-- what is known of hands as they are handed in: frozen as y in S' -/
structure Rdy (ns : List Int) (p : Nat) (Ps : List (List D)) (S : Store) (x : D) (y : D) (S' : Store) : Prop where
  fz : frzD 60 x S = some (y, S')
  st : Sto 0 ns S'
  fn : Fzn S' x y
  or : (x = .oid p ∧ y = .lst (Ps.map D.lst) ∧ S'[p]? = some (.frz (.lst (Ps.map D.lst)))) ∨ ∀ w s, fbV [] w s y ≠ none
theorem sto_of {S S' : Store} {ns : List Int} (h : Sto 0 ns S) (z : ∀ (o : Nat) (x : SO), S[o]? = some x → (∀ rs, x ≠ SO.lst rs) → S'[o]? = some x) : Sto 0 ns S' := by
  obtain ⟨v, k, h⟩ := h
  exact ⟨v, k, z 0 _ h fun rs e => by cases e⟩
theorem fb_some {y : D} (h : ∀ xs, asQ [] y = some xs → ¬ (1 ≤ xs.length ∧ xs.length ≤ 4) ∨ xs.any (offQ []) = true) (w s : D) : fbV [] w s y ≠ none := by
  unfold fbV
  split
  · exact fun z => by cases z
  · cases q : asQ [] y with
    | none => exact fun z => by cases z
    | some xs =>
      simp only []
      rcases h xs q with t | t
      · rw [if_pos t]
        exact fun z => by cases z
      · by_cases u : ¬ (1 ≤ xs.length ∧ xs.length ≤ 4)
        · rw [if_pos u]
          exact fun z => by cases z
        · rw [if_neg u, if_pos t]
          exact fun z => by cases z
section
variable {S : Store} {p : Nat} {hs : List Nat} {Ps : List (List D)} {ns : List Int}
theorem rdy_plan (A : PlA S 0 p hs Ps) (hst : Sto 0 ns S) (hl : Ps.length ≤ 4) (hD : PsD Ps) : ∃ S', Rdy ns p Ps S (.oid p) (.lst (Ps.map D.lst)) S' := by
  obtain ⟨S', e, g, l, z, F⟩ := frz_plan A hD (by omega)
  refine ⟨S', e, sto_of hst z, ?_, .inl ⟨rfl, rfl, g⟩⟩
  have q : asQ S' (.oid p) = some (Ps.map D.lst) := (show Hd S' p (Ps.map D.lst) from .inr g).asq
  refine fzn_l q (fun ds e => by cases e) ?_ (by rw [List.length_map]; omega)
  have : ∀ Ps : List (List D), PsD Ps → AllQ (ItQ S') (Ps.map D.lst) (Ps.map D.lst) := by
    intro Ps
    induction Ps with
    | nil => intro _; trivial
    | cons rs Ps ih => exact fun hD => ⟨.inl ⟨rs, rfl, fun ds e => (by cases e), rfl, hD rs List.mem_cons_self⟩, ih fun r h => hD r (List.mem_cons_of_mem _ h)⟩
  exact this Ps hD
theorem rdy_list (hst : Sto 0 ns S) {l es : List D} (q : AllQ (FItQ S) l es) (hl : l.length ≤ 1000) (h : ¬ (1 ≤ es.length ∧ es.length ≤ 4) ∨ es.any (offQ []) = true) : ∃ S', Rdy ns p Ps S (.lst l) (.lst es) S' := by
  obtain ⟨S', e, z, F⟩ := frz_list q hl
  refine ⟨S', e, sto_of hst z.st, fzn_l (l := l) rfl (fun ds e => by cases e) (q.mono fun d e h => (h.fz z).it) hl, .inr (fb_some fun xs e => ?_)⟩
  cases e
  exact h
theorem rdy_small (hst : Sto 0 ns S) {x : D} (h : Small x) : Rdy ns p Ps S x x S := by
  refine ⟨?_, hst, fun T _ => frzn_n (small_kq _ h).2 (small_kq _ h).1 (small_kq _ h).2 (small_kq _ h).1 ?_, .inr (fb_some fun xs e => ?_)⟩
  · rcases h with rfl | ⟨x, rfl, _⟩ <;> rfl
  · rcases h with rfl | ⟨x, rfl, _⟩ <;> rfl
  · rw [(small_kq _ h).2] at e
    cases e
theorem rdy_dict (hst : Sto 0 ns S) {n : Nat} (hn : S[n]? = some (.dic [])) (n0 : n ≠ 0) : ∃ S', Rdy ns p Ps S (.oid n) (.dic []) S' := by
  have g : (S.set n (.frz (.dic [])))[n]? = some (.frz (.dic [])) := set_eq hn
  refine ⟨S.set n (.frz (.dic [])), ?_, hst.set n0, fun T k => ?_, .inr (fb_some fun xs e => by cases e)⟩
  · rw [frzD]
    simp only [hn, frzF, Option.map_some]
  · have g2 : T[n]? = some (.frz (.dic [])) := k n _ g fun _ e => by cases e
    have a : asQ T (.oid n) = none := by
      have e : asQ T (.oid n) = asL T (.oid n) := rfl
      rw [e]
      simp [asL, g2]
    refine frzn_n a (.inr ⟨a, "dict", ?_, .inr (.inr (.inl rfl))⟩) rfl (.inr ⟨rfl, "dict", rfl, .inr (.inr (.inl rfl))⟩) rfl
    simp [tyS, g2]
def oddP (hs : List Nat) (h0 n : Nat) : List D := [.lst [], .non, .str "hands", .lst (repD (hs.map D.oid) 5), .oid n, .lst [.oid h0, .non], .lst [.oid h0, .str "rows"], .lst [.str "", .oid h0]]
theorem odd_rdy (A : PlA S 0 p hs Ps) (hst : Sto 0 ns S) (hl : 1 ≤ Ps.length ∧ Ps.length ≤ 4) (hD : PsD Ps) {h0 n : Nat} (hh : hs[0]? = some h0) (hn : S[n]? = some (.dic [])) (n0 : n ≠ 0) {x : D} (hx : x ∈ oddP hs h0 n) : ∃ y S', Rdy ns p Ps S x y S' := by
  have it := A.items hD
  have hP : 0 < Ps.length := by omega
  have r0 := A.row 0 h0 Ps[0] hh (List.getElem?_eq_getElem hP)
  have i0 : FItQ S (.oid h0) (.lst Ps[0]) := .inl ⟨h0, Ps[0], rfl, .inl r0, rfl, hD _ (List.getElem_mem hP)⟩
  have sm : ∀ d, Small d → FItQ S d d := fun d h => .inr ⟨rfl, h⟩
  have s1 : ∀ x : Str, PyData.strOk x = true → Small (.str x) := fun x h => .inr ⟨x, rfl, h⟩
  have sN : Small .non := .inl rfl
  have off : ∀ d, Small d → offQ [] d = true := fun d h => by simp only [offQ, (small_kq [] h).2]
  have k1 : PyData.strOk ("hands" : Str) = true := by decide +kernel
  have k2 : PyData.strOk ("rows" : Str) = true := by decide +kernel
  have k3 : PyData.strOk ("" : Str) = true := by decide +kernel
  simp only [oddP, List.mem_cons, List.not_mem_nil, or_false] at hx
  rcases hx with rfl | rfl | rfl | rfl | rfl | rfl | rfl | rfl
  · obtain ⟨S', h⟩ := rdy_list (p := p) (Ps := Ps) hst (l := []) (es := []) trivial (by simp) (.inl (by simp))
    exact ⟨_, S', h⟩
  · exact ⟨_, S, rdy_small hst sN⟩
  · exact ⟨_, S, rdy_small hst (s1 _ k1)⟩
  · have e : ∀ xs : List D, repD xs 5 = xs ++ (xs ++ (xs ++ (xs ++ (xs ++ [])))) := fun _ => rfl
    have it5 := it.app (it.app (it.app (it.app (it.app (l' := []) (es' := []) trivial))))
    rw [e]
    have lh := A.len
    obtain ⟨S', h⟩ := rdy_list (p := p) (Ps := Ps) hst it5 (by simp; omega) (.inl (by simp; omega))
    exact ⟨_, S', h⟩
  · obtain ⟨S', h⟩ := rdy_dict (p := p) (Ps := Ps) hst hn n0
    exact ⟨_, S', h⟩
  · obtain ⟨S', h⟩ := rdy_list (p := p) (Ps := Ps) hst (l := [.oid h0, .non]) (es := [.lst Ps[0], .non]) ⟨i0, sm _ sN, trivial⟩ (by simp) (.inr (by simp [off _ sN]))
    exact ⟨_, S', h⟩
  · obtain ⟨S', h⟩ := rdy_list (p := p) (Ps := Ps) hst (l := [.oid h0, .str "rows"]) (es := [.lst Ps[0], .str "rows"]) ⟨i0, sm _ (s1 _ k2), trivial⟩ (by simp) (.inr (by simp [off _ (s1 _ k2)]))
    exact ⟨_, S', h⟩
  · obtain ⟨S', h⟩ := rdy_list (p := p) (Ps := Ps) hst (l := [.str "", .oid h0]) (es := [.str "", .lst Ps[0]]) ⟨sm _ (s1 _ k3), i0, trivial⟩ (by simp) (.inr (by simp [off _ (s1 _ k3)]))
    exact ⟨_, S', h⟩
end
end K03

/-! The law, its first half: what is drawn. -/
namespace K03
open PySem L2 DL
noncomputable def zla0 : FS := (gSet 1 (fCall S_p_law_begin (fun ds es => pick [(0, 0)] ds es []) 1 0 1 (fCons (fVar 0) (fun _ S => .ok [] S)) (fun _ S => .ok [] S)))
noncomputable def zla1 : FS := (gSet 2 (fCall S_p_law_next (fun ds es => pick [(0, 0), (0, 1)] ds es []) 2 0 2 (fCons (fVar 1) (fCons (fC (.int 12)) (fun _ S => .ok [] S))) (fun _ S => .ok [] S)))
noncomputable def zla2 : FS := (gPar 3 4 (fCons (fBin gAdd (fC (.int 1)) (fCall S_p_law_next (fun ds es => pick [(0, 0), (0, 1)] ds es []) 2 0 2 (fCons (fVar 1) (fCons (fC (.int 6)) (fun _ S => .ok [] S))) (fun _ S => .ok [] S))) (fCons (fCall S_p_law_next (fun ds es => pick [(0, 0), (0, 1)] ds es []) 2 0 2 (fCons (fVar 1) (fCons (fC (.int 7)) (fun _ S => .ok [] S))) (fun _ S => .ok [] S)) (fun _ S => .ok [] S))))
noncomputable def zla3 : FS := (gSet 5 (fCall S_p_law_plan (fun ds es => pick [(0, 0), (0, 1), (0, 2)] ds es []) 3 0 3 (fCons (fVar 1) (fCons (fVar 3) (fCons (fVar 4) (fun _ S => .ok [] S)))) (fun _ S => .ok [] S)))
noncomputable def zla4b0 : FS := (gSet 5 (fCall S_p_law_spoilt (fun ds es => pick [(0, 0), (0, 1), (0, 2), (0, 3)] ds es []) 4 0 4 (fCons (fVar 1) (fCons (fVar 5) (fCons (fVar 3) (fCons (fVar 4) (fun _ S => .ok [] S))))) (fun _ S => .ok [] S)))
noncomputable def zla4 : FS := (gFor (fRng1 (fCons (fCB gMax (fCons (fC (.int 0)) (fCons (fBin gSub (fCall S_p_law_next (fun ds es => pick [(0, 0), (0, 1)] ds es []) 2 0 2 (fCons (fVar 1) (fCons (fC (.int 5)) (fun _ S => .ok [] S))) (fun _ S => .ok [] S)) (fC (.int 1))) (fun _ S => .ok [] S)))) (fun _ S => .ok [] S))) (mName 6) zla4b0)
noncomputable def zla5 : FS := (gIf (toB (fBin gEq (fVar 2) (fC (.int 0)))) (gSet 3 (fCall S_p_law_pick (fun ds es => pick [(0, 0), (0, 1)] ds es []) 2 0 2 (fCons (fVar 1) (fCons (fLst (fCons (fC (.int 0)) (fCons (fC (.int 7)) (fCons (fC (.bl true)) (fCons (fC .non) (fCons (fC (.str "4")) (fCons (fUn gNeg (fC (.int 1))) (fun _ S => .ok [] S)))))))) (fun _ S => .ok [] S))) (fun _ S => .ok [] S))) (gIf (toB (fBin gEq (fVar 2) (fC (.int 1)))) (gSet 4 (fCall S_p_law_pick (fun ds es => pick [(0, 0), (0, 1)] ds es []) 2 0 2 (fCons (fVar 1) (fCons (fLst (fCons (fUn gNeg (fC (.int 1))) (fCons (fC (.int 7)) (fCons (fC (.bl false)) (fCons (fC .non) (fCons (fC (.str "2")) (fCons (fLst (fCons (fC (.int 2)) (fun _ S => .ok [] S))) (fun _ S => .ok [] S)))))))) (fun _ S => .ok [] S))) (fun _ S => .ok [] S))) (gIf (toB (fBin gEq (fVar 2) (fC (.int 2)))) (gSet 5 (fCall S_p_law_pick (fun ds es => pick [(0, 0), (0, 1)] ds es []) 2 0 2 (fCons (fVar 1) (fCons (fLst (fCons (fLst (fun _ S => .ok [] S)) (fCons (fC .non) (fCons (fC (.str "hands")) (fCons (fBin gRepL (fVar 5) (fC (.int 5))) (fCons fDict0 (fCons (fLst (fCons (fBin gIx (fVar 5) (fC (.int 0))) (fCons (fC .non) (fun _ S => .ok [] S)))) (fCons (fLst (fCons (fBin gIx (fVar 5) (fC (.int 0))) (fCons (fC (.str "rows")) (fun _ S => .ok [] S)))) (fCons (fLst (fCons (fC (.str "")) (fCons (fBin gIx (fVar 5) (fC (.int 0))) (fun _ S => .ok [] S)))) (fun _ S => .ok [] S)))))))))) (fun _ S => .ok [] S))) (fun _ S => .ok [] S))) gNil)))
noncomputable def zla6 : FS := (gSet 7 (fCall (callSub S_p_law_first_bad) (fun ds es => pick [(0, 0), (0, 1), (0, 2)] ds es []) 3 0 3 (fCons (fFrzD 60 (fVar 5)) (fCons (fVar 3) (fCons (fVar 4) (fun _ S => .ok [] S)))) (fun _ S => .ok [] S)))
noncomputable def zla7 : FS := (gSet 8 (fCall S_p_law_next (fun ds es => pick [(0, 0), (0, 1)] ds es []) 2 0 2 (fCons (fVar 1) (fCons (fC (.int 4)) (fun _ S => .ok [] S))) (fun _ S => .ok [] S)))
noncomputable def zla8 : FS := (gSet 9 (fVar 5))
noncomputable def zla9 : FS := (gIf (toB (fBin gIs (fVar 7) (fC .non))) (gSet 9 (fComp (fSeq (fVar 5)) (mName 14) fYes (fIf (toB (fBin gEq (fBin gMod (fVar 8) (fC (.int 2))) (fC (.int 1)))) (fCB gTuple (fCons (fVar 14) (fun _ S => .ok [] S))) (fCB gListO (fCons (fVar 14) (fun _ S => .ok [] S)))) ([("_law_rows", 14)].map (·.2)) finO)) gNil)
noncomputable def zla10 : FS := (gIf (fAndT (toB (fBin gIs (fVar 7) (fC .non))) (toB (fBin gGt (fVar 8) (fC (.int 1))))) (gSet 9 (fCB gTuple (fCons (fVar 9) (fun _ S => .ok [] S)))) gNil)
noncomputable def zla11 : FS := (gAsg (mTup 2 (mCons (mName 10) (mCons (mName 11) (fun ds ρ _ => match ds with | [] => some ρ | _ => none)))) (fCall S_p_law_made (fun ds es => pick [(0, 0), (0, 1), (0, 2)] ds es []) 3 0 3 (fCons (fVar 9) (fCons (fVar 3) (fCons (fVar 4) (fun _ S => .ok [] S)))) (fun _ S => .ok [] S)))
noncomputable def zla12 : FS := (gIf (fOrT (toB (fBin gIsNot (fVar 7) (fC .non))) (toB (fBin gIs (fVar 10) (fC .non)))) (gRet (fCall S_p_law_alike (fun ds es => pick [(0, 0), (0, 1)] ds es []) 2 0 2 (fCons (fVar 11) (fCons (fVar 7) (fun _ S => .ok [] S))) (fun _ S => .ok [] S))) gNil)
noncomputable def zla13 : FS := (gIf (toB (fBin gEq (fVar 8) (fC (.int 0)))) (gExpr (fBM "list" gApp (fVar 9) (fCons (fLst (fCons (fTup (fCons (fC (.str "stop")) (fun _ S => .ok [] S))) (fun _ S => .ok [] S))) (fun _ S => .ok [] S)))) gNil)
noncomputable def zla14 : FS := (gIf (toB (fBin gEq (fBin gMod (fVar 8) (fC (.int 2))) (fC (.int 0)))) (gExpr (fBM "list" gApp (fBin gIx (fVar 9) (fC (.int 0))) (fCons (fTup (fCons (fC (.str "stop")) (fun _ S => .ok [] S))) (fun _ S => .ok [] S)))) gNil)
noncomputable def zla15b0 : FS := (gSet 13 (fMeth S_Program_hands_o (fun ds es => pick [(0, 0)] ds es []) "Program" "hands" 1 0 1 (fVar 10) (fun _ S => .ok [] S) (fun _ S => .ok [] S)))
noncomputable def zla15b1 : FS := (gIf (fNotT (toB (fCall S_p_law_alike (fun ds es => pick [(0, 0), (0, 1)] ds es []) 2 0 2 (fCons (fLst (fCons (fVar 13) (fCons (fMeth (callSub S_Program_boxes) (fun ds es => pick [(0, 0)] ds es []) "Program" "boxes" 1 0 1 (fVar 10) (fun _ S => .ok [] S) (fun _ S => .ok [] S)) (fCons (fMeth (callSub S_Program_board) (fun ds es => pick [(0, 0)] ds es []) "Program" "board" 1 0 1 (fVar 10) (fun _ S => .ok [] S) (fun _ S => .ok [] S)) (fun _ S => .ok [] S))))) (fCons (fLst (fCons (fComp (fSeq (fVar 5)) (mName 14) fYes (fCB gList (fCons (fVar 14) (fun _ S => .ok [] S))) ([("_law_rows", 14)].map (·.2)) finL) (fCons (fVar 3) (fCons (fVar 4) (fun _ S => .ok [] S))))) (fun _ S => .ok [] S))) (fun _ S => .ok [] S)))) (gRet (fC (.bl false))) gNil)
noncomputable def zla15b2 : FS := (gExpr (fBM "list" gApp (fBin gIx (fVar 13) (fC (.int 0))) (fCons (fTup (fCons (fC (.str "stop")) (fun _ S => .ok [] S))) (fun _ S => .ok [] S))))
noncomputable def zla15b : FS := (gSeq zla15b0 (gSeq zla15b1 zla15b2))
noncomputable def zla15 : FS := (gFor (fRng1 (fCons (fC (.int 2)) (fun _ S => .ok [] S))) (mName 12) zla15b)
noncomputable def zla16 : FS := (gRet (fCall S_p_law_alike (fun ds es => pick [(0, 0), (0, 1)] ds es []) 2 0 2 (fCons (fMeth (callSub S_Program_pegs) (fun ds es => pick [(0, 0)] ds es []) "Program" "pegs" 1 0 1 (fVar 10) (fun _ S => .ok [] S) (fun _ S => .ok [] S)) (fCons (fBin gAdd (fBin gMul (fCB gLen (fCons (fVar 5) (fun _ S => .ok [] S))) (fVar 3)) (fVar 4)) (fun _ S => .ok [] S))) (fun _ S => .ok [] S)))
noncomputable def zla : FS := (gSeq zla0 (gSeq zla1 (gSeq zla2 (gSeq zla3 (gSeq zla4 (gSeq zla5 (gSeq zla6 (gSeq zla7 (gSeq zla8 (gSeq zla9 (gSeq zla10 (gSeq zla11 (gSeq zla12 (gSeq zla13 (gSeq zla14 (gSeq zla15 zla16))))))))))))))))
theorem zla_eq : m_law = zla := rfl
structure Small2 (w : D) : Prop where
  ok : okK w = true
  pu : w.pure = true
theorem head4 (ns : List Int) : ∃ (wy b s : Int) (y6 : Option D) (p : Nat) (hs : List Nat) (Ps : List (List D)) (S : Store), (1 ≤ b ∧ b ≤ 6) ∧ (0 ≤ s ∧ s ≤ 6) ∧ (0 ≤ wy) ∧ PlA S 0 p hs Ps ∧ Sto 0 ns S ∧ (1 ≤ Ps.length ∧ Ps.length ≤ 4) ∧ PsD Ps ∧
    ∀ R : FS, (gSeq zla0 (gSeq zla1 (gSeq zla2 (gSeq zla3 (gSeq zla4 R))))) [some (.scr (ns.map D.int)), none, none, none, none, none, none, none, none, none, none, none, none, none, none] [] = R [some (.scr (ns.map D.int)), some (.oid 0), some (.int wy), some (.int b), some (.int s), some (.oid p), y6, none, none, none, none, none, none, none, none] S := by
  have be := begin_ok ns []
  obtain ⟨sc, hsc⟩ : ∃ sc, sc = some (D.scr (ns.map D.int)) := ⟨_, rfl⟩
  have st0 : Sto 0 ns [stO 0 0 ns] := ⟨0, 0, rfl⟩
  obtain ⟨wy, S1, w1, w2, q1, d1⟩ := draw st0 (m := 12) (by decide) (by decide)
  obtain ⟨u, S2, u1, u2, q2, d2⟩ := draw d1.st (m := 6) (by decide) (by decide)
  obtain ⟨s, S3, s1, s2, q3, d3⟩ := draw d2.st (m := 7) (by decide) (by decide)
  have hb : 1 ≤ 1 + u ∧ 1 + u ≤ 6 := ⟨by omega, by omega⟩
  have hs' : 0 ≤ s ∧ s ≤ 6 := ⟨by omega, by omega⟩
  obtain ⟨p, hs, Ps, S4, A, st4, hP, hD, q4⟩ := plan_ok hb hs' d3.st
  obtain ⟨k, S5, k1, k2, q5, d5⟩ := draw st4 (m := 5) (by decide) (by decide)
  obtain ⟨m, hm, hm2⟩ : ∃ m : Nat, (if (1 : Int) < k then k - 1 else 0) = (m : Int) ∧ m ≤ 5 := by
    by_cases h : (1 : Int) < k
    · rw [if_pos h]
      exact ⟨(k - 1).toNat, by omega, by omega⟩
    · rw [if_neg h]
      exact ⟨0, rfl, by decide⟩
  obtain ⟨ρ', S6, lo, y6, Ps', rfl, A', st', hP', hD'⟩ := loop_inv (m := mName 6) (b := zla4b0) (fun j ρ S' => ∃ (y6 : Option D) (Ps' : List (List D)), ρ = [sc, some (.oid 0), some (.int wy), some (.int (1 + u)), some (.int s), some (.oid p), y6, none, none, none, none, none, none, none, none] ∧ PlA S' 0 p hs Ps' ∧ Sto 0 ns S' ∧ (1 ≤ Ps'.length ∧ Ps'.length ≤ 4) ∧ PsD Ps')
    (rng 0 (m : Nat)) 0 [sc, some (.oid 0), some (.int wy), some (.int (1 + u)), some (.int s), some (.oid p), none, none, none, none, none, none, none, none, none] S5 ⟨none, Ps, rfl, A.drw d5, d5.st, hP, hD⟩ (by
    rintro j e ρ T hd ⟨y6, Ps', rfl, A', st', hP', hD'⟩
    obtain ⟨Ps2, T', A2, st2, l2, hD2, e2⟩ := spoilt_ok hb hs' A' st' hP' hD'
    refine ⟨_, _, _, rfl, .inl (?_ : zla4b0 [sc, some (.oid 0), some (.int wy), some (.int (1 + u)), some (.int s), some (.oid p), some e, none, none, none, none, none, none, none, none] T = .nx [sc, some (.oid 0), some (.int wy), some (.int (1 + u)), some (.int s), some (.oid p), some e, none, none, none, none, none, none, none, none] T'), _, Ps2, rfl, A2, st2, by rw [l2]; exact hP', hD2⟩
    unfold zla4b0
    simp [e2])
  refine ⟨wy, 1 + u, s, y6, p, hs, Ps', S6, hb, hs', w1, A', st', hP', hD', fun R => ?_⟩
  rw [← hsc]
  have v0 : zla0 [sc, none, none, none, none, none, none, none, none, none, none, none, none, none, none] [] = .nx [sc, some (.oid 0), none, none, none, none, none, none, none, none, none, none, none, none, none] [stO 0 0 ns] := by
    rw [hsc]
    generalize D.scr (ns.map D.int) = X at *
    unfold zla0
    simp [be]
  have v1 : zla1 [sc, some (.oid 0), none, none, none, none, none, none, none, none, none, none, none, none, none] [stO 0 0 ns] = .nx [sc, some (.oid 0), some (.int wy), none, none, none, none, none, none, none, none, none, none, none, none] S1 := by
    generalize [stO 0 0 ns] = X at *
    unfold zla1
    simp [q1]
  have v2 : zla2 [sc, some (.oid 0), some (.int wy), none, none, none, none, none, none, none, none, none, none, none, none] S1 = .nx [sc, some (.oid 0), some (.int wy), some (.int (1 + u)), some (.int s), none, none, none, none, none, none, none, none, none, none] S3 := by
    unfold zla2 gPar
    simp [q2, q3]
  have v3 : zla3 [sc, some (.oid 0), some (.int wy), some (.int (1 + u)), some (.int s), none, none, none, none, none, none, none, none, none, none] S3 = .nx [sc, some (.oid 0), some (.int wy), some (.int (1 + u)), some (.int s), some (.oid p), none, none, none, none, none, none, none, none, none] S4 := by
    unfold zla3
    simp [q4]
  have v4 : zla4 [sc, some (.oid 0), some (.int wy), some (.int (1 + u)), some (.int s), some (.oid p), none, none, none, none, none, none, none, none, none] S4 = .nx [sc, some (.oid 0), some (.int wy), some (.int (1 + u)), some (.int s), some (.oid p), y6, none, none, none, none, none, none, none, none] S6 := by
    rw [← lo]
    have c : cRng (m : Int) = true := cRng18 (by omega)
    unfold zla4
    simp [q5, hm, c]
  rw [e_gSeq, v0, Out.seq_nx, e_gSeq, v1, Out.seq_nx, e_gSeq, v2, Out.seq_nx, e_gSeq, v3, Out.seq_nx, e_gSeq, v4, Out.seq_nx]
theorem head_ok (ns : List Int) : ∃ (wy w s x y : D) (y6 : Option D) (p : Nat) (Ps : List (List D)) (S S' : Store), Small2 w ∧ Small2 s ∧ PsD Ps ∧ p ≠ 0 ∧ Rdy ns p Ps S x y S' ∧
    ∀ R : FS, (gSeq zla0 (gSeq zla1 (gSeq zla2 (gSeq zla3 (gSeq zla4 (gSeq zla5 R)))))) [some (.scr (ns.map D.int)), none, none, none, none, none, none, none, none, none, none, none, none, none, none] [] = R [some (.scr (ns.map D.int)), some (.oid 0), some wy, some w, some s, some x, y6, none, none, none, none, none, none, none, none] S := by
  obtain ⟨wy, b, s, y6, p, hs, Ps, S, hb, hs', hw, A, hst, hP, hD, e⟩ := head4 ns
  have p0 : p ≠ 0 := A.sp.symm
  have fin : ∀ (W Z x y : D) (S1 S' : Store), Small2 W → Small2 Z → Rdy ns p Ps S1 x y S' → (∀ sc, zla5 [sc, some (.oid 0), some (.int wy), some (.int b), some (.int s), some (.oid p), y6, none, none, none, none, none, none, none, none] S = .nx [sc, some (.oid 0), some (.int wy), some W, some Z, some x, y6, none, none, none, none, none, none, none, none] S1) → _ := fun W Z x y S1 S' h1 h2 h3 h4 => (⟨.int wy, W, Z, x, y, y6, p, Ps, S1, S', h1, h2, hD, p0, h3, fun R => by
    rw [e (gSeq zla5 R), e_gSeq, h4, Out.seq_nx]⟩ : ∃ (wy w s x y : D) (y6 : Option D) (p : Nat) (Ps : List (List D)) (S S' : Store), Small2 w ∧ Small2 s ∧ PsD Ps ∧ p ≠ 0 ∧ Rdy ns p Ps S x y S' ∧
    ∀ R : FS, (gSeq zla0 (gSeq zla1 (gSeq zla2 (gSeq zla3 (gSeq zla4 (gSeq zla5 R)))))) [some (.scr (ns.map D.int)), none, none, none, none, none, none, none, none, none, none, none, none, none, none] [] = R [some (.scr (ns.map D.int)), some (.oid 0), some wy, some w, some s, some x, y6, none, none, none, none, none, none, none, none] S)
  have sb : Small2 (.int b) := ⟨rfl, rfl⟩
  have ss : Small2 (.int s) := ⟨rfl, rfl⟩
  by_cases c0 : wy = 0
  · subst c0
    obtain ⟨W, S1, hx, q, d⟩ := drawP (xs := [.int 0, .int 7, .bl true, .non, .str "4", .int (-1)]) hst (by simp) (by simp)
    have sw : Small2 W := by
      simp only [List.mem_cons, List.not_mem_nil, or_false] at hx
      rcases hx with rfl | rfl | rfl | rfl | rfl | rfl <;> exact ⟨rfl, rfl⟩
    obtain ⟨S', r⟩ := rdy_plan (A.drw d) d.st hP.2 hD
    refine fin _ _ _ _ _ _ sw ss r fun sc => ?_
    have k : short 6 = true := short_le (by omega)
    unfold zla5
    simp [q, k]
  · by_cases c1 : wy = 1
    · subst c1
      obtain ⟨W, S1, hx, q, d⟩ := drawP (xs := [.int (-1), .int 7, .bl false, .non, .str "2", .lst [.int 2]]) hst (by simp) (by simp)
      have sw : Small2 W := by
        simp only [List.mem_cons, List.not_mem_nil, or_false] at hx
        rcases hx with rfl | rfl | rfl | rfl | rfl | rfl <;> exact ⟨rfl, rfl⟩
      obtain ⟨S', r⟩ := rdy_plan (A.drw d) d.st hP.2 hD
      refine fin _ _ _ _ _ _ sb sw r fun sc => ?_
      have k : short 6 = true := short_le (by omega)
      have k1 : short 1 = true := short_le (by omega)
      unfold zla5
      simp [q, k, k1]
    · by_cases c2 : wy = 2
      · subst c2
        have lh := A.len
        obtain ⟨h0, hh⟩ : ∃ h0, hs[0]? = some h0 := ⟨hs[0]'(by omega), List.getElem?_eq_getElem (by omega)⟩
        have A1 : PlA (S ++ [SO.dic []]) 0 p hs Ps := ⟨app_old A.top, A.len, fun i o rs h1 h2 => app_old (A.row i o rs h1 h2), A.nd, A.np, A.sn, A.sp⟩
        have l0 : 0 < S.length := by
          obtain ⟨v, k, h⟩ := hst
          exact lt_of h
        have hn : (S ++ [SO.dic []])[S.length]? = some (.dic []) := by
          rw [List.getElem?_append_right (Nat.le_refl _), Nat.sub_self]
          rfl
        obtain ⟨W, S2, hx, q, d⟩ := drawP (xs := oddP hs h0 S.length) (hst.app [SO.dic []]) (by simp [oddP]) (by simp [oddP])
        have hn2 := d.old hn (by omega)
        obtain ⟨y, S', r⟩ := odd_rdy (A1.drw d) d.st hP hD hh hn2 (by omega) hx
        refine fin _ _ _ _ _ _ sb ss r fun sc => ?_
        have k8 : short 8 = true := short_le (by omega)
        have k2 : short 2 = true := short_le (by omega)
        have rp : gRepL (.oid p) (.int 5) S = .ok (.lst (repD (hs.map D.oid) 5)) S := by
          have : asLt S (.oid p) = some (hs.map D.oid) := by simp [asLt, asL, A.top]
          simp only [gRepL, this, List.length_map]
          rw [if_pos ⟨by decide, by decide, by omega⟩]
        have ix : gIx (.oid p) (.int 0) (S ++ [SO.dic []]) = .ok (.oid h0) (S ++ [SO.dic []]) := by
          have e0 : (0 : Int) = ((0 : Nat) : Int) := rfl
          rw [e0, ix_o A1.top, at_nat _ _ (by rw [List.length_map]; omega), List.getElem?_map, hh]
          rfl
        have k0 : short 0 = true := short_le (by omega)
        unfold oddP at q
        generalize repD (hs.map D.oid) 5 = L5 at *
        unfold zla5
        simp [rp, fDict0, ix, q, k8, k2, k0]
      · obtain ⟨S', r⟩ := rdy_plan A hst hP.2 hD
        refine fin _ _ _ _ _ _ sb ss r fun sc => ?_
        unfold zla5
        simp [c0, c1, c2]
end K03

/-! The law, its second half: what is made, told, and asked. -/
namespace K03
open PySem L2 DL
theorem seq_plan {S : Store} {p : Nat} {L : List D} (h : S[p]? = some (.frz (.lst L))) : seqD (.oid p) S = .ok ⟨L, some (.oid p, L)⟩ S ∧ okC (some (.oid p, L)) S := by
  have a : asL S (.oid p) = some L := by simp [asL, h]
  exact ⟨by simp [seqD, a], a⟩
theorem tupL_it {S : Store} : ∀ {Ps : List (List D)}, PsD Ps → AllQ (ItQ S) (Ps.map D.tup) (Ps.map D.lst)
  | [], _ => trivial
  | rs :: Ps, hD => ⟨.inl ⟨rs, rfl, fun ds e => (by cases e), rfl, hD rs List.mem_cons_self⟩, tupL_it fun r h => hD r (List.mem_cons_of_mem _ h)⟩
theorem oids_it {S : Store} : ∀ {Ps : List (List D)} {n : Nat}, PsD Ps → (∀ (i : Nat) rs, Ps[i]? = some rs → S[n + i]? = some (.lst rs)) → AllQ (ItQ S) (oids n Ps.length) (Ps.map D.lst)
  | [], _, _, _ => trivial
  | rs :: Ps, n, hD, h => by
    have e : oids n (rs :: Ps).length = .oid n :: oids (n + 1) Ps.length := rfl
    rw [e]
    have h0 : S[n]? = some (.lst rs) := h 0 rs rfl
    refine ⟨.inl ⟨rs, ?_, fun ds e => (by cases e), rfl, hD rs List.mem_cons_self⟩, oids_it (fun r h => hD r (List.mem_cons_of_mem _ h)) fun i qs hi => ?_⟩
    · have e : asQ S (.oid n) = asL S (.oid n) := rfl
      rw [e]
      simp [asL, h0]
    · have := h (i + 1) qs hi
      rw [show n + (i + 1) = n + 1 + i by omega] at this
      exact this
/-- what is handed in -/
structure Hnd (S3 : Store) (Ps : List (List D)) (p : Nat) (k : Int) (hd : D) : Prop where
  pl : S3[p]? = some (.frz (.lst (Ps.map D.lst)))
  it : ∃ l, asQ S3 hd = some l ∧ (∀ ds, hd ≠ .scr ds) ∧ AllQ (ItQ S3) l (Ps.map D.lst) ∧ l.length ≤ 1000
  ev : k % 2 = 0 → ∃ q n0 l rs, (k = 0 → hd = .oid q) ∧ (k ≠ 0 → hd = .tup (.oid n0 :: l)) ∧ S3[q]? = some (.lst (.oid n0 :: l)) ∧ S3[n0]? = some (.lst rs) ∧ q ≠ n0 ∧ p ≠ q ∧ p ≠ n0 ∧ l.length ≤ 10 ∧ rs.length ≤ 100
theorem hand_ok {Ps : List (List D)} {p : Nat} {S2 : Store} (hp : S2[p]? = some (.frz (.lst (Ps.map D.lst)))) (hl : 1 ≤ Ps.length ∧ Ps.length ≤ 4) (hD : PsD Ps) {k : Int} (k0 : 0 ≤ k) (k4 : k < 4) (x0 x1 x2 x3 x4 x6 : Option D) : ∃ (hd : D) (S3 : Store), Hnd S3 Ps p k hd ∧
    ∀ R : FS, (gSeq zla9 (gSeq zla10 R)) [x0, x1, x2, x3, x4, some (.oid p), x6, some .non, some (.int k), some (.oid p), none, none, none, none, none] S2 = R [x0, x1, x2, x3, x4, some (.oid p), x6, some .non, some (.int k), some hd, none, none, none, none, none] S3 := by
  obtain ⟨sq, hc⟩ := seq_plan hp
  have lp := lt_of hp
  have shl : short Ps.length = true := short_le (by omega)
  have shP : (Ps.map D.lst).length = Ps.length := List.length_map ..
  have main : ∀ (W : List D) (S3 : Store), zla9 [x0, x1, x2, x3, x4, some (.oid p), x6, some .non, some (.int k), some (.oid p), none, none, none, none, none] S2 = .nx [x0, x1, x2, x3, x4, some (.oid p), x6, some .non, some (.int k), some (.oid (S3.length - 1)), none, none, none, none, none] S3 → S3[S3.length - 1]? = some (.lst W) → ∀ R : FS, (gSeq zla9 (gSeq zla10 R)) [x0, x1, x2, x3, x4, some (.oid p), x6, some .non, some (.int k), some (.oid p), none, none, none, none, none] S2 = R [x0, x1, x2, x3, x4, some (.oid p), x6, some .non, some (.int k), some (if k > 1 then .tup W else .oid (S3.length - 1)), none, none, none, none, none] S3 := fun W S3 e g R => by
    rw [e_gSeq, e, Out.seq_nx, e_gSeq]
    have aL : asL S3 (.oid (S3.length - 1)) = some W := by simp [asL, g]
    generalize S3.length - 1 = q at *
    unfold zla10
    by_cases c : k > 1
    · have c' : 1 < k := c
      simp [D.isNon, c', gTuple, aL]
    · have c' : ¬ 1 < k := c
      simp [D.isNon, c', c]
  by_cases c : k % 2 = 1
  · have cf := compQ_map (c := some (.oid p, Ps.map D.lst)) (m := mName 14) (fe := fIf (toB (fBin gEq (fBin gMod (fVar 8) (fC (.int 2))) (fC (.int 1)))) (fCB gTuple (fCons (fVar 14) (fun _ S => .ok [] S))) (fCB gListO (fCons (fVar 14) (fun _ S => .ok [] S)))) (f := fun d => D.tup (rowsQ [] d)) (ρ := [x0, x1, x2, x3, x4, some (.oid p), x6, some .non, some (.int k), some (.oid p), none, none, none, none, none]) (S := S2) hc (Ps.map D.lst) (fun d hd => by
      obtain ⟨rs, hr, rfl⟩ := List.mem_map.mp hd
      refine ⟨_, rfl, ?_⟩
      simp [c, gTuple, asL, rowsQ, asQ])
    have e1 : (Ps.map D.lst).map (fun d => D.tup (rowsQ [] d)) = Ps.map D.tup := by rw [List.map_map]; rfl
    rw [e1] at cf
    have v : zla9 [x0, x1, x2, x3, x4, some (.oid p), x6, some .non, some (.int k), some (.oid p), none, none, none, none, none] S2 = .nx [x0, x1, x2, x3, x4, some (.oid p), x6, some .non, some (.int k), some (.oid ((S2 ++ [SO.lst (Ps.map D.tup)]).length - 1)), none, none, none, none, none] (S2 ++ [SO.lst (Ps.map D.tup)]) := by
      have shT : (Ps.map D.tup).length = Ps.length := List.length_map ..
      rw [List.length_append, List.length_singleton, Nat.add_sub_cancel]
      generalize Ps.map D.lst = L at *
      generalize Ps.map D.tup = L2 at *
      unfold zla9
      rw [e_gIf]
      have t0 : toB (fBin gIs (fVar 7) (fC .non)) [x0, x1, x2, x3, x4, some (.oid p), x6, some .non, some (.int k), some (.oid p), none, none, none, none, none] S2 = .ok true S2 := by simp [D.isNon]
      rw [t0]
      simp only [Res.into_ok, if_true, e_gSet, e_fComp, e_fSeq, e_fVar, List.getElem?_cons_succ, List.getElem?_cons_zero, Res.bind_ok, sq, List.map_cons, List.map_nil, e_wipe1, e_wipe0, List.set_cons_succ, List.set_cons_zero]
      rw [cf]
      simp [finO, shT, shl]
    have g : (S2 ++ [SO.lst (Ps.map D.tup)])[(S2 ++ [SO.lst (Ps.map D.tup)]).length - 1]? = some (.lst (Ps.map D.tup)) := by
      rw [List.length_append, List.length_singleton, Nat.add_sub_cancel, List.getElem?_append_right (Nat.le_refl _), Nat.sub_self]
      rfl
    refine ⟨_, _, ⟨app_old hp, ⟨Ps.map D.tup, ?_, ?_, tupL_it hD, by rw [List.length_map]; omega⟩, fun z => by omega⟩, main _ _ v g⟩
    · split
      · rfl
      · generalize (S2 ++ [SO.lst (Ps.map D.tup)]) = S3 at *
        have e : asQ S3 (.oid (S3.length - 1)) = asL S3 (.oid (S3.length - 1)) := rfl
        rw [e]
        simp [asL, g]
    · intro ds
      split <;> exact fun e => by cases e
  · have c1 : ¬ k % 2 = 1 := c
    have cf := comp_new (c := some (.oid p, Ps.map D.lst)) (m := mName 14) (fe := fIf (toB (fBin gEq (fBin gMod (fVar 8) (fC (.int 2))) (fC (.int 1)))) (fCB gTuple (fCons (fVar 14) (fun _ S => .ok [] S))) (fCB gListO (fCons (fVar 14) (fun _ S => .ok [] S)))) (g := rowsQ []) (ρ := [x0, x1, x2, x3, x4, some (.oid p), x6, some .non, some (.int k), some (.oid p), none, none, none, none, none]) (Ps.map D.lst) S2 hc (fun d hd S => by
      obtain ⟨rs, hr, rfl⟩ := List.mem_map.mp hd
      refine ⟨_, rfl, ?_⟩
      have e1 : isDic1 [.lst rs] S = false := rfl
      simp [c1, gListO, e1, gToO, asQ, asL, rowsQ])
    rw [shP] at cf
    obtain ⟨t1, t2⟩ := told_get S2 Ps
    have ll : (ToldS S2 Ps).length - 1 = S2.length + Ps.length := by simp [ToldS, newL] <;> omega
    have v : zla9 [x0, x1, x2, x3, x4, some (.oid p), x6, some .non, some (.int k), some (.oid p), none, none, none, none, none] S2 = .nx [x0, x1, x2, x3, x4, some (.oid p), x6, some .non, some (.int k), some (.oid ((ToldS S2 Ps).length - 1)), none, none, none, none, none] (ToldS S2 Ps) := by
      rw [ll]
      have lN : (newL (rowsQ []) (Ps.map D.lst)).length = Ps.length := by simp [newL]
      show _ = Out.nx [x0, x1, x2, x3, x4, some (.oid p), x6, some .non, some (.int k), some (.oid (S2.length + Ps.length)), none, none, none, none, none] (S2 ++ (newL (rowsQ []) (Ps.map D.lst) ++ [.lst (oids S2.length Ps.length)]))
      generalize hN : newL (rowsQ []) (Ps.map D.lst) = N at *
      generalize Ps.map D.lst = L at *
      unfold zla9
      rw [e_gIf]
      have t0 : toB (fBin gIs (fVar 7) (fC .non)) [x0, x1, x2, x3, x4, some (.oid p), x6, some .non, some (.int k), some (.oid p), none, none, none, none, none] S2 = .ok true S2 := by simp [D.isNon]
      rw [t0]
      simp only [Res.into_ok, if_true, e_gSet, e_fComp, e_fSeq, e_fVar, List.getElem?_cons_succ, List.getElem?_cons_zero, Res.bind_ok, sq, List.map_cons, List.map_nil, e_wipe1, e_wipe0, List.set_cons_succ, List.set_cons_zero]
      rw [cf]
      simp [finO, oids_len, shl, lN]
    have g : (ToldS S2 Ps)[(ToldS S2 Ps).length - 1]? = some (.lst (oids S2.length Ps.length)) := by rw [ll]; exact t1
    obtain ⟨rs0, Qs, rfl⟩ : ∃ r Q, Ps = r :: Q := by
      cases Ps with
      | nil => simp at hl
      | cons r Q => exact ⟨r, Q, rfl⟩
    have t20 := t2 0 rs0 rfl
    have eo : oids S2.length (rs0 :: Qs).length = .oid S2.length :: oids (S2.length + 1) Qs.length := rfl
    have it := oids_it (S := ToldS S2 (rs0 :: Qs)) (n := S2.length) hD t2
    have tp : (ToldS S2 (rs0 :: Qs))[p]? = some (.frz (.lst ((rs0 :: Qs).map D.lst))) := app_old hp
    have l3 : (rs0 :: Qs).length ≤ 4 := hl.2
    have l4 : Qs.length ≤ 4 := by simp at l3; omega
    have mm := main _ _ v g
    rw [ll] at mm g
    generalize ToldS S2 (rs0 :: Qs) = S3 at *
    refine ⟨_, _, ⟨tp, ⟨oids S2.length (rs0 :: Qs).length, ?_, ?_, it, by rw [oids_len]; omega⟩, fun z => ⟨S2.length + (rs0 :: Qs).length, S2.length, oids (S2.length + 1) Qs.length, rs0, fun e => ?_, fun e => ?_, ?_, t20, ?_, ?_, ?_, ?_, ?_⟩⟩, mm⟩
    · split
      · rfl
      · have e : asQ S3 (.oid (S2.length + (rs0 :: Qs).length)) = asL S3 (.oid (S2.length + (rs0 :: Qs).length)) := rfl
        rw [e]
        simp only [asL, g]
    · intro ds
      split <;> exact fun e => by cases e
    · rw [if_neg (by omega)]
    · rw [if_pos (by omega), eo]
    · rw [← eo]; exact g
    · simp <;> omega
    · simp <;> omega
    · omega
    · rw [oids_len]; omega
    · have := (hD rs0 List.mem_cons_self).1; omega
end K03

/-! The law. -/
namespace K03
open PySem L2 DL
theorem n_boxes : (("boxes" : Str) == "plan") = false ∧ (("boxes" : Str) == "wide") = false ∧ (("boxes" : Str) == "shared") = false := by decide +kernel
theorem n_board : (("board" : Str) == "plan") = false ∧ (("board" : Str) == "wide") = false ∧ (("board" : Str) == "shared") = false := by decide +kernel
theorem n_hands : (("hands" : Str) == "plan") = false ∧ (("hands" : Str) == "wide") = false ∧ (("hands" : Str) == "shared") = false := by decide +kernel
theorem n_pegs : (("pegs" : Str) == "plan") = false ∧ (("pegs" : Str) == "wide") = false ∧ (("pegs" : Str) == "shared") = false := by decide +kernel
theorem app_run {S : Store} {n : Nat} {xs : List D} (h : S[n]? = some (.lst xs)) (hl : xs.length ≤ 1000) (d : D) : gApp (.oid n) [d] S = .ok .non (S.set n (.lst (xs ++ [d]))) := by
  have hs : xs.length < sizeLine := by rw [sizeLine_eq]; omega
  simp [gApp, h, hs]
section
variable {b c : Int} {Ps : List (List D)} {p : Nat}
theorem chg_ok {S3 : Store} {k : Int} {hd : D} (H : Hnd S3 Ps p k hd) (k0 : 0 ≤ k) (k4 : k < 4) (x0 x1 x2 x3 x4 x5 x6 x7 x10 x11 : Option D) (T : Store) : ∃ S', S'[p]? = some (.frz (.lst (Ps.map D.lst))) ∧
    ∀ R : FS, (gSeq zla13 (gSeq zla14 R)) [x0, x1, x2, x3, x4, x5, x6, x7, some (.int k), some hd, x10, x11, none, none, none] (S3 ++ T) = R [x0, x1, x2, x3, x4, x5, x6, x7, some (.int k), some hd, x10, x11, none, none, none] S' := by
  have pl : (S3 ++ T)[p]? = some (.frz (.lst (Ps.map D.lst))) := app_old H.pl
  have k1 : short 1 = true := short_le (by omega)
  by_cases c : k % 2 = 0
  · obtain ⟨q, n0, l, rs, a1, a2, g1, g2, qn, pq, pn, ll, lr⟩ := H.ev c
    have g1 : (S3 ++ T)[q]? = some (.lst (.oid n0 :: l)) := app_old g1
    have g2 : (S3 ++ T)[n0]? = some (.lst rs) := app_old g2
    generalize S3 ++ T = S at *
    have i0 : (0 : Int) = ((0 : Nat) : Int) := rfl
    by_cases e : k = 0
    · subst e
      rw [a1 rfl]
      have ty := tyS_o g1
      have ap := app_run g1 (by simp; omega) (.lst [.tup [.str "stop"]])
      have g1' : (S.set q (.lst (.oid n0 :: l ++ [.lst [.tup [.str "stop"]]])))[q]? = some (.lst (.oid n0 :: l ++ [.lst [.tup [.str "stop"]]])) := set_eq g1
      have g2' : (S.set q (.lst (.oid n0 :: l ++ [.lst [.tup [.str "stop"]]])))[n0]? = some (.lst rs) := by rw [set_ne qn]; exact g2
      have pl' : (S.set q (.lst (.oid n0 :: l ++ [.lst [.tup [.str "stop"]]])))[p]? = some (.frz (.lst (Ps.map D.lst))) := by rw [set_ne (Ne.symm pq)]; exact pl
      have v13 : zla13 [x0, x1, x2, x3, x4, x5, x6, x7, some (.int 0), some (.oid q), x10, x11, none, none, none] S = .nx [x0, x1, x2, x3, x4, x5, x6, x7, some (.int 0), some (.oid q), x10, x11, none, none, none] (S.set q (.lst (.oid n0 :: l ++ [.lst [.tup [.str "stop"]]]))) := by
        unfold zla13
        simp [ty, k1, ap]
      generalize S.set q (.lst (.oid n0 :: l ++ [.lst [.tup [.str "stop"]]])) = S1 at *
      have ix : gIx (.oid q) (.int 0) S1 = .ok (.oid n0) S1 := by
        rw [i0, ix_o g1', at_nat _ _ (by simp)]
        rfl
      have ty2 := tyS_o g2'
      have ap2 := app_run g2' (by omega) (.tup [.str "stop"])
      refine ⟨_, (by rw [set_ne (Ne.symm pn)]; exact pl' : (S1.set n0 (.lst (rs ++ [.tup [.str "stop"]])))[p]? = _), fun R => ?_⟩
      have v14 : zla14 [x0, x1, x2, x3, x4, x5, x6, x7, some (.int 0), some (.oid q), x10, x11, none, none, none] S1 = .nx [x0, x1, x2, x3, x4, x5, x6, x7, some (.int 0), some (.oid q), x10, x11, none, none, none] (S1.set n0 (.lst (rs ++ [.tup [.str "stop"]]))) := by
        unfold zla14
        simp [ix, ty2, k1, ap2]
      rw [e_gSeq, v13, Out.seq_nx, e_gSeq, v14, Out.seq_nx]
    · rw [a2 e]
      have v13 : zla13 [x0, x1, x2, x3, x4, x5, x6, x7, some (.int k), some (.tup (.oid n0 :: l)), x10, x11, none, none, none] S = .nx [x0, x1, x2, x3, x4, x5, x6, x7, some (.int k), some (.tup (.oid n0 :: l)), x10, x11, none, none, none] S := by
        unfold zla13
        simp [e]
      have ix : gIx (.tup (.oid n0 :: l)) (.int 0) S = .ok (.oid n0) S := by simp
      have ty2 := tyS_o g2
      have ap2 := app_run g2 (by omega) (.tup [.str "stop"])
      refine ⟨_, (by rw [set_ne (Ne.symm pn)]; exact pl : (S.set n0 (.lst (rs ++ [.tup [.str "stop"]])))[p]? = _), fun R => ?_⟩
      have v14 : zla14 [x0, x1, x2, x3, x4, x5, x6, x7, some (.int k), some (.tup (.oid n0 :: l)), x10, x11, none, none, none] S = .nx [x0, x1, x2, x3, x4, x5, x6, x7, some (.int k), some (.tup (.oid n0 :: l)), x10, x11, none, none, none] (S.set n0 (.lst (rs ++ [.tup [.str "stop"]]))) := by
        unfold zla14
        simp [c, ix, ty2, k1, ap2]
      rw [e_gSeq, v13, Out.seq_nx, e_gSeq, v14, Out.seq_nx]
  · refine ⟨_, pl, fun R => ?_⟩
    have e : ¬ k = 0 := fun e => by subst e; exact c rfl
    have v13 : ∀ S, zla13 [x0, x1, x2, x3, x4, x5, x6, x7, some (.int k), some hd, x10, x11, none, none, none] S = .nx [x0, x1, x2, x3, x4, x5, x6, x7, some (.int k), some hd, x10, x11, none, none, none] S := fun S => by
      unfold zla13
      simp [e]
    have v14 : ∀ S, zla14 [x0, x1, x2, x3, x4, x5, x6, x7, some (.int k), some hd, x10, x11, none, none, none] S = .nx [x0, x1, x2, x3, x4, x5, x6, x7, some (.int k), some hd, x10, x11, none, none, none] S := fun S => by
      unfold zla14
      simp [c]
    rw [e_gSeq, v13, Out.seq_nx, e_gSeq, v14, Out.seq_nx]
theorem ask_body (G : Good b c Ps) (hD : PsD Ps) {S : Store} (hp : S[p]? = some (.frz (.lst (Ps.map D.lst)))) (x0 x1 x2 x6 x7 x8 x9 x11 x12 x13 : Option D) : ∃ z13 S', S'[p]? = some (.frz (.lst (Ps.map D.lst))) ∧
    zla15b [x0, x1, x2, some (.int b), some (.int c), some (.oid p), x6, x7, x8, x9, some (prG Ps b c), x11, x12, x13, none] S = .nx [x0, x1, x2, some (.int b), some (.int c), some (.oid p), x6, x7, x8, x9, some (prG Ps b c), x11, x12, z13, none] S' := by
  have hg := hands_g (b := b) (c := c) (by have := G.len; omega : Ps.length ≤ 100) S
  have al := alike_told G hD S
  obtain ⟨t1, t2⟩ := told_get S Ps
  have tp : (ToldS S Ps)[p]? = some (.frz (.lst (Ps.map D.lst))) := app_old hp
  have lp := lt_of hp
  have bx := fun S => boxes_g (b := b) (c := c) hD S
  have bo := fun S => board_g (b := b) (c := c) hD S
  have n1 := nlg (Ps := Ps) (b := b) (c := c) n_boxes.1 n_boxes.2.1 n_boxes.2.2
  have n2 := nlg (Ps := Ps) (b := b) (c := c) n_board.1 n_board.2.1 n_board.2.2
  have n3 := nlg (Ps := Ps) (b := b) (c := c) n_hands.1 n_hands.2.1 n_hands.2.2
  have ai : ∀ S, asI S (prG Ps b c) = some (("Program" : Str), fG Ps b c) := fun S => rfl
  have hP : 0 < Ps.length := by have := G.len; omega
  have t0 := t2 0 Ps[0] (List.getElem?_eq_getElem hP)
  have lr : Ps[0].length ≤ 1000 := by have := (hD _ (List.getElem_mem hP)).1; omega
  have o0 := oids_get (n := S.length) hP
  obtain ⟨sq, hc⟩ := seq_plan tp
  have cf := compQ_map (c := some (.oid p, Ps.map D.lst)) (m := mName 14) (fe := fCB gList (fCons (fVar 14) (fun _ S => .ok [] S))) (f := fun d => d) (ρ := [x0, x1, x2, some (.int b), some (.int c), some (.oid p), x6, x7, x8, x9, some (prG Ps b c), x11, x12, some (.oid (S.length + Ps.length)), none]) (S := ToldS S Ps) hc (Ps.map D.lst) (fun d hd => by
    obtain ⟨rs, hr, rfl⟩ := List.mem_map.mp hd
    refine ⟨_, rfl, ?_⟩
    have e1 : isDic1 [.lst rs] (ToldS S Ps) = false := rfl
    simp only [e_fCB, e_fCons, e_fVar, List.getElem?_cons_succ, List.getElem?_cons_zero, Res.bind_ok, List.set_cons_succ, List.set_cons_zero, gList, e1, gToL, asQ, asL]
    rfl)
  have shP : (Ps.map D.lst).length = Ps.length := List.length_map ..
  have shl : short Ps.length = true := short_le (by have := G.len; omega)
  have k1 : short 1 = true := short_le (by omega)
  have k3 : short 3 = true := short_le (by omega)
  rw [List.map_id'] at cf
  have v0 : zla15b0 [x0, x1, x2, some (.int b), some (.int c), some (.oid p), x6, x7, x8, x9, some (prG Ps b c), x11, x12, x13, none] S = .nx [x0, x1, x2, some (.int b), some (.int c), some (.oid p), x6, x7, x8, x9, some (prG Ps b c), x11, x12, some (.oid (S.length + Ps.length)), none] (ToldS S Ps) := by
    generalize fG Ps b c = F at *
    generalize prG Ps b c = Z at *
    generalize ToldS S Ps = T at *
    unfold zla15b0
    simp [fMeth, ai, n3, hg]
  have v1 : zla15b1 [x0, x1, x2, some (.int b), some (.int c), some (.oid p), x6, x7, x8, x9, some (prG Ps b c), x11, x12, some (.oid (S.length + Ps.length)), none] (ToldS S Ps) = .nx [x0, x1, x2, some (.int b), some (.int c), some (.oid p), x6, x7, x8, x9, some (prG Ps b c), x11, x12, some (.oid (S.length + Ps.length)), none] (ToldS S Ps) := by
    generalize fG Ps b c = F at *
    generalize prG Ps b c = Z at *
    generalize ToldS S Ps = T at *
    generalize Ps.map D.lst = L at *
    have fc : fComp (fSeq (fVar 5)) (mName 14) fYes (fCB gList (fCons (fVar 14) (fun _ S => .ok [] S))) ([("_law_rows", 14)].map (·.2)) finL [x0, x1, x2, some (.int b), some (.int c), some (.oid p), x6, x7, x8, x9, some Z, x11, x12, some (.oid (S.length + Ps.length)), none] T = .ok (.lst L) T := by
      simp only [e_fComp, e_fSeq, e_fVar, List.getElem?_cons_succ, List.getElem?_cons_zero, Res.bind_ok, sq, List.map_cons, List.map_nil, e_wipe1, e_wipe0, List.set_cons_succ, List.set_cons_zero]
      rw [cf]
      simp [finL, shP, shl]
    unfold zla15b1
    generalize fComp (fSeq (fVar 5)) (mName 14) fYes (fCB gList (fCons (fVar 14) (fun _ S => .ok [] S))) ([("_law_rows", 14)].map (·.2)) finL = FC at *
    simp [fMeth, ai, n1, n2, bx, bo, fc, k3, al]
  have ix : gIx (.oid (S.length + Ps.length)) (.int 0) (ToldS S Ps) = .ok (.oid S.length) (ToldS S Ps) := by
    have e0 : (0 : Int) = ((0 : Nat) : Int) := rfl
    rw [e0, ix_o t1, at_nat _ _ (by rw [oids_len]; exact hP), o0]
    rfl
  have ty := tyS_o t0
  have ap := app_run t0 lr (.tup [.str "stop"])
  have v2 : zla15b2 [x0, x1, x2, some (.int b), some (.int c), some (.oid p), x6, x7, x8, x9, some (prG Ps b c), x11, x12, some (.oid (S.length + Ps.length)), none] (ToldS S Ps) = .nx [x0, x1, x2, some (.int b), some (.int c), some (.oid p), x6, x7, x8, x9, some (prG Ps b c), x11, x12, some (.oid (S.length + Ps.length)), none] ((ToldS S Ps).set (S.length + 0) (.lst (Ps[0] ++ [.tup [.str "stop"]]))) := by
    generalize prG Ps b c = Z at *
    generalize ToldS S Ps = T at *
    rw [Nat.add_zero] at ap ty ⊢
    unfold zla15b2
    simp [ix, ty, ap, k1]
  refine ⟨some (.oid (S.length + Ps.length)), (ToldS S Ps).set (S.length + 0) (.lst (Ps[0] ++ [.tup [.str "stop"]])), by rw [set_ne (by omega)]; exact tp, ?_⟩
  unfold zla15b
  rw [e_gSeq, v0, Out.seq_nx, e_gSeq, v1, Out.seq_nx, v2]
theorem ask_all (G : Good b c Ps) (hD : PsD Ps) {S : Store} (hp : S[p]? = some (.frz (.lst (Ps.map D.lst)))) (x0 x1 x2 x6 x7 x8 x9 x11 : Option D) : ∃ S', (gSeq zla15 zla16) [x0, x1, x2, some (.int b), some (.int c), some (.oid p), x6, x7, x8, x9, some (prG Ps b c), x11, none, none, none] S = .rt (.bl true) S' := by
  obtain ⟨ρ', S1, lo, y12, y13, rfl, hp1⟩ := loop_inv (m := mName 12) (b := zla15b) (fun j ρ S' => ∃ (y12 y13 : Option D), ρ = [x0, x1, x2, some (.int b), some (.int c), some (.oid p), x6, x7, x8, x9, some (prG Ps b c), x11, y12, y13, none] ∧ S'[p]? = some (.frz (.lst (Ps.map D.lst))))
    (rng 0 2) 0 [x0, x1, x2, some (.int b), some (.int c), some (.oid p), x6, x7, x8, x9, some (prG Ps b c), x11, none, none, none] S ⟨none, none, rfl, hp⟩ (by
    rintro j e ρ T hd ⟨y12, y13, rfl, hT⟩
    obtain ⟨z13, T', hT', e2⟩ := ask_body G hD hT x0 x1 x2 x6 x7 x8 x9 x11 (some e) y13
    exact ⟨_, _, _, rfl, .inl e2, some e, z13, rfl, hT'⟩)
  have v15 : zla15 [x0, x1, x2, some (.int b), some (.int c), some (.oid p), x6, x7, x8, x9, some (prG Ps b c), x11, none, none, none] S = .nx [x0, x1, x2, some (.int b), some (.int c), some (.oid p), x6, x7, x8, x9, some (prG Ps b c), x11, y12, y13, none] S1 := by
    rw [← lo]
    have c2 : cRng 2 = true := cRng18 (n := 2) (by omega)
    unfold zla15
    simp [c2]
  have pg := pegs_g (b := b) (c := c) hD (by have := G.len; omega) S1
  have n4 := nlg (Ps := Ps) (b := b) (c := c) n_pegs.1 n_pegs.2.1 n_pegs.2.2
  have ai : ∀ S, asI S (prG Ps b c) = some (("Program" : Str), fG Ps b c) := fun S => rfl
  have lq := len_q (S := S1) (d := .oid p) (xs := Ps.map D.lst) (by
    have e : asQ S1 (.oid p) = asL S1 (.oid p) := rfl
    rw [e]
    simp [asL, hp1]) (by rw [List.length_map]; have := G.len; omega)
  rw [List.length_map] at lq
  have al := alike_int (Ps.length * b + c) S1
  have mu : cMul (Ps.length : Int) b = true := @decide_eq_true _ (Classical.propDecidable _) (.inl ⟨by omega, by have := G.len; omega⟩)
  refine ⟨S1, ?_⟩
  rw [e_gSeq, v15, Out.seq_nx]
  generalize fG Ps b c = F at *
  generalize prG Ps b c = Z at *
  unfold zla16
  simp [fMeth, ai, n4, pg, lq, mu, al]
end
theorem good (ns : List Int) (hn : ns.length ≤ 63) : ∃ S, S_law [.scr (ns.map D.int)] [] = .ok (.bl true) S := by
  obtain ⟨wy, w, s, x, y, y6, p, Ps, S, S', hw, hs, hD, p0, Y, e⟩ := head_ok ns
  obtain ⟨sc, hsc⟩ : ∃ sc, sc = some (D.scr (ns.map D.int)) := ⟨_, rfl⟩
  have st : startD 15 [.scr (ns.map D.int)] = [some (.scr (ns.map D.int)), none, none, none, none, none, none, none, none, none, none, none, none, none, none] := rfl
  have F0 := Y.fn S' fun o x h _ => h
  have fb := fb_ok hw.ok hw.pu hs.ok hs.pu F0.pd F0.ns S'
  obtain ⟨v, k0, hst⟩ := Y.st
  obtain ⟨k, v', k', k1, k2, q7⟩ := next_ok hst (m := 4) (by decide) (by decide)
  have kp : Kp S' (S'.set 0 (stO v' k' ns)) := kp_set hst _
  obtain ⟨S2, hS2⟩ : ∃ S2, S2 = S'.set 0 (stO v' k' ns) := ⟨_, rfl⟩
  rw [← hS2] at q7 kp
  have yf := Y.fz
  have v6 : zla6 [sc, some (.oid 0), some wy, some w, some s, some x, y6, none, none, none, none, none, none, none, none] S = .nx [sc, some (.oid 0), some wy, some w, some s, some x, y6, some (fbD (fbV [] w s y)), none, none, none, none, none, none, none] S' := by
    generalize fbD (fbV [] w s y) = Q at *
    unfold zla6
    simp [fFrzD, yf, fb]
  have v7 : ∀ Q, zla7 [sc, some (.oid 0), some wy, some w, some s, some x, y6, Q, none, none, none, none, none, none, none] S' = .nx [sc, some (.oid 0), some wy, some w, some s, some x, y6, Q, some (.int k), none, none, none, none, none, none] S2 := fun Q => by
    unfold zla7
    simp [q7]
  have v8 : ∀ Q, zla8 [sc, some (.oid 0), some wy, some w, some s, some x, y6, Q, some (.int k), none, none, none, none, none, none] S2 = .nx [sc, some (.oid 0), some wy, some w, some s, some x, y6, Q, some (.int k), some x, none, none, none, none, none] S2 := fun Q => by
    unfold zla8
    simp
  have go : ∀ S9, (gSeq zla9 (gSeq zla10 (gSeq zla11 (gSeq zla12 (gSeq zla13 (gSeq zla14 (gSeq zla15 zla16))))))) [sc, some (.oid 0), some wy, some w, some s, some x, y6, some (fbD (fbV [] w s y)), some (.int k), some x, none, none, none, none, none] S2 = .rt (.bl true) S9 → ∃ S, S_law [.scr (ns.map D.int)] [] = .ok (.bl true) S := fun S9 q => by
    refine ⟨S9, ?_⟩
    unfold S_law
    rw [zla_eq, e_semOf, st]
    unfold zla
    rw [e, ← hsc, e_gSeq, v6, Out.seq_nx, e_gSeq, v7, Out.seq_nx, e_gSeq, v8, Out.seq_nx, q]
    rfl
  cases hf : fbV [] w s y with
  | some z =>
    obtain ⟨S3, mb⟩ := made_bad (S := S2) (x := x) (y := y) (fun S'' k => Y.fn S'' (kp.trans k)) hw.ok hw.pu hs.ok hs.pu hf
    have al := alike_due z S3
    refine go S3 ?_
    rw [hf]
    have v9 : ∀ R : FS, (gSeq zla9 (gSeq zla10 R)) [sc, some (.oid 0), some wy, some w, some s, some x, y6, some (fbD (some z)), some (.int k), some x, none, none, none, none, none] S2 = R [sc, some (.oid 0), some wy, some w, some s, some x, y6, some (fbD (some z)), some (.int k), some x, none, none, none, none, none] S2 := fun R => by
      unfold zla9 zla10 fbD
      simp [D.isNon]
    rw [v9, e_gSeq]
    have v11 : zla11 [sc, some (.oid 0), some wy, some w, some s, some x, y6, some (fbD (some z)), some (.int k), some x, none, none, none, none, none] S2 = .nx [sc, some (.oid 0), some wy, some w, some s, some x, y6, some (fbD (some z)), some (.int k), some x, some .non, some (.tup [.int z.1, .int z.2]), none, none, none] S3 := by
      generalize fbD (some z) = Q at *
      generalize D.tup [.int z.1, .int z.2] = Q2 at *
      unfold zla11
      simp [mb]
    rw [v11, Out.seq_nx, e_gSeq]
    have v12 : zla12 [sc, some (.oid 0), some wy, some w, some s, some x, y6, some (fbD (some z)), some (.int k), some x, some .non, some (.tup [.int z.1, .int z.2]), none, none, none] S3 = .rt (.bl true) S3 := by
      unfold zla12 fbD
      simp [D.isNon, al]
    rw [v12]
    rfl
  | none =>
    rcases Y.or with ⟨rfl, rfl, hp⟩ | h
    · obtain ⟨b, c, rfl, rfl, G⟩ := good_of hf
      have hp2 : S2[p]? = some (.frz (.lst (Ps.map D.lst))) := kp p _ hp fun ks e => by cases e
      obtain ⟨hd, S3, H, e9⟩ := hand_ok hp2 G.len hD k1 k2 sc (some (.oid 0)) (some wy) (some (.int b)) (some (.int c)) y6
      obtain ⟨l, i1, i2, i3, i4⟩ := H.it
      have mg := made_good i1 i2 i3 i4 hD hf
      obtain ⟨S4, p4, e13⟩ := chg_ok H k1 k2 sc (some (.oid 0)) (some wy) (some (.int b)) (some (.int c)) (some (.oid p)) y6 (some .non) (some (prG Ps b c)) (some .non) [.frz (prG Ps b c)]
      obtain ⟨S5, e15⟩ := ask_all G hD p4 sc (some (.oid 0)) (some wy) y6 (some .non) (some (.int k)) (some hd) (some .non)
      refine go S5 ?_
      rw [hf]
      have fn : fbD none = .non := rfl
      rw [fn, e9, e_gSeq]
      have v11 : zla11 [sc, some (.oid 0), some wy, some (.int b), some (.int c), some (.oid p), y6, some .non, some (.int k), some hd, none, none, none, none, none] S3 = .nx [sc, some (.oid 0), some wy, some (.int b), some (.int c), some (.oid p), y6, some .non, some (.int k), some hd, some (prG Ps b c), some .non, none, none, none] (S3 ++ [.frz (prG Ps b c)]) := by
        generalize prG Ps b c = Z at *
        unfold zla11
        simp [mg]
      have v12 : zla12 [sc, some (.oid 0), some wy, some (.int b), some (.int c), some (.oid p), y6, some .non, some (.int k), some hd, some (prG Ps b c), some .non, none, none, none] (S3 ++ [.frz (prG Ps b c)]) = .nx [sc, some (.oid 0), some wy, some (.int b), some (.int c), some (.oid p), y6, some .non, some (.int k), some hd, some (prG Ps b c), some .non, none, none, none] (S3 ++ [.frz (prG Ps b c)]) := by
        have nn : (prG Ps b c).isNon = false := rfl
        generalize prG Ps b c = Z at *
        have n0 : D.isNon .non = true := rfl
        unfold zla12
        simp [n0, nn]
      rw [v11, Out.seq_nx, e_gSeq, v12, Out.seq_nx, e13, e15]
    · exact absurd hf (h w s)
end K03

open PySem PySem.W PySem.Calls PyProof.Rows
theorem PySem.Challenge.cw_reachyard_k18_programs_told_or_refused_holds : PySem.Challenge.rw_reachyard_k18_programs_told_or_refused.Holds := by
  w_on; o_law
  refine HandSHeadRun.head_any (r := OpenLaw.row PySem.Challenge.rw_reachyard_k18_programs_told_or_refused) (q := view (OpenLaw.row PySem.Challenge.rw_reachyard_k18_programs_told_or_refused).prog [34]) (H := K03.hk) (ob := K03.ob) (M := 40000) (loose := K03.loose) (d := HandSHeadRun.topDef (OpenLaw.row PySem.Challenge.rw_reachyard_k18_programs_told_or_refused).prog 34) (kwd := []) K03.ob_eq
    (by kernel_rfl) (fun s => by kernel_rfl) K03.run (by kernel_rfl) (by kernel_rfl) (by kernel_rfl) (by rfl) (by first | assumption | decide +kernel) (by decide +kernel) ⟨rfl, rfl, rfl, rfl, rfl, by decide +kernel⟩ ?hw ?hc
  case hw => w_witness2
  case hc =>
    refine DL.walk_ofG (l := PySem.Challenge.rw_reachyard_k18_programs_told_or_refused) (n := 63) (k := 7) (x := "_law_script") (sem := K03.S_law) rfl (by decide) (by kernel_rfl) ⟨rfl, by decide, by decide⟩ K03.good ?F
    intro w mg fa h Y G hmg0
    obtain ⟨K, KX, c, cx, ct⟩ := Y
    have hmg : mg ("law" : PySem.Str) = some (.ref fa) := by
      have e : (HandSHeadRun.topDef (OpenLaw.row PySem.Challenge.rw_reachyard_k18_programs_told_or_refused).prog 34).name = ("law" : PySem.Str) := by kernel_rfl
      rw [← e]
      exact hmg0
    have T := K03.txt_of KX G c cx ct
    have e := hmg.symm.trans (K03.glo_law T)
    cases e
    obtain ⟨fd, F⟩ := K03.fun_law T
    refine ⟨K, fd, KX, fun s v => L2.FunD.bindsA (ps := ["_law_script"]) F (fun _ _ _ _ _ _ us hl => match us, hl with | [_], _ => rfl) s [v] rfl, fun base kb gb => ?_⟩
    obtain ⟨fd2, F2, G2⟩ := K03.ok_law (P := (PySem.Challenge.rw_reachyard_k18_programs_told_or_refused).prog) (w := w) (base := base) T
    have ed : fd2 = fd := by
      obtain ⟨_, _, _, _, _, _, _, _, _, _, e1, l1, _⟩ := F.ex
      obtain ⟨_, _, _, _, _, _, _, _, _, _, e2, l2, _⟩ := F2.ex
      rw [l1] at l2
      cases l2
      rfl
    rw [ed] at G2
    exact G2

